/- Plain facts on slices of Write that are marked: what is held. -/
import Derived.Test.YtcndpbegmdcelaaAx0
import Derived.Test.YtcndpbegmdcelaaAx48
import Derived.Test.YtcndpbegmdcelaaKit
import Derived.Test.YtcndpbegmdcelaaMarkWrite
-- uses Kit MarkWrite
namespace Go.Proofs.Ytcndpbegmdcelaa.A
open Go.RowKit Go.Proofs.YtcndpbegmdcelaaW.PrintWords Go.Proofs.YtcndpbegmdcelaaW.PrintLast Go.Proofs.YtcndpbegmdcelaaW.PrintMore
theorem heldWrite_loop (c : Nat) : ∀ (pre : List S92) (m : Int), 0 ≤ m → m + 2 * (c : Int) ≤ 2199023255552 → pre.length + c ≤ 1099511627776 →
    Ev (fun k => laws_heldWriteS.l0 k (pre ++ seqWrite m c) m (pre.length : Int)) (m + 2 * (c : Int)) := by
  induction c with
  | zero =>
    intro pre m _ _ _
    refine Ev.succ_ (Ev.all_ fun k => ?_)
    have h1 : ¬ ((pre.length : Int) < ((pre ++ seqWrite m 0).length : Int)) := by simp [seqWrite]
    simp only [laws_heldWriteS.l0, h1, if_false]
    simp
  | succ c ih =>
    intro pre m h0 hm hl
    refine Ev.succ_ ?_
    have h1 : (pre.length : Int) < ((pre ++ seqWrite m (c + 1)).length : Int) := by simp [seqWrite, seqWrite_length]; omega
    have h2 : (0 : Int) ≤ (pre.length : Int) := by omega
    have h4 : wrap64 ((pre.length : Int) + 1) = ((pre ++ [(⟨m, m + 1⟩ : S92)]).length : Int) := by rw [wr (by omega) (by omega)]; simp
    have h5 : wrap64 (m + 1) = m + 1 := wr (by omega) (by omega)
    have h6 : wrap64 (m + 1 + 1) = m + 2 := by rw [wr (by omega) (by omega)]; omega
    have h7 : rd_T92 (pre ++ seqWrite m (c + 1)) (pre.length : Int) = ⟨m, m + 1⟩ := getD_mid _ _ _ _
    simp only [laws_heldWriteS.l0, h1, h2, h4, h5, h6, h7, if_true]
    have := ih (pre ++ [⟨m, m + 1⟩]) (m + 2) (by omega) (by omega) (by simp; omega)
    rw [List.append_assoc, List.singleton_append] at this
    refine Ev.eq_ this ?_
    omega
theorem heldWrite_ev (m : Int) (c : Nat) (h0 : 0 ≤ m) (hm : m ≤ 1099511627776) (hl : c ≤ 549755813888) : Ev (fun k => laws_heldWriteS.f k (seqWrite m c) m) (m + 2 * (c : Int)) :=
  heldWrite_loop c [] m h0 (by omega) (by simp; omega)
end Go.Proofs.Ytcndpbegmdcelaa.A
