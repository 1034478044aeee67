/- Plain facts on slices of Write that are marked: what is marked is held. -/
import Derived.Test.YtcndpbegmdcelaaAx0
import Derived.Test.YtcndpbegmdcelaaAx41
import Derived.Test.YtcndpbegmdcelaaKit
-- uses Kit
namespace Go.Proofs.Ytcndpbegmdcelaa.A
open Go.RowKit Go.Proofs.YtcndpbegmdcelaaW.PrintWords Go.Proofs.YtcndpbegmdcelaaW.PrintLast Go.Proofs.YtcndpbegmdcelaaW.PrintMore
def seqWrite (m : Int) : Nat → List S92
  | 0 => []
  | c + 1 => ⟨m, m + 1⟩ :: seqWrite (m + 2) c
theorem seqWrite_length (m : Int) (c : Nat) : (seqWrite m c).length = c := by
  induction c generalizing m with
  | zero => rfl
  | succ c ih => simp [seqWrite, ih]
theorem markWrite_loop (rest : List S92) : ∀ (pre : List S92) (m : Int), 0 ≤ m → m + 2 * (rest.length : Int) ≤ 2199023255552 → (pre ++ rest).length ≤ 1099511627776 →
    Ev (fun k => laws_markWriteS.l0 k (pre ++ rest) m (pre.length : Int)) (m + 2 * (rest.length : Int), pre ++ seqWrite m rest.length) := by
  induction rest with
  | nil =>
    intro pre m _ _ _
    refine Ev.succ_ (Ev.all_ fun k => ?_)
    have h1 : ¬ ((pre.length : Int) < ((pre ++ []).length : Int)) := by simp
    simp only [laws_markWriteS.l0, h1, if_false]
    simp [seqWrite]
  | cons x rest ih =>
    intro pre m h0 hm hl
    have hl' : pre.length + (rest.length + 1) ≤ 1099511627776 := by simpa using hl
    have hm' : m + 2 * ((rest.length : Int) + 1) ≤ 2199023255552 := by simpa using hm
    refine Ev.succ_ ?_
    have h1 : (pre.length : Int) < ((pre ++ x :: rest).length : Int) := by simp; omega
    have h2 : (0 : Int) ≤ (pre.length : Int) := by omega
    have h4 : wrap64 ((pre.length : Int) + 1) = ((pre ++ [(⟨m, m + 1⟩ : S92)]).length : Int) := by rw [wr (by omega) (by omega)]; simp
    have h5 : wrap64 (m + 1) = m + 1 := wr (by omega) (by omega)
    have h6 : wrap64 (m + 1 + 1) = m + 2 := by rw [wr (by omega) (by omega)]; omega
    have h7 : ∀ y : S92, rd_T92 (pre ++ y :: rest) (pre.length : Int) = y := fun y => getD_mid _ _ _ _
    simp only [laws_markWriteS.l0, h1, h2, h4, h5, h6, h7, if_true, Int.toNat_natCast, set_mid, Option.bind_some]
    have := ih (pre ++ [⟨m, m + 1⟩]) (m + 2) (by omega) (by omega) (by simp; omega)
    rw [List.append_assoc, List.singleton_append] at this
    refine Ev.eq_ this ?_
    simp [seqWrite]
    omega
theorem markWrite_ev (l : List S92) (m : Int) (h0 : 0 ≤ m) (hm : m ≤ 1099511627776) (hl : l.length ≤ 549755813888) : Ev (fun k => laws_markWriteS.f k l m) (m + 2 * (l.length : Int), seqWrite m l.length) :=
  markWrite_loop l [] m h0 (by omega) (by simp; omega)
end Go.Proofs.Ytcndpbegmdcelaa.A
