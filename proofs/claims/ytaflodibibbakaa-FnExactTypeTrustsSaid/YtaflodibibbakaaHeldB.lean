/- Plain facts on lists of bools that are marked, and looked at. -/
import Derived.Test.YtaflodibibbakaaAx15
import Derived.Test.YtaflodibibbakaaKit
import Derived.Test.YtaflodibibbakaaMarkB
-- uses Kit MarkB
namespace Go.Proofs.Ytaflodibibbakaa.A
open Go.RowKit Go.Proofs.YtaflodibibbakaaW.PrintWords Go.Proofs.YtaflodibibbakaaW.PrintLast Go.Proofs.YtaflodibibbakaaW.PrintMore
theorem heldBoolS_loop (c : Nat) : ∀ (pre : List Bool) (m : Int), 0 ≤ m → m + (c : Int) ≤ 1099511627776 → pre.length + c ≤ 1099511627776 →
  Ev (fun k => laws_heldBoolS.l0 k (pre ++ seqB m c) m (pre.length : Int)) (m + (c : Int)) := by
 induction c with
 | zero =>
  intro pre m _ _ _
  refine Ev.succ_ (Ev.all_ fun k => ?_)
  have h1 : ¬ ((pre.length : Int) < ((pre ++ seqB m 0).length : Int)) := by simp [seqB]
  simp only [laws_heldBoolS.l0, h1, if_false]
  simp
 | succ c ih =>
  intro pre m h0 hm hl
  refine Ev.succ_ ?_
  have h1 : (pre.length : Int) < ((pre ++ seqB m (c + 1)).length : Int) := by simp [seqB, seqB_length]; omega
  have h2 : (0 : Int) ≤ (pre.length : Int) := by omega
  have h4 : wrap64 ((pre.length : Int) + 1) = ((pre ++ [Int.tmod m 3 == 0]).length : Int) := by rw [wr (by omega) (by omega)]; simp
  have h5 : wrap64 (m + 1) = m + 1 := wr (by omega) (by omega)
  have h6 : rdOf false (pre ++ seqB m (c + 1)) (pre.length : Int) = (Int.tmod m 3 == 0) := by
   simp only [rdOf, Int.toNat_natCast, seqB]
   exact getD_mid _ _ _ _
  simp only [laws_heldBoolS.l0, h1, h2, h4, h5, h6, if_true, bne_self_eq_false, Bool.false_eq_true, if_false]
  have := ih (pre ++ [Int.tmod m 3 == 0]) (m + 1) (by omega) (by omega) (by simp; omega)
  rw [List.append_assoc, List.singleton_append] at this
  refine Ev.eq_ this ?_
  omega
theorem heldBoolS_ev (m : Int) (c : Nat) (h0 : 0 ≤ m) (hl : m + (c : Int) ≤ 1099511627776) : Ev (fun k => laws_heldBoolS.f k (seqB m c) m) (m + (c : Int)) :=
 heldBoolS_loop c [] m h0 hl (by simp; omega)
end Go.Proofs.Ytaflodibibbakaa.A
