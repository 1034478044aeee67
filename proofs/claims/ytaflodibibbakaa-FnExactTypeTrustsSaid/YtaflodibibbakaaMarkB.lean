/- Plain facts on lists of bools that are marked. -/
import Derived.Test.YtaflodibibbakaaAx14
import Derived.Test.YtaflodibibbakaaKit
-- uses Kit
namespace Go.Proofs.Ytaflodibibbakaa.A
open Go.RowKit Go.Proofs.YtaflodibibbakaaW.PrintWords Go.Proofs.YtaflodibibbakaaW.PrintLast Go.Proofs.YtaflodibibbakaaW.PrintMore
def seqB (m : Int) : Nat → List Bool
 | 0 => []
 | c + 1 => (Int.tmod m 3 == 0) :: seqB (m + 1) c
theorem seqB_length (m : Int) (c : Nat) : (seqB m c).length = c := by
 induction c generalizing m with
 | zero => rfl
 | succ c ih => simp [seqB, ih]
theorem markBoolS_loop (rest : List Bool) : ∀ (pre : List Bool) (m : Int), 0 ≤ m → m + (rest.length : Int) ≤ 1099511627776 → (pre ++ rest).length ≤ 1099511627776 →
  Ev (fun k => laws_markBoolS.l0 k (pre ++ rest) m (pre.length : Int)) (m + (rest.length : Int), pre ++ seqB m rest.length) := by
 induction rest with
 | nil =>
  intro pre m _ _ _
  refine Ev.succ_ (Ev.all_ fun k => ?_)
  have h1 : ¬ ((pre.length : Int) < ((pre ++ []).length : Int)) := by simp
  simp only [laws_markBoolS.l0, h1, if_false]
  simp [seqB]
 | cons x rest ih =>
  intro pre m h0 hm hl
  have hl' : pre.length + (rest.length + 1) ≤ 1099511627776 := by simpa using hl
  have hm' : m + ((rest.length : Int) + 1) ≤ 1099511627776 := by simpa using hm
  refine Ev.succ_ ?_
  have h1 : (pre.length : Int) < ((pre ++ x :: rest).length : Int) := by simp; omega
  have h2 : (0 : Int) ≤ (pre.length : Int) := by omega
  have h4 : wrap64 ((pre.length : Int) + 1) = ((pre ++ [Int.tmod m 3 == 0]).length : Int) := by rw [wr (by omega) (by omega)]; simp
  have h5 : wrap64 (m + 1) = m + 1 := wr (by omega) (by omega)
  simp only [laws_markBoolS.l0, h1, h2, h4, h5, if_true, Int.toNat_natCast, set_mid]
  have := ih (pre ++ [Int.tmod m 3 == 0]) (m + 1) (by omega) (by omega) (by simp; omega)
  rw [List.append_assoc, List.singleton_append] at this
  refine Ev.eq_ this ?_
  simp [seqB]
  omega
theorem markBoolS_ev (l : List Bool) (m : Int) (h0 : 0 ≤ m) (hl : m + (l.length : Int) ≤ 1099511627776) : Ev (fun k => laws_markBoolS.f k l m) (m + (l.length : Int), seqB m l.length) :=
 markBoolS_loop l [] m h0 hl (by simp; omega)
end Go.Proofs.Ytaflodibibbakaa.A
