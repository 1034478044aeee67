/- Plain facts on slices of Label that are marked: what is marked is held. -/
import Derived.Test.YtaflodibibbakaaBx0
import Derived.Test.YtaflodibibbakaaBx6
import Derived.Test.YtaflodibibbakaaKit
-- uses Kit
namespace Go.Proofs.Ytaflodibibbakaa.B
open Go.RowKit Go.Proofs.YtaflodibibbakaaW.PrintWords Go.Proofs.YtaflodibibbakaaW.PrintLast Go.Proofs.YtaflodibibbakaaW.PrintMore
def seqLabel (m : Int) : Nat → List S60
 | 0 => []
 | c + 1 => ⟨m, m + 1⟩ :: seqLabel (m + 2) c
theorem seqLabel_length (m : Int) (c : Nat) : (seqLabel m c).length = c := by
 induction c generalizing m with
 | zero => rfl
 | succ c ih => simp [seqLabel, ih]
theorem markLabel_loop (rest : List S60) : ∀ (pre : List S60) (m : Int), 0 ≤ m → m + 2 * (rest.length : Int) ≤ 2199023255552 → (pre ++ rest).length ≤ 1099511627776 →
  Ev (fun k => laws_markLabelS.l0 k (pre ++ rest) m (pre.length : Int)) (m + 2 * (rest.length : Int), pre ++ seqLabel m rest.length) := by
 induction rest with
 | nil =>
  intro pre m _ _ _
  refine Ev.succ_ (Ev.all_ fun k => ?_)
  have h1 : ¬ ((pre.length : Int) < ((pre ++ []).length : Int)) := by simp
  simp only [laws_markLabelS.l0, h1, if_false]
  simp [seqLabel]
 | cons x rest ih =>
  intro pre m h0 hm hl
  have hl' : pre.length + (rest.length + 1) ≤ 1099511627776 := by simpa using hl
  have hm' : m + 2 * ((rest.length : Int) + 1) ≤ 2199023255552 := by simpa using hm
  refine Ev.succ_ ?_
  have h1 : (pre.length : Int) < ((pre ++ x :: rest).length : Int) := by simp; omega
  have h2 : (0 : Int) ≤ (pre.length : Int) := by omega
  have h4 : wrap64 ((pre.length : Int) + 1) = ((pre ++ [(⟨m, m + 1⟩ : S60)]).length : Int) := by rw [wr (by omega) (by omega)]; simp
  have h5 : wrap64 (m + 1) = m + 1 := wr (by omega) (by omega)
  have h6 : wrap64 (m + 1 + 1) = m + 2 := by rw [wr (by omega) (by omega)]; omega
  have h7 : ∀ y : S60, rd_T60 (pre ++ y :: rest) (pre.length : Int) = y := fun y => getD_mid _ _ _ _
  simp only [laws_markLabelS.l0, h1, h2, h4, h5, h6, h7, if_true, Int.toNat_natCast, set_mid, Option.bind_some]
  have := ih (pre ++ [⟨m, m + 1⟩]) (m + 2) (by omega) (by omega) (by simp; omega)
  rw [List.append_assoc, List.singleton_append] at this
  refine Ev.eq_ this ?_
  simp [seqLabel]
  omega
theorem markLabel_ev (l : List S60) (m : Int) (h0 : 0 ≤ m) (hm : m ≤ 1099511627776) (hl : l.length ≤ 549755813888) : Ev (fun k => laws_markLabelS.f k l m) (m + 2 * (l.length : Int), seqLabel m l.length) :=
 markLabel_loop l [] m h0 (by omega) (by simp; omega)
end Go.Proofs.Ytaflodibibbakaa.B
