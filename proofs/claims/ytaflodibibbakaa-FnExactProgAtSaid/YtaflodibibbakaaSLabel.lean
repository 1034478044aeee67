/- Plain facts on slices of Label: the copy holds the same numbers, a slice is equal to itself. -/
import Derived.Test.YtaflodibibbakaaBx0
import Derived.Test.YtaflodibibbakaaBx2
import Derived.Test.YtaflodibibbakaaBx3
import Derived.Test.YtaflodibibbakaaBx4
import Derived.Test.YtaflodibibbakaaKit
-- uses Kit
namespace Go.Proofs.Ytaflodibibbakaa.B
open Go.RowKit Go.Proofs.YtaflodibibbakaaW.PrintWords Go.Proofs.YtaflodibibbakaaW.PrintLast Go.Proofs.YtaflodibibbakaaW.PrintMore
def cvLabel (x : S83) : S60 := ⟨x.f0, x.f1⟩
theorem toLabelS_loop (l : List S83) (hl : l.length ≤ 1099511627776) (d : Nat) : ∀ (n : Nat) (acc : List S60), n + d = l.length → acc.length = l.length → acc.take n = (l.map cvLabel).take n →
  Ev (fun k => laws_toLabelS.l0 k l acc (n : Int)) (l.map cvLabel) := by
 induction d with
 | zero =>
  intro n acc hn ha ht
  refine Ev.succ_ (Ev.all_ fun k => ?_)
  have h1 : ¬ ((n : Int) < (l.length : Int)) := by omega
  simp only [laws_toLabelS.l0, h1, if_false]
  rw [List.take_of_length_le (by omega), List.take_of_length_le (by simp; omega)] at ht
  rw [ht]
 | succ d ih =>
  intro n acc hn ha ht
  refine Ev.succ_ ?_
  have h1 : (n : Int) < (l.length : Int) := by omega
  have h2 : (0 : Int) ≤ (n : Int) := by omega
  have h3 : (n : Int) < (acc.length : Int) := by omega
  have h4 : wrap64 ((n : Int) + 1) = ((n + 1 : Nat) : Int) := by rw [wr (by omega) (by omega)]; omega
  simp only [laws_toLabelS.l0, h1, h2, h3, h4, if_true, Int.toNat_natCast, laws_toLabel.f, Option.bind_some]
  refine ih (n + 1) _ (by omega) (by simpa using ha) ?_
  have hn1 : n < acc.length := by omega
  have hn2 : n < l.length := by omega
  rw [List.take_succ_eq_append_getElem (by simpa using hn1), List.take_succ_eq_append_getElem (by simpa using hn2), List.take_set_of_le (Nat.le_refl _), ht]
  simp [rd_T83, List.getD_eq_getElem?_getD, List.getElem?_eq_getElem hn2, cvLabel]
theorem toLabelS_ev (l : List S83) (hl : l.length ≤ 1099511627776) : Ev (fun k => laws_toLabelS.f k l) (l.map cvLabel) := by
 have h1 : (0 : Int) ≤ (l.length : Int) := by omega
 have h2 : l.length ≤ 17592186044416 := by omega
 simp only [laws_toLabelS.f, h1, h2, Int.toNat_natCast, if_true]
 exact toLabelS_loop l hl l.length 0 _ (by omega) (by simp) (by simp)
theorem eqLabel_loop (l : List S60) (hl : l.length ≤ 1099511627776) (d : Nat) : ∀ n : Nat, n + d = l.length → Ev (fun k => laws_eqLabelS.l0 k l l (n : Int)) true := by
 induction d with
 | zero =>
  intro n hn
  refine Ev.succ_ (Ev.all_ fun k => ?_)
  have h1 : ¬ ((n : Int) < (l.length : Int)) := by omega
  simp only [laws_eqLabelS.l0, h1, if_false]
 | succ d ih =>
  intro n hn
  refine Ev.succ_ ?_
  have h1 : (n : Int) < (l.length : Int) := by omega
  have h2 : (0 : Int) ≤ (n : Int) := by omega
  have h4 : wrap64 ((n : Int) + 1) = ((n + 1 : Nat) : Int) := by rw [wr (by omega) (by omega)]; omega
  simp only [laws_eqLabelS.l0, h1, h2, h4, if_true, laws_eqLabel.f, Option.bind_some]
  exact ih (n + 1) (by omega)
theorem eqLabelS_ev (l : List S60) (hl : l.length ≤ 1099511627776) : Ev (fun k => laws_eqLabelS.f k l l) true := by
 simp only [laws_eqLabelS.f, if_true]
 exact eqLabel_loop l hl l.length 0 (by omega)
end Go.Proofs.Ytaflodibibbakaa.B
