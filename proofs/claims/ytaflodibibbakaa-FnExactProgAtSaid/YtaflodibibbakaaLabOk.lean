/- Plain facts: a label is ok just if both its numbers are from 0 to 7, for the program and for the reference. -/
import Derived.Test.YtaflodibibbakaaBx8
import Derived.Test.YtaflodibibbakaaBx12
namespace Go.Proofs.Ytaflodibibbakaa.B
open Go.RowKit Go.Proofs.YtaflodibibbakaaW.PrintWords Go.Proofs.YtaflodibibbakaaW.PrintLast Go.Proofs.YtaflodibibbakaaW.PrintMore
/-- A number is a set of hosts. -/
def isS (s : Int) : Bool := decide (0 ≤ s) && decide (s ≤ 7)
def okL (a b : Int) : Bool := isS a && isS b
theorem isS_iff (s : Int) : isS s = true ↔ 0 ≤ s ∧ s ≤ 7 := by simp [isS]
theorem sp_set (a : Int) : spec_l1Set.f a = some (isS a) := by
 unfold spec_l1Set.f spec_l1All.f spec_l6In.f isS
 by_cases h : a ≥ 0
 ·simp [h]
 ·have h' : ¬ 0 ≤ a := h
  simp [h']
theorem im_set (a : Int) : impl_isSet.f a = some (isS a) := by
 unfold impl_isSet.f impl_in.f isS
 by_cases h : 0 ≤ a <;> simp [h]
theorem sp_ok (a b : Int) : spec_LabelOk.f a b = some (okL a b) := by
 unfold spec_LabelOk.f okL
 rw [sp_set, sp_set]
 cases isS a <;> simp
theorem im_ok (a b : Int) : impl_LabelOk.f a b = some (okL a b) := by
 unfold impl_LabelOk.f okL
 rw [im_set, im_set]
 cases isS a <;> simp
/-- What lies in 0 .. 7 is one of eight. -/
theorem as_fin {a : Int} (h : isS a = true) : ∃ x : Fin 8, a = (x.val : Int) := by
 rw [isS_iff] at h
 exact ⟨⟨a.toNat, by omega⟩, by simp; omega⟩
end Go.Proofs.Ytaflodibibbakaa.B
