/- Plain facts: what is known of each step of a program that is in form. -/
import Derived.Test.YtaflodibibbakaaBx0
import Derived.Test.YtaflodibibbakaaStepsOk
-- uses StepsOk
namespace Go.Proofs.Ytaflodibibbakaa.B
open Go.RowKit Go.Proofs.YtaflodibibbakaaW.PrintWords Go.Proofs.YtaflodibibbakaaW.PrintLast Go.Proofs.YtaflodibibbakaaW.PrintMore
/-- What is known of a step of a program that is in form. -/
def stepG (n : Int) (s : S50) : Prop := varB n s.f1 = true ∧ (s.f0 = 1 → valB n s.f2 = true) ∧ (s.f0 = 3 → hostB s.f3 = true)
/-- Steps in form, at some depth. -/
def good (n : Int) (l : List S50) : Prop := ∃ d, okTs n l d = true
theorem good_nil (n : Int) : good n [] := ⟨0, by rw [okTs]⟩
theorem good_of_empty (n : Int) {l : List S50} (h : l.isEmpty = true) : good n l := by
 rw [List.isEmpty_iff] at h; subst h; exact good_nil n
theorem okT_good {n : Int} {s : S50} {d : Int} (h : okT n s d = true) : stepG n s ∧ good n s.f4 ∧ good n s.f5 := by
 rw [okT_eq, Bool.and_eq_true, Bool.and_eq_true] at h
 obtain ⟨_, hv, h⟩ := h
 by_cases k1 : s.f0 = 1
 ·rw [if_pos k1] at h
  simp only [Bool.and_eq_true] at h
  exact ⟨⟨hv, fun _ => h.1, fun k3 => by omega⟩, good_of_empty n h.2.2.1, good_of_empty n h.2.2.2⟩
 ·rw [if_neg k1] at h
  by_cases k3 : s.f0 = 3
  ·rw [if_pos k3] at h
   simp only [Bool.and_eq_true] at h
   exact ⟨⟨hv, fun k => absurd k k1, fun _ => h.2.1⟩, good_of_empty n h.2.2.1, good_of_empty n h.2.2.2⟩
  ·rw [if_neg k3] at h
   by_cases k2 : s.f0 = 2
   ·rw [if_pos k2] at h
    simp only [Bool.and_eq_true] at h
    exact ⟨⟨hv, fun k => absurd k k1, fun k => absurd k k3⟩, ⟨_, h.2.2.1⟩, ⟨_, h.2.2.2⟩⟩
   ·rw [if_neg k2] at h
    exact absurd h (by decide)
theorem good_mem {n : Int} {l : List S50} (h : good n l) {s : S50} (hs : s ∈ l) : stepG n s ∧ good n s.f4 ∧ good n s.f5 := by
 obtain ⟨d, h⟩ := h
 induction l with
 | nil => cases hs
 | cons a r ih =>
  rw [okTs, Bool.and_eq_true] at h
  rcases List.mem_cons.1 hs with e | e
  ·subst e; exact okT_good h.1
  ·exact ih e h.2
theorem var_lt {n v : Int} (h : varB n v = true) : 0 ≤ v ∧ v < n := by
 unfold varB at h
 simp only [Bool.and_eq_true, decide_eq_true_eq] at h
 omega
end Go.Proofs.Ytaflodibibbakaa.B
