/- Plain facts: a program's size; what is in a step of a program is one. -/
import Derived.Test.YtaflodibibbakaaBx0
import Derived.Test.YtaflodibibbakaaProgB
import Derived.Test.YtaflodibibbakaaDrawAny
-- uses ProgB DrawAny
namespace Go.Proofs.Ytaflodibibbakaa.B
open Go.RowKit Go.Proofs.YtaflodibibbakaaW.PrintWords Go.Proofs.YtaflodibibbakaaW.PrintLast Go.Proofs.YtaflodibibbakaaW.PrintMore
/-- A program's size, -1 if it is none. -/
def sizeP (L : List S60) (S : List S50) : Int := if progB L S = true then (nTs S : Int) else -1
theorem sizeP_ok {L : List S60} {S : List S50} (h : progB L S = true) : sizeP L S = (nTs S : Int) := if_pos h
theorem sizeP_no {L : List S60} {S : List S50} (h : progB L S = false) : sizeP L S = -1 := if_neg (by rw [h]; decide)
theorem okTs_mono : ∀ l : List S50, ∀ (n d e : Int), d ≤ e → okTs n l d = true → okTs n l e = true := by
 refine tree_ind fun l ih n d e hde h => ?_
 have : ∀ r : List S50, (∀ s ∈ r, s ∈ l) → okTs n r d = true → okTs n r e = true := by
  intro r
  induction r with
  | nil => intro _ _; rw [okTs]
  | cons s r ihr =>
   intro hm h
   rw [okTs, Bool.and_eq_true] at h ⊢
   refine ⟨?_, ihr (fun x hx => hm x (List.mem_cons_of_mem _ hx)) h.2⟩
   obtain ⟨i4, i5⟩ := ih s (hm s List.mem_cons_self)
   have h1 := h.1
   rw [okT_eq] at h1 ⊢
   simp only [Bool.and_eq_true, decide_eq_true_eq] at h1 ⊢
   refine ⟨by omega, h1.2.1, ?_⟩
   have h2 := h1.2.2
   by_cases k1 : s.f0 = 1
   ·rw [if_pos k1] at h2 ⊢; exact h2
   ·rw [if_neg k1] at h2 ⊢
    by_cases k3 : s.f0 = 3
    ·rw [if_pos k3] at h2 ⊢; exact h2
    ·rw [if_neg k3] at h2 ⊢
     by_cases k2 : s.f0 = 2
     ·rw [if_pos k2] at h2 ⊢
      simp only [Bool.and_eq_true] at h2 ⊢
      exact ⟨h2.1, h2.2.1, i4 n (d - 1) (e - 1) (by omega) h2.2.2.1, i5 n (d - 1) (e - 1) (by omega) h2.2.2.2⟩
     ·rw [if_neg k2] at h2; cases h2
 exact this l (fun _ h => h) h
theorem okT_sub {n : Int} {s : S50} {d : Int} (h : okT n s d = true) : okTs n s.f4 d = true ∧ okTs n s.f5 d = true := by
 rw [okT_eq] at h
 simp only [Bool.and_eq_true, decide_eq_true_eq] at h
 have h2 := h.2.2
 have e : ∀ l : List S50, l.isEmpty = true → okTs n l d = true := fun l hl => by
  rw [List.isEmpty_iff] at hl
  rw [hl, okTs]
 by_cases k1 : s.f0 = 1
 ·rw [if_pos k1] at h2
  simp only [Bool.and_eq_true] at h2
  exact ⟨e _ h2.2.2.1, e _ h2.2.2.2⟩
 ·rw [if_neg k1] at h2
  by_cases k3 : s.f0 = 3
  ·rw [if_pos k3] at h2
   simp only [Bool.and_eq_true] at h2
   exact ⟨e _ h2.2.2.1, e _ h2.2.2.2⟩
  ·rw [if_neg k3] at h2
   by_cases k2 : s.f0 = 2
   ·rw [if_pos k2] at h2
    simp only [Bool.and_eq_true] at h2
    exact ⟨okTs_mono _ _ _ _ (by omega) h2.2.2.1, okTs_mono _ _ _ _ (by omega) h2.2.2.2⟩
   ·rw [if_neg k2] at h2; cases h2
theorem okTs_mem {n : Int} {d : Int} : ∀ {l : List S50} {s : S50}, okTs n l d = true → s ∈ l → okT n s d = true := by
 intro l
 induction l with
 | nil => intro s _ h; cases h
 | cons a r ih =>
  intro s h hs
  rw [okTs, Bool.and_eq_true] at h
  rcases List.mem_cons.1 hs with e | e
  ·rw [e]; exact h.1
  ·exact ih h.2 e
theorem prog_sub {L : List S60} {S : List S50} {s : S50} (h : progB L S = true) (hs : s ∈ S) : progB L s.f4 = true ∧ progB L s.f5 = true := by
 unfold progB at h ⊢
 simp only [Bool.and_eq_true, decide_eq_true_eq] at h ⊢
 have h1 := okT_sub (okTs_mem h.2.2.1 hs)
 have h2 := nTs_mem hs
 exact ⟨⟨h.1, h.2.1, h1.1, by omega⟩, ⟨h.1, h.2.1, h1.2, by omega⟩⟩
end Go.Proofs.Ytaflodibibbakaa.B
