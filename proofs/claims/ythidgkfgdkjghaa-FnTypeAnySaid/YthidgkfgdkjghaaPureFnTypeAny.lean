/- The law FnTypeAny: where everybody may know, and trusts, everything a program is fine, for the program that every code draws; codes of more than 1048576 bytes are asked nothing. -/
import Derived.Test.YthidgkfgdkjghaaAx0
import Derived.Test.YthidgkfgdkjghaaAx34
import Derived.Test.YthidgkfgdkjghaaStmFnTypeAny
import Derived.Test.YthidgkfgdkjghaaMC
-- uses StmFnTypeAny OkEv
namespace Go.Proofs.Ythidgkfgdkjghaa.Pure
open Go.RowKit Go.Proofs.YthidgkfgdkjghaaW.PrintWords Go.Proofs.YthidgkfgdkjghaaW.PrintLast Go.Proofs.YthidgkfgdkjghaaW.PrintMore Go.Proofs.Ythidgkfgdkjghaa.A
def L7 (n : Nat) : List S39 := List.replicate n ⟨7, 7⟩
theorem L7_len (n : Nat) : (L7 n).length = n := List.length_replicate
theorem L7_rd {n : Nat} {v : Int} (h : varB n v = true) : D39 (L7 n) v = ⟨7, 7⟩ := by
 unfold varB at h
 simp only [Bool.and_eq_true, decide_eq_true_eq] at h
 have hv : v.toNat < n := by omega
 simp [D39, L7, List.getD_eq_getElem?_getD, hv]
theorem bA77 : bA 7 7 = 7 := by decide
theorem la7 (n : Nat) : ∀ l : List S32, good n l → ∀ x ∈ laTs (L7 n) l 7 7, x = ⟨7, 7⟩ := by
 refine tree_ind fun l ih hg => ?_
 have : ∀ r : List S32, (∀ s ∈ r, s ∈ l) → good n r → ∀ x ∈ laTs (L7 n) r 7 7, x = ⟨7, 7⟩ := by
  intro r
  induction r with
  | nil => intro _ _ x hx; rw [laTs] at hx; cases hx
  | cons s r ihr =>
   intro hm hg x hx
   obtain ⟨d, hd⟩ := hg
   rw [okTs, Bool.and_eq_true] at hd
   obtain ⟨hs, g4, g5⟩ := okT_good hd.1
   rw [laTs, laT_eq, L7_rd hs.1] at hx
   simp only [bA77] at hx
   obtain ⟨i4, i5⟩ := ih s (hm s List.mem_cons_self)
   rcases List.mem_append.1 hx with h | h
   ·rcases List.mem_cons.1 h with h | h
    ·exact h
    ·rcases List.mem_append.1 h with h | h
     ·exact i4 g4 x h
     ·exact i5 g5 x h
   ·exact ihr (fun y hy => hm y (List.mem_cons_of_mem _ hy)) ⟨d, hd.2⟩ x h
 exact this l (fun _ h => h) hg
theorem has7 : ∀ h : Fin 3, hasB 7 (h.val : Int) = true := by decide +kernel
theorem wi77 : wi 7 7 = true := by decide
theorem fine7 {n : Nat} {s : S32} (h : Go.Proofs.Ythidgkfgdkjghaa.A.stepG n s) : fineB (L7 n) s ⟨7, 7⟩ = true := by
 obtain ⟨hv, h1, h3⟩ := h
 unfold fineB
 rw [L7_rd hv]
 by_cases k1 : s.f0 = 1
 ·rw [if_pos k1]
  have hx := h1 k1
  have hf : foldS (L7 n) (varsOf s.f2) 7 7 = (7, 7) := by
   unfold varsOf
   unfold valB at hx
   by_cases k2 : s.f2.f0 = 2
   ·have e1 : ¬ s.f2.f0 = 1 := by omega
    rw [if_neg e1, if_pos k2, Bool.and_eq_true] at hx
    rw [if_pos k2]
    simp only [foldS, L7_rd hx.1, bA77]
   ·rw [if_neg k2]
    by_cases k3 : s.f2.f0 = 3 ∨ s.f2.f0 = 4
    ·have e1 : ¬ s.f2.f0 = 1 := by omega
     rw [if_neg e1, if_neg k2, if_pos k3, Bool.and_eq_true] at hx
     rw [if_pos k3]
     simp only [foldS, L7_rd hx.1, L7_rd hx.2, bA77]
    ·rw [if_neg k3]; rfl
  simp only [hf, wi77, Bool.and_self]
 ·rw [if_neg k1]
  by_cases k3 : s.f0 = 3
  ·rw [if_pos k3]
   obtain ⟨y, hy⟩ := as_host (h3 k3)
   simp only [hy, has7, Bool.and_self]
  ·rw [if_neg k3]
theorem prog7 {L : List S39} {S : List S32} (h : progB L S = true) : progB (L7 L.length) S = true := by
 unfold progB at h ⊢
 rw [L7_len]
 simp only [Bool.and_eq_true, decide_eq_true_eq] at h ⊢
 refine ⟨h.1, ?_, h.2.2⟩
 rw [List.all_eq_true]
 intro x hx
 rw [L7, List.mem_replicate] at hx
 rw [hx.2]
 exact ok77
theorem type7 {L : List S39} {S : List S32} (h : progB L S = true) : typeB (L7 L.length) S = true := by
 have h7 := prog7 h
 rw [typeB_ok h7, allB, List.all_eq_true]
 have hg := (progB_parts h).2.2.1
 intro x hx
 have h1 := List.of_mem_zip hx
 have e := la7 L.length S hg x.2 h1.2
 rw [e]
 exact fine7 (alTs_good _ S hg x.1 h1.1)
theorem FnTypeAny : laws_FnTypeAny.Stm := by
 intro l w
 refine Ev.rounds ?_
 have hl : ∀ x ∈ l, 0 ≤ x ∧ x ≤ 255 := fun x hx => u8_of (w.2 x hx)
 unfold laws_FnTypeAny.f
 by_cases c : (l.length : Int) > 1048576
 ·simp only [c, if_true]
  exact Ev.now _
 simp only [c, if_false]
 obtain ⟨L, S, e, e1, e2⟩ := drawTypeOk_ev hl
 have im := im_typeB L S (by omega) (by omega)
 have sp := sp_typeB L S (by omega) (by omega)
 refine Ev.bind e (Ev.bind im (Ev.bind sp ?_))
 simp only [bne_self_eq_false, Bool.false_eq_true, if_false]
 refine Ev.bind (sp_progOk L S (by omega) (by omega)) (Ev.succ_ ?_)
 cases hk : progB L S with
 | false =>
  simp only [laws_FnTypeAny.j0, Bool.not_false, if_true]
  refine Ev.bind im (Ev.bind sp (Ev.all_ fun _ => ?_))
  rw [beq_self_eq_true]
 | true =>
  simp only [laws_FnTypeAny.j0, Bool.not_true, Bool.false_eq_true, if_false]
  have loop : ∀ (d i : Nat), i + d = L.length → Ev (fun k => laws_FnTypeAny.l0 k (i : Int) L S (L7 i) S) true := by
   intro d
   induction d with
   | zero =>
    intro i hi
    refine Ev.succ_ ?_
    have c1 : ¬ ((i : Int) < (L.length : Int)) := by omega
    simp only [laws_FnTypeAny.l0, c1, if_false]
    obtain rfl : i = L.length := by omega
    refine Ev.bind (im_typeB (L7 L.length) S (by rw [L7_len]; omega) (by omega)) ?_
    rw [type7 hk]
    exact Ev.now _
   | succ d ih =>
    intro i hi
    refine Ev.succ_ ?_
    have c1 : (i : Int) < (L.length : Int) := by omega
    have c3 : (L7 i).length < 8796093022208 := by rw [L7_len]; omega
    have c4 : wrap64 ((i : Int) + 1) = ((i + 1 : Nat) : Int) := by rw [wr (by omega) (by omega)]; omega
    have e7 : L7 i ++ [(⟨7, 7⟩ : S39)] = L7 (i + 1) := by rw [L7, L7, List.replicate_succ']
    simp only [laws_FnTypeAny.l0, c1, c3, c4, e7, if_true]
    exact ih (i + 1) (by omega)
  exact loop L.length 0 (by omega)
end Go.Proofs.Ythidgkfgdkjghaa.Pure
