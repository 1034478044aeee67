/- The law FnTypeAt: what is done in a step is done by what is known of that, for the program that every code draws; codes of more than 1048576 bytes are asked nothing. -/
import Derived.Test.YthidgkfgdkjghaaAx0
import Derived.Test.YthidgkfgdkjghaaAx11
import Derived.Test.YthidgkfgdkjghaaAx44
import Derived.Test.YthidgkfgdkjghaaAx45
import Derived.Test.YthidgkfgdkjghaaStmFnTypeAt
import Derived.Test.YthidgkfgdkjghaaMB
import Derived.Test.YthidgkfgdkjghaaMC
import Derived.Test.YthidgkfgdkjghaaImFl
-- uses StmFnTypeAt SizeEv TypeIm ImFl
namespace Go.Proofs.Ythidgkfgdkjghaa.Pure
open Go.RowKit Go.Proofs.YthidgkfgdkjghaaW.PrintWords Go.Proofs.YthidgkfgdkjghaaW.PrintLast Go.Proofs.YthidgkfgdkjghaaW.PrintMore Go.Proofs.Ythidgkfgdkjghaa.A
def atP (L : List S39) (S : List S32) : List S39 := if progB L S = true then laTs L S 7 7 else []
theorem sp_atP (L : List S39) (S : List S32) (h1 : L.length ≤ 1048576) (h2 : nTs S ≤ 1048576) : Ev (fun k => spec_TypeAt.f k L S) (atP L S) := by
 cases hk : progB L S with
 | true => rw [atP, if_pos hk]; exact sp_typeAt L S hk
 | false =>
  unfold spec_TypeAt.f
  refine Ev.bind (sp_progOk _ _ h1 h2) ?_
  rw [hk]
  simp only [atP, hk, Bool.false_eq_true, if_false]
  exact Ev.now _
theorem im_atP (L : List S39) (S : List S32) (h1 : L.length ≤ 1048576) (h2 : nTs S ≤ 1048576) : Ev (fun k => impl_TypeAt.f k L S) (atP L S) := by
 unfold impl_TypeAt.f
 refine Ev.bind (im_progOk _ _ h1 h2) ?_
 cases hk : progB L S with
 | true =>
  simp only [atP, hk, if_true]
  exact Ev.bind (im_at L S hk) (Ev.now _)
 | false =>
  simp only [atP, hk, Bool.false_eq_true, if_false]
  exact Ev.now _
theorem within7 : ∀ x : Fin 8, wi (x.val : Int) 7 = true := by decide +kernel
theorem flows7 {a b : Int} (h : okL a b = true) : flowsB 7 7 a b = true := by
 obtain ⟨ha, hb⟩ := okL_iff.1 h
 obtain ⟨x, rfl⟩ := as_fin ha
 obtain ⟨y, rfl⟩ := as_fin hb
 simp only [flowsB, h, ok77, within7, Bool.and_self]
theorem first7 (L : List S39) (S : List S32) (h : 0 < (laTs L S 7 7).length) : D39 (laTs L S 7 7) 0 = ⟨7, 7⟩ := by
 cases S with
 | nil => rw [laTs] at h; cases h
 | cons s r =>
  rw [laTs, laT_eq]
  rfl
theorem rdLab_mem {l : List S39} {n : Nat} (h : n < l.length) : D39 l (n : Int) ∈ l := by
 simp only [D39, Int.toNat_natCast, List.getD_eq_getElem?_getD, List.getElem?_eq_getElem h, Option.getD_some]
 exact List.getElem_mem h
theorem FnTypeAt : laws_FnTypeAt.Stm := by
 intro l w
 refine Ev.rounds ?_
 have hl : ∀ x ∈ l, 0 ≤ x ∧ x ≤ 255 := fun x hx => u8_of (w.2 x hx)
 unfold laws_FnTypeAt.f
 by_cases c : (l.length : Int) > 1048576
 ·simp only [c, if_true]
  exact Ev.now _
 simp only [c, if_false]
 obtain ⟨b, hb, h0⟩ := open_ev hl
 obtain ⟨L, S, q, e, e1, e2, -, -⟩ := any_ev hb 0 (by omega) (by omega)
 have ed : Ev (fun k => spec_DrawTypeAt.f k l) (L, S) := by
  unfold spec_DrawTypeAt.f
  rw [h0]
  simp only [Option.bind_some]
  exact Ev.bind e (Ev.now _)
 refine Ev.bind ed (Ev.bind (im_atP L S (by omega) (by omega)) (Ev.bind (sp_atP L S (by omega) (by omega)) ?_))
 simp only [if_true]
 have hA : ∀ i : Nat, i < (atP L S).length → okL (D39 (atP L S) (i : Int)).f0 (D39 (atP L S) (i : Int)).f1 = true ∧ D39 (atP L S) 0 = ⟨7, 7⟩ := by
  intro i hi
  cases hk : progB L S with
  | false => rw [atP, if_neg (by rw [hk]; decide)] at hi; cases hi
  | true =>
   obtain ⟨_, hL, hg, _⟩ := progB_parts hk
   rw [atP, if_pos hk] at hi ⊢
   exact ⟨laTs_ok hL S 7 7 hg ok77 _ (rdLab_mem hi), first7 L S (by omega)⟩
 have hlen : (atP L S).length ≤ 2000 := by
  cases hk : progB L S with
  | false => rw [atP, if_neg (by rw [hk]; decide)]; simp
  | true => rw [atP, if_pos hk, laTs_length]; exact e2
 have loop : ∀ (d i : Nat), i + d = (atP L S).length → Ev (fun k => laws_FnTypeAt.l0 k (atP L S) (atP L S) (i : Int) L S) true := by
  intro d
  induction d with
  | zero =>
   intro i hi
   refine Ev.succ_ ?_
   have c1 : ¬ ((i : Int) < ((atP L S).length : Int)) := by omega
   simp only [laws_FnTypeAt.l0, c1, if_false]
   refine Ev.bind (sp_progOk _ _ (by omega) (by omega)) ?_
   cases hk : progB L S with
   | false => simp only [Bool.false_eq_true, if_false]; exact Ev.now _
   | true =>
    simp only [if_true]
    refine Ev.bind (im_sizeP L S (by omega) (by omega)) ?_
    have hn : ((atP L S).length : Int) = sizeP L S := by rw [sizeP_ok hk, atP, if_pos hk, laTs_length]
    simp only [hn, if_true]
    by_cases z : sizeP L S = 0
    ·simp only [z, if_true]
     exact Ev.now _
    ·have p : 0 < sizeP L S := by omega
     have h7 := (hA 0 (by omega)).2
     simp only [z, p, h7, if_true, if_false]
     exact Ev.now _
  | succ d ih =>
   intro i hi
   have c1 : (i : Int) < ((atP L S).length : Int) := by omega
   have c2 : (0 : Int) ≤ (i : Int) := by omega
   have c3 : (0 : Int) < ((atP L S).length : Int) := by omega
   have c4 : wrap64 ((i : Int) + 1) = ((i + 1 : Nat) : Int) := by rw [wr (by omega) (by omega)]; omega
   obtain ⟨ok, h7⟩ := hA i (by omega)
   refine Ev.succ_ ?_
   simp only [laws_FnTypeAt.l0, c1, c2, c3, c4, if_true, beq_self_eq_true, Bool.not_true, Bool.or_self, Bool.false_eq_true, if_false, im_flows, h7, flows7 ok, Option.bind_some]
   exact ih (i + 1) (by omega)
 exact loop _ 0 (Nat.zero_add _)
end Go.Proofs.Ythidgkfgdkjghaa.Pure
