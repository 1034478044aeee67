/- The law FnTypeSets: in a fine program who trusts what is set in a step trusts that the step is done, for the program that every code draws; codes of more than 1048576 bytes are asked nothing. -/
import Derived.Test.YtkkdeojbkfjlpaaAx0
import Derived.Test.YtkkdeojbkfjlpaaAx18
import Derived.Test.YtkkdeojbkfjlpaaAx24
import Derived.Test.YtkkdeojbkfjlpaaAx28
import Derived.Test.YtkkdeojbkfjlpaaAx29
import Derived.Test.YtkkdeojbkfjlpaaStmFnTypeSets
import Derived.Test.YtkkdeojbkfjlpaaME
-- uses StmFnTypeSets SetEv
namespace Go.Proofs.Ytkkdeojbkfjlpaa.Pure
open Go.RowKit Go.Proofs.YtkkdeojbkfjlpaaW.PrintWords Go.Proofs.YtkkdeojbkfjlpaaW.PrintLast Go.Proofs.YtkkdeojbkfjlpaaW.PrintMore Go.Proofs.Ytkkdeojbkfjlpaa.A
theorem lcInts_self {l : List Int} (h : l.length ≤ 1048576) : Ev (fun k => laws_lcInts.f k l l) true := by
 have loop : ∀ (d n : Nat), n + d = l.length → Ev (fun k => laws_lcInts.l0 k l l (n : Int)) true := by
  intro d
  induction d with
  | zero =>
   intro n hn
   refine Ev.succ_ (Ev.all_ fun k => ?_)
   have h1 : ¬ ((n : Int) < (l.length : Int)) := by omega
   simp only [laws_lcInts.l0, h1, if_false]
  | succ d ih =>
   intro n hn
   refine Ev.succ_ ?_
   have h1 : (n : Int) < (l.length : Int) := by omega
   have h2 : (0 : Int) ≤ (n : Int) := by omega
   have h4 : wrap64 ((n : Int) + 1) = ((n + 1 : Nat) : Int) := by rw [wr (by omega) (by omega)]; omega
   simp only [laws_lcInts.l0, h1, h2, h4, if_true]
   exact ih (n + 1) (by omega)
 unfold laws_lcInts.f
 simp only [if_true]
 exact loop l.length 0 (Nat.zero_add _)
theorem wr1 (n : Nat) (h : n < 1000000) : wrap64 ((n : Int) + 1) = ((n + 1 : Nat) : Int) := by rw [wr (by omega) (by omega)]; omega
theorem has_sub : ∀ (x y : Fin 8) (h : Fin 3), wi (x.val : Int) (y.val : Int) = true → laws_lcHas.f (x.val : Int) (h.val : Int) = some true → laws_lcHas.f (y.val : Int) (h.val : Int) = some true := by decide +kernel
theorem has_some : ∀ (x : Fin 8) (h : Fin 3), laws_lcHas.f (x.val : Int) (h.val : Int) = some true ∨ laws_lcHas.f (x.val : Int) (h.val : Int) = some false := by decide +kernel
theorem FnTypeSets : laws_FnTypeSets.Stm := by
 intro l w
 refine Ev.rounds ?_
 have hl : ∀ x ∈ l, 0 ≤ x ∧ x ≤ 255 := fun x hx => u8_of (w.2 x hx)
 unfold laws_FnTypeSets.f
 by_cases c : (l.length : Int) > 1048576
 ·simp only [c, if_true]
  exact Ev.now _
 simp only [c, if_false]
 obtain ⟨b, hb, h0⟩ := open_ev hl
 obtain ⟨L, S, q, e, e1, e2, -, -⟩ := any_ev hb 0 (by omega) (by omega)
 have ed : Ev (fun k => spec_DrawTypeSets.f k l) (L, S) := by
  unfold spec_DrawTypeSets.f
  rw [h0]
  simp only [Option.bind_some]
  exact Ev.bind e (Ev.now _)
 have hlen : (setsP L S).length ≤ 2000 := by
  cases hk : progB L S with
  | false => rw [setsP, if_neg (by rw [hk]; decide)]; simp
  | true => rw [setsP, if_pos hk, setsL, List.length_map, alTs_length]; exact e2
 have said : Ev (fun k => laws_FnTypeSets.j0 k (setsP L S) true L S) true := by
  refine Ev.succ_ ?_
  simp only [laws_FnTypeSets.j0, if_true]
  exact Ev.bind (sp_setsP L S (by omega) (by omega)) (Ev.bind (lcInts_self (by omega)) (Ev.now _))
 refine Ev.bind ed (Ev.bind (im_setsP L S (by omega) (by omega)) (Ev.bind (sp_setsP L S (by omega) (by omega)) (Ev.bind (lcInts_self (by omega)) ?_)))
 simp only [if_true]
 refine Ev.bind (sp_typeB L S (by omega) (by omega)) ?_
 cases ht : typeB L S with
 | false => exact said
 | true =>
  have hk : progB L S = true := by
   cases hk : progB L S with
   | true => rfl
   | false => rw [typeB_no hk] at ht; cases ht
  rw [typeB_ok hk] at ht
  obtain ⟨_, hL, hg, _⟩ := progB_parts hk
  have E := each_within hL S 7 7 hg ok77 ht
  have eA : Ev (fun k => impl_TypeAt.f k L S) (laTs L S 7 7) := by
   unfold impl_TypeAt.f
   refine Ev.bind (im_progOk _ _ (by omega) (by omega)) ?_
   rw [hk]
   simp only [if_true]
   exact Ev.bind (im_at L S hk) (Ev.now _)
  refine Ev.succ_ ?_
  simp only [laws_FnTypeSets.j0, Bool.not_true, Bool.false_eq_true, if_false]
  refine Ev.bind eA ?_
  have n1 : (setsP L S).length = nTs S := by rw [setsP, if_pos hk, setsL, List.length_map, alTs_length]
  have n2 : (laTs L S 7 7).length = nTs S := laTs_length _ _ _ _
  have at_ : ∀ i : Nat, i < nTs S → wi (rd (setsP L S) (i : Int)) (D35 (laTs L S 7 7) (i : Int)).f1 = true ∧ isS (rd (setsP L S) (i : Int)) = true ∧ isS (D35 (laTs L S 7 7) (i : Int)).f1 = true := by
   intro i hi
   have l1 : i < (alTs S).length := by rw [alTs_length]; exact hi
   have l2 : i < (laTs L S 7 7).length := by omega
   have r1 : rd (setsP L S) (i : Int) = seTs L [(alTs S)[i]] := by
    rw [setsP, if_pos hk, setsL]
    simp [rd, List.getD_eq_getElem?_getD, List.getElem?_eq_getElem l1]
   have r2 : D35 (laTs L S 7 7) (i : Int) = (laTs L S 7 7)[i] := by
    simp [D35, List.getD_eq_getElem?_getD, List.getElem?_eq_getElem l2]
   rw [r1, r2]
   have := E ((alTs S)[i], (laTs L S 7 7)[i]) (by
    have hz : i < ((alTs S).zip (laTs L S 7 7)).length := by rw [List.length_zip]; omega
    have := List.getElem_mem hz
    rwa [List.getElem_zip] at this)
   exact this
  have row : ∀ (i : Nat), i < nTs S → Ev (fun k => laws_FnTypeSets.l0 k (setsP L S) (laTs L S 7 7) ((i + 1 : Nat) : Int)) true → ∀ (d h : Nat), h + d = 3 → Ev (fun k => laws_FnTypeSets.l1 k (setsP L S) (laTs L S 7 7) (i : Int) (h : Int)) true := by
   intro i hi nx d
   obtain ⟨a1, a2, a3⟩ := at_ i hi
   have c1 : (0 : Int) ≤ (i : Int) := by omega
   have c2 : (i : Int) < ((setsP L S).length : Int) := by omega
   have c3 : (i : Int) < ((laTs L S 7 7).length : Int) := by omega
   have c4 := wr1 i (by omega)
   obtain ⟨x, hx⟩ := as_fin a2
   obtain ⟨y, hy⟩ := as_fin a3
   rw [hx, hy] at a1
   induction d with
   | zero =>
    intro h hh
    have z : ¬ ((h : Int) < 3) := fun z => Nat.lt_irrefl 3 (hh ▸ (Int.ofNat_lt.1 z : h < 3))
    refine Ev.succ_ ?_
    simp only [laws_FnTypeSets.l1, z, if_false, c4]
    exact nx
   | succ d ih =>
    intro h hh
    have h3 : h < 3 := hh ▸ Nat.lt_add_of_pos_right (Nat.succ_pos d)
    have z : ((h : Int) < 3) := Int.ofNat_lt.2 h3
    have c5 := wr1 h (Nat.lt_trans h3 (by decide))
    have go := ih (h + 1) ((Nat.add_assoc h 1 d).trans ((congrArg (h + ·) (Nat.add_comm 1 d)).trans hh))
    have hs := has_some x ⟨h, h3⟩
    have hb := has_sub x y ⟨h, h3⟩ a1
    refine Ev.succ_ ?_
    simp only [laws_FnTypeSets.l1, z, c1, c2, c3, c5, if_true]
    rcases hs with hs | hs
    ·have hb' := hb hs
     rw [← hx] at hs
     rw [← hy] at hb'
     simp only at hs hb'
     rw [hs]
     simp only [Option.bind_some, if_true]
     rw [hb']
     simp only [Option.bind_some, if_true]
     exact go
    ·rw [← hx] at hs
     simp only at hs
     rw [hs]
     simp only [Option.bind_some, Bool.false_eq_true, if_false]
     exact go
  have loop : ∀ (d i : Nat), i + d = nTs S → Ev (fun k => laws_FnTypeSets.l0 k (setsP L S) (laTs L S 7 7) (i : Int)) true := by
   intro d
   induction d with
   | zero =>
    intro i hi
    have c1 : ¬ ((i : Int) < ((setsP L S).length : Int)) := by omega
    refine Ev.succ_ ?_
    simp only [laws_FnTypeSets.l0, c1, if_false]
    exact Ev.now _
   | succ d ih =>
    intro i hi
    have c1 : ((i : Int) < ((setsP L S).length : Int)) := by omega
    refine Ev.succ_ ?_
    simp only [laws_FnTypeSets.l0, c1, if_true]
    exact row i (by omega) (ih (i + 1) (by omega)) 3 0 rfl
  exact loop _ 0 (Nat.zero_add _)
end Go.Proofs.Ytkkdeojbkfjlpaa.Pure
