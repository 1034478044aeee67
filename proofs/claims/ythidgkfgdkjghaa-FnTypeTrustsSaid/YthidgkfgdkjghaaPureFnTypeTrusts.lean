/- The law FnTypeTrusts: a host trusts just what labels say, for the program that every code draws; codes of more than 1048576 bytes are asked nothing. -/
import Derived.Test.YthidgkfgdkjghaaAx0
import Derived.Test.YthidgkfgdkjghaaAx42
import Derived.Test.YthidgkfgdkjghaaAx43
import Derived.Test.YthidgkfgdkjghaaStmFnTypeTrusts
import Derived.Test.YthidgkfgdkjghaaKnowsDraw
-- uses StmFnTypeTrusts KnowsDraw
namespace Go.Proofs.Ythidgkfgdkjghaa.Pure
open Go.RowKit Go.Proofs.YthidgkfgdkjghaaW.PrintWords Go.Proofs.YthidgkfgdkjghaaW.PrintLast Go.Proofs.YthidgkfgdkjghaaW.PrintMore Go.Proofs.Ythidgkfgdkjghaa.A
theorem im_rowTrusts (L : List S39) (S : List S32) (h : Int) (h1 : L.length ≤ 8) (h2 : nTs S ≤ 2000) : Ev (fun k => impl_TypeTrusts.f k L S h) (rowP L S (fun a => hasB a.f1 h)) := by
 unfold impl_TypeTrusts.f impl_Prog_each_51.f
 refine Ev.bind ?_ (Ev.now _)
 refine Ev.bind (im_progOk _ _ (by omega) (by omega)) ?_
 cases hk : progB L S with
 | false => simp only [rowP, hk, Bool.false_eq_true, if_false]; exact Ev.now _
 | true =>
  simp only [rowP, hk, if_true]
  have loop : ∀ (d i : Nat), i + d = L.length → Ev (fun k => impl_Prog_each_51.l0 k h ((L.map (fun a => hasB a.f1 h)).take i) L (L.length : Int) (i : Int)) (L.map (fun a => hasB a.f1 h)) := by
   intro d
   induction d with
   | zero =>
    intro i hi
    refine Ev.succ_ (Ev.all_ fun k => ?_)
    have c1 : ¬ ((i : Int) < (L.length : Int)) := by omega
    simp only [impl_Prog_each_51.l0, c1, if_false]
    rw [List.take_of_length_le (by rw [List.length_map]; omega)]
   | succ d ih =>
    intro i hi
    have c1 : (i : Int) < (L.length : Int) := by omega
    have c2 : (0 : Int) ≤ (i : Int) := by omega
    have c3 : ((L.map (fun a => hasB a.f1 h)).take i).length < 140737488355328 := by rw [List.length_take, List.length_map]; omega
    have c4 : wrap64 ((i : Int) + 1) = ((i + 1 : Nat) : Int) := by rw [wr (by omega) (by omega)]; omega
    refine Ev.succ_ ?_
    simp only [impl_Prog_each_51.l0, c1, c2, c3, c4, if_true, impl_TypeTrusts_1.f, im_hasK, Option.bind_some]
    rw [take_map (fun a => hasB a.f1 h) (by omega)]
    exact ih (i + 1) (by omega)
  simpa using loop L.length 0 (by omega)
theorem sp_rowTrusts (L : List S39) (S : List S32) (h : Int) (h1 : L.length ≤ 8) (h2 : nTs S ≤ 2000) : Ev (fun k => spec_TypeTrusts.f k L S h) (rowP L S (fun a => hasB a.f1 h)) := by
 unfold spec_TypeTrusts.f
 have ok := sp_progOk L S (by omega) (by omega)
 cases hk : progB L S with
 | false =>
  rw [hk] at ok
  simp only [rowP, hk, Bool.false_eq_true, if_false]
  refine Ev.succ_ ?_
  by_cases c1 : (0 : Int) < (L.length : Int)
  ·simp only [spec_TypeTrusts.l0, c1, if_true]
   exact Ev.bind ok (Ev.now _)
  ·simp only [spec_TypeTrusts.l0, c1, if_false]
   exact Ev.now _
 | true =>
  rw [hk] at ok
  simp only [rowP, hk, if_true]
  have hL := (progB_parts hk).2.1
  have loop : ∀ (d i : Nat), i + d = L.length → Ev (fun k => spec_TypeTrusts.l0 k h ((L.map (fun a => hasB a.f1 h)).take i) (i : Int) L S) (L.map (fun a => hasB a.f1 h)) := by
   intro d
   induction d with
   | zero =>
    intro i hi
    refine Ev.succ_ (Ev.all_ fun k => ?_)
    have c1 : ¬ ((i : Int) < (L.length : Int)) := by omega
    simp only [spec_TypeTrusts.l0, c1, if_false]
    rw [List.take_of_length_le (by rw [List.length_map]; omega)]
   | succ d ih =>
    intro i hi
    have c1 : (i : Int) < (L.length : Int) := by omega
    have c2 : (0 : Int) ≤ (i : Int) := by omega
    have c3 : ((L.map (fun a => hasB a.f1 h)).take i).length < 140737488355328 := by rw [List.length_take, List.length_map]; omega
    have c4 : wrap64 ((i : Int) + 1) = ((i + 1 : Nat) : Int) := by rw [wr (by omega) (by omega)]; omega
    refine Ev.succ_ ?_
    simp only [spec_TypeTrusts.l0, c1, if_true]
    refine Ev.bind ok ?_
    simp only [c2, c3, c4, if_true, sp_hasK (lab_ok hL (i := i) (by omega)).2, Option.bind_some]
    rw [take_map (fun a => hasB a.f1 h) (by omega)]
    exact ih (i + 1) (by omega)
  simpa using loop L.length 0 (by omega)
theorem FnTypeTrusts : laws_FnTypeTrusts.Stm := by
 intro l w
 refine Ev.rounds ?_
 have hl : ∀ x ∈ l, 0 ≤ x ∧ x ≤ 255 := fun x hx => u8_of (w.2 x hx)
 unfold laws_FnTypeTrusts.f
 by_cases c : (l.length : Int) > 1048576
 ·simp only [c, if_true]
  exact Ev.now _
 simp only [c, if_false]
 obtain ⟨L, S, h, ed0, e1, e2⟩ := drawKnows_ev hl
 have ed : Ev (fun k => spec_DrawTypeTrusts.f k l) (L, S, h) := by
  first
  | exact ed0
  | (unfold spec_DrawTypeTrusts.f; exact Ev.bind ed0 (Ev.now _))
 refine Ev.bind ed (Ev.bind (im_rowTrusts L S h e1 e2) (Ev.bind (sp_rowTrusts L S h e1 e2) ?_))
 simp only [if_true]
 have hR : ∀ i : Nat, i < (rowP L S (fun a => hasB a.f1 h)).length → i < L.length ∧ progB L S = true ∧ rdOf false (rowP L S (fun a => hasB a.f1 h)) (i : Int) = hasB (rd_T39 L (i : Int)).f1 h := by
  intro i hi
  cases hk : progB L S with
  | false => rw [rowP, if_neg (by rw [hk]; decide)] at hi; cases hi
  | true =>
   rw [rowP, if_pos hk] at hi ⊢
   rw [List.length_map] at hi
   exact ⟨hi, rfl, rdOf_map _ hi⟩
 have hlen : (rowP L S (fun a => hasB a.f1 h)).length ≤ 8 := by
  unfold rowP
  split
  ·rw [List.length_map]; exact e1
  ·simp
 have loop : ∀ (d i : Nat), i + d = (rowP L S (fun a => hasB a.f1 h)).length → Ev (fun k => laws_FnTypeTrusts.l0 k h (rowP L S (fun a => hasB a.f1 h)) (rowP L S (fun a => hasB a.f1 h)) (i : Int) L S) true := by
  intro d
  induction d with
  | zero =>
   intro i hi
   refine Ev.succ_ (Ev.all_ fun k => ?_)
   have c1 : ¬ ((i : Int) < ((rowP L S (fun a => hasB a.f1 h)).length : Int)) := by omega
   simp only [laws_FnTypeTrusts.l0, c1, if_false]
  | succ d ih =>
   intro i hi
   have c1 : (i : Int) < ((rowP L S (fun a => hasB a.f1 h)).length : Int) := by omega
   have c2 : (0 : Int) ≤ (i : Int) := by omega
   have c4 : wrap64 ((i : Int) + 1) = ((i + 1 : Nat) : Int) := by rw [wr (by omega) (by omega)]; omega
   obtain ⟨hi2, hk, hv⟩ := hR i (by omega)
   have c3 : (i : Int) < (L.length : Int) := by omega
   have hs := (lab_ok (progB_parts hk).2.1 hi2).2
   refine Ev.succ_ ?_
   by_cases d1 : h ≥ 0
   ·by_cases d2 : h < 3
    ·have hh : hostB h = true := by simp [hostB]; omega
     simp only [laws_FnTypeTrusts.l0, c1, c2, c3, c4, d1, d2, if_true, lc_hasK hs hh, Option.bind_some, hv, bne_self_eq_false, Bool.false_eq_true, if_false]
     exact ih (i + 1) (by omega)
    ·have hh : hostB h = false := by simp [hostB]; omega
     have hz : hasB (rd_T39 L (i : Int)).f1 h = false := by simp [hasB, hh]
     simp only [laws_FnTypeTrusts.l0, c1, c2, c4, d1, d2, if_true, hv, hz, bne_self_eq_false, Bool.false_eq_true, if_false]
     exact ih (i + 1) (by omega)
   ·have hh : hostB h = false := by simp [hostB]; omega
    have hz : hasB (rd_T39 L (i : Int)).f1 h = false := by simp [hasB, hh]
    simp only [laws_FnTypeTrusts.l0, c1, c2, c4, d1, if_true, hv, hz, bne_self_eq_false, Bool.false_eq_true, if_false]
    exact ih (i + 1) (by omega)
 exact loop _ 0 (Nat.zero_add _)
end Go.Proofs.Ythidgkfgdkjghaa.Pure
