/- The law FnTypeWhy: a program is fine just if no step is told that is not, for the program that every code draws; codes of more than 1048576 bytes are asked nothing. -/
import Derived.Test.YthidgkfgdkjghaaAx0
import Derived.Test.YthidgkfgdkjghaaAx19
import Derived.Test.YthidgkfgdkjghaaAx29
import Derived.Test.YthidgkfgdkjghaaAx31
import Derived.Test.YthidgkfgdkjghaaStmFnTypeWhy
import Derived.Test.YthidgkfgdkjghaaMC
-- uses StmFnTypeWhy OkEv
namespace Go.Proofs.Ythidgkfgdkjghaa.Pure
open Go.RowKit Go.Proofs.YthidgkfgdkjghaaW.PrintWords Go.Proofs.YthidgkfgdkjghaaW.PrintLast Go.Proofs.YthidgkfgdkjghaaW.PrintMore Go.Proofs.Ythidgkfgdkjghaa.A
theorem whyR_what (L : List S39) : ∀ (a : List S32) (m : List S39) (i : Int), 0 ≤ i → ((whyR L a m i).2 = false → (whyR L a m i).1 = 0) ∧ ((whyR L a m i).2 = true → (whyR L a m i).1 < i + a.length) := by
 intro a
 induction a with
 | nil => intro m i hi; cases m <;> simp [whyR]
 | cons s r ih =>
  intro m i hi
  cases m with
  | nil => simp [whyR]
  | cons x m =>
   obtain ⟨h1, h2⟩ := ih m (i + 1) (by omega)
   simp only [whyR, List.length_cons]
   split
   ·exact ⟨h1, fun h => by have := h2 h; omega⟩
   ·exact ⟨fun h => by simp at h, fun _ => by simp only; omega⟩
theorem FnTypeWhy : laws_FnTypeWhy.Stm := by
 intro l w
 refine Ev.rounds ?_
 have hl : ∀ x ∈ l, 0 ≤ x ∧ x ≤ 255 := fun x hx => u8_of (w.2 x hx)
 unfold laws_FnTypeWhy.f
 by_cases c : (l.length : Int) > 1048576
 ·simp only [c, if_true]
  exact Ev.now _
 simp only [c, if_false]
 obtain ⟨L, S, ed, e1, e2⟩ : ∃ L S, Ev (fun k => spec_DrawTypeWhy.f k l) (L, S) ∧ L.length ≤ 8 ∧ nTs S ≤ 2000 := by
  obtain ⟨b, hb, h0⟩ := open_ev hl
  obtain ⟨r, h, _, _⟩ := pick_ev hb 0 2 (by omega) (by omega) (by omega) (by omega)
  by_cases c0 : r = 0
  ·obtain ⟨L, S, q, e, e1, e2, e3, -, -⟩ := prog_ev hb (0 + 1) (by omega) (by omega)
   refine ⟨L, S, ?_, by omega, by omega⟩
   unfold spec_DrawTypeWhy.f
   rw [h0]
   simp only [Option.bind_some]
   refine Ev.bind h ?_
   simp only [c0, if_true]
   exact Ev.bind e (Ev.now _)
  ·obtain ⟨L, S, q, e, e1, e2, -, -⟩ := any_ev hb (0 + 1) (by omega) (by omega)
   refine ⟨L, S, ?_, e1, e2⟩
   unfold spec_DrawTypeWhy.f
   rw [h0]
   simp only [Option.bind_some]
   refine Ev.bind h ?_
   simp only [c0, if_false]
   exact Ev.bind e (Ev.now _)
 have im : Ev (fun k => impl_TypeWhy.f k L S) (if progB L S = true then whyP L S else (0, false)) := by
  unfold impl_TypeWhy.f
  refine Ev.bind (im_progOk _ _ (by omega) (by omega)) ?_
  cases h : progB L S with
  | false => simp only [Bool.false_eq_true, if_false]; exact Ev.now _
  | true => simp only [if_true]; exact Ev.bind (im_why _ _ h) (Ev.now _)
 refine Ev.bind ed (Ev.bind (sp_typeWhy L S (by omega) (by omega)) (Ev.bind im ?_))
 simp only [bne_self_eq_false, Bool.false_eq_true, if_false, if_true]
 refine Ev.bind (sp_progOk L S (by omega) (by omega)) (Ev.succ_ ?_)
 cases hk : progB L S with
 | false =>
  simp only [laws_FnTypeWhy.j0, Bool.not_false, if_true, beq_self_eq_true]
  exact Ev.now _
 | true =>
  simp only [laws_FnTypeWhy.j0, Bool.not_true, Bool.false_eq_true, if_true, if_false]
  have ht : typeB L S = !(whyP L S).2 := by rw [typeB, if_pos hk]
  have hw := whyR_what L (alTs S) (laTs L S 7 7) 0 (by omega)
  rw [alTs_length] at hw
  refine Ev.bind (im_typeB L S (by omega) (by omega)) ?_
  rw [ht]
  have hz := sizeP_ok hk
  have sz := im_sizeP L S (by omega) (by omega)
  rw [hz] at sz
  cases hb : (whyP L S).2 with
  | false =>
   have h0 : (whyP L S).1 = 0 := hw.1 hb
   simp only [Bool.not_false, bne_iff_ne, ne_eq, Bool.true_eq_false, not_false_eq_true, if_true, Bool.false_eq_true, if_false, h0]
   refine Ev.bind sz (Ev.all_ fun _ => ?_)
   have : decide ((0 : Int) < mx (nTs S : Int) 1) = true := decide_eq_true (by unfold mx; split <;> omega)
   rw [this]
  | true =>
   have h1 : (whyP L S).1 < 0 + (nTs S : Int) := hw.2 hb
   simp only [Bool.not_true, bne_iff_ne, ne_eq, Bool.false_eq_true, not_false_eq_true, if_true]
   refine Ev.bind sz (Ev.all_ fun _ => ?_)
   have : decide ((whyP L S).1 < mx (nTs S : Int) 1) = true := decide_eq_true (by unfold mx; split <;> omega)
   rw [this]
end Go.Proofs.Ythidgkfgdkjghaa.Pure
