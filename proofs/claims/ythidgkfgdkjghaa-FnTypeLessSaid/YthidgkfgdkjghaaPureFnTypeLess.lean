/- The law FnTypeLess: a program is fine just if its first steps are, and the rest, for the program that every code draws; codes of more than 1048576 bytes are asked nothing. -/
import Derived.Test.YthidgkfgdkjghaaAx33
import Derived.Test.YthidgkfgdkjghaaStmFnTypeLess
import Derived.Test.YthidgkfgdkjghaaMC
-- uses StmFnTypeLess OkEv
namespace Go.Proofs.Ythidgkfgdkjghaa.Pure
open Go.RowKit Go.Proofs.YthidgkfgdkjghaaW.PrintWords Go.Proofs.YthidgkfgdkjghaaW.PrintLast Go.Proofs.YthidgkfgdkjghaaW.PrintMore Go.Proofs.Ythidgkfgdkjghaa.A
theorem FnTypeLess : laws_FnTypeLess.Stm := by
 intro l m w1 w2
 refine Ev.rounds ?_
 have hl : ∀ x ∈ l, 0 ≤ x ∧ x ≤ 255 := fun x hx => u8_of (w1.2 x hx)
 have stop : Ev (fun k => laws_FnTypeLess.j0 k l m true) true := Ev.succ_ (Ev.all_ fun k => by simp only [laws_FnTypeLess.j0, if_true])
 unfold laws_FnTypeLess.f
 by_cases c : (l.length : Int) > 1048576
 ·simp only [c, if_true]
  exact stop
 simp only [c, if_false]
 by_cases c' : (m.length : Int) > 1048576
 ·simp only [c', decide_true]
  exact stop
 simp only [c', decide_false]
 obtain ⟨L, S, e, e1, e2⟩ := drawTypeOk_ev hl
 have im := im_typeB L S (by omega) (by omega)
 have sp := sp_typeB L S (by omega) (by omega)
 refine Ev.succ_ ?_
 simp only [laws_FnTypeLess.j0, Bool.false_eq_true, if_false]
 refine Ev.bind e (Ev.bind im (Ev.bind sp ?_))
 simp only [bne_self_eq_false, Bool.false_eq_true, if_false]
 refine Ev.bind (sp_progOk L S (by omega) (by omega)) (Ev.succ_ ?_)
 cases hk : progB L S with
 | false =>
  simp only [laws_FnTypeLess.j1, Bool.not_false, if_true]
  refine Ev.bind sp (Ev.all_ fun _ => ?_)
  rw [beq_self_eq_true]
 | true =>
  have hS := nTs_length S
  have w : wrap64 ((S.length : Int) + 1) = (S.length : Int) + 1 := wr (by omega) (by omega)
  have g0 : ¬ ((S.length : Int) + 1 = 0) := by omega
  have g1 : 0 ≤ (m.length : Int) % ((S.length : Int) + 1) := Int.emod_nonneg _ (by omega)
  have g2 : (m.length : Int) % ((S.length : Int) + 1) ≤ (S.length : Int) := by have := Int.emod_lt_of_pos (m.length : Int) (show 0 < (S.length : Int) + 1 by omega); omega
  simp only [laws_FnTypeLess.j1, Bool.not_true, Bool.false_eq_true, if_false, w, g0, g1, g2, if_true]
  generalize ((m.length : Int) % ((S.length : Int) + 1)).toNat = n
  have hn : nTs (S.take n) + nTs (S.drop n) = nTs S := by rw [← nTs_append, List.take_append_drop]
  obtain ⟨p1, p2⟩ := prog_part (L := L) (a := S.take n) (b := S.drop n) (by rw [List.take_append_drop]; exact hk)
  have ht : typeB L S = (typeB L (S.take n) && typeB L (S.drop n)) := by
   rw [typeB_ok hk, typeB_ok p1, typeB_ok p2, ← allB_append, List.take_append_drop]
  refine Ev.bind (im_typeB L (S.take n) (by omega) (by omega)) ?_
  cases h1 : typeB L (S.take n) with
  | false =>
   rw [h1, Bool.false_and] at ht
   simp only [Bool.false_eq_true, if_false]
   exact Ev.all_ fun _ => by rw [ht]; rfl
  | true =>
   rw [h1, Bool.true_and] at ht
   simp only [if_true]
   refine Ev.bind (im_typeB L (S.drop n) (by omega) (by omega)) (Ev.all_ fun _ => ?_)
   rw [ht, beq_self_eq_true]
end Go.Proofs.Ythidgkfgdkjghaa.Pure
