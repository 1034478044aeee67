/- The law FnProgCount: each step has a number, and a label of being done, for the program that every code draws; codes of more than 1048576 bytes are asked nothing. -/
import Derived.Test.YtkkdeojbkfjlpaaAx0
import Derived.Test.YtkkdeojbkfjlpaaAx27
import Derived.Test.YtkkdeojbkfjlpaaAx30
import Derived.Test.YtkkdeojbkfjlpaaStmFnProgCount
import Derived.Test.YtkkdeojbkfjlpaaME
-- uses StmFnProgCount AtEv AtP SetEv
namespace Go.Proofs.Ytkkdeojbkfjlpaa.Pure
open Go.RowKit Go.Proofs.YtkkdeojbkfjlpaaW.PrintWords Go.Proofs.YtkkdeojbkfjlpaaW.PrintLast Go.Proofs.YtkkdeojbkfjlpaaW.PrintMore Go.Proofs.Ytkkdeojbkfjlpaa.A
theorem sets_len (L : List S35) (S : List S40) : ((setsP L S).length : Int) = mx (sizeP L S) 0 := by
 cases hk : progB L S with
 | true =>
  rw [setsP, if_pos hk, sizeP_ok hk, setsL, List.length_map, alTs_length]
  unfold mx
  split <;> omega
 | false =>
  rw [setsP, if_neg (by rw [hk]; decide), sizeP_no hk]
  decide
theorem atV_last (L : List S35) (S : List S40) (n : Int) : (atV L S n).2.2.2.2.2.2.2.2 = atB L S n := by
 unfold atV
 split
 ·rename_i h; rw [h]; rfl
 ·rename_i h; rw [Bool.eq_false_iff.2 h]; rfl
theorem atB_size (L : List S35) (S : List S40) (n : Int) (h : n ≥ 0) : atB L S n = decide (n < sizeP L S) := by
 unfold atB
 cases hk : progB L S with
 | true =>
  rw [sizeP_ok hk, Bool.true_and, decide_eq_true h, Bool.true_and]
  exact decide_eq_decide.2 ⟨fun _ => by omega, fun _ => by omega⟩
 | false =>
  rw [sizeP_no hk, Bool.false_and]
  exact (decide_eq_false (by omega)).symm
theorem atB_neg (L : List S35) (S : List S40) (n : Int) (h : ¬ n ≥ 0) : atB L S n = false := by
 unfold atB
 rw [decide_eq_false h]
 simp
theorem FnProgCount : laws_FnProgCount.Stm := by
 intro l w
 refine Ev.rounds ?_
 have hl : ∀ x ∈ l, 0 ≤ x ∧ x ≤ 255 := fun x hx => u8_of (w.2 x hx)
 unfold laws_FnProgCount.f
 by_cases c : (l.length : Int) > 1048576
 ·simp only [c, if_true]
  exact Ev.now _
 simp only [c, if_false]
 obtain ⟨b, hb, h0⟩ := open_ev hl
 obtain ⟨L, S, q, e, e1, e2, e3, e4⟩ := any_ev hb 0 (by omega) (by omega)
 have hz : -1 ≤ sizeP L S ∧ sizeP L S ≤ 2000 := by
  unfold sizeP
  split <;> omega
 have w3 : wrap64 (sizeP L S + 3) = sizeP L S + 3 := wr (by omega) (by omega)
 obtain ⟨r, h, _, _⟩ := pick_ev hb q (sizeP L S + 3) (by omega) (by omega) (by omega) (by omega)
 have ed : Ev (fun k => spec_DrawProgAt.f k l) (L, S, wrap64 (r - 1)) := by
  unfold spec_DrawProgAt.f
  rw [h0]
  simp only [Option.bind_some]
  refine Ev.bind e (Ev.bind (sp_sizeP L S (by omega) (by omega)) ?_)
  simp only [w3]
  exact Ev.bind h (Ev.now _)
 generalize wrap64 (r - 1) = n at ed
 have im := im_sizeP L S (by omega) (by omega)
 have iat := im_atP L S (by omega) (by omega)
 have ise := im_setsP L S (by omega) (by omega)
 refine Ev.bind ed (Ev.bind (sp_atV L S n (by omega) (by omega)) (Ev.bind (im_atV L S n (by omega) (by omega)) ?_))
 simp only [beq_self_eq_true, if_true, atV_last]
 by_cases d : n ≥ 0
 ·simp only [d, if_true]
  refine Ev.bind im ?_
  simp only [atB_size L S n d, beq_self_eq_true, if_true]
  refine Ev.bind iat (Ev.bind im ?_)
  simp only [atP_len, if_true]
  refine Ev.bind ise (Ev.bind im ?_)
  simp only [sets_len, beq_self_eq_true]
  exact Ev.now _
 ·simp only [d, if_false, atB_neg L S n d, beq_self_eq_true, if_true]
  refine Ev.bind iat (Ev.bind im ?_)
  simp only [atP_len, if_true]
  refine Ev.bind ise (Ev.bind im ?_)
  simp only [sets_len, beq_self_eq_true]
  exact Ev.now _
end Go.Proofs.Ytkkdeojbkfjlpaa.Pure
