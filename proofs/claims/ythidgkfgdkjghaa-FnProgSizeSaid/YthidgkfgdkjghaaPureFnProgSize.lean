/- The law FnProgSize: a program has as many steps as its own, with all in them, for the program that every code draws; codes of more than 1048576 bytes are asked nothing. -/
import Derived.Test.YthidgkfgdkjghaaAx0
import Derived.Test.YthidgkfgdkjghaaAx19
import Derived.Test.YthidgkfgdkjghaaAx24
import Derived.Test.YthidgkfgdkjghaaStmFnProgSize
import Derived.Test.YthidgkfgdkjghaaMB
-- uses StmFnProgSize SizeEv
namespace Go.Proofs.Ythidgkfgdkjghaa.Pure
open Go.RowKit Go.Proofs.YthidgkfgdkjghaaW.PrintWords Go.Proofs.YthidgkfgdkjghaaW.PrintLast Go.Proofs.YthidgkfgdkjghaaW.PrintMore Go.Proofs.Ythidgkfgdkjghaa.A
theorem ws_of {N D D' A B : Nat} (hN : N ≤ 8) (hc : D = 1 + (A + B) + D') (hd : D ≤ N) : wrap64 (wrap64 (wrap64 ((N : Int) - (D : Int) + 1) + (A : Int)) + (B : Int)) = (N : Int) - (D' : Int) := by
 rw [wr (a := (N : Int) - (D : Int) + 1) (by omega) (by omega), wr (a := (N : Int) - (D : Int) + 1 + (A : Int)) (by omega) (by omega), wr (by omega) (by omega)]
 omega
theorem FnProgSize : laws_FnProgSize.Stm := by
 intro l w
 refine Ev.rounds ?_
 have hl : ∀ x ∈ l, 0 ≤ x ∧ x ≤ 255 := fun x hx => u8_of (w.2 x hx)
 unfold laws_FnProgSize.f
 by_cases c : (l.length : Int) > 1048576
 ·simp only [c, if_true]
  exact Ev.now _
 simp only [c, if_false]
 obtain ⟨b, hb, h0⟩ := open_ev hl
 obtain ⟨L, S, q, e, e1, e2, -, -⟩ := any_ev hb 0 (by omega) (by omega)
 have ed : Ev (fun k => spec_DrawProgSize.f k l) (L, S) := by
  unfold spec_DrawProgSize.f
  rw [h0]
  simp only [Option.bind_some]
  exact Ev.bind e (Ev.now _)
 have im := im_sizeP L S (by omega) (by omega)
 have sp := sp_sizeP L S (by omega) (by omega)
 refine Ev.bind ed (Ev.bind im (Ev.bind sp ?_))
 simp only [if_true]
 refine Ev.succ_ ?_
 cases hk : progB L S with
 | false =>
  rw [sizeP_no hk] at sp ⊢
  simp only [laws_FnProgSize.j0, show decide ((-1 : Int) < 0) = true by decide, if_true]
  exact Ev.bind sp (Ev.now _)
 | true =>
  have n8 := (progB_parts hk).2.2.2
  have hlS := nTs_length S
  rw [sizeP_ok hk]
  have d0 : decide (((nTs S : Nat) : Int) < 0) = false := decide_eq_false (by omega)
  simp only [laws_FnProgSize.j0, d0, Bool.false_eq_true, if_false]
  have loop : ∀ (d i : Nat), i + d = S.length → Ev (fun k => laws_FnProgSize.l0 k (nTs S : Int) ((nTs S : Int) - (nTs (S.drop i) : Int)) (i : Int) L S) true := by
   intro d
   induction d with
   | zero =>
    intro i hi
    refine Ev.succ_ (Ev.all_ fun k => ?_)
    have c1 : ¬ ((i : Int) < (S.length : Int)) := by omega
    have c2 : (nTs S : Int) - (nTs (S.drop i) : Int) = (nTs S : Int) := by rw [List.drop_of_length_le (by omega), nTs_nil]; omega
    have c3 : decide ((nTs S : Int) ≤ 8) = true := decide_eq_true (by omega)
    simp only [laws_FnProgSize.l0, c1, c2, c3, if_false, if_true]
   | succ d ih =>
    intro i hi
    have c1 : (i : Int) < (S.length : Int) := by omega
    have c2 : (0 : Int) ≤ (i : Int) := by omega
    have c4 : wrap64 ((i : Int) + 1) = ((i + 1 : Nat) : Int) := by rw [wr (by omega) (by omega)]; omega
    have hm := rdS_mem (l := S) (n := i) (by omega)
    have hs := nTs_mem hm
    obtain ⟨p4, p5⟩ := prog_sub hk hm
    have hd := nTs_drop S i
    have hc : nTs (S.drop i) = 1 + (nTs (rd_T32 S (i : Int)).f4 + nTs (rd_T32 S (i : Int)).f5) + nTs (S.drop (i + 1)) := by rw [rdS_drop (l := S) (n := i) (by omega), nTs_cons]
    have ws := ws_of n8 hc hd
    refine Ev.succ_ ?_
    simp only [laws_FnProgSize.l0, c1, c2, c4, if_true]
    refine Ev.bind (im_sizeP L _ (by omega) (by omega)) ?_
    rw [sizeP_ok p4]
    refine Ev.bind (im_sizeP L _ (by omega) (by omega)) ?_
    rw [sizeP_ok p5, ws]
    exact ih (i + 1) (by omega)
  have h := loop S.length 0 (by omega)
  rw [List.drop_zero, Int.sub_self] at h
  exact h
end Go.Proofs.Ythidgkfgdkjghaa.Pure
