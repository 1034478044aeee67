/- The law FnTypeTell: a variable may be told just to who may know it, for the program that every code draws; codes of more than 1048576 bytes are asked nothing. -/
import Derived.Test.YthidgkfgdkjghaaAx0
import Derived.Test.YthidgkfgdkjghaaAx37
import Derived.Test.YthidgkfgdkjghaaStmFnTypeTell
import Derived.Test.YthidgkfgdkjghaaMC
import Derived.Test.YthidgkfgdkjghaaKnowsEv
-- uses StmFnTypeTell OkEv KnowsEv
namespace Go.Proofs.Ythidgkfgdkjghaa.Pure
open Go.RowKit Go.Proofs.YthidgkfgdkjghaaW.PrintWords Go.Proofs.YthidgkfgdkjghaaW.PrintLast Go.Proofs.YthidgkfgdkjghaaW.PrintMore Go.Proofs.Ythidgkfgdkjghaa.A
theorem has7 : ∀ h : Fin 3, hasB 7 (h.val : Int) = true := by decide +kernel
theorem tell_is {L : List S39} (h4 : L.length ≤ 4) (hL : L.all (fun x => okL x.f0 x.f1) = true) {v h : Nat} (hv : v < L.length) (hh : h < 3) :
  typeB L [(⟨3, (v : Int), ⟨0, 0, 0⟩, (h : Int), [], []⟩ : S32)] = hasB (D39 L (v : Int)).f0 (h : Int) := by
 have hb : hostB (h : Int) = true := by simp [hostB]; omega
 have vb : varB (L.length : Int) (v : Int) = true := by simp [varB]; omega
 have hp : progB L [(⟨3, (v : Int), ⟨0, 0, 0⟩, (h : Int), [], []⟩ : S32)] = true := by
  unfold progB
  rw [okTs, okTs, okT_eq, nTs_one, nTs_nil, hL]
  simp [h4, vb, hb]
 rw [typeB_ok hp, allB, alTs, alTs, alT_eq, alTs, laTs, laTs, laT_eq, laTs]
 have h7 := has7 ⟨h, hh⟩
 simp only at h7
 simp [fineB, h7]
theorem FnTypeTell : laws_FnTypeTell.Stm := by
 intro l w
 refine Ev.rounds ?_
 have hl : ∀ x ∈ l, 0 ≤ x ∧ x ≤ 255 := fun x hx => u8_of (w.2 x hx)
 unfold laws_FnTypeTell.f
 by_cases c : (l.length : Int) > 1048576
 ·simp only [c, if_true]
  exact Ev.now _
 simp only [c, if_false]
 obtain ⟨L, S, e, e1, e2⟩ := drawTypeOk_ev hl
 have im := im_typeB L S (by omega) (by omega)
 have sp := sp_typeB L S (by omega) (by omega)
 refine Ev.bind e (Ev.bind im (Ev.bind sp ?_))
 simp only [bne_self_eq_false, Bool.false_eq_true, if_false]
 refine Ev.bind (sp_progOk L S (by omega) (by omega)) (Ev.succ_ ?_)
 cases hk : progB L S with
 | false =>
  simp only [laws_FnTypeTell.j0, Bool.not_false, if_true]
  refine Ev.bind im (Ev.bind sp (Ev.all_ fun _ => ?_))
  rw [beq_self_eq_true]
 | true =>
  simp only [laws_FnTypeTell.j0, Bool.not_true, Bool.false_eq_true, if_false]
  obtain ⟨h4, hL, _, _⟩ := progB_parts hk
  have outer : ∀ (d i : Nat), i + d = L.length → Ev (fun k => laws_FnTypeTell.l0 k (i : Int) L S) true := by
   intro d
   induction d with
   | zero =>
    intro i hi
    refine Ev.succ_ (Ev.all_ fun k => ?_)
    have c1 : ¬ ((i : Int) < (L.length : Int)) := by omega
    simp only [laws_FnTypeTell.l0, c1, if_false]
   | succ d ih =>
    intro i hi
    have c1 : (i : Int) < (L.length : Int) := by omega
    have c2 : (0 : Int) ≤ (i : Int) := by omega
    have c4 : wrap64 ((i : Int) + 1) = ((i + 1 : Nat) : Int) := by rw [wr (by omega) (by omega)]; omega
    have inner : ∀ (f j : Nat), j + f = 3 → Ev (fun k => laws_FnTypeTell.l1 k (i : Int) (j : Int) L S) true := by
     intro f
     induction f with
     | zero =>
      intro j hj
      refine Ev.succ_ ?_
      have c5 : ¬ ((j : Int) < 3) := by omega
      simp only [laws_FnTypeTell.l1, c5, c4, if_false]
      exact ih (i + 1) (by omega)
     | succ f ihf =>
      intro j hj
      have c5 : (j : Int) < 3 := by omega
      have c6 : wrap64 ((j : Int) + 1) = ((j + 1 : Nat) : Int) := by rw [wr (by omega) (by omega)]; omega
      have hs := (lab_ok hL (i := i) (by omega)).1
      have hh : hostB (j : Int) = true := by simp [hostB]; omega
      refine Ev.succ_ ?_
      simp only [laws_FnTypeTell.l1, c5, if_true]
      refine Ev.bind (im_typeB L _ (by omega) (by rw [nTs_one]; simp [nTs_nil])) ?_
      rw [tell_is h4 hL (v := i) (h := j) (by omega) (by omega)]
      simp only [c1, c2, c6, if_true, lc_hasK hs hh, Option.bind_some, bne_self_eq_false, Bool.false_eq_true, if_false]
      exact ihf (j + 1) (by omega)
    refine Ev.succ_ ?_
    simp only [laws_FnTypeTell.l0, c1, if_true]
    exact inner 3 0 (by omega)
  exact outer L.length 0 (by omega)
end Go.Proofs.Ythidgkfgdkjghaa.Pure
