/- The law FnTypeSet: a variable may be set by another one just if that may become it; so it is of what is done by that; for the program that every code draws; codes of more than 1048576 bytes are asked nothing. -/
import Derived.Test.YtkkdeojbkfjlpaaAx0
import Derived.Test.YtkkdeojbkfjlpaaAx33
import Derived.Test.YtkkdeojbkfjlpaaStmFnTypeSet
import Derived.Test.YtkkdeojbkfjlpaaMD
import Derived.Test.YtkkdeojbkfjlpaaImFl
-- uses StmFnTypeSet OkEv KnowsEv ImFl
namespace Go.Proofs.Ytkkdeojbkfjlpaa.Pure
open Go.RowKit Go.Proofs.YtkkdeojbkfjlpaaW.PrintWords Go.Proofs.YtkkdeojbkfjlpaaW.PrintLast Go.Proofs.YtkkdeojbkfjlpaaW.PrintMore Go.Proofs.Ytkkdeojbkfjlpaa.A
section
variable {L : List S35} (h4 : L.length ≤ 4) (hL : L.all (fun x => okL x.f0 x.f1) = true) {v w : Nat} (hv : v < L.length) (hw : w < L.length)
include h4 hL hv hw
theorem set_one : typeB L [(⟨1, (v : Int), ⟨2, (w : Int), 0⟩, 0, [], []⟩ : S40)] = flowsB (D35 L (w : Int)).f0 (D35 L (w : Int)).f1 (D35 L (v : Int)).f0 (D35 L (v : Int)).f1 := by
 have vb : varB (L.length : Int) (v : Int) = true := by simp [varB]; omega
 have wb : varB (L.length : Int) (w : Int) = true := by simp [varB]; omega
 obtain ⟨a1, a2⟩ := lab_ok hL hv
 obtain ⟨b1, b2⟩ := lab_ok hL hw
 have hp : progB L [(⟨1, (v : Int), ⟨2, (w : Int), 0⟩, 0, [], []⟩ : S40)] = true := by
  unfold progB
  rw [okTs, okTs, okT_eq, nTs_one, nTs_nil, hL]
  simp [h4, vb, wb, valB]
 rw [typeB_ok hp, allB, alTs, alTs, alT_eq, alTs, laTs, laTs, laT_eq, laTs]
 simp [fineB, varsOf, foldS, bA_7l b1, bA_7l b2, flowsB, okL, a1, a2, b1, b2]
theorem set_two : typeB L [(⟨2, (w : Int), ⟨0, 0, 0⟩, 0, [], [(⟨1, (v : Int), ⟨1, 0, 0⟩, 0, [], []⟩ : S40)]⟩ : S40)] = flowsB (D35 L (w : Int)).f0 (D35 L (w : Int)).f1 (D35 L (v : Int)).f0 (D35 L (v : Int)).f1 := by
 have vb : varB (L.length : Int) (v : Int) = true := by simp [varB]; omega
 have wb : varB (L.length : Int) (w : Int) = true := by simp [varB]; omega
 obtain ⟨a1, a2⟩ := lab_ok hL hv
 obtain ⟨b1, b2⟩ := lab_ok hL hw
 have hp : progB L [(⟨2, (w : Int), ⟨0, 0, 0⟩, 0, [], [(⟨1, (v : Int), ⟨1, 0, 0⟩, 0, [], []⟩ : S40)]⟩ : S40)] = true := by
  unfold progB
  rw [okTs, okTs, okT_eq, nTs_one, hL]
  simp only [nTs_one, nTs_nil]
  simp [h4, vb, wb, valB, okTs, okT_eq]
 rw [typeB_ok hp, allB, alTs, alTs, alT_eq, laTs, laTs, laT_eq]
 simp [alTs, alT_eq, laTs, laT_eq, fineB, varsOf, foldS, bA_7l b1, bA_7l b2, flowsB, okL, a1, a2, b1, b2]
end
theorem FnTypeSet : laws_FnTypeSet.Stm := by
 intro l w
 refine Ev.rounds ?_
 have hl : ∀ x ∈ l, 0 ≤ x ∧ x ≤ 255 := fun x hx => u8_of (w.2 x hx)
 unfold laws_FnTypeSet.f
 by_cases c : (l.length : Int) > 1048576
 ·simp only [c, if_true]
  exact Ev.now _
 simp only [c, if_false]
 obtain ⟨L, S, e, e1, e2⟩ := drawTypeOk_ev hl
 have im := im_typeB L S (by omega) (by omega)
 have sp := sp_typeB L S (by omega) (by omega)
 refine Ev.bind e (Ev.bind im (Ev.bind sp ?_))
 simp only [bne_self_eq_false, Bool.false_eq_true, if_false]
 refine Ev.bind (sp_progOk L S (by omega) (by omega)) (Ev.succ_ ?_)
 cases hk : progB L S with
 | false =>
  simp only [laws_FnTypeSet.j0, Bool.not_false, if_true]
  refine Ev.bind im (Ev.bind sp (Ev.all_ fun _ => ?_))
  rw [beq_self_eq_true]
 | true =>
  simp only [laws_FnTypeSet.j0, Bool.not_true, Bool.false_eq_true, if_false]
  obtain ⟨h4, hL, _, _⟩ := progB_parts hk
  have outer : ∀ (d i : Nat), i + d = L.length → Ev (fun k => laws_FnTypeSet.l0 k (i : Int) L S) true := by
   intro d
   induction d with
   | zero =>
    intro i hi
    refine Ev.succ_ (Ev.all_ fun k => ?_)
    have c1 : ¬ ((i : Int) < (L.length : Int)) := by omega
    simp only [laws_FnTypeSet.l0, c1, if_false]
   | succ d ih =>
    intro i hi
    have c1 : (i : Int) < (L.length : Int) := by omega
    have c2 : (0 : Int) ≤ (i : Int) := by omega
    have c4 : wrap64 ((i : Int) + 1) = ((i + 1 : Nat) : Int) := by rw [wr (by omega) (by omega)]; omega
    have inner : ∀ (f j : Nat), j + f = L.length → Ev (fun k => laws_FnTypeSet.l1 k (i : Int) (j : Int) L S) true := by
     intro f
     induction f with
     | zero =>
      intro j hj
      refine Ev.succ_ ?_
      have c5 : ¬ ((j : Int) < (L.length : Int)) := by omega
      simp only [laws_FnTypeSet.l1, c5, c4, if_false]
      exact ih (i + 1) (by omega)
     | succ f ihf =>
      intro j hj
      have c5 : (j : Int) < (L.length : Int) := by omega
      have c7 : (0 : Int) ≤ (j : Int) := by omega
      have c6 : wrap64 ((j : Int) + 1) = ((j + 1 : Nat) : Int) := by rw [wr (by omega) (by omega)]; omega
      refine Ev.succ_ ?_
      simp only [laws_FnTypeSet.l1, c1, c2, c5, c7, if_true, im_flows, Option.bind_some]
      refine Ev.bind (im_typeB L _ (by omega) (by rw [nTs_one]; simp [nTs_nil])) ?_
      rw [set_one h4 hL (v := i) (w := j) (by omega) (by omega)]
      simp only [bne_self_eq_false, Bool.false_eq_true, if_false]
      refine Ev.bind (im_typeB L _ (by omega) (by simp [nTs_one, nTs_nil])) ?_
      rw [set_two h4 hL (v := i) (w := j) (by omega) (by omega)]
      simp only [bne_self_eq_false, Bool.false_eq_true, if_false, c6]
      exact ihf (j + 1) (by omega)
    refine Ev.succ_ ?_
    simp only [laws_FnTypeSet.l0, c1, if_true]
    exact inner L.length 0 (by omega)
  exact outer L.length 0 (by omega)
end Go.Proofs.Ytkkdeojbkfjlpaa.Pure
