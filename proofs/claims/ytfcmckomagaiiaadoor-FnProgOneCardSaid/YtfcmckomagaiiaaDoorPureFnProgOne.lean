/- The law FnProgOne: two programs are the same just if their texts are, for the programs that every two codes draw; codes of more than 1048576 bytes are asked nothing. -/
import Derived.Test.YtfcmckomagaiiaaDoorAx28
import Derived.Test.YtfcmckomagaiiaaDoorAx30
import Derived.Test.YtfcmckomagaiiaaDoorStmFnProgOne
import Derived.Test.YtfcmckomagaiiaaDoorME
import Derived.Test.YtfcmckomagaiiaaDoorMD
-- uses StmFnProgOne OneEv DrawAny
namespace Go.Proofs.YtfcmckomagaiiaaDoor.Pure
open Go.RowKit Go.Proofs.YtfcmckomagaiiaaDoorW.PrintWords Go.Proofs.YtfcmckomagaiiaaDoorW.PrintLast Go.Proofs.YtfcmckomagaiiaaDoorW.PrintMore Go.Proofs.YtfcmckomagaiiaaDoor.A
theorem drawText_ev {l : List Int} (hl : ∀ x ∈ l, 0 ≤ x ∧ x ≤ 255) : ∃ L S, Ev (fun k => spec_DrawProgText.f k l) (L, S) ∧ L.length ≤ 8 ∧ nTs S ≤ 2000 := by
 obtain ⟨b, hb, h0⟩ := open_ev hl
 obtain ⟨L, S, q, e, e1, e2, e3, e4⟩ := any_ev hb 0 (by omega) (by omega)
 refine ⟨L, S, ?_, by omega, by omega⟩
 unfold spec_DrawProgText.f
 rw [h0]
 simp only [Option.bind_some]
 exact Ev.bind e (Ev.now _)
theorem FnProgOne : laws_FnProgOne.Stm := by
 intro l m w1 w2
 refine Ev.rounds ?_
 have hl : ∀ x ∈ l, 0 ≤ x ∧ x ≤ 255 := fun x hx => u8_of (w1.2 x hx)
 have hm : ∀ x ∈ m, 0 ≤ x ∧ x ≤ 255 := fun x hx => u8_of (w2.2 x hx)
 have out : Ev (fun k => laws_FnProgOne.j0 k l m true) true := Ev.succ_ (Ev.all_ fun k => by simp only [laws_FnProgOne.j0, if_true])
 unfold laws_FnProgOne.f
 by_cases c : (l.length : Int) > 1048576
 ·simp only [c, if_true]
  exact out
 simp only [c, if_false]
 by_cases c' : (m.length : Int) > 1048576
 ·simp only [c', decide_true]
  exact out
 simp only [c', decide_false]
 obtain ⟨L, S, e, e1, e2⟩ := drawText_ev hl
 obtain ⟨L', S', e', e1', e2'⟩ := drawText_ev hm
 have sp := sp_textP L S (by omega) (by omega)
 have sp' := sp_textP L' S' (by omega) (by omega)
 have im := im_textP L S (by omega) (by omega)
 have im' := im_textP L' S' (by omega) (by omega)
 have no : Ev (fun k => laws_FnProgOne.j1 k (textP L S) (textP L' S') true L S L' S') true := by
  refine Ev.succ_ ?_
  simp only [laws_FnProgOne.j1, if_true]
  refine Ev.bind sp ?_
  simp only [if_true]
  refine Ev.bind sp' ?_
  simp only [beq_self_eq_true]
  exact Ev.now _
 refine Ev.succ_ ?_
 simp only [laws_FnProgOne.j0, Bool.false_eq_true, if_false]
 refine Ev.bind e (Ev.bind e' (Ev.bind im (Ev.bind im' (Ev.bind sp ?_))))
 simp only [if_true]
 refine Ev.bind sp' ?_
 simp only [if_true]
 refine Ev.bind (sp_progOk L S (by omega) (by omega)) ?_
 cases hk : progB L S with
 | false => simp only [Bool.false_eq_true, if_false]; exact no
 | true =>
  simp only [if_true]
  refine Ev.bind (sp_progOk L' S' (by omega) (by omega)) ?_
  cases hk' : progB L' S' with
  | false => simp only [Bool.not_false]; exact no
  | true =>
   simp only [Bool.not_true]
   refine Ev.succ_ ?_
   simp only [laws_FnProgOne.j1, Bool.false_eq_true, if_false]
   refine Ev.bind (lcProg_ev L S L' S' (by omega) (by omega)) (Ev.eq_ (Ev.now _) ?_)
   by_cases d : (L, S) = (L', S')
   ·injection d with d1 d2
    subst d1 d2
    rw [same_yes rfl, beq_self_eq_true]
    rfl
   ·have q : ((textP L S).toList == (textP L' S').toList) = false := beq_eq_false_iff_ne.mpr fun q => by
     rw [Lib.toList_data, Lib.toList_data] at q
     obtain ⟨q1, q2⟩ := text_inj hk hk' q
     exact d (by rw [q1, q2])
    rw [same_no d, q]
    rfl
end Go.Proofs.YtfcmckomagaiiaaDoor.Pure
