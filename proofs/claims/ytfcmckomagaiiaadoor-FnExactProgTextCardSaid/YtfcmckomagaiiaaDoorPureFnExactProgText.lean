/- The law FnExactProgText: ProgText of the program is the reference's, for all arguments; without conditions. -/
import Derived.Test.YtfcmckomagaiiaaDoorAx18
import Derived.Test.YtfcmckomagaiiaaDoorStmFnExactProgText
import Derived.Test.YtfcmckomagaiiaaDoorTextEv
import Derived.Test.YtfcmckomagaiiaaDoorProgAll
-- uses StmFnExactProgText TextEv ProgAll
namespace Go.Proofs.YtfcmckomagaiiaaDoor.Pure
open Go.RowKit Go.Proofs.YtfcmckomagaiiaaDoorW.PrintWords Go.Proofs.YtfcmckomagaiiaaDoorW.PrintLast Go.Proofs.YtfcmckomagaiiaaDoorW.PrintMore Go.Proofs.YtfcmckomagaiiaaDoor.A
theorem FnExactProgText : laws_FnExactProgText.Stm := by
 intro a b w1 w2
 refine Ev.rounds ?_
 unfold laws_FnExactProgText.f
 rcases szProg_ev a b w1.1 w2 with hs | ⟨r, hr, hs, l1, l2⟩
 ·refine Ev.bind hs ?_
  simp only [show (-1 : Int) < 0 by omega, if_true]
  exact Ev.now _
 ·refine Ev.bind hs ?_
  have n1 : ¬ r < 0 := by omega
  simp only [n1, if_false]
  have tp := toProg_ev a b l1 l2
  have l1' : (a.map cvLabel).length ≤ 1048576 := by simpa using l1
  refine Ev.bind tp (Ev.bind (sp_textP (a.map cvLabel) (cvTs b) l1' l2) (Ev.bind tp (Ev.bind (im_textP (a.map cvLabel) (cvTs b) l1' l2) ?_)))
  simp only [if_true]
  refine Ev.bind tp (Ev.bind (eqProg_ev _ _ l1' l2) ?_)
  simp only [if_true]
  exact Ev.now _
end Go.Proofs.YtfcmckomagaiiaaDoor.Pure
