/- The law FnExactProgOk: ProgOk of the program is the reference's, for all arguments; without conditions. -/
import Derived.Test.YtcffnnedghgmaaaAx24
import Derived.Test.YtcffnnedghgmaaaStmFnExactProgOk
import Derived.Test.YtcffnnedghgmaaaProgAll
-- uses StmFnExactProgOk ProgAll
namespace Go.Proofs.Ytcffnnedghgmaaa.Pure
open Go.RowKit Go.Proofs.YtcffnnedghgmaaaW.PrintWords Go.Proofs.YtcffnnedghgmaaaW.PrintLast Go.Proofs.YtcffnnedghgmaaaW.PrintMore Go.Proofs.Ytcffnnedghgmaaa.A
theorem FnExactProgOk : laws_FnExactProgOk.Stm := by
  intro a b w1 w2
  refine Ev.rounds ?_
  unfold laws_FnExactProgOk.f
  rcases szProg_ev a b w1.1 w2 with hs | ⟨r, hr, hs, l1, l2⟩
  · refine Ev.bind hs ?_
    simp only [show (-1 : Int) < 0 by omega, if_true]
    exact Ev.now _
  · refine Ev.bind hs ?_
    have n1 : ¬ r < 0 := by omega
    simp only [n1, if_false]
    have tp := toProg_ev a b l1 l2
    have l1' : (a.map cvLabel).length ≤ 1048576 := by simpa using l1
    refine Ev.bind tp (Ev.bind (sp_progOk _ _ l1' l2) (Ev.bind tp (Ev.bind (im_progOk _ _ l1' l2) ?_)))
    simp only [bne_self_eq_false, Bool.false_eq_true, if_false]
    refine Ev.bind tp (Ev.bind (eqProg_ev _ _ l1' l2) ?_)
    simp only [if_true]
    exact Ev.now _
end Go.Proofs.Ytcffnnedghgmaaa.Pure
