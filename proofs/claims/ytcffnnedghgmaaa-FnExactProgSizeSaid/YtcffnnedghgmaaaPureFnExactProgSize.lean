/- The law FnExactProgSize: ProgSize of the program is the reference's, for all arguments; without conditions. -/
import Derived.Test.YtcffnnedghgmaaaAx25
import Derived.Test.YtcffnnedghgmaaaAx26
import Derived.Test.YtcffnnedghgmaaaStmFnExactProgSize
import Derived.Test.YtcffnnedghgmaaaProgAll
-- uses StmFnExactProgSize ProgAll
namespace Go.Proofs.Ytcffnnedghgmaaa.Pure
open Go.RowKit Go.Proofs.YtcffnnedghgmaaaW.PrintWords Go.Proofs.YtcffnnedghgmaaaW.PrintLast Go.Proofs.YtcffnnedghgmaaaW.PrintMore Go.Proofs.Ytcffnnedghgmaaa.A
theorem FnExactProgSize : laws_FnExactProgSize.Stm := by
  intro a b w1 w2
  refine Ev.rounds ?_
  unfold laws_FnExactProgSize.f
  rcases szProg_ev a b w1.1 w2 with hs | ⟨r, hr, hs, l1, l2⟩
  · refine Ev.bind hs ?_
    simp only [show (-1 : Int) < 0 by omega, if_true]
    exact Ev.now _
  · refine Ev.bind hs ?_
    have n1 : ¬ r < 0 := by omega
    simp only [n1, if_false]
    have tp := toProg_ev a b l1 l2
    have l1' : (a.map cvLabel).length ≤ 1048576 := by simpa using l1
    have sp : Ev (fun k => spec_ProgSize.f k (a.map cvLabel) (cvTs b)) (if progB (a.map cvLabel) (cvTs b) = true then (nTs (cvTs b) : Int) else -1) := by
      unfold spec_ProgSize.f
      refine Ev.bind (sp_progOk _ _ l1' l2) ?_
      cases progB (a.map cvLabel) (cvTs b) with
      | false => simp only [Bool.false_eq_true, if_false]; exact Ev.now _
      | true => simp only [if_true]; exact Ev.bind (sp_count _ l2) (Ev.now _)
    have im : Ev (fun k => impl_ProgSize.f k (a.map cvLabel) (cvTs b)) (if progB (a.map cvLabel) (cvTs b) = true then (nTs (cvTs b) : Int) else -1) := by
      unfold impl_ProgSize.f
      refine Ev.bind (im_progOk _ _ l1' l2) ?_
      cases progB (a.map cvLabel) (cvTs b) with
      | false => simp only [Bool.false_eq_true, if_false]; exact Ev.now _
      | true => simp only [if_true]; exact Ev.bind (im_size _ l2) (Ev.now _)
    refine Ev.bind tp (Ev.bind sp (Ev.bind tp (Ev.bind im ?_)))
    simp only [if_true]
    refine Ev.bind tp (Ev.bind (eqProg_ev _ _ l1' l2) ?_)
    simp only [if_true]
    exact Ev.now _
end Go.Proofs.Ytcffnnedghgmaaa.Pure
