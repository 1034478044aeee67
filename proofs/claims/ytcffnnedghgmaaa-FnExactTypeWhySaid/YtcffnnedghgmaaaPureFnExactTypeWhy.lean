/- The law FnExactTypeWhy: TypeWhy of the program is the reference's, for all arguments; without conditions. -/
import Derived.Test.YtcffnnedghgmaaaAx41
import Derived.Test.YtcffnnedghgmaaaAx42
import Derived.Test.YtcffnnedghgmaaaStmFnExactTypeWhy
import Derived.Test.YtcffnnedghgmaaaTypeFine
-- uses StmFnExactTypeWhy TypeFine
namespace Go.Proofs.Ytcffnnedghgmaaa.Pure
open Go.RowKit Go.Proofs.YtcffnnedghgmaaaW.PrintWords Go.Proofs.YtcffnnedghgmaaaW.PrintLast Go.Proofs.YtcffnnedghgmaaaW.PrintMore Go.Proofs.Ytcffnnedghgmaaa.A
theorem FnExactTypeWhy : laws_FnExactTypeWhy.Stm := by
  intro a b w1 w2
  refine Ev.rounds ?_
  unfold laws_FnExactTypeWhy.f
  rcases szProg_ev a b w1.1 w2 with hs | ⟨r, hr, hs, l1, l2⟩
  · refine Ev.bind hs ?_
    simp only [show (-1 : Int) < 0 by omega, if_true]
    exact Ev.now _
  · refine Ev.bind hs ?_
    have n1 : ¬ r < 0 := by omega
    simp only [n1, if_false]
    have tp := toProg_ev a b l1 l2
    have l1' : (a.map cvLabel).length ≤ 1048576 := by simpa using l1
    have im : Ev (fun k => impl_TypeWhy.f k (a.map cvLabel) (cvTs b)) (if progB (a.map cvLabel) (cvTs b) = true then whyP (a.map cvLabel) (cvTs b) else (0, false)) := by
      unfold impl_TypeWhy.f
      refine Ev.bind (im_progOk _ _ l1' l2) ?_
      cases h : progB (a.map cvLabel) (cvTs b) with
      | false => simp only [Bool.false_eq_true, if_false]; exact Ev.now _
      | true => simp only [if_true]; exact Ev.bind (im_why _ _ h) (Ev.now _)
    refine Ev.bind tp (Ev.bind (sp_typeWhy _ _ l1' l2) (Ev.bind tp (Ev.bind im ?_)))
    simp only [if_true, bne_self_eq_false]
    refine Ev.succ_ ?_
    simp only [laws_FnExactTypeWhy.j0, Bool.false_eq_true, if_false]
    refine Ev.bind tp (Ev.bind (eqProg_ev _ _ l1' l2) ?_)
    simp only [if_true]
    exact Ev.now _
end Go.Proofs.Ytcffnnedghgmaaa.Pure
