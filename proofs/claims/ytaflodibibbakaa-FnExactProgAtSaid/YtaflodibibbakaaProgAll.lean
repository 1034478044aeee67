/- Plain facts on programs: their size, their copy, themselves equal to themselves; in form, for the program and for the reference. -/
import Derived.Test.YtaflodibibbakaaBx0
import Derived.Test.YtaflodibibbakaaBx2
import Derived.Test.YtaflodibibbakaaBx3
import Derived.Test.YtaflodibibbakaaBx6
import Derived.Test.YtaflodibibbakaaProgB
import Derived.Test.YtaflodibibbakaaStepsTo
import Derived.Test.YtaflodibibbakaaSLabel
-- uses ProgB StepsTo SLabel
namespace Go.Proofs.Ytaflodibibbakaa.B
open Go.RowKit Go.Proofs.YtaflodibibbakaaW.PrintWords Go.Proofs.YtaflodibibbakaaW.PrintLast Go.Proofs.YtaflodibibbakaaW.PrintMore
theorem szProg_ev (a : List S83) (b : List S79) (h1 : a.length ≤ maxLen) (h2 : WL b) :
  Ev (fun k => laws_szProg.f k a b 1048576) (-1) ∨ (∃ r : Int, 0 ≤ r ∧ Ev (fun k => laws_szProg.f k a b 1048576) r ∧ a.length ≤ 1048576 ∧ nTs (cvTs b) ≤ 1048576) := by
 unfold maxLen at h1
 have w1 : wrap64 (1048576 - (a.length : Int)) = 1048576 - (a.length : Int) := wr (by omega) (by omega)
 unfold laws_szProg.f laws_szLabelS.f
 rw [w1]
 by_cases c1 : 1048576 - (a.length : Int) < 0
 ·left; simp [c1]; exact Ev.now _
 ·simp only [c1, if_false, Option.bind_some]
  have e := szS_ev b h2 (1048576 - (a.length : Int)) (by omega) (by omega)
  by_cases c2 : (nTs (cvTs b) : Int) ≤ 1048576 - (a.length : Int)
  ·right
   have e2 : szR (1048576 - (a.length : Int)) (nTs (cvTs b)) = 1048576 - (a.length : Int) - nTs (cvTs b) := if_pos c2
   have n2 : ¬ (1048576 - (a.length : Int) - (nTs (cvTs b) : Int) < 0) := by omega
   rw [e2] at e
   refine ⟨1048576 - (a.length : Int) - nTs (cvTs b), by omega, Ev.bind e ?_, by omega, by omega⟩
   simp only [n2, if_false]
   exact Ev.now _
  ·left
   have e2 : szR (1048576 - (a.length : Int)) (nTs (cvTs b)) = -1 := if_neg c2
   rw [e2] at e
   refine Ev.bind e ?_
   simp only [show (-1 : Int) < 0 by omega, if_true]
   exact Ev.now _
theorem toProg_ev (a : List S83) (b : List S79) (h1 : a.length ≤ 1048576) (h2 : nTs (cvTs b) ≤ 1048576) : Ev (fun k => laws_toProg.f k a b) (a.map cvLabel, cvTs b) := by
 unfold laws_toProg.f
 exact Ev.bind (toLabelS_ev a (by omega)) (Ev.bind (toSteps_ev b h2) (Ev.now _))
theorem eqProg_ev (a : List S60) (b : List S50) (h1 : a.length ≤ 1048576) (h2 : nTs b ≤ 1048576) : Ev (fun k => laws_eqProg.f k a b a b) true := by
 unfold laws_eqProg.f
 refine Ev.bind (eqLabelS_ev a (by omega)) ?_
 simp only [if_true]
 refine Ev.bind (eqSteps_ev b h2) ?_
 simp only [if_true]
 exact Ev.now _
end Go.Proofs.Ytaflodibibbakaa.B
