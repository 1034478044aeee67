/- Plain facts on a program that is written over: its labels, then its steps; what comes of it is a number that isn't negative. -/
import Derived.Test.YtaflodibibbakaaBx0
import Derived.Test.YtaflodibibbakaaBx7
import Derived.Test.YtaflodibibbakaaProgAll
import Derived.Test.YtaflodibibbakaaMarkLabel
-- uses ProgAll MarkLabel
namespace Go.Proofs.Ytaflodibibbakaa.B
open Go.RowKit Go.Proofs.YtaflodibibbakaaW.PrintWords Go.Proofs.YtaflodibibbakaaW.PrintLast Go.Proofs.YtaflodibibbakaaW.PrintMore
theorem mark_nTs : ∀ l : List S50, laws_markStepS.nTs l = nTs l := by
 intro l
 induction l using tree_ind with
 | _ l ih =>
  induction l with
  | nil => rw [nTs_nil]; rfl
  | cons s r ih2 =>
   have h1 := ih s (by simp)
   rw [nTs_cons, laws_markStepS.nTs, laws_markStepS.nT_eq, h1.1, h1.2, ih2 (fun x hx => ih x (List.mem_cons_of_mem _ hx))]
   omega
theorem markProg_ev (a : List S60) (b : List S50) (h1 : a.length ≤ 1048576) (h2 : nTs b ≤ 1048576) :
  ∃ m : Int, 0 ≤ m ∧ ∃ x, Ev (fun k => laws_markProg.f k a b 1) (m, x) := by
 refine ⟨1 + 2 * (a.length : Int) + 6 * (nTs b : Int), by omega, seqLabel 1 a.length, ?_⟩
 unfold laws_markProg.f
 refine Ev.bind (markLabel_ev a 1 (by omega) (by omega) (by omega)) ?_
 have c1 : (0 : Int) ≤ 1 + 2 * (a.length : Int) := by omega
 have c2 : 1 + 2 * (a.length : Int) + 6 * (nTs b : Int) ≤ 4611686018427387904 := by omega
 simp only [laws_markStepS.f, mark_nTs, c1, c2, if_true, Option.bind_some]
 exact Ev.now _
end Go.Proofs.Ytaflodibibbakaa.B
