/- The pure statement of FnExactTypeTrusts; written by wip/tools/row.py. -/
import Derived.Test.YtaflodibibbakaaAx18
import Derived.Test.YtaflodibibbakaaTy
namespace Go.Proofs.Ytaflodibibbakaa.A
open Go.RowKit Go.Proofs.YtaflodibibbakaaW.PrintWords Go.Proofs.YtaflodibibbakaaW.PrintLast
def laws_FnExactTypeTrusts.Stm : Prop := ∀ (l0_0 : List (S83)) (l0_1 : List (S79)) (a1 : Int), (l0_0.length ≤ maxLen ∧ ∀ y ∈ l0_0, W83 y) → (l0_1.length ≤ maxLen ∧ ∀ y ∈ l0_1, W79 y) → (Lit.int .i64 a1).wf = true → ∃ k, laws_FnExactTypeTrusts.f k l0_0 l0_1 a1 = some true
end Go.Proofs.Ytaflodibibbakaa.A
