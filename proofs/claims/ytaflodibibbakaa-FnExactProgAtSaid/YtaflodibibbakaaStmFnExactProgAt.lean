/- The pure statement of FnExactProgAt; written by wip/tools/row.py. -/
import Derived.Test.YtaflodibibbakaaBx20
import Derived.Test.YtaflodibibbakaaTy
namespace Go.Proofs.Ytaflodibibbakaa.B
open Go.RowKit Go.Proofs.YtaflodibibbakaaW.PrintWords Go.Proofs.YtaflodibibbakaaW.PrintLast
def laws_FnExactProgAt.Stm : Prop := ∀ (l0_0 : List (S83)) (l0_1 : List (S79)) (a1 : Int), (l0_0.length ≤ maxLen ∧ ∀ y ∈ l0_0, W83 y) → (l0_1.length ≤ maxLen ∧ ∀ y ∈ l0_1, W79 y) → (Lit.int .i64 a1).wf = true → ∃ k, laws_FnExactProgAt.f k l0_0 l0_1 a1 = some true
end Go.Proofs.Ytaflodibibbakaa.B
