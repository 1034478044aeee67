/- The pure statement of FnExactTypeSets; written by wip/tools/row.py. -/
import Derived.Test.YtaflodibibbakaaAx31
import Derived.Test.YtaflodibibbakaaTy
namespace Go.Proofs.Ytaflodibibbakaa.A
open Go.RowKit Go.Proofs.YtaflodibibbakaaW.PrintWords Go.Proofs.YtaflodibibbakaaW.PrintLast
def laws_FnExactTypeSets.Stm : Prop := ∀ (l0_0 : List (S83)) (l0_1 : List (S79)), (l0_0.length ≤ maxLen ∧ ∀ y ∈ l0_0, W83 y) → (l0_1.length ≤ maxLen ∧ ∀ y ∈ l0_1, W79 y) → ∃ k, laws_FnExactTypeSets.f k l0_0 l0_1 = some true
end Go.Proofs.Ytaflodibibbakaa.A
