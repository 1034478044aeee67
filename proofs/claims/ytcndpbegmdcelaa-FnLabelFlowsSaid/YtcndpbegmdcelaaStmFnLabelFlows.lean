/- The pure statement of FnLabelFlows; written by wip/tools/row.py. -/
import Derived.Test.YtcndpbegmdcelaaAx59
import Derived.Test.YtcndpbegmdcelaaTy
namespace Go.Proofs.Ytcndpbegmdcelaa.A
open Go.RowKit Go.Proofs.YtcndpbegmdcelaaW.PrintWords Go.Proofs.YtcndpbegmdcelaaW.PrintLast
def laws_FnLabelFlows.Stm : Prop := ∀ (l0 : List (Int)), (l0.length ≤ maxLen ∧ ∀ y ∈ l0, (Lit.int .u8 y).wf = true) → ∃ k, laws_FnLabelFlows.f k l0 = some true
end Go.Proofs.Ytcndpbegmdcelaa.A
