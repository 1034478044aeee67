/- The pure statement of FnTurnSet; written by wip/tools/row.py. -/
import Derived.Test.YtcndpbegmdcelaaAx9
import Derived.Test.YtcndpbegmdcelaaTy
namespace Go.Proofs.Ytcndpbegmdcelaa.A
open Go.RowKit Go.Proofs.YtcndpbegmdcelaaW.PrintWords Go.Proofs.YtcndpbegmdcelaaW.PrintLast
def laws_FnTurnSet.Stm : Prop := ∀ (l0 : List (Int)), (l0.length ≤ maxLen ∧ ∀ y ∈ l0, (Lit.int .u8 y).wf = true) → ∃ k, laws_FnTurnSet.f k l0 = some true
end Go.Proofs.Ytcndpbegmdcelaa.A
