/- The pure statement of FnLabelEnds; written by wip/tools/row.py. -/
import Derived.Test.YtcndpbegmdcelaaAx54
import Derived.Test.YtcndpbegmdcelaaTy
namespace Go.Proofs.Ytcndpbegmdcelaa.A
open Go.RowKit Go.Proofs.YtcndpbegmdcelaaW.PrintWords Go.Proofs.YtcndpbegmdcelaaW.PrintLast
def laws_FnLabelEnds.Stm : Prop := ∀ (l0 : List (Int)), (l0.length ≤ maxLen ∧ ∀ y ∈ l0, (Lit.int .u8 y).wf = true) → ∃ k, laws_FnLabelEnds.f k l0 = some true
end Go.Proofs.Ytcndpbegmdcelaa.A
