/- The pure statement of FnLabelLaws; written by wip/tools/row.py. -/
import Derived.Test.YtcndpbegmdcelaaAx60
import Derived.Test.YtcndpbegmdcelaaTy
namespace Go.Proofs.Ytcndpbegmdcelaa.A
open Go.RowKit Go.Proofs.YtcndpbegmdcelaaW.PrintWords Go.Proofs.YtcndpbegmdcelaaW.PrintLast
def laws_FnLabelLaws.Stm : Prop := ∀ (l0 : List (Int)), (l0.length ≤ maxLen ∧ ∀ y ∈ l0, (Lit.int .u8 y).wf = true) → ∃ k, laws_FnLabelLaws.f k l0 = some true
end Go.Proofs.Ytcndpbegmdcelaa.A
