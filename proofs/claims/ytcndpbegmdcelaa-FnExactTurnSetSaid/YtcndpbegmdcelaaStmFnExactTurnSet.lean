/- The pure statement of FnExactTurnSet; written by wip/tools/row.py. -/
import Derived.Test.YtcndpbegmdcelaaAx7
import Derived.Test.YtcndpbegmdcelaaTy
namespace Go.Proofs.Ytcndpbegmdcelaa.A
open Go.RowKit Go.Proofs.YtcndpbegmdcelaaW.PrintWords Go.Proofs.YtcndpbegmdcelaaW.PrintLast
def laws_FnExactTurnSet.Stm : Prop := ∀ (a0 : Int) (l1 : List (Int)), (Lit.int .i64 a0).wf = true → (l1.length ≤ maxLen ∧ ∀ y ∈ l1, (Lit.int .i64 y).wf = true) → ∃ k, laws_FnExactTurnSet.f k a0 l1 = some true
end Go.Proofs.Ytcndpbegmdcelaa.A
