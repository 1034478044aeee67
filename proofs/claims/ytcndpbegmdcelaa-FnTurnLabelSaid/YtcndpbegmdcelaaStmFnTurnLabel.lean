/- The pure statement of FnTurnLabel; written by wip/tools/row.py. -/
import Derived.Test.YtcndpbegmdcelaaAx63
import Derived.Test.YtcndpbegmdcelaaTy
namespace Go.Proofs.Ytcndpbegmdcelaa.A
open Go.RowKit Go.Proofs.YtcndpbegmdcelaaW.PrintWords Go.Proofs.YtcndpbegmdcelaaW.PrintLast
def laws_FnTurnLabel.Stm : Prop := ∀ (l0 : List (Int)) (l1 : List (Int)), (l0.length ≤ maxLen ∧ ∀ y ∈ l0, (Lit.int .u8 y).wf = true) → (l1.length ≤ maxLen ∧ ∀ y ∈ l1, (Lit.int .u8 y).wf = true) → ∃ k, laws_FnTurnLabel.f k l0 l1 = some true
end Go.Proofs.Ytcndpbegmdcelaa.A
