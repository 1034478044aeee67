/- The pure statement of FnLabelBack; written by wip/tools/row.py. -/
import Derived.Test.YtgcioalgjcaikaaDoorAx14
import Derived.Test.YtgcioalgjcaikaaDoorTy
namespace Go.Proofs.YtgcioalgjcaikaaDoor.A
open Go.RowKit Go.Proofs.YtgcioalgjcaikaaDoorW.PrintWords Go.Proofs.YtgcioalgjcaikaaDoorW.PrintLast
def laws_FnLabelBack.Stm : Prop := ∀ (l0 : List (Int)), (l0.length ≤ maxLen ∧ ∀ y ∈ l0, (Lit.int .u8 y).wf = true) → ∃ k, laws_FnLabelBack.f k l0 = some true
end Go.Proofs.YtgcioalgjcaikaaDoor.A
