/- The pure statement of FnLabelStrict; written by wip/tools/row.py. -/
import Derived.Test.YtgcioalgjcaikaaDoorAx17
import Derived.Test.YtgcioalgjcaikaaDoorTy
namespace Go.Proofs.YtgcioalgjcaikaaDoor.A
open Go.RowKit Go.Proofs.YtgcioalgjcaikaaDoorW.PrintWords Go.Proofs.YtgcioalgjcaikaaDoorW.PrintLast
def laws_FnLabelStrict.Stm : Prop := ∀ (l0 : List (Int)), (l0.length ≤ maxLen ∧ ∀ y ∈ l0, (Lit.int .u8 y).wf = true) → ∃ k, laws_FnLabelStrict.f k l0 = some true
end Go.Proofs.YtgcioalgjcaikaaDoor.A
