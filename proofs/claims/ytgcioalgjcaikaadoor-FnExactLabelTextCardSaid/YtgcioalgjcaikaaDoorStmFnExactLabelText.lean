/- The pure statement of FnExactLabelText; written by wip/tools/row.py. -/
import Derived.Test.YtgcioalgjcaikaaDoorAx6
import Derived.Test.YtgcioalgjcaikaaDoorTy
namespace Go.Proofs.YtgcioalgjcaikaaDoor.A
open Go.RowKit Go.Proofs.YtgcioalgjcaikaaDoorW.PrintWords Go.Proofs.YtgcioalgjcaikaaDoorW.PrintLast
def laws_FnExactLabelText.Stm : Prop := ∀ (a0_0 : Int) (a0_1 : Int), (Lit.int .i64 a0_0).wf = true → (Lit.int .i64 a0_1).wf = true → ∃ k, laws_FnExactLabelText.f k a0_0 a0_1 = some true
end Go.Proofs.YtgcioalgjcaikaaDoor.A
