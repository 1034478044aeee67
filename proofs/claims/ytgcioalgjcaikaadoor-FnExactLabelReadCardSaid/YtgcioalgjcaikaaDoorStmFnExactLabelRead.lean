/- The pure statement of FnExactLabelRead; written by wip/tools/row.py. -/
import Derived.Test.YtgcioalgjcaikaaDoorAx9
import Derived.Test.YtgcioalgjcaikaaDoorTy
namespace Go.Proofs.YtgcioalgjcaikaaDoor.A
open Go.RowKit Go.Proofs.YtgcioalgjcaikaaDoorW.PrintWords Go.Proofs.YtgcioalgjcaikaaDoorW.PrintLast
def laws_FnExactLabelRead.Stm : Prop := ∀ (a0 : ByteArray), a0.size ≤ maxLen → ∃ k, laws_FnExactLabelRead.f k a0 = some true
end Go.Proofs.YtgcioalgjcaikaaDoor.A
