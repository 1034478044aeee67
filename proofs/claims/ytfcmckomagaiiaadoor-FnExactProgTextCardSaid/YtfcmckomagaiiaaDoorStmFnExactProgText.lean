/- The pure statement of FnExactProgText; written by wip/tools/row.py. -/
import Derived.Test.YtfcmckomagaiiaaDoorAx18
import Derived.Test.YtfcmckomagaiiaaDoorTy
namespace Go.Proofs.YtfcmckomagaiiaaDoor.A
open Go.RowKit Go.Proofs.YtfcmckomagaiiaaDoorW.PrintWords Go.Proofs.YtfcmckomagaiiaaDoorW.PrintLast
def laws_FnExactProgText.Stm : Prop := ∀ (l0_0 : List (S74)) (l0_1 : List (S67)), (l0_0.length ≤ maxLen ∧ ∀ y ∈ l0_0, W74 y) → (l0_1.length ≤ maxLen ∧ ∀ y ∈ l0_1, W67 y) → ∃ k, laws_FnExactProgText.f k l0_0 l0_1 = some true
end Go.Proofs.YtfcmckomagaiiaaDoor.A
