/- The pure statement of FnProgOne; written by wip/tools/row.py. -/
import Derived.Test.YtfcmckomagaiiaaDoorAx30
import Derived.Test.YtfcmckomagaiiaaDoorTy
namespace Go.Proofs.YtfcmckomagaiiaaDoor.A
open Go.RowKit Go.Proofs.YtfcmckomagaiiaaDoorW.PrintWords Go.Proofs.YtfcmckomagaiiaaDoorW.PrintLast
def laws_FnProgOne.Stm : Prop := ∀ (l0 : List (Int)) (l1 : List (Int)), (l0.length ≤ maxLen ∧ ∀ y ∈ l0, (Lit.int .u8 y).wf = true) → (l1.length ≤ maxLen ∧ ∀ y ∈ l1, (Lit.int .u8 y).wf = true) → ∃ k, laws_FnProgOne.f k l0 l1 = some true
end Go.Proofs.YtfcmckomagaiiaaDoor.A
