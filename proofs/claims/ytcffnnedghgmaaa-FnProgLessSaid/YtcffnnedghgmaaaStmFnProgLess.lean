/- The pure statement of FnProgLess; written by wip/tools/row.py. -/
import Derived.Test.YtcffnnedghgmaaaAx18
import Derived.Test.YtcffnnedghgmaaaTy
namespace Go.Proofs.Ytcffnnedghgmaaa.A
open Go.RowKit Go.Proofs.YtcffnnedghgmaaaW.PrintWords Go.Proofs.YtcffnnedghgmaaaW.PrintLast
def laws_FnProgLess.Stm : Prop := ∀ (l0 : List (Int)) (l1 : List (Int)), (l0.length ≤ maxLen ∧ ∀ y ∈ l0, (Lit.int .u8 y).wf = true) → (l1.length ≤ maxLen ∧ ∀ y ∈ l1, (Lit.int .u8 y).wf = true) → ∃ k, laws_FnProgLess.f k l0 l1 = some true
end Go.Proofs.Ytcffnnedghgmaaa.A
