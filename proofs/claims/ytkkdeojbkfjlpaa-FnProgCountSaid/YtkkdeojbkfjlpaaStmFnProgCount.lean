/- The pure statement of FnProgCount; written by wip/tools/row.py. -/
import Derived.Test.YtkkdeojbkfjlpaaAx30
import Derived.Test.YtkkdeojbkfjlpaaTy
namespace Go.Proofs.Ytkkdeojbkfjlpaa.A
open Go.RowKit Go.Proofs.YtkkdeojbkfjlpaaW.PrintWords Go.Proofs.YtkkdeojbkfjlpaaW.PrintLast
def laws_FnProgCount.Stm : Prop := ∀ (l0 : List (Int)), (l0.length ≤ maxLen ∧ ∀ y ∈ l0, (Lit.int .u8 y).wf = true) → ∃ k, laws_FnProgCount.f k l0 = some true
end Go.Proofs.Ytkkdeojbkfjlpaa.A
