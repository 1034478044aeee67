/- The pure statement of FnProgAt; written by wip/tools/row.py. -/
import Derived.Test.YtkkdeojbkfjlpaaBx27
import Derived.Test.YtkkdeojbkfjlpaaTy
namespace Go.Proofs.Ytkkdeojbkfjlpaa.B
open Go.RowKit Go.Proofs.YtkkdeojbkfjlpaaW.PrintWords Go.Proofs.YtkkdeojbkfjlpaaW.PrintLast
def laws_FnProgAt.Stm : Prop := ∀ (l0 : List (Int)), (l0.length ≤ maxLen ∧ ∀ y ∈ l0, (Lit.int .u8 y).wf = true) → ∃ k, laws_FnProgAt.f k l0 = some true
end Go.Proofs.Ytkkdeojbkfjlpaa.B
