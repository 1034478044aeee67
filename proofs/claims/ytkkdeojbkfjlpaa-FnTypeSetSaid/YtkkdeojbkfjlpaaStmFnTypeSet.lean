/- The pure statement of FnTypeSet; written by wip/tools/row.py. -/
import Derived.Test.YtkkdeojbkfjlpaaAx33
import Derived.Test.YtkkdeojbkfjlpaaTy
namespace Go.Proofs.Ytkkdeojbkfjlpaa.A
open Go.RowKit Go.Proofs.YtkkdeojbkfjlpaaW.PrintWords Go.Proofs.YtkkdeojbkfjlpaaW.PrintLast
def laws_FnTypeSet.Stm : Prop := ∀ (l0 : List (Int)), (l0.length ≤ maxLen ∧ ∀ y ∈ l0, (Lit.int .u8 y).wf = true) → ∃ k, laws_FnTypeSet.f k l0 = some true
end Go.Proofs.Ytkkdeojbkfjlpaa.A
