/- The pure statement of FnTypeAt; written by wip/tools/row.py. -/
import Derived.Test.YthidgkfgdkjghaaAx45
import Derived.Test.YthidgkfgdkjghaaTy
namespace Go.Proofs.Ythidgkfgdkjghaa.A
open Go.RowKit Go.Proofs.YthidgkfgdkjghaaW.PrintWords Go.Proofs.YthidgkfgdkjghaaW.PrintLast
def laws_FnTypeAt.Stm : Prop := ∀ (l0 : List (Int)), (l0.length ≤ maxLen ∧ ∀ y ∈ l0, (Lit.int .u8 y).wf = true) → ∃ k, laws_FnTypeAt.f k l0 = some true
end Go.Proofs.Ythidgkfgdkjghaa.A
