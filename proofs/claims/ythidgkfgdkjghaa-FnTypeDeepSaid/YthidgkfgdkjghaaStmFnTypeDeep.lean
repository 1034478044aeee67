/- The pure statement of FnTypeDeep; written by wip/tools/row.py. -/
import Derived.Test.YthidgkfgdkjghaaAx35
import Derived.Test.YthidgkfgdkjghaaTy
namespace Go.Proofs.Ythidgkfgdkjghaa.A
open Go.RowKit Go.Proofs.YthidgkfgdkjghaaW.PrintWords Go.Proofs.YthidgkfgdkjghaaW.PrintLast
def laws_FnTypeDeep.Stm : Prop := ∀ (l0 : List (Int)) (l1 : List (Int)), (l0.length ≤ maxLen ∧ ∀ y ∈ l0, (Lit.int .u8 y).wf = true) → (l1.length ≤ maxLen ∧ ∀ y ∈ l1, (Lit.int .u8 y).wf = true) → ∃ k, laws_FnTypeDeep.f k l0 l1 = some true
end Go.Proofs.Ythidgkfgdkjghaa.A
