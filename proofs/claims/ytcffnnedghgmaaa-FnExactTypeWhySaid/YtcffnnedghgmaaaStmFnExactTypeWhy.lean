/- The pure statement of FnExactTypeWhy; written by wip/tools/row.py. -/
import Derived.Test.YtcffnnedghgmaaaAx42
import Derived.Test.YtcffnnedghgmaaaTy
namespace Go.Proofs.Ytcffnnedghgmaaa.A
open Go.RowKit Go.Proofs.YtcffnnedghgmaaaW.PrintWords Go.Proofs.YtcffnnedghgmaaaW.PrintLast
def laws_FnExactTypeWhy.Stm : Prop := ∀ (l0_0 : List (S114)) (l0_1 : List (S112)), (l0_0.length ≤ maxLen ∧ ∀ y ∈ l0_0, W114 y) → (l0_1.length ≤ maxLen ∧ ∀ y ∈ l0_1, W112 y) → ∃ k, laws_FnExactTypeWhy.f k l0_0 l0_1 = some true
end Go.Proofs.Ytcffnnedghgmaaa.A
