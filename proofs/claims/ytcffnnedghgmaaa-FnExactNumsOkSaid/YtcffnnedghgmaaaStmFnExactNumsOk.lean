/- The pure statement of FnExactNumsOk; written by wip/tools/row.py. -/
import Derived.Test.YtcffnnedghgmaaaAx30
import Derived.Test.YtcffnnedghgmaaaTy
namespace Go.Proofs.Ytcffnnedghgmaaa.A
open Go.RowKit Go.Proofs.YtcffnnedghgmaaaW.PrintWords Go.Proofs.YtcffnnedghgmaaaW.PrintLast
def laws_FnExactNumsOk.Stm : Prop := ∀ (l0_0 : List (S114)) (l0_1 : List (S112)) (l1 : List (Int)), (l0_0.length ≤ maxLen ∧ ∀ y ∈ l0_0, W114 y) → (l0_1.length ≤ maxLen ∧ ∀ y ∈ l0_1, W112 y) → (l1.length ≤ maxLen ∧ ∀ y ∈ l1, (Lit.int .i64 y).wf = true) → ∃ k, laws_FnExactNumsOk.f k l0_0 l0_1 l1 = some true
end Go.Proofs.Ytcffnnedghgmaaa.A
