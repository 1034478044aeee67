/- The pure statement of FnExactRunTo; written by wip/tools/row.py. -/
import Derived.Test.YtcndpbegmdcelaaAx14
import Derived.Test.YtcndpbegmdcelaaTy
namespace Go.Proofs.Ytcndpbegmdcelaa.A
open Go.RowKit Go.Proofs.YtcndpbegmdcelaaW.PrintWords Go.Proofs.YtcndpbegmdcelaaW.PrintLast
def laws_FnExactRunTo.Stm : Prop := ∀ (l0_0 : List (Int)) (l0_1 : List (S107)) (l0_2 : List (S109)) (a1 : Int), (l0_0.length ≤ maxLen ∧ ∀ y ∈ l0_0, (Lit.int .i64 y).wf = true) → (l0_1.length ≤ maxLen ∧ ∀ y ∈ l0_1, W107 y) → (l0_2.length ≤ maxLen ∧ ∀ y ∈ l0_2, W109 y) → (Lit.int .i64 a1).wf = true → ∃ k, laws_FnExactRunTo.f k l0_0 l0_1 l0_2 a1 = some true
end Go.Proofs.Ytcndpbegmdcelaa.A
