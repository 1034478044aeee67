/- The pure statement of FnExactRunSets; written by wip/tools/row.py. -/
import Derived.Test.YtcndpbegmdcelaaAx49
import Derived.Test.YtcndpbegmdcelaaTy
namespace Go.Proofs.Ytcndpbegmdcelaa.A
open Go.RowKit Go.Proofs.YtcndpbegmdcelaaW.PrintWords Go.Proofs.YtcndpbegmdcelaaW.PrintLast
def laws_FnExactRunSets.Stm : Prop := ∀ (l0_0 : List (Int)) (l0_1 : List (S107)) (l0_2 : List (S109)) (l1 : List (Bool)), (l0_0.length ≤ maxLen ∧ ∀ y ∈ l0_0, (Lit.int .i64 y).wf = true) → (l0_1.length ≤ maxLen ∧ ∀ y ∈ l0_1, W107 y) → (l0_2.length ≤ maxLen ∧ ∀ y ∈ l0_2, W109 y) → (l1.length ≤ maxLen ∧ ∀ y ∈ l1, True) → ∃ k, laws_FnExactRunSets.f k l0_0 l0_1 l0_2 l1 = some true
end Go.Proofs.Ytcndpbegmdcelaa.A
