/- The pure statement of FnExactLabelEither; written by wip/tools/row.py. -/
import Derived.Test.YtcndpbegmdcelaaAx6
import Derived.Test.YtcndpbegmdcelaaTy
namespace Go.Proofs.Ytcndpbegmdcelaa.A
open Go.RowKit Go.Proofs.YtcndpbegmdcelaaW.PrintWords Go.Proofs.YtcndpbegmdcelaaW.PrintLast
def laws_FnExactLabelEither.Stm : Prop := ∀ (a0_0 : Int) (a0_1 : Int) (a1_0 : Int) (a1_1 : Int), (Lit.int .i64 a0_0).wf = true → (Lit.int .i64 a0_1).wf = true → (Lit.int .i64 a1_0).wf = true → (Lit.int .i64 a1_1).wf = true → ∃ k, laws_FnExactLabelEither.f k a0_0 a0_1 a1_0 a1_1 = some true
end Go.Proofs.Ytcndpbegmdcelaa.A
