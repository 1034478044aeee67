/- The pure statement of FnExactLabelBoth; written by wip/tools/row.py. -/
import Derived.Test.YtcndpbegmdcelaaAx4
import Derived.Test.YtcndpbegmdcelaaTy
namespace Go.Proofs.Ytcndpbegmdcelaa.A
open Go.RowKit Go.Proofs.YtcndpbegmdcelaaW.PrintWords Go.Proofs.YtcndpbegmdcelaaW.PrintLast
def laws_FnExactLabelBoth.Stm : Prop := ∀ (a0_0 : Int) (a0_1 : Int) (a1_0 : Int) (a1_1 : Int), (Lit.int .i64 a0_0).wf = true → (Lit.int .i64 a0_1).wf = true → (Lit.int .i64 a1_0).wf = true → (Lit.int .i64 a1_1).wf = true → ∃ k, laws_FnExactLabelBoth.f k a0_0 a0_1 a1_0 a1_1 = some true
end Go.Proofs.Ytcndpbegmdcelaa.A
