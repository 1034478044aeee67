/- The pure statement of FnRunTo; written by wip/tools/row.py. -/
import Derived.Test.YtdmejmdifnicmaaAx19
import Derived.Test.YtdmejmdifnicmaaTy
namespace Go.Proofs.Ytdmejmdifnicmaa.A
open Go.RowKit Go.Proofs.YtdmejmdifnicmaaW.PrintWords Go.Proofs.YtdmejmdifnicmaaW.PrintLast
def laws_FnRunTo.Stm : Prop := ∀ (l0 : List (Int)), (l0.length ≤ maxLen ∧ ∀ y ∈ l0, (Lit.int .u8 y).wf = true) → ∃ k, laws_FnRunTo.f k l0 = some true
end Go.Proofs.Ytdmejmdifnicmaa.A
