/- The pure statement of FnRunSets; written by wip/tools/row.py. -/
import Derived.Test.YtdmejmdifnicmaaAx23
import Derived.Test.YtdmejmdifnicmaaTy
namespace Go.Proofs.Ytdmejmdifnicmaa.A
open Go.RowKit Go.Proofs.YtdmejmdifnicmaaW.PrintWords Go.Proofs.YtdmejmdifnicmaaW.PrintLast
def laws_FnRunSets.Stm : Prop := ∀ (l0 : List (Int)), (l0.length ≤ maxLen ∧ ∀ y ∈ l0, (Lit.int .u8 y).wf = true) → ∃ k, laws_FnRunSets.f k l0 = some true
end Go.Proofs.Ytdmejmdifnicmaa.A
