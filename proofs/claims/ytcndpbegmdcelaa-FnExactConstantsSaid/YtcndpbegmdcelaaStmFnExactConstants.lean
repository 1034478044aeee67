/- The pure statement of FnExactConstants; written by wip/tools/row.py. -/
import Derived.Test.YtcndpbegmdcelaaAx1
import Derived.Test.YtcndpbegmdcelaaTy
namespace Go.Proofs.Ytcndpbegmdcelaa.A
open Go.RowKit Go.Proofs.YtcndpbegmdcelaaW.PrintWords Go.Proofs.YtcndpbegmdcelaaW.PrintLast
def laws_FnExactConstants.Stm : Prop := laws_FnExactConstants.f  = some true
end Go.Proofs.Ytcndpbegmdcelaa.A
