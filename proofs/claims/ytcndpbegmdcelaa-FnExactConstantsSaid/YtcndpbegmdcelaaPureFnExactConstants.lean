/- The law FnExactConstants: the program's constants are the reference's; without conditions. -/
import Derived.Test.YtcndpbegmdcelaaStmFnExactConstants
-- uses StmFnExactConstants 
namespace Go.Proofs.Ytcndpbegmdcelaa.Pure
open Go.RowKit Go.Proofs.YtcndpbegmdcelaaW.PrintWords Go.Proofs.YtcndpbegmdcelaaW.PrintLast Go.Proofs.Ytcndpbegmdcelaa.A
theorem FnExactConstants : laws_FnExactConstants.Stm := rfl
end Go.Proofs.Ytcndpbegmdcelaa.Pure
