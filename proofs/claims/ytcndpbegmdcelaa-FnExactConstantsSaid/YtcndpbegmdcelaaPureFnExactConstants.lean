/- The law FnExactConstants: the program's constants are the reference's, for all arguments; without conditions. -/
import Derived.Test.YtcndpbegmdcelaaStmFnExactConstants
namespace Go.Proofs.Ytcndpbegmdcelaa.Pure
open Go.Proofs.Ytcndpbegmdcelaa.A
theorem FnExactConstants : laws_FnExactConstants.Stm := rfl
end Go.Proofs.Ytcndpbegmdcelaa.Pure
