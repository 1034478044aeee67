/- The law FnExactLabelOk: LabelOk of the program is the reference's, for all labels; without conditions. -/
import Derived.Test.YtcndpbegmdcelaaAx1
import Derived.Test.YtcndpbegmdcelaaStmFnExactLabelOk
import Derived.Test.YtcndpbegmdcelaaLabOk
-- uses StmFnExactLabelOk LabOk
namespace Go.Proofs.Ytcndpbegmdcelaa.Pure
open Go.RowKit Go.Proofs.YtcndpbegmdcelaaW.PrintWords Go.Proofs.YtcndpbegmdcelaaW.PrintLast Go.Proofs.Ytcndpbegmdcelaa.A
theorem FnExactLabelOk : laws_FnExactLabelOk.Stm := by
  intro a b _ _
  simp only [laws_FnExactLabelOk.f, laws_toLabel.f, Option.bind_some, sp_ok, im_ok]
  simp
end Go.Proofs.Ytcndpbegmdcelaa.Pure
