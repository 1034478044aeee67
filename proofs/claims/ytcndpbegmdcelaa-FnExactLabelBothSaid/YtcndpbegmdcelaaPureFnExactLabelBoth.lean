/- The law FnExactLabelBoth: LabelBoth of the program is the reference's, for all labels; without conditions. -/
import Derived.Test.YtcndpbegmdcelaaAx1
import Derived.Test.YtcndpbegmdcelaaAx3
import Derived.Test.YtcndpbegmdcelaaAx4
import Derived.Test.YtcndpbegmdcelaaStmFnExactLabelBoth
import Derived.Test.YtcndpbegmdcelaaLabBo
-- uses StmFnExactLabelBoth LabBo
namespace Go.Proofs.Ytcndpbegmdcelaa.Pure
open Go.RowKit Go.Proofs.YtcndpbegmdcelaaW.PrintWords Go.Proofs.YtcndpbegmdcelaaW.PrintLast Go.Proofs.Ytcndpbegmdcelaa.A
theorem FnExactLabelBoth : laws_FnExactLabelBoth.Stm := by
  intro a b c d _ _ _ _
  refine ⟨6, ?_⟩
  simp only [laws_FnExactLabelBoth.f, laws_toLabel.f, Option.bind_some, sp_both _ _ _ _ 6 (Nat.le_refl _), im_both, laws_eqLabel.f, if_true]
end Go.Proofs.Ytcndpbegmdcelaa.Pure
