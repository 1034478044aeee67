/- The law FnExactLabelFlows: LabelFlows of the program is the reference's, for all labels; without conditions. -/
import Derived.Test.YtcndpbegmdcelaaAx1
import Derived.Test.YtcndpbegmdcelaaAx2
import Derived.Test.YtcndpbegmdcelaaStmFnExactLabelFlows
import Derived.Test.YtcndpbegmdcelaaLabFl
-- uses StmFnExactLabelFlows LabFl
namespace Go.Proofs.Ytcndpbegmdcelaa.Pure
open Go.RowKit Go.Proofs.YtcndpbegmdcelaaW.PrintWords Go.Proofs.YtcndpbegmdcelaaW.PrintLast Go.Proofs.Ytcndpbegmdcelaa.A
theorem FnExactLabelFlows : laws_FnExactLabelFlows.Stm := by
  intro a b c d _ _ _ _
  refine ⟨5, ?_⟩
  simp only [laws_FnExactLabelFlows.f, laws_toLabel.f, Option.bind_some, sp_flows _ _ _ _ 5 (Nat.le_refl _), im_flows]
  simp
end Go.Proofs.Ytcndpbegmdcelaa.Pure
