/- The law FnExactLabelEither: LabelEither of the program is the reference's, for all labels; without conditions. -/
import Derived.Test.YtcndpbegmdcelaaAx1
import Derived.Test.YtcndpbegmdcelaaAx3
import Derived.Test.YtcndpbegmdcelaaAx6
import Derived.Test.YtcndpbegmdcelaaStmFnExactLabelEither
import Derived.Test.YtcndpbegmdcelaaLabEi
-- uses StmFnExactLabelEither LabEi
namespace Go.Proofs.Ytcndpbegmdcelaa.Pure
open Go.RowKit Go.Proofs.YtcndpbegmdcelaaW.PrintWords Go.Proofs.YtcndpbegmdcelaaW.PrintLast Go.Proofs.Ytcndpbegmdcelaa.A
theorem FnExactLabelEither : laws_FnExactLabelEither.Stm := by
  intro a b c d _ _ _ _
  refine ⟨6, ?_⟩
  simp only [laws_FnExactLabelEither.f, laws_toLabel.f, Option.bind_some, sp_either _ _ _ _ 6 (Nat.le_refl _), im_either, laws_eqLabel.f, if_true]
end Go.Proofs.Ytcndpbegmdcelaa.Pure
