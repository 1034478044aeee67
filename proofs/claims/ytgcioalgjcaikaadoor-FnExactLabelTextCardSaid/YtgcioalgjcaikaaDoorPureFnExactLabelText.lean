/- The law FnExactLabelText: LabelText of the program is the reference's, for all labels; without conditions. -/
import Derived.Test.YtgcioalgjcaikaaDoorAx4
import Derived.Test.YtgcioalgjcaikaaDoorAx6
import Derived.Test.YtgcioalgjcaikaaDoorStmFnExactLabelText
import Derived.Test.YtgcioalgjcaikaaDoorLabTx
-- uses StmFnExactLabelText LabTx
namespace Go.Proofs.YtgcioalgjcaikaaDoor.Pure
open Go.RowKit Go.Proofs.YtgcioalgjcaikaaDoorW.PrintWords Go.Proofs.YtgcioalgjcaikaaDoorW.PrintLast Go.Proofs.YtgcioalgjcaikaaDoor.A
theorem FnExactLabelText : laws_FnExactLabelText.Stm := by
  intro a b _ _
  refine ⟨8, ?_⟩
  simp only [laws_FnExactLabelText.f, laws_toLabel.f, Option.bind_some, sp_text a b 0, im_text a b 0, if_true]
end Go.Proofs.YtgcioalgjcaikaaDoor.Pure
