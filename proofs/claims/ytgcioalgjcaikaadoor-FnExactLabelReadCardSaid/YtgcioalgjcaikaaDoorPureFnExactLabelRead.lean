/- The law FnExactLabelRead: LabelRead of the program is the reference's, for all texts of at most 1048576 bytes; the law asks nothing of longer ones. -/
import Derived.Test.YtgcioalgjcaikaaDoorAx8
import Derived.Test.YtgcioalgjcaikaaDoorAx9
import Derived.Test.YtgcioalgjcaikaaDoorStmFnExactLabelRead
import Derived.Test.YtgcioalgjcaikaaDoorLabTx
-- uses StmFnExactLabelRead LabTx
namespace Go.Proofs.YtgcioalgjcaikaaDoor.Pure
open Go.RowKit Go.Proofs.YtgcioalgjcaikaaDoorW.PrintWords Go.Proofs.YtgcioalgjcaikaaDoorW.PrintLast Go.Proofs.YtgcioalgjcaikaaDoor.A
theorem FnExactLabelRead : laws_FnExactLabelRead.Stm := by
  intro s _
  by_cases hs : (s.size : Int) > 1048576
  · exact ⟨0, by simp only [laws_FnExactLabelRead.f, hs, if_true]⟩
  · obtain ⟨r, h1, h2, -⟩ := both_read s (by omega)
    have h : Ev (fun k => laws_FnExactLabelRead.f k s) true := by
      simp only [laws_FnExactLabelRead.f, hs, if_false]
      refine Ev.bind h1 (Ev.bind h2 ?_)
      exact Ev.all_ fun _ => by simp [laws_eqLabel.f]
    exact ⟨h.choose, h.choose_spec _ (Nat.le_refl _)⟩
end Go.Proofs.YtgcioalgjcaikaaDoor.Pure
