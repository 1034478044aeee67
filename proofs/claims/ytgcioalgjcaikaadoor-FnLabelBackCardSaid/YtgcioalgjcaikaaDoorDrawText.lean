/- Plain facts on drawing: a label, odd ones too, is drawn of every code. -/
import Derived.Test.YtgcioalgjcaikaaDoorAx13
import Derived.Test.YtgcioalgjcaikaaDoorDrawLab
-- uses DrawLab
namespace Go.Proofs.YtgcioalgjcaikaaDoor.A
open Go.RowKit Go.Proofs.YtgcioalgjcaikaaDoorW.PrintWords Go.Proofs.YtgcioalgjcaikaaDoorW.PrintLast Go.Proofs.YtgcioalgjcaikaaDoorW.PrintMore
theorem text_ev {l : List Int} (hl : ∀ x ∈ l, 0 ≤ x ∧ x ≤ 255) : ∃ x y, Ev (fun k => spec_DrawLabelText.f k l) (x, y) := by
  obtain ⟨b, hb, h0⟩ := open_ev hl
  obtain ⟨x, y, q, -, -, h⟩ := odd_ev hb 0 (by omega) (by omega)
  refine ⟨x, y, ?_⟩
  simp only [spec_DrawLabelText.f, h0, Option.bind_some]
  refine Ev.bind h ?_
  exact Ev.all_ fun _ => rfl
end Go.Proofs.YtgcioalgjcaikaaDoor.A
