/- Plain facts on drawing: a label is drawn of every code; a plain one lies among the labels. -/
import Derived.Test.YtgcioalgjcaikaaDoorAx11
import Derived.Test.YtgcioalgjcaikaaDoorPick
import Derived.Test.YtgcioalgjcaikaaDoorLabOk
-- uses Pick LabOk
namespace Go.Proofs.YtgcioalgjcaikaaDoor.A
open Go.RowKit Go.Proofs.YtgcioalgjcaikaaDoorW.PrintWords Go.Proofs.YtgcioalgjcaikaaDoorW.PrintLast Go.Proofs.YtgcioalgjcaikaaDoorW.PrintMore
theorem tab_know (r : Int) (h0 : 0 ≤ r) (h1 : r < 9) : isS (rd [7, 7, 3, 5, 6, 1, 2, 4, 0] r) = true := by
  have : r = 0 ∨ r = 1 ∨ r = 2 ∨ r = 3 ∨ r = 4 ∨ r = 5 ∨ r = 6 ∨ r = 7 ∨ r = 8 := by omega
  rcases this with rfl | rfl | rfl | rfl | rfl | rfl | rfl | rfl | rfl <;> decide
theorem tab_trust (r : Int) (h0 : 0 ≤ r) (h1 : r < 9) : isS (rd [0, 0, 1, 2, 4, 3, 7, 5, 6] r) = true := by
  have : r = 0 ∨ r = 1 ∨ r = 2 ∨ r = 3 ∨ r = 4 ∨ r = 5 ∨ r = 6 ∨ r = 7 ∨ r = 8 := by omega
  rcases this with rfl | rfl | rfl | rfl | rfl | rfl | rfl | rfl | rfl <;> decide
theorem label_ev {b : List Int} (hb : Code_ b) (p : Int) (hp : 0 ≤ p) (hp2 : p ≤ 999999990) :
    ∃ x y, isS x = true ∧ isS y = true ∧ Ev (fun k => spec_l71Label.f k b p) (x, y, p + 1 + 1) := by
  obtain ⟨r1, h1, a1, b1⟩ := pick_ev hb p 9 hp (by omega) (by omega) (by omega)
  obtain ⟨r2, h2, a2, b2⟩ := pick_ev hb (p + 1) 9 (by omega) (by omega) (by omega) (by omega)
  refine ⟨_, _, tab_know r1 a1 b1, tab_trust r2 a2 b2, ?_⟩
  have c1 : r1 < (([7, 7, 3, 5, 6, 1, 2, 4, 0] : List Int).length : Int) := b1
  have c2 : r2 < (([0, 0, 1, 2, 4, 3, 7, 5, 6] : List Int).length : Int) := b2
  simp only [spec_l71Label.f, Option.bind_some]
  refine Ev.bind h1 ?_
  simp only [a1, c1, if_true]
  refine Ev.bind h2 ?_
  simp only [a2, c2, if_true]
  exact Ev.all_ fun _ => rfl
end Go.Proofs.YtgcioalgjcaikaaDoor.A
