/- Plain facts on drawing: a program and a host are drawn of every code. -/
import Derived.Test.YthidgkfgdkjghaaAx40
import Derived.Test.YthidgkfgdkjghaaKnowsEv
-- uses KnowsEv
namespace Go.Proofs.Ythidgkfgdkjghaa.A
open Go.RowKit Go.Proofs.YthidgkfgdkjghaaW.PrintWords Go.Proofs.YthidgkfgdkjghaaW.PrintLast Go.Proofs.YthidgkfgdkjghaaW.PrintMore
theorem drawKnows_ev {l : List Int} (hl : ∀ x ∈ l, 0 ≤ x ∧ x ≤ 255) : ∃ L S h, Ev (fun k => spec_DrawTypeKnows.f k l) (L, S, h) ∧ L.length ≤ 8 ∧ nTs S ≤ 2000 := by
 obtain ⟨b, hb, h0⟩ := open_ev hl
 obtain ⟨L, S, q, e, e1, e2, e3, e4⟩ := any_ev hb 0 (by omega) (by omega)
 obtain ⟨r, h, _, _⟩ := pick_ev hb q 5 (by omega) (by omega) (by omega) (by omega)
 refine ⟨L, S, wrap64 (r - 1), ?_, e1, e2⟩
 unfold spec_DrawTypeKnows.f
 rw [h0]
 simp only [Option.bind_some]
 exact Ev.bind e (Ev.bind h (Ev.now _))
end Go.Proofs.Ythidgkfgdkjghaa.A
