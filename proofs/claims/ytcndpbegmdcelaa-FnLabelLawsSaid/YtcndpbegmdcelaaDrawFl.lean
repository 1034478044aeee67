/- Plain facts on drawing: two labels are drawn of every code. -/
import Derived.Test.YtcndpbegmdcelaaAx55
import Derived.Test.YtcndpbegmdcelaaDrawLab
import Derived.Test.YtcndpbegmdcelaaLabBo
-- uses DrawLab LabBo
namespace Go.Proofs.Ytcndpbegmdcelaa.A
open Go.RowKit Go.Proofs.YtcndpbegmdcelaaW.PrintWords Go.Proofs.YtcndpbegmdcelaaW.PrintLast Go.Proofs.YtcndpbegmdcelaaW.PrintMore
theorem flows_ev {l : List Int} (hl : ∀ x ∈ l, 0 ≤ x ∧ x ≤ 255) : ∃ x y z t, Ev (fun k => spec_DrawLabelFlows.f k l) (x, y, z, t) := by
  obtain ⟨b, hb, h0⟩ := open_ev hl
  obtain ⟨x, y, q, q0, q1, h⟩ := odd_ev hb 0 (by omega) (by omega)
  obtain ⟨z, t, s, s0, s1, h2⟩ := odd_ev hb q (by omega) (by omega)
  obtain ⟨r, h3, -, -⟩ := pick_ev hb s 3 (by omega) (by omega) (by omega) (by omega)
  by_cases c : r = 0
  · refine ⟨x, y, (bothL x y z t).1, (bothL x y z t).2, ?_⟩
    simp only [spec_DrawLabelFlows.f, h0, Option.bind_some]
    refine Ev.bind h (Ev.bind h2 (Ev.bind h3 ?_))
    simp only [c, if_true]
    exact Ev.bind (Ev.from_ 6 fun k hk => sp_both x y z t k hk) (Ev.all_ fun _ => rfl)
  · refine ⟨x, y, z, t, ?_⟩
    simp only [spec_DrawLabelFlows.f, h0, Option.bind_some]
    refine Ev.bind h (Ev.bind h2 (Ev.bind h3 ?_))
    simp only [c, if_false]
    exact Ev.all_ fun _ => rfl
end Go.Proofs.Ytcndpbegmdcelaa.A
