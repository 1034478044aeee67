/- The law FnLabelStrict: a text that is read is that of what is read, for the text that every code draws; codes of more than 1048576 bytes are asked nothing. -/
import Derived.Test.YtgcioalgjcaikaaDoorAx17
import Derived.Test.YtgcioalgjcaikaaDoorStmFnLabelStrict
import Derived.Test.YtgcioalgjcaikaaDoorDrawRead
import Derived.Test.YtgcioalgjcaikaaDoorLabTx
-- uses StmFnLabelStrict DrawRead LabTx
namespace Go.Proofs.YtgcioalgjcaikaaDoor.Pure
open Go.RowKit Go.Proofs.YtgcioalgjcaikaaDoorW.PrintWords Go.Proofs.YtgcioalgjcaikaaDoorW.PrintLast Go.Proofs.YtgcioalgjcaikaaDoorW.PrintMore Go.Proofs.YtgcioalgjcaikaaDoor.A
theorem FnLabelStrict : laws_FnLabelStrict.Stm := by
  intro l hl
  suffices h : Ev (fun k => laws_FnLabelStrict.f k l) true by
    obtain ⟨K, hK⟩ := h
    exact ⟨K, hK K (Nat.le_refl _)⟩
  by_cases c : (l.length : Int) > 1048576
  · simp only [laws_FnLabelStrict.f, c, if_true]
    exact Ev.all_ fun _ => rfl
  · simp only [laws_FnLabelStrict.f, c, if_false]
    obtain ⟨s, hs, h⟩ := read_draw (fun z hz => u8_of (hl.2 z hz))
    obtain ⟨⟨a, b, t⟩, h1, h2, hq⟩ := both_read s (by omega)
    refine Ev.bind h (Ev.bind h1 (Ev.bind h2 ?_))
    rcases hq with ⟨ia, ib, it, ht⟩ | ⟨e, -⟩
    · simp only at ia ib it ht
      subst it
      simp only [beq_self_eq_true, Bool.and_self, if_true]
      refine Ev.bind (im_text_ev a b) ?_
      rw [txt_ok ia ib, ht]
      exact Ev.all_ fun _ => by simp
    · simp only [Prod.mk.injEq] at e
      obtain ⟨rfl, rfl, rfl⟩ := e
      exact Ev.all_ fun _ => by simp
end Go.Proofs.YtgcioalgjcaikaaDoor.Pure
