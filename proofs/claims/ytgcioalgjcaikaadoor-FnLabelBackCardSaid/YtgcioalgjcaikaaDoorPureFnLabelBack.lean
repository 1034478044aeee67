/- The law FnLabelBack: a label that is ok is read back from its text, for the label that every code draws; codes of more than 1048576 bytes are asked nothing. -/
import Derived.Test.YtgcioalgjcaikaaDoorAx8
import Derived.Test.YtgcioalgjcaikaaDoorAx14
import Derived.Test.YtgcioalgjcaikaaDoorStmFnLabelBack
import Derived.Test.YtgcioalgjcaikaaDoorDrawText
import Derived.Test.YtgcioalgjcaikaaDoorLabTx
-- uses StmFnLabelBack DrawText LabTx
namespace Go.Proofs.YtgcioalgjcaikaaDoor.Pure
open Go.RowKit Go.Proofs.YtgcioalgjcaikaaDoorW.PrintWords Go.Proofs.YtgcioalgjcaikaaDoorW.PrintLast Go.Proofs.YtgcioalgjcaikaaDoorW.PrintMore Go.Proofs.YtgcioalgjcaikaaDoor.A
theorem FnLabelBack : laws_FnLabelBack.Stm := by
  intro l hl
  suffices h : Ev (fun k => laws_FnLabelBack.f k l) true by
    obtain ⟨K, hK⟩ := h
    exact ⟨K, hK K (Nat.le_refl _)⟩
  by_cases c : (l.length : Int) > 1048576
  · simp only [laws_FnLabelBack.f, c, if_true]
    exact Ev.all_ fun _ => rfl
  · simp only [laws_FnLabelBack.f, c, if_false]
    obtain ⟨x, y, h⟩ := text_ev (fun z hz => u8_of (hl.2 z hz))
    refine Ev.bind h (Ev.bind (im_text_ev x y) (Ev.bind (sp_text_ev x y) ?_))
    simp only [if_true, sp_ok, Option.bind_some]
    refine Ev.succ_ ?_
    cases hk : okL x y with
    | false =>
      simp only [laws_FnLabelBack.j0, Bool.not_false, if_true]
      refine Ev.bind (sp_text_ev x y) ?_
      exact Ev.all_ fun _ => by simp
    | true =>
      have hk' : isS x = true ∧ isS y = true := by simpa [okL] using hk
      simp only [laws_FnLabelBack.j0, Bool.not_true, Bool.false_eq_true, if_false, txt_ok hk'.1 hk'.2]
      have hr : Ev (fun k => impl_LabelRead.f k (tx x y)) (x, y, true) := ⟨20, fun k hk => by
        obtain ⟨m, rfl⟩ : ∃ m, k = m + 20 := ⟨k - 20, by omega⟩
        exact im_read_tx x y hk'.1 hk'.2 m⟩
      refine Ev.bind hr ?_
      exact Ev.all_ fun _ => by simp
end Go.Proofs.YtgcioalgjcaikaaDoor.Pure
