/- The law FnLabelEnds: all may become of what everybody may know and trusts; all may become what nobody knows nor trusts. -/
import Derived.Test.YtcndpbegmdcelaaAx54
import Derived.Test.YtcndpbegmdcelaaStmFnLabelEnds
import Derived.Test.YtcndpbegmdcelaaDrawText
import Derived.Test.YtcndpbegmdcelaaLabFl
import Derived.Test.YtcndpbegmdcelaaLabBo
import Derived.Test.YtcndpbegmdcelaaLabEi
-- uses StmFnLabelEnds DrawText LabFl LabBo LabEi
namespace Go.Proofs.Ytcndpbegmdcelaa.Pure
open Go.RowKit Go.Proofs.YtcndpbegmdcelaaW.PrintWords Go.Proofs.YtcndpbegmdcelaaW.PrintLast Go.Proofs.YtcndpbegmdcelaaW.PrintMore Go.Proofs.Ytcndpbegmdcelaa.A
theorem ends1 : ∀ x : Fin 8, wi (x.val : Int) 7 = true := by decide +kernel
theorem ends2 : ∀ x : Fin 8, wi 0 (x.val : Int) = true := by decide +kernel
theorem ends3 : ∀ x : Fin 8, bA (x.val : Int) 7 = (x.val : Int) := by decide +kernel
theorem ends4 : ∀ x : Fin 8, bO (x.val : Int) 7 = 7 := by decide +kernel
theorem FnLabelEnds : laws_FnLabelEnds.Stm := by
  intro l hl
  suffices h : Ev (fun k => laws_FnLabelEnds.f k l) true by
    obtain ⟨K, hK⟩ := h
    exact ⟨K, hK K (Nat.le_refl _)⟩
  by_cases c : (l.length : Int) > 1048576
  · simp only [laws_FnLabelEnds.f, c, if_true]
    exact Ev.all_ fun _ => rfl
  · simp only [laws_FnLabelEnds.f, c, if_false]
    obtain ⟨x, y, h⟩ := text_ev (fun z hz => u8_of (hl.2 z hz))
    refine Ev.bind h ?_
    refine Ev.all_ fun k => ?_
    have o7 : okL 7 7 = true := by decide
    have o0 : okL 0 0 = true := by decide
    simp only [im_ok, sp_ok, im_flows, im_both, im_either, Option.bind_some, beq_self_eq_true, if_true]
    cases hk : okL x y with
    | false => simp [flowsB, hk]
    | true =>
      have hk' : isS x = true ∧ isS y = true := by simpa [okL] using hk
      obtain ⟨u, rfl⟩ := as_fin hk'.1
      obtain ⟨v, rfl⟩ := as_fin hk'.2
      simp [flowsB, bothL, eitherL, hk, o7, o0, ends1, ends2, ends3, ends4]
end Go.Proofs.Ytcndpbegmdcelaa.Pure
