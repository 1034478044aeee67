/- The law FnLabelEither: what either of two labels has is the nearest label that may become both. -/
import Derived.Test.YtcndpbegmdcelaaAx60
import Derived.Test.YtcndpbegmdcelaaAx61
import Derived.Test.YtcndpbegmdcelaaStmFnLabelEither
import Derived.Test.YtcndpbegmdcelaaDrawFl
import Derived.Test.YtcndpbegmdcelaaDrawText
import Derived.Test.YtcndpbegmdcelaaLabFl
import Derived.Test.YtcndpbegmdcelaaLabBo
import Derived.Test.YtcndpbegmdcelaaLabEi
-- uses StmFnLabelEither DrawFl DrawText LabFl LabBo LabEi
namespace Go.Proofs.Ytcndpbegmdcelaa.Pure
open Go.RowKit Go.Proofs.YtcndpbegmdcelaaW.PrintWords Go.Proofs.YtcndpbegmdcelaaW.PrintLast Go.Proofs.YtcndpbegmdcelaaW.PrintMore Go.Proofs.Ytcndpbegmdcelaa.A
theorem all8 : ∀ u : Fin 8, isS (u.val : Int) = true := by decide +kernel
theorem in_ : ∀ x y : Fin 8, isS (bO (x.val : Int) (y.val : Int)) = true := by decide +kernel
theorem fa : ∀ x y : Fin 8, wi (x.val : Int) (bO (x.val : Int) (y.val : Int)) = true := by decide +kernel
theorem fb : ∀ x y : Fin 8, wi (y.val : Int) (bO (x.val : Int) (y.val : Int)) = true := by decide +kernel
theorem fc : ∀ x y u : Fin 8, wi (x.val : Int) (u.val : Int) = true → wi (y.val : Int) (u.val : Int) = true → wi (bO (x.val : Int) (y.val : Int)) (u.val : Int) = true := by decide +kernel
theorem low1 {x y z t : Int} (o1 : okL x y = true) (o2 : okL z t = true) : flowsB (eitherL x y z t).1 (eitherL x y z t).2 x y = true := by
  have o1' : isS x = true ∧ isS y = true := by simpa [okL] using o1
  have o2' : isS z = true ∧ isS t = true := by simpa [okL] using o2
  obtain ⟨x, rfl⟩ := as_fin o1'.1
  obtain ⟨y, rfl⟩ := as_fin o1'.2
  obtain ⟨z, rfl⟩ := as_fin o2'.1
  obtain ⟨t, rfl⟩ := as_fin o2'.2
  simp [eitherL, flowsB, okL, all8, in_, fa]
theorem low2 {x y z t : Int} (o1 : okL x y = true) (o2 : okL z t = true) : flowsB (eitherL x y z t).1 (eitherL x y z t).2 z t = true := by
  have o1' : isS x = true ∧ isS y = true := by simpa [okL] using o1
  have o2' : isS z = true ∧ isS t = true := by simpa [okL] using o2
  obtain ⟨x, rfl⟩ := as_fin o1'.1
  obtain ⟨y, rfl⟩ := as_fin o1'.2
  obtain ⟨z, rfl⟩ := as_fin o2'.1
  obtain ⟨t, rfl⟩ := as_fin o2'.2
  simp [eitherL, flowsB, okL, all8, in_, fb]
theorem low3 {x y z t u v : Int} (h1 : flowsB u v x y = true) (h2 : flowsB u v z t = true) : flowsB u v (eitherL x y z t).1 (eitherL x y z t).2 = true := by
  have h1' : (isS x = true ∧ isS y = true) ∧ (isS u = true ∧ isS v = true) := by
    simp [flowsB, okL] at h1
    simp [h1]
  have h2' : isS z = true ∧ isS t = true := by
    simp [flowsB, okL] at h2
    simp [h2]
  obtain ⟨x, rfl⟩ := as_fin h1'.1.1
  obtain ⟨y, rfl⟩ := as_fin h1'.1.2
  obtain ⟨u, rfl⟩ := as_fin h1'.2.1
  obtain ⟨v, rfl⟩ := as_fin h1'.2.2
  obtain ⟨z, rfl⟩ := as_fin h2'.1
  obtain ⟨t, rfl⟩ := as_fin h2'.2
  simp [flowsB, okL, all8] at h1 h2
  simp [eitherL, flowsB, okL, all8, in_, fc _ _ _ h1.1 h2.1, fc _ _ _ h1.2 h2.2]
theorem FnLabelEither : laws_FnLabelEither.Stm := by
  intro l m hl hm
  suffices h : Ev (fun k => laws_FnLabelEither.f k l m) true by
    obtain ⟨K, hK⟩ := h
    exact ⟨K, hK K (Nat.le_refl _)⟩
  have J1 : ∀ x y z t u v, okL x y = true → okL z t = true → Ev (fun k => laws_FnLabelEither.j1 k false x y z t u v (eitherL x y z t).1 (eitherL x y z t).2) true := by
    intro x y z t u v o1 o2
    refine Ev.succ_ (Ev.all_ fun k => ?_)
    have A := low1 o1 o2
    have B := low2 o1 o2
    have C := @low3 x y z t u v
    generalize eitherL x y z t = P at A B C ⊢
    simp only [laws_FnLabelEither.j1, im_flows, Option.bind_some, A, B]
    cases h1 : flowsB u v x y <;> cases h2 : flowsB u v z t <;> simp_all
  have J2 : ∀ x y z t u v, Ev (fun k => laws_FnLabelEither.j1 k true x y z t u v (eitherL x y z t).1 (eitherL x y z t).2) true := by
    intro x y z t u v
    refine Ev.succ_ ?_
    simp only [laws_FnLabelEither.j1, if_true]
    refine Ev.bind (Ev.from_ 6 fun k hk => sp_either x y z t k hk) (Ev.all_ fun _ => ?_)
    simp
  have J : ∀ s : Bool, Ev (fun k => laws_FnLabelEither.j0 k l m s) true := by
    intro s
    refine Ev.succ_ ?_
    simp only [laws_FnLabelEither.j0]
    by_cases c : s = true
    · simp only [c, if_true]
      exact Ev.all_ fun _ => rfl
    simp only [c]
    obtain ⟨x, y, z, t, h⟩ := flows_ev (fun z hz => u8_of (hl.2 z hz))
    obtain ⟨u, v, h2⟩ := text_ev (fun z hz => u8_of (hm.2 z hz))
    have h' : Ev (fun k => spec_DrawLabelEither.f k l) (x, y, z, t) := Ev.bind h (Ev.all_ fun _ => rfl)
    refine Ev.bind h' (Ev.bind h2 ?_)
    simp only [im_either, Option.bind_some]
    refine Ev.bind (Ev.from_ 6 fun k hk => sp_either x y z t k hk) ?_
    have q : (!((eitherL x y z t).1 == (eitherL x y z t).1) || !((eitherL x y z t).2 == (eitherL x y z t).2)) = false := by simp
    simp only [q, sp_ok, Option.bind_some]
    cases o1 : okL x y with
    | false => exact J2 x y z t u v
    | true =>
      cases o2 : okL z t with
      | false => exact J2 x y z t u v
      | true => exact J1 x y z t u v o1 o2
  unfold laws_FnLabelEither.f
  by_cases c : (l.length : Int) > 1048576
  · simp only [c, if_true]
    exact J _
  · simp only [c, if_false]
    exact J _
end Go.Proofs.Ytcndpbegmdcelaa.Pure
