/- The law FnTurnLabel: labels that are turned alike answer as they did before. -/
import Derived.Test.YtcndpbegmdcelaaAx62
import Derived.Test.YtcndpbegmdcelaaAx63
import Derived.Test.YtcndpbegmdcelaaStmFnTurnLabel
import Derived.Test.YtcndpbegmdcelaaTurnSp
import Derived.Test.YtcndpbegmdcelaaDrawRow
import Derived.Test.YtcndpbegmdcelaaLcRow
import Derived.Test.YtcndpbegmdcelaaDrawFl
import Derived.Test.YtcndpbegmdcelaaLabFl
import Derived.Test.YtcndpbegmdcelaaLabBo
import Derived.Test.YtcndpbegmdcelaaLabEi
-- uses StmFnTurnLabel TurnSp DrawRow LcRow DrawFl LabFl LabBo LabEi
namespace Go.Proofs.Ytcndpbegmdcelaa.Pure
open Go.RowKit Go.Proofs.YtcndpbegmdcelaaW.PrintWords Go.Proofs.YtcndpbegmdcelaaW.PrintLast Go.Proofs.YtcndpbegmdcelaaW.PrintMore Go.Proofs.Ytcndpbegmdcelaa.A
theorem all8 : ∀ u : Fin 8, isS (u.val : Int) = true := by decide +kernel
theorem t_in : ∀ x : Fin 8, ∀ p ∈ perms, isS (turnV (x.val : Int) p) = true := by decide +kernel
theorem t_wi : ∀ x y : Fin 8, ∀ p ∈ perms, wi (turnV (x.val : Int) p) (turnV (y.val : Int) p) = wi (x.val : Int) (y.val : Int) := by decide +kernel
theorem t_bA : ∀ x y : Fin 8, ∀ p ∈ perms, bA (turnV (x.val : Int) p) (turnV (y.val : Int) p) = turnV (bA (x.val : Int) (y.val : Int)) p := by decide +kernel
theorem t_bO : ∀ x y : Fin 8, ∀ p ∈ perms, bO (turnV (x.val : Int) p) (turnV (y.val : Int) p) = turnV (bO (x.val : Int) (y.val : Int)) p := by decide +kernel
theorem lcTurn_ev (a b : Int) (row : List Int) (hl : row.length ≤ 1099511627776) : Ev (fun k => laws_lcTurn.f k a b row) (turnV a row, turnV b row) := by
  simp only [laws_lcTurn.f]
  exact Ev.bind (im_turn a row hl) (Ev.bind (im_turn b row hl) (Ev.now _))
theorem FnTurnLabel : laws_FnTurnLabel.Stm := by
  intro l m hl hm
  suffices h : Ev (fun k => laws_FnTurnLabel.f k l m) true by
    obtain ⟨K, hK⟩ := h
    exact ⟨K, hK K (Nat.le_refl _)⟩
  have J2 : ∀ s row x y z t, row.length ≤ 1099511627776 → Ev (fun k => laws_FnTurnLabel.j1 k s row true x y z t) true := by
    intro s row x y z t hr
    refine Ev.succ_ ?_
    simp only [laws_FnTurnLabel.j1, if_true]
    refine Ev.eq_ (Ev.bind (im_turn s row hr) (Ev.bind (sp_turn s row) (Ev.now _))) ?_
    simp
  have J1 : ∀ s row x y z t, row.length ≤ 1099511627776 → isP row = true → okL x y = true → okL z t = true → Ev (fun k => laws_FnTurnLabel.j1 k s row false x y z t) true := by
    intro s row x y z t hr hp o1 o2
    have hp' := isP_mem hp
    have o1' : isS x = true ∧ isS y = true := by simpa [okL] using o1
    have o2' : isS z = true ∧ isS t = true := by simpa [okL] using o2
    obtain ⟨x, rfl⟩ := as_fin o1'.1
    obtain ⟨y, rfl⟩ := as_fin o1'.2
    obtain ⟨z, rfl⟩ := as_fin o2'.1
    obtain ⟨t, rfl⟩ := as_fin o2'.2
    have F : flowsB (turnV (x.val : Int) row) (turnV (y.val : Int) row) (turnV (z.val : Int) row) (turnV (t.val : Int) row) = flowsB (x.val : Int) (y.val : Int) (z.val : Int) (t.val : Int) := by
      simp [flowsB, okL, all8, t_in _ row hp', t_wi _ _ row hp']
    have A : bothL (turnV (x.val : Int) row) (turnV (y.val : Int) row) (turnV (z.val : Int) row) (turnV (t.val : Int) row) = (turnV (bothL (x.val : Int) (y.val : Int) (z.val : Int) (t.val : Int)).1 row, turnV (bothL (x.val : Int) (y.val : Int) (z.val : Int) (t.val : Int)).2 row) := by
      simp [bothL, okL, all8, t_in _ row hp', t_bA _ _ row hp']
    have B : eitherL (turnV (x.val : Int) row) (turnV (y.val : Int) row) (turnV (z.val : Int) row) (turnV (t.val : Int) row) = (turnV (eitherL (x.val : Int) (y.val : Int) (z.val : Int) (t.val : Int)).1 row, turnV (eitherL (x.val : Int) (y.val : Int) (z.val : Int) (t.val : Int)).2 row) := by
      simp [eitherL, okL, all8, t_in _ row hp', t_bO _ _ row hp']
    refine Ev.succ_ ?_
    simp only [laws_FnTurnLabel.j1, Bool.false_eq_true, if_false]
    refine Ev.bind (lcTurn_ev _ _ row hr) (Ev.bind (lcTurn_ev _ _ row hr) ?_)
    simp only [im_flows, im_both, im_either, Option.bind_some, F, A, B, beq_self_eq_true, if_true]
    refine Ev.bind (lcTurn_ev _ _ row hr) ?_
    simp only [beq_self_eq_true, Bool.and_self, if_true]
    refine Ev.eq_ (Ev.bind (lcTurn_ev _ _ row hr) (Ev.now _)) ?_
    simp
  have J : ∀ s : Bool, Ev (fun k => laws_FnTurnLabel.j0 k l m s) true := by
    intro s
    refine Ev.succ_ ?_
    simp only [laws_FnTurnLabel.j0]
    by_cases c : s = true
    · simp only [c, if_true]
      exact Ev.all_ fun _ => rfl
    simp only [c]
    obtain ⟨x, y, z, t, h⟩ := flows_ev (fun z hz => u8_of (hl.2 z hz))
    obtain ⟨q, row, hd, hr⟩ := drawTurnSet_ev (fun z hz => u8_of (hm.2 z hz))
    have h1 : row.length ≤ 1099511627776 := by omega
    refine Ev.bind h (Ev.bind hd (Ev.bind (im_turn q row h1) (Ev.bind (sp_turn q row) ?_)))
    simp only [if_true]
    refine Ev.bind (lcRow_ev row h1) ?_
    cases hp : isP row with
    | false => exact J2 q row x y z t h1
    | true =>
      simp only [sp_ok, Option.bind_some, if_true]
      cases o1 : okL x y with
      | false => exact J2 q row x y z t h1
      | true =>
        cases o2 : okL z t with
        | false => exact J2 q row x y z t h1
        | true => exact J1 q row x y z t h1 hp o1 o2
  unfold laws_FnTurnLabel.f
  by_cases c : (l.length : Int) > 1048576
  · simp only [c, if_true]
    exact J _
  · simp only [c, if_false]
    exact J _
end Go.Proofs.Ytcndpbegmdcelaa.Pure
