/- The law FnLabelFlows: a label may become another where each of three may know and trust; all labels may become themselves. -/
import Derived.Test.YtcndpbegmdcelaaAx25
import Derived.Test.YtcndpbegmdcelaaAx59
import Derived.Test.YtcndpbegmdcelaaStmFnLabelFlows
import Derived.Test.YtcndpbegmdcelaaDrawFl
import Derived.Test.YtcndpbegmdcelaaLabFl
-- uses StmFnLabelFlows DrawFl LabFl
namespace Go.Proofs.Ytcndpbegmdcelaa.Pure
open Go.RowKit Go.Proofs.YtcndpbegmdcelaaW.PrintWords Go.Proofs.YtcndpbegmdcelaaW.PrintLast Go.Proofs.YtcndpbegmdcelaaW.PrintMore Go.Proofs.Ytcndpbegmdcelaa.A
/-- The name i stands in the set a. -/
def hs (a i : Int) : Bool := (laws_lcHas.f a i).getD false
theorem has_fin : ∀ (a : Fin 8) (i : Fin 3), laws_lcHas.f (a.val : Int) (i.val : Int) = some (hs (a.val : Int) (i.val : Int)) := by decide +kernel
theorem wi_has : ∀ a b : Fin 8, wi (a.val : Int) (b.val : Int) = ((!hs (a.val : Int) 0 || hs (b.val : Int) 0) && (!hs (a.val : Int) 1 || hs (b.val : Int) 1) && (!hs (a.val : Int) 2 || hs (b.val : Int) 2)) := by decide +kernel
theorem all8 : ∀ u : Fin 8, isS (u.val : Int) = true := by decide +kernel
theorem wi_self : ∀ u : Fin 8, wi (u.val : Int) (u.val : Int) = true := by decide +kernel
theorem step {s p : Bool} {x y z t : Fin 8} {i : Fin 3} {r : Bool}
    (h : Ev (fun k => laws_FnLabelFlows.l0 k s (p && (!hs (z.val : Int) (i.val : Int) || hs (x.val : Int) (i.val : Int)) && (!hs (t.val : Int) (i.val : Int) || hs (y.val : Int) (i.val : Int))) ((i.val : Int) + 1) (x.val : Int) (y.val : Int) (z.val : Int) (t.val : Int)) r) :
    Ev (fun k => laws_FnLabelFlows.l0 k s p (i.val : Int) (x.val : Int) (y.val : Int) (z.val : Int) (t.val : Int)) r := by
  refine Ev.succ_ ?_
  have c1 : (i.val : Int) < 3 := by have := i.isLt; omega
  have c2 : wrap64 ((i.val : Int) + 1) = (i.val : Int) + 1 := wr (by omega) (by omega)
  simp only [laws_FnLabelFlows.l0, c1, c2, if_true, has_fin, Option.bind_some]
  cases p <;> cases e1 : hs (z.val : Int) (i.val : Int) <;> cases e2 : hs (x.val : Int) (i.val : Int) <;> cases e3 : hs (t.val : Int) (i.val : Int) <;> cases e4 : hs (y.val : Int) (i.val : Int) <;> simpa [e1, e2, e3, e4] using h
theorem FnLabelFlows : laws_FnLabelFlows.Stm := by
  intro l hl
  suffices h : Ev (fun k => laws_FnLabelFlows.f k l) true by
    obtain ⟨K, hK⟩ := h
    exact ⟨K, hK K (Nat.le_refl _)⟩
  have J2 : ∀ x y z t, Ev (fun k => laws_FnLabelFlows.j0 k (flowsB x y z t) true x y z t) true := by
    intro x y z t
    refine Ev.succ_ ?_
    simp only [laws_FnLabelFlows.j0, if_true]
    exact Ev.bind (Ev.from_ 5 fun k hk => sp_flows x y z t k hk) (Ev.all_ fun _ => by simp)
  have J1 : ∀ x y z t, okL x y = true → okL z t = true → Ev (fun k => laws_FnLabelFlows.j0 k (flowsB x y z t) false x y z t) true := by
    intro x y z t o1 o2
    have o1' : isS x = true ∧ isS y = true := by simpa [okL] using o1
    have o2' : isS z = true ∧ isS t = true := by simpa [okL] using o2
    obtain ⟨x, rfl⟩ := as_fin o1'.1
    obtain ⟨y, rfl⟩ := as_fin o1'.2
    obtain ⟨z, rfl⟩ := as_fin o2'.1
    obtain ⟨t, rfl⟩ := as_fin o2'.2
    refine Ev.succ_ ?_
    simp only [laws_FnLabelFlows.j0, Bool.false_eq_true, if_false]
    refine step (i := 0) (step (i := 1) (step (i := 2) ?_))
    refine Ev.succ_ (Ev.all_ fun k => ?_)
    have q : flowsB (x.val : Int) (y.val : Int) (x.val : Int) (y.val : Int) = true := by simp [flowsB, okL, all8, wi_self]
    have e : flowsB (x.val : Int) (y.val : Int) (z.val : Int) (t.val : Int) = (wi (z.val : Int) (x.val : Int) && wi (t.val : Int) (y.val : Int)) := by simp [flowsB, okL, all8]
    rw [e, wi_has, wi_has]
    have c3 : ¬ ((((2 : Fin 3).val : Nat) : Int) + 1 < 3) := by decide
    simp only [laws_FnLabelFlows.l0, im_flows, q, c3, if_false, Option.bind_some]
    refine (if_pos ?_).trans rfl
    rw [beq_iff_eq]
    show _ = (true && (!hs (z.val : Int) 0 || hs (x.val : Int) 0) && (!hs (t.val : Int) 0 || hs (y.val : Int) 0) && (!hs (z.val : Int) 1 || hs (x.val : Int) 1) && (!hs (t.val : Int) 1 || hs (y.val : Int) 1) && (!hs (z.val : Int) 2 || hs (x.val : Int) 2) && (!hs (t.val : Int) 2 || hs (y.val : Int) 2))
    generalize (!hs (z.val : Int) 0 || hs (x.val : Int) 0) = a0
    generalize (!hs (t.val : Int) 0 || hs (y.val : Int) 0) = b0
    generalize (!hs (z.val : Int) 1 || hs (x.val : Int) 1) = a1
    generalize (!hs (t.val : Int) 1 || hs (y.val : Int) 1) = b1
    generalize (!hs (z.val : Int) 2 || hs (x.val : Int) 2) = a2
    generalize (!hs (t.val : Int) 2 || hs (y.val : Int) 2) = b2
    revert a0 b0 a1 b1 a2 b2
    decide
  unfold laws_FnLabelFlows.f
  by_cases c : (l.length : Int) > 1048576
  · simp only [c, if_true]
    exact Ev.all_ fun _ => rfl
  simp only [c, if_false]
  obtain ⟨x, y, z, t, h⟩ := flows_ev (fun z hz => u8_of (hl.2 z hz))
  refine Ev.bind h ?_
  simp only [im_flows, Option.bind_some]
  refine Ev.bind (Ev.from_ 5 fun k hk => sp_flows x y z t k hk) ?_
  simp only [bne_self_eq_false, sp_ok, Option.bind_some]
  cases o1 : okL x y with
  | false => exact J2 x y z t
  | true =>
    cases o2 : okL z t with
    | false => exact J2 x y z t
    | true => exact J1 x y z t o1 o2
end Go.Proofs.Ytcndpbegmdcelaa.Pure
