/- The law FnLabelThree: the order of labels goes on, and is one both ways only between a label and itself. -/
import Derived.Test.YtcndpbegmdcelaaAx56
import Derived.Test.YtcndpbegmdcelaaStmFnLabelThree
import Derived.Test.YtcndpbegmdcelaaDrawFl
import Derived.Test.YtcndpbegmdcelaaLabFl
-- uses StmFnLabelThree DrawFl LabFl
namespace Go.Proofs.Ytcndpbegmdcelaa.Pure
open Go.RowKit Go.Proofs.YtcndpbegmdcelaaW.PrintWords Go.Proofs.YtcndpbegmdcelaaW.PrintLast Go.Proofs.YtcndpbegmdcelaaW.PrintMore Go.Proofs.Ytcndpbegmdcelaa.A
theorem wi_trans : ∀ x y z : Fin 8, wi (x.val : Int) (y.val : Int) = true → wi (y.val : Int) (z.val : Int) = true → wi (x.val : Int) (z.val : Int) = true := by decide +kernel
theorem wi_anti : ∀ x y : Fin 8, wi (x.val : Int) (y.val : Int) = true → wi (y.val : Int) (x.val : Int) = true → x = y := by decide +kernel
theorem flowsB_iff (a b c d : Int) : flowsB a b c d = true ↔ ∃ x y z t : Fin 8, a = x.val ∧ b = y.val ∧ c = z.val ∧ d = t.val ∧ wi (z.val : Int) (x.val : Int) = true ∧ wi (t.val : Int) (y.val : Int) = true := by
  constructor
  · intro h
    have h' : (isS a = true ∧ isS b = true) ∧ (isS c = true ∧ isS d = true) ∧ wi c a = true ∧ wi d b = true := by simpa [flowsB, okL, and_assoc] using h
    obtain ⟨⟨h1, h2⟩, ⟨h3, h4⟩, h5, h6⟩ := h'
    obtain ⟨x, rfl⟩ := as_fin h1
    obtain ⟨y, rfl⟩ := as_fin h2
    obtain ⟨z, rfl⟩ := as_fin h3
    obtain ⟨t, rfl⟩ := as_fin h4
    exact ⟨x, y, z, t, rfl, rfl, rfl, rfl, h5, h6⟩
  · rintro ⟨x, y, z, t, rfl, rfl, rfl, rfl, h5, h6⟩
    have k : ∀ u : Fin 8, isS (u.val : Int) = true := by decide +kernel
    simp [flowsB, okL, k, h5, h6]
theorem flowsB_trans {a b c d e f : Int} (h : flowsB a b c d = true) (h2 : flowsB c d e f = true) : flowsB a b e f = true := by
  obtain ⟨x, y, z, t, rfl, rfl, rfl, rfl, p1, p2⟩ := (flowsB_iff _ _ _ _).1 h
  obtain ⟨z', t', u, v, e1, e2, rfl, rfl, p3, p4⟩ := (flowsB_iff _ _ _ _).1 h2
  have e1' : z = z' := Fin.ext (by omega)
  have e2' : t = t' := Fin.ext (by omega)
  subst e1' e2'
  exact (flowsB_iff _ _ _ _).2 ⟨x, y, u, v, rfl, rfl, rfl, rfl, wi_trans _ _ _ p3 p1, wi_trans _ _ _ p4 p2⟩
theorem flowsB_anti {a b c d : Int} (h : flowsB a b c d = true) (h2 : flowsB c d a b = true) : a = c ∧ b = d := by
  obtain ⟨x, y, z, t, rfl, rfl, rfl, rfl, p1, p2⟩ := (flowsB_iff _ _ _ _).1 h
  obtain ⟨z', t', u, v, e1, e2, e3, e4, p3, p4⟩ := (flowsB_iff _ _ _ _).1 h2
  have e1' : z = z' := Fin.ext (by omega)
  have e2' : t = t' := Fin.ext (by omega)
  have e3' : x = u := Fin.ext (by omega)
  have e4' : y = v := Fin.ext (by omega)
  subst e1' e2' e3' e4'
  rw [wi_anti _ _ p1 p3, wi_anti _ _ p2 p4]
  exact ⟨rfl, rfl⟩
theorem FnLabelThree : laws_FnLabelThree.Stm := by
  intro l m hl hm
  suffices h : Ev (fun k => laws_FnLabelThree.f k l m) true by
    obtain ⟨K, hK⟩ := h
    exact ⟨K, hK K (Nat.le_refl _)⟩
  have J : ∀ s : Bool, Ev (fun k => laws_FnLabelThree.j0 k l m s) true := by
    intro s
    refine Ev.succ_ ?_
    simp only [laws_FnLabelThree.j0]
    by_cases c : s = true
    · simp only [c, if_true]
      exact Ev.all_ fun _ => rfl
    simp only [c]
    obtain ⟨x, y, z, t, h⟩ := flows_ev (fun z hz => u8_of (hl.2 z hz))
    obtain ⟨u, v, e, f, h2⟩ := flows_ev (fun z hz => u8_of (hm.2 z hz))
    refine Ev.bind h (Ev.bind h2 ?_)
    simp only [im_flows, Option.bind_some]
    refine Ev.bind (Ev.from_ 5 fun k hk => sp_flows x y z t k hk) ?_
    refine Ev.all_ fun _ => ?_
    have A := @flowsB_anti x y z t
    have B := @flowsB_trans x y z t e f
    cases h1 : flowsB x y z t <;> cases h2 : flowsB z t e f <;> cases h3 : flowsB x y e f <;> cases h4 : flowsB z t x y <;> simp_all
  unfold laws_FnLabelThree.f
  by_cases c : (l.length : Int) > 1048576
  · simp only [c, if_true]
    exact J _
  · simp only [c, if_false]
    exact J _
end Go.Proofs.Ytcndpbegmdcelaa.Pure
