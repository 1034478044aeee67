/- The law FnLabelLaws: the laws of a lattice, for every drawn pair of labels. -/
import Derived.Test.YtcndpbegmdcelaaAx57
import Derived.Test.YtcndpbegmdcelaaAx60
import Derived.Test.YtcndpbegmdcelaaStmFnLabelLaws
import Derived.Test.YtcndpbegmdcelaaDrawFl
import Derived.Test.YtcndpbegmdcelaaLabFl
import Derived.Test.YtcndpbegmdcelaaLabBo
import Derived.Test.YtcndpbegmdcelaaLabEi
-- uses StmFnLabelLaws DrawFl LabFl LabBo LabEi
namespace Go.Proofs.Ytcndpbegmdcelaa.Pure
open Go.RowKit Go.Proofs.YtcndpbegmdcelaaW.PrintWords Go.Proofs.YtcndpbegmdcelaaW.PrintLast Go.Proofs.YtcndpbegmdcelaaW.PrintMore Go.Proofs.Ytcndpbegmdcelaa.A
theorem c1 : ∀ x y : Fin 8, bA (y.val : Int) (x.val : Int) = bA (x.val : Int) (y.val : Int) := by decide +kernel
theorem c2 : ∀ x y : Fin 8, bO (y.val : Int) (x.val : Int) = bO (x.val : Int) (y.val : Int) := by decide +kernel
theorem c3 : ∀ x y : Fin 8, bA (x.val : Int) (bO (x.val : Int) (y.val : Int)) = (x.val : Int) := by decide +kernel
theorem c4 : ∀ x y : Fin 8, bO (x.val : Int) (bA (x.val : Int) (y.val : Int)) = (x.val : Int) := by decide +kernel
theorem c5 : ∀ x y : Fin 8, wi (y.val : Int) (x.val : Int) = (bA (x.val : Int) (y.val : Int) == (y.val : Int)) := by decide +kernel
theorem c6 : ∀ x y : Fin 8, wi (y.val : Int) (x.val : Int) = (bO (x.val : Int) (y.val : Int) == (x.val : Int)) := by decide +kernel
theorem inA : ∀ x y : Fin 8, isS (bA (x.val : Int) (y.val : Int)) = true := by decide +kernel
theorem inO : ∀ x y : Fin 8, isS (bO (x.val : Int) (y.val : Int)) = true := by decide +kernel
theorem FnLabelLaws : laws_FnLabelLaws.Stm := by
  intro l hl
  suffices h : Ev (fun k => laws_FnLabelLaws.f k l) true by
    obtain ⟨K, hK⟩ := h
    exact ⟨K, hK K (Nat.le_refl _)⟩
  have J2 : ∀ x y z t u v, Ev (fun k => laws_FnLabelLaws.j0 k true x y z t (bothL x y z t).1 (bothL x y z t).2 u v) true := by
    intro x y z t u v
    refine Ev.succ_ ?_
    simp only [laws_FnLabelLaws.j0, if_true]
    refine Ev.bind (Ev.from_ 6 fun k hk => sp_both x y z t k hk) (Ev.all_ fun _ => ?_)
    simp
  have J1 : ∀ x y z t, okL x y = true → okL z t = true → Ev (fun k => laws_FnLabelLaws.j0 k false x y z t (bothL x y z t).1 (bothL x y z t).2 (eitherL x y z t).1 (eitherL x y z t).2) true := by
    intro x y z t o1 o2
    have o1' : isS x = true ∧ isS y = true := by simpa [okL] using o1
    have o2' : isS z = true ∧ isS t = true := by simpa [okL] using o2
    obtain ⟨x, rfl⟩ := as_fin o1'.1
    obtain ⟨y, rfl⟩ := as_fin o1'.2
    obtain ⟨z, rfl⟩ := as_fin o2'.1
    obtain ⟨t, rfl⟩ := as_fin o2'.2
    refine Ev.succ_ (Ev.all_ fun k => ?_)
    have A : bothL (x.val : Int) (y.val : Int) (z.val : Int) (t.val : Int) = (bA (x.val : Int) (z.val : Int), bA (y.val : Int) (t.val : Int)) := by simp [bothL, o1, o2]
    have A' : bothL (z.val : Int) (t.val : Int) (x.val : Int) (y.val : Int) = (bA (x.val : Int) (z.val : Int), bA (y.val : Int) (t.val : Int)) := by simp [bothL, o1, o2, c1]
    have B : eitherL (x.val : Int) (y.val : Int) (z.val : Int) (t.val : Int) = (bO (x.val : Int) (z.val : Int), bO (y.val : Int) (t.val : Int)) := by simp [eitherL, o1, o2]
    have B' : eitherL (z.val : Int) (t.val : Int) (x.val : Int) (y.val : Int) = (bO (x.val : Int) (z.val : Int), bO (y.val : Int) (t.val : Int)) := by simp [eitherL, o1, o2, c2]
    have oO : okL (bO (x.val : Int) (z.val : Int)) (bO (y.val : Int) (t.val : Int)) = true := by simp [okL, inO]
    have oA : okL (bA (x.val : Int) (z.val : Int)) (bA (y.val : Int) (t.val : Int)) = true := by simp [okL, inA]
    have C : bothL (x.val : Int) (y.val : Int) (bO (x.val : Int) (z.val : Int)) (bO (y.val : Int) (t.val : Int)) = ((x.val : Int), (y.val : Int)) := by simp [bothL, o1, oO, c3]
    have D : eitherL (x.val : Int) (y.val : Int) (bA (x.val : Int) (z.val : Int)) (bA (y.val : Int) (t.val : Int)) = ((x.val : Int), (y.val : Int)) := by simp [eitherL, o1, oA, c4]
    have F1 : flowsB (x.val : Int) (y.val : Int) (z.val : Int) (t.val : Int) = (bA (x.val : Int) (z.val : Int) == (z.val : Int) && bA (y.val : Int) (t.val : Int) == (t.val : Int)) := by rw [← c5, ← c5]; simp [flowsB, o1, o2]
    have F2 : flowsB (x.val : Int) (y.val : Int) (z.val : Int) (t.val : Int) = (bO (x.val : Int) (z.val : Int) == (x.val : Int) && bO (y.val : Int) (t.val : Int) == (y.val : Int)) := by rw [← c6, ← c6]; simp [flowsB, o1, o2]
    have F3 := F1.symm.trans F2
    simp only [laws_FnLabelLaws.j0, A, A', B, B', C, D, im_both, im_either, im_flows, Option.bind_some, F1, F3, Bool.false_eq_true, if_false, beq_self_eq_true, Bool.and_self, if_true]
  unfold laws_FnLabelLaws.f
  by_cases c : (l.length : Int) > 1048576
  · simp only [c, if_true]
    exact Ev.all_ fun _ => rfl
  simp only [c, if_false]
  obtain ⟨x, y, z, t, h⟩ := flows_ev (fun z hz => u8_of (hl.2 z hz))
  have h' : Ev (fun k => spec_DrawLabelBoth.f k l) (x, y, z, t) := Ev.bind h (Ev.all_ fun _ => rfl)
  refine Ev.bind h' ?_
  simp only [im_both, im_either, Option.bind_some]
  refine Ev.bind (Ev.from_ 6 fun k hk => sp_both x y z t k hk) ?_
  have q : (!((bothL x y z t).1 == (bothL x y z t).1) || !((bothL x y z t).2 == (bothL x y z t).2)) = false := by simp
  simp only [q, sp_ok, Option.bind_some]
  cases o1 : okL x y with
  | false => exact J2 x y z t _ _
  | true =>
    cases o2 : okL z t with
    | false => exact J2 x y z t _ _
    | true => exact J1 x y z t o1 o2
end Go.Proofs.Ytcndpbegmdcelaa.Pure
