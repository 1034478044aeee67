/- Plain facts: LabelFlows of the program and of the reference is one Boolean function of the four numbers. -/
import Derived.Test.YtcffnnedghgmaaaAx28
import Derived.Test.YtcffnnedghgmaaaAx36
import Derived.Test.YtcffnnedghgmaaaLabOk
-- uses LabOk
namespace Go.Proofs.Ytcffnnedghgmaaa.A
open Go.RowKit Go.Proofs.YtcffnnedghgmaaaW.PrintWords Go.Proofs.YtcffnnedghgmaaaW.PrintLast Go.Proofs.YtcffnnedghgmaaaW.PrintMore
/-- One set is within another one. -/
def wi (a b : Int) : Bool := Go.bits .andNot .i64 a b == 0
theorem wi_fin : ∀ x y : Fin 8, spec_l1Within.f 5 (x.val : Int) (y.val : Int) = some (wi (x.val : Int) (y.val : Int)) := by decide +kernel
theorem sp_within {a b : Int} (ha : isS a = true) (hb : isS b = true) (k : Nat) (hk : 5 ≤ k) : spec_l1Within.f k a b = some (wi a b) := by
  obtain ⟨x, rfl⟩ := as_fin ha
  obtain ⟨y, rfl⟩ := as_fin hb
  exact at_rounds (spec_l1Within.mono _ _) hk (wi_fin x y)
theorem im_within (a b : Int) : impl_within.f a b = some (wi a b) := rfl
def flowsB (a0 a1 b0 b1 : Int) : Bool := okL a0 a1 && (okL b0 b1 && (wi b0 a0 && wi b1 a1))
theorem sp_flows (a0 a1 b0 b1 : Int) (k : Nat) (hk : 5 ≤ k) : spec_LabelFlows.f k a0 a1 b0 b1 = some (flowsB a0 a1 b0 b1) := by
  unfold spec_LabelFlows.f flowsB
  rw [sp_ok, sp_ok]
  cases h1 : okL a0 a1 <;> cases h2 : okL b0 b1 <;> simp
  have h1' : isS a0 = true ∧ isS a1 = true := by simpa [okL] using h1
  have h2' : isS b0 = true ∧ isS b1 = true := by simpa [okL] using h2
  rw [sp_within h2'.1 h1'.1 k hk, sp_within h2'.2 h1'.2 k hk]
  cases wi b0 a0 <;> simp
end Go.Proofs.Ytcffnnedghgmaaa.A
