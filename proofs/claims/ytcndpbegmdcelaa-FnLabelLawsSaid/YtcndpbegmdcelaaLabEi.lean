/- Plain facts: LabelEither of the program and of the reference is one function of the four numbers. -/
import Derived.Test.YtcndpbegmdcelaaAx16
import Derived.Test.YtcndpbegmdcelaaAx17
import Derived.Test.YtcndpbegmdcelaaAx18
import Derived.Test.YtcndpbegmdcelaaLabOk
-- uses LabOk
namespace Go.Proofs.Ytcndpbegmdcelaa.A
open Go.RowKit Go.Proofs.YtcndpbegmdcelaaW.PrintWords Go.Proofs.YtcndpbegmdcelaaW.PrintLast Go.Proofs.YtcndpbegmdcelaaW.PrintMore
def bO (a b : Int) : Int := Go.bits .or .i64 a b
theorem bO_fin : ∀ x y : Fin 8, spec_l1Either.f 5 (x.val : Int) (y.val : Int) = some (bO (x.val : Int) (y.val : Int)) := by decide +kernel
theorem sp_either1 {a b : Int} (ha : isS a = true) (hb : isS b = true) (k : Nat) (hk : 5 ≤ k) : spec_l1Either.f k a b = some (bO a b) := by
  obtain ⟨x, rfl⟩ := as_fin ha
  obtain ⟨y, rfl⟩ := as_fin hb
  exact at_rounds (spec_l1Either.mono _ _) hk (bO_fin x y)
def eitherL (a0 a1 b0 b1 : Int) : Int × Int := if okL a0 a1 && okL b0 b1 then (bO a0 b0, bO a1 b1) else (0, 0)
theorem sp_either (a0 a1 b0 b1 : Int) (k : Nat) (hk : 6 ≤ k) : spec_LabelEither.f k a0 a1 b0 b1 = some (eitherL a0 a1 b0 b1) := by
  obtain ⟨k, rfl⟩ : ∃ m, k = m + 1 := ⟨k - 1, by omega⟩
  unfold spec_LabelEither.f eitherL
  rw [sp_ok, sp_ok]
  cases h1 : okL a0 a1 <;> cases h2 : okL b0 b1 <;> simp [spec_LabelEither.j0]
  have h1' : isS a0 = true ∧ isS a1 = true := by simpa [okL] using h1
  have h2' : isS b0 = true ∧ isS b1 = true := by simpa [okL] using h2
  rw [sp_either1 h1'.1 h2'.1 k (by omega), sp_either1 h1'.2 h2'.2 k (by omega)]
  rfl
theorem im_either (a0 a1 b0 b1 : Int) : impl_LabelEither.f a0 a1 b0 b1 = some (eitherL a0 a1 b0 b1) := by
  unfold impl_LabelEither.f eitherL
  rw [im_ok, im_ok]
  cases okL a0 a1 <;> cases okL b0 b1 <;> simp [bO]
end Go.Proofs.Ytcndpbegmdcelaa.A
