/- Plain facts: LabelBoth of the program and of the reference is one function of the four numbers. -/
import Derived.Test.YtaflodibibbakaaAx19
import Derived.Test.YtaflodibibbakaaLabOk
-- uses LabOk
namespace Go.Proofs.Ytaflodibibbakaa.A
open Go.RowKit Go.Proofs.YtaflodibibbakaaW.PrintWords Go.Proofs.YtaflodibibbakaaW.PrintLast Go.Proofs.YtaflodibibbakaaW.PrintMore
def bA (a b : Int) : Int := Go.bits .and .i64 a b
theorem bA_fin : ∀ x y : Fin 8, spec_l1Both.f 5 (x.val : Int) (y.val : Int) = some (bA (x.val : Int) (y.val : Int)) := by decide +kernel
theorem sp_both1 {a b : Int} (ha : isS a = true) (hb : isS b = true) (k : Nat) (hk : 5 ≤ k) : spec_l1Both.f k a b = some (bA a b) := by
 obtain ⟨x, rfl⟩ := as_fin ha
 obtain ⟨y, rfl⟩ := as_fin hb
 exact at_rounds (spec_l1Both.mono _ _) hk (bA_fin x y)
def bothL (a0 a1 b0 b1 : Int) : Int × Int := if okL a0 a1 && okL b0 b1 then (bA a0 b0, bA a1 b1) else (0, 0)
theorem sp_both (a0 a1 b0 b1 : Int) (k : Nat) (hk : 6 ≤ k) : spec_LabelBoth.f k a0 a1 b0 b1 = some (bothL a0 a1 b0 b1) := by
 obtain ⟨k, rfl⟩ : ∃ m, k = m + 1 := ⟨k - 1, by omega⟩
 unfold spec_LabelBoth.f bothL
 rw [sp_ok, sp_ok]
 cases h1 : okL a0 a1 <;> cases h2 : okL b0 b1 <;> simp [spec_LabelBoth.j0]
 have h1' : isS a0 = true ∧ isS a1 = true := by simpa [okL] using h1
 have h2' : isS b0 = true ∧ isS b1 = true := by simpa [okL] using h2
 rw [sp_both1 h1'.1 h2'.1 k (by omega), sp_both1 h1'.2 h2'.2 k (by omega)]
 rfl
end Go.Proofs.Ytaflodibibbakaa.A
