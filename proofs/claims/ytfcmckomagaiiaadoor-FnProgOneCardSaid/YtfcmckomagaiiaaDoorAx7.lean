/- Go functions as Lean functions, and for each its contract; written by wip/tools/pr.py over the kit's print. -/
import Derived.Test.YtfcmckomagaiiaaDoorAx0
import Derived.Test.YtfcmckomagaiiaaDoorAx5
import Derived.Test.YtfcmckomagaiiaaDoorAx6
namespace Go.Proofs.YtfcmckomagaiiaaDoor.A
open Go.RowKit Go.Proofs.YtfcmckomagaiiaaDoorW.PrintWords Go.Proofs.YtfcmckomagaiiaaDoorW.PrintLast Go.Proofs.YtfcmckomagaiiaaDoorW.PrintMore
attribute [local go_sem] max2_int min2_int max_two min_two max_three min_three max_four min_four
set_option linter.unusedVariables false
set_option linter.unusedSimpArgs false
set_option maxHeartbeats 8000000
set_option maxRecDepth 100000

/-! ### spec_l2Say: function 16 -/
mutual
def spec_l2Say.l0 : Nat → List (S71) → ByteArray → Int → Option (ByteArray)
 | 0, _, _, _ => none
 | k + 1, x0, x3, x4 => if x4 < (x0.length : Int) then (if 0 ≤ x4 then (if ((D71 x0 x4).f0) = 1 then ((spec_l2Name.f ((D71 x0 x4).f1)).bind fun t159 => (if x3.size + t159.size ≤ 9223372036854775807 then (if (x3 ++ t159).size + 1 ≤ 9223372036854775807 then ((spec_l2SayVal.f k ((D71 x0 x4).f2.f0) ((D71 x0 x4).f2.f1) ((D71 x0 x4).f2.f2)).bind fun t160 => (if ((x3 ++ t159) ++ (⟨#[58]⟩ : ByteArray)).size + t160.size ≤ 9223372036854775807 then (if (((x3 ++ t159) ++ (⟨#[58]⟩ : ByteArray)) ++ t160).size + 1 ≤ 9223372036854775807 then (spec_l2Say.l0 k x0 ((((x3 ++ t159) ++ (⟨#[58]⟩ : ByteArray)) ++ t160) ++ (⟨#[59]⟩ : ByteArray)) (wrap64 (x4 + 1))) else (none)) else (none))) else (none)) else (none))) else (if ((D71 x0 x4).f0) = 3 then ((spec_l2Name.f ((D71 x0 x4).f1)).bind fun t161 => (if x3.size + t161.size ≤ 9223372036854775807 then (if (x3 ++ t161).size + 1 ≤ 9223372036854775807 then ((spec_l6Dec.f k ((D71 x0 x4).f3)).bind fun t162 => (if ((x3 ++ t161) ++ (⟨#[62]⟩ : ByteArray)).size + t162.size ≤ 9223372036854775807 then (if (((x3 ++ t161) ++ (⟨#[62]⟩ : ByteArray)) ++ t162).size + 1 ≤ 9223372036854775807 then (spec_l2Say.l0 k x0 ((((x3 ++ t161) ++ (⟨#[62]⟩ : ByteArray)) ++ t162) ++ (⟨#[59]⟩ : ByteArray)) (wrap64 (x4 + 1))) else (none)) else (none))) else (none)) else (none))) else ((spec_l2Name.f ((D71 x0 x4).f1)).bind fun t163 => (if x3.size + t163.size ≤ 9223372036854775807 then (if (x3 ++ t163).size + 2 ≤ 9223372036854775807 then ((spec_l2Say.f k ((D71 x0 x4).f4)).bind fun t164 => (if ((x3 ++ t163) ++ (⟨#[63, 40]⟩ : ByteArray)).size + t164.size ≤ 9223372036854775807 then (if (((x3 ++ t163) ++ (⟨#[63, 40]⟩ : ByteArray)) ++ t164).size + 2 ≤ 9223372036854775807 then ((spec_l2Say.f k ((D71 x0 x4).f5)).bind fun t165 => (if ((((x3 ++ t163) ++ (⟨#[63, 40]⟩ : ByteArray)) ++ t164) ++ (⟨#[41, 40]⟩ : ByteArray)).size + t165.size ≤ 9223372036854775807 then (if (((((x3 ++ t163) ++ (⟨#[63, 40]⟩ : ByteArray)) ++ t164) ++ (⟨#[41, 40]⟩ : ByteArray)) ++ t165).size + 1 ≤ 9223372036854775807 then (spec_l2Say.l0 k x0 ((((((x3 ++ t163) ++ (⟨#[63, 40]⟩ : ByteArray)) ++ t164) ++ (⟨#[41, 40]⟩ : ByteArray)) ++ t165) ++ (⟨#[41]⟩ : ByteArray)) (wrap64 (x4 + 1))) else (none)) else (none))) else (none)) else (none))) else (none)) else (none))))) else (none)) else (some x3)
def spec_l2Say.f : Nat → List (S71) → Option (ByteArray)
 | 0, _ => none
 | k + 1, l0 => spec_l2Say.l0 k l0 (⟨#[]⟩ : ByteArray) 0
end
def spec_l2Say.T7 : Bool × List (List Nat × List Nat) := (true, [([], []), ([], []), ([1], [1]), ([2], [2]), ([0, 3], [0, 3]), ([4], [4]), ([], []), ([6], [6]), ([7, 3], [7]), ([5, 8], [5, 8]), ([9], [9]), ([], []), ([11], [11]), ([12, 8], [12]), ([10, 13], [10, 13]), ([14], [14]), ([15, 13, 0, 1, 2, 3, 4, 5, 6, 7, 8, 9, 10, 11, 12, 13, 14, 15], [0, 15])])
def spec_l2Say.B7 : List Nat := [0, 0, 2, 6, 15, 31, 0, 64, 206, 511, 1023, 0, 2048, 6606, 16383, 32767, 65535]
theorem spec_l2Say.tab7 : rtab .any (opsOf Tryd.f16 7) = spec_l2Say.T7 := by kernel_rfl
theorem spec_l2Say.bits7 : waitsOk spec_l2Say.T7.2 spec_l2Say.B7 = true := by kernel_rfl
def spec_l2Say.T9 : Bool × List (List Nat × List Nat) := (true, [([], []), ([], []), ([1], [1]), ([2], [2]), ([0, 3], [0, 3]), ([4], [4]), ([], []), ([6], [6]), ([7, 3], [7]), ([5, 8], [5, 8]), ([9], [9]), ([10, 8, 0, 1, 2, 3, 4, 5, 6, 7, 8, 9, 10], [0, 10])])
def spec_l2Say.B9 : List Nat := [0, 0, 2, 6, 15, 31, 0, 64, 206, 511, 1023, 2047]
theorem spec_l2Say.tab9 : rtab .any (opsOf Tryd.f16 9) = spec_l2Say.T9 := by kernel_rfl
theorem spec_l2Say.bits9 : waitsOk spec_l2Say.T9.2 spec_l2Say.B9 = true := by kernel_rfl
def spec_l2Say.T11 : Bool × List (List Nat × List Nat) := (true, [([], []), ([], []), ([1], [1]), ([2], [2]), ([0, 3], [0, 3]), ([4], [4]), ([], []), ([6], [6]), ([7, 3], [7]), ([5, 8], [5, 8]), ([9], [9]), ([10, 8, 0, 1, 2, 3, 4, 5, 6, 7, 8, 9, 10], [0, 10])])
def spec_l2Say.B11 : List Nat := [0, 0, 2, 6, 15, 31, 0, 64, 206, 511, 1023, 2047]
theorem spec_l2Say.tab11 : rtab .any (opsOf Tryd.f16 11) = spec_l2Say.T11 := by kernel_rfl
theorem spec_l2Say.bits11 : waitsOk spec_l2Say.T11.2 spec_l2Say.B11 = true := by kernel_rfl
theorem spec_l2Say.calls (k : Nat) : ∀ (A0 : Option Addr) (c0 : Nat) (l0 : List (S71)) (r : ByteArray) (w : World) (hr0 : Kd.C k71 w A0 l0.length l0) (hc0 : l0.length ≤ c0) (h : spec_l2Say.f k l0 = some r),
  Calls Tryd.prog 16 #[.slice A0 l0.length c0] w fun e w' => e = .returned (.string r) ∧ Below w.heap.size w w' := by
 induction k using Nat.strongRecOn with
 | _ k ih =>
 intro A0 c0 l0 r w hr0 hc0 h
 cases k with
 | zero => exact absurd h (by simp [spec_l2Say.f])
 | succ k =>
 simp only [spec_l2Say.f] at h
 have hu71 := Tryd.underlying71
 have hu69 := Tryd.underlying69
 have HR0 := AM hr0
 have HC0 := AM hc0
 clear hr0 hc0
 have HB := AM (Below.refl w.heap.size w)
 have H : (spec_l2Say.l0 k l0 (⟨#[]⟩ : ByteArray) 0) = some r := h
 clear h
 have H' := AM H
 clear H
 go_enter Tryd.func16, Tryd.ntmps16
 go_wp2
 go_loopg [3, 4] k (fun kq v3 v4 w' => ∃ (x3_1 : ByteArray) (x4_1 : Int), v3 = .string x3_1 ∧ v4 = .int .i64 x4_1 ∧ Za (spec_l2Say.l0 kq l0 x3_1 x4_1 = some r) ∧ Za (kq ≤ k) ∧ Za (Below w.heap.size w w'))
 case atStart => exact ⟨((⟨#[]⟩ : ByteArray)), (0), ZSM, ZSM, H', ⟨Nat.le_refl _⟩, ⟨ZB⟩⟩
 case round => (
 clear H'
 try clear c1
 obtain ⟨x3_1, x4_1, rfl, rfl, HA, HK1, HB⟩ := hrel
 cases gk with
 | zero => exact absurd HA.out (by simp [spec_l2Say.l0])
 | succ k1 =>
  have H := HA.out
  clear HA
  simp only [spec_l2Say.l0] at H
  by_cases c2 : x4_1 < (l0.length : Int)
  focus (
  rw [if_pos c2] at H
  have c2b0 := decide_eq_true c2
  clear c2
  by_cases c3 : 0 ≤ x4_1
  focus (
  rw [if_pos c3] at H
  have c3b0 := decide_eq_true c3
  clear c3
  by_cases c4 : ((D71 l0 x4_1).f0) = 1
  focus (
  rw [if_pos c4] at H
  have c4b0 := beq_iff_eq.mpr c4
  have c4b1 := bne_eq_false_iff_eq.mpr c4
  clear c4
  obtain ⟨t159, A5, H⟩ := ZOB H; try dsimp only at H
  by_cases c6 : x3_1.size + t159.size ≤ 9223372036854775807
  focus (
  rw [if_pos c6] at H
  have c6b0 := eq_true c6
  have c6b1 := decide_eq_true c6
  try have c6b2 : (9223372036854775807 < x3_1.size + t159.size) = False := eq_false (Nat.not_lt.2 c6)
  by_cases c7 : (x3_1 ++ t159).size + 1 ≤ 9223372036854775807
  focus (
  rw [if_pos c7] at H
  have c7b0 := eq_true c7
  have c7b1 := decide_eq_true c7
  try have c7b2 : (9223372036854775807 < (x3_1 ++ t159).size + 1) = False := eq_false (Nat.not_lt.2 c7)
  try have c7b3 : (9223372036854775807 < x3_1.size + t159.size + 1) = False := eq_false (by have h_ := c7; simp only [ByteArray.size_append] at h_; first | exact Nat.not_lt.2 h_ | (have e2_ : ∀ x : UInt8, (⟨#[x]⟩ : ByteArray).size = 1 := fun _ => rfl; have e3_ : ∀ x y : UInt8, (⟨#[x, y]⟩ : ByteArray).size = 2 := fun _ _ => rfl; simp only [e2_, e3_] at h_; omega))
  obtain ⟨t160, A8, H⟩ := ZOB H; try dsimp only at H
  by_cases c9 : ((x3_1 ++ t159) ++ (⟨#[58]⟩ : ByteArray)).size + t160.size ≤ 9223372036854775807
  focus (
  rw [if_pos c9] at H
  have c9b0 := eq_true c9
  have c9b1 := decide_eq_true c9
  try have c9b2 : (9223372036854775807 < ((x3_1 ++ t159) ++ (⟨#[58]⟩ : ByteArray)).size + t160.size) = False := eq_false (Nat.not_lt.2 c9)
  try have c9b3 : (9223372036854775807 < x3_1.size + t159.size + 1 + t160.size) = False := eq_false (by have h_ := c9; simp only [ByteArray.size_append] at h_; first | exact Nat.not_lt.2 h_ | (have e2_ : ∀ x : UInt8, (⟨#[x]⟩ : ByteArray).size = 1 := fun _ => rfl; have e3_ : ∀ x y : UInt8, (⟨#[x, y]⟩ : ByteArray).size = 2 := fun _ _ => rfl; simp only [e2_, e3_] at h_; omega))
  by_cases c10 : (((x3_1 ++ t159) ++ (⟨#[58]⟩ : ByteArray)) ++ t160).size + 1 ≤ 9223372036854775807
  focus (
  rw [if_pos c10] at H
  have c10b0 := eq_true c10
  have c10b1 := decide_eq_true c10
  try have c10b2 : (9223372036854775807 < (((x3_1 ++ t159) ++ (⟨#[58]⟩ : ByteArray)) ++ t160).size + 1) = False := eq_false (Nat.not_lt.2 c10)
  try have c10b3 : (9223372036854775807 < x3_1.size + t159.size + 1 + t160.size + 1) = False := eq_false (by have h_ := c10; simp only [ByteArray.size_append] at h_; first | exact Nat.not_lt.2 h_ | (have e2_ : ∀ x : UInt8, (⟨#[x]⟩ : ByteArray).size = 1 := fun _ => rfl; have e3_ : ∀ x y : UInt8, (⟨#[x, y]⟩ : ByteArray).size = 2 := fun _ _ => rfl; simp only [e2_, e3_] at h_; omega))
  have H' := AM H
  clear H
  have tag0_ : Za True := ⟨trivial⟩)
  rotate_left
  focus (
  exact ZNE H c10))
  rotate_left
  focus (
  exact ZNE H c9))
  rotate_left
  focus (
  exact ZNE H c7))
  rotate_left
  focus (
  exact ZNE H c6))
  rotate_left
  focus (
  rw [if_neg c4] at H
  have c4b0 := beq_eq_false_iff_ne.mpr c4
  have c4b1 := bne_iff_ne.mpr c4
  by_cases c17 : ((D71 l0 x4_1).f0) = 3
  focus (
  rw [if_pos c17] at H
  have c17b0 := beq_iff_eq.mpr c17
  have c17b1 := bne_eq_false_iff_eq.mpr c17
  clear c17
  obtain ⟨t161, A18, H⟩ := ZOB H; try dsimp only at H
  by_cases c19 : x3_1.size + t161.size ≤ 9223372036854775807
  focus (
  rw [if_pos c19] at H
  have c19b0 := eq_true c19
  have c19b1 := decide_eq_true c19
  try have c19b2 : (9223372036854775807 < x3_1.size + t161.size) = False := eq_false (Nat.not_lt.2 c19)
  by_cases c20 : (x3_1 ++ t161).size + 1 ≤ 9223372036854775807
  focus (
  rw [if_pos c20] at H
  have c20b0 := eq_true c20
  have c20b1 := decide_eq_true c20
  try have c20b2 : (9223372036854775807 < (x3_1 ++ t161).size + 1) = False := eq_false (Nat.not_lt.2 c20)
  try have c20b3 : (9223372036854775807 < x3_1.size + t161.size + 1) = False := eq_false (by have h_ := c20; simp only [ByteArray.size_append] at h_; first | exact Nat.not_lt.2 h_ | (have e2_ : ∀ x : UInt8, (⟨#[x]⟩ : ByteArray).size = 1 := fun _ => rfl; have e3_ : ∀ x y : UInt8, (⟨#[x, y]⟩ : ByteArray).size = 2 := fun _ _ => rfl; simp only [e2_, e3_] at h_; omega))
  obtain ⟨t162, A21, H⟩ := ZOB H; try dsimp only at H
  by_cases c22 : ((x3_1 ++ t161) ++ (⟨#[62]⟩ : ByteArray)).size + t162.size ≤ 9223372036854775807
  focus (
  rw [if_pos c22] at H
  have c22b0 := eq_true c22
  have c22b1 := decide_eq_true c22
  try have c22b2 : (9223372036854775807 < ((x3_1 ++ t161) ++ (⟨#[62]⟩ : ByteArray)).size + t162.size) = False := eq_false (Nat.not_lt.2 c22)
  try have c22b3 : (9223372036854775807 < x3_1.size + t161.size + 1 + t162.size) = False := eq_false (by have h_ := c22; simp only [ByteArray.size_append] at h_; first | exact Nat.not_lt.2 h_ | (have e2_ : ∀ x : UInt8, (⟨#[x]⟩ : ByteArray).size = 1 := fun _ => rfl; have e3_ : ∀ x y : UInt8, (⟨#[x, y]⟩ : ByteArray).size = 2 := fun _ _ => rfl; simp only [e2_, e3_] at h_; omega))
  by_cases c23 : (((x3_1 ++ t161) ++ (⟨#[62]⟩ : ByteArray)) ++ t162).size + 1 ≤ 9223372036854775807
  focus (
  rw [if_pos c23] at H
  have c23b0 := eq_true c23
  have c23b1 := decide_eq_true c23
  try have c23b2 : (9223372036854775807 < (((x3_1 ++ t161) ++ (⟨#[62]⟩ : ByteArray)) ++ t162).size + 1) = False := eq_false (Nat.not_lt.2 c23)
  try have c23b3 : (9223372036854775807 < x3_1.size + t161.size + 1 + t162.size + 1) = False := eq_false (by have h_ := c23; simp only [ByteArray.size_append] at h_; first | exact Nat.not_lt.2 h_ | (have e2_ : ∀ x : UInt8, (⟨#[x]⟩ : ByteArray).size = 1 := fun _ => rfl; have e3_ : ∀ x y : UInt8, (⟨#[x, y]⟩ : ByteArray).size = 2 := fun _ _ => rfl; simp only [e2_, e3_] at h_; omega))
  have H' := AM H
  clear H
  have tag1_ : Za True := ⟨trivial⟩)
  rotate_left
  focus (
  exact ZNE H c23))
  rotate_left
  focus (
  exact ZNE H c22))
  rotate_left
  focus (
  exact ZNE H c20))
  rotate_left
  focus (
  exact ZNE H c19))
  rotate_left
  focus (
  rw [if_neg c17] at H
  have c17b0 := beq_eq_false_iff_ne.mpr c17
  have c17b1 := bne_iff_ne.mpr c17
  obtain ⟨t163, A30, H⟩ := ZOB H; try dsimp only at H
  by_cases c31 : x3_1.size + t163.size ≤ 9223372036854775807
  focus (
  rw [if_pos c31] at H
  have c31b0 := eq_true c31
  have c31b1 := decide_eq_true c31
  try have c31b2 : (9223372036854775807 < x3_1.size + t163.size) = False := eq_false (Nat.not_lt.2 c31)
  by_cases c32 : (x3_1 ++ t163).size + 2 ≤ 9223372036854775807
  focus (
  rw [if_pos c32] at H
  have c32b0 := eq_true c32
  have c32b1 := decide_eq_true c32
  try have c32b2 : (9223372036854775807 < (x3_1 ++ t163).size + 2) = False := eq_false (Nat.not_lt.2 c32)
  try have c32b3 : (9223372036854775807 < x3_1.size + t163.size + 2) = False := eq_false (by have h_ := c32; simp only [ByteArray.size_append] at h_; first | exact Nat.not_lt.2 h_ | (have e2_ : ∀ x : UInt8, (⟨#[x]⟩ : ByteArray).size = 1 := fun _ => rfl; have e3_ : ∀ x y : UInt8, (⟨#[x, y]⟩ : ByteArray).size = 2 := fun _ _ => rfl; simp only [e2_, e3_] at h_; omega))
  obtain ⟨t164, A33, H⟩ := ZOB H; try dsimp only at H
  by_cases c34 : ((x3_1 ++ t163) ++ (⟨#[63, 40]⟩ : ByteArray)).size + t164.size ≤ 9223372036854775807
  focus (
  rw [if_pos c34] at H
  have c34b0 := eq_true c34
  have c34b1 := decide_eq_true c34
  try have c34b2 : (9223372036854775807 < ((x3_1 ++ t163) ++ (⟨#[63, 40]⟩ : ByteArray)).size + t164.size) = False := eq_false (Nat.not_lt.2 c34)
  try have c34b3 : (9223372036854775807 < x3_1.size + t163.size + 2 + t164.size) = False := eq_false (by have h_ := c34; simp only [ByteArray.size_append] at h_; first | exact Nat.not_lt.2 h_ | (have e2_ : ∀ x : UInt8, (⟨#[x]⟩ : ByteArray).size = 1 := fun _ => rfl; have e3_ : ∀ x y : UInt8, (⟨#[x, y]⟩ : ByteArray).size = 2 := fun _ _ => rfl; simp only [e2_, e3_] at h_; omega))
  by_cases c35 : (((x3_1 ++ t163) ++ (⟨#[63, 40]⟩ : ByteArray)) ++ t164).size + 2 ≤ 9223372036854775807
  focus (
  rw [if_pos c35] at H
  have c35b0 := eq_true c35
  have c35b1 := decide_eq_true c35
  try have c35b2 : (9223372036854775807 < (((x3_1 ++ t163) ++ (⟨#[63, 40]⟩ : ByteArray)) ++ t164).size + 2) = False := eq_false (Nat.not_lt.2 c35)
  try have c35b3 : (9223372036854775807 < x3_1.size + t163.size + 2 + t164.size + 2) = False := eq_false (by have h_ := c35; simp only [ByteArray.size_append] at h_; first | exact Nat.not_lt.2 h_ | (have e2_ : ∀ x : UInt8, (⟨#[x]⟩ : ByteArray).size = 1 := fun _ => rfl; have e3_ : ∀ x y : UInt8, (⟨#[x, y]⟩ : ByteArray).size = 2 := fun _ _ => rfl; simp only [e2_, e3_] at h_; omega))
  obtain ⟨t165, A36, H⟩ := ZOB H; try dsimp only at H
  by_cases c37 : ((((x3_1 ++ t163) ++ (⟨#[63, 40]⟩ : ByteArray)) ++ t164) ++ (⟨#[41, 40]⟩ : ByteArray)).size + t165.size ≤ 9223372036854775807
  focus (
  rw [if_pos c37] at H
  have c37b0 := eq_true c37
  have c37b1 := decide_eq_true c37
  try have c37b2 : (9223372036854775807 < ((((x3_1 ++ t163) ++ (⟨#[63, 40]⟩ : ByteArray)) ++ t164) ++ (⟨#[41, 40]⟩ : ByteArray)).size + t165.size) = False := eq_false (Nat.not_lt.2 c37)
  try have c37b3 : (9223372036854775807 < x3_1.size + t163.size + 2 + t164.size + 2 + t165.size) = False := eq_false (by have h_ := c37; simp only [ByteArray.size_append] at h_; first | exact Nat.not_lt.2 h_ | (have e2_ : ∀ x : UInt8, (⟨#[x]⟩ : ByteArray).size = 1 := fun _ => rfl; have e3_ : ∀ x y : UInt8, (⟨#[x, y]⟩ : ByteArray).size = 2 := fun _ _ => rfl; simp only [e2_, e3_] at h_; omega))
  by_cases c38 : (((((x3_1 ++ t163) ++ (⟨#[63, 40]⟩ : ByteArray)) ++ t164) ++ (⟨#[41, 40]⟩ : ByteArray)) ++ t165).size + 1 ≤ 9223372036854775807
  focus (
  rw [if_pos c38] at H
  have c38b0 := eq_true c38
  have c38b1 := decide_eq_true c38
  try have c38b2 : (9223372036854775807 < (((((x3_1 ++ t163) ++ (⟨#[63, 40]⟩ : ByteArray)) ++ t164) ++ (⟨#[41, 40]⟩ : ByteArray)) ++ t165).size + 1) = False := eq_false (Nat.not_lt.2 c38)
  try have c38b3 : (9223372036854775807 < x3_1.size + t163.size + 2 + t164.size + 2 + t165.size + 1) = False := eq_false (by have h_ := c38; simp only [ByteArray.size_append] at h_; first | exact Nat.not_lt.2 h_ | (have e2_ : ∀ x : UInt8, (⟨#[x]⟩ : ByteArray).size = 1 := fun _ => rfl; have e3_ : ∀ x y : UInt8, (⟨#[x, y]⟩ : ByteArray).size = 2 := fun _ _ => rfl; simp only [e2_, e3_] at h_; omega))
  have H' := AM H
  clear H
  have tag2_ : Za True := ⟨trivial⟩)
  rotate_left
  focus (
  exact ZNE H c38))
  rotate_left
  focus (
  exact ZNE H c37))
  rotate_left
  focus (
  exact ZNE H c35))
  rotate_left
  focus (
  exact ZNE H c34))
  rotate_left
  focus (
  exact ZNE H c32))
  rotate_left
  focus (
  exact ZNE H c31))
  rotate_left)
  rotate_left 2)
  rotate_left 3
  focus (
  exact ZNE H c3))
  rotate_left 3
  focus (
  rw [if_neg c2] at H
  have c2b0 := decide_eq_false c2
  clear c2
  obtain rfl := Option.some.inj H
  have tag3_ : Za True := ⟨trivial⟩)
  rotate_left
  all_goals (
  first
  | (
  (first | (have z_ := tag0_; clear z_) | (have z_ := tag1_; clear z_) | (have z_ := tag2_; clear z_))
  have pq0 : 0 ≤ (x4_1 : Int) := ZD
  have qq0 : x4_1 < (l0.length : Int) := ZD
  obtain ⟨adq0, Aq0_6, cq0_6, Aq0_7, cq0_7, eq0, hxq0_0, hxq0_1, hxq0_2, hxq0_3, hxq0_4, hxq0_5, hxq0_6, hxq0_7, hlq0_6, hiq0_6, hlq0_7, hiq0_7⟩ := at_T71 HR0.out x4_1 pq0 qq0
  cases eq0
  replace hxq0_0 := ZHX HB hxq0_0
  replace hxq0_1 := ZHX HB hxq0_1
  replace hxq0_2 := ZHX HB hxq0_2
  replace hxq0_3 := ZHX HB hxq0_3
  replace hxq0_4 := ZHX HB hxq0_4
  replace hxq0_5 := ZHX HB hxq0_5
  replace hxq0_6 := ZHX HB hxq0_6
  replace hxq0_7 := ZHX HB hxq0_7
  have HRq0_6 := AM hiq0_6
  have HCq0_6 := AM hlq0_6
  clear hiq0_6 hlq0_6
  have HRq0_7 := AM hiq0_7
  have HCq0_7 := AM hlq0_7
  clear hiq0_7 hlq0_7
  replace pq0 := eq_true pq0
  replace qq0 := eq_true qq0
  try go_wp2_with (first | ((with_reducible refine gate_dst (N := 5) rfl ?_); refine ZXW w (N := 5) (cs := #[.int .i64 0, .int .i64 0, .int .i64 0, .int .i64 0, .int .i64 0, .int .i64 0, .slice none 0 0, .slice none 0 0]) (t := 71) ?_; intro gbq0 hg wq0 BKq0 GWq0 hb; replace HB := ZT HB hb; clear hb hg; have hczq0 := ZC8 wq0 BKq0))
  have nq0_ : Za (((((((((wq0.setCell ⟨gbq0, 0, none⟩ (.int .i64 ((D71 l0 x4_1).f0))).setCell ⟨gbq0, 1, none⟩ (.int .i64 ((D71 l0 x4_1).f1))).setCell ⟨gbq0, 2, none⟩ (.int .i64 ((D71 l0 x4_1).f2.f0))).setCell ⟨gbq0, 3, none⟩ (.int .i64 ((D71 l0 x4_1).f2.f1))).setCell ⟨gbq0, 4, none⟩ (.int .i64 ((D71 l0 x4_1).f2.f2))).setCell ⟨gbq0, 5, none⟩ (.int .i64 ((D71 l0 x4_1).f3))).setCell ⟨gbq0, 6, none⟩ (.slice Aq0_6 ((D71 l0 x4_1).f4).length cq0_6)).setCell ⟨gbq0, 7, none⟩ (.slice Aq0_7 ((D71 l0 x4_1).f5).length cq0_7)).heap[gbq0]? = some (.cells #[.int .i64 ((D71 l0 x4_1).f0), .int .i64 ((D71 l0 x4_1).f1), .int .i64 ((D71 l0 x4_1).f2.f0), .int .i64 ((D71 l0 x4_1).f2.f1), .int .i64 ((D71 l0 x4_1).f2.f2), .int .i64 ((D71 l0 x4_1).f3), .slice Aq0_6 ((D71 l0 x4_1).f4).length cq0_6, .slice Aq0_7 ((D71 l0 x4_1).f5).length cq0_7] 71 (0, 0))) := ⟨ZZ BKq0.out⟩
  have nq1_ : Za (Below w.heap.size w ((((((((wq0.setCell ⟨gbq0, 0, none⟩ (.int .i64 ((D71 l0 x4_1).f0))).setCell ⟨gbq0, 1, none⟩ (.int .i64 ((D71 l0 x4_1).f1))).setCell ⟨gbq0, 2, none⟩ (.int .i64 ((D71 l0 x4_1).f2.f0))).setCell ⟨gbq0, 3, none⟩ (.int .i64 ((D71 l0 x4_1).f2.f1))).setCell ⟨gbq0, 4, none⟩ (.int .i64 ((D71 l0 x4_1).f2.f2))).setCell ⟨gbq0, 5, none⟩ (.int .i64 ((D71 l0 x4_1).f3))).setCell ⟨gbq0, 6, none⟩ (.slice Aq0_6 ((D71 l0 x4_1).f4).length cq0_6)).setCell ⟨gbq0, 7, none⟩ (.slice Aq0_7 ((D71 l0 x4_1).f5).length cq0_7))) := ⟨ZB⟩
  (try clear BKq0)
  (try clear HB)
  generalize ((((((((wq0.setCell ⟨gbq0, 0, none⟩ (.int .i64 ((D71 l0 x4_1).f0))).setCell ⟨gbq0, 1, none⟩ (.int .i64 ((D71 l0 x4_1).f1))).setCell ⟨gbq0, 2, none⟩ (.int .i64 ((D71 l0 x4_1).f2.f0))).setCell ⟨gbq0, 3, none⟩ (.int .i64 ((D71 l0 x4_1).f2.f1))).setCell ⟨gbq0, 4, none⟩ (.int .i64 ((D71 l0 x4_1).f2.f2))).setCell ⟨gbq0, 5, none⟩ (.int .i64 ((D71 l0 x4_1).f3))).setCell ⟨gbq0, 6, none⟩ (.slice Aq0_6 ((D71 l0 x4_1).f4).length cq0_6)).setCell ⟨gbq0, 7, none⟩ (.slice Aq0_7 ((D71 l0 x4_1).f5).length cq0_7)) = wq1 at nq0_ nq1_ ⊢
  have BKq0 := nq0_
  have HB := nq1_
  clear nq0_ nq1_
  replace BKq0 := AM (blk_drew BKq0.out)
  replace HB := AM (below_drew1 HB.out)
  first
  | (
  (have z_ := tag0_; clear z_)
  refine start_ (n := 12) (S := fun w' => w'.cell? ⟨gbq0, 0, none⟩ = some (.int .i64 ((D71 l0 x4_1).f0)) ∧ w'.cell? ⟨gbq0, 1, none⟩ = some (.int .i64 ((D71 l0 x4_1).f1)) ∧ w'.cell? ⟨gbq0, 2, none⟩ = some (.int .i64 ((D71 l0 x4_1).f2.f0)) ∧ w'.cell? ⟨gbq0, 3, none⟩ = some (.int .i64 ((D71 l0 x4_1).f2.f1)) ∧ w'.cell? ⟨gbq0, 4, none⟩ = some (.int .i64 ((D71 l0 x4_1).f2.f2)) ∧ w'.cell? ⟨gbq0, 5, none⟩ = some (.int .i64 ((D71 l0 x4_1).f3)) ∧ w'.cell? ⟨gbq0, 6, none⟩ = some (.slice Aq0_6 ((D71 l0 x4_1).f4).length cq0_6) ∧ w'.cell? ⟨gbq0, 7, none⟩ = some (.slice Aq0_7 ((D71 l0 x4_1).f5).length cq0_7)) (ds := []) #[F,F,F,F,F,F,F,F,F,F,F,F] (by kernel_rfl) rfl rfl ⟨ZA BKq0 0, ZA BKq0 1, ZA BKq0 2, ZA BKq0 3, ZA BKq0 4, ZA BKq0 5, ZA BKq0 6, ZA BKq0 7⟩ (fun hHeld => ?_); refine with_tabW spec_l2Say.tab9 spec_l2Say.bits9 (fun HT_ HW_ => ?_)
  generalize wq1.drew = wq2 at BKq0 HB hHeld ⊢
  refine ZU 0 36 #[T,F,F,F,F,F,F,F,F,F,F,F] ?_
  refine ZU 1 37 #[T,T,F,F,F,F,F,F,F,F,F,F] ?_
  refine ZU 6 42 #[T,T,F,F,F,F,T,F,F,F,F,F] ?_
  refine ZTK 2 38 #[T,T,T,F,F,F,T,F,F,F,F,F] hHeld ?_
  refine ZTK 7 43 #[T,T,T,F,F,F,T,T,F,F,F,F] hHeld ?_
  refine one_ (i := 3) (N := some 39) #[T,T,T,T,F,F,T,T,F,F,F,F] rfl rfl (one_of HT_.out (by kernel_rfl)) (by decide) (fun K hK => ?_)
  refine ZGO Tryd.func34 #[.int .i64 ((D71 l0 x4_1).f1)] ?_
  with_reducible refine (spec_l2Name.calls ((D71 l0 x4_1).f1) t159 _ A5.out).mono ?_
  rintro e wq3 ⟨rfl, hb⟩
  refine ZV1 ?_
  replace BKq0 := ZW BKq0 hb
  replace HB := ZT HB hb
  (try clear hb)
  (try clear hb2)
  (try clear hk)
  (try clear hi)
  refine hK.out _ _ ⟨ZA BKq0 0, ZA BKq0 1, ZA BKq0 2, ZA BKq0 3, ZA BKq0 4, ZA BKq0 5, ZA BKq0 6, ZA BKq0 7⟩ (fun hHeld => ?_)
  clear hK K
  refine ZNO 39 ?_
  refine ZU 4 40 #[T,T,T,T,T,F,T,T,F,F,F,F] ?_
  refine ZU 5 41 #[T,T,T,T,T,T,T,T,F,F,F,F] ?_
  refine one_ (i := 8) (N := some 44) #[T,T,T,T,T,T,T,T,T,F,F,F] rfl rfl (one_of HT_.out (by kernel_rfl)) (by decide) (fun K hK => ?_)
  refine ZGO Tryd.func35 #[.agg #[.int .i64 ((D71 l0 x4_1).f2.f0), .int .i64 ((D71 l0 x4_1).f2.f1), .int .i64 ((D71 l0 x4_1).f2.f2)]] ?_
  with_reducible refine (spec_l2SayVal.calls k1 ((D71 l0 x4_1).f2.f0) ((D71 l0 x4_1).f2.f1) ((D71 l0 x4_1).f2.f2) t160 _ A8.out).mono ?_
  rintro e wq4 ⟨rfl, hb⟩
  refine ZV1 ?_
  replace BKq0 := ZW BKq0 hb
  replace HB := ZT HB hb
  (try clear hb)
  (try clear hb2)
  (try clear hk)
  (try clear hi)
  refine hK.out _ _ ⟨ZA BKq0 0, ZA BKq0 1, ZA BKq0 2, ZA BKq0 3, ZA BKq0 4, ZA BKq0 5, ZA BKq0 6, ZA BKq0 7⟩ (fun hHeld => ?_)
  clear hK K
  refine ZNO 44 ?_
  refine ZU 9 45 #[T,T,T,T,T,T,T,T,T,T,F,F] ?_
  refine ZU 10 46 #[T,T,T,T,T,T,T,T,T,T,T,F] ?_
  refine ZU 11 3 #[T,T,T,T,T,T,T,T,T,T,T,T] ?_
  refine done_ (done_of HT_.out (by kernel_rfl)) ?_
  try go_wp2
  go_roundg k1
  case measure => have := HK1.out; omega
  case rel => exact ⟨((((x3_1 ++ t159) ++ (⟨#[58]⟩ : ByteArray)) ++ t160) ++ (⟨#[59]⟩ : ByteArray)), (wrap64 (x4_1 + 1)), ZSM, ZSM, H', ⟨by have := HK1.out; omega⟩, ⟨ZB⟩⟩)
  | (
  (have z_ := tag1_; clear z_)
  refine start_ (n := 12) (S := fun w' => w'.cell? ⟨gbq0, 0, none⟩ = some (.int .i64 ((D71 l0 x4_1).f0)) ∧ w'.cell? ⟨gbq0, 1, none⟩ = some (.int .i64 ((D71 l0 x4_1).f1)) ∧ w'.cell? ⟨gbq0, 2, none⟩ = some (.int .i64 ((D71 l0 x4_1).f2.f0)) ∧ w'.cell? ⟨gbq0, 3, none⟩ = some (.int .i64 ((D71 l0 x4_1).f2.f1)) ∧ w'.cell? ⟨gbq0, 4, none⟩ = some (.int .i64 ((D71 l0 x4_1).f2.f2)) ∧ w'.cell? ⟨gbq0, 5, none⟩ = some (.int .i64 ((D71 l0 x4_1).f3)) ∧ w'.cell? ⟨gbq0, 6, none⟩ = some (.slice Aq0_6 ((D71 l0 x4_1).f4).length cq0_6) ∧ w'.cell? ⟨gbq0, 7, none⟩ = some (.slice Aq0_7 ((D71 l0 x4_1).f5).length cq0_7)) (ds := []) #[F,F,F,F,F,F,F,F,F,F,F,F] (by kernel_rfl) rfl rfl ⟨ZA BKq0 0, ZA BKq0 1, ZA BKq0 2, ZA BKq0 3, ZA BKq0 4, ZA BKq0 5, ZA BKq0 6, ZA BKq0 7⟩ (fun hHeld => ?_); refine with_tabW spec_l2Say.tab11 spec_l2Say.bits11 (fun HT_ HW_ => ?_)
  generalize wq1.drew = wq2 at BKq0 HB hHeld ⊢
  refine ZU 0 49 #[T,F,F,F,F,F,F,F,F,F,F,F] ?_
  refine ZU 1 50 #[T,T,F,F,F,F,F,F,F,F,F,F] ?_
  refine ZU 6 55 #[T,T,F,F,F,F,T,F,F,F,F,F] ?_
  refine ZTK 2 51 #[T,T,T,F,F,F,T,F,F,F,F,F] hHeld ?_
  refine ZTK 7 56 #[T,T,T,F,F,F,T,T,F,F,F,F] hHeld ?_
  refine one_ (i := 3) (N := some 52) #[T,T,T,T,F,F,T,T,F,F,F,F] rfl rfl (one_of HT_.out (by kernel_rfl)) (by decide) (fun K hK => ?_)
  refine ZGO Tryd.func34 #[.int .i64 ((D71 l0 x4_1).f1)] ?_
  with_reducible refine (spec_l2Name.calls ((D71 l0 x4_1).f1) t161 _ A18.out).mono ?_
  rintro e wq3 ⟨rfl, hb⟩
  refine ZV1 ?_
  replace BKq0 := ZW BKq0 hb
  replace HB := ZT HB hb
  (try clear hb)
  (try clear hb2)
  (try clear hk)
  (try clear hi)
  refine hK.out _ _ ⟨ZA BKq0 0, ZA BKq0 1, ZA BKq0 2, ZA BKq0 3, ZA BKq0 4, ZA BKq0 5, ZA BKq0 6, ZA BKq0 7⟩ (fun hHeld => ?_)
  clear hK K
  refine ZNO 52 ?_
  refine ZU 4 53 #[T,T,T,T,T,F,T,T,F,F,F,F] ?_
  refine ZU 5 54 #[T,T,T,T,T,T,T,T,F,F,F,F] ?_
  refine one_ (i := 8) (N := some 57) #[T,T,T,T,T,T,T,T,T,F,F,F] rfl rfl (one_of HT_.out (by kernel_rfl)) (by decide) (fun K hK => ?_)
  refine ZGO Tryd.func36 #[.int .i64 ((D71 l0 x4_1).f3)] ?_
  with_reducible refine (spec_l6Dec.calls k1 ((D71 l0 x4_1).f3) t162 _ A21.out).mono ?_
  rintro e wq4 ⟨rfl, hb⟩
  refine ZV1 ?_
  replace BKq0 := ZW BKq0 hb
  replace HB := ZT HB hb
  (try clear hb)
  (try clear hb2)
  (try clear hk)
  (try clear hi)
  refine hK.out _ _ ⟨ZA BKq0 0, ZA BKq0 1, ZA BKq0 2, ZA BKq0 3, ZA BKq0 4, ZA BKq0 5, ZA BKq0 6, ZA BKq0 7⟩ (fun hHeld => ?_)
  clear hK K
  refine ZNO 57 ?_
  refine ZU 9 58 #[T,T,T,T,T,T,T,T,T,T,F,F] ?_
  refine ZU 10 59 #[T,T,T,T,T,T,T,T,T,T,T,F] ?_
  refine ZU 11 3 #[T,T,T,T,T,T,T,T,T,T,T,T] ?_
  refine done_ (done_of HT_.out (by kernel_rfl)) ?_
  try go_wp2
  go_roundg k1
  case measure => have := HK1.out; omega
  case rel => exact ⟨((((x3_1 ++ t161) ++ (⟨#[62]⟩ : ByteArray)) ++ t162) ++ (⟨#[59]⟩ : ByteArray)), (wrap64 (x4_1 + 1)), ZSM, ZSM, H', ⟨by have := HK1.out; omega⟩, ⟨ZB⟩⟩)
  | (
  (have z_ := tag2_; clear z_)
  refine start_ (n := 17) (S := fun w' => w'.cell? ⟨gbq0, 0, none⟩ = some (.int .i64 ((D71 l0 x4_1).f0)) ∧ w'.cell? ⟨gbq0, 1, none⟩ = some (.int .i64 ((D71 l0 x4_1).f1)) ∧ w'.cell? ⟨gbq0, 2, none⟩ = some (.int .i64 ((D71 l0 x4_1).f2.f0)) ∧ w'.cell? ⟨gbq0, 3, none⟩ = some (.int .i64 ((D71 l0 x4_1).f2.f1)) ∧ w'.cell? ⟨gbq0, 4, none⟩ = some (.int .i64 ((D71 l0 x4_1).f2.f2)) ∧ w'.cell? ⟨gbq0, 5, none⟩ = some (.int .i64 ((D71 l0 x4_1).f3)) ∧ w'.cell? ⟨gbq0, 6, none⟩ = some (.slice Aq0_6 ((D71 l0 x4_1).f4).length cq0_6) ∧ w'.cell? ⟨gbq0, 7, none⟩ = some (.slice Aq0_7 ((D71 l0 x4_1).f5).length cq0_7)) (ds := []) #[F,F,F,F,F,F,F,F,F,F,F,F,F,F,F,F,F] (by kernel_rfl) rfl rfl ⟨ZA BKq0 0, ZA BKq0 1, ZA BKq0 2, ZA BKq0 3, ZA BKq0 4, ZA BKq0 5, ZA BKq0 6, ZA BKq0 7⟩ (fun hHeld => ?_); refine with_tabW spec_l2Say.tab7 spec_l2Say.bits7 (fun HT_ HW_ => ?_)
  generalize wq1.drew = wq2 at BKq0 HB hHeld ⊢
  refine ZU 0 18 #[T,F,F,F,F,F,F,F,F,F,F,F,F,F,F,F,F] ?_
  refine ZU 1 19 #[T,T,F,F,F,F,F,F,F,F,F,F,F,F,F,F,F] ?_
  refine ZU 6 24 #[T,T,F,F,F,F,T,F,F,F,F,F,F,F,F,F,F] ?_
  refine ZU 11 29 #[T,T,F,F,F,F,T,F,F,F,F,T,F,F,F,F,F] ?_
  refine ZTK 2 20 #[T,T,T,F,F,F,T,F,F,F,F,T,F,F,F,F,F] hHeld ?_
  refine ZTK 7 25 #[T,T,T,F,F,F,T,T,F,F,F,T,F,F,F,F,F] hHeld ?_
  refine ZTK 12 30 #[T,T,T,F,F,F,T,T,F,F,F,T,T,F,F,F,F] hHeld ?_
  refine one_ (i := 3) (N := some 21) #[T,T,T,T,F,F,T,T,F,F,F,T,T,F,F,F,F] rfl rfl (one_of HT_.out (by kernel_rfl)) (by decide) (fun K hK => ?_)
  refine ZGO Tryd.func34 #[.int .i64 ((D71 l0 x4_1).f1)] ?_
  with_reducible refine (spec_l2Name.calls ((D71 l0 x4_1).f1) t163 _ A30.out).mono ?_
  rintro e wq3 ⟨rfl, hb⟩
  refine ZV1 ?_
  replace BKq0 := ZW BKq0 hb
  replace HB := ZT HB hb
  (try clear hb)
  (try clear hb2)
  (try clear hk)
  (try clear hi)
  refine hK.out _ _ ⟨ZA BKq0 0, ZA BKq0 1, ZA BKq0 2, ZA BKq0 3, ZA BKq0 4, ZA BKq0 5, ZA BKq0 6, ZA BKq0 7⟩ (fun hHeld => ?_)
  clear hK K
  refine ZNO 21 ?_
  refine ZU 4 22 #[T,T,T,T,T,F,T,T,F,F,F,T,T,F,F,F,F] ?_
  refine ZU 5 23 #[T,T,T,T,T,T,T,T,F,F,F,T,T,F,F,F,F] ?_
  refine one_ (i := 8) (N := some 26) #[T,T,T,T,T,T,T,T,T,F,F,T,T,F,F,F,F] rfl rfl (one_of HT_.out (by kernel_rfl)) (by decide) (fun K hK => ?_)
  refine ZGO Tryd.func16 #[.slice Aq0_6 ((D71 l0 x4_1).f4).length cq0_6] ?_
  with_reducible refine (ih k1 (by have := HK1.out; omega) _ _ ((D71 l0 x4_1).f4) t164 _ ?side1 ?side2 A33.out).mono ?_
  (case side1 => exact ZQ (Kd.C_below HRq0_6.out HB.out))
  (case side2 => exact HCq0_6.out)
  rintro e wq4 ⟨rfl, hb⟩
  refine ZV1 ?_
  replace BKq0 := ZW BKq0 hb
  replace HB := ZT HB hb
  (try clear hb)
  (try clear hb2)
  (try clear hk)
  (try clear hi)
  refine hK.out _ _ ⟨ZA BKq0 0, ZA BKq0 1, ZA BKq0 2, ZA BKq0 3, ZA BKq0 4, ZA BKq0 5, ZA BKq0 6, ZA BKq0 7⟩ (fun hHeld => ?_)
  clear hK K
  refine ZNO 26 ?_
  refine ZU 9 27 #[T,T,T,T,T,T,T,T,T,T,F,T,T,F,F,F,F] ?_
  refine ZU 10 28 #[T,T,T,T,T,T,T,T,T,T,T,T,T,F,F,F,F] ?_
  refine one_ (i := 13) (N := some 31) #[T,T,T,T,T,T,T,T,T,T,T,T,T,T,F,F,F] rfl rfl (one_of HT_.out (by kernel_rfl)) (by decide) (fun K hK => ?_)
  refine ZGO Tryd.func16 #[.slice Aq0_7 ((D71 l0 x4_1).f5).length cq0_7] ?_
  with_reducible refine (ih k1 (by have := HK1.out; omega) _ _ ((D71 l0 x4_1).f5) t165 _ ?side1 ?side2 A36.out).mono ?_
  (case side1 => exact ZQ (Kd.C_below HRq0_7.out HB.out))
  (case side2 => exact HCq0_7.out)
  rintro e wq5 ⟨rfl, hb⟩
  refine ZV1 ?_
  replace BKq0 := ZW BKq0 hb
  replace HB := ZT HB hb
  (try clear hb)
  (try clear hb2)
  (try clear hk)
  (try clear hi)
  refine hK.out _ _ ⟨ZA BKq0 0, ZA BKq0 1, ZA BKq0 2, ZA BKq0 3, ZA BKq0 4, ZA BKq0 5, ZA BKq0 6, ZA BKq0 7⟩ (fun hHeld => ?_)
  clear hK K
  refine ZNO 31 ?_
  refine ZU 14 32 #[T,T,T,T,T,T,T,T,T,T,T,T,T,T,T,F,F] ?_
  refine ZU 15 33 #[T,T,T,T,T,T,T,T,T,T,T,T,T,T,T,T,F] ?_
  refine ZU 16 3 #[T,T,T,T,T,T,T,T,T,T,T,T,T,T,T,T,T] ?_
  refine done_ (done_of HT_.out (by kernel_rfl)) ?_
  try go_wp2
  go_roundg k1
  case measure => have := HK1.out; omega
  case rel => exact ⟨((((((x3_1 ++ t163) ++ (⟨#[63, 40]⟩ : ByteArray)) ++ t164) ++ (⟨#[41, 40]⟩ : ByteArray)) ++ t165) ++ (⟨#[41]⟩ : ByteArray)), (wrap64 (x4_1 + 1)), ZSM, ZSM, H', ⟨by have := HK1.out; omega⟩, ⟨ZB⟩⟩))
  | (
  (have z_ := tag3_; clear z_)
  go_wp2
  go_ret
  exact ⟨ZE, ZB⟩
  )))
/-! ### spec_ProgText: function 6 -/
def spec_ProgText.l0 : Nat → ByteArray → Int → List (S43) → List (S71) → Option (ByteArray)
 | 0, _, _, _, _ => none
 | k + 1, x3, x4, x167000, x167001 => if x4 < (x167000.length : Int) then (if 0 ≤ x4 then ((spec_LabelText.f k ((D43 x167000 x4).f0) ((D43 x167000 x4).f1)).bind fun t169 => (if x3.size + t169.size ≤ 9223372036854775807 then (if (x3 ++ t169).size + 1 ≤ 9223372036854775807 then (spec_ProgText.l0 k ((x3 ++ t169) ++ (⟨#[32]⟩ : ByteArray)) (wrap64 (x4 + 1)) x167000 x167001) else (none)) else (none))) else (none)) else (if x3.size + 2 ≤ 9223372036854775807 then ((spec_l2Say.f k x167001).bind fun t170 => (if (x3 ++ (⟨#[47, 32]⟩ : ByteArray)).size + t170.size ≤ 9223372036854775807 then (some ((x3 ++ (⟨#[47, 32]⟩ : ByteArray)) ++ t170)) else (none))) else (none))
def spec_ProgText.f (k : Nat) (l0_0 : List (S43)) (l0_1 : List (S71)) : Option (ByteArray) := (spec_ProgOk.f k l0_0 l0_1).bind fun t167 => (if t167 = true then (spec_ProgText.l0 k (⟨#[]⟩ : ByteArray) 0 l0_0 l0_1) else (some (⟨#[]⟩ : ByteArray)))
theorem spec_ProgText.calls (k : Nat) (A0_0 : Option Addr) (c0_0 : Nat) (l0_0 : List (S43)) (A0_1 : Option Addr) (c0_1 : Nat) (l0_1 : List (S71)) (r : ByteArray) (w : World) (hr0_0 : Kd.C k43 w A0_0 l0_0.length l0_0) (hc0_0 : l0_0.length ≤ c0_0) (hr0_1 : Kd.C k71 w A0_1 l0_1.length l0_1) (hc0_1 : l0_1.length ≤ c0_1) (h : spec_ProgText.f k l0_0 l0_1 = some r) :
  Calls Tryd.prog 6 #[.agg #[.slice A0_0 l0_0.length c0_0, .slice A0_1 l0_1.length c0_1]] w fun e w' => e = .returned (.string r) ∧ Below w.heap.size w w' := by
 have hu31 := Tryd.underlying31
 have hu43 := Tryd.underlying43
 have HR0_0 := AM hr0_0
 have HC0_0 := AM hc0_0
 clear hr0_0 hc0_0
 have HR0_1 := AM hr0_1
 have HC0_1 := AM hc0_1
 clear hr0_1 hc0_1
 have HB := AM (Below.refl w.heap.size w)
 have H := h
 unfold spec_ProgText.f at H
 clear h
 obtain ⟨t167, A2, H⟩ := ZOB H; try dsimp only at H
 by_cases c3 : t167 = true
 ·(
 subst c3
 have H1 := H; rw [if_pos rfl] at H1
 clear H
 have H := H1
 clear H1
 have H' := AM H
 clear H
 go_enter Tryd.func6, Tryd.ntmps6
 go_wp2_with (first | ((with_reducible refine gate_dst (N := 1) rfl ?_); refine ZXW w (N := 1) (cs := #[.slice A0_0 l0_0.length c0_0, .slice A0_1 l0_1.length c0_1]) (t := 31) ?_; intro gb166 hg w4 BK166 GW166 hb; replace HB := ZT HB hb; clear hb hg; have hcz5 := ZC2 w4 BK166) | ((with_reducible refine gate_callee (f := 11) rfl ?_); refine ZGL (some 6) Tryd.func11 #[.agg #[.slice A0_0 l0_0.length c0_0, .slice A0_1 l0_1.length c0_1]] ?_; (with_reducible refine (spec_ProgOk.calls k _ _ l0_0 _ _ l0_1 true _ (ZQ (Kd.C_below HR0_0.out HB.out)) HC0_0.out (ZQ (Kd.C_below HR0_1.out HB.out)) HC0_1.out A2.out).mono ?_); rintro e w6 ⟨rfl, hb⟩; refine ZV1 ?_; replace BK166 := ZW BK166 hb; replace HB := ZT HB hb; clear hb))
 go_loopg [3, 4] k (fun kq v3 v4 w' => ∃ (x3_1 : ByteArray) (x4_1 : Int), v3 = .string x3_1 ∧ v4 = .int .i64 x4_1 ∧ Za (spec_ProgText.l0 kq x3_1 x4_1 l0_0 l0_1 = some r) ∧ Za (kq ≤ k) ∧ Za (w'.heap[gb166]? = some (.cells #[(.slice A0_0 l0_0.length c0_0), (.slice A0_1 l0_1.length c0_1)] 31 (0, 0))) ∧ Za (Below w.heap.size w w'))
 case atStart => exact ⟨((⟨#[]⟩ : ByteArray)), (0), ZSM, ZSM, H', ⟨Nat.le_refl _⟩, ⟨ZK BK166.out⟩, ⟨ZB⟩⟩
 case round => (
 clear H'
 try clear c1
 try clear p2
 try clear c3
 try clear c6
 try clear hcz5
 obtain ⟨x3_1, x4_1, rfl, rfl, HA, HK1, BK166, HB⟩ := hrel
 cases gk with
 | zero => exact absurd HA.out (by simp [spec_ProgText.l0])
 | succ k1 =>
  have H := HA.out
  clear HA
  simp only [spec_ProgText.l0] at H
  by_cases c7 : x4_1 < (l0_0.length : Int)
  ·(
  rw [if_pos c7] at H
  have c7b0 := decide_eq_true c7
  clear c7
  by_cases c8 : 0 ≤ x4_1
  ·(
  rw [if_pos c8] at H
  have c8b0 := decide_eq_true c8
  clear c8
  obtain ⟨t169, A9, H⟩ := ZOB H; try dsimp only at H
  by_cases c10 : x3_1.size + t169.size ≤ 9223372036854775807
  ·(
  rw [if_pos c10] at H
  have c10b0 := eq_true c10
  have c10b1 := decide_eq_true c10
  try have c10b2 : (9223372036854775807 < x3_1.size + t169.size) = False := eq_false (Nat.not_lt.2 c10)
  by_cases c11 : (x3_1 ++ t169).size + 1 ≤ 9223372036854775807
  ·(
  rw [if_pos c11] at H
  have c11b0 := eq_true c11
  have c11b1 := decide_eq_true c11
  try have c11b2 : (9223372036854775807 < (x3_1 ++ t169).size + 1) = False := eq_false (Nat.not_lt.2 c11)
  try have c11b3 : (9223372036854775807 < x3_1.size + t169.size + 1) = False := eq_false (by have h_ := c11; simp only [ByteArray.size_append] at h_; first | exact Nat.not_lt.2 h_ | (have e2_ : ∀ x : UInt8, (⟨#[x]⟩ : ByteArray).size = 1 := fun _ => rfl; have e3_ : ∀ x y : UInt8, (⟨#[x, y]⟩ : ByteArray).size = 2 := fun _ _ => rfl; simp only [e2_, e3_] at h_; omega))
  have H' := AM H
  clear H
  have hcz12 := ZC2 wr BK166
  have p168 : 0 ≤ (x4_1 : Int) := ZD
  have q168 : x4_1 < (l0_0.length : Int) := ZD
  obtain ⟨ad168, e168, hx168_0, hx168_1⟩ := at_T43 HR0_0.out x4_1 p168 q168
  cases e168
  replace hx168_0 := ZHX HB hx168_0
  replace hx168_1 := ZHX HB hx168_1
  replace p168 := eq_true p168
  replace q168 := eq_true q168
  go_wp2_with (first | ((with_reducible refine gate_callee (f := 15) rfl ?_); refine ZGL (some 21) Tryd.func15 #[.agg #[.int .i64 ((D43 l0_0 x4_1).f0), .int .i64 ((D43 l0_0 x4_1).f1)]] ?_; (with_reducible refine (spec_LabelText.calls k1 ((D43 l0_0 x4_1).f0) ((D43 l0_0 x4_1).f1) t169 _ A9.out).mono ?_); rintro e w13 ⟨rfl, hb⟩; refine ZV1 ?_; replace BK166 := ZW BK166 hb; replace HB := ZT HB hb; clear hb))
  go_roundg k1
  case measure => have := HK1.out; omega
  case rel => exact ⟨((x3_1 ++ t169) ++ (⟨#[32]⟩ : ByteArray)), (wrap64 (x4_1 + 1)), ZSM, ZSM, H', ⟨by have := HK1.out; omega⟩, ⟨ZK BK166.out⟩, ⟨ZB⟩⟩)
  ·(
  rw [if_neg c11] at H
  exact absurd H (by simp)))
  ·(
  rw [if_neg c10] at H
  exact absurd H (by simp)))
  ·(
  rw [if_neg c8] at H
  exact absurd H (by simp)))
  ·(
  rw [if_neg c7] at H
  have c7b0 := decide_eq_false c7
  clear c7
  by_cases c14 : x3_1.size + 2 ≤ 9223372036854775807
  ·(
  rw [if_pos c14] at H
  have c14b0 := eq_true c14
  have c14b1 := decide_eq_true c14
  try have c14b2 : (9223372036854775807 < x3_1.size + 2) = False := eq_false (Nat.not_lt.2 c14)
  obtain ⟨t170, A15, H⟩ := ZOB H; try dsimp only at H
  by_cases c16 : (x3_1 ++ (⟨#[47, 32]⟩ : ByteArray)).size + t170.size ≤ 9223372036854775807
  ·(
  rw [if_pos c16] at H
  have c16b0 := eq_true c16
  have c16b1 := decide_eq_true c16
  try have c16b2 : (9223372036854775807 < (x3_1 ++ (⟨#[47, 32]⟩ : ByteArray)).size + t170.size) = False := eq_false (Nat.not_lt.2 c16)
  try have c16b3 : (9223372036854775807 < x3_1.size + 2 + t170.size) = False := eq_false (by have h_ := c16; simp only [ByteArray.size_append] at h_; first | exact Nat.not_lt.2 h_ | (have e2_ : ∀ x : UInt8, (⟨#[x]⟩ : ByteArray).size = 1 := fun _ => rfl; have e3_ : ∀ x y : UInt8, (⟨#[x, y]⟩ : ByteArray).size = 2 := fun _ _ => rfl; simp only [e2_, e3_] at h_; omega))
  obtain rfl := Option.some.inj H
  have hcz17 := ZC2 wr BK166
  go_wp2_with (first | ((with_reducible refine gate_callee (f := 16) rfl ?_); refine ZGL (some 28) Tryd.func16 #[.slice A0_1 l0_1.length c0_1] ?_; (with_reducible refine (spec_l2Say.calls k1 _ _ l0_1 t170 _ (ZQ (Kd.C_below HR0_1.out HB.out)) HC0_1.out A15.out).mono ?_); rintro e w18 ⟨rfl, hb⟩; refine ZV1 ?_; replace BK166 := ZW BK166 hb; replace HB := ZT HB hb; clear hb))
  go_ret
  exact ⟨ZE, ZB⟩)
  ·(
  rw [if_neg c16] at H
  exact absurd H (by simp)))
  ·(
  rw [if_neg c14] at H
  exact absurd H (by simp)))))
 ·(
 replace c3 := Bool.eq_false_iff.mpr c3
 subst c3
 have H1 := H; rw [if_neg ZFT] at H1
 clear H
 have H := H1
 clear H1
 obtain rfl := Option.some.inj H
 go_enter Tryd.func6, Tryd.ntmps6
 go_wp2_with (first | ((with_reducible refine gate_dst (N := 1) rfl ?_); refine ZXW w (N := 1) (cs := #[.slice A0_0 l0_0.length c0_0, .slice A0_1 l0_1.length c0_1]) (t := 31) ?_; intro gb166 hg w19 BK166 GW166 hb; replace HB := ZT HB hb; clear hb hg; have hcz20 := ZC2 w19 BK166) | ((with_reducible refine gate_callee (f := 11) rfl ?_); refine ZGL (some 6) Tryd.func11 #[.agg #[.slice A0_0 l0_0.length c0_0, .slice A0_1 l0_1.length c0_1]] ?_; (with_reducible refine (spec_ProgOk.calls k _ _ l0_0 _ _ l0_1 false _ (ZQ (Kd.C_below HR0_0.out HB.out)) HC0_0.out (ZQ (Kd.C_below HR0_1.out HB.out)) HC0_1.out A2.out).mono ?_); rintro e w21 ⟨rfl, hb⟩; refine ZV1 ?_; replace BK166 := ZW BK166 hb; replace HB := ZT HB hb; clear hb))
 go_ret
 exact ⟨ZE, ZB⟩)

end Go.Proofs.YtfcmckomagaiiaaDoor.A
