/- Go functions as Lean functions, and for each its contract; written by wip/tools/pr.py over the kit's print. -/
import Derived.Test.YtfcmckomagaiiaaDoorAx0
import Derived.Test.YtfcmckomagaiiaaDoorAx10
import Derived.Test.YtfcmckomagaiiaaDoorAx11
namespace Go.Proofs.YtfcmckomagaiiaaDoor.A
open Go.RowKit Go.Proofs.YtfcmckomagaiiaaDoorW.PrintWords Go.Proofs.YtfcmckomagaiiaaDoorW.PrintLast Go.Proofs.YtfcmckomagaiiaaDoorW.PrintMore
attribute [local go_sem] max2_int min2_int max_two min_two max_three min_three max_four min_four
set_option linter.unusedVariables false
set_option linter.unusedSimpArgs false
set_option maxHeartbeats 8000000
set_option maxRecDepth 100000

/-! ### impl_stepsText: function 23 -/
mutual
def impl_stepsText.l0 : Nat → ByteArray → List (S71) → Int → Int → Option (ByteArray)
 | 0, _, _, _, _ => none
 | k + 1, x3, x6, x7, x8 => if x8 < x7 then (if 0 ≤ x8 then (if x8 < (x6.length : Int) then ((impl_varName.f ((D71 x6 x8).f1)).bind fun t226 => (if x3.size + t226.size ≤ 9223372036854775807 then (if ((D71 x6 x8).f0) = 1 then ((impl_Val_text.f ((D71 x6 x8).f2.f0) ((D71 x6 x8).f2.f1) ((D71 x6 x8).f2.f2)).bind fun t227 => (if 1 + t227.size ≤ 9223372036854775807 then (if ((⟨#[58]⟩ : ByteArray) ++ t227).size + 1 ≤ 9223372036854775807 then (if (x3 ++ t226).size + (((⟨#[58]⟩ : ByteArray) ++ t227) ++ (⟨#[59]⟩ : ByteArray)).size ≤ 9223372036854775807 then (impl_stepsText.l0 k ((x3 ++ t226) ++ (((⟨#[58]⟩ : ByteArray) ++ t227) ++ (⟨#[59]⟩ : ByteArray))) x6 x7 (wrap64 (x8 + 1))) else (none)) else (none)) else (none))) else (if ((D71 x6 x8).f0) = 2 then ((impl_stepsText.f k ((D71 x6 x8).f4)).bind fun t228 => (if 2 + t228.size ≤ 9223372036854775807 then (if ((⟨#[63, 40]⟩ : ByteArray) ++ t228).size + 2 ≤ 9223372036854775807 then ((impl_stepsText.f k ((D71 x6 x8).f5)).bind fun t229 => (if (((⟨#[63, 40]⟩ : ByteArray) ++ t228) ++ (⟨#[41, 40]⟩ : ByteArray)).size + t229.size ≤ 9223372036854775807 then (if ((((⟨#[63, 40]⟩ : ByteArray) ++ t228) ++ (⟨#[41, 40]⟩ : ByteArray)) ++ t229).size + 1 ≤ 9223372036854775807 then (if (x3 ++ t226).size + (((((⟨#[63, 40]⟩ : ByteArray) ++ t228) ++ (⟨#[41, 40]⟩ : ByteArray)) ++ t229) ++ (⟨#[41]⟩ : ByteArray)).size ≤ 9223372036854775807 then (impl_stepsText.l0 k ((x3 ++ t226) ++ (((((⟨#[63, 40]⟩ : ByteArray) ++ t228) ++ (⟨#[41, 40]⟩ : ByteArray)) ++ t229) ++ (⟨#[41]⟩ : ByteArray))) x6 x7 (wrap64 (x8 + 1))) else (none)) else (none)) else (none))) else (none)) else (none))) else ((strconv_Itoa_48.f ((D71 x6 x8).f3)).bind fun t230 => (if 1 + t230.size ≤ 9223372036854775807 then (if ((⟨#[62]⟩ : ByteArray) ++ t230).size + 1 ≤ 9223372036854775807 then (if (x3 ++ t226).size + (((⟨#[62]⟩ : ByteArray) ++ t230) ++ (⟨#[59]⟩ : ByteArray)).size ≤ 9223372036854775807 then (impl_stepsText.l0 k ((x3 ++ t226) ++ (((⟨#[62]⟩ : ByteArray) ++ t230) ++ (⟨#[59]⟩ : ByteArray))) x6 x7 (wrap64 (x8 + 1))) else (none)) else (none)) else (none))))) else (none))) else (none)) else (none)) else (some x3)
def impl_stepsText.f : Nat → List (S71) → Option (ByteArray)
 | 0, _ => none
 | k + 1, l0 => impl_stepsText.l0 k (⟨#[]⟩ : ByteArray) l0 (l0.length : Int) 0
end
def impl_stepsText.T11 : Bool × List (List Nat × List Nat) := (true, [([], []), ([], []), ([1], [1]), ([2], [2]), ([3], [3]), ([4], [4]), ([], []), ([6], [6]), ([7, 3], [7]), ([5, 8], [5, 8]), ([9], [9]), ([0, 10], [0, 10]), ([11, 8, 0, 1, 2, 3, 4, 5, 6, 7, 8, 9, 10, 11], [0, 11])])
def impl_stepsText.B11 : List Nat := [0, 0, 2, 6, 14, 30, 0, 64, 206, 510, 1022, 2047, 4095]
theorem impl_stepsText.tab11 : rtab .any (opsOf Tryd.f23 11) = impl_stepsText.T11 := by kernel_rfl
theorem impl_stepsText.bits11 : waitsOk impl_stepsText.T11.2 impl_stepsText.B11 = true := by kernel_rfl
theorem impl_stepsText.calls (k : Nat) : ∀ (A0 : Option Addr) (c0 : Nat) (l0 : List (S71)) (r : ByteArray) (w : World) (hr0 : Kd.C k71 w A0 l0.length l0) (hc0 : l0.length ≤ c0) (h : impl_stepsText.f k l0 = some r),
  Calls Tryd.prog 23 #[.slice A0 l0.length c0] w fun e w' => e = .returned (.string r) ∧ Below w.heap.size w w' := by
 induction k using Nat.strongRecOn with
 | _ k ih =>
 intro A0 c0 l0 r w hr0 hc0 h
 cases k with
 | zero => exact absurd h (by simp [impl_stepsText.f])
 | succ k =>
 simp only [impl_stepsText.f] at h
 have hu71 := Tryd.underlying71
 have hu69 := Tryd.underlying69
 have HR0 := AM hr0
 have HC0 := AM hc0
 clear hr0 hc0
 have HB := AM (Below.refl w.heap.size w)
 have H : (impl_stepsText.l0 k (⟨#[]⟩ : ByteArray) l0 (l0.length : Int) 0) = some r := h
 clear h
 have H' := AM H
 clear H
 go_enter Tryd.func23, Tryd.ntmps23
 go_wp2
 go_loopg [3, 8] k (fun kq v3 v8 w' => ∃ (x3_1 : ByteArray) (x8_1 : Int), v3 = .string x3_1 ∧ v8 = .int .i64 x8_1 ∧ Za (impl_stepsText.l0 kq x3_1 l0 (l0.length : Int) x8_1 = some r) ∧ Za (kq ≤ k) ∧ Za (Below w.heap.size w w'))
 case atStart => exact ⟨((⟨#[]⟩ : ByteArray)), (0), ZSM, ZSM, H', ⟨Nat.le_refl _⟩, ⟨ZB⟩⟩
 case round => (
 clear H'
 obtain ⟨x3_1, x8_1, rfl, rfl, HA, HK1, HB⟩ := hrel
 cases gk with
 | zero => exact absurd HA.out (by simp [impl_stepsText.l0])
 | succ k1 =>
  have H := HA.out
  clear HA
  simp only [impl_stepsText.l0] at H
  by_cases c2 : x8_1 < (l0.length : Int)
  ·(
  rw [if_pos c2] at H
  have c2b0 := decide_eq_true c2
  clear c2
  by_cases c3 : 0 ≤ x8_1
  ·(
  rw [if_pos c3] at H
  have c3b0 := decide_eq_true c3
  clear c3
  by_cases c4 : x8_1 < (l0.length : Int)
  ·(
  rw [if_pos c4] at H
  have c4b0 := decide_eq_true c4
  clear c4
  obtain ⟨t226, A5, H⟩ := ZOB H; try dsimp only at H
  by_cases c6 : x3_1.size + t226.size ≤ 9223372036854775807
  ·(
  rw [if_pos c6] at H
  have c6b0 := eq_true c6
  have c6b1 := decide_eq_true c6
  try have c6b2 : (9223372036854775807 < x3_1.size + t226.size) = False := eq_false (Nat.not_lt.2 c6)
  by_cases c7 : ((D71 l0 x8_1).f0) = 1
  ·(
  rw [if_pos c7] at H
  have c7b0 := beq_iff_eq.mpr c7
  have c7b1 := bne_eq_false_iff_eq.mpr c7
  clear c7
  obtain ⟨t227, A8, H⟩ := ZOB H; try dsimp only at H
  by_cases c9 : 1 + t227.size ≤ 9223372036854775807
  ·(
  rw [if_pos c9] at H
  have c9b0 := eq_true c9
  have c9b1 := decide_eq_true c9
  try have c9b2 : (9223372036854775807 < 1 + t227.size) = False := eq_false (Nat.not_lt.2 c9)
  by_cases c10 : ((⟨#[58]⟩ : ByteArray) ++ t227).size + 1 ≤ 9223372036854775807
  ·(
  rw [if_pos c10] at H
  have c10b0 := eq_true c10
  have c10b1 := decide_eq_true c10
  try have c10b2 : (9223372036854775807 < ((⟨#[58]⟩ : ByteArray) ++ t227).size + 1) = False := eq_false (Nat.not_lt.2 c10)
  try have c10b3 : (9223372036854775807 < 1 + t227.size + 1) = False := eq_false (by have h_ := c10; simp only [ByteArray.size_append] at h_; first | exact Nat.not_lt.2 h_ | (have e2_ : ∀ x : UInt8, (⟨#[x]⟩ : ByteArray).size = 1 := fun _ => rfl; have e3_ : ∀ x y : UInt8, (⟨#[x, y]⟩ : ByteArray).size = 2 := fun _ _ => rfl; simp only [e2_, e3_] at h_; omega))
  by_cases c11 : (x3_1 ++ t226).size + (((⟨#[58]⟩ : ByteArray) ++ t227) ++ (⟨#[59]⟩ : ByteArray)).size ≤ 9223372036854775807
  ·(
  rw [if_pos c11] at H
  have c11b0 := eq_true c11
  have c11b1 := decide_eq_true c11
  try have c11b2 : (9223372036854775807 < (x3_1 ++ t226).size + (((⟨#[58]⟩ : ByteArray) ++ t227) ++ (⟨#[59]⟩ : ByteArray)).size) = False := eq_false (Nat.not_lt.2 c11)
  try have c11b3 : (9223372036854775807 < x3_1.size + t226.size + 1 + t227.size + 1) = False := eq_false (by have h_ := c11; simp only [ByteArray.size_append] at h_; first | exact Nat.not_lt.2 h_ | (have e2_ : ∀ x : UInt8, (⟨#[x]⟩ : ByteArray).size = 1 := fun _ => rfl; have e3_ : ∀ x y : UInt8, (⟨#[x, y]⟩ : ByteArray).size = 2 := fun _ _ => rfl; simp only [e2_, e3_] at h_; omega))
  try have c11b4 : (9223372036854775807 < x3_1.size + t226.size + (1 + t227.size + 1)) = False := eq_false (by have h_ := c11; simp only [ByteArray.size_append] at h_; first | exact Nat.not_lt.2 h_ | (have e2_ : ∀ x : UInt8, (⟨#[x]⟩ : ByteArray).size = 1 := fun _ => rfl; have e3_ : ∀ x y : UInt8, (⟨#[x, y]⟩ : ByteArray).size = 2 := fun _ _ => rfl; simp only [e2_, e3_] at h_; omega))
  have H' := AM H
  clear H
  have p224 : 0 ≤ (x8_1 : Int) := ZD
  have q224 : x8_1 < (l0.length : Int) := ZD
  obtain ⟨ad224, A224_6, c224_6, A224_7, c224_7, e224, hx224_0, hx224_1, hx224_2, hx224_3, hx224_4, hx224_5, hx224_6, hx224_7, hl224_6, hi224_6, hl224_7, hi224_7⟩ := at_T71 HR0.out x8_1 p224 q224
  cases e224
  replace hx224_0 := ZHX HB hx224_0
  replace hx224_1 := ZHX HB hx224_1
  replace hx224_2 := ZHX HB hx224_2
  replace hx224_3 := ZHX HB hx224_3
  replace hx224_4 := ZHX HB hx224_4
  replace hx224_5 := ZHX HB hx224_5
  replace hx224_6 := ZHX HB hx224_6
  replace hx224_7 := ZHX HB hx224_7
  have HR224_6 := AM hi224_6
  have HC224_6 := AM hl224_6
  clear hi224_6 hl224_6
  have HR224_7 := AM hi224_7
  have HC224_7 := AM hl224_7
  clear hi224_7 hl224_7
  replace p224 := eq_true p224
  replace q224 := eq_true q224
  go_wp2_with (first | ((with_reducible refine gate_dst (N := 5) rfl ?_); refine ZXW w (N := 5) (cs := #[.int .i64 0, .int .i64 0, .int .i64 0, .int .i64 0, .int .i64 0, .int .i64 0, .slice none 0 0, .slice none 0 0]) (t := 71) ?_; intro gb225 hg w12 BK225 GW225 hb; replace HB := ZT HB hb; clear hb hg; have hcz13 := ZC8 w12 BK225) | ((with_reducible refine gate_callee (f := 46) rfl ?_); refine ZGL (some 15) Tryd.func46 #[.int .i64 ((D71 l0 x8_1).f1)] ?_; (with_reducible refine (impl_varName.calls ((D71 l0 x8_1).f1) t226 _ A5.out).mono ?_); rintro e w' ⟨rfl, ⟨nd, rfl⟩⟩; refine ZV1 ?_) | ((with_reducible refine gate_callee (f := 47) rfl ?_); refine ZGL (some 31) Tryd.func47 #[.agg #[.int .i64 ((D71 l0 x8_1).f2.f0), .int .i64 ((D71 l0 x8_1).f2.f1), .int .i64 ((D71 l0 x8_1).f2.f2)]] ?_; (with_reducible refine (impl_Val_text.calls ((D71 l0 x8_1).f2.f0) ((D71 l0 x8_1).f2.f1) ((D71 l0 x8_1).f2.f2) t227 _ A8.out).mono ?_); rintro e w14 ⟨rfl, hb⟩; refine ZV1 ?_; replace BK225 := ZV #[.int .i64 ((D71 l0 x8_1).f0), .int .i64 ((D71 l0 x8_1).f1), .int .i64 ((D71 l0 x8_1).f2.f0), .int .i64 ((D71 l0 x8_1).f2.f1), .int .i64 ((D71 l0 x8_1).f2.f2), .int .i64 ((D71 l0 x8_1).f3), .slice A224_6 ((D71 l0 x8_1).f4).length c224_6, .slice A224_7 ((D71 l0 x8_1).f5).length c224_7] BK225 hb; replace HB := ZT HB hb; clear hb))
  go_roundg k1
  case measure => have := HK1.out; omega
  case rel => exact ⟨((x3_1 ++ t226) ++ (((⟨#[58]⟩ : ByteArray) ++ t227) ++ (⟨#[59]⟩ : ByteArray))), (wrap64 (x8_1 + 1)), ZSM, ZSM, H', ⟨by have := HK1.out; omega⟩, ⟨ZB⟩⟩)
  ·(
  rw [if_neg c11] at H
  exact absurd H (by simp)))
  ·(
  rw [if_neg c10] at H
  exact absurd H (by simp)))
  ·(
  rw [if_neg c9] at H
  exact absurd H (by simp)))
  ·(
  rw [if_neg c7] at H
  have c7b0 := beq_eq_false_iff_ne.mpr c7
  have c7b1 := bne_iff_ne.mpr c7
  by_cases c15 : ((D71 l0 x8_1).f0) = 2
  ·(
  rw [if_pos c15] at H
  have c15b0 := beq_iff_eq.mpr c15
  have c15b1 := bne_eq_false_iff_eq.mpr c15
  clear c15
  obtain ⟨t228, A16, H⟩ := ZOB H; try dsimp only at H
  by_cases c17 : 2 + t228.size ≤ 9223372036854775807
  ·(
  rw [if_pos c17] at H
  have c17b0 := eq_true c17
  have c17b1 := decide_eq_true c17
  try have c17b2 : (9223372036854775807 < 2 + t228.size) = False := eq_false (Nat.not_lt.2 c17)
  by_cases c18 : ((⟨#[63, 40]⟩ : ByteArray) ++ t228).size + 2 ≤ 9223372036854775807
  ·(
  rw [if_pos c18] at H
  have c18b0 := eq_true c18
  have c18b1 := decide_eq_true c18
  try have c18b2 : (9223372036854775807 < ((⟨#[63, 40]⟩ : ByteArray) ++ t228).size + 2) = False := eq_false (Nat.not_lt.2 c18)
  try have c18b3 : (9223372036854775807 < 2 + t228.size + 2) = False := eq_false (by have h_ := c18; simp only [ByteArray.size_append] at h_; first | exact Nat.not_lt.2 h_ | (have e2_ : ∀ x : UInt8, (⟨#[x]⟩ : ByteArray).size = 1 := fun _ => rfl; have e3_ : ∀ x y : UInt8, (⟨#[x, y]⟩ : ByteArray).size = 2 := fun _ _ => rfl; simp only [e2_, e3_] at h_; omega))
  obtain ⟨t229, A19, H⟩ := ZOB H; try dsimp only at H
  by_cases c20 : (((⟨#[63, 40]⟩ : ByteArray) ++ t228) ++ (⟨#[41, 40]⟩ : ByteArray)).size + t229.size ≤ 9223372036854775807
  ·(
  rw [if_pos c20] at H
  have c20b0 := eq_true c20
  have c20b1 := decide_eq_true c20
  try have c20b2 : (9223372036854775807 < (((⟨#[63, 40]⟩ : ByteArray) ++ t228) ++ (⟨#[41, 40]⟩ : ByteArray)).size + t229.size) = False := eq_false (Nat.not_lt.2 c20)
  try have c20b3 : (9223372036854775807 < 2 + t228.size + 2 + t229.size) = False := eq_false (by have h_ := c20; simp only [ByteArray.size_append] at h_; first | exact Nat.not_lt.2 h_ | (have e2_ : ∀ x : UInt8, (⟨#[x]⟩ : ByteArray).size = 1 := fun _ => rfl; have e3_ : ∀ x y : UInt8, (⟨#[x, y]⟩ : ByteArray).size = 2 := fun _ _ => rfl; simp only [e2_, e3_] at h_; omega))
  by_cases c21 : ((((⟨#[63, 40]⟩ : ByteArray) ++ t228) ++ (⟨#[41, 40]⟩ : ByteArray)) ++ t229).size + 1 ≤ 9223372036854775807
  ·(
  rw [if_pos c21] at H
  have c21b0 := eq_true c21
  have c21b1 := decide_eq_true c21
  try have c21b2 : (9223372036854775807 < ((((⟨#[63, 40]⟩ : ByteArray) ++ t228) ++ (⟨#[41, 40]⟩ : ByteArray)) ++ t229).size + 1) = False := eq_false (Nat.not_lt.2 c21)
  try have c21b3 : (9223372036854775807 < 2 + t228.size + 2 + t229.size + 1) = False := eq_false (by have h_ := c21; simp only [ByteArray.size_append] at h_; first | exact Nat.not_lt.2 h_ | (have e2_ : ∀ x : UInt8, (⟨#[x]⟩ : ByteArray).size = 1 := fun _ => rfl; have e3_ : ∀ x y : UInt8, (⟨#[x, y]⟩ : ByteArray).size = 2 := fun _ _ => rfl; simp only [e2_, e3_] at h_; omega))
  by_cases c22 : (x3_1 ++ t226).size + (((((⟨#[63, 40]⟩ : ByteArray) ++ t228) ++ (⟨#[41, 40]⟩ : ByteArray)) ++ t229) ++ (⟨#[41]⟩ : ByteArray)).size ≤ 9223372036854775807
  ·(
  rw [if_pos c22] at H
  have c22b0 := eq_true c22
  have c22b1 := decide_eq_true c22
  try have c22b2 : (9223372036854775807 < (x3_1 ++ t226).size + (((((⟨#[63, 40]⟩ : ByteArray) ++ t228) ++ (⟨#[41, 40]⟩ : ByteArray)) ++ t229) ++ (⟨#[41]⟩ : ByteArray)).size) = False := eq_false (Nat.not_lt.2 c22)
  try have c22b3 : (9223372036854775807 < x3_1.size + t226.size + 2 + t228.size + 2 + t229.size + 1) = False := eq_false (by have h_ := c22; simp only [ByteArray.size_append] at h_; first | exact Nat.not_lt.2 h_ | (have e2_ : ∀ x : UInt8, (⟨#[x]⟩ : ByteArray).size = 1 := fun _ => rfl; have e3_ : ∀ x y : UInt8, (⟨#[x, y]⟩ : ByteArray).size = 2 := fun _ _ => rfl; simp only [e2_, e3_] at h_; omega))
  try have c22b4 : (9223372036854775807 < x3_1.size + t226.size + (2 + t228.size + 2 + t229.size + 1)) = False := eq_false (by have h_ := c22; simp only [ByteArray.size_append] at h_; first | exact Nat.not_lt.2 h_ | (have e2_ : ∀ x : UInt8, (⟨#[x]⟩ : ByteArray).size = 1 := fun _ => rfl; have e3_ : ∀ x y : UInt8, (⟨#[x, y]⟩ : ByteArray).size = 2 := fun _ _ => rfl; simp only [e2_, e3_] at h_; omega))
  have H' := AM H
  clear H
  have p224 : 0 ≤ (x8_1 : Int) := ZD
  have q224 : x8_1 < (l0.length : Int) := ZD
  obtain ⟨ad224, A224_6, c224_6, A224_7, c224_7, e224, hx224_0, hx224_1, hx224_2, hx224_3, hx224_4, hx224_5, hx224_6, hx224_7, hl224_6, hi224_6, hl224_7, hi224_7⟩ := at_T71 HR0.out x8_1 p224 q224
  cases e224
  replace hx224_0 := ZHX HB hx224_0
  replace hx224_1 := ZHX HB hx224_1
  replace hx224_2 := ZHX HB hx224_2
  replace hx224_3 := ZHX HB hx224_3
  replace hx224_4 := ZHX HB hx224_4
  replace hx224_5 := ZHX HB hx224_5
  replace hx224_6 := ZHX HB hx224_6
  replace hx224_7 := ZHX HB hx224_7
  have HR224_6 := AM hi224_6
  have HC224_6 := AM hl224_6
  clear hi224_6 hl224_6
  have HR224_7 := AM hi224_7
  have HC224_7 := AM hl224_7
  clear hi224_7 hl224_7
  replace p224 := eq_true p224
  replace q224 := eq_true q224
  try go_wp2_with (first | ((with_reducible refine gate_dst (N := 5) rfl ?_); refine ZXW w (N := 5) (cs := #[.int .i64 0, .int .i64 0, .int .i64 0, .int .i64 0, .int .i64 0, .int .i64 0, .slice none 0 0, .slice none 0 0]) (t := 71) ?_; intro gb225 hg w23 BK225 GW225 hb; replace HB := ZT HB hb; clear hb hg; have hcz24 := ZC8 w23 BK225) | ((with_reducible refine gate_callee (f := 46) rfl ?_); refine ZGL (some 15) Tryd.func46 #[.int .i64 ((D71 l0 x8_1).f1)] ?_; (with_reducible refine (impl_varName.calls ((D71 l0 x8_1).f1) t226 _ A5.out).mono ?_); rintro e w' ⟨rfl, ⟨nd, rfl⟩⟩; refine ZV1 ?_))
  have n0_ : Za (((((((((w23.setCell ⟨gb225, 0, none⟩ (.int .i64 ((D71 l0 x8_1).f0))).setCell ⟨gb225, 1, none⟩ (.int .i64 ((D71 l0 x8_1).f1))).setCell ⟨gb225, 2, none⟩ (.int .i64 ((D71 l0 x8_1).f2.f0))).setCell ⟨gb225, 3, none⟩ (.int .i64 ((D71 l0 x8_1).f2.f1))).setCell ⟨gb225, 4, none⟩ (.int .i64 ((D71 l0 x8_1).f2.f2))).setCell ⟨gb225, 5, none⟩ (.int .i64 ((D71 l0 x8_1).f3))).setCell ⟨gb225, 6, none⟩ (.slice A224_6 ((D71 l0 x8_1).f4).length c224_6)).setCell ⟨gb225, 7, none⟩ (.slice A224_7 ((D71 l0 x8_1).f5).length c224_7)).heap[gb225]? = some (.cells #[.int .i64 ((D71 l0 x8_1).f0), .int .i64 ((D71 l0 x8_1).f1), .int .i64 ((D71 l0 x8_1).f2.f0), .int .i64 ((D71 l0 x8_1).f2.f1), .int .i64 ((D71 l0 x8_1).f2.f2), .int .i64 ((D71 l0 x8_1).f3), .slice A224_6 ((D71 l0 x8_1).f4).length c224_6, .slice A224_7 ((D71 l0 x8_1).f5).length c224_7] 71 (0, 0))) := ⟨ZZ BK225.out⟩
  have n1_ : Za (Below w.heap.size w ((((((((w23.setCell ⟨gb225, 0, none⟩ (.int .i64 ((D71 l0 x8_1).f0))).setCell ⟨gb225, 1, none⟩ (.int .i64 ((D71 l0 x8_1).f1))).setCell ⟨gb225, 2, none⟩ (.int .i64 ((D71 l0 x8_1).f2.f0))).setCell ⟨gb225, 3, none⟩ (.int .i64 ((D71 l0 x8_1).f2.f1))).setCell ⟨gb225, 4, none⟩ (.int .i64 ((D71 l0 x8_1).f2.f2))).setCell ⟨gb225, 5, none⟩ (.int .i64 ((D71 l0 x8_1).f3))).setCell ⟨gb225, 6, none⟩ (.slice A224_6 ((D71 l0 x8_1).f4).length c224_6)).setCell ⟨gb225, 7, none⟩ (.slice A224_7 ((D71 l0 x8_1).f5).length c224_7))) := ⟨ZB⟩
  (try clear BK225)
  (try clear HB)
  generalize ((((((((w23.setCell ⟨gb225, 0, none⟩ (.int .i64 ((D71 l0 x8_1).f0))).setCell ⟨gb225, 1, none⟩ (.int .i64 ((D71 l0 x8_1).f1))).setCell ⟨gb225, 2, none⟩ (.int .i64 ((D71 l0 x8_1).f2.f0))).setCell ⟨gb225, 3, none⟩ (.int .i64 ((D71 l0 x8_1).f2.f1))).setCell ⟨gb225, 4, none⟩ (.int .i64 ((D71 l0 x8_1).f2.f2))).setCell ⟨gb225, 5, none⟩ (.int .i64 ((D71 l0 x8_1).f3))).setCell ⟨gb225, 6, none⟩ (.slice A224_6 ((D71 l0 x8_1).f4).length c224_6)).setCell ⟨gb225, 7, none⟩ (.slice A224_7 ((D71 l0 x8_1).f5).length c224_7)) = w25 at n0_ n1_ ⊢
  have BK225 := n0_
  have HB := n1_
  clear n0_ n1_
  (try (rw [drewN_self w25]; generalize hq_ : World.drewN w25 _ = w25; have n0_ : Za (w25.heap[gb225]? = some (.cells #[.int .i64 ((D71 l0 x8_1).f0), .int .i64 ((D71 l0 x8_1).f1), .int .i64 ((D71 l0 x8_1).f2.f0), .int .i64 ((D71 l0 x8_1).f2.f1), .int .i64 ((D71 l0 x8_1).f2.f2), .int .i64 ((D71 l0 x8_1).f3), .slice A224_6 ((D71 l0 x8_1).f4).length c224_6, .slice A224_7 ((D71 l0 x8_1).f5).length c224_7] 71 (0, 0))) := ⟨by rw [← hq_]; exact (ZK BK225.out)⟩; have n1_ : Za (Below w.heap.size w w25) := ⟨by rw [← hq_]; exact (ZB)⟩; clear BK225 HB hq_; have BK225 := n0_; have HB := n1_; clear n0_ n1_))
  replace BK225 := AM (blk_drew BK225.out)
  replace HB := AM (below_drew1 HB.out)
  refine start_ (n := 13) (S := fun w' => w'.cell? ⟨gb225, 0, none⟩ = some (.int .i64 ((D71 l0 x8_1).f0)) ∧ w'.cell? ⟨gb225, 1, none⟩ = some (.int .i64 ((D71 l0 x8_1).f1)) ∧ w'.cell? ⟨gb225, 2, none⟩ = some (.int .i64 ((D71 l0 x8_1).f2.f0)) ∧ w'.cell? ⟨gb225, 3, none⟩ = some (.int .i64 ((D71 l0 x8_1).f2.f1)) ∧ w'.cell? ⟨gb225, 4, none⟩ = some (.int .i64 ((D71 l0 x8_1).f2.f2)) ∧ w'.cell? ⟨gb225, 5, none⟩ = some (.int .i64 ((D71 l0 x8_1).f3)) ∧ w'.cell? ⟨gb225, 6, none⟩ = some (.slice A224_6 ((D71 l0 x8_1).f4).length c224_6) ∧ w'.cell? ⟨gb225, 7, none⟩ = some (.slice A224_7 ((D71 l0 x8_1).f5).length c224_7)) (ds := []) #[F,F,F,F,F,F,F,F,F,F,F,F,F] (by kernel_rfl) rfl rfl ⟨ZA BK225 0, ZA BK225 1, ZA BK225 2, ZA BK225 3, ZA BK225 4, ZA BK225 5, ZA BK225 6, ZA BK225 7⟩ (fun hHeld => ?_); refine with_tabW impl_stepsText.tab11 impl_stepsText.bits11 (fun HT_ HW_ => ?_)
  generalize w25.drew = w26 at BK225 HB hHeld ⊢
  refine ZU 0 37 #[T,F,F,F,F,F,F,F,F,F,F,F,F] ?_
  refine ZU 1 38 #[T,T,F,F,F,F,F,F,F,F,F,F,F] ?_
  refine ZU 6 43 #[T,T,F,F,F,F,T,F,F,F,F,F,F] ?_
  refine ZTK 2 39 #[T,T,T,F,F,F,T,F,F,F,F,F,F] hHeld ?_
  refine ZTK 7 44 #[T,T,T,F,F,F,T,T,F,F,F,F,F] hHeld ?_
  refine one_ (i := 3) (N := some 40) #[T,T,T,T,F,F,T,T,F,F,F,F,F] rfl rfl (one_of HT_.out (by kernel_rfl)) (by decide) (fun K hK => ?_)
  refine ZGO Tryd.func23 #[.slice A224_6 ((D71 l0 x8_1).f4).length c224_6] ?_
  with_reducible refine (ih k1 (by have := HK1.out; omega) _ _ ((D71 l0 x8_1).f4) t228 _ ?side1 ?side2 A16.out).mono ?_
  (case side1 => exact ZQ (Kd.C_below HR224_6.out HB.out))
  (case side2 => exact HC224_6.out)
  rintro e w27 ⟨rfl, hb⟩
  refine ZV1 ?_
  replace BK225 := ZW BK225 hb
  replace HB := ZT HB hb
  (try clear hb)
  (try clear hb2)
  (try clear hk)
  (try clear hi)
  refine hK.out _ _ ⟨ZA BK225 0, ZA BK225 1, ZA BK225 2, ZA BK225 3, ZA BK225 4, ZA BK225 5, ZA BK225 6, ZA BK225 7⟩ (fun hHeld => ?_)
  clear hK K
  refine ZNO 40 ?_
  refine ZU 4 41 #[T,T,T,T,T,F,T,T,F,F,F,F,F] ?_
  refine ZU 5 42 #[T,T,T,T,T,T,T,T,F,F,F,F,F] ?_
  refine one_ (i := 8) (N := some 45) #[T,T,T,T,T,T,T,T,T,F,F,F,F] rfl rfl (one_of HT_.out (by kernel_rfl)) (by decide) (fun K hK => ?_)
  refine ZGO Tryd.func23 #[.slice A224_7 ((D71 l0 x8_1).f5).length c224_7] ?_
  with_reducible refine (ih k1 (by have := HK1.out; omega) _ _ ((D71 l0 x8_1).f5) t229 _ ?side1 ?side2 A19.out).mono ?_
  (case side1 => exact ZQ (Kd.C_below HR224_7.out HB.out))
  (case side2 => exact HC224_7.out)
  rintro e w28 ⟨rfl, hb⟩
  refine ZV1 ?_
  replace BK225 := ZW BK225 hb
  replace HB := ZT HB hb
  (try clear hb)
  (try clear hb2)
  (try clear hk)
  (try clear hi)
  refine hK.out _ _ ⟨ZA BK225 0, ZA BK225 1, ZA BK225 2, ZA BK225 3, ZA BK225 4, ZA BK225 5, ZA BK225 6, ZA BK225 7⟩ (fun hHeld => ?_)
  clear hK K
  refine ZNO 45 ?_
  refine ZU 9 46 #[T,T,T,T,T,T,T,T,T,T,F,F,F] ?_
  refine ZU 10 47 #[T,T,T,T,T,T,T,T,T,T,T,F,F] ?_
  refine ZU 11 48 #[T,T,T,T,T,T,T,T,T,T,T,T,F] ?_
  refine ZU 12 3 #[T,T,T,T,T,T,T,T,T,T,T,T,T] ?_
  refine done_ (done_of HT_.out (by kernel_rfl)) ?_
  try go_wp2
  go_roundg k1
  case measure => have := HK1.out; omega
  case rel => exact ⟨((x3_1 ++ t226) ++ (((((⟨#[63, 40]⟩ : ByteArray) ++ t228) ++ (⟨#[41, 40]⟩ : ByteArray)) ++ t229) ++ (⟨#[41]⟩ : ByteArray))), (wrap64 (x8_1 + 1)), ZSM, ZSM, H', ⟨by have := HK1.out; omega⟩, ⟨ZB⟩⟩)
  ·(
  rw [if_neg c22] at H
  exact absurd H (by simp)))
  ·(
  rw [if_neg c21] at H
  exact absurd H (by simp)))
  ·(
  rw [if_neg c20] at H
  exact absurd H (by simp)))
  ·(
  rw [if_neg c18] at H
  exact absurd H (by simp)))
  ·(
  rw [if_neg c17] at H
  exact absurd H (by simp)))
  ·(
  rw [if_neg c15] at H
  have c15b0 := beq_eq_false_iff_ne.mpr c15
  have c15b1 := bne_iff_ne.mpr c15
  obtain ⟨t230, A29, H⟩ := ZOB H; try dsimp only at H
  by_cases c30 : 1 + t230.size ≤ 9223372036854775807
  ·(
  rw [if_pos c30] at H
  have c30b0 := eq_true c30
  have c30b1 := decide_eq_true c30
  try have c30b2 : (9223372036854775807 < 1 + t230.size) = False := eq_false (Nat.not_lt.2 c30)
  by_cases c31 : ((⟨#[62]⟩ : ByteArray) ++ t230).size + 1 ≤ 9223372036854775807
  ·(
  rw [if_pos c31] at H
  have c31b0 := eq_true c31
  have c31b1 := decide_eq_true c31
  try have c31b2 : (9223372036854775807 < ((⟨#[62]⟩ : ByteArray) ++ t230).size + 1) = False := eq_false (Nat.not_lt.2 c31)
  try have c31b3 : (9223372036854775807 < 1 + t230.size + 1) = False := eq_false (by have h_ := c31; simp only [ByteArray.size_append] at h_; first | exact Nat.not_lt.2 h_ | (have e2_ : ∀ x : UInt8, (⟨#[x]⟩ : ByteArray).size = 1 := fun _ => rfl; have e3_ : ∀ x y : UInt8, (⟨#[x, y]⟩ : ByteArray).size = 2 := fun _ _ => rfl; simp only [e2_, e3_] at h_; omega))
  by_cases c32 : (x3_1 ++ t226).size + (((⟨#[62]⟩ : ByteArray) ++ t230) ++ (⟨#[59]⟩ : ByteArray)).size ≤ 9223372036854775807
  ·(
  rw [if_pos c32] at H
  have c32b0 := eq_true c32
  have c32b1 := decide_eq_true c32
  try have c32b2 : (9223372036854775807 < (x3_1 ++ t226).size + (((⟨#[62]⟩ : ByteArray) ++ t230) ++ (⟨#[59]⟩ : ByteArray)).size) = False := eq_false (Nat.not_lt.2 c32)
  try have c32b3 : (9223372036854775807 < x3_1.size + t226.size + 1 + t230.size + 1) = False := eq_false (by have h_ := c32; simp only [ByteArray.size_append] at h_; first | exact Nat.not_lt.2 h_ | (have e2_ : ∀ x : UInt8, (⟨#[x]⟩ : ByteArray).size = 1 := fun _ => rfl; have e3_ : ∀ x y : UInt8, (⟨#[x, y]⟩ : ByteArray).size = 2 := fun _ _ => rfl; simp only [e2_, e3_] at h_; omega))
  try have c32b4 : (9223372036854775807 < x3_1.size + t226.size + (1 + t230.size + 1)) = False := eq_false (by have h_ := c32; simp only [ByteArray.size_append] at h_; first | exact Nat.not_lt.2 h_ | (have e2_ : ∀ x : UInt8, (⟨#[x]⟩ : ByteArray).size = 1 := fun _ => rfl; have e3_ : ∀ x y : UInt8, (⟨#[x, y]⟩ : ByteArray).size = 2 := fun _ _ => rfl; simp only [e2_, e3_] at h_; omega))
  have H' := AM H
  clear H
  have p224 : 0 ≤ (x8_1 : Int) := ZD
  have q224 : x8_1 < (l0.length : Int) := ZD
  obtain ⟨ad224, A224_6, c224_6, A224_7, c224_7, e224, hx224_0, hx224_1, hx224_2, hx224_3, hx224_4, hx224_5, hx224_6, hx224_7, hl224_6, hi224_6, hl224_7, hi224_7⟩ := at_T71 HR0.out x8_1 p224 q224
  cases e224
  replace hx224_0 := ZHX HB hx224_0
  replace hx224_1 := ZHX HB hx224_1
  replace hx224_2 := ZHX HB hx224_2
  replace hx224_3 := ZHX HB hx224_3
  replace hx224_4 := ZHX HB hx224_4
  replace hx224_5 := ZHX HB hx224_5
  replace hx224_6 := ZHX HB hx224_6
  replace hx224_7 := ZHX HB hx224_7
  have HR224_6 := AM hi224_6
  have HC224_6 := AM hl224_6
  clear hi224_6 hl224_6
  have HR224_7 := AM hi224_7
  have HC224_7 := AM hl224_7
  clear hi224_7 hl224_7
  replace p224 := eq_true p224
  replace q224 := eq_true q224
  go_wp2_with (first | ((with_reducible refine gate_dst (N := 5) rfl ?_); refine ZXW w (N := 5) (cs := #[.int .i64 0, .int .i64 0, .int .i64 0, .int .i64 0, .int .i64 0, .int .i64 0, .slice none 0 0, .slice none 0 0]) (t := 71) ?_; intro gb225 hg w33 BK225 GW225 hb; replace HB := ZT HB hb; clear hb hg; have hcz34 := ZC8 w33 BK225) | ((with_reducible refine gate_callee (f := 46) rfl ?_); refine ZGL (some 15) Tryd.func46 #[.int .i64 ((D71 l0 x8_1).f1)] ?_; (with_reducible refine (impl_varName.calls ((D71 l0 x8_1).f1) t226 _ A5.out).mono ?_); rintro e w' ⟨rfl, ⟨nd, rfl⟩⟩; refine ZV1 ?_) | ((with_reducible refine gate_callee (f := 48) rfl ?_); refine ZGL (some 22) Tryd.func48 #[.int .i64 ((D71 l0 x8_1).f3)] ?_; (with_reducible refine (strconv_Itoa_48.calls ((D71 l0 x8_1).f3) t230 _ A29.out).mono ?_); rintro e w' ⟨rfl, ⟨nd, rfl⟩⟩; refine ZV1 ?_))
  go_roundg k1
  case measure => have := HK1.out; omega
  case rel => exact ⟨((x3_1 ++ t226) ++ (((⟨#[62]⟩ : ByteArray) ++ t230) ++ (⟨#[59]⟩ : ByteArray))), (wrap64 (x8_1 + 1)), ZSM, ZSM, H', ⟨by have := HK1.out; omega⟩, ⟨ZB⟩⟩)
  ·(
  rw [if_neg c32] at H
  exact absurd H (by simp)))
  ·(
  rw [if_neg c31] at H
  exact absurd H (by simp)))
  ·(
  rw [if_neg c30] at H
  exact absurd H (by simp)))))
  ·(
  rw [if_neg c6] at H
  exact absurd H (by simp)))
  ·(
  rw [if_neg c4] at H
  exact absurd H (by simp)))
  ·(
  rw [if_neg c3] at H
  exact absurd H (by simp)))
  ·(
  rw [if_neg c2] at H
  have c2b0 := decide_eq_false c2
  clear c2
  obtain rfl := Option.some.inj H
  go_wp2
  go_ret
  exact ⟨ZE, ZB⟩))

end Go.Proofs.YtfcmckomagaiiaaDoor.A
