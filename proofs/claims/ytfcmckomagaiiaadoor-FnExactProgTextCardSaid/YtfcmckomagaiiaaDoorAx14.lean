/- Go functions as Lean functions, and for each its contract; written by wip/tools/pr.py over the kit's print. -/
import Derived.Test.YtfcmckomagaiiaaDoorAx0
import Derived.Test.YtfcmckomagaiiaaDoorAx12
import Derived.Test.YtfcmckomagaiiaaDoorAx13
namespace Go.Proofs.YtfcmckomagaiiaaDoor.A
open Go.RowKit Go.Proofs.YtfcmckomagaiiaaDoorW.PrintWords Go.Proofs.YtfcmckomagaiiaaDoorW.PrintLast Go.Proofs.YtfcmckomagaiiaaDoorW.PrintMore
attribute [local go_sem] max2_int min2_int max_two min_two max_three min_three max_four min_four
set_option linter.unusedVariables false
set_option linter.unusedSimpArgs false
set_option maxHeartbeats 8000000
set_option maxRecDepth 100000

/-! ### impl_stepsText: function 23 -/
mutual
def impl_stepsText.l0 : Nat → ByteArray → List (S71) → Int → Int → Option (ByteArray)
 | 0, _, _, _, _ => none
 | k + 1, x3, x6, x7, x8 => if x8 < x7 then (if 0 ≤ x8 then (if x8 < (x6.length : Int) then ((impl_varName.f ((rd_T71 x6 x8).f1)).bind fun t285 => (if x3.size + t285.size ≤ 9223372036854775807 then (if ((rd_T71 x6 x8).f0) = 1 then ((impl_Val_text.f ((rd_T71 x6 x8).f2.f0) ((rd_T71 x6 x8).f2.f1) ((rd_T71 x6 x8).f2.f2)).bind fun t286 => (if 1 + t286.size ≤ 9223372036854775807 then (if ((⟨#[58]⟩ : ByteArray) ++ t286).size + 1 ≤ 9223372036854775807 then (if (x3 ++ t285).size + (((⟨#[58]⟩ : ByteArray) ++ t286) ++ (⟨#[59]⟩ : ByteArray)).size ≤ 9223372036854775807 then (impl_stepsText.l0 k ((x3 ++ t285) ++ (((⟨#[58]⟩ : ByteArray) ++ t286) ++ (⟨#[59]⟩ : ByteArray))) x6 x7 (wrap64 (x8 + 1))) else (none)) else (none)) else (none))) else (if ((rd_T71 x6 x8).f0) = 2 then ((impl_stepsText.f k ((rd_T71 x6 x8).f4)).bind fun t287 => (if 2 + t287.size ≤ 9223372036854775807 then (if ((⟨#[63, 40]⟩ : ByteArray) ++ t287).size + 2 ≤ 9223372036854775807 then ((impl_stepsText.f k ((rd_T71 x6 x8).f5)).bind fun t288 => (if (((⟨#[63, 40]⟩ : ByteArray) ++ t287) ++ (⟨#[41, 40]⟩ : ByteArray)).size + t288.size ≤ 9223372036854775807 then (if ((((⟨#[63, 40]⟩ : ByteArray) ++ t287) ++ (⟨#[41, 40]⟩ : ByteArray)) ++ t288).size + 1 ≤ 9223372036854775807 then (if (x3 ++ t285).size + (((((⟨#[63, 40]⟩ : ByteArray) ++ t287) ++ (⟨#[41, 40]⟩ : ByteArray)) ++ t288) ++ (⟨#[41]⟩ : ByteArray)).size ≤ 9223372036854775807 then (impl_stepsText.l0 k ((x3 ++ t285) ++ (((((⟨#[63, 40]⟩ : ByteArray) ++ t287) ++ (⟨#[41, 40]⟩ : ByteArray)) ++ t288) ++ (⟨#[41]⟩ : ByteArray))) x6 x7 (wrap64 (x8 + 1))) else (none)) else (none)) else (none))) else (none)) else (none))) else ((strconv_Itoa_48.f ((rd_T71 x6 x8).f3)).bind fun t289 => (if 1 + t289.size ≤ 9223372036854775807 then (if ((⟨#[62]⟩ : ByteArray) ++ t289).size + 1 ≤ 9223372036854775807 then (if (x3 ++ t285).size + (((⟨#[62]⟩ : ByteArray) ++ t289) ++ (⟨#[59]⟩ : ByteArray)).size ≤ 9223372036854775807 then (impl_stepsText.l0 k ((x3 ++ t285) ++ (((⟨#[62]⟩ : ByteArray) ++ t289) ++ (⟨#[59]⟩ : ByteArray))) x6 x7 (wrap64 (x8 + 1))) else (none)) else (none)) else (none))))) else (none))) else (none)) else (none)) else (some x3)
def impl_stepsText.f : Nat → List (S71) → Option (ByteArray)
 | 0, _ => none
 | k + 1, l0 => impl_stepsText.l0 k (⟨#[]⟩ : ByteArray) l0 (l0.length : Int) 0
end
def impl_stepsText.T11 : Bool × List (List Nat × List Nat) := (true, [([], []), ([], []), ([1], [1]), ([2], [2]), ([3], [3]), ([4], [4]), ([], []), ([6], [6]), ([7, 3], [7]), ([5, 8], [5, 8]), ([9], [9]), ([0, 10], [0, 10]), ([11, 8, 0, 1, 2, 3, 4, 5, 6, 7, 8, 9, 10, 11], [0, 11])])
def impl_stepsText.B11 : List Nat := [0, 0, 2, 6, 14, 30, 0, 64, 206, 510, 1022, 2047, 4095]
theorem impl_stepsText.tab11 : rtab .any (opsOf Tryd.f23 11) = impl_stepsText.T11 := by kernel_rfl
theorem impl_stepsText.bits11 : waitsOk impl_stepsText.T11.2 impl_stepsText.B11 = true := by kernel_rfl
theorem impl_stepsText.calls (k : Nat) : ∀ (A0 : Option Addr) (c0 : Nat) (l0 : List (S71)) (r : ByteArray) (w : World) (hr0 : Kd.C k71 w A0 l0.length l0) (hc0 : l0.length ≤ c0) (h : impl_stepsText.f k l0 = some r),
  Calls Tryd.prog 23 #[.slice A0 l0.length c0] w fun e w' => e = .returned (.string r) ∧ Below w.heap.size w w' := by
 induction k using Nat.strongRecOn with
 | _ k ih =>
 intro A0 c0 l0 r w hr0 hc0 h
 cases k with
 | zero => exact absurd h (by simp [impl_stepsText.f])
 | succ k =>
 simp only [impl_stepsText.f] at h
 have hu71 := Tryd.underlying71
 have hu69 := Tryd.underlying69
 have HR0 := AM hr0
 have HC0 := AM hc0
 clear hr0 hc0
 have HB := AM (Below.refl w.heap.size w)
 have H : (impl_stepsText.l0 k (⟨#[]⟩ : ByteArray) l0 (l0.length : Int) 0) = some r := h
 clear h
 have H' := AM H
 clear H
 go_enter Tryd.func23, Tryd.ntmps23
 go_wp2
 go_loopg [3, 8] k (fun kq v3 v8 w' => ∃ (x3_1 : ByteArray) (x8_1 : Int), v3 = .string x3_1 ∧ v8 = .int .i64 x8_1 ∧ Aside0 (impl_stepsText.l0 kq x3_1 l0 (l0.length : Int) x8_1 = some r) ∧ Aside0 (kq ≤ k) ∧ Aside0 (Below w.heap.size w w'))
 case atStart => exact ⟨((⟨#[]⟩ : ByteArray)), (0), (by first | rfl | (simp; done) | (simp [*]; done)), (by first | rfl | (simp; done) | (simp [*]; done)), H', ⟨Nat.le_refl _⟩, ⟨ZB⟩⟩
 case round => (
 clear H'
 obtain ⟨x3_1, x8_1, rfl, rfl, HA, HK1, HB⟩ := hrel
 cases gk with
 | zero => exact absurd HA.out (by simp [impl_stepsText.l0])
 | succ k1 =>
  have H := HA.out
  clear HA
  simp only [impl_stepsText.l0] at H
  by_cases c2 : x8_1 < (l0.length : Int)
  ·(
  rw [if_pos c2] at H
  have c2b0 := decide_eq_true c2
  clear c2
  by_cases c3 : 0 ≤ x8_1
  ·(
  rw [if_pos c3] at H
  have c3b0 := decide_eq_true c3
  clear c3
  by_cases c4 : x8_1 < (l0.length : Int)
  ·(
  rw [if_pos c4] at H
  have c4b0 := decide_eq_true c4
  clear c4
  obtain ⟨t285, A5, H⟩ := ZOB H; try dsimp only at H
  by_cases c6 : x3_1.size + t285.size ≤ 9223372036854775807
  ·(
  rw [if_pos c6] at H
  have c6b0 := eq_true c6
  have c6b1 := decide_eq_true c6
  try have c6b2 : (9223372036854775807 < x3_1.size + t285.size) = False := eq_false (Nat.not_lt.2 c6)
  by_cases c7 : ((rd_T71 l0 x8_1).f0) = 1
  ·(
  rw [if_pos c7] at H
  have c7b0 := beq_iff_eq.mpr c7
  have c7b1 := bne_eq_false_iff_eq.mpr c7
  clear c7
  obtain ⟨t286, A8, H⟩ := ZOB H; try dsimp only at H
  by_cases c9 : 1 + t286.size ≤ 9223372036854775807
  ·(
  rw [if_pos c9] at H
  have c9b0 := eq_true c9
  have c9b1 := decide_eq_true c9
  try have c9b2 : (9223372036854775807 < 1 + t286.size) = False := eq_false (Nat.not_lt.2 c9)
  by_cases c10 : ((⟨#[58]⟩ : ByteArray) ++ t286).size + 1 ≤ 9223372036854775807
  ·(
  rw [if_pos c10] at H
  have c10b0 := eq_true c10
  have c10b1 := decide_eq_true c10
  try have c10b2 : (9223372036854775807 < ((⟨#[58]⟩ : ByteArray) ++ t286).size + 1) = False := eq_false (Nat.not_lt.2 c10)
  try have c10b3 : (9223372036854775807 < 1 + t286.size + 1) = False := eq_false (by have h_ := c10; simp only [ByteArray.size_append] at h_; first | exact Nat.not_lt.2 h_ | (have e2_ : ∀ x : UInt8, (⟨#[x]⟩ : ByteArray).size = 1 := fun _ => rfl; have e3_ : ∀ x y : UInt8, (⟨#[x, y]⟩ : ByteArray).size = 2 := fun _ _ => rfl; simp only [e2_, e3_] at h_; omega))
  by_cases c11 : (x3_1 ++ t285).size + (((⟨#[58]⟩ : ByteArray) ++ t286) ++ (⟨#[59]⟩ : ByteArray)).size ≤ 9223372036854775807
  ·(
  rw [if_pos c11] at H
  have c11b0 := eq_true c11
  have c11b1 := decide_eq_true c11
  try have c11b2 : (9223372036854775807 < (x3_1 ++ t285).size + (((⟨#[58]⟩ : ByteArray) ++ t286) ++ (⟨#[59]⟩ : ByteArray)).size) = False := eq_false (Nat.not_lt.2 c11)
  try have c11b3 : (9223372036854775807 < x3_1.size + t285.size + 1 + t286.size + 1) = False := eq_false (by have h_ := c11; simp only [ByteArray.size_append] at h_; first | exact Nat.not_lt.2 h_ | (have e2_ : ∀ x : UInt8, (⟨#[x]⟩ : ByteArray).size = 1 := fun _ => rfl; have e3_ : ∀ x y : UInt8, (⟨#[x, y]⟩ : ByteArray).size = 2 := fun _ _ => rfl; simp only [e2_, e3_] at h_; omega))
  try have c11b4 : (9223372036854775807 < x3_1.size + t285.size + (1 + t286.size + 1)) = False := eq_false (by have h_ := c11; simp only [ByteArray.size_append] at h_; first | exact Nat.not_lt.2 h_ | (have e2_ : ∀ x : UInt8, (⟨#[x]⟩ : ByteArray).size = 1 := fun _ => rfl; have e3_ : ∀ x y : UInt8, (⟨#[x, y]⟩ : ByteArray).size = 2 := fun _ _ => rfl; simp only [e2_, e3_] at h_; omega))
  have H' := AM H
  clear H
  have p283 : 0 ≤ (x8_1 : Int) := ZD
  have q283 : x8_1 < (l0.length : Int) := ZD
  obtain ⟨ad283, A283_6, c283_6, A283_7, c283_7, e283, hx283_0, hx283_1, hx283_2, hx283_3, hx283_4, hx283_5, hx283_6, hx283_7, hl283_6, hi283_6, hl283_7, hi283_7⟩ := at_T71 HR0.out x8_1 p283 q283
  cases e283
  replace hx283_0 := ZHX HB hx283_0
  replace hx283_1 := ZHX HB hx283_1
  replace hx283_2 := ZHX HB hx283_2
  replace hx283_3 := ZHX HB hx283_3
  replace hx283_4 := ZHX HB hx283_4
  replace hx283_5 := ZHX HB hx283_5
  replace hx283_6 := ZHX HB hx283_6
  replace hx283_7 := ZHX HB hx283_7
  have HR283_6 := AM hi283_6
  have HC283_6 := AM hl283_6
  clear hi283_6 hl283_6
  have HR283_7 := AM hi283_7
  have HC283_7 := AM hl283_7
  clear hi283_7 hl283_7
  replace p283 := eq_true p283
  replace q283 := eq_true q283
  go_wp2_with (first | ((with_reducible refine gate_dst (N := 5) rfl ?_); refine ZX (N := 5) (cs := #[.int .i64 0, .int .i64 0, .int .i64 0, .int .i64 0, .int .i64 0, .int .i64 0, .slice none 0 0, .slice none 0 0]) (t := 71) ?_; intro gb284 hg w12 hbox hb; have BK284 := AM (hbox); have GW284 : Aside0 (w.heap.size ≤ gb284) := ZS hg; have GE284 : Aside0 (w.heap.size ≤ gb284) := ZS hg; replace HB := ZT HB hb; clear hb hbox hg; have hcz13 := ZC8 w12 BK284; have hfz13 := ZF8 BK284) | ((with_reducible refine gate_callee (f := 46) rfl ?_); refine ZGL (some 15) Tryd.func46 #[.int .i64 ((rd_T71 l0 x8_1).f1)] ?_; (with_reducible refine (impl_varName.calls ((rd_T71 l0 x8_1).f1) t285 _ A5.out).mono ?_); rintro e w' ⟨rfl, ⟨nd, rfl⟩⟩; refine ⟨_, rfl, ?_⟩) | ((with_reducible refine gate_callee (f := 47) rfl ?_); refine ZGL (some 31) Tryd.func47 #[.agg #[.int .i64 ((rd_T71 l0 x8_1).f2.f0), .int .i64 ((rd_T71 l0 x8_1).f2.f1), .int .i64 ((rd_T71 l0 x8_1).f2.f2)]] ?_; (with_reducible refine (impl_Val_text.calls ((rd_T71 l0 x8_1).f2.f0) ((rd_T71 l0 x8_1).f2.f1) ((rd_T71 l0 x8_1).f2.f2) t286 _ A8.out).mono ?_); rintro e w14 ⟨rfl, hb⟩; refine ⟨_, rfl, ?_⟩; replace BK284 := ZV #[.int .i64 ((rd_T71 l0 x8_1).f0), .int .i64 ((rd_T71 l0 x8_1).f1), .int .i64 ((rd_T71 l0 x8_1).f2.f0), .int .i64 ((rd_T71 l0 x8_1).f2.f1), .int .i64 ((rd_T71 l0 x8_1).f2.f2), .int .i64 ((rd_T71 l0 x8_1).f3), .slice A283_6 ((rd_T71 l0 x8_1).f4).length c283_6, .slice A283_7 ((rd_T71 l0 x8_1).f5).length c283_7] BK284 hb; replace HB := ZT HB hb; clear hb))
  go_roundg k1
  case measure => have := HK1.out; omega
  case rel => exact ⟨((x3_1 ++ t285) ++ (((⟨#[58]⟩ : ByteArray) ++ t286) ++ (⟨#[59]⟩ : ByteArray))), (wrap64 (x8_1 + 1)), (by first | rfl | (simp; done) | (simp [*]; done)), (by first | rfl | (simp; done) | (simp [*]; done)), H', ⟨by have := HK1.out; omega⟩, ⟨ZB⟩⟩)
  ·(
  rw [if_neg c11] at H
  exact absurd H (by simp)))
  ·(
  rw [if_neg c10] at H
  exact absurd H (by simp)))
  ·(
  rw [if_neg c9] at H
  exact absurd H (by simp)))
  ·(
  rw [if_neg c7] at H
  have c7b0 := beq_eq_false_iff_ne.mpr c7
  have c7b1 := bne_iff_ne.mpr c7
  by_cases c15 : ((rd_T71 l0 x8_1).f0) = 2
  ·(
  rw [if_pos c15] at H
  have c15b0 := beq_iff_eq.mpr c15
  have c15b1 := bne_eq_false_iff_eq.mpr c15
  clear c15
  obtain ⟨t287, A16, H⟩ := ZOB H; try dsimp only at H
  by_cases c17 : 2 + t287.size ≤ 9223372036854775807
  ·(
  rw [if_pos c17] at H
  have c17b0 := eq_true c17
  have c17b1 := decide_eq_true c17
  try have c17b2 : (9223372036854775807 < 2 + t287.size) = False := eq_false (Nat.not_lt.2 c17)
  by_cases c18 : ((⟨#[63, 40]⟩ : ByteArray) ++ t287).size + 2 ≤ 9223372036854775807
  ·(
  rw [if_pos c18] at H
  have c18b0 := eq_true c18
  have c18b1 := decide_eq_true c18
  try have c18b2 : (9223372036854775807 < ((⟨#[63, 40]⟩ : ByteArray) ++ t287).size + 2) = False := eq_false (Nat.not_lt.2 c18)
  try have c18b3 : (9223372036854775807 < 2 + t287.size + 2) = False := eq_false (by have h_ := c18; simp only [ByteArray.size_append] at h_; first | exact Nat.not_lt.2 h_ | (have e2_ : ∀ x : UInt8, (⟨#[x]⟩ : ByteArray).size = 1 := fun _ => rfl; have e3_ : ∀ x y : UInt8, (⟨#[x, y]⟩ : ByteArray).size = 2 := fun _ _ => rfl; simp only [e2_, e3_] at h_; omega))
  obtain ⟨t288, A19, H⟩ := ZOB H; try dsimp only at H
  by_cases c20 : (((⟨#[63, 40]⟩ : ByteArray) ++ t287) ++ (⟨#[41, 40]⟩ : ByteArray)).size + t288.size ≤ 9223372036854775807
  ·(
  rw [if_pos c20] at H
  have c20b0 := eq_true c20
  have c20b1 := decide_eq_true c20
  try have c20b2 : (9223372036854775807 < (((⟨#[63, 40]⟩ : ByteArray) ++ t287) ++ (⟨#[41, 40]⟩ : ByteArray)).size + t288.size) = False := eq_false (Nat.not_lt.2 c20)
  try have c20b3 : (9223372036854775807 < 2 + t287.size + 2 + t288.size) = False := eq_false (by have h_ := c20; simp only [ByteArray.size_append] at h_; first | exact Nat.not_lt.2 h_ | (have e2_ : ∀ x : UInt8, (⟨#[x]⟩ : ByteArray).size = 1 := fun _ => rfl; have e3_ : ∀ x y : UInt8, (⟨#[x, y]⟩ : ByteArray).size = 2 := fun _ _ => rfl; simp only [e2_, e3_] at h_; omega))
  by_cases c21 : ((((⟨#[63, 40]⟩ : ByteArray) ++ t287) ++ (⟨#[41, 40]⟩ : ByteArray)) ++ t288).size + 1 ≤ 9223372036854775807
  ·(
  rw [if_pos c21] at H
  have c21b0 := eq_true c21
  have c21b1 := decide_eq_true c21
  try have c21b2 : (9223372036854775807 < ((((⟨#[63, 40]⟩ : ByteArray) ++ t287) ++ (⟨#[41, 40]⟩ : ByteArray)) ++ t288).size + 1) = False := eq_false (Nat.not_lt.2 c21)
  try have c21b3 : (9223372036854775807 < 2 + t287.size + 2 + t288.size + 1) = False := eq_false (by have h_ := c21; simp only [ByteArray.size_append] at h_; first | exact Nat.not_lt.2 h_ | (have e2_ : ∀ x : UInt8, (⟨#[x]⟩ : ByteArray).size = 1 := fun _ => rfl; have e3_ : ∀ x y : UInt8, (⟨#[x, y]⟩ : ByteArray).size = 2 := fun _ _ => rfl; simp only [e2_, e3_] at h_; omega))
  by_cases c22 : (x3_1 ++ t285).size + (((((⟨#[63, 40]⟩ : ByteArray) ++ t287) ++ (⟨#[41, 40]⟩ : ByteArray)) ++ t288) ++ (⟨#[41]⟩ : ByteArray)).size ≤ 9223372036854775807
  ·(
  rw [if_pos c22] at H
  have c22b0 := eq_true c22
  have c22b1 := decide_eq_true c22
  try have c22b2 : (9223372036854775807 < (x3_1 ++ t285).size + (((((⟨#[63, 40]⟩ : ByteArray) ++ t287) ++ (⟨#[41, 40]⟩ : ByteArray)) ++ t288) ++ (⟨#[41]⟩ : ByteArray)).size) = False := eq_false (Nat.not_lt.2 c22)
  try have c22b3 : (9223372036854775807 < x3_1.size + t285.size + 2 + t287.size + 2 + t288.size + 1) = False := eq_false (by have h_ := c22; simp only [ByteArray.size_append] at h_; first | exact Nat.not_lt.2 h_ | (have e2_ : ∀ x : UInt8, (⟨#[x]⟩ : ByteArray).size = 1 := fun _ => rfl; have e3_ : ∀ x y : UInt8, (⟨#[x, y]⟩ : ByteArray).size = 2 := fun _ _ => rfl; simp only [e2_, e3_] at h_; omega))
  try have c22b4 : (9223372036854775807 < x3_1.size + t285.size + (2 + t287.size + 2 + t288.size + 1)) = False := eq_false (by have h_ := c22; simp only [ByteArray.size_append] at h_; first | exact Nat.not_lt.2 h_ | (have e2_ : ∀ x : UInt8, (⟨#[x]⟩ : ByteArray).size = 1 := fun _ => rfl; have e3_ : ∀ x y : UInt8, (⟨#[x, y]⟩ : ByteArray).size = 2 := fun _ _ => rfl; simp only [e2_, e3_] at h_; omega))
  have H' := AM H
  clear H
  have p283 : 0 ≤ (x8_1 : Int) := ZD
  have q283 : x8_1 < (l0.length : Int) := ZD
  obtain ⟨ad283, A283_6, c283_6, A283_7, c283_7, e283, hx283_0, hx283_1, hx283_2, hx283_3, hx283_4, hx283_5, hx283_6, hx283_7, hl283_6, hi283_6, hl283_7, hi283_7⟩ := at_T71 HR0.out x8_1 p283 q283
  cases e283
  replace hx283_0 := ZHX HB hx283_0
  replace hx283_1 := ZHX HB hx283_1
  replace hx283_2 := ZHX HB hx283_2
  replace hx283_3 := ZHX HB hx283_3
  replace hx283_4 := ZHX HB hx283_4
  replace hx283_5 := ZHX HB hx283_5
  replace hx283_6 := ZHX HB hx283_6
  replace hx283_7 := ZHX HB hx283_7
  have HR283_6 := AM hi283_6
  have HC283_6 := AM hl283_6
  clear hi283_6 hl283_6
  have HR283_7 := AM hi283_7
  have HC283_7 := AM hl283_7
  clear hi283_7 hl283_7
  replace p283 := eq_true p283
  replace q283 := eq_true q283
  try go_wp2_with (first | ((with_reducible refine gate_dst (N := 5) rfl ?_); refine ZX (N := 5) (cs := #[.int .i64 0, .int .i64 0, .int .i64 0, .int .i64 0, .int .i64 0, .int .i64 0, .slice none 0 0, .slice none 0 0]) (t := 71) ?_; intro gb284 hg w23 hbox hb; have BK284 := AM (hbox); have GW284 : Aside0 (w.heap.size ≤ gb284) := ZS hg; have GE284 : Aside0 (w.heap.size ≤ gb284) := ZS hg; replace HB := ZT HB hb; clear hb hbox hg; have hcz24 := ZC8 w23 BK284; have hfz24 := ZF8 BK284) | ((with_reducible refine gate_callee (f := 46) rfl ?_); refine ZGL (some 15) Tryd.func46 #[.int .i64 ((rd_T71 l0 x8_1).f1)] ?_; (with_reducible refine (impl_varName.calls ((rd_T71 l0 x8_1).f1) t285 _ A5.out).mono ?_); rintro e w' ⟨rfl, ⟨nd, rfl⟩⟩; refine ⟨_, rfl, ?_⟩))
  have n0_ : Aside0 (((((((((w23.setCell ⟨gb284, 0, none⟩ (.int .i64 ((rd_T71 l0 x8_1).f0))).setCell ⟨gb284, 1, none⟩ (.int .i64 ((rd_T71 l0 x8_1).f1))).setCell ⟨gb284, 2, none⟩ (.int .i64 ((rd_T71 l0 x8_1).f2.f0))).setCell ⟨gb284, 3, none⟩ (.int .i64 ((rd_T71 l0 x8_1).f2.f1))).setCell ⟨gb284, 4, none⟩ (.int .i64 ((rd_T71 l0 x8_1).f2.f2))).setCell ⟨gb284, 5, none⟩ (.int .i64 ((rd_T71 l0 x8_1).f3))).setCell ⟨gb284, 6, none⟩ (.slice A283_6 ((rd_T71 l0 x8_1).f4).length c283_6)).setCell ⟨gb284, 7, none⟩ (.slice A283_7 ((rd_T71 l0 x8_1).f5).length c283_7)).heap[gb284]? = some (.cells #[.int .i64 ((rd_T71 l0 x8_1).f0), .int .i64 ((rd_T71 l0 x8_1).f1), .int .i64 ((rd_T71 l0 x8_1).f2.f0), .int .i64 ((rd_T71 l0 x8_1).f2.f1), .int .i64 ((rd_T71 l0 x8_1).f2.f2), .int .i64 ((rd_T71 l0 x8_1).f3), .slice A283_6 ((rd_T71 l0 x8_1).f4).length c283_6, .slice A283_7 ((rd_T71 l0 x8_1).f5).length c283_7] 71 (0, 0))) := ⟨ZZ BK284.out⟩
  have n1_ : Aside0 (Below w.heap.size w ((((((((w23.setCell ⟨gb284, 0, none⟩ (.int .i64 ((rd_T71 l0 x8_1).f0))).setCell ⟨gb284, 1, none⟩ (.int .i64 ((rd_T71 l0 x8_1).f1))).setCell ⟨gb284, 2, none⟩ (.int .i64 ((rd_T71 l0 x8_1).f2.f0))).setCell ⟨gb284, 3, none⟩ (.int .i64 ((rd_T71 l0 x8_1).f2.f1))).setCell ⟨gb284, 4, none⟩ (.int .i64 ((rd_T71 l0 x8_1).f2.f2))).setCell ⟨gb284, 5, none⟩ (.int .i64 ((rd_T71 l0 x8_1).f3))).setCell ⟨gb284, 6, none⟩ (.slice A283_6 ((rd_T71 l0 x8_1).f4).length c283_6)).setCell ⟨gb284, 7, none⟩ (.slice A283_7 ((rd_T71 l0 x8_1).f5).length c283_7))) := ⟨ZB⟩
  (try clear BK284)
  (try clear HB)
  generalize ((((((((w23.setCell ⟨gb284, 0, none⟩ (.int .i64 ((rd_T71 l0 x8_1).f0))).setCell ⟨gb284, 1, none⟩ (.int .i64 ((rd_T71 l0 x8_1).f1))).setCell ⟨gb284, 2, none⟩ (.int .i64 ((rd_T71 l0 x8_1).f2.f0))).setCell ⟨gb284, 3, none⟩ (.int .i64 ((rd_T71 l0 x8_1).f2.f1))).setCell ⟨gb284, 4, none⟩ (.int .i64 ((rd_T71 l0 x8_1).f2.f2))).setCell ⟨gb284, 5, none⟩ (.int .i64 ((rd_T71 l0 x8_1).f3))).setCell ⟨gb284, 6, none⟩ (.slice A283_6 ((rd_T71 l0 x8_1).f4).length c283_6)).setCell ⟨gb284, 7, none⟩ (.slice A283_7 ((rd_T71 l0 x8_1).f5).length c283_7)) = w25 at n0_ n1_ ⊢
  have BK284 := n0_
  have HB := n1_
  clear n0_ n1_
  (try (rw [drewN_self w25]; generalize hq_ : World.drewN w25 _ = w25; have n0_ : Aside0 (w25.heap[gb284]? = some (.cells #[.int .i64 ((rd_T71 l0 x8_1).f0), .int .i64 ((rd_T71 l0 x8_1).f1), .int .i64 ((rd_T71 l0 x8_1).f2.f0), .int .i64 ((rd_T71 l0 x8_1).f2.f1), .int .i64 ((rd_T71 l0 x8_1).f2.f2), .int .i64 ((rd_T71 l0 x8_1).f3), .slice A283_6 ((rd_T71 l0 x8_1).f4).length c283_6, .slice A283_7 ((rd_T71 l0 x8_1).f5).length c283_7] 71 (0, 0))) := ⟨by rw [← hq_]; exact (ZK BK284.out)⟩; have n1_ : Aside0 (Below w.heap.size w w25) := ⟨by rw [← hq_]; exact (ZB)⟩; clear BK284 HB hq_; have BK284 := n0_; have HB := n1_; clear n0_ n1_))
  replace BK284 := AM (blk_drew BK284.out)
  replace HB := AM (below_drew1 HB.out)
  refine start_ (n := 13) (S := fun w' => w'.cell? ⟨gb284, 0, none⟩ = some (.int .i64 ((rd_T71 l0 x8_1).f0)) ∧ w'.cell? ⟨gb284, 1, none⟩ = some (.int .i64 ((rd_T71 l0 x8_1).f1)) ∧ w'.cell? ⟨gb284, 2, none⟩ = some (.int .i64 ((rd_T71 l0 x8_1).f2.f0)) ∧ w'.cell? ⟨gb284, 3, none⟩ = some (.int .i64 ((rd_T71 l0 x8_1).f2.f1)) ∧ w'.cell? ⟨gb284, 4, none⟩ = some (.int .i64 ((rd_T71 l0 x8_1).f2.f2)) ∧ w'.cell? ⟨gb284, 5, none⟩ = some (.int .i64 ((rd_T71 l0 x8_1).f3)) ∧ w'.cell? ⟨gb284, 6, none⟩ = some (.slice A283_6 ((rd_T71 l0 x8_1).f4).length c283_6) ∧ w'.cell? ⟨gb284, 7, none⟩ = some (.slice A283_7 ((rd_T71 l0 x8_1).f5).length c283_7)) (ds := []) #[F,F,F,F,F,F,F,F,F,F,F,F,F] (by kernel_rfl) rfl rfl ⟨ZA BK284 0, ZA BK284 1, ZA BK284 2, ZA BK284 3, ZA BK284 4, ZA BK284 5, ZA BK284 6, ZA BK284 7⟩ (fun hHeld => ?_); refine with_tabW impl_stepsText.tab11 impl_stepsText.bits11 (fun HT_ HW_ => ?_)
  generalize w25.drew = w26 at BK284 HB hHeld ⊢
  refine ZU 0 37 #[T,F,F,F,F,F,F,F,F,F,F,F,F] ?_
  refine ZU 1 38 #[T,T,F,F,F,F,F,F,F,F,F,F,F] ?_
  refine ZU 6 43 #[T,T,F,F,F,F,T,F,F,F,F,F,F] ?_
  refine ZTK 2 39 #[T,T,T,F,F,F,T,F,F,F,F,F,F] hHeld ?_
  refine ZTK 7 44 #[T,T,T,F,F,F,T,T,F,F,F,F,F] hHeld ?_
  refine one_ (i := 3) (N := some 40) #[T,T,T,T,F,F,T,T,F,F,F,F,F] rfl rfl (one_of HT_.out (by kernel_rfl)) (by decide) (fun K hK => ?_)
  refine ZGO Tryd.func23 #[.slice A283_6 ((rd_T71 l0 x8_1).f4).length c283_6] ?_
  with_reducible refine (ih k1 (by have := HK1.out; omega) _ _ ((rd_T71 l0 x8_1).f4) t287 _ ?side1 ?side2 A16.out).mono ?_
  (case side1 => exact ZQ (Kd.C_below HR283_6.out HB.out))
  (case side2 => exact HC283_6.out)
  rintro e w27 ⟨rfl, hb⟩
  refine ⟨_, rfl, ?_⟩
  replace BK284 := ZW BK284 hb
  replace HB := ZT HB hb
  (try clear hb)
  (try clear hb2)
  (try clear hk)
  (try clear hi)
  refine hK.out _ _ ⟨ZA BK284 0, ZA BK284 1, ZA BK284 2, ZA BK284 3, ZA BK284 4, ZA BK284 5, ZA BK284 6, ZA BK284 7⟩ (fun hHeld => ?_)
  clear hK K
  refine ZNO 40 ?_
  refine ZU 4 41 #[T,T,T,T,T,F,T,T,F,F,F,F,F] ?_
  refine ZU 5 42 #[T,T,T,T,T,T,T,T,F,F,F,F,F] ?_
  refine one_ (i := 8) (N := some 45) #[T,T,T,T,T,T,T,T,T,F,F,F,F] rfl rfl (one_of HT_.out (by kernel_rfl)) (by decide) (fun K hK => ?_)
  refine ZGO Tryd.func23 #[.slice A283_7 ((rd_T71 l0 x8_1).f5).length c283_7] ?_
  with_reducible refine (ih k1 (by have := HK1.out; omega) _ _ ((rd_T71 l0 x8_1).f5) t288 _ ?side1 ?side2 A19.out).mono ?_
  (case side1 => exact ZQ (Kd.C_below HR283_7.out HB.out))
  (case side2 => exact HC283_7.out)
  rintro e w28 ⟨rfl, hb⟩
  refine ⟨_, rfl, ?_⟩
  replace BK284 := ZW BK284 hb
  replace HB := ZT HB hb
  (try clear hb)
  (try clear hb2)
  (try clear hk)
  (try clear hi)
  refine hK.out _ _ ⟨ZA BK284 0, ZA BK284 1, ZA BK284 2, ZA BK284 3, ZA BK284 4, ZA BK284 5, ZA BK284 6, ZA BK284 7⟩ (fun hHeld => ?_)
  clear hK K
  refine ZNO 45 ?_
  refine ZU 9 46 #[T,T,T,T,T,T,T,T,T,T,F,F,F] ?_
  refine ZU 10 47 #[T,T,T,T,T,T,T,T,T,T,T,F,F] ?_
  refine ZU 11 48 #[T,T,T,T,T,T,T,T,T,T,T,T,F] ?_
  refine ZU 12 3 #[T,T,T,T,T,T,T,T,T,T,T,T,T] ?_
  refine done_ (done_of HT_.out (by kernel_rfl)) ?_
  try go_wp2
  go_roundg k1
  case measure => have := HK1.out; omega
  case rel => exact ⟨((x3_1 ++ t285) ++ (((((⟨#[63, 40]⟩ : ByteArray) ++ t287) ++ (⟨#[41, 40]⟩ : ByteArray)) ++ t288) ++ (⟨#[41]⟩ : ByteArray))), (wrap64 (x8_1 + 1)), (by first | rfl | (simp; done) | (simp [*]; done)), (by first | rfl | (simp; done) | (simp [*]; done)), H', ⟨by have := HK1.out; omega⟩, ⟨ZB⟩⟩)
  ·(
  rw [if_neg c22] at H
  exact absurd H (by simp)))
  ·(
  rw [if_neg c21] at H
  exact absurd H (by simp)))
  ·(
  rw [if_neg c20] at H
  exact absurd H (by simp)))
  ·(
  rw [if_neg c18] at H
  exact absurd H (by simp)))
  ·(
  rw [if_neg c17] at H
  exact absurd H (by simp)))
  ·(
  rw [if_neg c15] at H
  have c15b0 := beq_eq_false_iff_ne.mpr c15
  have c15b1 := bne_iff_ne.mpr c15
  obtain ⟨t289, A29, H⟩ := ZOB H; try dsimp only at H
  by_cases c30 : 1 + t289.size ≤ 9223372036854775807
  ·(
  rw [if_pos c30] at H
  have c30b0 := eq_true c30
  have c30b1 := decide_eq_true c30
  try have c30b2 : (9223372036854775807 < 1 + t289.size) = False := eq_false (Nat.not_lt.2 c30)
  by_cases c31 : ((⟨#[62]⟩ : ByteArray) ++ t289).size + 1 ≤ 9223372036854775807
  ·(
  rw [if_pos c31] at H
  have c31b0 := eq_true c31
  have c31b1 := decide_eq_true c31
  try have c31b2 : (9223372036854775807 < ((⟨#[62]⟩ : ByteArray) ++ t289).size + 1) = False := eq_false (Nat.not_lt.2 c31)
  try have c31b3 : (9223372036854775807 < 1 + t289.size + 1) = False := eq_false (by have h_ := c31; simp only [ByteArray.size_append] at h_; first | exact Nat.not_lt.2 h_ | (have e2_ : ∀ x : UInt8, (⟨#[x]⟩ : ByteArray).size = 1 := fun _ => rfl; have e3_ : ∀ x y : UInt8, (⟨#[x, y]⟩ : ByteArray).size = 2 := fun _ _ => rfl; simp only [e2_, e3_] at h_; omega))
  by_cases c32 : (x3_1 ++ t285).size + (((⟨#[62]⟩ : ByteArray) ++ t289) ++ (⟨#[59]⟩ : ByteArray)).size ≤ 9223372036854775807
  ·(
  rw [if_pos c32] at H
  have c32b0 := eq_true c32
  have c32b1 := decide_eq_true c32
  try have c32b2 : (9223372036854775807 < (x3_1 ++ t285).size + (((⟨#[62]⟩ : ByteArray) ++ t289) ++ (⟨#[59]⟩ : ByteArray)).size) = False := eq_false (Nat.not_lt.2 c32)
  try have c32b3 : (9223372036854775807 < x3_1.size + t285.size + 1 + t289.size + 1) = False := eq_false (by have h_ := c32; simp only [ByteArray.size_append] at h_; first | exact Nat.not_lt.2 h_ | (have e2_ : ∀ x : UInt8, (⟨#[x]⟩ : ByteArray).size = 1 := fun _ => rfl; have e3_ : ∀ x y : UInt8, (⟨#[x, y]⟩ : ByteArray).size = 2 := fun _ _ => rfl; simp only [e2_, e3_] at h_; omega))
  try have c32b4 : (9223372036854775807 < x3_1.size + t285.size + (1 + t289.size + 1)) = False := eq_false (by have h_ := c32; simp only [ByteArray.size_append] at h_; first | exact Nat.not_lt.2 h_ | (have e2_ : ∀ x : UInt8, (⟨#[x]⟩ : ByteArray).size = 1 := fun _ => rfl; have e3_ : ∀ x y : UInt8, (⟨#[x, y]⟩ : ByteArray).size = 2 := fun _ _ => rfl; simp only [e2_, e3_] at h_; omega))
  have H' := AM H
  clear H
  have p283 : 0 ≤ (x8_1 : Int) := ZD
  have q283 : x8_1 < (l0.length : Int) := ZD
  obtain ⟨ad283, A283_6, c283_6, A283_7, c283_7, e283, hx283_0, hx283_1, hx283_2, hx283_3, hx283_4, hx283_5, hx283_6, hx283_7, hl283_6, hi283_6, hl283_7, hi283_7⟩ := at_T71 HR0.out x8_1 p283 q283
  cases e283
  replace hx283_0 := ZHX HB hx283_0
  replace hx283_1 := ZHX HB hx283_1
  replace hx283_2 := ZHX HB hx283_2
  replace hx283_3 := ZHX HB hx283_3
  replace hx283_4 := ZHX HB hx283_4
  replace hx283_5 := ZHX HB hx283_5
  replace hx283_6 := ZHX HB hx283_6
  replace hx283_7 := ZHX HB hx283_7
  have HR283_6 := AM hi283_6
  have HC283_6 := AM hl283_6
  clear hi283_6 hl283_6
  have HR283_7 := AM hi283_7
  have HC283_7 := AM hl283_7
  clear hi283_7 hl283_7
  replace p283 := eq_true p283
  replace q283 := eq_true q283
  go_wp2_with (first | ((with_reducible refine gate_dst (N := 5) rfl ?_); refine ZX (N := 5) (cs := #[.int .i64 0, .int .i64 0, .int .i64 0, .int .i64 0, .int .i64 0, .int .i64 0, .slice none 0 0, .slice none 0 0]) (t := 71) ?_; intro gb284 hg w33 hbox hb; have BK284 := AM (hbox); have GW284 : Aside0 (w.heap.size ≤ gb284) := ZS hg; have GE284 : Aside0 (w.heap.size ≤ gb284) := ZS hg; replace HB := ZT HB hb; clear hb hbox hg; have hcz34 := ZC8 w33 BK284; have hfz34 := ZF8 BK284) | ((with_reducible refine gate_callee (f := 46) rfl ?_); refine ZGL (some 15) Tryd.func46 #[.int .i64 ((rd_T71 l0 x8_1).f1)] ?_; (with_reducible refine (impl_varName.calls ((rd_T71 l0 x8_1).f1) t285 _ A5.out).mono ?_); rintro e w' ⟨rfl, ⟨nd, rfl⟩⟩; refine ⟨_, rfl, ?_⟩) | ((with_reducible refine gate_callee (f := 48) rfl ?_); refine ZGL (some 22) Tryd.func48 #[.int .i64 ((rd_T71 l0 x8_1).f3)] ?_; (with_reducible refine (strconv_Itoa_48.calls ((rd_T71 l0 x8_1).f3) t289 _ A29.out).mono ?_); rintro e w' ⟨rfl, ⟨nd, rfl⟩⟩; refine ⟨_, rfl, ?_⟩))
  go_roundg k1
  case measure => have := HK1.out; omega
  case rel => exact ⟨((x3_1 ++ t285) ++ (((⟨#[62]⟩ : ByteArray) ++ t289) ++ (⟨#[59]⟩ : ByteArray))), (wrap64 (x8_1 + 1)), (by first | rfl | (simp; done) | (simp [*]; done)), (by first | rfl | (simp; done) | (simp [*]; done)), H', ⟨by have := HK1.out; omega⟩, ⟨ZB⟩⟩)
  ·(
  rw [if_neg c32] at H
  exact absurd H (by simp)))
  ·(
  rw [if_neg c31] at H
  exact absurd H (by simp)))
  ·(
  rw [if_neg c30] at H
  exact absurd H (by simp)))))
  ·(
  rw [if_neg c6] at H
  exact absurd H (by simp)))
  ·(
  rw [if_neg c4] at H
  exact absurd H (by simp)))
  ·(
  rw [if_neg c3] at H
  exact absurd H (by simp)))
  ·(
  rw [if_neg c2] at H
  have c2b0 := decide_eq_false c2
  clear c2
  obtain rfl := Option.some.inj H
  go_wp2
  go_ret
  exact ⟨ZE, ZB⟩))

end Go.Proofs.YtfcmckomagaiiaaDoor.A
