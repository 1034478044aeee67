/- Go functions as Lean functions, and for each its contract; written by wip/tools/pr.py over the kit's print. -/
import Derived.Test.YtfcmckomagaiiaaDoorAx0
namespace Go.Proofs.YtfcmckomagaiiaaDoor.A
open Go.RowKit Go.Proofs.YtfcmckomagaiiaaDoorW.PrintWords Go.Proofs.YtfcmckomagaiiaaDoorW.PrintLast Go.Proofs.YtfcmckomagaiiaaDoorW.PrintMore
attribute [local go_sem] max2_int min2_int max_two min_two max_three min_three max_four min_four
set_option linter.unusedVariables false
set_option linter.unusedSimpArgs false
set_option maxHeartbeats 8000000
set_option maxRecDepth 100000

/-! ### impl_in: function 77 -/
def impl_in.f (a0 : Int) (a1 : Int) (a2 : Int) : Option (Bool) := if a1 ≤ a0 then (some (decide (a0 ≤ a2))) else (some false)
theorem impl_in.calls (a0 : Int) (a1 : Int) (a2 : Int) (r : Bool) (w : World) (h : impl_in.f a0 a1 a2 = some r) :
  Calls Tryd.prog 77 #[.int .i64 a0, .int .i64 a1, .int .i64 a2] w fun e w' => e = .returned (.bool r) ∧ Drawn0 w w' := by
 have H := h
 unfold impl_in.f at H
 clear h
 by_cases c4 : a1 ≤ a0
 ·(
 rw [if_pos c4] at H
 have c4b0 := decide_eq_true c4
 clear c4
 obtain rfl := Option.some.inj H
 go_enter Tryd.func77, Tryd.ntmps77
 go_wp2
 go_ret
 exact ⟨by first | rfl | (simp; done) | (simp [*]; done), by repeat (first | exact Drawn0.refl _ | apply Drawn0.step)⟩)
 ·(
 rw [if_neg c4] at H
 have c4b0 := decide_eq_false c4
 clear c4
 obtain rfl := Option.some.inj H
 go_enter Tryd.func77, Tryd.ntmps77
 go_wp2
 go_ret
 exact ⟨by first | rfl | (simp; done) | (simp [*]; done), by repeat (first | exact Drawn0.refl _ | apply Drawn0.step)⟩)

/-! ### impl_isSet: function 60 -/
def impl_isSet.f (a0 : Int) : Option (Bool) := (impl_in.f a0 0 7).bind fun t171 => (some t171)
theorem impl_isSet.calls (a0 : Int) (r : Bool) (w : World) (h : impl_isSet.f a0 = some r) :
  Calls Tryd.prog 60 #[.int .i64 a0] w fun e w' => e = .returned (.bool r) ∧ Drawn0 w w' := by
 have H := h
 unfold impl_isSet.f at H
 clear h
 obtain ⟨t171, A2, H⟩ := ZOB H; try dsimp only at H
 obtain rfl := Option.some.inj H
 go_enter Tryd.func60, Tryd.ntmps60
 go_wp2_with (first | ((with_reducible refine gate_callee (f := 77) rfl ?_); refine ZGL (some 4) Tryd.func77 #[.int .i64 a0, .int .i64 0, .int .i64 7] ?_; (with_reducible refine (impl_in.calls a0 0 7 t171 _ A2.out).mono ?_); rintro e w' ⟨rfl, ⟨nd, rfl⟩⟩; refine ZV1 ?_))
 go_ret
 exact ⟨by first | rfl | (simp; done) | (simp [*]; done), by repeat (first | exact Drawn0.refl _ | apply Drawn0.step)⟩

/-! ### impl_LabelOk: function 41 -/
def impl_LabelOk.f (a0_0 : Int) (a0_1 : Int) : Option (Bool) := (impl_isSet.f a0_0).bind fun t173 => (if t173 = true then ((impl_isSet.f a0_1).bind fun t174 => (some t174)) else (some false))
theorem impl_LabelOk.calls (a0_0 : Int) (a0_1 : Int) (r : Bool) (w : World) (h : impl_LabelOk.f a0_0 a0_1 = some r) :
  Calls Tryd.prog 41 #[.agg #[.int .i64 a0_0, .int .i64 a0_1]] w fun e w' => e = .returned (.bool r) ∧ Below w.heap.size w w' := by
 have hu43 := Tryd.underlying43
 have HB := AM (Below.refl w.heap.size w)
 have H := h
 unfold impl_LabelOk.f at H
 clear h
 obtain ⟨t173, A2, H⟩ := ZOB H; try dsimp only at H
 by_cases c3 : t173 = true
 ·(
 subst c3
 have H1 := H; rw [if_pos rfl] at H1
 clear H
 have H := H1
 clear H1
 obtain ⟨t174, A4, H⟩ := ZOB H; try dsimp only at H
 obtain rfl := Option.some.inj H
 go_enter Tryd.func41, Tryd.ntmps41
 go_wp2_with (first | ((with_reducible refine gate_dst (N := 1) rfl ?_); refine ZXW w (N := 1) (cs := #[.int .i64 a0_0, .int .i64 a0_1]) (t := 43) ?_; intro gb172 hg w5 BK172 GW172 hb; replace HB := ZT HB hb; clear hb hg; have hcz6 := ZC2 w5 BK172) | ((with_reducible refine gate_callee (f := 60) rfl ?_); refine ZGL (some 5) Tryd.func60 #[.int .i64 a0_0] ?_; (with_reducible refine (impl_isSet.calls a0_0 true _ A2.out).mono ?_); rintro e w' ⟨rfl, ⟨nd, rfl⟩⟩; refine ZV1 ?_) | (go_at_call 60; (with_reducible refine (impl_isSet.calls a0_1 t174 _ A4.out).mono ?_); rintro e w' ⟨rfl, ⟨nd, rfl⟩⟩))
 go_ret
 exact ⟨ZE, ZB⟩)
 ·(
 replace c3 := Bool.eq_false_iff.mpr c3
 subst c3
 have H1 := H; rw [if_neg ZFT] at H1
 clear H
 have H := H1
 clear H1
 obtain rfl := Option.some.inj H
 go_enter Tryd.func41, Tryd.ntmps41
 go_wp2_with (first | ((with_reducible refine gate_dst (N := 1) rfl ?_); refine ZXW w (N := 1) (cs := #[.int .i64 a0_0, .int .i64 a0_1]) (t := 43) ?_; intro gb172 hg w7 BK172 GW172 hb; replace HB := ZT HB hb; clear hb hg; have hcz8 := ZC2 w7 BK172) | ((with_reducible refine gate_callee (f := 60) rfl ?_); refine ZGL (some 5) Tryd.func60 #[.int .i64 a0_0] ?_; (with_reducible refine (impl_isSet.calls a0_0 false _ A2.out).mono ?_); rintro e w' ⟨rfl, ⟨nd, rfl⟩⟩; refine ZV1 ?_))
 go_ret
 exact ⟨ZE, ZB⟩)

/-! ### impl_ProgOk_1: function 40 -/
def impl_ProgOk_1.f (a0_0 : Int) (a0_1 : Int) : Option (Bool) := (impl_LabelOk.f a0_0 a0_1).bind fun t176 => (some (!t176))
theorem impl_ProgOk_1.calls (a0_0 : Int) (a0_1 : Int) (r : Bool) (w : World) (h : impl_ProgOk_1.f a0_0 a0_1 = some r) :
  Calls Tryd.prog 40 #[.agg #[.int .i64 a0_0, .int .i64 a0_1]] w fun e w' => e = .returned (.bool r) ∧ Below w.heap.size w w' := by
 have hu43 := Tryd.underlying43
 have HB := AM (Below.refl w.heap.size w)
 have H := h
 unfold impl_ProgOk_1.f at H
 clear h
 obtain ⟨t176, A2, H⟩ := ZOB H; try dsimp only at H
 obtain rfl := Option.some.inj H
 go_enter Tryd.func40, Tryd.ntmps40
 go_wp2_with (first | ((with_reducible refine gate_dst (N := 1) rfl ?_); refine ZXW w (N := 1) (cs := #[.int .i64 a0_0, .int .i64 a0_1]) (t := 43) ?_; intro gb175 hg w3 BK175 GW175 hb; replace HB := ZT HB hb; clear hb hg; have hcz4 := ZC2 w3 BK175) | ((with_reducible refine gate_callee (f := 41) rfl ?_); refine ZGL (some 4) Tryd.func41 #[.agg #[.int .i64 a0_0, .int .i64 a0_1]] ?_; (with_reducible refine (impl_LabelOk.calls a0_0 a0_1 t176 _ A2.out).mono ?_); rintro e w5 ⟨rfl, hb⟩; refine ZV1 ?_; replace BK175 := ZW BK175 hb; replace HB := ZT HB hb; clear hb))
 go_ret
 exact ⟨ZE, ZB⟩

/-! ### impl_Label_59: function 59 -/
def impl_Label_59.l0 : Nat → List (S43) → Int → Int → Option (Int)
 | 0, _, _, _ => none
 | k + 1, x0, x7, x8 => if x8 < x7 then (if 0 ≤ x8 then (if x8 < (x0.length : Int) then ((impl_ProgOk_1.f ((D43 x0 x8).f0) ((D43 x0 x8).f1)).bind fun t178 => (if t178 = true then (some x8) else (impl_Label_59.l0 k x0 x7 (wrap64 (x8 + 1))))) else (none)) else (none)) else (some (-1))
def impl_Label_59.f (k : Nat) (l0 : List (S43))  : Option (Int) := impl_Label_59.l0 k l0 (l0.length : Int) 0
theorem impl_Label_59.calls (k : Nat) (A0 : Option Addr) (c0 : Nat) (l0 : List (S43))  (r : Int) (w : World) (hr0 : Kd.C k43 w A0 l0.length l0) (hc0 : l0.length ≤ c0) (h : impl_Label_59.f k l0 = some r) :
  Calls Tryd.prog 59 #[.slice A0 l0.length c0, .func (.func 40) #[] #[]] w fun e w' => e = .returned (.int .i64 r) ∧ Below w.heap.size w w' := by
 have hu43 := Tryd.underlying43
 have HR0 := AM hr0
 have HC0 := AM hc0
 clear hr0 hc0
 have HB := AM (Below.refl w.heap.size w)
 have H := h
 unfold impl_Label_59.f at H
 clear h
 have H' := AM H
 clear H
 go_enter Tryd.func59, Tryd.ntmps59
 go_wp2
 go_loopg [8] k (fun kq v8 w' => ∃ (x8_1 : Int), v8 = .int .i64 x8_1 ∧ Za (impl_Label_59.l0 kq l0 (l0.length : Int) x8_1 = some r) ∧ Za (kq ≤ k) ∧ Za (Below w.heap.size w w'))
 case atStart => exact ⟨(0), ZSM, H', ⟨Nat.le_refl _⟩, ⟨ZB⟩⟩
 case round => (
 clear H'
 try clear p2
 obtain ⟨x8_1, rfl, HA, HK1, HB⟩ := hrel
 cases gk with
 | zero => exact absurd HA.out (by simp [impl_Label_59.l0])
 | succ k1 =>
  have H := HA.out
  clear HA
  simp only [impl_Label_59.l0] at H
  by_cases c3 : x8_1 < (l0.length : Int)
  ·(
  rw [if_pos c3] at H
  have c3b0 := decide_eq_true c3
  clear c3
  by_cases c4 : 0 ≤ x8_1
  ·(
  rw [if_pos c4] at H
  have c4b0 := decide_eq_true c4
  clear c4
  by_cases c5 : x8_1 < (l0.length : Int)
  ·(
  rw [if_pos c5] at H
  have c5b0 := decide_eq_true c5
  clear c5
  obtain ⟨t178, A6, H⟩ := ZOB H; try dsimp only at H
  by_cases c7 : t178 = true
  ·(
  subst c7
  have H1 := H; rw [if_pos rfl] at H1
  clear H
  have H := H1
  clear H1
  obtain rfl := Option.some.inj H
  have p177 : 0 ≤ (x8_1 : Int) := ZD
  have q177 : x8_1 < (l0.length : Int) := ZD
  obtain ⟨ad177, e177, hx177_0, hx177_1⟩ := at_T43 HR0.out x8_1 p177 q177
  cases e177
  replace hx177_0 := ZHX HB hx177_0
  replace hx177_1 := ZHX HB hx177_1
  replace p177 := eq_true p177
  replace q177 := eq_true q177
  go_wp2_with (first | ((with_reducible refine gate_calleev ⟨_, _, _, rfl⟩ ?_); refine goesLv_ (some 16) rfl rfl Tryd.func40 (by kernel_rfl) rfl #[.agg #[.int .i64 ((D43 l0 x8_1).f0), .int .i64 ((D43 l0 x8_1).f1)]] ⟨_, _, rfl, rfl⟩ ZG ?_; (with_reducible refine (impl_ProgOk_1.calls ((D43 l0 x8_1).f0) ((D43 l0 x8_1).f1) true _ A6.out).mono ?_); rintro e w8 ⟨rfl, hb⟩; refine ZV1 ?_; replace HB := ZT HB hb; clear hb))
  go_ret
  exact ⟨ZE, ZB⟩)
  ·(
  replace c7 := Bool.eq_false_iff.mpr c7
  subst c7
  have H1 := H; rw [if_neg ZFT] at H1
  clear H
  have H := H1
  clear H1
  have H' := AM H
  clear H
  have p177 : 0 ≤ (x8_1 : Int) := ZD
  have q177 : x8_1 < (l0.length : Int) := ZD
  obtain ⟨ad177, e177, hx177_0, hx177_1⟩ := at_T43 HR0.out x8_1 p177 q177
  cases e177
  replace hx177_0 := ZHX HB hx177_0
  replace hx177_1 := ZHX HB hx177_1
  replace p177 := eq_true p177
  replace q177 := eq_true q177
  go_wp2_with (first | ((with_reducible refine gate_calleev ⟨_, _, _, rfl⟩ ?_); refine goesLv_ (some 16) rfl rfl Tryd.func40 (by kernel_rfl) rfl #[.agg #[.int .i64 ((D43 l0 x8_1).f0), .int .i64 ((D43 l0 x8_1).f1)]] ⟨_, _, rfl, rfl⟩ ZG ?_; (with_reducible refine (impl_ProgOk_1.calls ((D43 l0 x8_1).f0) ((D43 l0 x8_1).f1) false _ A6.out).mono ?_); rintro e w9 ⟨rfl, hb⟩; refine ZV1 ?_; replace HB := ZT HB hb; clear hb))
  go_roundg k1
  case measure => have := HK1.out; omega
  case rel => exact ⟨(wrap64 (x8_1 + 1)), ZSM, H', ⟨by have := HK1.out; omega⟩, ⟨ZB⟩⟩))
  ·(
  rw [if_neg c5] at H
  exact absurd H (by simp)))
  ·(
  rw [if_neg c4] at H
  exact absurd H (by simp)))
  ·(
  rw [if_neg c3] at H
  have c3b0 := decide_eq_false c3
  clear c3
  obtain rfl := Option.some.inj H
  go_wp2
  go_ret
  exact ⟨ZE, ZB⟩))

/-! ### impl_Label_39: function 39 -/
def impl_Label_39.f (k : Nat) (l0 : List (S43))  : Option (Bool) := (impl_Label_59.f k l0).bind fun t179 => (some (decide (t179 ≥ 0)))
theorem impl_Label_39.calls (k : Nat) (A0 : Option Addr) (c0 : Nat) (l0 : List (S43))  (r : Bool) (w : World) (hr0 : Kd.C k43 w A0 l0.length l0) (hc0 : l0.length ≤ c0) (h : impl_Label_39.f k l0 = some r) :
  Calls Tryd.prog 39 #[.slice A0 l0.length c0, .func (.func 40) #[] #[]] w fun e w' => e = .returned (.bool r) ∧ Below w.heap.size w w' := by
 have HR0 := AM hr0
 have HC0 := AM hc0
 clear hr0 hc0
 have HB := AM (Below.refl w.heap.size w)
 have H := h
 unfold impl_Label_39.f at H
 clear h
 obtain ⟨t179, A3, H⟩ := ZOB H; try dsimp only at H
 obtain rfl := Option.some.inj H
 go_enter Tryd.func39, Tryd.ntmps39
 go_wp2_with (first | ((with_reducible refine gate_callee (f := 59) rfl ?_); refine ZGL (some 7) Tryd.func59 #[.slice A0 l0.length c0, .func (.func 40) #[] #[]] ?_; (with_reducible refine (impl_Label_59.calls k _ _ l0  t179 _ ?side1 HC0.out A3.out).mono ?_); (case side1 => exact ZQ HR0.out); rintro e w4 ⟨rfl, hb⟩; refine ZV1 ?_; replace HB := ZT HB hb; clear hb))
 go_ret
 exact ⟨ZE, ZB⟩

/-! ### impl_Prog_isVar: function 61 -/
def impl_Prog_isVar.f (l0_0 : List (S43)) (l0_1 : List (S71)) (a1 : Int) : Option (Bool) := (impl_in.f a1 0 (wrap64 ((l0_0.length : Int) - 1))).bind fun t181 => (some t181)
theorem impl_Prog_isVar.calls (A0_0 : Option Addr) (c0_0 : Nat) (l0_0 : List (S43)) (A0_1 : Option Addr) (c0_1 : Nat) (l0_1 : List (S71)) (a1 : Int) (r : Bool) (w : World) (hr0_0 : Kd.C k43 w A0_0 l0_0.length l0_0) (hc0_0 : l0_0.length ≤ c0_0) (hr0_1 : Kd.C k71 w A0_1 l0_1.length l0_1) (hc0_1 : l0_1.length ≤ c0_1) (h : impl_Prog_isVar.f l0_0 l0_1 a1 = some r) :
  Calls Tryd.prog 61 #[.agg #[.slice A0_0 l0_0.length c0_0, .slice A0_1 l0_1.length c0_1], .int .i64 a1] w fun e w' => e = .returned (.bool r) ∧ Below w.heap.size w w' := by
 have hu31 := Tryd.underlying31
 have HR0_0 := AM hr0_0
 have HC0_0 := AM hc0_0
 clear hr0_0 hc0_0
 have HR0_1 := AM hr0_1
 have HC0_1 := AM hc0_1
 clear hr0_1 hc0_1
 have HB := AM (Below.refl w.heap.size w)
 have H := h
 unfold impl_Prog_isVar.f at H
 clear h
 obtain ⟨t181, A3, H⟩ := ZOB H; try dsimp only at H
 obtain rfl := Option.some.inj H
 go_enter Tryd.func61, Tryd.ntmps61
 go_wp2_with (first | ((with_reducible refine gate_dst (N := 2) rfl ?_); refine ZXW w (N := 2) (cs := #[.slice A0_0 l0_0.length c0_0, .slice A0_1 l0_1.length c0_1]) (t := 31) ?_; intro gb180 hg w4 BK180 GW180 hb; replace HB := ZT HB hb; clear hb hg; have hcz5 := ZC2 w4 BK180) | ((with_reducible refine gate_callee (f := 77) rfl ?_); refine ZGL (some 10) Tryd.func77 #[.int .i64 a1, .int .i64 0, .int .i64 (wrap64 ((l0_0.length : Int) - 1))] ?_; (with_reducible refine (impl_in.calls a1 0 (wrap64 ((l0_0.length : Int) - 1)) t181 _ A3.out).mono ?_); rintro e w' ⟨rfl, ⟨nd, rfl⟩⟩; refine ZV1 ?_))
 go_ret
 exact ⟨ZE, ZB⟩

/-! ### impl_isNum: function 78 -/
def impl_isNum.f (a0 : Int) : Option (Bool) := (impl_in.f a0 0 9).bind fun t182 => (some t182)
theorem impl_isNum.calls (a0 : Int) (r : Bool) (w : World) (h : impl_isNum.f a0 = some r) :
  Calls Tryd.prog 78 #[.int .i64 a0] w fun e w' => e = .returned (.bool r) ∧ Drawn0 w w' := by
 have H := h
 unfold impl_isNum.f at H
 clear h
 obtain ⟨t182, A2, H⟩ := ZOB H; try dsimp only at H
 obtain rfl := Option.some.inj H
 go_enter Tryd.func78, Tryd.ntmps78
 go_wp2_with (first | ((with_reducible refine gate_callee (f := 77) rfl ?_); refine ZGL (some 4) Tryd.func77 #[.int .i64 a0, .int .i64 0, .int .i64 9] ?_; (with_reducible refine (impl_in.calls a0 0 9 t182 _ A2.out).mono ?_); rintro e w' ⟨rfl, ⟨nd, rfl⟩⟩; refine ZV1 ?_))
 go_ret
 exact ⟨by first | rfl | (simp; done) | (simp [*]; done), by repeat (first | exact Drawn0.refl _ | apply Drawn0.step)⟩

/-! ### impl_Prog_valOk: function 62 -/
def impl_Prog_valOk.f (l0_0 : List (S43)) (l0_1 : List (S71)) (a1_0 : Int) (a1_1 : Int) (a1_2 : Int) : Option (Bool) := if a1_0 = 1 then ((impl_isNum.f a1_1).bind fun t185 => (if t185 = true then (some (a1_2 == 0)) else (some false))) else (if a1_0 = 2 then ((impl_Prog_isVar.f l0_0 l0_1 a1_1).bind fun t186 => (if t186 = true then (some (a1_2 == 0)) else (some false))) else (if a1_0 = 3 then ((impl_Prog_isVar.f l0_0 l0_1 a1_1).bind fun t187 => (if t187 = true then ((impl_Prog_isVar.f l0_0 l0_1 a1_2).bind fun t188 => (some t188)) else (some false))) else (if a1_0 = 4 then ((impl_Prog_isVar.f l0_0 l0_1 a1_1).bind fun t189 => (if t189 = true then ((impl_Prog_isVar.f l0_0 l0_1 a1_2).bind fun t190 => (some t190)) else (some false))) else (some false))))
theorem impl_Prog_valOk.calls (A0_0 : Option Addr) (c0_0 : Nat) (l0_0 : List (S43)) (A0_1 : Option Addr) (c0_1 : Nat) (l0_1 : List (S71)) (a1_0 : Int) (a1_1 : Int) (a1_2 : Int) (r : Bool) (w : World) (hr0_0 : Kd.C k43 w A0_0 l0_0.length l0_0) (hc0_0 : l0_0.length ≤ c0_0) (hr0_1 : Kd.C k71 w A0_1 l0_1.length l0_1) (hc0_1 : l0_1.length ≤ c0_1) (h : impl_Prog_valOk.f l0_0 l0_1 a1_0 a1_1 a1_2 = some r) :
  Calls Tryd.prog 62 #[.agg #[.slice A0_0 l0_0.length c0_0, .slice A0_1 l0_1.length c0_1], .agg #[.int .i64 a1_0, .int .i64 a1_1, .int .i64 a1_2]] w fun e w' => e = .returned (.bool r) ∧ Below w.heap.size w w' := by
 have hu31 := Tryd.underlying31
 have hu69 := Tryd.underlying69
 have HR0_0 := AM hr0_0
 have HC0_0 := AM hc0_0
 clear hr0_0 hc0_0
 have HR0_1 := AM hr0_1
 have HC0_1 := AM hc0_1
 clear hr0_1 hc0_1
 have HB := AM (Below.refl w.heap.size w)
 have H := h
 unfold impl_Prog_valOk.f at H
 clear h
 by_cases c3 : a1_0 = 1
 ·(
 rw [if_pos c3] at H
 have c3b0 := beq_iff_eq.mpr c3
 have c3b1 := bne_eq_false_iff_eq.mpr c3
 clear c3
 obtain ⟨t185, A4, H⟩ := ZOB H; try dsimp only at H
 by_cases c5 : t185 = true
 ·(
 subst c5
 have H1 := H; rw [if_pos rfl] at H1
 clear H
 have H := H1
 clear H1
 obtain rfl := Option.some.inj H
 go_enter Tryd.func62, Tryd.ntmps62
 go_wp2_with (first | ((with_reducible refine gate_dst (N := 2) rfl ?_); refine ZXW w (N := 2) (cs := #[.slice A0_0 l0_0.length c0_0, .slice A0_1 l0_1.length c0_1]) (t := 31) ?_; intro gb183 hg w6 BK183 GW183 hb; replace HB := ZT HB hb; clear hb hg) | ((with_reducible refine gate_dst (N := 3) rfl ?_); refine ZXW w (N := 3) (cs := #[.int .i64 a1_0, .int .i64 a1_1, .int .i64 a1_2]) (t := 69) ?_; intro gb184 hg w7 BK184 GW184 hb; have NB183_184 : Za (gb183 ≠ gb184) := ZN hg BK183; have NB184_183 : Za (gb184 ≠ gb183) := ZM hg BK183; replace BK183 := ZW BK183 hb; replace HB := ZT HB hb; clear hb hg; have hnb8 := NB184_183.out; have hnc8 := NB183_184.out; have hcz9 := ZC3 w7 BK184) | ((with_reducible refine gate_callee (f := 78) rfl ?_); refine ZGL (some 11) Tryd.func78 #[.int .i64 a1_1] ?_; (with_reducible refine (impl_isNum.calls a1_1 true _ A4.out).mono ?_); rintro e w' ⟨rfl, ⟨nd, rfl⟩⟩; refine ZV1 ?_))
 go_ret
 exact ⟨ZE, ZB⟩)
 ·(
 replace c5 := Bool.eq_false_iff.mpr c5
 subst c5
 have H1 := H; rw [if_neg ZFT] at H1
 clear H
 have H := H1
 clear H1
 obtain rfl := Option.some.inj H
 go_enter Tryd.func62, Tryd.ntmps62
 go_wp2_with (first | ((with_reducible refine gate_dst (N := 2) rfl ?_); refine ZXW w (N := 2) (cs := #[.slice A0_0 l0_0.length c0_0, .slice A0_1 l0_1.length c0_1]) (t := 31) ?_; intro gb183 hg w10 BK183 GW183 hb; replace HB := ZT HB hb; clear hb hg) | ((with_reducible refine gate_dst (N := 3) rfl ?_); refine ZXW w (N := 3) (cs := #[.int .i64 a1_0, .int .i64 a1_1, .int .i64 a1_2]) (t := 69) ?_; intro gb184 hg w11 BK184 GW184 hb; have NB183_184 : Za (gb183 ≠ gb184) := ZN hg BK183; have NB184_183 : Za (gb184 ≠ gb183) := ZM hg BK183; replace BK183 := ZW BK183 hb; replace HB := ZT HB hb; clear hb hg; have hnb12 := NB184_183.out; have hnc12 := NB183_184.out; have hcz13 := ZC3 w11 BK184) | ((with_reducible refine gate_callee (f := 78) rfl ?_); refine ZGL (some 11) Tryd.func78 #[.int .i64 a1_1] ?_; (with_reducible refine (impl_isNum.calls a1_1 false _ A4.out).mono ?_); rintro e w' ⟨rfl, ⟨nd, rfl⟩⟩; refine ZV1 ?_))
 go_ret
 exact ⟨ZE, ZB⟩))
 ·(
 rw [if_neg c3] at H
 have c3b0 := beq_eq_false_iff_ne.mpr c3
 have c3b1 := bne_iff_ne.mpr c3
 by_cases c14 : a1_0 = 2
 ·(
 rw [if_pos c14] at H
 have c14b0 := beq_iff_eq.mpr c14
 have c14b1 := bne_eq_false_iff_eq.mpr c14
 clear c14
 obtain ⟨t186, A15, H⟩ := ZOB H; try dsimp only at H
 by_cases c16 : t186 = true
 ·(
 subst c16
 have H1 := H; rw [if_pos rfl] at H1
 clear H
 have H := H1
 clear H1
 obtain rfl := Option.some.inj H
 go_enter Tryd.func62, Tryd.ntmps62
 go_wp2_with (first | ((with_reducible refine gate_dst (N := 2) rfl ?_); refine ZXW w (N := 2) (cs := #[.slice A0_0 l0_0.length c0_0, .slice A0_1 l0_1.length c0_1]) (t := 31) ?_; intro gb183 hg w17 BK183 GW183 hb; replace HB := ZT HB hb; clear hb hg) | ((with_reducible refine gate_dst (N := 3) rfl ?_); refine ZXW w (N := 3) (cs := #[.int .i64 a1_0, .int .i64 a1_1, .int .i64 a1_2]) (t := 69) ?_; intro gb184 hg w18 BK184 GW184 hb; have NB183_184 : Za (gb183 ≠ gb184) := ZN hg BK183; have NB184_183 : Za (gb184 ≠ gb183) := ZM hg BK183; replace BK183 := ZW BK183 hb; replace HB := ZT HB hb; clear hb hg; have hnb19 := NB184_183.out; have hnc19 := NB183_184.out; have hcz20 := ZC3 w18 BK184; have hcz21 := ZC2 w18 BK183) | ((with_reducible refine gate_callee (f := 61) rfl ?_); refine ZGL (some 22) Tryd.func61 #[.agg #[.slice A0_0 l0_0.length c0_0, .slice A0_1 l0_1.length c0_1], .int .i64 a1_1] ?_; (with_reducible refine (impl_Prog_isVar.calls _ _ l0_0 _ _ l0_1 a1_1 true _ (ZQ (Kd.C_below HR0_0.out HB.out)) HC0_0.out (ZQ (Kd.C_below HR0_1.out HB.out)) HC0_1.out A15.out).mono ?_); rintro e w22 ⟨rfl, hb⟩; refine ZV1 ?_; replace BK183 := ZW BK183 hb; replace BK184 := ZW BK184 hb; replace HB := ZT HB hb; clear hb; have hcz23 := ZC3 w22 BK184))
 go_ret
 exact ⟨ZE, ZB⟩)
 ·(
 replace c16 := Bool.eq_false_iff.mpr c16
 subst c16
 have H1 := H; rw [if_neg ZFT] at H1
 clear H
 have H := H1
 clear H1
 obtain rfl := Option.some.inj H
 go_enter Tryd.func62, Tryd.ntmps62
 go_wp2_with (first | ((with_reducible refine gate_dst (N := 2) rfl ?_); refine ZXW w (N := 2) (cs := #[.slice A0_0 l0_0.length c0_0, .slice A0_1 l0_1.length c0_1]) (t := 31) ?_; intro gb183 hg w24 BK183 GW183 hb; replace HB := ZT HB hb; clear hb hg) | ((with_reducible refine gate_dst (N := 3) rfl ?_); refine ZXW w (N := 3) (cs := #[.int .i64 a1_0, .int .i64 a1_1, .int .i64 a1_2]) (t := 69) ?_; intro gb184 hg w25 BK184 GW184 hb; have NB183_184 : Za (gb183 ≠ gb184) := ZN hg BK183; have NB184_183 : Za (gb184 ≠ gb183) := ZM hg BK183; replace BK183 := ZW BK183 hb; replace HB := ZT HB hb; clear hb hg; have hnb26 := NB184_183.out; have hnc26 := NB183_184.out; have hcz27 := ZC3 w25 BK184; have hcz28 := ZC2 w25 BK183) | ((with_reducible refine gate_callee (f := 61) rfl ?_); refine ZGL (some 22) Tryd.func61 #[.agg #[.slice A0_0 l0_0.length c0_0, .slice A0_1 l0_1.length c0_1], .int .i64 a1_1] ?_; (with_reducible refine (impl_Prog_isVar.calls _ _ l0_0 _ _ l0_1 a1_1 false _ (ZQ (Kd.C_below HR0_0.out HB.out)) HC0_0.out (ZQ (Kd.C_below HR0_1.out HB.out)) HC0_1.out A15.out).mono ?_); rintro e w29 ⟨rfl, hb⟩; refine ZV1 ?_; replace BK183 := ZW BK183 hb; replace BK184 := ZW BK184 hb; replace HB := ZT HB hb; clear hb))
 go_ret
 exact ⟨ZE, ZB⟩))
 ·(
 rw [if_neg c14] at H
 have c14b0 := beq_eq_false_iff_ne.mpr c14
 have c14b1 := bne_iff_ne.mpr c14
 by_cases c30 : a1_0 = 3
 ·(
 rw [if_pos c30] at H
 have c30b0 := beq_iff_eq.mpr c30
 have c30b1 := bne_eq_false_iff_eq.mpr c30
 clear c30
 obtain ⟨t187, A31, H⟩ := ZOB H; try dsimp only at H
 by_cases c32 : t187 = true
 ·(
 subst c32
 have H1 := H; rw [if_pos rfl] at H1
 clear H
 have H := H1
 clear H1
 obtain ⟨t188, A33, H⟩ := ZOB H; try dsimp only at H
 obtain rfl := Option.some.inj H
 go_enter Tryd.func62, Tryd.ntmps62
 go_wp2_with (first | ((with_reducible refine gate_dst (N := 2) rfl ?_); refine ZXW w (N := 2) (cs := #[.slice A0_0 l0_0.length c0_0, .slice A0_1 l0_1.length c0_1]) (t := 31) ?_; intro gb183 hg w34 BK183 GW183 hb; replace HB := ZT HB hb; clear hb hg) | ((with_reducible refine gate_dst (N := 3) rfl ?_); refine ZXW w (N := 3) (cs := #[.int .i64 a1_0, .int .i64 a1_1, .int .i64 a1_2]) (t := 69) ?_; intro gb184 hg w35 BK184 GW184 hb; have NB183_184 : Za (gb183 ≠ gb184) := ZN hg BK183; have NB184_183 : Za (gb184 ≠ gb183) := ZM hg BK183; replace BK183 := ZW BK183 hb; replace HB := ZT HB hb; clear hb hg; have hnb36 := NB184_183.out; have hnc36 := NB183_184.out; have hcz37 := ZC3 w35 BK184; have hcz38 := ZC2 w35 BK183) | (go_at_call 61; (with_reducible refine (impl_Prog_isVar.calls _ _ l0_0 _ _ l0_1 a1_1 true _ (ZQ (Kd.C_below HR0_0.out HB.out)) HC0_0.out (ZQ (Kd.C_below HR0_1.out HB.out)) HC0_1.out A31.out).mono ?_); rintro e w39 ⟨rfl, hb⟩; replace BK183 := ZW BK183 hb; replace BK184 := ZW BK184 hb; replace HB := ZT HB hb; clear hb; have hcz40 := ZC2 w39 BK183; have hcz41 := ZC3 w39 BK184) | (go_at_call 61; (with_reducible refine (impl_Prog_isVar.calls _ _ l0_0 _ _ l0_1 a1_2 t188 _ (ZQ (Kd.C_below HR0_0.out HB.out)) HC0_0.out (ZQ (Kd.C_below HR0_1.out HB.out)) HC0_1.out A33.out).mono ?_); rintro e w42 ⟨rfl, hb⟩; replace BK183 := ZW BK183 hb; replace BK184 := ZW BK184 hb; replace HB := ZT HB hb; clear hb))
 go_ret
 exact ⟨ZE, ZB⟩)
 ·(
 replace c32 := Bool.eq_false_iff.mpr c32
 subst c32
 have H1 := H; rw [if_neg ZFT] at H1
 clear H
 have H := H1
 clear H1
 obtain rfl := Option.some.inj H
 go_enter Tryd.func62, Tryd.ntmps62
 go_wp2_with (first | ((with_reducible refine gate_dst (N := 2) rfl ?_); refine ZXW w (N := 2) (cs := #[.slice A0_0 l0_0.length c0_0, .slice A0_1 l0_1.length c0_1]) (t := 31) ?_; intro gb183 hg w43 BK183 GW183 hb; replace HB := ZT HB hb; clear hb hg) | ((with_reducible refine gate_dst (N := 3) rfl ?_); refine ZXW w (N := 3) (cs := #[.int .i64 a1_0, .int .i64 a1_1, .int .i64 a1_2]) (t := 69) ?_; intro gb184 hg w44 BK184 GW184 hb; have NB183_184 : Za (gb183 ≠ gb184) := ZN hg BK183; have NB184_183 : Za (gb184 ≠ gb183) := ZM hg BK183; replace BK183 := ZW BK183 hb; replace HB := ZT HB hb; clear hb hg; have hnb45 := NB184_183.out; have hnc45 := NB183_184.out; have hcz46 := ZC3 w44 BK184; have hcz47 := ZC2 w44 BK183) | (go_at_call 61; (with_reducible refine (impl_Prog_isVar.calls _ _ l0_0 _ _ l0_1 a1_1 false _ (ZQ (Kd.C_below HR0_0.out HB.out)) HC0_0.out (ZQ (Kd.C_below HR0_1.out HB.out)) HC0_1.out A31.out).mono ?_); rintro e w48 ⟨rfl, hb⟩; replace BK183 := ZW BK183 hb; replace BK184 := ZW BK184 hb; replace HB := ZT HB hb; clear hb))
 go_ret
 exact ⟨ZE, ZB⟩))
 ·(
 rw [if_neg c30] at H
 have c30b0 := beq_eq_false_iff_ne.mpr c30
 have c30b1 := bne_iff_ne.mpr c30
 by_cases c49 : a1_0 = 4
 ·(
 rw [if_pos c49] at H
 have c49b0 := beq_iff_eq.mpr c49
 have c49b1 := bne_eq_false_iff_eq.mpr c49
 clear c49
 obtain ⟨t189, A50, H⟩ := ZOB H; try dsimp only at H
 by_cases c51 : t189 = true
 ·(
 subst c51
 have H1 := H; rw [if_pos rfl] at H1
 clear H
 have H := H1
 clear H1
 obtain ⟨t190, A52, H⟩ := ZOB H; try dsimp only at H
 obtain rfl := Option.some.inj H
 go_enter Tryd.func62, Tryd.ntmps62
 go_wp2_with (first | ((with_reducible refine gate_dst (N := 2) rfl ?_); refine ZXW w (N := 2) (cs := #[.slice A0_0 l0_0.length c0_0, .slice A0_1 l0_1.length c0_1]) (t := 31) ?_; intro gb183 hg w53 BK183 GW183 hb; replace HB := ZT HB hb; clear hb hg) | ((with_reducible refine gate_dst (N := 3) rfl ?_); refine ZXW w (N := 3) (cs := #[.int .i64 a1_0, .int .i64 a1_1, .int .i64 a1_2]) (t := 69) ?_; intro gb184 hg w54 BK184 GW184 hb; have NB183_184 : Za (gb183 ≠ gb184) := ZN hg BK183; have NB184_183 : Za (gb184 ≠ gb183) := ZM hg BK183; replace BK183 := ZW BK183 hb; replace HB := ZT HB hb; clear hb hg; have hnb55 := NB184_183.out; have hnc55 := NB183_184.out; have hcz56 := ZC3 w54 BK184; have hcz57 := ZC2 w54 BK183) | (go_at_call 61; (with_reducible refine (impl_Prog_isVar.calls _ _ l0_0 _ _ l0_1 a1_1 true _ (ZQ (Kd.C_below HR0_0.out HB.out)) HC0_0.out (ZQ (Kd.C_below HR0_1.out HB.out)) HC0_1.out A50.out).mono ?_); rintro e w58 ⟨rfl, hb⟩; replace BK183 := ZW BK183 hb; replace BK184 := ZW BK184 hb; replace HB := ZT HB hb; clear hb; have hcz59 := ZC2 w58 BK183; have hcz60 := ZC3 w58 BK184) | (go_at_call 61; (with_reducible refine (impl_Prog_isVar.calls _ _ l0_0 _ _ l0_1 a1_2 t190 _ (ZQ (Kd.C_below HR0_0.out HB.out)) HC0_0.out (ZQ (Kd.C_below HR0_1.out HB.out)) HC0_1.out A52.out).mono ?_); rintro e w61 ⟨rfl, hb⟩; replace BK183 := ZW BK183 hb; replace BK184 := ZW BK184 hb; replace HB := ZT HB hb; clear hb))
 go_ret
 exact ⟨ZE, ZB⟩)
 ·(
 replace c51 := Bool.eq_false_iff.mpr c51
 subst c51
 have H1 := H; rw [if_neg ZFT] at H1
 clear H
 have H := H1
 clear H1
 obtain rfl := Option.some.inj H
 go_enter Tryd.func62, Tryd.ntmps62
 go_wp2_with (first | ((with_reducible refine gate_dst (N := 2) rfl ?_); refine ZXW w (N := 2) (cs := #[.slice A0_0 l0_0.length c0_0, .slice A0_1 l0_1.length c0_1]) (t := 31) ?_; intro gb183 hg w62 BK183 GW183 hb; replace HB := ZT HB hb; clear hb hg) | ((with_reducible refine gate_dst (N := 3) rfl ?_); refine ZXW w (N := 3) (cs := #[.int .i64 a1_0, .int .i64 a1_1, .int .i64 a1_2]) (t := 69) ?_; intro gb184 hg w63 BK184 GW184 hb; have NB183_184 : Za (gb183 ≠ gb184) := ZN hg BK183; have NB184_183 : Za (gb184 ≠ gb183) := ZM hg BK183; replace BK183 := ZW BK183 hb; replace HB := ZT HB hb; clear hb hg; have hnb64 := NB184_183.out; have hnc64 := NB183_184.out; have hcz65 := ZC3 w63 BK184; have hcz66 := ZC2 w63 BK183) | (go_at_call 61; (with_reducible refine (impl_Prog_isVar.calls _ _ l0_0 _ _ l0_1 a1_1 false _ (ZQ (Kd.C_below HR0_0.out HB.out)) HC0_0.out (ZQ (Kd.C_below HR0_1.out HB.out)) HC0_1.out A50.out).mono ?_); rintro e w67 ⟨rfl, hb⟩; replace BK183 := ZW BK183 hb; replace BK184 := ZW BK184 hb; replace HB := ZT HB hb; clear hb))
 go_ret
 exact ⟨ZE, ZB⟩))
 ·(
 rw [if_neg c49] at H
 have c49b0 := beq_eq_false_iff_ne.mpr c49
 have c49b1 := bne_iff_ne.mpr c49
 obtain rfl := Option.some.inj H
 go_enter Tryd.func62, Tryd.ntmps62
 go_wp2_with (first | ((with_reducible refine gate_dst (N := 2) rfl ?_); refine ZXW w (N := 2) (cs := #[.slice A0_0 l0_0.length c0_0, .slice A0_1 l0_1.length c0_1]) (t := 31) ?_; intro gb183 hg w68 BK183 GW183 hb; replace HB := ZT HB hb; clear hb hg) | ((with_reducible refine gate_dst (N := 3) rfl ?_); refine ZXW w (N := 3) (cs := #[.int .i64 a1_0, .int .i64 a1_1, .int .i64 a1_2]) (t := 69) ?_; intro gb184 hg w69 BK184 GW184 hb; have NB183_184 : Za (gb183 ≠ gb184) := ZN hg BK183; have NB184_183 : Za (gb184 ≠ gb183) := ZM hg BK183; replace BK183 := ZW BK183 hb; replace HB := ZT HB hb; clear hb hg; have hnb70 := NB184_183.out; have hnc70 := NB183_184.out; have hcz71 := ZC3 w69 BK184))
 go_ret
 exact ⟨ZE, ZB⟩))))

/-! ### impl_isHost: function 63 -/
def impl_isHost.f (a0 : Int) : Option (Bool) := (impl_in.f a0 0 2).bind fun t191 => (some t191)
theorem impl_isHost.calls (a0 : Int) (r : Bool) (w : World) (h : impl_isHost.f a0 = some r) :
  Calls Tryd.prog 63 #[.int .i64 a0] w fun e w' => e = .returned (.bool r) ∧ Drawn0 w w' := by
 have H := h
 unfold impl_isHost.f at H
 clear h
 obtain ⟨t191, A2, H⟩ := ZOB H; try dsimp only at H
 obtain rfl := Option.some.inj H
 go_enter Tryd.func63, Tryd.ntmps63
 go_wp2_with (first | ((with_reducible refine gate_callee (f := 77) rfl ?_); refine ZGL (some 4) Tryd.func77 #[.int .i64 a0, .int .i64 0, .int .i64 2] ?_; (with_reducible refine (impl_in.calls a0 0 2 t191 _ A2.out).mono ?_); rintro e w' ⟨rfl, ⟨nd, rfl⟩⟩; refine ZV1 ?_))
 go_ret
 exact ⟨by first | rfl | (simp; done) | (simp [*]; done), by repeat (first | exact Drawn0.refl _ | apply Drawn0.step)⟩

end Go.Proofs.YtfcmckomagaiiaaDoor.A
