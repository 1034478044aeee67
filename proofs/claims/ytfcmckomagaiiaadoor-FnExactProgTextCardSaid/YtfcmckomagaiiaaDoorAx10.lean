/- Go functions as Lean functions, and for each its contract; written by wip/tools/pr.py over the kit's print. -/
import Derived.Test.YtfcmckomagaiiaaDoorAx0
import Derived.Test.YtfcmckomagaiiaaDoorAx9
namespace Go.Proofs.YtfcmckomagaiiaaDoor.A
open Go.RowKit Go.Proofs.YtfcmckomagaiiaaDoorW.PrintWords Go.Proofs.YtfcmckomagaiiaaDoorW.PrintLast Go.Proofs.YtfcmckomagaiiaaDoorW.PrintMore
attribute [local go_sem] max2_int min2_int max_two min_two max_three min_three max_four min_four
set_option linter.unusedVariables false
set_option linter.unusedSimpArgs false
set_option maxHeartbeats 8000000
set_option maxRecDepth 100000

/-! ### impl_ProgOk_1: function 40 -/
def impl_ProgOk_1.f (a0_0 : Int) (a0_1 : Int) : Option (Bool) := (impl_LabelOk.f a0_0 a0_1).bind fun t235 => (some (!t235))
theorem impl_ProgOk_1.calls (a0_0 : Int) (a0_1 : Int) (r : Bool) (w : World) (h : impl_ProgOk_1.f a0_0 a0_1 = some r) :
  Calls Tryd.prog 40 #[.agg #[.int .i64 a0_0, .int .i64 a0_1]] w fun e w' => e = .returned (.bool r) ∧ Below w.heap.size w w' := by
 have hu43 := Tryd.underlying43
 have HB := AM (Below.refl w.heap.size w)
 have H := h
 unfold impl_ProgOk_1.f at H
 clear h
 obtain ⟨t235, A2, H⟩ := ZOB H; try dsimp only at H
 obtain rfl := Option.some.inj H
 go_enter Tryd.func40, Tryd.ntmps40
 go_wp2_with (first | ((with_reducible refine gate_dst (N := 1) rfl ?_); refine ZX (N := 1) (cs := #[.int .i64 a0_0, .int .i64 a0_1]) (t := 43) ?_; intro gb234 hg w3 hbox hb; have BK234 := AM (hbox); have GW234 : Aside0 (w.heap.size ≤ gb234) := ZS hg; have GE234 : Aside0 (w.heap.size ≤ gb234) := ZS hg; replace HB := ZT HB hb; clear hb hbox hg; have hcz4 := ZC2 w3 BK234; have hfz4 := ZF2 BK234) | ((with_reducible refine gate_callee (f := 41) rfl ?_); refine ZGL (some 4) Tryd.func41 #[.agg #[.int .i64 a0_0, .int .i64 a0_1]] ?_; (with_reducible refine (impl_LabelOk.calls a0_0 a0_1 t235 _ A2.out).mono ?_); rintro e w5 ⟨rfl, hb⟩; refine ⟨_, rfl, ?_⟩; replace BK234 := ZW BK234 hb; replace HB := ZT HB hb; clear hb))
 go_ret
 exact ⟨ZE, ZB⟩

/-! ### impl_Label_59: function 59 -/
def impl_Label_59.l0 : Nat → List (S43) → Int → Int → Option (Int)
 | 0, _, _, _ => none
 | k + 1, x0, x7, x8 => if x8 < x7 then (if 0 ≤ x8 then (if x8 < (x0.length : Int) then ((impl_ProgOk_1.f ((rd_T43 x0 x8).f0) ((rd_T43 x0 x8).f1)).bind fun t237 => (if t237 = true then (some x8) else (impl_Label_59.l0 k x0 x7 (wrap64 (x8 + 1))))) else (none)) else (none)) else (some (-1))
def impl_Label_59.f (k : Nat) (l0 : List (S43))  : Option (Int) := impl_Label_59.l0 k l0 (l0.length : Int) 0
theorem impl_Label_59.calls (k : Nat) (A0 : Option Addr) (c0 : Nat) (l0 : List (S43))  (r : Int) (w : World) (hr0 : Kd.C k43 w A0 l0.length l0) (hc0 : l0.length ≤ c0) (h : impl_Label_59.f k l0 = some r) :
  Calls Tryd.prog 59 #[.slice A0 l0.length c0, .func (.func 40) #[] #[]] w fun e w' => e = .returned (.int .i64 r) ∧ Below w.heap.size w w' := by
 have hu43 := Tryd.underlying43
 have HR0 := AM hr0
 have HC0 := AM hc0
 clear hr0 hc0
 have HB := AM (Below.refl w.heap.size w)
 have H := h
 unfold impl_Label_59.f at H
 clear h
 have H' := AM H
 clear H
 go_enter Tryd.func59, Tryd.ntmps59
 go_wp2
 go_loopg [8] k (fun kq v8 w' => ∃ (x8_1 : Int), v8 = .int .i64 x8_1 ∧ Aside0 (impl_Label_59.l0 kq l0 (l0.length : Int) x8_1 = some r) ∧ Aside0 (kq ≤ k) ∧ Aside0 (Below w.heap.size w w'))
 case atStart => exact ⟨(0), (by first | rfl | (simp; done) | (simp [*]; done)), H', ⟨Nat.le_refl _⟩, ⟨ZB⟩⟩
 case round => (
 clear H'
 try clear p2
 obtain ⟨x8_1, rfl, HA, HK1, HB⟩ := hrel
 cases gk with
 | zero => exact absurd HA.out (by simp [impl_Label_59.l0])
 | succ k1 =>
  have H := HA.out
  clear HA
  simp only [impl_Label_59.l0] at H
  by_cases c3 : x8_1 < (l0.length : Int)
  ·(
  rw [if_pos c3] at H
  have c3b0 := decide_eq_true c3
  clear c3
  by_cases c4 : 0 ≤ x8_1
  ·(
  rw [if_pos c4] at H
  have c4b0 := decide_eq_true c4
  clear c4
  by_cases c5 : x8_1 < (l0.length : Int)
  ·(
  rw [if_pos c5] at H
  have c5b0 := decide_eq_true c5
  clear c5
  obtain ⟨t237, A6, H⟩ := ZOB H; try dsimp only at H
  by_cases c7 : t237 = true
  ·(
  subst c7
  have H1 := H; rw [if_pos rfl] at H1
  clear H
  have H := H1
  clear H1
  obtain rfl := Option.some.inj H
  have p236 : 0 ≤ (x8_1 : Int) := ZD
  have q236 : x8_1 < (l0.length : Int) := ZD
  obtain ⟨ad236, e236, hx236_0, hx236_1⟩ := at_T43 HR0.out x8_1 p236 q236
  cases e236
  replace hx236_0 := ZHX HB hx236_0
  replace hx236_1 := ZHX HB hx236_1
  replace p236 := eq_true p236
  replace q236 := eq_true q236
  go_wp2_with (first | ((with_reducible refine gate_calleev ⟨_, _, _, rfl⟩ ?_); refine goesLv_ (some 16) rfl rfl Tryd.func40 (by kernel_rfl) rfl #[.agg #[.int .i64 ((rd_T43 l0 x8_1).f0), .int .i64 ((rd_T43 l0 x8_1).f1)]] ⟨_, _, rfl, rfl⟩ ZG ?_; (with_reducible refine (impl_ProgOk_1.calls ((rd_T43 l0 x8_1).f0) ((rd_T43 l0 x8_1).f1) true _ A6.out).mono ?_); rintro e w8 ⟨rfl, hb⟩; refine ⟨_, rfl, ?_⟩; replace HB := ZT HB hb; clear hb))
  go_ret
  exact ⟨ZE, ZB⟩)
  ·(
  replace c7 := Bool.eq_false_iff.mpr c7
  subst c7
  have H1 := H; rw [if_neg ZFT] at H1
  clear H
  have H := H1
  clear H1
  have H' := AM H
  clear H
  have p236 : 0 ≤ (x8_1 : Int) := ZD
  have q236 : x8_1 < (l0.length : Int) := ZD
  obtain ⟨ad236, e236, hx236_0, hx236_1⟩ := at_T43 HR0.out x8_1 p236 q236
  cases e236
  replace hx236_0 := ZHX HB hx236_0
  replace hx236_1 := ZHX HB hx236_1
  replace p236 := eq_true p236
  replace q236 := eq_true q236
  go_wp2_with (first | ((with_reducible refine gate_calleev ⟨_, _, _, rfl⟩ ?_); refine goesLv_ (some 16) rfl rfl Tryd.func40 (by kernel_rfl) rfl #[.agg #[.int .i64 ((rd_T43 l0 x8_1).f0), .int .i64 ((rd_T43 l0 x8_1).f1)]] ⟨_, _, rfl, rfl⟩ ZG ?_; (with_reducible refine (impl_ProgOk_1.calls ((rd_T43 l0 x8_1).f0) ((rd_T43 l0 x8_1).f1) false _ A6.out).mono ?_); rintro e w9 ⟨rfl, hb⟩; refine ⟨_, rfl, ?_⟩; replace HB := ZT HB hb; clear hb))
  go_roundg k1
  case measure => have := HK1.out; omega
  case rel => exact ⟨(wrap64 (x8_1 + 1)), (by first | rfl | (simp; done) | (simp [*]; done)), H', ⟨by have := HK1.out; omega⟩, ⟨ZB⟩⟩))
  ·(
  rw [if_neg c5] at H
  exact absurd H (by simp)))
  ·(
  rw [if_neg c4] at H
  exact absurd H (by simp)))
  ·(
  rw [if_neg c3] at H
  have c3b0 := decide_eq_false c3
  clear c3
  obtain rfl := Option.some.inj H
  go_wp2
  go_ret
  exact ⟨ZE, ZB⟩))

/-! ### impl_Label_39: function 39 -/
def impl_Label_39.f (k : Nat) (l0 : List (S43))  : Option (Bool) := (impl_Label_59.f k l0).bind fun t238 => (some (decide (t238 ≥ 0)))
theorem impl_Label_39.calls (k : Nat) (A0 : Option Addr) (c0 : Nat) (l0 : List (S43))  (r : Bool) (w : World) (hr0 : Kd.C k43 w A0 l0.length l0) (hc0 : l0.length ≤ c0) (h : impl_Label_39.f k l0 = some r) :
  Calls Tryd.prog 39 #[.slice A0 l0.length c0, .func (.func 40) #[] #[]] w fun e w' => e = .returned (.bool r) ∧ Below w.heap.size w w' := by
 have HR0 := AM hr0
 have HC0 := AM hc0
 clear hr0 hc0
 have HB := AM (Below.refl w.heap.size w)
 have H := h
 unfold impl_Label_39.f at H
 clear h
 obtain ⟨t238, A3, H⟩ := ZOB H; try dsimp only at H
 obtain rfl := Option.some.inj H
 go_enter Tryd.func39, Tryd.ntmps39
 go_wp2_with (first | ((with_reducible refine gate_callee (f := 59) rfl ?_); refine ZGL (some 7) Tryd.func59 #[.slice A0 l0.length c0, .func (.func 40) #[] #[]] ?_; (with_reducible refine (impl_Label_59.calls k _ _ l0  t238 _ ?side1 ?side2 A3.out).mono ?_); (case side1 => exact ZQ HR0.out); (case side2 => exact HC0.out); rintro e w4 ⟨rfl, hb⟩; refine ⟨_, rfl, ?_⟩; replace HB := ZT HB hb; clear hb))
 go_ret
 exact ⟨ZE, ZB⟩

/-! ### impl_Prog_isVar: function 61 -/
def impl_Prog_isVar.f (l0_0 : List (S43)) (l0_1 : List (S71)) (a1 : Int) : Option (Bool) := (impl_in.f a1 0 (wrap64 ((l0_0.length : Int) - 1))).bind fun t240 => (some t240)
theorem impl_Prog_isVar.calls (A0_0 : Option Addr) (c0_0 : Nat) (l0_0 : List (S43)) (A0_1 : Option Addr) (c0_1 : Nat) (l0_1 : List (S71)) (a1 : Int) (r : Bool) (w : World) (hr0_0 : Kd.C k43 w A0_0 l0_0.length l0_0) (hc0_0 : l0_0.length ≤ c0_0) (hr0_1 : Kd.C k71 w A0_1 l0_1.length l0_1) (hc0_1 : l0_1.length ≤ c0_1) (h : impl_Prog_isVar.f l0_0 l0_1 a1 = some r) :
  Calls Tryd.prog 61 #[.agg #[.slice A0_0 l0_0.length c0_0, .slice A0_1 l0_1.length c0_1], .int .i64 a1] w fun e w' => e = .returned (.bool r) ∧ Below w.heap.size w w' := by
 have hu31 := Tryd.underlying31
 have HR0_0 := AM hr0_0
 have HC0_0 := AM hc0_0
 clear hr0_0 hc0_0
 have HR0_1 := AM hr0_1
 have HC0_1 := AM hc0_1
 clear hr0_1 hc0_1
 have HB := AM (Below.refl w.heap.size w)
 have H := h
 unfold impl_Prog_isVar.f at H
 clear h
 obtain ⟨t240, A3, H⟩ := ZOB H; try dsimp only at H
 obtain rfl := Option.some.inj H
 go_enter Tryd.func61, Tryd.ntmps61
 go_wp2_with (first | ((with_reducible refine gate_dst (N := 2) rfl ?_); refine ZX (N := 2) (cs := #[.slice A0_0 l0_0.length c0_0, .slice A0_1 l0_1.length c0_1]) (t := 31) ?_; intro gb239 hg w4 hbox hb; have BK239 := AM (hbox); have GW239 : Aside0 (w.heap.size ≤ gb239) := ZS hg; have GE239 : Aside0 (w.heap.size ≤ gb239) := ZS hg; replace HB := ZT HB hb; clear hb hbox hg; have hcz5 := ZC2 w4 BK239; have hfz5 := ZF2 BK239) | ((with_reducible refine gate_callee (f := 77) rfl ?_); refine ZGL (some 10) Tryd.func77 #[.int .i64 a1, .int .i64 0, .int .i64 (wrap64 ((l0_0.length : Int) - 1))] ?_; (with_reducible refine (impl_in.calls a1 0 (wrap64 ((l0_0.length : Int) - 1)) t240 _ A3.out).mono ?_); rintro e w' ⟨rfl, ⟨nd, rfl⟩⟩; refine ⟨_, rfl, ?_⟩))
 go_ret
 exact ⟨ZE, ZB⟩

/-! ### impl_isNum: function 78 -/
def impl_isNum.f (a0 : Int) : Option (Bool) := (impl_in.f a0 0 9).bind fun t241 => (some t241)
theorem impl_isNum.calls (a0 : Int) (r : Bool) (w : World) (h : impl_isNum.f a0 = some r) :
  Calls Tryd.prog 78 #[.int .i64 a0] w fun e w' => e = .returned (.bool r) ∧ Drawn0 w w' := by
 have H := h
 unfold impl_isNum.f at H
 clear h
 obtain ⟨t241, A2, H⟩ := ZOB H; try dsimp only at H
 obtain rfl := Option.some.inj H
 go_enter Tryd.func78, Tryd.ntmps78
 go_wp2_with (first | ((with_reducible refine gate_callee (f := 77) rfl ?_); refine ZGL (some 4) Tryd.func77 #[.int .i64 a0, .int .i64 0, .int .i64 9] ?_; (with_reducible refine (impl_in.calls a0 0 9 t241 _ A2.out).mono ?_); rintro e w' ⟨rfl, ⟨nd, rfl⟩⟩; refine ⟨_, rfl, ?_⟩))
 go_ret
 exact ⟨by first | rfl | (simp; done) | (simp [*]; done), by repeat (first | exact Drawn0.refl _ | apply Drawn0.step)⟩

/-! ### impl_Prog_valOk: function 62 -/
def impl_Prog_valOk.f (l0_0 : List (S43)) (l0_1 : List (S71)) (a1_0 : Int) (a1_1 : Int) (a1_2 : Int) : Option (Bool) := if a1_0 = 1 then ((impl_isNum.f a1_1).bind fun t244 => (if t244 = true then (some (a1_2 == 0)) else (some false))) else (if a1_0 = 2 then ((impl_Prog_isVar.f l0_0 l0_1 a1_1).bind fun t245 => (if t245 = true then (some (a1_2 == 0)) else (some false))) else (if a1_0 = 3 then ((impl_Prog_isVar.f l0_0 l0_1 a1_1).bind fun t246 => (if t246 = true then ((impl_Prog_isVar.f l0_0 l0_1 a1_2).bind fun t247 => (some t247)) else (some false))) else (if a1_0 = 4 then ((impl_Prog_isVar.f l0_0 l0_1 a1_1).bind fun t248 => (if t248 = true then ((impl_Prog_isVar.f l0_0 l0_1 a1_2).bind fun t249 => (some t249)) else (some false))) else (some false))))
theorem impl_Prog_valOk.calls (A0_0 : Option Addr) (c0_0 : Nat) (l0_0 : List (S43)) (A0_1 : Option Addr) (c0_1 : Nat) (l0_1 : List (S71)) (a1_0 : Int) (a1_1 : Int) (a1_2 : Int) (r : Bool) (w : World) (hr0_0 : Kd.C k43 w A0_0 l0_0.length l0_0) (hc0_0 : l0_0.length ≤ c0_0) (hr0_1 : Kd.C k71 w A0_1 l0_1.length l0_1) (hc0_1 : l0_1.length ≤ c0_1) (h : impl_Prog_valOk.f l0_0 l0_1 a1_0 a1_1 a1_2 = some r) :
  Calls Tryd.prog 62 #[.agg #[.slice A0_0 l0_0.length c0_0, .slice A0_1 l0_1.length c0_1], .agg #[.int .i64 a1_0, .int .i64 a1_1, .int .i64 a1_2]] w fun e w' => e = .returned (.bool r) ∧ Below w.heap.size w w' := by
 have hu31 := Tryd.underlying31
 have hu69 := Tryd.underlying69
 have HR0_0 := AM hr0_0
 have HC0_0 := AM hc0_0
 clear hr0_0 hc0_0
 have HR0_1 := AM hr0_1
 have HC0_1 := AM hc0_1
 clear hr0_1 hc0_1
 have HB := AM (Below.refl w.heap.size w)
 have H := h
 unfold impl_Prog_valOk.f at H
 clear h
 by_cases c3 : a1_0 = 1
 ·(
 rw [if_pos c3] at H
 have c3b0 := beq_iff_eq.mpr c3
 have c3b1 := bne_eq_false_iff_eq.mpr c3
 clear c3
 obtain ⟨t244, A4, H⟩ := ZOB H; try dsimp only at H
 by_cases c5 : t244 = true
 ·(
 subst c5
 have H1 := H; rw [if_pos rfl] at H1
 clear H
 have H := H1
 clear H1
 obtain rfl := Option.some.inj H
 go_enter Tryd.func62, Tryd.ntmps62
 go_wp2_with (first | ((with_reducible refine gate_dst (N := 2) rfl ?_); refine ZX (N := 2) (cs := #[.slice A0_0 l0_0.length c0_0, .slice A0_1 l0_1.length c0_1]) (t := 31) ?_; intro gb242 hg w6 hbox hb; have BK242 := AM (hbox); have GW242 : Aside0 (w.heap.size ≤ gb242) := ZS hg; have GE242 : Aside0 (w.heap.size ≤ gb242) := ZS hg; replace HB := ZT HB hb; clear hb hbox hg) | ((with_reducible refine gate_dst (N := 3) rfl ?_); refine ZX (N := 3) (cs := #[.int .i64 a1_0, .int .i64 a1_1, .int .i64 a1_2]) (t := 69) ?_; intro gb243 hg w7 hbox hb; have BK243 := AM (hbox); have GW243 : Aside0 (w.heap.size ≤ gb243) := ZS hg; have GE243 : Aside0 (w.heap.size ≤ gb243) := ZS hg; have NB242_243 : Aside0 (gb242 ≠ gb243) := ZN hg BK242; have NB243_242 : Aside0 (gb243 ≠ gb242) := ZM hg BK242; replace BK242 := ZW BK242 hb; replace HB := ZT HB hb; clear hb hbox hg; have hnb8 := NB243_242.out; have hnc8 := NB242_243.out; have hcz9 := ZC3 w7 BK243; have hfz9 := ZF3 BK243) | ((with_reducible refine gate_callee (f := 78) rfl ?_); refine ZGL (some 11) Tryd.func78 #[.int .i64 a1_1] ?_; (with_reducible refine (impl_isNum.calls a1_1 true _ A4.out).mono ?_); rintro e w' ⟨rfl, ⟨nd, rfl⟩⟩; refine ⟨_, rfl, ?_⟩))
 go_ret
 exact ⟨ZE, ZB⟩)
 ·(
 replace c5 := Bool.eq_false_iff.mpr c5
 subst c5
 have H1 := H; rw [if_neg ZFT] at H1
 clear H
 have H := H1
 clear H1
 obtain rfl := Option.some.inj H
 go_enter Tryd.func62, Tryd.ntmps62
 go_wp2_with (first | ((with_reducible refine gate_dst (N := 2) rfl ?_); refine ZX (N := 2) (cs := #[.slice A0_0 l0_0.length c0_0, .slice A0_1 l0_1.length c0_1]) (t := 31) ?_; intro gb242 hg w10 hbox hb; have BK242 := AM (hbox); have GW242 : Aside0 (w.heap.size ≤ gb242) := ZS hg; have GE242 : Aside0 (w.heap.size ≤ gb242) := ZS hg; replace HB := ZT HB hb; clear hb hbox hg) | ((with_reducible refine gate_dst (N := 3) rfl ?_); refine ZX (N := 3) (cs := #[.int .i64 a1_0, .int .i64 a1_1, .int .i64 a1_2]) (t := 69) ?_; intro gb243 hg w11 hbox hb; have BK243 := AM (hbox); have GW243 : Aside0 (w.heap.size ≤ gb243) := ZS hg; have GE243 : Aside0 (w.heap.size ≤ gb243) := ZS hg; have NB242_243 : Aside0 (gb242 ≠ gb243) := ZN hg BK242; have NB243_242 : Aside0 (gb243 ≠ gb242) := ZM hg BK242; replace BK242 := ZW BK242 hb; replace HB := ZT HB hb; clear hb hbox hg; have hnb12 := NB243_242.out; have hnc12 := NB242_243.out; have hcz13 := ZC3 w11 BK243; have hfz13 := ZF3 BK243) | ((with_reducible refine gate_callee (f := 78) rfl ?_); refine ZGL (some 11) Tryd.func78 #[.int .i64 a1_1] ?_; (with_reducible refine (impl_isNum.calls a1_1 false _ A4.out).mono ?_); rintro e w' ⟨rfl, ⟨nd, rfl⟩⟩; refine ⟨_, rfl, ?_⟩))
 go_ret
 exact ⟨ZE, ZB⟩))
 ·(
 rw [if_neg c3] at H
 have c3b0 := beq_eq_false_iff_ne.mpr c3
 have c3b1 := bne_iff_ne.mpr c3
 by_cases c14 : a1_0 = 2
 ·(
 rw [if_pos c14] at H
 have c14b0 := beq_iff_eq.mpr c14
 have c14b1 := bne_eq_false_iff_eq.mpr c14
 clear c14
 obtain ⟨t245, A15, H⟩ := ZOB H; try dsimp only at H
 by_cases c16 : t245 = true
 ·(
 subst c16
 have H1 := H; rw [if_pos rfl] at H1
 clear H
 have H := H1
 clear H1
 obtain rfl := Option.some.inj H
 go_enter Tryd.func62, Tryd.ntmps62
 go_wp2_with (first | ((with_reducible refine gate_dst (N := 2) rfl ?_); refine ZX (N := 2) (cs := #[.slice A0_0 l0_0.length c0_0, .slice A0_1 l0_1.length c0_1]) (t := 31) ?_; intro gb242 hg w17 hbox hb; have BK242 := AM (hbox); have GW242 : Aside0 (w.heap.size ≤ gb242) := ZS hg; have GE242 : Aside0 (w.heap.size ≤ gb242) := ZS hg; replace HB := ZT HB hb; clear hb hbox hg) | ((with_reducible refine gate_dst (N := 3) rfl ?_); refine ZX (N := 3) (cs := #[.int .i64 a1_0, .int .i64 a1_1, .int .i64 a1_2]) (t := 69) ?_; intro gb243 hg w18 hbox hb; have BK243 := AM (hbox); have GW243 : Aside0 (w.heap.size ≤ gb243) := ZS hg; have GE243 : Aside0 (w.heap.size ≤ gb243) := ZS hg; have NB242_243 : Aside0 (gb242 ≠ gb243) := ZN hg BK242; have NB243_242 : Aside0 (gb243 ≠ gb242) := ZM hg BK242; replace BK242 := ZW BK242 hb; replace HB := ZT HB hb; clear hb hbox hg; have hnb19 := NB243_242.out; have hnc19 := NB242_243.out; have hcz20 := ZC3 w18 BK243; have hfz20 := ZF3 BK243; have hcz21 := ZC2 w18 BK242; have hfz21 := ZF2 BK242) | ((with_reducible refine gate_callee (f := 61) rfl ?_); refine ZGL (some 22) Tryd.func61 #[.agg #[.slice A0_0 l0_0.length c0_0, .slice A0_1 l0_1.length c0_1], .int .i64 a1_1] ?_; (with_reducible refine (impl_Prog_isVar.calls _ _ l0_0 _ _ l0_1 a1_1 true _ ?side1 ?side2 ?side3 ?side4 A15.out).mono ?_); (case side1 => exact ZQ (Kd.C_below HR0_0.out HB.out)); (case side2 => exact HC0_0.out); (case side3 => exact ZQ (Kd.C_below HR0_1.out HB.out)); (case side4 => exact HC0_1.out); rintro e w22 ⟨rfl, hb⟩; refine ⟨_, rfl, ?_⟩; replace BK242 := ZW BK242 hb; replace BK243 := ZW BK243 hb; replace HB := ZT HB hb; clear hb; have hcz23 := ZC3 w22 BK243; have hfz23 := ZF3 BK243))
 go_ret
 exact ⟨ZE, ZB⟩)
 ·(
 replace c16 := Bool.eq_false_iff.mpr c16
 subst c16
 have H1 := H; rw [if_neg ZFT] at H1
 clear H
 have H := H1
 clear H1
 obtain rfl := Option.some.inj H
 go_enter Tryd.func62, Tryd.ntmps62
 go_wp2_with (first | ((with_reducible refine gate_dst (N := 2) rfl ?_); refine ZX (N := 2) (cs := #[.slice A0_0 l0_0.length c0_0, .slice A0_1 l0_1.length c0_1]) (t := 31) ?_; intro gb242 hg w24 hbox hb; have BK242 := AM (hbox); have GW242 : Aside0 (w.heap.size ≤ gb242) := ZS hg; have GE242 : Aside0 (w.heap.size ≤ gb242) := ZS hg; replace HB := ZT HB hb; clear hb hbox hg) | ((with_reducible refine gate_dst (N := 3) rfl ?_); refine ZX (N := 3) (cs := #[.int .i64 a1_0, .int .i64 a1_1, .int .i64 a1_2]) (t := 69) ?_; intro gb243 hg w25 hbox hb; have BK243 := AM (hbox); have GW243 : Aside0 (w.heap.size ≤ gb243) := ZS hg; have GE243 : Aside0 (w.heap.size ≤ gb243) := ZS hg; have NB242_243 : Aside0 (gb242 ≠ gb243) := ZN hg BK242; have NB243_242 : Aside0 (gb243 ≠ gb242) := ZM hg BK242; replace BK242 := ZW BK242 hb; replace HB := ZT HB hb; clear hb hbox hg; have hnb26 := NB243_242.out; have hnc26 := NB242_243.out; have hcz27 := ZC3 w25 BK243; have hfz27 := ZF3 BK243; have hcz28 := ZC2 w25 BK242; have hfz28 := ZF2 BK242) | ((with_reducible refine gate_callee (f := 61) rfl ?_); refine ZGL (some 22) Tryd.func61 #[.agg #[.slice A0_0 l0_0.length c0_0, .slice A0_1 l0_1.length c0_1], .int .i64 a1_1] ?_; (with_reducible refine (impl_Prog_isVar.calls _ _ l0_0 _ _ l0_1 a1_1 false _ ?side1 ?side2 ?side3 ?side4 A15.out).mono ?_); (case side1 => exact ZQ (Kd.C_below HR0_0.out HB.out)); (case side2 => exact HC0_0.out); (case side3 => exact ZQ (Kd.C_below HR0_1.out HB.out)); (case side4 => exact HC0_1.out); rintro e w29 ⟨rfl, hb⟩; refine ⟨_, rfl, ?_⟩; replace BK242 := ZW BK242 hb; replace BK243 := ZW BK243 hb; replace HB := ZT HB hb; clear hb))
 go_ret
 exact ⟨ZE, ZB⟩))
 ·(
 rw [if_neg c14] at H
 have c14b0 := beq_eq_false_iff_ne.mpr c14
 have c14b1 := bne_iff_ne.mpr c14
 by_cases c30 : a1_0 = 3
 ·(
 rw [if_pos c30] at H
 have c30b0 := beq_iff_eq.mpr c30
 have c30b1 := bne_eq_false_iff_eq.mpr c30
 clear c30
 obtain ⟨t246, A31, H⟩ := ZOB H; try dsimp only at H
 by_cases c32 : t246 = true
 ·(
 subst c32
 have H1 := H; rw [if_pos rfl] at H1
 clear H
 have H := H1
 clear H1
 obtain ⟨t247, A33, H⟩ := ZOB H; try dsimp only at H
 obtain rfl := Option.some.inj H
 go_enter Tryd.func62, Tryd.ntmps62
 go_wp2_with (first | ((with_reducible refine gate_dst (N := 2) rfl ?_); refine ZX (N := 2) (cs := #[.slice A0_0 l0_0.length c0_0, .slice A0_1 l0_1.length c0_1]) (t := 31) ?_; intro gb242 hg w34 hbox hb; have BK242 := AM (hbox); have GW242 : Aside0 (w.heap.size ≤ gb242) := ZS hg; have GE242 : Aside0 (w.heap.size ≤ gb242) := ZS hg; replace HB := ZT HB hb; clear hb hbox hg) | ((with_reducible refine gate_dst (N := 3) rfl ?_); refine ZX (N := 3) (cs := #[.int .i64 a1_0, .int .i64 a1_1, .int .i64 a1_2]) (t := 69) ?_; intro gb243 hg w35 hbox hb; have BK243 := AM (hbox); have GW243 : Aside0 (w.heap.size ≤ gb243) := ZS hg; have GE243 : Aside0 (w.heap.size ≤ gb243) := ZS hg; have NB242_243 : Aside0 (gb242 ≠ gb243) := ZN hg BK242; have NB243_242 : Aside0 (gb243 ≠ gb242) := ZM hg BK242; replace BK242 := ZW BK242 hb; replace HB := ZT HB hb; clear hb hbox hg; have hnb36 := NB243_242.out; have hnc36 := NB242_243.out; have hcz37 := ZC3 w35 BK243; have hfz37 := ZF3 BK243; have hcz38 := ZC2 w35 BK242; have hfz38 := ZF2 BK242) | (go_at_call 61; (with_reducible refine (impl_Prog_isVar.calls _ _ l0_0 _ _ l0_1 a1_1 true _ ?side1 ?side2 ?side3 ?side4 A31.out).mono ?_); (case side1 => exact ZQ (Kd.C_below HR0_0.out HB.out)); (case side2 => exact HC0_0.out); (case side3 => exact ZQ (Kd.C_below HR0_1.out HB.out)); (case side4 => exact HC0_1.out); rintro e w39 ⟨rfl, hb⟩; replace BK242 := ZW BK242 hb; replace BK243 := ZW BK243 hb; replace HB := ZT HB hb; clear hb; have hcz40 := ZC2 w39 BK242; have hfz40 := ZF2 BK242; have hcz41 := ZC3 w39 BK243; have hfz41 := ZF3 BK243) | (go_at_call 61; (with_reducible refine (impl_Prog_isVar.calls _ _ l0_0 _ _ l0_1 a1_2 t247 _ ?side1 ?side2 ?side3 ?side4 A33.out).mono ?_); (case side1 => exact ZQ (Kd.C_below HR0_0.out HB.out)); (case side2 => exact HC0_0.out); (case side3 => exact ZQ (Kd.C_below HR0_1.out HB.out)); (case side4 => exact HC0_1.out); rintro e w42 ⟨rfl, hb⟩; replace BK242 := ZW BK242 hb; replace BK243 := ZW BK243 hb; replace HB := ZT HB hb; clear hb))
 go_ret
 exact ⟨ZE, ZB⟩)
 ·(
 replace c32 := Bool.eq_false_iff.mpr c32
 subst c32
 have H1 := H; rw [if_neg ZFT] at H1
 clear H
 have H := H1
 clear H1
 obtain rfl := Option.some.inj H
 go_enter Tryd.func62, Tryd.ntmps62
 go_wp2_with (first | ((with_reducible refine gate_dst (N := 2) rfl ?_); refine ZX (N := 2) (cs := #[.slice A0_0 l0_0.length c0_0, .slice A0_1 l0_1.length c0_1]) (t := 31) ?_; intro gb242 hg w43 hbox hb; have BK242 := AM (hbox); have GW242 : Aside0 (w.heap.size ≤ gb242) := ZS hg; have GE242 : Aside0 (w.heap.size ≤ gb242) := ZS hg; replace HB := ZT HB hb; clear hb hbox hg) | ((with_reducible refine gate_dst (N := 3) rfl ?_); refine ZX (N := 3) (cs := #[.int .i64 a1_0, .int .i64 a1_1, .int .i64 a1_2]) (t := 69) ?_; intro gb243 hg w44 hbox hb; have BK243 := AM (hbox); have GW243 : Aside0 (w.heap.size ≤ gb243) := ZS hg; have GE243 : Aside0 (w.heap.size ≤ gb243) := ZS hg; have NB242_243 : Aside0 (gb242 ≠ gb243) := ZN hg BK242; have NB243_242 : Aside0 (gb243 ≠ gb242) := ZM hg BK242; replace BK242 := ZW BK242 hb; replace HB := ZT HB hb; clear hb hbox hg; have hnb45 := NB243_242.out; have hnc45 := NB242_243.out; have hcz46 := ZC3 w44 BK243; have hfz46 := ZF3 BK243; have hcz47 := ZC2 w44 BK242; have hfz47 := ZF2 BK242) | (go_at_call 61; (with_reducible refine (impl_Prog_isVar.calls _ _ l0_0 _ _ l0_1 a1_1 false _ ?side1 ?side2 ?side3 ?side4 A31.out).mono ?_); (case side1 => exact ZQ (Kd.C_below HR0_0.out HB.out)); (case side2 => exact HC0_0.out); (case side3 => exact ZQ (Kd.C_below HR0_1.out HB.out)); (case side4 => exact HC0_1.out); rintro e w48 ⟨rfl, hb⟩; replace BK242 := ZW BK242 hb; replace BK243 := ZW BK243 hb; replace HB := ZT HB hb; clear hb))
 go_ret
 exact ⟨ZE, ZB⟩))
 ·(
 rw [if_neg c30] at H
 have c30b0 := beq_eq_false_iff_ne.mpr c30
 have c30b1 := bne_iff_ne.mpr c30
 by_cases c49 : a1_0 = 4
 ·(
 rw [if_pos c49] at H
 have c49b0 := beq_iff_eq.mpr c49
 have c49b1 := bne_eq_false_iff_eq.mpr c49
 clear c49
 obtain ⟨t248, A50, H⟩ := ZOB H; try dsimp only at H
 by_cases c51 : t248 = true
 ·(
 subst c51
 have H1 := H; rw [if_pos rfl] at H1
 clear H
 have H := H1
 clear H1
 obtain ⟨t249, A52, H⟩ := ZOB H; try dsimp only at H
 obtain rfl := Option.some.inj H
 go_enter Tryd.func62, Tryd.ntmps62
 go_wp2_with (first | ((with_reducible refine gate_dst (N := 2) rfl ?_); refine ZX (N := 2) (cs := #[.slice A0_0 l0_0.length c0_0, .slice A0_1 l0_1.length c0_1]) (t := 31) ?_; intro gb242 hg w53 hbox hb; have BK242 := AM (hbox); have GW242 : Aside0 (w.heap.size ≤ gb242) := ZS hg; have GE242 : Aside0 (w.heap.size ≤ gb242) := ZS hg; replace HB := ZT HB hb; clear hb hbox hg) | ((with_reducible refine gate_dst (N := 3) rfl ?_); refine ZX (N := 3) (cs := #[.int .i64 a1_0, .int .i64 a1_1, .int .i64 a1_2]) (t := 69) ?_; intro gb243 hg w54 hbox hb; have BK243 := AM (hbox); have GW243 : Aside0 (w.heap.size ≤ gb243) := ZS hg; have GE243 : Aside0 (w.heap.size ≤ gb243) := ZS hg; have NB242_243 : Aside0 (gb242 ≠ gb243) := ZN hg BK242; have NB243_242 : Aside0 (gb243 ≠ gb242) := ZM hg BK242; replace BK242 := ZW BK242 hb; replace HB := ZT HB hb; clear hb hbox hg; have hnb55 := NB243_242.out; have hnc55 := NB242_243.out; have hcz56 := ZC3 w54 BK243; have hfz56 := ZF3 BK243; have hcz57 := ZC2 w54 BK242; have hfz57 := ZF2 BK242) | (go_at_call 61; (with_reducible refine (impl_Prog_isVar.calls _ _ l0_0 _ _ l0_1 a1_1 true _ ?side1 ?side2 ?side3 ?side4 A50.out).mono ?_); (case side1 => exact ZQ (Kd.C_below HR0_0.out HB.out)); (case side2 => exact HC0_0.out); (case side3 => exact ZQ (Kd.C_below HR0_1.out HB.out)); (case side4 => exact HC0_1.out); rintro e w58 ⟨rfl, hb⟩; replace BK242 := ZW BK242 hb; replace BK243 := ZW BK243 hb; replace HB := ZT HB hb; clear hb; have hcz59 := ZC2 w58 BK242; have hfz59 := ZF2 BK242; have hcz60 := ZC3 w58 BK243; have hfz60 := ZF3 BK243) | (go_at_call 61; (with_reducible refine (impl_Prog_isVar.calls _ _ l0_0 _ _ l0_1 a1_2 t249 _ ?side1 ?side2 ?side3 ?side4 A52.out).mono ?_); (case side1 => exact ZQ (Kd.C_below HR0_0.out HB.out)); (case side2 => exact HC0_0.out); (case side3 => exact ZQ (Kd.C_below HR0_1.out HB.out)); (case side4 => exact HC0_1.out); rintro e w61 ⟨rfl, hb⟩; replace BK242 := ZW BK242 hb; replace BK243 := ZW BK243 hb; replace HB := ZT HB hb; clear hb))
 go_ret
 exact ⟨ZE, ZB⟩)
 ·(
 replace c51 := Bool.eq_false_iff.mpr c51
 subst c51
 have H1 := H; rw [if_neg ZFT] at H1
 clear H
 have H := H1
 clear H1
 obtain rfl := Option.some.inj H
 go_enter Tryd.func62, Tryd.ntmps62
 go_wp2_with (first | ((with_reducible refine gate_dst (N := 2) rfl ?_); refine ZX (N := 2) (cs := #[.slice A0_0 l0_0.length c0_0, .slice A0_1 l0_1.length c0_1]) (t := 31) ?_; intro gb242 hg w62 hbox hb; have BK242 := AM (hbox); have GW242 : Aside0 (w.heap.size ≤ gb242) := ZS hg; have GE242 : Aside0 (w.heap.size ≤ gb242) := ZS hg; replace HB := ZT HB hb; clear hb hbox hg) | ((with_reducible refine gate_dst (N := 3) rfl ?_); refine ZX (N := 3) (cs := #[.int .i64 a1_0, .int .i64 a1_1, .int .i64 a1_2]) (t := 69) ?_; intro gb243 hg w63 hbox hb; have BK243 := AM (hbox); have GW243 : Aside0 (w.heap.size ≤ gb243) := ZS hg; have GE243 : Aside0 (w.heap.size ≤ gb243) := ZS hg; have NB242_243 : Aside0 (gb242 ≠ gb243) := ZN hg BK242; have NB243_242 : Aside0 (gb243 ≠ gb242) := ZM hg BK242; replace BK242 := ZW BK242 hb; replace HB := ZT HB hb; clear hb hbox hg; have hnb64 := NB243_242.out; have hnc64 := NB242_243.out; have hcz65 := ZC3 w63 BK243; have hfz65 := ZF3 BK243; have hcz66 := ZC2 w63 BK242; have hfz66 := ZF2 BK242) | (go_at_call 61; (with_reducible refine (impl_Prog_isVar.calls _ _ l0_0 _ _ l0_1 a1_1 false _ ?side1 ?side2 ?side3 ?side4 A50.out).mono ?_); (case side1 => exact ZQ (Kd.C_below HR0_0.out HB.out)); (case side2 => exact HC0_0.out); (case side3 => exact ZQ (Kd.C_below HR0_1.out HB.out)); (case side4 => exact HC0_1.out); rintro e w67 ⟨rfl, hb⟩; replace BK242 := ZW BK242 hb; replace BK243 := ZW BK243 hb; replace HB := ZT HB hb; clear hb))
 go_ret
 exact ⟨ZE, ZB⟩))
 ·(
 rw [if_neg c49] at H
 have c49b0 := beq_eq_false_iff_ne.mpr c49
 have c49b1 := bne_iff_ne.mpr c49
 obtain rfl := Option.some.inj H
 go_enter Tryd.func62, Tryd.ntmps62
 go_wp2_with (first | ((with_reducible refine gate_dst (N := 2) rfl ?_); refine ZX (N := 2) (cs := #[.slice A0_0 l0_0.length c0_0, .slice A0_1 l0_1.length c0_1]) (t := 31) ?_; intro gb242 hg w68 hbox hb; have BK242 := AM (hbox); have GW242 : Aside0 (w.heap.size ≤ gb242) := ZS hg; have GE242 : Aside0 (w.heap.size ≤ gb242) := ZS hg; replace HB := ZT HB hb; clear hb hbox hg) | ((with_reducible refine gate_dst (N := 3) rfl ?_); refine ZX (N := 3) (cs := #[.int .i64 a1_0, .int .i64 a1_1, .int .i64 a1_2]) (t := 69) ?_; intro gb243 hg w69 hbox hb; have BK243 := AM (hbox); have GW243 : Aside0 (w.heap.size ≤ gb243) := ZS hg; have GE243 : Aside0 (w.heap.size ≤ gb243) := ZS hg; have NB242_243 : Aside0 (gb242 ≠ gb243) := ZN hg BK242; have NB243_242 : Aside0 (gb243 ≠ gb242) := ZM hg BK242; replace BK242 := ZW BK242 hb; replace HB := ZT HB hb; clear hb hbox hg; have hnb70 := NB243_242.out; have hnc70 := NB242_243.out; have hcz71 := ZC3 w69 BK243; have hfz71 := ZF3 BK243))
 go_ret
 exact ⟨ZE, ZB⟩))))

/-! ### impl_isHost: function 63 -/
def impl_isHost.f (a0 : Int) : Option (Bool) := (impl_in.f a0 0 2).bind fun t250 => (some t250)
theorem impl_isHost.calls (a0 : Int) (r : Bool) (w : World) (h : impl_isHost.f a0 = some r) :
  Calls Tryd.prog 63 #[.int .i64 a0] w fun e w' => e = .returned (.bool r) ∧ Drawn0 w w' := by
 have H := h
 unfold impl_isHost.f at H
 clear h
 obtain ⟨t250, A2, H⟩ := ZOB H; try dsimp only at H
 obtain rfl := Option.some.inj H
 go_enter Tryd.func63, Tryd.ntmps63
 go_wp2_with (first | ((with_reducible refine gate_callee (f := 77) rfl ?_); refine ZGL (some 4) Tryd.func77 #[.int .i64 a0, .int .i64 0, .int .i64 2] ?_; (with_reducible refine (impl_in.calls a0 0 2 t250 _ A2.out).mono ?_); rintro e w' ⟨rfl, ⟨nd, rfl⟩⟩; refine ⟨_, rfl, ?_⟩))
 go_ret
 exact ⟨by first | rfl | (simp; done) | (simp [*]; done), by repeat (first | exact Drawn0.refl _ | apply Drawn0.step)⟩

end Go.Proofs.YtfcmckomagaiiaaDoor.A
