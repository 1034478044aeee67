/- Go functions as Lean functions, and for each its contract; written by wip/tools/pr.py over the kit's print. -/
import Derived.Test.YthidgkfgdkjghaaAx0
import Derived.Test.YthidgkfgdkjghaaAx3
import Derived.Test.YthidgkfgdkjghaaAx6
import Derived.Test.YthidgkfgdkjghaaAx20
import Derived.Test.YthidgkfgdkjghaaAx22
namespace Go.Proofs.Ythidgkfgdkjghaa.A
open Go.RowKit Go.Proofs.YthidgkfgdkjghaaW.PrintWords Go.Proofs.YthidgkfgdkjghaaW.PrintLast Go.Proofs.YthidgkfgdkjghaaW.PrintMore
attribute [local go_sem] max2_int min2_int max_two min_two max_three min_three max_four min_four
set_option linter.unusedVariables false
set_option linter.unusedSimpArgs false
set_option maxHeartbeats 8000000
set_option maxRecDepth 100000

/-! ### impl_ProgOk: function 36 -/
def impl_ProgOk.f (k : Nat) (l0_0 : List (S39)) (l0_1 : List (S32)) : Option (Bool) := if (l0_0.length : Int) ≤ 4 then ((impl_Label_57.f k l0_0).bind fun t550 => (if t550 = true then (some false) else ((impl_Prog_stepsOk.f k l0_0 l0_1 l0_1 3).bind fun t551 => (if t551 = true then ((impl_size.f k l0_1).bind fun t552 => (some (decide (t552 ≤ 8)))) else (some false))))) else (some false)
theorem impl_ProgOk.calls (k : Nat) (A0_0 : Option Addr) (c0_0 : Nat) (l0_0 : List (S39)) (A0_1 : Option Addr) (c0_1 : Nat) (l0_1 : List (S32)) (r : Bool) (w : World) (hr0_0 : Kd.C k39 w A0_0 l0_0.length l0_0) (hc0_0 : l0_0.length ≤ c0_0) (hr0_1 : Kd.C k32 w A0_1 l0_1.length l0_1) (hc0_1 : l0_1.length ≤ c0_1) (h : impl_ProgOk.f k l0_0 l0_1 = some r) :
  Calls Try.prog 36 #[.agg #[.slice A0_0 l0_0.length c0_0, .slice A0_1 l0_1.length c0_1]] w fun e w' => e = .returned (.bool r) ∧ Below w.heap.size w w' := by
 have hu26 := Try.underlying26
 have HR0_0 := AM hr0_0
 have HC0_0 := AM hc0_0
 clear hr0_0 hc0_0
 have HR0_1 := AM hr0_1
 have HC0_1 := AM hc0_1
 clear hr0_1 hc0_1
 have HB := AM (Below.refl w.heap.size w)
 have H := h
 unfold impl_ProgOk.f at H
 clear h
 by_cases c2 : (l0_0.length : Int) ≤ 4
 ·(
 rw [if_pos c2] at H
 have c2b0 := decide_eq_true c2
 have c2b1 : decide (l0_0.length ≤ 4) = true := decide_eq_true (by omega)
 clear c2
 obtain ⟨t550, A3, H⟩ := ZOB H; try dsimp only at H
 by_cases c4 : t550 = true
 ·(
 subst c4
 have H1 := H; rw [if_pos rfl] at H1
 clear H
 have H := H1
 clear H1
 obtain rfl := Option.some.inj H
 go_enter Try.func36, Try.ntmps36
 go_wp2_with (first | ((with_reducible refine gate_dst (N := 1) rfl ?_); refine ZX (N := 1) (cs := #[.slice A0_0 l0_0.length c0_0, .slice A0_1 l0_1.length c0_1]) (t := 26) ?_; intro gb549 hg w5 hbox hb; have BK549 := AM (hbox); have GW549 : Aside0 (w.heap.size ≤ gb549) := ZS hg; have GE549 : Aside0 (w.heap.size ≤ gb549) := ZS hg; replace HB := ZT HB hb; clear hb hbox hg; have hcz6 := ZC2 w5 BK549; have hfz6 := ZF2 BK549) | (go_at_call 57; (with_reducible refine (impl_Label_57.calls k _ _ l0_0  true _ ?side1 ?side2 A3.out).mono ?_); (case side1 => exact ZQ (Kd.C_below HR0_0.out HB.out)); (case side2 => exact HC0_0.out); rintro e w7 ⟨rfl, hb⟩; replace BK549 := ZW BK549 hb; replace HB := ZT HB hb; clear hb))
 go_ret
 exact ⟨ZE, ZB⟩)
 ·(
 replace c4 := Bool.eq_false_iff.mpr c4
 subst c4
 have H1 := H; rw [if_neg ZFT] at H1
 clear H
 have H := H1
 clear H1
 obtain ⟨t551, A8, H⟩ := ZOB H; try dsimp only at H
 by_cases c9 : t551 = true
 ·(
 subst c9
 have H1 := H; rw [if_pos rfl] at H1
 clear H
 have H := H1
 clear H1
 obtain ⟨t552, A10, H⟩ := ZOB H; try dsimp only at H
 obtain rfl := Option.some.inj H
 go_enter Try.func36, Try.ntmps36
 go_wp2_with (first | ((with_reducible refine gate_dst (N := 1) rfl ?_); refine ZX (N := 1) (cs := #[.slice A0_0 l0_0.length c0_0, .slice A0_1 l0_1.length c0_1]) (t := 26) ?_; intro gb549 hg w11 hbox hb; have BK549 := AM (hbox); have GW549 : Aside0 (w.heap.size ≤ gb549) := ZS hg; have GE549 : Aside0 (w.heap.size ≤ gb549) := ZS hg; replace HB := ZT HB hb; clear hb hbox hg; have hcz12 := ZC2 w11 BK549; have hfz12 := ZF2 BK549) | (go_at_call 57; (with_reducible refine (impl_Label_57.calls k _ _ l0_0  false _ ?side1 ?side2 A3.out).mono ?_); (case side1 => exact ZQ (Kd.C_below HR0_0.out HB.out)); (case side2 => exact HC0_0.out); rintro e w13 ⟨rfl, hb⟩; replace BK549 := ZW BK549 hb; replace HB := ZT HB hb; clear hb; have hcz14 := ZC2 w13 BK549; have hfz14 := ZF2 BK549) | (go_at_call 59; (with_reducible refine (impl_Prog_stepsOk.calls k _ _ l0_0 _ _ l0_1 _ _ l0_1 3 true _ ?side1 ?side2 ?side3 ?side4 ?side5 ?side6 A8.out).mono ?_); (case side1 => exact ZQ (Kd.C_below HR0_0.out HB.out)); (case side2 => exact HC0_0.out); (case side3 => exact ZQ (Kd.C_below HR0_1.out HB.out)); (case side4 => exact HC0_1.out); (case side5 => exact ZQ (Kd.C_below HR0_1.out HB.out)); (case side6 => exact HC0_1.out); rintro e w15 ⟨rfl, hb⟩; replace BK549 := ZW BK549 hb; replace HB := ZT HB hb; clear hb; have hcz16 := ZC2 w15 BK549; have hfz16 := ZF2 BK549) | (go_at_call 37; (with_reducible refine (impl_size.calls k _ _ l0_1 t552 _ ?side1 ?side2 A10.out).mono ?_); (case side1 => exact ZQ (Kd.C_below HR0_1.out HB.out)); (case side2 => exact HC0_1.out); rintro e w17 ⟨rfl, hb⟩; replace BK549 := ZW BK549 hb; replace HB := ZT HB hb; clear hb))
 go_ret
 exact ⟨ZE, ZB⟩)
 ·(
 replace c9 := Bool.eq_false_iff.mpr c9
 subst c9
 have H1 := H; rw [if_neg ZFT] at H1
 clear H
 have H := H1
 clear H1
 obtain rfl := Option.some.inj H
 go_enter Try.func36, Try.ntmps36
 go_wp2_with (first | ((with_reducible refine gate_dst (N := 1) rfl ?_); refine ZX (N := 1) (cs := #[.slice A0_0 l0_0.length c0_0, .slice A0_1 l0_1.length c0_1]) (t := 26) ?_; intro gb549 hg w18 hbox hb; have BK549 := AM (hbox); have GW549 : Aside0 (w.heap.size ≤ gb549) := ZS hg; have GE549 : Aside0 (w.heap.size ≤ gb549) := ZS hg; replace HB := ZT HB hb; clear hb hbox hg; have hcz19 := ZC2 w18 BK549; have hfz19 := ZF2 BK549) | (go_at_call 57; (with_reducible refine (impl_Label_57.calls k _ _ l0_0  false _ ?side1 ?side2 A3.out).mono ?_); (case side1 => exact ZQ (Kd.C_below HR0_0.out HB.out)); (case side2 => exact HC0_0.out); rintro e w20 ⟨rfl, hb⟩; replace BK549 := ZW BK549 hb; replace HB := ZT HB hb; clear hb; have hcz21 := ZC2 w20 BK549; have hfz21 := ZF2 BK549) | (go_at_call 59; (with_reducible refine (impl_Prog_stepsOk.calls k _ _ l0_0 _ _ l0_1 _ _ l0_1 3 false _ ?side1 ?side2 ?side3 ?side4 ?side5 ?side6 A8.out).mono ?_); (case side1 => exact ZQ (Kd.C_below HR0_0.out HB.out)); (case side2 => exact HC0_0.out); (case side3 => exact ZQ (Kd.C_below HR0_1.out HB.out)); (case side4 => exact HC0_1.out); (case side5 => exact ZQ (Kd.C_below HR0_1.out HB.out)); (case side6 => exact HC0_1.out); rintro e w22 ⟨rfl, hb⟩; replace BK549 := ZW BK549 hb; replace HB := ZT HB hb; clear hb))
 go_ret
 exact ⟨ZE, ZB⟩)))
 ·(
 rw [if_neg c2] at H
 have c2b0 := decide_eq_false c2
 have c2b1 : decide (l0_0.length ≤ 4) = false := decide_eq_false (by omega)
 clear c2
 obtain rfl := Option.some.inj H
 go_enter Try.func36, Try.ntmps36
 go_wp2_with (first | ((with_reducible refine gate_dst (N := 1) rfl ?_); refine ZX (N := 1) (cs := #[.slice A0_0 l0_0.length c0_0, .slice A0_1 l0_1.length c0_1]) (t := 26) ?_; intro gb549 hg w23 hbox hb; have BK549 := AM (hbox); have GW549 : Aside0 (w.heap.size ≤ gb549) := ZS hg; have GE549 : Aside0 (w.heap.size ≤ gb549) := ZS hg; replace HB := ZT HB hb; clear hb hbox hg; have hcz24 := ZC2 w23 BK549; have hfz24 := ZF2 BK549))
 go_ret
 exact ⟨ZE, ZB⟩)

/-! ### impl_ProgSize: function 14 -/
def impl_ProgSize.f (k : Nat) (l0_0 : List (S39)) (l0_1 : List (S32)) : Option (Int) := (impl_ProgOk.f k l0_0 l0_1).bind fun t554 => (if t554 = true then ((impl_size.f k l0_1).bind fun t555 => (some t555)) else (some (-1)))
theorem impl_ProgSize.calls (k : Nat) (A0_0 : Option Addr) (c0_0 : Nat) (l0_0 : List (S39)) (A0_1 : Option Addr) (c0_1 : Nat) (l0_1 : List (S32)) (r : Int) (w : World) (hr0_0 : Kd.C k39 w A0_0 l0_0.length l0_0) (hc0_0 : l0_0.length ≤ c0_0) (hr0_1 : Kd.C k32 w A0_1 l0_1.length l0_1) (hc0_1 : l0_1.length ≤ c0_1) (h : impl_ProgSize.f k l0_0 l0_1 = some r) :
  Calls Try.prog 14 #[.agg #[.slice A0_0 l0_0.length c0_0, .slice A0_1 l0_1.length c0_1]] w fun e w' => e = .returned (.int .i64 r) ∧ Below w.heap.size w w' := by
 have hu26 := Try.underlying26
 have HR0_0 := AM hr0_0
 have HC0_0 := AM hc0_0
 clear hr0_0 hc0_0
 have HR0_1 := AM hr0_1
 have HC0_1 := AM hc0_1
 clear hr0_1 hc0_1
 have HB := AM (Below.refl w.heap.size w)
 have H := h
 unfold impl_ProgSize.f at H
 clear h
 obtain ⟨t554, A2, H⟩ := ZOB H; try dsimp only at H
 by_cases c3 : t554 = true
 ·(
 subst c3
 have H1 := H; rw [if_pos rfl] at H1
 clear H
 have H := H1
 clear H1
 obtain ⟨t555, A4, H⟩ := ZOB H; try dsimp only at H
 obtain rfl := Option.some.inj H
 go_enter Try.func14, Try.ntmps14
 go_wp2_with (first | ((with_reducible refine gate_dst (N := 1) rfl ?_); refine ZX (N := 1) (cs := #[.slice A0_0 l0_0.length c0_0, .slice A0_1 l0_1.length c0_1]) (t := 26) ?_; intro gb553 hg w5 hbox hb; have BK553 := AM (hbox); have GW553 : Aside0 (w.heap.size ≤ gb553) := ZS hg; have GE553 : Aside0 (w.heap.size ≤ gb553) := ZS hg; replace HB := ZT HB hb; clear hb hbox hg; have hcz6 := ZC2 w5 BK553; have hfz6 := ZF2 BK553) | ((with_reducible refine gate_callee (f := 36) rfl ?_); refine ZGL (some 4) Try.func36 #[.agg #[.slice A0_0 l0_0.length c0_0, .slice A0_1 l0_1.length c0_1]] ?_; (with_reducible refine (impl_ProgOk.calls k _ _ l0_0 _ _ l0_1 true _ ?side1 ?side2 ?side3 ?side4 A2.out).mono ?_); (case side1 => exact ZQ (Kd.C_below HR0_0.out HB.out)); (case side2 => exact HC0_0.out); (case side3 => exact ZQ (Kd.C_below HR0_1.out HB.out)); (case side4 => exact HC0_1.out); rintro e w7 ⟨rfl, hb⟩; refine ⟨_, rfl, ?_⟩; replace BK553 := ZW BK553 hb; replace HB := ZT HB hb; clear hb; have hcz8 := ZC2 w7 BK553; have hfz8 := ZF2 BK553) | ((with_reducible refine gate_callee (f := 37) rfl ?_); refine ZGL (some 8) Try.func37 #[.slice A0_1 l0_1.length c0_1] ?_; (with_reducible refine (impl_size.calls k _ _ l0_1 t555 _ ?side1 ?side2 A4.out).mono ?_); (case side1 => exact ZQ (Kd.C_below HR0_1.out HB.out)); (case side2 => exact HC0_1.out); rintro e w9 ⟨rfl, hb⟩; refine ⟨_, rfl, ?_⟩; replace BK553 := ZW BK553 hb; replace HB := ZT HB hb; clear hb))
 go_ret
 exact ⟨ZE, ZB⟩)
 ·(
 replace c3 := Bool.eq_false_iff.mpr c3
 subst c3
 have H1 := H; rw [if_neg ZFT] at H1
 clear H
 have H := H1
 clear H1
 obtain rfl := Option.some.inj H
 go_enter Try.func14, Try.ntmps14
 go_wp2_with (first | ((with_reducible refine gate_dst (N := 1) rfl ?_); refine ZX (N := 1) (cs := #[.slice A0_0 l0_0.length c0_0, .slice A0_1 l0_1.length c0_1]) (t := 26) ?_; intro gb553 hg w10 hbox hb; have BK553 := AM (hbox); have GW553 : Aside0 (w.heap.size ≤ gb553) := ZS hg; have GE553 : Aside0 (w.heap.size ≤ gb553) := ZS hg; replace HB := ZT HB hb; clear hb hbox hg; have hcz11 := ZC2 w10 BK553; have hfz11 := ZF2 BK553) | ((with_reducible refine gate_callee (f := 36) rfl ?_); refine ZGL (some 4) Try.func36 #[.agg #[.slice A0_0 l0_0.length c0_0, .slice A0_1 l0_1.length c0_1]] ?_; (with_reducible refine (impl_ProgOk.calls k _ _ l0_0 _ _ l0_1 false _ ?side1 ?side2 ?side3 ?side4 A2.out).mono ?_); (case side1 => exact ZQ (Kd.C_below HR0_0.out HB.out)); (case side2 => exact HC0_0.out); (case side3 => exact ZQ (Kd.C_below HR0_1.out HB.out)); (case side4 => exact HC0_1.out); rintro e w12 ⟨rfl, hb⟩; refine ⟨_, rfl, ?_⟩; replace BK553 := ZW BK553 hb; replace HB := ZT HB hb; clear hb))
 go_ret
 exact ⟨ZE, ZB⟩)

/-! ### spec_ProgSize: function 15 -/
def spec_ProgSize.f (k : Nat) (l0_0 : List (S39)) (l0_1 : List (S32)) : Option (Int) := (spec_ProgOk.f k l0_0 l0_1).bind fun t557 => (if t557 = true then ((spec_l2Count.f k l0_1).bind fun t558 => (some t558)) else (some (-1)))
theorem spec_ProgSize.calls (k : Nat) (A0_0 : Option Addr) (c0_0 : Nat) (l0_0 : List (S39)) (A0_1 : Option Addr) (c0_1 : Nat) (l0_1 : List (S32)) (r : Int) (w : World) (hr0_0 : Kd.C k39 w A0_0 l0_0.length l0_0) (hc0_0 : l0_0.length ≤ c0_0) (hr0_1 : Kd.C k32 w A0_1 l0_1.length l0_1) (hc0_1 : l0_1.length ≤ c0_1) (h : spec_ProgSize.f k l0_0 l0_1 = some r) :
  Calls Try.prog 15 #[.agg #[.slice A0_0 l0_0.length c0_0, .slice A0_1 l0_1.length c0_1]] w fun e w' => e = .returned (.int .i64 r) ∧ Below w.heap.size w w' := by
 have hu26 := Try.underlying26
 have HR0_0 := AM hr0_0
 have HC0_0 := AM hc0_0
 clear hr0_0 hc0_0
 have HR0_1 := AM hr0_1
 have HC0_1 := AM hc0_1
 clear hr0_1 hc0_1
 have HB := AM (Below.refl w.heap.size w)
 have H := h
 unfold spec_ProgSize.f at H
 clear h
 obtain ⟨t557, A2, H⟩ := ZOB H; try dsimp only at H
 by_cases c3 : t557 = true
 ·(
 subst c3
 have H1 := H; rw [if_pos rfl] at H1
 clear H
 have H := H1
 clear H1
 obtain ⟨t558, A4, H⟩ := ZOB H; try dsimp only at H
 obtain rfl := Option.some.inj H
 go_enter Try.func15, Try.ntmps15
 go_wp2_with (first | ((with_reducible refine gate_dst (N := 1) rfl ?_); refine ZX (N := 1) (cs := #[.slice A0_0 l0_0.length c0_0, .slice A0_1 l0_1.length c0_1]) (t := 26) ?_; intro gb556 hg w5 hbox hb; have BK556 := AM (hbox); have GW556 : Aside0 (w.heap.size ≤ gb556) := ZS hg; have GE556 : Aside0 (w.heap.size ≤ gb556) := ZS hg; replace HB := ZT HB hb; clear hb hbox hg; have hcz6 := ZC2 w5 BK556; have hfz6 := ZF2 BK556) | ((with_reducible refine gate_callee (f := 19) rfl ?_); refine ZGL (some 4) Try.func19 #[.agg #[.slice A0_0 l0_0.length c0_0, .slice A0_1 l0_1.length c0_1]] ?_; (with_reducible refine (spec_ProgOk.calls k _ _ l0_0 _ _ l0_1 true _ ?side1 ?side2 ?side3 ?side4 A2.out).mono ?_); (case side1 => exact ZQ (Kd.C_below HR0_0.out HB.out)); (case side2 => exact HC0_0.out); (case side3 => exact ZQ (Kd.C_below HR0_1.out HB.out)); (case side4 => exact HC0_1.out); rintro e w7 ⟨rfl, hb⟩; refine ⟨_, rfl, ?_⟩; replace BK556 := ZW BK556 hb; replace HB := ZT HB hb; clear hb; have hcz8 := ZC2 w7 BK556; have hfz8 := ZF2 BK556) | ((with_reducible refine gate_callee (f := 38) rfl ?_); refine ZGL (some 8) Try.func38 #[.slice A0_1 l0_1.length c0_1] ?_; (with_reducible refine (spec_l2Count.calls k _ _ l0_1 t558 _ ?side1 ?side2 A4.out).mono ?_); (case side1 => exact ZQ (Kd.C_below HR0_1.out HB.out)); (case side2 => exact HC0_1.out); rintro e w9 ⟨rfl, hb⟩; refine ⟨_, rfl, ?_⟩; replace BK556 := ZW BK556 hb; replace HB := ZT HB hb; clear hb))
 go_ret
 exact ⟨ZE, ZB⟩)
 ·(
 replace c3 := Bool.eq_false_iff.mpr c3
 subst c3
 have H1 := H; rw [if_neg ZFT] at H1
 clear H
 have H := H1
 clear H1
 obtain rfl := Option.some.inj H
 go_enter Try.func15, Try.ntmps15
 go_wp2_with (first | ((with_reducible refine gate_dst (N := 1) rfl ?_); refine ZX (N := 1) (cs := #[.slice A0_0 l0_0.length c0_0, .slice A0_1 l0_1.length c0_1]) (t := 26) ?_; intro gb556 hg w10 hbox hb; have BK556 := AM (hbox); have GW556 : Aside0 (w.heap.size ≤ gb556) := ZS hg; have GE556 : Aside0 (w.heap.size ≤ gb556) := ZS hg; replace HB := ZT HB hb; clear hb hbox hg; have hcz11 := ZC2 w10 BK556; have hfz11 := ZF2 BK556) | ((with_reducible refine gate_callee (f := 19) rfl ?_); refine ZGL (some 4) Try.func19 #[.agg #[.slice A0_0 l0_0.length c0_0, .slice A0_1 l0_1.length c0_1]] ?_; (with_reducible refine (spec_ProgOk.calls k _ _ l0_0 _ _ l0_1 false _ ?side1 ?side2 ?side3 ?side4 A2.out).mono ?_); (case side1 => exact ZQ (Kd.C_below HR0_0.out HB.out)); (case side2 => exact HC0_0.out); (case side3 => exact ZQ (Kd.C_below HR0_1.out HB.out)); (case side4 => exact HC0_1.out); rintro e w12 ⟨rfl, hb⟩; refine ⟨_, rfl, ?_⟩; replace BK556 := ZW BK556 hb; replace HB := ZT HB hb; clear hb))
 go_ret
 exact ⟨ZE, ZB⟩)

end Go.Proofs.Ythidgkfgdkjghaa.A
