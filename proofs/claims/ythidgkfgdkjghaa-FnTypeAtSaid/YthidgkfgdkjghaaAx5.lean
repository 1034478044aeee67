/- By wip/tools/pr.py: Go functions as Lean functions, with contracts. -/
import Derived.Test.YthidgkfgdkjghaaAx0
namespace Go.Proofs.Ythidgkfgdkjghaa.A
open Go.RowKit Go.Proofs.YthidgkfgdkjghaaW.PrintWords Go.Proofs.YthidgkfgdkjghaaW.PrintLast Go.Proofs.YthidgkfgdkjghaaW.PrintMore
attribute [local go_sem] max2_int min2_int max_two min_two max_three min_three max_four min_four
set_option linter.unusedVariables false
set_option linter.unusedSimpArgs false
set_option maxHeartbeats 8000000
set_option maxRecDepth 100000

attribute [local go_sem high] eqA30
/-! ### spec_l2Step: function 70 -/
def spec_l2Step.g (k : Nat) (bf : List (S39) → List (S32) → List (S32) → Int → Option (Bool)) (l0_0 : List (S39)) (l0_1 : List (S32)) (a1_0 : Int) (a1_1 : Int) (a1_2 : Int) (a1_3 : Int) (a1_4 : Int) (a1_5 : Int) (l1_6 : List (S32)) (l1_7 : List (S32)) (a2 : Int) : Option (Bool) := if a2 < 1 then (some false) else ((spec_l2Var.f l0_0 l0_1 a1_1).bind fun t123 => (if t123 = true then (if a1_0 = 1 then ((spec_l2Val.f k l0_0 l0_1 a1_2 a1_3 a1_4).bind fun t124 => (if t124 = true then (if a1_5 = 0 then (some ((wrap64 ((l1_6.length : Int) + (l1_7.length : Int))) == 0)) else (some false)) else (some false))) else (if a1_0 = 3 then (if (a1_2 == 0 && (a1_3 == 0 && (a1_4 == 0))) = true then ((spec_l6In.f a1_5 0 2).bind fun t125 => (if t125 = true then (some ((wrap64 ((l1_6.length : Int) + (l1_7.length : Int))) == 0)) else (some false))) else (some false)) else (if a1_0 = 2 then (if (a1_2 == 0 && (a1_3 == 0 && (a1_4 == 0))) = true then (if a1_5 = 0 then ((bf l0_0 l0_1 l1_6 (wrap64 (a2 - 1))).bind fun t126 => (if t126 = true then ((bf l0_0 l0_1 l1_7 (wrap64 (a2 - 1))).bind fun t127 => (some t127)) else (some false))) else (some false)) else (some false)) else (some false)))) else (some false)))
theorem spec_l2Step.calls_g (k : Nat) (bf : List (S39) → List (S32) → List (S32) → Int → Option (Bool)) (ihB : ∀ (A0_0 : Option Addr) (c0_0 : Nat) (l0_0 : List (S39)) (A0_1 : Option Addr) (c0_1 : Nat) (l0_1 : List (S32)) (A1 : Option Addr) (c1 : Nat) (l1 : List (S32)) (a2 : Int) (r : Bool) (w : World) (hr0_0 : Kd.C k39 w A0_0 l0_0.length l0_0) (hc0_0 : l0_0.length ≤ c0_0) (hr0_1 : Kd.C k32 w A0_1 l0_1.length l0_1) (hc0_1 : l0_1.length ≤ c0_1) (hr1 : Kd.C k32 w A1 l1.length l1) (hc1 : l1.length ≤ c1) (h : bf l0_0 l0_1 l1 a2 = some r),
  Calls Try.prog 45 #[.agg #[.slice A0_0 l0_0.length c0_0, .slice A0_1 l0_1.length c0_1], .slice A1 l1.length c1, .int .i64 a2] w fun e w' => e = .returned (.bool r) ∧ Below w.heap.size w w') (A0_0 : Option Addr) (c0_0 : Nat) (l0_0 : List (S39)) (A0_1 : Option Addr) (c0_1 : Nat) (l0_1 : List (S32)) (a1_0 : Int) (a1_1 : Int) (a1_2 : Int) (a1_3 : Int) (a1_4 : Int) (a1_5 : Int) (A1_6 : Option Addr) (c1_6 : Nat) (l1_6 : List (S32)) (A1_7 : Option Addr) (c1_7 : Nat) (l1_7 : List (S32)) (a2 : Int) (r : Bool) (w : World) (hr0_0 : Kd.C k39 w A0_0 l0_0.length l0_0) (hc0_0 : l0_0.length ≤ c0_0) (hr0_1 : Kd.C k32 w A0_1 l0_1.length l0_1) (hc0_1 : l0_1.length ≤ c0_1) (hr1_6 : Kd.C k32 w A1_6 l1_6.length l1_6) (hc1_6 : l1_6.length ≤ c1_6) (hr1_7 : Kd.C k32 w A1_7 l1_7.length l1_7) (hc1_7 : l1_7.length ≤ c1_7) (h : spec_l2Step.g k bf l0_0 l0_1 a1_0 a1_1 a1_2 a1_3 a1_4 a1_5 l1_6 l1_7 a2 = some r) :
  Calls Try.prog 70 #[.agg #[.slice A0_0 l0_0.length c0_0, .slice A0_1 l0_1.length c0_1], .agg #[.int .i64 a1_0, .int .i64 a1_1, .int .i64 a1_2, .int .i64 a1_3, .int .i64 a1_4, .int .i64 a1_5, .slice A1_6 l1_6.length c1_6, .slice A1_7 l1_7.length c1_7], .int .i64 a2] w fun e w' => e = .returned (.bool r) ∧ Below w.heap.size w w' := by
 have hu26 := Try.underlying26
 have hu32 := Try.underlying32
 have hu30 := Try.underlying30
 have HR0_0 := AM hr0_0
 have HC0_0 := AM hc0_0
 clear hr0_0 hc0_0
 have HR0_1 := AM hr0_1
 have HC0_1 := AM hc0_1
 clear hr0_1 hc0_1
 have HR1_6 := AM hr1_6
 have HC1_6 := AM hc1_6
 clear hr1_6 hc1_6
 have HR1_7 := AM hr1_7
 have HC1_7 := AM hc1_7
 clear hr1_7 hc1_7
 have HB := AM (Below.refl w.heap.size w)
 have H : (if a2 < 1 then (some false) else ((spec_l2Var.f l0_0 l0_1 a1_1).bind fun t123 => (if t123 = true then (if a1_0 = 1 then ((spec_l2Val.f k l0_0 l0_1 a1_2 a1_3 a1_4).bind fun t124 => (if t124 = true then (if a1_5 = 0 then (some ((wrap64 ((l1_6.length : Int) + (l1_7.length : Int))) == 0)) else (some false)) else (some false))) else (if a1_0 = 3 then (if (a1_2 == 0 && (a1_3 == 0 && (a1_4 == 0))) = true then ((spec_l6In.f a1_5 0 2).bind fun t125 => (if t125 = true then (some ((wrap64 ((l1_6.length : Int) + (l1_7.length : Int))) == 0)) else (some false))) else (some false)) else (if a1_0 = 2 then (if (a1_2 == 0 && (a1_3 == 0 && (a1_4 == 0))) = true then (if a1_5 = 0 then ((bf l0_0 l0_1 l1_6 (wrap64 (a2 - 1))).bind fun t126 => (if t126 = true then ((bf l0_0 l0_1 l1_7 (wrap64 (a2 - 1))).bind fun t127 => (some t127)) else (some false))) else (some false)) else (some false)) else (some false)))) else (some false)))) = some r := h
 clear h
 by_cases c4 : a2 < 1
 focus (
 rw [if_pos c4] at H
 have c4b0 := decide_eq_true c4
 clear c4
 obtain rfl := Option.some.inj H
 have tag0_ : Za True := ⟨trivial⟩)
 rotate_left
 focus (
 rw [if_neg c4] at H
 have c4b0 := decide_eq_false c4
 clear c4
 obtain ⟨t123, A7, H⟩ := ZOB H; try dsimp only at H
 by_cases c8 : t123 = true
 focus (
 subst c8
 have H1 := H; rw [if_pos rfl] at H1
 clear H
 have H := H1
 clear H1
 by_cases c9 : a1_0 = 1
 focus (
 rw [if_pos c9] at H
 have c9b0 := beq_iff_eq.mpr c9
 have c9b1 := bne_eq_false_iff_eq.mpr c9
 clear c9
 obtain ⟨t124, A10, H⟩ := ZOB H; try dsimp only at H
 by_cases c11 : t124 = true
 focus (
 subst c11
 have H1 := H; rw [if_pos rfl] at H1
 clear H
 have H := H1
 clear H1
 by_cases c12 : a1_5 = 0
 focus (
 rw [if_pos c12] at H
 have c12b0 := beq_iff_eq.mpr c12
 have c12b1 := bne_eq_false_iff_eq.mpr c12
 clear c12
 obtain rfl := Option.some.inj H
 have tag1_ : Za True := ⟨trivial⟩)
 rotate_left
 focus (
 rw [if_neg c12] at H
 have c12b0 := beq_eq_false_iff_ne.mpr c12
 have c12b1 := bne_iff_ne.mpr c12
 obtain rfl := Option.some.inj H
 have tag2_ : Za True := ⟨trivial⟩)
 rotate_left)
 rotate_left 2
 focus (
 replace c11 := Bool.eq_false_iff.mpr c11
 subst c11
 have H1 := H; rw [if_neg ZFT] at H1
 clear H
 have H := H1
 clear H1
 obtain rfl := Option.some.inj H
 have tag3_ : Za True := ⟨trivial⟩)
 rotate_left)
 rotate_left 3
 focus (
 rw [if_neg c9] at H
 have c9b0 := beq_eq_false_iff_ne.mpr c9
 have c9b1 := bne_iff_ne.mpr c9
 by_cases c42 : a1_0 = 3
 focus (
 rw [if_pos c42] at H
 have c42b0 := beq_iff_eq.mpr c42
 have c42b1 := bne_eq_false_iff_eq.mpr c42
 clear c42
 by_cases c43 : (a1_2 == 0 && (a1_3 == 0 && (a1_4 == 0))) = true
 focus (
 rw [if_pos c43] at H
 have c43b0 : (a1_2 == 0 && (a1_3 == 0 && (a1_4 == 0))) = true := c43
 (try (have c43b1 : decide (a1_2 = 0 && (a1_3 == 0 && (a1_4 == 0))) = true := by simpa using c43))
 (try (have c43b2 : (a1_2 == 0 && (a1_3 == 0 && (a1_4 == 0))) = true := by simpa using c43))
 clear c43
 obtain ⟨t125, A44, H⟩ := ZOB H; try dsimp only at H
 by_cases c45 : t125 = true
 focus (
 subst c45
 have H1 := H; rw [if_pos rfl] at H1
 clear H
 have H := H1
 clear H1
 obtain rfl := Option.some.inj H
 have tag4_ : Za True := ⟨trivial⟩)
 rotate_left
 focus (
 replace c45 := Bool.eq_false_iff.mpr c45
 subst c45
 have H1 := H; rw [if_neg ZFT] at H1
 clear H
 have H := H1
 clear H1
 obtain rfl := Option.some.inj H
 have tag5_ : Za True := ⟨trivial⟩)
 rotate_left)
 rotate_left 2
 focus (
 rw [if_neg c43] at H
 have c43b0 : (a1_2 == 0 && (a1_3 == 0 && (a1_4 == 0))) = false := by simpa using c43
 (try (have c43b1 : decide (a1_2 = 0 && (a1_3 == 0 && (a1_4 == 0))) = false := by simpa using c43))
 (try (have c43b2 : (a1_2 == 0 && (a1_3 == 0 && (a1_4 == 0))) = false := by simpa using c43))
 (try (have c43b3 : ¬ (a1_2 = 0 && (a1_3 == 0 && (a1_4 == 0))) := by simpa using c43))
 clear c43
 obtain rfl := Option.some.inj H
 have tag6_ : Za True := ⟨trivial⟩)
 rotate_left)
 rotate_left 3
 focus (
 rw [if_neg c42] at H
 have c42b0 := beq_eq_false_iff_ne.mpr c42
 have c42b1 := bne_iff_ne.mpr c42
 by_cases c67 : a1_0 = 2
 focus (
 rw [if_pos c67] at H
 have c67b0 := beq_iff_eq.mpr c67
 have c67b1 := bne_eq_false_iff_eq.mpr c67
 clear c67
 by_cases c68 : (a1_2 == 0 && (a1_3 == 0 && (a1_4 == 0))) = true
 focus (
 rw [if_pos c68] at H
 have c68b0 : (a1_2 == 0 && (a1_3 == 0 && (a1_4 == 0))) = true := c68
 (try (have c68b1 : decide (a1_2 = 0 && (a1_3 == 0 && (a1_4 == 0))) = true := by simpa using c68))
 (try (have c68b2 : (a1_2 == 0 && (a1_3 == 0 && (a1_4 == 0))) = true := by simpa using c68))
 clear c68
 by_cases c69 : a1_5 = 0
 focus (
 rw [if_pos c69] at H
 have c69b0 := beq_iff_eq.mpr c69
 have c69b1 := bne_eq_false_iff_eq.mpr c69
 clear c69
 obtain ⟨t126, A70, H⟩ := ZOB H; try dsimp only at H
 by_cases c71 : t126 = true
 focus (
 subst c71
 have H1 := H; rw [if_pos rfl] at H1
 clear H
 have H := H1
 clear H1
 obtain ⟨t127, A72, H⟩ := ZOB H; try dsimp only at H
 obtain rfl := Option.some.inj H
 have tag7_ : Za True := ⟨trivial⟩)
 rotate_left
 focus (
 replace c71 := Bool.eq_false_iff.mpr c71
 subst c71
 have H1 := H; rw [if_neg ZFT] at H1
 clear H
 have H := H1
 clear H1
 obtain rfl := Option.some.inj H
 have tag8_ : Za True := ⟨trivial⟩)
 rotate_left)
 rotate_left 2
 focus (
 rw [if_neg c69] at H
 have c69b0 := beq_eq_false_iff_ne.mpr c69
 have c69b1 := bne_iff_ne.mpr c69
 obtain rfl := Option.some.inj H
 have tag9_ : Za True := ⟨trivial⟩)
 rotate_left)
 rotate_left 3
 focus (
 rw [if_neg c68] at H
 have c68b0 : (a1_2 == 0 && (a1_3 == 0 && (a1_4 == 0))) = false := by simpa using c68
 (try (have c68b1 : decide (a1_2 = 0 && (a1_3 == 0 && (a1_4 == 0))) = false := by simpa using c68))
 (try (have c68b2 : (a1_2 == 0 && (a1_3 == 0 && (a1_4 == 0))) = false := by simpa using c68))
 (try (have c68b3 : ¬ (a1_2 = 0 && (a1_3 == 0 && (a1_4 == 0))) := by simpa using c68))
 clear c68
 obtain rfl := Option.some.inj H
 have tag10_ : Za True := ⟨trivial⟩)
 rotate_left)
 rotate_left 4
 focus (
 rw [if_neg c67] at H
 have c67b0 := beq_eq_false_iff_ne.mpr c67
 have c67b1 := bne_iff_ne.mpr c67
 obtain rfl := Option.some.inj H
 have tag11_ : Za True := ⟨trivial⟩)
 rotate_left)
 rotate_left 5)
 rotate_left 8)
 rotate_left 11
 focus (
 replace c8 := Bool.eq_false_iff.mpr c8
 subst c8
 have H1 := H; rw [if_neg ZFT] at H1
 clear H
 have H := H1
 clear H1
 obtain rfl := Option.some.inj H
 have tag12_ : Za True := ⟨trivial⟩)
 rotate_left)
 rotate_left 12
 all_goals (
 go_enter Try.func70, Try.ntmps70
 first
 | (
 (have z_ := tag0_; clear z_)
 go_wp2_with (first | ((with_reducible refine gate_dst (N := 3) rfl ?_); refine ZX (N := 3) (cs := #[.slice A0_0 l0_0.length c0_0, .slice A0_1 l0_1.length c0_1]) (t := 26) ?_; intro gbq0 hg wq0 hbox hb; have BKq0 := AM (hbox); have GWq0 : Za (w.heap.size ≤ gbq0) := ZS hg; replace HB := ZT HB hb; clear hb hbox hg) | ((with_reducible refine gate_dst (N := 4) rfl ?_); refine ZX (N := 4) (cs := #[.int .i64 a1_0, .int .i64 a1_1, .int .i64 a1_2, .int .i64 a1_3, .int .i64 a1_4, .int .i64 a1_5, .slice A1_6 l1_6.length c1_6, .slice A1_7 l1_7.length c1_7]) (t := 32) ?_; intro gbq1 hg wq1 hbox hb; have BKq1 := AM (hbox); have GWq1 : Za (w.heap.size ≤ gbq1) := ZS hg; have NBq0_122 : Za (gbq0 ≠ gbq1) := ZN hg BKq0; have NBq1_121 : Za (gbq1 ≠ gbq0) := ZM hg BKq0; replace BKq0 := ZW BKq0 hb; replace HB := ZT HB hb; clear hb hbox hg))
 go_ret
 exact ⟨ZE, ZB⟩)
 | (
 (first | (have z_ := tag1_; clear z_) | (have z_ := tag2_; clear z_))
 go_wp2_with (first | ((with_reducible refine gate_dst (N := 3) rfl ?_); refine ZX (N := 3) (cs := #[.slice A0_0 l0_0.length c0_0, .slice A0_1 l0_1.length c0_1]) (t := 26) ?_; intro gbq0 hg wq0 hbox hb; have BKq0 := AM (hbox); have GWq0 : Za (w.heap.size ≤ gbq0) := ZS hg; replace HB := ZT HB hb; clear hb hbox hg) | ((with_reducible refine gate_dst (N := 4) rfl ?_); refine ZX (N := 4) (cs := #[.int .i64 a1_0, .int .i64 a1_1, .int .i64 a1_2, .int .i64 a1_3, .int .i64 a1_4, .int .i64 a1_5, .slice A1_6 l1_6.length c1_6, .slice A1_7 l1_7.length c1_7]) (t := 32) ?_; intro gbq1 hg wq1 hbox hb; have BKq1 := AM (hbox); have GWq1 : Za (w.heap.size ≤ gbq1) := ZS hg; have NBq0_122 : Za (gbq0 ≠ gbq1) := ZN hg BKq0; have NBq1_121 : Za (gbq1 ≠ gbq0) := ZM hg BKq0; replace BKq0 := ZW BKq0 hb; replace HB := ZT HB hb; clear hb hbox hg; have hnbq0 := NBq0_122.out; have hncq0 := NBq1_121.out; have hczq0 := ZC2 wq1 BKq0; have hfzq0 := ZF2 BKq0; have hczq1 := ZC8 wq1 BKq1; have hfzq1 := ZF8 BKq1) | (go_at_call 87; (with_reducible refine (spec_l2Var.calls _ _ l0_0 _ _ l0_1 a1_1 true _ (ZQ (Kd.C_below HR0_0.out HB.out)) HC0_0.out (ZQ (Kd.C_below HR0_1.out HB.out)) HC0_1.out A7.out).mono ?_); rintro e wq2 ⟨rfl, hb⟩; replace BKq0 := ZW BKq0 hb; replace BKq1 := ZW BKq1 hb; replace HB := ZT HB hb; clear hb; have hczq2 := ZC8 wq2 BKq1; have hfzq2 := ZF8 BKq1; have hczq3 := ZC2 wq2 BKq0; have hfzq3 := ZF2 BKq0) | ((with_reducible refine gate_callee (f := 88) rfl ?_); refine ZGL (some 28) Try.func88 #[.agg #[.slice A0_0 l0_0.length c0_0, .slice A0_1 l0_1.length c0_1], .agg #[.int .i64 a1_2, .int .i64 a1_3, .int .i64 a1_4]] ?_; (with_reducible refine (spec_l2Val.calls k _ _ l0_0 _ _ l0_1 a1_2 a1_3 a1_4 true _ (ZQ (Kd.C_below HR0_0.out HB.out)) HC0_0.out (ZQ (Kd.C_below HR0_1.out HB.out)) HC0_1.out A10.out).mono ?_); rintro e wq3 ⟨rfl, hb⟩; refine ⟨_, rfl, ?_⟩; replace BKq0 := ZW BKq0 hb; replace BKq1 := ZW BKq1 hb; replace HB := ZT HB hb; clear hb; have hczq4 := ZC8 wq3 BKq1; have hfzq4 := ZF8 BKq1))
 go_ret
 exact ⟨ZE, ZB⟩)
 | (
 (have z_ := tag3_; clear z_)
 go_wp2_with (first | ((with_reducible refine gate_dst (N := 3) rfl ?_); refine ZX (N := 3) (cs := #[.slice A0_0 l0_0.length c0_0, .slice A0_1 l0_1.length c0_1]) (t := 26) ?_; intro gbq0 hg wq0 hbox hb; have BKq0 := AM (hbox); have GWq0 : Za (w.heap.size ≤ gbq0) := ZS hg; replace HB := ZT HB hb; clear hb hbox hg) | ((with_reducible refine gate_dst (N := 4) rfl ?_); refine ZX (N := 4) (cs := #[.int .i64 a1_0, .int .i64 a1_1, .int .i64 a1_2, .int .i64 a1_3, .int .i64 a1_4, .int .i64 a1_5, .slice A1_6 l1_6.length c1_6, .slice A1_7 l1_7.length c1_7]) (t := 32) ?_; intro gbq1 hg wq1 hbox hb; have BKq1 := AM (hbox); have GWq1 : Za (w.heap.size ≤ gbq1) := ZS hg; have NBq0_122 : Za (gbq0 ≠ gbq1) := ZN hg BKq0; have NBq1_121 : Za (gbq1 ≠ gbq0) := ZM hg BKq0; replace BKq0 := ZW BKq0 hb; replace HB := ZT HB hb; clear hb hbox hg; have hnbq0 := NBq0_122.out; have hncq0 := NBq1_121.out; have hczq0 := ZC2 wq1 BKq0; have hfzq0 := ZF2 BKq0; have hczq1 := ZC8 wq1 BKq1; have hfzq1 := ZF8 BKq1) | (go_at_call 87; (with_reducible refine (spec_l2Var.calls _ _ l0_0 _ _ l0_1 a1_1 true _ (ZQ (Kd.C_below HR0_0.out HB.out)) HC0_0.out (ZQ (Kd.C_below HR0_1.out HB.out)) HC0_1.out A7.out).mono ?_); rintro e wq2 ⟨rfl, hb⟩; replace BKq0 := ZW BKq0 hb; replace BKq1 := ZW BKq1 hb; replace HB := ZT HB hb; clear hb; have hczq2 := ZC8 wq2 BKq1; have hfzq2 := ZF8 BKq1; have hczq3 := ZC2 wq2 BKq0; have hfzq3 := ZF2 BKq0) | ((with_reducible refine gate_callee (f := 88) rfl ?_); refine ZGL (some 28) Try.func88 #[.agg #[.slice A0_0 l0_0.length c0_0, .slice A0_1 l0_1.length c0_1], .agg #[.int .i64 a1_2, .int .i64 a1_3, .int .i64 a1_4]] ?_; (with_reducible refine (spec_l2Val.calls k _ _ l0_0 _ _ l0_1 a1_2 a1_3 a1_4 false _ (ZQ (Kd.C_below HR0_0.out HB.out)) HC0_0.out (ZQ (Kd.C_below HR0_1.out HB.out)) HC0_1.out A10.out).mono ?_); rintro e wq3 ⟨rfl, hb⟩; refine ⟨_, rfl, ?_⟩; replace BKq0 := ZW BKq0 hb; replace BKq1 := ZW BKq1 hb; replace HB := ZT HB hb; clear hb))
 go_ret
 exact ⟨ZE, ZB⟩)
 | (
 (have z_ := tag4_; clear z_)
 go_wp2_with (first | ((with_reducible refine gate_dst (N := 3) rfl ?_); refine ZX (N := 3) (cs := #[.slice A0_0 l0_0.length c0_0, .slice A0_1 l0_1.length c0_1]) (t := 26) ?_; intro gbq0 hg wq0 hbox hb; have BKq0 := AM (hbox); have GWq0 : Za (w.heap.size ≤ gbq0) := ZS hg; replace HB := ZT HB hb; clear hb hbox hg) | ((with_reducible refine gate_dst (N := 4) rfl ?_); refine ZX (N := 4) (cs := #[.int .i64 a1_0, .int .i64 a1_1, .int .i64 a1_2, .int .i64 a1_3, .int .i64 a1_4, .int .i64 a1_5, .slice A1_6 l1_6.length c1_6, .slice A1_7 l1_7.length c1_7]) (t := 32) ?_; intro gbq1 hg wq1 hbox hb; have BKq1 := AM (hbox); have GWq1 : Za (w.heap.size ≤ gbq1) := ZS hg; have NBq0_122 : Za (gbq0 ≠ gbq1) := ZN hg BKq0; have NBq1_121 : Za (gbq1 ≠ gbq0) := ZM hg BKq0; replace BKq0 := ZW BKq0 hb; replace HB := ZT HB hb; clear hb hbox hg; have hnbq0 := NBq0_122.out; have hncq0 := NBq1_121.out; have hczq0 := ZC2 wq1 BKq0; have hfzq0 := ZF2 BKq0; have hczq1 := ZC8 wq1 BKq1; have hfzq1 := ZF8 BKq1) | (go_at_call 87; (with_reducible refine (spec_l2Var.calls _ _ l0_0 _ _ l0_1 a1_1 true _ (ZQ (Kd.C_below HR0_0.out HB.out)) HC0_0.out (ZQ (Kd.C_below HR0_1.out HB.out)) HC0_1.out A7.out).mono ?_); rintro e wq2 ⟨rfl, hb⟩; replace BKq0 := ZW BKq0 hb; replace BKq1 := ZW BKq1 hb; replace HB := ZT HB hb; clear hb; have hczq2 := ZC8 wq2 BKq1; have hfzq2 := ZF8 BKq1) | (go_at_call 86; (with_reducible refine (spec_l6In.calls a1_5 0 2 true _ A44.out).mono ?_); rintro e w' ⟨rfl, ⟨nd, rfl⟩⟩))
 go_ret
 exact ⟨ZE, ZB⟩)
 | (
 (have z_ := tag5_; clear z_)
 go_wp2_with (first | ((with_reducible refine gate_dst (N := 3) rfl ?_); refine ZX (N := 3) (cs := #[.slice A0_0 l0_0.length c0_0, .slice A0_1 l0_1.length c0_1]) (t := 26) ?_; intro gbq0 hg wq0 hbox hb; have BKq0 := AM (hbox); have GWq0 : Za (w.heap.size ≤ gbq0) := ZS hg; replace HB := ZT HB hb; clear hb hbox hg) | ((with_reducible refine gate_dst (N := 4) rfl ?_); refine ZX (N := 4) (cs := #[.int .i64 a1_0, .int .i64 a1_1, .int .i64 a1_2, .int .i64 a1_3, .int .i64 a1_4, .int .i64 a1_5, .slice A1_6 l1_6.length c1_6, .slice A1_7 l1_7.length c1_7]) (t := 32) ?_; intro gbq1 hg wq1 hbox hb; have BKq1 := AM (hbox); have GWq1 : Za (w.heap.size ≤ gbq1) := ZS hg; have NBq0_122 : Za (gbq0 ≠ gbq1) := ZN hg BKq0; have NBq1_121 : Za (gbq1 ≠ gbq0) := ZM hg BKq0; replace BKq0 := ZW BKq0 hb; replace HB := ZT HB hb; clear hb hbox hg; have hnbq0 := NBq0_122.out; have hncq0 := NBq1_121.out; have hczq0 := ZC2 wq1 BKq0; have hfzq0 := ZF2 BKq0; have hczq1 := ZC8 wq1 BKq1; have hfzq1 := ZF8 BKq1) | (go_at_call 87; (with_reducible refine (spec_l2Var.calls _ _ l0_0 _ _ l0_1 a1_1 true _ (ZQ (Kd.C_below HR0_0.out HB.out)) HC0_0.out (ZQ (Kd.C_below HR0_1.out HB.out)) HC0_1.out A7.out).mono ?_); rintro e wq2 ⟨rfl, hb⟩; replace BKq0 := ZW BKq0 hb; replace BKq1 := ZW BKq1 hb; replace HB := ZT HB hb; clear hb; have hczq2 := ZC8 wq2 BKq1; have hfzq2 := ZF8 BKq1) | (go_at_call 86; (with_reducible refine (spec_l6In.calls a1_5 0 2 false _ A44.out).mono ?_); rintro e w' ⟨rfl, ⟨nd, rfl⟩⟩))
 go_ret
 exact ⟨ZE, ZB⟩)
 | (
 (first | (have z_ := tag6_; clear z_) | (have z_ := tag9_; clear z_) | (have z_ := tag10_; clear z_) | (have z_ := tag11_; clear z_))
 go_wp2_with (first | ((with_reducible refine gate_dst (N := 3) rfl ?_); refine ZX (N := 3) (cs := #[.slice A0_0 l0_0.length c0_0, .slice A0_1 l0_1.length c0_1]) (t := 26) ?_; intro gbq0 hg wq0 hbox hb; have BKq0 := AM (hbox); have GWq0 : Za (w.heap.size ≤ gbq0) := ZS hg; replace HB := ZT HB hb; clear hb hbox hg) | ((with_reducible refine gate_dst (N := 4) rfl ?_); refine ZX (N := 4) (cs := #[.int .i64 a1_0, .int .i64 a1_1, .int .i64 a1_2, .int .i64 a1_3, .int .i64 a1_4, .int .i64 a1_5, .slice A1_6 l1_6.length c1_6, .slice A1_7 l1_7.length c1_7]) (t := 32) ?_; intro gbq1 hg wq1 hbox hb; have BKq1 := AM (hbox); have GWq1 : Za (w.heap.size ≤ gbq1) := ZS hg; have NBq0_122 : Za (gbq0 ≠ gbq1) := ZN hg BKq0; have NBq1_121 : Za (gbq1 ≠ gbq0) := ZM hg BKq0; replace BKq0 := ZW BKq0 hb; replace HB := ZT HB hb; clear hb hbox hg; have hnbq0 := NBq0_122.out; have hncq0 := NBq1_121.out; have hczq0 := ZC2 wq1 BKq0; have hfzq0 := ZF2 BKq0; have hczq1 := ZC8 wq1 BKq1; have hfzq1 := ZF8 BKq1) | (go_at_call 87; (with_reducible refine (spec_l2Var.calls _ _ l0_0 _ _ l0_1 a1_1 true _ (ZQ (Kd.C_below HR0_0.out HB.out)) HC0_0.out (ZQ (Kd.C_below HR0_1.out HB.out)) HC0_1.out A7.out).mono ?_); rintro e wq2 ⟨rfl, hb⟩; replace BKq0 := ZW BKq0 hb; replace BKq1 := ZW BKq1 hb; replace HB := ZT HB hb; clear hb; have hczq2 := ZC8 wq2 BKq1; have hfzq2 := ZF8 BKq1))
 go_ret
 exact ⟨ZE, ZB⟩)
 | (
 (have z_ := tag7_; clear z_)
 go_wp2_with (first | ((with_reducible refine gate_dst (N := 3) rfl ?_); refine ZX (N := 3) (cs := #[.slice A0_0 l0_0.length c0_0, .slice A0_1 l0_1.length c0_1]) (t := 26) ?_; intro gbq0 hg wq0 hbox hb; have BKq0 := AM (hbox); have GWq0 : Za (w.heap.size ≤ gbq0) := ZS hg; replace HB := ZT HB hb; clear hb hbox hg) | ((with_reducible refine gate_dst (N := 4) rfl ?_); refine ZX (N := 4) (cs := #[.int .i64 a1_0, .int .i64 a1_1, .int .i64 a1_2, .int .i64 a1_3, .int .i64 a1_4, .int .i64 a1_5, .slice A1_6 l1_6.length c1_6, .slice A1_7 l1_7.length c1_7]) (t := 32) ?_; intro gbq1 hg wq1 hbox hb; have BKq1 := AM (hbox); have GWq1 : Za (w.heap.size ≤ gbq1) := ZS hg; have NBq0_122 : Za (gbq0 ≠ gbq1) := ZN hg BKq0; have NBq1_121 : Za (gbq1 ≠ gbq0) := ZM hg BKq0; replace BKq0 := ZW BKq0 hb; replace HB := ZT HB hb; clear hb hbox hg; have hnbq0 := NBq0_122.out; have hncq0 := NBq1_121.out; have hczq0 := ZC2 wq1 BKq0; have hfzq0 := ZF2 BKq0; have hczq1 := ZC8 wq1 BKq1; have hfzq1 := ZF8 BKq1) | (go_at_call 87; (with_reducible refine (spec_l2Var.calls _ _ l0_0 _ _ l0_1 a1_1 true _ (ZQ (Kd.C_below HR0_0.out HB.out)) HC0_0.out (ZQ (Kd.C_below HR0_1.out HB.out)) HC0_1.out A7.out).mono ?_); rintro e wq2 ⟨rfl, hb⟩; replace BKq0 := ZW BKq0 hb; replace BKq1 := ZW BKq1 hb; replace HB := ZT HB hb; clear hb; have hczq2 := ZC8 wq2 BKq1; have hfzq2 := ZF8 BKq1; have hczq3 := ZC2 wq2 BKq0; have hfzq3 := ZF2 BKq0) | (go_at_call 45; (with_reducible refine (ihB _ _ l0_0 _ _ l0_1 _ _ l1_6 (wrap64 (a2 - 1)) true _ (ZQ (Kd.C_below HR0_0.out HB.out)) HC0_0.out (ZQ (Kd.C_below HR0_1.out HB.out)) HC0_1.out (ZQ (Kd.C_below HR1_6.out HB.out)) HC1_6.out A70.out).mono ?_); rintro e wq3 ⟨rfl, hb⟩; replace BKq0 := ZW BKq0 hb; replace BKq1 := ZW BKq1 hb; replace HB := ZT HB hb; clear hb; have hczq4 := ZC2 wq3 BKq0; have hfzq4 := ZF2 BKq0; have hczq5 := ZC8 wq3 BKq1; have hfzq5 := ZF8 BKq1) | (go_at_call 45; (with_reducible refine (ihB _ _ l0_0 _ _ l0_1 _ _ l1_7 (wrap64 (a2 - 1)) t127 _ (ZQ (Kd.C_below HR0_0.out HB.out)) HC0_0.out (ZQ (Kd.C_below HR0_1.out HB.out)) HC0_1.out (ZQ (Kd.C_below HR1_7.out HB.out)) HC1_7.out A72.out).mono ?_); rintro e wq4 ⟨rfl, hb⟩; replace BKq0 := ZW BKq0 hb; replace BKq1 := ZW BKq1 hb; replace HB := ZT HB hb; clear hb))
 go_ret
 exact ⟨ZE, ZB⟩)
 | (
 (have z_ := tag8_; clear z_)
 go_wp2_with (first | ((with_reducible refine gate_dst (N := 3) rfl ?_); refine ZX (N := 3) (cs := #[.slice A0_0 l0_0.length c0_0, .slice A0_1 l0_1.length c0_1]) (t := 26) ?_; intro gbq0 hg wq0 hbox hb; have BKq0 := AM (hbox); have GWq0 : Za (w.heap.size ≤ gbq0) := ZS hg; replace HB := ZT HB hb; clear hb hbox hg) | ((with_reducible refine gate_dst (N := 4) rfl ?_); refine ZX (N := 4) (cs := #[.int .i64 a1_0, .int .i64 a1_1, .int .i64 a1_2, .int .i64 a1_3, .int .i64 a1_4, .int .i64 a1_5, .slice A1_6 l1_6.length c1_6, .slice A1_7 l1_7.length c1_7]) (t := 32) ?_; intro gbq1 hg wq1 hbox hb; have BKq1 := AM (hbox); have GWq1 : Za (w.heap.size ≤ gbq1) := ZS hg; have NBq0_122 : Za (gbq0 ≠ gbq1) := ZN hg BKq0; have NBq1_121 : Za (gbq1 ≠ gbq0) := ZM hg BKq0; replace BKq0 := ZW BKq0 hb; replace HB := ZT HB hb; clear hb hbox hg; have hnbq0 := NBq0_122.out; have hncq0 := NBq1_121.out; have hczq0 := ZC2 wq1 BKq0; have hfzq0 := ZF2 BKq0; have hczq1 := ZC8 wq1 BKq1; have hfzq1 := ZF8 BKq1) | (go_at_call 87; (with_reducible refine (spec_l2Var.calls _ _ l0_0 _ _ l0_1 a1_1 true _ (ZQ (Kd.C_below HR0_0.out HB.out)) HC0_0.out (ZQ (Kd.C_below HR0_1.out HB.out)) HC0_1.out A7.out).mono ?_); rintro e wq2 ⟨rfl, hb⟩; replace BKq0 := ZW BKq0 hb; replace BKq1 := ZW BKq1 hb; replace HB := ZT HB hb; clear hb; have hczq2 := ZC8 wq2 BKq1; have hfzq2 := ZF8 BKq1; have hczq3 := ZC2 wq2 BKq0; have hfzq3 := ZF2 BKq0) | (go_at_call 45; (with_reducible refine (ihB _ _ l0_0 _ _ l0_1 _ _ l1_6 (wrap64 (a2 - 1)) false _ (ZQ (Kd.C_below HR0_0.out HB.out)) HC0_0.out (ZQ (Kd.C_below HR0_1.out HB.out)) HC0_1.out (ZQ (Kd.C_below HR1_6.out HB.out)) HC1_6.out A70.out).mono ?_); rintro e wq3 ⟨rfl, hb⟩; replace BKq0 := ZW BKq0 hb; replace BKq1 := ZW BKq1 hb; replace HB := ZT HB hb; clear hb))
 go_ret
 exact ⟨ZE, ZB⟩)
 | (
 (have z_ := tag12_; clear z_)
 go_wp2_with (first | ((with_reducible refine gate_dst (N := 3) rfl ?_); refine ZX (N := 3) (cs := #[.slice A0_0 l0_0.length c0_0, .slice A0_1 l0_1.length c0_1]) (t := 26) ?_; intro gbq0 hg wq0 hbox hb; have BKq0 := AM (hbox); have GWq0 : Za (w.heap.size ≤ gbq0) := ZS hg; replace HB := ZT HB hb; clear hb hbox hg) | ((with_reducible refine gate_dst (N := 4) rfl ?_); refine ZX (N := 4) (cs := #[.int .i64 a1_0, .int .i64 a1_1, .int .i64 a1_2, .int .i64 a1_3, .int .i64 a1_4, .int .i64 a1_5, .slice A1_6 l1_6.length c1_6, .slice A1_7 l1_7.length c1_7]) (t := 32) ?_; intro gbq1 hg wq1 hbox hb; have BKq1 := AM (hbox); have GWq1 : Za (w.heap.size ≤ gbq1) := ZS hg; have NBq0_122 : Za (gbq0 ≠ gbq1) := ZN hg BKq0; have NBq1_121 : Za (gbq1 ≠ gbq0) := ZM hg BKq0; replace BKq0 := ZW BKq0 hb; replace HB := ZT HB hb; clear hb hbox hg; have hnbq0 := NBq0_122.out; have hncq0 := NBq1_121.out; have hczq0 := ZC2 wq1 BKq0; have hfzq0 := ZF2 BKq0; have hczq1 := ZC8 wq1 BKq1; have hfzq1 := ZF8 BKq1) | (go_at_call 87; (with_reducible refine (spec_l2Var.calls _ _ l0_0 _ _ l0_1 a1_1 false _ (ZQ (Kd.C_below HR0_0.out HB.out)) HC0_0.out (ZQ (Kd.C_below HR0_1.out HB.out)) HC0_1.out A7.out).mono ?_); rintro e wq2 ⟨rfl, hb⟩; replace BKq0 := ZW BKq0 hb; replace BKq1 := ZW BKq1 hb; replace HB := ZT HB hb; clear hb))
 go_ret
 exact ⟨ZE, ZB⟩))

/-! ### spec_l2Steps: function 45 -/
mutual
def spec_l2Steps.l0 : Nat → List (S32) → Int → Int → List (S39) → List (S32) → Option (Bool)
 | 0, _, _, _, _, _ => none
 | k + 1, x1, x2, x7, x129000, x129001 => if x7 < (x1.length : Int) then (if 0 ≤ x7 then ((spec_l2Step.g k (spec_l2Steps.f k) x129000 x129001 ((D32 x1 x7).f0) ((D32 x1 x7).f1) ((D32 x1 x7).f2.f0) ((D32 x1 x7).f2.f1) ((D32 x1 x7).f2.f2) ((D32 x1 x7).f3) ((D32 x1 x7).f4) ((D32 x1 x7).f5) x2).bind fun t130 => (if t130 = true then (spec_l2Steps.l0 k x1 x2 (wrap64 (x7 + 1)) x129000 x129001) else (some false))) else (none)) else (some true)
def spec_l2Steps.f : Nat → List (S39) → List (S32) → List (S32) → Int → Option (Bool)
 | 0, _, _, _, _ => none
 | k + 1, l0_0, l0_1, l1, a2 => spec_l2Steps.l0 k l1 a2 0 l0_0 l0_1
end
def spec_l2Steps.T4 : Bool × List (List Nat × List Nat) := (true, [([], []), ([], []), ([], []), ([1, 2], [1, 2]), ([3], [3]), ([], []), ([0, 4, 5], [0, 4, 5]), ([6], [6])])
def spec_l2Steps.B4 : List Nat := [0, 0, 0, 6, 14, 0, 63, 127]
theorem spec_l2Steps.tab4 : rtab .any (opsOf Try.f45 4) = spec_l2Steps.T4 := by kernel_rfl
theorem spec_l2Steps.bits4 : waitsOk spec_l2Steps.T4.2 spec_l2Steps.B4 = true := by kernel_rfl
theorem spec_l2Step.calls_of {K : Nat} (ih : ∀ m, m < K → ∀ (A0_0 : Option Addr) (c0_0 : Nat) (l0_0 : List (S39)) (A0_1 : Option Addr) (c0_1 : Nat) (l0_1 : List (S32)) (A1 : Option Addr) (c1 : Nat) (l1 : List (S32)) (a2 : Int) (r : Bool) (w : World) (hr0_0 : Kd.C k39 w A0_0 l0_0.length l0_0) (hc0_0 : l0_0.length ≤ c0_0) (hr0_1 : Kd.C k32 w A0_1 l0_1.length l0_1) (hc0_1 : l0_1.length ≤ c0_1) (hr1 : Kd.C k32 w A1 l1.length l1) (hc1 : l1.length ≤ c1) (h : spec_l2Steps.f m l0_0 l0_1 l1 a2 = some r),
  Calls Try.prog 45 #[.agg #[.slice A0_0 l0_0.length c0_0, .slice A0_1 l0_1.length c0_1], .slice A1 l1.length c1, .int .i64 a2] w fun e w' => e = .returned (.bool r) ∧ Below w.heap.size w w') (k : Nat) (hk : k < K) (A0_0 : Option Addr) (c0_0 : Nat) (l0_0 : List (S39)) (A0_1 : Option Addr) (c0_1 : Nat) (l0_1 : List (S32)) (a1_0 : Int) (a1_1 : Int) (a1_2 : Int) (a1_3 : Int) (a1_4 : Int) (a1_5 : Int) (A1_6 : Option Addr) (c1_6 : Nat) (l1_6 : List (S32)) (A1_7 : Option Addr) (c1_7 : Nat) (l1_7 : List (S32)) (a2 : Int) (r : Bool) (w : World) (hr0_0 : Kd.C k39 w A0_0 l0_0.length l0_0) (hc0_0 : l0_0.length ≤ c0_0) (hr0_1 : Kd.C k32 w A0_1 l0_1.length l0_1) (hc0_1 : l0_1.length ≤ c0_1) (hr1_6 : Kd.C k32 w A1_6 l1_6.length l1_6) (hc1_6 : l1_6.length ≤ c1_6) (hr1_7 : Kd.C k32 w A1_7 l1_7.length l1_7) (hc1_7 : l1_7.length ≤ c1_7) (h : spec_l2Step.g k (spec_l2Steps.f k) l0_0 l0_1 a1_0 a1_1 a1_2 a1_3 a1_4 a1_5 l1_6 l1_7 a2 = some r) :
  Calls Try.prog 70 #[.agg #[.slice A0_0 l0_0.length c0_0, .slice A0_1 l0_1.length c0_1], .agg #[.int .i64 a1_0, .int .i64 a1_1, .int .i64 a1_2, .int .i64 a1_3, .int .i64 a1_4, .int .i64 a1_5, .slice A1_6 l1_6.length c1_6, .slice A1_7 l1_7.length c1_7], .int .i64 a2] w fun e w' => e = .returned (.bool r) ∧ Below w.heap.size w w' := spec_l2Step.calls_g k (spec_l2Steps.f k) (ih k hk) A0_0 c0_0 l0_0 A0_1 c0_1 l0_1 a1_0 a1_1 a1_2 a1_3 a1_4 a1_5 A1_6 c1_6 l1_6 A1_7 c1_7 l1_7 a2 r w hr0_0 hc0_0 hr0_1 hc0_1 hr1_6 hc1_6 hr1_7 hc1_7 h
theorem spec_l2Steps.calls (k : Nat) : ∀ (A0_0 : Option Addr) (c0_0 : Nat) (l0_0 : List (S39)) (A0_1 : Option Addr) (c0_1 : Nat) (l0_1 : List (S32)) (A1 : Option Addr) (c1 : Nat) (l1 : List (S32)) (a2 : Int) (r : Bool) (w : World) (hr0_0 : Kd.C k39 w A0_0 l0_0.length l0_0) (hc0_0 : l0_0.length ≤ c0_0) (hr0_1 : Kd.C k32 w A0_1 l0_1.length l0_1) (hc0_1 : l0_1.length ≤ c0_1) (hr1 : Kd.C k32 w A1 l1.length l1) (hc1 : l1.length ≤ c1) (h : spec_l2Steps.f k l0_0 l0_1 l1 a2 = some r),
  Calls Try.prog 45 #[.agg #[.slice A0_0 l0_0.length c0_0, .slice A0_1 l0_1.length c0_1], .slice A1 l1.length c1, .int .i64 a2] w fun e w' => e = .returned (.bool r) ∧ Below w.heap.size w w' := by
 induction k using Nat.strongRecOn with
 | _ k ih =>
 intro A0_0 c0_0 l0_0 A0_1 c0_1 l0_1 A1 c1 l1 a2 r w hr0_0 hc0_0 hr0_1 hc0_1 hr1 hc1 h
 cases k with
 | zero => exact absurd h (by simp [spec_l2Steps.f])
 | succ k =>
 simp only [spec_l2Steps.f] at h
 have hu26 := Try.underlying26
 have hu32 := Try.underlying32
 have HR0_0 := AM hr0_0
 have HC0_0 := AM hc0_0
 clear hr0_0 hc0_0
 have HR0_1 := AM hr0_1
 have HC0_1 := AM hc0_1
 clear hr0_1 hc0_1
 have HR1 := AM hr1
 have HC1 := AM hc1
 clear hr1 hc1
 have HB := AM (Below.refl w.heap.size w)
 have H : (spec_l2Steps.l0 k l1 a2 0 l0_0 l0_1) = some r := h
 clear h
 have H' := AM H
 clear H
 go_enter Try.func45, Try.ntmps45
 go_wp2_with (first | ((with_reducible refine gate_dst (N := 3) rfl ?_); refine ZX (N := 3) (cs := #[.slice A0_0 l0_0.length c0_0, .slice A0_1 l0_1.length c0_1]) (t := 26) ?_; intro gb128 hg w4 hbox hb; have BK128 := AM (hbox); have GW128 : Za (w.heap.size ≤ gb128) := ZS hg; replace HB := ZT HB hb; clear hb hbox hg))
 go_loopg [7] k (fun kq v7 w' => ∃ (x7_1 : Int), v7 = .int .i64 x7_1 ∧ Za (spec_l2Steps.l0 kq l1 a2 x7_1 l0_0 l0_1 = some r) ∧ Za (kq ≤ k) ∧ Za (w'.heap[gb128]? = some (.cells #[(.slice A0_0 l0_0.length c0_0), (.slice A0_1 l0_1.length c0_1)] 26 (0, 0))) ∧ Za (Below w.heap.size w w'))
 case atStart => exact ⟨(0), (by first | rfl | (simp; done) | (simp [*]; done)), H', ⟨Nat.le_refl _⟩, ⟨ZK BK128.out⟩, ⟨ZB⟩⟩
 case round => (
 clear H'
 try clear c1
 try clear p2
 try clear c4
 obtain ⟨x7_1, rfl, HA, HK1, BK128, HB⟩ := hrel
 cases gk with
 | zero => exact absurd HA.out (by simp [spec_l2Steps.l0])
 | succ k1 =>
  have H := HA.out
  clear HA
  simp only [spec_l2Steps.l0] at H
  by_cases c5 : x7_1 < (l1.length : Int)
  focus (
  rw [if_pos c5] at H
  have c5b0 := decide_eq_true c5
  clear c5
  by_cases c6 : 0 ≤ x7_1
  focus (
  rw [if_pos c6] at H
  have c6b0 := decide_eq_true c6
  clear c6
  obtain ⟨t130, A7, H⟩ := ZOB H; try dsimp only at H
  by_cases c8 : t130 = true
  focus (
  subst c8
  have H1 := H; rw [if_pos rfl] at H1
  clear H
  have H := H1
  clear H1
  have H' := AM H
  clear H
  have tag0_ : Za True := ⟨trivial⟩)
  rotate_left
  focus (
  replace c8 := Bool.eq_false_iff.mpr c8
  subst c8
  have H1 := H; rw [if_neg ZFT] at H1
  clear H
  have H := H1
  clear H1
  obtain rfl := Option.some.inj H
  have tag1_ : Za True := ⟨trivial⟩)
  rotate_left)
  rotate_left 2
  focus (
  exact ZNE H c6))
  rotate_left 2
  focus (
  rw [if_neg c5] at H
  have c5b0 := decide_eq_false c5
  clear c5
  obtain rfl := Option.some.inj H
  have tag2_ : Za True := ⟨trivial⟩)
  rotate_left
  all_goals (
  first
  | (
  (first | (have z_ := tag0_; clear z_) | (have z_ := tag1_; clear z_))
  try go_wp2
  replace BK128 := AM (blk_drew BK128.out)
  replace HB := AM (below_drew1 HB.out)
  have pq0 : 0 ≤ (x7_1 : Int) := ZD
  have qq0 : x7_1 < (l1.length : Int) := ZD
  obtain ⟨adq0, Aq0_6, cq0_6, Aq0_7, cq0_7, eq0, hxq0_0, hxq0_1, hxq0_2, hxq0_3, hxq0_4, hxq0_5, hxq0_6, hxq0_7, hlq0_6, hiq0_6, hlq0_7, hiq0_7⟩ := at_T32 HR1.out x7_1 pq0 qq0
  have hwq0_7 := hxq0_7
  have hwq0_6 := hxq0_6
  have hwq0_5 := hxq0_5
  have hwq0_4 := hxq0_4
  have hwq0_3 := hxq0_3
  have hwq0_2 := hxq0_2
  have hwq0_1 := hxq0_1
  have hwq0_0 := hxq0_0
  cases eq0
  replace hxq0_0 := ZHX HB hxq0_0
  replace hxq0_1 := ZHX HB hxq0_1
  replace hxq0_2 := ZHX HB hxq0_2
  replace hxq0_3 := ZHX HB hxq0_3
  replace hxq0_4 := ZHX HB hxq0_4
  replace hxq0_5 := ZHX HB hxq0_5
  replace hxq0_6 := ZHX HB hxq0_6
  replace hxq0_7 := ZHX HB hxq0_7
  have HRq0_6 := AM hiq0_6
  have HCq0_6 := AM hlq0_6
  clear hiq0_6 hlq0_6
  have HRq0_7 := AM hiq0_7
  have HCq0_7 := AM hlq0_7
  clear hiq0_7 hlq0_7
  replace pq0 := eq_true pq0
  replace qq0 := eq_true qq0
  refine start_ (n := 8) (S := fun w' => w'.cell? ⟨gb128, 0, none⟩ = some (.slice A0_0 l0_0.length c0_0) ∧ w'.cell? ⟨gb128, 1, none⟩ = some (.slice A0_1 l0_1.length c0_1) ∧ w'.cell? (adq0.add ((x7_1).toNat * 8)) = some (.int .i64 ((D32 l1 x7_1).f0)) ∧ w'.cell? ⟨(adq0.add ((x7_1).toNat * 8)).block, (adq0.add ((x7_1).toNat * 8)).off + 1, none⟩ = some (.int .i64 ((D32 l1 x7_1).f1)) ∧ w'.cell? ⟨(adq0.add ((x7_1).toNat * 8)).block, (adq0.add ((x7_1).toNat * 8)).off + 2, none⟩ = some (.int .i64 ((D32 l1 x7_1).f2.f0)) ∧ w'.cell? ⟨(adq0.add ((x7_1).toNat * 8)).block, (adq0.add ((x7_1).toNat * 8)).off + 3, none⟩ = some (.int .i64 ((D32 l1 x7_1).f2.f1)) ∧ w'.cell? ⟨(adq0.add ((x7_1).toNat * 8)).block, (adq0.add ((x7_1).toNat * 8)).off + 4, none⟩ = some (.int .i64 ((D32 l1 x7_1).f2.f2)) ∧ w'.cell? ⟨(adq0.add ((x7_1).toNat * 8)).block, (adq0.add ((x7_1).toNat * 8)).off + 5, none⟩ = some (.int .i64 ((D32 l1 x7_1).f3)) ∧ w'.cell? ⟨(adq0.add ((x7_1).toNat * 8)).block, (adq0.add ((x7_1).toNat * 8)).off + 6, none⟩ = some (.slice Aq0_6 ((D32 l1 x7_1).f4).length cq0_6) ∧ w'.cell? ⟨(adq0.add ((x7_1).toNat * 8)).block, (adq0.add ((x7_1).toNat * 8)).off + 7, none⟩ = some (.slice Aq0_7 ((D32 l1 x7_1).f5).length cq0_7)) (ds := []) #[F,F,F,F,F,F,F,F] (by kernel_rfl) rfl rfl ⟨ZA BK128 0, ZA BK128 1, ((HB.out.cell (World.block_lt_of_cell? w _ hwq0_0)).trans hwq0_0), ((HB.out.cell (World.block_lt_of_cell? w _ hwq0_1)).trans hwq0_1), ((HB.out.cell (World.block_lt_of_cell? w _ hwq0_2)).trans hwq0_2), ((HB.out.cell (World.block_lt_of_cell? w _ hwq0_3)).trans hwq0_3), ((HB.out.cell (World.block_lt_of_cell? w _ hwq0_4)).trans hwq0_4), ((HB.out.cell (World.block_lt_of_cell? w _ hwq0_5)).trans hwq0_5), ((HB.out.cell (World.block_lt_of_cell? w _ hwq0_6)).trans hwq0_6), ((HB.out.cell (World.block_lt_of_cell? w _ hwq0_7)).trans hwq0_7)⟩ (fun hHeld => ?_); refine with_tabW spec_l2Steps.tab4 spec_l2Steps.bits4 (fun HT_ HW_ => ?_)
  generalize wr.drew = wq0 at BK128 HB HRq0_6 HRq0_7 hxq0_0 hxq0_1 hxq0_2 hxq0_3 hxq0_4 hxq0_5 hxq0_6 hxq0_7 hHeld ⊢
  refine ZU 1 15 #[F,T,F,F,F,F,F,F] ?_
  refine ZU 2 16 #[F,T,T,F,F,F,F,F] ?_
  refine ZU 3 17 #[F,T,T,T,F,F,F,F] ?_
  refine ZU 5 19 #[F,T,T,T,F,T,F,F] ?_
  refine ZTK 0 14 #[T,T,T,T,F,T,F,F] hHeld ?_
  refine ZTK 4 18 #[T,T,T,T,T,T,F,F] hHeld ?_
  refine one_ (i := 6) (N := some 20) #[T,T,T,T,T,T,T,F] rfl rfl (one_of HT_.out (by kernel_rfl)) (by decide) (fun K hK => ?_)
  refine ZGO Try.func70 #[.agg #[.slice A0_0 l0_0.length c0_0, .slice A0_1 l0_1.length c0_1], .agg #[.int .i64 ((D32 l1 x7_1).f0), .int .i64 ((D32 l1 x7_1).f1), .int .i64 ((D32 l1 x7_1).f2.f0), .int .i64 ((D32 l1 x7_1).f2.f1), .int .i64 ((D32 l1 x7_1).f2.f2), .int .i64 ((D32 l1 x7_1).f3), .slice Aq0_6 ((D32 l1 x7_1).f4).length cq0_6, .slice Aq0_7 ((D32 l1 x7_1).f5).length cq0_7], .int .i64 a2] ?_
  first
  | (
  (have z_ := tag0_; clear z_)
  with_reducible refine ((spec_l2Step.calls_of ih) k1 (by have := HK1.out; omega) _ _ l0_0 _ _ l0_1 ((D32 l1 x7_1).f0) ((D32 l1 x7_1).f1) ((D32 l1 x7_1).f2.f0) ((D32 l1 x7_1).f2.f1) ((D32 l1 x7_1).f2.f2) ((D32 l1 x7_1).f3) _ _ ((D32 l1 x7_1).f4) _ _ ((D32 l1 x7_1).f5) a2 true _ ?side1 ?side2 ?side3 ?side4 ?side5 ?side6 ?side7 ?side8 A7.out).mono ?_
  (case side1 => exact ZQ (Kd.C_below HR0_0.out HB.out))
  (case side2 => exact HC0_0.out)
  (case side3 => exact ZQ (Kd.C_below HR0_1.out HB.out))
  (case side4 => exact HC0_1.out)
  (case side5 => exact ZQ (Kd.C_below HRq0_6.out HB.out))
  (case side6 => exact HCq0_6.out)
  (case side7 => exact ZQ (Kd.C_below HRq0_7.out HB.out))
  (case side8 => exact HCq0_7.out)
  rintro e wq1 ⟨rfl, hb⟩
  refine ⟨_, rfl, ?_⟩
  replace BK128 := ZW BK128 hb
  replace HB := ZT HB hb
  (try clear hb)
  (try clear hb2)
  (try clear hk)
  (try clear hi)
  refine hK.out _ _ ⟨ZA BK128 0, ZA BK128 1, ((HB.out.cell (World.block_lt_of_cell? w _ hwq0_0)).trans hwq0_0), ((HB.out.cell (World.block_lt_of_cell? w _ hwq0_1)).trans hwq0_1), ((HB.out.cell (World.block_lt_of_cell? w _ hwq0_2)).trans hwq0_2), ((HB.out.cell (World.block_lt_of_cell? w _ hwq0_3)).trans hwq0_3), ((HB.out.cell (World.block_lt_of_cell? w _ hwq0_4)).trans hwq0_4), ((HB.out.cell (World.block_lt_of_cell? w _ hwq0_5)).trans hwq0_5), ((HB.out.cell (World.block_lt_of_cell? w _ hwq0_6)).trans hwq0_6), ((HB.out.cell (World.block_lt_of_cell? w _ hwq0_7)).trans hwq0_7)⟩ (fun hHeld => ?_)
  clear hK K
  refine ZNO 20 ?_
  refine ZU 7 21 #[T,T,T,T,T,T,T,T] ?_
  refine done_ (done_of HT_.out (by kernel_rfl)) ?_
  try go_wp2
  go_roundg k1
  case measure => have := HK1.out; omega
  case rel => exact ⟨(wrap64 (x7_1 + 1)), (by first | rfl | (simp; done) | (simp [*]; done)), H', ⟨by have := HK1.out; omega⟩, ⟨ZK BK128.out⟩, ⟨ZB⟩⟩)
  | (
  (have z_ := tag1_; clear z_)
  with_reducible refine ((spec_l2Step.calls_of ih) k1 (by have := HK1.out; omega) _ _ l0_0 _ _ l0_1 ((D32 l1 x7_1).f0) ((D32 l1 x7_1).f1) ((D32 l1 x7_1).f2.f0) ((D32 l1 x7_1).f2.f1) ((D32 l1 x7_1).f2.f2) ((D32 l1 x7_1).f3) _ _ ((D32 l1 x7_1).f4) _ _ ((D32 l1 x7_1).f5) a2 false _ ?side1 ?side2 ?side3 ?side4 ?side5 ?side6 ?side7 ?side8 A7.out).mono ?_
  (case side1 => exact ZQ (Kd.C_below HR0_0.out HB.out))
  (case side2 => exact HC0_0.out)
  (case side3 => exact ZQ (Kd.C_below HR0_1.out HB.out))
  (case side4 => exact HC0_1.out)
  (case side5 => exact ZQ (Kd.C_below HRq0_6.out HB.out))
  (case side6 => exact HCq0_6.out)
  (case side7 => exact ZQ (Kd.C_below HRq0_7.out HB.out))
  (case side8 => exact HCq0_7.out)
  rintro e wq1 ⟨rfl, hb⟩
  refine ⟨_, rfl, ?_⟩
  replace BK128 := ZW BK128 hb
  replace HB := ZT HB hb
  (try clear hb)
  (try clear hb2)
  (try clear hk)
  (try clear hi)
  refine hK.out _ _ ⟨ZA BK128 0, ZA BK128 1, ((HB.out.cell (World.block_lt_of_cell? w _ hwq0_0)).trans hwq0_0), ((HB.out.cell (World.block_lt_of_cell? w _ hwq0_1)).trans hwq0_1), ((HB.out.cell (World.block_lt_of_cell? w _ hwq0_2)).trans hwq0_2), ((HB.out.cell (World.block_lt_of_cell? w _ hwq0_3)).trans hwq0_3), ((HB.out.cell (World.block_lt_of_cell? w _ hwq0_4)).trans hwq0_4), ((HB.out.cell (World.block_lt_of_cell? w _ hwq0_5)).trans hwq0_5), ((HB.out.cell (World.block_lt_of_cell? w _ hwq0_6)).trans hwq0_6), ((HB.out.cell (World.block_lt_of_cell? w _ hwq0_7)).trans hwq0_7)⟩ (fun hHeld => ?_)
  clear hK K
  refine ZNO 20 ?_
  refine ZU 7 21 #[T,T,T,T,T,T,T,T] ?_
  refine done_ (done_of HT_.out (by kernel_rfl)) ?_
  try go_wp2
  go_ret
  exact ⟨ZE, ZB⟩))
  | (
  (have z_ := tag2_; clear z_)
  go_wp2
  go_ret
  exact ⟨ZE, ZB⟩
  )))
def spec_l2Step.f (k : Nat) := spec_l2Step.g k (spec_l2Steps.f k)
theorem spec_l2Step.calls (k : Nat) (A0_0 : Option Addr) (c0_0 : Nat) (l0_0 : List (S39)) (A0_1 : Option Addr) (c0_1 : Nat) (l0_1 : List (S32)) (a1_0 : Int) (a1_1 : Int) (a1_2 : Int) (a1_3 : Int) (a1_4 : Int) (a1_5 : Int) (A1_6 : Option Addr) (c1_6 : Nat) (l1_6 : List (S32)) (A1_7 : Option Addr) (c1_7 : Nat) (l1_7 : List (S32)) (a2 : Int) (r : Bool) (w : World) (hr0_0 : Kd.C k39 w A0_0 l0_0.length l0_0) (hc0_0 : l0_0.length ≤ c0_0) (hr0_1 : Kd.C k32 w A0_1 l0_1.length l0_1) (hc0_1 : l0_1.length ≤ c0_1) (hr1_6 : Kd.C k32 w A1_6 l1_6.length l1_6) (hc1_6 : l1_6.length ≤ c1_6) (hr1_7 : Kd.C k32 w A1_7 l1_7.length l1_7) (hc1_7 : l1_7.length ≤ c1_7) (h : spec_l2Step.f k l0_0 l0_1 a1_0 a1_1 a1_2 a1_3 a1_4 a1_5 l1_6 l1_7 a2 = some r) :
  Calls Try.prog 70 #[.agg #[.slice A0_0 l0_0.length c0_0, .slice A0_1 l0_1.length c0_1], .agg #[.int .i64 a1_0, .int .i64 a1_1, .int .i64 a1_2, .int .i64 a1_3, .int .i64 a1_4, .int .i64 a1_5, .slice A1_6 l1_6.length c1_6, .slice A1_7 l1_7.length c1_7], .int .i64 a2] w fun e w' => e = .returned (.bool r) ∧ Below w.heap.size w w' := spec_l2Step.calls_g k (spec_l2Steps.f k) (spec_l2Steps.calls k) A0_0 c0_0 l0_0 A0_1 c0_1 l0_1 a1_0 a1_1 a1_2 a1_3 a1_4 a1_5 A1_6 c1_6 l1_6 A1_7 c1_7 l1_7 a2 r w hr0_0 hc0_0 hr0_1 hc0_1 hr1_6 hc1_6 hr1_7 hc1_7 h


/-! ### spec_ProgOk: function 19 -/
def spec_ProgOk.l0 : Nat → Int → List (S39) → List (S32) → Option (Bool)
 | 0, _, _, _ => none
 | k + 1, x3, x132000, x132001 => if x3 < (x132000.length : Int) then (if 0 ≤ x3 then ((spec_LabelOk.f ((D39 x132000 x3).f0) ((D39 x132000 x3).f1)).bind fun t133 => (if t133 = true then (spec_ProgOk.l0 k (wrap64 (x3 + 1)) x132000 x132001) else (some false))) else (none)) else ((spec_l2Steps.f k x132000 x132001 x132001 3).bind fun t134 => (if t134 = true then ((spec_l2Count.f k x132001).bind fun t135 => (some (decide (t135 ≤ 8)))) else (some false)))
def spec_ProgOk.f (k : Nat) (l0_0 : List (S39)) (l0_1 : List (S32)) : Option (Bool) := if (l0_0.length : Int) > 4 then (some false) else (spec_ProgOk.l0 k 0 l0_0 l0_1)
theorem spec_ProgOk.calls (k : Nat) (A0_0 : Option Addr) (c0_0 : Nat) (l0_0 : List (S39)) (A0_1 : Option Addr) (c0_1 : Nat) (l0_1 : List (S32)) (r : Bool) (w : World) (hr0_0 : Kd.C k39 w A0_0 l0_0.length l0_0) (hc0_0 : l0_0.length ≤ c0_0) (hr0_1 : Kd.C k32 w A0_1 l0_1.length l0_1) (hc0_1 : l0_1.length ≤ c0_1) (h : spec_ProgOk.f k l0_0 l0_1 = some r) :
  Calls Try.prog 19 #[.agg #[.slice A0_0 l0_0.length c0_0, .slice A0_1 l0_1.length c0_1]] w fun e w' => e = .returned (.bool r) ∧ Below w.heap.size w w' := by
 have hu26 := Try.underlying26
 have hu39 := Try.underlying39
 have HR0_0 := AM hr0_0
 have HC0_0 := AM hc0_0
 clear hr0_0 hc0_0
 have HR0_1 := AM hr0_1
 have HC0_1 := AM hc0_1
 clear hr0_1 hc0_1
 have HB := AM (Below.refl w.heap.size w)
 have H := h
 unfold spec_ProgOk.f at H
 clear h
 by_cases c2 : (l0_0.length : Int) > 4
 ·(
 rw [if_pos c2] at H
 have c2b0 := decide_eq_true c2
 have c2b1 : decide (4 < l0_0.length) = true := decide_eq_true (by omega)
 clear c2
 obtain rfl := Option.some.inj H
 go_enter Try.func19, Try.ntmps19
 go_wp2_with (first | ((with_reducible refine gate_dst (N := 1) rfl ?_); refine ZX (N := 1) (cs := #[.slice A0_0 l0_0.length c0_0, .slice A0_1 l0_1.length c0_1]) (t := 26) ?_; intro gb131 hg w3 hbox hb; have BK131 := AM (hbox); have GW131 : Za (w.heap.size ≤ gb131) := ZS hg; replace HB := ZT HB hb; clear hb hbox hg; have hcz4 := ZC2 w3 BK131; have hfz4 := ZF2 BK131))
 go_ret
 exact ⟨ZE, ZB⟩)
 ·(
 rw [if_neg c2] at H
 have c2b0 := decide_eq_false c2
 have c2b1 : decide (4 < l0_0.length) = false := decide_eq_false (by omega)
 clear c2
 have H' := AM H
 clear H
 go_enter Try.func19, Try.ntmps19
 go_wp2_with (first | ((with_reducible refine gate_dst (N := 1) rfl ?_); refine ZX (N := 1) (cs := #[.slice A0_0 l0_0.length c0_0, .slice A0_1 l0_1.length c0_1]) (t := 26) ?_; intro gb131 hg w5 hbox hb; have BK131 := AM (hbox); have GW131 : Za (w.heap.size ≤ gb131) := ZS hg; replace HB := ZT HB hb; clear hb hbox hg; have hcz6 := ZC2 w5 BK131; have hfz6 := ZF2 BK131))
 go_loopg [3] k (fun kq v3 w' => ∃ (x3_1 : Int), v3 = .int .i64 x3_1 ∧ Za (spec_ProgOk.l0 kq x3_1 l0_0 l0_1 = some r) ∧ Za (kq ≤ k) ∧ Za (w'.heap[gb131]? = some (.cells #[(.slice A0_0 l0_0.length c0_0), (.slice A0_1 l0_1.length c0_1)] 26 (0, 0))) ∧ Za (Below w.heap.size w w'))
 case atStart => exact ⟨(0), (by first | rfl | (simp; done) | (simp [*]; done)), H', ⟨Nat.le_refl _⟩, ⟨ZK BK131.out⟩, ⟨ZB⟩⟩
 case round => (
 clear H'
 try clear c1
 try clear c2
 try clear c2b0
 try clear c2b1
 try clear p2
 try clear hcz4
 try clear hcz6
 try clear hfz4
 try clear hfz6
 obtain ⟨x3_1, rfl, HA, HK1, BK131, HB⟩ := hrel
 cases gk with
 | zero => exact absurd HA.out (by simp [spec_ProgOk.l0])
 | succ k1 =>
  have H := HA.out
  clear HA
  simp only [spec_ProgOk.l0] at H
  by_cases c7 : x3_1 < (l0_0.length : Int)
  ·(
  rw [if_pos c7] at H
  have c7b0 := decide_eq_true c7
  clear c7
  by_cases c8 : 0 ≤ x3_1
  ·(
  rw [if_pos c8] at H
  have c8b0 := decide_eq_true c8
  clear c8
  obtain ⟨t133, A9, H⟩ := ZOB H; try dsimp only at H
  by_cases c10 : t133 = true
  ·(
  subst c10
  have H1 := H; rw [if_pos rfl] at H1
  clear H
  have H := H1
  clear H1
  have H' := AM H
  clear H
  have hcz11 := ZC2 wr BK131
  have hfz11 := ZF2 BK131
  have p132 : 0 ≤ (x3_1 : Int) := ZD
  have q132 : x3_1 < (l0_0.length : Int) := ZD
  obtain ⟨ad132, e132, hx132_0, hx132_1⟩ := at_T39 HR0_0.out x3_1 p132 q132
  cases e132
  replace hx132_0 := ZHX HB hx132_0
  replace hx132_1 := ZHX HB hx132_1
  replace p132 := eq_true p132
  replace q132 := eq_true q132
  go_wp2_with (first | ((with_reducible refine gate_callee (f := 44) rfl ?_); refine ZGL (some 20) Try.func44 #[.agg #[.int .i64 ((D39 l0_0 x3_1).f0), .int .i64 ((D39 l0_0 x3_1).f1)]] ?_; (with_reducible refine (spec_LabelOk.calls ((D39 l0_0 x3_1).f0) ((D39 l0_0 x3_1).f1) true _ A9.out).mono ?_); rintro e w12 ⟨rfl, hb⟩; refine ⟨_, rfl, ?_⟩; replace BK131 := ZW BK131 hb; replace HB := ZT HB hb; clear hb))
  go_roundg k1
  case measure => have := HK1.out; omega
  case rel => exact ⟨(wrap64 (x3_1 + 1)), (by first | rfl | (simp; done) | (simp [*]; done)), H', ⟨by have := HK1.out; omega⟩, ⟨ZK BK131.out⟩, ⟨ZB⟩⟩)
  ·(
  replace c10 := Bool.eq_false_iff.mpr c10
  subst c10
  have H1 := H; rw [if_neg ZFT] at H1
  clear H
  have H := H1
  clear H1
  obtain rfl := Option.some.inj H
  have hcz13 := ZC2 wr BK131
  have hfz13 := ZF2 BK131
  have p132 : 0 ≤ (x3_1 : Int) := ZD
  have q132 : x3_1 < (l0_0.length : Int) := ZD
  obtain ⟨ad132, e132, hx132_0, hx132_1⟩ := at_T39 HR0_0.out x3_1 p132 q132
  cases e132
  replace hx132_0 := ZHX HB hx132_0
  replace hx132_1 := ZHX HB hx132_1
  replace p132 := eq_true p132
  replace q132 := eq_true q132
  go_wp2_with (first | ((with_reducible refine gate_callee (f := 44) rfl ?_); refine ZGL (some 20) Try.func44 #[.agg #[.int .i64 ((D39 l0_0 x3_1).f0), .int .i64 ((D39 l0_0 x3_1).f1)]] ?_; (with_reducible refine (spec_LabelOk.calls ((D39 l0_0 x3_1).f0) ((D39 l0_0 x3_1).f1) false _ A9.out).mono ?_); rintro e w14 ⟨rfl, hb⟩; refine ⟨_, rfl, ?_⟩; replace BK131 := ZW BK131 hb; replace HB := ZT HB hb; clear hb))
  go_ret
  exact ⟨ZE, ZB⟩))
  ·(
  rw [if_neg c8] at H
  exact absurd H (by simp)))
  ·(
  rw [if_neg c7] at H
  have c7b0 := decide_eq_false c7
  clear c7
  obtain ⟨t134, A15, H⟩ := ZOB H; try dsimp only at H
  by_cases c16 : t134 = true
  ·(
  subst c16
  have H1 := H; rw [if_pos rfl] at H1
  clear H
  have H := H1
  clear H1
  obtain ⟨t135, A17, H⟩ := ZOB H; try dsimp only at H
  obtain rfl := Option.some.inj H
  have hcz18 := ZC2 wr BK131
  have hfz18 := ZF2 BK131
  go_wp2_with (first | ((with_reducible refine gate_callee (f := 45) rfl ?_); refine ZGL (some 25) Try.func45 #[.agg #[.slice A0_0 l0_0.length c0_0, .slice A0_1 l0_1.length c0_1], .slice A0_1 l0_1.length c0_1, .int .i64 3] ?_; (with_reducible refine (spec_l2Steps.calls k1 _ _ l0_0 _ _ l0_1 _ _ l0_1 3 true _ (ZQ (Kd.C_below HR0_0.out HB.out)) HC0_0.out (ZQ (Kd.C_below HR0_1.out HB.out)) HC0_1.out (ZQ (Kd.C_below HR0_1.out HB.out)) HC0_1.out A15.out).mono ?_); rintro e w19 ⟨rfl, hb⟩; refine ⟨_, rfl, ?_⟩; replace BK131 := ZW BK131 hb; replace HB := ZT HB hb; clear hb; have hcz20 := ZC2 w19 BK131; have hfz20 := ZF2 BK131) | (go_at_call 38; (with_reducible refine (spec_l2Count.calls k1 _ _ l0_1 t135 _ (ZQ (Kd.C_below HR0_1.out HB.out)) HC0_1.out A17.out).mono ?_); rintro e w21 ⟨rfl, hb⟩; replace BK131 := ZW BK131 hb; replace HB := ZT HB hb; clear hb))
  go_ret
  exact ⟨ZE, ZB⟩)
  ·(
  replace c16 := Bool.eq_false_iff.mpr c16
  subst c16
  have H1 := H; rw [if_neg ZFT] at H1
  clear H
  have H := H1
  clear H1
  obtain rfl := Option.some.inj H
  have hcz22 := ZC2 wr BK131
  have hfz22 := ZF2 BK131
  go_wp2_with (first | ((with_reducible refine gate_callee (f := 45) rfl ?_); refine ZGL (some 25) Try.func45 #[.agg #[.slice A0_0 l0_0.length c0_0, .slice A0_1 l0_1.length c0_1], .slice A0_1 l0_1.length c0_1, .int .i64 3] ?_; (with_reducible refine (spec_l2Steps.calls k1 _ _ l0_0 _ _ l0_1 _ _ l0_1 3 false _ (ZQ (Kd.C_below HR0_0.out HB.out)) HC0_0.out (ZQ (Kd.C_below HR0_1.out HB.out)) HC0_1.out (ZQ (Kd.C_below HR0_1.out HB.out)) HC0_1.out A15.out).mono ?_); rintro e w23 ⟨rfl, hb⟩; refine ⟨_, rfl, ?_⟩; replace BK131 := ZW BK131 hb; replace HB := ZT HB hb; clear hb))
  go_ret
  exact ⟨ZE, ZB⟩))))

/-! ### spec_l71Label: function 60 -/
def spec_l71Label.f (k : Nat) (s0_0 : List Int) (s0_1 : Int) : Option (Int × Int × Int) := (some (([7, 7, 3, 5, 6, 1, 2, 4, 0] : List Int) : List Int)).bind fun y137 => ((spec_l6Rd_pick.f k s0_0 s0_1 9).bind fun bt140 => (if 0 ≤ bt140.1 then (if bt140.1 < (y137.length : Int) then ((some (([0, 0, 1, 2, 4, 3, 7, 5, 6] : List Int) : List Int)).bind fun y143 => ((spec_l6Rd_pick.f k s0_0 bt140.2 9).bind fun bt146 => (if 0 ≤ bt146.1 then (if bt146.1 < (y143.length : Int) then (some (rd y137 bt140.1, rd y143 bt146.1, bt146.2)) else (none)) else (none)))) else (none)) else (none)))
def spec_l71Label.T1 : Bool × List (List Nat × List Nat) := (true, [([], []), ([], []), ([1], [1]), ([0, 2], [0, 2]), ([3], [3]), ([], []), ([], []), ([6, 2], [6]), ([5, 7], [5, 7]), ([8], [8]), ([4, 9], [4, 9]), ([], []), ([11, 10, 7, 0, 1, 2, 3, 4, 5, 6, 7, 8, 9, 10, 11], [10, 11])])
theorem spec_l71Label.tab1 : rtab .any (opsOf Try.f60 1) = spec_l71Label.T1 := by kernel_rfl
theorem spec_l71Label.keep_far {w W : World} {g : Nat} {row : Option Nat} (h : KeepBut w W g row) {p : Addr} (hp : w.heap.size ≤ p.block) (u : Value) : KeepBut w (W.setCell p u) g row :=
 ⟨by simpa [World.setCell] using h.1, fun i hi hg hr => (Below.heap_setCell W p u i (by omega)).trans (h.2 i hi hg hr)⟩
theorem spec_l71Label.got_of {T : List (List Nat × List Nat)} {l : List Bool} {i : Nat} {r : List Nat × List Nat} (h : readyT T l = []) (hl : i < l.length) (hr : T[i]? = some r) (hd : ∀ j ∈ r.1, l.getD j false = true) : l.getD i false = true := by
 have hi : i < T.length := (List.getElem?_eq_some_iff.1 hr).1
 unfold readyT at h
 rw [List.filter_eq_nil_iff] at h
 have h1 := h i (List.mem_range.2 hi)
 have h2 : l.getD i true = l.getD i false := by
  rw [List.getD_eq_getElem?_getD, List.getD_eq_getElem?_getD, List.getElem?_eq_getElem hl]
  rfl
 unfold readyAt at h1
 rw [hr, h2] at h1
 cases hq : l.getD i false with
 | true => rfl
 | false =>
  rw [hq] at h1
  exact absurd (by rw [Bool.and_eq_true]; exact ⟨rfl, List.all_eq_true.2 hd⟩) h1
/-- What holds of each part of the region that may be done: l tells what is done. -/
def spec_l71Label.Inv (w0 w : World) (g gb : Nat) (s : List Int) (p p1 p2 t1 t2 : Int) (l : List Bool) (a : Act) (W : World) : Prop :=
 (a.tmps.size = 16 ∧ a.defers = [] ∧ a.eval (.tmp 0) = .pointer (some ⟨g, 0, none⟩) ∧ a.eval (.tmp 2) = .pointer (some ⟨gb, 0, none⟩)) ∧
 (l.getD 12 false = true → ∀ j, j < 12 → l.getD j false = true) ∧
 ((l.getD 3 false = true → l.getD 0 false = true) ∧ (l.getD 8 false = true → l.getD 5 false = true) ∧ (l.getD 7 false = true → l.getD 2 false = true)) ∧   -- icl_
 (l.getD 1 false = true → a.eval (.tmp 5) = .pointer (some ⟨g, 0, none⟩)) ∧
 (l.getD 2 false = true → a.eval (.tmp 6) = .int .i64 t1) ∧
 (l.getD 4 false = true → a.eval (.tmp 8) = .int .i64 (rd [7, 7, 3, 5, 6, 1, 2, 4, 0] t1)) ∧
 (l.getD 6 false = true → a.eval (.tmp 10) = .pointer (some ⟨g, 0, none⟩)) ∧
 (l.getD 7 false = true → a.eval (.tmp 11) = .int .i64 t2) ∧
 (l.getD 9 false = true → a.eval (.tmp 13) = .int .i64 (rd [0, 0, 1, 2, 4, 3, 7, 5, 6] t2)) ∧
 (l.getD 10 false = true → a.eval (.tmp 14) = .agg #[.int .i64 (rd [7, 7, 3, 5, 6, 1, 2, 4, 0] t1), .int .i64 (rd [0, 0, 1, 2, 4, 3, 7, 5, 6] t2)]) ∧
 (l.getD 0 false = true → l.getD 12 false = false → ∃ b, a.eval (.tmp 4) = .slice (some ⟨b, 0, none⟩) 9 9 ∧ W.heap[b]? = some (.cells #[.int .i64 7, .int .i64 7, .int .i64 3, .int .i64 5, .int .i64 6, .int .i64 1, .int .i64 2, .int .i64 4, .int .i64 0] 3 (0, 0)) ∧ g ≠ b ∧ (l.getD 3 false = true → a.eval (.tmp 7) = .pointer (some ⟨b, t1.toNat, none⟩))) ∧
 (l.getD 5 false = true → l.getD 12 false = false → ∃ b, a.eval (.tmp 9) = .slice (some ⟨b, 0, none⟩) 9 9 ∧ W.heap[b]? = some (.cells #[.int .i64 0, .int .i64 0, .int .i64 1, .int .i64 2, .int .i64 4, .int .i64 3, .int .i64 7, .int .i64 5, .int .i64 6] 3 (0, 0)) ∧ g ≠ b ∧ (l.getD 8 false = true → a.eval (.tmp 12) = .pointer (some ⟨b, t2.toNat, none⟩))) ∧
 (l.getD 11 false = true → ∃ b, a.eval (.tmp 3) = .pointer (some ⟨b, 0, none⟩) ∧ W.heap[b]? = some (.cells (if l.getD 12 false = true then #[.int .i64 (rd [7, 7, 3, 5, 6, 1, 2, 4, 0] t1), .int .i64 (rd [0, 0, 1, 2, 4, 3, 7, 5, 6] t2)] else #[.int .i64 0, .int .i64 0]) 39 (0, 0)) ∧ w.heap.size ≤ b ∧ w0.heap.size ≤ b ∧ g ≠ b ∧ gb ≠ b) ∧
 IsS64 w0 W g s (if l.getD 7 false = true then p2 else if l.getD 2 false = true then p1 else p) ∧
 W.heap[gb]? = some (.cells #[.int .i64 0, .int .i64 0] 39 (0, 0)) ∧ KeepBut w W g none ∧ Below w0.heap.size w0 W
theorem spec_l71Label.calls (k : Nat) (g : Nat) (s0_0 : List Int) (s0_1 : Int) (r1 : Int) (r2 : Int) (r3 : Int) (w0 w : World) (hI : IsS64 w0 w g s0_0 s0_1) (hB : Below w0.heap.size w0 w) (h : spec_l71Label.f k s0_0 s0_1 = some (r1, r2, r3)) :
  Calls Try.prog 60 #[.pointer (some ⟨g, 0, none⟩)] w fun e w' => e = .returned (.agg #[.int .i64 r1, .int .i64 r2]) ∧ IsS64 w0 w' g s0_0 r3 ∧ Below w0.heap.size w0 w' ∧ KeepBut w w' g none := by
 have hu := Try.underlying39
 have hD : Za ((spec_l6Rd_pick.f k s0_0 s0_1 9).bind (fun bt => (if 0 ≤ bt.1 then (if bt.1 < (([7, 7, 3, 5, 6, 1, 2, 4, 0] : List Int).length : Int) then ((spec_l6Rd_pick.f k s0_0 bt.2 9).bind fun bt2 => (if 0 ≤ bt2.1 then (if bt2.1 < (([0, 0, 1, 2, 4, 3, 7, 5, 6] : List Int).length : Int) then (some (rd [7, 7, 3, 5, 6, 1, 2, 4, 0] bt.1, rd [0, 0, 1, 2, 4, 3, 7, 5, 6] bt2.1, bt2.2)) else (none)) else (none))) else (none)) else (none))) = some (r1, r2, r3)) := ⟨h⟩
 clear h
 have X : ∃ t1 p1 t2 p2, Za (spec_l6Rd_pick.f k s0_0 s0_1 9 = some (t1, p1)) ∧ Za (spec_l6Rd_pick.f k s0_0 p1 9 = some (t2, p2)) ∧ (0 ≤ t1 ∧ t1 < 9) ∧ (0 ≤ t2 ∧ t2 < 9) ∧ r1 = rd [7, 7, 3, 5, 6, 1, 2, 4, 0] t1 ∧ r2 = rd [0, 0, 1, 2, 4, 3, 7, 5, 6] t2 ∧ r3 = p2 := by
  obtain ⟨⟨t1, p1⟩, h1, H⟩ := Option.bind_eq_some_iff.mp hD.out
  by_cases c1 : 0 ≤ t1
  ·by_cases c2 : t1 < 9
   ·have H2 : ((spec_l6Rd_pick.f k s0_0 p1 9).bind fun bt2 => (if 0 ≤ bt2.1 then (if bt2.1 < (([0, 0, 1, 2, 4, 3, 7, 5, 6] : List Int).length : Int) then (some (rd [7, 7, 3, 5, 6, 1, 2, 4, 0] t1, rd [0, 0, 1, 2, 4, 3, 7, 5, 6] bt2.1, bt2.2)) else (none)) else (none))) = some (r1, r2, r3) := by
     simpa [c1, c2] using H
    obtain ⟨⟨t2, p2⟩, h2, H3⟩ := Option.bind_eq_some_iff.mp H2
    by_cases c3 : 0 ≤ t2
    ·by_cases c4 : t2 < 9
     ·simp [c3, c4] at H3
      exact ⟨t1, p1, t2, p2, ⟨h1⟩, ⟨h2⟩, ⟨c1, c2⟩, ⟨c3, c4⟩, H3.1.symm, H3.2.1.symm, H3.2.2.symm⟩
     ·simp [c3, c4] at H3
    ·simp [c3] at H3
   ·simp [c1, c2] at H
  ·simp [c1] at H
 clear hD
 obtain ⟨t1, p1, t2, p2, A1, A2, ⟨b1, b2⟩, ⟨b3, b4⟩, rfl, rfl, rfl⟩ := X
 have HI := AM hI
 have HB := AM hB
 have HL := AM (IsS64.lt hI)
 clear hI hB
 go_enter Try.func60, Try.ntmps60
 go_wp2_with (first | ((with_reducible refine gate_dst (N := 2) rfl ?_); refine ZX (N := 2) (cs := #[.int .i64 0, .int .i64 0]) (t := 39) ?_; intro gb hg w1 hbox hb; have BK := AM hbox; have HB1 := AM hb; have HG := AM hg; clear hbox hb hg))
 have L1 : Za (w.heap.size ≤ gb) := ⟨by rw [HG.out]; exact Nat.le_refl _⟩
 have L2 : Za (w0.heap.size ≤ gb) := ⟨Nat.le_trans HB.out.size L1.out⟩
 have L3 : Za (g ≠ gb) := ⟨by have := HL.out; have := L1.out; omega⟩
 refine region_inv (n := 13) (by kernel_rfl) spec_l71Label.tab1 rfl (spec_l71Label.Inv w0 w g gb s0_0 s0_1 p1 r3 t1 t2) ?_ ?_ ?_
 ·(
 unfold spec_l71Label.Inv
 refine ⟨⟨rfl, rfl, rfl, rfl⟩, by simp, by simp, by simp, by simp, by simp, by simp, by simp, by simp, by simp, by simp, by simp, by simp, ?_, ?_, ?_, ?_⟩
 ·exact IsS64.drew (IsS64.below HI.out HB1.out)
 ·exact blk_drew BK.out
 ·exact keep_drew (KeepBut.of_below HB1.out g none)
 ·exact below_drew1 (below_step HB.out HB1.out))
 ·(
 intro i o l a W ho hl hr hI K hK
 have hi : i < 13 := (Array.getElem?_eq_some_iff.1 ho).1
 obtain ⟨⟨z1, z2, z3, z4⟩, ic, ⟨k3, k8, k7⟩, i1, i2, i4, i6, i7, i9, i10, i0, i5, i11, iS, iB, iK, iW⟩ := hI
 have gW : g < W.heap.size := IsS64.lt iS
 have wW : w.heap.size ≤ W.heap.size := iK.1
 have w0W : w0.heap.size ≤ W.heap.size := iW.size
 have gbW : gb < W.heap.size := blk_lt iB
 have c12 : i < 12 → l.getD 12 false = false := by
  intro h12
  cases hq : l.getD 12 false with
  | false => rfl
  | true => exact absurd (ic hq i h12) (by rw [undone hr (by omega)]; decide)
 have cases_ : i = 0 ∨ i = 1 ∨ i = 2 ∨ i = 3 ∨ i = 4 ∨ i = 5 ∨ i = 6 ∨ i = 7 ∨ i = 8 ∨ i = 9 ∨ i = 10 ∨ i = 11 ∨ i = 12 := by omega
 rcases cases_ with rfl | rfl | rfl | rfl | rfl | rfl | rfl | rfl | rfl | rfl | rfl | rfl | rfl
 ·(
 have c := c12 (by omega)
 have hn := undone hr (by omega)
 obtain ⟨_, hd⟩ := ready_of hr rfl
 simp only [List.getElem?_toArray, List.getElem?_cons_succ, List.getElem?_cons_zero, Option.some.injEq] at ho
 subst ho
 refine event_step rfl (v := .slice (some ⟨W.heap.size, 0, none⟩) 9 9) (w1 := W.alloc (.cells #[.int .i64 7, .int .i64 7, .int .i64 3, .int .i64 5, .int .i64 6, .int .i64 1, .int .i64 2, .int .i64 4, .int .i64 0] 3 (0, 0))) ?_ (hK _ _ ?_)
 ·(
 clear i0 i1 i2 i4 i5 i6 i7 i9 i10 i11 iS iB iK iW ic c12 hK K k3 k8 k7 BK HB1 HG L1 L2 L3 HI HB HL A1 A2
 first | (go_simp; done) | (go_simp; rfl))
 ·(
 unfold spec_l71Label.Inv
 simp only [getD_set (show 0 < l.length by omega), eval_put (show 4 < a.tmps.size by omega), size_put, defers_put, Nat.reduceEqDiff, if_false, if_true]
 exact ⟨⟨z1, z2, z3, z4⟩, fun h => absurd h (by rw [c]; decide), ⟨by first | exact True.intro | exact fun _ => trivial, k8, k7⟩, i1, i2, i4, i6, i7, i9, i10, fun _ _ => ⟨W.heap.size, rfl, blk_new W _, by omega, fun h => absurd (k3 h) (by rw [hn]; decide)⟩, fun h h2 => (i5 h h2).elim fun b q => ⟨b, q.1, blk_alloc q.2.1 _, q.2.2⟩, fun h => (i11 h).elim fun b q => ⟨b, q.1, blk_alloc q.2.1 _, q.2.2⟩, IsS64.alloc iS _, blk_alloc iB _, keep_alloc iK _, below_alloc iW _⟩))
 ·(
 have c := c12 (by omega)
 have hn := undone hr (by omega)
 obtain ⟨_, hd⟩ := ready_of hr rfl
 simp only [List.getElem?_toArray, List.getElem?_cons_succ, List.getElem?_cons_zero, Option.some.injEq] at ho
 subst ho
 refine event_step rfl (v := .pointer (some ⟨g, 0, none⟩)) (w1 := W) ?_ (hK _ _ ?_)
 ·(
 clear i0 i1 i2 i4 i5 i6 i7 i9 i10 i11 iS iB iK iW ic c12 hK K k3 k8 k7 BK HB1 HG L1 L2 L3 HI HB HL A1 A2
 generalize a.eval = ρ at *
 first | (go_simp; done) | (go_simp; rfl))
 ·(
 unfold spec_l71Label.Inv
 simp only [getD_set (show 1 < l.length by omega), eval_put (show 5 < a.tmps.size by omega), size_put, defers_put, Nat.reduceEqDiff, if_false, if_true]
 exact ⟨⟨z1, z2, z3, z4⟩, fun h => absurd h (by rw [c]; decide), ⟨k3, k8, k7⟩, (by first | exact True.intro | exact fun _ => True.intro | exact fun _ => rfl), i2, i4, i6, i7, i9, i10, i0, i5, i11, iS, iB, iK, iW⟩))
 ·(
 have c := c12 (by omega)
 have hn := undone hr (by omega)
 obtain ⟨_, hd⟩ := ready_of hr rfl
 simp only [List.getElem?_toArray, List.getElem?_cons_succ, List.getElem?_cons_zero, Option.some.injEq] at ho
 subst ho
 have e := i1 (hd 1 (by decide))
 have c7 : l.getD 7 false = false := by
  cases hq : l.getD 7 false with
  | false => rfl
  | true => exact absurd (k7 hq) (by rw [hn]; decide)
 rw [c7, hn] at iS
 simp only [Bool.false_eq_true, if_false, if_true] at iS
 refine goes_ Try.func39 (by kernel_rfl) rfl #[.pointer (some ⟨g, 0, none⟩), .int .i64 9] rfl rfl rfl (by simp only [List.map_toArray, List.map_cons, List.map_nil, e]; rfl) ?_
 refine (spec_l6Rd_pick.calls k g s0_0 s0_1 9 t1 p1 w0 W iS iW A1.out).mono ?_
 rintro e_ W2 ⟨rfl, hS, hB, hk⟩
 refine ⟨_, rfl, hK _ _ ?_⟩
 unfold spec_l71Label.Inv
 simp only [getD_set (show 2 < l.length by omega), eval_put (show 6 < a.tmps.size by omega), size_put, defers_put, Nat.reduceEqDiff, if_false, if_true, c7, Bool.false_eq_true]
 exact ⟨⟨z1, z2, z3, z4⟩, fun h => absurd h (by rw [c]; decide), ⟨k3, k8, by first | exact True.intro | (intros; exact True.intro)⟩, i1, (by first | exact True.intro | exact fun _ => True.intro | exact fun _ => rfl), i4, i6, (by first | exact True.intro | exact fun h => h.elim), i9, i10, fun h h2 => (i0 h h2).elim fun b q => ⟨b, q.1, hk.blk q.2.1 (Ne.symm q.2.2.1) (by simp), q.2.2⟩, fun h h2 => (i5 h h2).elim fun b q => ⟨b, q.1, hk.blk q.2.1 (Ne.symm q.2.2.1) (by simp), q.2.2⟩, fun h => (i11 h).elim fun b q => ⟨b, q.1, hk.blk q.2.1 (Ne.symm q.2.2.2.2.1) (by simp), q.2.2⟩, hS, hk.blk iB (Ne.symm L3.out) (by simp), iK.trans hk (.inl rfl), hB⟩)
 ·(
 have c := c12 (by omega)
 have hn := undone hr (by omega)
 obtain ⟨_, hd⟩ := ready_of hr rfl
 simp only [List.getElem?_toArray, List.getElem?_cons_succ, List.getElem?_cons_zero, Option.some.injEq] at ho
 subst ho
 obtain ⟨b, q1, q2, q3, q4⟩ := i0 (hd 0 (by decide)) c
 have e6 := i2 (hd 2 (by decide))
 have dd := hd 0 (by decide)
 refine event_step rfl (v := .pointer (some ⟨b, t1.toNat, none⟩)) (w1 := W) ?_ (hK _ _ ?_)
 ·(
 clear q2 q4 dd hd hn c i0 i1 i2 i4 i5 i6 i7 i9 i10 i11 iS iB iK iW ic c12 hK K k3 k8 k7 BK HB1 HG L1 L2 L3 HI HB HL A1 A2
 generalize a.eval = ρ at *
 first | (go_simp; done) | (go_simp; rfl))
 ·(
 unfold spec_l71Label.Inv
 simp only [getD_set (show 3 < l.length by omega), eval_put (show 7 < a.tmps.size by omega), size_put, defers_put, Nat.reduceEqDiff, if_false, if_true]
 exact ⟨⟨z1, z2, z3, z4⟩, fun h => absurd h (by rw [c]; decide), ⟨fun _ => dd, k8, k7⟩, i1, i2, i4, i6, i7, i9, i10, fun _ _ => ⟨b, q1, q2, q3, fun _ => rfl⟩, i5, i11, iS, iB, iK, iW⟩))
 ·(
 have c := c12 (by omega)
 have hn := undone hr (by omega)
 obtain ⟨_, hd⟩ := ready_of hr rfl
 simp only [List.getElem?_toArray, List.getElem?_cons_succ, List.getElem?_cons_zero, Option.some.injEq] at ho
 subst ho
 obtain ⟨b, q1, q2, q3, q4⟩ := i0 (k3 (hd 3 (by decide))) c
 have e7 := q4 (hd 3 (by decide))
 have hc : W.cell? ⟨b, t1.toNat, none⟩ = some (.int .i64 (rd [7, 7, 3, 5, 6, 1, 2, 4, 0] t1)) := by
  rw [blk_cell q2]
  have cases_ : t1 = 0 ∨ t1 = 1 ∨ t1 = 2 ∨ t1 = 3 ∨ t1 = 4 ∨ t1 = 5 ∨ t1 = 6 ∨ t1 = 7 ∨ t1 = 8 := by omega
  rcases cases_ with h | h | h | h | h | h | h | h | h <;> rw [h] <;> rfl
 refine event_step rfl (v := .int .i64 (rd [7, 7, 3, 5, 6, 1, 2, 4, 0] t1)) (w1 := W) ?_ (hK _ _ ?_)
 ·(
 clear q1 q2 q3 q4 hd hn c i0 i1 i2 i4 i5 i6 i7 i9 i10 i11 iS iB iK iW ic c12 hK K k3 k8 k7 BK HB1 HG L1 L2 L3 HI HB HL A1 A2
 generalize rd [7, 7, 3, 5, 6, 1, 2, 4, 0] t1 = x at *
 generalize a.eval = ρ at *
 first | (go_simp; done) | (go_simp; rfl))
 ·(
 unfold spec_l71Label.Inv
 simp only [getD_set (show 4 < l.length by omega), eval_put (show 8 < a.tmps.size by omega), size_put, defers_put, Nat.reduceEqDiff, if_false, if_true]
 exact ⟨⟨z1, z2, z3, z4⟩, fun h => absurd h (by rw [c]; decide), ⟨k3, k8, k7⟩, i1, i2, (by first | exact True.intro | exact fun _ => True.intro | exact fun _ => rfl), i6, i7, i9, i10, i0, i5, i11, iS, iB, iK, iW⟩))
 ·(
 have c := c12 (by omega)
 have hn := undone hr (by omega)
 obtain ⟨_, hd⟩ := ready_of hr rfl
 simp only [List.getElem?_toArray, List.getElem?_cons_succ, List.getElem?_cons_zero, Option.some.injEq] at ho
 subst ho
 refine event_step rfl (v := .slice (some ⟨W.heap.size, 0, none⟩) 9 9) (w1 := W.alloc (.cells #[.int .i64 0, .int .i64 0, .int .i64 1, .int .i64 2, .int .i64 4, .int .i64 3, .int .i64 7, .int .i64 5, .int .i64 6] 3 (0, 0))) ?_ (hK _ _ ?_)
 ·(
 clear i0 i1 i2 i4 i5 i6 i7 i9 i10 i11 iS iB iK iW ic c12 hK K k3 k8 k7 BK HB1 HG L1 L2 L3 HI HB HL A1 A2
 first | (go_simp; done) | (go_simp; rfl))
 ·(
 unfold spec_l71Label.Inv
 simp only [getD_set (show 5 < l.length by omega), eval_put (show 9 < a.tmps.size by omega), size_put, defers_put, Nat.reduceEqDiff, if_false, if_true]
 exact ⟨⟨z1, z2, z3, z4⟩, fun h => absurd h (by rw [c]; decide), ⟨k3, by first | exact True.intro | exact fun _ => trivial, k7⟩, i1, i2, i4, i6, i7, i9, i10, fun h h2 => (i0 h h2).elim fun b q => ⟨b, q.1, blk_alloc q.2.1 _, q.2.2⟩, fun _ _ => ⟨W.heap.size, rfl, blk_new W _, by omega, fun h => absurd (k8 h) (by rw [hn]; decide)⟩, fun h => (i11 h).elim fun b q => ⟨b, q.1, blk_alloc q.2.1 _, q.2.2⟩, IsS64.alloc iS _, blk_alloc iB _, keep_alloc iK _, below_alloc iW _⟩))
 ·(
 have c := c12 (by omega)
 have hn := undone hr (by omega)
 obtain ⟨_, hd⟩ := ready_of hr rfl
 simp only [List.getElem?_toArray, List.getElem?_cons_succ, List.getElem?_cons_zero, Option.some.injEq] at ho
 subst ho
 refine event_step rfl (v := .pointer (some ⟨g, 0, none⟩)) (w1 := W) ?_ (hK _ _ ?_)
 ·(
 clear i0 i1 i2 i4 i5 i6 i7 i9 i10 i11 iS iB iK iW ic c12 hK K k3 k8 k7 BK HB1 HG L1 L2 L3 HI HB HL A1 A2
 generalize a.eval = ρ at *
 first | (go_simp; done) | (go_simp; rfl))
 ·(
 unfold spec_l71Label.Inv
 simp only [getD_set (show 6 < l.length by omega), eval_put (show 10 < a.tmps.size by omega), size_put, defers_put, Nat.reduceEqDiff, if_false, if_true]
 exact ⟨⟨z1, z2, z3, z4⟩, fun h => absurd h (by rw [c]; decide), ⟨k3, k8, k7⟩, i1, i2, i4, (by first | exact True.intro | exact fun _ => True.intro | exact fun _ => rfl), i7, i9, i10, i0, i5, i11, iS, iB, iK, iW⟩))
 ·(
 have c := c12 (by omega)
 have hn := undone hr (by omega)
 obtain ⟨_, hd⟩ := ready_of hr rfl
 simp only [List.getElem?_toArray, List.getElem?_cons_succ, List.getElem?_cons_zero, Option.some.injEq] at ho
 subst ho
 have e := i6 (hd 6 (by decide))
 have c2 := hd 2 (by decide)
 rw [hn, c2] at iS
 simp only [Bool.false_eq_true, if_false, if_true] at iS
 refine goes_ Try.func39 (by kernel_rfl) rfl #[.pointer (some ⟨g, 0, none⟩), .int .i64 9] rfl rfl rfl (by simp only [List.map_toArray, List.map_cons, List.map_nil, e]; rfl) ?_
 refine (spec_l6Rd_pick.calls k g s0_0 p1 9 t2 r3 w0 W iS iW A2.out).mono ?_
 rintro e_ W2 ⟨rfl, hS, hB, hk⟩
 refine ⟨_, rfl, hK _ _ ?_⟩
 unfold spec_l71Label.Inv
 simp only [getD_set (show 7 < l.length by omega), eval_put (show 11 < a.tmps.size by omega), size_put, defers_put, Nat.reduceEqDiff, if_false, if_true]
 exact ⟨⟨z1, z2, z3, z4⟩, fun h => absurd h (by rw [c]; decide), ⟨k3, k8, by first | exact c2 | exact fun _ => c2⟩, i1, i2, i4, i6, (by first | exact True.intro | exact fun _ => True.intro | exact fun _ => rfl), i9, i10, fun h h2 => (i0 h h2).elim fun b q => ⟨b, q.1, hk.blk q.2.1 (Ne.symm q.2.2.1) (by simp), q.2.2⟩, fun h h2 => (i5 h h2).elim fun b q => ⟨b, q.1, hk.blk q.2.1 (Ne.symm q.2.2.1) (by simp), q.2.2⟩, fun h => (i11 h).elim fun b q => ⟨b, q.1, hk.blk q.2.1 (Ne.symm q.2.2.2.2.1) (by simp), q.2.2⟩, hS, hk.blk iB (Ne.symm L3.out) (by simp), iK.trans hk (.inl rfl), hB⟩)
 ·(
 have c := c12 (by omega)
 have hn := undone hr (by omega)
 obtain ⟨_, hd⟩ := ready_of hr rfl
 simp only [List.getElem?_toArray, List.getElem?_cons_succ, List.getElem?_cons_zero, Option.some.injEq] at ho
 subst ho
 obtain ⟨b, q1, q2, q3, q4⟩ := i5 (hd 5 (by decide)) c
 have e6 := i7 (hd 7 (by decide))
 have dd := hd 5 (by decide)
 refine event_step rfl (v := .pointer (some ⟨b, t2.toNat, none⟩)) (w1 := W) ?_ (hK _ _ ?_)
 ·(
 clear q2 q4 dd hd hn c i0 i1 i2 i4 i5 i6 i7 i9 i10 i11 iS iB iK iW ic c12 hK K k3 k8 k7 BK HB1 HG L1 L2 L3 HI HB HL A1 A2
 generalize a.eval = ρ at *
 first | (go_simp; done) | (go_simp; rfl))
 ·(
 unfold spec_l71Label.Inv
 simp only [getD_set (show 8 < l.length by omega), eval_put (show 12 < a.tmps.size by omega), size_put, defers_put, Nat.reduceEqDiff, if_false, if_true]
 exact ⟨⟨z1, z2, z3, z4⟩, fun h => absurd h (by rw [c]; decide), ⟨k3, fun _ => dd, k7⟩, i1, i2, i4, i6, i7, i9, i10, i0, fun _ _ => ⟨b, q1, q2, q3, fun _ => rfl⟩, i11, iS, iB, iK, iW⟩))
 ·(
 have c := c12 (by omega)
 have hn := undone hr (by omega)
 obtain ⟨_, hd⟩ := ready_of hr rfl
 simp only [List.getElem?_toArray, List.getElem?_cons_succ, List.getElem?_cons_zero, Option.some.injEq] at ho
 subst ho
 obtain ⟨b, q1, q2, q3, q4⟩ := i5 (k8 (hd 8 (by decide))) c
 have e7 := q4 (hd 8 (by decide))
 have hc : W.cell? ⟨b, t2.toNat, none⟩ = some (.int .i64 (rd [0, 0, 1, 2, 4, 3, 7, 5, 6] t2)) := by
  rw [blk_cell q2]
  have cases_ : t2 = 0 ∨ t2 = 1 ∨ t2 = 2 ∨ t2 = 3 ∨ t2 = 4 ∨ t2 = 5 ∨ t2 = 6 ∨ t2 = 7 ∨ t2 = 8 := by omega
  rcases cases_ with h | h | h | h | h | h | h | h | h <;> rw [h] <;> rfl
 refine event_step rfl (v := .int .i64 (rd [0, 0, 1, 2, 4, 3, 7, 5, 6] t2)) (w1 := W) ?_ (hK _ _ ?_)
 ·(
 clear q1 q2 q3 q4 hd hn c i0 i1 i2 i4 i5 i6 i7 i9 i10 i11 iS iB iK iW ic c12 hK K k3 k8 k7 BK HB1 HG L1 L2 L3 HI HB HL A1 A2
 generalize rd [0, 0, 1, 2, 4, 3, 7, 5, 6] t2 = x at *
 generalize a.eval = ρ at *
 first | (go_simp; done) | (go_simp; rfl))
 ·(
 unfold spec_l71Label.Inv
 simp only [getD_set (show 9 < l.length by omega), eval_put (show 13 < a.tmps.size by omega), size_put, defers_put, Nat.reduceEqDiff, if_false, if_true]
 exact ⟨⟨z1, z2, z3, z4⟩, fun h => absurd h (by rw [c]; decide), ⟨k3, k8, k7⟩, i1, i2, i4, i6, i7, (by first | exact True.intro | exact fun _ => True.intro | exact fun _ => rfl), i10, i0, i5, i11, iS, iB, iK, iW⟩))
 ·(
 have c := c12 (by omega)
 have hn := undone hr (by omega)
 obtain ⟨_, hd⟩ := ready_of hr rfl
 simp only [List.getElem?_toArray, List.getElem?_cons_succ, List.getElem?_cons_zero, Option.some.injEq] at ho
 subst ho
 have e8 := i4 (hd 4 (by decide))
 have e13 := i9 (hd 9 (by decide))
 refine event_step rfl (v := .agg #[.int .i64 (rd [7, 7, 3, 5, 6, 1, 2, 4, 0] t1), .int .i64 (rd [0, 0, 1, 2, 4, 3, 7, 5, 6] t2)]) (w1 := W) ?_ (hK _ _ ?_)
 ·(
 clear hd hn c i0 i1 i2 i4 i5 i6 i7 i9 i10 i11 iS iB iK iW ic c12 hK K k3 k8 k7 BK HB1 HG L1 L2 L3 HI HB HL A1 A2
 generalize rd [7, 7, 3, 5, 6, 1, 2, 4, 0] t1 = x at *
 generalize rd [0, 0, 1, 2, 4, 3, 7, 5, 6] t2 = y at *
 generalize a.eval = ρ at *
 first | (go_simp; done) | (go_simp; rfl))
 ·(
 unfold spec_l71Label.Inv
 simp only [getD_set (show 10 < l.length by omega), eval_put (show 14 < a.tmps.size by omega), size_put, defers_put, Nat.reduceEqDiff, if_false, if_true]
 exact ⟨⟨z1, z2, z3, z4⟩, fun h => absurd h (by rw [c]; decide), ⟨k3, k8, k7⟩, i1, i2, i4, i6, i7, i9, (by first | exact True.intro | exact fun _ => True.intro | exact fun _ => rfl), i0, i5, i11, iS, iB, iK, iW⟩))
 ·(
 have c := c12 (by omega)
 have hn := undone hr (by omega)
 obtain ⟨_, hd⟩ := ready_of hr rfl
 simp only [List.getElem?_toArray, List.getElem?_cons_succ, List.getElem?_cons_zero, Option.some.injEq] at ho
 subst ho
 refine event_step rfl (v := .pointer (some ⟨W.heap.size, 0, none⟩)) (w1 := W.alloc (.cells #[.int .i64 0, .int .i64 0] 39 (0, 0))) ?_ (hK _ _ ?_)
 ·(
 clear i0 i1 i2 i4 i5 i6 i7 i9 i10 i11 iS iB iK iW ic c12 hK K k3 k8 k7 BK HB1 HG L1 L2 L3 HI HB HL A1 A2
 first | (go_simp; done) | (go_simp; rfl))
 ·(
 unfold spec_l71Label.Inv
 simp only [getD_set (show 11 < l.length by omega), eval_put (show 3 < a.tmps.size by omega), size_put, defers_put, Nat.reduceEqDiff, if_false, if_true]
 exact ⟨⟨z1, z2, z3, z4⟩, fun h => absurd h (by rw [c]; decide), ⟨k3, k8, k7⟩, i1, i2, i4, i6, i7, i9, i10, fun h h2 => (i0 h h2).elim fun b q => ⟨b, q.1, blk_alloc q.2.1 _, q.2.2⟩, fun h h2 => (i5 h h2).elim fun b q => ⟨b, q.1, blk_alloc q.2.1 _, q.2.2⟩, fun _ => ⟨W.heap.size, rfl, by rw [c]; exact blk_new W _, wW, w0W, by omega, by omega⟩, IsS64.alloc iS _, blk_alloc iB _, keep_alloc iK _, below_alloc iW _⟩))
 ·(
 have hn := undone hr (by omega)
 obtain ⟨_, hd⟩ := ready_of hr rfl
 simp only [List.getElem?_toArray, List.getElem?_cons_succ, List.getElem?_cons_zero, Option.some.injEq] at ho
 subst ho
 have d : ∀ j, j < 12 → l.getD j false = true := by
  intro j hj
  have cases_ : j = 0 ∨ j = 1 ∨ j = 2 ∨ j = 3 ∨ j = 4 ∨ j = 5 ∨ j = 6 ∨ j = 7 ∨ j = 8 ∨ j = 9 ∨ j = 10 ∨ j = 11 := by omega
  rcases cases_ with rfl | rfl | rfl | rfl | rfl | rfl | rfl | rfl | rfl | rfl | rfl | rfl <;> exact hd _ (by decide)
 obtain ⟨b, q1, q2, q3, q4, q5, q6⟩ := i11 (d 11 (by omega))
 rw [hn] at q2
 simp only [Bool.false_eq_true, if_false] at q2
 have e14 := i10 (d 10 (by omega))
 have m0 : W.cell? ⟨b, 0, none⟩ = some (.int .i64 0) := (blk_cell q2 0).trans rfl
 have m1 : W.cell? ⟨b, 1, none⟩ = some (.int .i64 0) := (blk_cell q2 1).trans rfl
 have f0 := blk_frozen q2 0
 have f1 := blk_frozen q2 1
 refine skip_ rfl rfl (w1 := (W.setCell ⟨b, 0, none⟩ (.int .i64 (rd [7, 7, 3, 5, 6, 1, 2, 4, 0] t1))).setCell ⟨b, 1, none⟩ (.int .i64 (rd [0, 0, 1, 2, 4, 3, 7, 5, 6] t2))) ?_ (hK _ _ ?_)
 ·(
 clear hd hn d q2 q3 q4 q5 q6 i0 i1 i2 i4 i5 i6 i7 i9 i10 i11 iS iB iK iW ic c12 hK K k3 k8 k7 BK HB1 HG L1 L2 L3 HI HB HL A1 A2
 generalize rd [7, 7, 3, 5, 6, 1, 2, 4, 0] t1 = x at *
 generalize rd [0, 0, 1, 2, 4, 3, 7, 5, 6] t2 = y at *
 generalize a.eval = ρ at *
 first | (go_simp; done) | (go_simp; rfl))
 ·(
 unfold spec_l71Label.Inv
 have far : ∀ {x : Nat} {o : Array Value} {t : TypeId}, W.heap[x]? = some (.cells o t (0, 0)) → x ≠ b → ((W.setCell ⟨b, 0, none⟩ (.int .i64 (rd [7, 7, 3, 5, 6, 1, 2, 4, 0] t1))).setCell ⟨b, 1, none⟩ (.int .i64 (rd [0, 0, 1, 2, 4, 3, 7, 5, 6] t2))).heap[x]? = some (.cells o t (0, 0)) := fun h hne => blk_far (blk_far h (p := ⟨b, 0, none⟩) hne _) (p := ⟨b, 1, none⟩) hne _
 simp only [getD_set (show 12 < l.length by omega), Nat.reduceEqDiff, if_false, if_true]
 exact ⟨⟨z1, z2, z3, z4⟩, fun _ j hj => by rw [if_neg (by omega)]; exact d j hj, ⟨k3, k8, k7⟩, i1, i2, i4, i6, i7, i9, i10, fun _ h => absurd h (by decide), fun _ h => absurd h (by decide), fun _ => ⟨b, q1, blk_put (blk_put q2 0 _ rfl) 1 _ rfl, q3, q4, q5, q6⟩,
  IsS64.far (p := ⟨b, 1, none⟩) (IsS64.far (p := ⟨b, 0, none⟩) iS q5 _) q5 _, far iB q6, spec_l71Label.keep_far (p := ⟨b, 1, none⟩) (spec_l71Label.keep_far (p := ⟨b, 0, none⟩) iK q3 _) q3 _, below_set (below_set iW q4) q4⟩)))
 ·(
 intro l a W hl hr hI
 have got : ∀ {i : Nat} {r : List Nat × List Nat}, i < l.length → spec_l71Label.T1.2[i]? = some r → (∀ j ∈ r.1, l.getD j false = true) → l.getD i false = true := fun h1 h2 h3 => spec_l71Label.got_of hr h1 h2 h3
 have hall : ∀ j, j < 13 → l.getD j false = true := by
  have d0 := got (i := 0) (by omega) rfl (by intro j hj; simp at hj)
  have d1 := got (i := 1) (by omega) rfl (by intro j hj; simp at hj)
  have d5 := got (i := 5) (by omega) rfl (by intro j hj; simp at hj)
  have d6 := got (i := 6) (by omega) rfl (by intro j hj; simp at hj)
  have d11 := got (i := 11) (by omega) rfl (by intro j hj; simp at hj)
  have d2 := got (i := 2) (by omega) rfl (by intro j hj; simp only [List.mem_cons, List.not_mem_nil, or_false] at hj; rw [hj]; exact d1)
  have d3 := got (i := 3) (by omega) rfl (by intro j hj; simp only [List.mem_cons, List.not_mem_nil, or_false] at hj; rcases hj with hj | hj <;> rw [hj] <;> assumption)
  have d4 := got (i := 4) (by omega) rfl (by intro j hj; simp only [List.mem_cons, List.not_mem_nil, or_false] at hj; rw [hj]; exact d3)
  have d7 := got (i := 7) (by omega) rfl (by intro j hj; simp only [List.mem_cons, List.not_mem_nil, or_false] at hj; rcases hj with hj | hj <;> rw [hj] <;> assumption)
  have d8 := got (i := 8) (by omega) rfl (by intro j hj; simp only [List.mem_cons, List.not_mem_nil, or_false] at hj; rcases hj with hj | hj <;> rw [hj] <;> assumption)
  have d9 := got (i := 9) (by omega) rfl (by intro j hj; simp only [List.mem_cons, List.not_mem_nil, or_false] at hj; rw [hj]; exact d8)
  have d10 := got (i := 10) (by omega) rfl (by intro j hj; simp only [List.mem_cons, List.not_mem_nil, or_false] at hj; rcases hj with hj | hj <;> rw [hj] <;> assumption)
  have d12 := got (i := 12) (by omega) rfl (by intro j hj; simp only [List.mem_cons, List.not_mem_nil, or_false] at hj; rcases hj with hj | hj | hj | hj | hj | hj | hj | hj | hj | hj | hj | hj | hj | hj | hj <;> rw [hj] <;> assumption)
  intro j hj
  have cases_ : j = 0 ∨ j = 1 ∨ j = 2 ∨ j = 3 ∨ j = 4 ∨ j = 5 ∨ j = 6 ∨ j = 7 ∨ j = 8 ∨ j = 9 ∨ j = 10 ∨ j = 11 ∨ j = 12 := by omega
  rcases cases_ with rfl | rfl | rfl | rfl | rfl | rfl | rfl | rfl | rfl | rfl | rfl | rfl | rfl <;> assumption
 obtain ⟨⟨z1, z2, z3, z4⟩, -, -, -, -, -, -, -, -, -, -, -, i11, iS, iB, iK, iW⟩ := hI
 obtain ⟨b, q1, q2, q3, q4, q5, q6⟩ := i11 (hall 11 (by omega))
 rw [hall 12 (by omega)] at q2
 rw [hall 7 (by omega)] at iS
 simp only [if_true] at q2 iS
 clear i11 hall got hr hl
 obtain ⟨T, D⟩ := a
 obtain ⟨T⟩ := T
 obtain ⟨x0, x1, x2, x3, x4, x5, x6, x7, x8, x9, x10, x11, x12, x13, x14, x15, rfl⟩ : ∃ x0 x1 x2 x3 x4 x5 x6 x7 x8 x9 x10 x11 x12 x13 x14 x15, T = [x0, x1, x2, x3, x4, x5, x6, x7, x8, x9, x10, x11, x12, x13, x14, x15] := by
  match T, z1 with
  | [x0, x1, x2, x3, x4, x5, x6, x7, x8, x9, x10, x11, x12, x13, x14, x15], _ => exact ⟨_, _, _, _, _, _, _, _, _, _, _, _, _, _, _, _, rfl⟩
 have e2 : x2 = .pointer (some ⟨gb, 0, none⟩) := z4
 have e3 : x3 = .pointer (some ⟨b, 0, none⟩) := q1
 have e4 : D = [] := z2
 subst e2 e3 e4
 clear z1 z2 z3 z4 q1
 have m0 : W.cell? ⟨b, 0, none⟩ = some (.int .i64 (rd [7, 7, 3, 5, 6, 1, 2, 4, 0] t1)) := (blk_cell q2 0).trans rfl
 have m1 : W.cell? ⟨b, 1, none⟩ = some (.int .i64 (rd [0, 0, 1, 2, 4, 3, 7, 5, 6] t2)) := (blk_cell q2 1).trans rfl
 have n0 : W.cell? ⟨gb, 0, none⟩ = some (.int .i64 0) := (blk_cell iB 0).trans rfl
 have n1 : W.cell? ⟨gb, 1, none⟩ = some (.int .i64 0) := (blk_cell iB 1).trans rfl
 have f0 := blk_frozen iB 0
 have f1 := blk_frozen iB 1
 have L1' := L1.out
 have L2' := L2.out
 have L3' := L3.out
 have P1 := blk_put (cs := #[.int .i64 (rd [7, 7, 3, 5, 6, 1, 2, 4, 0] t1), .int .i64 0]) (blk_put iB 0 (.int .i64 (rd [7, 7, 3, 5, 6, 1, 2, 4, 0] t1)) rfl) 1 (.int .i64 (rd [0, 0, 1, 2, 4, 3, 7, 5, 6] t2)) rfl
 have P2 := IsS64.far (p := ⟨gb, 1, none⟩) (IsS64.far (p := ⟨gb, 0, none⟩) iS L3' (.int .i64 (rd [7, 7, 3, 5, 6, 1, 2, 4, 0] t1))) L3' (.int .i64 (rd [0, 0, 1, 2, 4, 3, 7, 5, 6] t2))
 have P3 := below_set (g := gb) (j := 1) (v := .int .i64 (rd [0, 0, 1, 2, 4, 3, 7, 5, 6] t2)) (below_set (g := gb) (j := 0) (v := .int .i64 (rd [7, 7, 3, 5, 6, 1, 2, 4, 0] t1)) iW L2') L2'
 have P4 := spec_l71Label.keep_far (p := ⟨gb, 1, none⟩) (spec_l71Label.keep_far (p := ⟨gb, 0, none⟩) iK L1' (.int .i64 (rd [7, 7, 3, 5, 6, 1, 2, 4, 0] t1))) L1' (.int .i64 (rd [0, 0, 1, 2, 4, 3, 7, 5, 6] t2))
 clear HI HB HL HG BK HB1 A1 A2 q2 q3 q4 q5 q6 iS iB iK iW
 go_wp2
 refine bodyPost_ret (results_cell_row rfl _ _ gb 39 #[.int .i64 (rd [7, 7, 3, 5, 6, 1, 2, 4, 0] t1), .int .i64 (rd [0, 0, 1, 2, 4, 3, 7, 5, 6] t2)] (0, 0) _ rfl P1 hu rfl (by kernel_rfl)) rfl ?_
 exact ⟨rfl, P2, P3, P4⟩)

end Go.Proofs.Ythidgkfgdkjghaa.A
