/- Go functions as Lean functions, and for each its contract; written by wip/tools/pr.py over the kit's print. -/
import Derived.Test.YtfcmckomagaiiaaDoorAx0
import Derived.Test.YtfcmckomagaiiaaDoorAx2
import Derived.Test.YtfcmckomagaiiaaDoorAx3
namespace Go.Proofs.YtfcmckomagaiiaaDoor.A
open Go.RowKit Go.Proofs.YtfcmckomagaiiaaDoorW.PrintWords Go.Proofs.YtfcmckomagaiiaaDoorW.PrintLast Go.Proofs.YtfcmckomagaiiaaDoorW.PrintMore
attribute [local go_sem] max2_int min2_int max_two min_two max_three min_three max_four min_four
set_option linter.unusedVariables false
set_option linter.unusedSimpArgs false
set_option maxHeartbeats 8000000
set_option maxRecDepth 100000

attribute [local go_sem high] eqA69
/-! ### spec_l2Step: function 56 -/
def spec_l2Step.g (k : Nat) (bf : List (S43) → List (S71) → List (S71) → Int → Option (Bool)) (l0_0 : List (S43)) (l0_1 : List (S71)) (a1_0 : Int) (a1_1 : Int) (a1_2 : Int) (a1_3 : Int) (a1_4 : Int) (a1_5 : Int) (l1_6 : List (S71)) (l1_7 : List (S71)) (a2 : Int) : Option (Bool) := if a2 < 1 then (some false) else ((spec_l2Var.f l0_0 l0_1 a1_1).bind fun t116 => (if t116 = true then (if a1_0 = 1 then ((spec_l2Val.f k l0_0 l0_1 a1_2 a1_3 a1_4).bind fun t117 => (if t117 = true then (if a1_5 = 0 then (some ((wrap64 ((l1_6.length : Int) + (l1_7.length : Int))) == 0)) else (some false)) else (some false))) else (if a1_0 = 3 then (if (a1_2 == 0 && (a1_3 == 0 && (a1_4 == 0))) = true then ((spec_l6In.f a1_5 0 2).bind fun t118 => (if t118 = true then (some ((wrap64 ((l1_6.length : Int) + (l1_7.length : Int))) == 0)) else (some false))) else (some false)) else (if a1_0 = 2 then (if (a1_2 == 0 && (a1_3 == 0 && (a1_4 == 0))) = true then (if a1_5 = 0 then ((bf l0_0 l0_1 l1_6 (wrap64 (a2 - 1))).bind fun t119 => (if t119 = true then ((bf l0_0 l0_1 l1_7 (wrap64 (a2 - 1))).bind fun t120 => (some t120)) else (some false))) else (some false)) else (some false)) else (some false)))) else (some false)))
theorem spec_l2Step.calls_g (k : Nat) (bf : List (S43) → List (S71) → List (S71) → Int → Option (Bool)) (ihB : ∀ (A0_0 : Option Addr) (c0_0 : Nat) (l0_0 : List (S43)) (A0_1 : Option Addr) (c0_1 : Nat) (l0_1 : List (S71)) (A1 : Option Addr) (c1 : Nat) (l1 : List (S71)) (a2 : Int) (r : Bool) (w : World) (hr0_0 : Kd.C k43 w A0_0 l0_0.length l0_0) (hc0_0 : l0_0.length ≤ c0_0) (hr0_1 : Kd.C k71 w A0_1 l0_1.length l0_1) (hc0_1 : l0_1.length ≤ c0_1) (hr1 : Kd.C k71 w A1 l1.length l1) (hc1 : l1.length ≤ c1) (h : bf l0_0 l0_1 l1 a2 = some r),
  Calls Tryd.prog 29 #[.agg #[.slice A0_0 l0_0.length c0_0, .slice A0_1 l0_1.length c0_1], .slice A1 l1.length c1, .int .i64 a2] w fun e w' => e = .returned (.bool r) ∧ Below w.heap.size w w') (A0_0 : Option Addr) (c0_0 : Nat) (l0_0 : List (S43)) (A0_1 : Option Addr) (c0_1 : Nat) (l0_1 : List (S71)) (a1_0 : Int) (a1_1 : Int) (a1_2 : Int) (a1_3 : Int) (a1_4 : Int) (a1_5 : Int) (A1_6 : Option Addr) (c1_6 : Nat) (l1_6 : List (S71)) (A1_7 : Option Addr) (c1_7 : Nat) (l1_7 : List (S71)) (a2 : Int) (r : Bool) (w : World) (hr0_0 : Kd.C k43 w A0_0 l0_0.length l0_0) (hc0_0 : l0_0.length ≤ c0_0) (hr0_1 : Kd.C k71 w A0_1 l0_1.length l0_1) (hc0_1 : l0_1.length ≤ c0_1) (hr1_6 : Kd.C k71 w A1_6 l1_6.length l1_6) (hc1_6 : l1_6.length ≤ c1_6) (hr1_7 : Kd.C k71 w A1_7 l1_7.length l1_7) (hc1_7 : l1_7.length ≤ c1_7) (h : spec_l2Step.g k bf l0_0 l0_1 a1_0 a1_1 a1_2 a1_3 a1_4 a1_5 l1_6 l1_7 a2 = some r) :
  Calls Tryd.prog 56 #[.agg #[.slice A0_0 l0_0.length c0_0, .slice A0_1 l0_1.length c0_1], .agg #[.int .i64 a1_0, .int .i64 a1_1, .int .i64 a1_2, .int .i64 a1_3, .int .i64 a1_4, .int .i64 a1_5, .slice A1_6 l1_6.length c1_6, .slice A1_7 l1_7.length c1_7], .int .i64 a2] w fun e w' => e = .returned (.bool r) ∧ Below w.heap.size w w' := by
 have hu31 := Tryd.underlying31
 have hu71 := Tryd.underlying71
 have hu69 := Tryd.underlying69
 have HR0_0 := AM hr0_0
 have HC0_0 := AM hc0_0
 clear hr0_0 hc0_0
 have HR0_1 := AM hr0_1
 have HC0_1 := AM hc0_1
 clear hr0_1 hc0_1
 have HR1_6 := AM hr1_6
 have HC1_6 := AM hc1_6
 clear hr1_6 hc1_6
 have HR1_7 := AM hr1_7
 have HC1_7 := AM hc1_7
 clear hr1_7 hc1_7
 have HB := AM (Below.refl w.heap.size w)
 have H : (if a2 < 1 then (some false) else ((spec_l2Var.f l0_0 l0_1 a1_1).bind fun t116 => (if t116 = true then (if a1_0 = 1 then ((spec_l2Val.f k l0_0 l0_1 a1_2 a1_3 a1_4).bind fun t117 => (if t117 = true then (if a1_5 = 0 then (some ((wrap64 ((l1_6.length : Int) + (l1_7.length : Int))) == 0)) else (some false)) else (some false))) else (if a1_0 = 3 then (if (a1_2 == 0 && (a1_3 == 0 && (a1_4 == 0))) = true then ((spec_l6In.f a1_5 0 2).bind fun t118 => (if t118 = true then (some ((wrap64 ((l1_6.length : Int) + (l1_7.length : Int))) == 0)) else (some false))) else (some false)) else (if a1_0 = 2 then (if (a1_2 == 0 && (a1_3 == 0 && (a1_4 == 0))) = true then (if a1_5 = 0 then ((bf l0_0 l0_1 l1_6 (wrap64 (a2 - 1))).bind fun t119 => (if t119 = true then ((bf l0_0 l0_1 l1_7 (wrap64 (a2 - 1))).bind fun t120 => (some t120)) else (some false))) else (some false)) else (some false)) else (some false)))) else (some false)))) = some r := h
 clear h
 by_cases c4 : a2 < 1
 focus (
 rw [if_pos c4] at H
 have c4b0 := decide_eq_true c4
 clear c4
 obtain rfl := Option.some.inj H
 have tag0_ : Za True := ⟨trivial⟩)
 rotate_left
 focus (
 rw [if_neg c4] at H
 have c4b0 := decide_eq_false c4
 clear c4
 obtain ⟨t116, A7, H⟩ := ZOB H; try dsimp only at H
 by_cases c8 : t116 = true
 focus (
 subst c8
 have H1 := H; rw [if_pos rfl] at H1
 clear H
 have H := H1
 clear H1
 by_cases c9 : a1_0 = 1
 focus (
 rw [if_pos c9] at H
 have c9b0 := beq_iff_eq.mpr c9
 have c9b1 := bne_eq_false_iff_eq.mpr c9
 clear c9
 obtain ⟨t117, A10, H⟩ := ZOB H; try dsimp only at H
 by_cases c11 : t117 = true
 focus (
 subst c11
 have H1 := H; rw [if_pos rfl] at H1
 clear H
 have H := H1
 clear H1
 by_cases c12 : a1_5 = 0
 focus (
 rw [if_pos c12] at H
 have c12b0 := beq_iff_eq.mpr c12
 have c12b1 := bne_eq_false_iff_eq.mpr c12
 clear c12
 obtain rfl := Option.some.inj H
 have tag1_ : Za True := ⟨trivial⟩)
 rotate_left
 focus (
 rw [if_neg c12] at H
 have c12b0 := beq_eq_false_iff_ne.mpr c12
 have c12b1 := bne_iff_ne.mpr c12
 obtain rfl := Option.some.inj H
 have tag2_ : Za True := ⟨trivial⟩)
 rotate_left)
 rotate_left 2
 focus (
 replace c11 := Bool.eq_false_iff.mpr c11
 subst c11
 have H1 := H; rw [if_neg ZFT] at H1
 clear H
 have H := H1
 clear H1
 obtain rfl := Option.some.inj H
 have tag3_ : Za True := ⟨trivial⟩)
 rotate_left)
 rotate_left 3
 focus (
 rw [if_neg c9] at H
 have c9b0 := beq_eq_false_iff_ne.mpr c9
 have c9b1 := bne_iff_ne.mpr c9
 by_cases c42 : a1_0 = 3
 focus (
 rw [if_pos c42] at H
 have c42b0 := beq_iff_eq.mpr c42
 have c42b1 := bne_eq_false_iff_eq.mpr c42
 clear c42
 by_cases c43 : (a1_2 == 0 && (a1_3 == 0 && (a1_4 == 0))) = true
 focus (
 rw [if_pos c43] at H
 have c43b0 : (a1_2 == 0 && (a1_3 == 0 && (a1_4 == 0))) = true := c43
 (try (have c43b1 : decide (a1_2 = 0 && (a1_3 == 0 && (a1_4 == 0))) = true := by simpa using c43))
 (try (have c43b2 : (a1_2 == 0 && (a1_3 == 0 && (a1_4 == 0))) = true := by simpa using c43))
 clear c43
 obtain ⟨t118, A44, H⟩ := ZOB H; try dsimp only at H
 by_cases c45 : t118 = true
 focus (
 subst c45
 have H1 := H; rw [if_pos rfl] at H1
 clear H
 have H := H1
 clear H1
 obtain rfl := Option.some.inj H
 have tag4_ : Za True := ⟨trivial⟩)
 rotate_left
 focus (
 replace c45 := Bool.eq_false_iff.mpr c45
 subst c45
 have H1 := H; rw [if_neg ZFT] at H1
 clear H
 have H := H1
 clear H1
 obtain rfl := Option.some.inj H
 have tag5_ : Za True := ⟨trivial⟩)
 rotate_left)
 rotate_left 2
 focus (
 rw [if_neg c43] at H
 have c43b0 : (a1_2 == 0 && (a1_3 == 0 && (a1_4 == 0))) = false := by simpa using c43
 (try (have c43b1 : decide (a1_2 = 0 && (a1_3 == 0 && (a1_4 == 0))) = false := by simpa using c43))
 (try (have c43b2 : (a1_2 == 0 && (a1_3 == 0 && (a1_4 == 0))) = false := by simpa using c43))
 (try (have c43b3 : ¬ (a1_2 = 0 && (a1_3 == 0 && (a1_4 == 0))) := by simpa using c43))
 clear c43
 obtain rfl := Option.some.inj H
 have tag6_ : Za True := ⟨trivial⟩)
 rotate_left)
 rotate_left 3
 focus (
 rw [if_neg c42] at H
 have c42b0 := beq_eq_false_iff_ne.mpr c42
 have c42b1 := bne_iff_ne.mpr c42
 by_cases c67 : a1_0 = 2
 focus (
 rw [if_pos c67] at H
 have c67b0 := beq_iff_eq.mpr c67
 have c67b1 := bne_eq_false_iff_eq.mpr c67
 clear c67
 by_cases c68 : (a1_2 == 0 && (a1_3 == 0 && (a1_4 == 0))) = true
 focus (
 rw [if_pos c68] at H
 have c68b0 : (a1_2 == 0 && (a1_3 == 0 && (a1_4 == 0))) = true := c68
 (try (have c68b1 : decide (a1_2 = 0 && (a1_3 == 0 && (a1_4 == 0))) = true := by simpa using c68))
 (try (have c68b2 : (a1_2 == 0 && (a1_3 == 0 && (a1_4 == 0))) = true := by simpa using c68))
 clear c68
 by_cases c69 : a1_5 = 0
 focus (
 rw [if_pos c69] at H
 have c69b0 := beq_iff_eq.mpr c69
 have c69b1 := bne_eq_false_iff_eq.mpr c69
 clear c69
 obtain ⟨t119, A70, H⟩ := ZOB H; try dsimp only at H
 by_cases c71 : t119 = true
 focus (
 subst c71
 have H1 := H; rw [if_pos rfl] at H1
 clear H
 have H := H1
 clear H1
 obtain ⟨t120, A72, H⟩ := ZOB H; try dsimp only at H
 obtain rfl := Option.some.inj H
 have tag7_ : Za True := ⟨trivial⟩)
 rotate_left
 focus (
 replace c71 := Bool.eq_false_iff.mpr c71
 subst c71
 have H1 := H; rw [if_neg ZFT] at H1
 clear H
 have H := H1
 clear H1
 obtain rfl := Option.some.inj H
 have tag8_ : Za True := ⟨trivial⟩)
 rotate_left)
 rotate_left 2
 focus (
 rw [if_neg c69] at H
 have c69b0 := beq_eq_false_iff_ne.mpr c69
 have c69b1 := bne_iff_ne.mpr c69
 obtain rfl := Option.some.inj H
 have tag9_ : Za True := ⟨trivial⟩)
 rotate_left)
 rotate_left 3
 focus (
 rw [if_neg c68] at H
 have c68b0 : (a1_2 == 0 && (a1_3 == 0 && (a1_4 == 0))) = false := by simpa using c68
 (try (have c68b1 : decide (a1_2 = 0 && (a1_3 == 0 && (a1_4 == 0))) = false := by simpa using c68))
 (try (have c68b2 : (a1_2 == 0 && (a1_3 == 0 && (a1_4 == 0))) = false := by simpa using c68))
 (try (have c68b3 : ¬ (a1_2 = 0 && (a1_3 == 0 && (a1_4 == 0))) := by simpa using c68))
 clear c68
 obtain rfl := Option.some.inj H
 have tag10_ : Za True := ⟨trivial⟩)
 rotate_left)
 rotate_left 4
 focus (
 rw [if_neg c67] at H
 have c67b0 := beq_eq_false_iff_ne.mpr c67
 have c67b1 := bne_iff_ne.mpr c67
 obtain rfl := Option.some.inj H
 have tag11_ : Za True := ⟨trivial⟩)
 rotate_left)
 rotate_left 5)
 rotate_left 8)
 rotate_left 11
 focus (
 replace c8 := Bool.eq_false_iff.mpr c8
 subst c8
 have H1 := H; rw [if_neg ZFT] at H1
 clear H
 have H := H1
 clear H1
 obtain rfl := Option.some.inj H
 have tag12_ : Za True := ⟨trivial⟩)
 rotate_left)
 rotate_left 12
 all_goals (
 go_enter Tryd.func56, Tryd.ntmps56
 first
 | (
 (have z_ := tag0_; clear z_)
 go_wp2_with (first | ((with_reducible refine gate_dst (N := 3) rfl ?_); refine ZXW w (N := 3) (cs := #[.slice A0_0 l0_0.length c0_0, .slice A0_1 l0_1.length c0_1]) (t := 31) ?_; intro gbq0 hg wq0 BKq0 GWq0 hb; replace HB := ZT HB hb; clear hb hg) | ((with_reducible refine gate_dst (N := 4) rfl ?_); refine ZXW w (N := 4) (cs := #[.int .i64 a1_0, .int .i64 a1_1, .int .i64 a1_2, .int .i64 a1_3, .int .i64 a1_4, .int .i64 a1_5, .slice A1_6 l1_6.length c1_6, .slice A1_7 l1_7.length c1_7]) (t := 71) ?_; intro gbq1 hg wq1 BKq1 GWq1 hb; have NBq0_115 : Za (gbq0 ≠ gbq1) := ZN hg BKq0; have NBq1_114 : Za (gbq1 ≠ gbq0) := ZM hg BKq0; replace BKq0 := ZW BKq0 hb; replace HB := ZT HB hb; clear hb hg))
 go_ret
 exact ⟨ZE, ZB⟩)
 | (
 (first | (have z_ := tag1_; clear z_) | (have z_ := tag2_; clear z_))
 go_wp2_with (first | ((with_reducible refine gate_dst (N := 3) rfl ?_); refine ZXW w (N := 3) (cs := #[.slice A0_0 l0_0.length c0_0, .slice A0_1 l0_1.length c0_1]) (t := 31) ?_; intro gbq0 hg wq0 BKq0 GWq0 hb; replace HB := ZT HB hb; clear hb hg) | ((with_reducible refine gate_dst (N := 4) rfl ?_); refine ZXW w (N := 4) (cs := #[.int .i64 a1_0, .int .i64 a1_1, .int .i64 a1_2, .int .i64 a1_3, .int .i64 a1_4, .int .i64 a1_5, .slice A1_6 l1_6.length c1_6, .slice A1_7 l1_7.length c1_7]) (t := 71) ?_; intro gbq1 hg wq1 BKq1 GWq1 hb; have NBq0_115 : Za (gbq0 ≠ gbq1) := ZN hg BKq0; have NBq1_114 : Za (gbq1 ≠ gbq0) := ZM hg BKq0; replace BKq0 := ZW BKq0 hb; replace HB := ZT HB hb; clear hb hg; have hnbq0 := NBq0_115.out; have hncq0 := NBq1_114.out; have hczq0 := ZC2 wq1 BKq0; have hczq1 := ZC8 wq1 BKq1) | (go_at_call 75; (with_reducible refine (spec_l2Var.calls _ _ l0_0 _ _ l0_1 a1_1 true _ (ZQ (Kd.C_below HR0_0.out HB.out)) HC0_0.out (ZQ (Kd.C_below HR0_1.out HB.out)) HC0_1.out A7.out).mono ?_); rintro e wq2 ⟨rfl, hb⟩; replace BKq0 := ZW BKq0 hb; replace BKq1 := ZW BKq1 hb; replace HB := ZT HB hb; clear hb; have hczq2 := ZC8 wq2 BKq1; have hczq3 := ZC2 wq2 BKq0) | ((with_reducible refine gate_callee (f := 76) rfl ?_); refine ZGL (some 28) Tryd.func76 #[.agg #[.slice A0_0 l0_0.length c0_0, .slice A0_1 l0_1.length c0_1], .agg #[.int .i64 a1_2, .int .i64 a1_3, .int .i64 a1_4]] ?_; (with_reducible refine (spec_l2Val.calls k _ _ l0_0 _ _ l0_1 a1_2 a1_3 a1_4 true _ (ZQ (Kd.C_below HR0_0.out HB.out)) HC0_0.out (ZQ (Kd.C_below HR0_1.out HB.out)) HC0_1.out A10.out).mono ?_); rintro e wq3 ⟨rfl, hb⟩; refine ZV1 ?_; replace BKq0 := ZW BKq0 hb; replace BKq1 := ZW BKq1 hb; replace HB := ZT HB hb; clear hb; have hczq4 := ZC8 wq3 BKq1))
 go_ret
 exact ⟨ZE, ZB⟩)
 | (
 (have z_ := tag3_; clear z_)
 go_wp2_with (first | ((with_reducible refine gate_dst (N := 3) rfl ?_); refine ZXW w (N := 3) (cs := #[.slice A0_0 l0_0.length c0_0, .slice A0_1 l0_1.length c0_1]) (t := 31) ?_; intro gbq0 hg wq0 BKq0 GWq0 hb; replace HB := ZT HB hb; clear hb hg) | ((with_reducible refine gate_dst (N := 4) rfl ?_); refine ZXW w (N := 4) (cs := #[.int .i64 a1_0, .int .i64 a1_1, .int .i64 a1_2, .int .i64 a1_3, .int .i64 a1_4, .int .i64 a1_5, .slice A1_6 l1_6.length c1_6, .slice A1_7 l1_7.length c1_7]) (t := 71) ?_; intro gbq1 hg wq1 BKq1 GWq1 hb; have NBq0_115 : Za (gbq0 ≠ gbq1) := ZN hg BKq0; have NBq1_114 : Za (gbq1 ≠ gbq0) := ZM hg BKq0; replace BKq0 := ZW BKq0 hb; replace HB := ZT HB hb; clear hb hg; have hnbq0 := NBq0_115.out; have hncq0 := NBq1_114.out; have hczq0 := ZC2 wq1 BKq0; have hczq1 := ZC8 wq1 BKq1) | (go_at_call 75; (with_reducible refine (spec_l2Var.calls _ _ l0_0 _ _ l0_1 a1_1 true _ (ZQ (Kd.C_below HR0_0.out HB.out)) HC0_0.out (ZQ (Kd.C_below HR0_1.out HB.out)) HC0_1.out A7.out).mono ?_); rintro e wq2 ⟨rfl, hb⟩; replace BKq0 := ZW BKq0 hb; replace BKq1 := ZW BKq1 hb; replace HB := ZT HB hb; clear hb; have hczq2 := ZC8 wq2 BKq1; have hczq3 := ZC2 wq2 BKq0) | ((with_reducible refine gate_callee (f := 76) rfl ?_); refine ZGL (some 28) Tryd.func76 #[.agg #[.slice A0_0 l0_0.length c0_0, .slice A0_1 l0_1.length c0_1], .agg #[.int .i64 a1_2, .int .i64 a1_3, .int .i64 a1_4]] ?_; (with_reducible refine (spec_l2Val.calls k _ _ l0_0 _ _ l0_1 a1_2 a1_3 a1_4 false _ (ZQ (Kd.C_below HR0_0.out HB.out)) HC0_0.out (ZQ (Kd.C_below HR0_1.out HB.out)) HC0_1.out A10.out).mono ?_); rintro e wq3 ⟨rfl, hb⟩; refine ZV1 ?_; replace BKq0 := ZW BKq0 hb; replace BKq1 := ZW BKq1 hb; replace HB := ZT HB hb; clear hb))
 go_ret
 exact ⟨ZE, ZB⟩)
 | (
 (have z_ := tag4_; clear z_)
 go_wp2_with (first | ((with_reducible refine gate_dst (N := 3) rfl ?_); refine ZXW w (N := 3) (cs := #[.slice A0_0 l0_0.length c0_0, .slice A0_1 l0_1.length c0_1]) (t := 31) ?_; intro gbq0 hg wq0 BKq0 GWq0 hb; replace HB := ZT HB hb; clear hb hg) | ((with_reducible refine gate_dst (N := 4) rfl ?_); refine ZXW w (N := 4) (cs := #[.int .i64 a1_0, .int .i64 a1_1, .int .i64 a1_2, .int .i64 a1_3, .int .i64 a1_4, .int .i64 a1_5, .slice A1_6 l1_6.length c1_6, .slice A1_7 l1_7.length c1_7]) (t := 71) ?_; intro gbq1 hg wq1 BKq1 GWq1 hb; have NBq0_115 : Za (gbq0 ≠ gbq1) := ZN hg BKq0; have NBq1_114 : Za (gbq1 ≠ gbq0) := ZM hg BKq0; replace BKq0 := ZW BKq0 hb; replace HB := ZT HB hb; clear hb hg; have hnbq0 := NBq0_115.out; have hncq0 := NBq1_114.out; have hczq0 := ZC2 wq1 BKq0; have hczq1 := ZC8 wq1 BKq1) | (go_at_call 75; (with_reducible refine (spec_l2Var.calls _ _ l0_0 _ _ l0_1 a1_1 true _ (ZQ (Kd.C_below HR0_0.out HB.out)) HC0_0.out (ZQ (Kd.C_below HR0_1.out HB.out)) HC0_1.out A7.out).mono ?_); rintro e wq2 ⟨rfl, hb⟩; replace BKq0 := ZW BKq0 hb; replace BKq1 := ZW BKq1 hb; replace HB := ZT HB hb; clear hb; have hczq2 := ZC8 wq2 BKq1) | (go_at_call 73; (with_reducible refine (spec_l6In.calls a1_5 0 2 true _ A44.out).mono ?_); rintro e w' ⟨rfl, ⟨nd, rfl⟩⟩))
 go_ret
 exact ⟨ZE, ZB⟩)
 | (
 (have z_ := tag5_; clear z_)
 go_wp2_with (first | ((with_reducible refine gate_dst (N := 3) rfl ?_); refine ZXW w (N := 3) (cs := #[.slice A0_0 l0_0.length c0_0, .slice A0_1 l0_1.length c0_1]) (t := 31) ?_; intro gbq0 hg wq0 BKq0 GWq0 hb; replace HB := ZT HB hb; clear hb hg) | ((with_reducible refine gate_dst (N := 4) rfl ?_); refine ZXW w (N := 4) (cs := #[.int .i64 a1_0, .int .i64 a1_1, .int .i64 a1_2, .int .i64 a1_3, .int .i64 a1_4, .int .i64 a1_5, .slice A1_6 l1_6.length c1_6, .slice A1_7 l1_7.length c1_7]) (t := 71) ?_; intro gbq1 hg wq1 BKq1 GWq1 hb; have NBq0_115 : Za (gbq0 ≠ gbq1) := ZN hg BKq0; have NBq1_114 : Za (gbq1 ≠ gbq0) := ZM hg BKq0; replace BKq0 := ZW BKq0 hb; replace HB := ZT HB hb; clear hb hg; have hnbq0 := NBq0_115.out; have hncq0 := NBq1_114.out; have hczq0 := ZC2 wq1 BKq0; have hczq1 := ZC8 wq1 BKq1) | (go_at_call 75; (with_reducible refine (spec_l2Var.calls _ _ l0_0 _ _ l0_1 a1_1 true _ (ZQ (Kd.C_below HR0_0.out HB.out)) HC0_0.out (ZQ (Kd.C_below HR0_1.out HB.out)) HC0_1.out A7.out).mono ?_); rintro e wq2 ⟨rfl, hb⟩; replace BKq0 := ZW BKq0 hb; replace BKq1 := ZW BKq1 hb; replace HB := ZT HB hb; clear hb; have hczq2 := ZC8 wq2 BKq1) | (go_at_call 73; (with_reducible refine (spec_l6In.calls a1_5 0 2 false _ A44.out).mono ?_); rintro e w' ⟨rfl, ⟨nd, rfl⟩⟩))
 go_ret
 exact ⟨ZE, ZB⟩)
 | (
 (first | (have z_ := tag6_; clear z_) | (have z_ := tag9_; clear z_) | (have z_ := tag10_; clear z_) | (have z_ := tag11_; clear z_))
 go_wp2_with (first | ((with_reducible refine gate_dst (N := 3) rfl ?_); refine ZXW w (N := 3) (cs := #[.slice A0_0 l0_0.length c0_0, .slice A0_1 l0_1.length c0_1]) (t := 31) ?_; intro gbq0 hg wq0 BKq0 GWq0 hb; replace HB := ZT HB hb; clear hb hg) | ((with_reducible refine gate_dst (N := 4) rfl ?_); refine ZXW w (N := 4) (cs := #[.int .i64 a1_0, .int .i64 a1_1, .int .i64 a1_2, .int .i64 a1_3, .int .i64 a1_4, .int .i64 a1_5, .slice A1_6 l1_6.length c1_6, .slice A1_7 l1_7.length c1_7]) (t := 71) ?_; intro gbq1 hg wq1 BKq1 GWq1 hb; have NBq0_115 : Za (gbq0 ≠ gbq1) := ZN hg BKq0; have NBq1_114 : Za (gbq1 ≠ gbq0) := ZM hg BKq0; replace BKq0 := ZW BKq0 hb; replace HB := ZT HB hb; clear hb hg; have hnbq0 := NBq0_115.out; have hncq0 := NBq1_114.out; have hczq0 := ZC2 wq1 BKq0; have hczq1 := ZC8 wq1 BKq1) | (go_at_call 75; (with_reducible refine (spec_l2Var.calls _ _ l0_0 _ _ l0_1 a1_1 true _ (ZQ (Kd.C_below HR0_0.out HB.out)) HC0_0.out (ZQ (Kd.C_below HR0_1.out HB.out)) HC0_1.out A7.out).mono ?_); rintro e wq2 ⟨rfl, hb⟩; replace BKq0 := ZW BKq0 hb; replace BKq1 := ZW BKq1 hb; replace HB := ZT HB hb; clear hb; have hczq2 := ZC8 wq2 BKq1))
 go_ret
 exact ⟨ZE, ZB⟩)
 | (
 (have z_ := tag7_; clear z_)
 go_wp2_with (first | ((with_reducible refine gate_dst (N := 3) rfl ?_); refine ZXW w (N := 3) (cs := #[.slice A0_0 l0_0.length c0_0, .slice A0_1 l0_1.length c0_1]) (t := 31) ?_; intro gbq0 hg wq0 BKq0 GWq0 hb; replace HB := ZT HB hb; clear hb hg) | ((with_reducible refine gate_dst (N := 4) rfl ?_); refine ZXW w (N := 4) (cs := #[.int .i64 a1_0, .int .i64 a1_1, .int .i64 a1_2, .int .i64 a1_3, .int .i64 a1_4, .int .i64 a1_5, .slice A1_6 l1_6.length c1_6, .slice A1_7 l1_7.length c1_7]) (t := 71) ?_; intro gbq1 hg wq1 BKq1 GWq1 hb; have NBq0_115 : Za (gbq0 ≠ gbq1) := ZN hg BKq0; have NBq1_114 : Za (gbq1 ≠ gbq0) := ZM hg BKq0; replace BKq0 := ZW BKq0 hb; replace HB := ZT HB hb; clear hb hg; have hnbq0 := NBq0_115.out; have hncq0 := NBq1_114.out; have hczq0 := ZC2 wq1 BKq0; have hczq1 := ZC8 wq1 BKq1) | (go_at_call 75; (with_reducible refine (spec_l2Var.calls _ _ l0_0 _ _ l0_1 a1_1 true _ (ZQ (Kd.C_below HR0_0.out HB.out)) HC0_0.out (ZQ (Kd.C_below HR0_1.out HB.out)) HC0_1.out A7.out).mono ?_); rintro e wq2 ⟨rfl, hb⟩; replace BKq0 := ZW BKq0 hb; replace BKq1 := ZW BKq1 hb; replace HB := ZT HB hb; clear hb; have hczq2 := ZC8 wq2 BKq1; have hczq3 := ZC2 wq2 BKq0) | (go_at_call 29; (with_reducible refine (ihB _ _ l0_0 _ _ l0_1 _ _ l1_6 (wrap64 (a2 - 1)) true _ (ZQ (Kd.C_below HR0_0.out HB.out)) HC0_0.out (ZQ (Kd.C_below HR0_1.out HB.out)) HC0_1.out (ZQ (Kd.C_below HR1_6.out HB.out)) HC1_6.out A70.out).mono ?_); rintro e wq3 ⟨rfl, hb⟩; replace BKq0 := ZW BKq0 hb; replace BKq1 := ZW BKq1 hb; replace HB := ZT HB hb; clear hb; have hczq4 := ZC2 wq3 BKq0; have hczq5 := ZC8 wq3 BKq1) | (go_at_call 29; (with_reducible refine (ihB _ _ l0_0 _ _ l0_1 _ _ l1_7 (wrap64 (a2 - 1)) t120 _ (ZQ (Kd.C_below HR0_0.out HB.out)) HC0_0.out (ZQ (Kd.C_below HR0_1.out HB.out)) HC0_1.out (ZQ (Kd.C_below HR1_7.out HB.out)) HC1_7.out A72.out).mono ?_); rintro e wq4 ⟨rfl, hb⟩; replace BKq0 := ZW BKq0 hb; replace BKq1 := ZW BKq1 hb; replace HB := ZT HB hb; clear hb))
 go_ret
 exact ⟨ZE, ZB⟩)
 | (
 (have z_ := tag8_; clear z_)
 go_wp2_with (first | ((with_reducible refine gate_dst (N := 3) rfl ?_); refine ZXW w (N := 3) (cs := #[.slice A0_0 l0_0.length c0_0, .slice A0_1 l0_1.length c0_1]) (t := 31) ?_; intro gbq0 hg wq0 BKq0 GWq0 hb; replace HB := ZT HB hb; clear hb hg) | ((with_reducible refine gate_dst (N := 4) rfl ?_); refine ZXW w (N := 4) (cs := #[.int .i64 a1_0, .int .i64 a1_1, .int .i64 a1_2, .int .i64 a1_3, .int .i64 a1_4, .int .i64 a1_5, .slice A1_6 l1_6.length c1_6, .slice A1_7 l1_7.length c1_7]) (t := 71) ?_; intro gbq1 hg wq1 BKq1 GWq1 hb; have NBq0_115 : Za (gbq0 ≠ gbq1) := ZN hg BKq0; have NBq1_114 : Za (gbq1 ≠ gbq0) := ZM hg BKq0; replace BKq0 := ZW BKq0 hb; replace HB := ZT HB hb; clear hb hg; have hnbq0 := NBq0_115.out; have hncq0 := NBq1_114.out; have hczq0 := ZC2 wq1 BKq0; have hczq1 := ZC8 wq1 BKq1) | (go_at_call 75; (with_reducible refine (spec_l2Var.calls _ _ l0_0 _ _ l0_1 a1_1 true _ (ZQ (Kd.C_below HR0_0.out HB.out)) HC0_0.out (ZQ (Kd.C_below HR0_1.out HB.out)) HC0_1.out A7.out).mono ?_); rintro e wq2 ⟨rfl, hb⟩; replace BKq0 := ZW BKq0 hb; replace BKq1 := ZW BKq1 hb; replace HB := ZT HB hb; clear hb; have hczq2 := ZC8 wq2 BKq1; have hczq3 := ZC2 wq2 BKq0) | (go_at_call 29; (with_reducible refine (ihB _ _ l0_0 _ _ l0_1 _ _ l1_6 (wrap64 (a2 - 1)) false _ (ZQ (Kd.C_below HR0_0.out HB.out)) HC0_0.out (ZQ (Kd.C_below HR0_1.out HB.out)) HC0_1.out (ZQ (Kd.C_below HR1_6.out HB.out)) HC1_6.out A70.out).mono ?_); rintro e wq3 ⟨rfl, hb⟩; replace BKq0 := ZW BKq0 hb; replace BKq1 := ZW BKq1 hb; replace HB := ZT HB hb; clear hb))
 go_ret
 exact ⟨ZE, ZB⟩)
 | (
 (have z_ := tag12_; clear z_)
 go_wp2_with (first | ((with_reducible refine gate_dst (N := 3) rfl ?_); refine ZXW w (N := 3) (cs := #[.slice A0_0 l0_0.length c0_0, .slice A0_1 l0_1.length c0_1]) (t := 31) ?_; intro gbq0 hg wq0 BKq0 GWq0 hb; replace HB := ZT HB hb; clear hb hg) | ((with_reducible refine gate_dst (N := 4) rfl ?_); refine ZXW w (N := 4) (cs := #[.int .i64 a1_0, .int .i64 a1_1, .int .i64 a1_2, .int .i64 a1_3, .int .i64 a1_4, .int .i64 a1_5, .slice A1_6 l1_6.length c1_6, .slice A1_7 l1_7.length c1_7]) (t := 71) ?_; intro gbq1 hg wq1 BKq1 GWq1 hb; have NBq0_115 : Za (gbq0 ≠ gbq1) := ZN hg BKq0; have NBq1_114 : Za (gbq1 ≠ gbq0) := ZM hg BKq0; replace BKq0 := ZW BKq0 hb; replace HB := ZT HB hb; clear hb hg; have hnbq0 := NBq0_115.out; have hncq0 := NBq1_114.out; have hczq0 := ZC2 wq1 BKq0; have hczq1 := ZC8 wq1 BKq1) | (go_at_call 75; (with_reducible refine (spec_l2Var.calls _ _ l0_0 _ _ l0_1 a1_1 false _ (ZQ (Kd.C_below HR0_0.out HB.out)) HC0_0.out (ZQ (Kd.C_below HR0_1.out HB.out)) HC0_1.out A7.out).mono ?_); rintro e wq2 ⟨rfl, hb⟩; replace BKq0 := ZW BKq0 hb; replace BKq1 := ZW BKq1 hb; replace HB := ZT HB hb; clear hb))
 go_ret
 exact ⟨ZE, ZB⟩))

/-! ### spec_l2Steps: function 29 -/
mutual
def spec_l2Steps.l0 : Nat → List (S71) → Int → Int → List (S43) → List (S71) → Option (Bool)
 | 0, _, _, _, _, _ => none
 | k + 1, x1, x2, x7, x122000, x122001 => if x7 < (x1.length : Int) then (if 0 ≤ x7 then ((spec_l2Step.g k (spec_l2Steps.f k) x122000 x122001 ((D71 x1 x7).f0) ((D71 x1 x7).f1) ((D71 x1 x7).f2.f0) ((D71 x1 x7).f2.f1) ((D71 x1 x7).f2.f2) ((D71 x1 x7).f3) ((D71 x1 x7).f4) ((D71 x1 x7).f5) x2).bind fun t123 => (if t123 = true then (spec_l2Steps.l0 k x1 x2 (wrap64 (x7 + 1)) x122000 x122001) else (some false))) else (none)) else (some true)
def spec_l2Steps.f : Nat → List (S43) → List (S71) → List (S71) → Int → Option (Bool)
 | 0, _, _, _, _ => none
 | k + 1, l0_0, l0_1, l1, a2 => spec_l2Steps.l0 k l1 a2 0 l0_0 l0_1
end
def spec_l2Steps.T4 : Bool × List (List Nat × List Nat) := (true, [([], []), ([], []), ([], []), ([1, 2], [1, 2]), ([3], [3]), ([], []), ([0, 4, 5], [0, 4, 5]), ([6], [6])])
def spec_l2Steps.B4 : List Nat := [0, 0, 0, 6, 14, 0, 63, 127]
theorem spec_l2Steps.tab4 : rtab .any (opsOf Tryd.f29 4) = spec_l2Steps.T4 := by kernel_rfl
theorem spec_l2Steps.bits4 : waitsOk spec_l2Steps.T4.2 spec_l2Steps.B4 = true := by kernel_rfl
theorem spec_l2Step.calls_of {K : Nat} (ih : ∀ m, m < K → ∀ (A0_0 : Option Addr) (c0_0 : Nat) (l0_0 : List (S43)) (A0_1 : Option Addr) (c0_1 : Nat) (l0_1 : List (S71)) (A1 : Option Addr) (c1 : Nat) (l1 : List (S71)) (a2 : Int) (r : Bool) (w : World) (hr0_0 : Kd.C k43 w A0_0 l0_0.length l0_0) (hc0_0 : l0_0.length ≤ c0_0) (hr0_1 : Kd.C k71 w A0_1 l0_1.length l0_1) (hc0_1 : l0_1.length ≤ c0_1) (hr1 : Kd.C k71 w A1 l1.length l1) (hc1 : l1.length ≤ c1) (h : spec_l2Steps.f m l0_0 l0_1 l1 a2 = some r),
  Calls Tryd.prog 29 #[.agg #[.slice A0_0 l0_0.length c0_0, .slice A0_1 l0_1.length c0_1], .slice A1 l1.length c1, .int .i64 a2] w fun e w' => e = .returned (.bool r) ∧ Below w.heap.size w w') (k : Nat) (hk : k < K) (A0_0 : Option Addr) (c0_0 : Nat) (l0_0 : List (S43)) (A0_1 : Option Addr) (c0_1 : Nat) (l0_1 : List (S71)) (a1_0 : Int) (a1_1 : Int) (a1_2 : Int) (a1_3 : Int) (a1_4 : Int) (a1_5 : Int) (A1_6 : Option Addr) (c1_6 : Nat) (l1_6 : List (S71)) (A1_7 : Option Addr) (c1_7 : Nat) (l1_7 : List (S71)) (a2 : Int) (r : Bool) (w : World) (hr0_0 : Kd.C k43 w A0_0 l0_0.length l0_0) (hc0_0 : l0_0.length ≤ c0_0) (hr0_1 : Kd.C k71 w A0_1 l0_1.length l0_1) (hc0_1 : l0_1.length ≤ c0_1) (hr1_6 : Kd.C k71 w A1_6 l1_6.length l1_6) (hc1_6 : l1_6.length ≤ c1_6) (hr1_7 : Kd.C k71 w A1_7 l1_7.length l1_7) (hc1_7 : l1_7.length ≤ c1_7) (h : spec_l2Step.g k (spec_l2Steps.f k) l0_0 l0_1 a1_0 a1_1 a1_2 a1_3 a1_4 a1_5 l1_6 l1_7 a2 = some r) :
  Calls Tryd.prog 56 #[.agg #[.slice A0_0 l0_0.length c0_0, .slice A0_1 l0_1.length c0_1], .agg #[.int .i64 a1_0, .int .i64 a1_1, .int .i64 a1_2, .int .i64 a1_3, .int .i64 a1_4, .int .i64 a1_5, .slice A1_6 l1_6.length c1_6, .slice A1_7 l1_7.length c1_7], .int .i64 a2] w fun e w' => e = .returned (.bool r) ∧ Below w.heap.size w w' := spec_l2Step.calls_g k (spec_l2Steps.f k) (ih k hk) A0_0 c0_0 l0_0 A0_1 c0_1 l0_1 a1_0 a1_1 a1_2 a1_3 a1_4 a1_5 A1_6 c1_6 l1_6 A1_7 c1_7 l1_7 a2 r w hr0_0 hc0_0 hr0_1 hc0_1 hr1_6 hc1_6 hr1_7 hc1_7 h
theorem spec_l2Steps.calls (k : Nat) : ∀ (A0_0 : Option Addr) (c0_0 : Nat) (l0_0 : List (S43)) (A0_1 : Option Addr) (c0_1 : Nat) (l0_1 : List (S71)) (A1 : Option Addr) (c1 : Nat) (l1 : List (S71)) (a2 : Int) (r : Bool) (w : World) (hr0_0 : Kd.C k43 w A0_0 l0_0.length l0_0) (hc0_0 : l0_0.length ≤ c0_0) (hr0_1 : Kd.C k71 w A0_1 l0_1.length l0_1) (hc0_1 : l0_1.length ≤ c0_1) (hr1 : Kd.C k71 w A1 l1.length l1) (hc1 : l1.length ≤ c1) (h : spec_l2Steps.f k l0_0 l0_1 l1 a2 = some r),
  Calls Tryd.prog 29 #[.agg #[.slice A0_0 l0_0.length c0_0, .slice A0_1 l0_1.length c0_1], .slice A1 l1.length c1, .int .i64 a2] w fun e w' => e = .returned (.bool r) ∧ Below w.heap.size w w' := by
 induction k using Nat.strongRecOn with
 | _ k ih =>
 intro A0_0 c0_0 l0_0 A0_1 c0_1 l0_1 A1 c1 l1 a2 r w hr0_0 hc0_0 hr0_1 hc0_1 hr1 hc1 h
 cases k with
 | zero => exact absurd h (by simp [spec_l2Steps.f])
 | succ k =>
 simp only [spec_l2Steps.f] at h
 have hu31 := Tryd.underlying31
 have hu71 := Tryd.underlying71
 have HR0_0 := AM hr0_0
 have HC0_0 := AM hc0_0
 clear hr0_0 hc0_0
 have HR0_1 := AM hr0_1
 have HC0_1 := AM hc0_1
 clear hr0_1 hc0_1
 have HR1 := AM hr1
 have HC1 := AM hc1
 clear hr1 hc1
 have HB := AM (Below.refl w.heap.size w)
 have H : (spec_l2Steps.l0 k l1 a2 0 l0_0 l0_1) = some r := h
 clear h
 have H' := AM H
 clear H
 go_enter Tryd.func29, Tryd.ntmps29
 go_wp2_with (first | ((with_reducible refine gate_dst (N := 3) rfl ?_); refine ZXW w (N := 3) (cs := #[.slice A0_0 l0_0.length c0_0, .slice A0_1 l0_1.length c0_1]) (t := 31) ?_; intro gb121 hg w4 BK121 GW121 hb; replace HB := ZT HB hb; clear hb hg))
 go_loopg [7] k (fun kq v7 w' => ∃ (x7_1 : Int), v7 = .int .i64 x7_1 ∧ Za (spec_l2Steps.l0 kq l1 a2 x7_1 l0_0 l0_1 = some r) ∧ Za (kq ≤ k) ∧ Za (w'.heap[gb121]? = some (.cells #[(.slice A0_0 l0_0.length c0_0), (.slice A0_1 l0_1.length c0_1)] 31 (0, 0))) ∧ Za (Below w.heap.size w w'))
 case atStart => exact ⟨(0), ZSM, H', ⟨Nat.le_refl _⟩, ⟨ZK BK121.out⟩, ⟨ZB⟩⟩
 case round => (
 clear H'
 try clear c1
 try clear c2
 try clear p2
 obtain ⟨x7_1, rfl, HA, HK1, BK121, HB⟩ := hrel
 cases gk with
 | zero => exact absurd HA.out (by simp [spec_l2Steps.l0])
 | succ k1 =>
  have H := HA.out
  clear HA
  simp only [spec_l2Steps.l0] at H
  by_cases c5 : x7_1 < (l1.length : Int)
  focus (
  rw [if_pos c5] at H
  have c5b0 := decide_eq_true c5
  clear c5
  by_cases c6 : 0 ≤ x7_1
  focus (
  rw [if_pos c6] at H
  have c6b0 := decide_eq_true c6
  clear c6
  obtain ⟨t123, A7, H⟩ := ZOB H; try dsimp only at H
  by_cases c8 : t123 = true
  focus (
  subst c8
  have H1 := H; rw [if_pos rfl] at H1
  clear H
  have H := H1
  clear H1
  have H' := AM H
  clear H
  have tag0_ : Za True := ⟨trivial⟩)
  rotate_left
  focus (
  replace c8 := Bool.eq_false_iff.mpr c8
  subst c8
  have H1 := H; rw [if_neg ZFT] at H1
  clear H
  have H := H1
  clear H1
  obtain rfl := Option.some.inj H
  have tag1_ : Za True := ⟨trivial⟩)
  rotate_left)
  rotate_left 2
  focus (
  exact ZNE H c6))
  rotate_left 2
  focus (
  rw [if_neg c5] at H
  have c5b0 := decide_eq_false c5
  clear c5
  obtain rfl := Option.some.inj H
  have tag2_ : Za True := ⟨trivial⟩)
  rotate_left
  all_goals (
  first
  | (
  (first | (have z_ := tag0_; clear z_) | (have z_ := tag1_; clear z_))
  try go_wp2
  replace BK121 := AM (blk_drew BK121.out)
  replace HB := AM (below_drew1 HB.out)
  have pq0 : 0 ≤ (x7_1 : Int) := ZD
  have qq0 : x7_1 < (l1.length : Int) := ZD
  obtain ⟨adq0, Aq0_6, cq0_6, Aq0_7, cq0_7, eq0, hxq0_0, hxq0_1, hxq0_2, hxq0_3, hxq0_4, hxq0_5, hxq0_6, hxq0_7, hlq0_6, hiq0_6, hlq0_7, hiq0_7⟩ := at_T71 HR1.out x7_1 pq0 qq0
  have hwq0_7 := hxq0_7
  have hwq0_6 := hxq0_6
  have hwq0_5 := hxq0_5
  have hwq0_4 := hxq0_4
  have hwq0_3 := hxq0_3
  have hwq0_2 := hxq0_2
  have hwq0_1 := hxq0_1
  have hwq0_0 := hxq0_0
  cases eq0
  replace hxq0_0 := ZHX HB hxq0_0
  replace hxq0_1 := ZHX HB hxq0_1
  replace hxq0_2 := ZHX HB hxq0_2
  replace hxq0_3 := ZHX HB hxq0_3
  replace hxq0_4 := ZHX HB hxq0_4
  replace hxq0_5 := ZHX HB hxq0_5
  replace hxq0_6 := ZHX HB hxq0_6
  replace hxq0_7 := ZHX HB hxq0_7
  have HRq0_6 := AM hiq0_6
  have HCq0_6 := AM hlq0_6
  clear hiq0_6 hlq0_6
  have HRq0_7 := AM hiq0_7
  have HCq0_7 := AM hlq0_7
  clear hiq0_7 hlq0_7
  replace pq0 := eq_true pq0
  replace qq0 := eq_true qq0
  refine start_ (n := 8) (S := fun w' => w'.cell? ⟨gb121, 0, none⟩ = some (.slice A0_0 l0_0.length c0_0) ∧ w'.cell? ⟨gb121, 1, none⟩ = some (.slice A0_1 l0_1.length c0_1) ∧ w'.cell? (adq0.add ((x7_1).toNat * 8)) = some (.int .i64 ((D71 l1 x7_1).f0)) ∧ w'.cell? ⟨(adq0.add ((x7_1).toNat * 8)).block, (adq0.add ((x7_1).toNat * 8)).off + 1, none⟩ = some (.int .i64 ((D71 l1 x7_1).f1)) ∧ w'.cell? ⟨(adq0.add ((x7_1).toNat * 8)).block, (adq0.add ((x7_1).toNat * 8)).off + 2, none⟩ = some (.int .i64 ((D71 l1 x7_1).f2.f0)) ∧ w'.cell? ⟨(adq0.add ((x7_1).toNat * 8)).block, (adq0.add ((x7_1).toNat * 8)).off + 3, none⟩ = some (.int .i64 ((D71 l1 x7_1).f2.f1)) ∧ w'.cell? ⟨(adq0.add ((x7_1).toNat * 8)).block, (adq0.add ((x7_1).toNat * 8)).off + 4, none⟩ = some (.int .i64 ((D71 l1 x7_1).f2.f2)) ∧ w'.cell? ⟨(adq0.add ((x7_1).toNat * 8)).block, (adq0.add ((x7_1).toNat * 8)).off + 5, none⟩ = some (.int .i64 ((D71 l1 x7_1).f3)) ∧ w'.cell? ⟨(adq0.add ((x7_1).toNat * 8)).block, (adq0.add ((x7_1).toNat * 8)).off + 6, none⟩ = some (.slice Aq0_6 ((D71 l1 x7_1).f4).length cq0_6) ∧ w'.cell? ⟨(adq0.add ((x7_1).toNat * 8)).block, (adq0.add ((x7_1).toNat * 8)).off + 7, none⟩ = some (.slice Aq0_7 ((D71 l1 x7_1).f5).length cq0_7)) (ds := []) #[F,F,F,F,F,F,F,F] (by kernel_rfl) rfl rfl ⟨ZA BK121 0, ZA BK121 1, ((HB.out.cell (World.block_lt_of_cell? w _ hwq0_0)).trans hwq0_0), ((HB.out.cell (World.block_lt_of_cell? w _ hwq0_1)).trans hwq0_1), ((HB.out.cell (World.block_lt_of_cell? w _ hwq0_2)).trans hwq0_2), ((HB.out.cell (World.block_lt_of_cell? w _ hwq0_3)).trans hwq0_3), ((HB.out.cell (World.block_lt_of_cell? w _ hwq0_4)).trans hwq0_4), ((HB.out.cell (World.block_lt_of_cell? w _ hwq0_5)).trans hwq0_5), ((HB.out.cell (World.block_lt_of_cell? w _ hwq0_6)).trans hwq0_6), ((HB.out.cell (World.block_lt_of_cell? w _ hwq0_7)).trans hwq0_7)⟩ (fun hHeld => ?_); refine with_tabW spec_l2Steps.tab4 spec_l2Steps.bits4 (fun HT_ HW_ => ?_)
  generalize wr.drew = wq0 at BK121 HB HRq0_6 HRq0_7 hxq0_0 hxq0_1 hxq0_2 hxq0_3 hxq0_4 hxq0_5 hxq0_6 hxq0_7 hHeld ⊢
  refine ZU 1 15 #[F,T,F,F,F,F,F,F] ?_
  refine ZU 2 16 #[F,T,T,F,F,F,F,F] ?_
  refine ZU 3 17 #[F,T,T,T,F,F,F,F] ?_
  refine ZU 5 19 #[F,T,T,T,F,T,F,F] ?_
  refine ZTK 0 14 #[T,T,T,T,F,T,F,F] hHeld ?_
  refine ZTK 4 18 #[T,T,T,T,T,T,F,F] hHeld ?_
  refine one_ (i := 6) (N := some 20) #[T,T,T,T,T,T,T,F] rfl rfl (one_of HT_.out (by kernel_rfl)) (by decide) (fun K hK => ?_)
  refine ZGO Tryd.func56 #[.agg #[.slice A0_0 l0_0.length c0_0, .slice A0_1 l0_1.length c0_1], .agg #[.int .i64 ((D71 l1 x7_1).f0), .int .i64 ((D71 l1 x7_1).f1), .int .i64 ((D71 l1 x7_1).f2.f0), .int .i64 ((D71 l1 x7_1).f2.f1), .int .i64 ((D71 l1 x7_1).f2.f2), .int .i64 ((D71 l1 x7_1).f3), .slice Aq0_6 ((D71 l1 x7_1).f4).length cq0_6, .slice Aq0_7 ((D71 l1 x7_1).f5).length cq0_7], .int .i64 a2] ?_
  first
  | (
  (have z_ := tag0_; clear z_)
  with_reducible refine ((spec_l2Step.calls_of ih) k1 (by have := HK1.out; omega) _ _ l0_0 _ _ l0_1 ((D71 l1 x7_1).f0) ((D71 l1 x7_1).f1) ((D71 l1 x7_1).f2.f0) ((D71 l1 x7_1).f2.f1) ((D71 l1 x7_1).f2.f2) ((D71 l1 x7_1).f3) _ _ ((D71 l1 x7_1).f4) _ _ ((D71 l1 x7_1).f5) a2 true _ ?side1 ?side2 ?side3 ?side4 ?side5 ?side6 ?side7 ?side8 A7.out).mono ?_
  (case side1 => exact ZQ (Kd.C_below HR0_0.out HB.out))
  (case side2 => exact HC0_0.out)
  (case side3 => exact ZQ (Kd.C_below HR0_1.out HB.out))
  (case side4 => exact HC0_1.out)
  (case side5 => exact ZQ (Kd.C_below HRq0_6.out HB.out))
  (case side6 => exact HCq0_6.out)
  (case side7 => exact ZQ (Kd.C_below HRq0_7.out HB.out))
  (case side8 => exact HCq0_7.out)
  rintro e wq1 ⟨rfl, hb⟩
  refine ZV1 ?_
  replace BK121 := ZW BK121 hb
  replace HB := ZT HB hb
  (try clear hb)
  (try clear hb2)
  (try clear hk)
  (try clear hi)
  refine hK.out _ _ ⟨ZA BK121 0, ZA BK121 1, ((HB.out.cell (World.block_lt_of_cell? w _ hwq0_0)).trans hwq0_0), ((HB.out.cell (World.block_lt_of_cell? w _ hwq0_1)).trans hwq0_1), ((HB.out.cell (World.block_lt_of_cell? w _ hwq0_2)).trans hwq0_2), ((HB.out.cell (World.block_lt_of_cell? w _ hwq0_3)).trans hwq0_3), ((HB.out.cell (World.block_lt_of_cell? w _ hwq0_4)).trans hwq0_4), ((HB.out.cell (World.block_lt_of_cell? w _ hwq0_5)).trans hwq0_5), ((HB.out.cell (World.block_lt_of_cell? w _ hwq0_6)).trans hwq0_6), ((HB.out.cell (World.block_lt_of_cell? w _ hwq0_7)).trans hwq0_7)⟩ (fun hHeld => ?_)
  clear hK K
  refine ZNO 20 ?_
  refine ZU 7 21 #[T,T,T,T,T,T,T,T] ?_
  refine done_ (done_of HT_.out (by kernel_rfl)) ?_
  try go_wp2
  go_roundg k1
  case measure => have := HK1.out; omega
  case rel => exact ⟨(wrap64 (x7_1 + 1)), ZSM, H', ⟨by have := HK1.out; omega⟩, ⟨ZK BK121.out⟩, ⟨ZB⟩⟩)
  | (
  (have z_ := tag1_; clear z_)
  with_reducible refine ((spec_l2Step.calls_of ih) k1 (by have := HK1.out; omega) _ _ l0_0 _ _ l0_1 ((D71 l1 x7_1).f0) ((D71 l1 x7_1).f1) ((D71 l1 x7_1).f2.f0) ((D71 l1 x7_1).f2.f1) ((D71 l1 x7_1).f2.f2) ((D71 l1 x7_1).f3) _ _ ((D71 l1 x7_1).f4) _ _ ((D71 l1 x7_1).f5) a2 false _ ?side1 ?side2 ?side3 ?side4 ?side5 ?side6 ?side7 ?side8 A7.out).mono ?_
  (case side1 => exact ZQ (Kd.C_below HR0_0.out HB.out))
  (case side2 => exact HC0_0.out)
  (case side3 => exact ZQ (Kd.C_below HR0_1.out HB.out))
  (case side4 => exact HC0_1.out)
  (case side5 => exact ZQ (Kd.C_below HRq0_6.out HB.out))
  (case side6 => exact HCq0_6.out)
  (case side7 => exact ZQ (Kd.C_below HRq0_7.out HB.out))
  (case side8 => exact HCq0_7.out)
  rintro e wq1 ⟨rfl, hb⟩
  refine ZV1 ?_
  replace BK121 := ZW BK121 hb
  replace HB := ZT HB hb
  (try clear hb)
  (try clear hb2)
  (try clear hk)
  (try clear hi)
  refine hK.out _ _ ⟨ZA BK121 0, ZA BK121 1, ((HB.out.cell (World.block_lt_of_cell? w _ hwq0_0)).trans hwq0_0), ((HB.out.cell (World.block_lt_of_cell? w _ hwq0_1)).trans hwq0_1), ((HB.out.cell (World.block_lt_of_cell? w _ hwq0_2)).trans hwq0_2), ((HB.out.cell (World.block_lt_of_cell? w _ hwq0_3)).trans hwq0_3), ((HB.out.cell (World.block_lt_of_cell? w _ hwq0_4)).trans hwq0_4), ((HB.out.cell (World.block_lt_of_cell? w _ hwq0_5)).trans hwq0_5), ((HB.out.cell (World.block_lt_of_cell? w _ hwq0_6)).trans hwq0_6), ((HB.out.cell (World.block_lt_of_cell? w _ hwq0_7)).trans hwq0_7)⟩ (fun hHeld => ?_)
  clear hK K
  refine ZNO 20 ?_
  refine ZU 7 21 #[T,T,T,T,T,T,T,T] ?_
  refine done_ (done_of HT_.out (by kernel_rfl)) ?_
  try go_wp2
  go_ret
  exact ⟨ZE, ZB⟩))
  | (
  (have z_ := tag2_; clear z_)
  go_wp2
  go_ret
  exact ⟨ZE, ZB⟩
  )))
def spec_l2Step.f (k : Nat) := spec_l2Step.g k (spec_l2Steps.f k)
theorem spec_l2Step.calls (k : Nat) (A0_0 : Option Addr) (c0_0 : Nat) (l0_0 : List (S43)) (A0_1 : Option Addr) (c0_1 : Nat) (l0_1 : List (S71)) (a1_0 : Int) (a1_1 : Int) (a1_2 : Int) (a1_3 : Int) (a1_4 : Int) (a1_5 : Int) (A1_6 : Option Addr) (c1_6 : Nat) (l1_6 : List (S71)) (A1_7 : Option Addr) (c1_7 : Nat) (l1_7 : List (S71)) (a2 : Int) (r : Bool) (w : World) (hr0_0 : Kd.C k43 w A0_0 l0_0.length l0_0) (hc0_0 : l0_0.length ≤ c0_0) (hr0_1 : Kd.C k71 w A0_1 l0_1.length l0_1) (hc0_1 : l0_1.length ≤ c0_1) (hr1_6 : Kd.C k71 w A1_6 l1_6.length l1_6) (hc1_6 : l1_6.length ≤ c1_6) (hr1_7 : Kd.C k71 w A1_7 l1_7.length l1_7) (hc1_7 : l1_7.length ≤ c1_7) (h : spec_l2Step.f k l0_0 l0_1 a1_0 a1_1 a1_2 a1_3 a1_4 a1_5 l1_6 l1_7 a2 = some r) :
  Calls Tryd.prog 56 #[.agg #[.slice A0_0 l0_0.length c0_0, .slice A0_1 l0_1.length c0_1], .agg #[.int .i64 a1_0, .int .i64 a1_1, .int .i64 a1_2, .int .i64 a1_3, .int .i64 a1_4, .int .i64 a1_5, .slice A1_6 l1_6.length c1_6, .slice A1_7 l1_7.length c1_7], .int .i64 a2] w fun e w' => e = .returned (.bool r) ∧ Below w.heap.size w w' := spec_l2Step.calls_g k (spec_l2Steps.f k) (spec_l2Steps.calls k) A0_0 c0_0 l0_0 A0_1 c0_1 l0_1 a1_0 a1_1 a1_2 a1_3 a1_4 a1_5 A1_6 c1_6 l1_6 A1_7 c1_7 l1_7 a2 r w hr0_0 hc0_0 hr0_1 hc0_1 hr1_6 hc1_6 hr1_7 hc1_7 h

end Go.Proofs.YtfcmckomagaiiaaDoor.A
