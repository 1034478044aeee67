/- Go functions as Lean functions, and for each its contract; written by wip/tools/pr.py over the kit's print. -/
import Derived.Test.YtfcmckomagaiiaaDoorAx0
namespace Go.Proofs.YtfcmckomagaiiaaDoor.A
open Go.RowKit Go.Proofs.YtfcmckomagaiiaaDoorW.PrintWords Go.Proofs.YtfcmckomagaiiaaDoorW.PrintLast Go.Proofs.YtfcmckomagaiiaaDoorW.PrintMore
attribute [local go_sem] max2_int min2_int max_two min_two max_three min_three max_four min_four
set_option linter.unusedVariables false
set_option linter.unusedSimpArgs false
set_option maxHeartbeats 8000000
set_option maxRecDepth 100000

/-! ### spec_l6In: function 73 -/
def spec_l6In.f (a0 : Int) (a1 : Int) (a2 : Int) : Option (Bool) := if a0 ≥ a1 then (some (decide (a0 ≤ a2))) else (some false)
theorem spec_l6In.calls (a0 : Int) (a1 : Int) (a2 : Int) (r : Bool) (w : World) (h : spec_l6In.f a0 a1 a2 = some r) :
  Calls Tryd.prog 73 #[.int .i64 a0, .int .i64 a1, .int .i64 a2] w fun e w' => e = .returned (.bool r) ∧ Drawn0 w w' := by
 have H := h
 unfold spec_l6In.f at H
 clear h
 by_cases c4 : a0 ≥ a1
 ·(
 rw [if_pos c4] at H
 have c4b0 := decide_eq_true c4
 clear c4
 obtain rfl := Option.some.inj H
 go_enter Tryd.func73, Tryd.ntmps73
 go_wp2
 go_ret
 exact ⟨by first | rfl | (simp; done) | (simp [*]; done), by repeat (first | exact Drawn0.refl _ | apply Drawn0.step)⟩)
 ·(
 rw [if_neg c4] at H
 have c4b0 := decide_eq_false c4
 clear c4
 obtain rfl := Option.some.inj H
 go_enter Tryd.func73, Tryd.ntmps73
 go_wp2
 go_ret
 exact ⟨by first | rfl | (simp; done) | (simp [*]; done), by repeat (first | exact Drawn0.refl _ | apply Drawn0.step)⟩)

/-! ### spec_l1All: function 74 -/
def spec_l1All.f  : Option (Int) := some 7
theorem spec_l1All.calls  (r : Int) (w : World) (h : spec_l1All.f  = some r) :
  Calls Tryd.prog 74 #[] w fun e w' => e = .returned (.int .i64 r) ∧ Drawn0 w w' := by
 have H := h
 unfold spec_l1All.f at H
 clear h
 obtain rfl := Option.some.inj H
 go_enter Tryd.func74, Tryd.ntmps74
 go_wp2
 go_ret
 exact ⟨by first | rfl | (simp; done) | (simp [*]; done), by repeat (first | exact Drawn0.refl _ | apply Drawn0.step)⟩

/-! ### spec_l1Set: function 55 -/
def spec_l1Set.f (a0 : Int) : Option (Bool) := (spec_l1All.f).bind fun t101 => ((spec_l6In.f a0 0 t101).bind fun t102 => (some t102))
theorem spec_l1Set.calls (a0 : Int) (r : Bool) (w : World) (h : spec_l1Set.f a0 = some r) :
  Calls Tryd.prog 55 #[.int .i64 a0] w fun e w' => e = .returned (.bool r) ∧ Drawn0 w w' := by
 have H := h
 unfold spec_l1Set.f at H
 clear h
 obtain ⟨t101, A2, H⟩ := ZOB H; try dsimp only at H
 obtain ⟨t102, A3, H⟩ := ZOB H; try dsimp only at H
 obtain rfl := Option.some.inj H
 go_enter Tryd.func55, Tryd.ntmps55
 go_wp2_with (first | ((with_reducible refine gate_callee (f := 74) rfl ?_); refine ZGL (some 4) Tryd.func74 #[] ?_; (with_reducible refine (spec_l1All.calls  t101 _ A2.out).mono ?_); rintro e w' ⟨rfl, ⟨nd, rfl⟩⟩; refine ZV1 ?_) | ((with_reducible refine gate_callee (f := 73) rfl ?_); refine ZGL (some 5) Tryd.func73 #[.int .i64 a0, .int .i64 0, .int .i64 t101] ?_; (with_reducible refine (spec_l6In.calls a0 0 t101 t102 _ A3.out).mono ?_); rintro e w' ⟨rfl, ⟨nd, rfl⟩⟩; refine ZV1 ?_))
 go_ret
 exact ⟨by first | rfl | (simp; done) | (simp [*]; done), by repeat (first | exact Drawn0.refl _ | apply Drawn0.step)⟩

/-! ### spec_LabelOk: function 28 -/
def spec_LabelOk.f (a0_0 : Int) (a0_1 : Int) : Option (Bool) := (spec_l1Set.f a0_0).bind fun t104 => (if t104 = true then ((spec_l1Set.f a0_1).bind fun t105 => (some t105)) else (some false))
theorem spec_LabelOk.calls (a0_0 : Int) (a0_1 : Int) (r : Bool) (w : World) (h : spec_LabelOk.f a0_0 a0_1 = some r) :
  Calls Tryd.prog 28 #[.agg #[.int .i64 a0_0, .int .i64 a0_1]] w fun e w' => e = .returned (.bool r) ∧ Below w.heap.size w w' := by
 have hu43 := Tryd.underlying43
 have HB := AM (Below.refl w.heap.size w)
 have H := h
 unfold spec_LabelOk.f at H
 clear h
 obtain ⟨t104, A2, H⟩ := ZOB H; try dsimp only at H
 by_cases c3 : t104 = true
 ·(
 subst c3
 have H1 := H; rw [if_pos rfl] at H1
 clear H
 have H := H1
 clear H1
 obtain ⟨t105, A4, H⟩ := ZOB H; try dsimp only at H
 obtain rfl := Option.some.inj H
 go_enter Tryd.func28, Tryd.ntmps28
 go_wp2_with (first | ((with_reducible refine gate_dst (N := 1) rfl ?_); refine ZXW w (N := 1) (cs := #[.int .i64 a0_0, .int .i64 a0_1]) (t := 43) ?_; intro gb103 hg w5 BK103 GW103 hb; replace HB := ZT HB hb; clear hb hg; have hcz6 := ZC2 w5 BK103) | ((with_reducible refine gate_callee (f := 55) rfl ?_); refine ZGL (some 5) Tryd.func55 #[.int .i64 a0_0] ?_; (with_reducible refine (spec_l1Set.calls a0_0 true _ A2.out).mono ?_); rintro e w' ⟨rfl, ⟨nd, rfl⟩⟩; refine ZV1 ?_) | (go_at_call 55; (with_reducible refine (spec_l1Set.calls a0_1 t105 _ A4.out).mono ?_); rintro e w' ⟨rfl, ⟨nd, rfl⟩⟩))
 go_ret
 exact ⟨ZE, ZB⟩)
 ·(
 replace c3 := Bool.eq_false_iff.mpr c3
 subst c3
 have H1 := H; rw [if_neg ZFT] at H1
 clear H
 have H := H1
 clear H1
 obtain rfl := Option.some.inj H
 go_enter Tryd.func28, Tryd.ntmps28
 go_wp2_with (first | ((with_reducible refine gate_dst (N := 1) rfl ?_); refine ZXW w (N := 1) (cs := #[.int .i64 a0_0, .int .i64 a0_1]) (t := 43) ?_; intro gb103 hg w7 BK103 GW103 hb; replace HB := ZT HB hb; clear hb hg; have hcz8 := ZC2 w7 BK103) | ((with_reducible refine gate_callee (f := 55) rfl ?_); refine ZGL (some 5) Tryd.func55 #[.int .i64 a0_0] ?_; (with_reducible refine (spec_l1Set.calls a0_0 false _ A2.out).mono ?_); rintro e w' ⟨rfl, ⟨nd, rfl⟩⟩; refine ZV1 ?_))
 go_ret
 exact ⟨ZE, ZB⟩)

/-! ### spec_l2Var: function 75 -/
def spec_l2Var.f (l0_0 : List (S43)) (l0_1 : List (S71)) (a1 : Int) : Option (Bool) := (spec_l6In.f a1 0 (wrap64 ((l0_0.length : Int) - 1))).bind fun t107 => (some t107)
theorem spec_l2Var.calls (A0_0 : Option Addr) (c0_0 : Nat) (l0_0 : List (S43)) (A0_1 : Option Addr) (c0_1 : Nat) (l0_1 : List (S71)) (a1 : Int) (r : Bool) (w : World) (hr0_0 : Kd.C k43 w A0_0 l0_0.length l0_0) (hc0_0 : l0_0.length ≤ c0_0) (hr0_1 : Kd.C k71 w A0_1 l0_1.length l0_1) (hc0_1 : l0_1.length ≤ c0_1) (h : spec_l2Var.f l0_0 l0_1 a1 = some r) :
  Calls Tryd.prog 75 #[.agg #[.slice A0_0 l0_0.length c0_0, .slice A0_1 l0_1.length c0_1], .int .i64 a1] w fun e w' => e = .returned (.bool r) ∧ Below w.heap.size w w' := by
 have hu31 := Tryd.underlying31
 have HR0_0 := AM hr0_0
 have HC0_0 := AM hc0_0
 clear hr0_0 hc0_0
 have HR0_1 := AM hr0_1
 have HC0_1 := AM hc0_1
 clear hr0_1 hc0_1
 have HB := AM (Below.refl w.heap.size w)
 have H := h
 unfold spec_l2Var.f at H
 clear h
 obtain ⟨t107, A3, H⟩ := ZOB H; try dsimp only at H
 obtain rfl := Option.some.inj H
 go_enter Tryd.func75, Tryd.ntmps75
 go_wp2_with (first | ((with_reducible refine gate_dst (N := 2) rfl ?_); refine ZXW w (N := 2) (cs := #[.slice A0_0 l0_0.length c0_0, .slice A0_1 l0_1.length c0_1]) (t := 31) ?_; intro gb106 hg w4 BK106 GW106 hb; replace HB := ZT HB hb; clear hb hg; have hcz5 := ZC2 w4 BK106) | ((with_reducible refine gate_callee (f := 73) rfl ?_); refine ZGL (some 10) Tryd.func73 #[.int .i64 a1, .int .i64 0, .int .i64 (wrap64 ((l0_0.length : Int) - 1))] ?_; (with_reducible refine (spec_l6In.calls a1 0 (wrap64 ((l0_0.length : Int) - 1)) t107 _ A3.out).mono ?_); rintro e w' ⟨rfl, ⟨nd, rfl⟩⟩; refine ZV1 ?_))
 go_ret
 exact ⟨ZE, ZB⟩

/-! ### spec_l2Val: function 76 -/
def spec_l2Val.j0 : Nat → Bool → List (S43) → List (S71) → Int → Int → Int → Option (Bool)
 | 0, _, _, _, _, _, _ => none
 | k + 1, x28, x109000, x109001, x110000, x110001, x110002 => if x28 = true then ((spec_l2Var.f x109000 x109001 x110001).bind fun t112 => (if t112 = true then ((spec_l2Var.f x109000 x109001 x110002).bind fun t113 => (some t113)) else (some false))) else (some false)
def spec_l2Val.f (k : Nat) (l0_0 : List (S43)) (l0_1 : List (S71)) (a1_0 : Int) (a1_1 : Int) (a1_2 : Int) : Option (Bool) := if a1_0 = 1 then ((spec_l6In.f a1_1 0 9).bind fun t110 => (if t110 = true then (some (a1_2 == 0)) else (some false))) else (if a1_0 = 2 then ((spec_l2Var.f l0_0 l0_1 a1_1).bind fun t111 => (if t111 = true then (some (a1_2 == 0)) else (some false))) else (if a1_0 = 3 then (spec_l2Val.j0 k (a1_0 == 3) l0_0 l0_1 a1_0 a1_1 a1_2) else (spec_l2Val.j0 k (a1_0 == 4) l0_0 l0_1 a1_0 a1_1 a1_2)))
theorem spec_l2Val.calls (k : Nat) (A0_0 : Option Addr) (c0_0 : Nat) (l0_0 : List (S43)) (A0_1 : Option Addr) (c0_1 : Nat) (l0_1 : List (S71)) (a1_0 : Int) (a1_1 : Int) (a1_2 : Int) (r : Bool) (w : World) (hr0_0 : Kd.C k43 w A0_0 l0_0.length l0_0) (hc0_0 : l0_0.length ≤ c0_0) (hr0_1 : Kd.C k71 w A0_1 l0_1.length l0_1) (hc0_1 : l0_1.length ≤ c0_1) (h : spec_l2Val.f k l0_0 l0_1 a1_0 a1_1 a1_2 = some r) :
  Calls Tryd.prog 76 #[.agg #[.slice A0_0 l0_0.length c0_0, .slice A0_1 l0_1.length c0_1], .agg #[.int .i64 a1_0, .int .i64 a1_1, .int .i64 a1_2]] w fun e w' => e = .returned (.bool r) ∧ Below w.heap.size w w' := by
 have hu31 := Tryd.underlying31
 have hu69 := Tryd.underlying69
 have HR0_0 := AM hr0_0
 have HC0_0 := AM hc0_0
 clear hr0_0 hc0_0
 have HR0_1 := AM hr0_1
 have HC0_1 := AM hc0_1
 clear hr0_1 hc0_1
 have HB := AM (Below.refl w.heap.size w)
 have H := h
 unfold spec_l2Val.f at H
 clear h
 by_cases c3 : a1_0 = 1
 ·(
 rw [if_pos c3] at H
 have c3b0 := beq_iff_eq.mpr c3
 have c3b1 := bne_eq_false_iff_eq.mpr c3
 clear c3
 obtain ⟨t110, A4, H⟩ := ZOB H; try dsimp only at H
 by_cases c5 : t110 = true
 ·(
 subst c5
 have H1 := H; rw [if_pos rfl] at H1
 clear H
 have H := H1
 clear H1
 obtain rfl := Option.some.inj H
 go_enter Tryd.func76, Tryd.ntmps76
 go_wp2_with (first | ((with_reducible refine gate_dst (N := 2) rfl ?_); refine ZXW w (N := 2) (cs := #[.slice A0_0 l0_0.length c0_0, .slice A0_1 l0_1.length c0_1]) (t := 31) ?_; intro gb108 hg w6 BK108 GW108 hb; replace HB := ZT HB hb; clear hb hg) | ((with_reducible refine gate_dst (N := 3) rfl ?_); refine ZXW w (N := 3) (cs := #[.int .i64 a1_0, .int .i64 a1_1, .int .i64 a1_2]) (t := 69) ?_; intro gb109 hg w7 BK109 GW109 hb; have NB108_109 : Za (gb108 ≠ gb109) := ZN hg BK108; have NB109_108 : Za (gb109 ≠ gb108) := ZM hg BK108; replace BK108 := ZW BK108 hb; replace HB := ZT HB hb; clear hb hg; have hnb8 := NB109_108.out; have hnc8 := NB108_109.out; have hcz9 := ZC3 w7 BK109) | ((with_reducible refine gate_callee (f := 73) rfl ?_); refine ZGL (some 11) Tryd.func73 #[.int .i64 a1_1, .int .i64 0, .int .i64 9] ?_; (with_reducible refine (spec_l6In.calls a1_1 0 9 true _ A4.out).mono ?_); rintro e w' ⟨rfl, ⟨nd, rfl⟩⟩; refine ZV1 ?_))
 go_ret
 exact ⟨ZE, ZB⟩)
 ·(
 replace c5 := Bool.eq_false_iff.mpr c5
 subst c5
 have H1 := H; rw [if_neg ZFT] at H1
 clear H
 have H := H1
 clear H1
 obtain rfl := Option.some.inj H
 go_enter Tryd.func76, Tryd.ntmps76
 go_wp2_with (first | ((with_reducible refine gate_dst (N := 2) rfl ?_); refine ZXW w (N := 2) (cs := #[.slice A0_0 l0_0.length c0_0, .slice A0_1 l0_1.length c0_1]) (t := 31) ?_; intro gb108 hg w10 BK108 GW108 hb; replace HB := ZT HB hb; clear hb hg) | ((with_reducible refine gate_dst (N := 3) rfl ?_); refine ZXW w (N := 3) (cs := #[.int .i64 a1_0, .int .i64 a1_1, .int .i64 a1_2]) (t := 69) ?_; intro gb109 hg w11 BK109 GW109 hb; have NB108_109 : Za (gb108 ≠ gb109) := ZN hg BK108; have NB109_108 : Za (gb109 ≠ gb108) := ZM hg BK108; replace BK108 := ZW BK108 hb; replace HB := ZT HB hb; clear hb hg; have hnb12 := NB109_108.out; have hnc12 := NB108_109.out; have hcz13 := ZC3 w11 BK109) | ((with_reducible refine gate_callee (f := 73) rfl ?_); refine ZGL (some 11) Tryd.func73 #[.int .i64 a1_1, .int .i64 0, .int .i64 9] ?_; (with_reducible refine (spec_l6In.calls a1_1 0 9 false _ A4.out).mono ?_); rintro e w' ⟨rfl, ⟨nd, rfl⟩⟩; refine ZV1 ?_))
 go_ret
 exact ⟨ZE, ZB⟩))
 ·(
 rw [if_neg c3] at H
 have c3b0 := beq_eq_false_iff_ne.mpr c3
 have c3b1 := bne_iff_ne.mpr c3
 by_cases c14 : a1_0 = 2
 ·(
 rw [if_pos c14] at H
 have c14b0 := beq_iff_eq.mpr c14
 have c14b1 := bne_eq_false_iff_eq.mpr c14
 clear c14
 obtain ⟨t111, A15, H⟩ := ZOB H; try dsimp only at H
 by_cases c16 : t111 = true
 ·(
 subst c16
 have H1 := H; rw [if_pos rfl] at H1
 clear H
 have H := H1
 clear H1
 obtain rfl := Option.some.inj H
 go_enter Tryd.func76, Tryd.ntmps76
 go_wp2_with (first | ((with_reducible refine gate_dst (N := 2) rfl ?_); refine ZXW w (N := 2) (cs := #[.slice A0_0 l0_0.length c0_0, .slice A0_1 l0_1.length c0_1]) (t := 31) ?_; intro gb108 hg w17 BK108 GW108 hb; replace HB := ZT HB hb; clear hb hg) | ((with_reducible refine gate_dst (N := 3) rfl ?_); refine ZXW w (N := 3) (cs := #[.int .i64 a1_0, .int .i64 a1_1, .int .i64 a1_2]) (t := 69) ?_; intro gb109 hg w18 BK109 GW109 hb; have NB108_109 : Za (gb108 ≠ gb109) := ZN hg BK108; have NB109_108 : Za (gb109 ≠ gb108) := ZM hg BK108; replace BK108 := ZW BK108 hb; replace HB := ZT HB hb; clear hb hg; have hnb19 := NB109_108.out; have hnc19 := NB108_109.out; have hcz20 := ZC3 w18 BK109; have hcz21 := ZC2 w18 BK108) | ((with_reducible refine gate_callee (f := 75) rfl ?_); refine ZGL (some 22) Tryd.func75 #[.agg #[.slice A0_0 l0_0.length c0_0, .slice A0_1 l0_1.length c0_1], .int .i64 a1_1] ?_; (with_reducible refine (spec_l2Var.calls _ _ l0_0 _ _ l0_1 a1_1 true _ (ZQ (Kd.C_below HR0_0.out HB.out)) HC0_0.out (ZQ (Kd.C_below HR0_1.out HB.out)) HC0_1.out A15.out).mono ?_); rintro e w22 ⟨rfl, hb⟩; refine ZV1 ?_; replace BK108 := ZW BK108 hb; replace BK109 := ZW BK109 hb; replace HB := ZT HB hb; clear hb; have hcz23 := ZC3 w22 BK109))
 go_ret
 exact ⟨ZE, ZB⟩)
 ·(
 replace c16 := Bool.eq_false_iff.mpr c16
 subst c16
 have H1 := H; rw [if_neg ZFT] at H1
 clear H
 have H := H1
 clear H1
 obtain rfl := Option.some.inj H
 go_enter Tryd.func76, Tryd.ntmps76
 go_wp2_with (first | ((with_reducible refine gate_dst (N := 2) rfl ?_); refine ZXW w (N := 2) (cs := #[.slice A0_0 l0_0.length c0_0, .slice A0_1 l0_1.length c0_1]) (t := 31) ?_; intro gb108 hg w24 BK108 GW108 hb; replace HB := ZT HB hb; clear hb hg) | ((with_reducible refine gate_dst (N := 3) rfl ?_); refine ZXW w (N := 3) (cs := #[.int .i64 a1_0, .int .i64 a1_1, .int .i64 a1_2]) (t := 69) ?_; intro gb109 hg w25 BK109 GW109 hb; have NB108_109 : Za (gb108 ≠ gb109) := ZN hg BK108; have NB109_108 : Za (gb109 ≠ gb108) := ZM hg BK108; replace BK108 := ZW BK108 hb; replace HB := ZT HB hb; clear hb hg; have hnb26 := NB109_108.out; have hnc26 := NB108_109.out; have hcz27 := ZC3 w25 BK109; have hcz28 := ZC2 w25 BK108) | ((with_reducible refine gate_callee (f := 75) rfl ?_); refine ZGL (some 22) Tryd.func75 #[.agg #[.slice A0_0 l0_0.length c0_0, .slice A0_1 l0_1.length c0_1], .int .i64 a1_1] ?_; (with_reducible refine (spec_l2Var.calls _ _ l0_0 _ _ l0_1 a1_1 false _ (ZQ (Kd.C_below HR0_0.out HB.out)) HC0_0.out (ZQ (Kd.C_below HR0_1.out HB.out)) HC0_1.out A15.out).mono ?_); rintro e w29 ⟨rfl, hb⟩; refine ZV1 ?_; replace BK108 := ZW BK108 hb; replace BK109 := ZW BK109 hb; replace HB := ZT HB hb; clear hb))
 go_ret
 exact ⟨ZE, ZB⟩))
 ·(
 rw [if_neg c14] at H
 have c14b0 := beq_eq_false_iff_ne.mpr c14
 have c14b1 := bne_iff_ne.mpr c14
 have HC30 := AM H
 clear H
 go_enter Tryd.func76, Tryd.ntmps76
 go_upto_if 28 with (first | ((with_reducible refine gate_dst (N := 2) rfl ?_); refine ZXW w (N := 2) (cs := #[.slice A0_0 l0_0.length c0_0, .slice A0_1 l0_1.length c0_1]) (t := 31) ?_; intro gb108 hg w31 BK108 GW108 hb; replace HB := ZT HB hb; clear hb hg) | ((with_reducible refine gate_dst (N := 3) rfl ?_); refine ZXW w (N := 3) (cs := #[.int .i64 a1_0, .int .i64 a1_1, .int .i64 a1_2]) (t := 69) ?_; intro gb109 hg w32 BK109 GW109 hb; have NB108_109 : Za (gb108 ≠ gb109) := ZN hg BK108; have NB109_108 : Za (gb109 ≠ gb108) := ZM hg BK108; replace BK108 := ZW BK108 hb; replace HB := ZT HB hb; clear hb hg; have hnb33 := NB109_108.out; have hnc33 := NB108_109.out; have hcz34 := ZC3 w32 BK109))
 (try simp only [Act.put, List.setIfInBounds_toArray, List.set_cons_zero, List.set_cons_succ])
 go_cut [28] (fun v28 wc => ∃ (kq : Nat) (x28_29 : Bool), v28 = .bool x28_29 ∧ Za (spec_l2Val.j0 kq x28_29 l0_0 l0_1 a1_0 a1_1 a1_2 = some r) ∧ Za (kq ≤ k) ∧ Za (wc.heap[gb108]? = some (.cells #[(.slice A0_0 l0_0.length c0_0), (.slice A0_1 l0_1.length c0_1)] 31 (0, 0))) ∧ Za (wc.heap[gb109]? = some (.cells #[.int .i64 a1_0, .int .i64 a1_1, .int .i64 a1_2] 69 (0, 0))) ∧ Za (Below w.heap.size w wc))
 case first => (
 have H := HC30.out
 clear HC30
 by_cases c35 : a1_0 = 3
 ·(
 rw [if_pos c35] at H
 have c35b0 := beq_iff_eq.mpr c35
 have c35b1 := bne_eq_false_iff_eq.mpr c35
 clear c35
 (first | rw [c35b0] | (simp only [i64_w, i32_w]; rw [c35b0]) | skip)
 have H' := AM H
 clear H
 go_wp2
 go_meet
 case rel => exact ⟨_, ((a1_0 == 3)), ZSM, H', ⟨by first | omega | exact Nat.le_refl _⟩, ⟨ZK BK108.out⟩, ⟨ZK BK109.out⟩, ⟨ZB⟩⟩)
 ·(
 rw [if_neg c35] at H
 have c35b0 := beq_eq_false_iff_ne.mpr c35
 have c35b1 := bne_iff_ne.mpr c35
 (first | rw [c35b0] | (simp only [i64_w, i32_w]; rw [c35b0]) | skip)
 have H' := AM H
 clear H
 go_wp2
 go_meet
 case rel => exact ⟨_, ((a1_0 == 4)), ZSM, H', ⟨by first | omega | exact Nat.le_refl _⟩, ⟨ZK BK108.out⟩, ⟨ZK BK109.out⟩, ⟨ZB⟩⟩))
 case rest => (
 clear HC30
 try clear c1
 try clear c2
 try clear p2
 try clear c3
 try clear c3b0
 try clear c3b1
 try clear c5
 try clear c7
 try clear c8
 try clear c12
 try clear c14
 try clear c14b0
 try clear c14b1
 try clear c16
 try clear c19
 try clear c26
 try clear c33
 try clear c35
 try clear c35b0
 try clear c35b1
 try clear hcz13
 try clear hcz20
 try clear hcz21
 try clear hcz23
 try clear hcz27
 try clear hcz28
 try clear hcz34
 try clear hcz9
 obtain ⟨kq, x28_29, rfl, HA, HJ29, BK108, BK109, HB⟩ := hcut
 cases kq with
 | zero => exact absurd HA.out (by simp [spec_l2Val.j0])
 | succ kj29 =>
  have H := HA.out
  clear HA
  simp only [spec_l2Val.j0] at H
  by_cases c36 : x28_29 = true
  ·(
  subst c36
  have H1 := H; rw [if_pos rfl] at H1
  clear H
  have H := H1
  clear H1
  obtain ⟨t112, A37, H⟩ := ZOB H; try dsimp only at H
  by_cases c38 : t112 = true
  ·(
  subst c38
  have H1 := H; rw [if_pos rfl] at H1
  clear H
  have H := H1
  clear H1
  obtain ⟨t113, A39, H⟩ := ZOB H; try dsimp only at H
  obtain rfl := Option.some.inj H
  have hnb40 := NB108_109.out
  have hnc40 := NB109_108.out
  have hcz41 := ZC2 wc BK108
  have hcz42 := ZC3 wc BK109
  go_wp2_with (first | ((with_reducible refine gate_callee (f := 75) rfl ?_); refine ZGL (some 34) Tryd.func75 #[.agg #[.slice A0_0 l0_0.length c0_0, .slice A0_1 l0_1.length c0_1], .int .i64 a1_1] ?_; (with_reducible refine (spec_l2Var.calls _ _ l0_0 _ _ l0_1 a1_1 true _ (ZQ (Kd.C_below HR0_0.out HB.out)) HC0_0.out (ZQ (Kd.C_below HR0_1.out HB.out)) HC0_1.out A37.out).mono ?_); rintro e w43 ⟨rfl, hb⟩; refine ZV1 ?_; replace BK108 := ZW BK108 hb; replace BK109 := ZW BK109 hb; replace HB := ZT HB hb; clear hb; have hcz44 := ZC2 w43 BK108; have hcz45 := ZC3 w43 BK109) | (go_at_call 75; (with_reducible refine (spec_l2Var.calls _ _ l0_0 _ _ l0_1 a1_2 t113 _ (ZQ (Kd.C_below HR0_0.out HB.out)) HC0_0.out (ZQ (Kd.C_below HR0_1.out HB.out)) HC0_1.out A39.out).mono ?_); rintro e w46 ⟨rfl, hb⟩; replace BK108 := ZW BK108 hb; replace BK109 := ZW BK109 hb; replace HB := ZT HB hb; clear hb))
  go_ret
  exact ⟨ZE, ZB⟩)
  ·(
  replace c38 := Bool.eq_false_iff.mpr c38
  subst c38
  have H1 := H; rw [if_neg ZFT] at H1
  clear H
  have H := H1
  clear H1
  obtain rfl := Option.some.inj H
  have hnb47 := NB108_109.out
  have hnc47 := NB109_108.out
  have hcz48 := ZC2 wc BK108
  have hcz49 := ZC3 wc BK109
  go_wp2_with (first | ((with_reducible refine gate_callee (f := 75) rfl ?_); refine ZGL (some 34) Tryd.func75 #[.agg #[.slice A0_0 l0_0.length c0_0, .slice A0_1 l0_1.length c0_1], .int .i64 a1_1] ?_; (with_reducible refine (spec_l2Var.calls _ _ l0_0 _ _ l0_1 a1_1 false _ (ZQ (Kd.C_below HR0_0.out HB.out)) HC0_0.out (ZQ (Kd.C_below HR0_1.out HB.out)) HC0_1.out A37.out).mono ?_); rintro e w50 ⟨rfl, hb⟩; refine ZV1 ?_; replace BK108 := ZW BK108 hb; replace BK109 := ZW BK109 hb; replace HB := ZT HB hb; clear hb))
  go_ret
  exact ⟨ZE, ZB⟩))
  ·(
  replace c36 := Bool.eq_false_iff.mpr c36
  subst c36
  have H1 := H; rw [if_neg ZFT] at H1
  clear H
  have H := H1
  clear H1
  obtain rfl := Option.some.inj H
  go_wp2
  go_ret
  exact ⟨ZE, ZB⟩))))

-- (spec_l2Step stands with its caller)

end Go.Proofs.YtfcmckomagaiiaaDoor.A
