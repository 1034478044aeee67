/- Go functions as Lean functions, and for each its contract; written by wip/tools/pr.py over the kit's print. -/
import Derived.Test.YtaflodibibbakaaAx0
import Derived.Test.YtaflodibibbakaaAx7
namespace Go.Proofs.Ytaflodibibbakaa.A
open Go.RowKit Go.Proofs.YtaflodibibbakaaW.PrintWords Go.Proofs.YtaflodibibbakaaW.PrintLast Go.Proofs.YtaflodibibbakaaW.PrintMore
attribute [local go_sem] max2_int min2_int max_two min_two max_three min_three max_four min_four
set_option linter.unusedVariables false
set_option linter.unusedSimpArgs false
set_option maxHeartbeats 8000000
set_option maxRecDepth 100000

/-! ### impl_Prog_valOk: function 85 -/
def impl_Prog_valOk.f (l0_0 : List (S60)) (l0_1 : List (S50)) (a1_0 : Int) (a1_1 : Int) (a1_2 : Int) : Option (Bool) := if a1_0 = 1 then ((impl_isNum.f a1_1).bind fun t221 => (if t221 = true then (some (a1_2 == 0)) else (some false))) else (if a1_0 = 2 then ((impl_Prog_isVar.f l0_0 l0_1 a1_1).bind fun t222 => (if t222 = true then (some (a1_2 == 0)) else (some false))) else (if a1_0 = 3 then ((impl_Prog_isVar.f l0_0 l0_1 a1_1).bind fun t223 => (if t223 = true then ((impl_Prog_isVar.f l0_0 l0_1 a1_2).bind fun t224 => (some t224)) else (some false))) else (if a1_0 = 4 then ((impl_Prog_isVar.f l0_0 l0_1 a1_1).bind fun t225 => (if t225 = true then ((impl_Prog_isVar.f l0_0 l0_1 a1_2).bind fun t226 => (some t226)) else (some false))) else (some false))))
theorem impl_Prog_valOk.calls (A0_0 : Option Addr) (c0_0 : Nat) (l0_0 : List (S60)) (A0_1 : Option Addr) (c0_1 : Nat) (l0_1 : List (S50)) (a1_0 : Int) (a1_1 : Int) (a1_2 : Int) (r : Bool) (w : World) (hr0_0 : Kd.C k60 w A0_0 l0_0.length l0_0) (hc0_0 : l0_0.length ≤ c0_0) (hr0_1 : Kd.C k50 w A0_1 l0_1.length l0_1) (hc0_1 : l0_1.length ≤ c0_1) (h : impl_Prog_valOk.f l0_0 l0_1 a1_0 a1_1 a1_2 = some r) :
  Calls Try.prog 85 #[.agg #[.slice A0_0 l0_0.length c0_0, .slice A0_1 l0_1.length c0_1], .agg #[.int .i64 a1_0, .int .i64 a1_1, .int .i64 a1_2]] w fun e w' => e = .returned (.bool r) ∧ Below w.heap.size w w' := by
 have hu32 := Try.underlying32
 have hu48 := Try.underlying48
 have HR0_0 := AM hr0_0
 have HC0_0 := AM hc0_0
 clear hr0_0 hc0_0
 have HR0_1 := AM hr0_1
 have HC0_1 := AM hc0_1
 clear hr0_1 hc0_1
 have HB := AM (Below.refl w.heap.size w)
 have H := h
 unfold impl_Prog_valOk.f at H
 clear h
 by_cases c3 : a1_0 = 1
 ·(
 rw [if_pos c3] at H
 have c3b0 := beq_iff_eq.mpr c3
 have c3b1 := bne_eq_false_iff_eq.mpr c3
 clear c3
 obtain ⟨t221, A4, H⟩ := ZOB H; try dsimp only at H
 by_cases c5 : t221 = true
 ·(
 subst c5
 have H1 := H; rw [if_pos rfl] at H1
 clear H
 have H := H1
 clear H1
 obtain rfl := Option.some.inj H
 go_enter Try.func85, Try.ntmps85
 go_wp2_with (first | ((with_reducible refine gate_dst (N := 2) rfl ?_); refine ZX (N := 2) (cs := #[.slice A0_0 l0_0.length c0_0, .slice A0_1 l0_1.length c0_1]) (t := 32) ?_; intro gb219 hg w6 hbox hb; have BK219 := AM (hbox); have GW219 : Aside0 (w.heap.size ≤ gb219) := ZS hg; have GE219 : Aside0 (w.heap.size ≤ gb219) := ZS hg; replace HB := ZT HB hb; clear hb hbox hg) | ((with_reducible refine gate_dst (N := 3) rfl ?_); refine ZX (N := 3) (cs := #[.int .i64 a1_0, .int .i64 a1_1, .int .i64 a1_2]) (t := 48) ?_; intro gb220 hg w7 hbox hb; have BK220 := AM (hbox); have GW220 : Aside0 (w.heap.size ≤ gb220) := ZS hg; have GE220 : Aside0 (w.heap.size ≤ gb220) := ZS hg; have NB219_220 : Aside0 (gb219 ≠ gb220) := ZN hg BK219; have NB220_219 : Aside0 (gb220 ≠ gb219) := ZM hg BK219; replace BK219 := ZW BK219 hb; replace HB := ZT HB hb; clear hb hbox hg; have hnb8 := NB220_219.out; have hnc8 := NB219_220.out; have hcz9 := ZC3 w7 BK220; have hfz9 := ZF3 BK220) | ((with_reducible refine gate_callee (f := 89) rfl ?_); refine ZGL (some 11) Try.func89 #[.int .i64 a1_1] ?_; (with_reducible refine (impl_isNum.calls a1_1 true _ A4.out).mono ?_); rintro e w' ⟨rfl, ⟨nd, rfl⟩⟩; refine ⟨_, rfl, ?_⟩))
 go_ret
 exact ⟨ZE, ZB⟩)
 ·(
 replace c5 := Bool.eq_false_iff.mpr c5
 subst c5
 have H1 := H; rw [if_neg ZFT] at H1
 clear H
 have H := H1
 clear H1
 obtain rfl := Option.some.inj H
 go_enter Try.func85, Try.ntmps85
 go_wp2_with (first | ((with_reducible refine gate_dst (N := 2) rfl ?_); refine ZX (N := 2) (cs := #[.slice A0_0 l0_0.length c0_0, .slice A0_1 l0_1.length c0_1]) (t := 32) ?_; intro gb219 hg w10 hbox hb; have BK219 := AM (hbox); have GW219 : Aside0 (w.heap.size ≤ gb219) := ZS hg; have GE219 : Aside0 (w.heap.size ≤ gb219) := ZS hg; replace HB := ZT HB hb; clear hb hbox hg) | ((with_reducible refine gate_dst (N := 3) rfl ?_); refine ZX (N := 3) (cs := #[.int .i64 a1_0, .int .i64 a1_1, .int .i64 a1_2]) (t := 48) ?_; intro gb220 hg w11 hbox hb; have BK220 := AM (hbox); have GW220 : Aside0 (w.heap.size ≤ gb220) := ZS hg; have GE220 : Aside0 (w.heap.size ≤ gb220) := ZS hg; have NB219_220 : Aside0 (gb219 ≠ gb220) := ZN hg BK219; have NB220_219 : Aside0 (gb220 ≠ gb219) := ZM hg BK219; replace BK219 := ZW BK219 hb; replace HB := ZT HB hb; clear hb hbox hg; have hnb12 := NB220_219.out; have hnc12 := NB219_220.out; have hcz13 := ZC3 w11 BK220; have hfz13 := ZF3 BK220) | ((with_reducible refine gate_callee (f := 89) rfl ?_); refine ZGL (some 11) Try.func89 #[.int .i64 a1_1] ?_; (with_reducible refine (impl_isNum.calls a1_1 false _ A4.out).mono ?_); rintro e w' ⟨rfl, ⟨nd, rfl⟩⟩; refine ⟨_, rfl, ?_⟩))
 go_ret
 exact ⟨ZE, ZB⟩))
 ·(
 rw [if_neg c3] at H
 have c3b0 := beq_eq_false_iff_ne.mpr c3
 have c3b1 := bne_iff_ne.mpr c3
 by_cases c14 : a1_0 = 2
 ·(
 rw [if_pos c14] at H
 have c14b0 := beq_iff_eq.mpr c14
 have c14b1 := bne_eq_false_iff_eq.mpr c14
 clear c14
 obtain ⟨t222, A15, H⟩ := ZOB H; try dsimp only at H
 by_cases c16 : t222 = true
 ·(
 subst c16
 have H1 := H; rw [if_pos rfl] at H1
 clear H
 have H := H1
 clear H1
 obtain rfl := Option.some.inj H
 go_enter Try.func85, Try.ntmps85
 go_wp2_with (first | ((with_reducible refine gate_dst (N := 2) rfl ?_); refine ZX (N := 2) (cs := #[.slice A0_0 l0_0.length c0_0, .slice A0_1 l0_1.length c0_1]) (t := 32) ?_; intro gb219 hg w17 hbox hb; have BK219 := AM (hbox); have GW219 : Aside0 (w.heap.size ≤ gb219) := ZS hg; have GE219 : Aside0 (w.heap.size ≤ gb219) := ZS hg; replace HB := ZT HB hb; clear hb hbox hg) | ((with_reducible refine gate_dst (N := 3) rfl ?_); refine ZX (N := 3) (cs := #[.int .i64 a1_0, .int .i64 a1_1, .int .i64 a1_2]) (t := 48) ?_; intro gb220 hg w18 hbox hb; have BK220 := AM (hbox); have GW220 : Aside0 (w.heap.size ≤ gb220) := ZS hg; have GE220 : Aside0 (w.heap.size ≤ gb220) := ZS hg; have NB219_220 : Aside0 (gb219 ≠ gb220) := ZN hg BK219; have NB220_219 : Aside0 (gb220 ≠ gb219) := ZM hg BK219; replace BK219 := ZW BK219 hb; replace HB := ZT HB hb; clear hb hbox hg; have hnb19 := NB220_219.out; have hnc19 := NB219_220.out; have hcz20 := ZC3 w18 BK220; have hfz20 := ZF3 BK220; have hcz21 := ZC2 w18 BK219; have hfz21 := ZF2 BK219) | ((with_reducible refine gate_callee (f := 84) rfl ?_); refine ZGL (some 22) Try.func84 #[.agg #[.slice A0_0 l0_0.length c0_0, .slice A0_1 l0_1.length c0_1], .int .i64 a1_1] ?_; (with_reducible refine (impl_Prog_isVar.calls _ _ l0_0 _ _ l0_1 a1_1 true _ ?side1 ?side2 ?side3 ?side4 A15.out).mono ?_); (case side1 => exact ZQ (Kd.C_below HR0_0.out HB.out)); (case side2 => exact HC0_0.out); (case side3 => exact ZQ (Kd.C_below HR0_1.out HB.out)); (case side4 => exact HC0_1.out); rintro e w22 ⟨rfl, hb⟩; refine ⟨_, rfl, ?_⟩; replace BK219 := ZW BK219 hb; replace BK220 := ZW BK220 hb; replace HB := ZT HB hb; clear hb; have hcz23 := ZC3 w22 BK220; have hfz23 := ZF3 BK220))
 go_ret
 exact ⟨ZE, ZB⟩)
 ·(
 replace c16 := Bool.eq_false_iff.mpr c16
 subst c16
 have H1 := H; rw [if_neg ZFT] at H1
 clear H
 have H := H1
 clear H1
 obtain rfl := Option.some.inj H
 go_enter Try.func85, Try.ntmps85
 go_wp2_with (first | ((with_reducible refine gate_dst (N := 2) rfl ?_); refine ZX (N := 2) (cs := #[.slice A0_0 l0_0.length c0_0, .slice A0_1 l0_1.length c0_1]) (t := 32) ?_; intro gb219 hg w24 hbox hb; have BK219 := AM (hbox); have GW219 : Aside0 (w.heap.size ≤ gb219) := ZS hg; have GE219 : Aside0 (w.heap.size ≤ gb219) := ZS hg; replace HB := ZT HB hb; clear hb hbox hg) | ((with_reducible refine gate_dst (N := 3) rfl ?_); refine ZX (N := 3) (cs := #[.int .i64 a1_0, .int .i64 a1_1, .int .i64 a1_2]) (t := 48) ?_; intro gb220 hg w25 hbox hb; have BK220 := AM (hbox); have GW220 : Aside0 (w.heap.size ≤ gb220) := ZS hg; have GE220 : Aside0 (w.heap.size ≤ gb220) := ZS hg; have NB219_220 : Aside0 (gb219 ≠ gb220) := ZN hg BK219; have NB220_219 : Aside0 (gb220 ≠ gb219) := ZM hg BK219; replace BK219 := ZW BK219 hb; replace HB := ZT HB hb; clear hb hbox hg; have hnb26 := NB220_219.out; have hnc26 := NB219_220.out; have hcz27 := ZC3 w25 BK220; have hfz27 := ZF3 BK220; have hcz28 := ZC2 w25 BK219; have hfz28 := ZF2 BK219) | ((with_reducible refine gate_callee (f := 84) rfl ?_); refine ZGL (some 22) Try.func84 #[.agg #[.slice A0_0 l0_0.length c0_0, .slice A0_1 l0_1.length c0_1], .int .i64 a1_1] ?_; (with_reducible refine (impl_Prog_isVar.calls _ _ l0_0 _ _ l0_1 a1_1 false _ ?side1 ?side2 ?side3 ?side4 A15.out).mono ?_); (case side1 => exact ZQ (Kd.C_below HR0_0.out HB.out)); (case side2 => exact HC0_0.out); (case side3 => exact ZQ (Kd.C_below HR0_1.out HB.out)); (case side4 => exact HC0_1.out); rintro e w29 ⟨rfl, hb⟩; refine ⟨_, rfl, ?_⟩; replace BK219 := ZW BK219 hb; replace BK220 := ZW BK220 hb; replace HB := ZT HB hb; clear hb))
 go_ret
 exact ⟨ZE, ZB⟩))
 ·(
 rw [if_neg c14] at H
 have c14b0 := beq_eq_false_iff_ne.mpr c14
 have c14b1 := bne_iff_ne.mpr c14
 by_cases c30 : a1_0 = 3
 ·(
 rw [if_pos c30] at H
 have c30b0 := beq_iff_eq.mpr c30
 have c30b1 := bne_eq_false_iff_eq.mpr c30
 clear c30
 obtain ⟨t223, A31, H⟩ := ZOB H; try dsimp only at H
 by_cases c32 : t223 = true
 ·(
 subst c32
 have H1 := H; rw [if_pos rfl] at H1
 clear H
 have H := H1
 clear H1
 obtain ⟨t224, A33, H⟩ := ZOB H; try dsimp only at H
 obtain rfl := Option.some.inj H
 go_enter Try.func85, Try.ntmps85
 go_wp2_with (first | ((with_reducible refine gate_dst (N := 2) rfl ?_); refine ZX (N := 2) (cs := #[.slice A0_0 l0_0.length c0_0, .slice A0_1 l0_1.length c0_1]) (t := 32) ?_; intro gb219 hg w34 hbox hb; have BK219 := AM (hbox); have GW219 : Aside0 (w.heap.size ≤ gb219) := ZS hg; have GE219 : Aside0 (w.heap.size ≤ gb219) := ZS hg; replace HB := ZT HB hb; clear hb hbox hg) | ((with_reducible refine gate_dst (N := 3) rfl ?_); refine ZX (N := 3) (cs := #[.int .i64 a1_0, .int .i64 a1_1, .int .i64 a1_2]) (t := 48) ?_; intro gb220 hg w35 hbox hb; have BK220 := AM (hbox); have GW220 : Aside0 (w.heap.size ≤ gb220) := ZS hg; have GE220 : Aside0 (w.heap.size ≤ gb220) := ZS hg; have NB219_220 : Aside0 (gb219 ≠ gb220) := ZN hg BK219; have NB220_219 : Aside0 (gb220 ≠ gb219) := ZM hg BK219; replace BK219 := ZW BK219 hb; replace HB := ZT HB hb; clear hb hbox hg; have hnb36 := NB220_219.out; have hnc36 := NB219_220.out; have hcz37 := ZC3 w35 BK220; have hfz37 := ZF3 BK220; have hcz38 := ZC2 w35 BK219; have hfz38 := ZF2 BK219) | (go_at_call 84; (with_reducible refine (impl_Prog_isVar.calls _ _ l0_0 _ _ l0_1 a1_1 true _ ?side1 ?side2 ?side3 ?side4 A31.out).mono ?_); (case side1 => exact ZQ (Kd.C_below HR0_0.out HB.out)); (case side2 => exact HC0_0.out); (case side3 => exact ZQ (Kd.C_below HR0_1.out HB.out)); (case side4 => exact HC0_1.out); rintro e w39 ⟨rfl, hb⟩; replace BK219 := ZW BK219 hb; replace BK220 := ZW BK220 hb; replace HB := ZT HB hb; clear hb; have hcz40 := ZC2 w39 BK219; have hfz40 := ZF2 BK219; have hcz41 := ZC3 w39 BK220; have hfz41 := ZF3 BK220) | (go_at_call 84; (with_reducible refine (impl_Prog_isVar.calls _ _ l0_0 _ _ l0_1 a1_2 t224 _ ?side1 ?side2 ?side3 ?side4 A33.out).mono ?_); (case side1 => exact ZQ (Kd.C_below HR0_0.out HB.out)); (case side2 => exact HC0_0.out); (case side3 => exact ZQ (Kd.C_below HR0_1.out HB.out)); (case side4 => exact HC0_1.out); rintro e w42 ⟨rfl, hb⟩; replace BK219 := ZW BK219 hb; replace BK220 := ZW BK220 hb; replace HB := ZT HB hb; clear hb))
 go_ret
 exact ⟨ZE, ZB⟩)
 ·(
 replace c32 := Bool.eq_false_iff.mpr c32
 subst c32
 have H1 := H; rw [if_neg ZFT] at H1
 clear H
 have H := H1
 clear H1
 obtain rfl := Option.some.inj H
 go_enter Try.func85, Try.ntmps85
 go_wp2_with (first | ((with_reducible refine gate_dst (N := 2) rfl ?_); refine ZX (N := 2) (cs := #[.slice A0_0 l0_0.length c0_0, .slice A0_1 l0_1.length c0_1]) (t := 32) ?_; intro gb219 hg w43 hbox hb; have BK219 := AM (hbox); have GW219 : Aside0 (w.heap.size ≤ gb219) := ZS hg; have GE219 : Aside0 (w.heap.size ≤ gb219) := ZS hg; replace HB := ZT HB hb; clear hb hbox hg) | ((with_reducible refine gate_dst (N := 3) rfl ?_); refine ZX (N := 3) (cs := #[.int .i64 a1_0, .int .i64 a1_1, .int .i64 a1_2]) (t := 48) ?_; intro gb220 hg w44 hbox hb; have BK220 := AM (hbox); have GW220 : Aside0 (w.heap.size ≤ gb220) := ZS hg; have GE220 : Aside0 (w.heap.size ≤ gb220) := ZS hg; have NB219_220 : Aside0 (gb219 ≠ gb220) := ZN hg BK219; have NB220_219 : Aside0 (gb220 ≠ gb219) := ZM hg BK219; replace BK219 := ZW BK219 hb; replace HB := ZT HB hb; clear hb hbox hg; have hnb45 := NB220_219.out; have hnc45 := NB219_220.out; have hcz46 := ZC3 w44 BK220; have hfz46 := ZF3 BK220; have hcz47 := ZC2 w44 BK219; have hfz47 := ZF2 BK219) | (go_at_call 84; (with_reducible refine (impl_Prog_isVar.calls _ _ l0_0 _ _ l0_1 a1_1 false _ ?side1 ?side2 ?side3 ?side4 A31.out).mono ?_); (case side1 => exact ZQ (Kd.C_below HR0_0.out HB.out)); (case side2 => exact HC0_0.out); (case side3 => exact ZQ (Kd.C_below HR0_1.out HB.out)); (case side4 => exact HC0_1.out); rintro e w48 ⟨rfl, hb⟩; replace BK219 := ZW BK219 hb; replace BK220 := ZW BK220 hb; replace HB := ZT HB hb; clear hb))
 go_ret
 exact ⟨ZE, ZB⟩))
 ·(
 rw [if_neg c30] at H
 have c30b0 := beq_eq_false_iff_ne.mpr c30
 have c30b1 := bne_iff_ne.mpr c30
 by_cases c49 : a1_0 = 4
 ·(
 rw [if_pos c49] at H
 have c49b0 := beq_iff_eq.mpr c49
 have c49b1 := bne_eq_false_iff_eq.mpr c49
 clear c49
 obtain ⟨t225, A50, H⟩ := ZOB H; try dsimp only at H
 by_cases c51 : t225 = true
 ·(
 subst c51
 have H1 := H; rw [if_pos rfl] at H1
 clear H
 have H := H1
 clear H1
 obtain ⟨t226, A52, H⟩ := ZOB H; try dsimp only at H
 obtain rfl := Option.some.inj H
 go_enter Try.func85, Try.ntmps85
 go_wp2_with (first | ((with_reducible refine gate_dst (N := 2) rfl ?_); refine ZX (N := 2) (cs := #[.slice A0_0 l0_0.length c0_0, .slice A0_1 l0_1.length c0_1]) (t := 32) ?_; intro gb219 hg w53 hbox hb; have BK219 := AM (hbox); have GW219 : Aside0 (w.heap.size ≤ gb219) := ZS hg; have GE219 : Aside0 (w.heap.size ≤ gb219) := ZS hg; replace HB := ZT HB hb; clear hb hbox hg) | ((with_reducible refine gate_dst (N := 3) rfl ?_); refine ZX (N := 3) (cs := #[.int .i64 a1_0, .int .i64 a1_1, .int .i64 a1_2]) (t := 48) ?_; intro gb220 hg w54 hbox hb; have BK220 := AM (hbox); have GW220 : Aside0 (w.heap.size ≤ gb220) := ZS hg; have GE220 : Aside0 (w.heap.size ≤ gb220) := ZS hg; have NB219_220 : Aside0 (gb219 ≠ gb220) := ZN hg BK219; have NB220_219 : Aside0 (gb220 ≠ gb219) := ZM hg BK219; replace BK219 := ZW BK219 hb; replace HB := ZT HB hb; clear hb hbox hg; have hnb55 := NB220_219.out; have hnc55 := NB219_220.out; have hcz56 := ZC3 w54 BK220; have hfz56 := ZF3 BK220; have hcz57 := ZC2 w54 BK219; have hfz57 := ZF2 BK219) | (go_at_call 84; (with_reducible refine (impl_Prog_isVar.calls _ _ l0_0 _ _ l0_1 a1_1 true _ ?side1 ?side2 ?side3 ?side4 A50.out).mono ?_); (case side1 => exact ZQ (Kd.C_below HR0_0.out HB.out)); (case side2 => exact HC0_0.out); (case side3 => exact ZQ (Kd.C_below HR0_1.out HB.out)); (case side4 => exact HC0_1.out); rintro e w58 ⟨rfl, hb⟩; replace BK219 := ZW BK219 hb; replace BK220 := ZW BK220 hb; replace HB := ZT HB hb; clear hb; have hcz59 := ZC2 w58 BK219; have hfz59 := ZF2 BK219; have hcz60 := ZC3 w58 BK220; have hfz60 := ZF3 BK220) | (go_at_call 84; (with_reducible refine (impl_Prog_isVar.calls _ _ l0_0 _ _ l0_1 a1_2 t226 _ ?side1 ?side2 ?side3 ?side4 A52.out).mono ?_); (case side1 => exact ZQ (Kd.C_below HR0_0.out HB.out)); (case side2 => exact HC0_0.out); (case side3 => exact ZQ (Kd.C_below HR0_1.out HB.out)); (case side4 => exact HC0_1.out); rintro e w61 ⟨rfl, hb⟩; replace BK219 := ZW BK219 hb; replace BK220 := ZW BK220 hb; replace HB := ZT HB hb; clear hb))
 go_ret
 exact ⟨ZE, ZB⟩)
 ·(
 replace c51 := Bool.eq_false_iff.mpr c51
 subst c51
 have H1 := H; rw [if_neg ZFT] at H1
 clear H
 have H := H1
 clear H1
 obtain rfl := Option.some.inj H
 go_enter Try.func85, Try.ntmps85
 go_wp2_with (first | ((with_reducible refine gate_dst (N := 2) rfl ?_); refine ZX (N := 2) (cs := #[.slice A0_0 l0_0.length c0_0, .slice A0_1 l0_1.length c0_1]) (t := 32) ?_; intro gb219 hg w62 hbox hb; have BK219 := AM (hbox); have GW219 : Aside0 (w.heap.size ≤ gb219) := ZS hg; have GE219 : Aside0 (w.heap.size ≤ gb219) := ZS hg; replace HB := ZT HB hb; clear hb hbox hg) | ((with_reducible refine gate_dst (N := 3) rfl ?_); refine ZX (N := 3) (cs := #[.int .i64 a1_0, .int .i64 a1_1, .int .i64 a1_2]) (t := 48) ?_; intro gb220 hg w63 hbox hb; have BK220 := AM (hbox); have GW220 : Aside0 (w.heap.size ≤ gb220) := ZS hg; have GE220 : Aside0 (w.heap.size ≤ gb220) := ZS hg; have NB219_220 : Aside0 (gb219 ≠ gb220) := ZN hg BK219; have NB220_219 : Aside0 (gb220 ≠ gb219) := ZM hg BK219; replace BK219 := ZW BK219 hb; replace HB := ZT HB hb; clear hb hbox hg; have hnb64 := NB220_219.out; have hnc64 := NB219_220.out; have hcz65 := ZC3 w63 BK220; have hfz65 := ZF3 BK220; have hcz66 := ZC2 w63 BK219; have hfz66 := ZF2 BK219) | (go_at_call 84; (with_reducible refine (impl_Prog_isVar.calls _ _ l0_0 _ _ l0_1 a1_1 false _ ?side1 ?side2 ?side3 ?side4 A50.out).mono ?_); (case side1 => exact ZQ (Kd.C_below HR0_0.out HB.out)); (case side2 => exact HC0_0.out); (case side3 => exact ZQ (Kd.C_below HR0_1.out HB.out)); (case side4 => exact HC0_1.out); rintro e w67 ⟨rfl, hb⟩; replace BK219 := ZW BK219 hb; replace BK220 := ZW BK220 hb; replace HB := ZT HB hb; clear hb))
 go_ret
 exact ⟨ZE, ZB⟩))
 ·(
 rw [if_neg c49] at H
 have c49b0 := beq_eq_false_iff_ne.mpr c49
 have c49b1 := bne_iff_ne.mpr c49
 obtain rfl := Option.some.inj H
 go_enter Try.func85, Try.ntmps85
 go_wp2_with (first | ((with_reducible refine gate_dst (N := 2) rfl ?_); refine ZX (N := 2) (cs := #[.slice A0_0 l0_0.length c0_0, .slice A0_1 l0_1.length c0_1]) (t := 32) ?_; intro gb219 hg w68 hbox hb; have BK219 := AM (hbox); have GW219 : Aside0 (w.heap.size ≤ gb219) := ZS hg; have GE219 : Aside0 (w.heap.size ≤ gb219) := ZS hg; replace HB := ZT HB hb; clear hb hbox hg) | ((with_reducible refine gate_dst (N := 3) rfl ?_); refine ZX (N := 3) (cs := #[.int .i64 a1_0, .int .i64 a1_1, .int .i64 a1_2]) (t := 48) ?_; intro gb220 hg w69 hbox hb; have BK220 := AM (hbox); have GW220 : Aside0 (w.heap.size ≤ gb220) := ZS hg; have GE220 : Aside0 (w.heap.size ≤ gb220) := ZS hg; have NB219_220 : Aside0 (gb219 ≠ gb220) := ZN hg BK219; have NB220_219 : Aside0 (gb220 ≠ gb219) := ZM hg BK219; replace BK219 := ZW BK219 hb; replace HB := ZT HB hb; clear hb hbox hg; have hnb70 := NB220_219.out; have hnc70 := NB219_220.out; have hcz71 := ZC3 w69 BK220; have hfz71 := ZF3 BK220))
 go_ret
 exact ⟨ZE, ZB⟩))))

end Go.Proofs.Ytaflodibibbakaa.A
