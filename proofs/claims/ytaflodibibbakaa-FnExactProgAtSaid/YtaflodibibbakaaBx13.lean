/- Go functions as Lean functions, and for each its contract; written by wip/tools/pr.py over the kit's print. -/
import Derived.Test.YtaflodibibbakaaBx0
import Derived.Test.YtaflodibibbakaaBx12
namespace Go.Proofs.Ytaflodibibbakaa.B
open Go.RowKit Go.Proofs.YtaflodibibbakaaW.PrintWords Go.Proofs.YtaflodibibbakaaW.PrintLast Go.Proofs.YtaflodibibbakaaW.PrintMore
attribute [local go_sem] max2_int min2_int max_two min_two max_three min_three max_four min_four
set_option linter.unusedVariables false
set_option linter.unusedSimpArgs false
set_option maxHeartbeats 8000000
set_option maxRecDepth 100000

/-! ### impl_Prog_valOk: function 85 -/
def impl_Prog_valOk.f (l0_0 : List (S60)) (l0_1 : List (S50)) (a1_0 : Int) (a1_1 : Int) (a1_2 : Int) : Option (Bool) := if a1_0 = 1 then ((impl_isNum.f a1_1).bind fun t283 => (if t283 = true then (some (a1_2 == 0)) else (some false))) else (if a1_0 = 2 then ((impl_Prog_isVar.f l0_0 l0_1 a1_1).bind fun t284 => (if t284 = true then (some (a1_2 == 0)) else (some false))) else (if a1_0 = 3 then ((impl_Prog_isVar.f l0_0 l0_1 a1_1).bind fun t285 => (if t285 = true then ((impl_Prog_isVar.f l0_0 l0_1 a1_2).bind fun t286 => (some t286)) else (some false))) else (if a1_0 = 4 then ((impl_Prog_isVar.f l0_0 l0_1 a1_1).bind fun t287 => (if t287 = true then ((impl_Prog_isVar.f l0_0 l0_1 a1_2).bind fun t288 => (some t288)) else (some false))) else (some false))))
theorem impl_Prog_valOk.calls (A0_0 : Option Addr) (c0_0 : Nat) (l0_0 : List (S60)) (A0_1 : Option Addr) (c0_1 : Nat) (l0_1 : List (S50)) (a1_0 : Int) (a1_1 : Int) (a1_2 : Int) (r : Bool) (w : World) (hr0_0 : Kd.C k60 w A0_0 l0_0.length l0_0) (hc0_0 : l0_0.length ≤ c0_0) (hr0_1 : Kd.C k50 w A0_1 l0_1.length l0_1) (hc0_1 : l0_1.length ≤ c0_1) (h : impl_Prog_valOk.f l0_0 l0_1 a1_0 a1_1 a1_2 = some r) :
  Calls Try.prog 85 #[.agg #[.slice A0_0 l0_0.length c0_0, .slice A0_1 l0_1.length c0_1], .agg #[.int .i64 a1_0, .int .i64 a1_1, .int .i64 a1_2]] w fun e w' => e = .returned (.bool r) ∧ Below w.heap.size w w' := by
 have hu32 := Try.underlying32
 have hu48 := Try.underlying48
 have HR0_0 := AM hr0_0
 have HC0_0 := AM hc0_0
 clear hr0_0 hc0_0
 have HR0_1 := AM hr0_1
 have HC0_1 := AM hc0_1
 clear hr0_1 hc0_1
 have HB := AM (Below.refl w.heap.size w)
 have H := h
 unfold impl_Prog_valOk.f at H
 clear h
 by_cases c3 : a1_0 = 1
 ·(
 rw [if_pos c3] at H
 have c3b0 := beq_iff_eq.mpr c3
 have c3b1 := bne_eq_false_iff_eq.mpr c3
 clear c3
 obtain ⟨t283, A4, H⟩ := ZOB H; try dsimp only at H
 by_cases c5 : t283 = true
 ·(
 subst c5
 have H1 := H; rw [if_pos rfl] at H1
 clear H
 have H := H1
 clear H1
 obtain rfl := Option.some.inj H
 go_enter Try.func85, Try.ntmps85
 go_wp2_with (first | ((with_reducible refine gate_dst (N := 2) rfl ?_); refine ZX (N := 2) (cs := #[.slice A0_0 l0_0.length c0_0, .slice A0_1 l0_1.length c0_1]) (t := 32) ?_; intro gb281 hg w6 hbox hb; have BK281 := AM (hbox); have GW281 : Aside0 (w.heap.size ≤ gb281) := ZS hg; have GE281 : Aside0 (w.heap.size ≤ gb281) := ZS hg; replace HB := ZT HB hb; clear hb hbox hg) | ((with_reducible refine gate_dst (N := 3) rfl ?_); refine ZX (N := 3) (cs := #[.int .i64 a1_0, .int .i64 a1_1, .int .i64 a1_2]) (t := 48) ?_; intro gb282 hg w7 hbox hb; have BK282 := AM (hbox); have GW282 : Aside0 (w.heap.size ≤ gb282) := ZS hg; have GE282 : Aside0 (w.heap.size ≤ gb282) := ZS hg; have NB281_282 : Aside0 (gb281 ≠ gb282) := ZN hg BK281; have NB282_281 : Aside0 (gb282 ≠ gb281) := ZM hg BK281; replace BK281 := ZW BK281 hb; replace HB := ZT HB hb; clear hb hbox hg; have hnb8 := NB282_281.out; have hnc8 := NB281_282.out; have hcz9 := ZC3 w7 BK282; have hfz9 := ZF3 BK282) | ((with_reducible refine gate_callee (f := 89) rfl ?_); refine ZGL (some 11) Try.func89 #[.int .i64 a1_1] ?_; (with_reducible refine (impl_isNum.calls a1_1 true _ A4.out).mono ?_); rintro e w' ⟨rfl, ⟨nd, rfl⟩⟩; refine ⟨_, rfl, ?_⟩))
 go_ret
 exact ⟨ZE, ZB⟩)
 ·(
 replace c5 := Bool.eq_false_iff.mpr c5
 subst c5
 have H1 := H; rw [if_neg ZFT] at H1
 clear H
 have H := H1
 clear H1
 obtain rfl := Option.some.inj H
 go_enter Try.func85, Try.ntmps85
 go_wp2_with (first | ((with_reducible refine gate_dst (N := 2) rfl ?_); refine ZX (N := 2) (cs := #[.slice A0_0 l0_0.length c0_0, .slice A0_1 l0_1.length c0_1]) (t := 32) ?_; intro gb281 hg w10 hbox hb; have BK281 := AM (hbox); have GW281 : Aside0 (w.heap.size ≤ gb281) := ZS hg; have GE281 : Aside0 (w.heap.size ≤ gb281) := ZS hg; replace HB := ZT HB hb; clear hb hbox hg) | ((with_reducible refine gate_dst (N := 3) rfl ?_); refine ZX (N := 3) (cs := #[.int .i64 a1_0, .int .i64 a1_1, .int .i64 a1_2]) (t := 48) ?_; intro gb282 hg w11 hbox hb; have BK282 := AM (hbox); have GW282 : Aside0 (w.heap.size ≤ gb282) := ZS hg; have GE282 : Aside0 (w.heap.size ≤ gb282) := ZS hg; have NB281_282 : Aside0 (gb281 ≠ gb282) := ZN hg BK281; have NB282_281 : Aside0 (gb282 ≠ gb281) := ZM hg BK281; replace BK281 := ZW BK281 hb; replace HB := ZT HB hb; clear hb hbox hg; have hnb12 := NB282_281.out; have hnc12 := NB281_282.out; have hcz13 := ZC3 w11 BK282; have hfz13 := ZF3 BK282) | ((with_reducible refine gate_callee (f := 89) rfl ?_); refine ZGL (some 11) Try.func89 #[.int .i64 a1_1] ?_; (with_reducible refine (impl_isNum.calls a1_1 false _ A4.out).mono ?_); rintro e w' ⟨rfl, ⟨nd, rfl⟩⟩; refine ⟨_, rfl, ?_⟩))
 go_ret
 exact ⟨ZE, ZB⟩))
 ·(
 rw [if_neg c3] at H
 have c3b0 := beq_eq_false_iff_ne.mpr c3
 have c3b1 := bne_iff_ne.mpr c3
 by_cases c14 : a1_0 = 2
 ·(
 rw [if_pos c14] at H
 have c14b0 := beq_iff_eq.mpr c14
 have c14b1 := bne_eq_false_iff_eq.mpr c14
 clear c14
 obtain ⟨t284, A15, H⟩ := ZOB H; try dsimp only at H
 by_cases c16 : t284 = true
 ·(
 subst c16
 have H1 := H; rw [if_pos rfl] at H1
 clear H
 have H := H1
 clear H1
 obtain rfl := Option.some.inj H
 go_enter Try.func85, Try.ntmps85
 go_wp2_with (first | ((with_reducible refine gate_dst (N := 2) rfl ?_); refine ZX (N := 2) (cs := #[.slice A0_0 l0_0.length c0_0, .slice A0_1 l0_1.length c0_1]) (t := 32) ?_; intro gb281 hg w17 hbox hb; have BK281 := AM (hbox); have GW281 : Aside0 (w.heap.size ≤ gb281) := ZS hg; have GE281 : Aside0 (w.heap.size ≤ gb281) := ZS hg; replace HB := ZT HB hb; clear hb hbox hg) | ((with_reducible refine gate_dst (N := 3) rfl ?_); refine ZX (N := 3) (cs := #[.int .i64 a1_0, .int .i64 a1_1, .int .i64 a1_2]) (t := 48) ?_; intro gb282 hg w18 hbox hb; have BK282 := AM (hbox); have GW282 : Aside0 (w.heap.size ≤ gb282) := ZS hg; have GE282 : Aside0 (w.heap.size ≤ gb282) := ZS hg; have NB281_282 : Aside0 (gb281 ≠ gb282) := ZN hg BK281; have NB282_281 : Aside0 (gb282 ≠ gb281) := ZM hg BK281; replace BK281 := ZW BK281 hb; replace HB := ZT HB hb; clear hb hbox hg; have hnb19 := NB282_281.out; have hnc19 := NB281_282.out; have hcz20 := ZC3 w18 BK282; have hfz20 := ZF3 BK282; have hcz21 := ZC2 w18 BK281; have hfz21 := ZF2 BK281) | ((with_reducible refine gate_callee (f := 84) rfl ?_); refine ZGL (some 22) Try.func84 #[.agg #[.slice A0_0 l0_0.length c0_0, .slice A0_1 l0_1.length c0_1], .int .i64 a1_1] ?_; (with_reducible refine (impl_Prog_isVar.calls _ _ l0_0 _ _ l0_1 a1_1 true _ ?side1 ?side2 ?side3 ?side4 A15.out).mono ?_); (case side1 => exact ZQ (Kd.C_below HR0_0.out HB.out)); (case side2 => exact HC0_0.out); (case side3 => exact ZQ (Kd.C_below HR0_1.out HB.out)); (case side4 => exact HC0_1.out); rintro e w22 ⟨rfl, hb⟩; refine ⟨_, rfl, ?_⟩; replace BK281 := ZW BK281 hb; replace BK282 := ZW BK282 hb; replace HB := ZT HB hb; clear hb; have hcz23 := ZC3 w22 BK282; have hfz23 := ZF3 BK282))
 go_ret
 exact ⟨ZE, ZB⟩)
 ·(
 replace c16 := Bool.eq_false_iff.mpr c16
 subst c16
 have H1 := H; rw [if_neg ZFT] at H1
 clear H
 have H := H1
 clear H1
 obtain rfl := Option.some.inj H
 go_enter Try.func85, Try.ntmps85
 go_wp2_with (first | ((with_reducible refine gate_dst (N := 2) rfl ?_); refine ZX (N := 2) (cs := #[.slice A0_0 l0_0.length c0_0, .slice A0_1 l0_1.length c0_1]) (t := 32) ?_; intro gb281 hg w24 hbox hb; have BK281 := AM (hbox); have GW281 : Aside0 (w.heap.size ≤ gb281) := ZS hg; have GE281 : Aside0 (w.heap.size ≤ gb281) := ZS hg; replace HB := ZT HB hb; clear hb hbox hg) | ((with_reducible refine gate_dst (N := 3) rfl ?_); refine ZX (N := 3) (cs := #[.int .i64 a1_0, .int .i64 a1_1, .int .i64 a1_2]) (t := 48) ?_; intro gb282 hg w25 hbox hb; have BK282 := AM (hbox); have GW282 : Aside0 (w.heap.size ≤ gb282) := ZS hg; have GE282 : Aside0 (w.heap.size ≤ gb282) := ZS hg; have NB281_282 : Aside0 (gb281 ≠ gb282) := ZN hg BK281; have NB282_281 : Aside0 (gb282 ≠ gb281) := ZM hg BK281; replace BK281 := ZW BK281 hb; replace HB := ZT HB hb; clear hb hbox hg; have hnb26 := NB282_281.out; have hnc26 := NB281_282.out; have hcz27 := ZC3 w25 BK282; have hfz27 := ZF3 BK282; have hcz28 := ZC2 w25 BK281; have hfz28 := ZF2 BK281) | ((with_reducible refine gate_callee (f := 84) rfl ?_); refine ZGL (some 22) Try.func84 #[.agg #[.slice A0_0 l0_0.length c0_0, .slice A0_1 l0_1.length c0_1], .int .i64 a1_1] ?_; (with_reducible refine (impl_Prog_isVar.calls _ _ l0_0 _ _ l0_1 a1_1 false _ ?side1 ?side2 ?side3 ?side4 A15.out).mono ?_); (case side1 => exact ZQ (Kd.C_below HR0_0.out HB.out)); (case side2 => exact HC0_0.out); (case side3 => exact ZQ (Kd.C_below HR0_1.out HB.out)); (case side4 => exact HC0_1.out); rintro e w29 ⟨rfl, hb⟩; refine ⟨_, rfl, ?_⟩; replace BK281 := ZW BK281 hb; replace BK282 := ZW BK282 hb; replace HB := ZT HB hb; clear hb))
 go_ret
 exact ⟨ZE, ZB⟩))
 ·(
 rw [if_neg c14] at H
 have c14b0 := beq_eq_false_iff_ne.mpr c14
 have c14b1 := bne_iff_ne.mpr c14
 by_cases c30 : a1_0 = 3
 ·(
 rw [if_pos c30] at H
 have c30b0 := beq_iff_eq.mpr c30
 have c30b1 := bne_eq_false_iff_eq.mpr c30
 clear c30
 obtain ⟨t285, A31, H⟩ := ZOB H; try dsimp only at H
 by_cases c32 : t285 = true
 ·(
 subst c32
 have H1 := H; rw [if_pos rfl] at H1
 clear H
 have H := H1
 clear H1
 obtain ⟨t286, A33, H⟩ := ZOB H; try dsimp only at H
 obtain rfl := Option.some.inj H
 go_enter Try.func85, Try.ntmps85
 go_wp2_with (first | ((with_reducible refine gate_dst (N := 2) rfl ?_); refine ZX (N := 2) (cs := #[.slice A0_0 l0_0.length c0_0, .slice A0_1 l0_1.length c0_1]) (t := 32) ?_; intro gb281 hg w34 hbox hb; have BK281 := AM (hbox); have GW281 : Aside0 (w.heap.size ≤ gb281) := ZS hg; have GE281 : Aside0 (w.heap.size ≤ gb281) := ZS hg; replace HB := ZT HB hb; clear hb hbox hg) | ((with_reducible refine gate_dst (N := 3) rfl ?_); refine ZX (N := 3) (cs := #[.int .i64 a1_0, .int .i64 a1_1, .int .i64 a1_2]) (t := 48) ?_; intro gb282 hg w35 hbox hb; have BK282 := AM (hbox); have GW282 : Aside0 (w.heap.size ≤ gb282) := ZS hg; have GE282 : Aside0 (w.heap.size ≤ gb282) := ZS hg; have NB281_282 : Aside0 (gb281 ≠ gb282) := ZN hg BK281; have NB282_281 : Aside0 (gb282 ≠ gb281) := ZM hg BK281; replace BK281 := ZW BK281 hb; replace HB := ZT HB hb; clear hb hbox hg; have hnb36 := NB282_281.out; have hnc36 := NB281_282.out; have hcz37 := ZC3 w35 BK282; have hfz37 := ZF3 BK282; have hcz38 := ZC2 w35 BK281; have hfz38 := ZF2 BK281) | (go_at_call 84; (with_reducible refine (impl_Prog_isVar.calls _ _ l0_0 _ _ l0_1 a1_1 true _ ?side1 ?side2 ?side3 ?side4 A31.out).mono ?_); (case side1 => exact ZQ (Kd.C_below HR0_0.out HB.out)); (case side2 => exact HC0_0.out); (case side3 => exact ZQ (Kd.C_below HR0_1.out HB.out)); (case side4 => exact HC0_1.out); rintro e w39 ⟨rfl, hb⟩; replace BK281 := ZW BK281 hb; replace BK282 := ZW BK282 hb; replace HB := ZT HB hb; clear hb; have hcz40 := ZC2 w39 BK281; have hfz40 := ZF2 BK281; have hcz41 := ZC3 w39 BK282; have hfz41 := ZF3 BK282) | (go_at_call 84; (with_reducible refine (impl_Prog_isVar.calls _ _ l0_0 _ _ l0_1 a1_2 t286 _ ?side1 ?side2 ?side3 ?side4 A33.out).mono ?_); (case side1 => exact ZQ (Kd.C_below HR0_0.out HB.out)); (case side2 => exact HC0_0.out); (case side3 => exact ZQ (Kd.C_below HR0_1.out HB.out)); (case side4 => exact HC0_1.out); rintro e w42 ⟨rfl, hb⟩; replace BK281 := ZW BK281 hb; replace BK282 := ZW BK282 hb; replace HB := ZT HB hb; clear hb))
 go_ret
 exact ⟨ZE, ZB⟩)
 ·(
 replace c32 := Bool.eq_false_iff.mpr c32
 subst c32
 have H1 := H; rw [if_neg ZFT] at H1
 clear H
 have H := H1
 clear H1
 obtain rfl := Option.some.inj H
 go_enter Try.func85, Try.ntmps85
 go_wp2_with (first | ((with_reducible refine gate_dst (N := 2) rfl ?_); refine ZX (N := 2) (cs := #[.slice A0_0 l0_0.length c0_0, .slice A0_1 l0_1.length c0_1]) (t := 32) ?_; intro gb281 hg w43 hbox hb; have BK281 := AM (hbox); have GW281 : Aside0 (w.heap.size ≤ gb281) := ZS hg; have GE281 : Aside0 (w.heap.size ≤ gb281) := ZS hg; replace HB := ZT HB hb; clear hb hbox hg) | ((with_reducible refine gate_dst (N := 3) rfl ?_); refine ZX (N := 3) (cs := #[.int .i64 a1_0, .int .i64 a1_1, .int .i64 a1_2]) (t := 48) ?_; intro gb282 hg w44 hbox hb; have BK282 := AM (hbox); have GW282 : Aside0 (w.heap.size ≤ gb282) := ZS hg; have GE282 : Aside0 (w.heap.size ≤ gb282) := ZS hg; have NB281_282 : Aside0 (gb281 ≠ gb282) := ZN hg BK281; have NB282_281 : Aside0 (gb282 ≠ gb281) := ZM hg BK281; replace BK281 := ZW BK281 hb; replace HB := ZT HB hb; clear hb hbox hg; have hnb45 := NB282_281.out; have hnc45 := NB281_282.out; have hcz46 := ZC3 w44 BK282; have hfz46 := ZF3 BK282; have hcz47 := ZC2 w44 BK281; have hfz47 := ZF2 BK281) | (go_at_call 84; (with_reducible refine (impl_Prog_isVar.calls _ _ l0_0 _ _ l0_1 a1_1 false _ ?side1 ?side2 ?side3 ?side4 A31.out).mono ?_); (case side1 => exact ZQ (Kd.C_below HR0_0.out HB.out)); (case side2 => exact HC0_0.out); (case side3 => exact ZQ (Kd.C_below HR0_1.out HB.out)); (case side4 => exact HC0_1.out); rintro e w48 ⟨rfl, hb⟩; replace BK281 := ZW BK281 hb; replace BK282 := ZW BK282 hb; replace HB := ZT HB hb; clear hb))
 go_ret
 exact ⟨ZE, ZB⟩))
 ·(
 rw [if_neg c30] at H
 have c30b0 := beq_eq_false_iff_ne.mpr c30
 have c30b1 := bne_iff_ne.mpr c30
 by_cases c49 : a1_0 = 4
 ·(
 rw [if_pos c49] at H
 have c49b0 := beq_iff_eq.mpr c49
 have c49b1 := bne_eq_false_iff_eq.mpr c49
 clear c49
 obtain ⟨t287, A50, H⟩ := ZOB H; try dsimp only at H
 by_cases c51 : t287 = true
 ·(
 subst c51
 have H1 := H; rw [if_pos rfl] at H1
 clear H
 have H := H1
 clear H1
 obtain ⟨t288, A52, H⟩ := ZOB H; try dsimp only at H
 obtain rfl := Option.some.inj H
 go_enter Try.func85, Try.ntmps85
 go_wp2_with (first | ((with_reducible refine gate_dst (N := 2) rfl ?_); refine ZX (N := 2) (cs := #[.slice A0_0 l0_0.length c0_0, .slice A0_1 l0_1.length c0_1]) (t := 32) ?_; intro gb281 hg w53 hbox hb; have BK281 := AM (hbox); have GW281 : Aside0 (w.heap.size ≤ gb281) := ZS hg; have GE281 : Aside0 (w.heap.size ≤ gb281) := ZS hg; replace HB := ZT HB hb; clear hb hbox hg) | ((with_reducible refine gate_dst (N := 3) rfl ?_); refine ZX (N := 3) (cs := #[.int .i64 a1_0, .int .i64 a1_1, .int .i64 a1_2]) (t := 48) ?_; intro gb282 hg w54 hbox hb; have BK282 := AM (hbox); have GW282 : Aside0 (w.heap.size ≤ gb282) := ZS hg; have GE282 : Aside0 (w.heap.size ≤ gb282) := ZS hg; have NB281_282 : Aside0 (gb281 ≠ gb282) := ZN hg BK281; have NB282_281 : Aside0 (gb282 ≠ gb281) := ZM hg BK281; replace BK281 := ZW BK281 hb; replace HB := ZT HB hb; clear hb hbox hg; have hnb55 := NB282_281.out; have hnc55 := NB281_282.out; have hcz56 := ZC3 w54 BK282; have hfz56 := ZF3 BK282; have hcz57 := ZC2 w54 BK281; have hfz57 := ZF2 BK281) | (go_at_call 84; (with_reducible refine (impl_Prog_isVar.calls _ _ l0_0 _ _ l0_1 a1_1 true _ ?side1 ?side2 ?side3 ?side4 A50.out).mono ?_); (case side1 => exact ZQ (Kd.C_below HR0_0.out HB.out)); (case side2 => exact HC0_0.out); (case side3 => exact ZQ (Kd.C_below HR0_1.out HB.out)); (case side4 => exact HC0_1.out); rintro e w58 ⟨rfl, hb⟩; replace BK281 := ZW BK281 hb; replace BK282 := ZW BK282 hb; replace HB := ZT HB hb; clear hb; have hcz59 := ZC2 w58 BK281; have hfz59 := ZF2 BK281; have hcz60 := ZC3 w58 BK282; have hfz60 := ZF3 BK282) | (go_at_call 84; (with_reducible refine (impl_Prog_isVar.calls _ _ l0_0 _ _ l0_1 a1_2 t288 _ ?side1 ?side2 ?side3 ?side4 A52.out).mono ?_); (case side1 => exact ZQ (Kd.C_below HR0_0.out HB.out)); (case side2 => exact HC0_0.out); (case side3 => exact ZQ (Kd.C_below HR0_1.out HB.out)); (case side4 => exact HC0_1.out); rintro e w61 ⟨rfl, hb⟩; replace BK281 := ZW BK281 hb; replace BK282 := ZW BK282 hb; replace HB := ZT HB hb; clear hb))
 go_ret
 exact ⟨ZE, ZB⟩)
 ·(
 replace c51 := Bool.eq_false_iff.mpr c51
 subst c51
 have H1 := H; rw [if_neg ZFT] at H1
 clear H
 have H := H1
 clear H1
 obtain rfl := Option.some.inj H
 go_enter Try.func85, Try.ntmps85
 go_wp2_with (first | ((with_reducible refine gate_dst (N := 2) rfl ?_); refine ZX (N := 2) (cs := #[.slice A0_0 l0_0.length c0_0, .slice A0_1 l0_1.length c0_1]) (t := 32) ?_; intro gb281 hg w62 hbox hb; have BK281 := AM (hbox); have GW281 : Aside0 (w.heap.size ≤ gb281) := ZS hg; have GE281 : Aside0 (w.heap.size ≤ gb281) := ZS hg; replace HB := ZT HB hb; clear hb hbox hg) | ((with_reducible refine gate_dst (N := 3) rfl ?_); refine ZX (N := 3) (cs := #[.int .i64 a1_0, .int .i64 a1_1, .int .i64 a1_2]) (t := 48) ?_; intro gb282 hg w63 hbox hb; have BK282 := AM (hbox); have GW282 : Aside0 (w.heap.size ≤ gb282) := ZS hg; have GE282 : Aside0 (w.heap.size ≤ gb282) := ZS hg; have NB281_282 : Aside0 (gb281 ≠ gb282) := ZN hg BK281; have NB282_281 : Aside0 (gb282 ≠ gb281) := ZM hg BK281; replace BK281 := ZW BK281 hb; replace HB := ZT HB hb; clear hb hbox hg; have hnb64 := NB282_281.out; have hnc64 := NB281_282.out; have hcz65 := ZC3 w63 BK282; have hfz65 := ZF3 BK282; have hcz66 := ZC2 w63 BK281; have hfz66 := ZF2 BK281) | (go_at_call 84; (with_reducible refine (impl_Prog_isVar.calls _ _ l0_0 _ _ l0_1 a1_1 false _ ?side1 ?side2 ?side3 ?side4 A50.out).mono ?_); (case side1 => exact ZQ (Kd.C_below HR0_0.out HB.out)); (case side2 => exact HC0_0.out); (case side3 => exact ZQ (Kd.C_below HR0_1.out HB.out)); (case side4 => exact HC0_1.out); rintro e w67 ⟨rfl, hb⟩; replace BK281 := ZW BK281 hb; replace BK282 := ZW BK282 hb; replace HB := ZT HB hb; clear hb))
 go_ret
 exact ⟨ZE, ZB⟩))
 ·(
 rw [if_neg c49] at H
 have c49b0 := beq_eq_false_iff_ne.mpr c49
 have c49b1 := bne_iff_ne.mpr c49
 obtain rfl := Option.some.inj H
 go_enter Try.func85, Try.ntmps85
 go_wp2_with (first | ((with_reducible refine gate_dst (N := 2) rfl ?_); refine ZX (N := 2) (cs := #[.slice A0_0 l0_0.length c0_0, .slice A0_1 l0_1.length c0_1]) (t := 32) ?_; intro gb281 hg w68 hbox hb; have BK281 := AM (hbox); have GW281 : Aside0 (w.heap.size ≤ gb281) := ZS hg; have GE281 : Aside0 (w.heap.size ≤ gb281) := ZS hg; replace HB := ZT HB hb; clear hb hbox hg) | ((with_reducible refine gate_dst (N := 3) rfl ?_); refine ZX (N := 3) (cs := #[.int .i64 a1_0, .int .i64 a1_1, .int .i64 a1_2]) (t := 48) ?_; intro gb282 hg w69 hbox hb; have BK282 := AM (hbox); have GW282 : Aside0 (w.heap.size ≤ gb282) := ZS hg; have GE282 : Aside0 (w.heap.size ≤ gb282) := ZS hg; have NB281_282 : Aside0 (gb281 ≠ gb282) := ZN hg BK281; have NB282_281 : Aside0 (gb282 ≠ gb281) := ZM hg BK281; replace BK281 := ZW BK281 hb; replace HB := ZT HB hb; clear hb hbox hg; have hnb70 := NB282_281.out; have hnc70 := NB281_282.out; have hcz71 := ZC3 w69 BK282; have hfz71 := ZF3 BK282))
 go_ret
 exact ⟨ZE, ZB⟩))))

end Go.Proofs.Ytaflodibibbakaa.B
