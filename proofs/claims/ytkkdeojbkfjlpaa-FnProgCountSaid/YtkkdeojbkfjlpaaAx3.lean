/- Go functions as Lean functions, and for each its contract; written by wip/tools/pr.py over the kit's print. -/
import Derived.Test.YtkkdeojbkfjlpaaAx0
import Derived.Test.YtkkdeojbkfjlpaaAx2
namespace Go.Proofs.Ytkkdeojbkfjlpaa.A
open Go.RowKit Go.Proofs.YtkkdeojbkfjlpaaW.PrintWords Go.Proofs.YtkkdeojbkfjlpaaW.PrintLast Go.Proofs.YtkkdeojbkfjlpaaW.PrintMore
attribute [local go_sem] max2_int min2_int max_two min_two max_three min_three max_four min_four
set_option linter.unusedVariables false
set_option linter.unusedSimpArgs false
set_option maxHeartbeats 8000000
set_option maxRecDepth 100000

/-! ### impl_Prog_valOk: function 67 -/
def impl_Prog_valOk.f (l0_0 : List (S35)) (l0_1 : List (S40)) (a1_0 : Int) (a1_1 : Int) (a1_2 : Int) : Option (Bool) := if a1_0 = 1 then ((impl_isNum.f a1_1).bind fun t119 => (if t119 = true then (some (a1_2 == 0)) else (some false))) else (if a1_0 = 2 then ((impl_Prog_isVar.f l0_0 l0_1 a1_1).bind fun t120 => (if t120 = true then (some (a1_2 == 0)) else (some false))) else (if a1_0 = 3 then ((impl_Prog_isVar.f l0_0 l0_1 a1_1).bind fun t121 => (if t121 = true then ((impl_Prog_isVar.f l0_0 l0_1 a1_2).bind fun t122 => (some t122)) else (some false))) else (if a1_0 = 4 then ((impl_Prog_isVar.f l0_0 l0_1 a1_1).bind fun t123 => (if t123 = true then ((impl_Prog_isVar.f l0_0 l0_1 a1_2).bind fun t124 => (some t124)) else (some false))) else (some false))))
theorem impl_Prog_valOk.calls (A0_0 : Option Addr) (c0_0 : Nat) (l0_0 : List (S35)) (A0_1 : Option Addr) (c0_1 : Nat) (l0_1 : List (S40)) (a1_0 : Int) (a1_1 : Int) (a1_2 : Int) (r : Bool) (w : World) (hr0_0 : Kd.C k35 w A0_0 l0_0.length l0_0) (hc0_0 : l0_0.length ≤ c0_0) (hr0_1 : Kd.C k40 w A0_1 l0_1.length l0_1) (hc0_1 : l0_1.length ≤ c0_1) (h : impl_Prog_valOk.f l0_0 l0_1 a1_0 a1_1 a1_2 = some r) :
  Calls Try.prog 67 #[.agg #[.slice A0_0 l0_0.length c0_0, .slice A0_1 l0_1.length c0_1], .agg #[.int .i64 a1_0, .int .i64 a1_1, .int .i64 a1_2]] w fun e w' => e = .returned (.bool r) ∧ Below w.heap.size w w' := by
 have hu26 := Try.underlying26
 have hu38 := Try.underlying38
 have HR0_0 := AM hr0_0
 have HC0_0 := AM hc0_0
 clear hr0_0 hc0_0
 have HR0_1 := AM hr0_1
 have HC0_1 := AM hc0_1
 clear hr0_1 hc0_1
 have HB := AM (Below.refl w.heap.size w)
 have H := h
 unfold impl_Prog_valOk.f at H
 clear h
 by_cases c3 : a1_0 = 1
 ·(
 rw [if_pos c3] at H
 have c3b0 := beq_iff_eq.mpr c3
 have c3b1 := bne_eq_false_iff_eq.mpr c3
 clear c3
 obtain ⟨t119, A4, H⟩ := ZOB H; try dsimp only at H
 by_cases c5 : t119 = true
 ·(
 subst c5
 have H1 := H; rw [if_pos rfl] at H1
 clear H
 have H := H1
 clear H1
 obtain rfl := Option.some.inj H
 go_enter Try.func67, Try.ntmps67
 go_wp2_with (first | ((with_reducible refine gate_dst (N := 2) rfl ?_); refine ZXW w (N := 2) (cs := #[.slice A0_0 l0_0.length c0_0, .slice A0_1 l0_1.length c0_1]) (t := 26) ?_; intro gb117 hg w6 BK117 GW117 hb; replace HB := ZT HB hb; clear hb hg) | ((with_reducible refine gate_dst (N := 3) rfl ?_); refine ZXW w (N := 3) (cs := #[.int .i64 a1_0, .int .i64 a1_1, .int .i64 a1_2]) (t := 38) ?_; intro gb118 hg w7 BK118 GW118 hb; have NB117_118 : Za (gb117 ≠ gb118) := ZN hg BK117; have NB118_117 : Za (gb118 ≠ gb117) := ZM hg BK117; replace BK117 := ZW BK117 hb; replace HB := ZT HB hb; clear hb hg; have hnb8 := NB118_117.out; have hnc8 := NB117_118.out; have hcz9 := ZC3 w7 BK118) | ((with_reducible refine gate_callee (f := 82) rfl ?_); refine ZGL (some 11) Try.func82 #[.int .i64 a1_1] ?_; (with_reducible refine (impl_isNum.calls a1_1 true _ A4.out).mono ?_); rintro e w' ⟨rfl, ⟨nd, rfl⟩⟩; refine ZV1 ?_))
 go_ret
 exact ⟨ZE, ZB⟩)
 ·(
 replace c5 := Bool.eq_false_iff.mpr c5
 subst c5
 have H1 := H; rw [if_neg ZFT] at H1
 clear H
 have H := H1
 clear H1
 obtain rfl := Option.some.inj H
 go_enter Try.func67, Try.ntmps67
 go_wp2_with (first | ((with_reducible refine gate_dst (N := 2) rfl ?_); refine ZXW w (N := 2) (cs := #[.slice A0_0 l0_0.length c0_0, .slice A0_1 l0_1.length c0_1]) (t := 26) ?_; intro gb117 hg w10 BK117 GW117 hb; replace HB := ZT HB hb; clear hb hg) | ((with_reducible refine gate_dst (N := 3) rfl ?_); refine ZXW w (N := 3) (cs := #[.int .i64 a1_0, .int .i64 a1_1, .int .i64 a1_2]) (t := 38) ?_; intro gb118 hg w11 BK118 GW118 hb; have NB117_118 : Za (gb117 ≠ gb118) := ZN hg BK117; have NB118_117 : Za (gb118 ≠ gb117) := ZM hg BK117; replace BK117 := ZW BK117 hb; replace HB := ZT HB hb; clear hb hg; have hnb12 := NB118_117.out; have hnc12 := NB117_118.out; have hcz13 := ZC3 w11 BK118) | ((with_reducible refine gate_callee (f := 82) rfl ?_); refine ZGL (some 11) Try.func82 #[.int .i64 a1_1] ?_; (with_reducible refine (impl_isNum.calls a1_1 false _ A4.out).mono ?_); rintro e w' ⟨rfl, ⟨nd, rfl⟩⟩; refine ZV1 ?_))
 go_ret
 exact ⟨ZE, ZB⟩))
 ·(
 rw [if_neg c3] at H
 have c3b0 := beq_eq_false_iff_ne.mpr c3
 have c3b1 := bne_iff_ne.mpr c3
 by_cases c14 : a1_0 = 2
 ·(
 rw [if_pos c14] at H
 have c14b0 := beq_iff_eq.mpr c14
 have c14b1 := bne_eq_false_iff_eq.mpr c14
 clear c14
 obtain ⟨t120, A15, H⟩ := ZOB H; try dsimp only at H
 by_cases c16 : t120 = true
 ·(
 subst c16
 have H1 := H; rw [if_pos rfl] at H1
 clear H
 have H := H1
 clear H1
 obtain rfl := Option.some.inj H
 go_enter Try.func67, Try.ntmps67
 go_wp2_with (first | ((with_reducible refine gate_dst (N := 2) rfl ?_); refine ZXW w (N := 2) (cs := #[.slice A0_0 l0_0.length c0_0, .slice A0_1 l0_1.length c0_1]) (t := 26) ?_; intro gb117 hg w17 BK117 GW117 hb; replace HB := ZT HB hb; clear hb hg) | ((with_reducible refine gate_dst (N := 3) rfl ?_); refine ZXW w (N := 3) (cs := #[.int .i64 a1_0, .int .i64 a1_1, .int .i64 a1_2]) (t := 38) ?_; intro gb118 hg w18 BK118 GW118 hb; have NB117_118 : Za (gb117 ≠ gb118) := ZN hg BK117; have NB118_117 : Za (gb118 ≠ gb117) := ZM hg BK117; replace BK117 := ZW BK117 hb; replace HB := ZT HB hb; clear hb hg; have hnb19 := NB118_117.out; have hnc19 := NB117_118.out; have hcz20 := ZC3 w18 BK118; have hcz21 := ZC2 w18 BK117) | ((with_reducible refine gate_callee (f := 66) rfl ?_); refine ZGL (some 22) Try.func66 #[.agg #[.slice A0_0 l0_0.length c0_0, .slice A0_1 l0_1.length c0_1], .int .i64 a1_1] ?_; (with_reducible refine (impl_Prog_isVar.calls _ _ l0_0 _ _ l0_1 a1_1 true _ (ZQ (Kd.C_below HR0_0.out HB.out)) HC0_0.out (ZQ (Kd.C_below HR0_1.out HB.out)) HC0_1.out A15.out).mono ?_); rintro e w22 ⟨rfl, hb⟩; refine ZV1 ?_; replace BK117 := ZW BK117 hb; replace BK118 := ZW BK118 hb; replace HB := ZT HB hb; clear hb; have hcz23 := ZC3 w22 BK118))
 go_ret
 exact ⟨ZE, ZB⟩)
 ·(
 replace c16 := Bool.eq_false_iff.mpr c16
 subst c16
 have H1 := H; rw [if_neg ZFT] at H1
 clear H
 have H := H1
 clear H1
 obtain rfl := Option.some.inj H
 go_enter Try.func67, Try.ntmps67
 go_wp2_with (first | ((with_reducible refine gate_dst (N := 2) rfl ?_); refine ZXW w (N := 2) (cs := #[.slice A0_0 l0_0.length c0_0, .slice A0_1 l0_1.length c0_1]) (t := 26) ?_; intro gb117 hg w24 BK117 GW117 hb; replace HB := ZT HB hb; clear hb hg) | ((with_reducible refine gate_dst (N := 3) rfl ?_); refine ZXW w (N := 3) (cs := #[.int .i64 a1_0, .int .i64 a1_1, .int .i64 a1_2]) (t := 38) ?_; intro gb118 hg w25 BK118 GW118 hb; have NB117_118 : Za (gb117 ≠ gb118) := ZN hg BK117; have NB118_117 : Za (gb118 ≠ gb117) := ZM hg BK117; replace BK117 := ZW BK117 hb; replace HB := ZT HB hb; clear hb hg; have hnb26 := NB118_117.out; have hnc26 := NB117_118.out; have hcz27 := ZC3 w25 BK118; have hcz28 := ZC2 w25 BK117) | ((with_reducible refine gate_callee (f := 66) rfl ?_); refine ZGL (some 22) Try.func66 #[.agg #[.slice A0_0 l0_0.length c0_0, .slice A0_1 l0_1.length c0_1], .int .i64 a1_1] ?_; (with_reducible refine (impl_Prog_isVar.calls _ _ l0_0 _ _ l0_1 a1_1 false _ (ZQ (Kd.C_below HR0_0.out HB.out)) HC0_0.out (ZQ (Kd.C_below HR0_1.out HB.out)) HC0_1.out A15.out).mono ?_); rintro e w29 ⟨rfl, hb⟩; refine ZV1 ?_; replace BK117 := ZW BK117 hb; replace BK118 := ZW BK118 hb; replace HB := ZT HB hb; clear hb))
 go_ret
 exact ⟨ZE, ZB⟩))
 ·(
 rw [if_neg c14] at H
 have c14b0 := beq_eq_false_iff_ne.mpr c14
 have c14b1 := bne_iff_ne.mpr c14
 by_cases c30 : a1_0 = 3
 ·(
 rw [if_pos c30] at H
 have c30b0 := beq_iff_eq.mpr c30
 have c30b1 := bne_eq_false_iff_eq.mpr c30
 clear c30
 obtain ⟨t121, A31, H⟩ := ZOB H; try dsimp only at H
 by_cases c32 : t121 = true
 ·(
 subst c32
 have H1 := H; rw [if_pos rfl] at H1
 clear H
 have H := H1
 clear H1
 obtain ⟨t122, A33, H⟩ := ZOB H; try dsimp only at H
 obtain rfl := Option.some.inj H
 go_enter Try.func67, Try.ntmps67
 go_wp2_with (first | ((with_reducible refine gate_dst (N := 2) rfl ?_); refine ZXW w (N := 2) (cs := #[.slice A0_0 l0_0.length c0_0, .slice A0_1 l0_1.length c0_1]) (t := 26) ?_; intro gb117 hg w34 BK117 GW117 hb; replace HB := ZT HB hb; clear hb hg) | ((with_reducible refine gate_dst (N := 3) rfl ?_); refine ZXW w (N := 3) (cs := #[.int .i64 a1_0, .int .i64 a1_1, .int .i64 a1_2]) (t := 38) ?_; intro gb118 hg w35 BK118 GW118 hb; have NB117_118 : Za (gb117 ≠ gb118) := ZN hg BK117; have NB118_117 : Za (gb118 ≠ gb117) := ZM hg BK117; replace BK117 := ZW BK117 hb; replace HB := ZT HB hb; clear hb hg; have hnb36 := NB118_117.out; have hnc36 := NB117_118.out; have hcz37 := ZC3 w35 BK118; have hcz38 := ZC2 w35 BK117) | (go_at_call 66; (with_reducible refine (impl_Prog_isVar.calls _ _ l0_0 _ _ l0_1 a1_1 true _ (ZQ (Kd.C_below HR0_0.out HB.out)) HC0_0.out (ZQ (Kd.C_below HR0_1.out HB.out)) HC0_1.out A31.out).mono ?_); rintro e w39 ⟨rfl, hb⟩; replace BK117 := ZW BK117 hb; replace BK118 := ZW BK118 hb; replace HB := ZT HB hb; clear hb; have hcz40 := ZC2 w39 BK117; have hcz41 := ZC3 w39 BK118) | (go_at_call 66; (with_reducible refine (impl_Prog_isVar.calls _ _ l0_0 _ _ l0_1 a1_2 t122 _ (ZQ (Kd.C_below HR0_0.out HB.out)) HC0_0.out (ZQ (Kd.C_below HR0_1.out HB.out)) HC0_1.out A33.out).mono ?_); rintro e w42 ⟨rfl, hb⟩; replace BK117 := ZW BK117 hb; replace BK118 := ZW BK118 hb; replace HB := ZT HB hb; clear hb))
 go_ret
 exact ⟨ZE, ZB⟩)
 ·(
 replace c32 := Bool.eq_false_iff.mpr c32
 subst c32
 have H1 := H; rw [if_neg ZFT] at H1
 clear H
 have H := H1
 clear H1
 obtain rfl := Option.some.inj H
 go_enter Try.func67, Try.ntmps67
 go_wp2_with (first | ((with_reducible refine gate_dst (N := 2) rfl ?_); refine ZXW w (N := 2) (cs := #[.slice A0_0 l0_0.length c0_0, .slice A0_1 l0_1.length c0_1]) (t := 26) ?_; intro gb117 hg w43 BK117 GW117 hb; replace HB := ZT HB hb; clear hb hg) | ((with_reducible refine gate_dst (N := 3) rfl ?_); refine ZXW w (N := 3) (cs := #[.int .i64 a1_0, .int .i64 a1_1, .int .i64 a1_2]) (t := 38) ?_; intro gb118 hg w44 BK118 GW118 hb; have NB117_118 : Za (gb117 ≠ gb118) := ZN hg BK117; have NB118_117 : Za (gb118 ≠ gb117) := ZM hg BK117; replace BK117 := ZW BK117 hb; replace HB := ZT HB hb; clear hb hg; have hnb45 := NB118_117.out; have hnc45 := NB117_118.out; have hcz46 := ZC3 w44 BK118; have hcz47 := ZC2 w44 BK117) | (go_at_call 66; (with_reducible refine (impl_Prog_isVar.calls _ _ l0_0 _ _ l0_1 a1_1 false _ (ZQ (Kd.C_below HR0_0.out HB.out)) HC0_0.out (ZQ (Kd.C_below HR0_1.out HB.out)) HC0_1.out A31.out).mono ?_); rintro e w48 ⟨rfl, hb⟩; replace BK117 := ZW BK117 hb; replace BK118 := ZW BK118 hb; replace HB := ZT HB hb; clear hb))
 go_ret
 exact ⟨ZE, ZB⟩))
 ·(
 rw [if_neg c30] at H
 have c30b0 := beq_eq_false_iff_ne.mpr c30
 have c30b1 := bne_iff_ne.mpr c30
 by_cases c49 : a1_0 = 4
 ·(
 rw [if_pos c49] at H
 have c49b0 := beq_iff_eq.mpr c49
 have c49b1 := bne_eq_false_iff_eq.mpr c49
 clear c49
 obtain ⟨t123, A50, H⟩ := ZOB H; try dsimp only at H
 by_cases c51 : t123 = true
 ·(
 subst c51
 have H1 := H; rw [if_pos rfl] at H1
 clear H
 have H := H1
 clear H1
 obtain ⟨t124, A52, H⟩ := ZOB H; try dsimp only at H
 obtain rfl := Option.some.inj H
 go_enter Try.func67, Try.ntmps67
 go_wp2_with (first | ((with_reducible refine gate_dst (N := 2) rfl ?_); refine ZXW w (N := 2) (cs := #[.slice A0_0 l0_0.length c0_0, .slice A0_1 l0_1.length c0_1]) (t := 26) ?_; intro gb117 hg w53 BK117 GW117 hb; replace HB := ZT HB hb; clear hb hg) | ((with_reducible refine gate_dst (N := 3) rfl ?_); refine ZXW w (N := 3) (cs := #[.int .i64 a1_0, .int .i64 a1_1, .int .i64 a1_2]) (t := 38) ?_; intro gb118 hg w54 BK118 GW118 hb; have NB117_118 : Za (gb117 ≠ gb118) := ZN hg BK117; have NB118_117 : Za (gb118 ≠ gb117) := ZM hg BK117; replace BK117 := ZW BK117 hb; replace HB := ZT HB hb; clear hb hg; have hnb55 := NB118_117.out; have hnc55 := NB117_118.out; have hcz56 := ZC3 w54 BK118; have hcz57 := ZC2 w54 BK117) | (go_at_call 66; (with_reducible refine (impl_Prog_isVar.calls _ _ l0_0 _ _ l0_1 a1_1 true _ (ZQ (Kd.C_below HR0_0.out HB.out)) HC0_0.out (ZQ (Kd.C_below HR0_1.out HB.out)) HC0_1.out A50.out).mono ?_); rintro e w58 ⟨rfl, hb⟩; replace BK117 := ZW BK117 hb; replace BK118 := ZW BK118 hb; replace HB := ZT HB hb; clear hb; have hcz59 := ZC2 w58 BK117; have hcz60 := ZC3 w58 BK118) | (go_at_call 66; (with_reducible refine (impl_Prog_isVar.calls _ _ l0_0 _ _ l0_1 a1_2 t124 _ (ZQ (Kd.C_below HR0_0.out HB.out)) HC0_0.out (ZQ (Kd.C_below HR0_1.out HB.out)) HC0_1.out A52.out).mono ?_); rintro e w61 ⟨rfl, hb⟩; replace BK117 := ZW BK117 hb; replace BK118 := ZW BK118 hb; replace HB := ZT HB hb; clear hb))
 go_ret
 exact ⟨ZE, ZB⟩)
 ·(
 replace c51 := Bool.eq_false_iff.mpr c51
 subst c51
 have H1 := H; rw [if_neg ZFT] at H1
 clear H
 have H := H1
 clear H1
 obtain rfl := Option.some.inj H
 go_enter Try.func67, Try.ntmps67
 go_wp2_with (first | ((with_reducible refine gate_dst (N := 2) rfl ?_); refine ZXW w (N := 2) (cs := #[.slice A0_0 l0_0.length c0_0, .slice A0_1 l0_1.length c0_1]) (t := 26) ?_; intro gb117 hg w62 BK117 GW117 hb; replace HB := ZT HB hb; clear hb hg) | ((with_reducible refine gate_dst (N := 3) rfl ?_); refine ZXW w (N := 3) (cs := #[.int .i64 a1_0, .int .i64 a1_1, .int .i64 a1_2]) (t := 38) ?_; intro gb118 hg w63 BK118 GW118 hb; have NB117_118 : Za (gb117 ≠ gb118) := ZN hg BK117; have NB118_117 : Za (gb118 ≠ gb117) := ZM hg BK117; replace BK117 := ZW BK117 hb; replace HB := ZT HB hb; clear hb hg; have hnb64 := NB118_117.out; have hnc64 := NB117_118.out; have hcz65 := ZC3 w63 BK118; have hcz66 := ZC2 w63 BK117) | (go_at_call 66; (with_reducible refine (impl_Prog_isVar.calls _ _ l0_0 _ _ l0_1 a1_1 false _ (ZQ (Kd.C_below HR0_0.out HB.out)) HC0_0.out (ZQ (Kd.C_below HR0_1.out HB.out)) HC0_1.out A50.out).mono ?_); rintro e w67 ⟨rfl, hb⟩; replace BK117 := ZW BK117 hb; replace BK118 := ZW BK118 hb; replace HB := ZT HB hb; clear hb))
 go_ret
 exact ⟨ZE, ZB⟩))
 ·(
 rw [if_neg c49] at H
 have c49b0 := beq_eq_false_iff_ne.mpr c49
 have c49b1 := bne_iff_ne.mpr c49
 obtain rfl := Option.some.inj H
 go_enter Try.func67, Try.ntmps67
 go_wp2_with (first | ((with_reducible refine gate_dst (N := 2) rfl ?_); refine ZXW w (N := 2) (cs := #[.slice A0_0 l0_0.length c0_0, .slice A0_1 l0_1.length c0_1]) (t := 26) ?_; intro gb117 hg w68 BK117 GW117 hb; replace HB := ZT HB hb; clear hb hg) | ((with_reducible refine gate_dst (N := 3) rfl ?_); refine ZXW w (N := 3) (cs := #[.int .i64 a1_0, .int .i64 a1_1, .int .i64 a1_2]) (t := 38) ?_; intro gb118 hg w69 BK118 GW118 hb; have NB117_118 : Za (gb117 ≠ gb118) := ZN hg BK117; have NB118_117 : Za (gb118 ≠ gb117) := ZM hg BK117; replace BK117 := ZW BK117 hb; replace HB := ZT HB hb; clear hb hg; have hnb70 := NB118_117.out; have hnc70 := NB117_118.out; have hcz71 := ZC3 w69 BK118))
 go_ret
 exact ⟨ZE, ZB⟩))))

/-! ### impl_isHost: function 68 -/
def impl_isHost.f (a0 : Int) : Option (Bool) := (impl_in.f a0 0 2).bind fun t125 => (some t125)
theorem impl_isHost.calls (a0 : Int) (r : Bool) (w : World) (h : impl_isHost.f a0 = some r) :
  Calls Try.prog 68 #[.int .i64 a0] w fun e w' => e = .returned (.bool r) ∧ Drawn0 w w' := by
 have H := h
 unfold impl_isHost.f at H
 clear h
 obtain ⟨t125, A2, H⟩ := ZOB H; try dsimp only at H
 obtain rfl := Option.some.inj H
 go_enter Try.func68, Try.ntmps68
 go_wp2_with (first | ((with_reducible refine gate_callee (f := 42) rfl ?_); refine ZGL (some 4) Try.func42 #[.int .i64 a0, .int .i64 0, .int .i64 2] ?_; (with_reducible refine (impl_in.calls a0 0 2 t125 _ A2.out).mono ?_); rintro e w' ⟨rfl, ⟨nd, rfl⟩⟩; refine ZV1 ?_))
 go_ret
 exact ⟨by first | rfl | (simp; done) | (simp [*]; done), by repeat (first | exact Drawn0.refl _ | apply Drawn0.step)⟩

end Go.Proofs.Ytkkdeojbkfjlpaa.A
