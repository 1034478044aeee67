/- Go functions as Lean functions, and for each its contract; written by wip/tools/pr.py over the kit's print. -/
import Derived.Test.YthidgkfgdkjghaaAx0
import Derived.Test.YthidgkfgdkjghaaAx3
namespace Go.Proofs.Ythidgkfgdkjghaa.A
open Go.RowKit Go.Proofs.YthidgkfgdkjghaaW.PrintWords Go.Proofs.YthidgkfgdkjghaaW.PrintLast Go.Proofs.YthidgkfgdkjghaaW.PrintMore
attribute [local go_sem] max2_int min2_int max_two min_two max_three min_three max_four min_four
set_option linter.unusedVariables false
set_option linter.unusedSimpArgs false
set_option maxHeartbeats 8000000
set_option maxRecDepth 100000

/-! ### spec_l2Val: function 88 -/
def spec_l2Val.j0 : Nat → Bool → List (S39) → List (S32) → Int → Int → Int → Option (Bool)
 | 0, _, _, _, _, _, _ => none
 | k + 1, x28, x116000, x116001, x117000, x117001, x117002 => if x28 = true then ((spec_l2Var.f x116000 x116001 x117001).bind fun t119 => (if t119 = true then ((spec_l2Var.f x116000 x116001 x117002).bind fun t120 => (some t120)) else (some false))) else (some false)
def spec_l2Val.f (k : Nat) (l0_0 : List (S39)) (l0_1 : List (S32)) (a1_0 : Int) (a1_1 : Int) (a1_2 : Int) : Option (Bool) := if a1_0 = 1 then ((spec_l6In.f a1_1 0 9).bind fun t117 => (if t117 = true then (some (a1_2 == 0)) else (some false))) else (if a1_0 = 2 then ((spec_l2Var.f l0_0 l0_1 a1_1).bind fun t118 => (if t118 = true then (some (a1_2 == 0)) else (some false))) else (if a1_0 = 3 then (spec_l2Val.j0 k (a1_0 == 3) l0_0 l0_1 a1_0 a1_1 a1_2) else (spec_l2Val.j0 k (a1_0 == 4) l0_0 l0_1 a1_0 a1_1 a1_2)))
theorem spec_l2Val.calls (k : Nat) (A0_0 : Option Addr) (c0_0 : Nat) (l0_0 : List (S39)) (A0_1 : Option Addr) (c0_1 : Nat) (l0_1 : List (S32)) (a1_0 : Int) (a1_1 : Int) (a1_2 : Int) (r : Bool) (w : World) (hr0_0 : Kd.C k39 w A0_0 l0_0.length l0_0) (hc0_0 : l0_0.length ≤ c0_0) (hr0_1 : Kd.C k32 w A0_1 l0_1.length l0_1) (hc0_1 : l0_1.length ≤ c0_1) (h : spec_l2Val.f k l0_0 l0_1 a1_0 a1_1 a1_2 = some r) :
  Calls Try.prog 88 #[.agg #[.slice A0_0 l0_0.length c0_0, .slice A0_1 l0_1.length c0_1], .agg #[.int .i64 a1_0, .int .i64 a1_1, .int .i64 a1_2]] w fun e w' => e = .returned (.bool r) ∧ Below w.heap.size w w' := by
 have hu26 := Try.underlying26
 have hu30 := Try.underlying30
 have HR0_0 := AM hr0_0
 have HC0_0 := AM hc0_0
 clear hr0_0 hc0_0
 have HR0_1 := AM hr0_1
 have HC0_1 := AM hc0_1
 clear hr0_1 hc0_1
 have HB := AM (Below.refl w.heap.size w)
 have H := h
 unfold spec_l2Val.f at H
 clear h
 by_cases c3 : a1_0 = 1
 ·(
 rw [if_pos c3] at H
 have c3b0 := beq_iff_eq.mpr c3
 have c3b1 := bne_eq_false_iff_eq.mpr c3
 clear c3
 obtain ⟨t117, A4, H⟩ := ZOB H; try dsimp only at H
 by_cases c5 : t117 = true
 ·(
 subst c5
 have H1 := H; rw [if_pos rfl] at H1
 clear H
 have H := H1
 clear H1
 obtain rfl := Option.some.inj H
 go_enter Try.func88, Try.ntmps88
 go_wp2_with (first | ((with_reducible refine gate_dst (N := 2) rfl ?_); refine ZX (N := 2) (cs := #[.slice A0_0 l0_0.length c0_0, .slice A0_1 l0_1.length c0_1]) (t := 26) ?_; intro gb115 hg w6 hbox hb; have BK115 := AM (hbox); have GW115 : Aside0 (w.heap.size ≤ gb115) := ZS hg; have GE115 : Aside0 (w.heap.size ≤ gb115) := ZS hg; replace HB := ZT HB hb; clear hb hbox hg) | ((with_reducible refine gate_dst (N := 3) rfl ?_); refine ZX (N := 3) (cs := #[.int .i64 a1_0, .int .i64 a1_1, .int .i64 a1_2]) (t := 30) ?_; intro gb116 hg w7 hbox hb; have BK116 := AM (hbox); have GW116 : Aside0 (w.heap.size ≤ gb116) := ZS hg; have GE116 : Aside0 (w.heap.size ≤ gb116) := ZS hg; have NB115_116 : Aside0 (gb115 ≠ gb116) := ZN hg BK115; have NB116_115 : Aside0 (gb116 ≠ gb115) := ZM hg BK115; replace BK115 := ZW BK115 hb; replace HB := ZT HB hb; clear hb hbox hg; have hnb8 := NB116_115.out; have hnc8 := NB115_116.out; have hcz9 := ZC3 w7 BK116; have hfz9 := ZF3 BK116) | ((with_reducible refine gate_callee (f := 86) rfl ?_); refine ZGL (some 11) Try.func86 #[.int .i64 a1_1, .int .i64 0, .int .i64 9] ?_; (with_reducible refine (spec_l6In.calls a1_1 0 9 true _ A4.out).mono ?_); rintro e w' ⟨rfl, ⟨nd, rfl⟩⟩; refine ⟨_, rfl, ?_⟩))
 go_ret
 exact ⟨ZE, ZB⟩)
 ·(
 replace c5 := Bool.eq_false_iff.mpr c5
 subst c5
 have H1 := H; rw [if_neg ZFT] at H1
 clear H
 have H := H1
 clear H1
 obtain rfl := Option.some.inj H
 go_enter Try.func88, Try.ntmps88
 go_wp2_with (first | ((with_reducible refine gate_dst (N := 2) rfl ?_); refine ZX (N := 2) (cs := #[.slice A0_0 l0_0.length c0_0, .slice A0_1 l0_1.length c0_1]) (t := 26) ?_; intro gb115 hg w10 hbox hb; have BK115 := AM (hbox); have GW115 : Aside0 (w.heap.size ≤ gb115) := ZS hg; have GE115 : Aside0 (w.heap.size ≤ gb115) := ZS hg; replace HB := ZT HB hb; clear hb hbox hg) | ((with_reducible refine gate_dst (N := 3) rfl ?_); refine ZX (N := 3) (cs := #[.int .i64 a1_0, .int .i64 a1_1, .int .i64 a1_2]) (t := 30) ?_; intro gb116 hg w11 hbox hb; have BK116 := AM (hbox); have GW116 : Aside0 (w.heap.size ≤ gb116) := ZS hg; have GE116 : Aside0 (w.heap.size ≤ gb116) := ZS hg; have NB115_116 : Aside0 (gb115 ≠ gb116) := ZN hg BK115; have NB116_115 : Aside0 (gb116 ≠ gb115) := ZM hg BK115; replace BK115 := ZW BK115 hb; replace HB := ZT HB hb; clear hb hbox hg; have hnb12 := NB116_115.out; have hnc12 := NB115_116.out; have hcz13 := ZC3 w11 BK116; have hfz13 := ZF3 BK116) | ((with_reducible refine gate_callee (f := 86) rfl ?_); refine ZGL (some 11) Try.func86 #[.int .i64 a1_1, .int .i64 0, .int .i64 9] ?_; (with_reducible refine (spec_l6In.calls a1_1 0 9 false _ A4.out).mono ?_); rintro e w' ⟨rfl, ⟨nd, rfl⟩⟩; refine ⟨_, rfl, ?_⟩))
 go_ret
 exact ⟨ZE, ZB⟩))
 ·(
 rw [if_neg c3] at H
 have c3b0 := beq_eq_false_iff_ne.mpr c3
 have c3b1 := bne_iff_ne.mpr c3
 by_cases c14 : a1_0 = 2
 ·(
 rw [if_pos c14] at H
 have c14b0 := beq_iff_eq.mpr c14
 have c14b1 := bne_eq_false_iff_eq.mpr c14
 clear c14
 obtain ⟨t118, A15, H⟩ := ZOB H; try dsimp only at H
 by_cases c16 : t118 = true
 ·(
 subst c16
 have H1 := H; rw [if_pos rfl] at H1
 clear H
 have H := H1
 clear H1
 obtain rfl := Option.some.inj H
 go_enter Try.func88, Try.ntmps88
 go_wp2_with (first | ((with_reducible refine gate_dst (N := 2) rfl ?_); refine ZX (N := 2) (cs := #[.slice A0_0 l0_0.length c0_0, .slice A0_1 l0_1.length c0_1]) (t := 26) ?_; intro gb115 hg w17 hbox hb; have BK115 := AM (hbox); have GW115 : Aside0 (w.heap.size ≤ gb115) := ZS hg; have GE115 : Aside0 (w.heap.size ≤ gb115) := ZS hg; replace HB := ZT HB hb; clear hb hbox hg) | ((with_reducible refine gate_dst (N := 3) rfl ?_); refine ZX (N := 3) (cs := #[.int .i64 a1_0, .int .i64 a1_1, .int .i64 a1_2]) (t := 30) ?_; intro gb116 hg w18 hbox hb; have BK116 := AM (hbox); have GW116 : Aside0 (w.heap.size ≤ gb116) := ZS hg; have GE116 : Aside0 (w.heap.size ≤ gb116) := ZS hg; have NB115_116 : Aside0 (gb115 ≠ gb116) := ZN hg BK115; have NB116_115 : Aside0 (gb116 ≠ gb115) := ZM hg BK115; replace BK115 := ZW BK115 hb; replace HB := ZT HB hb; clear hb hbox hg; have hnb19 := NB116_115.out; have hnc19 := NB115_116.out; have hcz20 := ZC3 w18 BK116; have hfz20 := ZF3 BK116; have hcz21 := ZC2 w18 BK115; have hfz21 := ZF2 BK115) | ((with_reducible refine gate_callee (f := 87) rfl ?_); refine ZGL (some 22) Try.func87 #[.agg #[.slice A0_0 l0_0.length c0_0, .slice A0_1 l0_1.length c0_1], .int .i64 a1_1] ?_; (with_reducible refine (spec_l2Var.calls _ _ l0_0 _ _ l0_1 a1_1 true _ ?side1 ?side2 ?side3 ?side4 A15.out).mono ?_); (case side1 => exact ZQ (Kd.C_below HR0_0.out HB.out)); (case side2 => exact HC0_0.out); (case side3 => exact ZQ (Kd.C_below HR0_1.out HB.out)); (case side4 => exact HC0_1.out); rintro e w22 ⟨rfl, hb⟩; refine ⟨_, rfl, ?_⟩; replace BK115 := ZW BK115 hb; replace BK116 := ZW BK116 hb; replace HB := ZT HB hb; clear hb; have hcz23 := ZC3 w22 BK116; have hfz23 := ZF3 BK116))
 go_ret
 exact ⟨ZE, ZB⟩)
 ·(
 replace c16 := Bool.eq_false_iff.mpr c16
 subst c16
 have H1 := H; rw [if_neg ZFT] at H1
 clear H
 have H := H1
 clear H1
 obtain rfl := Option.some.inj H
 go_enter Try.func88, Try.ntmps88
 go_wp2_with (first | ((with_reducible refine gate_dst (N := 2) rfl ?_); refine ZX (N := 2) (cs := #[.slice A0_0 l0_0.length c0_0, .slice A0_1 l0_1.length c0_1]) (t := 26) ?_; intro gb115 hg w24 hbox hb; have BK115 := AM (hbox); have GW115 : Aside0 (w.heap.size ≤ gb115) := ZS hg; have GE115 : Aside0 (w.heap.size ≤ gb115) := ZS hg; replace HB := ZT HB hb; clear hb hbox hg) | ((with_reducible refine gate_dst (N := 3) rfl ?_); refine ZX (N := 3) (cs := #[.int .i64 a1_0, .int .i64 a1_1, .int .i64 a1_2]) (t := 30) ?_; intro gb116 hg w25 hbox hb; have BK116 := AM (hbox); have GW116 : Aside0 (w.heap.size ≤ gb116) := ZS hg; have GE116 : Aside0 (w.heap.size ≤ gb116) := ZS hg; have NB115_116 : Aside0 (gb115 ≠ gb116) := ZN hg BK115; have NB116_115 : Aside0 (gb116 ≠ gb115) := ZM hg BK115; replace BK115 := ZW BK115 hb; replace HB := ZT HB hb; clear hb hbox hg; have hnb26 := NB116_115.out; have hnc26 := NB115_116.out; have hcz27 := ZC3 w25 BK116; have hfz27 := ZF3 BK116; have hcz28 := ZC2 w25 BK115; have hfz28 := ZF2 BK115) | ((with_reducible refine gate_callee (f := 87) rfl ?_); refine ZGL (some 22) Try.func87 #[.agg #[.slice A0_0 l0_0.length c0_0, .slice A0_1 l0_1.length c0_1], .int .i64 a1_1] ?_; (with_reducible refine (spec_l2Var.calls _ _ l0_0 _ _ l0_1 a1_1 false _ ?side1 ?side2 ?side3 ?side4 A15.out).mono ?_); (case side1 => exact ZQ (Kd.C_below HR0_0.out HB.out)); (case side2 => exact HC0_0.out); (case side3 => exact ZQ (Kd.C_below HR0_1.out HB.out)); (case side4 => exact HC0_1.out); rintro e w29 ⟨rfl, hb⟩; refine ⟨_, rfl, ?_⟩; replace BK115 := ZW BK115 hb; replace BK116 := ZW BK116 hb; replace HB := ZT HB hb; clear hb))
 go_ret
 exact ⟨ZE, ZB⟩))
 ·(
 rw [if_neg c14] at H
 have c14b0 := beq_eq_false_iff_ne.mpr c14
 have c14b1 := bne_iff_ne.mpr c14
 have HC30 := AM H
 clear H
 go_enter Try.func88, Try.ntmps88
 go_upto_if 28 with (first | ((with_reducible refine gate_dst (N := 2) rfl ?_); refine ZX (N := 2) (cs := #[.slice A0_0 l0_0.length c0_0, .slice A0_1 l0_1.length c0_1]) (t := 26) ?_; intro gb115 hg w31 hbox hb; have BK115 := AM (hbox); have GW115 : Aside0 (w.heap.size ≤ gb115) := ZS hg; have GE115 : Aside0 (w.heap.size ≤ gb115) := ZS hg; replace HB := ZT HB hb; clear hb hbox hg) | ((with_reducible refine gate_dst (N := 3) rfl ?_); refine ZX (N := 3) (cs := #[.int .i64 a1_0, .int .i64 a1_1, .int .i64 a1_2]) (t := 30) ?_; intro gb116 hg w32 hbox hb; have BK116 := AM (hbox); have GW116 : Aside0 (w.heap.size ≤ gb116) := ZS hg; have GE116 : Aside0 (w.heap.size ≤ gb116) := ZS hg; have NB115_116 : Aside0 (gb115 ≠ gb116) := ZN hg BK115; have NB116_115 : Aside0 (gb116 ≠ gb115) := ZM hg BK115; replace BK115 := ZW BK115 hb; replace HB := ZT HB hb; clear hb hbox hg; have hnb33 := NB116_115.out; have hnc33 := NB115_116.out; have hcz34 := ZC3 w32 BK116; have hfz34 := ZF3 BK116))
 (try simp only [Act.put, List.setIfInBounds_toArray, List.set_cons_zero, List.set_cons_succ])
 go_cut [28] (fun v28 wc => ∃ (kq : Nat) (x28_29 : Bool), v28 = .bool x28_29 ∧ Aside0 (spec_l2Val.j0 kq x28_29 l0_0 l0_1 a1_0 a1_1 a1_2 = some r) ∧ Aside0 (kq ≤ k) ∧ Aside0 (wc.heap[gb115]? = some (.cells #[(.slice A0_0 l0_0.length c0_0), (.slice A0_1 l0_1.length c0_1)] 26 (0, 0))) ∧ Aside0 (wc.heap[gb116]? = some (.cells #[.int .i64 a1_0, .int .i64 a1_1, .int .i64 a1_2] 30 (0, 0))) ∧ Aside0 (Below w.heap.size w wc))
 case first => (
 have H := HC30.out
 clear HC30
 by_cases c35 : a1_0 = 3
 ·(
 rw [if_pos c35] at H
 have c35b0 := beq_iff_eq.mpr c35
 have c35b1 := bne_eq_false_iff_eq.mpr c35
 clear c35
 (first | rw [c35b0] | (simp only [i64_w, i32_w]; rw [c35b0]) | skip)
 have H' := AM H
 clear H
 go_wp2
 go_meet
 case rel => exact ⟨_, ((a1_0 == 3)), (by first | rfl | (simp; done) | (simp [*]; done)), H', ⟨by first | omega | exact Nat.le_refl _⟩, ⟨ZK BK115.out⟩, ⟨ZK BK116.out⟩, ⟨ZB⟩⟩)
 ·(
 rw [if_neg c35] at H
 have c35b0 := beq_eq_false_iff_ne.mpr c35
 have c35b1 := bne_iff_ne.mpr c35
 (first | rw [c35b0] | (simp only [i64_w, i32_w]; rw [c35b0]) | skip)
 have H' := AM H
 clear H
 go_wp2
 go_meet
 case rel => exact ⟨_, ((a1_0 == 4)), (by first | rfl | (simp; done) | (simp [*]; done)), H', ⟨by first | omega | exact Nat.le_refl _⟩, ⟨ZK BK115.out⟩, ⟨ZK BK116.out⟩, ⟨ZB⟩⟩))
 case rest => (
 clear HC30
 try clear c1
 try clear c2
 try clear p2
 try clear c3
 try clear c3b0
 try clear c3b1
 try clear c5
 try clear c8
 try clear c12
 try clear c14
 try clear c14b0
 try clear c14b1
 try clear c16
 try clear c19
 try clear c26
 try clear c33
 try clear c35
 try clear c35b0
 try clear c35b1
 try clear hcz13
 try clear hcz20
 try clear hcz21
 try clear hcz23
 try clear hcz27
 try clear hcz28
 try clear hcz34
 try clear hcz9
 try clear hfz13
 try clear hfz20
 try clear hfz21
 try clear hfz23
 try clear hfz27
 try clear hfz28
 try clear hfz34
 try clear hfz9
 obtain ⟨kq, x28_29, rfl, HA, HJ29, BK115, BK116, HB⟩ := hcut
 cases kq with
 | zero => exact absurd HA.out (by simp [spec_l2Val.j0])
 | succ kj29 =>
  have H := HA.out
  clear HA
  simp only [spec_l2Val.j0] at H
  by_cases c36 : x28_29 = true
  ·(
  subst c36
  have H1 := H; rw [if_pos rfl] at H1
  clear H
  have H := H1
  clear H1
  obtain ⟨t119, A37, H⟩ := ZOB H; try dsimp only at H
  by_cases c38 : t119 = true
  ·(
  subst c38
  have H1 := H; rw [if_pos rfl] at H1
  clear H
  have H := H1
  clear H1
  obtain ⟨t120, A39, H⟩ := ZOB H; try dsimp only at H
  obtain rfl := Option.some.inj H
  have hnb40 := NB115_116.out
  have hnc40 := NB116_115.out
  have hcz41 := ZC2 wc BK115
  have hfz41 := ZF2 BK115
  have hcz42 := ZC3 wc BK116
  have hfz42 := ZF3 BK116
  go_wp2_with (first | ((with_reducible refine gate_callee (f := 87) rfl ?_); refine ZGL (some 34) Try.func87 #[.agg #[.slice A0_0 l0_0.length c0_0, .slice A0_1 l0_1.length c0_1], .int .i64 a1_1] ?_; (with_reducible refine (spec_l2Var.calls _ _ l0_0 _ _ l0_1 a1_1 true _ ?side1 ?side2 ?side3 ?side4 A37.out).mono ?_); (case side1 => exact ZQ (Kd.C_below HR0_0.out HB.out)); (case side2 => exact HC0_0.out); (case side3 => exact ZQ (Kd.C_below HR0_1.out HB.out)); (case side4 => exact HC0_1.out); rintro e w43 ⟨rfl, hb⟩; refine ⟨_, rfl, ?_⟩; replace BK115 := ZW BK115 hb; replace BK116 := ZW BK116 hb; replace HB := ZT HB hb; clear hb; have hcz44 := ZC2 w43 BK115; have hfz44 := ZF2 BK115; have hcz45 := ZC3 w43 BK116; have hfz45 := ZF3 BK116) | (go_at_call 87; (with_reducible refine (spec_l2Var.calls _ _ l0_0 _ _ l0_1 a1_2 t120 _ ?side1 ?side2 ?side3 ?side4 A39.out).mono ?_); (case side1 => exact ZQ (Kd.C_below HR0_0.out HB.out)); (case side2 => exact HC0_0.out); (case side3 => exact ZQ (Kd.C_below HR0_1.out HB.out)); (case side4 => exact HC0_1.out); rintro e w46 ⟨rfl, hb⟩; replace BK115 := ZW BK115 hb; replace BK116 := ZW BK116 hb; replace HB := ZT HB hb; clear hb))
  go_ret
  exact ⟨ZE, ZB⟩)
  ·(
  replace c38 := Bool.eq_false_iff.mpr c38
  subst c38
  have H1 := H; rw [if_neg ZFT] at H1
  clear H
  have H := H1
  clear H1
  obtain rfl := Option.some.inj H
  have hnb47 := NB115_116.out
  have hnc47 := NB116_115.out
  have hcz48 := ZC2 wc BK115
  have hfz48 := ZF2 BK115
  have hcz49 := ZC3 wc BK116
  have hfz49 := ZF3 BK116
  go_wp2_with (first | ((with_reducible refine gate_callee (f := 87) rfl ?_); refine ZGL (some 34) Try.func87 #[.agg #[.slice A0_0 l0_0.length c0_0, .slice A0_1 l0_1.length c0_1], .int .i64 a1_1] ?_; (with_reducible refine (spec_l2Var.calls _ _ l0_0 _ _ l0_1 a1_1 false _ ?side1 ?side2 ?side3 ?side4 A37.out).mono ?_); (case side1 => exact ZQ (Kd.C_below HR0_0.out HB.out)); (case side2 => exact HC0_0.out); (case side3 => exact ZQ (Kd.C_below HR0_1.out HB.out)); (case side4 => exact HC0_1.out); rintro e w50 ⟨rfl, hb⟩; refine ⟨_, rfl, ?_⟩; replace BK115 := ZW BK115 hb; replace BK116 := ZW BK116 hb; replace HB := ZT HB hb; clear hb))
  go_ret
  exact ⟨ZE, ZB⟩))
  ·(
  replace c36 := Bool.eq_false_iff.mpr c36
  subst c36
  have H1 := H; rw [if_neg ZFT] at H1
  clear H
  have H := H1
  clear H1
  obtain rfl := Option.some.inj H
  go_wp2
  go_ret
  exact ⟨ZE, ZB⟩))))

-- (spec_l2Step stands with its caller)

end Go.Proofs.Ythidgkfgdkjghaa.A
