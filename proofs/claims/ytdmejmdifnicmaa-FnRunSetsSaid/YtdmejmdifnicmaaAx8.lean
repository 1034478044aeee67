/- What Go functions compute, as Lean functions, and for each its contract: for every input at which the Lean function answers the call returns that; written by wip/tools/pr.py over the kit's print. -/
import Derived.Test.YtdmejmdifnicmaaAx0
import Derived.Test.YtdmejmdifnicmaaAx7
namespace Go.Proofs.Ytdmejmdifnicmaa.A
open Go.RowKit Go.Proofs.YtdmejmdifnicmaaW.PrintWords Go.Proofs.YtdmejmdifnicmaaW.PrintLast Go.Proofs.YtdmejmdifnicmaaW.PrintMore
attribute [local go_sem] max2_int min2_int max_two min_two max_three min_three max_four min_four   -- for this text's walks alone
set_option linter.unusedVariables false
set_option linter.unusedSimpArgs false

/-! ### spec_l2Val: function 34 -/
def spec_l2Val.j0 : Nat → Bool → List (S57) → List (S66) → Int → Int → Int → Option (Bool)
 | 0, _, _, _, _, _, _ => none
 | k + 1, x28, x204000, x204001, x205000, x205001, x205002 => if x28 = true then ((spec_l2Var.f x204000 x204001 x205001).bind fun t207 => (if t207 = true then ((spec_l2Var.f x204000 x204001 x205002).bind fun t208 => (some t208)) else (some false))) else (some false)
def spec_l2Val.f (k : Nat) (l0_0 : List (S57)) (l0_1 : List (S66)) (a1_0 : Int) (a1_1 : Int) (a1_2 : Int) : Option (Bool) := if a1_0 = 1 then ((spec_l6In.f a1_1 0 9).bind fun t205 => (if t205 = true then (some (a1_2 == 0)) else (some false))) else (if a1_0 = 2 then ((spec_l2Var.f l0_0 l0_1 a1_1).bind fun t206 => (if t206 = true then (some (a1_2 == 0)) else (some false))) else (if a1_0 = 3 then (spec_l2Val.j0 k (a1_0 == 3) l0_0 l0_1 a1_0 a1_1 a1_2) else (spec_l2Val.j0 k (a1_0 == 4) l0_0 l0_1 a1_0 a1_1 a1_2)))
set_option maxHeartbeats 8000000 in
set_option maxRecDepth 100000 in
theorem spec_l2Val.calls (k : Nat) (A0_0 : Option Addr) (c0_0 : Nat) (l0_0 : List (S57)) (A0_1 : Option Addr) (c0_1 : Nat) (l0_1 : List (S66)) (a1_0 : Int) (a1_1 : Int) (a1_2 : Int) (r : Bool) (w : World) (hr0_0 : Kd.C k57 w A0_0 l0_0.length l0_0) (hc0_0 : l0_0.length ≤ c0_0) (hr0_1 : Kd.C k66 w A0_1 l0_1.length l0_1) (hc0_1 : l0_1.length ≤ c0_1) (h : spec_l2Val.f k l0_0 l0_1 a1_0 a1_1 a1_2 = some r) :
  Calls Try.prog 34 #[.agg #[.slice A0_0 l0_0.length c0_0, .slice A0_1 l0_1.length c0_1], .agg #[.int .i64 a1_0, .int .i64 a1_1, .int .i64 a1_2]] w fun e w' => e = .returned (.bool r) ∧ Below w.heap.size w w' := by
 have hu43 := Try.underlying43
 have hu64 := Try.underlying64
 have HR0_0 := Aside0.mk hr0_0
 have HC0_0 := Aside0.mk hc0_0
 clear hr0_0 hc0_0
 have HR0_1 := Aside0.mk hr0_1
 have HC0_1 := Aside0.mk hc0_1
 clear hr0_1 hc0_1
 have HB := Aside0.mk (Below.refl w.heap.size w)
 have H : (if a1_0 = 1 then ((spec_l6In.f a1_1 0 9).bind fun t205 => (if t205 = true then (some (a1_2 == 0)) else (some false))) else (if a1_0 = 2 then ((spec_l2Var.f l0_0 l0_1 a1_1).bind fun t206 => (if t206 = true then (some (a1_2 == 0)) else (some false))) else (if a1_0 = 3 then (spec_l2Val.j0 k (a1_0 == 3) l0_0 l0_1 a1_0 a1_1 a1_2) else (spec_l2Val.j0 k (a1_0 == 4) l0_0 l0_1 a1_0 a1_1 a1_2)))) = some r := h
 clear h
 by_cases c3 : a1_0 = 1
 ·rw [if_pos c3] at H
  have c3b0 : (a1_0 == 1) = true := beq_iff_eq.mpr c3
  have c3b1 : (a1_0 != 1) = false := bne_eq_false_iff_eq.mpr c3
  clear c3
  replace H := Option.bind_eq_some_iff.mp H
  obtain ⟨t205, A40, H⟩ := H
  replace H : (if t205 = true then (some (a1_2 == 0)) else (some false)) = some r := H
  have A4 := Aside0.mk A40
  clear A40
  by_cases c5 : t205 = true
  ·subst c5
   have H1 : (some (a1_2 == 0)) = some r := by rw [if_pos rfl] at H; exact H
   clear H
   have H := H1
   clear H1
   obtain rfl := Option.some.inj H
   go_enter Try.func34, Try.ntmps34
   go_wp2_with (first | ((with_reducible refine gate_dst (N := 2) rfl ?_); refine ZX (N := 2) (cs := #[.slice A0_0 l0_0.length c0_0, .slice A0_1 l0_1.length c0_1]) (t := 43) ?_; intro gb203 hg w6 hbox hb; have BK203 := Aside0.mk (hbox); have GW203 : Aside0 (w.heap.size ≤ gb203) := ZS hg; have GE203 : Aside0 (w.heap.size ≤ gb203) := ZS hg; replace HB := ZT HB hb; clear hb hbox hg) | ((with_reducible refine gate_dst (N := 3) rfl ?_); refine ZX (N := 3) (cs := #[.int .i64 a1_0, .int .i64 a1_1, .int .i64 a1_2]) (t := 64) ?_; intro gb204 hg w7 hbox hb; have BK204 := Aside0.mk (hbox); have GW204 : Aside0 (w.heap.size ≤ gb204) := ZS hg; have GE204 : Aside0 (w.heap.size ≤ gb204) := ZS hg; have NB203_204 : Aside0 (gb203 ≠ gb204) := ZN hg BK203; have NB204_203 : Aside0 (gb204 ≠ gb203) := ZM hg BK203; replace BK203 := ZW BK203 hb; replace HB := ZT HB hb; clear hb hbox hg; have hnb8 := NB204_203.out; have hnc8 := NB203_204.out; obtain ⟨hcz9_0, hcz9_1, hcz9_2⟩ := ZC3 w7 BK204; obtain ⟨hfz9_0, hfz9_1, hfz9_2⟩ := ZF3 BK204) | ((with_reducible refine gate_callee (f := 19) rfl ?_); refine goesL_ (some 11) rfl rfl Try.func19 (by kernel_rfl) rfl #[.int .i64 a1_1, .int .i64 0, .int .i64 9] rfl ZG ?_; (with_reducible refine (spec_l6In.calls a1_1 0 9 true _ A4.out).mono ?_); rintro e w' ⟨rfl, ⟨nd, rfl⟩⟩; refine ⟨_, rfl, ?_⟩))
   go_ret
   exact ⟨ZE, ZB⟩
  ·replace c5 := Bool.eq_false_iff.mpr c5
   subst c5
   have H1 : (some false) = some r := by rw [if_neg (show ¬ (false = true) by decide)] at H; exact H
   clear H
   have H := H1
   clear H1
   obtain rfl := Option.some.inj H
   go_enter Try.func34, Try.ntmps34
   go_wp2_with (first | ((with_reducible refine gate_dst (N := 2) rfl ?_); refine ZX (N := 2) (cs := #[.slice A0_0 l0_0.length c0_0, .slice A0_1 l0_1.length c0_1]) (t := 43) ?_; intro gb203 hg w10 hbox hb; have BK203 := Aside0.mk (hbox); have GW203 : Aside0 (w.heap.size ≤ gb203) := ZS hg; have GE203 : Aside0 (w.heap.size ≤ gb203) := ZS hg; replace HB := ZT HB hb; clear hb hbox hg) | ((with_reducible refine gate_dst (N := 3) rfl ?_); refine ZX (N := 3) (cs := #[.int .i64 a1_0, .int .i64 a1_1, .int .i64 a1_2]) (t := 64) ?_; intro gb204 hg w11 hbox hb; have BK204 := Aside0.mk (hbox); have GW204 : Aside0 (w.heap.size ≤ gb204) := ZS hg; have GE204 : Aside0 (w.heap.size ≤ gb204) := ZS hg; have NB203_204 : Aside0 (gb203 ≠ gb204) := ZN hg BK203; have NB204_203 : Aside0 (gb204 ≠ gb203) := ZM hg BK203; replace BK203 := ZW BK203 hb; replace HB := ZT HB hb; clear hb hbox hg; have hnb12 := NB204_203.out; have hnc12 := NB203_204.out; obtain ⟨hcz13_0, hcz13_1, hcz13_2⟩ := ZC3 w11 BK204; obtain ⟨hfz13_0, hfz13_1, hfz13_2⟩ := ZF3 BK204) | ((with_reducible refine gate_callee (f := 19) rfl ?_); refine goesL_ (some 11) rfl rfl Try.func19 (by kernel_rfl) rfl #[.int .i64 a1_1, .int .i64 0, .int .i64 9] rfl ZG ?_; (with_reducible refine (spec_l6In.calls a1_1 0 9 false _ A4.out).mono ?_); rintro e w' ⟨rfl, ⟨nd, rfl⟩⟩; refine ⟨_, rfl, ?_⟩))
   go_ret
   exact ⟨ZE, ZB⟩
 ·rw [if_neg c3] at H
  have c3b0 : (a1_0 == 1) = false := beq_eq_false_iff_ne.mpr c3
  have c3b1 : (a1_0 != 1) = true := bne_iff_ne.mpr c3
  by_cases c14 : a1_0 = 2
  ·rw [if_pos c14] at H
   have c14b0 : (a1_0 == 2) = true := beq_iff_eq.mpr c14
   have c14b1 : (a1_0 != 2) = false := bne_eq_false_iff_eq.mpr c14
   clear c14
   replace H := Option.bind_eq_some_iff.mp H
   obtain ⟨t206, A150, H⟩ := H
   replace H : (if t206 = true then (some (a1_2 == 0)) else (some false)) = some r := H
   have A15 := Aside0.mk A150
   clear A150
   by_cases c16 : t206 = true
   ·subst c16
    have H1 : (some (a1_2 == 0)) = some r := by rw [if_pos rfl] at H; exact H
    clear H
    have H := H1
    clear H1
    obtain rfl := Option.some.inj H
    go_enter Try.func34, Try.ntmps34
    go_wp2_with (first | ((with_reducible refine gate_dst (N := 2) rfl ?_); refine ZX (N := 2) (cs := #[.slice A0_0 l0_0.length c0_0, .slice A0_1 l0_1.length c0_1]) (t := 43) ?_; intro gb203 hg w17 hbox hb; have BK203 := Aside0.mk (hbox); have GW203 : Aside0 (w.heap.size ≤ gb203) := ZS hg; have GE203 : Aside0 (w.heap.size ≤ gb203) := ZS hg; replace HB := ZT HB hb; clear hb hbox hg) | ((with_reducible refine gate_dst (N := 3) rfl ?_); refine ZX (N := 3) (cs := #[.int .i64 a1_0, .int .i64 a1_1, .int .i64 a1_2]) (t := 64) ?_; intro gb204 hg w18 hbox hb; have BK204 := Aside0.mk (hbox); have GW204 : Aside0 (w.heap.size ≤ gb204) := ZS hg; have GE204 : Aside0 (w.heap.size ≤ gb204) := ZS hg; have NB203_204 : Aside0 (gb203 ≠ gb204) := ZN hg BK203; have NB204_203 : Aside0 (gb204 ≠ gb203) := ZM hg BK203; replace BK203 := ZW BK203 hb; replace HB := ZT HB hb; clear hb hbox hg; have hnb19 := NB204_203.out; have hnc19 := NB203_204.out; obtain ⟨hcz20_0, hcz20_1, hcz20_2⟩ := ZC3 w18 BK204; obtain ⟨hfz20_0, hfz20_1, hfz20_2⟩ := ZF3 BK204; obtain ⟨hcz21_0, hcz21_1⟩ := ZC2 w18 BK203; obtain ⟨hfz21_0, hfz21_1⟩ := ZF2 BK203) | ((with_reducible refine gate_callee (f := 33) rfl ?_); refine goesL_ (some 22) rfl rfl Try.func33 (by kernel_rfl) rfl #[.agg #[.slice A0_0 l0_0.length c0_0, .slice A0_1 l0_1.length c0_1], .int .i64 a1_1] rfl ZG ?_; (with_reducible refine (spec_l2Var.calls _ _ l0_0 _ _ l0_1 a1_1 true _ ?side1 ?side2 ?side3 ?side4 A15.out).mono ?_); (case side1 => exact ZQ (Kd.C_below HR0_0.out HB.out)); (case side2 => exact HC0_0.out); (case side3 => exact ZQ (Kd.C_below HR0_1.out HB.out)); (case side4 => exact HC0_1.out); rintro e w22 ⟨rfl, hb⟩; refine ⟨_, rfl, ?_⟩; replace BK203 := ZW BK203 hb; replace BK204 := ZW BK204 hb; replace HB := ZT HB hb; (try clear hb); (try clear hb2); (try clear hk); (try clear hi); obtain ⟨hcz23_0, hcz23_1, hcz23_2⟩ := ZC3 w22 BK204; obtain ⟨hfz23_0, hfz23_1, hfz23_2⟩ := ZF3 BK204))
    go_ret
    exact ⟨ZE, ZB⟩
   ·replace c16 := Bool.eq_false_iff.mpr c16
    subst c16
    have H1 : (some false) = some r := by rw [if_neg (show ¬ (false = true) by decide)] at H; exact H
    clear H
    have H := H1
    clear H1
    obtain rfl := Option.some.inj H
    go_enter Try.func34, Try.ntmps34
    go_wp2_with (first | ((with_reducible refine gate_dst (N := 2) rfl ?_); refine ZX (N := 2) (cs := #[.slice A0_0 l0_0.length c0_0, .slice A0_1 l0_1.length c0_1]) (t := 43) ?_; intro gb203 hg w24 hbox hb; have BK203 := Aside0.mk (hbox); have GW203 : Aside0 (w.heap.size ≤ gb203) := ZS hg; have GE203 : Aside0 (w.heap.size ≤ gb203) := ZS hg; replace HB := ZT HB hb; clear hb hbox hg) | ((with_reducible refine gate_dst (N := 3) rfl ?_); refine ZX (N := 3) (cs := #[.int .i64 a1_0, .int .i64 a1_1, .int .i64 a1_2]) (t := 64) ?_; intro gb204 hg w25 hbox hb; have BK204 := Aside0.mk (hbox); have GW204 : Aside0 (w.heap.size ≤ gb204) := ZS hg; have GE204 : Aside0 (w.heap.size ≤ gb204) := ZS hg; have NB203_204 : Aside0 (gb203 ≠ gb204) := ZN hg BK203; have NB204_203 : Aside0 (gb204 ≠ gb203) := ZM hg BK203; replace BK203 := ZW BK203 hb; replace HB := ZT HB hb; clear hb hbox hg; have hnb26 := NB204_203.out; have hnc26 := NB203_204.out; obtain ⟨hcz27_0, hcz27_1, hcz27_2⟩ := ZC3 w25 BK204; obtain ⟨hfz27_0, hfz27_1, hfz27_2⟩ := ZF3 BK204; obtain ⟨hcz28_0, hcz28_1⟩ := ZC2 w25 BK203; obtain ⟨hfz28_0, hfz28_1⟩ := ZF2 BK203) | ((with_reducible refine gate_callee (f := 33) rfl ?_); refine goesL_ (some 22) rfl rfl Try.func33 (by kernel_rfl) rfl #[.agg #[.slice A0_0 l0_0.length c0_0, .slice A0_1 l0_1.length c0_1], .int .i64 a1_1] rfl ZG ?_; (with_reducible refine (spec_l2Var.calls _ _ l0_0 _ _ l0_1 a1_1 false _ ?side1 ?side2 ?side3 ?side4 A15.out).mono ?_); (case side1 => exact ZQ (Kd.C_below HR0_0.out HB.out)); (case side2 => exact HC0_0.out); (case side3 => exact ZQ (Kd.C_below HR0_1.out HB.out)); (case side4 => exact HC0_1.out); rintro e w29 ⟨rfl, hb⟩; refine ⟨_, rfl, ?_⟩; replace BK203 := ZW BK203 hb; replace BK204 := ZW BK204 hb; replace HB := ZT HB hb; (try clear hb); (try clear hb2); (try clear hk); (try clear hi)))
    go_ret
    exact ⟨ZE, ZB⟩
  ·rw [if_neg c14] at H
   have c14b0 : (a1_0 == 2) = false := beq_eq_false_iff_ne.mpr c14
   have c14b1 : (a1_0 != 2) = true := bne_iff_ne.mpr c14
   have HC30 := Aside0.mk H
   clear H
   go_enter Try.func34, Try.ntmps34
   go_upto_if 28 with (first | ((with_reducible refine gate_dst (N := 2) rfl ?_); refine ZX (N := 2) (cs := #[.slice A0_0 l0_0.length c0_0, .slice A0_1 l0_1.length c0_1]) (t := 43) ?_; intro gb203 hg w31 hbox hb; have BK203 := Aside0.mk (hbox); have GW203 : Aside0 (w.heap.size ≤ gb203) := ZS hg; have GE203 : Aside0 (w.heap.size ≤ gb203) := ZS hg; replace HB := ZT HB hb; clear hb hbox hg) | ((with_reducible refine gate_dst (N := 3) rfl ?_); refine ZX (N := 3) (cs := #[.int .i64 a1_0, .int .i64 a1_1, .int .i64 a1_2]) (t := 64) ?_; intro gb204 hg w32 hbox hb; have BK204 := Aside0.mk (hbox); have GW204 : Aside0 (w.heap.size ≤ gb204) := ZS hg; have GE204 : Aside0 (w.heap.size ≤ gb204) := ZS hg; have NB203_204 : Aside0 (gb203 ≠ gb204) := ZN hg BK203; have NB204_203 : Aside0 (gb204 ≠ gb203) := ZM hg BK203; replace BK203 := ZW BK203 hb; replace HB := ZT HB hb; clear hb hbox hg; have hnb33 := NB204_203.out; have hnc33 := NB203_204.out; obtain ⟨hcz34_0, hcz34_1, hcz34_2⟩ := ZC3 w32 BK204; obtain ⟨hfz34_0, hfz34_1, hfz34_2⟩ := ZF3 BK204))
   (try simp only [Act.put, List.setIfInBounds_toArray, List.set_cons_zero, List.set_cons_succ])
   go_cut [28] (fun v28 wc => ∃ (kq : Nat) (x28_29 : Bool), v28 = .bool x28_29 ∧ Aside0 (spec_l2Val.j0 kq x28_29 l0_0 l0_1 a1_0 a1_1 a1_2 = some r) ∧ Aside0 (kq ≤ k) ∧ Aside0 (wc.heap[gb203]? = some (.cells #[(.slice A0_0 l0_0.length c0_0), (.slice A0_1 l0_1.length c0_1)] 43 (0, 0))) ∧ Aside0 (wc.heap[gb204]? = some (.cells #[.int .i64 a1_0, .int .i64 a1_1, .int .i64 a1_2] 64 (0, 0))) ∧ Aside0 (Below w.heap.size w wc))
   case first =>
    have H := HC30.out
    clear HC30
    by_cases c35 : a1_0 = 3
    ·rw [if_pos c35] at H
     have c35b0 : (a1_0 == 3) = true := beq_iff_eq.mpr c35
     have c35b1 : (a1_0 != 3) = false := bne_eq_false_iff_eq.mpr c35
     clear c35
     (first | rw [c35b0] | (simp only [i64_w, i32_w]; rw [c35b0]) | skip)
     have H' := Aside0.mk H
     clear H
     go_wp2
     go_meet
     case rel => exact ⟨_, ((a1_0 == 3)), (by first | rfl | (simp; done) | (simp [*]; done)), H', ⟨by first | omega | exact Nat.le_refl _⟩, ⟨ZK BK203.out⟩, ⟨ZK BK204.out⟩, ⟨ZB⟩⟩
    ·rw [if_neg c35] at H
     have c35b0 : (a1_0 == 3) = false := beq_eq_false_iff_ne.mpr c35
     have c35b1 : (a1_0 != 3) = true := bne_iff_ne.mpr c35
     (first | rw [c35b0] | (simp only [i64_w, i32_w]; rw [c35b0]) | skip)
     have H' := Aside0.mk H
     clear H
     go_wp2
     go_meet
     case rel => exact ⟨_, ((a1_0 == 4)), (by first | rfl | (simp; done) | (simp [*]; done)), H', ⟨by first | omega | exact Nat.le_refl _⟩, ⟨ZK BK203.out⟩, ⟨ZK BK204.out⟩, ⟨ZB⟩⟩
   case rest =>
    clear HC30
    try clear c1
    try clear c2
    try clear p2
    try clear c3
    try clear c3b0
    try clear c3b1
    try clear c5
    try clear c8
    try clear c12
    try clear c14
    try clear c14b0
    try clear c14b1
    try clear c16
    try clear c19
    try clear c26
    try clear c33
    try clear c34
    try clear c35
    try clear c35b0
    try clear c35b1
    try clear hcz13_0
    try clear hcz13_1
    try clear hcz13_2
    try clear hcz20_0
    try clear hcz20_1
    try clear hcz20_2
    try clear hcz21_0
    try clear hcz21_1
    try clear hcz23_0
    try clear hcz23_1
    try clear hcz23_2
    try clear hcz27_0
    try clear hcz27_1
    try clear hcz27_2
    try clear hcz28_0
    try clear hcz28_1
    try clear hcz34_0
    try clear hcz34_1
    try clear hcz34_2
    try clear hcz9_0
    try clear hcz9_1
    try clear hcz9_2
    try clear hfz13_0
    try clear hfz13_1
    try clear hfz13_2
    try clear hfz20_0
    try clear hfz20_1
    try clear hfz20_2
    try clear hfz21_0
    try clear hfz21_1
    try clear hfz23_0
    try clear hfz23_1
    try clear hfz23_2
    try clear hfz27_0
    try clear hfz27_1
    try clear hfz27_2
    try clear hfz28_0
    try clear hfz28_1
    try clear hfz34_0
    try clear hfz34_1
    try clear hfz34_2
    try clear hfz9_0
    try clear hfz9_1
    try clear hfz9_2
    obtain ⟨kq, x28_29, rfl, HA, HJ29, BK203, BK204, HB⟩ := hcut
    cases kq with
    | zero => exact absurd HA.out (by simp [spec_l2Val.j0])
    | succ kj29 =>
     have H := HA.out
     clear HA
     simp only [spec_l2Val.j0] at H
     by_cases c36 : x28_29 = true
     ·subst c36
      have H1 : ((spec_l2Var.f l0_0 l0_1 a1_1).bind fun t207 => (if t207 = true then ((spec_l2Var.f l0_0 l0_1 a1_2).bind fun t208 => (some t208)) else (some false))) = some r := by rw [if_pos rfl] at H; exact H
      clear H
      have H := H1
      clear H1
      replace H := Option.bind_eq_some_iff.mp H
      obtain ⟨t207, A370, H⟩ := H
      replace H : (if t207 = true then ((spec_l2Var.f l0_0 l0_1 a1_2).bind fun t208 => (some t208)) else (some false)) = some r := H
      have A37 := Aside0.mk A370
      clear A370
      by_cases c38 : t207 = true
      ·subst c38
       have H1 : ((spec_l2Var.f l0_0 l0_1 a1_2).bind fun t208 => (some t208)) = some r := by rw [if_pos rfl] at H; exact H
       clear H
       have H := H1
       clear H1
       replace H := Option.bind_eq_some_iff.mp H
       obtain ⟨t208, A390, H⟩ := H
       replace H : (some t208) = some r := H
       have A39 := Aside0.mk A390
       clear A390
       obtain rfl := Option.some.inj H
       have hnb40 := NB203_204.out
       have hnc40 := NB204_203.out
       obtain ⟨hcz41_0, hcz41_1⟩ := ZC2 wc BK203
       obtain ⟨hfz41_0, hfz41_1⟩ := ZF2 BK203
       obtain ⟨hcz42_0, hcz42_1, hcz42_2⟩ := ZC3 wc BK204
       obtain ⟨hfz42_0, hfz42_1, hfz42_2⟩ := ZF3 BK204
       go_wp2_with (first | ((with_reducible refine gate_callee (f := 33) rfl ?_); refine goesL_ (some 34) rfl rfl Try.func33 (by kernel_rfl) rfl #[.agg #[.slice A0_0 l0_0.length c0_0, .slice A0_1 l0_1.length c0_1], .int .i64 a1_1] rfl ZG ?_; (with_reducible refine (spec_l2Var.calls _ _ l0_0 _ _ l0_1 a1_1 true _ ?side1 ?side2 ?side3 ?side4 A37.out).mono ?_); (case side1 => exact ZQ (Kd.C_below HR0_0.out HB.out)); (case side2 => exact HC0_0.out); (case side3 => exact ZQ (Kd.C_below HR0_1.out HB.out)); (case side4 => exact HC0_1.out); rintro e w43 ⟨rfl, hb⟩; refine ⟨_, rfl, ?_⟩; replace BK203 := ZW BK203 hb; replace BK204 := ZW BK204 hb; replace HB := ZT HB hb; (try clear hb); (try clear hb2); (try clear hk); (try clear hi); obtain ⟨hcz44_0, hcz44_1⟩ := ZC2 w43 BK203; obtain ⟨hfz44_0, hfz44_1⟩ := ZF2 BK203; obtain ⟨hcz45_0, hcz45_1, hcz45_2⟩ := ZC3 w43 BK204; obtain ⟨hfz45_0, hfz45_1, hfz45_2⟩ := ZF3 BK204) | (go_at_call 33; (with_reducible refine (spec_l2Var.calls _ _ l0_0 _ _ l0_1 a1_2 t208 _ ?side1 ?side2 ?side3 ?side4 A39.out).mono ?_); (case side1 => exact ZQ (Kd.C_below HR0_0.out HB.out)); (case side2 => exact HC0_0.out); (case side3 => exact ZQ (Kd.C_below HR0_1.out HB.out)); (case side4 => exact HC0_1.out); rintro e w46 ⟨rfl, hb⟩; replace BK203 := ZW BK203 hb; replace BK204 := ZW BK204 hb; replace HB := ZT HB hb; (try clear hb); (try clear hb2); (try clear hk); (try clear hi)))
       go_ret
       exact ⟨ZE, ZB⟩
      ·replace c38 := Bool.eq_false_iff.mpr c38
       subst c38
       have H1 : (some false) = some r := by rw [if_neg (show ¬ (false = true) by decide)] at H; exact H
       clear H
       have H := H1
       clear H1
       obtain rfl := Option.some.inj H
       have hnb47 := NB203_204.out
       have hnc47 := NB204_203.out
       obtain ⟨hcz48_0, hcz48_1⟩ := ZC2 wc BK203
       obtain ⟨hfz48_0, hfz48_1⟩ := ZF2 BK203
       obtain ⟨hcz49_0, hcz49_1, hcz49_2⟩ := ZC3 wc BK204
       obtain ⟨hfz49_0, hfz49_1, hfz49_2⟩ := ZF3 BK204
       go_wp2_with (first | ((with_reducible refine gate_callee (f := 33) rfl ?_); refine goesL_ (some 34) rfl rfl Try.func33 (by kernel_rfl) rfl #[.agg #[.slice A0_0 l0_0.length c0_0, .slice A0_1 l0_1.length c0_1], .int .i64 a1_1] rfl ZG ?_; (with_reducible refine (spec_l2Var.calls _ _ l0_0 _ _ l0_1 a1_1 false _ ?side1 ?side2 ?side3 ?side4 A37.out).mono ?_); (case side1 => exact ZQ (Kd.C_below HR0_0.out HB.out)); (case side2 => exact HC0_0.out); (case side3 => exact ZQ (Kd.C_below HR0_1.out HB.out)); (case side4 => exact HC0_1.out); rintro e w50 ⟨rfl, hb⟩; refine ⟨_, rfl, ?_⟩; replace BK203 := ZW BK203 hb; replace BK204 := ZW BK204 hb; replace HB := ZT HB hb; (try clear hb); (try clear hb2); (try clear hk); (try clear hi)))
       go_ret
       exact ⟨ZE, ZB⟩
     ·replace c36 := Bool.eq_false_iff.mpr c36
      subst c36
      have H1 : (some false) = some r := by rw [if_neg (show ¬ (false = true) by decide)] at H; exact H
      clear H
      have H := H1
      clear H1
      obtain rfl := Option.some.inj H
      go_wp2
      go_ret
      exact ⟨ZE, ZB⟩

-- (spec_l2Step stands with its caller)

end Go.Proofs.Ytdmejmdifnicmaa.A
