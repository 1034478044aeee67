/- Go functions as Lean functions, and for each its contract; written by wip/tools/pr.py over the kit's print. -/
import Derived.Test.YtaflodibibbakaaBx0
import Derived.Test.YtaflodibibbakaaBx4
namespace Go.Proofs.Ytaflodibibbakaa.B
open Go.RowKit Go.Proofs.YtaflodibibbakaaW.PrintWords Go.Proofs.YtaflodibibbakaaW.PrintLast Go.Proofs.YtaflodibibbakaaW.PrintMore
attribute [local go_sem] max2_int min2_int max_two min_two max_three min_three max_four min_four
set_option linter.unusedVariables false
set_option linter.unusedSimpArgs false
set_option maxHeartbeats 8000000
set_option maxRecDepth 100000

/-! ### laws_eqStep: function 31 -/
def laws_eqStep.g (k : Nat) (bf : List (S50) → List (S50) → Option (Bool)) (a0_0 : Int) (a0_1 : Int) (a0_2 : Int) (a0_3 : Int) (a0_4 : Int) (a0_5 : Int) (l0_6 : List (S50)) (l0_7 : List (S50)) (a1_0 : Int) (a1_1 : Int) (a1_2 : Int) (a1_3 : Int) (a1_4 : Int) (a1_5 : Int) (l1_6 : List (S50)) (l1_7 : List (S50)) : Option (Bool) := if a0_0 = a1_0 then (if a0_1 = a1_1 then ((laws_eqVal.f a0_2 a0_3 a0_4 a1_2 a1_3 a1_4).bind fun t169 => (if t169 = true then (if a0_5 = a1_5 then ((bf l0_6 l1_6).bind fun t170 => (if t170 = true then ((bf l0_7 l1_7).bind fun t171 => (if t171 = true then (some true) else (some false))) else (some false))) else (some false)) else (some false))) else (some false)) else (some false)
theorem laws_eqStep.calls_g (k : Nat) (bf : List (S50) → List (S50) → Option (Bool)) (ihB : ∀ (A0 : Option Addr) (c0 : Nat) (l0 : List (S50)) (A1 : Option Addr) (c1 : Nat) (l1 : List (S50)) (r : Bool) (w : World) (hr0 : Kd.C k50 w A0 l0.length l0) (hc0 : l0.length ≤ c0) (hr1 : Kd.C k50 w A1 l1.length l1) (hc1 : l1.length ≤ c1) (h : bf l0 l1 = some r),
  Calls Try.prog 42 #[.slice A0 l0.length c0, .slice A1 l1.length c1] w fun e w' => e = .returned (.bool r) ∧ Below w.heap.size w w') (a0_0 : Int) (a0_1 : Int) (a0_2 : Int) (a0_3 : Int) (a0_4 : Int) (a0_5 : Int) (A0_6 : Option Addr) (c0_6 : Nat) (l0_6 : List (S50)) (A0_7 : Option Addr) (c0_7 : Nat) (l0_7 : List (S50)) (a1_0 : Int) (a1_1 : Int) (a1_2 : Int) (a1_3 : Int) (a1_4 : Int) (a1_5 : Int) (A1_6 : Option Addr) (c1_6 : Nat) (l1_6 : List (S50)) (A1_7 : Option Addr) (c1_7 : Nat) (l1_7 : List (S50)) (r : Bool) (w : World) (hr0_6 : Kd.C k50 w A0_6 l0_6.length l0_6) (hc0_6 : l0_6.length ≤ c0_6) (hr0_7 : Kd.C k50 w A0_7 l0_7.length l0_7) (hc0_7 : l0_7.length ≤ c0_7) (hr1_6 : Kd.C k50 w A1_6 l1_6.length l1_6) (hc1_6 : l1_6.length ≤ c1_6) (hr1_7 : Kd.C k50 w A1_7 l1_7.length l1_7) (hc1_7 : l1_7.length ≤ c1_7) (h : laws_eqStep.g k bf a0_0 a0_1 a0_2 a0_3 a0_4 a0_5 l0_6 l0_7 a1_0 a1_1 a1_2 a1_3 a1_4 a1_5 l1_6 l1_7 = some r) :
  Calls Try.prog 31 #[.agg #[.int .i64 a0_0, .int .i64 a0_1, .int .i64 a0_2, .int .i64 a0_3, .int .i64 a0_4, .int .i64 a0_5, .slice A0_6 l0_6.length c0_6, .slice A0_7 l0_7.length c0_7], .agg #[.int .i64 a1_0, .int .i64 a1_1, .int .i64 a1_2, .int .i64 a1_3, .int .i64 a1_4, .int .i64 a1_5, .slice A1_6 l1_6.length c1_6, .slice A1_7 l1_7.length c1_7]] w fun e w' => e = .returned (.bool r) ∧ Below w.heap.size w w' := by
 have hu50 := Try.underlying50
 have hu48 := Try.underlying48
 have HR0_6 := AM hr0_6
 have HC0_6 := AM hc0_6
 clear hr0_6 hc0_6
 have HR0_7 := AM hr0_7
 have HC0_7 := AM hc0_7
 clear hr0_7 hc0_7
 have HR1_6 := AM hr1_6
 have HC1_6 := AM hc1_6
 clear hr1_6 hc1_6
 have HR1_7 := AM hr1_7
 have HC1_7 := AM hc1_7
 clear hr1_7 hc1_7
 have HB := AM (Below.refl w.heap.size w)
 have H : (if a0_0 = a1_0 then (if a0_1 = a1_1 then ((laws_eqVal.f a0_2 a0_3 a0_4 a1_2 a1_3 a1_4).bind fun t169 => (if t169 = true then (if a0_5 = a1_5 then ((bf l0_6 l1_6).bind fun t170 => (if t170 = true then ((bf l0_7 l1_7).bind fun t171 => (if t171 = true then (some true) else (some false))) else (some false))) else (some false)) else (some false))) else (some false)) else (some false)) = some r := h
 clear h
 by_cases c3 : a0_0 = a1_0
 ·(
 rw [if_pos c3] at H
 have c3b0 := beq_iff_eq.mpr c3
 have c3b1 := bne_eq_false_iff_eq.mpr c3
 clear c3
 by_cases c4 : a0_1 = a1_1
 ·(
 rw [if_pos c4] at H
 have c4b0 := beq_iff_eq.mpr c4
 have c4b1 := bne_eq_false_iff_eq.mpr c4
 clear c4
 obtain ⟨t169, A5, H⟩ := ZOB H; try dsimp only at H
 by_cases c6 : t169 = true
 ·(
 subst c6
 have H1 := H; rw [if_pos rfl] at H1
 clear H
 have H := H1
 clear H1
 by_cases c7 : a0_5 = a1_5
 ·(
 rw [if_pos c7] at H
 have c7b0 := beq_iff_eq.mpr c7
 have c7b1 := bne_eq_false_iff_eq.mpr c7
 clear c7
 obtain ⟨t170, A8, H⟩ := ZOB H; try dsimp only at H
 by_cases c9 : t170 = true
 ·(
 subst c9
 have H1 := H; rw [if_pos rfl] at H1
 clear H
 have H := H1
 clear H1
 obtain ⟨t171, A10, H⟩ := ZOB H; try dsimp only at H
 by_cases c11 : t171 = true
 ·(
 subst c11
 have H1 := H; rw [if_pos rfl] at H1
 clear H
 have H := H1
 clear H1
 obtain rfl := Option.some.inj H
 go_enter Try.func31, Try.ntmps31
 go_wp2_with (first | ((with_reducible refine gate_dst (N := 2) rfl ?_); refine ZX (N := 2) (cs := #[.int .i64 a0_0, .int .i64 a0_1, .int .i64 a0_2, .int .i64 a0_3, .int .i64 a0_4, .int .i64 a0_5, .slice A0_6 l0_6.length c0_6, .slice A0_7 l0_7.length c0_7]) (t := 50) ?_; intro gb167 hg w12 hbox hb; have BK167 := AM (hbox); have GW167 : Aside0 (w.heap.size ≤ gb167) := ZS hg; have GE167 : Aside0 (w.heap.size ≤ gb167) := ZS hg; replace HB := ZT HB hb; clear hb hbox hg) | ((with_reducible refine gate_dst (N := 3) rfl ?_); refine ZX (N := 3) (cs := #[.int .i64 a1_0, .int .i64 a1_1, .int .i64 a1_2, .int .i64 a1_3, .int .i64 a1_4, .int .i64 a1_5, .slice A1_6 l1_6.length c1_6, .slice A1_7 l1_7.length c1_7]) (t := 50) ?_; intro gb168 hg w13 hbox hb; have BK168 := AM (hbox); have GW168 : Aside0 (w.heap.size ≤ gb168) := ZS hg; have GE168 : Aside0 (w.heap.size ≤ gb168) := ZS hg; have NB167_168 : Aside0 (gb167 ≠ gb168) := ZN hg BK167; have NB168_167 : Aside0 (gb168 ≠ gb167) := ZM hg BK167; replace BK167 := ZW BK167 hb; replace HB := ZT HB hb; clear hb hbox hg; have hnb14 := NB167_168.out; have hnc14 := NB168_167.out; have hcz15 := ZC8 w13 BK167; have hfz15 := ZF8 BK167; have hcz16 := ZC8 w13 BK168; have hfz16 := ZF8 BK168) | ((with_reducible refine gate_callee (f := 60) rfl ?_); refine ZGL (some 19) Try.func60 #[.agg #[.int .i64 a0_2, .int .i64 a0_3, .int .i64 a0_4], .agg #[.int .i64 a1_2, .int .i64 a1_3, .int .i64 a1_4]] ?_; (with_reducible refine (laws_eqVal.calls a0_2 a0_3 a0_4 a1_2 a1_3 a1_4 true _ A5.out).mono ?_); rintro e w17 ⟨rfl, hb⟩; refine ⟨_, rfl, ?_⟩; replace BK167 := ZW BK167 hb; replace BK168 := ZW BK168 hb; replace HB := ZT HB hb; clear hb; have hcz18 := ZC8 w17 BK167; have hfz18 := ZF8 BK167; have hcz19 := ZC8 w17 BK168; have hfz19 := ZF8 BK168) | ((with_reducible refine gate_callee (f := 42) rfl ?_); refine ZGL (some 30) Try.func42 #[.slice A0_6 l0_6.length c0_6, .slice A1_6 l1_6.length c1_6] ?_; (with_reducible refine (ihB _ _ l0_6 _ _ l1_6 true _ ?side1 ?side2 ?side3 ?side4 A8.out).mono ?_); (case side1 => exact ZQ (Kd.C_below HR0_6.out HB.out)); (case side2 => exact HC0_6.out); (case side3 => exact ZQ (Kd.C_below HR1_6.out HB.out)); (case side4 => exact HC1_6.out); rintro e w20 ⟨rfl, hb⟩; refine ⟨_, rfl, ?_⟩; replace BK167 := ZW BK167 hb; replace BK168 := ZW BK168 hb; replace HB := ZT HB hb; clear hb; have hcz21 := ZC8 w20 BK167; have hfz21 := ZF8 BK167; have hcz22 := ZC8 w20 BK168; have hfz22 := ZF8 BK168) | ((with_reducible refine gate_callee (f := 42) rfl ?_); refine ZGL (some 36) Try.func42 #[.slice A0_7 l0_7.length c0_7, .slice A1_7 l1_7.length c1_7] ?_; (with_reducible refine (ihB _ _ l0_7 _ _ l1_7 true _ ?side1 ?side2 ?side3 ?side4 A10.out).mono ?_); (case side1 => exact ZQ (Kd.C_below HR0_7.out HB.out)); (case side2 => exact HC0_7.out); (case side3 => exact ZQ (Kd.C_below HR1_7.out HB.out)); (case side4 => exact HC1_7.out); rintro e w23 ⟨rfl, hb⟩; refine ⟨_, rfl, ?_⟩; replace BK167 := ZW BK167 hb; replace BK168 := ZW BK168 hb; replace HB := ZT HB hb; clear hb))
 go_ret
 exact ⟨ZE, ZB⟩)
 ·(
 replace c11 := Bool.eq_false_iff.mpr c11
 subst c11
 have H1 := H; rw [if_neg ZFT] at H1
 clear H
 have H := H1
 clear H1
 obtain rfl := Option.some.inj H
 go_enter Try.func31, Try.ntmps31
 go_wp2_with (first | ((with_reducible refine gate_dst (N := 2) rfl ?_); refine ZX (N := 2) (cs := #[.int .i64 a0_0, .int .i64 a0_1, .int .i64 a0_2, .int .i64 a0_3, .int .i64 a0_4, .int .i64 a0_5, .slice A0_6 l0_6.length c0_6, .slice A0_7 l0_7.length c0_7]) (t := 50) ?_; intro gb167 hg w24 hbox hb; have BK167 := AM (hbox); have GW167 : Aside0 (w.heap.size ≤ gb167) := ZS hg; have GE167 : Aside0 (w.heap.size ≤ gb167) := ZS hg; replace HB := ZT HB hb; clear hb hbox hg) | ((with_reducible refine gate_dst (N := 3) rfl ?_); refine ZX (N := 3) (cs := #[.int .i64 a1_0, .int .i64 a1_1, .int .i64 a1_2, .int .i64 a1_3, .int .i64 a1_4, .int .i64 a1_5, .slice A1_6 l1_6.length c1_6, .slice A1_7 l1_7.length c1_7]) (t := 50) ?_; intro gb168 hg w25 hbox hb; have BK168 := AM (hbox); have GW168 : Aside0 (w.heap.size ≤ gb168) := ZS hg; have GE168 : Aside0 (w.heap.size ≤ gb168) := ZS hg; have NB167_168 : Aside0 (gb167 ≠ gb168) := ZN hg BK167; have NB168_167 : Aside0 (gb168 ≠ gb167) := ZM hg BK167; replace BK167 := ZW BK167 hb; replace HB := ZT HB hb; clear hb hbox hg; have hnb26 := NB167_168.out; have hnc26 := NB168_167.out; have hcz27 := ZC8 w25 BK167; have hfz27 := ZF8 BK167; have hcz28 := ZC8 w25 BK168; have hfz28 := ZF8 BK168) | ((with_reducible refine gate_callee (f := 60) rfl ?_); refine ZGL (some 19) Try.func60 #[.agg #[.int .i64 a0_2, .int .i64 a0_3, .int .i64 a0_4], .agg #[.int .i64 a1_2, .int .i64 a1_3, .int .i64 a1_4]] ?_; (with_reducible refine (laws_eqVal.calls a0_2 a0_3 a0_4 a1_2 a1_3 a1_4 true _ A5.out).mono ?_); rintro e w29 ⟨rfl, hb⟩; refine ⟨_, rfl, ?_⟩; replace BK167 := ZW BK167 hb; replace BK168 := ZW BK168 hb; replace HB := ZT HB hb; clear hb; have hcz30 := ZC8 w29 BK167; have hfz30 := ZF8 BK167; have hcz31 := ZC8 w29 BK168; have hfz31 := ZF8 BK168) | ((with_reducible refine gate_callee (f := 42) rfl ?_); refine ZGL (some 30) Try.func42 #[.slice A0_6 l0_6.length c0_6, .slice A1_6 l1_6.length c1_6] ?_; (with_reducible refine (ihB _ _ l0_6 _ _ l1_6 true _ ?side1 ?side2 ?side3 ?side4 A8.out).mono ?_); (case side1 => exact ZQ (Kd.C_below HR0_6.out HB.out)); (case side2 => exact HC0_6.out); (case side3 => exact ZQ (Kd.C_below HR1_6.out HB.out)); (case side4 => exact HC1_6.out); rintro e w32 ⟨rfl, hb⟩; refine ⟨_, rfl, ?_⟩; replace BK167 := ZW BK167 hb; replace BK168 := ZW BK168 hb; replace HB := ZT HB hb; clear hb; have hcz33 := ZC8 w32 BK167; have hfz33 := ZF8 BK167; have hcz34 := ZC8 w32 BK168; have hfz34 := ZF8 BK168) | ((with_reducible refine gate_callee (f := 42) rfl ?_); refine ZGL (some 36) Try.func42 #[.slice A0_7 l0_7.length c0_7, .slice A1_7 l1_7.length c1_7] ?_; (with_reducible refine (ihB _ _ l0_7 _ _ l1_7 false _ ?side1 ?side2 ?side3 ?side4 A10.out).mono ?_); (case side1 => exact ZQ (Kd.C_below HR0_7.out HB.out)); (case side2 => exact HC0_7.out); (case side3 => exact ZQ (Kd.C_below HR1_7.out HB.out)); (case side4 => exact HC1_7.out); rintro e w35 ⟨rfl, hb⟩; refine ⟨_, rfl, ?_⟩; replace BK167 := ZW BK167 hb; replace BK168 := ZW BK168 hb; replace HB := ZT HB hb; clear hb))
 go_ret
 exact ⟨ZE, ZB⟩))
 ·(
 replace c9 := Bool.eq_false_iff.mpr c9
 subst c9
 have H1 := H; rw [if_neg ZFT] at H1
 clear H
 have H := H1
 clear H1
 obtain rfl := Option.some.inj H
 go_enter Try.func31, Try.ntmps31
 go_wp2_with (first | ((with_reducible refine gate_dst (N := 2) rfl ?_); refine ZX (N := 2) (cs := #[.int .i64 a0_0, .int .i64 a0_1, .int .i64 a0_2, .int .i64 a0_3, .int .i64 a0_4, .int .i64 a0_5, .slice A0_6 l0_6.length c0_6, .slice A0_7 l0_7.length c0_7]) (t := 50) ?_; intro gb167 hg w36 hbox hb; have BK167 := AM (hbox); have GW167 : Aside0 (w.heap.size ≤ gb167) := ZS hg; have GE167 : Aside0 (w.heap.size ≤ gb167) := ZS hg; replace HB := ZT HB hb; clear hb hbox hg) | ((with_reducible refine gate_dst (N := 3) rfl ?_); refine ZX (N := 3) (cs := #[.int .i64 a1_0, .int .i64 a1_1, .int .i64 a1_2, .int .i64 a1_3, .int .i64 a1_4, .int .i64 a1_5, .slice A1_6 l1_6.length c1_6, .slice A1_7 l1_7.length c1_7]) (t := 50) ?_; intro gb168 hg w37 hbox hb; have BK168 := AM (hbox); have GW168 : Aside0 (w.heap.size ≤ gb168) := ZS hg; have GE168 : Aside0 (w.heap.size ≤ gb168) := ZS hg; have NB167_168 : Aside0 (gb167 ≠ gb168) := ZN hg BK167; have NB168_167 : Aside0 (gb168 ≠ gb167) := ZM hg BK167; replace BK167 := ZW BK167 hb; replace HB := ZT HB hb; clear hb hbox hg; have hnb38 := NB167_168.out; have hnc38 := NB168_167.out; have hcz39 := ZC8 w37 BK167; have hfz39 := ZF8 BK167; have hcz40 := ZC8 w37 BK168; have hfz40 := ZF8 BK168) | ((with_reducible refine gate_callee (f := 60) rfl ?_); refine ZGL (some 19) Try.func60 #[.agg #[.int .i64 a0_2, .int .i64 a0_3, .int .i64 a0_4], .agg #[.int .i64 a1_2, .int .i64 a1_3, .int .i64 a1_4]] ?_; (with_reducible refine (laws_eqVal.calls a0_2 a0_3 a0_4 a1_2 a1_3 a1_4 true _ A5.out).mono ?_); rintro e w41 ⟨rfl, hb⟩; refine ⟨_, rfl, ?_⟩; replace BK167 := ZW BK167 hb; replace BK168 := ZW BK168 hb; replace HB := ZT HB hb; clear hb; have hcz42 := ZC8 w41 BK167; have hfz42 := ZF8 BK167; have hcz43 := ZC8 w41 BK168; have hfz43 := ZF8 BK168) | ((with_reducible refine gate_callee (f := 42) rfl ?_); refine ZGL (some 30) Try.func42 #[.slice A0_6 l0_6.length c0_6, .slice A1_6 l1_6.length c1_6] ?_; (with_reducible refine (ihB _ _ l0_6 _ _ l1_6 false _ ?side1 ?side2 ?side3 ?side4 A8.out).mono ?_); (case side1 => exact ZQ (Kd.C_below HR0_6.out HB.out)); (case side2 => exact HC0_6.out); (case side3 => exact ZQ (Kd.C_below HR1_6.out HB.out)); (case side4 => exact HC1_6.out); rintro e w44 ⟨rfl, hb⟩; refine ⟨_, rfl, ?_⟩; replace BK167 := ZW BK167 hb; replace BK168 := ZW BK168 hb; replace HB := ZT HB hb; clear hb))
 go_ret
 exact ⟨ZE, ZB⟩))
 ·(
 rw [if_neg c7] at H
 have c7b0 := beq_eq_false_iff_ne.mpr c7
 have c7b1 := bne_iff_ne.mpr c7
 obtain rfl := Option.some.inj H
 go_enter Try.func31, Try.ntmps31
 go_wp2_with (first | ((with_reducible refine gate_dst (N := 2) rfl ?_); refine ZX (N := 2) (cs := #[.int .i64 a0_0, .int .i64 a0_1, .int .i64 a0_2, .int .i64 a0_3, .int .i64 a0_4, .int .i64 a0_5, .slice A0_6 l0_6.length c0_6, .slice A0_7 l0_7.length c0_7]) (t := 50) ?_; intro gb167 hg w45 hbox hb; have BK167 := AM (hbox); have GW167 : Aside0 (w.heap.size ≤ gb167) := ZS hg; have GE167 : Aside0 (w.heap.size ≤ gb167) := ZS hg; replace HB := ZT HB hb; clear hb hbox hg) | ((with_reducible refine gate_dst (N := 3) rfl ?_); refine ZX (N := 3) (cs := #[.int .i64 a1_0, .int .i64 a1_1, .int .i64 a1_2, .int .i64 a1_3, .int .i64 a1_4, .int .i64 a1_5, .slice A1_6 l1_6.length c1_6, .slice A1_7 l1_7.length c1_7]) (t := 50) ?_; intro gb168 hg w46 hbox hb; have BK168 := AM (hbox); have GW168 : Aside0 (w.heap.size ≤ gb168) := ZS hg; have GE168 : Aside0 (w.heap.size ≤ gb168) := ZS hg; have NB167_168 : Aside0 (gb167 ≠ gb168) := ZN hg BK167; have NB168_167 : Aside0 (gb168 ≠ gb167) := ZM hg BK167; replace BK167 := ZW BK167 hb; replace HB := ZT HB hb; clear hb hbox hg; have hnb47 := NB167_168.out; have hnc47 := NB168_167.out; have hcz48 := ZC8 w46 BK167; have hfz48 := ZF8 BK167; have hcz49 := ZC8 w46 BK168; have hfz49 := ZF8 BK168) | ((with_reducible refine gate_callee (f := 60) rfl ?_); refine ZGL (some 19) Try.func60 #[.agg #[.int .i64 a0_2, .int .i64 a0_3, .int .i64 a0_4], .agg #[.int .i64 a1_2, .int .i64 a1_3, .int .i64 a1_4]] ?_; (with_reducible refine (laws_eqVal.calls a0_2 a0_3 a0_4 a1_2 a1_3 a1_4 true _ A5.out).mono ?_); rintro e w50 ⟨rfl, hb⟩; refine ⟨_, rfl, ?_⟩; replace BK167 := ZW BK167 hb; replace BK168 := ZW BK168 hb; replace HB := ZT HB hb; clear hb; have hcz51 := ZC8 w50 BK167; have hfz51 := ZF8 BK167; have hcz52 := ZC8 w50 BK168; have hfz52 := ZF8 BK168))
 go_ret
 exact ⟨ZE, ZB⟩))
 ·(
 replace c6 := Bool.eq_false_iff.mpr c6
 subst c6
 have H1 := H; rw [if_neg ZFT] at H1
 clear H
 have H := H1
 clear H1
 obtain rfl := Option.some.inj H
 go_enter Try.func31, Try.ntmps31
 go_wp2_with (first | ((with_reducible refine gate_dst (N := 2) rfl ?_); refine ZX (N := 2) (cs := #[.int .i64 a0_0, .int .i64 a0_1, .int .i64 a0_2, .int .i64 a0_3, .int .i64 a0_4, .int .i64 a0_5, .slice A0_6 l0_6.length c0_6, .slice A0_7 l0_7.length c0_7]) (t := 50) ?_; intro gb167 hg w53 hbox hb; have BK167 := AM (hbox); have GW167 : Aside0 (w.heap.size ≤ gb167) := ZS hg; have GE167 : Aside0 (w.heap.size ≤ gb167) := ZS hg; replace HB := ZT HB hb; clear hb hbox hg) | ((with_reducible refine gate_dst (N := 3) rfl ?_); refine ZX (N := 3) (cs := #[.int .i64 a1_0, .int .i64 a1_1, .int .i64 a1_2, .int .i64 a1_3, .int .i64 a1_4, .int .i64 a1_5, .slice A1_6 l1_6.length c1_6, .slice A1_7 l1_7.length c1_7]) (t := 50) ?_; intro gb168 hg w54 hbox hb; have BK168 := AM (hbox); have GW168 : Aside0 (w.heap.size ≤ gb168) := ZS hg; have GE168 : Aside0 (w.heap.size ≤ gb168) := ZS hg; have NB167_168 : Aside0 (gb167 ≠ gb168) := ZN hg BK167; have NB168_167 : Aside0 (gb168 ≠ gb167) := ZM hg BK167; replace BK167 := ZW BK167 hb; replace HB := ZT HB hb; clear hb hbox hg; have hnb55 := NB167_168.out; have hnc55 := NB168_167.out; have hcz56 := ZC8 w54 BK167; have hfz56 := ZF8 BK167; have hcz57 := ZC8 w54 BK168; have hfz57 := ZF8 BK168) | ((with_reducible refine gate_callee (f := 60) rfl ?_); refine ZGL (some 19) Try.func60 #[.agg #[.int .i64 a0_2, .int .i64 a0_3, .int .i64 a0_4], .agg #[.int .i64 a1_2, .int .i64 a1_3, .int .i64 a1_4]] ?_; (with_reducible refine (laws_eqVal.calls a0_2 a0_3 a0_4 a1_2 a1_3 a1_4 false _ A5.out).mono ?_); rintro e w58 ⟨rfl, hb⟩; refine ⟨_, rfl, ?_⟩; replace BK167 := ZW BK167 hb; replace BK168 := ZW BK168 hb; replace HB := ZT HB hb; clear hb))
 go_ret
 exact ⟨ZE, ZB⟩))
 ·(
 rw [if_neg c4] at H
 have c4b0 := beq_eq_false_iff_ne.mpr c4
 have c4b1 := bne_iff_ne.mpr c4
 obtain rfl := Option.some.inj H
 go_enter Try.func31, Try.ntmps31
 go_wp2_with (first | ((with_reducible refine gate_dst (N := 2) rfl ?_); refine ZX (N := 2) (cs := #[.int .i64 a0_0, .int .i64 a0_1, .int .i64 a0_2, .int .i64 a0_3, .int .i64 a0_4, .int .i64 a0_5, .slice A0_6 l0_6.length c0_6, .slice A0_7 l0_7.length c0_7]) (t := 50) ?_; intro gb167 hg w59 hbox hb; have BK167 := AM (hbox); have GW167 : Aside0 (w.heap.size ≤ gb167) := ZS hg; have GE167 : Aside0 (w.heap.size ≤ gb167) := ZS hg; replace HB := ZT HB hb; clear hb hbox hg) | ((with_reducible refine gate_dst (N := 3) rfl ?_); refine ZX (N := 3) (cs := #[.int .i64 a1_0, .int .i64 a1_1, .int .i64 a1_2, .int .i64 a1_3, .int .i64 a1_4, .int .i64 a1_5, .slice A1_6 l1_6.length c1_6, .slice A1_7 l1_7.length c1_7]) (t := 50) ?_; intro gb168 hg w60 hbox hb; have BK168 := AM (hbox); have GW168 : Aside0 (w.heap.size ≤ gb168) := ZS hg; have GE168 : Aside0 (w.heap.size ≤ gb168) := ZS hg; have NB167_168 : Aside0 (gb167 ≠ gb168) := ZN hg BK167; have NB168_167 : Aside0 (gb168 ≠ gb167) := ZM hg BK167; replace BK167 := ZW BK167 hb; replace HB := ZT HB hb; clear hb hbox hg; have hnb61 := NB167_168.out; have hnc61 := NB168_167.out; have hcz62 := ZC8 w60 BK167; have hfz62 := ZF8 BK167; have hcz63 := ZC8 w60 BK168; have hfz63 := ZF8 BK168))
 go_ret
 exact ⟨ZE, ZB⟩))
 ·(
 rw [if_neg c3] at H
 have c3b0 := beq_eq_false_iff_ne.mpr c3
 have c3b1 := bne_iff_ne.mpr c3
 obtain rfl := Option.some.inj H
 go_enter Try.func31, Try.ntmps31
 go_wp2_with (first | ((with_reducible refine gate_dst (N := 2) rfl ?_); refine ZX (N := 2) (cs := #[.int .i64 a0_0, .int .i64 a0_1, .int .i64 a0_2, .int .i64 a0_3, .int .i64 a0_4, .int .i64 a0_5, .slice A0_6 l0_6.length c0_6, .slice A0_7 l0_7.length c0_7]) (t := 50) ?_; intro gb167 hg w64 hbox hb; have BK167 := AM (hbox); have GW167 : Aside0 (w.heap.size ≤ gb167) := ZS hg; have GE167 : Aside0 (w.heap.size ≤ gb167) := ZS hg; replace HB := ZT HB hb; clear hb hbox hg) | ((with_reducible refine gate_dst (N := 3) rfl ?_); refine ZX (N := 3) (cs := #[.int .i64 a1_0, .int .i64 a1_1, .int .i64 a1_2, .int .i64 a1_3, .int .i64 a1_4, .int .i64 a1_5, .slice A1_6 l1_6.length c1_6, .slice A1_7 l1_7.length c1_7]) (t := 50) ?_; intro gb168 hg w65 hbox hb; have BK168 := AM (hbox); have GW168 : Aside0 (w.heap.size ≤ gb168) := ZS hg; have GE168 : Aside0 (w.heap.size ≤ gb168) := ZS hg; have NB167_168 : Aside0 (gb167 ≠ gb168) := ZN hg BK167; have NB168_167 : Aside0 (gb168 ≠ gb167) := ZM hg BK167; replace BK167 := ZW BK167 hb; replace HB := ZT HB hb; clear hb hbox hg; have hnb66 := NB167_168.out; have hnc66 := NB168_167.out; have hcz67 := ZC8 w65 BK167; have hfz67 := ZF8 BK167; have hcz68 := ZC8 w65 BK168; have hfz68 := ZF8 BK168))
 go_ret
 exact ⟨ZE, ZB⟩)

/-! ### laws_eqStepS: function 42 -/
mutual
def laws_eqStepS.l0 : Nat → List (S50) → List (S50) → Int → Option (Bool)
 | 0, _, _, _ => none
 | k + 1, x0, x1, x5 => if x5 < (x0.length : Int) then (if 0 ≤ x5 then (if x5 < (x1.length : Int) then ((laws_eqStep.g k (laws_eqStepS.f k) ((rd_T50 x0 x5).f0) ((rd_T50 x0 x5).f1) ((rd_T50 x0 x5).f2.f0) ((rd_T50 x0 x5).f2.f1) ((rd_T50 x0 x5).f2.f2) ((rd_T50 x0 x5).f3) ((rd_T50 x0 x5).f4) ((rd_T50 x0 x5).f5) ((rd_T50 x1 x5).f0) ((rd_T50 x1 x5).f1) ((rd_T50 x1 x5).f2.f0) ((rd_T50 x1 x5).f2.f1) ((rd_T50 x1 x5).f2.f2) ((rd_T50 x1 x5).f3) ((rd_T50 x1 x5).f4) ((rd_T50 x1 x5).f5)).bind fun t174 => (if t174 = true then (laws_eqStepS.l0 k x0 x1 (wrap64 (x5 + 1))) else (some false))) else (none)) else (none)) else (some true)
def laws_eqStepS.f : Nat → List (S50) → List (S50) → Option (Bool)
 | 0, _, _ => none
 | k + 1, l0, l1 => if (l0.length : Int) = (l1.length : Int) then (laws_eqStepS.l0 k l0 l1 0) else (some false)
end
def laws_eqStepS.T6 : Bool × List (List Nat × List Nat) := (true, [([], []), ([], []), ([0, 1], [0, 1]), ([2], [2]), ([], []), ([], []), ([4, 5], [4, 5]), ([6], [6]), ([3, 7], [3, 7]), ([8], [8])])
def laws_eqStepS.B6 : List Nat := [0, 0, 3, 7, 0, 0, 48, 112, 255, 511]
theorem laws_eqStepS.tab6 : rtab .any (opsOf Try.f42 6) = laws_eqStepS.T6 := by kernel_rfl
theorem laws_eqStepS.bits6 : waitsOk laws_eqStepS.T6.2 laws_eqStepS.B6 = true := by kernel_rfl
theorem laws_eqStep.calls_of {K : Nat} (ih : ∀ m, m < K → ∀ (A0 : Option Addr) (c0 : Nat) (l0 : List (S50)) (A1 : Option Addr) (c1 : Nat) (l1 : List (S50)) (r : Bool) (w : World) (hr0 : Kd.C k50 w A0 l0.length l0) (hc0 : l0.length ≤ c0) (hr1 : Kd.C k50 w A1 l1.length l1) (hc1 : l1.length ≤ c1) (h : laws_eqStepS.f m l0 l1 = some r),
  Calls Try.prog 42 #[.slice A0 l0.length c0, .slice A1 l1.length c1] w fun e w' => e = .returned (.bool r) ∧ Below w.heap.size w w') (k : Nat) (hk : k < K) (a0_0 : Int) (a0_1 : Int) (a0_2 : Int) (a0_3 : Int) (a0_4 : Int) (a0_5 : Int) (A0_6 : Option Addr) (c0_6 : Nat) (l0_6 : List (S50)) (A0_7 : Option Addr) (c0_7 : Nat) (l0_7 : List (S50)) (a1_0 : Int) (a1_1 : Int) (a1_2 : Int) (a1_3 : Int) (a1_4 : Int) (a1_5 : Int) (A1_6 : Option Addr) (c1_6 : Nat) (l1_6 : List (S50)) (A1_7 : Option Addr) (c1_7 : Nat) (l1_7 : List (S50)) (r : Bool) (w : World) (hr0_6 : Kd.C k50 w A0_6 l0_6.length l0_6) (hc0_6 : l0_6.length ≤ c0_6) (hr0_7 : Kd.C k50 w A0_7 l0_7.length l0_7) (hc0_7 : l0_7.length ≤ c0_7) (hr1_6 : Kd.C k50 w A1_6 l1_6.length l1_6) (hc1_6 : l1_6.length ≤ c1_6) (hr1_7 : Kd.C k50 w A1_7 l1_7.length l1_7) (hc1_7 : l1_7.length ≤ c1_7) (h : laws_eqStep.g k (laws_eqStepS.f k) a0_0 a0_1 a0_2 a0_3 a0_4 a0_5 l0_6 l0_7 a1_0 a1_1 a1_2 a1_3 a1_4 a1_5 l1_6 l1_7 = some r) :
  Calls Try.prog 31 #[.agg #[.int .i64 a0_0, .int .i64 a0_1, .int .i64 a0_2, .int .i64 a0_3, .int .i64 a0_4, .int .i64 a0_5, .slice A0_6 l0_6.length c0_6, .slice A0_7 l0_7.length c0_7], .agg #[.int .i64 a1_0, .int .i64 a1_1, .int .i64 a1_2, .int .i64 a1_3, .int .i64 a1_4, .int .i64 a1_5, .slice A1_6 l1_6.length c1_6, .slice A1_7 l1_7.length c1_7]] w fun e w' => e = .returned (.bool r) ∧ Below w.heap.size w w' := laws_eqStep.calls_g k (laws_eqStepS.f k) (ih k hk) a0_0 a0_1 a0_2 a0_3 a0_4 a0_5 A0_6 c0_6 l0_6 A0_7 c0_7 l0_7 a1_0 a1_1 a1_2 a1_3 a1_4 a1_5 A1_6 c1_6 l1_6 A1_7 c1_7 l1_7 r w hr0_6 hc0_6 hr0_7 hc0_7 hr1_6 hc1_6 hr1_7 hc1_7 h
theorem laws_eqStepS.calls (k : Nat) : ∀ (A0 : Option Addr) (c0 : Nat) (l0 : List (S50)) (A1 : Option Addr) (c1 : Nat) (l1 : List (S50)) (r : Bool) (w : World) (hr0 : Kd.C k50 w A0 l0.length l0) (hc0 : l0.length ≤ c0) (hr1 : Kd.C k50 w A1 l1.length l1) (hc1 : l1.length ≤ c1) (h : laws_eqStepS.f k l0 l1 = some r),
  Calls Try.prog 42 #[.slice A0 l0.length c0, .slice A1 l1.length c1] w fun e w' => e = .returned (.bool r) ∧ Below w.heap.size w w' := by
 induction k using Nat.strongRecOn with
 | _ k ih =>
 intro A0 c0 l0 A1 c1 l1 r w hr0 hc0 hr1 hc1 h
 cases k with
 | zero => exact absurd h (by simp [laws_eqStepS.f])
 | succ k =>
 simp only [laws_eqStepS.f] at h
 have hu50 := Try.underlying50
 have HR0 := AM hr0
 have HC0 := AM hc0
 clear hr0 hc0
 have HR1 := AM hr1
 have HC1 := AM hc1
 clear hr1 hc1
 have HB := AM (Below.refl w.heap.size w)
 have H : (if (l0.length : Int) = (l1.length : Int) then (laws_eqStepS.l0 k l0 l1 0) else (some false)) = some r := h
 clear h
 by_cases c3 : (l0.length : Int) = (l1.length : Int)
 ·(
 rw [if_pos c3] at H
 have c3b0 := beq_iff_eq.mpr c3
 have c3b1 := bne_eq_false_iff_eq.mpr c3
 have c3b2 : (l0.length == l1.length) = true := by first | simpa using c3 | (simp at c3 ⊢; omega)
 clear c3
 have H' := AM H
 clear H
 go_enter Try.func42, Try.ntmps42
 go_wp2
 go_loopg [5] k (fun kq v5 w' => ∃ (x5_1 : Int), v5 = .int .i64 x5_1 ∧ Aside0 (laws_eqStepS.l0 kq l0 l1 x5_1 = some r) ∧ Aside0 (kq ≤ k) ∧ Aside0 (Below w.heap.size w w'))
 case atStart => exact ⟨(0), (by first | rfl | (simp; done) | (simp [*]; done)), H', ⟨Nat.le_refl _⟩, ⟨ZB⟩⟩
 case round => (
 clear H'
 try clear c1
 try clear p2
 try clear c3
 try clear c3b0
 try clear c3b1
 try clear c3b2
 obtain ⟨x5_1, rfl, HA, HK1, HB⟩ := hrel
 cases gk with
 | zero => exact absurd HA.out (by simp [laws_eqStepS.l0])
 | succ k1 =>
  have H := HA.out
  clear HA
  simp only [laws_eqStepS.l0] at H
  by_cases c4 : x5_1 < (l0.length : Int)
  focus (
  rw [if_pos c4] at H
  have c4b0 := decide_eq_true c4
  clear c4
  by_cases c5 : 0 ≤ x5_1
  focus (
  rw [if_pos c5] at H
  have c5b0 := decide_eq_true c5
  clear c5
  by_cases c6 : x5_1 < (l1.length : Int)
  focus (
  rw [if_pos c6] at H
  have c6b0 := decide_eq_true c6
  clear c6
  obtain ⟨t174, A7, H⟩ := ZOB H; try dsimp only at H
  by_cases c8 : t174 = true
  focus (
  subst c8
  have H1 := H; rw [if_pos rfl] at H1
  clear H
  have H := H1
  clear H1
  have H' := AM H
  clear H
  have tag0_ : Aside0 True := ⟨trivial⟩)
  rotate_left
  focus (
  replace c8 := Bool.eq_false_iff.mpr c8
  subst c8
  have H1 := H; rw [if_neg ZFT] at H1
  clear H
  have H := H1
  clear H1
  obtain rfl := Option.some.inj H
  have tag1_ : Aside0 True := ⟨trivial⟩)
  rotate_left)
  rotate_left 2
  focus (
  exact ZNE H c6))
  rotate_left 2
  focus (
  exact ZNE H c5))
  rotate_left 2
  focus (
  rw [if_neg c4] at H
  have c4b0 := decide_eq_false c4
  clear c4
  obtain rfl := Option.some.inj H
  have tag2_ : Aside0 True := ⟨trivial⟩)
  rotate_left
  all_goals (
  first
  | (
  (first | (have z_ := tag0_; clear z_) | (have z_ := tag1_; clear z_))
  try go_wp2
  replace HB := AM (below_drew1 HB.out)
  have pq0 : 0 ≤ (x5_1 : Int) := ZD
  have qq0 : x5_1 < (l0.length : Int) := ZD
  obtain ⟨adq0, Aq0_6, cq0_6, Aq0_7, cq0_7, eq0, hxq0_0, hxq0_1, hxq0_2, hxq0_3, hxq0_4, hxq0_5, hxq0_6, hxq0_7, hlq0_6, hiq0_6, hlq0_7, hiq0_7⟩ := at_T50 HR0.out x5_1 pq0 qq0
  have hwq0_7 := hxq0_7
  have hwq0_6 := hxq0_6
  have hwq0_5 := hxq0_5
  have hwq0_4 := hxq0_4
  have hwq0_3 := hxq0_3
  have hwq0_2 := hxq0_2
  have hwq0_1 := hxq0_1
  have hwq0_0 := hxq0_0
  cases eq0
  replace hxq0_0 := ZHX HB hxq0_0
  replace hxq0_1 := ZHX HB hxq0_1
  replace hxq0_2 := ZHX HB hxq0_2
  replace hxq0_3 := ZHX HB hxq0_3
  replace hxq0_4 := ZHX HB hxq0_4
  replace hxq0_5 := ZHX HB hxq0_5
  replace hxq0_6 := ZHX HB hxq0_6
  replace hxq0_7 := ZHX HB hxq0_7
  have HRq0_6 := AM hiq0_6
  have HCq0_6 := AM hlq0_6
  clear hiq0_6 hlq0_6
  have HRq0_7 := AM hiq0_7
  have HCq0_7 := AM hlq0_7
  clear hiq0_7 hlq0_7
  replace pq0 := eq_true pq0
  replace qq0 := eq_true qq0
  have pq1 : 0 ≤ (x5_1 : Int) := ZD
  have qq1 : x5_1 < (l1.length : Int) := ZD
  obtain ⟨adq1, Aq1_6, cq1_6, Aq1_7, cq1_7, eq1, hxq1_0, hxq1_1, hxq1_2, hxq1_3, hxq1_4, hxq1_5, hxq1_6, hxq1_7, hlq1_6, hiq1_6, hlq1_7, hiq1_7⟩ := at_T50 HR1.out x5_1 pq1 qq1
  have hwq1_7 := hxq1_7
  have hwq1_6 := hxq1_6
  have hwq1_5 := hxq1_5
  have hwq1_4 := hxq1_4
  have hwq1_3 := hxq1_3
  have hwq1_2 := hxq1_2
  have hwq1_1 := hxq1_1
  have hwq1_0 := hxq1_0
  cases eq1
  replace hxq1_0 := ZHX HB hxq1_0
  replace hxq1_1 := ZHX HB hxq1_1
  replace hxq1_2 := ZHX HB hxq1_2
  replace hxq1_3 := ZHX HB hxq1_3
  replace hxq1_4 := ZHX HB hxq1_4
  replace hxq1_5 := ZHX HB hxq1_5
  replace hxq1_6 := ZHX HB hxq1_6
  replace hxq1_7 := ZHX HB hxq1_7
  have HRq1_6 := AM hiq1_6
  have HCq1_6 := AM hlq1_6
  clear hiq1_6 hlq1_6
  have HRq1_7 := AM hiq1_7
  have HCq1_7 := AM hlq1_7
  clear hiq1_7 hlq1_7
  replace pq1 := eq_true pq1
  replace qq1 := eq_true qq1
  refine start_ (n := 10) (S := fun w' => w'.cell? (adq0.add ((x5_1).toNat * 8)) = some (.int .i64 ((rd_T50 l0 x5_1).f0)) ∧ w'.cell? ⟨(adq0.add ((x5_1).toNat * 8)).block, (adq0.add ((x5_1).toNat * 8)).off + 1, none⟩ = some (.int .i64 ((rd_T50 l0 x5_1).f1)) ∧ w'.cell? ⟨(adq0.add ((x5_1).toNat * 8)).block, (adq0.add ((x5_1).toNat * 8)).off + 2, none⟩ = some (.int .i64 ((rd_T50 l0 x5_1).f2.f0)) ∧ w'.cell? ⟨(adq0.add ((x5_1).toNat * 8)).block, (adq0.add ((x5_1).toNat * 8)).off + 3, none⟩ = some (.int .i64 ((rd_T50 l0 x5_1).f2.f1)) ∧ w'.cell? ⟨(adq0.add ((x5_1).toNat * 8)).block, (adq0.add ((x5_1).toNat * 8)).off + 4, none⟩ = some (.int .i64 ((rd_T50 l0 x5_1).f2.f2)) ∧ w'.cell? ⟨(adq0.add ((x5_1).toNat * 8)).block, (adq0.add ((x5_1).toNat * 8)).off + 5, none⟩ = some (.int .i64 ((rd_T50 l0 x5_1).f3)) ∧ w'.cell? ⟨(adq0.add ((x5_1).toNat * 8)).block, (adq0.add ((x5_1).toNat * 8)).off + 6, none⟩ = some (.slice Aq0_6 ((rd_T50 l0 x5_1).f4).length cq0_6) ∧ w'.cell? ⟨(adq0.add ((x5_1).toNat * 8)).block, (adq0.add ((x5_1).toNat * 8)).off + 7, none⟩ = some (.slice Aq0_7 ((rd_T50 l0 x5_1).f5).length cq0_7) ∧ w'.cell? (adq1.add ((x5_1).toNat * 8)) = some (.int .i64 ((rd_T50 l1 x5_1).f0)) ∧ w'.cell? ⟨(adq1.add ((x5_1).toNat * 8)).block, (adq1.add ((x5_1).toNat * 8)).off + 1, none⟩ = some (.int .i64 ((rd_T50 l1 x5_1).f1)) ∧ w'.cell? ⟨(adq1.add ((x5_1).toNat * 8)).block, (adq1.add ((x5_1).toNat * 8)).off + 2, none⟩ = some (.int .i64 ((rd_T50 l1 x5_1).f2.f0)) ∧ w'.cell? ⟨(adq1.add ((x5_1).toNat * 8)).block, (adq1.add ((x5_1).toNat * 8)).off + 3, none⟩ = some (.int .i64 ((rd_T50 l1 x5_1).f2.f1)) ∧ w'.cell? ⟨(adq1.add ((x5_1).toNat * 8)).block, (adq1.add ((x5_1).toNat * 8)).off + 4, none⟩ = some (.int .i64 ((rd_T50 l1 x5_1).f2.f2)) ∧ w'.cell? ⟨(adq1.add ((x5_1).toNat * 8)).block, (adq1.add ((x5_1).toNat * 8)).off + 5, none⟩ = some (.int .i64 ((rd_T50 l1 x5_1).f3)) ∧ w'.cell? ⟨(adq1.add ((x5_1).toNat * 8)).block, (adq1.add ((x5_1).toNat * 8)).off + 6, none⟩ = some (.slice Aq1_6 ((rd_T50 l1 x5_1).f4).length cq1_6) ∧ w'.cell? ⟨(adq1.add ((x5_1).toNat * 8)).block, (adq1.add ((x5_1).toNat * 8)).off + 7, none⟩ = some (.slice Aq1_7 ((rd_T50 l1 x5_1).f5).length cq1_7)) (ds := []) #[F,F,F,F,F,F,F,F,F,F] (by kernel_rfl) rfl rfl ⟨((HB.out.cell (World.block_lt_of_cell? w _ hwq0_0)).trans hwq0_0), ((HB.out.cell (World.block_lt_of_cell? w _ hwq0_1)).trans hwq0_1), ((HB.out.cell (World.block_lt_of_cell? w _ hwq0_2)).trans hwq0_2), ((HB.out.cell (World.block_lt_of_cell? w _ hwq0_3)).trans hwq0_3), ((HB.out.cell (World.block_lt_of_cell? w _ hwq0_4)).trans hwq0_4), ((HB.out.cell (World.block_lt_of_cell? w _ hwq0_5)).trans hwq0_5), ((HB.out.cell (World.block_lt_of_cell? w _ hwq0_6)).trans hwq0_6), ((HB.out.cell (World.block_lt_of_cell? w _ hwq0_7)).trans hwq0_7), ((HB.out.cell (World.block_lt_of_cell? w _ hwq1_0)).trans hwq1_0), ((HB.out.cell (World.block_lt_of_cell? w _ hwq1_1)).trans hwq1_1), ((HB.out.cell (World.block_lt_of_cell? w _ hwq1_2)).trans hwq1_2), ((HB.out.cell (World.block_lt_of_cell? w _ hwq1_3)).trans hwq1_3), ((HB.out.cell (World.block_lt_of_cell? w _ hwq1_4)).trans hwq1_4), ((HB.out.cell (World.block_lt_of_cell? w _ hwq1_5)).trans hwq1_5), ((HB.out.cell (World.block_lt_of_cell? w _ hwq1_6)).trans hwq1_6), ((HB.out.cell (World.block_lt_of_cell? w _ hwq1_7)).trans hwq1_7)⟩ (fun hHeld => ?_); refine with_tabW laws_eqStepS.tab6 laws_eqStepS.bits6 (fun HT_ HW_ => ?_)
  generalize wr.drew = wq0 at HB HRq0_6 HRq0_7 HRq1_6 HRq1_7 hxq0_0 hxq0_1 hxq0_2 hxq0_3 hxq0_4 hxq0_5 hxq0_6 hxq0_7 hxq1_0 hxq1_1 hxq1_2 hxq1_3 hxq1_4 hxq1_5 hxq1_6 hxq1_7 hHeld ⊢
  refine ZU 0 17 #[T,F,F,F,F,F,F,F,F,F] ?_
  refine ZU 1 18 #[T,T,F,F,F,F,F,F,F,F] ?_
  refine ZU 2 19 #[T,T,T,F,F,F,F,F,F,F] ?_
  refine ZU 4 21 #[T,T,T,F,T,F,F,F,F,F] ?_
  refine ZU 5 22 #[T,T,T,F,T,T,F,F,F,F] ?_
  refine ZU 6 23 #[T,T,T,F,T,T,T,F,F,F] ?_
  refine ZTK 3 20 #[T,T,T,T,T,T,T,F,F,F] hHeld ?_
  refine ZTK 7 24 #[T,T,T,T,T,T,T,T,F,F] hHeld ?_
  refine one_ (i := 8) (N := some 25) #[T,T,T,T,T,T,T,T,T,F] rfl rfl (one_of HT_.out (by kernel_rfl)) (by decide) (fun K hK => ?_)
  refine ZGO Try.func31 #[.agg #[.int .i64 ((rd_T50 l0 x5_1).f0), .int .i64 ((rd_T50 l0 x5_1).f1), .int .i64 ((rd_T50 l0 x5_1).f2.f0), .int .i64 ((rd_T50 l0 x5_1).f2.f1), .int .i64 ((rd_T50 l0 x5_1).f2.f2), .int .i64 ((rd_T50 l0 x5_1).f3), .slice Aq0_6 ((rd_T50 l0 x5_1).f4).length cq0_6, .slice Aq0_7 ((rd_T50 l0 x5_1).f5).length cq0_7], .agg #[.int .i64 ((rd_T50 l1 x5_1).f0), .int .i64 ((rd_T50 l1 x5_1).f1), .int .i64 ((rd_T50 l1 x5_1).f2.f0), .int .i64 ((rd_T50 l1 x5_1).f2.f1), .int .i64 ((rd_T50 l1 x5_1).f2.f2), .int .i64 ((rd_T50 l1 x5_1).f3), .slice Aq1_6 ((rd_T50 l1 x5_1).f4).length cq1_6, .slice Aq1_7 ((rd_T50 l1 x5_1).f5).length cq1_7]] ?_
  first
  | (
  (have z_ := tag0_; clear z_)
  with_reducible refine ((laws_eqStep.calls_of ih) k1 (by have := HK1.out; omega) ((rd_T50 l0 x5_1).f0) ((rd_T50 l0 x5_1).f1) ((rd_T50 l0 x5_1).f2.f0) ((rd_T50 l0 x5_1).f2.f1) ((rd_T50 l0 x5_1).f2.f2) ((rd_T50 l0 x5_1).f3) _ _ ((rd_T50 l0 x5_1).f4) _ _ ((rd_T50 l0 x5_1).f5) ((rd_T50 l1 x5_1).f0) ((rd_T50 l1 x5_1).f1) ((rd_T50 l1 x5_1).f2.f0) ((rd_T50 l1 x5_1).f2.f1) ((rd_T50 l1 x5_1).f2.f2) ((rd_T50 l1 x5_1).f3) _ _ ((rd_T50 l1 x5_1).f4) _ _ ((rd_T50 l1 x5_1).f5) true _ ?side1 ?side2 ?side3 ?side4 ?side5 ?side6 ?side7 ?side8 A7.out).mono ?_
  (case side1 => exact ZQ (Kd.C_below HRq0_6.out HB.out))
  (case side2 => exact HCq0_6.out)
  (case side3 => exact ZQ (Kd.C_below HRq0_7.out HB.out))
  (case side4 => exact HCq0_7.out)
  (case side5 => exact ZQ (Kd.C_below HRq1_6.out HB.out))
  (case side6 => exact HCq1_6.out)
  (case side7 => exact ZQ (Kd.C_below HRq1_7.out HB.out))
  (case side8 => exact HCq1_7.out)
  rintro e wq1 ⟨rfl, hb⟩
  refine ⟨_, rfl, ?_⟩
  replace HB := ZT HB hb
  (try clear hb)
  (try clear hb2)
  (try clear hk)
  (try clear hi)
  refine hK.out _ _ ⟨((HB.out.cell (World.block_lt_of_cell? w _ hwq0_0)).trans hwq0_0), ((HB.out.cell (World.block_lt_of_cell? w _ hwq0_1)).trans hwq0_1), ((HB.out.cell (World.block_lt_of_cell? w _ hwq0_2)).trans hwq0_2), ((HB.out.cell (World.block_lt_of_cell? w _ hwq0_3)).trans hwq0_3), ((HB.out.cell (World.block_lt_of_cell? w _ hwq0_4)).trans hwq0_4), ((HB.out.cell (World.block_lt_of_cell? w _ hwq0_5)).trans hwq0_5), ((HB.out.cell (World.block_lt_of_cell? w _ hwq0_6)).trans hwq0_6), ((HB.out.cell (World.block_lt_of_cell? w _ hwq0_7)).trans hwq0_7), ((HB.out.cell (World.block_lt_of_cell? w _ hwq1_0)).trans hwq1_0), ((HB.out.cell (World.block_lt_of_cell? w _ hwq1_1)).trans hwq1_1), ((HB.out.cell (World.block_lt_of_cell? w _ hwq1_2)).trans hwq1_2), ((HB.out.cell (World.block_lt_of_cell? w _ hwq1_3)).trans hwq1_3), ((HB.out.cell (World.block_lt_of_cell? w _ hwq1_4)).trans hwq1_4), ((HB.out.cell (World.block_lt_of_cell? w _ hwq1_5)).trans hwq1_5), ((HB.out.cell (World.block_lt_of_cell? w _ hwq1_6)).trans hwq1_6), ((HB.out.cell (World.block_lt_of_cell? w _ hwq1_7)).trans hwq1_7)⟩ (fun hHeld => ?_)
  clear hK K
  refine ZNO 25 ?_
  refine ZU 9 26 #[T,T,T,T,T,T,T,T,T,T] ?_
  refine done_ (done_of HT_.out (by kernel_rfl)) ?_
  try go_wp2
  go_roundg k1
  case measure => have := HK1.out; omega
  case rel => exact ⟨(wrap64 (x5_1 + 1)), (by first | rfl | (simp; done) | (simp [*]; done)), H', ⟨by have := HK1.out; omega⟩, ⟨ZB⟩⟩)
  | (
  (have z_ := tag1_; clear z_)
  with_reducible refine ((laws_eqStep.calls_of ih) k1 (by have := HK1.out; omega) ((rd_T50 l0 x5_1).f0) ((rd_T50 l0 x5_1).f1) ((rd_T50 l0 x5_1).f2.f0) ((rd_T50 l0 x5_1).f2.f1) ((rd_T50 l0 x5_1).f2.f2) ((rd_T50 l0 x5_1).f3) _ _ ((rd_T50 l0 x5_1).f4) _ _ ((rd_T50 l0 x5_1).f5) ((rd_T50 l1 x5_1).f0) ((rd_T50 l1 x5_1).f1) ((rd_T50 l1 x5_1).f2.f0) ((rd_T50 l1 x5_1).f2.f1) ((rd_T50 l1 x5_1).f2.f2) ((rd_T50 l1 x5_1).f3) _ _ ((rd_T50 l1 x5_1).f4) _ _ ((rd_T50 l1 x5_1).f5) false _ ?side1 ?side2 ?side3 ?side4 ?side5 ?side6 ?side7 ?side8 A7.out).mono ?_
  (case side1 => exact ZQ (Kd.C_below HRq0_6.out HB.out))
  (case side2 => exact HCq0_6.out)
  (case side3 => exact ZQ (Kd.C_below HRq0_7.out HB.out))
  (case side4 => exact HCq0_7.out)
  (case side5 => exact ZQ (Kd.C_below HRq1_6.out HB.out))
  (case side6 => exact HCq1_6.out)
  (case side7 => exact ZQ (Kd.C_below HRq1_7.out HB.out))
  (case side8 => exact HCq1_7.out)
  rintro e wq1 ⟨rfl, hb⟩
  refine ⟨_, rfl, ?_⟩
  replace HB := ZT HB hb
  (try clear hb)
  (try clear hb2)
  (try clear hk)
  (try clear hi)
  refine hK.out _ _ ⟨((HB.out.cell (World.block_lt_of_cell? w _ hwq0_0)).trans hwq0_0), ((HB.out.cell (World.block_lt_of_cell? w _ hwq0_1)).trans hwq0_1), ((HB.out.cell (World.block_lt_of_cell? w _ hwq0_2)).trans hwq0_2), ((HB.out.cell (World.block_lt_of_cell? w _ hwq0_3)).trans hwq0_3), ((HB.out.cell (World.block_lt_of_cell? w _ hwq0_4)).trans hwq0_4), ((HB.out.cell (World.block_lt_of_cell? w _ hwq0_5)).trans hwq0_5), ((HB.out.cell (World.block_lt_of_cell? w _ hwq0_6)).trans hwq0_6), ((HB.out.cell (World.block_lt_of_cell? w _ hwq0_7)).trans hwq0_7), ((HB.out.cell (World.block_lt_of_cell? w _ hwq1_0)).trans hwq1_0), ((HB.out.cell (World.block_lt_of_cell? w _ hwq1_1)).trans hwq1_1), ((HB.out.cell (World.block_lt_of_cell? w _ hwq1_2)).trans hwq1_2), ((HB.out.cell (World.block_lt_of_cell? w _ hwq1_3)).trans hwq1_3), ((HB.out.cell (World.block_lt_of_cell? w _ hwq1_4)).trans hwq1_4), ((HB.out.cell (World.block_lt_of_cell? w _ hwq1_5)).trans hwq1_5), ((HB.out.cell (World.block_lt_of_cell? w _ hwq1_6)).trans hwq1_6), ((HB.out.cell (World.block_lt_of_cell? w _ hwq1_7)).trans hwq1_7)⟩ (fun hHeld => ?_)
  clear hK K
  refine ZNO 25 ?_
  refine ZU 9 26 #[T,T,T,T,T,T,T,T,T,T] ?_
  refine done_ (done_of HT_.out (by kernel_rfl)) ?_
  try go_wp2
  go_ret
  exact ⟨ZE, ZB⟩))
  | (
  (have z_ := tag2_; clear z_)
  go_wp2
  go_ret
  exact ⟨ZE, ZB⟩))))
 ·(
 rw [if_neg c3] at H
 have c3b0 := beq_eq_false_iff_ne.mpr c3
 have c3b1 := bne_iff_ne.mpr c3
 have c3b2 : (l0.length == l1.length) = false := by first | simpa using c3 | (simp at c3 ⊢; omega)
 obtain rfl := Option.some.inj H
 go_enter Try.func42, Try.ntmps42
 go_wp2
 go_ret
 exact ⟨ZE, ZB⟩)

def laws_eqStep.f (k : Nat) := laws_eqStep.g k (laws_eqStepS.f k)
theorem laws_eqStep.calls (k : Nat) (a0_0 : Int) (a0_1 : Int) (a0_2 : Int) (a0_3 : Int) (a0_4 : Int) (a0_5 : Int) (A0_6 : Option Addr) (c0_6 : Nat) (l0_6 : List (S50)) (A0_7 : Option Addr) (c0_7 : Nat) (l0_7 : List (S50)) (a1_0 : Int) (a1_1 : Int) (a1_2 : Int) (a1_3 : Int) (a1_4 : Int) (a1_5 : Int) (A1_6 : Option Addr) (c1_6 : Nat) (l1_6 : List (S50)) (A1_7 : Option Addr) (c1_7 : Nat) (l1_7 : List (S50)) (r : Bool) (w : World) (hr0_6 : Kd.C k50 w A0_6 l0_6.length l0_6) (hc0_6 : l0_6.length ≤ c0_6) (hr0_7 : Kd.C k50 w A0_7 l0_7.length l0_7) (hc0_7 : l0_7.length ≤ c0_7) (hr1_6 : Kd.C k50 w A1_6 l1_6.length l1_6) (hc1_6 : l1_6.length ≤ c1_6) (hr1_7 : Kd.C k50 w A1_7 l1_7.length l1_7) (hc1_7 : l1_7.length ≤ c1_7) (h : laws_eqStep.f k a0_0 a0_1 a0_2 a0_3 a0_4 a0_5 l0_6 l0_7 a1_0 a1_1 a1_2 a1_3 a1_4 a1_5 l1_6 l1_7 = some r) :
  Calls Try.prog 31 #[.agg #[.int .i64 a0_0, .int .i64 a0_1, .int .i64 a0_2, .int .i64 a0_3, .int .i64 a0_4, .int .i64 a0_5, .slice A0_6 l0_6.length c0_6, .slice A0_7 l0_7.length c0_7], .agg #[.int .i64 a1_0, .int .i64 a1_1, .int .i64 a1_2, .int .i64 a1_3, .int .i64 a1_4, .int .i64 a1_5, .slice A1_6 l1_6.length c1_6, .slice A1_7 l1_7.length c1_7]] w fun e w' => e = .returned (.bool r) ∧ Below w.heap.size w w' := laws_eqStep.calls_g k (laws_eqStepS.f k) (laws_eqStepS.calls k) a0_0 a0_1 a0_2 a0_3 a0_4 a0_5 A0_6 c0_6 l0_6 A0_7 c0_7 l0_7 a1_0 a1_1 a1_2 a1_3 a1_4 a1_5 A1_6 c1_6 l1_6 A1_7 c1_7 l1_7 r w hr0_6 hc0_6 hr0_7 hc0_7 hr1_6 hc1_6 hr1_7 hc1_7 h

end Go.Proofs.Ytaflodibibbakaa.B
