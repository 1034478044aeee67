/- What Go functions compute, as Lean functions, and for each its contract: for every input at which the Lean function answers the call returns that; written by wip/tools/pr.py over the kit's print. -/
import Derived.Test.YtcffnnedghgmaaaAx0
import Derived.Test.YtcffnnedghgmaaaAx14
namespace Go.Proofs.Ytcffnnedghgmaaa.A
open Go.RowKit Go.Proofs.YtcffnnedghgmaaaW.PrintWords Go.Proofs.YtcffnnedghgmaaaW.PrintLast Go.Proofs.YtcffnnedghgmaaaW.PrintMore
attribute [local go_sem] max2_int min2_int max_two min_two max_three min_three max_four min_four   -- for this text's walks alone
set_option linter.unusedVariables false
set_option linter.unusedSimpArgs false

/-! ### laws_eqStep: function 65 -/
def laws_eqStep.g (k : Nat) (bf : List (S59) → List (S59) → Option (Bool)) (a0_0 : Int) (a0_1 : Int) (a0_2 : Int) (a0_3 : Int) (a0_4 : Int) (a0_5 : Int) (l0_6 : List (S59)) (l0_7 : List (S59)) (a1_0 : Int) (a1_1 : Int) (a1_2 : Int) (a1_3 : Int) (a1_4 : Int) (a1_5 : Int) (l1_6 : List (S59)) (l1_7 : List (S59)) : Option (Bool) := if a0_0 = a1_0 then (if a0_1 = a1_1 then ((laws_eqVal.f a0_2 a0_3 a0_4 a1_2 a1_3 a1_4).bind fun t238 => (if t238 = true then (if a0_5 = a1_5 then ((bf l0_6 l1_6).bind fun t239 => (if t239 = true then ((bf l0_7 l1_7).bind fun t240 => (if t240 = true then (some true) else (some false))) else (some false))) else (some false)) else (some false))) else (some false)) else (some false)
set_option maxHeartbeats 8000000 in
set_option maxRecDepth 100000 in
theorem laws_eqStep.calls_g (k : Nat) (bf : List (S59) → List (S59) → Option (Bool)) (ihB : ∀ (A0 : Option Addr) (c0 : Nat) (l0 : List (S59)) (A1 : Option Addr) (c1 : Nat) (l1 : List (S59)) (r : Bool) (w : World) (hr0 : Kd.C k59 w A0 l0.length l0) (hc0 : l0.length ≤ c0) (hr1 : Kd.C k59 w A1 l1.length l1) (hc1 : l1.length ≤ c1) (h : bf l0 l1 = some r),
  Calls Try.prog 99 #[.slice A0 l0.length c0, .slice A1 l1.length c1] w fun e w' => e = .returned (.bool r) ∧ Below w.heap.size w w') (a0_0 : Int) (a0_1 : Int) (a0_2 : Int) (a0_3 : Int) (a0_4 : Int) (a0_5 : Int) (A0_6 : Option Addr) (c0_6 : Nat) (l0_6 : List (S59)) (A0_7 : Option Addr) (c0_7 : Nat) (l0_7 : List (S59)) (a1_0 : Int) (a1_1 : Int) (a1_2 : Int) (a1_3 : Int) (a1_4 : Int) (a1_5 : Int) (A1_6 : Option Addr) (c1_6 : Nat) (l1_6 : List (S59)) (A1_7 : Option Addr) (c1_7 : Nat) (l1_7 : List (S59)) (r : Bool) (w : World) (hr0_6 : Kd.C k59 w A0_6 l0_6.length l0_6) (hc0_6 : l0_6.length ≤ c0_6) (hr0_7 : Kd.C k59 w A0_7 l0_7.length l0_7) (hc0_7 : l0_7.length ≤ c0_7) (hr1_6 : Kd.C k59 w A1_6 l1_6.length l1_6) (hc1_6 : l1_6.length ≤ c1_6) (hr1_7 : Kd.C k59 w A1_7 l1_7.length l1_7) (hc1_7 : l1_7.length ≤ c1_7) (h : laws_eqStep.g k bf a0_0 a0_1 a0_2 a0_3 a0_4 a0_5 l0_6 l0_7 a1_0 a1_1 a1_2 a1_3 a1_4 a1_5 l1_6 l1_7 = some r) :
  Calls Try.prog 65 #[.agg #[.int .i64 a0_0, .int .i64 a0_1, .int .i64 a0_2, .int .i64 a0_3, .int .i64 a0_4, .int .i64 a0_5, .slice A0_6 l0_6.length c0_6, .slice A0_7 l0_7.length c0_7], .agg #[.int .i64 a1_0, .int .i64 a1_1, .int .i64 a1_2, .int .i64 a1_3, .int .i64 a1_4, .int .i64 a1_5, .slice A1_6 l1_6.length c1_6, .slice A1_7 l1_7.length c1_7]] w fun e w' => e = .returned (.bool r) ∧ Below w.heap.size w w' := by
 have hu59 := Try.underlying59
 have hu57 := Try.underlying57
 have HR0_6 := Aside0.mk hr0_6
 have HC0_6 := Aside0.mk hc0_6
 clear hr0_6 hc0_6
 have HR0_7 := Aside0.mk hr0_7
 have HC0_7 := Aside0.mk hc0_7
 clear hr0_7 hc0_7
 have HR1_6 := Aside0.mk hr1_6
 have HC1_6 := Aside0.mk hc1_6
 clear hr1_6 hc1_6
 have HR1_7 := Aside0.mk hr1_7
 have HC1_7 := Aside0.mk hc1_7
 clear hr1_7 hc1_7
 have HB := Aside0.mk (Below.refl w.heap.size w)
 have H : (if a0_0 = a1_0 then (if a0_1 = a1_1 then ((laws_eqVal.f a0_2 a0_3 a0_4 a1_2 a1_3 a1_4).bind fun t238 => (if t238 = true then (if a0_5 = a1_5 then ((bf l0_6 l1_6).bind fun t239 => (if t239 = true then ((bf l0_7 l1_7).bind fun t240 => (if t240 = true then (some true) else (some false))) else (some false))) else (some false)) else (some false))) else (some false)) else (some false)) = some r := h
 clear h
 by_cases c3 : a0_0 = a1_0
 ·rw [if_pos c3] at H
  have c3b0 : (a0_0 == a1_0) = true := beq_iff_eq.mpr c3
  have c3b1 : (a0_0 != a1_0) = false := bne_eq_false_iff_eq.mpr c3
  clear c3
  by_cases c4 : a0_1 = a1_1
  ·rw [if_pos c4] at H
   have c4b0 : (a0_1 == a1_1) = true := beq_iff_eq.mpr c4
   have c4b1 : (a0_1 != a1_1) = false := bne_eq_false_iff_eq.mpr c4
   clear c4
   replace H := Option.bind_eq_some_iff.mp H
   obtain ⟨t238, A50, H⟩ := H
   replace H : (if t238 = true then (if a0_5 = a1_5 then ((bf l0_6 l1_6).bind fun t239 => (if t239 = true then ((bf l0_7 l1_7).bind fun t240 => (if t240 = true then (some true) else (some false))) else (some false))) else (some false)) else (some false)) = some r := H
   have A5 := Aside0.mk A50
   clear A50
   by_cases c6 : t238 = true
   ·subst c6
    have H1 : (if a0_5 = a1_5 then ((bf l0_6 l1_6).bind fun t239 => (if t239 = true then ((bf l0_7 l1_7).bind fun t240 => (if t240 = true then (some true) else (some false))) else (some false))) else (some false)) = some r := by rw [if_pos rfl] at H; exact H
    clear H
    have H := H1
    clear H1
    by_cases c7 : a0_5 = a1_5
    ·rw [if_pos c7] at H
     have c7b0 : (a0_5 == a1_5) = true := beq_iff_eq.mpr c7
     have c7b1 : (a0_5 != a1_5) = false := bne_eq_false_iff_eq.mpr c7
     clear c7
     replace H := Option.bind_eq_some_iff.mp H
     obtain ⟨t239, A80, H⟩ := H
     replace H : (if t239 = true then ((bf l0_7 l1_7).bind fun t240 => (if t240 = true then (some true) else (some false))) else (some false)) = some r := H
     have A8 := Aside0.mk A80
     clear A80
     by_cases c9 : t239 = true
     ·subst c9
      have H1 : ((bf l0_7 l1_7).bind fun t240 => (if t240 = true then (some true) else (some false))) = some r := by rw [if_pos rfl] at H; exact H
      clear H
      have H := H1
      clear H1
      replace H := Option.bind_eq_some_iff.mp H
      obtain ⟨t240, A100, H⟩ := H
      replace H : (if t240 = true then (some true) else (some false)) = some r := H
      have A10 := Aside0.mk A100
      clear A100
      by_cases c11 : t240 = true
      ·subst c11
       have H1 : (some true) = some r := by rw [if_pos rfl] at H; exact H
       clear H
       have H := H1
       clear H1
       obtain rfl := Option.some.inj H
       go_enter Try.func65, Try.ntmps65
       go_wp2_with (first | ((with_reducible refine gate_dst (N := 2) rfl ?_); refine ZX (N := 2) (cs := #[.int .i64 a0_0, .int .i64 a0_1, .int .i64 a0_2, .int .i64 a0_3, .int .i64 a0_4, .int .i64 a0_5, .slice A0_6 l0_6.length c0_6, .slice A0_7 l0_7.length c0_7]) (t := 59) ?_; intro gb236 hg w12 hbox hb; have BK236 := Aside0.mk (hbox); have GW236 : Aside0 (w.heap.size ≤ gb236) := ZS hg; have GE236 : Aside0 (w.heap.size ≤ gb236) := ZS hg; replace HB := ZT hb; clear hb hbox hg) | ((with_reducible refine gate_dst (N := 3) rfl ?_); refine ZX (N := 3) (cs := #[.int .i64 a1_0, .int .i64 a1_1, .int .i64 a1_2, .int .i64 a1_3, .int .i64 a1_4, .int .i64 a1_5, .slice A1_6 l1_6.length c1_6, .slice A1_7 l1_7.length c1_7]) (t := 59) ?_; intro gb237 hg w13 hbox hb; have BK237 := Aside0.mk (hbox); have GW237 : Aside0 (w.heap.size ≤ gb237) := ZS hg; have GE237 : Aside0 (w.heap.size ≤ gb237) := ZS hg; have NB236_237 : Aside0 (gb236 ≠ gb237) := ZN hg BK236; have NB237_236 : Aside0 (gb237 ≠ gb236) := ZM hg BK236; replace BK236 := ZW BK236 hb; replace HB := ZT hb; clear hb hbox hg; have hnb14 := NB236_237.out; have hnc14 := NB237_236.out; obtain ⟨hcz15_0, hcz15_1, hcz15_2, hcz15_3, hcz15_4, hcz15_5, hcz15_6, hcz15_7⟩ := ZC8 w13 BK236; obtain ⟨hfz15_0, hfz15_1, hfz15_2, hfz15_3, hfz15_4, hfz15_5, hfz15_6, hfz15_7⟩ := ZF8 BK236; obtain ⟨hcz16_0, hcz16_1, hcz16_2, hcz16_3, hcz16_4, hcz16_5, hcz16_6, hcz16_7⟩ := ZC8 w13 BK237; obtain ⟨hfz16_0, hfz16_1, hfz16_2, hfz16_3, hfz16_4, hfz16_5, hfz16_6, hfz16_7⟩ := ZF8 BK237) | ((with_reducible refine gate_callee (f := 114) rfl ?_); refine goesL_ (some 19) rfl rfl Try.func114 (by kernel_rfl) rfl #[.agg #[.int .i64 a0_2, .int .i64 a0_3, .int .i64 a0_4], .agg #[.int .i64 a1_2, .int .i64 a1_3, .int .i64 a1_4]] rfl ZG ?_; (with_reducible refine (laws_eqVal.calls a0_2 a0_3 a0_4 a1_2 a1_3 a1_4 true _ A5.out).mono ?_); rintro e w17 ⟨rfl, hb⟩; refine ⟨_, rfl, ?_⟩; replace BK236 := ZW BK236 hb; replace BK237 := ZW BK237 hb; replace HB := ZT hb; (try clear hb); (try clear hb2); (try clear hk); (try clear hi); obtain ⟨hcz18_0, hcz18_1, hcz18_2, hcz18_3, hcz18_4, hcz18_5, hcz18_6, hcz18_7⟩ := ZC8 w17 BK236; obtain ⟨hfz18_0, hfz18_1, hfz18_2, hfz18_3, hfz18_4, hfz18_5, hfz18_6, hfz18_7⟩ := ZF8 BK236; obtain ⟨hcz19_0, hcz19_1, hcz19_2, hcz19_3, hcz19_4, hcz19_5, hcz19_6, hcz19_7⟩ := ZC8 w17 BK237; obtain ⟨hfz19_0, hfz19_1, hfz19_2, hfz19_3, hfz19_4, hfz19_5, hfz19_6, hfz19_7⟩ := ZF8 BK237) | ((with_reducible refine gate_callee (f := 99) rfl ?_); refine goesL_ (some 30) rfl rfl Try.func99 (by kernel_rfl) rfl #[.slice A0_6 l0_6.length c0_6, .slice A1_6 l1_6.length c1_6] rfl ZG ?_; (with_reducible refine (ihB _ _ l0_6 _ _ l1_6 true _ ?side1 ?side2 ?side3 ?side4 A8.out).mono ?_); (case side1 => exact ZQ (Kd.C_below HR0_6.out HB.out)); (case side2 => exact HC0_6.out); (case side3 => exact ZQ (Kd.C_below HR1_6.out HB.out)); (case side4 => exact HC1_6.out); rintro e w20 ⟨rfl, hb⟩; refine ⟨_, rfl, ?_⟩; replace BK236 := ZW BK236 hb; replace BK237 := ZW BK237 hb; replace HB := ZT hb; (try clear hb); (try clear hb2); (try clear hk); (try clear hi); obtain ⟨hcz21_0, hcz21_1, hcz21_2, hcz21_3, hcz21_4, hcz21_5, hcz21_6, hcz21_7⟩ := ZC8 w20 BK236; obtain ⟨hfz21_0, hfz21_1, hfz21_2, hfz21_3, hfz21_4, hfz21_5, hfz21_6, hfz21_7⟩ := ZF8 BK236; obtain ⟨hcz22_0, hcz22_1, hcz22_2, hcz22_3, hcz22_4, hcz22_5, hcz22_6, hcz22_7⟩ := ZC8 w20 BK237; obtain ⟨hfz22_0, hfz22_1, hfz22_2, hfz22_3, hfz22_4, hfz22_5, hfz22_6, hfz22_7⟩ := ZF8 BK237) | ((with_reducible refine gate_callee (f := 99) rfl ?_); refine goesL_ (some 36) rfl rfl Try.func99 (by kernel_rfl) rfl #[.slice A0_7 l0_7.length c0_7, .slice A1_7 l1_7.length c1_7] rfl ZG ?_; (with_reducible refine (ihB _ _ l0_7 _ _ l1_7 true _ ?side1 ?side2 ?side3 ?side4 A10.out).mono ?_); (case side1 => exact ZQ (Kd.C_below HR0_7.out HB.out)); (case side2 => exact HC0_7.out); (case side3 => exact ZQ (Kd.C_below HR1_7.out HB.out)); (case side4 => exact HC1_7.out); rintro e w23 ⟨rfl, hb⟩; refine ⟨_, rfl, ?_⟩; replace BK236 := ZW BK236 hb; replace BK237 := ZW BK237 hb; replace HB := ZT hb; (try clear hb); (try clear hb2); (try clear hk); (try clear hi)))
       go_ret
       exact ⟨ZE, ZB⟩
      ·replace c11 := Bool.eq_false_iff.mpr c11
       subst c11
       have H1 : (some false) = some r := by rw [if_neg (show ¬ (false = true) by decide)] at H; exact H
       clear H
       have H := H1
       clear H1
       obtain rfl := Option.some.inj H
       go_enter Try.func65, Try.ntmps65
       go_wp2_with (first | ((with_reducible refine gate_dst (N := 2) rfl ?_); refine ZX (N := 2) (cs := #[.int .i64 a0_0, .int .i64 a0_1, .int .i64 a0_2, .int .i64 a0_3, .int .i64 a0_4, .int .i64 a0_5, .slice A0_6 l0_6.length c0_6, .slice A0_7 l0_7.length c0_7]) (t := 59) ?_; intro gb236 hg w24 hbox hb; have BK236 := Aside0.mk (hbox); have GW236 : Aside0 (w.heap.size ≤ gb236) := ZS hg; have GE236 : Aside0 (w.heap.size ≤ gb236) := ZS hg; replace HB := ZT hb; clear hb hbox hg) | ((with_reducible refine gate_dst (N := 3) rfl ?_); refine ZX (N := 3) (cs := #[.int .i64 a1_0, .int .i64 a1_1, .int .i64 a1_2, .int .i64 a1_3, .int .i64 a1_4, .int .i64 a1_5, .slice A1_6 l1_6.length c1_6, .slice A1_7 l1_7.length c1_7]) (t := 59) ?_; intro gb237 hg w25 hbox hb; have BK237 := Aside0.mk (hbox); have GW237 : Aside0 (w.heap.size ≤ gb237) := ZS hg; have GE237 : Aside0 (w.heap.size ≤ gb237) := ZS hg; have NB236_237 : Aside0 (gb236 ≠ gb237) := ZN hg BK236; have NB237_236 : Aside0 (gb237 ≠ gb236) := ZM hg BK236; replace BK236 := ZW BK236 hb; replace HB := ZT hb; clear hb hbox hg; have hnb26 := NB236_237.out; have hnc26 := NB237_236.out; obtain ⟨hcz27_0, hcz27_1, hcz27_2, hcz27_3, hcz27_4, hcz27_5, hcz27_6, hcz27_7⟩ := ZC8 w25 BK236; obtain ⟨hfz27_0, hfz27_1, hfz27_2, hfz27_3, hfz27_4, hfz27_5, hfz27_6, hfz27_7⟩ := ZF8 BK236; obtain ⟨hcz28_0, hcz28_1, hcz28_2, hcz28_3, hcz28_4, hcz28_5, hcz28_6, hcz28_7⟩ := ZC8 w25 BK237; obtain ⟨hfz28_0, hfz28_1, hfz28_2, hfz28_3, hfz28_4, hfz28_5, hfz28_6, hfz28_7⟩ := ZF8 BK237) | ((with_reducible refine gate_callee (f := 114) rfl ?_); refine goesL_ (some 19) rfl rfl Try.func114 (by kernel_rfl) rfl #[.agg #[.int .i64 a0_2, .int .i64 a0_3, .int .i64 a0_4], .agg #[.int .i64 a1_2, .int .i64 a1_3, .int .i64 a1_4]] rfl ZG ?_; (with_reducible refine (laws_eqVal.calls a0_2 a0_3 a0_4 a1_2 a1_3 a1_4 true _ A5.out).mono ?_); rintro e w29 ⟨rfl, hb⟩; refine ⟨_, rfl, ?_⟩; replace BK236 := ZW BK236 hb; replace BK237 := ZW BK237 hb; replace HB := ZT hb; (try clear hb); (try clear hb2); (try clear hk); (try clear hi); obtain ⟨hcz30_0, hcz30_1, hcz30_2, hcz30_3, hcz30_4, hcz30_5, hcz30_6, hcz30_7⟩ := ZC8 w29 BK236; obtain ⟨hfz30_0, hfz30_1, hfz30_2, hfz30_3, hfz30_4, hfz30_5, hfz30_6, hfz30_7⟩ := ZF8 BK236; obtain ⟨hcz31_0, hcz31_1, hcz31_2, hcz31_3, hcz31_4, hcz31_5, hcz31_6, hcz31_7⟩ := ZC8 w29 BK237; obtain ⟨hfz31_0, hfz31_1, hfz31_2, hfz31_3, hfz31_4, hfz31_5, hfz31_6, hfz31_7⟩ := ZF8 BK237) | ((with_reducible refine gate_callee (f := 99) rfl ?_); refine goesL_ (some 30) rfl rfl Try.func99 (by kernel_rfl) rfl #[.slice A0_6 l0_6.length c0_6, .slice A1_6 l1_6.length c1_6] rfl ZG ?_; (with_reducible refine (ihB _ _ l0_6 _ _ l1_6 true _ ?side1 ?side2 ?side3 ?side4 A8.out).mono ?_); (case side1 => exact ZQ (Kd.C_below HR0_6.out HB.out)); (case side2 => exact HC0_6.out); (case side3 => exact ZQ (Kd.C_below HR1_6.out HB.out)); (case side4 => exact HC1_6.out); rintro e w32 ⟨rfl, hb⟩; refine ⟨_, rfl, ?_⟩; replace BK236 := ZW BK236 hb; replace BK237 := ZW BK237 hb; replace HB := ZT hb; (try clear hb); (try clear hb2); (try clear hk); (try clear hi); obtain ⟨hcz33_0, hcz33_1, hcz33_2, hcz33_3, hcz33_4, hcz33_5, hcz33_6, hcz33_7⟩ := ZC8 w32 BK236; obtain ⟨hfz33_0, hfz33_1, hfz33_2, hfz33_3, hfz33_4, hfz33_5, hfz33_6, hfz33_7⟩ := ZF8 BK236; obtain ⟨hcz34_0, hcz34_1, hcz34_2, hcz34_3, hcz34_4, hcz34_5, hcz34_6, hcz34_7⟩ := ZC8 w32 BK237; obtain ⟨hfz34_0, hfz34_1, hfz34_2, hfz34_3, hfz34_4, hfz34_5, hfz34_6, hfz34_7⟩ := ZF8 BK237) | ((with_reducible refine gate_callee (f := 99) rfl ?_); refine goesL_ (some 36) rfl rfl Try.func99 (by kernel_rfl) rfl #[.slice A0_7 l0_7.length c0_7, .slice A1_7 l1_7.length c1_7] rfl ZG ?_; (with_reducible refine (ihB _ _ l0_7 _ _ l1_7 false _ ?side1 ?side2 ?side3 ?side4 A10.out).mono ?_); (case side1 => exact ZQ (Kd.C_below HR0_7.out HB.out)); (case side2 => exact HC0_7.out); (case side3 => exact ZQ (Kd.C_below HR1_7.out HB.out)); (case side4 => exact HC1_7.out); rintro e w35 ⟨rfl, hb⟩; refine ⟨_, rfl, ?_⟩; replace BK236 := ZW BK236 hb; replace BK237 := ZW BK237 hb; replace HB := ZT hb; (try clear hb); (try clear hb2); (try clear hk); (try clear hi)))
       go_ret
       exact ⟨ZE, ZB⟩
     ·replace c9 := Bool.eq_false_iff.mpr c9
      subst c9
      have H1 : (some false) = some r := by rw [if_neg (show ¬ (false = true) by decide)] at H; exact H
      clear H
      have H := H1
      clear H1
      obtain rfl := Option.some.inj H
      go_enter Try.func65, Try.ntmps65
      go_wp2_with (first | ((with_reducible refine gate_dst (N := 2) rfl ?_); refine ZX (N := 2) (cs := #[.int .i64 a0_0, .int .i64 a0_1, .int .i64 a0_2, .int .i64 a0_3, .int .i64 a0_4, .int .i64 a0_5, .slice A0_6 l0_6.length c0_6, .slice A0_7 l0_7.length c0_7]) (t := 59) ?_; intro gb236 hg w36 hbox hb; have BK236 := Aside0.mk (hbox); have GW236 : Aside0 (w.heap.size ≤ gb236) := ZS hg; have GE236 : Aside0 (w.heap.size ≤ gb236) := ZS hg; replace HB := ZT hb; clear hb hbox hg) | ((with_reducible refine gate_dst (N := 3) rfl ?_); refine ZX (N := 3) (cs := #[.int .i64 a1_0, .int .i64 a1_1, .int .i64 a1_2, .int .i64 a1_3, .int .i64 a1_4, .int .i64 a1_5, .slice A1_6 l1_6.length c1_6, .slice A1_7 l1_7.length c1_7]) (t := 59) ?_; intro gb237 hg w37 hbox hb; have BK237 := Aside0.mk (hbox); have GW237 : Aside0 (w.heap.size ≤ gb237) := ZS hg; have GE237 : Aside0 (w.heap.size ≤ gb237) := ZS hg; have NB236_237 : Aside0 (gb236 ≠ gb237) := ZN hg BK236; have NB237_236 : Aside0 (gb237 ≠ gb236) := ZM hg BK236; replace BK236 := ZW BK236 hb; replace HB := ZT hb; clear hb hbox hg; have hnb38 := NB236_237.out; have hnc38 := NB237_236.out; obtain ⟨hcz39_0, hcz39_1, hcz39_2, hcz39_3, hcz39_4, hcz39_5, hcz39_6, hcz39_7⟩ := ZC8 w37 BK236; obtain ⟨hfz39_0, hfz39_1, hfz39_2, hfz39_3, hfz39_4, hfz39_5, hfz39_6, hfz39_7⟩ := ZF8 BK236; obtain ⟨hcz40_0, hcz40_1, hcz40_2, hcz40_3, hcz40_4, hcz40_5, hcz40_6, hcz40_7⟩ := ZC8 w37 BK237; obtain ⟨hfz40_0, hfz40_1, hfz40_2, hfz40_3, hfz40_4, hfz40_5, hfz40_6, hfz40_7⟩ := ZF8 BK237) | ((with_reducible refine gate_callee (f := 114) rfl ?_); refine goesL_ (some 19) rfl rfl Try.func114 (by kernel_rfl) rfl #[.agg #[.int .i64 a0_2, .int .i64 a0_3, .int .i64 a0_4], .agg #[.int .i64 a1_2, .int .i64 a1_3, .int .i64 a1_4]] rfl ZG ?_; (with_reducible refine (laws_eqVal.calls a0_2 a0_3 a0_4 a1_2 a1_3 a1_4 true _ A5.out).mono ?_); rintro e w41 ⟨rfl, hb⟩; refine ⟨_, rfl, ?_⟩; replace BK236 := ZW BK236 hb; replace BK237 := ZW BK237 hb; replace HB := ZT hb; (try clear hb); (try clear hb2); (try clear hk); (try clear hi); obtain ⟨hcz42_0, hcz42_1, hcz42_2, hcz42_3, hcz42_4, hcz42_5, hcz42_6, hcz42_7⟩ := ZC8 w41 BK236; obtain ⟨hfz42_0, hfz42_1, hfz42_2, hfz42_3, hfz42_4, hfz42_5, hfz42_6, hfz42_7⟩ := ZF8 BK236; obtain ⟨hcz43_0, hcz43_1, hcz43_2, hcz43_3, hcz43_4, hcz43_5, hcz43_6, hcz43_7⟩ := ZC8 w41 BK237; obtain ⟨hfz43_0, hfz43_1, hfz43_2, hfz43_3, hfz43_4, hfz43_5, hfz43_6, hfz43_7⟩ := ZF8 BK237) | ((with_reducible refine gate_callee (f := 99) rfl ?_); refine goesL_ (some 30) rfl rfl Try.func99 (by kernel_rfl) rfl #[.slice A0_6 l0_6.length c0_6, .slice A1_6 l1_6.length c1_6] rfl ZG ?_; (with_reducible refine (ihB _ _ l0_6 _ _ l1_6 false _ ?side1 ?side2 ?side3 ?side4 A8.out).mono ?_); (case side1 => exact ZQ (Kd.C_below HR0_6.out HB.out)); (case side2 => exact HC0_6.out); (case side3 => exact ZQ (Kd.C_below HR1_6.out HB.out)); (case side4 => exact HC1_6.out); rintro e w44 ⟨rfl, hb⟩; refine ⟨_, rfl, ?_⟩; replace BK236 := ZW BK236 hb; replace BK237 := ZW BK237 hb; replace HB := ZT hb; (try clear hb); (try clear hb2); (try clear hk); (try clear hi)))
      go_ret
      exact ⟨ZE, ZB⟩
    ·rw [if_neg c7] at H
     have c7b0 : (a0_5 == a1_5) = false := beq_eq_false_iff_ne.mpr c7
     have c7b1 : (a0_5 != a1_5) = true := bne_iff_ne.mpr c7
     obtain rfl := Option.some.inj H
     go_enter Try.func65, Try.ntmps65
     go_wp2_with (first | ((with_reducible refine gate_dst (N := 2) rfl ?_); refine ZX (N := 2) (cs := #[.int .i64 a0_0, .int .i64 a0_1, .int .i64 a0_2, .int .i64 a0_3, .int .i64 a0_4, .int .i64 a0_5, .slice A0_6 l0_6.length c0_6, .slice A0_7 l0_7.length c0_7]) (t := 59) ?_; intro gb236 hg w45 hbox hb; have BK236 := Aside0.mk (hbox); have GW236 : Aside0 (w.heap.size ≤ gb236) := ZS hg; have GE236 : Aside0 (w.heap.size ≤ gb236) := ZS hg; replace HB := ZT hb; clear hb hbox hg) | ((with_reducible refine gate_dst (N := 3) rfl ?_); refine ZX (N := 3) (cs := #[.int .i64 a1_0, .int .i64 a1_1, .int .i64 a1_2, .int .i64 a1_3, .int .i64 a1_4, .int .i64 a1_5, .slice A1_6 l1_6.length c1_6, .slice A1_7 l1_7.length c1_7]) (t := 59) ?_; intro gb237 hg w46 hbox hb; have BK237 := Aside0.mk (hbox); have GW237 : Aside0 (w.heap.size ≤ gb237) := ZS hg; have GE237 : Aside0 (w.heap.size ≤ gb237) := ZS hg; have NB236_237 : Aside0 (gb236 ≠ gb237) := ZN hg BK236; have NB237_236 : Aside0 (gb237 ≠ gb236) := ZM hg BK236; replace BK236 := ZW BK236 hb; replace HB := ZT hb; clear hb hbox hg; have hnb47 := NB236_237.out; have hnc47 := NB237_236.out; obtain ⟨hcz48_0, hcz48_1, hcz48_2, hcz48_3, hcz48_4, hcz48_5, hcz48_6, hcz48_7⟩ := ZC8 w46 BK236; obtain ⟨hfz48_0, hfz48_1, hfz48_2, hfz48_3, hfz48_4, hfz48_5, hfz48_6, hfz48_7⟩ := ZF8 BK236; obtain ⟨hcz49_0, hcz49_1, hcz49_2, hcz49_3, hcz49_4, hcz49_5, hcz49_6, hcz49_7⟩ := ZC8 w46 BK237; obtain ⟨hfz49_0, hfz49_1, hfz49_2, hfz49_3, hfz49_4, hfz49_5, hfz49_6, hfz49_7⟩ := ZF8 BK237) | ((with_reducible refine gate_callee (f := 114) rfl ?_); refine goesL_ (some 19) rfl rfl Try.func114 (by kernel_rfl) rfl #[.agg #[.int .i64 a0_2, .int .i64 a0_3, .int .i64 a0_4], .agg #[.int .i64 a1_2, .int .i64 a1_3, .int .i64 a1_4]] rfl ZG ?_; (with_reducible refine (laws_eqVal.calls a0_2 a0_3 a0_4 a1_2 a1_3 a1_4 true _ A5.out).mono ?_); rintro e w50 ⟨rfl, hb⟩; refine ⟨_, rfl, ?_⟩; replace BK236 := ZW BK236 hb; replace BK237 := ZW BK237 hb; replace HB := ZT hb; (try clear hb); (try clear hb2); (try clear hk); (try clear hi); obtain ⟨hcz51_0, hcz51_1, hcz51_2, hcz51_3, hcz51_4, hcz51_5, hcz51_6, hcz51_7⟩ := ZC8 w50 BK236; obtain ⟨hfz51_0, hfz51_1, hfz51_2, hfz51_3, hfz51_4, hfz51_5, hfz51_6, hfz51_7⟩ := ZF8 BK236; obtain ⟨hcz52_0, hcz52_1, hcz52_2, hcz52_3, hcz52_4, hcz52_5, hcz52_6, hcz52_7⟩ := ZC8 w50 BK237; obtain ⟨hfz52_0, hfz52_1, hfz52_2, hfz52_3, hfz52_4, hfz52_5, hfz52_6, hfz52_7⟩ := ZF8 BK237))
     go_ret
     exact ⟨ZE, ZB⟩
   ·replace c6 := Bool.eq_false_iff.mpr c6
    subst c6
    have H1 : (some false) = some r := by rw [if_neg (show ¬ (false = true) by decide)] at H; exact H
    clear H
    have H := H1
    clear H1
    obtain rfl := Option.some.inj H
    go_enter Try.func65, Try.ntmps65
    go_wp2_with (first | ((with_reducible refine gate_dst (N := 2) rfl ?_); refine ZX (N := 2) (cs := #[.int .i64 a0_0, .int .i64 a0_1, .int .i64 a0_2, .int .i64 a0_3, .int .i64 a0_4, .int .i64 a0_5, .slice A0_6 l0_6.length c0_6, .slice A0_7 l0_7.length c0_7]) (t := 59) ?_; intro gb236 hg w53 hbox hb; have BK236 := Aside0.mk (hbox); have GW236 : Aside0 (w.heap.size ≤ gb236) := ZS hg; have GE236 : Aside0 (w.heap.size ≤ gb236) := ZS hg; replace HB := ZT hb; clear hb hbox hg) | ((with_reducible refine gate_dst (N := 3) rfl ?_); refine ZX (N := 3) (cs := #[.int .i64 a1_0, .int .i64 a1_1, .int .i64 a1_2, .int .i64 a1_3, .int .i64 a1_4, .int .i64 a1_5, .slice A1_6 l1_6.length c1_6, .slice A1_7 l1_7.length c1_7]) (t := 59) ?_; intro gb237 hg w54 hbox hb; have BK237 := Aside0.mk (hbox); have GW237 : Aside0 (w.heap.size ≤ gb237) := ZS hg; have GE237 : Aside0 (w.heap.size ≤ gb237) := ZS hg; have NB236_237 : Aside0 (gb236 ≠ gb237) := ZN hg BK236; have NB237_236 : Aside0 (gb237 ≠ gb236) := ZM hg BK236; replace BK236 := ZW BK236 hb; replace HB := ZT hb; clear hb hbox hg; have hnb55 := NB236_237.out; have hnc55 := NB237_236.out; obtain ⟨hcz56_0, hcz56_1, hcz56_2, hcz56_3, hcz56_4, hcz56_5, hcz56_6, hcz56_7⟩ := ZC8 w54 BK236; obtain ⟨hfz56_0, hfz56_1, hfz56_2, hfz56_3, hfz56_4, hfz56_5, hfz56_6, hfz56_7⟩ := ZF8 BK236; obtain ⟨hcz57_0, hcz57_1, hcz57_2, hcz57_3, hcz57_4, hcz57_5, hcz57_6, hcz57_7⟩ := ZC8 w54 BK237; obtain ⟨hfz57_0, hfz57_1, hfz57_2, hfz57_3, hfz57_4, hfz57_5, hfz57_6, hfz57_7⟩ := ZF8 BK237) | ((with_reducible refine gate_callee (f := 114) rfl ?_); refine goesL_ (some 19) rfl rfl Try.func114 (by kernel_rfl) rfl #[.agg #[.int .i64 a0_2, .int .i64 a0_3, .int .i64 a0_4], .agg #[.int .i64 a1_2, .int .i64 a1_3, .int .i64 a1_4]] rfl ZG ?_; (with_reducible refine (laws_eqVal.calls a0_2 a0_3 a0_4 a1_2 a1_3 a1_4 false _ A5.out).mono ?_); rintro e w58 ⟨rfl, hb⟩; refine ⟨_, rfl, ?_⟩; replace BK236 := ZW BK236 hb; replace BK237 := ZW BK237 hb; replace HB := ZT hb; (try clear hb); (try clear hb2); (try clear hk); (try clear hi)))
    go_ret
    exact ⟨ZE, ZB⟩
  ·rw [if_neg c4] at H
   have c4b0 : (a0_1 == a1_1) = false := beq_eq_false_iff_ne.mpr c4
   have c4b1 : (a0_1 != a1_1) = true := bne_iff_ne.mpr c4
   obtain rfl := Option.some.inj H
   go_enter Try.func65, Try.ntmps65
   go_wp2_with (first | ((with_reducible refine gate_dst (N := 2) rfl ?_); refine ZX (N := 2) (cs := #[.int .i64 a0_0, .int .i64 a0_1, .int .i64 a0_2, .int .i64 a0_3, .int .i64 a0_4, .int .i64 a0_5, .slice A0_6 l0_6.length c0_6, .slice A0_7 l0_7.length c0_7]) (t := 59) ?_; intro gb236 hg w59 hbox hb; have BK236 := Aside0.mk (hbox); have GW236 : Aside0 (w.heap.size ≤ gb236) := ZS hg; have GE236 : Aside0 (w.heap.size ≤ gb236) := ZS hg; replace HB := ZT hb; clear hb hbox hg) | ((with_reducible refine gate_dst (N := 3) rfl ?_); refine ZX (N := 3) (cs := #[.int .i64 a1_0, .int .i64 a1_1, .int .i64 a1_2, .int .i64 a1_3, .int .i64 a1_4, .int .i64 a1_5, .slice A1_6 l1_6.length c1_6, .slice A1_7 l1_7.length c1_7]) (t := 59) ?_; intro gb237 hg w60 hbox hb; have BK237 := Aside0.mk (hbox); have GW237 : Aside0 (w.heap.size ≤ gb237) := ZS hg; have GE237 : Aside0 (w.heap.size ≤ gb237) := ZS hg; have NB236_237 : Aside0 (gb236 ≠ gb237) := ZN hg BK236; have NB237_236 : Aside0 (gb237 ≠ gb236) := ZM hg BK236; replace BK236 := ZW BK236 hb; replace HB := ZT hb; clear hb hbox hg; have hnb61 := NB236_237.out; have hnc61 := NB237_236.out; obtain ⟨hcz62_0, hcz62_1, hcz62_2, hcz62_3, hcz62_4, hcz62_5, hcz62_6, hcz62_7⟩ := ZC8 w60 BK236; obtain ⟨hfz62_0, hfz62_1, hfz62_2, hfz62_3, hfz62_4, hfz62_5, hfz62_6, hfz62_7⟩ := ZF8 BK236; obtain ⟨hcz63_0, hcz63_1, hcz63_2, hcz63_3, hcz63_4, hcz63_5, hcz63_6, hcz63_7⟩ := ZC8 w60 BK237; obtain ⟨hfz63_0, hfz63_1, hfz63_2, hfz63_3, hfz63_4, hfz63_5, hfz63_6, hfz63_7⟩ := ZF8 BK237))
   go_ret
   exact ⟨ZE, ZB⟩
 ·rw [if_neg c3] at H
  have c3b0 : (a0_0 == a1_0) = false := beq_eq_false_iff_ne.mpr c3
  have c3b1 : (a0_0 != a1_0) = true := bne_iff_ne.mpr c3
  obtain rfl := Option.some.inj H
  go_enter Try.func65, Try.ntmps65
  go_wp2_with (first | ((with_reducible refine gate_dst (N := 2) rfl ?_); refine ZX (N := 2) (cs := #[.int .i64 a0_0, .int .i64 a0_1, .int .i64 a0_2, .int .i64 a0_3, .int .i64 a0_4, .int .i64 a0_5, .slice A0_6 l0_6.length c0_6, .slice A0_7 l0_7.length c0_7]) (t := 59) ?_; intro gb236 hg w64 hbox hb; have BK236 := Aside0.mk (hbox); have GW236 : Aside0 (w.heap.size ≤ gb236) := ZS hg; have GE236 : Aside0 (w.heap.size ≤ gb236) := ZS hg; replace HB := ZT hb; clear hb hbox hg) | ((with_reducible refine gate_dst (N := 3) rfl ?_); refine ZX (N := 3) (cs := #[.int .i64 a1_0, .int .i64 a1_1, .int .i64 a1_2, .int .i64 a1_3, .int .i64 a1_4, .int .i64 a1_5, .slice A1_6 l1_6.length c1_6, .slice A1_7 l1_7.length c1_7]) (t := 59) ?_; intro gb237 hg w65 hbox hb; have BK237 := Aside0.mk (hbox); have GW237 : Aside0 (w.heap.size ≤ gb237) := ZS hg; have GE237 : Aside0 (w.heap.size ≤ gb237) := ZS hg; have NB236_237 : Aside0 (gb236 ≠ gb237) := ZN hg BK236; have NB237_236 : Aside0 (gb237 ≠ gb236) := ZM hg BK236; replace BK236 := ZW BK236 hb; replace HB := ZT hb; clear hb hbox hg; have hnb66 := NB236_237.out; have hnc66 := NB237_236.out; obtain ⟨hcz67_0, hcz67_1, hcz67_2, hcz67_3, hcz67_4, hcz67_5, hcz67_6, hcz67_7⟩ := ZC8 w65 BK236; obtain ⟨hfz67_0, hfz67_1, hfz67_2, hfz67_3, hfz67_4, hfz67_5, hfz67_6, hfz67_7⟩ := ZF8 BK236; obtain ⟨hcz68_0, hcz68_1, hcz68_2, hcz68_3, hcz68_4, hcz68_5, hcz68_6, hcz68_7⟩ := ZC8 w65 BK237; obtain ⟨hfz68_0, hfz68_1, hfz68_2, hfz68_3, hfz68_4, hfz68_5, hfz68_6, hfz68_7⟩ := ZF8 BK237))
  go_ret
  exact ⟨ZE, ZB⟩

/-! ### laws_eqStepS: function 99 -/
mutual
def laws_eqStepS.l0 : Nat → List (S59) → List (S59) → Int → Option (Bool)
 | 0, _, _, _ => none
 | k + 1, x0, x1, x5 => if x5 < (x0.length : Int) then (if 0 ≤ x5 then (if x5 < (x1.length : Int) then ((laws_eqStep.g k (laws_eqStepS.f k) ((rd_T59 x0 x5).f0) ((rd_T59 x0 x5).f1) ((rd_T59 x0 x5).f2.f0) ((rd_T59 x0 x5).f2.f1) ((rd_T59 x0 x5).f2.f2) ((rd_T59 x0 x5).f3) ((rd_T59 x0 x5).f4) ((rd_T59 x0 x5).f5) ((rd_T59 x1 x5).f0) ((rd_T59 x1 x5).f1) ((rd_T59 x1 x5).f2.f0) ((rd_T59 x1 x5).f2.f1) ((rd_T59 x1 x5).f2.f2) ((rd_T59 x1 x5).f3) ((rd_T59 x1 x5).f4) ((rd_T59 x1 x5).f5)).bind fun t243 => (if t243 = true then (laws_eqStepS.l0 k x0 x1 (wrap64 (x5 + 1))) else (some false))) else (none)) else (none)) else (some true)
def laws_eqStepS.f : Nat → List (S59) → List (S59) → Option (Bool)
 | 0, _, _ => none
 | k + 1, l0, l1 => if (l0.length : Int) = (l1.length : Int) then (laws_eqStepS.l0 k l0 l1 0) else (some false)
end
def laws_eqStepS.T6 : Bool × List (List Nat × List Nat) := (true, [([], []), ([], []), ([0, 1], [0, 1]), ([2], [2]), ([], []), ([], []), ([4, 5], [4, 5]), ([6], [6]), ([3, 7], [3, 7]), ([8], [8])])
def laws_eqStepS.B6 : List Nat := [0, 0, 3, 7, 0, 0, 48, 112, 255, 511]
theorem laws_eqStepS.tab6 : rtab .any (opsOf Try.f99 6) = laws_eqStepS.T6 := by kernel_rfl
theorem laws_eqStepS.bits6 : waitsOk laws_eqStepS.T6.2 laws_eqStepS.B6 = true := by kernel_rfl
theorem laws_eqStep.calls_of {K : Nat} (ih : ∀ m, m < K → ∀ (A0 : Option Addr) (c0 : Nat) (l0 : List (S59)) (A1 : Option Addr) (c1 : Nat) (l1 : List (S59)) (r : Bool) (w : World) (hr0 : Kd.C k59 w A0 l0.length l0) (hc0 : l0.length ≤ c0) (hr1 : Kd.C k59 w A1 l1.length l1) (hc1 : l1.length ≤ c1) (h : laws_eqStepS.f m l0 l1 = some r),
  Calls Try.prog 99 #[.slice A0 l0.length c0, .slice A1 l1.length c1] w fun e w' => e = .returned (.bool r) ∧ Below w.heap.size w w') (k : Nat) (hk : k < K) (a0_0 : Int) (a0_1 : Int) (a0_2 : Int) (a0_3 : Int) (a0_4 : Int) (a0_5 : Int) (A0_6 : Option Addr) (c0_6 : Nat) (l0_6 : List (S59)) (A0_7 : Option Addr) (c0_7 : Nat) (l0_7 : List (S59)) (a1_0 : Int) (a1_1 : Int) (a1_2 : Int) (a1_3 : Int) (a1_4 : Int) (a1_5 : Int) (A1_6 : Option Addr) (c1_6 : Nat) (l1_6 : List (S59)) (A1_7 : Option Addr) (c1_7 : Nat) (l1_7 : List (S59)) (r : Bool) (w : World) (hr0_6 : Kd.C k59 w A0_6 l0_6.length l0_6) (hc0_6 : l0_6.length ≤ c0_6) (hr0_7 : Kd.C k59 w A0_7 l0_7.length l0_7) (hc0_7 : l0_7.length ≤ c0_7) (hr1_6 : Kd.C k59 w A1_6 l1_6.length l1_6) (hc1_6 : l1_6.length ≤ c1_6) (hr1_7 : Kd.C k59 w A1_7 l1_7.length l1_7) (hc1_7 : l1_7.length ≤ c1_7) (h : laws_eqStep.g k (laws_eqStepS.f k) a0_0 a0_1 a0_2 a0_3 a0_4 a0_5 l0_6 l0_7 a1_0 a1_1 a1_2 a1_3 a1_4 a1_5 l1_6 l1_7 = some r) :
  Calls Try.prog 65 #[.agg #[.int .i64 a0_0, .int .i64 a0_1, .int .i64 a0_2, .int .i64 a0_3, .int .i64 a0_4, .int .i64 a0_5, .slice A0_6 l0_6.length c0_6, .slice A0_7 l0_7.length c0_7], .agg #[.int .i64 a1_0, .int .i64 a1_1, .int .i64 a1_2, .int .i64 a1_3, .int .i64 a1_4, .int .i64 a1_5, .slice A1_6 l1_6.length c1_6, .slice A1_7 l1_7.length c1_7]] w fun e w' => e = .returned (.bool r) ∧ Below w.heap.size w w' := laws_eqStep.calls_g k (laws_eqStepS.f k) (ih k hk) a0_0 a0_1 a0_2 a0_3 a0_4 a0_5 A0_6 c0_6 l0_6 A0_7 c0_7 l0_7 a1_0 a1_1 a1_2 a1_3 a1_4 a1_5 A1_6 c1_6 l1_6 A1_7 c1_7 l1_7 r w hr0_6 hc0_6 hr0_7 hc0_7 hr1_6 hc1_6 hr1_7 hc1_7 h
set_option maxHeartbeats 8000000 in
set_option maxRecDepth 100000 in
theorem laws_eqStepS.calls (k : Nat) : ∀ (A0 : Option Addr) (c0 : Nat) (l0 : List (S59)) (A1 : Option Addr) (c1 : Nat) (l1 : List (S59)) (r : Bool) (w : World) (hr0 : Kd.C k59 w A0 l0.length l0) (hc0 : l0.length ≤ c0) (hr1 : Kd.C k59 w A1 l1.length l1) (hc1 : l1.length ≤ c1) (h : laws_eqStepS.f k l0 l1 = some r),
  Calls Try.prog 99 #[.slice A0 l0.length c0, .slice A1 l1.length c1] w fun e w' => e = .returned (.bool r) ∧ Below w.heap.size w w' := by
 induction k using Nat.strongRecOn with
 | _ k ih =>
 intro A0 c0 l0 A1 c1 l1 r w hr0 hc0 hr1 hc1 h
 cases k with
 | zero => exact absurd h (by simp [laws_eqStepS.f])
 | succ k =>
 simp only [laws_eqStepS.f] at h
 have hu59 := Try.underlying59
 have HR0 := Aside0.mk hr0
 have HC0 := Aside0.mk hc0
 clear hr0 hc0
 have HR1 := Aside0.mk hr1
 have HC1 := Aside0.mk hc1
 clear hr1 hc1
 have HB := Aside0.mk (Below.refl w.heap.size w)
 have H : (if (l0.length : Int) = (l1.length : Int) then (laws_eqStepS.l0 k l0 l1 0) else (some false)) = some r := h
 clear h
 by_cases c3 : (l0.length : Int) = (l1.length : Int)
 ·rw [if_pos c3] at H
  have c3b0 : ((l0.length : Int) == (l1.length : Int)) = true := beq_iff_eq.mpr c3
  have c3b1 : ((l0.length : Int) != (l1.length : Int)) = false := bne_eq_false_iff_eq.mpr c3
  have c3b2 : (l0.length == l1.length) = true := by first | simpa using c3 | (simp at c3 ⊢; omega)
  clear c3
  have H' := Aside0.mk H
  clear H
  go_enter Try.func99, Try.ntmps99
  go_wp2
  go_loopg [5] k (fun kq v5 w' => ∃ (x5_1 : Int), v5 = .int .i64 x5_1 ∧ Aside0 (laws_eqStepS.l0 kq l0 l1 x5_1 = some r) ∧ Aside0 (kq ≤ k) ∧ Aside0 (Below w.heap.size w w'))
  case atStart => exact ⟨(0), (by first | rfl | (simp; done) | (simp [*]; done)), H', ⟨Nat.le_refl _⟩, ⟨ZB⟩⟩
  case round =>
   clear H'
   try clear c1
   try clear p2
   try clear c3
   try clear c3b0
   try clear c3b1
   try clear c3b2
   obtain ⟨x5_1, rfl, HA, HK1, HB⟩ := hrel
   cases gk with
   | zero => exact absurd HA.out (by simp [laws_eqStepS.l0])
   | succ k1 =>
    have H := HA.out
    clear HA
    simp only [laws_eqStepS.l0] at H
    by_cases c4 : x5_1 < (l0.length : Int)
    focus
     rw [if_pos c4] at H
     have c4b0 : decide (x5_1 < (l0.length : Int)) = true := decide_eq_true c4
     clear c4
     by_cases c5 : 0 ≤ x5_1
     focus
      rw [if_pos c5] at H
      have c5b0 : decide (0 ≤ x5_1) = true := decide_eq_true c5
      clear c5
      by_cases c6 : x5_1 < (l1.length : Int)
      focus
       rw [if_pos c6] at H
       have c6b0 : decide (x5_1 < (l1.length : Int)) = true := decide_eq_true c6
       clear c6
       replace H := Option.bind_eq_some_iff.mp H
       obtain ⟨t243, A70, H⟩ := H
       replace H : (if t243 = true then (laws_eqStepS.l0 k1 l0 l1 (wrap64 (x5_1 + 1))) else (some false)) = some r := H
       have A7 := Aside0.mk A70
       clear A70
       by_cases c8 : t243 = true
       focus
        subst c8
        have H1 : (laws_eqStepS.l0 k1 l0 l1 (wrap64 (x5_1 + 1))) = some r := by rw [if_pos rfl] at H; exact H
        clear H
        have H := H1
        clear H1
        have H' := Aside0.mk H
        clear H
        have tag0_ : Aside0 True := ⟨trivial⟩
       rotate_left
       focus
        replace c8 := Bool.eq_false_iff.mpr c8
        subst c8
        have H1 : (some false) = some r := by rw [if_neg (show ¬ (false = true) by decide)] at H; exact H
        clear H
        have H := H1
        clear H1
        obtain rfl := Option.some.inj H
        have tag1_ : Aside0 True := ⟨trivial⟩
       rotate_left
      rotate_left 2
      focus
       rw [if_neg c6] at H
       exact absurd H (by simp)
     rotate_left 2
     focus
      rw [if_neg c5] at H
      exact absurd H (by simp)
    rotate_left 2
    focus
     rw [if_neg c4] at H
     have c4b0 : decide (x5_1 < (l0.length : Int)) = false := decide_eq_false c4
     clear c4
     obtain rfl := Option.some.inj H
     have tag2_ : Aside0 True := ⟨trivial⟩
    rotate_left
    all_goals
     first
     | (
       (first | (have z_ := tag0_; clear z_) | (have z_ := tag1_; clear z_))
       try go_wp2
       have nq0_ := Aside0.mk (below_drew1 HB.out)
       clear HB
       have HB := nq0_
       clear nq0_
       have pq0 : 0 ≤ (x5_1 : Int) := ZD
       have qq0 : x5_1 < (l0.length : Int) := ZD
       obtain ⟨adq0, Aq0_6, cq0_6, Aq0_7, cq0_7, eq0, hxq0_0, hxq0_1, hxq0_2, hxq0_3, hxq0_4, hxq0_5, hxq0_6, hxq0_7, hlq0_6, hiq0_6, hlq0_7, hiq0_7⟩ := at_T59 HR0.out x5_1 pq0 qq0
       have hwq0_7 := hxq0_7
       have hwq0_6 := hxq0_6
       have hwq0_5 := hxq0_5
       have hwq0_4 := hxq0_4
       have hwq0_3 := hxq0_3
       have hwq0_2 := hxq0_2
       have hwq0_1 := hxq0_1
       have hwq0_0 := hxq0_0
       cases eq0
       replace hxq0_0 := (HB.out.cell (World.block_lt_of_cell? w _ hxq0_0)).trans hxq0_0
       replace hxq0_1 := (HB.out.cell (World.block_lt_of_cell? w _ hxq0_1)).trans hxq0_1
       replace hxq0_2 := (HB.out.cell (World.block_lt_of_cell? w _ hxq0_2)).trans hxq0_2
       replace hxq0_3 := (HB.out.cell (World.block_lt_of_cell? w _ hxq0_3)).trans hxq0_3
       replace hxq0_4 := (HB.out.cell (World.block_lt_of_cell? w _ hxq0_4)).trans hxq0_4
       replace hxq0_5 := (HB.out.cell (World.block_lt_of_cell? w _ hxq0_5)).trans hxq0_5
       replace hxq0_6 := (HB.out.cell (World.block_lt_of_cell? w _ hxq0_6)).trans hxq0_6
       replace hxq0_7 := (HB.out.cell (World.block_lt_of_cell? w _ hxq0_7)).trans hxq0_7
       have HRq0_6 := Aside0.mk hiq0_6
       have HCq0_6 := Aside0.mk hlq0_6
       clear hiq0_6 hlq0_6
       have HRq0_7 := Aside0.mk hiq0_7
       have HCq0_7 := Aside0.mk hlq0_7
       clear hiq0_7 hlq0_7
       replace pq0 := eq_true pq0
       replace qq0 := eq_true qq0
       have pq1 : 0 ≤ (x5_1 : Int) := ZD
       have qq1 : x5_1 < (l1.length : Int) := ZD
       obtain ⟨adq1, Aq1_6, cq1_6, Aq1_7, cq1_7, eq1, hxq1_0, hxq1_1, hxq1_2, hxq1_3, hxq1_4, hxq1_5, hxq1_6, hxq1_7, hlq1_6, hiq1_6, hlq1_7, hiq1_7⟩ := at_T59 HR1.out x5_1 pq1 qq1
       have hwq1_7 := hxq1_7
       have hwq1_6 := hxq1_6
       have hwq1_5 := hxq1_5
       have hwq1_4 := hxq1_4
       have hwq1_3 := hxq1_3
       have hwq1_2 := hxq1_2
       have hwq1_1 := hxq1_1
       have hwq1_0 := hxq1_0
       cases eq1
       replace hxq1_0 := (HB.out.cell (World.block_lt_of_cell? w _ hxq1_0)).trans hxq1_0
       replace hxq1_1 := (HB.out.cell (World.block_lt_of_cell? w _ hxq1_1)).trans hxq1_1
       replace hxq1_2 := (HB.out.cell (World.block_lt_of_cell? w _ hxq1_2)).trans hxq1_2
       replace hxq1_3 := (HB.out.cell (World.block_lt_of_cell? w _ hxq1_3)).trans hxq1_3
       replace hxq1_4 := (HB.out.cell (World.block_lt_of_cell? w _ hxq1_4)).trans hxq1_4
       replace hxq1_5 := (HB.out.cell (World.block_lt_of_cell? w _ hxq1_5)).trans hxq1_5
       replace hxq1_6 := (HB.out.cell (World.block_lt_of_cell? w _ hxq1_6)).trans hxq1_6
       replace hxq1_7 := (HB.out.cell (World.block_lt_of_cell? w _ hxq1_7)).trans hxq1_7
       have HRq1_6 := Aside0.mk hiq1_6
       have HCq1_6 := Aside0.mk hlq1_6
       clear hiq1_6 hlq1_6
       have HRq1_7 := Aside0.mk hiq1_7
       have HCq1_7 := Aside0.mk hlq1_7
       clear hiq1_7 hlq1_7
       replace pq1 := eq_true pq1
       replace qq1 := eq_true qq1
       refine start_ (n := 10) (S := fun w' => w'.cell? (adq0.add ((x5_1).toNat * 8)) = some (.int .i64 ((rd_T59 l0 x5_1).f0)) ∧ w'.cell? ⟨(adq0.add ((x5_1).toNat * 8)).block, (adq0.add ((x5_1).toNat * 8)).off + 1, none⟩ = some (.int .i64 ((rd_T59 l0 x5_1).f1)) ∧ w'.cell? ⟨(adq0.add ((x5_1).toNat * 8)).block, (adq0.add ((x5_1).toNat * 8)).off + 2, none⟩ = some (.int .i64 ((rd_T59 l0 x5_1).f2.f0)) ∧ w'.cell? ⟨(adq0.add ((x5_1).toNat * 8)).block, (adq0.add ((x5_1).toNat * 8)).off + 3, none⟩ = some (.int .i64 ((rd_T59 l0 x5_1).f2.f1)) ∧ w'.cell? ⟨(adq0.add ((x5_1).toNat * 8)).block, (adq0.add ((x5_1).toNat * 8)).off + 4, none⟩ = some (.int .i64 ((rd_T59 l0 x5_1).f2.f2)) ∧ w'.cell? ⟨(adq0.add ((x5_1).toNat * 8)).block, (adq0.add ((x5_1).toNat * 8)).off + 5, none⟩ = some (.int .i64 ((rd_T59 l0 x5_1).f3)) ∧ w'.cell? ⟨(adq0.add ((x5_1).toNat * 8)).block, (adq0.add ((x5_1).toNat * 8)).off + 6, none⟩ = some (.slice Aq0_6 ((rd_T59 l0 x5_1).f4).length cq0_6) ∧ w'.cell? ⟨(adq0.add ((x5_1).toNat * 8)).block, (adq0.add ((x5_1).toNat * 8)).off + 7, none⟩ = some (.slice Aq0_7 ((rd_T59 l0 x5_1).f5).length cq0_7) ∧ w'.cell? (adq1.add ((x5_1).toNat * 8)) = some (.int .i64 ((rd_T59 l1 x5_1).f0)) ∧ w'.cell? ⟨(adq1.add ((x5_1).toNat * 8)).block, (adq1.add ((x5_1).toNat * 8)).off + 1, none⟩ = some (.int .i64 ((rd_T59 l1 x5_1).f1)) ∧ w'.cell? ⟨(adq1.add ((x5_1).toNat * 8)).block, (adq1.add ((x5_1).toNat * 8)).off + 2, none⟩ = some (.int .i64 ((rd_T59 l1 x5_1).f2.f0)) ∧ w'.cell? ⟨(adq1.add ((x5_1).toNat * 8)).block, (adq1.add ((x5_1).toNat * 8)).off + 3, none⟩ = some (.int .i64 ((rd_T59 l1 x5_1).f2.f1)) ∧ w'.cell? ⟨(adq1.add ((x5_1).toNat * 8)).block, (adq1.add ((x5_1).toNat * 8)).off + 4, none⟩ = some (.int .i64 ((rd_T59 l1 x5_1).f2.f2)) ∧ w'.cell? ⟨(adq1.add ((x5_1).toNat * 8)).block, (adq1.add ((x5_1).toNat * 8)).off + 5, none⟩ = some (.int .i64 ((rd_T59 l1 x5_1).f3)) ∧ w'.cell? ⟨(adq1.add ((x5_1).toNat * 8)).block, (adq1.add ((x5_1).toNat * 8)).off + 6, none⟩ = some (.slice Aq1_6 ((rd_T59 l1 x5_1).f4).length cq1_6) ∧ w'.cell? ⟨(adq1.add ((x5_1).toNat * 8)).block, (adq1.add ((x5_1).toNat * 8)).off + 7, none⟩ = some (.slice Aq1_7 ((rd_T59 l1 x5_1).f5).length cq1_7)) (ds := []) #[false, false, false, false, false, false, false, false, false, false] (by kernel_rfl) rfl rfl ⟨((HB.out.cell (World.block_lt_of_cell? w _ hwq0_0)).trans hwq0_0), ((HB.out.cell (World.block_lt_of_cell? w _ hwq0_1)).trans hwq0_1), ((HB.out.cell (World.block_lt_of_cell? w _ hwq0_2)).trans hwq0_2), ((HB.out.cell (World.block_lt_of_cell? w _ hwq0_3)).trans hwq0_3), ((HB.out.cell (World.block_lt_of_cell? w _ hwq0_4)).trans hwq0_4), ((HB.out.cell (World.block_lt_of_cell? w _ hwq0_5)).trans hwq0_5), ((HB.out.cell (World.block_lt_of_cell? w _ hwq0_6)).trans hwq0_6), ((HB.out.cell (World.block_lt_of_cell? w _ hwq0_7)).trans hwq0_7), ((HB.out.cell (World.block_lt_of_cell? w _ hwq1_0)).trans hwq1_0), ((HB.out.cell (World.block_lt_of_cell? w _ hwq1_1)).trans hwq1_1), ((HB.out.cell (World.block_lt_of_cell? w _ hwq1_2)).trans hwq1_2), ((HB.out.cell (World.block_lt_of_cell? w _ hwq1_3)).trans hwq1_3), ((HB.out.cell (World.block_lt_of_cell? w _ hwq1_4)).trans hwq1_4), ((HB.out.cell (World.block_lt_of_cell? w _ hwq1_5)).trans hwq1_5), ((HB.out.cell (World.block_lt_of_cell? w _ hwq1_6)).trans hwq1_6), ((HB.out.cell (World.block_lt_of_cell? w _ hwq1_7)).trans hwq1_7)⟩ (fun hHeld => ?_); refine with_tabW laws_eqStepS.tab6 laws_eqStepS.bits6 (fun HT_ HW_ => ?_)
       generalize wr.drew = wq0 at HB HRq0_6 HRq0_7 HRq1_6 HRq1_7 hxq0_0 hxq0_1 hxq0_2 hxq0_3 hxq0_4 hxq0_5 hxq0_6 hxq0_7 hxq1_0 hxq1_1 hxq1_2 hxq1_3 hxq1_4 hxq1_5 hxq1_6 hxq1_7 hHeld ⊢
       refine pure_ (i := 0) (N := some 17) (v := ?_) (a' := ?_) #[true, false, false, false, false, false, false, false, false, false] rfl rfl (any_of HT_.out (by kernel_rfl)) (fun _ _ _ h => h) (Or.inl ⟨by rfl, ?_⟩) ?_ ?_
       rotate_left
       ·intro w'
        go_simp
        with_reducible rfl
       rotate_left
       ·simp only [Act.put, List.setIfInBounds_toArray, List.set_cons_zero, List.set_cons_succ, i64_w, i32_w]
        rfl
       refine pure_ (i := 1) (N := some 18) (v := ?_) (a' := ?_) #[true, true, false, false, false, false, false, false, false, false] rfl rfl (any_of HT_.out (by kernel_rfl)) (fun _ _ _ h => h) (Or.inl ⟨by rfl, ?_⟩) ?_ ?_
       rotate_left
       ·intro w'
        go_simp
        with_reducible rfl
       rotate_left
       ·simp only [Act.put, List.setIfInBounds_toArray, List.set_cons_zero, List.set_cons_succ, i64_w, i32_w]
        rfl
       refine pure_ (i := 2) (N := some 19) (v := ?_) (a' := ?_) #[true, true, true, false, false, false, false, false, false, false] rfl rfl (any_of HT_.out (by kernel_rfl)) (fun _ _ _ h => h) (Or.inl ⟨by rfl, ?_⟩) ?_ ?_
       rotate_left
       ·intro w'
        go_simp
        with_reducible rfl
       rotate_left
       ·simp only [Act.put, List.setIfInBounds_toArray, List.set_cons_zero, List.set_cons_succ, i64_w, i32_w]
        rfl
       refine pure_ (i := 4) (N := some 21) (v := ?_) (a' := ?_) #[true, true, true, false, true, false, false, false, false, false] rfl rfl (any_of HT_.out (by kernel_rfl)) (fun _ _ _ h => h) (Or.inl ⟨by rfl, ?_⟩) ?_ ?_
       rotate_left
       ·intro w'
        go_simp
        with_reducible rfl
       rotate_left
       ·simp only [Act.put, List.setIfInBounds_toArray, List.set_cons_zero, List.set_cons_succ, i64_w, i32_w]
        rfl
       refine pure_ (i := 5) (N := some 22) (v := ?_) (a' := ?_) #[true, true, true, false, true, true, false, false, false, false] rfl rfl (any_of HT_.out (by kernel_rfl)) (fun _ _ _ h => h) (Or.inl ⟨by rfl, ?_⟩) ?_ ?_
       rotate_left
       ·intro w'
        go_simp
        with_reducible rfl
       rotate_left
       ·simp only [Act.put, List.setIfInBounds_toArray, List.set_cons_zero, List.set_cons_succ, i64_w, i32_w]
        rfl
       refine pure_ (i := 6) (N := some 23) (v := ?_) (a' := ?_) #[true, true, true, false, true, true, true, false, false, false] rfl rfl (any_of HT_.out (by kernel_rfl)) (fun _ _ _ h => h) (Or.inl ⟨by rfl, ?_⟩) ?_ ?_
       rotate_left
       ·intro w'
        go_simp
        with_reducible rfl
       rotate_left
       ·simp only [Act.put, List.setIfInBounds_toArray, List.set_cons_zero, List.set_cons_succ, i64_w, i32_w]
        rfl
       refine take_ (i := 3) (N := some 20) (v := ?_) (a' := ?_) #[true, true, true, true, true, true, true, false, false, false] rfl rfl (take_ofW HT_.out HW_.out (by kernel_rfl)) (fun _ _ _ h => h) (Or.inl ⟨by rfl, ?_⟩) hHeld ?_ ?_
       rotate_left
       ·rintro w' ⟨sq0, sq1, sq2, sq3, sq4, sq5, sq6, sq7, sq8, sq9, sq10, sq11, sq12, sq13, sq14, sq15⟩
        go_simp
        with_reducible rfl
       rotate_left
       ·simp only [Act.put, List.setIfInBounds_toArray, List.set_cons_zero, List.set_cons_succ, i64_w, i32_w]
        rfl
       refine take_ (i := 7) (N := some 24) (v := ?_) (a' := ?_) #[true, true, true, true, true, true, true, true, false, false] rfl rfl (take_ofW HT_.out HW_.out (by kernel_rfl)) (fun _ _ _ h => h) (Or.inl ⟨by rfl, ?_⟩) hHeld ?_ ?_
       rotate_left
       ·rintro w' ⟨sq0, sq1, sq2, sq3, sq4, sq5, sq6, sq7, sq8, sq9, sq10, sq11, sq12, sq13, sq14, sq15⟩
        go_simp
        with_reducible rfl
       rotate_left
       ·simp only [Act.put, List.setIfInBounds_toArray, List.set_cons_zero, List.set_cons_succ, i64_w, i32_w]
        rfl
       refine one_ (i := 8) (N := some 25) #[true, true, true, true, true, true, true, true, true, false] rfl rfl (one_of HT_.out (by kernel_rfl)) (by decide) (fun K hK => ?_)
       refine goes_ Try.func65 (by kernel_rfl) rfl #[.agg #[.int .i64 ((rd_T59 l0 x5_1).f0), .int .i64 ((rd_T59 l0 x5_1).f1), .int .i64 ((rd_T59 l0 x5_1).f2.f0), .int .i64 ((rd_T59 l0 x5_1).f2.f1), .int .i64 ((rd_T59 l0 x5_1).f2.f2), .int .i64 ((rd_T59 l0 x5_1).f3), .slice Aq0_6 ((rd_T59 l0 x5_1).f4).length cq0_6, .slice Aq0_7 ((rd_T59 l0 x5_1).f5).length cq0_7], .agg #[.int .i64 ((rd_T59 l1 x5_1).f0), .int .i64 ((rd_T59 l1 x5_1).f1), .int .i64 ((rd_T59 l1 x5_1).f2.f0), .int .i64 ((rd_T59 l1 x5_1).f2.f1), .int .i64 ((rd_T59 l1 x5_1).f2.f2), .int .i64 ((rd_T59 l1 x5_1).f3), .slice Aq1_6 ((rd_T59 l1 x5_1).f4).length cq1_6, .slice Aq1_7 ((rd_T59 l1 x5_1).f5).length cq1_7]] (by rfl) rfl rfl ZG ?_
       first
       | (
         (have z_ := tag0_; clear z_)
         with_reducible refine ((laws_eqStep.calls_of ih) k1 (by have := HK1.out; omega) ((rd_T59 l0 x5_1).f0) ((rd_T59 l0 x5_1).f1) ((rd_T59 l0 x5_1).f2.f0) ((rd_T59 l0 x5_1).f2.f1) ((rd_T59 l0 x5_1).f2.f2) ((rd_T59 l0 x5_1).f3) _ _ ((rd_T59 l0 x5_1).f4) _ _ ((rd_T59 l0 x5_1).f5) ((rd_T59 l1 x5_1).f0) ((rd_T59 l1 x5_1).f1) ((rd_T59 l1 x5_1).f2.f0) ((rd_T59 l1 x5_1).f2.f1) ((rd_T59 l1 x5_1).f2.f2) ((rd_T59 l1 x5_1).f3) _ _ ((rd_T59 l1 x5_1).f4) _ _ ((rd_T59 l1 x5_1).f5) true _ ?side1 ?side2 ?side3 ?side4 ?side5 ?side6 ?side7 ?side8 A7.out).mono ?_
         (case side1 => exact ZQ (Kd.C_below HRq0_6.out HB.out))
         (case side2 => exact HCq0_6.out)
         (case side3 => exact ZQ (Kd.C_below HRq0_7.out HB.out))
         (case side4 => exact HCq0_7.out)
         (case side5 => exact ZQ (Kd.C_below HRq1_6.out HB.out))
         (case side6 => exact HCq1_6.out)
         (case side7 => exact ZQ (Kd.C_below HRq1_7.out HB.out))
         (case side8 => exact HCq1_7.out)
         rintro e wq1 ⟨rfl, hb⟩
         refine ⟨_, rfl, ?_⟩
         have nq0_ := ZT hb
         clear HB
         have HB := nq0_
         clear nq0_
         (try clear hb)
         (try clear hb2)
         (try clear hk)
         (try clear hi)
         refine hK.out _ _ ⟨((HB.out.cell (World.block_lt_of_cell? w _ hwq0_0)).trans hwq0_0), ((HB.out.cell (World.block_lt_of_cell? w _ hwq0_1)).trans hwq0_1), ((HB.out.cell (World.block_lt_of_cell? w _ hwq0_2)).trans hwq0_2), ((HB.out.cell (World.block_lt_of_cell? w _ hwq0_3)).trans hwq0_3), ((HB.out.cell (World.block_lt_of_cell? w _ hwq0_4)).trans hwq0_4), ((HB.out.cell (World.block_lt_of_cell? w _ hwq0_5)).trans hwq0_5), ((HB.out.cell (World.block_lt_of_cell? w _ hwq0_6)).trans hwq0_6), ((HB.out.cell (World.block_lt_of_cell? w _ hwq0_7)).trans hwq0_7), ((HB.out.cell (World.block_lt_of_cell? w _ hwq1_0)).trans hwq1_0), ((HB.out.cell (World.block_lt_of_cell? w _ hwq1_1)).trans hwq1_1), ((HB.out.cell (World.block_lt_of_cell? w _ hwq1_2)).trans hwq1_2), ((HB.out.cell (World.block_lt_of_cell? w _ hwq1_3)).trans hwq1_3), ((HB.out.cell (World.block_lt_of_cell? w _ hwq1_4)).trans hwq1_4), ((HB.out.cell (World.block_lt_of_cell? w _ hwq1_5)).trans hwq1_5), ((HB.out.cell (World.block_lt_of_cell? w _ hwq1_6)).trans hwq1_6), ((HB.out.cell (World.block_lt_of_cell? w _ hwq1_7)).trans hwq1_7)⟩ (fun hHeld => ?_)
         clear hK K
         refine ZNO 25 ?_
         refine pure_ (i := 9) (N := some 26) (v := ?_) (a' := ?_) #[true, true, true, true, true, true, true, true, true, true] rfl rfl (any_of HT_.out (by kernel_rfl)) (fun _ _ _ h => h) (Or.inl ⟨by rfl, ?_⟩) ?_ ?_
         rotate_left
         ·intro w'
          go_simp
          with_reducible rfl
         rotate_left
         ·simp only [Act.put, List.setIfInBounds_toArray, List.set_cons_zero, List.set_cons_succ, i64_w, i32_w]
          rfl
         refine done_ (done_of HT_.out (by kernel_rfl)) ?_
         try go_wp2
         go_roundg k1
         case measure => have := HK1.out; omega
         case rel => exact ⟨(wrap64 (x5_1 + 1)), (by first | rfl | (simp; done) | (simp [*]; done)), H', ⟨by have := HK1.out; omega⟩, ⟨ZB⟩⟩)
       | (
         (have z_ := tag1_; clear z_)
         with_reducible refine ((laws_eqStep.calls_of ih) k1 (by have := HK1.out; omega) ((rd_T59 l0 x5_1).f0) ((rd_T59 l0 x5_1).f1) ((rd_T59 l0 x5_1).f2.f0) ((rd_T59 l0 x5_1).f2.f1) ((rd_T59 l0 x5_1).f2.f2) ((rd_T59 l0 x5_1).f3) _ _ ((rd_T59 l0 x5_1).f4) _ _ ((rd_T59 l0 x5_1).f5) ((rd_T59 l1 x5_1).f0) ((rd_T59 l1 x5_1).f1) ((rd_T59 l1 x5_1).f2.f0) ((rd_T59 l1 x5_1).f2.f1) ((rd_T59 l1 x5_1).f2.f2) ((rd_T59 l1 x5_1).f3) _ _ ((rd_T59 l1 x5_1).f4) _ _ ((rd_T59 l1 x5_1).f5) false _ ?side1 ?side2 ?side3 ?side4 ?side5 ?side6 ?side7 ?side8 A7.out).mono ?_
         (case side1 => exact ZQ (Kd.C_below HRq0_6.out HB.out))
         (case side2 => exact HCq0_6.out)
         (case side3 => exact ZQ (Kd.C_below HRq0_7.out HB.out))
         (case side4 => exact HCq0_7.out)
         (case side5 => exact ZQ (Kd.C_below HRq1_6.out HB.out))
         (case side6 => exact HCq1_6.out)
         (case side7 => exact ZQ (Kd.C_below HRq1_7.out HB.out))
         (case side8 => exact HCq1_7.out)
         rintro e wq1 ⟨rfl, hb⟩
         refine ⟨_, rfl, ?_⟩
         have nq0_ := ZT hb
         clear HB
         have HB := nq0_
         clear nq0_
         (try clear hb)
         (try clear hb2)
         (try clear hk)
         (try clear hi)
         refine hK.out _ _ ⟨((HB.out.cell (World.block_lt_of_cell? w _ hwq0_0)).trans hwq0_0), ((HB.out.cell (World.block_lt_of_cell? w _ hwq0_1)).trans hwq0_1), ((HB.out.cell (World.block_lt_of_cell? w _ hwq0_2)).trans hwq0_2), ((HB.out.cell (World.block_lt_of_cell? w _ hwq0_3)).trans hwq0_3), ((HB.out.cell (World.block_lt_of_cell? w _ hwq0_4)).trans hwq0_4), ((HB.out.cell (World.block_lt_of_cell? w _ hwq0_5)).trans hwq0_5), ((HB.out.cell (World.block_lt_of_cell? w _ hwq0_6)).trans hwq0_6), ((HB.out.cell (World.block_lt_of_cell? w _ hwq0_7)).trans hwq0_7), ((HB.out.cell (World.block_lt_of_cell? w _ hwq1_0)).trans hwq1_0), ((HB.out.cell (World.block_lt_of_cell? w _ hwq1_1)).trans hwq1_1), ((HB.out.cell (World.block_lt_of_cell? w _ hwq1_2)).trans hwq1_2), ((HB.out.cell (World.block_lt_of_cell? w _ hwq1_3)).trans hwq1_3), ((HB.out.cell (World.block_lt_of_cell? w _ hwq1_4)).trans hwq1_4), ((HB.out.cell (World.block_lt_of_cell? w _ hwq1_5)).trans hwq1_5), ((HB.out.cell (World.block_lt_of_cell? w _ hwq1_6)).trans hwq1_6), ((HB.out.cell (World.block_lt_of_cell? w _ hwq1_7)).trans hwq1_7)⟩ (fun hHeld => ?_)
         clear hK K
         refine ZNO 25 ?_
         refine pure_ (i := 9) (N := some 26) (v := ?_) (a' := ?_) #[true, true, true, true, true, true, true, true, true, true] rfl rfl (any_of HT_.out (by kernel_rfl)) (fun _ _ _ h => h) (Or.inl ⟨by rfl, ?_⟩) ?_ ?_
         rotate_left
         ·intro w'
          go_simp
          with_reducible rfl
         rotate_left
         ·simp only [Act.put, List.setIfInBounds_toArray, List.set_cons_zero, List.set_cons_succ, i64_w, i32_w]
          rfl
         refine done_ (done_of HT_.out (by kernel_rfl)) ?_
         try go_wp2
         go_ret
         exact ⟨ZE, ZB⟩))
     | (
       (have z_ := tag2_; clear z_)
       go_wp2
       go_ret
       exact ⟨ZE, ZB⟩)
 ·rw [if_neg c3] at H
  have c3b0 : ((l0.length : Int) == (l1.length : Int)) = false := beq_eq_false_iff_ne.mpr c3
  have c3b1 : ((l0.length : Int) != (l1.length : Int)) = true := bne_iff_ne.mpr c3
  have c3b2 : (l0.length == l1.length) = false := by first | simpa using c3 | (simp at c3 ⊢; omega)
  obtain rfl := Option.some.inj H
  go_enter Try.func99, Try.ntmps99
  go_wp2
  go_ret
  exact ⟨ZE, ZB⟩

def laws_eqStep.f (k : Nat) := laws_eqStep.g k (laws_eqStepS.f k)
theorem laws_eqStep.calls (k : Nat) (a0_0 : Int) (a0_1 : Int) (a0_2 : Int) (a0_3 : Int) (a0_4 : Int) (a0_5 : Int) (A0_6 : Option Addr) (c0_6 : Nat) (l0_6 : List (S59)) (A0_7 : Option Addr) (c0_7 : Nat) (l0_7 : List (S59)) (a1_0 : Int) (a1_1 : Int) (a1_2 : Int) (a1_3 : Int) (a1_4 : Int) (a1_5 : Int) (A1_6 : Option Addr) (c1_6 : Nat) (l1_6 : List (S59)) (A1_7 : Option Addr) (c1_7 : Nat) (l1_7 : List (S59)) (r : Bool) (w : World) (hr0_6 : Kd.C k59 w A0_6 l0_6.length l0_6) (hc0_6 : l0_6.length ≤ c0_6) (hr0_7 : Kd.C k59 w A0_7 l0_7.length l0_7) (hc0_7 : l0_7.length ≤ c0_7) (hr1_6 : Kd.C k59 w A1_6 l1_6.length l1_6) (hc1_6 : l1_6.length ≤ c1_6) (hr1_7 : Kd.C k59 w A1_7 l1_7.length l1_7) (hc1_7 : l1_7.length ≤ c1_7) (h : laws_eqStep.f k a0_0 a0_1 a0_2 a0_3 a0_4 a0_5 l0_6 l0_7 a1_0 a1_1 a1_2 a1_3 a1_4 a1_5 l1_6 l1_7 = some r) :
  Calls Try.prog 65 #[.agg #[.int .i64 a0_0, .int .i64 a0_1, .int .i64 a0_2, .int .i64 a0_3, .int .i64 a0_4, .int .i64 a0_5, .slice A0_6 l0_6.length c0_6, .slice A0_7 l0_7.length c0_7], .agg #[.int .i64 a1_0, .int .i64 a1_1, .int .i64 a1_2, .int .i64 a1_3, .int .i64 a1_4, .int .i64 a1_5, .slice A1_6 l1_6.length c1_6, .slice A1_7 l1_7.length c1_7]] w fun e w' => e = .returned (.bool r) ∧ Below w.heap.size w w' := laws_eqStep.calls_g k (laws_eqStepS.f k) (laws_eqStepS.calls k) a0_0 a0_1 a0_2 a0_3 a0_4 a0_5 A0_6 c0_6 l0_6 A0_7 c0_7 l0_7 a1_0 a1_1 a1_2 a1_3 a1_4 a1_5 A1_6 c1_6 l1_6 A1_7 c1_7 l1_7 r w hr0_6 hc0_6 hr0_7 hc0_7 hr1_6 hc1_6 hr1_7 hc1_7 h

end Go.Proofs.Ytcffnnedghgmaaa.A
