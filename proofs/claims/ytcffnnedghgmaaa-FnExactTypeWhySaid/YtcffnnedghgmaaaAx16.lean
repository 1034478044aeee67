/- What Go functions compute, as Lean functions, and for each its contract: for every input at which the Lean function answers the call returns that; written by wip/tools/pr.py over the kit's print. -/
import Derived.Test.YtcffnnedghgmaaaAx0
import Derived.Test.YtcffnnedghgmaaaAx13
import Derived.Test.YtcffnnedghgmaaaAx15
namespace Go.Proofs.Ytcffnnedghgmaaa.A
open Go.RowKit Go.Proofs.YtcffnnedghgmaaaW.PrintWords Go.Proofs.YtcffnnedghgmaaaW.PrintLast Go.Proofs.YtcffnnedghgmaaaW.PrintMore
attribute [local go_sem] max2_int min2_int max_two min_two max_three min_three max_four min_four   -- for this text's walks alone
set_option linter.unusedVariables false
set_option linter.unusedSimpArgs false

/-! ### laws_eqProg: function 39 -/
def laws_eqProg.f (k : Nat) (l0_0 : List (S35)) (l0_1 : List (S59)) (l1_0 : List (S35)) (l1_1 : List (S59)) : Option (Bool) := (laws_eqLabelS.f k l0_0 l1_0).bind fun t246 => (if t246 = true then ((laws_eqStepS.f k l0_1 l1_1).bind fun t247 => (if t247 = true then (some true) else (some false))) else (some false))
set_option maxHeartbeats 8000000 in
set_option maxRecDepth 100000 in
theorem laws_eqProg.calls (k : Nat) (A0_0 : Option Addr) (c0_0 : Nat) (l0_0 : List (S35)) (A0_1 : Option Addr) (c0_1 : Nat) (l0_1 : List (S59)) (A1_0 : Option Addr) (c1_0 : Nat) (l1_0 : List (S35)) (A1_1 : Option Addr) (c1_1 : Nat) (l1_1 : List (S59)) (r : Bool) (w : World) (hr0_0 : Kd.C k35 w A0_0 l0_0.length l0_0) (hc0_0 : l0_0.length ≤ c0_0) (hr0_1 : Kd.C k59 w A0_1 l0_1.length l0_1) (hc0_1 : l0_1.length ≤ c0_1) (hr1_0 : Kd.C k35 w A1_0 l1_0.length l1_0) (hc1_0 : l1_0.length ≤ c1_0) (hr1_1 : Kd.C k59 w A1_1 l1_1.length l1_1) (hc1_1 : l1_1.length ≤ c1_1) (h : laws_eqProg.f k l0_0 l0_1 l1_0 l1_1 = some r) :
  Calls Try.prog 39 #[.agg #[.slice A0_0 l0_0.length c0_0, .slice A0_1 l0_1.length c0_1], .agg #[.slice A1_0 l1_0.length c1_0, .slice A1_1 l1_1.length c1_1]] w fun e w' => e = .returned (.bool r) ∧ Below w.heap.size w w' := by
 have hu26 := Try.underlying26
 have HR0_0 := Aside0.mk hr0_0
 have HC0_0 := Aside0.mk hc0_0
 clear hr0_0 hc0_0
 have HR0_1 := Aside0.mk hr0_1
 have HC0_1 := Aside0.mk hc0_1
 clear hr0_1 hc0_1
 have HR1_0 := Aside0.mk hr1_0
 have HC1_0 := Aside0.mk hc1_0
 clear hr1_0 hc1_0
 have HR1_1 := Aside0.mk hr1_1
 have HC1_1 := Aside0.mk hc1_1
 clear hr1_1 hc1_1
 have HB := Aside0.mk (Below.refl w.heap.size w)
 have H : ((laws_eqLabelS.f k l0_0 l1_0).bind fun t246 => (if t246 = true then ((laws_eqStepS.f k l0_1 l1_1).bind fun t247 => (if t247 = true then (some true) else (some false))) else (some false))) = some r := h
 clear h
 replace H := Option.bind_eq_some_iff.mp H
 obtain ⟨t246, A30, H⟩ := H
 replace H : (if t246 = true then ((laws_eqStepS.f k l0_1 l1_1).bind fun t247 => (if t247 = true then (some true) else (some false))) else (some false)) = some r := H
 have A3 := Aside0.mk A30
 clear A30
 by_cases c4 : t246 = true
 ·subst c4
  have H1 : ((laws_eqStepS.f k l0_1 l1_1).bind fun t247 => (if t247 = true then (some true) else (some false))) = some r := by rw [if_pos rfl] at H; exact H
  clear H
  have H := H1
  clear H1
  replace H := Option.bind_eq_some_iff.mp H
  obtain ⟨t247, A50, H⟩ := H
  replace H : (if t247 = true then (some true) else (some false)) = some r := H
  have A5 := Aside0.mk A50
  clear A50
  by_cases c6 : t247 = true
  ·subst c6
   have H1 : (some true) = some r := by rw [if_pos rfl] at H; exact H
   clear H
   have H := H1
   clear H1
   obtain rfl := Option.some.inj H
   go_enter Try.func39, Try.ntmps39
   go_wp2_with (first | ((with_reducible refine gate_dst (N := 2) rfl ?_); refine ZX (N := 2) (cs := #[.slice A0_0 l0_0.length c0_0, .slice A0_1 l0_1.length c0_1]) (t := 26) ?_; intro gb244 hg w7 hbox hb; have BK244 := Aside0.mk (hbox); have GW244 : Aside0 (w.heap.size ≤ gb244) := ZS hg; have GE244 : Aside0 (w.heap.size ≤ gb244) := ZS hg; replace HB := ZT hb; clear hb hbox hg) | ((with_reducible refine gate_dst (N := 3) rfl ?_); refine ZX (N := 3) (cs := #[.slice A1_0 l1_0.length c1_0, .slice A1_1 l1_1.length c1_1]) (t := 26) ?_; intro gb245 hg w8 hbox hb; have BK245 := Aside0.mk (hbox); have GW245 : Aside0 (w.heap.size ≤ gb245) := ZS hg; have GE245 : Aside0 (w.heap.size ≤ gb245) := ZS hg; have NB244_245 : Aside0 (gb244 ≠ gb245) := ZN hg BK244; have NB245_244 : Aside0 (gb245 ≠ gb244) := ZM hg BK244; replace BK244 := ZW BK244 hb; replace HB := ZT hb; clear hb hbox hg; have hnb9 := NB244_245.out; have hnc9 := NB245_244.out; obtain ⟨hcz10_0, hcz10_1⟩ := ZC2 w8 BK244; obtain ⟨hfz10_0, hfz10_1⟩ := ZF2 BK244; obtain ⟨hcz11_0, hcz11_1⟩ := ZC2 w8 BK245; obtain ⟨hfz11_0, hfz11_1⟩ := ZF2 BK245) | ((with_reducible refine gate_callee (f := 56) rfl ?_); refine goesL_ (some 9) rfl rfl Try.func56 (by kernel_rfl) rfl #[.slice A0_0 l0_0.length c0_0, .slice A1_0 l1_0.length c1_0] rfl ZG ?_; (with_reducible refine (laws_eqLabelS.calls k _ _ l0_0 _ _ l1_0 true _ ?side1 ?side2 ?side3 ?side4 A3.out).mono ?_); (case side1 => exact ZQ (Kd.C_below HR0_0.out HB.out)); (case side2 => exact HC0_0.out); (case side3 => exact ZQ (Kd.C_below HR1_0.out HB.out)); (case side4 => exact HC1_0.out); rintro e w12 ⟨rfl, hb⟩; refine ⟨_, rfl, ?_⟩; replace BK244 := ZW BK244 hb; replace BK245 := ZW BK245 hb; replace HB := ZT hb; (try clear hb); (try clear hb2); (try clear hk); (try clear hi); obtain ⟨hcz13_0, hcz13_1⟩ := ZC2 w12 BK244; obtain ⟨hfz13_0, hfz13_1⟩ := ZF2 BK244; obtain ⟨hcz14_0, hcz14_1⟩ := ZC2 w12 BK245; obtain ⟨hfz14_0, hfz14_1⟩ := ZF2 BK245) | ((with_reducible refine gate_callee (f := 99) rfl ?_); refine goesL_ (some 15) rfl rfl Try.func99 (by kernel_rfl) rfl #[.slice A0_1 l0_1.length c0_1, .slice A1_1 l1_1.length c1_1] rfl ZG ?_; (with_reducible refine (laws_eqStepS.calls k _ _ l0_1 _ _ l1_1 true _ ?side1 ?side2 ?side3 ?side4 A5.out).mono ?_); (case side1 => exact ZQ (Kd.C_below HR0_1.out HB.out)); (case side2 => exact HC0_1.out); (case side3 => exact ZQ (Kd.C_below HR1_1.out HB.out)); (case side4 => exact HC1_1.out); rintro e w15 ⟨rfl, hb⟩; refine ⟨_, rfl, ?_⟩; replace BK244 := ZW BK244 hb; replace BK245 := ZW BK245 hb; replace HB := ZT hb; (try clear hb); (try clear hb2); (try clear hk); (try clear hi)))
   go_ret
   exact ⟨ZE, ZB⟩
  ·replace c6 := Bool.eq_false_iff.mpr c6
   subst c6
   have H1 : (some false) = some r := by rw [if_neg (show ¬ (false = true) by decide)] at H; exact H
   clear H
   have H := H1
   clear H1
   obtain rfl := Option.some.inj H
   go_enter Try.func39, Try.ntmps39
   go_wp2_with (first | ((with_reducible refine gate_dst (N := 2) rfl ?_); refine ZX (N := 2) (cs := #[.slice A0_0 l0_0.length c0_0, .slice A0_1 l0_1.length c0_1]) (t := 26) ?_; intro gb244 hg w16 hbox hb; have BK244 := Aside0.mk (hbox); have GW244 : Aside0 (w.heap.size ≤ gb244) := ZS hg; have GE244 : Aside0 (w.heap.size ≤ gb244) := ZS hg; replace HB := ZT hb; clear hb hbox hg) | ((with_reducible refine gate_dst (N := 3) rfl ?_); refine ZX (N := 3) (cs := #[.slice A1_0 l1_0.length c1_0, .slice A1_1 l1_1.length c1_1]) (t := 26) ?_; intro gb245 hg w17 hbox hb; have BK245 := Aside0.mk (hbox); have GW245 : Aside0 (w.heap.size ≤ gb245) := ZS hg; have GE245 : Aside0 (w.heap.size ≤ gb245) := ZS hg; have NB244_245 : Aside0 (gb244 ≠ gb245) := ZN hg BK244; have NB245_244 : Aside0 (gb245 ≠ gb244) := ZM hg BK244; replace BK244 := ZW BK244 hb; replace HB := ZT hb; clear hb hbox hg; have hnb18 := NB244_245.out; have hnc18 := NB245_244.out; obtain ⟨hcz19_0, hcz19_1⟩ := ZC2 w17 BK244; obtain ⟨hfz19_0, hfz19_1⟩ := ZF2 BK244; obtain ⟨hcz20_0, hcz20_1⟩ := ZC2 w17 BK245; obtain ⟨hfz20_0, hfz20_1⟩ := ZF2 BK245) | ((with_reducible refine gate_callee (f := 56) rfl ?_); refine goesL_ (some 9) rfl rfl Try.func56 (by kernel_rfl) rfl #[.slice A0_0 l0_0.length c0_0, .slice A1_0 l1_0.length c1_0] rfl ZG ?_; (with_reducible refine (laws_eqLabelS.calls k _ _ l0_0 _ _ l1_0 true _ ?side1 ?side2 ?side3 ?side4 A3.out).mono ?_); (case side1 => exact ZQ (Kd.C_below HR0_0.out HB.out)); (case side2 => exact HC0_0.out); (case side3 => exact ZQ (Kd.C_below HR1_0.out HB.out)); (case side4 => exact HC1_0.out); rintro e w21 ⟨rfl, hb⟩; refine ⟨_, rfl, ?_⟩; replace BK244 := ZW BK244 hb; replace BK245 := ZW BK245 hb; replace HB := ZT hb; (try clear hb); (try clear hb2); (try clear hk); (try clear hi); obtain ⟨hcz22_0, hcz22_1⟩ := ZC2 w21 BK244; obtain ⟨hfz22_0, hfz22_1⟩ := ZF2 BK244; obtain ⟨hcz23_0, hcz23_1⟩ := ZC2 w21 BK245; obtain ⟨hfz23_0, hfz23_1⟩ := ZF2 BK245) | ((with_reducible refine gate_callee (f := 99) rfl ?_); refine goesL_ (some 15) rfl rfl Try.func99 (by kernel_rfl) rfl #[.slice A0_1 l0_1.length c0_1, .slice A1_1 l1_1.length c1_1] rfl ZG ?_; (with_reducible refine (laws_eqStepS.calls k _ _ l0_1 _ _ l1_1 false _ ?side1 ?side2 ?side3 ?side4 A5.out).mono ?_); (case side1 => exact ZQ (Kd.C_below HR0_1.out HB.out)); (case side2 => exact HC0_1.out); (case side3 => exact ZQ (Kd.C_below HR1_1.out HB.out)); (case side4 => exact HC1_1.out); rintro e w24 ⟨rfl, hb⟩; refine ⟨_, rfl, ?_⟩; replace BK244 := ZW BK244 hb; replace BK245 := ZW BK245 hb; replace HB := ZT hb; (try clear hb); (try clear hb2); (try clear hk); (try clear hi)))
   go_ret
   exact ⟨ZE, ZB⟩
 ·replace c4 := Bool.eq_false_iff.mpr c4
  subst c4
  have H1 : (some false) = some r := by rw [if_neg (show ¬ (false = true) by decide)] at H; exact H
  clear H
  have H := H1
  clear H1
  obtain rfl := Option.some.inj H
  go_enter Try.func39, Try.ntmps39
  go_wp2_with (first | ((with_reducible refine gate_dst (N := 2) rfl ?_); refine ZX (N := 2) (cs := #[.slice A0_0 l0_0.length c0_0, .slice A0_1 l0_1.length c0_1]) (t := 26) ?_; intro gb244 hg w25 hbox hb; have BK244 := Aside0.mk (hbox); have GW244 : Aside0 (w.heap.size ≤ gb244) := ZS hg; have GE244 : Aside0 (w.heap.size ≤ gb244) := ZS hg; replace HB := ZT hb; clear hb hbox hg) | ((with_reducible refine gate_dst (N := 3) rfl ?_); refine ZX (N := 3) (cs := #[.slice A1_0 l1_0.length c1_0, .slice A1_1 l1_1.length c1_1]) (t := 26) ?_; intro gb245 hg w26 hbox hb; have BK245 := Aside0.mk (hbox); have GW245 : Aside0 (w.heap.size ≤ gb245) := ZS hg; have GE245 : Aside0 (w.heap.size ≤ gb245) := ZS hg; have NB244_245 : Aside0 (gb244 ≠ gb245) := ZN hg BK244; have NB245_244 : Aside0 (gb245 ≠ gb244) := ZM hg BK244; replace BK244 := ZW BK244 hb; replace HB := ZT hb; clear hb hbox hg; have hnb27 := NB244_245.out; have hnc27 := NB245_244.out; obtain ⟨hcz28_0, hcz28_1⟩ := ZC2 w26 BK244; obtain ⟨hfz28_0, hfz28_1⟩ := ZF2 BK244; obtain ⟨hcz29_0, hcz29_1⟩ := ZC2 w26 BK245; obtain ⟨hfz29_0, hfz29_1⟩ := ZF2 BK245) | ((with_reducible refine gate_callee (f := 56) rfl ?_); refine goesL_ (some 9) rfl rfl Try.func56 (by kernel_rfl) rfl #[.slice A0_0 l0_0.length c0_0, .slice A1_0 l1_0.length c1_0] rfl ZG ?_; (with_reducible refine (laws_eqLabelS.calls k _ _ l0_0 _ _ l1_0 false _ ?side1 ?side2 ?side3 ?side4 A3.out).mono ?_); (case side1 => exact ZQ (Kd.C_below HR0_0.out HB.out)); (case side2 => exact HC0_0.out); (case side3 => exact ZQ (Kd.C_below HR1_0.out HB.out)); (case side4 => exact HC1_0.out); rintro e w30 ⟨rfl, hb⟩; refine ⟨_, rfl, ?_⟩; replace BK244 := ZW BK244 hb; replace BK245 := ZW BK245 hb; replace HB := ZT hb; (try clear hb); (try clear hb2); (try clear hk); (try clear hi)))
  go_ret
  exact ⟨ZE, ZB⟩

end Go.Proofs.Ytcffnnedghgmaaa.A
