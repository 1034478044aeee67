/- Go functions as Lean functions, and for each its contract; written by wip/tools/pr.py over the kit's print. -/
import Derived.Test.YtfcmckomagaiiaaDoorAx0
import Derived.Test.YtfcmckomagaiiaaDoorAx15
import Derived.Test.YtfcmckomagaiiaaDoorAx16
namespace Go.Proofs.YtfcmckomagaiiaaDoor.A
open Go.RowKit Go.Proofs.YtfcmckomagaiiaaDoorW.PrintWords Go.Proofs.YtfcmckomagaiiaaDoorW.PrintLast Go.Proofs.YtfcmckomagaiiaaDoorW.PrintMore
attribute [local go_sem] max2_int min2_int max_two min_two max_three min_three max_four min_four
set_option linter.unusedVariables false
set_option linter.unusedSimpArgs false
set_option maxHeartbeats 8000000
set_option maxRecDepth 100000

/-! ### laws_eqProg: function 9 -/
def laws_eqProg.f (k : Nat) (l0_0 : List (S43)) (l0_1 : List (S71)) (l1_0 : List (S43)) (l1_1 : List (S71)) : Option (Bool) := (laws_eqLabelS.f k l0_0 l1_0).bind fun t307 => (if t307 = true then ((laws_eqStepS.f k l0_1 l1_1).bind fun t308 => (if t308 = true then (some true) else (some false))) else (some false))
theorem laws_eqProg.calls (k : Nat) (A0_0 : Option Addr) (c0_0 : Nat) (l0_0 : List (S43)) (A0_1 : Option Addr) (c0_1 : Nat) (l0_1 : List (S71)) (A1_0 : Option Addr) (c1_0 : Nat) (l1_0 : List (S43)) (A1_1 : Option Addr) (c1_1 : Nat) (l1_1 : List (S71)) (r : Bool) (w : World) (hr0_0 : Kd.C k43 w A0_0 l0_0.length l0_0) (hc0_0 : l0_0.length ≤ c0_0) (hr0_1 : Kd.C k71 w A0_1 l0_1.length l0_1) (hc0_1 : l0_1.length ≤ c0_1) (hr1_0 : Kd.C k43 w A1_0 l1_0.length l1_0) (hc1_0 : l1_0.length ≤ c1_0) (hr1_1 : Kd.C k71 w A1_1 l1_1.length l1_1) (hc1_1 : l1_1.length ≤ c1_1) (h : laws_eqProg.f k l0_0 l0_1 l1_0 l1_1 = some r) :
  Calls Tryd.prog 9 #[.agg #[.slice A0_0 l0_0.length c0_0, .slice A0_1 l0_1.length c0_1], .agg #[.slice A1_0 l1_0.length c1_0, .slice A1_1 l1_1.length c1_1]] w fun e w' => e = .returned (.bool r) ∧ Below w.heap.size w w' := by
 have hu31 := Tryd.underlying31
 have HR0_0 := AM hr0_0
 have HC0_0 := AM hc0_0
 clear hr0_0 hc0_0
 have HR0_1 := AM hr0_1
 have HC0_1 := AM hc0_1
 clear hr0_1 hc0_1
 have HR1_0 := AM hr1_0
 have HC1_0 := AM hc1_0
 clear hr1_0 hc1_0
 have HR1_1 := AM hr1_1
 have HC1_1 := AM hc1_1
 clear hr1_1 hc1_1
 have HB := AM (Below.refl w.heap.size w)
 have H := h
 unfold laws_eqProg.f at H
 clear h
 obtain ⟨t307, A3, H⟩ := ZOB H; try dsimp only at H
 by_cases c4 : t307 = true
 ·(
 subst c4
 have H1 := H; rw [if_pos rfl] at H1
 clear H
 have H := H1
 clear H1
 obtain ⟨t308, A5, H⟩ := ZOB H; try dsimp only at H
 by_cases c6 : t308 = true
 ·(
 subst c6
 have H1 := H; rw [if_pos rfl] at H1
 clear H
 have H := H1
 clear H1
 obtain rfl := Option.some.inj H
 go_enter Tryd.func9, Tryd.ntmps9
 go_wp2_with (first | ((with_reducible refine gate_dst (N := 2) rfl ?_); refine ZX (N := 2) (cs := #[.slice A0_0 l0_0.length c0_0, .slice A0_1 l0_1.length c0_1]) (t := 31) ?_; intro gb305 hg w7 hbox hb; have BK305 := AM (hbox); have GW305 : Aside0 (w.heap.size ≤ gb305) := ZS hg; have GE305 : Aside0 (w.heap.size ≤ gb305) := ZS hg; replace HB := ZT HB hb; clear hb hbox hg) | ((with_reducible refine gate_dst (N := 3) rfl ?_); refine ZX (N := 3) (cs := #[.slice A1_0 l1_0.length c1_0, .slice A1_1 l1_1.length c1_1]) (t := 31) ?_; intro gb306 hg w8 hbox hb; have BK306 := AM (hbox); have GW306 : Aside0 (w.heap.size ≤ gb306) := ZS hg; have GE306 : Aside0 (w.heap.size ≤ gb306) := ZS hg; have NB305_306 : Aside0 (gb305 ≠ gb306) := ZN hg BK305; have NB306_305 : Aside0 (gb306 ≠ gb305) := ZM hg BK305; replace BK305 := ZW BK305 hb; replace HB := ZT HB hb; clear hb hbox hg; have hnb9 := NB305_306.out; have hnc9 := NB306_305.out; have hcz10 := ZC2 w8 BK305; have hfz10 := ZF2 BK305; have hcz11 := ZC2 w8 BK306; have hfz11 := ZF2 BK306) | ((with_reducible refine gate_callee (f := 24) rfl ?_); refine ZGL (some 9) Tryd.func24 #[.slice A0_0 l0_0.length c0_0, .slice A1_0 l1_0.length c1_0] ?_; (with_reducible refine (laws_eqLabelS.calls k _ _ l0_0 _ _ l1_0 true _ ?side1 ?side2 ?side3 ?side4 A3.out).mono ?_); (case side1 => exact ZQ (Kd.C_below HR0_0.out HB.out)); (case side2 => exact HC0_0.out); (case side3 => exact ZQ (Kd.C_below HR1_0.out HB.out)); (case side4 => exact HC1_0.out); rintro e w12 ⟨rfl, hb⟩; refine ⟨_, rfl, ?_⟩; replace BK305 := ZW BK305 hb; replace BK306 := ZW BK306 hb; replace HB := ZT HB hb; clear hb; have hcz13 := ZC2 w12 BK305; have hfz13 := ZF2 BK305; have hcz14 := ZC2 w12 BK306; have hfz14 := ZF2 BK306) | ((with_reducible refine gate_callee (f := 25) rfl ?_); refine ZGL (some 15) Tryd.func25 #[.slice A0_1 l0_1.length c0_1, .slice A1_1 l1_1.length c1_1] ?_; (with_reducible refine (laws_eqStepS.calls k _ _ l0_1 _ _ l1_1 true _ ?side1 ?side2 ?side3 ?side4 A5.out).mono ?_); (case side1 => exact ZQ (Kd.C_below HR0_1.out HB.out)); (case side2 => exact HC0_1.out); (case side3 => exact ZQ (Kd.C_below HR1_1.out HB.out)); (case side4 => exact HC1_1.out); rintro e w15 ⟨rfl, hb⟩; refine ⟨_, rfl, ?_⟩; replace BK305 := ZW BK305 hb; replace BK306 := ZW BK306 hb; replace HB := ZT HB hb; clear hb))
 go_ret
 exact ⟨ZE, ZB⟩)
 ·(
 replace c6 := Bool.eq_false_iff.mpr c6
 subst c6
 have H1 := H; rw [if_neg ZFT] at H1
 clear H
 have H := H1
 clear H1
 obtain rfl := Option.some.inj H
 go_enter Tryd.func9, Tryd.ntmps9
 go_wp2_with (first | ((with_reducible refine gate_dst (N := 2) rfl ?_); refine ZX (N := 2) (cs := #[.slice A0_0 l0_0.length c0_0, .slice A0_1 l0_1.length c0_1]) (t := 31) ?_; intro gb305 hg w16 hbox hb; have BK305 := AM (hbox); have GW305 : Aside0 (w.heap.size ≤ gb305) := ZS hg; have GE305 : Aside0 (w.heap.size ≤ gb305) := ZS hg; replace HB := ZT HB hb; clear hb hbox hg) | ((with_reducible refine gate_dst (N := 3) rfl ?_); refine ZX (N := 3) (cs := #[.slice A1_0 l1_0.length c1_0, .slice A1_1 l1_1.length c1_1]) (t := 31) ?_; intro gb306 hg w17 hbox hb; have BK306 := AM (hbox); have GW306 : Aside0 (w.heap.size ≤ gb306) := ZS hg; have GE306 : Aside0 (w.heap.size ≤ gb306) := ZS hg; have NB305_306 : Aside0 (gb305 ≠ gb306) := ZN hg BK305; have NB306_305 : Aside0 (gb306 ≠ gb305) := ZM hg BK305; replace BK305 := ZW BK305 hb; replace HB := ZT HB hb; clear hb hbox hg; have hnb18 := NB305_306.out; have hnc18 := NB306_305.out; have hcz19 := ZC2 w17 BK305; have hfz19 := ZF2 BK305; have hcz20 := ZC2 w17 BK306; have hfz20 := ZF2 BK306) | ((with_reducible refine gate_callee (f := 24) rfl ?_); refine ZGL (some 9) Tryd.func24 #[.slice A0_0 l0_0.length c0_0, .slice A1_0 l1_0.length c1_0] ?_; (with_reducible refine (laws_eqLabelS.calls k _ _ l0_0 _ _ l1_0 true _ ?side1 ?side2 ?side3 ?side4 A3.out).mono ?_); (case side1 => exact ZQ (Kd.C_below HR0_0.out HB.out)); (case side2 => exact HC0_0.out); (case side3 => exact ZQ (Kd.C_below HR1_0.out HB.out)); (case side4 => exact HC1_0.out); rintro e w21 ⟨rfl, hb⟩; refine ⟨_, rfl, ?_⟩; replace BK305 := ZW BK305 hb; replace BK306 := ZW BK306 hb; replace HB := ZT HB hb; clear hb; have hcz22 := ZC2 w21 BK305; have hfz22 := ZF2 BK305; have hcz23 := ZC2 w21 BK306; have hfz23 := ZF2 BK306) | ((with_reducible refine gate_callee (f := 25) rfl ?_); refine ZGL (some 15) Tryd.func25 #[.slice A0_1 l0_1.length c0_1, .slice A1_1 l1_1.length c1_1] ?_; (with_reducible refine (laws_eqStepS.calls k _ _ l0_1 _ _ l1_1 false _ ?side1 ?side2 ?side3 ?side4 A5.out).mono ?_); (case side1 => exact ZQ (Kd.C_below HR0_1.out HB.out)); (case side2 => exact HC0_1.out); (case side3 => exact ZQ (Kd.C_below HR1_1.out HB.out)); (case side4 => exact HC1_1.out); rintro e w24 ⟨rfl, hb⟩; refine ⟨_, rfl, ?_⟩; replace BK305 := ZW BK305 hb; replace BK306 := ZW BK306 hb; replace HB := ZT HB hb; clear hb))
 go_ret
 exact ⟨ZE, ZB⟩))
 ·(
 replace c4 := Bool.eq_false_iff.mpr c4
 subst c4
 have H1 := H; rw [if_neg ZFT] at H1
 clear H
 have H := H1
 clear H1
 obtain rfl := Option.some.inj H
 go_enter Tryd.func9, Tryd.ntmps9
 go_wp2_with (first | ((with_reducible refine gate_dst (N := 2) rfl ?_); refine ZX (N := 2) (cs := #[.slice A0_0 l0_0.length c0_0, .slice A0_1 l0_1.length c0_1]) (t := 31) ?_; intro gb305 hg w25 hbox hb; have BK305 := AM (hbox); have GW305 : Aside0 (w.heap.size ≤ gb305) := ZS hg; have GE305 : Aside0 (w.heap.size ≤ gb305) := ZS hg; replace HB := ZT HB hb; clear hb hbox hg) | ((with_reducible refine gate_dst (N := 3) rfl ?_); refine ZX (N := 3) (cs := #[.slice A1_0 l1_0.length c1_0, .slice A1_1 l1_1.length c1_1]) (t := 31) ?_; intro gb306 hg w26 hbox hb; have BK306 := AM (hbox); have GW306 : Aside0 (w.heap.size ≤ gb306) := ZS hg; have GE306 : Aside0 (w.heap.size ≤ gb306) := ZS hg; have NB305_306 : Aside0 (gb305 ≠ gb306) := ZN hg BK305; have NB306_305 : Aside0 (gb306 ≠ gb305) := ZM hg BK305; replace BK305 := ZW BK305 hb; replace HB := ZT HB hb; clear hb hbox hg; have hnb27 := NB305_306.out; have hnc27 := NB306_305.out; have hcz28 := ZC2 w26 BK305; have hfz28 := ZF2 BK305; have hcz29 := ZC2 w26 BK306; have hfz29 := ZF2 BK306) | ((with_reducible refine gate_callee (f := 24) rfl ?_); refine ZGL (some 9) Tryd.func24 #[.slice A0_0 l0_0.length c0_0, .slice A1_0 l1_0.length c1_0] ?_; (with_reducible refine (laws_eqLabelS.calls k _ _ l0_0 _ _ l1_0 false _ ?side1 ?side2 ?side3 ?side4 A3.out).mono ?_); (case side1 => exact ZQ (Kd.C_below HR0_0.out HB.out)); (case side2 => exact HC0_0.out); (case side3 => exact ZQ (Kd.C_below HR1_0.out HB.out)); (case side4 => exact HC1_0.out); rintro e w30 ⟨rfl, hb⟩; refine ⟨_, rfl, ?_⟩; replace BK305 := ZW BK305 hb; replace BK306 := ZW BK306 hb; replace HB := ZT HB hb; clear hb))
 go_ret
 exact ⟨ZE, ZB⟩)

end Go.Proofs.YtfcmckomagaiiaaDoor.A
