/- What Go functions compute, as Lean functions, and for each its contract: for every input at which the Lean function answers the call returns that; written by wip/tools/pr.py over the kit's print. -/
import Derived.Test.YtgcioalgjcaikaaDoorAx0
import Derived.Test.YtgcioalgjcaikaaDoorAx1
import Derived.Test.YtgcioalgjcaikaaDoorAx5
import Derived.Test.YtgcioalgjcaikaaDoorAx7
import Derived.Test.YtgcioalgjcaikaaDoorAx8
import Derived.Test.YtgcioalgjcaikaaDoorAx16
namespace Go.Proofs.YtgcioalgjcaikaaDoor.A
open Go.RowKit Go.Proofs.YtgcioalgjcaikaaDoorW.PrintWords Go.Proofs.YtgcioalgjcaikaaDoorW.PrintLast Go.Proofs.YtgcioalgjcaikaaDoorW.PrintMore
attribute [local go_sem] max2_int min2_int max_two min_two max_three min_three max_four min_four   -- for this text's walks alone
set_option linter.unusedVariables false
set_option linter.unusedSimpArgs false

attribute [local go_sem high] eqA25
/-! ### laws_FnLabelStrict: function 6 -/
def laws_FnLabelStrict.f (k : Nat) (l0 : List Int) : Option (Bool) := if (l0.length : Int) > 1048576 then (some true) else ((spec_DrawLabelRead.f k l0).bind fun t252 => ((spec_LabelRead.f k t252).bind fun bt253 => ((impl_LabelRead.f k t252).bind fun bt257 => (if (bt257.2.2 == bt253.2.2) = true then (if (bt257.1 == bt253.1 && (bt257.2.1 == bt253.2.1)) = true then (if bt257.2.2 = true then ((impl_LabelText.f k bt257.1 bt257.2.1).bind fun t261 => (some (t261.toList == t252.toList))) else (if (bt257.1 == 0 && (bt257.2.1 == 0)) = true then (some true) else (some false))) else (some false)) else (some false)))))
set_option maxHeartbeats 8000000 in
set_option maxRecDepth 100000 in
theorem laws_FnLabelStrict.calls (k : Nat) (A0 : Option Addr) (c0 : Nat) (l0 : List Int) (r : Bool) (w : World) (hr0 : Kd.C (Kd.int .u8) w A0 l0.length l0) (hc0 : l0.length ≤ c0) (h : laws_FnLabelStrict.f k l0 = some r) :
  Calls Tryd.prog 6 #[.slice A0 l0.length c0] w fun e w' => e = .returned (.bool r) ∧ Below w.heap.size w w' := by
 have hu25 := Tryd.underlying25
 have HR0 := Aside0.mk hr0
 have HC0 := Aside0.mk hc0
 clear hr0 hc0
 have HB := Aside0.mk (Below.refl w.heap.size w)
 have H : (if (l0.length : Int) > 1048576 then (some true) else ((spec_DrawLabelRead.f k l0).bind fun t252 => ((spec_LabelRead.f k t252).bind fun bt253 => ((impl_LabelRead.f k t252).bind fun bt257 => (if (bt257.2.2 == bt253.2.2) = true then (if (bt257.1 == bt253.1 && (bt257.2.1 == bt253.2.1)) = true then (if bt257.2.2 = true then ((impl_LabelText.f k bt257.1 bt257.2.1).bind fun t261 => (some (t261.toList == t252.toList))) else (if (bt257.1 == 0 && (bt257.2.1 == 0)) = true then (some true) else (some false))) else (some false)) else (some false)))))) = some r := h
 clear h
 by_cases c2 : (l0.length : Int) > 1048576
 ·rw [if_pos c2] at H
  have c2b0 : decide (1048576 < (l0.length : Int)) = true := decide_eq_true c2
  have c2b1 : decide (1048576 < l0.length) = true := decide_eq_true (by omega)
  clear c2
  obtain rfl := Option.some.inj H
  go_enter Tryd.func6, Tryd.ntmps6
  go_wp2
  go_ret
  exact ⟨ZE, ZB⟩
 ·rw [if_neg c2] at H
  have c2b0 : decide (1048576 < (l0.length : Int)) = false := decide_eq_false c2
  have c2b1 : decide (1048576 < l0.length) = false := decide_eq_false (by omega)
  clear c2
  replace H := Option.bind_eq_some_iff.mp H
  obtain ⟨t252, A30, H⟩ := H
  replace H : ((spec_LabelRead.f k t252).bind fun bt253 => ((impl_LabelRead.f k t252).bind fun bt257 => (if (bt257.2.2 == bt253.2.2) = true then (if (bt257.1 == bt253.1 && (bt257.2.1 == bt253.2.1)) = true then (if bt257.2.2 = true then ((impl_LabelText.f k bt257.1 bt257.2.1).bind fun t261 => (some (t261.toList == t252.toList))) else (if (bt257.1 == 0 && (bt257.2.1 == 0)) = true then (some true) else (some false))) else (some false)) else (some false)))) = some r := H
  have A3 := Aside0.mk A30
  clear A30
  replace H := Option.bind_eq_some_iff.mp H
  obtain ⟨⟨t253, t254, t255⟩, A40, H⟩ := H
  replace H : ((impl_LabelRead.f k t252).bind fun bt257 => (if (bt257.2.2 == t255) = true then (if (bt257.1 == t253 && (bt257.2.1 == t254)) = true then (if bt257.2.2 = true then ((impl_LabelText.f k bt257.1 bt257.2.1).bind fun t261 => (some (t261.toList == t252.toList))) else (if (bt257.1 == 0 && (bt257.2.1 == 0)) = true then (some true) else (some false))) else (some false)) else (some false))) = some r := H
  have A4 := Aside0.mk A40
  clear A40
  replace H := Option.bind_eq_some_iff.mp H
  obtain ⟨⟨t257, t258, t259⟩, A50, H⟩ := H
  replace H : (if (t259 == t255) = true then (if (t257 == t253 && (t258 == t254)) = true then (if t259 = true then ((impl_LabelText.f k t257 t258).bind fun t261 => (some (t261.toList == t252.toList))) else (if (t257 == 0 && (t258 == 0)) = true then (some true) else (some false))) else (some false)) else (some false)) = some r := H
  have A5 := Aside0.mk A50
  clear A50
  by_cases c6 : (t259 == t255) = true
  ·rw [if_pos c6] at H
   have c6b0 : (t259 == t255) = true := c6
   (try (have c6b1 : decide (t259 = t255) = true := by simpa using c6))
   (try (have c6b2 : (t259 == t255) = true := by simpa using c6))
   clear c6
   by_cases c7 : (t257 == t253 && (t258 == t254)) = true
   ·rw [if_pos c7] at H
    have c7b0 : (t257 == t253 && (t258 == t254)) = true := c7
    (try (have c7b1 : decide (t257 = t253 && (t258 == t254)) = true := by simpa using c7))
    (try (have c7b2 : (t257 == t253 && (t258 == t254)) = true := by simpa using c7))
    clear c7
    by_cases c8 : t259 = true
    ·subst c8
     have H1 : ((impl_LabelText.f k t257 t258).bind fun t261 => (some (t261.toList == t252.toList))) = some r := by rw [if_pos rfl] at H; exact H
     clear H
     have H := H1
     clear H1
     replace H := Option.bind_eq_some_iff.mp H
     obtain ⟨t261, A90, H⟩ := H
     replace H : (some (t261.toList == t252.toList)) = some r := H
     have A9 := Aside0.mk A90
     clear A90
     obtain rfl := Option.some.inj H
     go_enter Tryd.func6, Tryd.ntmps6
     go_wp2_with (first | ((with_reducible refine gate_callee (f := 15) rfl ?_); refine goesL_ (some 12) rfl rfl Tryd.func15 (by kernel_rfl) rfl #[.slice A0 l0.length c0] rfl ZG ?_; (with_reducible refine (spec_DrawLabelRead.calls k _ _ l0 t252 _ ?side1 ?side2 A3.out).mono ?_); (case side1 => exact ZQ HR0.out); (case side2 => exact HC0.out); rintro e w10 ⟨rfl, hb⟩; refine ⟨_, rfl, ?_⟩; replace HB := ZT HB hb; (try clear hb); (try clear hb2); (try clear hk); (try clear hi)) | ((with_reducible refine gate_callee (f := 10) rfl ?_); refine goesL_ (some 15) rfl rfl Tryd.func10 (by kernel_rfl) rfl #[.string t252] rfl ZG ?_; (with_reducible refine (spec_LabelRead.calls k t252 t253 t254 t255 _ A4.out).mono ?_); rintro e w11 ⟨rfl, hb⟩; refine ⟨_, rfl, ?_⟩; replace HB := ZT HB hb; (try clear hb); (try clear hb2); (try clear hk); (try clear hi)) | ((with_reducible refine gate_dst (N := 4) rfl ?_); refine ZX (N := 4) (cs := #[.int .i64 0, .int .i64 0]) (t := 25) ?_; intro gb256 hg w12 hbox hb; have BK256 := Aside0.mk (hbox); have GW256 : Aside0 (w.heap.size ≤ gb256) := ZS hg; have GE256 : Aside0 (w.heap.size ≤ gb256) := ZS hg; replace HB := ZT HB hb; clear hb hbox hg; obtain ⟨hcz13_0, hcz13_1⟩ := ZC2 w12 BK256; obtain ⟨hfz13_0, hfz13_1⟩ := ZF2 BK256) | ((with_reducible refine gate_callee (f := 11) rfl ?_); refine goesL_ (some 20) rfl rfl Tryd.func11 (by kernel_rfl) rfl #[.string t252] rfl ZG ?_; (with_reducible refine (impl_LabelRead.calls k t252 t257 t258 true _ A5.out).mono ?_); rintro e w14 ⟨rfl, hb⟩; refine ⟨_, rfl, ?_⟩; replace BK256 := ZV #[.int .i64 t253, .int .i64 t254] BK256 hb; replace HB := ZT HB hb; (try clear hb); (try clear hb2); (try clear hk); (try clear hi)) | ((with_reducible refine gate_dst (N := 6) rfl ?_); refine ZX (N := 6) (cs := #[.int .i64 0, .int .i64 0]) (t := 25) ?_; intro gb260 hg w15 hbox hb; have BK260 := Aside0.mk (hbox); have GW260 : Aside0 (w.heap.size ≤ gb260) := ZS hg; have GE260 : Aside0 (w.heap.size ≤ gb260) := ZS hg; have NB256_260 : Aside0 (gb256 ≠ gb260) := ZN hg BK256; have NB260_256 : Aside0 (gb260 ≠ gb256) := ZM hg BK256; replace BK256 := ZW BK256 hb; replace HB := ZT HB hb; clear hb hbox hg; have hnb16 := NB260_256.out; have hnc16 := NB256_260.out; obtain ⟨hcz17_0, hcz17_1⟩ := ZC2 w15 BK260; obtain ⟨hfz17_0, hfz17_1⟩ := ZF2 BK260; obtain ⟨hcz18_0, hcz18_1⟩ := ZC2 w15 BK256; obtain ⟨hfz18_0, hfz18_1⟩ := ZF2 BK256) | (go_at_call 9; (with_reducible refine (impl_LabelText.calls k t257 t258 t261 _ A9.out).mono ?_); rintro e w19 ⟨rfl, hb⟩; replace BK256 := ZV #[.int .i64 t253, .int .i64 t254] BK256 hb; replace BK260 := ZV #[.int .i64 t257, .int .i64 t258] BK260 hb; replace HB := ZT HB hb; (try clear hb); (try clear hb2); (try clear hk); (try clear hi)))
     go_ret
     exact ⟨ZE, ZB⟩
    ·replace c8 := Bool.eq_false_iff.mpr c8
     subst c8
     have H1 : (if (t257 == 0 && (t258 == 0)) = true then (some true) else (some false)) = some r := by rw [if_neg (show ¬ (false = true) by decide)] at H; exact H
     clear H
     have H := H1
     clear H1
     by_cases c20 : (t257 == 0 && (t258 == 0)) = true
     ·rw [if_pos c20] at H
      have c20b0 : (t257 == 0 && (t258 == 0)) = true := c20
      (try (have c20b1 : decide (t257 = 0 && (t258 == 0)) = true := by simpa using c20))
      (try (have c20b2 : (t257 == 0 && (t258 == 0)) = true := by simpa using c20))
      clear c20
      obtain rfl := Option.some.inj H
      go_enter Tryd.func6, Tryd.ntmps6
      go_wp2_with (first | ((with_reducible refine gate_callee (f := 15) rfl ?_); refine goesL_ (some 12) rfl rfl Tryd.func15 (by kernel_rfl) rfl #[.slice A0 l0.length c0] rfl ZG ?_; (with_reducible refine (spec_DrawLabelRead.calls k _ _ l0 t252 _ ?side1 ?side2 A3.out).mono ?_); (case side1 => exact ZQ HR0.out); (case side2 => exact HC0.out); rintro e w21 ⟨rfl, hb⟩; refine ⟨_, rfl, ?_⟩; replace HB := ZT HB hb; (try clear hb); (try clear hb2); (try clear hk); (try clear hi)) | ((with_reducible refine gate_callee (f := 10) rfl ?_); refine goesL_ (some 15) rfl rfl Tryd.func10 (by kernel_rfl) rfl #[.string t252] rfl ZG ?_; (with_reducible refine (spec_LabelRead.calls k t252 t253 t254 t255 _ A4.out).mono ?_); rintro e w22 ⟨rfl, hb⟩; refine ⟨_, rfl, ?_⟩; replace HB := ZT HB hb; (try clear hb); (try clear hb2); (try clear hk); (try clear hi)) | ((with_reducible refine gate_dst (N := 4) rfl ?_); refine ZX (N := 4) (cs := #[.int .i64 0, .int .i64 0]) (t := 25) ?_; intro gb256 hg w23 hbox hb; have BK256 := Aside0.mk (hbox); have GW256 : Aside0 (w.heap.size ≤ gb256) := ZS hg; have GE256 : Aside0 (w.heap.size ≤ gb256) := ZS hg; replace HB := ZT HB hb; clear hb hbox hg; obtain ⟨hcz24_0, hcz24_1⟩ := ZC2 w23 BK256; obtain ⟨hfz24_0, hfz24_1⟩ := ZF2 BK256) | ((with_reducible refine gate_callee (f := 11) rfl ?_); refine goesL_ (some 20) rfl rfl Tryd.func11 (by kernel_rfl) rfl #[.string t252] rfl ZG ?_; (with_reducible refine (impl_LabelRead.calls k t252 t257 t258 false _ A5.out).mono ?_); rintro e w25 ⟨rfl, hb⟩; refine ⟨_, rfl, ?_⟩; replace BK256 := ZV #[.int .i64 t253, .int .i64 t254] BK256 hb; replace HB := ZT HB hb; (try clear hb); (try clear hb2); (try clear hk); (try clear hi)) | ((with_reducible refine gate_dst (N := 6) rfl ?_); refine ZX (N := 6) (cs := #[.int .i64 0, .int .i64 0]) (t := 25) ?_; intro gb260 hg w26 hbox hb; have BK260 := Aside0.mk (hbox); have GW260 : Aside0 (w.heap.size ≤ gb260) := ZS hg; have GE260 : Aside0 (w.heap.size ≤ gb260) := ZS hg; have NB256_260 : Aside0 (gb256 ≠ gb260) := ZN hg BK256; have NB260_256 : Aside0 (gb260 ≠ gb256) := ZM hg BK256; replace BK256 := ZW BK256 hb; replace HB := ZT HB hb; clear hb hbox hg; have hnb27 := NB260_256.out; have hnc27 := NB256_260.out; obtain ⟨hcz28_0, hcz28_1⟩ := ZC2 w26 BK260; obtain ⟨hfz28_0, hfz28_1⟩ := ZF2 BK260; obtain ⟨hcz29_0, hcz29_1⟩ := ZC2 w26 BK256; obtain ⟨hfz29_0, hfz29_1⟩ := ZF2 BK256))
      go_ret
      exact ⟨ZE, ZB⟩
     ·rw [if_neg c20] at H
      have c20b0 : (t257 == 0 && (t258 == 0)) = false := by simpa using c20
      (try (have c20b1 : decide (t257 = 0 && (t258 == 0)) = false := by simpa using c20))
      (try (have c20b2 : (t257 == 0 && (t258 == 0)) = false := by simpa using c20))
      (try (have c20b3 : ¬ (t257 = 0 && (t258 == 0)) := by simpa using c20))
      clear c20
      obtain rfl := Option.some.inj H
      go_enter Tryd.func6, Tryd.ntmps6
      go_wp2_with (first | ((with_reducible refine gate_callee (f := 15) rfl ?_); refine goesL_ (some 12) rfl rfl Tryd.func15 (by kernel_rfl) rfl #[.slice A0 l0.length c0] rfl ZG ?_; (with_reducible refine (spec_DrawLabelRead.calls k _ _ l0 t252 _ ?side1 ?side2 A3.out).mono ?_); (case side1 => exact ZQ HR0.out); (case side2 => exact HC0.out); rintro e w30 ⟨rfl, hb⟩; refine ⟨_, rfl, ?_⟩; replace HB := ZT HB hb; (try clear hb); (try clear hb2); (try clear hk); (try clear hi)) | ((with_reducible refine gate_callee (f := 10) rfl ?_); refine goesL_ (some 15) rfl rfl Tryd.func10 (by kernel_rfl) rfl #[.string t252] rfl ZG ?_; (with_reducible refine (spec_LabelRead.calls k t252 t253 t254 t255 _ A4.out).mono ?_); rintro e w31 ⟨rfl, hb⟩; refine ⟨_, rfl, ?_⟩; replace HB := ZT HB hb; (try clear hb); (try clear hb2); (try clear hk); (try clear hi)) | ((with_reducible refine gate_dst (N := 4) rfl ?_); refine ZX (N := 4) (cs := #[.int .i64 0, .int .i64 0]) (t := 25) ?_; intro gb256 hg w32 hbox hb; have BK256 := Aside0.mk (hbox); have GW256 : Aside0 (w.heap.size ≤ gb256) := ZS hg; have GE256 : Aside0 (w.heap.size ≤ gb256) := ZS hg; replace HB := ZT HB hb; clear hb hbox hg; obtain ⟨hcz33_0, hcz33_1⟩ := ZC2 w32 BK256; obtain ⟨hfz33_0, hfz33_1⟩ := ZF2 BK256) | ((with_reducible refine gate_callee (f := 11) rfl ?_); refine goesL_ (some 20) rfl rfl Tryd.func11 (by kernel_rfl) rfl #[.string t252] rfl ZG ?_; (with_reducible refine (impl_LabelRead.calls k t252 t257 t258 false _ A5.out).mono ?_); rintro e w34 ⟨rfl, hb⟩; refine ⟨_, rfl, ?_⟩; replace BK256 := ZV #[.int .i64 t253, .int .i64 t254] BK256 hb; replace HB := ZT HB hb; (try clear hb); (try clear hb2); (try clear hk); (try clear hi)) | ((with_reducible refine gate_dst (N := 6) rfl ?_); refine ZX (N := 6) (cs := #[.int .i64 0, .int .i64 0]) (t := 25) ?_; intro gb260 hg w35 hbox hb; have BK260 := Aside0.mk (hbox); have GW260 : Aside0 (w.heap.size ≤ gb260) := ZS hg; have GE260 : Aside0 (w.heap.size ≤ gb260) := ZS hg; have NB256_260 : Aside0 (gb256 ≠ gb260) := ZN hg BK256; have NB260_256 : Aside0 (gb260 ≠ gb256) := ZM hg BK256; replace BK256 := ZW BK256 hb; replace HB := ZT HB hb; clear hb hbox hg; have hnb36 := NB260_256.out; have hnc36 := NB256_260.out; obtain ⟨hcz37_0, hcz37_1⟩ := ZC2 w35 BK260; obtain ⟨hfz37_0, hfz37_1⟩ := ZF2 BK260; obtain ⟨hcz38_0, hcz38_1⟩ := ZC2 w35 BK256; obtain ⟨hfz38_0, hfz38_1⟩ := ZF2 BK256))
      go_ret
      exact ⟨ZE, ZB⟩
   ·rw [if_neg c7] at H
    have c7b0 : (t257 == t253 && (t258 == t254)) = false := by simpa using c7
    (try (have c7b1 : decide (t257 = t253 && (t258 == t254)) = false := by simpa using c7))
    (try (have c7b2 : (t257 == t253 && (t258 == t254)) = false := by simpa using c7))
    (try (have c7b3 : ¬ (t257 = t253 && (t258 == t254)) := by simpa using c7))
    clear c7
    obtain rfl := Option.some.inj H
    go_enter Tryd.func6, Tryd.ntmps6
    go_wp2_with (first | ((with_reducible refine gate_callee (f := 15) rfl ?_); refine goesL_ (some 12) rfl rfl Tryd.func15 (by kernel_rfl) rfl #[.slice A0 l0.length c0] rfl ZG ?_; (with_reducible refine (spec_DrawLabelRead.calls k _ _ l0 t252 _ ?side1 ?side2 A3.out).mono ?_); (case side1 => exact ZQ HR0.out); (case side2 => exact HC0.out); rintro e w39 ⟨rfl, hb⟩; refine ⟨_, rfl, ?_⟩; replace HB := ZT HB hb; (try clear hb); (try clear hb2); (try clear hk); (try clear hi)) | ((with_reducible refine gate_callee (f := 10) rfl ?_); refine goesL_ (some 15) rfl rfl Tryd.func10 (by kernel_rfl) rfl #[.string t252] rfl ZG ?_; (with_reducible refine (spec_LabelRead.calls k t252 t253 t254 t255 _ A4.out).mono ?_); rintro e w40 ⟨rfl, hb⟩; refine ⟨_, rfl, ?_⟩; replace HB := ZT HB hb; (try clear hb); (try clear hb2); (try clear hk); (try clear hi)) | ((with_reducible refine gate_dst (N := 4) rfl ?_); refine ZX (N := 4) (cs := #[.int .i64 0, .int .i64 0]) (t := 25) ?_; intro gb256 hg w41 hbox hb; have BK256 := Aside0.mk (hbox); have GW256 : Aside0 (w.heap.size ≤ gb256) := ZS hg; have GE256 : Aside0 (w.heap.size ≤ gb256) := ZS hg; replace HB := ZT HB hb; clear hb hbox hg; obtain ⟨hcz42_0, hcz42_1⟩ := ZC2 w41 BK256; obtain ⟨hfz42_0, hfz42_1⟩ := ZF2 BK256) | ((with_reducible refine gate_callee (f := 11) rfl ?_); refine goesL_ (some 20) rfl rfl Tryd.func11 (by kernel_rfl) rfl #[.string t252] rfl ZG ?_; (with_reducible refine (impl_LabelRead.calls k t252 t257 t258 t259 _ A5.out).mono ?_); rintro e w43 ⟨rfl, hb⟩; refine ⟨_, rfl, ?_⟩; replace BK256 := ZV #[.int .i64 t253, .int .i64 t254] BK256 hb; replace HB := ZT HB hb; (try clear hb); (try clear hb2); (try clear hk); (try clear hi)) | ((with_reducible refine gate_dst (N := 6) rfl ?_); refine ZX (N := 6) (cs := #[.int .i64 0, .int .i64 0]) (t := 25) ?_; intro gb260 hg w44 hbox hb; have BK260 := Aside0.mk (hbox); have GW260 : Aside0 (w.heap.size ≤ gb260) := ZS hg; have GE260 : Aside0 (w.heap.size ≤ gb260) := ZS hg; have NB256_260 : Aside0 (gb256 ≠ gb260) := ZN hg BK256; have NB260_256 : Aside0 (gb260 ≠ gb256) := ZM hg BK256; replace BK256 := ZW BK256 hb; replace HB := ZT HB hb; clear hb hbox hg; have hnb45 := NB260_256.out; have hnc45 := NB256_260.out; obtain ⟨hcz46_0, hcz46_1⟩ := ZC2 w44 BK260; obtain ⟨hfz46_0, hfz46_1⟩ := ZF2 BK260; obtain ⟨hcz47_0, hcz47_1⟩ := ZC2 w44 BK256; obtain ⟨hfz47_0, hfz47_1⟩ := ZF2 BK256))
    go_ret
    exact ⟨ZE, ZB⟩
  ·rw [if_neg c6] at H
   have c6b0 : (t259 == t255) = false := by simpa using c6
   (try (have c6b1 : decide (t259 = t255) = false := by simpa using c6))
   (try (have c6b2 : (t259 == t255) = false := by simpa using c6))
   (try (have c6b3 : ¬ (t259 = t255) := by simpa using c6))
   clear c6
   obtain rfl := Option.some.inj H
   go_enter Tryd.func6, Tryd.ntmps6
   go_wp2_with (first | ((with_reducible refine gate_callee (f := 15) rfl ?_); refine goesL_ (some 12) rfl rfl Tryd.func15 (by kernel_rfl) rfl #[.slice A0 l0.length c0] rfl ZG ?_; (with_reducible refine (spec_DrawLabelRead.calls k _ _ l0 t252 _ ?side1 ?side2 A3.out).mono ?_); (case side1 => exact ZQ HR0.out); (case side2 => exact HC0.out); rintro e w48 ⟨rfl, hb⟩; refine ⟨_, rfl, ?_⟩; replace HB := ZT HB hb; (try clear hb); (try clear hb2); (try clear hk); (try clear hi)) | ((with_reducible refine gate_callee (f := 10) rfl ?_); refine goesL_ (some 15) rfl rfl Tryd.func10 (by kernel_rfl) rfl #[.string t252] rfl ZG ?_; (with_reducible refine (spec_LabelRead.calls k t252 t253 t254 t255 _ A4.out).mono ?_); rintro e w49 ⟨rfl, hb⟩; refine ⟨_, rfl, ?_⟩; replace HB := ZT HB hb; (try clear hb); (try clear hb2); (try clear hk); (try clear hi)) | ((with_reducible refine gate_dst (N := 4) rfl ?_); refine ZX (N := 4) (cs := #[.int .i64 0, .int .i64 0]) (t := 25) ?_; intro gb256 hg w50 hbox hb; have BK256 := Aside0.mk (hbox); have GW256 : Aside0 (w.heap.size ≤ gb256) := ZS hg; have GE256 : Aside0 (w.heap.size ≤ gb256) := ZS hg; replace HB := ZT HB hb; clear hb hbox hg; obtain ⟨hcz51_0, hcz51_1⟩ := ZC2 w50 BK256; obtain ⟨hfz51_0, hfz51_1⟩ := ZF2 BK256) | ((with_reducible refine gate_callee (f := 11) rfl ?_); refine goesL_ (some 20) rfl rfl Tryd.func11 (by kernel_rfl) rfl #[.string t252] rfl ZG ?_; (with_reducible refine (impl_LabelRead.calls k t252 t257 t258 t259 _ A5.out).mono ?_); rintro e w52 ⟨rfl, hb⟩; refine ⟨_, rfl, ?_⟩; replace BK256 := ZV #[.int .i64 t253, .int .i64 t254] BK256 hb; replace HB := ZT HB hb; (try clear hb); (try clear hb2); (try clear hk); (try clear hi)) | ((with_reducible refine gate_dst (N := 6) rfl ?_); refine ZX (N := 6) (cs := #[.int .i64 0, .int .i64 0]) (t := 25) ?_; intro gb260 hg w53 hbox hb; have BK260 := Aside0.mk (hbox); have GW260 : Aside0 (w.heap.size ≤ gb260) := ZS hg; have GE260 : Aside0 (w.heap.size ≤ gb260) := ZS hg; have NB256_260 : Aside0 (gb256 ≠ gb260) := ZN hg BK256; have NB260_256 : Aside0 (gb260 ≠ gb256) := ZM hg BK256; replace BK256 := ZW BK256 hb; replace HB := ZT HB hb; clear hb hbox hg; have hnb54 := NB260_256.out; have hnc54 := NB256_260.out; obtain ⟨hcz55_0, hcz55_1⟩ := ZC2 w53 BK260; obtain ⟨hfz55_0, hfz55_1⟩ := ZF2 BK260))
   go_ret
   exact ⟨ZE, ZB⟩

end Go.Proofs.YtgcioalgjcaikaaDoor.A
