/- What Go functions compute, as Lean functions, and for each its contract: for every input at which the Lean function answers the call returns that; written by wip/tools/pr.py over the kit's print. -/
import Derived.Test.YtgcioalgjcaikaaDoorAx0
import Derived.Test.YtgcioalgjcaikaaDoorAx1
import Derived.Test.YtgcioalgjcaikaaDoorAx2
import Derived.Test.YtgcioalgjcaikaaDoorAx4
import Derived.Test.YtgcioalgjcaikaaDoorAx5
import Derived.Test.YtgcioalgjcaikaaDoorAx8
import Derived.Test.YtgcioalgjcaikaaDoorAx13
namespace Go.Proofs.YtgcioalgjcaikaaDoor.A
open Go.RowKit Go.Proofs.YtgcioalgjcaikaaDoorW.PrintWords Go.Proofs.YtgcioalgjcaikaaDoorW.PrintLast Go.Proofs.YtgcioalgjcaikaaDoorW.PrintMore
attribute [local go_sem] max2_int min2_int max_two min_two max_three min_three max_four min_four   -- for this text's walks alone
set_option linter.unusedVariables false
set_option linter.unusedSimpArgs false

attribute [local go_sem high] eqA25
/-! ### laws_FnLabelBack: function 5 -/
def laws_FnLabelBack.j0 : Nat → ByteArray → Bool → Int → Int → Option (Bool)
 | 0, _, _, _, _ => none
 | k + 1, x4, x22, x222000, x222001 => if x22 = true then ((spec_LabelText.f k x222000 x222001).bind fun t225 => (some (x4.toList == t225.toList))) else ((impl_LabelRead.f k x4).bind fun bt226 => (if bt226.2.2 = true then (some (bt226.1 == x222000 && (bt226.2.1 == x222001))) else (some false)))
def laws_FnLabelBack.f (k : Nat) (l0 : List Int) : Option (Bool) := if (l0.length : Int) > 1048576 then (some true) else ((spec_DrawLabelText.f k l0).bind fun bt219 => ((impl_LabelText.f k bt219.1 bt219.2).bind fun t222 => ((spec_LabelText.f k bt219.1 bt219.2).bind fun t223 => (if t222.toList = t223.toList then ((spec_LabelOk.f bt219.1 bt219.2).bind fun t224 => (laws_FnLabelBack.j0 k t222 (!t224) bt219.1 bt219.2)) else (laws_FnLabelBack.j0 k t222 true bt219.1 bt219.2)))))
set_option maxHeartbeats 8000000 in
set_option maxRecDepth 100000 in
theorem laws_FnLabelBack.calls (k : Nat) (A0 : Option Addr) (c0 : Nat) (l0 : List Int) (r : Bool) (w : World) (hr0 : Kd.C (Kd.int .u8) w A0 l0.length l0) (hc0 : l0.length ≤ c0) (h : laws_FnLabelBack.f k l0 = some r) :
  Calls Tryd.prog 5 #[.slice A0 l0.length c0] w fun e w' => e = .returned (.bool r) ∧ Below w.heap.size w w' := by
 have hu25 := Tryd.underlying25
 have HR0 := Aside0.mk hr0
 have HC0 := Aside0.mk hc0
 clear hr0 hc0
 have HB := Aside0.mk (Below.refl w.heap.size w)
 have H : (if (l0.length : Int) > 1048576 then (some true) else ((spec_DrawLabelText.f k l0).bind fun bt219 => ((impl_LabelText.f k bt219.1 bt219.2).bind fun t222 => ((spec_LabelText.f k bt219.1 bt219.2).bind fun t223 => (if t222.toList = t223.toList then ((spec_LabelOk.f bt219.1 bt219.2).bind fun t224 => (laws_FnLabelBack.j0 k t222 (!t224) bt219.1 bt219.2)) else (laws_FnLabelBack.j0 k t222 true bt219.1 bt219.2)))))) = some r := h
 clear h
 by_cases c2 : (l0.length : Int) > 1048576
 ·rw [if_pos c2] at H
  have c2b0 : decide (1048576 < (l0.length : Int)) = true := decide_eq_true c2
  have c2b1 : decide (1048576 < l0.length) = true := decide_eq_true (by omega)
  clear c2
  obtain rfl := Option.some.inj H
  go_enter Tryd.func5, Tryd.ntmps5
  go_wp2
  go_ret
  exact ⟨ZE, ZB⟩
 ·rw [if_neg c2] at H
  have c2b0 : decide (1048576 < (l0.length : Int)) = false := decide_eq_false c2
  have c2b1 : decide (1048576 < l0.length) = false := decide_eq_false (by omega)
  clear c2
  replace H := Option.bind_eq_some_iff.mp H
  obtain ⟨⟨t219, t220⟩, A30, H⟩ := H
  replace H : ((impl_LabelText.f k t219 t220).bind fun t222 => ((spec_LabelText.f k t219 t220).bind fun t223 => (if t222.toList = t223.toList then ((spec_LabelOk.f t219 t220).bind fun t224 => (laws_FnLabelBack.j0 k t222 (!t224) t219 t220)) else (laws_FnLabelBack.j0 k t222 true t219 t220)))) = some r := H
  have A3 := Aside0.mk A30
  clear A30
  replace H := Option.bind_eq_some_iff.mp H
  obtain ⟨t222, A40, H⟩ := H
  replace H : ((spec_LabelText.f k t219 t220).bind fun t223 => (if t222.toList = t223.toList then ((spec_LabelOk.f t219 t220).bind fun t224 => (laws_FnLabelBack.j0 k t222 (!t224) t219 t220)) else (laws_FnLabelBack.j0 k t222 true t219 t220))) = some r := H
  have A4 := Aside0.mk A40
  clear A40
  have HC5 := Aside0.mk H
  clear H
  go_enter Tryd.func5, Tryd.ntmps5
  go_upto_region 5 with (first | ((with_reducible refine gate_callee (f := 13) rfl ?_); refine goesL_ (some 11) rfl rfl Tryd.func13 (by kernel_rfl) rfl #[.slice A0 l0.length c0] rfl ZG ?_; (with_reducible refine (spec_DrawLabelText.calls k _ _ l0 t219 t220 _ ?side1 ?side2 A3.out).mono ?_); (case side1 => exact ZQ HR0.out); (case side2 => exact HC0.out); rintro e w6 ⟨rfl, hb⟩; refine ⟨_, rfl, ?_⟩; replace HB := ZT HB hb; (try clear hb); (try clear hb2); (try clear hk); (try clear hi)) | ((with_reducible refine gate_dst (N := 3) rfl ?_); refine ZX (N := 3) (cs := #[.int .i64 0, .int .i64 0]) (t := 25) ?_; intro gb221 hg w7 hbox hb; have BK221 := Aside0.mk (hbox); have GW221 : Aside0 (w.heap.size ≤ gb221) := ZS hg; have GE221 : Aside0 (w.heap.size ≤ gb221) := ZS hg; replace HB := ZT HB hb; clear hb hbox hg; obtain ⟨hcz8_0, hcz8_1⟩ := ZC2 w7 BK221; obtain ⟨hfz8_0, hfz8_1⟩ := ZF2 BK221) | ((with_reducible refine gate_callee (f := 9) rfl ?_); refine goesL_ (some 13) rfl rfl Tryd.func9 (by kernel_rfl) rfl #[.agg #[.int .i64 t219, .int .i64 t220]] rfl ZG ?_; (with_reducible refine (impl_LabelText.calls k t219 t220 t222 _ A4.out).mono ?_); rintro e w9 ⟨rfl, hb⟩; refine ⟨_, rfl, ?_⟩; replace BK221 := ZV #[.int .i64 t219, .int .i64 t220] BK221 hb; replace HB := ZT HB hb; (try clear hb); (try clear hb2); (try clear hk); (try clear hi)))
  (try simp only [Act.put, List.setIfInBounds_toArray, List.set_cons_zero, List.set_cons_succ])
  go_cut [22] (fun v22 wc => ∃ (kq : Nat) (x22_4 : Bool), v22 = .bool x22_4 ∧ Aside0 (laws_FnLabelBack.j0 kq t222 x22_4 t219 t220 = some r) ∧ Aside0 (kq ≤ k) ∧ Aside0 (wc.heap[gb221]? = some (.cells #[.int .i64 t219, .int .i64 t220] 25 (0, 0))) ∧ Aside0 (Below w.heap.size w wc))
  case first =>
   have H := HC5.out
   clear HC5
   replace H := Option.bind_eq_some_iff.mp H
   obtain ⟨t223, A100, H⟩ := H
   replace H : (if t222.toList = t223.toList then ((spec_LabelOk.f t219 t220).bind fun t224 => (laws_FnLabelBack.j0 k t222 (!t224) t219 t220)) else (laws_FnLabelBack.j0 k t222 true t219 t220)) = some r := H
   have A10 := Aside0.mk A100
   clear A100
   by_cases c11 : t222.toList = t223.toList
   ·rw [if_pos c11] at H
    have c11b0 : (t222.toList == t223.toList) = true := beq_iff_eq.mpr c11
    have c11b1 : (t222.toList != t223.toList) = false := bne_eq_false_iff_eq.mpr c11
    clear c11
    (first | rw [c11b0] | (simp only [i64_w, i32_w]; rw [c11b0]) | skip)
    replace H := Option.bind_eq_some_iff.mp H
    obtain ⟨t224, A120, H⟩ := H
    replace H : (laws_FnLabelBack.j0 k t222 (!t224) t219 t220) = some r := H
    have A12 := Aside0.mk A120
    clear A120
    have H' := Aside0.mk H
    clear H
    obtain ⟨hcz13_0, hcz13_1⟩ := ZC2 w9 BK221
    obtain ⟨hfz13_0, hfz13_1⟩ := ZF2 BK221
    go_wp2_with (first | ((with_reducible refine gate_callee (f := 7) rfl ?_); refine goesL_ (some 16) rfl rfl Tryd.func7 (by kernel_rfl) rfl #[.agg #[.int .i64 t219, .int .i64 t220]] rfl ZG ?_; (with_reducible refine (spec_LabelText.calls k t219 t220 t223 _ A10.out).mono ?_); rintro e w14 ⟨rfl, hb⟩; refine ⟨_, rfl, ?_⟩; replace BK221 := ZW BK221 hb; replace HB := ZT HB hb; (try clear hb); (try clear hb2); (try clear hk); (try clear hi); obtain ⟨hcz15_0, hcz15_1⟩ := ZC2 w14 BK221; obtain ⟨hfz15_0, hfz15_1⟩ := ZF2 BK221) | (go_at_call 14; (with_reducible refine (spec_LabelOk.calls t219 t220 t224 _ A12.out).mono ?_); rintro e w16 ⟨rfl, hb⟩; replace BK221 := ZW BK221 hb; replace HB := ZT HB hb; (try clear hb); (try clear hb2); (try clear hk); (try clear hi)))
    go_meet
    case rel => exact ⟨_, (!t224), (by first | rfl | (simp; done) | (simp [*]; done)), H', ⟨by first | omega | exact Nat.le_refl _⟩, ⟨ZK BK221.out⟩, ⟨ZB⟩⟩
   ·rw [if_neg c11] at H
    have c11b0 : (t222.toList == t223.toList) = false := beq_eq_false_iff_ne.mpr c11
    have c11b1 : (t222.toList != t223.toList) = true := bne_iff_ne.mpr c11
    (first | rw [c11b0] | (simp only [i64_w, i32_w]; rw [c11b0]) | skip)
    have H' := Aside0.mk H
    clear H
    obtain ⟨hcz17_0, hcz17_1⟩ := ZC2 w9 BK221
    obtain ⟨hfz17_0, hfz17_1⟩ := ZF2 BK221
    go_wp2_with (first | ((with_reducible refine gate_callee (f := 7) rfl ?_); refine goesL_ (some 16) rfl rfl Tryd.func7 (by kernel_rfl) rfl #[.agg #[.int .i64 t219, .int .i64 t220]] rfl ZG ?_; (with_reducible refine (spec_LabelText.calls k t219 t220 t223 _ A10.out).mono ?_); rintro e w18 ⟨rfl, hb⟩; refine ⟨_, rfl, ?_⟩; replace BK221 := ZW BK221 hb; replace HB := ZT HB hb; (try clear hb); (try clear hb2); (try clear hk); (try clear hi)))
    go_meet
    case rel => exact ⟨_, (true), (by first | rfl | (simp; done) | (simp [*]; done)), H', ⟨by first | omega | exact Nat.le_refl _⟩, ⟨ZK BK221.out⟩, ⟨ZB⟩⟩
  case rest =>
   clear HC5
   try clear c1
   try clear c2
   try clear c2b0
   try clear c2b1
   try clear p2
   try clear c5
   try clear c7
   try clear c9
   try clear c11
   try clear c11b0
   try clear c11b1
   try clear c13
   try clear hcz13_0
   try clear hcz13_1
   try clear hcz15_0
   try clear hcz15_1
   try clear hcz17_0
   try clear hcz17_1
   try clear hcz8_0
   try clear hcz8_1
   try clear hfz13_0
   try clear hfz13_1
   try clear hfz15_0
   try clear hfz15_1
   try clear hfz17_0
   try clear hfz17_1
   try clear hfz8_0
   try clear hfz8_1
   obtain ⟨kq, x22_4, rfl, HA, HJ4, BK221, HB⟩ := hcut
   cases kq with
   | zero => exact absurd HA.out (by simp [laws_FnLabelBack.j0])
   | succ kj4 =>
    have H := HA.out
    clear HA
    simp only [laws_FnLabelBack.j0] at H
    by_cases c19 : x22_4 = true
    ·subst c19
     have H1 : ((spec_LabelText.f kj4 t219 t220).bind fun t225 => (some (t222.toList == t225.toList))) = some r := by rw [if_pos rfl] at H; exact H
     clear H
     have H := H1
     clear H1
     replace H := Option.bind_eq_some_iff.mp H
     obtain ⟨t225, A200, H⟩ := H
     replace H : (some (t222.toList == t225.toList)) = some r := H
     have A20 := Aside0.mk A200
     clear A200
     obtain rfl := Option.some.inj H
     obtain ⟨hcz21_0, hcz21_1⟩ := ZC2 wc BK221
     obtain ⟨hfz21_0, hfz21_1⟩ := ZF2 BK221
     go_wp2_with (first | ((with_reducible refine gate_callee (f := 7) rfl ?_); refine goesL_ (some 25) rfl rfl Tryd.func7 (by kernel_rfl) rfl #[.agg #[.int .i64 t219, .int .i64 t220]] rfl ZG ?_; (with_reducible refine (spec_LabelText.calls kj4 t219 t220 t225 _ A20.out).mono ?_); rintro e w22 ⟨rfl, hb⟩; refine ⟨_, rfl, ?_⟩; replace BK221 := ZW BK221 hb; replace HB := ZT HB hb; (try clear hb); (try clear hb2); (try clear hk); (try clear hi)))
     go_ret
     exact ⟨ZE, ZB⟩
    ·replace c19 := Bool.eq_false_iff.mpr c19
     subst c19
     have H1 : ((impl_LabelRead.f kj4 t222).bind fun bt226 => (if bt226.2.2 = true then (some (bt226.1 == t219 && (bt226.2.1 == t220))) else (some false))) = some r := by rw [if_neg (show ¬ (false = true) by decide)] at H; exact H
     clear H
     have H := H1
     clear H1
     replace H := Option.bind_eq_some_iff.mp H
     obtain ⟨⟨t226, t227, t228⟩, A230, H⟩ := H
     replace H : (if t228 = true then (some (t226 == t219 && (t227 == t220))) else (some false)) = some r := H
     have A23 := Aside0.mk A230
     clear A230
     by_cases c24 : t228 = true
     ·subst c24
      have H1 : (some (t226 == t219 && (t227 == t220))) = some r := by rw [if_pos rfl] at H; exact H
      clear H
      have H := H1
      clear H1
      obtain rfl := Option.some.inj H
      go_wp2_with (first | ((with_reducible refine gate_callee (f := 11) rfl ?_); refine goesL_ (some 29) rfl rfl Tryd.func11 (by kernel_rfl) rfl #[.string t222] rfl ZG ?_; (with_reducible refine (impl_LabelRead.calls kj4 t222 t226 t227 true _ A23.out).mono ?_); rintro e w25 ⟨rfl, hb⟩; refine ⟨_, rfl, ?_⟩; replace BK221 := ZW BK221 hb; replace HB := ZT HB hb; (try clear hb); (try clear hb2); (try clear hk); (try clear hi)) | ((with_reducible refine gate_dst (N := 5) rfl ?_); refine ZX (N := 5) (cs := #[.int .i64 0, .int .i64 0]) (t := 25) ?_; intro gb229 hg w26 hbox hb; have BK229 := Aside0.mk (hbox); have GW229 : Aside0 (w.heap.size ≤ gb229) := ZS hg; have GE229 : Aside0 (w.heap.size ≤ gb229) := ZS hg; have NB221_229 : Aside0 (gb221 ≠ gb229) := ZN hg BK221; have NB229_221 : Aside0 (gb229 ≠ gb221) := ZM hg BK221; replace BK221 := ZW BK221 hb; replace HB := ZT HB hb; clear hb hbox hg; have hnb27 := NB229_221.out; have hnc27 := NB221_229.out; obtain ⟨hcz28_0, hcz28_1⟩ := ZC2 w26 BK229; obtain ⟨hfz28_0, hfz28_1⟩ := ZF2 BK229; obtain ⟨hcz29_0, hcz29_1⟩ := ZC2 w26 BK221; obtain ⟨hfz29_0, hfz29_1⟩ := ZF2 BK221))
      go_ret
      exact ⟨ZE, ZB⟩
     ·replace c24 := Bool.eq_false_iff.mpr c24
      subst c24
      have H1 : (some false) = some r := by rw [if_neg (show ¬ (false = true) by decide)] at H; exact H
      clear H
      have H := H1
      clear H1
      obtain rfl := Option.some.inj H
      go_wp2_with (first | ((with_reducible refine gate_callee (f := 11) rfl ?_); refine goesL_ (some 29) rfl rfl Tryd.func11 (by kernel_rfl) rfl #[.string t222] rfl ZG ?_; (with_reducible refine (impl_LabelRead.calls kj4 t222 t226 t227 false _ A23.out).mono ?_); rintro e w30 ⟨rfl, hb⟩; refine ⟨_, rfl, ?_⟩; replace BK221 := ZW BK221 hb; replace HB := ZT HB hb; (try clear hb); (try clear hb2); (try clear hk); (try clear hi)) | ((with_reducible refine gate_dst (N := 5) rfl ?_); refine ZX (N := 5) (cs := #[.int .i64 0, .int .i64 0]) (t := 25) ?_; intro gb229 hg w31 hbox hb; have BK229 := Aside0.mk (hbox); have GW229 : Aside0 (w.heap.size ≤ gb229) := ZS hg; have GE229 : Aside0 (w.heap.size ≤ gb229) := ZS hg; have NB221_229 : Aside0 (gb221 ≠ gb229) := ZN hg BK221; have NB229_221 : Aside0 (gb229 ≠ gb221) := ZM hg BK221; replace BK221 := ZW BK221 hb; replace HB := ZT HB hb; clear hb hbox hg; have hnb32 := NB229_221.out; have hnc32 := NB221_229.out; obtain ⟨hcz33_0, hcz33_1⟩ := ZC2 w31 BK229; obtain ⟨hfz33_0, hfz33_1⟩ := ZF2 BK229))
      go_ret
      exact ⟨ZE, ZB⟩

end Go.Proofs.YtgcioalgjcaikaaDoor.A
