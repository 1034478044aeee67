/- What Go functions compute, as Lean functions, and for each its contract: for every input at which the Lean function answers the call returns that; written by wip/tools/pr.py over the kit's print. -/
import Derived.Test.YtcffnnedghgmaaaAx0
import Derived.Test.YtcffnnedghgmaaaAx6
import Derived.Test.YtcffnnedghgmaaaAx23
namespace Go.Proofs.Ytcffnnedghgmaaa.A
open Go.RowKit Go.Proofs.YtcffnnedghgmaaaW.PrintWords Go.Proofs.YtcffnnedghgmaaaW.PrintLast Go.Proofs.YtcffnnedghgmaaaW.PrintMore
attribute [local go_sem] max2_int min2_int max_two min_two max_three min_three max_four min_four   -- for this text's walks alone
set_option linter.unusedVariables false
set_option linter.unusedSimpArgs false

/-! ### spec_l1Within: function 149 -/
def spec_l1Within.l0 : Nat → Int → Int → Int → Option (Bool)
 | 0, _, _, _ => none
 | k + 1, x0, x1, x5 => if x5 < 3 then ((spec_l1Has.f x0 x5).bind fun t415 => (if t415 = true then ((spec_l1Has.f x1 x5).bind fun t416 => (if t416 = true then (spec_l1Within.l0 k x0 x1 (wrap64 (x5 + 1))) else (some false))) else (spec_l1Within.l0 k x0 x1 (wrap64 (x5 + 1))))) else (some true)
def spec_l1Within.f (k : Nat) (a0 : Int) (a1 : Int) : Option (Bool) := spec_l1Within.l0 k a0 a1 0
theorem spec_l1Within.mono_l : ∀ k, (∀ y0 y1 y2, LeO (spec_l1Within.l0 k y0 y1 y2) (spec_l1Within.l0 (k + 1) y0 y1 y2))
 | 0 => fun _ _ _ r h => by simp [spec_l1Within.l0] at h
 | k + 1 => by
  have ih0 := spec_l1Within.mono_l k
  ·intro y0 y1 y2
   unfold spec_l1Within.l0
   repeat' first
   | (with_reducible exact ih0 _ _ _)
   | (with_reducible exact LeO.refl _)
   | (with_reducible exact LeO.none _)
   | (with_reducible refine LeO.ite ?_ ?_)
   | (with_reducible refine LeO.bind ?_ (fun _ => ?_))
   | exact ih0 _ _ _
   | exact LeO.none _
   | refine LeO.ite ?_ ?_
   | refine LeO.bind ?_ (fun _ => ?_)
theorem spec_l1Within.mono : ∀ a0 a1 k, LeO (spec_l1Within.f k a0 a1) (spec_l1Within.f (k + 1) a0 a1) := by
 intro a0 a1 k
 have ih0 := spec_l1Within.mono_l k
 unfold spec_l1Within.f
 repeat' first
   | (with_reducible exact ih0 _ _ _)
   | (with_reducible exact LeO.refl _)
   | (with_reducible exact LeO.none _)
   | (with_reducible refine LeO.ite ?_ ?_)
   | (with_reducible refine LeO.bind ?_ (fun _ => ?_))
   | exact ih0 _ _ _
   | exact LeO.none _
   | refine LeO.ite ?_ ?_
   | refine LeO.bind ?_ (fun _ => ?_)
set_option maxHeartbeats 8000000 in
set_option maxRecDepth 100000 in
theorem spec_l1Within.calls (k : Nat) (a0 : Int) (a1 : Int) (r : Bool) (w : World) (h : spec_l1Within.f k a0 a1 = some r) :
  Calls Try.prog 149 #[.int .i64 a0, .int .i64 a1] w fun e w' => e = .returned (.bool r) ∧ Drawn0 w w' := by
 have H : (spec_l1Within.l0 k a0 a1 0) = some r := h
 clear h
 have H' := Aside0.mk H
 clear H
 go_enter Try.func149, Try.ntmps149
 go_wp2
 go_loopg [5] k (fun kq v5 w' => ∃ (x5_1 : Int), v5 = .int .i64 x5_1 ∧ Aside0 (spec_l1Within.l0 kq a0 a1 x5_1 = some r) ∧ Aside0 (kq ≤ k) ∧ Drawn0 w w')
 case atStart => exact ⟨(0), (by first | rfl | (simp; done) | (simp [*]; done)), H', ⟨Nat.le_refl _⟩, by repeat (first | exact Drawn0.refl _ | apply Drawn0.step)⟩
 case round =>
  clear H'
  try clear c1
  try clear p2
  obtain ⟨x5_1, rfl, HA, HK1, ⟨m1, rfl⟩⟩ := hrel
  cases gk with
  | zero => exact absurd HA.out (by simp [spec_l1Within.l0])
  | succ k1 =>
   have H := HA.out
   clear HA
   simp only [spec_l1Within.l0] at H
   by_cases c3 : x5_1 < 3
   ·rw [if_pos c3] at H
    have c3b0 : decide (x5_1 < 3) = true := decide_eq_true c3
    clear c3
    replace H := Option.bind_eq_some_iff.mp H
    obtain ⟨t415, A40, H⟩ := H
    replace H : (if t415 = true then ((spec_l1Has.f a1 x5_1).bind fun t416 => (if t416 = true then (spec_l1Within.l0 k1 a0 a1 (wrap64 (x5_1 + 1))) else (some false))) else (spec_l1Within.l0 k1 a0 a1 (wrap64 (x5_1 + 1)))) = some r := H
    have A4 := Aside0.mk A40
    clear A40
    by_cases c5 : t415 = true
    ·subst c5
     have H1 : ((spec_l1Has.f a1 x5_1).bind fun t416 => (if t416 = true then (spec_l1Within.l0 k1 a0 a1 (wrap64 (x5_1 + 1))) else (some false))) = some r := by rw [if_pos rfl] at H; exact H
     clear H
     have H := H1
     clear H1
     replace H := Option.bind_eq_some_iff.mp H
     obtain ⟨t416, A60, H⟩ := H
     replace H : (if t416 = true then (spec_l1Within.l0 k1 a0 a1 (wrap64 (x5_1 + 1))) else (some false)) = some r := H
     have A6 := Aside0.mk A60
     clear A60
     by_cases c7 : t416 = true
     ·subst c7
      have H1 : (spec_l1Within.l0 k1 a0 a1 (wrap64 (x5_1 + 1))) = some r := by rw [if_pos rfl] at H; exact H
      clear H
      have H := H1
      clear H1
      have H' := Aside0.mk H
      clear H
      go_wp2_with (first | ((with_reducible refine gate_callee (f := 102) rfl ?_); refine goesL_ (some 12) rfl rfl Try.func102 (by kernel_rfl) rfl #[.int .i64 a0, .int .i64 x5_1] rfl ZG ?_; (with_reducible refine (spec_l1Has.calls a0 x5_1 true _ A4.out).mono ?_); rintro e w' ⟨rfl, ⟨nd, rfl⟩⟩; refine ⟨_, rfl, ?_⟩) | (go_at_call 102; (with_reducible refine (spec_l1Has.calls a1 x5_1 true _ A6.out).mono ?_); rintro e w' ⟨rfl, ⟨nd, rfl⟩⟩))
      go_roundg k1
      case measure => have := HK1.out; omega
      case rel => exact ⟨(wrap64 (x5_1 + 1)), (by first | rfl | (simp; done) | (simp [*]; done)), H', ⟨by have := HK1.out; omega⟩, by repeat (first | exact Drawn0.refl _ | apply Drawn0.step)⟩
     ·replace c7 := Bool.eq_false_iff.mpr c7
      subst c7
      have H1 : (some false) = some r := by rw [if_neg (show ¬ (false = true) by decide)] at H; exact H
      clear H
      have H := H1
      clear H1
      obtain rfl := Option.some.inj H
      go_wp2_with (first | ((with_reducible refine gate_callee (f := 102) rfl ?_); refine goesL_ (some 12) rfl rfl Try.func102 (by kernel_rfl) rfl #[.int .i64 a0, .int .i64 x5_1] rfl ZG ?_; (with_reducible refine (spec_l1Has.calls a0 x5_1 true _ A4.out).mono ?_); rintro e w' ⟨rfl, ⟨nd, rfl⟩⟩; refine ⟨_, rfl, ?_⟩) | (go_at_call 102; (with_reducible refine (spec_l1Has.calls a1 x5_1 false _ A6.out).mono ?_); rintro e w' ⟨rfl, ⟨nd, rfl⟩⟩))
      go_ret
      exact ⟨by first | rfl | (simp; done) | (simp [*]; done), by repeat (first | exact Drawn0.refl _ | apply Drawn0.step)⟩
    ·replace c5 := Bool.eq_false_iff.mpr c5
     subst c5
     have H1 : (spec_l1Within.l0 k1 a0 a1 (wrap64 (x5_1 + 1))) = some r := by rw [if_neg (show ¬ (false = true) by decide)] at H; exact H
     clear H
     have H := H1
     clear H1
     have H' := Aside0.mk H
     clear H
     go_wp2_with (first | ((with_reducible refine gate_callee (f := 102) rfl ?_); refine goesL_ (some 12) rfl rfl Try.func102 (by kernel_rfl) rfl #[.int .i64 a0, .int .i64 x5_1] rfl ZG ?_; (with_reducible refine (spec_l1Has.calls a0 x5_1 false _ A4.out).mono ?_); rintro e w' ⟨rfl, ⟨nd, rfl⟩⟩; refine ⟨_, rfl, ?_⟩))
     go_roundg k1
     case measure => have := HK1.out; omega
     case rel => exact ⟨(wrap64 (x5_1 + 1)), (by first | rfl | (simp; done) | (simp [*]; done)), H', ⟨by have := HK1.out; omega⟩, by repeat (first | exact Drawn0.refl _ | apply Drawn0.step)⟩
   ·rw [if_neg c3] at H
    have c3b0 : decide (x5_1 < 3) = false := decide_eq_false c3
    clear c3
    obtain rfl := Option.some.inj H
    go_wp2
    go_ret
    exact ⟨by first | rfl | (simp; done) | (simp [*]; done), by repeat (first | exact Drawn0.refl _ | apply Drawn0.step)⟩

/-! ### spec_LabelFlows: function 139 -/
def spec_LabelFlows.f (k : Nat) (a0_0 : Int) (a0_1 : Int) (a1_0 : Int) (a1_1 : Int) : Option (Bool) := (spec_LabelOk.f a0_0 a0_1).bind fun t419 => (if t419 = true then ((spec_LabelOk.f a1_0 a1_1).bind fun t420 => (if t420 = true then ((spec_l1Within.f k a1_0 a0_0).bind fun t421 => (if t421 = true then ((spec_l1Within.f k a1_1 a0_1).bind fun t422 => (some t422)) else (some false))) else (some false))) else (some false))
set_option maxHeartbeats 8000000 in
set_option maxRecDepth 100000 in
theorem spec_LabelFlows.calls (k : Nat) (a0_0 : Int) (a0_1 : Int) (a1_0 : Int) (a1_1 : Int) (r : Bool) (w : World) (h : spec_LabelFlows.f k a0_0 a0_1 a1_0 a1_1 = some r) :
  Calls Try.prog 139 #[.agg #[.int .i64 a0_0, .int .i64 a0_1], .agg #[.int .i64 a1_0, .int .i64 a1_1]] w fun e w' => e = .returned (.bool r) ∧ Below w.heap.size w w' := by
 have hu35 := Try.underlying35
 have HB := Aside0.mk (Below.refl w.heap.size w)
 have H : ((spec_LabelOk.f a0_0 a0_1).bind fun t419 => (if t419 = true then ((spec_LabelOk.f a1_0 a1_1).bind fun t420 => (if t420 = true then ((spec_l1Within.f k a1_0 a0_0).bind fun t421 => (if t421 = true then ((spec_l1Within.f k a1_1 a0_1).bind fun t422 => (some t422)) else (some false))) else (some false))) else (some false))) = some r := h
 clear h
 replace H := Option.bind_eq_some_iff.mp H
 obtain ⟨t419, A30, H⟩ := H
 replace H : (if t419 = true then ((spec_LabelOk.f a1_0 a1_1).bind fun t420 => (if t420 = true then ((spec_l1Within.f k a1_0 a0_0).bind fun t421 => (if t421 = true then ((spec_l1Within.f k a1_1 a0_1).bind fun t422 => (some t422)) else (some false))) else (some false))) else (some false)) = some r := H
 have A3 := Aside0.mk A30
 clear A30
 by_cases c4 : t419 = true
 ·subst c4
  have H1 : ((spec_LabelOk.f a1_0 a1_1).bind fun t420 => (if t420 = true then ((spec_l1Within.f k a1_0 a0_0).bind fun t421 => (if t421 = true then ((spec_l1Within.f k a1_1 a0_1).bind fun t422 => (some t422)) else (some false))) else (some false))) = some r := by rw [if_pos rfl] at H; exact H
  clear H
  have H := H1
  clear H1
  replace H := Option.bind_eq_some_iff.mp H
  obtain ⟨t420, A50, H⟩ := H
  replace H : (if t420 = true then ((spec_l1Within.f k a1_0 a0_0).bind fun t421 => (if t421 = true then ((spec_l1Within.f k a1_1 a0_1).bind fun t422 => (some t422)) else (some false))) else (some false)) = some r := H
  have A5 := Aside0.mk A50
  clear A50
  by_cases c6 : t420 = true
  ·subst c6
   have H1 : ((spec_l1Within.f k a1_0 a0_0).bind fun t421 => (if t421 = true then ((spec_l1Within.f k a1_1 a0_1).bind fun t422 => (some t422)) else (some false))) = some r := by rw [if_pos rfl] at H; exact H
   clear H
   have H := H1
   clear H1
   replace H := Option.bind_eq_some_iff.mp H
   obtain ⟨t421, A70, H⟩ := H
   replace H : (if t421 = true then ((spec_l1Within.f k a1_1 a0_1).bind fun t422 => (some t422)) else (some false)) = some r := H
   have A7 := Aside0.mk A70
   clear A70
   by_cases c8 : t421 = true
   ·subst c8
    have H1 : ((spec_l1Within.f k a1_1 a0_1).bind fun t422 => (some t422)) = some r := by rw [if_pos rfl] at H; exact H
    clear H
    have H := H1
    clear H1
    replace H := Option.bind_eq_some_iff.mp H
    obtain ⟨t422, A90, H⟩ := H
    replace H : (some t422) = some r := H
    have A9 := Aside0.mk A90
    clear A90
    obtain rfl := Option.some.inj H
    go_enter Try.func139, Try.ntmps139
    go_wp2_with (first | ((with_reducible refine gate_dst (N := 2) rfl ?_); refine ZX (N := 2) (cs := #[.int .i64 a0_0, .int .i64 a0_1]) (t := 35) ?_; intro gb417 hg w10 hbox hb; have BK417 := Aside0.mk (hbox); have GW417 : Aside0 (w.heap.size ≤ gb417) := ZS hg; have GE417 : Aside0 (w.heap.size ≤ gb417) := ZS hg; replace HB := ZT hb; clear hb hbox hg) | ((with_reducible refine gate_dst (N := 3) rfl ?_); refine ZX (N := 3) (cs := #[.int .i64 a1_0, .int .i64 a1_1]) (t := 35) ?_; intro gb418 hg w11 hbox hb; have BK418 := Aside0.mk (hbox); have GW418 : Aside0 (w.heap.size ≤ gb418) := ZS hg; have GE418 : Aside0 (w.heap.size ≤ gb418) := ZS hg; have NB417_418 : Aside0 (gb417 ≠ gb418) := ZN hg BK417; have NB418_417 : Aside0 (gb418 ≠ gb417) := ZM hg BK417; replace BK417 := ZW BK417 hb; replace HB := ZT hb; clear hb hbox hg; have hnb12 := NB417_418.out; have hnc12 := NB418_417.out; obtain ⟨hcz13_0, hcz13_1⟩ := ZC2 w11 BK417; obtain ⟨hfz13_0, hfz13_1⟩ := ZF2 BK417) | ((with_reducible refine gate_callee (f := 92) rfl ?_); refine goesL_ (some 6) rfl rfl Try.func92 (by kernel_rfl) rfl #[.agg #[.int .i64 a0_0, .int .i64 a0_1]] rfl ZG ?_; (with_reducible refine (spec_LabelOk.calls a0_0 a0_1 true _ A3.out).mono ?_); rintro e w14 ⟨rfl, hb⟩; refine ⟨_, rfl, ?_⟩; replace BK417 := ZW BK417 hb; replace BK418 := ZW BK418 hb; replace HB := ZT hb; (try clear hb); (try clear hb2); (try clear hk); (try clear hi); obtain ⟨hcz15_0, hcz15_1⟩ := ZC2 w14 BK418; obtain ⟨hfz15_0, hfz15_1⟩ := ZF2 BK418) | (go_at_call 92; (with_reducible refine (spec_LabelOk.calls a1_0 a1_1 true _ A5.out).mono ?_); rintro e w16 ⟨rfl, hb⟩; replace BK417 := ZW BK417 hb; replace BK418 := ZW BK418 hb; replace HB := ZT hb; (try clear hb); (try clear hb2); (try clear hk); (try clear hi); obtain ⟨hcz17_0, hcz17_1⟩ := ZC2 w16 BK418; obtain ⟨hfz17_0, hfz17_1⟩ := ZF2 BK418; obtain ⟨hcz18_0, hcz18_1⟩ := ZC2 w16 BK417; obtain ⟨hfz18_0, hfz18_1⟩ := ZF2 BK417) | (go_at_call 149; (with_reducible refine (spec_l1Within.calls k a1_0 a0_0 true _ A7.out).mono ?_); rintro e w' ⟨rfl, ⟨nd, rfl⟩⟩) | (go_at_call 149; (with_reducible refine (spec_l1Within.calls k a1_1 a0_1 t422 _ A9.out).mono ?_); rintro e w' ⟨rfl, ⟨nd, rfl⟩⟩))
    go_ret
    exact ⟨ZE, ZB⟩
   ·replace c8 := Bool.eq_false_iff.mpr c8
    subst c8
    have H1 : (some false) = some r := by rw [if_neg (show ¬ (false = true) by decide)] at H; exact H
    clear H
    have H := H1
    clear H1
    obtain rfl := Option.some.inj H
    go_enter Try.func139, Try.ntmps139
    go_wp2_with (first | ((with_reducible refine gate_dst (N := 2) rfl ?_); refine ZX (N := 2) (cs := #[.int .i64 a0_0, .int .i64 a0_1]) (t := 35) ?_; intro gb417 hg w19 hbox hb; have BK417 := Aside0.mk (hbox); have GW417 : Aside0 (w.heap.size ≤ gb417) := ZS hg; have GE417 : Aside0 (w.heap.size ≤ gb417) := ZS hg; replace HB := ZT hb; clear hb hbox hg) | ((with_reducible refine gate_dst (N := 3) rfl ?_); refine ZX (N := 3) (cs := #[.int .i64 a1_0, .int .i64 a1_1]) (t := 35) ?_; intro gb418 hg w20 hbox hb; have BK418 := Aside0.mk (hbox); have GW418 : Aside0 (w.heap.size ≤ gb418) := ZS hg; have GE418 : Aside0 (w.heap.size ≤ gb418) := ZS hg; have NB417_418 : Aside0 (gb417 ≠ gb418) := ZN hg BK417; have NB418_417 : Aside0 (gb418 ≠ gb417) := ZM hg BK417; replace BK417 := ZW BK417 hb; replace HB := ZT hb; clear hb hbox hg; have hnb21 := NB417_418.out; have hnc21 := NB418_417.out; obtain ⟨hcz22_0, hcz22_1⟩ := ZC2 w20 BK417; obtain ⟨hfz22_0, hfz22_1⟩ := ZF2 BK417) | ((with_reducible refine gate_callee (f := 92) rfl ?_); refine goesL_ (some 6) rfl rfl Try.func92 (by kernel_rfl) rfl #[.agg #[.int .i64 a0_0, .int .i64 a0_1]] rfl ZG ?_; (with_reducible refine (spec_LabelOk.calls a0_0 a0_1 true _ A3.out).mono ?_); rintro e w23 ⟨rfl, hb⟩; refine ⟨_, rfl, ?_⟩; replace BK417 := ZW BK417 hb; replace BK418 := ZW BK418 hb; replace HB := ZT hb; (try clear hb); (try clear hb2); (try clear hk); (try clear hi); obtain ⟨hcz24_0, hcz24_1⟩ := ZC2 w23 BK418; obtain ⟨hfz24_0, hfz24_1⟩ := ZF2 BK418) | (go_at_call 92; (with_reducible refine (spec_LabelOk.calls a1_0 a1_1 true _ A5.out).mono ?_); rintro e w25 ⟨rfl, hb⟩; replace BK417 := ZW BK417 hb; replace BK418 := ZW BK418 hb; replace HB := ZT hb; (try clear hb); (try clear hb2); (try clear hk); (try clear hi); obtain ⟨hcz26_0, hcz26_1⟩ := ZC2 w25 BK418; obtain ⟨hfz26_0, hfz26_1⟩ := ZF2 BK418; obtain ⟨hcz27_0, hcz27_1⟩ := ZC2 w25 BK417; obtain ⟨hfz27_0, hfz27_1⟩ := ZF2 BK417) | (go_at_call 149; (with_reducible refine (spec_l1Within.calls k a1_0 a0_0 false _ A7.out).mono ?_); rintro e w' ⟨rfl, ⟨nd, rfl⟩⟩))
    go_ret
    exact ⟨ZE, ZB⟩
  ·replace c6 := Bool.eq_false_iff.mpr c6
   subst c6
   have H1 : (some false) = some r := by rw [if_neg (show ¬ (false = true) by decide)] at H; exact H
   clear H
   have H := H1
   clear H1
   obtain rfl := Option.some.inj H
   go_enter Try.func139, Try.ntmps139
   go_wp2_with (first | ((with_reducible refine gate_dst (N := 2) rfl ?_); refine ZX (N := 2) (cs := #[.int .i64 a0_0, .int .i64 a0_1]) (t := 35) ?_; intro gb417 hg w28 hbox hb; have BK417 := Aside0.mk (hbox); have GW417 : Aside0 (w.heap.size ≤ gb417) := ZS hg; have GE417 : Aside0 (w.heap.size ≤ gb417) := ZS hg; replace HB := ZT hb; clear hb hbox hg) | ((with_reducible refine gate_dst (N := 3) rfl ?_); refine ZX (N := 3) (cs := #[.int .i64 a1_0, .int .i64 a1_1]) (t := 35) ?_; intro gb418 hg w29 hbox hb; have BK418 := Aside0.mk (hbox); have GW418 : Aside0 (w.heap.size ≤ gb418) := ZS hg; have GE418 : Aside0 (w.heap.size ≤ gb418) := ZS hg; have NB417_418 : Aside0 (gb417 ≠ gb418) := ZN hg BK417; have NB418_417 : Aside0 (gb418 ≠ gb417) := ZM hg BK417; replace BK417 := ZW BK417 hb; replace HB := ZT hb; clear hb hbox hg; have hnb30 := NB417_418.out; have hnc30 := NB418_417.out; obtain ⟨hcz31_0, hcz31_1⟩ := ZC2 w29 BK417; obtain ⟨hfz31_0, hfz31_1⟩ := ZF2 BK417) | ((with_reducible refine gate_callee (f := 92) rfl ?_); refine goesL_ (some 6) rfl rfl Try.func92 (by kernel_rfl) rfl #[.agg #[.int .i64 a0_0, .int .i64 a0_1]] rfl ZG ?_; (with_reducible refine (spec_LabelOk.calls a0_0 a0_1 true _ A3.out).mono ?_); rintro e w32 ⟨rfl, hb⟩; refine ⟨_, rfl, ?_⟩; replace BK417 := ZW BK417 hb; replace BK418 := ZW BK418 hb; replace HB := ZT hb; (try clear hb); (try clear hb2); (try clear hk); (try clear hi); obtain ⟨hcz33_0, hcz33_1⟩ := ZC2 w32 BK418; obtain ⟨hfz33_0, hfz33_1⟩ := ZF2 BK418) | (go_at_call 92; (with_reducible refine (spec_LabelOk.calls a1_0 a1_1 false _ A5.out).mono ?_); rintro e w34 ⟨rfl, hb⟩; replace BK417 := ZW BK417 hb; replace BK418 := ZW BK418 hb; replace HB := ZT hb; (try clear hb); (try clear hb2); (try clear hk); (try clear hi)))
   go_ret
   exact ⟨ZE, ZB⟩
 ·replace c4 := Bool.eq_false_iff.mpr c4
  subst c4
  have H1 : (some false) = some r := by rw [if_neg (show ¬ (false = true) by decide)] at H; exact H
  clear H
  have H := H1
  clear H1
  obtain rfl := Option.some.inj H
  go_enter Try.func139, Try.ntmps139
  go_wp2_with (first | ((with_reducible refine gate_dst (N := 2) rfl ?_); refine ZX (N := 2) (cs := #[.int .i64 a0_0, .int .i64 a0_1]) (t := 35) ?_; intro gb417 hg w35 hbox hb; have BK417 := Aside0.mk (hbox); have GW417 : Aside0 (w.heap.size ≤ gb417) := ZS hg; have GE417 : Aside0 (w.heap.size ≤ gb417) := ZS hg; replace HB := ZT hb; clear hb hbox hg) | ((with_reducible refine gate_dst (N := 3) rfl ?_); refine ZX (N := 3) (cs := #[.int .i64 a1_0, .int .i64 a1_1]) (t := 35) ?_; intro gb418 hg w36 hbox hb; have BK418 := Aside0.mk (hbox); have GW418 : Aside0 (w.heap.size ≤ gb418) := ZS hg; have GE418 : Aside0 (w.heap.size ≤ gb418) := ZS hg; have NB417_418 : Aside0 (gb417 ≠ gb418) := ZN hg BK417; have NB418_417 : Aside0 (gb418 ≠ gb417) := ZM hg BK417; replace BK417 := ZW BK417 hb; replace HB := ZT hb; clear hb hbox hg; have hnb37 := NB417_418.out; have hnc37 := NB418_417.out; obtain ⟨hcz38_0, hcz38_1⟩ := ZC2 w36 BK417; obtain ⟨hfz38_0, hfz38_1⟩ := ZF2 BK417) | ((with_reducible refine gate_callee (f := 92) rfl ?_); refine goesL_ (some 6) rfl rfl Try.func92 (by kernel_rfl) rfl #[.agg #[.int .i64 a0_0, .int .i64 a0_1]] rfl ZG ?_; (with_reducible refine (spec_LabelOk.calls a0_0 a0_1 false _ A3.out).mono ?_); rintro e w39 ⟨rfl, hb⟩; refine ⟨_, rfl, ?_⟩; replace BK417 := ZW BK417 hb; replace BK418 := ZW BK418 hb; replace HB := ZT hb; (try clear hb); (try clear hb2); (try clear hk); (try clear hi)))
  go_ret
  exact ⟨ZE, ZB⟩

end Go.Proofs.Ytcffnnedghgmaaa.A
