/- What Go functions compute, as Lean functions, and for each its contract: for every input at which the Lean function answers the call returns that; written by wip/tools/pr.py over the kit's print. -/
import Derived.Test.YtgcioalgjcaikaaDoorAx0
import Derived.Test.YtgcioalgjcaikaaDoorAx7
import Derived.Test.YtgcioalgjcaikaaDoorAx8
namespace Go.Proofs.YtgcioalgjcaikaaDoor.A
open Go.RowKit Go.Proofs.YtgcioalgjcaikaaDoorW.PrintWords Go.Proofs.YtgcioalgjcaikaaDoorW.PrintLast Go.Proofs.YtgcioalgjcaikaaDoorW.PrintMore
attribute [local go_sem] max2_int min2_int max_two min_two max_three min_three max_four min_four   -- for this text's walks alone
set_option linter.unusedVariables false
set_option linter.unusedSimpArgs false

/-! ### laws_FnExactLabelRead: function 4 -/
def laws_FnExactLabelRead.f (k : Nat) (a0 : ByteArray) : Option (Bool) := if (a0.size : Int) > 1048576 then (some true) else ((spec_LabelRead.f k a0).bind fun bt164 => ((impl_LabelRead.f k a0).bind fun bt168 => ((laws_eqLabel.f bt168.1 bt168.2.1 bt164.1 bt164.2.1).bind fun t172 => (if t172 = true then (if (bt168.2.2 != bt164.2.2) = true then (some false) else (some true)) else (some false)))))
set_option maxHeartbeats 8000000 in
set_option maxRecDepth 100000 in
theorem laws_FnExactLabelRead.calls (k : Nat) (a0 : ByteArray) (r : Bool) (w : World) (h : laws_FnExactLabelRead.f k a0 = some r) :
  Calls Tryd.prog 4 #[.string a0] w fun e w' => e = .returned (.bool r) ∧ Below w.heap.size w w' := by
 have hu25 := Tryd.underlying25
 have HB := Aside0.mk (Below.refl w.heap.size w)
 have H : (if (a0.size : Int) > 1048576 then (some true) else ((spec_LabelRead.f k a0).bind fun bt164 => ((impl_LabelRead.f k a0).bind fun bt168 => ((laws_eqLabel.f bt168.1 bt168.2.1 bt164.1 bt164.2.1).bind fun t172 => (if t172 = true then (if (bt168.2.2 != bt164.2.2) = true then (some false) else (some true)) else (some false)))))) = some r := h
 clear h
 by_cases c2 : (a0.size : Int) > 1048576
 focus
  rw [if_pos c2] at H
  have c2b0 : decide (1048576 < (a0.size : Int)) = true := decide_eq_true c2
  have c2b1 : decide (1048576 < a0.size) = true := decide_eq_true (by omega)
  clear c2
  obtain rfl := Option.some.inj H
  have tag0_ : Aside0 True := ⟨trivial⟩
 rotate_left
 focus
  rw [if_neg c2] at H
  have c2b0 : decide (1048576 < (a0.size : Int)) = false := decide_eq_false c2
  have c2b1 : decide (1048576 < a0.size) = false := decide_eq_false (by omega)
  clear c2
  replace H := Option.bind_eq_some_iff.mp H
  obtain ⟨⟨t164, t165, t166⟩, A30, H⟩ := H
  replace H : ((impl_LabelRead.f k a0).bind fun bt168 => ((laws_eqLabel.f bt168.1 bt168.2.1 t164 t165).bind fun t172 => (if t172 = true then (if (bt168.2.2 != t166) = true then (some false) else (some true)) else (some false)))) = some r := H
  have A3 := Aside0.mk A30
  clear A30
  replace H := Option.bind_eq_some_iff.mp H
  obtain ⟨⟨t168, t169, t170⟩, A40, H⟩ := H
  replace H : ((laws_eqLabel.f t168 t169 t164 t165).bind fun t172 => (if t172 = true then (if (t170 != t166) = true then (some false) else (some true)) else (some false))) = some r := H
  have A4 := Aside0.mk A40
  clear A40
  replace H := Option.bind_eq_some_iff.mp H
  obtain ⟨t172, A50, H⟩ := H
  replace H : (if t172 = true then (if (t170 != t166) = true then (some false) else (some true)) else (some false)) = some r := H
  have A5 := Aside0.mk A50
  clear A50
  by_cases c6 : t172 = true
  focus
   subst c6
   have H1 : (if (t170 != t166) = true then (some false) else (some true)) = some r := by rw [if_pos rfl] at H; exact H
   clear H
   have H := H1
   clear H1
   by_cases c7 : (t170 != t166) = true
   focus
    rw [if_pos c7] at H
    have c7b0 : (t170 != t166) = true := c7
    (try (have c7b1 : decide (t170 = t166) = false := by simpa using c7))
    (try (have c7b2 : (t170 == t166) = false := by simpa using c7))
    (try (have c7b3 : ¬ (t170 = t166) := by simpa using c7))
    clear c7
    obtain rfl := Option.some.inj H
    have tag1_ : Aside0 True := ⟨trivial⟩
   rotate_left
   focus
    rw [if_neg c7] at H
    have c7b0 : (t170 != t166) = false := by simpa using c7
    (try (have c7b1 : decide (t170 = t166) = true := by simpa using c7))
    (try (have c7b2 : (t170 == t166) = true := by simpa using c7))
    clear c7
    obtain rfl := Option.some.inj H
    have tag2_ : Aside0 True := ⟨trivial⟩
   rotate_left
  rotate_left 2
  focus
   replace c6 := Bool.eq_false_iff.mpr c6
   subst c6
   have H1 : (some false) = some r := by rw [if_neg (show ¬ (false = true) by decide)] at H; exact H
   clear H
   have H := H1
   clear H1
   obtain rfl := Option.some.inj H
   have tag3_ : Aside0 True := ⟨trivial⟩
  rotate_left
 rotate_left 3
 all_goals
  go_enter Tryd.func4, Tryd.ntmps4
  first
  | (
    (have z_ := tag0_; clear z_)
    go_wp2
    go_ret
    exact ⟨ZE, ZB⟩)
  | (
    (first | (have z_ := tag1_; clear z_) | (have z_ := tag2_; clear z_))
    go_wp2_with (first | ((with_reducible refine gate_callee (f := 10) rfl ?_); refine goesL_ (some 12) rfl rfl Tryd.func10 (by kernel_rfl) rfl #[.string a0] rfl ZG ?_; (with_reducible refine (spec_LabelRead.calls k a0 t164 t165 t166 _ A3.out).mono ?_); rintro e wq0 ⟨rfl, hb⟩; refine ⟨_, rfl, ?_⟩; replace HB := ZT HB hb; (try clear hb); (try clear hb2); (try clear hk); (try clear hi)) | ((with_reducible refine gate_dst (N := 3) rfl ?_); refine ZX (N := 3) (cs := #[.int .i64 0, .int .i64 0]) (t := 25) ?_; intro gbq0 hg wq1 hbox hb; have BKq0 := Aside0.mk (hbox); have GWq0 : Aside0 (w.heap.size ≤ gbq0) := ZS hg; have GEq0 : Aside0 (w.heap.size ≤ gbq0) := ZS hg; replace HB := ZT HB hb; clear hb hbox hg; obtain ⟨hczq0_0, hczq0_1⟩ := ZC2 wq1 BKq0; obtain ⟨hfzq0_0, hfzq0_1⟩ := ZF2 BKq0) | ((with_reducible refine gate_callee (f := 11) rfl ?_); refine goesL_ (some 17) rfl rfl Tryd.func11 (by kernel_rfl) rfl #[.string a0] rfl ZG ?_; (with_reducible refine (impl_LabelRead.calls k a0 t168 t169 t170 _ A4.out).mono ?_); rintro e wq2 ⟨rfl, hb⟩; refine ⟨_, rfl, ?_⟩; replace BKq0 := ZV #[.int .i64 t164, .int .i64 t165] BKq0 hb; replace HB := ZT HB hb; (try clear hb); (try clear hb2); (try clear hk); (try clear hi)) | ((with_reducible refine gate_dst (N := 5) rfl ?_); refine ZX (N := 5) (cs := #[.int .i64 0, .int .i64 0]) (t := 25) ?_; intro gbq1 hg wq3 hbox hb; have BKq1 := Aside0.mk (hbox); have GWq1 : Aside0 (w.heap.size ≤ gbq1) := ZS hg; have GEq1 : Aside0 (w.heap.size ≤ gbq1) := ZS hg; have NBq0_171 : Aside0 (gbq0 ≠ gbq1) := ZN hg BKq0; have NBq1_167 : Aside0 (gbq1 ≠ gbq0) := ZM hg BKq0; replace BKq0 := ZW BKq0 hb; replace HB := ZT HB hb; clear hb hbox hg; have hnbq0 := NBq1_167.out; have hncq0 := NBq0_171.out; obtain ⟨hczq1_0, hczq1_1⟩ := ZC2 wq3 BKq1; obtain ⟨hfzq1_0, hfzq1_1⟩ := ZF2 BKq1; obtain ⟨hczq2_0, hczq2_1⟩ := ZC2 wq3 BKq0; obtain ⟨hfzq2_0, hfzq2_1⟩ := ZF2 BKq0) | ((with_reducible refine gate_callee (f := 12) rfl ?_); refine goesL_ (some 22) rfl rfl Tryd.func12 (by kernel_rfl) rfl #[.agg #[.int .i64 t168, .int .i64 t169], .agg #[.int .i64 t164, .int .i64 t165]] rfl ZG ?_; (with_reducible refine (laws_eqLabel.calls t168 t169 t164 t165 true _ A5.out).mono ?_); rintro e wq4 ⟨rfl, hb⟩; refine ⟨_, rfl, ?_⟩; replace BKq0 := ZV #[.int .i64 t164, .int .i64 t165] BKq0 hb; replace BKq1 := ZV #[.int .i64 t168, .int .i64 t169] BKq1 hb; replace HB := ZT HB hb; (try clear hb); (try clear hb2); (try clear hk); (try clear hi)))
    go_ret
    exact ⟨ZE, ZB⟩)
  | (
    (have z_ := tag3_; clear z_)
    go_wp2_with (first | ((with_reducible refine gate_callee (f := 10) rfl ?_); refine goesL_ (some 12) rfl rfl Tryd.func10 (by kernel_rfl) rfl #[.string a0] rfl ZG ?_; (with_reducible refine (spec_LabelRead.calls k a0 t164 t165 t166 _ A3.out).mono ?_); rintro e wq0 ⟨rfl, hb⟩; refine ⟨_, rfl, ?_⟩; replace HB := ZT HB hb; (try clear hb); (try clear hb2); (try clear hk); (try clear hi)) | ((with_reducible refine gate_dst (N := 3) rfl ?_); refine ZX (N := 3) (cs := #[.int .i64 0, .int .i64 0]) (t := 25) ?_; intro gbq0 hg wq1 hbox hb; have BKq0 := Aside0.mk (hbox); have GWq0 : Aside0 (w.heap.size ≤ gbq0) := ZS hg; have GEq0 : Aside0 (w.heap.size ≤ gbq0) := ZS hg; replace HB := ZT HB hb; clear hb hbox hg; obtain ⟨hczq0_0, hczq0_1⟩ := ZC2 wq1 BKq0; obtain ⟨hfzq0_0, hfzq0_1⟩ := ZF2 BKq0) | ((with_reducible refine gate_callee (f := 11) rfl ?_); refine goesL_ (some 17) rfl rfl Tryd.func11 (by kernel_rfl) rfl #[.string a0] rfl ZG ?_; (with_reducible refine (impl_LabelRead.calls k a0 t168 t169 t170 _ A4.out).mono ?_); rintro e wq2 ⟨rfl, hb⟩; refine ⟨_, rfl, ?_⟩; replace BKq0 := ZV #[.int .i64 t164, .int .i64 t165] BKq0 hb; replace HB := ZT HB hb; (try clear hb); (try clear hb2); (try clear hk); (try clear hi)) | ((with_reducible refine gate_dst (N := 5) rfl ?_); refine ZX (N := 5) (cs := #[.int .i64 0, .int .i64 0]) (t := 25) ?_; intro gbq1 hg wq3 hbox hb; have BKq1 := Aside0.mk (hbox); have GWq1 : Aside0 (w.heap.size ≤ gbq1) := ZS hg; have GEq1 : Aside0 (w.heap.size ≤ gbq1) := ZS hg; have NBq0_171 : Aside0 (gbq0 ≠ gbq1) := ZN hg BKq0; have NBq1_167 : Aside0 (gbq1 ≠ gbq0) := ZM hg BKq0; replace BKq0 := ZW BKq0 hb; replace HB := ZT HB hb; clear hb hbox hg; have hnbq0 := NBq1_167.out; have hncq0 := NBq0_171.out; obtain ⟨hczq1_0, hczq1_1⟩ := ZC2 wq3 BKq1; obtain ⟨hfzq1_0, hfzq1_1⟩ := ZF2 BKq1; obtain ⟨hczq2_0, hczq2_1⟩ := ZC2 wq3 BKq0; obtain ⟨hfzq2_0, hfzq2_1⟩ := ZF2 BKq0) | ((with_reducible refine gate_callee (f := 12) rfl ?_); refine goesL_ (some 22) rfl rfl Tryd.func12 (by kernel_rfl) rfl #[.agg #[.int .i64 t168, .int .i64 t169], .agg #[.int .i64 t164, .int .i64 t165]] rfl ZG ?_; (with_reducible refine (laws_eqLabel.calls t168 t169 t164 t165 false _ A5.out).mono ?_); rintro e wq4 ⟨rfl, hb⟩; refine ⟨_, rfl, ?_⟩; replace BKq0 := ZV #[.int .i64 t164, .int .i64 t165] BKq0 hb; replace BKq1 := ZV #[.int .i64 t168, .int .i64 t169] BKq1 hb; replace HB := ZT HB hb; (try clear hb); (try clear hb2); (try clear hk); (try clear hi)))
    go_ret
    exact ⟨ZE, ZB⟩)

end Go.Proofs.YtgcioalgjcaikaaDoor.A
