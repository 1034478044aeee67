/- What Go functions compute, as Lean functions, and for each its contract: for every input at which the Lean function answers the call returns that; written by wip/tools/pr.py over the kit's print. -/
import Derived.Test.YtgcioalgjcaikaaDoorAx0
import Derived.Test.YtgcioalgjcaikaaDoorAx4
import Derived.Test.YtgcioalgjcaikaaDoorAx5
namespace Go.Proofs.YtgcioalgjcaikaaDoor.A
open Go.RowKit Go.Proofs.YtgcioalgjcaikaaDoorW.PrintWords Go.Proofs.YtgcioalgjcaikaaDoorW.PrintLast Go.Proofs.YtgcioalgjcaikaaDoorW.PrintMore
attribute [local go_sem] max2_int min2_int max_two min_two max_three min_three max_four min_four   -- for this text's walks alone
set_option linter.unusedVariables false
set_option linter.unusedSimpArgs false

/-! ### laws_FnExactLabelText: function 3 -/
def laws_FnExactLabelText.f (k : Nat) (a0_0 : Int) (a0_1 : Int) : Option (Bool) := (laws_toLabel.f a0_0 a0_1).bind fun bt138 => ((spec_LabelText.f k bt138.1 bt138.2).bind fun t140 => ((laws_toLabel.f a0_0 a0_1).bind fun bt141 => ((impl_LabelText.f k bt141.1 bt141.2).bind fun t143 => (if t143.toList = t140.toList then (some true) else (some false)))))
set_option maxHeartbeats 8000000 in
set_option maxRecDepth 100000 in
theorem laws_FnExactLabelText.calls (k : Nat) (a0_0 : Int) (a0_1 : Int) (r : Bool) (w : World) (h : laws_FnExactLabelText.f k a0_0 a0_1 = some r) :
  Calls Tryd.prog 3 #[.agg #[.int .i64 a0_0, .int .i64 a0_1]] w fun e w' => e = .returned (.bool r) ∧ Below w.heap.size w w' := by
 have hu23 := Tryd.underlying23
 have HB := Aside0.mk (Below.refl w.heap.size w)
 have H : ((laws_toLabel.f a0_0 a0_1).bind fun bt138 => ((spec_LabelText.f k bt138.1 bt138.2).bind fun t140 => ((laws_toLabel.f a0_0 a0_1).bind fun bt141 => ((impl_LabelText.f k bt141.1 bt141.2).bind fun t143 => (if t143.toList = t140.toList then (some true) else (some false)))))) = some r := h
 clear h
 replace H := Option.bind_eq_some_iff.mp H
 obtain ⟨⟨t138, t139⟩, A20, H⟩ := H
 replace H : ((spec_LabelText.f k t138 t139).bind fun t140 => ((laws_toLabel.f a0_0 a0_1).bind fun bt141 => ((impl_LabelText.f k bt141.1 bt141.2).bind fun t143 => (if t143.toList = t140.toList then (some true) else (some false))))) = some r := H
 have A2 := Aside0.mk A20
 clear A20
 replace H := Option.bind_eq_some_iff.mp H
 obtain ⟨t140, A30, H⟩ := H
 replace H : ((laws_toLabel.f a0_0 a0_1).bind fun bt141 => ((impl_LabelText.f k bt141.1 bt141.2).bind fun t143 => (if t143.toList = t140.toList then (some true) else (some false)))) = some r := H
 have A3 := Aside0.mk A30
 clear A30
 replace H := Option.bind_eq_some_iff.mp H
 obtain ⟨⟨t141, t142⟩, A40, H⟩ := H
 replace H : ((impl_LabelText.f k t141 t142).bind fun t143 => (if t143.toList = t140.toList then (some true) else (some false))) = some r := H
 have A4 := Aside0.mk A40
 clear A40
 replace H := Option.bind_eq_some_iff.mp H
 obtain ⟨t143, A50, H⟩ := H
 replace H : (if t143.toList = t140.toList then (some true) else (some false)) = some r := H
 have A5 := Aside0.mk A50
 clear A50
 by_cases c6 : t143.toList = t140.toList
 focus
  rw [if_pos c6] at H
  have c6b0 : (t143.toList == t140.toList) = true := beq_iff_eq.mpr c6
  have c6b1 : (t143.toList != t140.toList) = false := bne_eq_false_iff_eq.mpr c6
  clear c6
  obtain rfl := Option.some.inj H
  have tag0_ : Aside0 True := ⟨trivial⟩
 rotate_left
 focus
  rw [if_neg c6] at H
  have c6b0 : (t143.toList == t140.toList) = false := beq_eq_false_iff_ne.mpr c6
  have c6b1 : (t143.toList != t140.toList) = true := bne_iff_ne.mpr c6
  obtain rfl := Option.some.inj H
  have tag1_ : Aside0 True := ⟨trivial⟩
 rotate_left
 all_goals
  go_enter Tryd.func3, Tryd.ntmps3
  go_wp2_with (first | ((with_reducible refine gate_dst (N := 1) rfl ?_); refine ZX (N := 1) (cs := #[.int .i64 a0_0, .int .i64 a0_1]) (t := 23) ?_; intro gbq0 hg wq0 hbox hb; have BKq0 := Aside0.mk (hbox); have GWq0 : Aside0 (w.heap.size ≤ gbq0) := ZS hg; have GEq0 : Aside0 (w.heap.size ≤ gbq0) := ZS hg; replace HB := ZT HB hb; clear hb hbox hg; obtain ⟨hczq0_0, hczq0_1⟩ := ZC2 wq0 BKq0; obtain ⟨hfzq0_0, hfzq0_1⟩ := ZF2 BKq0) | ((with_reducible refine gate_callee (f := 8) rfl ?_); refine goesL_ (some 6) rfl rfl Tryd.func8 (by kernel_rfl) rfl #[.agg #[.int .i64 a0_0, .int .i64 a0_1]] rfl ZG ?_; (with_reducible refine (laws_toLabel.calls a0_0 a0_1 t138 t139 _ A2.out).mono ?_); rintro e wq1 ⟨rfl, hb⟩; refine ⟨_, rfl, ?_⟩; replace BKq0 := ZW BKq0 hb; replace HB := ZT HB hb; (try clear hb); (try clear hb2); (try clear hk); (try clear hi)) | ((with_reducible refine gate_callee (f := 7) rfl ?_); refine goesL_ (some 7) rfl rfl Tryd.func7 (by kernel_rfl) rfl #[.agg #[.int .i64 t138, .int .i64 t139]] rfl ZG ?_; (with_reducible refine (spec_LabelText.calls k t138 t139 t140 _ A3.out).mono ?_); rintro e wq2 ⟨rfl, hb⟩; refine ⟨_, rfl, ?_⟩; replace BKq0 := ZW BKq0 hb; replace HB := ZT HB hb; (try clear hb); (try clear hb2); (try clear hk); (try clear hi); obtain ⟨hczq1_0, hczq1_1⟩ := ZC2 wq2 BKq0; obtain ⟨hfzq1_0, hfzq1_1⟩ := ZF2 BKq0) | ((with_reducible refine gate_callee (f := 8) rfl ?_); refine goesL_ (some 9) rfl rfl Tryd.func8 (by kernel_rfl) rfl #[.agg #[.int .i64 a0_0, .int .i64 a0_1]] rfl ZG ?_; (with_reducible refine (laws_toLabel.calls a0_0 a0_1 t141 t142 _ A4.out).mono ?_); rintro e wq3 ⟨rfl, hb⟩; refine ⟨_, rfl, ?_⟩; replace BKq0 := ZW BKq0 hb; replace HB := ZT HB hb; (try clear hb); (try clear hb2); (try clear hk); (try clear hi)) | ((with_reducible refine gate_callee (f := 9) rfl ?_); refine goesL_ (some 10) rfl rfl Tryd.func9 (by kernel_rfl) rfl #[.agg #[.int .i64 t141, .int .i64 t142]] rfl ZG ?_; (with_reducible refine (impl_LabelText.calls k t141 t142 t143 _ A5.out).mono ?_); rintro e wq4 ⟨rfl, hb⟩; refine ⟨_, rfl, ?_⟩; replace BKq0 := ZW BKq0 hb; replace HB := ZT HB hb; (try clear hb); (try clear hb2); (try clear hk); (try clear hi)))
  go_ret
  exact ⟨ZE, ZB⟩

end Go.Proofs.YtgcioalgjcaikaaDoor.A
