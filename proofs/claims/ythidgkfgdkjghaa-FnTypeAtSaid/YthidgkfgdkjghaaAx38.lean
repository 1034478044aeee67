/- By wip/tools/pr.py: Go functions as Lean functions, with contracts. -/
import Derived.Test.YthidgkfgdkjghaaAx0
import Derived.Test.YthidgkfgdkjghaaAx20
import Derived.Test.YthidgkfgdkjghaaAx19
namespace Go.Proofs.Ythidgkfgdkjghaa.A
open Go.RowKit Go.Proofs.YthidgkfgdkjghaaW.PrintWords Go.Proofs.YthidgkfgdkjghaaW.PrintLast Go.Proofs.YthidgkfgdkjghaaW.PrintMore
attribute [local go_sem] max2_int min2_int max_two min_two max_three min_three max_four min_four
set_option linter.unusedVariables false
set_option linter.unusedSimpArgs false
set_option maxHeartbeats 8000000
set_option maxRecDepth 100000

/-! ### impl_LabelFlows: function 24 -/
def impl_LabelFlows.f (a0_0 : Int) (a0_1 : Int) (a1_0 : Int) (a1_1 : Int) : Option (Bool) := (impl_LabelOk.f a0_0 a0_1).bind fun t796 => (if t796 = true then ((impl_LabelOk.f a1_0 a1_1).bind fun t797 => (if t797 = true then ((impl_Label_flows.f a0_0 a0_1 a1_0 a1_1).bind fun t798 => (some t798)) else (some false))) else (some false))
theorem impl_LabelFlows.calls (a0_0 : Int) (a0_1 : Int) (a1_0 : Int) (a1_1 : Int) (r : Bool) (w : World) (h : impl_LabelFlows.f a0_0 a0_1 a1_0 a1_1 = some r) :
  Calls Try.prog 24 #[.agg #[.int .i64 a0_0, .int .i64 a0_1], .agg #[.int .i64 a1_0, .int .i64 a1_1]] w fun e w' => e = .returned (.bool r) ∧ Below w.heap.size w w' := by
 have hu39 := Try.underlying39
 have HB := AM (Below.refl w.heap.size w)
 have H := h
 unfold impl_LabelFlows.f at H
 clear h
 obtain ⟨t796, A3, H⟩ := ZOB H; try dsimp only at H
 by_cases c4 : t796 = true
 ·(
 subst c4
 have H1 := H; rw [if_pos rfl] at H1
 clear H
 have H := H1
 clear H1
 obtain ⟨t797, A5, H⟩ := ZOB H; try dsimp only at H
 by_cases c6 : t797 = true
 ·(
 subst c6
 have H1 := H; rw [if_pos rfl] at H1
 clear H
 have H := H1
 clear H1
 obtain ⟨t798, A7, H⟩ := ZOB H; try dsimp only at H
 obtain rfl := Option.some.inj H
 go_enter Try.func24, Try.ntmps24
 go_wp2_with (first | ((with_reducible refine gate_dst (N := 2) rfl ?_); refine ZX (N := 2) (cs := #[.int .i64 a0_0, .int .i64 a0_1]) (t := 39) ?_; intro gb794 hg w8 hbox hb; have BK794 := AM (hbox); have GW794 : Za (w.heap.size ≤ gb794) := ZS hg; replace HB := ZT HB hb; clear hb hbox hg) | ((with_reducible refine gate_dst (N := 3) rfl ?_); refine ZX (N := 3) (cs := #[.int .i64 a1_0, .int .i64 a1_1]) (t := 39) ?_; intro gb795 hg w9 hbox hb; have BK795 := AM (hbox); have GW795 : Za (w.heap.size ≤ gb795) := ZS hg; have NB794_795 : Za (gb794 ≠ gb795) := ZN hg BK794; have NB795_794 : Za (gb795 ≠ gb794) := ZM hg BK794; replace BK794 := ZW BK794 hb; replace HB := ZT HB hb; clear hb hbox hg; have hnb10 := NB794_795.out; have hnc10 := NB795_794.out; have hcz11 := ZC2 w9 BK794; have hfz11 := ZF2 BK794) | ((with_reducible refine gate_callee (f := 46) rfl ?_); refine ZGL (some 6) Try.func46 #[.agg #[.int .i64 a0_0, .int .i64 a0_1]] ?_; (with_reducible refine (impl_LabelOk.calls a0_0 a0_1 true _ A3.out).mono ?_); rintro e w12 ⟨rfl, hb⟩; refine ⟨_, rfl, ?_⟩; replace BK794 := ZW BK794 hb; replace BK795 := ZW BK795 hb; replace HB := ZT HB hb; clear hb; have hcz13 := ZC2 w12 BK795; have hfz13 := ZF2 BK795) | (go_at_call 46; (with_reducible refine (impl_LabelOk.calls a1_0 a1_1 true _ A5.out).mono ?_); rintro e w14 ⟨rfl, hb⟩; replace BK794 := ZW BK794 hb; replace BK795 := ZW BK795 hb; replace HB := ZT HB hb; clear hb; have hcz15 := ZC2 w14 BK794; have hfz15 := ZF2 BK794; have hcz16 := ZC2 w14 BK795; have hfz16 := ZF2 BK795) | (go_at_call 47; (with_reducible refine (impl_Label_flows.calls a0_0 a0_1 a1_0 a1_1 t798 _ A7.out).mono ?_); rintro e w17 ⟨rfl, hb⟩; replace BK794 := ZW BK794 hb; replace BK795 := ZW BK795 hb; replace HB := ZT HB hb; clear hb))
 go_ret
 exact ⟨ZE, ZB⟩)
 ·(
 replace c6 := Bool.eq_false_iff.mpr c6
 subst c6
 have H1 := H; rw [if_neg ZFT] at H1
 clear H
 have H := H1
 clear H1
 obtain rfl := Option.some.inj H
 go_enter Try.func24, Try.ntmps24
 go_wp2_with (first | ((with_reducible refine gate_dst (N := 2) rfl ?_); refine ZX (N := 2) (cs := #[.int .i64 a0_0, .int .i64 a0_1]) (t := 39) ?_; intro gb794 hg w18 hbox hb; have BK794 := AM (hbox); have GW794 : Za (w.heap.size ≤ gb794) := ZS hg; replace HB := ZT HB hb; clear hb hbox hg) | ((with_reducible refine gate_dst (N := 3) rfl ?_); refine ZX (N := 3) (cs := #[.int .i64 a1_0, .int .i64 a1_1]) (t := 39) ?_; intro gb795 hg w19 hbox hb; have BK795 := AM (hbox); have GW795 : Za (w.heap.size ≤ gb795) := ZS hg; have NB794_795 : Za (gb794 ≠ gb795) := ZN hg BK794; have NB795_794 : Za (gb795 ≠ gb794) := ZM hg BK794; replace BK794 := ZW BK794 hb; replace HB := ZT HB hb; clear hb hbox hg; have hnb20 := NB794_795.out; have hnc20 := NB795_794.out; have hcz21 := ZC2 w19 BK794; have hfz21 := ZF2 BK794) | ((with_reducible refine gate_callee (f := 46) rfl ?_); refine ZGL (some 6) Try.func46 #[.agg #[.int .i64 a0_0, .int .i64 a0_1]] ?_; (with_reducible refine (impl_LabelOk.calls a0_0 a0_1 true _ A3.out).mono ?_); rintro e w22 ⟨rfl, hb⟩; refine ⟨_, rfl, ?_⟩; replace BK794 := ZW BK794 hb; replace BK795 := ZW BK795 hb; replace HB := ZT HB hb; clear hb; have hcz23 := ZC2 w22 BK795; have hfz23 := ZF2 BK795) | (go_at_call 46; (with_reducible refine (impl_LabelOk.calls a1_0 a1_1 false _ A5.out).mono ?_); rintro e w24 ⟨rfl, hb⟩; replace BK794 := ZW BK794 hb; replace BK795 := ZW BK795 hb; replace HB := ZT HB hb; clear hb))
 go_ret
 exact ⟨ZE, ZB⟩))
 ·(
 replace c4 := Bool.eq_false_iff.mpr c4
 subst c4
 have H1 := H; rw [if_neg ZFT] at H1
 clear H
 have H := H1
 clear H1
 obtain rfl := Option.some.inj H
 go_enter Try.func24, Try.ntmps24
 go_wp2_with (first | ((with_reducible refine gate_dst (N := 2) rfl ?_); refine ZX (N := 2) (cs := #[.int .i64 a0_0, .int .i64 a0_1]) (t := 39) ?_; intro gb794 hg w25 hbox hb; have BK794 := AM (hbox); have GW794 : Za (w.heap.size ≤ gb794) := ZS hg; replace HB := ZT HB hb; clear hb hbox hg) | ((with_reducible refine gate_dst (N := 3) rfl ?_); refine ZX (N := 3) (cs := #[.int .i64 a1_0, .int .i64 a1_1]) (t := 39) ?_; intro gb795 hg w26 hbox hb; have BK795 := AM (hbox); have GW795 : Za (w.heap.size ≤ gb795) := ZS hg; have NB794_795 : Za (gb794 ≠ gb795) := ZN hg BK794; have NB795_794 : Za (gb795 ≠ gb794) := ZM hg BK794; replace BK794 := ZW BK794 hb; replace HB := ZT HB hb; clear hb hbox hg; have hnb27 := NB794_795.out; have hnc27 := NB795_794.out; have hcz28 := ZC2 w26 BK794; have hfz28 := ZF2 BK794) | ((with_reducible refine gate_callee (f := 46) rfl ?_); refine ZGL (some 6) Try.func46 #[.agg #[.int .i64 a0_0, .int .i64 a0_1]] ?_; (with_reducible refine (impl_LabelOk.calls a0_0 a0_1 false _ A3.out).mono ?_); rintro e w29 ⟨rfl, hb⟩; refine ⟨_, rfl, ?_⟩; replace BK794 := ZW BK794 hb; replace BK795 := ZW BK795 hb; replace HB := ZT HB hb; clear hb))
 go_ret
 exact ⟨ZE, ZB⟩)

end Go.Proofs.Ythidgkfgdkjghaa.A
