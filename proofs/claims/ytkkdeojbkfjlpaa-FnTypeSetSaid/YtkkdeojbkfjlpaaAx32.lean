/- By wip/tools/pr.py: Go functions as Lean functions, with contracts. -/
import Derived.Test.YtkkdeojbkfjlpaaAx0
import Derived.Test.YtkkdeojbkfjlpaaAx19
import Derived.Test.YtkkdeojbkfjlpaaAx22
import Derived.Test.YtkkdeojbkfjlpaaAx30
import Derived.Test.YtkkdeojbkfjlpaaAx31
namespace Go.Proofs.Ytkkdeojbkfjlpaa.A
open Go.RowKit Go.Proofs.YtkkdeojbkfjlpaaW.PrintWords Go.Proofs.YtkkdeojbkfjlpaaW.PrintLast Go.Proofs.YtkkdeojbkfjlpaaW.PrintMore
attribute [local go_sem] max2_int min2_int max_two min_two max_three min_three max_four min_four
set_option linter.unusedVariables false
set_option linter.unusedSimpArgs false
set_option maxHeartbeats 8000000
set_option maxRecDepth 100000

/-! ### impl_TypeOk: function 15 -/
def impl_TypeOk.f (k : Nat) (l0_0 : List (S35)) (l0_1 : List (S40)) : Option (Bool) := (impl_ProgOk.f k l0_0 l0_1).bind fun t739 => (if t739 = true then ((impl_Prog_why.f k l0_0 l0_1).bind fun bt740 => (some (!bt740.2))) else (some false))
theorem impl_TypeOk.calls (k : Nat) (A0_0 : Option Addr) (c0_0 : Nat) (l0_0 : List (S35)) (A0_1 : Option Addr) (c0_1 : Nat) (l0_1 : List (S40)) (r : Bool) (w : World) (hr0_0 : Kd.C k35 w A0_0 l0_0.length l0_0) (hc0_0 : l0_0.length ≤ c0_0) (hr0_1 : Kd.C k40 w A0_1 l0_1.length l0_1) (hc0_1 : l0_1.length ≤ c0_1) (h : impl_TypeOk.f k l0_0 l0_1 = some r) :
  Calls Try.prog 15 #[.agg #[.slice A0_0 l0_0.length c0_0, .slice A0_1 l0_1.length c0_1]] w fun e w' => e = .returned (.bool r) ∧ Below w.heap.size w w' := by
 have hu26 := Try.underlying26
 have HR0_0 := AM hr0_0
 have HC0_0 := AM hc0_0
 clear hr0_0 hc0_0
 have HR0_1 := AM hr0_1
 have HC0_1 := AM hc0_1
 clear hr0_1 hc0_1
 have HB := AM (Below.refl w.heap.size w)
 have H := h
 unfold impl_TypeOk.f at H
 clear h
 obtain ⟨t739, A2, H⟩ := ZOB H; try dsimp only at H
 by_cases c3 : t739 = true
 ·(
 subst c3
 have H1 := H; rw [if_pos rfl] at H1
 clear H
 have H := H1
 clear H1
 obtain ⟨⟨t740, t741⟩, A4, H⟩ := ZOB H; try dsimp only at H
 obtain rfl := Option.some.inj H
 go_enter Try.func15, Try.ntmps15
 go_wp2_with (first | ((with_reducible refine gate_dst (N := 1) rfl ?_); refine ZX (N := 1) (cs := #[.slice A0_0 l0_0.length c0_0, .slice A0_1 l0_1.length c0_1]) (t := 26) ?_; intro gb738 hg w5 hbox hb; have BK738 := AM (hbox); have GW738 : Za (w.heap.size ≤ gb738) := ZS hg; have GE738 : Za (w.heap.size ≤ gb738) := ZS hg; replace HB := ZT HB hb; clear hb hbox hg; have hcz6 := ZC2 w5 BK738; have hfz6 := ZF2 BK738) | ((with_reducible refine gate_callee (f := 25) rfl ?_); refine ZGL (some 6) Try.func25 #[.agg #[.slice A0_0 l0_0.length c0_0, .slice A0_1 l0_1.length c0_1]] ?_; (with_reducible refine (impl_ProgOk.calls k _ _ l0_0 _ _ l0_1 true _ (ZQ (Kd.C_below HR0_0.out HB.out)) HC0_0.out (ZQ (Kd.C_below HR0_1.out HB.out)) HC0_1.out A2.out).mono ?_); rintro e w7 ⟨rfl, hb⟩; refine ⟨_, rfl, ?_⟩; replace BK738 := ZW BK738 hb; replace HB := ZT HB hb; clear hb; have hcz8 := ZC2 w7 BK738; have hfz8 := ZF2 BK738) | ((with_reducible refine gate_callee (f := 32) rfl ?_); refine ZGL (some 10) Try.func32 #[.agg #[.slice A0_0 l0_0.length c0_0, .slice A0_1 l0_1.length c0_1]] ?_; (with_reducible refine (impl_Prog_why.calls k _ _ l0_0 _ _ l0_1 t740 t741 _ (ZQ (Kd.C_below HR0_0.out HB.out)) HC0_0.out (ZQ (Kd.C_below HR0_1.out HB.out)) HC0_1.out A4.out).mono ?_); rintro e w9 ⟨rfl, hb⟩; refine ⟨_, rfl, ?_⟩; replace BK738 := ZW BK738 hb; replace HB := ZT HB hb; clear hb))
 go_ret
 exact ⟨ZE, ZB⟩)
 ·(
 replace c3 := Bool.eq_false_iff.mpr c3
 subst c3
 have H1 := H; rw [if_neg ZFT] at H1
 clear H
 have H := H1
 clear H1
 obtain rfl := Option.some.inj H
 go_enter Try.func15, Try.ntmps15
 go_wp2_with (first | ((with_reducible refine gate_dst (N := 1) rfl ?_); refine ZX (N := 1) (cs := #[.slice A0_0 l0_0.length c0_0, .slice A0_1 l0_1.length c0_1]) (t := 26) ?_; intro gb738 hg w10 hbox hb; have BK738 := AM (hbox); have GW738 : Za (w.heap.size ≤ gb738) := ZS hg; have GE738 : Za (w.heap.size ≤ gb738) := ZS hg; replace HB := ZT HB hb; clear hb hbox hg; have hcz11 := ZC2 w10 BK738; have hfz11 := ZF2 BK738) | ((with_reducible refine gate_callee (f := 25) rfl ?_); refine ZGL (some 6) Try.func25 #[.agg #[.slice A0_0 l0_0.length c0_0, .slice A0_1 l0_1.length c0_1]] ?_; (with_reducible refine (impl_ProgOk.calls k _ _ l0_0 _ _ l0_1 false _ (ZQ (Kd.C_below HR0_0.out HB.out)) HC0_0.out (ZQ (Kd.C_below HR0_1.out HB.out)) HC0_1.out A2.out).mono ?_); rintro e w12 ⟨rfl, hb⟩; refine ⟨_, rfl, ?_⟩; replace BK738 := ZW BK738 hb; replace HB := ZT HB hb; clear hb))
 go_ret
 exact ⟨ZE, ZB⟩)

/-! ### impl_LabelFlows: function 17 -/
def impl_LabelFlows.f (a0_0 : Int) (a0_1 : Int) (a1_0 : Int) (a1_1 : Int) : Option (Bool) := (impl_LabelOk.f a0_0 a0_1).bind fun t744 => (if t744 = true then ((impl_LabelOk.f a1_0 a1_1).bind fun t745 => (if t745 = true then ((impl_Label_flows.f a0_0 a0_1 a1_0 a1_1).bind fun t746 => (some t746)) else (some false))) else (some false))
theorem impl_LabelFlows.calls (a0_0 : Int) (a0_1 : Int) (a1_0 : Int) (a1_1 : Int) (r : Bool) (w : World) (h : impl_LabelFlows.f a0_0 a0_1 a1_0 a1_1 = some r) :
  Calls Try.prog 17 #[.agg #[.int .i64 a0_0, .int .i64 a0_1], .agg #[.int .i64 a1_0, .int .i64 a1_1]] w fun e w' => e = .returned (.bool r) ∧ Below w.heap.size w w' := by
 have hu35 := Try.underlying35
 have HB := AM (Below.refl w.heap.size w)
 have H := h
 unfold impl_LabelFlows.f at H
 clear h
 obtain ⟨t744, A3, H⟩ := ZOB H; try dsimp only at H
 by_cases c4 : t744 = true
 ·(
 subst c4
 have H1 := H; rw [if_pos rfl] at H1
 clear H
 have H := H1
 clear H1
 obtain ⟨t745, A5, H⟩ := ZOB H; try dsimp only at H
 by_cases c6 : t745 = true
 ·(
 subst c6
 have H1 := H; rw [if_pos rfl] at H1
 clear H
 have H := H1
 clear H1
 obtain ⟨t746, A7, H⟩ := ZOB H; try dsimp only at H
 obtain rfl := Option.some.inj H
 go_enter Try.func17, Try.ntmps17
 go_wp2_with (first | ((with_reducible refine gate_dst (N := 2) rfl ?_); refine ZX (N := 2) (cs := #[.int .i64 a0_0, .int .i64 a0_1]) (t := 35) ?_; intro gb742 hg w8 hbox hb; have BK742 := AM (hbox); have GW742 : Za (w.heap.size ≤ gb742) := ZS hg; have GE742 : Za (w.heap.size ≤ gb742) := ZS hg; replace HB := ZT HB hb; clear hb hbox hg) | ((with_reducible refine gate_dst (N := 3) rfl ?_); refine ZX (N := 3) (cs := #[.int .i64 a1_0, .int .i64 a1_1]) (t := 35) ?_; intro gb743 hg w9 hbox hb; have BK743 := AM (hbox); have GW743 : Za (w.heap.size ≤ gb743) := ZS hg; have GE743 : Za (w.heap.size ≤ gb743) := ZS hg; have NB742_743 : Za (gb742 ≠ gb743) := ZN hg BK742; have NB743_742 : Za (gb743 ≠ gb742) := ZM hg BK742; replace BK742 := ZW BK742 hb; replace HB := ZT HB hb; clear hb hbox hg; have hnb10 := NB742_743.out; have hnc10 := NB743_742.out; have hcz11 := ZC2 w9 BK742; have hfz11 := ZF2 BK742) | ((with_reducible refine gate_callee (f := 36) rfl ?_); refine ZGL (some 6) Try.func36 #[.agg #[.int .i64 a0_0, .int .i64 a0_1]] ?_; (with_reducible refine (impl_LabelOk.calls a0_0 a0_1 true _ A3.out).mono ?_); rintro e w12 ⟨rfl, hb⟩; refine ⟨_, rfl, ?_⟩; replace BK742 := ZW BK742 hb; replace BK743 := ZW BK743 hb; replace HB := ZT HB hb; clear hb; have hcz13 := ZC2 w12 BK743; have hfz13 := ZF2 BK743) | (go_at_call 36; (with_reducible refine (impl_LabelOk.calls a1_0 a1_1 true _ A5.out).mono ?_); rintro e w14 ⟨rfl, hb⟩; replace BK742 := ZW BK742 hb; replace BK743 := ZW BK743 hb; replace HB := ZT HB hb; clear hb; have hcz15 := ZC2 w14 BK742; have hfz15 := ZF2 BK742; have hcz16 := ZC2 w14 BK743; have hfz16 := ZF2 BK743) | (go_at_call 37; (with_reducible refine (impl_Label_flows.calls a0_0 a0_1 a1_0 a1_1 t746 _ A7.out).mono ?_); rintro e w17 ⟨rfl, hb⟩; replace BK742 := ZW BK742 hb; replace BK743 := ZW BK743 hb; replace HB := ZT HB hb; clear hb))
 go_ret
 exact ⟨ZE, ZB⟩)
 ·(
 replace c6 := Bool.eq_false_iff.mpr c6
 subst c6
 have H1 := H; rw [if_neg ZFT] at H1
 clear H
 have H := H1
 clear H1
 obtain rfl := Option.some.inj H
 go_enter Try.func17, Try.ntmps17
 go_wp2_with (first | ((with_reducible refine gate_dst (N := 2) rfl ?_); refine ZX (N := 2) (cs := #[.int .i64 a0_0, .int .i64 a0_1]) (t := 35) ?_; intro gb742 hg w18 hbox hb; have BK742 := AM (hbox); have GW742 : Za (w.heap.size ≤ gb742) := ZS hg; have GE742 : Za (w.heap.size ≤ gb742) := ZS hg; replace HB := ZT HB hb; clear hb hbox hg) | ((with_reducible refine gate_dst (N := 3) rfl ?_); refine ZX (N := 3) (cs := #[.int .i64 a1_0, .int .i64 a1_1]) (t := 35) ?_; intro gb743 hg w19 hbox hb; have BK743 := AM (hbox); have GW743 : Za (w.heap.size ≤ gb743) := ZS hg; have GE743 : Za (w.heap.size ≤ gb743) := ZS hg; have NB742_743 : Za (gb742 ≠ gb743) := ZN hg BK742; have NB743_742 : Za (gb743 ≠ gb742) := ZM hg BK742; replace BK742 := ZW BK742 hb; replace HB := ZT HB hb; clear hb hbox hg; have hnb20 := NB742_743.out; have hnc20 := NB743_742.out; have hcz21 := ZC2 w19 BK742; have hfz21 := ZF2 BK742) | ((with_reducible refine gate_callee (f := 36) rfl ?_); refine ZGL (some 6) Try.func36 #[.agg #[.int .i64 a0_0, .int .i64 a0_1]] ?_; (with_reducible refine (impl_LabelOk.calls a0_0 a0_1 true _ A3.out).mono ?_); rintro e w22 ⟨rfl, hb⟩; refine ⟨_, rfl, ?_⟩; replace BK742 := ZW BK742 hb; replace BK743 := ZW BK743 hb; replace HB := ZT HB hb; clear hb; have hcz23 := ZC2 w22 BK743; have hfz23 := ZF2 BK743) | (go_at_call 36; (with_reducible refine (impl_LabelOk.calls a1_0 a1_1 false _ A5.out).mono ?_); rintro e w24 ⟨rfl, hb⟩; replace BK742 := ZW BK742 hb; replace BK743 := ZW BK743 hb; replace HB := ZT HB hb; clear hb))
 go_ret
 exact ⟨ZE, ZB⟩))
 ·(
 replace c4 := Bool.eq_false_iff.mpr c4
 subst c4
 have H1 := H; rw [if_neg ZFT] at H1
 clear H
 have H := H1
 clear H1
 obtain rfl := Option.some.inj H
 go_enter Try.func17, Try.ntmps17
 go_wp2_with (first | ((with_reducible refine gate_dst (N := 2) rfl ?_); refine ZX (N := 2) (cs := #[.int .i64 a0_0, .int .i64 a0_1]) (t := 35) ?_; intro gb742 hg w25 hbox hb; have BK742 := AM (hbox); have GW742 : Za (w.heap.size ≤ gb742) := ZS hg; have GE742 : Za (w.heap.size ≤ gb742) := ZS hg; replace HB := ZT HB hb; clear hb hbox hg) | ((with_reducible refine gate_dst (N := 3) rfl ?_); refine ZX (N := 3) (cs := #[.int .i64 a1_0, .int .i64 a1_1]) (t := 35) ?_; intro gb743 hg w26 hbox hb; have BK743 := AM (hbox); have GW743 : Za (w.heap.size ≤ gb743) := ZS hg; have GE743 : Za (w.heap.size ≤ gb743) := ZS hg; have NB742_743 : Za (gb742 ≠ gb743) := ZN hg BK742; have NB743_742 : Za (gb743 ≠ gb742) := ZM hg BK742; replace BK742 := ZW BK742 hb; replace HB := ZT HB hb; clear hb hbox hg; have hnb27 := NB742_743.out; have hnc27 := NB743_742.out; have hcz28 := ZC2 w26 BK742; have hfz28 := ZF2 BK742) | ((with_reducible refine gate_callee (f := 36) rfl ?_); refine ZGL (some 6) Try.func36 #[.agg #[.int .i64 a0_0, .int .i64 a0_1]] ?_; (with_reducible refine (impl_LabelOk.calls a0_0 a0_1 false _ A3.out).mono ?_); rintro e w29 ⟨rfl, hb⟩; refine ⟨_, rfl, ?_⟩; replace BK742 := ZW BK742 hb; replace BK743 := ZW BK743 hb; replace HB := ZT HB hb; clear hb))
 go_ret
 exact ⟨ZE, ZB⟩)

end Go.Proofs.Ytkkdeojbkfjlpaa.A
