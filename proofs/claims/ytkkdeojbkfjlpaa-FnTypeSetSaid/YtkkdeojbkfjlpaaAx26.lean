/- By wip/tools/pr.py: Go functions as Lean functions, with contracts. -/
import Derived.Test.YtkkdeojbkfjlpaaAx0
import Derived.Test.YtkkdeojbkfjlpaaAx4
import Derived.Test.YtkkdeojbkfjlpaaAx14
namespace Go.Proofs.Ytkkdeojbkfjlpaa.A
open Go.RowKit Go.Proofs.YtkkdeojbkfjlpaaW.PrintWords Go.Proofs.YtkkdeojbkfjlpaaW.PrintLast Go.Proofs.YtkkdeojbkfjlpaaW.PrintMore
attribute [local go_sem] max2_int min2_int max_two min_two max_three min_three max_four min_four
set_option linter.unusedVariables false
set_option linter.unusedSimpArgs false
set_option maxHeartbeats 8000000
set_option maxRecDepth 100000

/-! ### spec_TypeOk: function 11 -/
def spec_TypeOk.f (k : Nat) (l0_0 : List (S35)) (l0_1 : List (S40)) : Option (Bool) := (spec_TypeWhy.f k l0_0 l0_1).bind fun bt622 => ((spec_ProgOk.f k l0_0 l0_1).bind fun t624 => (if t624 = true then (some (!bt622.2)) else (some false)))
theorem spec_TypeOk.calls (k : Nat) (A0_0 : Option Addr) (c0_0 : Nat) (l0_0 : List (S35)) (A0_1 : Option Addr) (c0_1 : Nat) (l0_1 : List (S40)) (r : Bool) (w : World) (hr0_0 : Kd.C k35 w A0_0 l0_0.length l0_0) (hc0_0 : l0_0.length ≤ c0_0) (hr0_1 : Kd.C k40 w A0_1 l0_1.length l0_1) (hc0_1 : l0_1.length ≤ c0_1) (h : spec_TypeOk.f k l0_0 l0_1 = some r) :
  Calls Try.prog 11 #[.agg #[.slice A0_0 l0_0.length c0_0, .slice A0_1 l0_1.length c0_1]] w fun e w' => e = .returned (.bool r) ∧ Below w.heap.size w w' := by
 have hu26 := Try.underlying26
 have HR0_0 := AM hr0_0
 have HC0_0 := AM hc0_0
 clear hr0_0 hc0_0
 have HR0_1 := AM hr0_1
 have HC0_1 := AM hc0_1
 clear hr0_1 hc0_1
 have HB := AM (Below.refl w.heap.size w)
 have H := h
 unfold spec_TypeOk.f at H
 clear h
 obtain ⟨⟨t622, t623⟩, A2, H⟩ := ZOB H; try dsimp only at H
 obtain ⟨t624, A3, H⟩ := ZOB H; try dsimp only at H
 by_cases c4 : t624 = true
 ·(
 subst c4
 have H1 := H; rw [if_pos rfl] at H1
 clear H
 have H := H1
 clear H1
 obtain rfl := Option.some.inj H
 go_enter Try.func11, Try.ntmps11
 go_wp2_with (first | ((with_reducible refine gate_dst (N := 1) rfl ?_); refine ZX (N := 1) (cs := #[.slice A0_0 l0_0.length c0_0, .slice A0_1 l0_1.length c0_1]) (t := 26) ?_; intro gb621 hg w5 hbox hb; have BK621 := AM (hbox); have GW621 : Za (w.heap.size ≤ gb621) := ZS hg; have GE621 : Za (w.heap.size ≤ gb621) := ZS hg; replace HB := ZT HB hb; clear hb hbox hg; have hcz6 := ZC2 w5 BK621; have hfz6 := ZF2 BK621) | ((with_reducible refine gate_callee (f := 30) rfl ?_); refine ZGL (some 7) Try.func30 #[.agg #[.slice A0_0 l0_0.length c0_0, .slice A0_1 l0_1.length c0_1]] ?_; (with_reducible refine (spec_TypeWhy.calls k _ _ l0_0 _ _ l0_1 t622 t623 _ (ZQ (Kd.C_below HR0_0.out HB.out)) HC0_0.out (ZQ (Kd.C_below HR0_1.out HB.out)) HC0_1.out A2.out).mono ?_); rintro e w7 ⟨rfl, hb⟩; refine ⟨_, rfl, ?_⟩; replace BK621 := ZW BK621 hb; replace HB := ZT HB hb; clear hb; have hcz8 := ZC2 w7 BK621; have hfz8 := ZF2 BK621) | ((with_reducible refine gate_callee (f := 16) rfl ?_); refine ZGL (some 11) Try.func16 #[.agg #[.slice A0_0 l0_0.length c0_0, .slice A0_1 l0_1.length c0_1]] ?_; (with_reducible refine (spec_ProgOk.calls k _ _ l0_0 _ _ l0_1 true _ (ZQ (Kd.C_below HR0_0.out HB.out)) HC0_0.out (ZQ (Kd.C_below HR0_1.out HB.out)) HC0_1.out A3.out).mono ?_); rintro e w9 ⟨rfl, hb⟩; refine ⟨_, rfl, ?_⟩; replace BK621 := ZW BK621 hb; replace HB := ZT HB hb; clear hb))
 go_ret
 exact ⟨ZE, ZB⟩)
 ·(
 replace c4 := Bool.eq_false_iff.mpr c4
 subst c4
 have H1 := H; rw [if_neg ZFT] at H1
 clear H
 have H := H1
 clear H1
 obtain rfl := Option.some.inj H
 go_enter Try.func11, Try.ntmps11
 go_wp2_with (first | ((with_reducible refine gate_dst (N := 1) rfl ?_); refine ZX (N := 1) (cs := #[.slice A0_0 l0_0.length c0_0, .slice A0_1 l0_1.length c0_1]) (t := 26) ?_; intro gb621 hg w10 hbox hb; have BK621 := AM (hbox); have GW621 : Za (w.heap.size ≤ gb621) := ZS hg; have GE621 : Za (w.heap.size ≤ gb621) := ZS hg; replace HB := ZT HB hb; clear hb hbox hg; have hcz11 := ZC2 w10 BK621; have hfz11 := ZF2 BK621) | ((with_reducible refine gate_callee (f := 30) rfl ?_); refine ZGL (some 7) Try.func30 #[.agg #[.slice A0_0 l0_0.length c0_0, .slice A0_1 l0_1.length c0_1]] ?_; (with_reducible refine (spec_TypeWhy.calls k _ _ l0_0 _ _ l0_1 t622 t623 _ (ZQ (Kd.C_below HR0_0.out HB.out)) HC0_0.out (ZQ (Kd.C_below HR0_1.out HB.out)) HC0_1.out A2.out).mono ?_); rintro e w12 ⟨rfl, hb⟩; refine ⟨_, rfl, ?_⟩; replace BK621 := ZW BK621 hb; replace HB := ZT HB hb; clear hb; have hcz13 := ZC2 w12 BK621; have hfz13 := ZF2 BK621) | ((with_reducible refine gate_callee (f := 16) rfl ?_); refine ZGL (some 11) Try.func16 #[.agg #[.slice A0_0 l0_0.length c0_0, .slice A0_1 l0_1.length c0_1]] ?_; (with_reducible refine (spec_ProgOk.calls k _ _ l0_0 _ _ l0_1 false _ (ZQ (Kd.C_below HR0_0.out HB.out)) HC0_0.out (ZQ (Kd.C_below HR0_1.out HB.out)) HC0_1.out A3.out).mono ?_); rintro e w14 ⟨rfl, hb⟩; refine ⟨_, rfl, ?_⟩; replace BK621 := ZW BK621 hb; replace HB := ZT HB hb; clear hb))
 go_ret
 exact ⟨ZE, ZB⟩)

/-! ### impl_Label_both: function 76 -/
def impl_Label_both.f (a0_0 : Int) (a0_1 : Int) (a1_0 : Int) (a1_1 : Int) : Option (Int × Int) := some (Go.bits .and .i64 a0_0 a1_0, Go.bits .and .i64 a0_1 a1_1)
theorem impl_Label_both.calls (a0_0 : Int) (a0_1 : Int) (a1_0 : Int) (a1_1 : Int) (r1 : Int) (r2 : Int) (w : World) (h : impl_Label_both.f a0_0 a0_1 a1_0 a1_1 = some (r1, r2)) :
  Calls Try.prog 76 #[.agg #[.int .i64 a0_0, .int .i64 a0_1], .agg #[.int .i64 a1_0, .int .i64 a1_1]] w fun e w' => e = .returned (.agg #[.int .i64 r1, .int .i64 r2]) ∧ Below w.heap.size w w' := by
 have hu35 := Try.underlying35
 have HB := AM (Below.refl w.heap.size w)
 have H := h
 unfold impl_Label_both.f at H
 clear h
 simp only [Option.some.injEq, Prod.mk.injEq] at H
 obtain ⟨rfl, rfl⟩ := H
 go_enter Try.func76, Try.ntmps76
 go_wp2_with (first | ((with_reducible refine gate_dst (N := 2) rfl ?_); refine ZX (N := 2) (cs := #[.int .i64 a0_0, .int .i64 a0_1]) (t := 35) ?_; intro gb625 hg w3 hbox hb; have BK625 := AM (hbox); have GW625 : Za (w.heap.size ≤ gb625) := ZS hg; have GE625 : Za (w.heap.size ≤ gb625) := ZS hg; replace HB := ZT HB hb; clear hb hbox hg) | ((with_reducible refine gate_dst (N := 3) rfl ?_); refine ZX (N := 3) (cs := #[.int .i64 a1_0, .int .i64 a1_1]) (t := 35) ?_; intro gb626 hg w4 hbox hb; have BK626 := AM (hbox); have GW626 : Za (w.heap.size ≤ gb626) := ZS hg; have GE626 : Za (w.heap.size ≤ gb626) := ZS hg; have NB625_626 : Za (gb625 ≠ gb626) := ZN hg BK625; have NB626_625 : Za (gb626 ≠ gb625) := ZM hg BK625; replace BK625 := ZW BK625 hb; replace HB := ZT HB hb; clear hb hbox hg) | ((with_reducible refine gate_dst (N := 4) rfl ?_); refine ZX (N := 4) (cs := #[.int .i64 0, .int .i64 0]) (t := 35) ?_; intro gb627 hg w5 hbox hb; have BK627 := AM (hbox); have GW627 : Za (w.heap.size ≤ gb627) := ZS hg; have GE627 : Za (w.heap.size ≤ gb627) := ZS hg; have NB625_627 : Za (gb625 ≠ gb627) := ZN hg BK625; have NB627_625 : Za (gb627 ≠ gb625) := ZM hg BK625; have NB626_627 : Za (gb626 ≠ gb627) := ZN hg BK626; have NB627_626 : Za (gb627 ≠ gb626) := ZM hg BK626; replace BK625 := ZW BK625 hb; replace BK626 := ZW BK626 hb; replace HB := ZT HB hb; clear hb hbox hg; have hnb6 := NB625_626.out; have hnc6 := NB626_625.out; have hnb7 := NB625_627.out; have hnc7 := NB627_625.out; have hcz8 := ZC2 w5 BK625; have hfz8 := ZF2 BK625; have hnb9 := NB626_627.out; have hnc9 := NB627_626.out; have hcz10 := ZC2 w5 BK626; have hfz10 := ZF2 BK626; have hcz11 := ZC2 w5 BK627; have hfz11 := ZF2 BK627))
 refine bodyPost_ret (results_cell_row rfl _ _ gb627 35 #[.int .i64 (Go.bits .and .i64 a0_0 a1_0), .int .i64 (Go.bits .and .i64 a0_1 a1_1)] (0, 0) _ rfl (ZZ BK627.out) Try.underlying35 rfl (by kernel_rfl)) rfl ?_
 exact ⟨ZE, ZB⟩

end Go.Proofs.Ytkkdeojbkfjlpaa.A
