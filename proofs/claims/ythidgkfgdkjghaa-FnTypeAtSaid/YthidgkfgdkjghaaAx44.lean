/- By wip/tools/pr.py: Go functions as Lean functions, with contracts. -/
import Derived.Test.YthidgkfgdkjghaaAx0
import Derived.Test.YthidgkfgdkjghaaAx19
import Derived.Test.YthidgkfgdkjghaaAx20
import Derived.Test.YthidgkfgdkjghaaAx26
namespace Go.Proofs.Ythidgkfgdkjghaa.A
open Go.RowKit Go.Proofs.YthidgkfgdkjghaaW.PrintWords Go.Proofs.YthidgkfgdkjghaaW.PrintLast Go.Proofs.YthidgkfgdkjghaaW.PrintMore
attribute [local go_sem] max2_int min2_int max_two min_two max_three min_three max_four min_four
set_option linter.unusedVariables false
set_option linter.unusedSimpArgs false
set_option maxHeartbeats 8000000
set_option maxRecDepth 100000

/-! ### spec_DrawTypeAt: function 31 -/
def spec_DrawTypeAt.f (k : Nat) (l0 : List Int) : Option ((List (S39)) × (List (S32))) := (spec_l6Open.f l0).bind fun bt949 => ((spec_l71Any.f k bt949.1 bt949.2).bind fun bt952 => (some (bt952.1, bt952.2.1)))
theorem spec_DrawTypeAt.calls (k : Nat) (A0 : Option Addr) (c0 : Nat) (l0 : List Int) (r1 : List (S39)) (r2 : List (S32)) (w : World) (hr0 : Kd.C (Kd.int .u8) w A0 l0.length l0) (hc0 : l0.length ≤ c0) (h : spec_DrawTypeAt.f k l0 = some (r1, r2)) :
  Calls Try.prog 31 #[.slice A0 l0.length c0] w fun e w' => ∃ v0_ v1_ : Value, e = .returned (.agg #[v0_, v1_]) ∧ Kd.R k39 39 w' w.heap.size (fun k_ => (w.heap.size ≤ k_)) v0_ r1 ∧ Kd.N k32 32 w' w.heap.size (fun k_ => (w.heap.size ≤ k_) ∧ some k_ ≠ (v0_ : Value).ownBlock) v1_ r2 ∧ Below w.heap.size w w' := by
 have hu26 := Try.underlying26
 have HR0 := AM hr0
 have HC0 := AM hc0
 clear hr0 hc0
 have HB := AM (Below.refl w.heap.size w)
 have H := h
 unfold spec_DrawTypeAt.f at H
 clear h
 obtain ⟨⟨t949, t950⟩, A2, H⟩ := ZOB H; try dsimp only at H
 obtain ⟨⟨t952, t955, t958⟩, A3, H⟩ := ZOB H; try dsimp only at H
 simp only [Option.some.injEq, Prod.mk.injEq] at H
 obtain ⟨rfl, rfl⟩ := H
 go_enter Try.func31, Try.ntmps31
 go_wp2_with (first | ((with_reducible refine gate_dst (N := 2) rfl ?_); refine ZX (N := 2) (cs := #[.slice none 0 0, .slice none 0 0]) (t := 26) ?_; intro gb948 hg w4 hbox hb; have BK948 := AM (hbox); have GW948 : Za (w.heap.size ≤ gb948) := ZS hg; replace HB := ZT HB hb; clear hb hbox hg) | ((with_reducible refine gate_callee (f := 35) rfl ?_); refine ZGL (some 4) Try.func35 #[.slice A0 l0.length c0] ?_; (with_reducible refine (spec_l6Open.calls _ _ l0 t949 t950 w _ ?side1 ?side2 HC0.out A2.out).mono ?_); (case side1 => repeat (first | (with_reducible first | exact HB.out | apply below_alloc | apply pw_below_drewN | apply below_drew1 | refine below_set ?_ GW948.out) | exact HB.out)); (case side2 => exact HR0.out); rintro e w5 ⟨g951, rfl, hi, hb, hb2⟩; refine ⟨_, rfl, ?_⟩; have HI951 := AM (hi); have NB951_948 := AM (IsS64.ne_blk hi (blk_below (g := gb948) (o := .cells #[.slice none 0 0, .slice none 0 0] 26 (0, 0)) (ZK BK948.out) hb2) (by decide)); have NB948_951 := AM (Ne.symm (IsS64.ne_blk hi (blk_below (g := gb948) (o := .cells #[.slice none 0 0, .slice none 0 0] 26 (0, 0)) (ZK BK948.out) hb2) (by decide))); replace BK948 := AM (blk_below (g := gb948) (o := .cells #[.slice none 0 0, .slice none 0 0] 26 (0, 0)) (ZK BK948.out) hb2); replace HB := AM (hb); clear hb hb2 hi) | ((with_reducible refine gate_callee (f := 34) rfl ?_); refine ZGL (some 5) Try.func34 #[.pointer (some ⟨g951, 0, none⟩)] ?_; (with_reducible refine (spec_l71Any.calls k g951 t949 t950 t952 t955 t958 w _ ?side1 ?side2 A3.out).mono ?_); (case side1 => repeat (first | (with_reducible first | exact HI951.out | apply IsS64.alloc | apply IsS64.drewN | apply IsS64.drew | apply IsS64.set_1 | refine IsS64.far ?_ NB951_948.out _) | exact HI951.out)); (case side2 => repeat (first | (with_reducible first | exact HB.out | apply below_alloc | apply pw_below_drewN | apply below_drew1 | refine below_set ?_ (IsS64.ge HI951.out) | refine below_set ?_ GW948.out) | exact HB.out)); rintro e w6 ⟨v953, v956, rfl, ho0, ho1, hi, hb, hk⟩; refine ⟨_, rfl, ?_⟩; have HO954 := AM (Kd.R_lower (Kd.R_newM (M := fun k_ => (w.heap.size ≤ k_)) (Kd.R_mono (ok' := fun k_ => True) ho0 (fun _ hk_ => trivial)) (below_size (by repeat (first | (with_reducible first | exact HB.out | apply below_alloc | apply pw_below_drewN | apply below_drew1 | refine below_set ?_ (IsS64.ge HI951.out) | refine below_set ?_ GW948.out) | exact HB.out))) (fun k_ h_ => h_)) (below_size (by repeat (first | (with_reducible first | exact HB.out | apply below_alloc | apply pw_below_drewN | apply below_drew1 | refine below_set ?_ (IsS64.ge HI951.out) | refine below_set ?_ GW948.out) | exact HB.out)))); have HO957 := AM (Kd.N_lower (Kd.N_mono (ok' := fun k_ => (w.heap.size ≤ k_) ∧ some k_ ≠ (v953 : Value).ownBlock ∧ k_ ≠ gb948 ∧ k_ ≠ g951) ho1 (fun k_ hk_ => ⟨(Nat.le_trans (below_size (by repeat (first | (with_reducible first | exact HB.out | apply below_alloc | apply pw_below_drewN | apply below_drew1 | refine below_set ?_ (IsS64.ge HI951.out) | refine below_set ?_ GW948.out) | exact HB.out))) hk_.1), hk_.2, (Kd.freshB (g := gb948) (o := .cells #[.slice none 0 0, .slice none 0 0] 26 (0, 0)) (ZK BK948.out) k_ hk_.1), (IsS64.fresh (by repeat (first | (with_reducible first | exact HI951.out | apply IsS64.alloc | apply IsS64.drewN | apply IsS64.drew | apply IsS64.set_1 | refine IsS64.far ?_ NB951_948.out _) | exact HI951.out)) k_ hk_.1)⟩)) (below_size (by repeat (first | (with_reducible first | exact HB.out | apply below_alloc | apply pw_below_drewN | apply below_drew1 | refine below_set ?_ (IsS64.ge HI951.out) | refine below_set ?_ GW948.out) | exact HB.out)))); replace BK948 := ZL hk BK948 NB948_951; replace HB := AM (hb); replace HI951 := AM (hi); clear hb hk hi; (try clear ho0); (try clear ho1); obtain ⟨Ao7, co7, eo7⟩ := Kd.R_slice HO954.out; subst eo7; have hnb8 := NB948_951.out; have hnc8 := NB951_948.out; have hcz9 := ZC2 w6 BK948; have hfz9 := ZF2 BK948; obtain ⟨Ao10, co10, eo10⟩ := Kd.N_slice HO957.out; subst eo10))
 refine bodyPost_ret (results_cell_row rfl _ _ gb948 26 #[.slice Ao7 t952.length co7, .slice Ao10 t955.length co10] (0, 0) _ rfl (ZZ BK948.out) Try.underlying26 rfl (by kernel_rfl)) rfl ?_
 exact ⟨_, _, ZE, by (with_reducible repeat (first | apply Kd.R_alloc | apply Kd.R_drewN | apply Kd.R_drew)); exact Kd.R_mono (Kd.R_far (p := ⟨gb948, 1, none⟩) (Kd.R_far (p := ⟨gb948, 0, none⟩) (Kd.R_types HO954.out BK948.out (by decide)) (fun _ hk => hk.2) (.slice Ao7 t952.length co7)) (fun _ hk => hk.2) (.slice Ao10 t955.length co10)) (fun _ hk => hk.1.1), by (with_reducible repeat (first | apply Kd.N_alloc | apply Kd.N_drewN | apply Kd.N_drew)); exact Kd.N_mono (Kd.N_far (p := ⟨gb948, 1, none⟩) (Kd.N_far (p := ⟨gb948, 0, none⟩) (Kd.N_mono HO957.out (fun k_ hk => (⟨hk, hk.2.2.1⟩ : _ ∧ k_ ≠ gb948))) (fun _ hk => hk.2) (.slice Ao7 t952.length co7)) (fun _ hk => hk.2) (.slice Ao10 t955.length co10)) (fun _ hk => ⟨hk.1.1, hk.1.2.1⟩), by repeat (first | (with_reducible first | exact HB.out | apply below_alloc | apply pw_below_drewN | apply below_drew1 | refine below_set ?_ (IsS64.ge HI951.out) | refine below_set ?_ GW948.out) | exact HB.out)⟩

/-! ### impl_TypeAt: function 32 -/
def impl_TypeAt.f (k : Nat) (l0_0 : List (S39)) (l0_1 : List (S32)) : Option ((List (S39))) := (impl_ProgOk.f k l0_0 l0_1).bind fun t960 => (if t960 = true then ((impl_Prog_at.f k l0_0 l0_1).bind fun t961 => (some t961)) else (some ([] : List (S39))))
theorem impl_TypeAt.calls (k : Nat) (A0_0 : Option Addr) (c0_0 : Nat) (l0_0 : List (S39)) (A0_1 : Option Addr) (c0_1 : Nat) (l0_1 : List (S32)) (r : List (S39)) (w : World) (hr0_0 : Kd.C k39 w A0_0 l0_0.length l0_0) (hc0_0 : l0_0.length ≤ c0_0) (hr0_1 : Kd.C k32 w A0_1 l0_1.length l0_1) (hc0_1 : l0_1.length ≤ c0_1) (h : impl_TypeAt.f k l0_0 l0_1 = some r) :
  Calls Try.prog 32 #[.agg #[.slice A0_0 l0_0.length c0_0, .slice A0_1 l0_1.length c0_1]] w fun e w' => ∃ v0_ : Value, e = .returned (v0_) ∧ Kd.R k39 39 w' w.heap.size (fun _ => True) v0_ r ∧ Below w.heap.size w w' := by
 have hu26 := Try.underlying26
 have HR0_0 := AM hr0_0
 have HC0_0 := AM hc0_0
 clear hr0_0 hc0_0
 have HR0_1 := AM hr0_1
 have HC0_1 := AM hc0_1
 clear hr0_1 hc0_1
 have HB := AM (Below.refl w.heap.size w)
 have H := h
 unfold impl_TypeAt.f at H
 clear h
 obtain ⟨t960, A2, H⟩ := ZOB H; try dsimp only at H
 by_cases c3 : t960 = true
 ·(
 subst c3
 have H1 := H; rw [if_pos rfl] at H1
 clear H
 have H := H1
 clear H1
 obtain ⟨t961, A4, H⟩ := ZOB H; try dsimp only at H
 obtain rfl := Option.some.inj H
 go_enter Try.func32, Try.ntmps32
 go_wp2_with (first | ((with_reducible refine gate_dst (N := 1) rfl ?_); refine ZX (N := 1) (cs := #[.slice A0_0 l0_0.length c0_0, .slice A0_1 l0_1.length c0_1]) (t := 26) ?_; intro gb959 hg w5 hbox hb; have BK959 := AM (hbox); have GW959 : Za (w.heap.size ≤ gb959) := ZS hg; replace HB := ZT HB hb; clear hb hbox hg; have hcz6 := ZC2 w5 BK959; have hfz6 := ZF2 BK959) | ((with_reducible refine gate_callee (f := 36) rfl ?_); refine ZGL (some 4) Try.func36 #[.agg #[.slice A0_0 l0_0.length c0_0, .slice A0_1 l0_1.length c0_1]] ?_; (with_reducible refine (impl_ProgOk.calls k _ _ l0_0 _ _ l0_1 true _ (ZQ (Kd.C_below HR0_0.out HB.out)) HC0_0.out (ZQ (Kd.C_below HR0_1.out HB.out)) HC0_1.out A2.out).mono ?_); rintro e w7 ⟨rfl, hb⟩; refine ⟨_, rfl, ?_⟩; replace BK959 := ZW BK959 hb; replace HB := ZT HB hb; clear hb; have hcz8 := ZC2 w7 BK959; have hfz8 := ZF2 BK959) | ((with_reducible refine gate_callee (f := 52) rfl ?_); refine ZGL (some 7) Try.func52 #[.agg #[.slice A0_0 l0_0.length c0_0, .slice A0_1 l0_1.length c0_1]] ?_; (with_reducible refine (impl_Prog_at.calls k _ _ l0_0 _ _ l0_1 t961 _ (ZQ (Kd.C_below HR0_0.out HB.out)) HC0_0.out (ZQ (Kd.C_below HR0_1.out HB.out)) HC0_1.out A4.out).mono ?_); rintro e w9 ⟨v962, rfl, ho0, hb⟩; refine ⟨_, rfl, ?_⟩; have HO963 := AM (Kd.R_lower ho0 (below_size (ZB))); replace BK959 := ZW BK959 hb; replace HB := ZT HB hb; clear hb; (try clear ho0)))
 go_ret
 exact ⟨_, ZE, by (with_reducible repeat (first | apply Kd.R_alloc | apply Kd.R_drewN | apply Kd.R_drew)); exact HO963.out, ZB⟩)
 ·(
 replace c3 := Bool.eq_false_iff.mpr c3
 subst c3
 have H1 := H; rw [if_neg ZFT] at H1
 clear H
 have H := H1
 clear H1
 obtain rfl := Option.some.inj H
 go_enter Try.func32, Try.ntmps32
 go_wp2_with (first | ((with_reducible refine gate_dst (N := 1) rfl ?_); refine ZX (N := 1) (cs := #[.slice A0_0 l0_0.length c0_0, .slice A0_1 l0_1.length c0_1]) (t := 26) ?_; intro gb959 hg w10 hbox hb; have BK959 := AM (hbox); have GW959 : Za (w.heap.size ≤ gb959) := ZS hg; replace HB := ZT HB hb; clear hb hbox hg; have hcz11 := ZC2 w10 BK959; have hfz11 := ZF2 BK959) | ((with_reducible refine gate_callee (f := 36) rfl ?_); refine ZGL (some 4) Try.func36 #[.agg #[.slice A0_0 l0_0.length c0_0, .slice A0_1 l0_1.length c0_1]] ?_; (with_reducible refine (impl_ProgOk.calls k _ _ l0_0 _ _ l0_1 false _ (ZQ (Kd.C_below HR0_0.out HB.out)) HC0_0.out (ZQ (Kd.C_below HR0_1.out HB.out)) HC0_1.out A2.out).mono ?_); rintro e w12 ⟨rfl, hb⟩; refine ⟨_, rfl, ?_⟩; replace BK959 := ZW BK959 hb; replace HB := ZT HB hb; clear hb))
 go_ret
 exact ⟨_, ZE, by first | exact Kd.R_nil _ _ _ _ _ | exact Kd.N_nil _ _ _ _ _ | exact Kd.V_nil _ _ _ _ _ | exact Kd.Q_nil _ _ _ _ _ | exact Kd.S_nil _ _ _ _ _, ZB⟩)

end Go.Proofs.Ythidgkfgdkjghaa.A
