/- Go functions as Lean functions, and for each its contract; written by wip/tools/pr.py over the kit's print. -/
import Derived.Test.YthidgkfgdkjghaaAx0
import Derived.Test.YthidgkfgdkjghaaAx3
import Derived.Test.YthidgkfgdkjghaaAx9
import Derived.Test.YthidgkfgdkjghaaAx19
namespace Go.Proofs.Ythidgkfgdkjghaa.A
open Go.RowKit Go.Proofs.YthidgkfgdkjghaaW.PrintWords Go.Proofs.YthidgkfgdkjghaaW.PrintLast Go.Proofs.YthidgkfgdkjghaaW.PrintMore
attribute [local go_sem] max2_int min2_int max_two min_two max_three min_three max_four min_four
set_option linter.unusedVariables false
set_option linter.unusedSimpArgs false
set_option maxHeartbeats 8000000
set_option maxRecDepth 100000

/-! ### spec_DrawTypeWhy: function 16 -/
def spec_DrawTypeWhy.f (k : Nat) (l0 : List Int) : Option ((List (S39)) × (List (S32))) := (spec_l6Open.f l0).bind fun bt574 => ((spec_l6Rd_pick.f k bt574.1 bt574.2 2).bind fun bt577 => (if bt577.1 = 0 then ((spec_l71Prog.f k bt574.1 bt577.2).bind fun bt579 => (some (bt579.1, bt579.2.1))) else ((spec_l71Any.f k bt574.1 bt577.2).bind fun bt586 => (some (bt586.1, bt586.2.1)))))
theorem spec_DrawTypeWhy.calls (k : Nat) (A0 : Option Addr) (c0 : Nat) (l0 : List Int) (r1 : List (S39)) (r2 : List (S32)) (w : World) (hr0 : Kd.C (Kd.int .u8) w A0 l0.length l0) (hc0 : l0.length ≤ c0) (h : spec_DrawTypeWhy.f k l0 = some (r1, r2)) :
  Calls Try.prog 16 #[.slice A0 l0.length c0] w fun e w' => ∃ v0_ v1_ : Value, e = .returned (.agg #[v0_, v1_]) ∧ Kd.R k39 39 w' w.heap.size (fun k_ => (w.heap.size ≤ k_)) v0_ r1 ∧ Kd.N k32 32 w' w.heap.size (fun k_ => (w.heap.size ≤ k_) ∧ some k_ ≠ (v0_ : Value).ownBlock) v1_ r2 ∧ Below w.heap.size w w' := by
 have hu26 := Try.underlying26
 have HR0 := AM hr0
 have HC0 := AM hc0
 clear hr0 hc0
 have HB := AM (Below.refl w.heap.size w)
 have H := h
 unfold spec_DrawTypeWhy.f at H
 clear h
 obtain ⟨⟨t574, t575⟩, A2, H⟩ := ZOB H; try dsimp only at H
 obtain ⟨⟨t577, t578⟩, A3, H⟩ := ZOB H; try dsimp only at H
 by_cases c4 : t577 = 0
 ·(
 rw [if_pos c4] at H
 have c4b0 := beq_iff_eq.mpr c4
 have c4b1 := bne_eq_false_iff_eq.mpr c4
 clear c4
 obtain ⟨⟨t579, t582, t585⟩, A5, H⟩ := ZOB H; try dsimp only at H
 simp only [Option.some.injEq, Prod.mk.injEq] at H
 obtain ⟨rfl, rfl⟩ := H
 go_enter Try.func16, Try.ntmps16
 go_wp2_with (first | ((with_reducible refine gate_dst (N := 2) rfl ?_); refine ZX (N := 2) (cs := #[.slice none 0 0, .slice none 0 0]) (t := 26) ?_; intro gb573 hg w6 hbox hb; have BK573 := AM (hbox); have GW573 : Aside0 (w.heap.size ≤ gb573) := ZS hg; have GE573 : Aside0 (w.heap.size ≤ gb573) := ZS hg; replace HB := ZT HB hb; clear hb hbox hg) | ((with_reducible refine gate_callee (f := 35) rfl ?_); refine ZGL (some 5) Try.func35 #[.slice A0 l0.length c0] ?_; (with_reducible refine (spec_l6Open.calls _ _ l0 t574 t575 w _ ?side1 ?side2 ?side3 A2.out).mono ?_); (case side1 => repeat (first | (with_reducible first | exact HB.out | apply below_alloc | apply pw_below_drewN | apply below_drew1 | refine below_set ?_ GE573.out) | exact HB.out)); (case side2 => exact HR0.out); (case side3 => exact HC0.out); rintro e w7 ⟨g576, rfl, hi, hb, hb2⟩; refine ⟨_, rfl, ?_⟩; have HI576 := AM (hi); have NB576_573 := AM (IsS64.ne_blk hi (blk_below (g := gb573) (o := .cells #[.slice none 0 0, .slice none 0 0] 26 (0, 0)) (ZK BK573.out) hb2) (by decide)); have NB573_576 := AM (Ne.symm (IsS64.ne_blk hi (blk_below (g := gb573) (o := .cells #[.slice none 0 0, .slice none 0 0] 26 (0, 0)) (ZK BK573.out) hb2) (by decide))); replace BK573 := AM (blk_below (g := gb573) (o := .cells #[.slice none 0 0, .slice none 0 0] 26 (0, 0)) (ZK BK573.out) hb2); replace HB := AM (hb); clear hb hb2 hi) | ((with_reducible refine gate_callee (f := 39) rfl ?_); refine ZGL (some 7) Try.func39 #[.pointer (some ⟨g576, 0, none⟩), .int .i64 2] ?_; (with_reducible refine (spec_l6Rd_pick.calls k g576 t574 t575 2 t577 t578 w _ ?side1 ?side2 A3.out).mono ?_); (case side1 => repeat (first | (with_reducible first | exact HI576.out | apply IsS64.alloc | apply IsS64.drewN | apply IsS64.drew | apply IsS64.set_1 | refine IsS64.far ?_ NB576_573.out _) | exact HI576.out)); (case side2 => repeat (first | (with_reducible first | exact HB.out | apply below_alloc | apply pw_below_drewN | apply below_drew1 | refine below_set ?_ (IsS64.ge HI576.out) | refine below_set ?_ GE573.out) | exact HB.out)); rintro e w8 ⟨rfl, hi, hb, hk⟩; refine ⟨_, rfl, ?_⟩; replace BK573 := ZL hk BK573 NB573_576; replace HB := AM (hb); replace HI576 := AM (hi); clear hb hk hi) | ((with_reducible refine gate_callee (f := 40) rfl ?_); refine ZGL (some 10) Try.func40 #[.pointer (some ⟨g576, 0, none⟩)] ?_; (with_reducible refine (spec_l71Prog.calls k g576 t574 t578 t579 t582 t585 w _ ?side1 ?side2 A5.out).mono ?_); (case side1 => repeat (first | (with_reducible first | exact HI576.out | apply IsS64.alloc | apply IsS64.drewN | apply IsS64.drew | apply IsS64.set_1 | refine IsS64.far ?_ NB576_573.out _) | exact HI576.out)); (case side2 => repeat (first | (with_reducible first | exact HB.out | apply below_alloc | apply pw_below_drewN | apply below_drew1 | refine below_set ?_ (IsS64.ge HI576.out) | refine below_set ?_ GE573.out) | exact HB.out)); rintro e w9 ⟨v580, v583, rfl, ho0, ho1, hi, hb, hk⟩; refine ⟨_, rfl, ?_⟩; have HO581 := AM (Kd.R_lower (Kd.R_newM (M := fun k_ => (w.heap.size ≤ k_)) ho0 (below_size (by repeat (first | (with_reducible first | exact HB.out | apply below_alloc | apply pw_below_drewN | apply below_drew1 | refine below_set ?_ (IsS64.ge HI576.out) | refine below_set ?_ GE573.out) | exact HB.out))) (fun k_ h_ => h_)) (below_size (by repeat (first | (with_reducible first | exact HB.out | apply below_alloc | apply pw_below_drewN | apply below_drew1 | refine below_set ?_ (IsS64.ge HI576.out) | refine below_set ?_ GE573.out) | exact HB.out)))); have HO584 := AM (Kd.N_lower (Kd.N_mono (ok' := fun k_ => (w.heap.size ≤ k_) ∧ some k_ ≠ (v580 : Value).ownBlock ∧ k_ ≠ gb573 ∧ k_ ≠ g576) (Kd.R_N (Kd.R_bound (Kd.R_apart' ho1 (Kd.R_typed ho0) (by decide)))) (fun k_ hk_ => ⟨(Nat.le_trans (below_size (by repeat (first | (with_reducible first | exact HB.out | apply below_alloc | apply pw_below_drewN | apply below_drew1 | refine below_set ?_ (IsS64.ge HI576.out) | refine below_set ?_ GE573.out) | exact HB.out))) hk_.2.1), hk_.1.2, (Kd.freshB (g := gb573) (o := .cells #[.slice none 0 0, .slice none 0 0] 26 (0, 0)) (ZK BK573.out) k_ hk_.2.1), (IsS64.fresh (by repeat (first | (with_reducible first | exact HI576.out | apply IsS64.alloc | apply IsS64.drewN | apply IsS64.drew | apply IsS64.set_1 | refine IsS64.far ?_ NB576_573.out _) | exact HI576.out)) k_ hk_.2.1)⟩)) (below_size (by repeat (first | (with_reducible first | exact HB.out | apply below_alloc | apply pw_below_drewN | apply below_drew1 | refine below_set ?_ (IsS64.ge HI576.out) | refine below_set ?_ GE573.out) | exact HB.out)))); replace BK573 := ZL hk BK573 NB573_576; replace HB := AM (hb); replace HI576 := AM (hi); clear hb hk hi; (try clear ho0); (try clear ho1); obtain ⟨Ao10, co10, eo10⟩ := Kd.R_slice HO581.out; subst eo10; have hnb11 := NB573_576.out; have hnc11 := NB576_573.out; have hcz12 := ZC2 w9 BK573; have hfz12 := ZF2 BK573; obtain ⟨Ao13, co13, eo13⟩ := Kd.N_slice HO584.out; subst eo13))
 refine bodyPost_ret (results_cell_row rfl _ _ gb573 26 #[.slice Ao10 t579.length co10, .slice Ao13 t582.length co13] (0, 0) _ rfl (ZZ BK573.out) Try.underlying26 rfl (by kernel_rfl)) rfl ?_
 exact ⟨_, _, ZE, by (with_reducible repeat (first | apply Kd.R_alloc | apply Kd.R_drewN | apply Kd.R_drew)); exact Kd.R_mono (Kd.R_far (p := ⟨gb573, 1, none⟩) (Kd.R_far (p := ⟨gb573, 0, none⟩) (Kd.R_types HO581.out BK573.out (by decide)) (fun _ hk => hk.2) (.slice Ao10 t579.length co10)) (fun _ hk => hk.2) (.slice Ao13 t582.length co13)) (fun _ hk => hk.1.1), by (with_reducible repeat (first | apply Kd.N_alloc | apply Kd.N_drewN | apply Kd.N_drew)); exact Kd.N_mono (Kd.N_far (p := ⟨gb573, 1, none⟩) (Kd.N_far (p := ⟨gb573, 0, none⟩) (Kd.N_mono HO584.out (fun k_ hk => (⟨hk, hk.2.2.1⟩ : _ ∧ k_ ≠ gb573))) (fun _ hk => hk.2) (.slice Ao10 t579.length co10)) (fun _ hk => hk.2) (.slice Ao13 t582.length co13)) (fun _ hk => ⟨hk.1.1, hk.1.2.1⟩), by repeat (first | (with_reducible first | exact HB.out | apply below_alloc | apply pw_below_drewN | apply below_drew1 | refine below_set ?_ (IsS64.ge HI576.out) | refine below_set ?_ GE573.out) | exact HB.out)⟩)
 ·(
 rw [if_neg c4] at H
 have c4b0 := beq_eq_false_iff_ne.mpr c4
 have c4b1 := bne_iff_ne.mpr c4
 obtain ⟨⟨t586, t589, t592⟩, A14, H⟩ := ZOB H; try dsimp only at H
 simp only [Option.some.injEq, Prod.mk.injEq] at H
 obtain ⟨rfl, rfl⟩ := H
 go_enter Try.func16, Try.ntmps16
 go_wp2_with (first | ((with_reducible refine gate_dst (N := 2) rfl ?_); refine ZX (N := 2) (cs := #[.slice none 0 0, .slice none 0 0]) (t := 26) ?_; intro gb573 hg w15 hbox hb; have BK573 := AM (hbox); have GW573 : Aside0 (w.heap.size ≤ gb573) := ZS hg; have GE573 : Aside0 (w.heap.size ≤ gb573) := ZS hg; replace HB := ZT HB hb; clear hb hbox hg) | ((with_reducible refine gate_callee (f := 35) rfl ?_); refine ZGL (some 5) Try.func35 #[.slice A0 l0.length c0] ?_; (with_reducible refine (spec_l6Open.calls _ _ l0 t574 t575 w _ ?side1 ?side2 ?side3 A2.out).mono ?_); (case side1 => repeat (first | (with_reducible first | exact HB.out | apply below_alloc | apply pw_below_drewN | apply below_drew1 | refine below_set ?_ GE573.out) | exact HB.out)); (case side2 => exact HR0.out); (case side3 => exact HC0.out); rintro e w16 ⟨g576, rfl, hi, hb, hb2⟩; refine ⟨_, rfl, ?_⟩; have HI576 := AM (hi); have NB576_573 := AM (IsS64.ne_blk hi (blk_below (g := gb573) (o := .cells #[.slice none 0 0, .slice none 0 0] 26 (0, 0)) (ZK BK573.out) hb2) (by decide)); have NB573_576 := AM (Ne.symm (IsS64.ne_blk hi (blk_below (g := gb573) (o := .cells #[.slice none 0 0, .slice none 0 0] 26 (0, 0)) (ZK BK573.out) hb2) (by decide))); replace BK573 := AM (blk_below (g := gb573) (o := .cells #[.slice none 0 0, .slice none 0 0] 26 (0, 0)) (ZK BK573.out) hb2); replace HB := AM (hb); clear hb hb2 hi) | ((with_reducible refine gate_callee (f := 39) rfl ?_); refine ZGL (some 7) Try.func39 #[.pointer (some ⟨g576, 0, none⟩), .int .i64 2] ?_; (with_reducible refine (spec_l6Rd_pick.calls k g576 t574 t575 2 t577 t578 w _ ?side1 ?side2 A3.out).mono ?_); (case side1 => repeat (first | (with_reducible first | exact HI576.out | apply IsS64.alloc | apply IsS64.drewN | apply IsS64.drew | apply IsS64.set_1 | refine IsS64.far ?_ NB576_573.out _) | exact HI576.out)); (case side2 => repeat (first | (with_reducible first | exact HB.out | apply below_alloc | apply pw_below_drewN | apply below_drew1 | refine below_set ?_ (IsS64.ge HI576.out) | refine below_set ?_ GE573.out) | exact HB.out)); rintro e w17 ⟨rfl, hi, hb, hk⟩; refine ⟨_, rfl, ?_⟩; replace BK573 := ZL hk BK573 NB573_576; replace HB := AM (hb); replace HI576 := AM (hi); clear hb hk hi) | ((with_reducible refine gate_callee (f := 34) rfl ?_); refine ZGL (some 12) Try.func34 #[.pointer (some ⟨g576, 0, none⟩)] ?_; (with_reducible refine (spec_l71Any.calls k g576 t574 t578 t586 t589 t592 w _ ?side1 ?side2 A14.out).mono ?_); (case side1 => repeat (first | (with_reducible first | exact HI576.out | apply IsS64.alloc | apply IsS64.drewN | apply IsS64.drew | apply IsS64.set_1 | refine IsS64.far ?_ NB576_573.out _) | exact HI576.out)); (case side2 => repeat (first | (with_reducible first | exact HB.out | apply below_alloc | apply pw_below_drewN | apply below_drew1 | refine below_set ?_ (IsS64.ge HI576.out) | refine below_set ?_ GE573.out) | exact HB.out)); rintro e w18 ⟨v587, v590, rfl, ho0, ho1, hi, hb, hk⟩; refine ⟨_, rfl, ?_⟩; have HO588 := AM (Kd.R_lower (Kd.R_newM (M := fun k_ => (w.heap.size ≤ k_)) (Kd.R_mono (ok' := fun k_ => True) ho0 (fun _ hk_ => trivial)) (below_size (by repeat (first | (with_reducible first | exact HB.out | apply below_alloc | apply pw_below_drewN | apply below_drew1 | refine below_set ?_ (IsS64.ge HI576.out) | refine below_set ?_ GE573.out) | exact HB.out))) (fun k_ h_ => h_)) (below_size (by repeat (first | (with_reducible first | exact HB.out | apply below_alloc | apply pw_below_drewN | apply below_drew1 | refine below_set ?_ (IsS64.ge HI576.out) | refine below_set ?_ GE573.out) | exact HB.out)))); have HO591 := AM (Kd.N_lower (Kd.N_mono (ok' := fun k_ => (w.heap.size ≤ k_) ∧ some k_ ≠ (v587 : Value).ownBlock ∧ k_ ≠ gb573 ∧ k_ ≠ g576) ho1 (fun k_ hk_ => ⟨(Nat.le_trans (below_size (by repeat (first | (with_reducible first | exact HB.out | apply below_alloc | apply pw_below_drewN | apply below_drew1 | refine below_set ?_ (IsS64.ge HI576.out) | refine below_set ?_ GE573.out) | exact HB.out))) hk_.1), hk_.2, (Kd.freshB (g := gb573) (o := .cells #[.slice none 0 0, .slice none 0 0] 26 (0, 0)) (ZK BK573.out) k_ hk_.1), (IsS64.fresh (by repeat (first | (with_reducible first | exact HI576.out | apply IsS64.alloc | apply IsS64.drewN | apply IsS64.drew | apply IsS64.set_1 | refine IsS64.far ?_ NB576_573.out _) | exact HI576.out)) k_ hk_.1)⟩)) (below_size (by repeat (first | (with_reducible first | exact HB.out | apply below_alloc | apply pw_below_drewN | apply below_drew1 | refine below_set ?_ (IsS64.ge HI576.out) | refine below_set ?_ GE573.out) | exact HB.out)))); replace BK573 := ZL hk BK573 NB573_576; replace HB := AM (hb); replace HI576 := AM (hi); clear hb hk hi; (try clear ho0); (try clear ho1); obtain ⟨Ao19, co19, eo19⟩ := Kd.R_slice HO588.out; subst eo19; have hnb20 := NB573_576.out; have hnc20 := NB576_573.out; have hcz21 := ZC2 w18 BK573; have hfz21 := ZF2 BK573; obtain ⟨Ao22, co22, eo22⟩ := Kd.N_slice HO591.out; subst eo22))
 refine bodyPost_ret (results_cell_row rfl _ _ gb573 26 #[.slice Ao19 t586.length co19, .slice Ao22 t589.length co22] (0, 0) _ rfl (ZZ BK573.out) Try.underlying26 rfl (by kernel_rfl)) rfl ?_
 exact ⟨_, _, ZE, by (with_reducible repeat (first | apply Kd.R_alloc | apply Kd.R_drewN | apply Kd.R_drew)); exact Kd.R_mono (Kd.R_far (p := ⟨gb573, 1, none⟩) (Kd.R_far (p := ⟨gb573, 0, none⟩) (Kd.R_types HO588.out BK573.out (by decide)) (fun _ hk => hk.2) (.slice Ao19 t586.length co19)) (fun _ hk => hk.2) (.slice Ao22 t589.length co22)) (fun _ hk => hk.1.1), by (with_reducible repeat (first | apply Kd.N_alloc | apply Kd.N_drewN | apply Kd.N_drew)); exact Kd.N_mono (Kd.N_far (p := ⟨gb573, 1, none⟩) (Kd.N_far (p := ⟨gb573, 0, none⟩) (Kd.N_mono HO591.out (fun k_ hk => (⟨hk, hk.2.2.1⟩ : _ ∧ k_ ≠ gb573))) (fun _ hk => hk.2) (.slice Ao19 t586.length co19)) (fun _ hk => hk.2) (.slice Ao22 t589.length co22)) (fun _ hk => ⟨hk.1.1, hk.1.2.1⟩), by repeat (first | (with_reducible first | exact HB.out | apply below_alloc | apply pw_below_drewN | apply below_drew1 | refine below_set ?_ (IsS64.ge HI576.out) | refine below_set ?_ GE573.out) | exact HB.out)⟩)

/-! ### impl_within: function 72 -/
def impl_within.f (a0 : Int) (a1 : Int) : Option (Bool) := some ((Go.bits .andNot .i64 a0 a1) == 0)
theorem impl_within.calls (a0 : Int) (a1 : Int) (r : Bool) (w : World) (h : impl_within.f a0 a1 = some r) :
  Calls Try.prog 72 #[.int .i64 a0, .int .i64 a1] w fun e w' => e = .returned (.bool r) ∧ Drawn0 w w' := by
 have H := h
 unfold impl_within.f at H
 clear h
 obtain rfl := Option.some.inj H
 go_enter Try.func72, Try.ntmps72
 go_wp2
 go_ret
 exact ⟨by first | rfl | (simp; done) | (simp [*]; done), by repeat (first | exact Drawn0.refl _ | apply Drawn0.step)⟩

/-! ### impl_Label_flows: function 47 -/
def impl_Label_flows.f (a0_0 : Int) (a0_1 : Int) (a1_0 : Int) (a1_1 : Int) : Option (Bool) := (impl_within.f a1_0 a0_0).bind fun t595 => (if t595 = true then ((impl_within.f a1_1 a0_1).bind fun t596 => (some t596)) else (some false))
theorem impl_Label_flows.calls (a0_0 : Int) (a0_1 : Int) (a1_0 : Int) (a1_1 : Int) (r : Bool) (w : World) (h : impl_Label_flows.f a0_0 a0_1 a1_0 a1_1 = some r) :
  Calls Try.prog 47 #[.agg #[.int .i64 a0_0, .int .i64 a0_1], .agg #[.int .i64 a1_0, .int .i64 a1_1]] w fun e w' => e = .returned (.bool r) ∧ Below w.heap.size w w' := by
 have hu39 := Try.underlying39
 have HB := AM (Below.refl w.heap.size w)
 have H := h
 unfold impl_Label_flows.f at H
 clear h
 obtain ⟨t595, A3, H⟩ := ZOB H; try dsimp only at H
 by_cases c4 : t595 = true
 ·(
 subst c4
 have H1 := H; rw [if_pos rfl] at H1
 clear H
 have H := H1
 clear H1
 obtain ⟨t596, A5, H⟩ := ZOB H; try dsimp only at H
 obtain rfl := Option.some.inj H
 go_enter Try.func47, Try.ntmps47
 go_wp2_with (first | ((with_reducible refine gate_dst (N := 2) rfl ?_); refine ZX (N := 2) (cs := #[.int .i64 a0_0, .int .i64 a0_1]) (t := 39) ?_; intro gb593 hg w6 hbox hb; have BK593 := AM (hbox); have GW593 : Aside0 (w.heap.size ≤ gb593) := ZS hg; have GE593 : Aside0 (w.heap.size ≤ gb593) := ZS hg; replace HB := ZT HB hb; clear hb hbox hg) | ((with_reducible refine gate_dst (N := 3) rfl ?_); refine ZX (N := 3) (cs := #[.int .i64 a1_0, .int .i64 a1_1]) (t := 39) ?_; intro gb594 hg w7 hbox hb; have BK594 := AM (hbox); have GW594 : Aside0 (w.heap.size ≤ gb594) := ZS hg; have GE594 : Aside0 (w.heap.size ≤ gb594) := ZS hg; have NB593_594 : Aside0 (gb593 ≠ gb594) := ZN hg BK593; have NB594_593 : Aside0 (gb594 ≠ gb593) := ZM hg BK593; replace BK593 := ZW BK593 hb; replace HB := ZT HB hb; clear hb hbox hg; have hnb8 := NB594_593.out; have hnc8 := NB593_594.out; have hcz9 := ZC2 w7 BK594; have hfz9 := ZF2 BK594; have hcz10 := ZC2 w7 BK593; have hfz10 := ZF2 BK593) | ((with_reducible refine gate_callee (f := 72) rfl ?_); refine ZGL (some 9) Try.func72 #[.int .i64 a1_0, .int .i64 a0_0] ?_; (with_reducible refine (impl_within.calls a1_0 a0_0 true _ A3.out).mono ?_); rintro e w' ⟨rfl, ⟨nd, rfl⟩⟩; refine ⟨_, rfl, ?_⟩) | (go_at_call 72; (with_reducible refine (impl_within.calls a1_1 a0_1 t596 _ A5.out).mono ?_); rintro e w' ⟨rfl, ⟨nd, rfl⟩⟩))
 go_ret
 exact ⟨ZE, ZB⟩)
 ·(
 replace c4 := Bool.eq_false_iff.mpr c4
 subst c4
 have H1 := H; rw [if_neg ZFT] at H1
 clear H
 have H := H1
 clear H1
 obtain rfl := Option.some.inj H
 go_enter Try.func47, Try.ntmps47
 go_wp2_with (first | ((with_reducible refine gate_dst (N := 2) rfl ?_); refine ZX (N := 2) (cs := #[.int .i64 a0_0, .int .i64 a0_1]) (t := 39) ?_; intro gb593 hg w11 hbox hb; have BK593 := AM (hbox); have GW593 : Aside0 (w.heap.size ≤ gb593) := ZS hg; have GE593 : Aside0 (w.heap.size ≤ gb593) := ZS hg; replace HB := ZT HB hb; clear hb hbox hg) | ((with_reducible refine gate_dst (N := 3) rfl ?_); refine ZX (N := 3) (cs := #[.int .i64 a1_0, .int .i64 a1_1]) (t := 39) ?_; intro gb594 hg w12 hbox hb; have BK594 := AM (hbox); have GW594 : Aside0 (w.heap.size ≤ gb594) := ZS hg; have GE594 : Aside0 (w.heap.size ≤ gb594) := ZS hg; have NB593_594 : Aside0 (gb593 ≠ gb594) := ZN hg BK593; have NB594_593 : Aside0 (gb594 ≠ gb593) := ZM hg BK593; replace BK593 := ZW BK593 hb; replace HB := ZT HB hb; clear hb hbox hg; have hnb13 := NB594_593.out; have hnc13 := NB593_594.out; have hcz14 := ZC2 w12 BK594; have hfz14 := ZF2 BK594; have hcz15 := ZC2 w12 BK593; have hfz15 := ZF2 BK593) | ((with_reducible refine gate_callee (f := 72) rfl ?_); refine ZGL (some 9) Try.func72 #[.int .i64 a1_0, .int .i64 a0_0] ?_; (with_reducible refine (impl_within.calls a1_0 a0_0 false _ A3.out).mono ?_); rintro e w' ⟨rfl, ⟨nd, rfl⟩⟩; refine ⟨_, rfl, ?_⟩))
 go_ret
 exact ⟨ZE, ZB⟩)

/-! ### impl_Label_both: function 85 -/
def impl_Label_both.f (a0_0 : Int) (a0_1 : Int) (a1_0 : Int) (a1_1 : Int) : Option (Int × Int) := some (Go.bits .and .i64 a0_0 a1_0, Go.bits .and .i64 a0_1 a1_1)
theorem impl_Label_both.calls (a0_0 : Int) (a0_1 : Int) (a1_0 : Int) (a1_1 : Int) (r1 : Int) (r2 : Int) (w : World) (h : impl_Label_both.f a0_0 a0_1 a1_0 a1_1 = some (r1, r2)) :
  Calls Try.prog 85 #[.agg #[.int .i64 a0_0, .int .i64 a0_1], .agg #[.int .i64 a1_0, .int .i64 a1_1]] w fun e w' => e = .returned (.agg #[.int .i64 r1, .int .i64 r2]) ∧ Below w.heap.size w w' := by
 have hu39 := Try.underlying39
 have HB := AM (Below.refl w.heap.size w)
 have H := h
 unfold impl_Label_both.f at H
 clear h
 simp only [Option.some.injEq, Prod.mk.injEq] at H
 obtain ⟨rfl, rfl⟩ := H
 go_enter Try.func85, Try.ntmps85
 go_wp2_with (first | ((with_reducible refine gate_dst (N := 2) rfl ?_); refine ZX (N := 2) (cs := #[.int .i64 a0_0, .int .i64 a0_1]) (t := 39) ?_; intro gb597 hg w3 hbox hb; have BK597 := AM (hbox); have GW597 : Aside0 (w.heap.size ≤ gb597) := ZS hg; have GE597 : Aside0 (w.heap.size ≤ gb597) := ZS hg; replace HB := ZT HB hb; clear hb hbox hg) | ((with_reducible refine gate_dst (N := 3) rfl ?_); refine ZX (N := 3) (cs := #[.int .i64 a1_0, .int .i64 a1_1]) (t := 39) ?_; intro gb598 hg w4 hbox hb; have BK598 := AM (hbox); have GW598 : Aside0 (w.heap.size ≤ gb598) := ZS hg; have GE598 : Aside0 (w.heap.size ≤ gb598) := ZS hg; have NB597_598 : Aside0 (gb597 ≠ gb598) := ZN hg BK597; have NB598_597 : Aside0 (gb598 ≠ gb597) := ZM hg BK597; replace BK597 := ZW BK597 hb; replace HB := ZT HB hb; clear hb hbox hg) | ((with_reducible refine gate_dst (N := 4) rfl ?_); refine ZX (N := 4) (cs := #[.int .i64 0, .int .i64 0]) (t := 39) ?_; intro gb599 hg w5 hbox hb; have BK599 := AM (hbox); have GW599 : Aside0 (w.heap.size ≤ gb599) := ZS hg; have GE599 : Aside0 (w.heap.size ≤ gb599) := ZS hg; have NB597_599 : Aside0 (gb597 ≠ gb599) := ZN hg BK597; have NB599_597 : Aside0 (gb599 ≠ gb597) := ZM hg BK597; have NB598_599 : Aside0 (gb598 ≠ gb599) := ZN hg BK598; have NB599_598 : Aside0 (gb599 ≠ gb598) := ZM hg BK598; replace BK597 := ZW BK597 hb; replace BK598 := ZW BK598 hb; replace HB := ZT HB hb; clear hb hbox hg; have hnb6 := NB597_598.out; have hnc6 := NB598_597.out; have hnb7 := NB597_599.out; have hnc7 := NB599_597.out; have hcz8 := ZC2 w5 BK597; have hfz8 := ZF2 BK597; have hnb9 := NB598_599.out; have hnc9 := NB599_598.out; have hcz10 := ZC2 w5 BK598; have hfz10 := ZF2 BK598; have hcz11 := ZC2 w5 BK599; have hfz11 := ZF2 BK599))
 refine bodyPost_ret (results_cell_row rfl _ _ gb599 39 #[.int .i64 (Go.bits .and .i64 a0_0 a1_0), .int .i64 (Go.bits .and .i64 a0_1 a1_1)] (0, 0) _ rfl (ZZ BK599.out) Try.underlying39 rfl (by kernel_rfl)) rfl ?_
 exact ⟨ZE, ZB⟩

end Go.Proofs.Ythidgkfgdkjghaa.A
