/- By wip/tools/pr.py: Go functions as Lean functions, with contracts. -/
import Derived.Test.YtkkdeojbkfjlpaaAx0
import Derived.Test.YtkkdeojbkfjlpaaAx2
import Derived.Test.YtkkdeojbkfjlpaaAx18
import Derived.Test.YtkkdeojbkfjlpaaAx20
import Derived.Test.YtkkdeojbkfjlpaaAx26
namespace Go.Proofs.Ytkkdeojbkfjlpaa.A
open Go.RowKit Go.Proofs.YtkkdeojbkfjlpaaW.PrintWords Go.Proofs.YtkkdeojbkfjlpaaW.PrintLast Go.Proofs.YtkkdeojbkfjlpaaW.PrintMore
attribute [local go_sem] max2_int min2_int max_two min_two max_three min_three max_four min_four
set_option linter.unusedVariables false
set_option linter.unusedSimpArgs false
set_option maxHeartbeats 8000000
set_option maxRecDepth 100000

/-! ### spec_DrawTypeOk: function 14 -/
def spec_DrawTypeOk.f (k : Nat) (l0 : List Int) : Option ((List (S35)) × (List (S40))) := (spec_l6Open.f l0).bind fun bt684 => ((spec_l71Any.f k bt684.1 bt684.2).bind fun bt687 => (some (bt687.1, bt687.2.1)))
theorem spec_DrawTypeOk.calls (k : Nat) (A0 : Option Addr) (c0 : Nat) (l0 : List Int) (r1 : List (S35)) (r2 : List (S40)) (w : World) (hr0 : Kd.C (Kd.int .u8) w A0 l0.length l0) (hc0 : l0.length ≤ c0) (h : spec_DrawTypeOk.f k l0 = some (r1, r2)) :
  Calls Try.prog 14 #[.slice A0 l0.length c0] w fun e w' => ∃ v0_ v1_ : Value, e = .returned (.agg #[v0_, v1_]) ∧ Kd.R k35 35 w' w.heap.size (fun k_ => (w.heap.size ≤ k_)) v0_ r1 ∧ Kd.N k40 40 w' w.heap.size (fun k_ => (w.heap.size ≤ k_) ∧ some k_ ≠ (v0_ : Value).ownBlock) v1_ r2 ∧ Below w.heap.size w w' := by
 have hu26 := Try.underlying26
 have HR0 := AM hr0
 have HC0 := AM hc0
 clear hr0 hc0
 have HB := AM (Below.refl w.heap.size w)
 have H := h
 unfold spec_DrawTypeOk.f at H
 clear h
 obtain ⟨⟨t684, t685⟩, A2, H⟩ := ZOB H; try dsimp only at H
 obtain ⟨⟨t687, t690, t693⟩, A3, H⟩ := ZOB H; try dsimp only at H
 simp only [Option.some.injEq, Prod.mk.injEq] at H
 obtain ⟨rfl, rfl⟩ := H
 go_enter Try.func14, Try.ntmps14
 go_wp2_with (first | ((with_reducible refine gate_dst (N := 2) rfl ?_); refine ZX (N := 2) (cs := #[.slice none 0 0, .slice none 0 0]) (t := 26) ?_; intro gb683 hg w4 hbox hb; have BK683 := AM (hbox); have GW683 : Za (w.heap.size ≤ gb683) := ZS hg; have GE683 : Za (w.heap.size ≤ gb683) := ZS hg; replace HB := ZT HB hb; clear hb hbox hg) | ((with_reducible refine gate_callee (f := 24) rfl ?_); refine ZGL (some 4) Try.func24 #[.slice A0 l0.length c0] ?_; (with_reducible refine (spec_l6Open.calls _ _ l0 t684 t685 w _ ?side1 ?side2 HC0.out A2.out).mono ?_); (case side1 => repeat (first | (with_reducible first | exact HB.out | apply below_alloc | apply pw_below_drewN | apply below_drew1 | refine below_set ?_ GE683.out) | exact HB.out)); (case side2 => exact HR0.out); rintro e w5 ⟨g686, rfl, hi, hb, hb2⟩; refine ⟨_, rfl, ?_⟩; have HI686 := AM (hi); have NB686_683 := AM (IsS64.ne_blk hi (blk_below (g := gb683) (o := .cells #[.slice none 0 0, .slice none 0 0] 26 (0, 0)) (ZK BK683.out) hb2) (by decide)); have NB683_686 := AM (Ne.symm (IsS64.ne_blk hi (blk_below (g := gb683) (o := .cells #[.slice none 0 0, .slice none 0 0] 26 (0, 0)) (ZK BK683.out) hb2) (by decide))); replace BK683 := AM (blk_below (g := gb683) (o := .cells #[.slice none 0 0, .slice none 0 0] 26 (0, 0)) (ZK BK683.out) hb2); replace HB := AM (hb); clear hb hb2 hi) | ((with_reducible refine gate_callee (f := 23) rfl ?_); refine ZGL (some 5) Try.func23 #[.pointer (some ⟨g686, 0, none⟩)] ?_; (with_reducible refine (spec_l71Any.calls k g686 t684 t685 t687 t690 t693 w _ ?side1 ?side2 A3.out).mono ?_); (case side1 => repeat (first | (with_reducible first | exact HI686.out | apply IsS64.alloc | apply IsS64.drewN | apply IsS64.drew | apply IsS64.set_1 | refine IsS64.far ?_ NB686_683.out _) | exact HI686.out)); (case side2 => repeat (first | (with_reducible first | exact HB.out | apply below_alloc | apply pw_below_drewN | apply below_drew1 | refine below_set ?_ (IsS64.ge HI686.out) | refine below_set ?_ GE683.out) | exact HB.out)); rintro e w6 ⟨v688, v691, rfl, ho0, ho1, hi, hb, hk⟩; refine ⟨_, rfl, ?_⟩; have HO689 := AM (Kd.R_lower (Kd.R_newM (M := fun k_ => (w.heap.size ≤ k_)) (Kd.R_mono (ok' := fun k_ => True) ho0 (fun _ hk_ => trivial)) (below_size (by repeat (first | (with_reducible first | exact HB.out | apply below_alloc | apply pw_below_drewN | apply below_drew1 | refine below_set ?_ (IsS64.ge HI686.out) | refine below_set ?_ GE683.out) | exact HB.out))) (fun k_ h_ => h_)) (below_size (by repeat (first | (with_reducible first | exact HB.out | apply below_alloc | apply pw_below_drewN | apply below_drew1 | refine below_set ?_ (IsS64.ge HI686.out) | refine below_set ?_ GE683.out) | exact HB.out)))); have HO692 := AM (Kd.N_lower (Kd.N_mono (ok' := fun k_ => (w.heap.size ≤ k_) ∧ some k_ ≠ (v688 : Value).ownBlock ∧ k_ ≠ gb683 ∧ k_ ≠ g686) ho1 (fun k_ hk_ => ⟨(Nat.le_trans (below_size (by repeat (first | (with_reducible first | exact HB.out | apply below_alloc | apply pw_below_drewN | apply below_drew1 | refine below_set ?_ (IsS64.ge HI686.out) | refine below_set ?_ GE683.out) | exact HB.out))) hk_.1), hk_.2, (Kd.freshB (g := gb683) (o := .cells #[.slice none 0 0, .slice none 0 0] 26 (0, 0)) (ZK BK683.out) k_ hk_.1), (IsS64.fresh (by repeat (first | (with_reducible first | exact HI686.out | apply IsS64.alloc | apply IsS64.drewN | apply IsS64.drew | apply IsS64.set_1 | refine IsS64.far ?_ NB686_683.out _) | exact HI686.out)) k_ hk_.1)⟩)) (below_size (by repeat (first | (with_reducible first | exact HB.out | apply below_alloc | apply pw_below_drewN | apply below_drew1 | refine below_set ?_ (IsS64.ge HI686.out) | refine below_set ?_ GE683.out) | exact HB.out)))); replace BK683 := ZL hk BK683 NB683_686; replace HB := AM (hb); replace HI686 := AM (hi); clear hb hk hi; (try clear ho0); (try clear ho1); obtain ⟨Ao7, co7, eo7⟩ := Kd.R_slice HO689.out; subst eo7; have hnb8 := NB683_686.out; have hnc8 := NB686_683.out; have hcz9 := ZC2 w6 BK683; have hfz9 := ZF2 BK683; obtain ⟨Ao10, co10, eo10⟩ := Kd.N_slice HO692.out; subst eo10))
 refine bodyPost_ret (results_cell_row rfl _ _ gb683 26 #[.slice Ao7 t687.length co7, .slice Ao10 t690.length co10] (0, 0) _ rfl (ZZ BK683.out) Try.underlying26 rfl (by kernel_rfl)) rfl ?_
 exact ⟨_, _, ZE, by (with_reducible repeat (first | apply Kd.R_alloc | apply Kd.R_drewN | apply Kd.R_drew)); exact Kd.R_mono (Kd.R_far (p := ⟨gb683, 1, none⟩) (Kd.R_far (p := ⟨gb683, 0, none⟩) (Kd.R_types HO689.out BK683.out (by decide)) (fun _ hk => hk.2) (.slice Ao7 t687.length co7)) (fun _ hk => hk.2) (.slice Ao10 t690.length co10)) (fun _ hk => hk.1.1), by (with_reducible repeat (first | apply Kd.N_alloc | apply Kd.N_drewN | apply Kd.N_drew)); exact Kd.N_mono (Kd.N_far (p := ⟨gb683, 1, none⟩) (Kd.N_far (p := ⟨gb683, 0, none⟩) (Kd.N_mono HO692.out (fun k_ hk => (⟨hk, hk.2.2.1⟩ : _ ∧ k_ ≠ gb683))) (fun _ hk => hk.2) (.slice Ao7 t687.length co7)) (fun _ hk => hk.2) (.slice Ao10 t690.length co10)) (fun _ hk => ⟨hk.1.1, hk.1.2.1⟩), by repeat (first | (with_reducible first | exact HB.out | apply below_alloc | apply pw_below_drewN | apply below_drew1 | refine below_set ?_ (IsS64.ge HI686.out) | refine below_set ?_ GE683.out) | exact HB.out)⟩

/-! ### impl_within: function 61 -/
def impl_within.f (a0 : Int) (a1 : Int) : Option (Bool) := some ((Go.bits .andNot .i64 a0 a1) == 0)
theorem impl_within.calls (a0 : Int) (a1 : Int) (r : Bool) (w : World) (h : impl_within.f a0 a1 = some r) :
  Calls Try.prog 61 #[.int .i64 a0, .int .i64 a1] w fun e w' => e = .returned (.bool r) ∧ Drawn0 w w' := by
 have H := h
 unfold impl_within.f at H
 clear h
 obtain rfl := Option.some.inj H
 go_enter Try.func61, Try.ntmps61
 go_wp2
 go_ret
 exact ⟨by first | rfl | (simp; done) | (simp [*]; done), by repeat (first | exact Drawn0.refl _ | apply Drawn0.step)⟩

/-! ### impl_Label_flows: function 37 -/
def impl_Label_flows.f (a0_0 : Int) (a0_1 : Int) (a1_0 : Int) (a1_1 : Int) : Option (Bool) := (impl_within.f a1_0 a0_0).bind fun t696 => (if t696 = true then ((impl_within.f a1_1 a0_1).bind fun t697 => (some t697)) else (some false))
theorem impl_Label_flows.calls (a0_0 : Int) (a0_1 : Int) (a1_0 : Int) (a1_1 : Int) (r : Bool) (w : World) (h : impl_Label_flows.f a0_0 a0_1 a1_0 a1_1 = some r) :
  Calls Try.prog 37 #[.agg #[.int .i64 a0_0, .int .i64 a0_1], .agg #[.int .i64 a1_0, .int .i64 a1_1]] w fun e w' => e = .returned (.bool r) ∧ Below w.heap.size w w' := by
 have hu35 := Try.underlying35
 have HB := AM (Below.refl w.heap.size w)
 have H := h
 unfold impl_Label_flows.f at H
 clear h
 obtain ⟨t696, A3, H⟩ := ZOB H; try dsimp only at H
 by_cases c4 : t696 = true
 ·(
 subst c4
 have H1 := H; rw [if_pos rfl] at H1
 clear H
 have H := H1
 clear H1
 obtain ⟨t697, A5, H⟩ := ZOB H; try dsimp only at H
 obtain rfl := Option.some.inj H
 go_enter Try.func37, Try.ntmps37
 go_wp2_with (first | ((with_reducible refine gate_dst (N := 2) rfl ?_); refine ZX (N := 2) (cs := #[.int .i64 a0_0, .int .i64 a0_1]) (t := 35) ?_; intro gb694 hg w6 hbox hb; have BK694 := AM (hbox); have GW694 : Za (w.heap.size ≤ gb694) := ZS hg; have GE694 : Za (w.heap.size ≤ gb694) := ZS hg; replace HB := ZT HB hb; clear hb hbox hg) | ((with_reducible refine gate_dst (N := 3) rfl ?_); refine ZX (N := 3) (cs := #[.int .i64 a1_0, .int .i64 a1_1]) (t := 35) ?_; intro gb695 hg w7 hbox hb; have BK695 := AM (hbox); have GW695 : Za (w.heap.size ≤ gb695) := ZS hg; have GE695 : Za (w.heap.size ≤ gb695) := ZS hg; have NB694_695 : Za (gb694 ≠ gb695) := ZN hg BK694; have NB695_694 : Za (gb695 ≠ gb694) := ZM hg BK694; replace BK694 := ZW BK694 hb; replace HB := ZT HB hb; clear hb hbox hg; have hnb8 := NB695_694.out; have hnc8 := NB694_695.out; have hcz9 := ZC2 w7 BK695; have hfz9 := ZF2 BK695; have hcz10 := ZC2 w7 BK694; have hfz10 := ZF2 BK694) | ((with_reducible refine gate_callee (f := 61) rfl ?_); refine ZGL (some 9) Try.func61 #[.int .i64 a1_0, .int .i64 a0_0] ?_; (with_reducible refine (impl_within.calls a1_0 a0_0 true _ A3.out).mono ?_); rintro e w' ⟨rfl, ⟨nd, rfl⟩⟩; refine ⟨_, rfl, ?_⟩) | (go_at_call 61; (with_reducible refine (impl_within.calls a1_1 a0_1 t697 _ A5.out).mono ?_); rintro e w' ⟨rfl, ⟨nd, rfl⟩⟩))
 go_ret
 exact ⟨ZE, ZB⟩)
 ·(
 replace c4 := Bool.eq_false_iff.mpr c4
 subst c4
 have H1 := H; rw [if_neg ZFT] at H1
 clear H
 have H := H1
 clear H1
 obtain rfl := Option.some.inj H
 go_enter Try.func37, Try.ntmps37
 go_wp2_with (first | ((with_reducible refine gate_dst (N := 2) rfl ?_); refine ZX (N := 2) (cs := #[.int .i64 a0_0, .int .i64 a0_1]) (t := 35) ?_; intro gb694 hg w11 hbox hb; have BK694 := AM (hbox); have GW694 : Za (w.heap.size ≤ gb694) := ZS hg; have GE694 : Za (w.heap.size ≤ gb694) := ZS hg; replace HB := ZT HB hb; clear hb hbox hg) | ((with_reducible refine gate_dst (N := 3) rfl ?_); refine ZX (N := 3) (cs := #[.int .i64 a1_0, .int .i64 a1_1]) (t := 35) ?_; intro gb695 hg w12 hbox hb; have BK695 := AM (hbox); have GW695 : Za (w.heap.size ≤ gb695) := ZS hg; have GE695 : Za (w.heap.size ≤ gb695) := ZS hg; have NB694_695 : Za (gb694 ≠ gb695) := ZN hg BK694; have NB695_694 : Za (gb695 ≠ gb694) := ZM hg BK694; replace BK694 := ZW BK694 hb; replace HB := ZT HB hb; clear hb hbox hg; have hnb13 := NB695_694.out; have hnc13 := NB694_695.out; have hcz14 := ZC2 w12 BK695; have hfz14 := ZF2 BK695; have hcz15 := ZC2 w12 BK694; have hfz15 := ZF2 BK694) | ((with_reducible refine gate_callee (f := 61) rfl ?_); refine ZGL (some 9) Try.func61 #[.int .i64 a1_0, .int .i64 a0_0] ?_; (with_reducible refine (impl_within.calls a1_0 a0_0 false _ A3.out).mono ?_); rintro e w' ⟨rfl, ⟨nd, rfl⟩⟩; refine ⟨_, rfl, ?_⟩))
 go_ret
 exact ⟨ZE, ZB⟩)

/-! ### impl_Val_vars: function 77 -/
def impl_Val_vars.f (a0_0 : Int) (a0_1 : Int) (a0_2 : Int) : Option (List Int) := if a0_0 = 2 then (some (([a0_1] : List Int))) else (if a0_0 = 3 then (some (([a0_1, a0_2] : List Int))) else (if a0_0 = 4 then (some (([a0_1, a0_2] : List Int))) else (some ([] : List Int))))
theorem impl_Val_vars.calls (a0_0 : Int) (a0_1 : Int) (a0_2 : Int) (r : List Int) (w : World) (h : impl_Val_vars.f a0_0 a0_1 a0_2 = some r) :
  Calls Try.prog 77 #[.agg #[.int .i64 a0_0, .int .i64 a0_1, .int .i64 a0_2]] w fun e w' => ∃ v0_ : Value, e = .returned (v0_) ∧ Kd.R (Kd.int .i64) 3 w' w.heap.size (fun _ => True) v0_ r ∧ Below w.heap.size w w' := by
 have hu38 := Try.underlying38
 have HB := AM (Below.refl w.heap.size w)
 have H := h
 unfold impl_Val_vars.f at H
 clear h
 by_cases c2 : a0_0 = 2
 ·(
 rw [if_pos c2] at H
 have c2b0 := beq_iff_eq.mpr c2
 have c2b1 := bne_eq_false_iff_eq.mpr c2
 clear c2
 obtain ⟨y699, hy699⟩ : ∃ y_ : List Int, y_ = (([a0_1] : List Int)) := ⟨_, rfl⟩
 replace H : (some y699) = some r := by first | (rw [hy699]; with_reducible exact H) | (have H2_ := (Option.bind_some _ _).symm.trans H; rw [hy699]; with_reducible exact H2_) | (have H2_ := (Option.bind_some _ _).symm.trans H; with_reducible exact H2_) | with_reducible exact H | (rw [hy699]; exact H) | exact H
 have Ny699 := AM hy699
 clear hy699
 obtain rfl := Option.some.inj H
 go_enter Try.func77, Try.ntmps77
 go_wp2_with (first | ((with_reducible refine gate_dst (N := 1) rfl ?_); refine ZX (N := 1) (cs := #[.int .i64 a0_0, .int .i64 a0_1, .int .i64 a0_2]) (t := 38) ?_; intro gb698 hg w3 hbox hb; have BK698 := AM (hbox); have GW698 : Za (w.heap.size ≤ gb698) := ZS hg; have GE698 : Za (w.heap.size ≤ gb698) := ZS hg; replace HB := ZT HB hb; clear hb hbox hg; have hcz4 := ZC3 w3 BK698; have hfz4 := ZF3 BK698) | ((with_reducible refine gate_dst (N := 9) rfl ?_); refine Kd.R_lit (Kd.int .i64) _ 3 ?hg (N := 9) ?hd (xs := ([a0_1] : List Int)) (inner := [.int .i64 a0_1]) (ok := fun _ => True) (okp := fun _ => True) ?hr ?hp (fun _ hk => hk) trivial (Below.refl _ _) (Nat.le_refl _) (by simp) ?_; (case hd => rfl); (case hg => rfl); (case hr => first | (go_simp; done) | (go_simp; rfl)); (case hp => exact (Reps.one (show Kd.M (Kd.int .i64) _ _ _ a0_1 [.int .i64 a0_1] from rfl) (Reps.none _ _))); intro v700 w5 ho6 hb hg_ hnew_; clear hg_ hnew_; (first | rw [← Ny699.out] at ho6 | (simp only [Int.reduceToNat] at ho6; rw [← Ny699.out] at ho6)); have HO701 := AM (Kd.R_lower ho6 (below_size (ZB))); replace BK698 := ZW BK698 hb; replace HB := ZT HB hb; clear hb ho6))
 go_ret
 exact ⟨_, ZE, by (with_reducible repeat (first | apply Kd.R_alloc | apply Kd.R_drewN | apply Kd.R_drew)); exact HO701.out, ZB⟩)
 ·(
 rw [if_neg c2] at H
 have c2b0 := beq_eq_false_iff_ne.mpr c2
 have c2b1 := bne_iff_ne.mpr c2
 by_cases c7 : a0_0 = 3
 ·(
 rw [if_pos c7] at H
 have c7b0 := beq_iff_eq.mpr c7
 have c7b1 := bne_eq_false_iff_eq.mpr c7
 clear c7
 obtain ⟨y702, hy702⟩ : ∃ y_ : List Int, y_ = (([a0_1, a0_2] : List Int)) := ⟨_, rfl⟩
 replace H : (some y702) = some r := by first | (rw [hy702]; with_reducible exact H) | (have H2_ := (Option.bind_some _ _).symm.trans H; rw [hy702]; with_reducible exact H2_) | (have H2_ := (Option.bind_some _ _).symm.trans H; with_reducible exact H2_) | with_reducible exact H | (rw [hy702]; exact H) | exact H
 have Ny702 := AM hy702
 clear hy702
 obtain rfl := Option.some.inj H
 go_enter Try.func77, Try.ntmps77
 go_wp2_with (first | ((with_reducible refine gate_dst (N := 1) rfl ?_); refine ZX (N := 1) (cs := #[.int .i64 a0_0, .int .i64 a0_1, .int .i64 a0_2]) (t := 38) ?_; intro gb698 hg w8 hbox hb; have BK698 := AM (hbox); have GW698 : Za (w.heap.size ≤ gb698) := ZS hg; have GE698 : Za (w.heap.size ≤ gb698) := ZS hg; replace HB := ZT HB hb; clear hb hbox hg; have hcz9 := ZC3 w8 BK698; have hfz9 := ZF3 BK698) | ((with_reducible refine gate_dst (N := 17) rfl ?_); refine Kd.R_lit (Kd.int .i64) _ 3 ?hg (N := 17) ?hd (xs := ([a0_1, a0_2] : List Int)) (inner := [.int .i64 a0_1, .int .i64 a0_2]) (ok := fun _ => True) (okp := fun _ => True) ?hr ?hp (fun _ hk => hk) trivial (Below.refl _ _) (Nat.le_refl _) (by simp) ?_; (case hd => rfl); (case hg => rfl); (case hr => first | (go_simp; done) | (go_simp; rfl)); (case hp => exact (Reps.one (show Kd.M (Kd.int .i64) _ _ _ a0_1 [.int .i64 a0_1] from rfl) (Reps.one (show Kd.M (Kd.int .i64) _ _ _ a0_2 [.int .i64 a0_2] from rfl) (Reps.none _ _)))); intro v703 w10 ho11 hb hg_ hnew_; clear hg_ hnew_; (first | rw [← Ny702.out] at ho11 | (simp only [Int.reduceToNat] at ho11; rw [← Ny702.out] at ho11)); have HO704 := AM (Kd.R_lower ho11 (below_size (ZB))); replace BK698 := ZW BK698 hb; replace HB := ZT HB hb; clear hb ho11))
 go_ret
 exact ⟨_, ZE, by (with_reducible repeat (first | apply Kd.R_alloc | apply Kd.R_drewN | apply Kd.R_drew)); exact HO704.out, ZB⟩)
 ·(
 rw [if_neg c7] at H
 have c7b0 := beq_eq_false_iff_ne.mpr c7
 have c7b1 := bne_iff_ne.mpr c7
 by_cases c12 : a0_0 = 4
 ·(
 rw [if_pos c12] at H
 have c12b0 := beq_iff_eq.mpr c12
 have c12b1 := bne_eq_false_iff_eq.mpr c12
 clear c12
 obtain ⟨y705, hy705⟩ : ∃ y_ : List Int, y_ = (([a0_1, a0_2] : List Int)) := ⟨_, rfl⟩
 replace H : (some y705) = some r := by first | (rw [hy705]; with_reducible exact H) | (have H2_ := (Option.bind_some _ _).symm.trans H; rw [hy705]; with_reducible exact H2_) | (have H2_ := (Option.bind_some _ _).symm.trans H; with_reducible exact H2_) | with_reducible exact H | (rw [hy705]; exact H) | exact H
 have Ny705 := AM hy705
 clear hy705
 obtain rfl := Option.some.inj H
 go_enter Try.func77, Try.ntmps77
 go_wp2_with (first | ((with_reducible refine gate_dst (N := 1) rfl ?_); refine ZX (N := 1) (cs := #[.int .i64 a0_0, .int .i64 a0_1, .int .i64 a0_2]) (t := 38) ?_; intro gb698 hg w13 hbox hb; have BK698 := AM (hbox); have GW698 : Za (w.heap.size ≤ gb698) := ZS hg; have GE698 : Za (w.heap.size ≤ gb698) := ZS hg; replace HB := ZT HB hb; clear hb hbox hg; have hcz14 := ZC3 w13 BK698; have hfz14 := ZF3 BK698) | ((with_reducible refine gate_dst (N := 17) rfl ?_); refine Kd.R_lit (Kd.int .i64) _ 3 ?hg (N := 17) ?hd (xs := ([a0_1, a0_2] : List Int)) (inner := [.int .i64 a0_1, .int .i64 a0_2]) (ok := fun _ => True) (okp := fun _ => True) ?hr ?hp (fun _ hk => hk) trivial (Below.refl _ _) (Nat.le_refl _) (by simp) ?_; (case hd => rfl); (case hg => rfl); (case hr => first | (go_simp; done) | (go_simp; rfl)); (case hp => exact (Reps.one (show Kd.M (Kd.int .i64) _ _ _ a0_1 [.int .i64 a0_1] from rfl) (Reps.one (show Kd.M (Kd.int .i64) _ _ _ a0_2 [.int .i64 a0_2] from rfl) (Reps.none _ _)))); intro v706 w15 ho16 hb hg_ hnew_; clear hg_ hnew_; (first | rw [← Ny705.out] at ho16 | (simp only [Int.reduceToNat] at ho16; rw [← Ny705.out] at ho16)); have HO707 := AM (Kd.R_lower ho16 (below_size (ZB))); replace BK698 := ZW BK698 hb; replace HB := ZT HB hb; clear hb ho16))
 go_ret
 exact ⟨_, ZE, by (with_reducible repeat (first | apply Kd.R_alloc | apply Kd.R_drewN | apply Kd.R_drew)); exact HO707.out, ZB⟩)
 ·(
 rw [if_neg c12] at H
 have c12b0 := beq_eq_false_iff_ne.mpr c12
 have c12b1 := bne_iff_ne.mpr c12
 obtain rfl := Option.some.inj H
 go_enter Try.func77, Try.ntmps77
 go_wp2_with (first | ((with_reducible refine gate_dst (N := 1) rfl ?_); refine ZX (N := 1) (cs := #[.int .i64 a0_0, .int .i64 a0_1, .int .i64 a0_2]) (t := 38) ?_; intro gb698 hg w17 hbox hb; have BK698 := AM (hbox); have GW698 : Za (w.heap.size ≤ gb698) := ZS hg; have GE698 : Za (w.heap.size ≤ gb698) := ZS hg; replace HB := ZT HB hb; clear hb hbox hg; have hcz18 := ZC3 w17 BK698; have hfz18 := ZF3 BK698))
 go_ret
 exact ⟨_, ZE, by first | exact Kd.R_nil _ _ _ _ _ | exact Kd.N_nil _ _ _ _ _ | exact Kd.V_nil _ _ _ _ _ | exact Kd.Q_nil _ _ _ _ _ | exact Kd.S_nil _ _ _ _ _, ZB⟩)))

/-! ### impl_Prog_source: function 56 -/
def impl_Prog_source.l0 : Nat → List Int → Int → Int → List (S35) → List (S40) → Int → Int → Option (Int × Int)
 | 0, _, _, _, _, _, _, _ => none
 | k + 1, x11, x12, x13, x709000, x709001, x711000, x711001 => if x13 < x12 then (if 0 ≤ x13 then (if x13 < (x11.length : Int) then (if 0 ≤ (rd x11 x13) then (if (rd x11 x13) < (x709000.length : Int) then ((impl_Label_both.f x711000 x711001 ((D35 x709000 (rd x11 x13)).f0) ((D35 x709000 (rd x11 x13)).f1)).bind fun bt717 => (impl_Prog_source.l0 k x11 x12 (wrap64 (x13 + 1)) x709000 x709001 bt717.1 bt717.2)) else (none)) else (none)) else (none)) else (none)) else (some (x711000, x711001))
def impl_Prog_source.f (k : Nat) (l0_0 : List (S35)) (l0_1 : List (S40)) (a1_0 : Int) (a1_1 : Int) (a1_2 : Int) (a1_3 : Int) (a1_4 : Int) (a1_5 : Int) (l1_6 : List (S40)) (l1_7 : List (S40)) (a2_0 : Int) (a2_1 : Int) : Option (Int × Int) := (impl_Val_vars.f a1_2 a1_3 a1_4).bind fun t712 => (impl_Prog_source.l0 k t712 (t712.length : Int) 0 l0_0 l0_1 a2_0 a2_1)
def impl_Prog_source.T4 : Bool × List (List Nat × List Nat) := (true, [([], []), ([], []), ([1], [1]), ([], []), ([2, 3], [2, 3]), ([4], [4]), ([0, 5], [0, 5]), ([6, 6, 0, 1, 2, 3, 4, 5, 6], [6])])
def impl_Prog_source.B4 : List Nat := [0, 0, 2, 0, 14, 30, 63, 127]
theorem impl_Prog_source.tab4 : rtab .any (opsOf Try.f56 4) = impl_Prog_source.T4 := by kernel_rfl
theorem impl_Prog_source.bits4 : waitsOk impl_Prog_source.T4.2 impl_Prog_source.B4 = true := by kernel_rfl
theorem impl_Prog_source.calls (k : Nat) (A0_0 : Option Addr) (c0_0 : Nat) (l0_0 : List (S35)) (A0_1 : Option Addr) (c0_1 : Nat) (l0_1 : List (S40)) (a1_0 : Int) (a1_1 : Int) (a1_2 : Int) (a1_3 : Int) (a1_4 : Int) (a1_5 : Int) (A1_6 : Option Addr) (c1_6 : Nat) (l1_6 : List (S40)) (A1_7 : Option Addr) (c1_7 : Nat) (l1_7 : List (S40)) (a2_0 : Int) (a2_1 : Int) (r1 : Int) (r2 : Int) (w : World) (hr0_0 : Kd.C k35 w A0_0 l0_0.length l0_0) (hc0_0 : l0_0.length ≤ c0_0) (hr0_1 : Kd.C k40 w A0_1 l0_1.length l0_1) (hc0_1 : l0_1.length ≤ c0_1) (hr1_6 : Kd.C k40 w A1_6 l1_6.length l1_6) (hc1_6 : l1_6.length ≤ c1_6) (hr1_7 : Kd.C k40 w A1_7 l1_7.length l1_7) (hc1_7 : l1_7.length ≤ c1_7) (h : impl_Prog_source.f k l0_0 l0_1 a1_0 a1_1 a1_2 a1_3 a1_4 a1_5 l1_6 l1_7 a2_0 a2_1 = some (r1, r2)) :
  Calls Try.prog 56 #[.agg #[.slice A0_0 l0_0.length c0_0, .slice A0_1 l0_1.length c0_1], .agg #[.int .i64 a1_0, .int .i64 a1_1, .int .i64 a1_2, .int .i64 a1_3, .int .i64 a1_4, .int .i64 a1_5, .slice A1_6 l1_6.length c1_6, .slice A1_7 l1_7.length c1_7], .agg #[.int .i64 a2_0, .int .i64 a2_1]] w fun e w' => e = .returned (.agg #[.int .i64 r1, .int .i64 r2]) ∧ Below w.heap.size w w' := by
 have hu26 := Try.underlying26
 have hu40 := Try.underlying40
 have hu35 := Try.underlying35
 have hu38 := Try.underlying38
 have HR0_0 := AM hr0_0
 have HC0_0 := AM hc0_0
 clear hr0_0 hc0_0
 have HR0_1 := AM hr0_1
 have HC0_1 := AM hc0_1
 clear hr0_1 hc0_1
 have HR1_6 := AM hr1_6
 have HC1_6 := AM hc1_6
 clear hr1_6 hc1_6
 have HR1_7 := AM hr1_7
 have HC1_7 := AM hc1_7
 clear hr1_7 hc1_7
 have HB := AM (Below.refl w.heap.size w)
 have H := h
 unfold impl_Prog_source.f at H
 clear h
 obtain ⟨t712, A4, H⟩ := ZOB H; try dsimp only at H
 have H' := AM H
 clear H
 go_enter Try.func56, Try.ntmps56
 go_wp2_with (first | ((with_reducible refine gate_dst (N := 3) rfl ?_); refine ZX (N := 3) (cs := #[.slice A0_0 l0_0.length c0_0, .slice A0_1 l0_1.length c0_1]) (t := 26) ?_; intro gb708 hg w5 hbox hb; have BK708 := AM (hbox); have GW708 : Za (w.heap.size ≤ gb708) := ZS hg; have GE708 : Za (w.heap.size ≤ gb708) := ZS hg; replace HB := ZT HB hb; clear hb hbox hg) | ((with_reducible refine gate_dst (N := 4) rfl ?_); refine ZX (N := 4) (cs := #[.int .i64 a1_0, .int .i64 a1_1, .int .i64 a1_2, .int .i64 a1_3, .int .i64 a1_4, .int .i64 a1_5, .slice A1_6 l1_6.length c1_6, .slice A1_7 l1_7.length c1_7]) (t := 40) ?_; intro gb709 hg w6 hbox hb; have BK709 := AM (hbox); have GW709 : Za (w.heap.size ≤ gb709) := ZS hg; have GE709 : Za (w.heap.size ≤ gb709) := ZS hg; have NB708_709 : Za (gb708 ≠ gb709) := ZN hg BK708; have NB709_708 : Za (gb709 ≠ gb708) := ZM hg BK708; replace BK708 := ZW BK708 hb; replace HB := ZT HB hb; clear hb hbox hg) | ((with_reducible refine gate_dst (N := 5) rfl ?_); refine ZX (N := 5) (cs := #[.int .i64 a2_0, .int .i64 a2_1]) (t := 35) ?_; intro gb710 hg w7 hbox hb; have BK710 := AM (hbox); have GW710 : Za (w.heap.size ≤ gb710) := ZS hg; have GE710 : Za (w.heap.size ≤ gb710) := ZS hg; have NB708_710 : Za (gb708 ≠ gb710) := ZN hg BK708; have NB710_708 : Za (gb710 ≠ gb708) := ZM hg BK708; have NB709_710 : Za (gb709 ≠ gb710) := ZN hg BK709; have NB710_709 : Za (gb710 ≠ gb709) := ZM hg BK709; replace BK708 := ZW BK708 hb; replace BK709 := ZW BK709 hb; replace HB := ZT HB hb; clear hb hbox hg) | ((with_reducible refine gate_dst (N := 6) rfl ?_); refine ZX (N := 6) (cs := #[.int .i64 0, .int .i64 0]) (t := 35) ?_; intro gb711 hg w8 hbox hb; have BK711 := AM (hbox); have GW711 : Za (w.heap.size ≤ gb711) := ZS hg; have GE711 : Za (w.heap.size ≤ gb711) := ZS hg; have NB708_711 : Za (gb708 ≠ gb711) := ZN hg BK708; have NB711_708 : Za (gb711 ≠ gb708) := ZM hg BK708; have NB709_711 : Za (gb709 ≠ gb711) := ZN hg BK709; have NB711_709 : Za (gb711 ≠ gb709) := ZM hg BK709; have NB710_711 : Za (gb710 ≠ gb711) := ZN hg BK710; have NB711_710 : Za (gb711 ≠ gb710) := ZM hg BK710; replace BK708 := ZW BK708 hb; replace BK709 := ZW BK709 hb; replace BK710 := ZW BK710 hb; replace HB := ZT HB hb; clear hb hbox hg; have hnb9 := NB709_708.out; have hnc9 := NB708_709.out; have hnb10 := NB709_710.out; have hnc10 := NB710_709.out; have hnb11 := NB709_711.out; have hnc11 := NB711_709.out; have hcz12 := ZC8 w8 BK709; have hfz12 := ZF8 BK709) | ((with_reducible refine gate_callee (f := 77) rfl ?_); refine ZGL (some 11) Try.func77 #[.agg #[.int .i64 a1_2, .int .i64 a1_3, .int .i64 a1_4]] ?_; (with_reducible refine (impl_Val_vars.calls a1_2 a1_3 a1_4 t712 _ A4.out).mono ?_); rintro e w13 ⟨v713, rfl, ho0, hb⟩; refine ⟨_, rfl, ?_⟩; have HO714 := AM (Kd.R_lower ho0 (below_size (ZB))); replace BK708 := ZW BK708 hb; replace BK709 := ZW BK709 hb; replace BK710 := ZW BK710 hb; replace BK711 := ZW BK711 hb; replace HB := ZT HB hb; clear hb; (try clear ho0); obtain ⟨Ao14, co14, eo14⟩ := Kd.R_slice HO714.out; subst eo14))
 go_loopg [13] k (fun kq v13 w' => ∃ (x13_1 : Int) (x711000_1 : Int) (x711001_1 : Int), v13 = .int .i64 x13_1 ∧ Za (impl_Prog_source.l0 kq t712 (t712.length : Int) x13_1 l0_0 l0_1 x711000_1 x711001_1 = some (r1, r2)) ∧ Za (kq ≤ k) ∧ Za (Kd.R (Kd.int .i64) 3 w' w.heap.size (fun _ => True) (.slice Ao14 t712.length co14) t712) ∧ Za (w'.heap[gb708]? = some (.cells #[(.slice A0_0 l0_0.length c0_0), (.slice A0_1 l0_1.length c0_1)] 26 (0, 0))) ∧ Za (w'.heap[gb709]? = some (.cells #[.int .i64 a1_0, .int .i64 a1_1, .int .i64 a1_2, .int .i64 a1_3, .int .i64 a1_4, .int .i64 a1_5, (.slice A1_6 l1_6.length c1_6), (.slice A1_7 l1_7.length c1_7)] 40 (0, 0))) ∧ Za (w'.heap[gb710]? = some (.cells #[.int .i64 x711000_1, .int .i64 x711001_1] 35 (0, 0))) ∧ Za (w'.heap[gb711]? = some (.cells #[.int .i64 0, .int .i64 0] 35 (0, 0))) ∧ Za (Below w.heap.size w w'))
 case atStart => exact ⟨(0), (a2_0), (a2_1), (by first | rfl | (simp; done) | (simp [*]; done)), H', ⟨Nat.le_refl _⟩, ⟨ZR HO714.out⟩, ⟨ZK BK708.out⟩, ⟨ZK BK709.out⟩, ⟨ZK BK710.out⟩, ⟨ZK BK711.out⟩, ⟨ZB⟩⟩
 case round => (
 clear H'
 try clear c1
 try clear p2
 try clear c5
 try clear c7
 try clear c9
 try clear c10
 try clear c11
 try clear hcz12
 try clear hfz12
 obtain ⟨x13_1, x711000_1, x711001_1, rfl, HA, HK1, HO_11, BK708, BK709, BK710, BK711, HB⟩ := hrel
 cases gk with
 | zero => exact absurd HA.out (by simp [impl_Prog_source.l0])
 | succ k1 =>
  have H := HA.out
  clear HA
  simp only [impl_Prog_source.l0] at H
  by_cases c15 : x13_1 < (t712.length : Int)
  ·(
  rw [if_pos c15] at H
  have c15b0 := decide_eq_true c15
  clear c15
  by_cases c16 : 0 ≤ x13_1
  ·(
  rw [if_pos c16] at H
  have c16b0 := decide_eq_true c16
  clear c16
  by_cases c17 : x13_1 < (t712.length : Int)
  ·(
  rw [if_pos c17] at H
  have c17b0 := decide_eq_true c17
  clear c17
  by_cases c18 : 0 ≤ (rd t712 x13_1)
  ·(
  rw [if_pos c18] at H
  have c18b0 := decide_eq_true c18
  clear c18
  by_cases c19 : (rd t712 x13_1) < (l0_0.length : Int)
  ·(
  rw [if_pos c19] at H
  have c19b0 := decide_eq_true c19
  clear c19
  obtain ⟨⟨t717, t718⟩, A20, H⟩ := ZOB H; try dsimp only at H
  have H' := AM H
  clear H
  have p715 : 0 ≤ (x13_1 : Int) := ZD
  have q715 : x13_1 < (t712.length : Int) := ZD
  obtain ⟨ad715, e715, hx715_0⟩ := Kd.at_int (Kd.R_reads' HO_11.out).2.2 x13_1 p715 q715
  cases e715
  replace p715 := eq_true p715
  replace q715 := eq_true q715
  try go_wp2
  replace HO_11 := AM (Kd.R_drew HO_11.out)
  replace BK708 := AM (blk_drew BK708.out)
  replace BK709 := AM (blk_drew BK709.out)
  replace BK710 := AM (blk_drew BK710.out)
  replace BK711 := AM (blk_drew BK711.out)
  replace HB := AM (below_drew1 HB.out)
  have p716 : 0 ≤ ((rd t712 x13_1) : Int) := ZD
  have q716 : (rd t712 x13_1) < (l0_0.length : Int) := ZD
  obtain ⟨ad716, e716, hx716_0, hx716_1⟩ := at_T35 HR0_0.out (rd t712 x13_1) p716 q716
  have hw716_1 := hx716_1
  have hw716_0 := hx716_0
  cases e716
  replace hx716_0 := ZHX HB hx716_0
  replace hx716_1 := ZHX HB hx716_1
  replace p716 := eq_true p716
  replace q716 := eq_true q716
  refine start_ (n := 8) (S := fun w' => w'.cell? ⟨gb710, 0, none⟩ = some (.int .i64 x711000_1) ∧ w'.cell? ⟨gb710, 1, none⟩ = some (.int .i64 x711001_1) ∧ w'.cell? ⟨gb708, 0, none⟩ = some (.slice (some ad716) l0_0.length c0_0) ∧ w'.cell? ⟨gb708, 1, none⟩ = some (.slice A0_1 l0_1.length c0_1) ∧ w'.cell? (ad716.add (((rd t712 x13_1)).toNat * 2)) = some (.int .i64 ((D35 l0_0 (rd t712 x13_1)).f0)) ∧ w'.cell? ⟨(ad716.add (((rd t712 x13_1)).toNat * 2)).block, (ad716.add (((rd t712 x13_1)).toNat * 2)).off + 1, none⟩ = some (.int .i64 ((D35 l0_0 (rd t712 x13_1)).f1))) (ds := [7]) #[F,F,F,F,F,F,F,F] (by kernel_rfl) rfl rfl ⟨ZA BK710 0, ZA BK710 1, ZA BK708 0, ZA BK708 1, ((HB.out.cell (World.block_lt_of_cell? w _ hw716_0)).trans hw716_0), ((HB.out.cell (World.block_lt_of_cell? w _ hw716_1)).trans hw716_1)⟩ (fun hHeld => ?_); refine with_tabW impl_Prog_source.tab4 impl_Prog_source.bits4 (fun HT_ HW_ => ?_)
  generalize wr.drew = w21 at HO_11 BK708 BK709 BK710 BK711 HB hx716_0 hx716_1 hHeld ⊢
  refine ZU 1 18 #[F,T,F,F,F,F,F,F] ?_
  refine ZU 3 20 #[F,T,F,T,F,F,F,F] ?_
  refine ZTK 0 17 #[T,T,F,T,F,F,F,F] hHeld ?_
  refine ZTK 2 19 #[T,T,T,T,F,F,F,F] hHeld ?_
  refine ZU 4 21 #[T,T,T,T,T,F,F,F] ?_
  refine ZTK 5 22 #[T,T,T,T,T,T,F,F] hHeld ?_
  refine one_ (i := 6) (N := some 23) #[T,T,T,T,T,T,T,F] rfl rfl (one_of HT_.out (by kernel_rfl)) (by decide) (fun K hK => ?_)
  refine ZGO Try.func76 #[.agg #[.int .i64 x711000_1, .int .i64 x711001_1], .agg #[.int .i64 ((D35 l0_0 (rd t712 x13_1)).f0), .int .i64 ((D35 l0_0 (rd t712 x13_1)).f1)]] ?_
  with_reducible refine (impl_Label_both.calls x711000_1 x711001_1 ((D35 l0_0 (rd t712 x13_1)).f0) ((D35 l0_0 (rd t712 x13_1)).f1) t717 t718 _ A20.out).mono ?_
  rintro e w22 ⟨rfl, hb⟩
  refine ⟨_, rfl, ?_⟩
  replace HO_11 := AM (Kd.R_below (ZR HO_11.out) hb)
  replace BK708 := ZW BK708 hb
  replace BK709 := ZW BK709 hb
  replace BK710 := ZW BK710 hb
  replace BK711 := ZW BK711 hb
  replace HB := ZT HB hb
  (try clear hb)
  (try clear hb2)
  (try clear hk)
  (try clear hi)
  refine hK.out _ _ ⟨ZA BK710 0, ZA BK710 1, ZA BK708 0, ZA BK708 1, ((HB.out.cell (World.block_lt_of_cell? w _ hw716_0)).trans hw716_0), ((HB.out.cell (World.block_lt_of_cell? w _ hw716_1)).trans hw716_1)⟩ (fun hHeld => ?_)
  clear hK K
  refine ZNO 23 ?_
  refine last_ (i := 7) (N := none) #[T,T,T,T,T,T,T,T] rfl rfl (one_of HT_.out (by kernel_rfl)) (by decide) (fun K hK => ?_)
  have hs23 : w22.cell? ⟨gb710, 0, none⟩ = some (.int .i64 x711000_1) := ZA BK710 0
  have hfs23 := blk_frozen BK710.out 0
  have hns23_0 := NB708_710.out
  have hns23_1 := NB709_710.out
  have hns23_3 := NB711_710.out
  have hms23_0 := NB710_708.out
  have hms23_1 := NB710_709.out
  have hms23_3 := NB710_711.out
  have hs24 : w22.cell? ⟨gb710, 1, none⟩ = some (.int .i64 x711001_1) := ZA BK710 1
  have hfs24 := blk_frozen BK710.out 1
  have hns24_0 := NB708_710.out
  have hns24_1 := NB709_710.out
  have hns24_3 := NB711_710.out
  have hms24_0 := NB710_708.out
  have hms24_1 := NB710_709.out
  have hms24_3 := NB710_711.out
  refine skip_ (w1 := ?_) (by rfl) rfl ?_ ?_
  rotate_left
  ·(
  go_simp
  rfl)
  refine hK.out _ _ ?_
  clear hK K
  refine done_ (done_of HT_.out (by kernel_rfl)) ?_
  try go_wp2
  go_roundg k1
  case measure => have := HK1.out; omega
  case rel => exact ⟨(wrap64 (x13_1 + 1)), (t717), (t718), (by first | rfl | (simp; done) | (simp [*]; done)), H', ⟨by have := HK1.out; omega⟩, ⟨ZR (Kd.R_mono (Kd.R_far (p := ⟨gb710, 1, none⟩) (Kd.R_far (p := ⟨gb710, 0, none⟩) (Kd.R_types HO_11.out BK710.out (by decide)) (fun _ hk => hk.2) (.int .i64 t717)) (fun _ hk => hk.2) (.int .i64 t718)) (fun _ hk => trivial))⟩, ⟨ZZ BK708.out⟩, ⟨ZZ BK709.out⟩, ⟨ZZ BK710.out⟩, ⟨ZZ BK711.out⟩, ⟨ZB⟩⟩)
  ·(
  rw [if_neg c19] at H
  exact absurd H (by simp)))
  ·(
  rw [if_neg c18] at H
  exact absurd H (by simp)))
  ·(
  rw [if_neg c17] at H
  exact absurd H (by simp)))
  ·(
  rw [if_neg c16] at H
  exact absurd H (by simp)))
  ·(
  rw [if_neg c15] at H
  have c15b0 := decide_eq_false c15
  clear c15
  simp only [Option.some.injEq, Prod.mk.injEq] at H
  obtain ⟨rfl, rfl⟩ := H
  have hnb25 := NB710_708.out
  have hnc25 := NB708_710.out
  have hnb26 := NB710_709.out
  have hnc26 := NB709_710.out
  have hnb27 := NB710_711.out
  have hnc27 := NB711_710.out
  have hcz28 := ZC2 wr BK710
  have hfz28 := ZF2 BK710
  have hnb29 := NB711_708.out
  have hnc29 := NB708_711.out
  have hnb30 := NB711_709.out
  have hnc30 := NB709_711.out
  have hcz31 := ZC2 wr BK711
  have hfz31 := ZF2 BK711
  go_wp2
  refine bodyPost_ret (results_cell_row rfl _ _ gb711 35 #[.int .i64 x711000_1, .int .i64 x711001_1] (0, 0) _ rfl (ZZ BK711.out) Try.underlying35 rfl (by kernel_rfl)) rfl ?_
  exact ⟨ZE, ZB⟩))

/-! ### impl_has: function 57 -/
def impl_has.f (a0 : Int) (a1 : Int) : Option (Bool) := (impl_isHost.f a1).bind fun t719 => (if t719 = true then (if 0 ≤ a1 then (some ((Go.bits .and .i64 (shr .i64 a0 a1) 1) == 1)) else (none)) else (some false))
theorem impl_has.calls (a0 : Int) (a1 : Int) (r : Bool) (w : World) (h : impl_has.f a0 a1 = some r) :
  Calls Try.prog 57 #[.int .i64 a0, .int .i64 a1] w fun e w' => e = .returned (.bool r) ∧ Drawn0 w w' := by
 have H := h
 unfold impl_has.f at H
 clear h
 obtain ⟨t719, A3, H⟩ := ZOB H; try dsimp only at H
 by_cases c4 : t719 = true
 ·(
 subst c4
 have H1 := H; rw [if_pos rfl] at H1
 clear H
 have H := H1
 clear H1
 by_cases c5 : 0 ≤ a1
 ·(
 rw [if_pos c5] at H
 have c5b0 := eq_true c5
 have c5b1 := decide_eq_true c5
 clear c5
 obtain ⟨ji6, hji6⟩ : ∃ j_ : Int, (shr .i64 a0 a1) = j_ := ⟨_, rfl⟩
 replace H : (some ((Go.bits .and .i64 (ji6) 1) == 1)) = some r := by first | (rw [hji6] at H; exact H) | (simp only [hji6] at H ⊢; exact H)
 (try rw [hji6] at A3)
 have hji6_ : (a0 / 2 ^ min a1.toNat 64) = ji6 := hji6
 have hji6z : a1 ≤ 64 → (a0 / 2 ^ a1.toNat) = ji6 := shr_small hji6
 obtain rfl := Option.some.inj H
 go_enter Try.func57, Try.ntmps57
 go_wp2_with (first | ((with_reducible refine gate_callee (f := 68) rfl ?_); refine ZGL (some 6) Try.func68 #[.int .i64 a1] ?_; (with_reducible refine (impl_isHost.calls a1 true _ A3.out).mono ?_); rintro e w' ⟨rfl, ⟨nd, rfl⟩⟩; refine ⟨_, rfl, ?_⟩))
 go_ret
 exact ⟨by first | rfl | (simp; done) | (simp only [← hji6] <;> (first | rfl | simp)) | (simp [*]; done), by repeat (first | exact Drawn0.refl _ | apply Drawn0.step)⟩)
 ·(
 rw [if_neg c5] at H
 exact absurd H (by simp)))
 ·(
 replace c4 := Bool.eq_false_iff.mpr c4
 subst c4
 have H1 := H; rw [if_neg ZFT] at H1
 clear H
 have H := H1
 clear H1
 obtain rfl := Option.some.inj H
 go_enter Try.func57, Try.ntmps57
 go_wp2_with (first | ((with_reducible refine gate_callee (f := 68) rfl ?_); refine ZGL (some 6) Try.func68 #[.int .i64 a1] ?_; (with_reducible refine (impl_isHost.calls a1 false _ A3.out).mono ?_); rintro e w' ⟨rfl, ⟨nd, rfl⟩⟩; refine ⟨_, rfl, ?_⟩))
 go_ret
 exact ⟨by first | rfl | (simp; done) | (simp [*]; done), by repeat (first | exact Drawn0.refl _ | apply Drawn0.step)⟩)

end Go.Proofs.Ytkkdeojbkfjlpaa.A
