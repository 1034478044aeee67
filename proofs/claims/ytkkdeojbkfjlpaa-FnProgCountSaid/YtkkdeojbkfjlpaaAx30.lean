/- Go functions as Lean functions, and for each its contract; written by wip/tools/pr.py over the kit's print. -/
import Derived.Test.YtkkdeojbkfjlpaaAx0
import Derived.Test.YtkkdeojbkfjlpaaAx7
import Derived.Test.YtkkdeojbkfjlpaaAx9
import Derived.Test.YtkkdeojbkfjlpaaAx27
import Derived.Test.YtkkdeojbkfjlpaaAx29
namespace Go.Proofs.Ytkkdeojbkfjlpaa.A
open Go.RowKit Go.Proofs.YtkkdeojbkfjlpaaW.PrintWords Go.Proofs.YtkkdeojbkfjlpaaW.PrintLast Go.Proofs.YtkkdeojbkfjlpaaW.PrintMore
attribute [local go_sem] max2_int min2_int max_two min_two max_three min_three max_four min_four
set_option linter.unusedVariables false
set_option linter.unusedSimpArgs false
set_option maxHeartbeats 8000000
set_option maxRecDepth 100000

/-! ### laws_FnProgCount: function 5 -/
def laws_FnProgCount.f (k : Nat) (l0 : List Int) : Option (Bool) := if (l0.length : Int) > 1048576 then (some true) else ((spec_DrawProgAt.f k l0).bind fun bt673 => ((spec_ProgAt.f k bt673.1 bt673.2.1 bt673.2.2).bind fun bt681 => ((impl_ProgAt.f k bt673.1 bt673.2.1 bt673.2.2).bind fun bt695 => (if (bt695.2.2.2.2.2.2.2.2 == bt681.2.2.2.2.2.2.2.2) = true then (if bt673.2.2 ≥ 0 then ((impl_ProgSize.f k bt673.1 bt673.2.1).bind fun t709 => (if (bt695.2.2.2.2.2.2.2.2 == (decide (bt673.2.2 < t709))) = true then ((impl_TypeAt.f k bt673.1 bt673.2.1).bind fun t710 => ((impl_ProgSize.f k bt673.1 bt673.2.1).bind fun t713 => (if (t710.length : Int) = (mx t713 0) then ((impl_TypeSets.f k bt673.1 bt673.2.1).bind fun t714 => ((impl_ProgSize.f k bt673.1 bt673.2.1).bind fun t717 => (some ((t714.length : Int) == (mx t717 0))))) else (none)))) else (none))) else (if (bt695.2.2.2.2.2.2.2.2 == false) = true then ((impl_TypeAt.f k bt673.1 bt673.2.1).bind fun t718 => ((impl_ProgSize.f k bt673.1 bt673.2.1).bind fun t721 => (if (t718.length : Int) = (mx t721 0) then ((impl_TypeSets.f k bt673.1 bt673.2.1).bind fun t722 => ((impl_ProgSize.f k bt673.1 bt673.2.1).bind fun t725 => (some ((t722.length : Int) == (mx t725 0))))) else (none)))) else (none))) else (none)))))
def laws_FnProgCount.T6 : Bool × List (List Nat × List Nat) := (true, [([], []), ([], []), ([0, 1], [0, 1]), ([2], [2]), ([3], [3]), ([3], [3]), ([5, 3], [3, 5]), ([6, 3, 3], [3, 6]), ([7], [7]), ([7], [7]), ([9, 7, 7], [7, 9]), ([8, 10, 7], [7, 8, 10]), ([7, 11, 3], [3, 7, 11]), ([4, 12, 3], [3, 4, 12]), ([3, 13], [3, 13]), ([14, 10], [14]), ([15], [15]), ([16, 15, 15], [15, 16]), ([17, 15], [15, 17]), ([15], [15]), ([19, 17, 15], [15, 19]), ([20, 15], [15, 20]), ([18, 21, 15], [15, 18, 21]), ([15, 22], [15, 22]), ([23, 20], [23]), ([24], [24]), ([25, 24, 24], [24, 25]), ([26, 24], [24, 26]), ([24], [24]), ([28, 26, 24], [24, 28]), ([29, 24], [24, 29]), ([27, 30, 24], [24, 27, 30]), ([24, 31], [24, 31]), ([32, 29, 0, 1, 2, 3, 4, 5, 6, 7, 8, 9, 10, 11, 12, 13, 14, 15, 16, 17, 18, 19, 20, 21, 22, 23, 24, 25, 26, 27, 28, 29, 30, 31, 32], [32])])
def laws_FnProgCount.B6 : List Nat := [0, 0, 3, 7, 15, 15, 47, 111, 239, 239, 751, 2031, 4079, 8191, 16383, 32767, 65535, 131071, 262143, 65535, 786431, 1835007, 4194303, 8388607, 16777215, 33554431, 67108863, 134217727, 33554431, 402653183, 939524095, 2147483647, 4294967295, 8589934591]
theorem laws_FnProgCount.tab6 : rtab .any (opsOf Try.f5 6) = laws_FnProgCount.T6 := by kernel_rfl
theorem laws_FnProgCount.bits6 : waitsOk laws_FnProgCount.T6.2 laws_FnProgCount.B6 = true := by kernel_rfl
theorem laws_FnProgCount.calls (k : Nat) (A0 : Option Addr) (c0 : Nat) (l0 : List Int) (r : Bool) (w : World) (hr0 : Kd.C (Kd.int .u8) w A0 l0.length l0) (hc0 : l0.length ≤ c0) (h : laws_FnProgCount.f k l0 = some r) :
  Calls Try.prog 5 #[.slice A0 l0.length c0] w fun e w' => e = .returned (.bool r) ∧ Below w.heap.size w w' := by
 have hu26 := Try.underlying26
 have hu40 := Try.underlying40
 have HR0 := AM hr0
 have HC0 := AM hc0
 clear hr0 hc0
 have HB := AM (Below.refl w.heap.size w)
 have H := h
 unfold laws_FnProgCount.f at H
 clear h
 by_cases c2 : (l0.length : Int) > 1048576
 ·(
 rw [if_pos c2] at H
 have c2b0 := decide_eq_true c2
 have c2b1 : decide (1048576 < l0.length) = true := decide_eq_true (by omega)
 clear c2
 obtain rfl := Option.some.inj H
 go_enter Try.func5, Try.ntmps5
 go_wp2
 go_ret
 exact ⟨ZE, ZB⟩)
 ·(
 rw [if_neg c2] at H
 have c2b0 := decide_eq_false c2
 have c2b1 : decide (1048576 < l0.length) = false := decide_eq_false (by omega)
 clear c2
 obtain ⟨⟨t673, t676, t679⟩, A3, H⟩ := ZOB H; try dsimp only at H
 obtain ⟨⟨t681, t682, t683, t684, t685, t686, t687, t690, t693⟩, A4, H⟩ := ZOB H; try dsimp only at H
 obtain ⟨⟨t695, t696, t697, t698, t699, t700, t701, t704, t707⟩, A5, H⟩ := ZOB H; try dsimp only at H
 by_cases c6 : (t707 == t693) = true
 ·(
 rw [if_pos c6] at H
 have c6b0 : (t707 == t693) = true := c6
 (try (have c6b1 : decide (t707 = t693) = true := by simpa using c6))
 (try (have c6b2 : (t707 == t693) = true := by simpa using c6))
 clear c6
 by_cases c7 : t679 ≥ 0
 ·(
 rw [if_pos c7] at H
 have c7b0 := decide_eq_true c7
 clear c7
 obtain ⟨t709, A8, H⟩ := ZOB H; try dsimp only at H
 by_cases c9 : (t707 == (decide (t679 < t709))) = true
 ·(
 rw [if_pos c9] at H
 have c9b0 : (t707 == (decide (t679 < t709))) = true := c9
 (try (have c9b1 : decide (t707 = (decide (t679 < t709))) = true := by simpa using c9))
 (try (have c9b2 : (t707 == (decide (t679 < t709))) = true := by simpa using c9))
 clear c9
 obtain ⟨t710, A10, H⟩ := ZOB H; try dsimp only at H
 obtain ⟨t713, A11, H⟩ := ZOB H; try dsimp only at H
 obtain ⟨ji12, hji12⟩ : ∃ j_ : Int, (mx t713 0) = j_ := ⟨_, rfl⟩
 replace H : (if (t710.length : Int) = (ji12) then ((impl_TypeSets.f k t673 t676).bind fun t714 => ((impl_ProgSize.f k t673 t676).bind fun t717 => (some ((t714.length : Int) == (mx t717 0))))) else (none)) = some r := by first | (rw [hji12] at H; exact H) | (simp only [hji12] at H ⊢; exact H)
 (try rw [hji12] at A3)
 (try rw [hji12] at A4)
 (try rw [hji12] at A5)
 (try rw [hji12] at A8)
 (try rw [hji12] at A10)
 (try rw [hji12] at A11)
 (try (have hji12l : 0 ≤ ji12 := by (rw [← hji12]; unfold mx; (repeat' split) <;> omega)))
 (try (have hji12m : 0 ≤ ji12 := by omega))
 have hji12_ : (if t713 < 0 then 0 else t713) = ji12 := hji12
 by_cases c13 : (t710.length : Int) = (ji12)
 ·(
 rw [if_pos c13] at H
 have c13b0 := beq_iff_eq.mpr c13
 have c13b1 := bne_eq_false_iff_eq.mpr c13
 clear c13
 obtain ⟨t714, A14, H⟩ := ZOB H; try dsimp only at H
 obtain ⟨t717, A15, H⟩ := ZOB H; try dsimp only at H
 obtain ⟨ji16, hji16⟩ : ∃ j_ : Int, (mx t717 0) = j_ := ⟨_, rfl⟩
 replace H : (some ((t714.length : Int) == (ji16))) = some r := by first | (rw [hji16] at H; exact H) | (simp only [hji16] at H ⊢; exact H)
 (try rw [hji16] at A3)
 (try rw [hji16] at A4)
 (try rw [hji16] at A5)
 (try rw [hji16] at A8)
 (try rw [hji16] at A10)
 (try rw [hji16] at A11)
 (try rw [hji16] at A14)
 (try rw [hji16] at A15)
 (try (have hji16l : 0 ≤ ji16 := by (rw [← hji16]; unfold mx; (repeat' split) <;> omega)))
 (try (have hji16m : 0 ≤ ji16 := by omega))
 have hji16_ : (if t717 < 0 then 0 else t717) = ji16 := hji16
 obtain rfl := Option.some.inj H
 go_enter Try.func5, Try.ntmps5
 try go_wp2_with (first | ((with_reducible refine gate_callee (f := 18) rfl ?_); refine ZGL (some 14) Try.func18 #[.slice A0 l0.length c0] ?_; (with_reducible refine (spec_DrawProgAt.calls k _ _ l0 t673 t676 t679 _ ?side1 HC0.out A3.out).mono ?_); (case side1 => exact ZQ HR0.out); rintro e w17 ⟨v674, v677, rfl, ho0, ho1, hb⟩; refine ZV1 ?_; have HO675 := AM (Kd.R_lower (Kd.R_mono (ok' := fun k_ => True) ho0 (fun _ hk_ => trivial)) (below_size (ZB))); have HO678 := AM (Kd.N_lower (Kd.N_mono (ok' := fun k_ => some k_ ≠ (v674 : Value).ownBlock) ho1 (fun k_ hk_ => hk_.2)) (below_size (ZB))); replace HB := ZT HB hb; clear hb; (try clear ho0); (try clear ho1)) | ((with_reducible refine gate_dst (N := 3) rfl ?_); refine ZXW w (N := 3) (cs := #[.slice none 0 0, .slice none 0 0]) (t := 26) ?_; intro gb680 hg w18 BK680 GW680 hb; replace HO675 := AM (Kd.R_below (ZR HO675.out) hb); replace HO678 := AM (Kd.N_below (Kd.N_elderB (ZRN HO678.out) gb680 (Nat.le_of_eq hg.symm)) hb); replace HB := ZT HB hb; clear hb hg; obtain ⟨Ao19, co19, eo19⟩ := Kd.R_slice HO675.out; subst eo19; have hcz20 := ZC2 w18 BK680; obtain ⟨Ao21, co21, eo21⟩ := Kd.N_slice HO678.out; subst eo21) | ((with_reducible refine gate_store (t := 26) (p := 3) rfl ?_); refine store_event (t := 26) (p := 3) (v := ?vo_w22) (w1 := ((w18.setCell ⟨gb680, 0, none⟩ (.slice Ao19 t673.length co19)).setCell ⟨gb680, 1, none⟩ (.slice Ao21 t676.length co21))) ?hg ?ho ?hn ?hr ?_; (case ho => rfl); (case hg => rfl); (case hn => rfl); (case hr => first | (go_simp; done) | (go_simp; rfl)); intro w22 hw; have n0_ : Za (Kd.R k35 35 w22 w.heap.size (fun _ => True) (.slice Ao19 t673.length co19) t673) := ⟨(by rw [hw]; exact (ZRf (Kd.R_types HO675.out BK680.out (by decide)) (fun _ hk => ⟨hk.2, trivial⟩)))⟩; have n1_ : Za (Kd.N k40 40 w22 w.heap.size (fun k_ => some k_ ≠ (.slice Ao19 t673.length co19 : Value).ownBlock ∧ k_ ≠ gb680) (.slice Ao21 t676.length co21) t676) := ⟨(by rw [hw]; exact (ZNf (Kd.N_mono HO678.out (fun k_ hk => (⟨hk, hk.2⟩ : _ ∧ k_ ≠ gb680))) (fun _ hk => ⟨hk.2, ⟨hk.1.1, hk.1.2⟩⟩)))⟩; have n2_ : Za (w22.heap[gb680]? = some (.cells #[.slice Ao19 t673.length co19, .slice Ao21 t676.length co21] 26 (0, 0))) := ⟨(by rw [hw]; exact (ZZ BK680.out))⟩; have n3_ : Za (Below w.heap.size w w22) := ⟨(by rw [hw]; exact (ZB))⟩; clear hw HO675 HO678 BK680 HB; have HO675 := n0_; have HO678 := n1_; have BK680 := n2_; have HB := n3_; clear n0_ n1_ n2_ n3_; have hcz23 := ZC2 w22 BK680) | ((with_reducible refine gate_callee (f := 19) rfl ?_); refine ZGL (some 20) Try.func19 #[.agg #[.slice Ao19 t673.length co19, .slice Ao21 t676.length co21], .int .i64 t679] ?_; (with_reducible refine (spec_ProgAt.calls k _ _ t673 (fun k_ => (some k_ ≠ (.slice Ao19 t673.length co19 : Value).ownBlock ∧ k_ ≠ gb680)) _ _ t676 t679 t681 t682 t683 t684 t685 t686 t687 t690 t693 _ ?side1 ?side2 ?side3 A4.out).mono ?_); (case side1 => exact ZQ ((Kd.R_reads' HO675.out).2.2)); (case side2 => exact (Kd.R_reads' HO675.out).2.1); (case side3 => exact Kd.N_V (HO678.out)); rintro e w24 ⟨v688, v691, rfl, ho0, ho1, hb⟩; refine ZV1 ?_; have HO689 := AM (Kd.V_lower (Kd.V_mono (ok' := fun k_ => some k_ ≠ (.slice Ao19 t673.length co19 : Value).ownBlock ∧ k_ ≠ gb680) ho0 (fun k_ hk_ => ⟨Or.elim hk_ (fun hs_ => hs_.1) (fun hn_ => (Kd.fresh' (Kd.R_lt (ZR HO675.out)) k_ hn_)), Or.elim hk_ (fun hs_ => hs_.2) (fun hn_ => (Kd.freshB (g := gb680) (o := .cells #[.slice Ao19 t673.length co19, .slice Ao21 t676.length co21] 26 (0, 0)) (ZK BK680.out) k_ hn_))⟩)) (below_size (ZB))); have HO692 := AM (Kd.V_lower (Kd.V_mono (ok' := fun k_ => some k_ ≠ (.slice Ao19 t673.length co19 : Value).ownBlock ∧ k_ ≠ gb680) ho1 (fun k_ hk_ => ⟨Or.elim hk_ (fun hs_ => hs_.1) (fun hn_ => (Kd.fresh' (Kd.R_lt (ZR HO675.out)) k_ hn_)), Or.elim hk_ (fun hs_ => hs_.2) (fun hn_ => (Kd.freshB (g := gb680) (o := .cells #[.slice Ao19 t673.length co19, .slice Ao21 t676.length co21] 26 (0, 0)) (ZK BK680.out) k_ hn_))⟩)) (below_size (ZB))); replace HO675 := AM (Kd.R_below (ZR HO675.out) hb); replace HO678 := AM (Kd.N_below (ZRN HO678.out) hb); replace BK680 := ZW BK680 hb; replace HB := ZT HB hb; clear hb; (try clear ho0); (try clear ho1)) | ((with_reducible refine gate_dst (N := 5) rfl ?_); refine ZXW w (N := 5) (cs := #[.int .i64 0, .int .i64 0, .int .i64 0, .int .i64 0, .int .i64 0, .int .i64 0, .slice none 0 0, .slice none 0 0]) (t := 40) ?_; intro gb694 hg w25 BK694 GW694 hb; have NB680_694 : Za (gb680 ≠ gb694) := ZN hg BK680; have NB694_680 : Za (gb694 ≠ gb680) := ZM hg BK680; replace HO675 := AM (Kd.R_below (ZR HO675.out) hb); replace HO678 := AM (Kd.N_below (Kd.N_elderB (ZRN HO678.out) gb694 (Nat.le_of_eq hg.symm)) hb); replace HO689 := AM (Kd.V_below (Kd.V_elderB (ZRV HO689.out) gb694 (Nat.le_of_eq hg.symm)) hb); replace HO692 := AM (Kd.V_below (Kd.V_elderB (ZRV HO692.out) gb694 (Nat.le_of_eq hg.symm)) hb); replace BK680 := ZW BK680 hb; replace HB := ZT HB hb; clear hb hg; have hnb26 := NB694_680.out; have hnc26 := NB680_694.out; have hcz27 := ZC8 w25 BK694; obtain ⟨Ao28, co28, eo28⟩ := Kd.V_slice HO689.out; subst eo28; obtain ⟨Ao29, co29, eo29⟩ := Kd.V_slice HO692.out; subst eo29) | ((with_reducible refine gate_store (t := 40) (p := 5) rfl ?_); refine store_event (t := 40) (p := 5) (v := ?vo_w30) (w1 := ((((((((w25.setCell ⟨gb694, 0, none⟩ (.int .i64 t681)).setCell ⟨gb694, 1, none⟩ (.int .i64 t682)).setCell ⟨gb694, 2, none⟩ (.int .i64 t683)).setCell ⟨gb694, 3, none⟩ (.int .i64 t684)).setCell ⟨gb694, 4, none⟩ (.int .i64 t685)).setCell ⟨gb694, 5, none⟩ (.int .i64 t686)).setCell ⟨gb694, 6, none⟩ (.slice Ao28 t687.length co28)).setCell ⟨gb694, 7, none⟩ (.slice Ao29 t690.length co29))) ?hg ?ho ?hn ?hr ?_; (case ho => rfl); (case hg => rfl); (case hn => rfl); (case hr => first | (go_simp; done) | (go_simp; rfl)); intro w30 hw; have n0_ : Za (Kd.R k35 35 w30 w.heap.size (fun _ => True) (.slice Ao19 t673.length co19) t673) := ⟨(by rw [hw]; exact (ZRf (Kd.R_types HO675.out BK694.out (by decide)) (fun _ hk => ⟨hk.2, trivial⟩)))⟩; have n1_ : Za (Kd.N k40 40 w30 w.heap.size (fun k_ => some k_ ≠ (.slice Ao19 t673.length co19 : Value).ownBlock ∧ k_ ≠ gb680 ∧ k_ ≠ gb694) (.slice Ao21 t676.length co21) t676) := ⟨(by rw [hw]; exact (ZNf (Kd.N_mono HO678.out (fun k_ hk => (⟨hk, hk.2⟩ : _ ∧ k_ ≠ gb694))) (fun _ hk => ⟨hk.2, ⟨hk.1.1.1, ⟨hk.1.1.2, hk.1.2⟩⟩⟩)))⟩; have n2_ : Za (Kd.V k40 40 w30 w.heap.size (fun k_ => some k_ ≠ (.slice Ao19 t673.length co19 : Value).ownBlock ∧ k_ ≠ gb680 ∧ k_ ≠ gb694) (.slice Ao28 t687.length co28) t687) := ⟨(by rw [hw]; exact (ZVf (Kd.V_mono HO689.out (fun k_ hk => (⟨hk, hk.2⟩ : _ ∧ k_ ≠ gb694))) (fun _ hk => ⟨hk.2, ⟨hk.1.1.1, ⟨hk.1.1.2, hk.1.2⟩⟩⟩)))⟩; have n3_ : Za (Kd.V k40 40 w30 w.heap.size (fun k_ => some k_ ≠ (.slice Ao19 t673.length co19 : Value).ownBlock ∧ k_ ≠ gb680 ∧ k_ ≠ gb694) (.slice Ao29 t690.length co29) t690) := ⟨(by rw [hw]; exact (ZVf (Kd.V_mono HO692.out (fun k_ hk => (⟨hk, hk.2⟩ : _ ∧ k_ ≠ gb694))) (fun _ hk => ⟨hk.2, ⟨hk.1.1.1, ⟨hk.1.1.2, hk.1.2⟩⟩⟩)))⟩; have n4_ : Za (w30.heap[gb680]? = some (.cells #[.slice Ao19 t673.length co19, .slice Ao21 t676.length co21] 26 (0, 0))) := ⟨(by rw [hw]; exact (ZZ BK680.out))⟩; have n5_ : Za (w30.heap[gb694]? = some (.cells #[.int .i64 t681, .int .i64 t682, .int .i64 t683, .int .i64 t684, .int .i64 t685, .int .i64 t686, .slice Ao28 t687.length co28, .slice Ao29 t690.length co29] 40 (0, 0))) := ⟨(by rw [hw]; exact (ZZ BK694.out))⟩; have n6_ : Za (Below w.heap.size w w30) := ⟨(by rw [hw]; exact (ZB))⟩; clear hw HO675 HO678 HO689 HO692 BK680 BK694 HB; have HO675 := n0_; have HO678 := n1_; have HO689 := n2_; have HO692 := n3_; have BK680 := n4_; have BK694 := n5_; have HB := n6_; clear n0_ n1_ n2_ n3_ n4_ n5_ n6_; have hcz31 := ZC2 w30 BK680) | ((with_reducible refine gate_callee (f := 20) rfl ?_); refine ZGL (some 26) Try.func20 #[.agg #[.slice Ao19 t673.length co19, .slice Ao21 t676.length co21], .int .i64 t679] ?_; (with_reducible refine (impl_ProgAt.calls k _ _ t673 (fun k_ => (some k_ ≠ (.slice Ao19 t673.length co19 : Value).ownBlock ∧ (k_ ≠ gb680 ∧ k_ ≠ gb694))) _ _ t676 t679 t695 t696 t697 t698 t699 t700 t701 t704 t707 _ ?side1 ?side2 ?side3 A5.out).mono ?_); (case side1 => exact ZQ ((Kd.R_reads' HO675.out).2.2)); (case side2 => exact (Kd.R_reads' HO675.out).2.1); (case side3 => exact Kd.N_V (HO678.out)); rintro e w32 ⟨v702, v705, rfl, ho0, ho1, hb⟩; refine ZV1 ?_; have HO703 := AM (Kd.V_lower (Kd.V_mono (ok' := fun k_ => some k_ ≠ (.slice Ao19 t673.length co19 : Value).ownBlock ∧ k_ ≠ gb680 ∧ k_ ≠ gb694) ho0 (fun k_ hk_ => ⟨Or.elim hk_ (fun hs_ => hs_.1) (fun hn_ => (Kd.fresh' (Kd.R_lt (ZR HO675.out)) k_ hn_)), Or.elim hk_ (fun hs_ => hs_.2.1) (fun hn_ => (Kd.freshB (g := gb680) (o := .cells #[.slice Ao19 t673.length co19, .slice Ao21 t676.length co21] 26 (0, 0)) (ZK BK680.out) k_ hn_)), Or.elim hk_ (fun hs_ => hs_.2.2) (fun hn_ => (Kd.freshB (g := gb694) (o := .cells #[.int .i64 t681, .int .i64 t682, .int .i64 t683, .int .i64 t684, .int .i64 t685, .int .i64 t686, .slice Ao28 t687.length co28, .slice Ao29 t690.length co29] 40 (0, 0)) (ZK BK694.out) k_ hn_))⟩)) (below_size (ZB))); have HO706 := AM (Kd.V_lower (Kd.V_mono (ok' := fun k_ => some k_ ≠ (.slice Ao19 t673.length co19 : Value).ownBlock ∧ k_ ≠ gb680 ∧ k_ ≠ gb694) ho1 (fun k_ hk_ => ⟨Or.elim hk_ (fun hs_ => hs_.1) (fun hn_ => (Kd.fresh' (Kd.R_lt (ZR HO675.out)) k_ hn_)), Or.elim hk_ (fun hs_ => hs_.2.1) (fun hn_ => (Kd.freshB (g := gb680) (o := .cells #[.slice Ao19 t673.length co19, .slice Ao21 t676.length co21] 26 (0, 0)) (ZK BK680.out) k_ hn_)), Or.elim hk_ (fun hs_ => hs_.2.2) (fun hn_ => (Kd.freshB (g := gb694) (o := .cells #[.int .i64 t681, .int .i64 t682, .int .i64 t683, .int .i64 t684, .int .i64 t685, .int .i64 t686, .slice Ao28 t687.length co28, .slice Ao29 t690.length co29] 40 (0, 0)) (ZK BK694.out) k_ hn_))⟩)) (below_size (ZB))); replace HO675 := AM (Kd.R_below (ZR HO675.out) hb); replace HO678 := AM (Kd.N_below (ZRN HO678.out) hb); replace HO689 := AM (Kd.V_below (ZRV HO689.out) hb); replace HO692 := AM (Kd.V_below (ZRV HO692.out) hb); replace BK680 := ZW BK680 hb; replace BK694 := ZW BK694 hb; replace HB := ZT HB hb; clear hb; (try clear ho0); (try clear ho1)) | ((with_reducible refine gate_dst (N := 7) rfl ?_); refine ZXW w (N := 7) (cs := #[.int .i64 0, .int .i64 0, .int .i64 0, .int .i64 0, .int .i64 0, .int .i64 0, .slice none 0 0, .slice none 0 0]) (t := 40) ?_; intro gb708 hg w33 BK708 GW708 hb; have NB680_708 : Za (gb680 ≠ gb708) := ZN hg BK680; have NB708_680 : Za (gb708 ≠ gb680) := ZM hg BK680; have NB694_708 : Za (gb694 ≠ gb708) := ZN hg BK694; have NB708_694 : Za (gb708 ≠ gb694) := ZM hg BK694; replace HO675 := AM (Kd.R_below (ZR HO675.out) hb); replace HO678 := AM (Kd.N_below (Kd.N_elderB (ZRN HO678.out) gb708 (Nat.le_of_eq hg.symm)) hb); replace HO689 := AM (Kd.V_below (Kd.V_elderB (ZRV HO689.out) gb708 (Nat.le_of_eq hg.symm)) hb); replace HO692 := AM (Kd.V_below (Kd.V_elderB (ZRV HO692.out) gb708 (Nat.le_of_eq hg.symm)) hb); replace HO703 := AM (Kd.V_below (Kd.V_elderB (ZRV HO703.out) gb708 (Nat.le_of_eq hg.symm)) hb); replace HO706 := AM (Kd.V_below (Kd.V_elderB (ZRV HO706.out) gb708 (Nat.le_of_eq hg.symm)) hb); replace BK680 := ZW BK680 hb; replace BK694 := ZW BK694 hb; replace HB := ZT HB hb; clear hb hg; have hnb34 := NB708_680.out; have hnc34 := NB680_708.out; have hnb35 := NB708_694.out; have hnc35 := NB694_708.out; have hcz36 := ZC8 w33 BK708; obtain ⟨Ao37, co37, eo37⟩ := Kd.V_slice HO703.out; subst eo37; obtain ⟨Ao38, co38, eo38⟩ := Kd.V_slice HO706.out; subst eo38))
 have n0_ : Za (Kd.R k35 35 ((((((((w33.setCell ⟨gb708, 0, none⟩ (.int .i64 t695)).setCell ⟨gb708, 1, none⟩ (.int .i64 t696)).setCell ⟨gb708, 2, none⟩ (.int .i64 t697)).setCell ⟨gb708, 3, none⟩ (.int .i64 t698)).setCell ⟨gb708, 4, none⟩ (.int .i64 t699)).setCell ⟨gb708, 5, none⟩ (.int .i64 t700)).setCell ⟨gb708, 6, none⟩ (.slice Ao37 t701.length co37)).setCell ⟨gb708, 7, none⟩ (.slice Ao38 t704.length co38)) w.heap.size (fun _ => True) (.slice Ao19 t673.length co19) t673) := ⟨ZR (Kd.R_mono (Kd.R_far (p := ⟨gb708, 7, none⟩) (Kd.R_far (p := ⟨gb708, 6, none⟩) (Kd.R_far (p := ⟨gb708, 5, none⟩) (Kd.R_far (p := ⟨gb708, 4, none⟩) (Kd.R_far (p := ⟨gb708, 3, none⟩) (Kd.R_far (p := ⟨gb708, 2, none⟩) (Kd.R_far (p := ⟨gb708, 1, none⟩) (Kd.R_far (p := ⟨gb708, 0, none⟩) (Kd.R_types HO675.out BK708.out (by decide)) (fun _ hk => hk.2) (.int .i64 t695)) (fun _ hk => hk.2) (.int .i64 t696)) (fun _ hk => hk.2) (.int .i64 t697)) (fun _ hk => hk.2) (.int .i64 t698)) (fun _ hk => hk.2) (.int .i64 t699)) (fun _ hk => hk.2) (.int .i64 t700)) (fun _ hk => hk.2) (.slice Ao37 t701.length co37)) (fun _ hk => hk.2) (.slice Ao38 t704.length co38)) (fun _ hk => trivial))⟩
 have n1_ : Za (Kd.N k40 40 ((((((((w33.setCell ⟨gb708, 0, none⟩ (.int .i64 t695)).setCell ⟨gb708, 1, none⟩ (.int .i64 t696)).setCell ⟨gb708, 2, none⟩ (.int .i64 t697)).setCell ⟨gb708, 3, none⟩ (.int .i64 t698)).setCell ⟨gb708, 4, none⟩ (.int .i64 t699)).setCell ⟨gb708, 5, none⟩ (.int .i64 t700)).setCell ⟨gb708, 6, none⟩ (.slice Ao37 t701.length co37)).setCell ⟨gb708, 7, none⟩ (.slice Ao38 t704.length co38)) w.heap.size (fun k_ => some k_ ≠ (.slice Ao19 t673.length co19 : Value).ownBlock ∧ k_ ≠ gb680 ∧ k_ ≠ gb694 ∧ k_ ≠ gb708) (.slice Ao21 t676.length co21) t676) := ⟨ZNf (Kd.N_mono HO678.out (fun k_ hk => (⟨hk, hk.2⟩ : _ ∧ k_ ≠ gb708))) (fun _ hk => ⟨hk.2, ⟨hk.1.1.1, ⟨hk.1.1.2.1, ⟨hk.1.1.2.2, hk.1.2⟩⟩⟩⟩)⟩
 have n2_ : Za (Kd.V k40 40 ((((((((w33.setCell ⟨gb708, 0, none⟩ (.int .i64 t695)).setCell ⟨gb708, 1, none⟩ (.int .i64 t696)).setCell ⟨gb708, 2, none⟩ (.int .i64 t697)).setCell ⟨gb708, 3, none⟩ (.int .i64 t698)).setCell ⟨gb708, 4, none⟩ (.int .i64 t699)).setCell ⟨gb708, 5, none⟩ (.int .i64 t700)).setCell ⟨gb708, 6, none⟩ (.slice Ao37 t701.length co37)).setCell ⟨gb708, 7, none⟩ (.slice Ao38 t704.length co38)) w.heap.size (fun k_ => some k_ ≠ (.slice Ao19 t673.length co19 : Value).ownBlock ∧ k_ ≠ gb680 ∧ k_ ≠ gb694 ∧ k_ ≠ gb708) (.slice Ao28 t687.length co28) t687) := ⟨ZVf (Kd.V_mono HO689.out (fun k_ hk => (⟨hk, hk.2⟩ : _ ∧ k_ ≠ gb708))) (fun _ hk => ⟨hk.2, ⟨hk.1.1.1, ⟨hk.1.1.2.1, ⟨hk.1.1.2.2, hk.1.2⟩⟩⟩⟩)⟩
 have n3_ : Za (Kd.V k40 40 ((((((((w33.setCell ⟨gb708, 0, none⟩ (.int .i64 t695)).setCell ⟨gb708, 1, none⟩ (.int .i64 t696)).setCell ⟨gb708, 2, none⟩ (.int .i64 t697)).setCell ⟨gb708, 3, none⟩ (.int .i64 t698)).setCell ⟨gb708, 4, none⟩ (.int .i64 t699)).setCell ⟨gb708, 5, none⟩ (.int .i64 t700)).setCell ⟨gb708, 6, none⟩ (.slice Ao37 t701.length co37)).setCell ⟨gb708, 7, none⟩ (.slice Ao38 t704.length co38)) w.heap.size (fun k_ => some k_ ≠ (.slice Ao19 t673.length co19 : Value).ownBlock ∧ k_ ≠ gb680 ∧ k_ ≠ gb694 ∧ k_ ≠ gb708) (.slice Ao29 t690.length co29) t690) := ⟨ZVf (Kd.V_mono HO692.out (fun k_ hk => (⟨hk, hk.2⟩ : _ ∧ k_ ≠ gb708))) (fun _ hk => ⟨hk.2, ⟨hk.1.1.1, ⟨hk.1.1.2.1, ⟨hk.1.1.2.2, hk.1.2⟩⟩⟩⟩)⟩
 have n4_ : Za (Kd.V k40 40 ((((((((w33.setCell ⟨gb708, 0, none⟩ (.int .i64 t695)).setCell ⟨gb708, 1, none⟩ (.int .i64 t696)).setCell ⟨gb708, 2, none⟩ (.int .i64 t697)).setCell ⟨gb708, 3, none⟩ (.int .i64 t698)).setCell ⟨gb708, 4, none⟩ (.int .i64 t699)).setCell ⟨gb708, 5, none⟩ (.int .i64 t700)).setCell ⟨gb708, 6, none⟩ (.slice Ao37 t701.length co37)).setCell ⟨gb708, 7, none⟩ (.slice Ao38 t704.length co38)) w.heap.size (fun k_ => some k_ ≠ (.slice Ao19 t673.length co19 : Value).ownBlock ∧ k_ ≠ gb680 ∧ k_ ≠ gb694 ∧ k_ ≠ gb708) (.slice Ao37 t701.length co37) t701) := ⟨ZVf (Kd.V_mono HO703.out (fun k_ hk => (⟨hk, hk.2⟩ : _ ∧ k_ ≠ gb708))) (fun _ hk => ⟨hk.2, ⟨hk.1.1.1, ⟨hk.1.1.2.1, ⟨hk.1.1.2.2, hk.1.2⟩⟩⟩⟩)⟩
 have n5_ : Za (Kd.V k40 40 ((((((((w33.setCell ⟨gb708, 0, none⟩ (.int .i64 t695)).setCell ⟨gb708, 1, none⟩ (.int .i64 t696)).setCell ⟨gb708, 2, none⟩ (.int .i64 t697)).setCell ⟨gb708, 3, none⟩ (.int .i64 t698)).setCell ⟨gb708, 4, none⟩ (.int .i64 t699)).setCell ⟨gb708, 5, none⟩ (.int .i64 t700)).setCell ⟨gb708, 6, none⟩ (.slice Ao37 t701.length co37)).setCell ⟨gb708, 7, none⟩ (.slice Ao38 t704.length co38)) w.heap.size (fun k_ => some k_ ≠ (.slice Ao19 t673.length co19 : Value).ownBlock ∧ k_ ≠ gb680 ∧ k_ ≠ gb694 ∧ k_ ≠ gb708) (.slice Ao38 t704.length co38) t704) := ⟨ZVf (Kd.V_mono HO706.out (fun k_ hk => (⟨hk, hk.2⟩ : _ ∧ k_ ≠ gb708))) (fun _ hk => ⟨hk.2, ⟨hk.1.1.1, ⟨hk.1.1.2.1, ⟨hk.1.1.2.2, hk.1.2⟩⟩⟩⟩)⟩
 have n6_ : Za (((((((((w33.setCell ⟨gb708, 0, none⟩ (.int .i64 t695)).setCell ⟨gb708, 1, none⟩ (.int .i64 t696)).setCell ⟨gb708, 2, none⟩ (.int .i64 t697)).setCell ⟨gb708, 3, none⟩ (.int .i64 t698)).setCell ⟨gb708, 4, none⟩ (.int .i64 t699)).setCell ⟨gb708, 5, none⟩ (.int .i64 t700)).setCell ⟨gb708, 6, none⟩ (.slice Ao37 t701.length co37)).setCell ⟨gb708, 7, none⟩ (.slice Ao38 t704.length co38)).heap[gb680]? = some (.cells #[.slice Ao19 t673.length co19, .slice Ao21 t676.length co21] 26 (0, 0))) := ⟨ZZ BK680.out⟩
 have n7_ : Za (((((((((w33.setCell ⟨gb708, 0, none⟩ (.int .i64 t695)).setCell ⟨gb708, 1, none⟩ (.int .i64 t696)).setCell ⟨gb708, 2, none⟩ (.int .i64 t697)).setCell ⟨gb708, 3, none⟩ (.int .i64 t698)).setCell ⟨gb708, 4, none⟩ (.int .i64 t699)).setCell ⟨gb708, 5, none⟩ (.int .i64 t700)).setCell ⟨gb708, 6, none⟩ (.slice Ao37 t701.length co37)).setCell ⟨gb708, 7, none⟩ (.slice Ao38 t704.length co38)).heap[gb694]? = some (.cells #[.int .i64 t681, .int .i64 t682, .int .i64 t683, .int .i64 t684, .int .i64 t685, .int .i64 t686, .slice Ao28 t687.length co28, .slice Ao29 t690.length co29] 40 (0, 0))) := ⟨ZZ BK694.out⟩
 have n8_ : Za (((((((((w33.setCell ⟨gb708, 0, none⟩ (.int .i64 t695)).setCell ⟨gb708, 1, none⟩ (.int .i64 t696)).setCell ⟨gb708, 2, none⟩ (.int .i64 t697)).setCell ⟨gb708, 3, none⟩ (.int .i64 t698)).setCell ⟨gb708, 4, none⟩ (.int .i64 t699)).setCell ⟨gb708, 5, none⟩ (.int .i64 t700)).setCell ⟨gb708, 6, none⟩ (.slice Ao37 t701.length co37)).setCell ⟨gb708, 7, none⟩ (.slice Ao38 t704.length co38)).heap[gb708]? = some (.cells #[.int .i64 t695, .int .i64 t696, .int .i64 t697, .int .i64 t698, .int .i64 t699, .int .i64 t700, .slice Ao37 t701.length co37, .slice Ao38 t704.length co38] 40 (0, 0))) := ⟨ZZ BK708.out⟩
 have n9_ : Za (Below w.heap.size w ((((((((w33.setCell ⟨gb708, 0, none⟩ (.int .i64 t695)).setCell ⟨gb708, 1, none⟩ (.int .i64 t696)).setCell ⟨gb708, 2, none⟩ (.int .i64 t697)).setCell ⟨gb708, 3, none⟩ (.int .i64 t698)).setCell ⟨gb708, 4, none⟩ (.int .i64 t699)).setCell ⟨gb708, 5, none⟩ (.int .i64 t700)).setCell ⟨gb708, 6, none⟩ (.slice Ao37 t701.length co37)).setCell ⟨gb708, 7, none⟩ (.slice Ao38 t704.length co38))) := ⟨ZB⟩
 (try clear HO675)
 (try clear HO678)
 (try clear HO689)
 (try clear HO692)
 (try clear HO703)
 (try clear HO706)
 (try clear BK680)
 (try clear BK694)
 (try clear BK708)
 (try clear HB)
 generalize ((((((((w33.setCell ⟨gb708, 0, none⟩ (.int .i64 t695)).setCell ⟨gb708, 1, none⟩ (.int .i64 t696)).setCell ⟨gb708, 2, none⟩ (.int .i64 t697)).setCell ⟨gb708, 3, none⟩ (.int .i64 t698)).setCell ⟨gb708, 4, none⟩ (.int .i64 t699)).setCell ⟨gb708, 5, none⟩ (.int .i64 t700)).setCell ⟨gb708, 6, none⟩ (.slice Ao37 t701.length co37)).setCell ⟨gb708, 7, none⟩ (.slice Ao38 t704.length co38)) = w39 at n0_ n1_ n2_ n3_ n4_ n5_ n6_ n7_ n8_ n9_ ⊢
 have HO675 := n0_
 have HO678 := n1_
 have HO689 := n2_
 have HO692 := n3_
 have HO703 := n4_
 have HO706 := n5_
 have BK680 := n6_
 have BK694 := n7_
 have BK708 := n8_
 have HB := n9_
 clear n0_ n1_ n2_ n3_ n4_ n5_ n6_ n7_ n8_ n9_
 replace HO675 := AM (Kd.R_drew HO675.out)
 replace HO678 := AM (Kd.N_drew HO678.out)
 replace HO689 := AM (Kd.V_drew HO689.out)
 replace HO692 := AM (Kd.V_drew HO692.out)
 replace HO703 := AM (Kd.V_drew HO703.out)
 replace HO706 := AM (Kd.V_drew HO706.out)
 replace BK680 := AM (blk_drew BK680.out)
 replace BK694 := AM (blk_drew BK694.out)
 replace BK708 := AM (blk_drew BK708.out)
 replace HB := AM (below_drew1 HB.out)
 refine start_ (n := 34) (S := fun w' => w'.cell? ⟨gb680, 0, none⟩ = some (.slice Ao19 t673.length co19) ∧ w'.cell? ⟨gb680, 1, none⟩ = some (.slice Ao21 t676.length co21)) (ds := []) #[F,F,F,F,F,F,F,F,F,F,F,F,F,F,F,F,F,F,F,F,F,F,F,F,F,F,F,F,F,F,F,F,F,F] (by kernel_rfl) rfl rfl ⟨ZA BK680 0, ZA BK680 1⟩ (fun hHeld => ?_); refine with_tabW laws_FnProgCount.tab6 laws_FnProgCount.bits6 (fun HT_ HW_ => ?_)
 generalize w39.drew = w40 at HO675 HO678 HO689 HO692 HO703 HO706 BK680 BK694 BK708 HB hHeld ⊢
 refine ZU 0 29 #[T,F,F,F,F,F,F,F,F,F,F,F,F,F,F,F,F,F,F,F,F,F,F,F,F,F,F,F,F,F,F,F,F,F] ?_
 refine ZU 1 30 #[T,T,F,F,F,F,F,F,F,F,F,F,F,F,F,F,F,F,F,F,F,F,F,F,F,F,F,F,F,F,F,F,F,F] ?_
 refine ZU 2 31 #[T,T,T,F,F,F,F,F,F,F,F,F,F,F,F,F,F,F,F,F,F,F,F,F,F,F,F,F,F,F,F,F,F,F] ?_
 refine ZU 3 32 #[T,T,T,T,F,F,F,F,F,F,F,F,F,F,F,F,F,F,F,F,F,F,F,F,F,F,F,F,F,F,F,F,F,F] ?_
 refine ZU 4 33 #[T,T,T,T,T,F,F,F,F,F,F,F,F,F,F,F,F,F,F,F,F,F,F,F,F,F,F,F,F,F,F,F,F,F] ?_
 refine ZU 5 34 #[T,T,T,T,T,T,F,F,F,F,F,F,F,F,F,F,F,F,F,F,F,F,F,F,F,F,F,F,F,F,F,F,F,F] ?_
 refine ZU 6 35 #[T,T,T,T,T,T,T,F,F,F,F,F,F,F,F,F,F,F,F,F,F,F,F,F,F,F,F,F,F,F,F,F,F,F] ?_
 refine ZU 7 36 #[T,T,T,T,T,T,T,T,F,F,F,F,F,F,F,F,F,F,F,F,F,F,F,F,F,F,F,F,F,F,F,F,F,F] ?_
 refine ZU 8 37 #[T,T,T,T,T,T,T,T,T,F,F,F,F,F,F,F,F,F,F,F,F,F,F,F,F,F,F,F,F,F,F,F,F,F] ?_
 refine ZTK 9 38 #[T,T,T,T,T,T,T,T,T,T,F,F,F,F,F,F,F,F,F,F,F,F,F,F,F,F,F,F,F,F,F,F,F,F] hHeld ?_
 refine one_ (i := 10) (N := some 39) #[T,T,T,T,T,T,T,T,T,T,T,F,F,F,F,F,F,F,F,F,F,F,F,F,F,F,F,F,F,F,F,F,F,F] rfl rfl (one_of HT_.out (by kernel_rfl)) (by decide) (fun K hK => ?_)
 refine ZGO Try.func21 #[.agg #[.slice Ao19 t673.length co19, .slice Ao21 t676.length co21]] ?_
 with_reducible refine (impl_ProgSize.calls k _ _ t673 _ _ t676 t709 _ ?side1 ?side2 ?side3 ?side4 A8.out).mono ?_
 (case side1 => exact ZQ ((Kd.R_reads' HO675.out).2.2))
 (case side2 => exact (Kd.R_reads' HO675.out).2.1)
 (case side3 => exact ZQ ((Kd.N_reads' HO678.out).2.2))
 (case side4 => exact (Kd.N_reads' HO678.out).2.1)
 rintro e w41 ⟨rfl, hb⟩
 refine ZV1 ?_
 replace HO675 := AM (Kd.R_below (ZR HO675.out) hb)
 replace HO678 := AM (Kd.N_below (ZRN HO678.out) hb)
 replace HO689 := AM (Kd.V_below (ZRV HO689.out) hb)
 replace HO692 := AM (Kd.V_below (ZRV HO692.out) hb)
 replace HO703 := AM (Kd.V_below (ZRV HO703.out) hb)
 replace HO706 := AM (Kd.V_below (ZRV HO706.out) hb)
 replace BK680 := ZW BK680 hb
 replace BK694 := ZW BK694 hb
 replace BK708 := ZW BK708 hb
 replace HB := ZT HB hb
 (try clear hb)
 (try clear hb2)
 (try clear hk)
 (try clear hi)
 refine hK.out _ _ ⟨ZA BK680 0, ZA BK680 1⟩ (fun hHeld => ?_)
 clear hK K
 refine ZNO 39 ?_
 refine ZU 11 40 #[T,T,T,T,T,T,T,T,T,T,T,T,F,F,F,F,F,F,F,F,F,F,F,F,F,F,F,F,F,F,F,F,F,F] ?_
 refine ZU 12 41 #[T,T,T,T,T,T,T,T,T,T,T,T,T,F,F,F,F,F,F,F,F,F,F,F,F,F,F,F,F,F,F,F,F,F] ?_
 refine ZU 13 42 #[T,T,T,T,T,T,T,T,T,T,T,T,T,T,F,F,F,F,F,F,F,F,F,F,F,F,F,F,F,F,F,F,F,F] ?_
 refine ZU 14 43 #[T,T,T,T,T,T,T,T,T,T,T,T,T,T,T,F,F,F,F,F,F,F,F,F,F,F,F,F,F,F,F,F,F,F] ?_
 refine ZU 15 44 #[T,T,T,T,T,T,T,T,T,T,T,T,T,T,T,T,F,F,F,F,F,F,F,F,F,F,F,F,F,F,F,F,F,F] ?_
 refine ZTK 16 45 #[T,T,T,T,T,T,T,T,T,T,T,T,T,T,T,T,T,F,F,F,F,F,F,F,F,F,F,F,F,F,F,F,F,F] hHeld ?_
 refine ZTK 19 48 #[T,T,T,T,T,T,T,T,T,T,T,T,T,T,T,T,T,F,F,T,F,F,F,F,F,F,F,F,F,F,F,F,F,F] hHeld ?_
 refine one_ (i := 17) (N := some 46) #[T,T,T,T,T,T,T,T,T,T,T,T,T,T,T,T,T,T,F,T,F,F,F,F,F,F,F,F,F,F,F,F,F,F] rfl rfl (one_of HT_.out (by kernel_rfl)) (by decide) (fun K hK => ?_)
 refine ZGO Try.func12 #[.agg #[.slice Ao19 t673.length co19, .slice Ao21 t676.length co21]] ?_
 with_reducible refine (impl_TypeAt.calls k _ _ t673 _ _ t676 t710 _ ?side1 ?side2 ?side3 ?side4 A10.out).mono ?_
 (case side1 => exact ZQ ((Kd.R_reads' HO675.out).2.2))
 (case side2 => exact (Kd.R_reads' HO675.out).2.1)
 (case side3 => exact ZQ ((Kd.N_reads' HO678.out).2.2))
 (case side4 => exact (Kd.N_reads' HO678.out).2.1)
 rintro e w42 ⟨v711, rfl, ho0, hb⟩
 refine ZV1 ?_
 have HO712 := AM (Kd.R_lower (Kd.R_new' ho0 (Kd.R_lt (ZR HO675.out))) (below_size (ZB)))
 replace HO675 := AM (Kd.R_elder' (ZR HO675.out) (Kd.R_base ho0) hb)
 replace HO678 := AM (Kd.N_elder' (ZRN HO678.out) (Kd.R_base ho0) hb)
 replace HO689 := AM (Kd.V_elder' (ZRV HO689.out) (Kd.R_base ho0) hb)
 replace HO692 := AM (Kd.V_elder' (ZRV HO692.out) (Kd.R_base ho0) hb)
 replace HO703 := AM (Kd.V_elder' (ZRV HO703.out) (Kd.R_base ho0) hb)
 replace HO706 := AM (Kd.V_elder' (ZRV HO706.out) (Kd.R_base ho0) hb)
 replace BK680 := ZW BK680 hb
 replace BK694 := ZW BK694 hb
 replace BK708 := ZW BK708 hb
 replace HB := ZT HB hb
 (try clear hb)
 (try clear hb2)
 (try clear hk)
 (try clear hi)
 (try clear ho0)
 obtain ⟨Ao43, co43, eo43⟩ := Kd.R_slice HO712.out
 (first | subst eo43 | (injection eo43 with f1_ f2_ f3_; have f4_ := f1_.symm; have f5_ := f3_.symm; clear f1_ f2_ f3_; subst f4_; subst f5_))
 refine hK.out _ _ ⟨ZA BK680 0, ZA BK680 1⟩ (fun hHeld => ?_)
 clear hK K
 refine ZNO 46 ?_
 refine ZU 18 47 #[T,T,T,T,T,T,T,T,T,T,T,T,T,T,T,T,T,T,T,T,F,F,F,F,F,F,F,F,F,F,F,F,F,F] ?_
 refine one_ (i := 20) (N := some 49) #[T,T,T,T,T,T,T,T,T,T,T,T,T,T,T,T,T,T,T,T,T,F,F,F,F,F,F,F,F,F,F,F,F,F] rfl rfl (one_of HT_.out (by kernel_rfl)) (by decide) (fun K hK => ?_)
 refine ZGO Try.func21 #[.agg #[.slice Ao19 t673.length co19, .slice Ao21 t676.length co21]] ?_
 with_reducible refine (impl_ProgSize.calls k _ _ t673 _ _ t676 t713 _ ?side1 ?side2 ?side3 ?side4 A11.out).mono ?_
 (case side1 => exact ZQ ((Kd.R_reads' HO675.out).2.2))
 (case side2 => exact (Kd.R_reads' HO675.out).2.1)
 (case side3 => exact ZQ ((Kd.N_reads' HO678.out).2.2))
 (case side4 => exact (Kd.N_reads' HO678.out).2.1)
 rintro e w44 ⟨rfl, hb⟩
 refine ZV1 ?_
 replace HO675 := AM (Kd.R_below (ZR HO675.out) hb)
 replace HO678 := AM (Kd.N_below (ZRN HO678.out) hb)
 replace HO689 := AM (Kd.V_below (ZRV HO689.out) hb)
 replace HO692 := AM (Kd.V_below (ZRV HO692.out) hb)
 replace HO703 := AM (Kd.V_below (ZRV HO703.out) hb)
 replace HO706 := AM (Kd.V_below (ZRV HO706.out) hb)
 replace HO712 := AM (Kd.R_below (ZR HO712.out) hb)
 replace BK680 := ZW BK680 hb
 replace BK694 := ZW BK694 hb
 replace BK708 := ZW BK708 hb
 replace HB := ZT HB hb
 (try clear hb)
 (try clear hb2)
 (try clear hk)
 (try clear hi)
 refine hK.out _ _ ⟨ZA BK680 0, ZA BK680 1⟩ (fun hHeld => ?_)
 clear hK K
 refine ZNO 49 ?_
 refine ZU 21 50 #[T,T,T,T,T,T,T,T,T,T,T,T,T,T,T,T,T,T,T,T,T,T,F,F,F,F,F,F,F,F,F,F,F,F] ?_
 refine ZU 22 51 #[T,T,T,T,T,T,T,T,T,T,T,T,T,T,T,T,T,T,T,T,T,T,T,F,F,F,F,F,F,F,F,F,F,F] ?_
 refine ZU 23 52 #[T,T,T,T,T,T,T,T,T,T,T,T,T,T,T,T,T,T,T,T,T,T,T,T,F,F,F,F,F,F,F,F,F,F] ?_
 refine ZU 24 53 #[T,T,T,T,T,T,T,T,T,T,T,T,T,T,T,T,T,T,T,T,T,T,T,T,T,F,F,F,F,F,F,F,F,F] ?_
 refine ZTK 25 54 #[T,T,T,T,T,T,T,T,T,T,T,T,T,T,T,T,T,T,T,T,T,T,T,T,T,T,F,F,F,F,F,F,F,F] hHeld ?_
 refine ZTK 28 57 #[T,T,T,T,T,T,T,T,T,T,T,T,T,T,T,T,T,T,T,T,T,T,T,T,T,T,F,F,T,F,F,F,F,F] hHeld ?_
 refine one_ (i := 26) (N := some 55) #[T,T,T,T,T,T,T,T,T,T,T,T,T,T,T,T,T,T,T,T,T,T,T,T,T,T,T,F,T,F,F,F,F,F] rfl rfl (one_of HT_.out (by kernel_rfl)) (by decide) (fun K hK => ?_)
 refine ZGO Try.func8 #[.agg #[.slice Ao19 t673.length co19, .slice Ao21 t676.length co21]] ?_
 with_reducible refine (impl_TypeSets.calls k _ _ t673 _ _ t676 t714 _ ?side1 ?side2 ?side3 ?side4 A14.out).mono ?_
 (case side1 => exact ZQ ((Kd.R_reads' HO675.out).2.2))
 (case side2 => exact (Kd.R_reads' HO675.out).2.1)
 (case side3 => exact ZQ ((Kd.N_reads' HO678.out).2.2))
 (case side4 => exact (Kd.N_reads' HO678.out).2.1)
 rintro e w45 ⟨v715, rfl, ho0, hb⟩
 refine ZV1 ?_
 have HO716 := AM (Kd.R_lower ho0 (below_size (ZB)))
 replace HO675 := AM (Kd.R_below (ZR HO675.out) hb)
 replace HO678 := AM (Kd.N_elder' (ZRN HO678.out) (Kd.R_base ho0) hb)
 replace HO689 := AM (Kd.V_elder' (ZRV HO689.out) (Kd.R_base ho0) hb)
 replace HO692 := AM (Kd.V_elder' (ZRV HO692.out) (Kd.R_base ho0) hb)
 replace HO703 := AM (Kd.V_elder' (ZRV HO703.out) (Kd.R_base ho0) hb)
 replace HO706 := AM (Kd.V_elder' (ZRV HO706.out) (Kd.R_base ho0) hb)
 replace HO712 := AM (Kd.R_below (ZR HO712.out) hb)
 replace BK680 := ZW BK680 hb
 replace BK694 := ZW BK694 hb
 replace BK708 := ZW BK708 hb
 replace HB := ZT HB hb
 (try clear hb)
 (try clear hb2)
 (try clear hk)
 (try clear hi)
 (try clear ho0)
 obtain ⟨Ao46, co46, eo46⟩ := Kd.R_slice HO716.out
 (first | subst eo46 | (injection eo46 with f1_ f2_ f3_; have f4_ := f1_.symm; have f5_ := f3_.symm; clear f1_ f2_ f3_; subst f4_; subst f5_))
 refine hK.out _ _ ⟨ZA BK680 0, ZA BK680 1⟩ (fun hHeld => ?_)
 clear hK K
 refine ZNO 55 ?_
 refine ZU 27 56 #[T,T,T,T,T,T,T,T,T,T,T,T,T,T,T,T,T,T,T,T,T,T,T,T,T,T,T,T,T,F,F,F,F,F] ?_
 refine one_ (i := 29) (N := some 58) #[T,T,T,T,T,T,T,T,T,T,T,T,T,T,T,T,T,T,T,T,T,T,T,T,T,T,T,T,T,T,F,F,F,F] rfl rfl (one_of HT_.out (by kernel_rfl)) (by decide) (fun K hK => ?_)
 refine ZGO Try.func21 #[.agg #[.slice Ao19 t673.length co19, .slice Ao21 t676.length co21]] ?_
 with_reducible refine (impl_ProgSize.calls k _ _ t673 _ _ t676 t717 _ ?side1 ?side2 ?side3 ?side4 A15.out).mono ?_
 (case side1 => exact ZQ ((Kd.R_reads' HO675.out).2.2))
 (case side2 => exact (Kd.R_reads' HO675.out).2.1)
 (case side3 => exact ZQ ((Kd.N_reads' HO678.out).2.2))
 (case side4 => exact (Kd.N_reads' HO678.out).2.1)
 rintro e w47 ⟨rfl, hb⟩
 refine ZV1 ?_
 replace HO675 := AM (Kd.R_below (ZR HO675.out) hb)
 replace HO678 := AM (Kd.N_below (ZRN HO678.out) hb)
 replace HO689 := AM (Kd.V_below (ZRV HO689.out) hb)
 replace HO692 := AM (Kd.V_below (ZRV HO692.out) hb)
 replace HO703 := AM (Kd.V_below (ZRV HO703.out) hb)
 replace HO706 := AM (Kd.V_below (ZRV HO706.out) hb)
 replace HO712 := AM (Kd.R_below (ZR HO712.out) hb)
 replace HO716 := AM (Kd.R_below (ZR HO716.out) hb)
 replace BK680 := ZW BK680 hb
 replace BK694 := ZW BK694 hb
 replace BK708 := ZW BK708 hb
 replace HB := ZT HB hb
 (try clear hb)
 (try clear hb2)
 (try clear hk)
 (try clear hi)
 refine hK.out _ _ ⟨ZA BK680 0, ZA BK680 1⟩ (fun hHeld => ?_)
 clear hK K
 refine ZNO 58 ?_
 refine ZU 30 59 #[T,T,T,T,T,T,T,T,T,T,T,T,T,T,T,T,T,T,T,T,T,T,T,T,T,T,T,T,T,T,T,F,F,F] ?_
 refine ZU 31 60 #[T,T,T,T,T,T,T,T,T,T,T,T,T,T,T,T,T,T,T,T,T,T,T,T,T,T,T,T,T,T,T,T,F,F] ?_
 refine ZU 32 61 #[T,T,T,T,T,T,T,T,T,T,T,T,T,T,T,T,T,T,T,T,T,T,T,T,T,T,T,T,T,T,T,T,T,F] ?_
 refine ZU 33 2 #[T,T,T,T,T,T,T,T,T,T,T,T,T,T,T,T,T,T,T,T,T,T,T,T,T,T,T,T,T,T,T,T,T,T] ?_
 refine done_ (done_of HT_.out (by kernel_rfl)) ?_
 try go_wp2
 go_ret
 exact ⟨by first | rfl | (simp [errW_none, errW_some] <;> rfl) | (simp only [← hji12, ← hji16]; first | rfl | (simp [errW_none, errW_some] <;> rfl)) | (simp [*, errW_none, errW_some] <;> rfl), ZB⟩)
 ·(
 rw [if_neg c13] at H
 have c13b0 := beq_eq_false_iff_ne.mpr c13
 have c13b1 := bne_iff_ne.mpr c13
 exact absurd H (by simp)))
 ·(
 rw [if_neg c9] at H
 have c9b0 : (t707 == (decide (t679 < t709))) = false := by simpa using c9
 (try (have c9b1 : decide (t707 = (decide (t679 < t709))) = false := by simpa using c9))
 (try (have c9b2 : (t707 == (decide (t679 < t709))) = false := by simpa using c9))
 (try (have c9b3 : ¬ (t707 = (decide (t679 < t709))) := by simpa using c9))
 clear c9
 exact absurd H (by simp)))
 ·(
 rw [if_neg c7] at H
 have c7b0 := decide_eq_false c7
 clear c7
 by_cases c48 : (t707 == false) = true
 ·(
 rw [if_pos c48] at H
 have c48b0 : (t707 == false) = true := c48
 (try (have c48b1 : decide (t707 = false) = true := by simpa using c48))
 (try (have c48b2 : (t707 == false) = true := by simpa using c48))
 clear c48
 obtain ⟨t718, A49, H⟩ := ZOB H; try dsimp only at H
 obtain ⟨t721, A50, H⟩ := ZOB H; try dsimp only at H
 obtain ⟨ji51, hji51⟩ : ∃ j_ : Int, (mx t721 0) = j_ := ⟨_, rfl⟩
 replace H : (if (t718.length : Int) = (ji51) then ((impl_TypeSets.f k t673 t676).bind fun t722 => ((impl_ProgSize.f k t673 t676).bind fun t725 => (some ((t722.length : Int) == (mx t725 0))))) else (none)) = some r := by first | (rw [hji51] at H; exact H) | (simp only [hji51] at H ⊢; exact H)
 (try rw [hji51] at A3)
 (try rw [hji51] at A4)
 (try rw [hji51] at A5)
 (try rw [hji51] at A49)
 (try rw [hji51] at A50)
 (try (have hji51l : 0 ≤ ji51 := by (rw [← hji51]; unfold mx; (repeat' split) <;> omega)))
 (try (have hji51m : 0 ≤ ji51 := by omega))
 have hji51_ : (if t721 < 0 then 0 else t721) = ji51 := hji51
 by_cases c52 : (t718.length : Int) = (ji51)
 ·(
 rw [if_pos c52] at H
 have c52b0 := beq_iff_eq.mpr c52
 have c52b1 := bne_eq_false_iff_eq.mpr c52
 clear c52
 obtain ⟨t722, A53, H⟩ := ZOB H; try dsimp only at H
 obtain ⟨t725, A54, H⟩ := ZOB H; try dsimp only at H
 obtain ⟨ji55, hji55⟩ : ∃ j_ : Int, (mx t725 0) = j_ := ⟨_, rfl⟩
 replace H : (some ((t722.length : Int) == (ji55))) = some r := by first | (rw [hji55] at H; exact H) | (simp only [hji55] at H ⊢; exact H)
 (try rw [hji55] at A3)
 (try rw [hji55] at A4)
 (try rw [hji55] at A5)
 (try rw [hji55] at A49)
 (try rw [hji55] at A50)
 (try rw [hji55] at A53)
 (try rw [hji55] at A54)
 (try (have hji55l : 0 ≤ ji55 := by (rw [← hji55]; unfold mx; (repeat' split) <;> omega)))
 (try (have hji55m : 0 ≤ ji55 := by omega))
 have hji55_ : (if t725 < 0 then 0 else t725) = ji55 := hji55
 obtain rfl := Option.some.inj H
 go_enter Try.func5, Try.ntmps5
 try go_wp2_with (first | ((with_reducible refine gate_callee (f := 18) rfl ?_); refine ZGL (some 14) Try.func18 #[.slice A0 l0.length c0] ?_; (with_reducible refine (spec_DrawProgAt.calls k _ _ l0 t673 t676 t679 _ ?side1 HC0.out A3.out).mono ?_); (case side1 => exact ZQ HR0.out); rintro e w56 ⟨v674, v677, rfl, ho0, ho1, hb⟩; refine ZV1 ?_; have HO675 := AM (Kd.R_lower (Kd.R_mono (ok' := fun k_ => True) ho0 (fun _ hk_ => trivial)) (below_size (ZB))); have HO678 := AM (Kd.N_lower (Kd.N_mono (ok' := fun k_ => some k_ ≠ (v674 : Value).ownBlock) ho1 (fun k_ hk_ => hk_.2)) (below_size (ZB))); replace HB := ZT HB hb; clear hb; (try clear ho0); (try clear ho1)) | ((with_reducible refine gate_dst (N := 3) rfl ?_); refine ZXW w (N := 3) (cs := #[.slice none 0 0, .slice none 0 0]) (t := 26) ?_; intro gb680 hg w57 BK680 GW680 hb; replace HO675 := AM (Kd.R_below (ZR HO675.out) hb); replace HO678 := AM (Kd.N_below (Kd.N_elderB (ZRN HO678.out) gb680 (Nat.le_of_eq hg.symm)) hb); replace HB := ZT HB hb; clear hb hg; obtain ⟨Ao58, co58, eo58⟩ := Kd.R_slice HO675.out; subst eo58; have hcz59 := ZC2 w57 BK680; obtain ⟨Ao60, co60, eo60⟩ := Kd.N_slice HO678.out; subst eo60) | ((with_reducible refine gate_store (t := 26) (p := 3) rfl ?_); refine store_event (t := 26) (p := 3) (v := ?vo_w61) (w1 := ((w57.setCell ⟨gb680, 0, none⟩ (.slice Ao58 t673.length co58)).setCell ⟨gb680, 1, none⟩ (.slice Ao60 t676.length co60))) ?hg ?ho ?hn ?hr ?_; (case ho => rfl); (case hg => rfl); (case hn => rfl); (case hr => first | (go_simp; done) | (go_simp; rfl)); intro w61 hw; have n0_ : Za (Kd.R k35 35 w61 w.heap.size (fun _ => True) (.slice Ao58 t673.length co58) t673) := ⟨(by rw [hw]; exact (ZRf (Kd.R_types HO675.out BK680.out (by decide)) (fun _ hk => ⟨hk.2, trivial⟩)))⟩; have n1_ : Za (Kd.N k40 40 w61 w.heap.size (fun k_ => some k_ ≠ (.slice Ao58 t673.length co58 : Value).ownBlock ∧ k_ ≠ gb680) (.slice Ao60 t676.length co60) t676) := ⟨(by rw [hw]; exact (ZNf (Kd.N_mono HO678.out (fun k_ hk => (⟨hk, hk.2⟩ : _ ∧ k_ ≠ gb680))) (fun _ hk => ⟨hk.2, ⟨hk.1.1, hk.1.2⟩⟩)))⟩; have n2_ : Za (w61.heap[gb680]? = some (.cells #[.slice Ao58 t673.length co58, .slice Ao60 t676.length co60] 26 (0, 0))) := ⟨(by rw [hw]; exact (ZZ BK680.out))⟩; have n3_ : Za (Below w.heap.size w w61) := ⟨(by rw [hw]; exact (ZB))⟩; clear hw HO675 HO678 BK680 HB; have HO675 := n0_; have HO678 := n1_; have BK680 := n2_; have HB := n3_; clear n0_ n1_ n2_ n3_; have hcz62 := ZC2 w61 BK680) | ((with_reducible refine gate_callee (f := 19) rfl ?_); refine ZGL (some 20) Try.func19 #[.agg #[.slice Ao58 t673.length co58, .slice Ao60 t676.length co60], .int .i64 t679] ?_; (with_reducible refine (spec_ProgAt.calls k _ _ t673 (fun k_ => (some k_ ≠ (.slice Ao58 t673.length co58 : Value).ownBlock ∧ k_ ≠ gb680)) _ _ t676 t679 t681 t682 t683 t684 t685 t686 t687 t690 t693 _ ?side1 ?side2 ?side3 A4.out).mono ?_); (case side1 => exact ZQ ((Kd.R_reads' HO675.out).2.2)); (case side2 => exact (Kd.R_reads' HO675.out).2.1); (case side3 => exact Kd.N_V (HO678.out)); rintro e w63 ⟨v688, v691, rfl, ho0, ho1, hb⟩; refine ZV1 ?_; have HO689 := AM (Kd.V_lower (Kd.V_mono (ok' := fun k_ => some k_ ≠ (.slice Ao58 t673.length co58 : Value).ownBlock ∧ k_ ≠ gb680) ho0 (fun k_ hk_ => ⟨Or.elim hk_ (fun hs_ => hs_.1) (fun hn_ => (Kd.fresh' (Kd.R_lt (ZR HO675.out)) k_ hn_)), Or.elim hk_ (fun hs_ => hs_.2) (fun hn_ => (Kd.freshB (g := gb680) (o := .cells #[.slice Ao58 t673.length co58, .slice Ao60 t676.length co60] 26 (0, 0)) (ZK BK680.out) k_ hn_))⟩)) (below_size (ZB))); have HO692 := AM (Kd.V_lower (Kd.V_mono (ok' := fun k_ => some k_ ≠ (.slice Ao58 t673.length co58 : Value).ownBlock ∧ k_ ≠ gb680) ho1 (fun k_ hk_ => ⟨Or.elim hk_ (fun hs_ => hs_.1) (fun hn_ => (Kd.fresh' (Kd.R_lt (ZR HO675.out)) k_ hn_)), Or.elim hk_ (fun hs_ => hs_.2) (fun hn_ => (Kd.freshB (g := gb680) (o := .cells #[.slice Ao58 t673.length co58, .slice Ao60 t676.length co60] 26 (0, 0)) (ZK BK680.out) k_ hn_))⟩)) (below_size (ZB))); replace HO675 := AM (Kd.R_below (ZR HO675.out) hb); replace HO678 := AM (Kd.N_below (ZRN HO678.out) hb); replace BK680 := ZW BK680 hb; replace HB := ZT HB hb; clear hb; (try clear ho0); (try clear ho1)) | ((with_reducible refine gate_dst (N := 5) rfl ?_); refine ZXW w (N := 5) (cs := #[.int .i64 0, .int .i64 0, .int .i64 0, .int .i64 0, .int .i64 0, .int .i64 0, .slice none 0 0, .slice none 0 0]) (t := 40) ?_; intro gb694 hg w64 BK694 GW694 hb; have NB680_694 : Za (gb680 ≠ gb694) := ZN hg BK680; have NB694_680 : Za (gb694 ≠ gb680) := ZM hg BK680; replace HO675 := AM (Kd.R_below (ZR HO675.out) hb); replace HO678 := AM (Kd.N_below (Kd.N_elderB (ZRN HO678.out) gb694 (Nat.le_of_eq hg.symm)) hb); replace HO689 := AM (Kd.V_below (Kd.V_elderB (ZRV HO689.out) gb694 (Nat.le_of_eq hg.symm)) hb); replace HO692 := AM (Kd.V_below (Kd.V_elderB (ZRV HO692.out) gb694 (Nat.le_of_eq hg.symm)) hb); replace BK680 := ZW BK680 hb; replace HB := ZT HB hb; clear hb hg; have hnb65 := NB694_680.out; have hnc65 := NB680_694.out; have hcz66 := ZC8 w64 BK694; obtain ⟨Ao67, co67, eo67⟩ := Kd.V_slice HO689.out; subst eo67; obtain ⟨Ao68, co68, eo68⟩ := Kd.V_slice HO692.out; subst eo68) | ((with_reducible refine gate_store (t := 40) (p := 5) rfl ?_); refine store_event (t := 40) (p := 5) (v := ?vo_w69) (w1 := ((((((((w64.setCell ⟨gb694, 0, none⟩ (.int .i64 t681)).setCell ⟨gb694, 1, none⟩ (.int .i64 t682)).setCell ⟨gb694, 2, none⟩ (.int .i64 t683)).setCell ⟨gb694, 3, none⟩ (.int .i64 t684)).setCell ⟨gb694, 4, none⟩ (.int .i64 t685)).setCell ⟨gb694, 5, none⟩ (.int .i64 t686)).setCell ⟨gb694, 6, none⟩ (.slice Ao67 t687.length co67)).setCell ⟨gb694, 7, none⟩ (.slice Ao68 t690.length co68))) ?hg ?ho ?hn ?hr ?_; (case ho => rfl); (case hg => rfl); (case hn => rfl); (case hr => first | (go_simp; done) | (go_simp; rfl)); intro w69 hw; have n0_ : Za (Kd.R k35 35 w69 w.heap.size (fun _ => True) (.slice Ao58 t673.length co58) t673) := ⟨(by rw [hw]; exact (ZRf (Kd.R_types HO675.out BK694.out (by decide)) (fun _ hk => ⟨hk.2, trivial⟩)))⟩; have n1_ : Za (Kd.N k40 40 w69 w.heap.size (fun k_ => some k_ ≠ (.slice Ao58 t673.length co58 : Value).ownBlock ∧ k_ ≠ gb680 ∧ k_ ≠ gb694) (.slice Ao60 t676.length co60) t676) := ⟨(by rw [hw]; exact (ZNf (Kd.N_mono HO678.out (fun k_ hk => (⟨hk, hk.2⟩ : _ ∧ k_ ≠ gb694))) (fun _ hk => ⟨hk.2, ⟨hk.1.1.1, ⟨hk.1.1.2, hk.1.2⟩⟩⟩)))⟩; have n2_ : Za (Kd.V k40 40 w69 w.heap.size (fun k_ => some k_ ≠ (.slice Ao58 t673.length co58 : Value).ownBlock ∧ k_ ≠ gb680 ∧ k_ ≠ gb694) (.slice Ao67 t687.length co67) t687) := ⟨(by rw [hw]; exact (ZVf (Kd.V_mono HO689.out (fun k_ hk => (⟨hk, hk.2⟩ : _ ∧ k_ ≠ gb694))) (fun _ hk => ⟨hk.2, ⟨hk.1.1.1, ⟨hk.1.1.2, hk.1.2⟩⟩⟩)))⟩; have n3_ : Za (Kd.V k40 40 w69 w.heap.size (fun k_ => some k_ ≠ (.slice Ao58 t673.length co58 : Value).ownBlock ∧ k_ ≠ gb680 ∧ k_ ≠ gb694) (.slice Ao68 t690.length co68) t690) := ⟨(by rw [hw]; exact (ZVf (Kd.V_mono HO692.out (fun k_ hk => (⟨hk, hk.2⟩ : _ ∧ k_ ≠ gb694))) (fun _ hk => ⟨hk.2, ⟨hk.1.1.1, ⟨hk.1.1.2, hk.1.2⟩⟩⟩)))⟩; have n4_ : Za (w69.heap[gb680]? = some (.cells #[.slice Ao58 t673.length co58, .slice Ao60 t676.length co60] 26 (0, 0))) := ⟨(by rw [hw]; exact (ZZ BK680.out))⟩; have n5_ : Za (w69.heap[gb694]? = some (.cells #[.int .i64 t681, .int .i64 t682, .int .i64 t683, .int .i64 t684, .int .i64 t685, .int .i64 t686, .slice Ao67 t687.length co67, .slice Ao68 t690.length co68] 40 (0, 0))) := ⟨(by rw [hw]; exact (ZZ BK694.out))⟩; have n6_ : Za (Below w.heap.size w w69) := ⟨(by rw [hw]; exact (ZB))⟩; clear hw HO675 HO678 HO689 HO692 BK680 BK694 HB; have HO675 := n0_; have HO678 := n1_; have HO689 := n2_; have HO692 := n3_; have BK680 := n4_; have BK694 := n5_; have HB := n6_; clear n0_ n1_ n2_ n3_ n4_ n5_ n6_; have hcz70 := ZC2 w69 BK680) | ((with_reducible refine gate_callee (f := 20) rfl ?_); refine ZGL (some 26) Try.func20 #[.agg #[.slice Ao58 t673.length co58, .slice Ao60 t676.length co60], .int .i64 t679] ?_; (with_reducible refine (impl_ProgAt.calls k _ _ t673 (fun k_ => (some k_ ≠ (.slice Ao58 t673.length co58 : Value).ownBlock ∧ (k_ ≠ gb680 ∧ k_ ≠ gb694))) _ _ t676 t679 t695 t696 t697 t698 t699 t700 t701 t704 t707 _ ?side1 ?side2 ?side3 A5.out).mono ?_); (case side1 => exact ZQ ((Kd.R_reads' HO675.out).2.2)); (case side2 => exact (Kd.R_reads' HO675.out).2.1); (case side3 => exact Kd.N_V (HO678.out)); rintro e w71 ⟨v702, v705, rfl, ho0, ho1, hb⟩; refine ZV1 ?_; have HO703 := AM (Kd.V_lower (Kd.V_mono (ok' := fun k_ => some k_ ≠ (.slice Ao58 t673.length co58 : Value).ownBlock ∧ k_ ≠ gb680 ∧ k_ ≠ gb694) ho0 (fun k_ hk_ => ⟨Or.elim hk_ (fun hs_ => hs_.1) (fun hn_ => (Kd.fresh' (Kd.R_lt (ZR HO675.out)) k_ hn_)), Or.elim hk_ (fun hs_ => hs_.2.1) (fun hn_ => (Kd.freshB (g := gb680) (o := .cells #[.slice Ao58 t673.length co58, .slice Ao60 t676.length co60] 26 (0, 0)) (ZK BK680.out) k_ hn_)), Or.elim hk_ (fun hs_ => hs_.2.2) (fun hn_ => (Kd.freshB (g := gb694) (o := .cells #[.int .i64 t681, .int .i64 t682, .int .i64 t683, .int .i64 t684, .int .i64 t685, .int .i64 t686, .slice Ao67 t687.length co67, .slice Ao68 t690.length co68] 40 (0, 0)) (ZK BK694.out) k_ hn_))⟩)) (below_size (ZB))); have HO706 := AM (Kd.V_lower (Kd.V_mono (ok' := fun k_ => some k_ ≠ (.slice Ao58 t673.length co58 : Value).ownBlock ∧ k_ ≠ gb680 ∧ k_ ≠ gb694) ho1 (fun k_ hk_ => ⟨Or.elim hk_ (fun hs_ => hs_.1) (fun hn_ => (Kd.fresh' (Kd.R_lt (ZR HO675.out)) k_ hn_)), Or.elim hk_ (fun hs_ => hs_.2.1) (fun hn_ => (Kd.freshB (g := gb680) (o := .cells #[.slice Ao58 t673.length co58, .slice Ao60 t676.length co60] 26 (0, 0)) (ZK BK680.out) k_ hn_)), Or.elim hk_ (fun hs_ => hs_.2.2) (fun hn_ => (Kd.freshB (g := gb694) (o := .cells #[.int .i64 t681, .int .i64 t682, .int .i64 t683, .int .i64 t684, .int .i64 t685, .int .i64 t686, .slice Ao67 t687.length co67, .slice Ao68 t690.length co68] 40 (0, 0)) (ZK BK694.out) k_ hn_))⟩)) (below_size (ZB))); replace HO675 := AM (Kd.R_below (ZR HO675.out) hb); replace HO678 := AM (Kd.N_below (ZRN HO678.out) hb); replace HO689 := AM (Kd.V_below (ZRV HO689.out) hb); replace HO692 := AM (Kd.V_below (ZRV HO692.out) hb); replace BK680 := ZW BK680 hb; replace BK694 := ZW BK694 hb; replace HB := ZT HB hb; clear hb; (try clear ho0); (try clear ho1)) | ((with_reducible refine gate_dst (N := 7) rfl ?_); refine ZXW w (N := 7) (cs := #[.int .i64 0, .int .i64 0, .int .i64 0, .int .i64 0, .int .i64 0, .int .i64 0, .slice none 0 0, .slice none 0 0]) (t := 40) ?_; intro gb708 hg w72 BK708 GW708 hb; have NB680_708 : Za (gb680 ≠ gb708) := ZN hg BK680; have NB708_680 : Za (gb708 ≠ gb680) := ZM hg BK680; have NB694_708 : Za (gb694 ≠ gb708) := ZN hg BK694; have NB708_694 : Za (gb708 ≠ gb694) := ZM hg BK694; replace HO675 := AM (Kd.R_below (ZR HO675.out) hb); replace HO678 := AM (Kd.N_below (Kd.N_elderB (ZRN HO678.out) gb708 (Nat.le_of_eq hg.symm)) hb); replace HO689 := AM (Kd.V_below (Kd.V_elderB (ZRV HO689.out) gb708 (Nat.le_of_eq hg.symm)) hb); replace HO692 := AM (Kd.V_below (Kd.V_elderB (ZRV HO692.out) gb708 (Nat.le_of_eq hg.symm)) hb); replace HO703 := AM (Kd.V_below (Kd.V_elderB (ZRV HO703.out) gb708 (Nat.le_of_eq hg.symm)) hb); replace HO706 := AM (Kd.V_below (Kd.V_elderB (ZRV HO706.out) gb708 (Nat.le_of_eq hg.symm)) hb); replace BK680 := ZW BK680 hb; replace BK694 := ZW BK694 hb; replace HB := ZT HB hb; clear hb hg; have hnb73 := NB708_680.out; have hnc73 := NB680_708.out; have hnb74 := NB708_694.out; have hnc74 := NB694_708.out; have hcz75 := ZC8 w72 BK708; obtain ⟨Ao76, co76, eo76⟩ := Kd.V_slice HO703.out; subst eo76; obtain ⟨Ao77, co77, eo77⟩ := Kd.V_slice HO706.out; subst eo77))
 have n0_ : Za (Kd.R k35 35 ((((((((w72.setCell ⟨gb708, 0, none⟩ (.int .i64 t695)).setCell ⟨gb708, 1, none⟩ (.int .i64 t696)).setCell ⟨gb708, 2, none⟩ (.int .i64 t697)).setCell ⟨gb708, 3, none⟩ (.int .i64 t698)).setCell ⟨gb708, 4, none⟩ (.int .i64 t699)).setCell ⟨gb708, 5, none⟩ (.int .i64 t700)).setCell ⟨gb708, 6, none⟩ (.slice Ao76 t701.length co76)).setCell ⟨gb708, 7, none⟩ (.slice Ao77 t704.length co77)) w.heap.size (fun _ => True) (.slice Ao58 t673.length co58) t673) := ⟨ZR (Kd.R_mono (Kd.R_far (p := ⟨gb708, 7, none⟩) (Kd.R_far (p := ⟨gb708, 6, none⟩) (Kd.R_far (p := ⟨gb708, 5, none⟩) (Kd.R_far (p := ⟨gb708, 4, none⟩) (Kd.R_far (p := ⟨gb708, 3, none⟩) (Kd.R_far (p := ⟨gb708, 2, none⟩) (Kd.R_far (p := ⟨gb708, 1, none⟩) (Kd.R_far (p := ⟨gb708, 0, none⟩) (Kd.R_types HO675.out BK708.out (by decide)) (fun _ hk => hk.2) (.int .i64 t695)) (fun _ hk => hk.2) (.int .i64 t696)) (fun _ hk => hk.2) (.int .i64 t697)) (fun _ hk => hk.2) (.int .i64 t698)) (fun _ hk => hk.2) (.int .i64 t699)) (fun _ hk => hk.2) (.int .i64 t700)) (fun _ hk => hk.2) (.slice Ao76 t701.length co76)) (fun _ hk => hk.2) (.slice Ao77 t704.length co77)) (fun _ hk => trivial))⟩
 have n1_ : Za (Kd.N k40 40 ((((((((w72.setCell ⟨gb708, 0, none⟩ (.int .i64 t695)).setCell ⟨gb708, 1, none⟩ (.int .i64 t696)).setCell ⟨gb708, 2, none⟩ (.int .i64 t697)).setCell ⟨gb708, 3, none⟩ (.int .i64 t698)).setCell ⟨gb708, 4, none⟩ (.int .i64 t699)).setCell ⟨gb708, 5, none⟩ (.int .i64 t700)).setCell ⟨gb708, 6, none⟩ (.slice Ao76 t701.length co76)).setCell ⟨gb708, 7, none⟩ (.slice Ao77 t704.length co77)) w.heap.size (fun k_ => some k_ ≠ (.slice Ao58 t673.length co58 : Value).ownBlock ∧ k_ ≠ gb680 ∧ k_ ≠ gb694 ∧ k_ ≠ gb708) (.slice Ao60 t676.length co60) t676) := ⟨ZNf (Kd.N_mono HO678.out (fun k_ hk => (⟨hk, hk.2⟩ : _ ∧ k_ ≠ gb708))) (fun _ hk => ⟨hk.2, ⟨hk.1.1.1, ⟨hk.1.1.2.1, ⟨hk.1.1.2.2, hk.1.2⟩⟩⟩⟩)⟩
 have n2_ : Za (Kd.V k40 40 ((((((((w72.setCell ⟨gb708, 0, none⟩ (.int .i64 t695)).setCell ⟨gb708, 1, none⟩ (.int .i64 t696)).setCell ⟨gb708, 2, none⟩ (.int .i64 t697)).setCell ⟨gb708, 3, none⟩ (.int .i64 t698)).setCell ⟨gb708, 4, none⟩ (.int .i64 t699)).setCell ⟨gb708, 5, none⟩ (.int .i64 t700)).setCell ⟨gb708, 6, none⟩ (.slice Ao76 t701.length co76)).setCell ⟨gb708, 7, none⟩ (.slice Ao77 t704.length co77)) w.heap.size (fun k_ => some k_ ≠ (.slice Ao58 t673.length co58 : Value).ownBlock ∧ k_ ≠ gb680 ∧ k_ ≠ gb694 ∧ k_ ≠ gb708) (.slice Ao67 t687.length co67) t687) := ⟨ZVf (Kd.V_mono HO689.out (fun k_ hk => (⟨hk, hk.2⟩ : _ ∧ k_ ≠ gb708))) (fun _ hk => ⟨hk.2, ⟨hk.1.1.1, ⟨hk.1.1.2.1, ⟨hk.1.1.2.2, hk.1.2⟩⟩⟩⟩)⟩
 have n3_ : Za (Kd.V k40 40 ((((((((w72.setCell ⟨gb708, 0, none⟩ (.int .i64 t695)).setCell ⟨gb708, 1, none⟩ (.int .i64 t696)).setCell ⟨gb708, 2, none⟩ (.int .i64 t697)).setCell ⟨gb708, 3, none⟩ (.int .i64 t698)).setCell ⟨gb708, 4, none⟩ (.int .i64 t699)).setCell ⟨gb708, 5, none⟩ (.int .i64 t700)).setCell ⟨gb708, 6, none⟩ (.slice Ao76 t701.length co76)).setCell ⟨gb708, 7, none⟩ (.slice Ao77 t704.length co77)) w.heap.size (fun k_ => some k_ ≠ (.slice Ao58 t673.length co58 : Value).ownBlock ∧ k_ ≠ gb680 ∧ k_ ≠ gb694 ∧ k_ ≠ gb708) (.slice Ao68 t690.length co68) t690) := ⟨ZVf (Kd.V_mono HO692.out (fun k_ hk => (⟨hk, hk.2⟩ : _ ∧ k_ ≠ gb708))) (fun _ hk => ⟨hk.2, ⟨hk.1.1.1, ⟨hk.1.1.2.1, ⟨hk.1.1.2.2, hk.1.2⟩⟩⟩⟩)⟩
 have n4_ : Za (Kd.V k40 40 ((((((((w72.setCell ⟨gb708, 0, none⟩ (.int .i64 t695)).setCell ⟨gb708, 1, none⟩ (.int .i64 t696)).setCell ⟨gb708, 2, none⟩ (.int .i64 t697)).setCell ⟨gb708, 3, none⟩ (.int .i64 t698)).setCell ⟨gb708, 4, none⟩ (.int .i64 t699)).setCell ⟨gb708, 5, none⟩ (.int .i64 t700)).setCell ⟨gb708, 6, none⟩ (.slice Ao76 t701.length co76)).setCell ⟨gb708, 7, none⟩ (.slice Ao77 t704.length co77)) w.heap.size (fun k_ => some k_ ≠ (.slice Ao58 t673.length co58 : Value).ownBlock ∧ k_ ≠ gb680 ∧ k_ ≠ gb694 ∧ k_ ≠ gb708) (.slice Ao76 t701.length co76) t701) := ⟨ZVf (Kd.V_mono HO703.out (fun k_ hk => (⟨hk, hk.2⟩ : _ ∧ k_ ≠ gb708))) (fun _ hk => ⟨hk.2, ⟨hk.1.1.1, ⟨hk.1.1.2.1, ⟨hk.1.1.2.2, hk.1.2⟩⟩⟩⟩)⟩
 have n5_ : Za (Kd.V k40 40 ((((((((w72.setCell ⟨gb708, 0, none⟩ (.int .i64 t695)).setCell ⟨gb708, 1, none⟩ (.int .i64 t696)).setCell ⟨gb708, 2, none⟩ (.int .i64 t697)).setCell ⟨gb708, 3, none⟩ (.int .i64 t698)).setCell ⟨gb708, 4, none⟩ (.int .i64 t699)).setCell ⟨gb708, 5, none⟩ (.int .i64 t700)).setCell ⟨gb708, 6, none⟩ (.slice Ao76 t701.length co76)).setCell ⟨gb708, 7, none⟩ (.slice Ao77 t704.length co77)) w.heap.size (fun k_ => some k_ ≠ (.slice Ao58 t673.length co58 : Value).ownBlock ∧ k_ ≠ gb680 ∧ k_ ≠ gb694 ∧ k_ ≠ gb708) (.slice Ao77 t704.length co77) t704) := ⟨ZVf (Kd.V_mono HO706.out (fun k_ hk => (⟨hk, hk.2⟩ : _ ∧ k_ ≠ gb708))) (fun _ hk => ⟨hk.2, ⟨hk.1.1.1, ⟨hk.1.1.2.1, ⟨hk.1.1.2.2, hk.1.2⟩⟩⟩⟩)⟩
 have n6_ : Za (((((((((w72.setCell ⟨gb708, 0, none⟩ (.int .i64 t695)).setCell ⟨gb708, 1, none⟩ (.int .i64 t696)).setCell ⟨gb708, 2, none⟩ (.int .i64 t697)).setCell ⟨gb708, 3, none⟩ (.int .i64 t698)).setCell ⟨gb708, 4, none⟩ (.int .i64 t699)).setCell ⟨gb708, 5, none⟩ (.int .i64 t700)).setCell ⟨gb708, 6, none⟩ (.slice Ao76 t701.length co76)).setCell ⟨gb708, 7, none⟩ (.slice Ao77 t704.length co77)).heap[gb680]? = some (.cells #[.slice Ao58 t673.length co58, .slice Ao60 t676.length co60] 26 (0, 0))) := ⟨ZZ BK680.out⟩
 have n7_ : Za (((((((((w72.setCell ⟨gb708, 0, none⟩ (.int .i64 t695)).setCell ⟨gb708, 1, none⟩ (.int .i64 t696)).setCell ⟨gb708, 2, none⟩ (.int .i64 t697)).setCell ⟨gb708, 3, none⟩ (.int .i64 t698)).setCell ⟨gb708, 4, none⟩ (.int .i64 t699)).setCell ⟨gb708, 5, none⟩ (.int .i64 t700)).setCell ⟨gb708, 6, none⟩ (.slice Ao76 t701.length co76)).setCell ⟨gb708, 7, none⟩ (.slice Ao77 t704.length co77)).heap[gb694]? = some (.cells #[.int .i64 t681, .int .i64 t682, .int .i64 t683, .int .i64 t684, .int .i64 t685, .int .i64 t686, .slice Ao67 t687.length co67, .slice Ao68 t690.length co68] 40 (0, 0))) := ⟨ZZ BK694.out⟩
 have n8_ : Za (((((((((w72.setCell ⟨gb708, 0, none⟩ (.int .i64 t695)).setCell ⟨gb708, 1, none⟩ (.int .i64 t696)).setCell ⟨gb708, 2, none⟩ (.int .i64 t697)).setCell ⟨gb708, 3, none⟩ (.int .i64 t698)).setCell ⟨gb708, 4, none⟩ (.int .i64 t699)).setCell ⟨gb708, 5, none⟩ (.int .i64 t700)).setCell ⟨gb708, 6, none⟩ (.slice Ao76 t701.length co76)).setCell ⟨gb708, 7, none⟩ (.slice Ao77 t704.length co77)).heap[gb708]? = some (.cells #[.int .i64 t695, .int .i64 t696, .int .i64 t697, .int .i64 t698, .int .i64 t699, .int .i64 t700, .slice Ao76 t701.length co76, .slice Ao77 t704.length co77] 40 (0, 0))) := ⟨ZZ BK708.out⟩
 have n9_ : Za (Below w.heap.size w ((((((((w72.setCell ⟨gb708, 0, none⟩ (.int .i64 t695)).setCell ⟨gb708, 1, none⟩ (.int .i64 t696)).setCell ⟨gb708, 2, none⟩ (.int .i64 t697)).setCell ⟨gb708, 3, none⟩ (.int .i64 t698)).setCell ⟨gb708, 4, none⟩ (.int .i64 t699)).setCell ⟨gb708, 5, none⟩ (.int .i64 t700)).setCell ⟨gb708, 6, none⟩ (.slice Ao76 t701.length co76)).setCell ⟨gb708, 7, none⟩ (.slice Ao77 t704.length co77))) := ⟨ZB⟩
 (try clear HO675)
 (try clear HO678)
 (try clear HO689)
 (try clear HO692)
 (try clear HO703)
 (try clear HO706)
 (try clear BK680)
 (try clear BK694)
 (try clear BK708)
 (try clear HB)
 generalize ((((((((w72.setCell ⟨gb708, 0, none⟩ (.int .i64 t695)).setCell ⟨gb708, 1, none⟩ (.int .i64 t696)).setCell ⟨gb708, 2, none⟩ (.int .i64 t697)).setCell ⟨gb708, 3, none⟩ (.int .i64 t698)).setCell ⟨gb708, 4, none⟩ (.int .i64 t699)).setCell ⟨gb708, 5, none⟩ (.int .i64 t700)).setCell ⟨gb708, 6, none⟩ (.slice Ao76 t701.length co76)).setCell ⟨gb708, 7, none⟩ (.slice Ao77 t704.length co77)) = w78 at n0_ n1_ n2_ n3_ n4_ n5_ n6_ n7_ n8_ n9_ ⊢
 have HO675 := n0_
 have HO678 := n1_
 have HO689 := n2_
 have HO692 := n3_
 have HO703 := n4_
 have HO706 := n5_
 have BK680 := n6_
 have BK694 := n7_
 have BK708 := n8_
 have HB := n9_
 clear n0_ n1_ n2_ n3_ n4_ n5_ n6_ n7_ n8_ n9_
 replace HO675 := AM (Kd.R_drew HO675.out)
 replace HO678 := AM (Kd.N_drew HO678.out)
 replace HO689 := AM (Kd.V_drew HO689.out)
 replace HO692 := AM (Kd.V_drew HO692.out)
 replace HO703 := AM (Kd.V_drew HO703.out)
 replace HO706 := AM (Kd.V_drew HO706.out)
 replace BK680 := AM (blk_drew BK680.out)
 replace BK694 := AM (blk_drew BK694.out)
 replace BK708 := AM (blk_drew BK708.out)
 replace HB := AM (below_drew1 HB.out)
 refine start_ (n := 34) (S := fun w' => w'.cell? ⟨gb680, 0, none⟩ = some (.slice Ao58 t673.length co58) ∧ w'.cell? ⟨gb680, 1, none⟩ = some (.slice Ao60 t676.length co60)) (ds := []) #[F,F,F,F,F,F,F,F,F,F,F,F,F,F,F,F,F,F,F,F,F,F,F,F,F,F,F,F,F,F,F,F,F,F] (by kernel_rfl) rfl rfl ⟨ZA BK680 0, ZA BK680 1⟩ (fun hHeld => ?_); refine with_tabW laws_FnProgCount.tab6 laws_FnProgCount.bits6 (fun HT_ HW_ => ?_)
 generalize w78.drew = w79 at HO675 HO678 HO689 HO692 HO703 HO706 BK680 BK694 BK708 HB hHeld ⊢
 refine ZU 0 29 #[T,F,F,F,F,F,F,F,F,F,F,F,F,F,F,F,F,F,F,F,F,F,F,F,F,F,F,F,F,F,F,F,F,F] ?_
 refine ZU 1 30 #[T,T,F,F,F,F,F,F,F,F,F,F,F,F,F,F,F,F,F,F,F,F,F,F,F,F,F,F,F,F,F,F,F,F] ?_
 refine ZU 2 31 #[T,T,T,F,F,F,F,F,F,F,F,F,F,F,F,F,F,F,F,F,F,F,F,F,F,F,F,F,F,F,F,F,F,F] ?_
 refine ZU 3 32 #[T,T,T,T,F,F,F,F,F,F,F,F,F,F,F,F,F,F,F,F,F,F,F,F,F,F,F,F,F,F,F,F,F,F] ?_
 refine ZU 4 33 #[T,T,T,T,T,F,F,F,F,F,F,F,F,F,F,F,F,F,F,F,F,F,F,F,F,F,F,F,F,F,F,F,F,F] ?_
 refine ZU 5 34 #[T,T,T,T,T,T,F,F,F,F,F,F,F,F,F,F,F,F,F,F,F,F,F,F,F,F,F,F,F,F,F,F,F,F] ?_
 refine ZU 6 35 #[T,T,T,T,T,T,T,F,F,F,F,F,F,F,F,F,F,F,F,F,F,F,F,F,F,F,F,F,F,F,F,F,F,F] ?_
 refine ZU 7 36 #[T,T,T,T,T,T,T,T,F,F,F,F,F,F,F,F,F,F,F,F,F,F,F,F,F,F,F,F,F,F,F,F,F,F] ?_
 refine ZUU 8 37 #[T,T,T,T,T,T,T,T,T,F,F,F,F,F,F,F,F,F,F,F,F,F,F,F,F,F,F,F,F,F,F,F,F,F] ?_
 refine ZUU 9 38 #[T,T,T,T,T,T,T,T,T,T,F,F,F,F,F,F,F,F,F,F,F,F,F,F,F,F,F,F,F,F,F,F,F,F] ?_
 refine ZUU 10 39 #[T,T,T,T,T,T,T,T,T,T,T,F,F,F,F,F,F,F,F,F,F,F,F,F,F,F,F,F,F,F,F,F,F,F] ?_
 refine ZUU 11 40 #[T,T,T,T,T,T,T,T,T,T,T,T,F,F,F,F,F,F,F,F,F,F,F,F,F,F,F,F,F,F,F,F,F,F] ?_
 refine ZU 12 41 #[T,T,T,T,T,T,T,T,T,T,T,T,T,F,F,F,F,F,F,F,F,F,F,F,F,F,F,F,F,F,F,F,F,F] ?_
 refine ZU 13 42 #[T,T,T,T,T,T,T,T,T,T,T,T,T,T,F,F,F,F,F,F,F,F,F,F,F,F,F,F,F,F,F,F,F,F] ?_
 refine ZU 14 43 #[T,T,T,T,T,T,T,T,T,T,T,T,T,T,T,F,F,F,F,F,F,F,F,F,F,F,F,F,F,F,F,F,F,F] ?_
 refine ZU 15 44 #[T,T,T,T,T,T,T,T,T,T,T,T,T,T,T,T,F,F,F,F,F,F,F,F,F,F,F,F,F,F,F,F,F,F] ?_
 refine ZTK 16 45 #[T,T,T,T,T,T,T,T,T,T,T,T,T,T,T,T,T,F,F,F,F,F,F,F,F,F,F,F,F,F,F,F,F,F] hHeld ?_
 refine ZTK 19 48 #[T,T,T,T,T,T,T,T,T,T,T,T,T,T,T,T,T,F,F,T,F,F,F,F,F,F,F,F,F,F,F,F,F,F] hHeld ?_
 refine one_ (i := 17) (N := some 46) #[T,T,T,T,T,T,T,T,T,T,T,T,T,T,T,T,T,T,F,T,F,F,F,F,F,F,F,F,F,F,F,F,F,F] rfl rfl (one_of HT_.out (by kernel_rfl)) (by decide) (fun K hK => ?_)
 refine ZGO Try.func12 #[.agg #[.slice Ao58 t673.length co58, .slice Ao60 t676.length co60]] ?_
 with_reducible refine (impl_TypeAt.calls k _ _ t673 _ _ t676 t718 _ ?side1 ?side2 ?side3 ?side4 A49.out).mono ?_
 (case side1 => exact ZQ ((Kd.R_reads' HO675.out).2.2))
 (case side2 => exact (Kd.R_reads' HO675.out).2.1)
 (case side3 => exact ZQ ((Kd.N_reads' HO678.out).2.2))
 (case side4 => exact (Kd.N_reads' HO678.out).2.1)
 rintro e w80 ⟨v719, rfl, ho0, hb⟩
 refine ZV1 ?_
 have HO720 := AM (Kd.R_lower (Kd.R_new' ho0 (Kd.R_lt (ZR HO675.out))) (below_size (ZB)))
 replace HO675 := AM (Kd.R_elder' (ZR HO675.out) (Kd.R_base ho0) hb)
 replace HO678 := AM (Kd.N_elder' (ZRN HO678.out) (Kd.R_base ho0) hb)
 replace HO689 := AM (Kd.V_elder' (ZRV HO689.out) (Kd.R_base ho0) hb)
 replace HO692 := AM (Kd.V_elder' (ZRV HO692.out) (Kd.R_base ho0) hb)
 replace HO703 := AM (Kd.V_elder' (ZRV HO703.out) (Kd.R_base ho0) hb)
 replace HO706 := AM (Kd.V_elder' (ZRV HO706.out) (Kd.R_base ho0) hb)
 replace BK680 := ZW BK680 hb
 replace BK694 := ZW BK694 hb
 replace BK708 := ZW BK708 hb
 replace HB := ZT HB hb
 (try clear hb)
 (try clear hb2)
 (try clear hk)
 (try clear hi)
 (try clear ho0)
 obtain ⟨Ao81, co81, eo81⟩ := Kd.R_slice HO720.out
 (first | subst eo81 | (injection eo81 with f1_ f2_ f3_; have f4_ := f1_.symm; have f5_ := f3_.symm; clear f1_ f2_ f3_; subst f4_; subst f5_))
 refine hK.out _ _ ⟨ZA BK680 0, ZA BK680 1⟩ (fun hHeld => ?_)
 clear hK K
 refine ZNO 46 ?_
 refine ZU 18 47 #[T,T,T,T,T,T,T,T,T,T,T,T,T,T,T,T,T,T,T,T,F,F,F,F,F,F,F,F,F,F,F,F,F,F] ?_
 refine one_ (i := 20) (N := some 49) #[T,T,T,T,T,T,T,T,T,T,T,T,T,T,T,T,T,T,T,T,T,F,F,F,F,F,F,F,F,F,F,F,F,F] rfl rfl (one_of HT_.out (by kernel_rfl)) (by decide) (fun K hK => ?_)
 refine ZGO Try.func21 #[.agg #[.slice Ao58 t673.length co58, .slice Ao60 t676.length co60]] ?_
 with_reducible refine (impl_ProgSize.calls k _ _ t673 _ _ t676 t721 _ ?side1 ?side2 ?side3 ?side4 A50.out).mono ?_
 (case side1 => exact ZQ ((Kd.R_reads' HO675.out).2.2))
 (case side2 => exact (Kd.R_reads' HO675.out).2.1)
 (case side3 => exact ZQ ((Kd.N_reads' HO678.out).2.2))
 (case side4 => exact (Kd.N_reads' HO678.out).2.1)
 rintro e w82 ⟨rfl, hb⟩
 refine ZV1 ?_
 replace HO675 := AM (Kd.R_below (ZR HO675.out) hb)
 replace HO678 := AM (Kd.N_below (ZRN HO678.out) hb)
 replace HO689 := AM (Kd.V_below (ZRV HO689.out) hb)
 replace HO692 := AM (Kd.V_below (ZRV HO692.out) hb)
 replace HO703 := AM (Kd.V_below (ZRV HO703.out) hb)
 replace HO706 := AM (Kd.V_below (ZRV HO706.out) hb)
 replace HO720 := AM (Kd.R_below (ZR HO720.out) hb)
 replace BK680 := ZW BK680 hb
 replace BK694 := ZW BK694 hb
 replace BK708 := ZW BK708 hb
 replace HB := ZT HB hb
 (try clear hb)
 (try clear hb2)
 (try clear hk)
 (try clear hi)
 refine hK.out _ _ ⟨ZA BK680 0, ZA BK680 1⟩ (fun hHeld => ?_)
 clear hK K
 refine ZNO 49 ?_
 refine ZU 21 50 #[T,T,T,T,T,T,T,T,T,T,T,T,T,T,T,T,T,T,T,T,T,T,F,F,F,F,F,F,F,F,F,F,F,F] ?_
 refine ZU 22 51 #[T,T,T,T,T,T,T,T,T,T,T,T,T,T,T,T,T,T,T,T,T,T,T,F,F,F,F,F,F,F,F,F,F,F] ?_
 refine ZU 23 52 #[T,T,T,T,T,T,T,T,T,T,T,T,T,T,T,T,T,T,T,T,T,T,T,T,F,F,F,F,F,F,F,F,F,F] ?_
 refine ZU 24 53 #[T,T,T,T,T,T,T,T,T,T,T,T,T,T,T,T,T,T,T,T,T,T,T,T,T,F,F,F,F,F,F,F,F,F] ?_
 refine ZTK 25 54 #[T,T,T,T,T,T,T,T,T,T,T,T,T,T,T,T,T,T,T,T,T,T,T,T,T,T,F,F,F,F,F,F,F,F] hHeld ?_
 refine ZTK 28 57 #[T,T,T,T,T,T,T,T,T,T,T,T,T,T,T,T,T,T,T,T,T,T,T,T,T,T,F,F,T,F,F,F,F,F] hHeld ?_
 refine one_ (i := 26) (N := some 55) #[T,T,T,T,T,T,T,T,T,T,T,T,T,T,T,T,T,T,T,T,T,T,T,T,T,T,T,F,T,F,F,F,F,F] rfl rfl (one_of HT_.out (by kernel_rfl)) (by decide) (fun K hK => ?_)
 refine ZGO Try.func8 #[.agg #[.slice Ao58 t673.length co58, .slice Ao60 t676.length co60]] ?_
 with_reducible refine (impl_TypeSets.calls k _ _ t673 _ _ t676 t722 _ ?side1 ?side2 ?side3 ?side4 A53.out).mono ?_
 (case side1 => exact ZQ ((Kd.R_reads' HO675.out).2.2))
 (case side2 => exact (Kd.R_reads' HO675.out).2.1)
 (case side3 => exact ZQ ((Kd.N_reads' HO678.out).2.2))
 (case side4 => exact (Kd.N_reads' HO678.out).2.1)
 rintro e w83 ⟨v723, rfl, ho0, hb⟩
 refine ZV1 ?_
 have HO724 := AM (Kd.R_lower ho0 (below_size (ZB)))
 replace HO675 := AM (Kd.R_below (ZR HO675.out) hb)
 replace HO678 := AM (Kd.N_elder' (ZRN HO678.out) (Kd.R_base ho0) hb)
 replace HO689 := AM (Kd.V_elder' (ZRV HO689.out) (Kd.R_base ho0) hb)
 replace HO692 := AM (Kd.V_elder' (ZRV HO692.out) (Kd.R_base ho0) hb)
 replace HO703 := AM (Kd.V_elder' (ZRV HO703.out) (Kd.R_base ho0) hb)
 replace HO706 := AM (Kd.V_elder' (ZRV HO706.out) (Kd.R_base ho0) hb)
 replace HO720 := AM (Kd.R_below (ZR HO720.out) hb)
 replace BK680 := ZW BK680 hb
 replace BK694 := ZW BK694 hb
 replace BK708 := ZW BK708 hb
 replace HB := ZT HB hb
 (try clear hb)
 (try clear hb2)
 (try clear hk)
 (try clear hi)
 (try clear ho0)
 obtain ⟨Ao84, co84, eo84⟩ := Kd.R_slice HO724.out
 (first | subst eo84 | (injection eo84 with f1_ f2_ f3_; have f4_ := f1_.symm; have f5_ := f3_.symm; clear f1_ f2_ f3_; subst f4_; subst f5_))
 refine hK.out _ _ ⟨ZA BK680 0, ZA BK680 1⟩ (fun hHeld => ?_)
 clear hK K
 refine ZNO 55 ?_
 refine ZU 27 56 #[T,T,T,T,T,T,T,T,T,T,T,T,T,T,T,T,T,T,T,T,T,T,T,T,T,T,T,T,T,F,F,F,F,F] ?_
 refine one_ (i := 29) (N := some 58) #[T,T,T,T,T,T,T,T,T,T,T,T,T,T,T,T,T,T,T,T,T,T,T,T,T,T,T,T,T,T,F,F,F,F] rfl rfl (one_of HT_.out (by kernel_rfl)) (by decide) (fun K hK => ?_)
 refine ZGO Try.func21 #[.agg #[.slice Ao58 t673.length co58, .slice Ao60 t676.length co60]] ?_
 with_reducible refine (impl_ProgSize.calls k _ _ t673 _ _ t676 t725 _ ?side1 ?side2 ?side3 ?side4 A54.out).mono ?_
 (case side1 => exact ZQ ((Kd.R_reads' HO675.out).2.2))
 (case side2 => exact (Kd.R_reads' HO675.out).2.1)
 (case side3 => exact ZQ ((Kd.N_reads' HO678.out).2.2))
 (case side4 => exact (Kd.N_reads' HO678.out).2.1)
 rintro e w85 ⟨rfl, hb⟩
 refine ZV1 ?_
 replace HO675 := AM (Kd.R_below (ZR HO675.out) hb)
 replace HO678 := AM (Kd.N_below (ZRN HO678.out) hb)
 replace HO689 := AM (Kd.V_below (ZRV HO689.out) hb)
 replace HO692 := AM (Kd.V_below (ZRV HO692.out) hb)
 replace HO703 := AM (Kd.V_below (ZRV HO703.out) hb)
 replace HO706 := AM (Kd.V_below (ZRV HO706.out) hb)
 replace HO720 := AM (Kd.R_below (ZR HO720.out) hb)
 replace HO724 := AM (Kd.R_below (ZR HO724.out) hb)
 replace BK680 := ZW BK680 hb
 replace BK694 := ZW BK694 hb
 replace BK708 := ZW BK708 hb
 replace HB := ZT HB hb
 (try clear hb)
 (try clear hb2)
 (try clear hk)
 (try clear hi)
 refine hK.out _ _ ⟨ZA BK680 0, ZA BK680 1⟩ (fun hHeld => ?_)
 clear hK K
 refine ZNO 58 ?_
 refine ZU 30 59 #[T,T,T,T,T,T,T,T,T,T,T,T,T,T,T,T,T,T,T,T,T,T,T,T,T,T,T,T,T,T,T,F,F,F] ?_
 refine ZU 31 60 #[T,T,T,T,T,T,T,T,T,T,T,T,T,T,T,T,T,T,T,T,T,T,T,T,T,T,T,T,T,T,T,T,F,F] ?_
 refine ZU 32 61 #[T,T,T,T,T,T,T,T,T,T,T,T,T,T,T,T,T,T,T,T,T,T,T,T,T,T,T,T,T,T,T,T,T,F] ?_
 refine ZU 33 2 #[T,T,T,T,T,T,T,T,T,T,T,T,T,T,T,T,T,T,T,T,T,T,T,T,T,T,T,T,T,T,T,T,T,T] ?_
 refine done_ (done_of HT_.out (by kernel_rfl)) ?_
 try go_wp2
 go_ret
 exact ⟨by first | rfl | (simp [errW_none, errW_some] <;> rfl) | (simp only [← hji51, ← hji55]; first | rfl | (simp [errW_none, errW_some] <;> rfl)) | (simp [*, errW_none, errW_some] <;> rfl), ZB⟩)
 ·(
 rw [if_neg c52] at H
 have c52b0 := beq_eq_false_iff_ne.mpr c52
 have c52b1 := bne_iff_ne.mpr c52
 exact absurd H (by simp)))
 ·(
 rw [if_neg c48] at H
 have c48b0 : (t707 == false) = false := by simpa using c48
 (try (have c48b1 : decide (t707 = false) = false := by simpa using c48))
 (try (have c48b2 : (t707 == false) = false := by simpa using c48))
 (try (have c48b3 : ¬ (t707 = false) := by simpa using c48))
 clear c48
 exact absurd H (by simp))))
 ·(
 rw [if_neg c6] at H
 have c6b0 : (t707 == t693) = false := by simpa using c6
 (try (have c6b1 : decide (t707 = t693) = false := by simpa using c6))
 (try (have c6b2 : (t707 == t693) = false := by simpa using c6))
 (try (have c6b3 : ¬ (t707 = t693) := by simpa using c6))
 clear c6
 exact absurd H (by simp)))

end Go.Proofs.Ytkkdeojbkfjlpaa.A
