/- By wip/tools/pr.py: Go functions as Lean functions, with contracts. -/
import Derived.Test.YthidgkfgdkjghaaAx0
import Derived.Test.YthidgkfgdkjghaaAx5
import Derived.Test.YthidgkfgdkjghaaAx13
import Derived.Test.YthidgkfgdkjghaaAx20
import Derived.Test.YthidgkfgdkjghaaAx19
import Derived.Test.YthidgkfgdkjghaaAx29
namespace Go.Proofs.Ythidgkfgdkjghaa.A
open Go.RowKit Go.Proofs.YthidgkfgdkjghaaW.PrintWords Go.Proofs.YthidgkfgdkjghaaW.PrintLast Go.Proofs.YthidgkfgdkjghaaW.PrintMore
attribute [local go_sem] max2_int min2_int max_two min_two max_three min_three max_four min_four
set_option linter.unusedVariables false
set_option linter.unusedSimpArgs false
set_option maxHeartbeats 8000000
set_option maxRecDepth 100000

/-! ### laws_FnTypeWhy: function 4 -/
def laws_FnTypeWhy.j0 : Nat → Int → Bool → Int → Bool → Bool → List (S39) → List (S32) → Option (Bool)
 | 0, _, _, _, _, _, _, _ => none
 | k + 1, x4, x5, x6, x7, x35, x696000, x696001 => if x35 = true then (if (x7 == x5) = true then (some (x6 == x4)) else (some false)) else ((impl_TypeOk.f k x696000 x696001).bind fun t701 => (if (t701 != x7) = true then (if x7 = true then ((impl_ProgSize.f k x696000 x696001).bind fun t702 => (some (decide (x6 < (mx t702 1))))) else (if x6 = 0 then ((impl_ProgSize.f k x696000 x696001).bind fun t703 => (some (decide (x6 < (mx t703 1))))) else (some false))) else (some false)))
def laws_FnTypeWhy.f (k : Nat) (l0 : List Int) : Option (Bool) := if (l0.length : Int) > 1048576 then (some true) else ((spec_DrawTypeWhy.f k l0).bind fun bt689 => ((spec_TypeWhy.f k bt689.1 bt689.2).bind fun bt696 => ((impl_TypeWhy.f k bt689.1 bt689.2).bind fun bt698 => (if (bt698.2 != bt696.2) = true then (laws_FnTypeWhy.j0 k bt696.1 bt696.2 bt698.1 bt698.2 true bt689.1 bt689.2) else (if bt698.1 = bt696.1 then ((spec_ProgOk.f k bt689.1 bt689.2).bind fun t700 => (laws_FnTypeWhy.j0 k bt696.1 bt696.2 bt698.1 bt698.2 (!t700) bt689.1 bt689.2)) else (laws_FnTypeWhy.j0 k bt696.1 bt696.2 bt698.1 bt698.2 true bt689.1 bt689.2))))))
theorem laws_FnTypeWhy.calls (k : Nat) (A0 : Option Addr) (c0 : Nat) (l0 : List Int) (r : Bool) (w : World) (hr0 : Kd.C (Kd.int .u8) w A0 l0.length l0) (hc0 : l0.length ≤ c0) (h : laws_FnTypeWhy.f k l0 = some r) :
  Calls Try.prog 4 #[.slice A0 l0.length c0] w fun e w' => e = .returned (.bool r) ∧ Below w.heap.size w w' := by
 have hu26 := Try.underlying26
 have HR0 := AM hr0
 have HC0 := AM hc0
 clear hr0 hc0
 have HB := AM (Below.refl w.heap.size w)
 have H := h
 unfold laws_FnTypeWhy.f at H
 clear h
 by_cases c2 : (l0.length : Int) > 1048576
 ·(
 rw [if_pos c2] at H
 have c2b0 := decide_eq_true c2
 have c2b1 : decide (1048576 < l0.length) = true := decide_eq_true (by omega)
 clear c2
 obtain rfl := Option.some.inj H
 go_enter Try.func4, Try.ntmps4
 go_wp2
 go_ret
 exact ⟨ZE, ZB⟩)
 ·(
 rw [if_neg c2] at H
 have c2b0 := decide_eq_false c2
 have c2b1 : decide (1048576 < l0.length) = false := decide_eq_false (by omega)
 clear c2
 obtain ⟨⟨t689, t692⟩, A3, H⟩ := ZOB H; try dsimp only at H
 obtain ⟨⟨t696, t697⟩, A4, H⟩ := ZOB H; try dsimp only at H
 obtain ⟨⟨t698, t699⟩, A5, H⟩ := ZOB H; try dsimp only at H
 have HC6 := AM H
 clear H
 go_enter Try.func4, Try.ntmps4
 go_upto_region 6 with (first | ((with_reducible refine gate_callee (f := 16) rfl ?_); refine ZGL (some 12) Try.func16 #[.slice A0 l0.length c0] ?_; (with_reducible refine (spec_DrawTypeWhy.calls k _ _ l0 t689 t692 _ ?side1 HC0.out A3.out).mono ?_); (case side1 => exact ZQ HR0.out); rintro e w7 ⟨v690, v693, rfl, ho0, ho1, hb⟩; refine ⟨_, rfl, ?_⟩; have HO691 := AM (Kd.R_lower (Kd.R_mono (ok' := fun k_ => True) ho0 (fun _ hk_ => trivial)) (below_size (ZB))); have HO694 := AM (Kd.N_lower (Kd.N_mono (ok' := fun k_ => some k_ ≠ (v690 : Value).ownBlock) ho1 (fun k_ hk_ => hk_.2)) (below_size (ZB))); replace HB := ZT HB hb; clear hb; (try clear ho0); (try clear ho1)) | ((with_reducible refine gate_dst (N := 3) rfl ?_); refine ZX (N := 3) (cs := #[.slice none 0 0, .slice none 0 0]) (t := 26) ?_; intro gb695 hg w8 hbox hb; have BK695 := AM (hbox); have GW695 : Za (w.heap.size ≤ gb695) := ZS hg; replace HO691 := AM (Kd.R_below (ZR HO691.out) hb); replace HO694 := AM (Kd.N_below (Kd.N_elderB (ZRN HO694.out) gb695 (Nat.le_of_eq hg.symm)) hb); replace HB := ZT HB hb; clear hb hbox hg; obtain ⟨Ao9, co9, eo9⟩ := Kd.R_slice HO691.out; subst eo9; have hcz10 := ZC2 w8 BK695; have hfz10 := ZF2 BK695; obtain ⟨Ao11, co11, eo11⟩ := Kd.N_slice HO694.out; subst eo11) | ((with_reducible refine gate_callee (f := 17) rfl ?_); refine ZGL (some 15) Try.func17 #[.agg #[.slice Ao9 t689.length co9, .slice Ao11 t692.length co11]] ?_; (with_reducible refine (spec_TypeWhy.calls k _ _ t689 _ _ t692 t696 t697 _ ?side1 ?side2 ?side3 ?side4 A4.out).mono ?_); (case side1 => refine (Kd.R_reads' (e := 39) (base := w.heap.size) (ok := fun k_ => True) (n := t689.length) (c := co9) ?_).2.2; exact (ZR ((Kd.R_mono (Kd.R_far (p := ⟨gb695, 1, none⟩) (Kd.R_far (p := ⟨gb695, 0, none⟩) (Kd.R_types HO691.out BK695.out (by decide)) (fun _ hk => hk.2) (.slice Ao9 t689.length co9)) (fun _ hk => hk.2) (.slice Ao11 t692.length co11)) (fun _ h_ => h_.1))))); (case side2 => exact (Kd.R_reads' HO691.out).2.1); (case side3 => refine (Kd.N_reads' (e := 32) (base := w.heap.size) (ok := fun k_ => (some k_ ≠ (.slice Ao9 t689.length co9 : Value).ownBlock ∧ k_ ≠ gb695)) (n := t692.length) (c := co11) ?_).2.2; exact (by (with_reducible repeat (first | apply Kd.N_alloc | apply Kd.N_drewN | apply Kd.N_drew)); exact (Kd.N_mono (Kd.N_far (p := ⟨gb695, 1, none⟩) (Kd.N_far (p := ⟨gb695, 0, none⟩) (Kd.N_mono HO694.out (fun k_ hk => (⟨hk, hk.2⟩ : _ ∧ k_ ≠ gb695))) (fun _ hk => hk.2) (.slice Ao9 t689.length co9)) (fun _ hk => hk.2) (.slice Ao11 t692.length co11)) (fun _ h_ => h_.1)))); (case side4 => exact (Kd.N_reads' HO694.out).2.1); rintro e w12 ⟨rfl, hb⟩; refine ⟨_, rfl, ?_⟩; replace HO691 := AM (Kd.R_below (ZR ((Kd.R_mono (Kd.R_far (p := ⟨gb695, 1, none⟩) (Kd.R_far (p := ⟨gb695, 0, none⟩) (Kd.R_types HO691.out BK695.out (by decide)) (fun _ hk => hk.2) (.slice Ao9 t689.length co9)) (fun _ hk => hk.2) (.slice Ao11 t692.length co11)) (fun _ h_ => h_.1)))) hb); replace HO694 := AM (Kd.N_below (by (with_reducible repeat (first | apply Kd.N_alloc | apply Kd.N_drewN | apply Kd.N_drew)); exact (Kd.N_mono (Kd.N_far (p := ⟨gb695, 1, none⟩) (Kd.N_far (p := ⟨gb695, 0, none⟩) (Kd.N_mono HO694.out (fun k_ hk => (⟨hk, hk.2⟩ : _ ∧ k_ ≠ gb695))) (fun _ hk => hk.2) (.slice Ao9 t689.length co9)) (fun _ hk => hk.2) (.slice Ao11 t692.length co11)) (fun _ h_ => h_.1))) hb); replace BK695 := ZV #[.slice Ao9 t689.length co9, .slice Ao11 t692.length co11] BK695 hb; replace HB := ZT HB hb; clear hb; have hcz13 := ZC2 w12 BK695; have hfz13 := ZF2 BK695) | ((with_reducible refine gate_callee (f := 18) rfl ?_); refine ZGL (some 20) Try.func18 #[.agg #[.slice Ao9 t689.length co9, .slice Ao11 t692.length co11]] ?_; (with_reducible refine (impl_TypeWhy.calls k _ _ t689 _ _ t692 t698 t699 _ ?side1 ?side2 ?side3 ?side4 A5.out).mono ?_); (case side1 => exact ZQ ((Kd.R_reads' HO691.out).2.2)); (case side2 => exact (Kd.R_reads' HO691.out).2.1); (case side3 => exact ZQ ((Kd.N_reads' HO694.out).2.2)); (case side4 => exact (Kd.N_reads' HO694.out).2.1); rintro e w14 ⟨rfl, hb⟩; refine ⟨_, rfl, ?_⟩; replace HO691 := AM (Kd.R_below (ZR HO691.out) hb); replace HO694 := AM (Kd.N_below (ZRN HO694.out) hb); replace BK695 := ZW BK695 hb; replace HB := ZT HB hb; clear hb))
 (try simp only [Act.put, List.setIfInBounds_toArray, List.set_cons_zero, List.set_cons_succ])
 go_cut [35] (fun v35 wc => ∃ (kq : Nat) (x35_5 : Bool), v35 = .bool x35_5 ∧ Za (laws_FnTypeWhy.j0 kq t696 t697 t698 t699 x35_5 t689 t692 = some r) ∧ Za (kq ≤ k) ∧ Za (Kd.R k39 39 wc w.heap.size (fun _ => True) (.slice Ao9 t689.length co9) t689) ∧ Za (Kd.N k32 32 wc w.heap.size (fun k_ => some k_ ≠ ((.slice Ao9 t689.length co9) : Value).ownBlock ∧ k_ ≠ gb695) (.slice Ao11 t692.length co11) t692) ∧ Za (wc.heap[gb695]? = some (.cells #[(.slice Ao9 t689.length co9), (.slice Ao11 t692.length co11)] 26 (0, 0))) ∧ Za (Below w.heap.size w wc))
 case first => (
 have H := HC6.out
 clear HC6
 by_cases c15 : (t699 != t697) = true
 ·(
 rw [if_pos c15] at H
 have c15b0 : (t699 != t697) = true := c15
 (try (have c15b1 : decide (t699 = t697) = false := by simpa using c15))
 (try (have c15b2 : (t699 == t697) = false := by simpa using c15))
 (try (have c15b3 : ¬ (t699 = t697) := by simpa using c15))
 clear c15
 (first | rw [c15b0] | (simp only [i64_w, i32_w]; rw [c15b0]) | skip)
 have H' := AM H
 clear H
 go_wp2
 go_meet
 case rel => exact ⟨_, (true), (by first | rfl | (simp; done) | (simp [*]; done)), H', ⟨by first | omega | exact Nat.le_refl _⟩, ⟨ZR HO691.out⟩, ⟨ZRN HO694.out⟩, ⟨ZK BK695.out⟩, ⟨ZB⟩⟩)
 ·(
 rw [if_neg c15] at H
 have c15b0 : (t699 != t697) = false := by simpa using c15
 (try (have c15b1 : decide (t699 = t697) = true := by simpa using c15))
 (try (have c15b2 : (t699 == t697) = true := by simpa using c15))
 clear c15
 (first | rw [c15b0] | (simp only [i64_w, i32_w]; rw [c15b0]) | skip)
 by_cases c16 : t698 = t696
 ·(
 rw [if_pos c16] at H
 have c16b0 := beq_iff_eq.mpr c16
 have c16b1 := bne_eq_false_iff_eq.mpr c16
 clear c16
 obtain ⟨t700, A17, H⟩ := ZOB H; try dsimp only at H
 have H' := AM H
 clear H
 have hcz18 := ZC2 w14 BK695
 have hfz18 := ZF2 BK695
 go_wp2_with (first | (go_at_call 19; (with_reducible refine (spec_ProgOk.calls k _ _ t689 _ _ t692 t700 _ ?side1 ?side2 ?side3 ?side4 A17.out).mono ?_); (case side1 => exact ZQ ((Kd.R_reads' HO691.out).2.2)); (case side2 => exact (Kd.R_reads' HO691.out).2.1); (case side3 => exact ZQ ((Kd.N_reads' HO694.out).2.2)); (case side4 => exact (Kd.N_reads' HO694.out).2.1); rintro e w19 ⟨rfl, hb⟩; replace HO691 := AM (Kd.R_below (ZR HO691.out) hb); replace HO694 := AM (Kd.N_below (ZRN HO694.out) hb); replace BK695 := ZW BK695 hb; replace HB := ZT HB hb; clear hb))
 go_meet
 case rel => exact ⟨_, (!t700), (by first | rfl | (simp; done) | (simp [*]; done)), H', ⟨by first | omega | exact Nat.le_refl _⟩, ⟨ZR HO691.out⟩, ⟨ZRN HO694.out⟩, ⟨ZK BK695.out⟩, ⟨ZB⟩⟩)
 ·(
 rw [if_neg c16] at H
 have c16b0 := beq_eq_false_iff_ne.mpr c16
 have c16b1 := bne_iff_ne.mpr c16
 have H' := AM H
 clear H
 go_wp2
 go_meet
 case rel => exact ⟨_, (true), (by first | rfl | (simp; done) | (simp [*]; done)), H', ⟨by first | omega | exact Nat.le_refl _⟩, ⟨ZR HO691.out⟩, ⟨ZRN HO694.out⟩, ⟨ZK BK695.out⟩, ⟨ZB⟩⟩)))
 case rest => (
 clear HC6
 try clear c1
 try clear c2
 try clear c2b0
 try clear c2b1
 try clear p2
 try clear c4
 try clear c15
 try clear c15b0
 try clear c15b1
 try clear c15b2
 try clear c16
 try clear c16b0
 try clear c16b1
 try clear c17
 try clear c18
 try clear hcz10
 try clear hcz13
 try clear hcz18
 try clear hfz10
 try clear hfz13
 try clear hfz18
 obtain ⟨kq, x35_5, rfl, HA, HJ5, HO_696000, HO_696001, BK695, HB⟩ := hcut
 cases kq with
 | zero => exact absurd HA.out (by simp [laws_FnTypeWhy.j0])
 | succ kj5 =>
  have H := HA.out
  clear HA
  simp only [laws_FnTypeWhy.j0] at H
  by_cases c20 : x35_5 = true
  ·(
  subst c20
  have H1 := H; rw [if_pos rfl] at H1
  clear H
  have H := H1
  clear H1
  by_cases c21 : (t699 == t697) = true
  ·(
  rw [if_pos c21] at H
  have c21b0 : (t699 == t697) = true := c21
  (try (have c21b1 : decide (t699 = t697) = true := by simpa using c21))
  (try (have c21b2 : (t699 == t697) = true := by simpa using c21))
  clear c21
  obtain rfl := Option.some.inj H
  go_wp2
  go_ret
  exact ⟨ZE, ZB⟩)
  ·(
  rw [if_neg c21] at H
  have c21b0 : (t699 == t697) = false := by simpa using c21
  (try (have c21b1 : decide (t699 = t697) = false := by simpa using c21))
  (try (have c21b2 : (t699 == t697) = false := by simpa using c21))
  (try (have c21b3 : ¬ (t699 = t697) := by simpa using c21))
  clear c21
  obtain rfl := Option.some.inj H
  go_wp2
  go_ret
  exact ⟨ZE, ZB⟩))
  ·(
  replace c20 := Bool.eq_false_iff.mpr c20
  subst c20
  have H1 := H; rw [if_neg ZFT] at H1
  clear H
  have H := H1
  clear H1
  obtain ⟨t701, A22, H⟩ := ZOB H; try dsimp only at H
  by_cases c23 : (t701 != t699) = true
  ·(
  rw [if_pos c23] at H
  have c23b0 : (t701 != t699) = true := c23
  (try (have c23b1 : decide (t701 = t699) = false := by simpa using c23))
  (try (have c23b2 : (t701 == t699) = false := by simpa using c23))
  (try (have c23b3 : ¬ (t701 = t699) := by simpa using c23))
  clear c23
  by_cases c24 : t699 = true
  ·(
  subst c24
  have H1 := H; rw [if_pos rfl] at H1
  clear H
  have H := H1
  clear H1
  obtain ⟨t702, A25, H⟩ := ZOB H; try dsimp only at H
  obtain ⟨ji26, hji26⟩ : ∃ j_ : Int, (mx t702 1) = j_ := ⟨_, rfl⟩
  replace H : (some (decide (t698 < (ji26)))) = some r := by first | (rw [hji26] at H; exact H) | (simp only [hji26] at H ⊢; exact H)
  (try rw [hji26] at A22)
  (try rw [hji26] at A25)
  (try (have hji26l : 1 ≤ ji26 := by (rw [← hji26]; unfold mx; (repeat' split) <;> omega)))
  (try (have hji26m : 0 ≤ ji26 := by omega))
  have hji26_ : (if t702 < 1 then 1 else t702) = ji26 := hji26
  obtain rfl := Option.some.inj H
  have hcz27 := ZC2 wc BK695
  have hfz27 := ZF2 BK695
  go_wp2_with (first | ((with_reducible refine gate_callee (f := 20) rfl ?_); refine ZGL (some 45) Try.func20 #[.agg #[.slice Ao9 t689.length co9, .slice Ao11 t692.length co11]] ?_; (with_reducible refine (impl_TypeOk.calls kj5 _ _ t689 _ _ t692 t701 _ ?side1 ?side2 ?side3 ?side4 A22.out).mono ?_); (case side1 => exact ZQ ((Kd.R_reads' HO_696000.out).2.2)); (case side2 => exact (Kd.R_reads' HO_696000.out).2.1); (case side3 => exact ZQ ((Kd.N_reads' HO_696001.out).2.2)); (case side4 => exact (Kd.N_reads' HO_696001.out).2.1); rintro e w28 ⟨rfl, hb⟩; refine ⟨_, rfl, ?_⟩; replace HO_696000 := AM (Kd.R_below (ZR HO_696000.out) hb); replace HO_696001 := AM (Kd.N_below (ZRN HO_696001.out) hb); replace BK695 := ZW BK695 hb; replace HB := ZT HB hb; clear hb; have hcz29 := ZC2 w28 BK695; have hfz29 := ZF2 BK695) | (go_at_call 14; (with_reducible refine (impl_ProgSize.calls kj5 _ _ t689 _ _ t692 t702 _ ?side1 ?side2 ?side3 ?side4 A25.out).mono ?_); (case side1 => exact ZQ ((Kd.R_reads' HO_696000.out).2.2)); (case side2 => exact (Kd.R_reads' HO_696000.out).2.1); (case side3 => exact ZQ ((Kd.N_reads' HO_696001.out).2.2)); (case side4 => exact (Kd.N_reads' HO_696001.out).2.1); rintro e w30 ⟨rfl, hb⟩; replace HO_696000 := AM (Kd.R_below (ZR HO_696000.out) hb); replace HO_696001 := AM (Kd.N_below (ZRN HO_696001.out) hb); replace BK695 := ZW BK695 hb; replace HB := ZT HB hb; clear hb))
  go_ret
  exact ⟨by first | rfl | (simp [errW_none, errW_some] <;> rfl) | (simp only [← hji26]; first | rfl | (simp [errW_none, errW_some] <;> rfl)) | (simp [*, errW_none, errW_some] <;> rfl), ZB⟩)
  ·(
  replace c24 := Bool.eq_false_iff.mpr c24
  subst c24
  have H1 := H; rw [if_neg ZFT] at H1
  clear H
  have H := H1
  clear H1
  by_cases c31 : t698 = 0
  ·(
  rw [if_pos c31] at H
  have c31b0 := beq_iff_eq.mpr c31
  have c31b1 := bne_eq_false_iff_eq.mpr c31
  clear c31
  obtain ⟨t703, A32, H⟩ := ZOB H; try dsimp only at H
  obtain ⟨ji33, hji33⟩ : ∃ j_ : Int, (mx t703 1) = j_ := ⟨_, rfl⟩
  replace H : (some (decide (t698 < (ji33)))) = some r := by first | (rw [hji33] at H; exact H) | (simp only [hji33] at H ⊢; exact H)
  (try rw [hji33] at A22)
  (try rw [hji33] at A32)
  (try (have hji33l : 1 ≤ ji33 := by (rw [← hji33]; unfold mx; (repeat' split) <;> omega)))
  (try (have hji33m : 0 ≤ ji33 := by omega))
  have hji33_ : (if t703 < 1 then 1 else t703) = ji33 := hji33
  obtain rfl := Option.some.inj H
  have hcz34 := ZC2 wc BK695
  have hfz34 := ZF2 BK695
  go_wp2_with (first | ((with_reducible refine gate_callee (f := 20) rfl ?_); refine ZGL (some 45) Try.func20 #[.agg #[.slice Ao9 t689.length co9, .slice Ao11 t692.length co11]] ?_; (with_reducible refine (impl_TypeOk.calls kj5 _ _ t689 _ _ t692 t701 _ ?side1 ?side2 ?side3 ?side4 A22.out).mono ?_); (case side1 => exact ZQ ((Kd.R_reads' HO_696000.out).2.2)); (case side2 => exact (Kd.R_reads' HO_696000.out).2.1); (case side3 => exact ZQ ((Kd.N_reads' HO_696001.out).2.2)); (case side4 => exact (Kd.N_reads' HO_696001.out).2.1); rintro e w35 ⟨rfl, hb⟩; refine ⟨_, rfl, ?_⟩; replace HO_696000 := AM (Kd.R_below (ZR HO_696000.out) hb); replace HO_696001 := AM (Kd.N_below (ZRN HO_696001.out) hb); replace BK695 := ZW BK695 hb; replace HB := ZT HB hb; clear hb; have hcz36 := ZC2 w35 BK695; have hfz36 := ZF2 BK695) | (go_at_call 14; (with_reducible refine (impl_ProgSize.calls kj5 _ _ t689 _ _ t692 t703 _ ?side1 ?side2 ?side3 ?side4 A32.out).mono ?_); (case side1 => exact ZQ ((Kd.R_reads' HO_696000.out).2.2)); (case side2 => exact (Kd.R_reads' HO_696000.out).2.1); (case side3 => exact ZQ ((Kd.N_reads' HO_696001.out).2.2)); (case side4 => exact (Kd.N_reads' HO_696001.out).2.1); rintro e w37 ⟨rfl, hb⟩; replace HO_696000 := AM (Kd.R_below (ZR HO_696000.out) hb); replace HO_696001 := AM (Kd.N_below (ZRN HO_696001.out) hb); replace BK695 := ZW BK695 hb; replace HB := ZT HB hb; clear hb))
  go_ret
  exact ⟨by first | rfl | (simp [errW_none, errW_some] <;> rfl) | (simp only [← hji33]; first | rfl | (simp [errW_none, errW_some] <;> rfl)) | (simp [*, errW_none, errW_some] <;> rfl), ZB⟩)
  ·(
  rw [if_neg c31] at H
  have c31b0 := beq_eq_false_iff_ne.mpr c31
  have c31b1 := bne_iff_ne.mpr c31
  obtain rfl := Option.some.inj H
  have hcz38 := ZC2 wc BK695
  have hfz38 := ZF2 BK695
  go_wp2_with (first | ((with_reducible refine gate_callee (f := 20) rfl ?_); refine ZGL (some 45) Try.func20 #[.agg #[.slice Ao9 t689.length co9, .slice Ao11 t692.length co11]] ?_; (with_reducible refine (impl_TypeOk.calls kj5 _ _ t689 _ _ t692 t701 _ ?side1 ?side2 ?side3 ?side4 A22.out).mono ?_); (case side1 => exact ZQ ((Kd.R_reads' HO_696000.out).2.2)); (case side2 => exact (Kd.R_reads' HO_696000.out).2.1); (case side3 => exact ZQ ((Kd.N_reads' HO_696001.out).2.2)); (case side4 => exact (Kd.N_reads' HO_696001.out).2.1); rintro e w39 ⟨rfl, hb⟩; refine ⟨_, rfl, ?_⟩; replace HO_696000 := AM (Kd.R_below (ZR HO_696000.out) hb); replace HO_696001 := AM (Kd.N_below (ZRN HO_696001.out) hb); replace BK695 := ZW BK695 hb; replace HB := ZT HB hb; clear hb))
  go_ret
  exact ⟨ZE, ZB⟩)))
  ·(
  rw [if_neg c23] at H
  have c23b0 : (t701 != t699) = false := by simpa using c23
  (try (have c23b1 : decide (t701 = t699) = true := by simpa using c23))
  (try (have c23b2 : (t701 == t699) = true := by simpa using c23))
  clear c23
  obtain rfl := Option.some.inj H
  have hcz40 := ZC2 wc BK695
  have hfz40 := ZF2 BK695
  go_wp2_with (first | ((with_reducible refine gate_callee (f := 20) rfl ?_); refine ZGL (some 45) Try.func20 #[.agg #[.slice Ao9 t689.length co9, .slice Ao11 t692.length co11]] ?_; (with_reducible refine (impl_TypeOk.calls kj5 _ _ t689 _ _ t692 t701 _ ?side1 ?side2 ?side3 ?side4 A22.out).mono ?_); (case side1 => exact ZQ ((Kd.R_reads' HO_696000.out).2.2)); (case side2 => exact (Kd.R_reads' HO_696000.out).2.1); (case side3 => exact ZQ ((Kd.N_reads' HO_696001.out).2.2)); (case side4 => exact (Kd.N_reads' HO_696001.out).2.1); rintro e w41 ⟨rfl, hb⟩; refine ⟨_, rfl, ?_⟩; replace HO_696000 := AM (Kd.R_below (ZR HO_696000.out) hb); replace HO_696001 := AM (Kd.N_below (ZRN HO_696001.out) hb); replace BK695 := ZW BK695 hb; replace HB := ZT HB hb; clear hb))
  go_ret
  exact ⟨ZE, ZB⟩))))

end Go.Proofs.Ythidgkfgdkjghaa.A
