/- By wip/tools/pr.py: Go functions as Lean functions, with contracts. -/
import Derived.Test.YthidgkfgdkjghaaAx0
import Derived.Test.YthidgkfgdkjghaaAx5
import Derived.Test.YthidgkfgdkjghaaAx29
import Derived.Test.YthidgkfgdkjghaaAx19
namespace Go.Proofs.Ythidgkfgdkjghaa.A
open Go.RowKit Go.Proofs.YthidgkfgdkjghaaW.PrintWords Go.Proofs.YthidgkfgdkjghaaW.PrintLast Go.Proofs.YthidgkfgdkjghaaW.PrintMore
attribute [local go_sem] max2_int min2_int max_two min_two max_three min_three max_four min_four
set_option linter.unusedVariables false
set_option linter.unusedSimpArgs false
set_option maxHeartbeats 8000000
set_option maxRecDepth 100000

/-! ### laws_FnTypeDeep: function 7 -/
mutual
def laws_FnTypeDeep.j0 : Nat → List Int → List Int → Bool → Option (Bool)
 | 0, _, _, _ => none
 | k + 1, x0, x1, x15 => if x15 = true then (some true) else ((spec_DrawTypeOk.f k x0).bind fun bt759 => ((impl_TypeOk.f k bt759.1 bt759.2).bind fun t766 => ((spec_TypeOk.f k bt759.1 bt759.2).bind fun t767 => (if (t766 != t767) = true then (laws_FnTypeDeep.j1 k x1 t766 true bt759.1 bt759.2) else ((spec_ProgOk.f k bt759.1 bt759.2).bind fun t768 => (if t768 = true then (laws_FnTypeDeep.j1 k x1 t766 ((bt759.1.length : Int) == 0) bt759.1 bt759.2) else (laws_FnTypeDeep.j1 k x1 t766 true bt759.1 bt759.2)))))))
def laws_FnTypeDeep.j1 : Nat → List Int → Bool → Bool → List (S39) → List (S32) → Option (Bool)
 | 0, _, _, _, _, _ => none
 | k + 1, x1, x6, x34, x766000, x766001 => if x34 = true then ((spec_TypeOk.f k x766000 x766001).bind fun t769 => (some (x6 == t769))) else (if (x766000.length : Int) = 0 then (none) else ((impl_TypeOk.f k x766000 (([(⟨2, (x1.length : Int) % (x766000.length : Int), (⟨0, 0, 0⟩ : S30), 0, x766001, ([] : List (S32))⟩ : S32)] : List (S32)))).bind fun t774 => (if t774 = true then (some x6) else (some true))))
end
def laws_FnTypeDeep.f (k : Nat) (l0 : List Int) (l1 : List Int) : Option (Bool) := if (l0.length : Int) > 1048576 then (laws_FnTypeDeep.j0 k l0 l1 true) else (laws_FnTypeDeep.j0 k l0 l1 (decide ((l1.length : Int) > 1048576)))
def laws_FnTypeDeep.T7 : Bool × List (List Nat × List Nat) := (true, [([], []), ([0], [0]), ([], []), ([2], [2]), ([], []), ([4], [4]), ([5], [5]), ([3, 6], [3, 6]), ([], []), ([8], [8]), ([7, 9], [7, 9]), ([10], [10]), ([1, 11], [1, 11]), ([], []), ([13, 12, 0, 1, 2, 3, 4, 5, 6, 7, 8, 9, 10, 11, 12, 13], [12, 13])])
def laws_FnTypeDeep.B7 : List Nat := [0, 1, 0, 4, 0, 16, 48, 124, 0, 256, 1020, 2044, 4095, 0, 16383]
theorem laws_FnTypeDeep.tab7 : rtab .any (opsOf Try.f7 7) = laws_FnTypeDeep.T7 := by kernel_rfl
theorem laws_FnTypeDeep.bits7 : waitsOk laws_FnTypeDeep.T7.2 laws_FnTypeDeep.B7 = true := by kernel_rfl
theorem laws_FnTypeDeep.calls (k : Nat) (A0 : Option Addr) (c0 : Nat) (l0 : List Int) (A1 : Option Addr) (c1 : Nat) (l1 : List Int) (r : Bool) (w : World) (hr0 : Kd.C (Kd.int .u8) w A0 l0.length l0) (hc0 : l0.length ≤ c0) (hr1 : Kd.C (Kd.int .u8) w A1 l1.length l1) (hc1 : l1.length ≤ c1) (h : laws_FnTypeDeep.f k l0 l1 = some r) :
  Calls Try.prog 7 #[.slice A0 l0.length c0, .slice A1 l1.length c1] w fun e w' => e = .returned (.bool r) ∧ Below w.heap.size w w' := by
 have hu26 := Try.underlying26
 have hu32 := Try.underlying32
 have HR0 := AM hr0
 have HC0 := AM hc0
 clear hr0 hc0
 have HR1 := AM hr1
 have HC1 := AM hc1
 clear hr1 hc1
 have HB := AM (Below.refl w.heap.size w)
 have H := h
 unfold laws_FnTypeDeep.f at H
 clear h
 have HC3 := AM H
 clear H
 go_enter Try.func7, Try.ntmps7
 go_upto_region 1 with (fail)
 go_cut [15] (fun v15 wc => ∃ (kq : Nat) (x15_2 : Bool), v15 = .bool x15_2 ∧ Za (laws_FnTypeDeep.j0 kq l0 l1 x15_2 = some r) ∧ Za (kq ≤ k) ∧ Za (Below w.heap.size w wc))
 case first => (
 have H := HC3.out
 clear HC3
 by_cases c4 : (l0.length : Int) > 1048576
 ·(
 rw [if_pos c4] at H
 have c4b0 := decide_eq_true c4
 have c4b1 : decide (1048576 < l0.length) = true := decide_eq_true (by omega)
 clear c4
 (first | rw [c4b0] | (simp only [i64_w, i32_w]; rw [c4b0]) | skip)
 have H' := AM H
 clear H
 go_wp2
 go_meet
 case rel => exact ⟨_, (true), (by first | rfl | (simp; done) | (simp [*]; done)), H', ⟨by first | omega | exact Nat.le_refl _⟩, ⟨ZB⟩⟩)
 ·(
 rw [if_neg c4] at H
 have c4b0 := decide_eq_false c4
 have c4b1 : decide (1048576 < l0.length) = false := decide_eq_false (by omega)
 clear c4
 (first | rw [c4b0] | (simp only [i64_w, i32_w]; rw [c4b0]) | skip)
 have H' := AM H
 clear H
 go_wp2
 go_meet
 case rel => exact ⟨_, (decide ((l1.length : Int) > 1048576)), (by first | rfl | (simp; done) | (simp [*]; done)), H', ⟨by first | omega | exact Nat.le_refl _⟩, ⟨ZB⟩⟩))
 case rest => (
 clear HC3
 try clear c1
 try clear p2
 try clear c4
 try clear c4b0
 try clear c4b1
 obtain ⟨kq, x15_2, rfl, HA, HJ2, HB⟩ := hcut
 cases kq with
 | zero => exact absurd HA.out (by simp [laws_FnTypeDeep.j0])
 | succ kj2 =>
  have H := HA.out
  clear HA
  simp only [laws_FnTypeDeep.j0] at H
  by_cases c5 : x15_2 = true
  ·(
  subst c5
  have H1 := H; rw [if_pos rfl] at H1
  clear H
  have H := H1
  clear H1
  obtain rfl := Option.some.inj H
  go_wp2
  go_ret
  exact ⟨ZE, ZB⟩)
  ·(
  replace c5 := Bool.eq_false_iff.mpr c5
  subst c5
  have H1 := H; rw [if_neg ZFT] at H1
  clear H
  have H := H1
  clear H1
  obtain ⟨⟨t759, t762⟩, A6, H⟩ := ZOB H; try dsimp only at H
  obtain ⟨t766, A7, H⟩ := ZOB H; try dsimp only at H
  have HC8 := AM H
  clear H
  go_upto_region 5 with (first | ((with_reducible refine gate_callee (f := 21) rfl ?_); refine ZGL (some 17) Try.func21 #[.slice A0 l0.length c0] ?_; (with_reducible refine (spec_DrawTypeOk.calls kj2 _ _ l0 t759 t762 _ (ZQ (Kd.C_below HR0.out HB.out)) HC0.out A6.out).mono ?_); rintro e w9 ⟨v760, v763, rfl, ho0, ho1, hb⟩; refine ⟨_, rfl, ?_⟩; have HO761 := AM (Kd.R_lower (Kd.R_mono (ok' := fun k_ => True) ho0 (fun _ hk_ => trivial)) (below_size (ZB))); have HO764 := AM (Kd.N_lower (Kd.N_mono (ok' := fun k_ => some k_ ≠ (v760 : Value).ownBlock) ho1 (fun k_ hk_ => hk_.2)) (below_size (ZB))); replace HB := ZT HB hb; clear hb; (try clear ho0); (try clear ho1)) | ((with_reducible refine gate_dst (N := 5) rfl ?_); refine ZX (N := 5) (cs := #[.slice none 0 0, .slice none 0 0]) (t := 26) ?_; intro gb765 hg w10 hbox hb; have BK765 := AM (hbox); have GW765 : Za (w.heap.size ≤ gb765) := ZS hg; replace HO761 := AM (Kd.R_below (ZR HO761.out) hb); replace HO764 := AM (Kd.N_below (Kd.N_elderB (ZRN HO764.out) gb765 (Nat.le_of_eq hg.symm)) hb); replace HB := ZT HB hb; clear hb hbox hg; obtain ⟨Ao11, co11, eo11⟩ := Kd.R_slice HO761.out; subst eo11; have hcz12 := ZC2 w10 BK765; have hfz12 := ZF2 BK765; obtain ⟨Ao13, co13, eo13⟩ := Kd.N_slice HO764.out; subst eo13) | ((with_reducible refine gate_callee (f := 20) rfl ?_); refine ZGL (some 19) Try.func20 #[.agg #[.slice Ao11 t759.length co11, .slice Ao13 t762.length co13]] ?_; (with_reducible refine (impl_TypeOk.calls kj2 _ _ t759 _ _ t762 t766 _ ?side1 ?side2 ?side3 ?side4 A7.out).mono ?_); (case side1 => refine (Kd.R_reads' (e := 39) (base := w.heap.size) (ok := fun k_ => True) (n := t759.length) (c := co11) ?_).2.2; exact (ZR ((Kd.R_mono (Kd.R_far (p := ⟨gb765, 1, none⟩) (Kd.R_far (p := ⟨gb765, 0, none⟩) (Kd.R_types HO761.out BK765.out (by decide)) (fun _ hk => hk.2) (.slice Ao11 t759.length co11)) (fun _ hk => hk.2) (.slice Ao13 t762.length co13)) (fun _ h_ => h_.1))))); (case side2 => exact (Kd.R_reads' HO761.out).2.1); (case side3 => refine (Kd.N_reads' (e := 32) (base := w.heap.size) (ok := fun k_ => (some k_ ≠ (.slice Ao11 t759.length co11 : Value).ownBlock ∧ k_ ≠ gb765)) (n := t762.length) (c := co13) ?_).2.2; exact (by (with_reducible repeat (first | apply Kd.N_alloc | apply Kd.N_drewN | apply Kd.N_drew)); exact (Kd.N_mono (Kd.N_far (p := ⟨gb765, 1, none⟩) (Kd.N_far (p := ⟨gb765, 0, none⟩) (Kd.N_mono HO764.out (fun k_ hk => (⟨hk, hk.2⟩ : _ ∧ k_ ≠ gb765))) (fun _ hk => hk.2) (.slice Ao11 t759.length co11)) (fun _ hk => hk.2) (.slice Ao13 t762.length co13)) (fun _ h_ => h_.1)))); (case side4 => exact (Kd.N_reads' HO764.out).2.1); rintro e w14 ⟨rfl, hb⟩; refine ⟨_, rfl, ?_⟩; replace HO761 := AM (Kd.R_below (ZR ((Kd.R_mono (Kd.R_far (p := ⟨gb765, 1, none⟩) (Kd.R_far (p := ⟨gb765, 0, none⟩) (Kd.R_types HO761.out BK765.out (by decide)) (fun _ hk => hk.2) (.slice Ao11 t759.length co11)) (fun _ hk => hk.2) (.slice Ao13 t762.length co13)) (fun _ h_ => h_.1)))) hb); replace HO764 := AM (Kd.N_below (by (with_reducible repeat (first | apply Kd.N_alloc | apply Kd.N_drewN | apply Kd.N_drew)); exact (Kd.N_mono (Kd.N_far (p := ⟨gb765, 1, none⟩) (Kd.N_far (p := ⟨gb765, 0, none⟩) (Kd.N_mono HO764.out (fun k_ hk => (⟨hk, hk.2⟩ : _ ∧ k_ ≠ gb765))) (fun _ hk => hk.2) (.slice Ao11 t759.length co11)) (fun _ hk => hk.2) (.slice Ao13 t762.length co13)) (fun _ h_ => h_.1))) hb); replace BK765 := ZV #[.slice Ao11 t759.length co11, .slice Ao13 t762.length co13] BK765 hb; replace HB := ZT HB hb; clear hb))
  (try simp only [Act.put, List.setIfInBounds_toArray, List.set_cons_zero, List.set_cons_succ])
  go_cut [34] (fun v34 wc => ∃ (kq : Nat) (x34_7 : Bool), v34 = .bool x34_7 ∧ Za (laws_FnTypeDeep.j1 kq l1 t766 x34_7 t759 t762 = some r) ∧ Za (kq ≤ kj2) ∧ Za (Kd.R k39 39 wc w.heap.size (fun _ => True) (.slice Ao11 t759.length co11) t759) ∧ Za (Kd.N k32 32 wc w.heap.size (fun k_ => some k_ ≠ ((.slice Ao11 t759.length co11) : Value).ownBlock ∧ k_ ≠ gb765) (.slice Ao13 t762.length co13) t762) ∧ Za (wc.heap[gb765]? = some (.cells #[(.slice Ao11 t759.length co11), (.slice Ao13 t762.length co13)] 26 (0, 0))) ∧ Za (Below w.heap.size w wc))
  case first => (
  have H := HC8.out
  clear HC8
  obtain ⟨t767, A15, H⟩ := ZOB H; try dsimp only at H
  by_cases c16 : (t766 != t767) = true
  ·(
  rw [if_pos c16] at H
  have c16b0 : (t766 != t767) = true := c16
  (try (have c16b1 : decide (t766 = t767) = false := by simpa using c16))
  (try (have c16b2 : (t766 == t767) = false := by simpa using c16))
  (try (have c16b3 : ¬ (t766 = t767) := by simpa using c16))
  clear c16
  (first | rw [c16b0] | (simp only [i64_w, i32_w]; rw [c16b0]) | skip)
  have H' := AM H
  clear H
  have hcz17 := ZC2 w14 BK765
  have hfz17 := ZF2 BK765
  go_wp2_with (first | ((with_reducible refine gate_callee (f := 22) rfl ?_); refine ZGL (some 22) Try.func22 #[.agg #[.slice Ao11 t759.length co11, .slice Ao13 t762.length co13]] ?_; (with_reducible refine (spec_TypeOk.calls kj2 _ _ t759 _ _ t762 t767 _ ?side1 ?side2 ?side3 ?side4 A15.out).mono ?_); (case side1 => exact ZQ ((Kd.R_reads' HO761.out).2.2)); (case side2 => exact (Kd.R_reads' HO761.out).2.1); (case side3 => exact ZQ ((Kd.N_reads' HO764.out).2.2)); (case side4 => exact (Kd.N_reads' HO764.out).2.1); rintro e w18 ⟨rfl, hb⟩; refine ⟨_, rfl, ?_⟩; replace HO761 := AM (Kd.R_below (ZR HO761.out) hb); replace HO764 := AM (Kd.N_below (ZRN HO764.out) hb); replace BK765 := ZW BK765 hb; replace HB := ZT HB hb; clear hb))
  go_meet
  case rel => exact ⟨_, (true), (by first | rfl | (simp; done) | (simp [*]; done)), H', ⟨by have := HJ2.out; first | omega | exact Nat.le_refl _⟩, ⟨ZR HO761.out⟩, ⟨ZRN HO764.out⟩, ⟨ZK BK765.out⟩, ⟨ZB⟩⟩)
  ·(
  rw [if_neg c16] at H
  have c16b0 : (t766 != t767) = false := by simpa using c16
  (try (have c16b1 : decide (t766 = t767) = true := by simpa using c16))
  (try (have c16b2 : (t766 == t767) = true := by simpa using c16))
  clear c16
  (first | rw [c16b0] | (simp only [i64_w, i32_w]; rw [c16b0]) | skip)
  obtain ⟨t768, A19, H⟩ := ZOB H; try dsimp only at H
  by_cases c20 : t768 = true
  ·(
  subst c20
  have H1 := H; rw [if_pos rfl] at H1
  clear H
  have H := H1
  clear H1
  have H' := AM H
  clear H
  have hcz21 := ZC2 w14 BK765
  have hfz21 := ZF2 BK765
  go_wp2_with (first | ((with_reducible refine gate_callee (f := 22) rfl ?_); refine ZGL (some 22) Try.func22 #[.agg #[.slice Ao11 t759.length co11, .slice Ao13 t762.length co13]] ?_; (with_reducible refine (spec_TypeOk.calls kj2 _ _ t759 _ _ t762 t767 _ ?side1 ?side2 ?side3 ?side4 A15.out).mono ?_); (case side1 => exact ZQ ((Kd.R_reads' HO761.out).2.2)); (case side2 => exact (Kd.R_reads' HO761.out).2.1); (case side3 => exact ZQ ((Kd.N_reads' HO764.out).2.2)); (case side4 => exact (Kd.N_reads' HO764.out).2.1); rintro e w22 ⟨rfl, hb⟩; refine ⟨_, rfl, ?_⟩; replace HO761 := AM (Kd.R_below (ZR HO761.out) hb); replace HO764 := AM (Kd.N_below (ZRN HO764.out) hb); replace BK765 := ZW BK765 hb; replace HB := ZT HB hb; clear hb; have hcz23 := ZC2 w22 BK765; have hfz23 := ZF2 BK765) | (go_at_call 19; (with_reducible refine (spec_ProgOk.calls kj2 _ _ t759 _ _ t762 true _ ?side1 ?side2 ?side3 ?side4 A19.out).mono ?_); (case side1 => exact ZQ ((Kd.R_reads' HO761.out).2.2)); (case side2 => exact (Kd.R_reads' HO761.out).2.1); (case side3 => exact ZQ ((Kd.N_reads' HO764.out).2.2)); (case side4 => exact (Kd.N_reads' HO764.out).2.1); rintro e w24 ⟨rfl, hb⟩; replace HO761 := AM (Kd.R_below (ZR HO761.out) hb); replace HO764 := AM (Kd.N_below (ZRN HO764.out) hb); replace BK765 := ZW BK765 hb; replace HB := ZT HB hb; clear hb; have hcz25 := ZC2 w24 BK765; have hfz25 := ZF2 BK765))
  go_meet
  case rel => exact ⟨_, (((t759.length : Int) == 0)), (by first | rfl | (simp; done) | (simp [*]; done)), H', ⟨by have := HJ2.out; first | omega | exact Nat.le_refl _⟩, ⟨ZR HO761.out⟩, ⟨ZRN HO764.out⟩, ⟨ZK BK765.out⟩, ⟨ZB⟩⟩)
  ·(
  replace c20 := Bool.eq_false_iff.mpr c20
  subst c20
  have H1 := H; rw [if_neg ZFT] at H1
  clear H
  have H := H1
  clear H1
  have H' := AM H
  clear H
  have hcz26 := ZC2 w14 BK765
  have hfz26 := ZF2 BK765
  go_wp2_with (first | ((with_reducible refine gate_callee (f := 22) rfl ?_); refine ZGL (some 22) Try.func22 #[.agg #[.slice Ao11 t759.length co11, .slice Ao13 t762.length co13]] ?_; (with_reducible refine (spec_TypeOk.calls kj2 _ _ t759 _ _ t762 t767 _ ?side1 ?side2 ?side3 ?side4 A15.out).mono ?_); (case side1 => exact ZQ ((Kd.R_reads' HO761.out).2.2)); (case side2 => exact (Kd.R_reads' HO761.out).2.1); (case side3 => exact ZQ ((Kd.N_reads' HO764.out).2.2)); (case side4 => exact (Kd.N_reads' HO764.out).2.1); rintro e w27 ⟨rfl, hb⟩; refine ⟨_, rfl, ?_⟩; replace HO761 := AM (Kd.R_below (ZR HO761.out) hb); replace HO764 := AM (Kd.N_below (ZRN HO764.out) hb); replace BK765 := ZW BK765 hb; replace HB := ZT HB hb; clear hb; have hcz28 := ZC2 w27 BK765; have hfz28 := ZF2 BK765) | (go_at_call 19; (with_reducible refine (spec_ProgOk.calls kj2 _ _ t759 _ _ t762 false _ ?side1 ?side2 ?side3 ?side4 A19.out).mono ?_); (case side1 => exact ZQ ((Kd.R_reads' HO761.out).2.2)); (case side2 => exact (Kd.R_reads' HO761.out).2.1); (case side3 => exact ZQ ((Kd.N_reads' HO764.out).2.2)); (case side4 => exact (Kd.N_reads' HO764.out).2.1); rintro e w29 ⟨rfl, hb⟩; replace HO761 := AM (Kd.R_below (ZR HO761.out) hb); replace HO764 := AM (Kd.N_below (ZRN HO764.out) hb); replace BK765 := ZW BK765 hb; replace HB := ZT HB hb; clear hb))
  go_meet
  case rel => exact ⟨_, (true), (by first | rfl | (simp; done) | (simp [*]; done)), H', ⟨by have := HJ2.out; first | omega | exact Nat.le_refl _⟩, ⟨ZR HO761.out⟩, ⟨ZRN HO764.out⟩, ⟨ZK BK765.out⟩, ⟨ZB⟩⟩)))
  case rest => (
  clear HC8
  try clear c1
  try clear c2
  try clear p2
  try clear c4
  try clear c4b0
  try clear c4b1
  try clear c5
  try clear c7
  try clear c16
  try clear c16b0
  try clear c16b1
  try clear c16b2
  try clear c20
  try clear c21
  try clear c22
  try clear hcz12
  try clear hcz17
  try clear hcz21
  try clear hcz23
  try clear hcz25
  try clear hcz26
  try clear hcz28
  try clear hfz12
  try clear hfz17
  try clear hfz21
  try clear hfz23
  try clear hfz25
  try clear hfz26
  try clear hfz28
  try clear p2
  obtain ⟨kq, x34_7, rfl, HA, HJ7, HO_766000, HO_766001, BK765, HB⟩ := hcut
  cases kq with
  | zero => exact absurd HA.out (by simp [laws_FnTypeDeep.j1])
  | succ kj7 =>
   have H := HA.out
   clear HA
   simp only [laws_FnTypeDeep.j1] at H
   by_cases c30 : x34_7 = true
   ·(
   subst c30
   have H1 := H; rw [if_pos rfl] at H1
   clear H
   have H := H1
   clear H1
   obtain ⟨t769, A31, H⟩ := ZOB H; try dsimp only at H
   obtain rfl := Option.some.inj H
   have hcz32 := ZC2 wc BK765
   have hfz32 := ZF2 BK765
   go_wp2_with (first | ((with_reducible refine gate_callee (f := 22) rfl ?_); refine ZGL (some 37) Try.func22 #[.agg #[.slice Ao11 t759.length co11, .slice Ao13 t762.length co13]] ?_; (with_reducible refine (spec_TypeOk.calls kj7 _ _ t759 _ _ t762 t769 _ ?side1 ?side2 ?side3 ?side4 A31.out).mono ?_); (case side1 => exact ZQ ((Kd.R_reads' HO_766000.out).2.2)); (case side2 => exact (Kd.R_reads' HO_766000.out).2.1); (case side3 => exact ZQ ((Kd.N_reads' HO_766001.out).2.2)); (case side4 => exact (Kd.N_reads' HO_766001.out).2.1); rintro e w33 ⟨rfl, hb⟩; refine ⟨_, rfl, ?_⟩; replace HO_766000 := AM (Kd.R_below (ZR HO_766000.out) hb); replace HO_766001 := AM (Kd.N_below (ZRN HO_766001.out) hb); replace BK765 := ZW BK765 hb; replace HB := ZT HB hb; clear hb))
   go_ret
   exact ⟨ZE, ZB⟩)
   ·(
   replace c30 := Bool.eq_false_iff.mpr c30
   subst c30
   have H1 := H; rw [if_neg ZFT] at H1
   clear H
   have H := H1
   clear H1
   by_cases c34 : (t759.length : Int) = 0
   ·(
   rw [if_pos c34] at H
   exact absurd H (by simp))
   ·(
   rw [if_neg c34] at H
   have c34b0 := beq_eq_false_iff_ne.mpr c34
   have c34b1 := bne_iff_ne.mpr c34
   have c34b2 : ¬ (t759 = []) := fun h_ => c34 (by rw [h_]; rfl)
   obtain ⟨y770, hy770⟩ : ∃ y_ : List (S32), y_ = (([(⟨2, (l1.length : Int) % (t759.length : Int), (⟨0, 0, 0⟩ : S30), 0, t762, ([] : List (S32))⟩ : S32)] : List (S32))) := ⟨_, rfl⟩
   replace H : ((impl_TypeOk.f kj7 t759 y770).bind fun t774 => (if t774 = true then (some t766) else (some true))) = some r := by first | (rw [hy770]; with_reducible exact H) | (have H2_ := (Option.bind_some _ _).symm.trans H; rw [hy770]; with_reducible exact H2_) | (have H2_ := (Option.bind_some _ _).symm.trans H; with_reducible exact H2_) | with_reducible exact H | (rw [hy770]; exact H) | exact H
   have Ny770 := AM hy770
   clear hy770
   obtain ⟨t774, A35, H⟩ := ZOB H; try dsimp only at H
   by_cases c36 : t774 = true
   ·(
   subst c36
   have H1 := H; rw [if_pos rfl] at H1
   clear H
   have H := H1
   clear H1
   obtain rfl := Option.some.inj H
   try go_wp2
   replace HO_766000 := AM (Kd.R_drew HO_766000.out)
   replace HO_766001 := AM (Kd.N_drew HO_766001.out)
   replace BK765 := AM (blk_drew BK765.out)
   replace HB := AM (below_drew1 HB.out)
   refine start_ (n := 15) (S := fun w' => w'.cell? ⟨gb765, 0, none⟩ = some (.slice Ao11 t759.length co11) ∧ w'.cell? ⟨gb765, 1, none⟩ = some (.slice Ao13 t762.length co13)) (ds := []) #[F,F,F,F,F,F,F,F,F,F,F,F,F,F,F] (by kernel_rfl) rfl rfl ⟨ZA BK765 0, ZA BK765 1⟩ (fun hHeld => ?_); refine with_tabW laws_FnTypeDeep.tab7 laws_FnTypeDeep.bits7 (fun HT_ HW_ => ?_)
   generalize wc.drew = w37 at HO_766000 HO_766001 BK765 HB hHeld ⊢
   refine ZU 0 39 #[T,F,F,F,F,F,F,F,F,F,F,F,F,F,F] ?_
   refine ZU 2 41 #[T,F,T,F,F,F,F,F,F,F,F,F,F,F,F] ?_
   refine ZU 3 42 #[T,F,T,T,F,F,F,F,F,F,F,F,F,F,F] ?_
   refine ZU 4 43 #[T,F,T,T,T,F,F,F,F,F,F,F,F,F,F] ?_
   refine ZU 8 47 #[T,F,T,T,T,F,F,F,T,F,F,F,F,F,F] ?_
   refine ZTK 1 40 #[T,T,T,T,T,F,F,F,T,F,F,F,F,F,F] hHeld ?_
   refine ZTK 5 44 #[T,T,T,T,T,T,F,F,T,F,F,F,F,F,F] hHeld ?_
   refine ZU 6 45 #[T,T,T,T,T,T,T,F,T,F,F,F,F,F,F] ?_
   refine ZU 7 46 #[T,T,T,T,T,T,T,T,T,F,F,F,F,F,F] ?_
   refine ZTK 9 48 #[T,T,T,T,T,T,T,T,T,T,F,F,F,F,F] hHeld ?_
   refine ZU 10 49 #[T,T,T,T,T,T,T,T,T,T,T,F,F,F,F] ?_
   refine join_ (σ := Value × Nat) 1 #[T,T,T,T,T,T,T,T,T,T,T,T,T,T,F] (fun s_ => [(50, s_.1), (7, .pointer (some ⟨s_.2, 0, none⟩)), (51, .agg #[.slice Ao11 t759.length co11, s_.1])]) (fun s_ w' => (w'.cell? ⟨gb765, 0, none⟩ = some (.slice Ao11 t759.length co11) ∧ w'.cell? ⟨gb765, 1, none⟩ = some (.slice Ao13 t762.length co13)) ∧ (Kd.N k32 32 w' w.heap.size (fun k_ => some k_ ≠ (.slice Ao11 t759.length co11 : Value).ownBlock ∧ k_ ≠ gb765 ∧ k_ ≠ s_.2) s_.1 y770) ∧ (Kd.R k39 39 w' w.heap.size (fun _ => True) (.slice Ao11 t759.length co11) t759) ∧ (w'.heap[gb765]? = some (.cells #[.slice Ao11 t759.length co11, .slice Ao13 t762.length co13] 26 (0, 0))) ∧ (w'.heap[s_.2]? = some (.cells #[.slice none 0 0, .slice none 0 0] 26 (0, 0))) ∧ (w.heap.size ≤ s_.2) ∧ (w.heap.size ≤ s_.2) ∧ (gb765 ≠ s_.2) ∧ (s_.2 ≠ gb765) ∧ (Below w.heap.size w w')) ?_ ?_
   rotate_left
   ·(
   intro hCont
   refine two_ (i := 11) (j := 13) (Ni := some 50) (Nj := some 7) #[T,T,T,T,T,T,T,T,T,T,T,T,F,F,F] #[T,T,T,T,T,T,T,T,T,T,T,F,F,T,F] rfl rfl rfl rfl (two_of HT_.out (by kernel_rfl)) (by decide) (by decide) (fun K hK => ?_) (fun K hK => ?_)
   ·(
   skip
   refine Kd.N_lit_step k32 _ 32 ?hg (N' := 50) ?hd (xs := ([(⟨2, (l1.length : Int) % (t759.length : Int), (⟨0, 0, 0⟩ : S30), 0, t762, ([] : List (S32))⟩ : S32)] : List (S32))) (inner := [.int .i64 2, .int .i64 ((l1.length : Int) % (t759.length : Int)), .int .i64 0, .int .i64 0, .int .i64 0, .int .i64 0, .slice Ao13 t762.length co13, .slice none 0 0]) (ok := (fun k_ => some k_ ≠ (.slice Ao11 t759.length co11 : Value).ownBlock ∧ k_ ≠ gb765)) (okp := (fun k_ => some k_ ≠ (.slice Ao11 t759.length co11 : Value).ownBlock ∧ k_ ≠ gb765)) ?hr ?hp (fun _ hk => hk) ((show ∀ k_, w37.heap.size ≤ k_ → (fun k_ => some k_ ≠ (.slice Ao11 t759.length co11 : Value).ownBlock ∧ k_ ≠ gb765) k_ from fun k_ hk => ⟨Kd.fresh' (Kd.R_lt (ZR HO_766000.out)) k_ hk, Kd.freshB (g := gb765) (o := .cells #[.slice Ao11 t759.length co11, .slice Ao13 t762.length co13] 26 (0, 0)) (ZK BK765.out) k_ hk⟩) _ (Nat.le_refl _)) (Below.refl _ _) (Nat.le_refl _) (by simp) ?_; (case hd => rfl); (case hg => rfl); (case hr => first | (go_simp; done) | (go_simp; rfl)); (case hp => exact (Reps.c8 (show Kd.FK k32 _ _ (⟨2, (l1.length : Int) % (t759.length : Int), (⟨0, 0, 0⟩ : S30), 0, t762, ([] : List (S32))⟩ : S32) [.int .i64 2, .int .i64 ((l1.length : Int) % (t759.length : Int)), .int .i64 0, .int .i64 0, .int .i64 0, .int .i64 0, .slice Ao13 t762.length co13, .slice none 0 0] from (k32_mkF _ _ (⟨2, (l1.length : Int) % (t759.length : Int), (⟨0, 0, 0⟩ : S30), 0, t762, ([] : List (S32))⟩ : S32) (Kd.N_reads' (Kd.N_mono (ok' := (fun k_ => some k_ ≠ (.slice Ao11 t759.length co11 : Value).ownBlock ∧ k_ ≠ gb765)) (HO_766001.out) (fun k_ hk => ⟨hk.1, hk.2⟩))).2.1 (Kd.N_F (Kd.N_mono (ok' := (fun k_ => some k_ ≠ (.slice Ao11 t759.length co11 : Value).ownBlock ∧ k_ ≠ gb765)) (HO_766001.out) (fun k_ hk => ⟨hk.1, hk.2⟩))) (Nat.le_refl _) (Kd.F_nil _ _ _))) (Reps.none _ _)))
   intro v771 w38 ho39 hb hg_ hnew_
   clear hg_ hnew_
   (first | rw [← Ny770.out] at ho39 | (simp only [Int.reduceToNat] at ho39; rw [← Ny770.out] at ho39))
   have n0_ := AM (Kd.R_below (ZR HO_766000.out) hb)
   have n1_ := AM (Kd.N_lower ho39 (below_size (ZB)))
   have n2_ := ZW BK765 hb
   have n3_ := ZT HB hb
   clear HO_766000 BK765 HB HO_766001
   have HO_766000 := n0_
   have HO772 := n1_
   have BK765 := n2_
   have HB := n3_
   clear n0_ n1_ n2_ n3_ hb ho39
   obtain ⟨Ao40, co40, eo40⟩ := Kd.N_slice HO772.out
   (first | subst eo40 | (injection eo40 with f1_ f2_ f3_; have f4_ := f1_.symm; have f5_ := f3_.symm; clear f1_ f2_ f3_; subst f4_; subst f5_))
   refine hK.out _ _ ⟨ZA BK765 0, ZA BK765 1⟩ (fun hHeld => ?_)
   clear hK K
   refine ZNO 50 ?_
   refine ZU 12 51 #[T,T,T,T,T,T,T,T,T,T,T,T,T,F,F] ?_
   refine one_ (i := 13) (N := some 7) #[T,T,T,T,T,T,T,T,T,T,T,T,T,T,F] rfl rfl (one_of HT_.out (by kernel_rfl)) (by decide) (fun K hK => ?_)
   refine box_step ?hg (N := 7) ?hd (cs := #[.slice none 0 0, .slice none 0 0]) (t := 26) ?hr ?_; (case hd => rfl); (case hg => rfl); (case hr => first | (go_simp; done) | (go_simp; rfl))
   intro gb773 hg w41 hbox hb
   have BK773 := AM (hbox)
   have GW773 : Za (w.heap.size ≤ gb773) := ZS hg
   have GE773 : Za (w.heap.size ≤ gb773) := ZS hg
   have NB765_773 : Za (gb765 ≠ gb773) := ZN hg BK765
   have NB773_765 : Za (gb773 ≠ gb765) := ZM hg BK765
   replace HO_766000 := AM (Kd.R_below (ZR HO_766000.out) hb)
   replace HO772 := AM (Kd.N_below (Kd.N_elderB (ZRN HO772.out) gb773 (Nat.le_of_eq hg.symm)) hb)
   replace BK765 := ZW BK765 hb
   replace HB := ZT HB hb
   clear hb hbox hg
   refine hK.out _ _ ⟨ZA BK765 0, ZA BK765 1⟩ (fun hHeld => ?_)
   clear hK K
   refine ZNO 7 ?_
   exact norm_ (by simp only [putAll, Act.put, List.setIfInBounds_toArray, List.set_cons_zero, List.set_cons_succ]) (hCont (.slice Ao40 y770.length co40, gb773) _ ⟨hHeld, (by (with_reducible repeat (first | apply Kd.N_alloc | apply Kd.N_drewN | apply Kd.N_drew)); exact Kd.N_mono HO772.out (fun _ hk => ⟨hk.1.1, ⟨hk.1.2, hk.2⟩⟩)), (ZR HO_766000.out), (ZK BK765.out), (ZK BK773.out), GW773.out, GE773.out, NB765_773.out, NB773_765.out, (ZB)⟩))
   ·(
   skip
   refine box_step ?hg (N := 7) ?hd (cs := #[.slice none 0 0, .slice none 0 0]) (t := 26) ?hr ?_; (case hd => rfl); (case hg => rfl); (case hr => first | (go_simp; done) | (go_simp; rfl))
   intro gb773 hg w38 hbox hb
   have BK773 := AM (hbox)
   have GW773 : Za (w.heap.size ≤ gb773) := ZS hg
   have GE773 : Za (w.heap.size ≤ gb773) := ZS hg
   have NB765_773 : Za (gb765 ≠ gb773) := ZN hg BK765
   have NB773_765 : Za (gb773 ≠ gb765) := ZM hg BK765
   replace HO_766000 := AM (Kd.R_below (ZR HO_766000.out) hb)
   replace HO_766001 := AM (Kd.N_below (Kd.N_elderB (ZRN HO_766001.out) gb773 (Nat.le_of_eq hg.symm)) hb)
   replace BK765 := ZW BK765 hb
   replace HB := ZT HB hb
   clear hb hbox hg
   refine hK.out _ _ ⟨ZA BK765 0, ZA BK765 1⟩ (fun hHeld => ?_)
   clear hK K
   refine ZNO 7 ?_
   refine one_ (i := 11) (N := some 50) #[T,T,T,T,T,T,T,T,T,T,T,T,F,T,F] rfl rfl (one_of HT_.out (by kernel_rfl)) (by decide) (fun K hK => ?_)
   refine Kd.N_lit_step k32 _ 32 ?hg (N' := 50) ?hd (xs := ([(⟨2, (l1.length : Int) % (t759.length : Int), (⟨0, 0, 0⟩ : S30), 0, t762, ([] : List (S32))⟩ : S32)] : List (S32))) (inner := [.int .i64 2, .int .i64 ((l1.length : Int) % (t759.length : Int)), .int .i64 0, .int .i64 0, .int .i64 0, .int .i64 0, .slice Ao13 t762.length co13, .slice none 0 0]) (ok := (fun k_ => some k_ ≠ (.slice Ao11 t759.length co11 : Value).ownBlock ∧ k_ ≠ gb765 ∧ k_ ≠ gb773)) (okp := (fun k_ => some k_ ≠ (.slice Ao11 t759.length co11 : Value).ownBlock ∧ k_ ≠ gb765 ∧ k_ ≠ gb773)) ?hr ?hp (fun _ hk => hk) ((show ∀ k_, w38.heap.size ≤ k_ → (fun k_ => some k_ ≠ (.slice Ao11 t759.length co11 : Value).ownBlock ∧ k_ ≠ gb765 ∧ k_ ≠ gb773) k_ from fun k_ hk => ⟨Kd.fresh' (Kd.R_lt (ZR HO_766000.out)) k_ hk, Kd.freshB (g := gb765) (o := .cells #[.slice Ao11 t759.length co11, .slice Ao13 t762.length co13] 26 (0, 0)) (ZK BK765.out) k_ hk, Kd.freshB (g := gb773) (o := .cells #[.slice none 0 0, .slice none 0 0] 26 (0, 0)) (ZK BK773.out) k_ hk⟩) _ (Nat.le_refl _)) (Below.refl _ _) (Nat.le_refl _) (by simp) ?_; (case hd => rfl); (case hg => rfl); (case hr => first | (go_simp; done) | (go_simp; rfl)); (case hp => exact (Reps.c8 (show Kd.FK k32 _ _ (⟨2, (l1.length : Int) % (t759.length : Int), (⟨0, 0, 0⟩ : S30), 0, t762, ([] : List (S32))⟩ : S32) [.int .i64 2, .int .i64 ((l1.length : Int) % (t759.length : Int)), .int .i64 0, .int .i64 0, .int .i64 0, .int .i64 0, .slice Ao13 t762.length co13, .slice none 0 0] from (k32_mkF _ _ (⟨2, (l1.length : Int) % (t759.length : Int), (⟨0, 0, 0⟩ : S30), 0, t762, ([] : List (S32))⟩ : S32) (Kd.N_reads' (Kd.N_mono (ok' := (fun k_ => some k_ ≠ (.slice Ao11 t759.length co11 : Value).ownBlock ∧ k_ ≠ gb765 ∧ k_ ≠ gb773)) (HO_766001.out) (fun k_ hk => ⟨hk.1.1, ⟨hk.1.2, hk.2⟩⟩))).2.1 (Kd.N_F (Kd.N_mono (ok' := (fun k_ => some k_ ≠ (.slice Ao11 t759.length co11 : Value).ownBlock ∧ k_ ≠ gb765 ∧ k_ ≠ gb773)) (HO_766001.out) (fun k_ hk => ⟨hk.1.1, ⟨hk.1.2, hk.2⟩⟩))) (Nat.le_refl _) (Kd.F_nil _ _ _))) (Reps.none _ _)))
   intro v771 w39 ho40 hb hg_ hnew_
   clear hg_ hnew_
   (first | rw [← Ny770.out] at ho40 | (simp only [Int.reduceToNat] at ho40; rw [← Ny770.out] at ho40))
   have n0_ := AM (Kd.R_below (ZR HO_766000.out) hb)
   have n1_ := AM (Kd.N_lower ho40 (below_size (ZB)))
   have n2_ := ZW BK765 hb
   have n3_ := ZW BK773 hb
   have n4_ := ZT HB hb
   clear HO_766000 BK765 BK773 HB HO_766001
   have HO_766000 := n0_
   have HO772 := n1_
   have BK765 := n2_
   have BK773 := n3_
   have HB := n4_
   clear n0_ n1_ n2_ n3_ n4_ hb ho40
   obtain ⟨Ao41, co41, eo41⟩ := Kd.N_slice HO772.out
   (first | subst eo41 | (injection eo41 with f1_ f2_ f3_; have f4_ := f1_.symm; have f5_ := f3_.symm; clear f1_ f2_ f3_; subst f4_; subst f5_))
   refine hK.out _ _ ⟨ZA BK765 0, ZA BK765 1⟩ (fun hHeld => ?_)
   clear hK K
   refine ZNO 50 ?_
   refine ZU 12 51 #[T,T,T,T,T,T,T,T,T,T,T,T,T,T,F] ?_
   exact norm_ (by simp only [putAll, Act.put, List.setIfInBounds_toArray, List.set_cons_zero, List.set_cons_succ]) (hCont (.slice Ao41 y770.length co41, gb773) _ ⟨hHeld, (ZRN HO772.out), (ZR HO_766000.out), (ZK BK765.out), (ZK BK773.out), GW773.out, GE773.out, NB765_773.out, NB773_765.out, (ZB)⟩)))
   rintro ⟨v771, gb773⟩ w42 ⟨hS_, h0_, h1_, h2_, h3_, h4_, h5_, h6_, h7_, h8_⟩
   try dsimp only at h0_ h1_ h2_ h3_ h4_ h5_ h6_ h7_ h8_
   have n0_ := AM h0_
   have n1_ := AM h1_
   have n2_ := AM h2_
   have n3_ := AM h3_
   have n4_ := AM h4_
   have n5_ := AM h5_
   have n6_ := AM h6_
   have n7_ := AM h7_
   have n8_ := AM h8_
   clear HO_766000 HO_766001 BK765 HB h0_ h1_ h2_ h3_ h4_ h5_ h6_ h7_ h8_
   have HO772 := n0_
   have HO_766000 := n1_
   have BK765 := n2_
   have BK773 := n3_
   have GW773 := n4_
   have GE773 := n5_
   have NB765_773 := n6_
   have NB773_765 := n7_
   have HB := n8_
   clear n0_ n1_ n2_ n3_ n4_ n5_ n6_ n7_ n8_
   try dsimp only at hS_
   have hHeld := hS_
   obtain ⟨Ao43, co43, eo43⟩ := Kd.N_slice HO772.out
   (first | subst eo43 | (injection eo43 with f1_ f2_ f3_; have f4_ := f1_.symm; have f5_ := f3_.symm; clear f1_ f2_ f3_; subst f4_; subst f5_))
   refine ZNP ?_
   refine one_ (i := 14) (N := none) #[T,T,T,T,T,T,T,T,T,T,T,T,T,T,T] rfl rfl (one_of HT_.out (by kernel_rfl)) (by decide) (fun K hK => ?_)
   have hs44 : w42.cell? ⟨gb773, 0, none⟩ = some (.slice none 0 0) := ZA BK773 0
   have hfs44 := blk_frozen BK773.out 0
   have hns44_0 := NB765_773.out
   have hms44_0 := NB773_765.out
   have hs45 : w42.cell? ⟨gb773, 1, none⟩ = some (.slice none 0 0) := ZA BK773 1
   have hfs45 := blk_frozen BK773.out 1
   have hns45_0 := NB765_773.out
   have hms45_0 := NB773_765.out
   refine skip_ (w1 := ?_) (by rfl) rfl ?_ ?_
   rotate_left
   ·(
   go_simp
   rfl)
   refine hK.out _ _ ⟨((cell_far (p := ⟨gb773, _, none⟩) NB765_773.out _).trans (((cell_far (p := ⟨gb773, _, none⟩) NB765_773.out _).trans (hHeld.1)))), ((cell_far (p := ⟨gb773, _, none⟩) NB765_773.out _).trans (((cell_far (p := ⟨gb773, _, none⟩) NB765_773.out _).trans (hHeld.2))))⟩ (fun hHeld => ?_)
   clear hK K
   refine done_ (done_of HT_.out (by kernel_rfl)) ?_
   have hnb46 := NB773_765.out
   have hnc46 := NB765_773.out
   have hcz47 := ZC2 w42 BK773
   have hfz47 := ZF2 BK773
   try go_wp2_with (first | ((with_reducible refine gate_callee (f := 20) rfl ?_); refine ZGL (some 53) Try.func20 #[.agg #[.slice Ao11 t759.length co11, .slice Ao43 y770.length co43]] ?_; (with_reducible refine (impl_TypeOk.calls kj7 _ _ t759 _ _ y770 true _ ?side1 ?side2 ?side3 ?side4 A35.out).mono ?_); (case side1 => refine (Kd.R_reads' (e := 39) (base := w.heap.size) (ok := fun k_ => True) (n := t759.length) (c := co11) ?_).2.2; exact (ZR ((Kd.R_mono (Kd.R_far (p := ⟨gb773, 1, none⟩) (Kd.R_far (p := ⟨gb773, 0, none⟩) (Kd.R_types HO_766000.out BK773.out (by decide)) (fun _ hk => hk.2) (.slice Ao11 t759.length co11)) (fun _ hk => hk.2) (.slice Ao43 y770.length co43)) (fun _ h_ => h_.1))))); (case side2 => exact (Kd.R_reads' HO_766000.out).2.1); (case side3 => refine (Kd.N_reads' (e := 32) (base := w.heap.size) (ok := fun k_ => (some k_ ≠ (.slice Ao11 t759.length co11 : Value).ownBlock ∧ (k_ ≠ gb765 ∧ k_ ≠ gb773))) (n := y770.length) (c := co43) ?_).2.2; exact (by (with_reducible repeat (first | apply Kd.N_alloc | apply Kd.N_drewN | apply Kd.N_drew)); exact (Kd.N_mono (Kd.N_far (p := ⟨gb773, 1, none⟩) (Kd.N_far (p := ⟨gb773, 0, none⟩) (Kd.N_mono HO772.out (fun k_ hk => (⟨hk, hk.2.2⟩ : _ ∧ k_ ≠ gb773))) (fun _ hk => hk.2) (.slice Ao11 t759.length co11)) (fun _ hk => hk.2) (.slice Ao43 y770.length co43)) (fun _ h_ => h_.1)))); (case side4 => exact (Kd.N_reads' HO772.out).2.1); rintro e w48 ⟨rfl, hb⟩; refine ⟨_, rfl, ?_⟩; replace HO_766000 := AM (Kd.R_below (ZR ((Kd.R_mono (Kd.R_far (p := ⟨gb773, 1, none⟩) (Kd.R_far (p := ⟨gb773, 0, none⟩) (Kd.R_types HO_766000.out BK773.out (by decide)) (fun _ hk => hk.2) (.slice Ao11 t759.length co11)) (fun _ hk => hk.2) (.slice Ao43 y770.length co43)) (fun _ h_ => h_.1)))) hb); replace HO772 := AM (Kd.N_below (by (with_reducible repeat (first | apply Kd.N_alloc | apply Kd.N_drewN | apply Kd.N_drew)); exact (Kd.N_mono (Kd.N_far (p := ⟨gb773, 1, none⟩) (Kd.N_far (p := ⟨gb773, 0, none⟩) (Kd.N_mono HO772.out (fun k_ hk => (⟨hk, hk.2.2⟩ : _ ∧ k_ ≠ gb773))) (fun _ hk => hk.2) (.slice Ao11 t759.length co11)) (fun _ hk => hk.2) (.slice Ao43 y770.length co43)) (fun _ h_ => h_.1))) hb); replace BK765 := ZV #[.slice Ao11 t759.length co11, .slice Ao13 t762.length co13] BK765 hb; replace BK773 := ZV #[.slice Ao11 t759.length co11, .slice Ao43 y770.length co43] BK773 hb; replace HB := ZT HB hb; clear hb))
   go_ret
   exact ⟨ZE, ZB⟩)
   ·(
   replace c36 := Bool.eq_false_iff.mpr c36
   subst c36
   have H1 := H; rw [if_neg ZFT] at H1
   clear H
   have H := H1
   clear H1
   obtain rfl := Option.some.inj H
   try go_wp2
   replace HO_766000 := AM (Kd.R_drew HO_766000.out)
   replace HO_766001 := AM (Kd.N_drew HO_766001.out)
   replace BK765 := AM (blk_drew BK765.out)
   replace HB := AM (below_drew1 HB.out)
   refine start_ (n := 15) (S := fun w' => w'.cell? ⟨gb765, 0, none⟩ = some (.slice Ao11 t759.length co11) ∧ w'.cell? ⟨gb765, 1, none⟩ = some (.slice Ao13 t762.length co13)) (ds := []) #[F,F,F,F,F,F,F,F,F,F,F,F,F,F,F] (by kernel_rfl) rfl rfl ⟨ZA BK765 0, ZA BK765 1⟩ (fun hHeld => ?_); refine with_tabW laws_FnTypeDeep.tab7 laws_FnTypeDeep.bits7 (fun HT_ HW_ => ?_)
   generalize wc.drew = w49 at HO_766000 HO_766001 BK765 HB hHeld ⊢
   refine ZU 0 39 #[T,F,F,F,F,F,F,F,F,F,F,F,F,F,F] ?_
   refine ZU 2 41 #[T,F,T,F,F,F,F,F,F,F,F,F,F,F,F] ?_
   refine ZU 3 42 #[T,F,T,T,F,F,F,F,F,F,F,F,F,F,F] ?_
   refine ZU 4 43 #[T,F,T,T,T,F,F,F,F,F,F,F,F,F,F] ?_
   refine ZU 8 47 #[T,F,T,T,T,F,F,F,T,F,F,F,F,F,F] ?_
   refine ZTK 1 40 #[T,T,T,T,T,F,F,F,T,F,F,F,F,F,F] hHeld ?_
   refine ZTK 5 44 #[T,T,T,T,T,T,F,F,T,F,F,F,F,F,F] hHeld ?_
   refine ZU 6 45 #[T,T,T,T,T,T,T,F,T,F,F,F,F,F,F] ?_
   refine ZU 7 46 #[T,T,T,T,T,T,T,T,T,F,F,F,F,F,F] ?_
   refine ZTK 9 48 #[T,T,T,T,T,T,T,T,T,T,F,F,F,F,F] hHeld ?_
   refine ZU 10 49 #[T,T,T,T,T,T,T,T,T,T,T,F,F,F,F] ?_
   refine join_ (σ := Value × Nat) 1 #[T,T,T,T,T,T,T,T,T,T,T,T,T,T,F] (fun s_ => [(50, s_.1), (7, .pointer (some ⟨s_.2, 0, none⟩)), (51, .agg #[.slice Ao11 t759.length co11, s_.1])]) (fun s_ w' => (w'.cell? ⟨gb765, 0, none⟩ = some (.slice Ao11 t759.length co11) ∧ w'.cell? ⟨gb765, 1, none⟩ = some (.slice Ao13 t762.length co13)) ∧ (Kd.N k32 32 w' w.heap.size (fun k_ => some k_ ≠ (.slice Ao11 t759.length co11 : Value).ownBlock ∧ k_ ≠ gb765 ∧ k_ ≠ s_.2) s_.1 y770) ∧ (Kd.R k39 39 w' w.heap.size (fun _ => True) (.slice Ao11 t759.length co11) t759) ∧ (w'.heap[gb765]? = some (.cells #[.slice Ao11 t759.length co11, .slice Ao13 t762.length co13] 26 (0, 0))) ∧ (w'.heap[s_.2]? = some (.cells #[.slice none 0 0, .slice none 0 0] 26 (0, 0))) ∧ (w.heap.size ≤ s_.2) ∧ (w.heap.size ≤ s_.2) ∧ (gb765 ≠ s_.2) ∧ (s_.2 ≠ gb765) ∧ (Below w.heap.size w w')) ?_ ?_
   rotate_left
   ·(
   intro hCont
   refine two_ (i := 11) (j := 13) (Ni := some 50) (Nj := some 7) #[T,T,T,T,T,T,T,T,T,T,T,T,F,F,F] #[T,T,T,T,T,T,T,T,T,T,T,F,F,T,F] rfl rfl rfl rfl (two_of HT_.out (by kernel_rfl)) (by decide) (by decide) (fun K hK => ?_) (fun K hK => ?_)
   ·(
   skip
   refine Kd.N_lit_step k32 _ 32 ?hg (N' := 50) ?hd (xs := ([(⟨2, (l1.length : Int) % (t759.length : Int), (⟨0, 0, 0⟩ : S30), 0, t762, ([] : List (S32))⟩ : S32)] : List (S32))) (inner := [.int .i64 2, .int .i64 ((l1.length : Int) % (t759.length : Int)), .int .i64 0, .int .i64 0, .int .i64 0, .int .i64 0, .slice Ao13 t762.length co13, .slice none 0 0]) (ok := (fun k_ => some k_ ≠ (.slice Ao11 t759.length co11 : Value).ownBlock ∧ k_ ≠ gb765)) (okp := (fun k_ => some k_ ≠ (.slice Ao11 t759.length co11 : Value).ownBlock ∧ k_ ≠ gb765)) ?hr ?hp (fun _ hk => hk) ((show ∀ k_, w49.heap.size ≤ k_ → (fun k_ => some k_ ≠ (.slice Ao11 t759.length co11 : Value).ownBlock ∧ k_ ≠ gb765) k_ from fun k_ hk => ⟨Kd.fresh' (Kd.R_lt (ZR HO_766000.out)) k_ hk, Kd.freshB (g := gb765) (o := .cells #[.slice Ao11 t759.length co11, .slice Ao13 t762.length co13] 26 (0, 0)) (ZK BK765.out) k_ hk⟩) _ (Nat.le_refl _)) (Below.refl _ _) (Nat.le_refl _) (by simp) ?_; (case hd => rfl); (case hg => rfl); (case hr => first | (go_simp; done) | (go_simp; rfl)); (case hp => exact (Reps.c8 (show Kd.FK k32 _ _ (⟨2, (l1.length : Int) % (t759.length : Int), (⟨0, 0, 0⟩ : S30), 0, t762, ([] : List (S32))⟩ : S32) [.int .i64 2, .int .i64 ((l1.length : Int) % (t759.length : Int)), .int .i64 0, .int .i64 0, .int .i64 0, .int .i64 0, .slice Ao13 t762.length co13, .slice none 0 0] from (k32_mkF _ _ (⟨2, (l1.length : Int) % (t759.length : Int), (⟨0, 0, 0⟩ : S30), 0, t762, ([] : List (S32))⟩ : S32) (Kd.N_reads' (Kd.N_mono (ok' := (fun k_ => some k_ ≠ (.slice Ao11 t759.length co11 : Value).ownBlock ∧ k_ ≠ gb765)) (HO_766001.out) (fun k_ hk => ⟨hk.1, hk.2⟩))).2.1 (Kd.N_F (Kd.N_mono (ok' := (fun k_ => some k_ ≠ (.slice Ao11 t759.length co11 : Value).ownBlock ∧ k_ ≠ gb765)) (HO_766001.out) (fun k_ hk => ⟨hk.1, hk.2⟩))) (Nat.le_refl _) (Kd.F_nil _ _ _))) (Reps.none _ _)))
   intro v771 w50 ho51 hb hg_ hnew_
   clear hg_ hnew_
   (first | rw [← Ny770.out] at ho51 | (simp only [Int.reduceToNat] at ho51; rw [← Ny770.out] at ho51))
   have n0_ := AM (Kd.R_below (ZR HO_766000.out) hb)
   have n1_ := AM (Kd.N_lower ho51 (below_size (ZB)))
   have n2_ := ZW BK765 hb
   have n3_ := ZT HB hb
   clear HO_766000 BK765 HB HO_766001
   have HO_766000 := n0_
   have HO772 := n1_
   have BK765 := n2_
   have HB := n3_
   clear n0_ n1_ n2_ n3_ hb ho51
   obtain ⟨Ao52, co52, eo52⟩ := Kd.N_slice HO772.out
   (first | subst eo52 | (injection eo52 with f1_ f2_ f3_; have f4_ := f1_.symm; have f5_ := f3_.symm; clear f1_ f2_ f3_; subst f4_; subst f5_))
   refine hK.out _ _ ⟨ZA BK765 0, ZA BK765 1⟩ (fun hHeld => ?_)
   clear hK K
   refine ZNO 50 ?_
   refine ZU 12 51 #[T,T,T,T,T,T,T,T,T,T,T,T,T,F,F] ?_
   refine one_ (i := 13) (N := some 7) #[T,T,T,T,T,T,T,T,T,T,T,T,T,T,F] rfl rfl (one_of HT_.out (by kernel_rfl)) (by decide) (fun K hK => ?_)
   refine box_step ?hg (N := 7) ?hd (cs := #[.slice none 0 0, .slice none 0 0]) (t := 26) ?hr ?_; (case hd => rfl); (case hg => rfl); (case hr => first | (go_simp; done) | (go_simp; rfl))
   intro gb773 hg w53 hbox hb
   have BK773 := AM (hbox)
   have GW773 : Za (w.heap.size ≤ gb773) := ZS hg
   have GE773 : Za (w.heap.size ≤ gb773) := ZS hg
   have NB765_773 : Za (gb765 ≠ gb773) := ZN hg BK765
   have NB773_765 : Za (gb773 ≠ gb765) := ZM hg BK765
   replace HO_766000 := AM (Kd.R_below (ZR HO_766000.out) hb)
   replace HO772 := AM (Kd.N_below (Kd.N_elderB (ZRN HO772.out) gb773 (Nat.le_of_eq hg.symm)) hb)
   replace BK765 := ZW BK765 hb
   replace HB := ZT HB hb
   clear hb hbox hg
   refine hK.out _ _ ⟨ZA BK765 0, ZA BK765 1⟩ (fun hHeld => ?_)
   clear hK K
   refine ZNO 7 ?_
   exact norm_ (by simp only [putAll, Act.put, List.setIfInBounds_toArray, List.set_cons_zero, List.set_cons_succ]) (hCont (.slice Ao52 y770.length co52, gb773) _ ⟨hHeld, (by (with_reducible repeat (first | apply Kd.N_alloc | apply Kd.N_drewN | apply Kd.N_drew)); exact Kd.N_mono HO772.out (fun _ hk => ⟨hk.1.1, ⟨hk.1.2, hk.2⟩⟩)), (ZR HO_766000.out), (ZK BK765.out), (ZK BK773.out), GW773.out, GE773.out, NB765_773.out, NB773_765.out, (ZB)⟩))
   ·(
   skip
   refine box_step ?hg (N := 7) ?hd (cs := #[.slice none 0 0, .slice none 0 0]) (t := 26) ?hr ?_; (case hd => rfl); (case hg => rfl); (case hr => first | (go_simp; done) | (go_simp; rfl))
   intro gb773 hg w50 hbox hb
   have BK773 := AM (hbox)
   have GW773 : Za (w.heap.size ≤ gb773) := ZS hg
   have GE773 : Za (w.heap.size ≤ gb773) := ZS hg
   have NB765_773 : Za (gb765 ≠ gb773) := ZN hg BK765
   have NB773_765 : Za (gb773 ≠ gb765) := ZM hg BK765
   replace HO_766000 := AM (Kd.R_below (ZR HO_766000.out) hb)
   replace HO_766001 := AM (Kd.N_below (Kd.N_elderB (ZRN HO_766001.out) gb773 (Nat.le_of_eq hg.symm)) hb)
   replace BK765 := ZW BK765 hb
   replace HB := ZT HB hb
   clear hb hbox hg
   refine hK.out _ _ ⟨ZA BK765 0, ZA BK765 1⟩ (fun hHeld => ?_)
   clear hK K
   refine ZNO 7 ?_
   refine one_ (i := 11) (N := some 50) #[T,T,T,T,T,T,T,T,T,T,T,T,F,T,F] rfl rfl (one_of HT_.out (by kernel_rfl)) (by decide) (fun K hK => ?_)
   refine Kd.N_lit_step k32 _ 32 ?hg (N' := 50) ?hd (xs := ([(⟨2, (l1.length : Int) % (t759.length : Int), (⟨0, 0, 0⟩ : S30), 0, t762, ([] : List (S32))⟩ : S32)] : List (S32))) (inner := [.int .i64 2, .int .i64 ((l1.length : Int) % (t759.length : Int)), .int .i64 0, .int .i64 0, .int .i64 0, .int .i64 0, .slice Ao13 t762.length co13, .slice none 0 0]) (ok := (fun k_ => some k_ ≠ (.slice Ao11 t759.length co11 : Value).ownBlock ∧ k_ ≠ gb765 ∧ k_ ≠ gb773)) (okp := (fun k_ => some k_ ≠ (.slice Ao11 t759.length co11 : Value).ownBlock ∧ k_ ≠ gb765 ∧ k_ ≠ gb773)) ?hr ?hp (fun _ hk => hk) ((show ∀ k_, w50.heap.size ≤ k_ → (fun k_ => some k_ ≠ (.slice Ao11 t759.length co11 : Value).ownBlock ∧ k_ ≠ gb765 ∧ k_ ≠ gb773) k_ from fun k_ hk => ⟨Kd.fresh' (Kd.R_lt (ZR HO_766000.out)) k_ hk, Kd.freshB (g := gb765) (o := .cells #[.slice Ao11 t759.length co11, .slice Ao13 t762.length co13] 26 (0, 0)) (ZK BK765.out) k_ hk, Kd.freshB (g := gb773) (o := .cells #[.slice none 0 0, .slice none 0 0] 26 (0, 0)) (ZK BK773.out) k_ hk⟩) _ (Nat.le_refl _)) (Below.refl _ _) (Nat.le_refl _) (by simp) ?_; (case hd => rfl); (case hg => rfl); (case hr => first | (go_simp; done) | (go_simp; rfl)); (case hp => exact (Reps.c8 (show Kd.FK k32 _ _ (⟨2, (l1.length : Int) % (t759.length : Int), (⟨0, 0, 0⟩ : S30), 0, t762, ([] : List (S32))⟩ : S32) [.int .i64 2, .int .i64 ((l1.length : Int) % (t759.length : Int)), .int .i64 0, .int .i64 0, .int .i64 0, .int .i64 0, .slice Ao13 t762.length co13, .slice none 0 0] from (k32_mkF _ _ (⟨2, (l1.length : Int) % (t759.length : Int), (⟨0, 0, 0⟩ : S30), 0, t762, ([] : List (S32))⟩ : S32) (Kd.N_reads' (Kd.N_mono (ok' := (fun k_ => some k_ ≠ (.slice Ao11 t759.length co11 : Value).ownBlock ∧ k_ ≠ gb765 ∧ k_ ≠ gb773)) (HO_766001.out) (fun k_ hk => ⟨hk.1.1, ⟨hk.1.2, hk.2⟩⟩))).2.1 (Kd.N_F (Kd.N_mono (ok' := (fun k_ => some k_ ≠ (.slice Ao11 t759.length co11 : Value).ownBlock ∧ k_ ≠ gb765 ∧ k_ ≠ gb773)) (HO_766001.out) (fun k_ hk => ⟨hk.1.1, ⟨hk.1.2, hk.2⟩⟩))) (Nat.le_refl _) (Kd.F_nil _ _ _))) (Reps.none _ _)))
   intro v771 w51 ho52 hb hg_ hnew_
   clear hg_ hnew_
   (first | rw [← Ny770.out] at ho52 | (simp only [Int.reduceToNat] at ho52; rw [← Ny770.out] at ho52))
   have n0_ := AM (Kd.R_below (ZR HO_766000.out) hb)
   have n1_ := AM (Kd.N_lower ho52 (below_size (ZB)))
   have n2_ := ZW BK765 hb
   have n3_ := ZW BK773 hb
   have n4_ := ZT HB hb
   clear HO_766000 BK765 BK773 HB HO_766001
   have HO_766000 := n0_
   have HO772 := n1_
   have BK765 := n2_
   have BK773 := n3_
   have HB := n4_
   clear n0_ n1_ n2_ n3_ n4_ hb ho52
   obtain ⟨Ao53, co53, eo53⟩ := Kd.N_slice HO772.out
   (first | subst eo53 | (injection eo53 with f1_ f2_ f3_; have f4_ := f1_.symm; have f5_ := f3_.symm; clear f1_ f2_ f3_; subst f4_; subst f5_))
   refine hK.out _ _ ⟨ZA BK765 0, ZA BK765 1⟩ (fun hHeld => ?_)
   clear hK K
   refine ZNO 50 ?_
   refine ZU 12 51 #[T,T,T,T,T,T,T,T,T,T,T,T,T,T,F] ?_
   exact norm_ (by simp only [putAll, Act.put, List.setIfInBounds_toArray, List.set_cons_zero, List.set_cons_succ]) (hCont (.slice Ao53 y770.length co53, gb773) _ ⟨hHeld, (ZRN HO772.out), (ZR HO_766000.out), (ZK BK765.out), (ZK BK773.out), GW773.out, GE773.out, NB765_773.out, NB773_765.out, (ZB)⟩)))
   rintro ⟨v771, gb773⟩ w54 ⟨hS_, h0_, h1_, h2_, h3_, h4_, h5_, h6_, h7_, h8_⟩
   try dsimp only at h0_ h1_ h2_ h3_ h4_ h5_ h6_ h7_ h8_
   have n0_ := AM h0_
   have n1_ := AM h1_
   have n2_ := AM h2_
   have n3_ := AM h3_
   have n4_ := AM h4_
   have n5_ := AM h5_
   have n6_ := AM h6_
   have n7_ := AM h7_
   have n8_ := AM h8_
   clear HO_766000 HO_766001 BK765 HB h0_ h1_ h2_ h3_ h4_ h5_ h6_ h7_ h8_
   have HO772 := n0_
   have HO_766000 := n1_
   have BK765 := n2_
   have BK773 := n3_
   have GW773 := n4_
   have GE773 := n5_
   have NB765_773 := n6_
   have NB773_765 := n7_
   have HB := n8_
   clear n0_ n1_ n2_ n3_ n4_ n5_ n6_ n7_ n8_
   try dsimp only at hS_
   have hHeld := hS_
   obtain ⟨Ao55, co55, eo55⟩ := Kd.N_slice HO772.out
   (first | subst eo55 | (injection eo55 with f1_ f2_ f3_; have f4_ := f1_.symm; have f5_ := f3_.symm; clear f1_ f2_ f3_; subst f4_; subst f5_))
   refine ZNP ?_
   refine one_ (i := 14) (N := none) #[T,T,T,T,T,T,T,T,T,T,T,T,T,T,T] rfl rfl (one_of HT_.out (by kernel_rfl)) (by decide) (fun K hK => ?_)
   have hs56 : w54.cell? ⟨gb773, 0, none⟩ = some (.slice none 0 0) := ZA BK773 0
   have hfs56 := blk_frozen BK773.out 0
   have hns56_0 := NB765_773.out
   have hms56_0 := NB773_765.out
   have hs57 : w54.cell? ⟨gb773, 1, none⟩ = some (.slice none 0 0) := ZA BK773 1
   have hfs57 := blk_frozen BK773.out 1
   have hns57_0 := NB765_773.out
   have hms57_0 := NB773_765.out
   refine skip_ (w1 := ?_) (by rfl) rfl ?_ ?_
   rotate_left
   ·(
   go_simp
   rfl)
   refine hK.out _ _ ⟨((cell_far (p := ⟨gb773, _, none⟩) NB765_773.out _).trans (((cell_far (p := ⟨gb773, _, none⟩) NB765_773.out _).trans (hHeld.1)))), ((cell_far (p := ⟨gb773, _, none⟩) NB765_773.out _).trans (((cell_far (p := ⟨gb773, _, none⟩) NB765_773.out _).trans (hHeld.2))))⟩ (fun hHeld => ?_)
   clear hK K
   refine done_ (done_of HT_.out (by kernel_rfl)) ?_
   have hnb58 := NB773_765.out
   have hnc58 := NB765_773.out
   have hcz59 := ZC2 w54 BK773
   have hfz59 := ZF2 BK773
   try go_wp2_with (first | ((with_reducible refine gate_callee (f := 20) rfl ?_); refine ZGL (some 53) Try.func20 #[.agg #[.slice Ao11 t759.length co11, .slice Ao55 y770.length co55]] ?_; (with_reducible refine (impl_TypeOk.calls kj7 _ _ t759 _ _ y770 false _ ?side1 ?side2 ?side3 ?side4 A35.out).mono ?_); (case side1 => refine (Kd.R_reads' (e := 39) (base := w.heap.size) (ok := fun k_ => True) (n := t759.length) (c := co11) ?_).2.2; exact (ZR ((Kd.R_mono (Kd.R_far (p := ⟨gb773, 1, none⟩) (Kd.R_far (p := ⟨gb773, 0, none⟩) (Kd.R_types HO_766000.out BK773.out (by decide)) (fun _ hk => hk.2) (.slice Ao11 t759.length co11)) (fun _ hk => hk.2) (.slice Ao55 y770.length co55)) (fun _ h_ => h_.1))))); (case side2 => exact (Kd.R_reads' HO_766000.out).2.1); (case side3 => refine (Kd.N_reads' (e := 32) (base := w.heap.size) (ok := fun k_ => (some k_ ≠ (.slice Ao11 t759.length co11 : Value).ownBlock ∧ (k_ ≠ gb765 ∧ k_ ≠ gb773))) (n := y770.length) (c := co55) ?_).2.2; exact (by (with_reducible repeat (first | apply Kd.N_alloc | apply Kd.N_drewN | apply Kd.N_drew)); exact (Kd.N_mono (Kd.N_far (p := ⟨gb773, 1, none⟩) (Kd.N_far (p := ⟨gb773, 0, none⟩) (Kd.N_mono HO772.out (fun k_ hk => (⟨hk, hk.2.2⟩ : _ ∧ k_ ≠ gb773))) (fun _ hk => hk.2) (.slice Ao11 t759.length co11)) (fun _ hk => hk.2) (.slice Ao55 y770.length co55)) (fun _ h_ => h_.1)))); (case side4 => exact (Kd.N_reads' HO772.out).2.1); rintro e w60 ⟨rfl, hb⟩; refine ⟨_, rfl, ?_⟩; replace HO_766000 := AM (Kd.R_below (ZR ((Kd.R_mono (Kd.R_far (p := ⟨gb773, 1, none⟩) (Kd.R_far (p := ⟨gb773, 0, none⟩) (Kd.R_types HO_766000.out BK773.out (by decide)) (fun _ hk => hk.2) (.slice Ao11 t759.length co11)) (fun _ hk => hk.2) (.slice Ao55 y770.length co55)) (fun _ h_ => h_.1)))) hb); replace HO772 := AM (Kd.N_below (by (with_reducible repeat (first | apply Kd.N_alloc | apply Kd.N_drewN | apply Kd.N_drew)); exact (Kd.N_mono (Kd.N_far (p := ⟨gb773, 1, none⟩) (Kd.N_far (p := ⟨gb773, 0, none⟩) (Kd.N_mono HO772.out (fun k_ hk => (⟨hk, hk.2.2⟩ : _ ∧ k_ ≠ gb773))) (fun _ hk => hk.2) (.slice Ao11 t759.length co11)) (fun _ hk => hk.2) (.slice Ao55 y770.length co55)) (fun _ h_ => h_.1))) hb); replace BK765 := ZV #[.slice Ao11 t759.length co11, .slice Ao13 t762.length co13] BK765 hb; replace BK773 := ZV #[.slice Ao11 t759.length co11, .slice Ao55 y770.length co55] BK773 hb; replace HB := ZT HB hb; clear hb))
   go_ret
   exact ⟨ZE, ZB⟩))))))

end Go.Proofs.Ythidgkfgdkjghaa.A
