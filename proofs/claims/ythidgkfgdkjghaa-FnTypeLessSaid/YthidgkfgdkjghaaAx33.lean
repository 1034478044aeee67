/- By wip/tools/pr.py: Go functions as Lean functions, with contracts. -/
import Derived.Test.YthidgkfgdkjghaaAx0
import Derived.Test.YthidgkfgdkjghaaAx5
import Derived.Test.YthidgkfgdkjghaaAx29
import Derived.Test.YthidgkfgdkjghaaAx19
namespace Go.Proofs.Ythidgkfgdkjghaa.A
open Go.RowKit Go.Proofs.YthidgkfgdkjghaaW.PrintWords Go.Proofs.YthidgkfgdkjghaaW.PrintLast Go.Proofs.YthidgkfgdkjghaaW.PrintMore
attribute [local go_sem] max2_int min2_int max_two min_two max_three min_three max_four min_four
set_option linter.unusedVariables false
set_option linter.unusedSimpArgs false
set_option maxHeartbeats 8000000
set_option maxRecDepth 100000

/-! ### laws_FnTypeLess: function 5 -/
mutual
def laws_FnTypeLess.j0 : Nat → List Int → List Int → Bool → Option (Bool)
 | 0, _, _, _ => none
 | k + 1, x0, x1, x15 => if x15 = true then (some true) else ((spec_DrawTypeOk.f k x0).bind fun bt719 => ((impl_TypeOk.f k bt719.1 bt719.2).bind fun t726 => ((spec_TypeOk.f k bt719.1 bt719.2).bind fun t727 => (if (t726 != t727) = true then (laws_FnTypeLess.j1 k x1 t726 true bt719.1 bt719.2) else ((spec_ProgOk.f k bt719.1 bt719.2).bind fun t728 => (laws_FnTypeLess.j1 k x1 t726 (!t728) bt719.1 bt719.2))))))
def laws_FnTypeLess.j1 : Nat → List Int → Bool → Bool → List (S39) → List (S32) → Option (Bool)
 | 0, _, _, _, _, _ => none
 | k + 1, x1, x6, x28, x726000, x726001 => if x28 = true then ((spec_TypeOk.f k x726000 x726001).bind fun t729 => (some (x6 == t729))) else (if (wrap64 ((x726001.length : Int) + 1)) = 0 then (none) else (if 0 ≤ ((x1.length : Int) % (wrap64 ((x726001.length : Int) + 1))) then (if ((x1.length : Int) % (wrap64 ((x726001.length : Int) + 1))) ≤ (x726001.length : Int) then ((impl_TypeOk.f k x726000 (x726001.take (((x1.length : Int) % (wrap64 ((x726001.length : Int) + 1))) : Int).toNat)).bind fun t735 => (if t735 = true then ((impl_TypeOk.f k x726000 (x726001.drop (((x1.length : Int) % (wrap64 ((x726001.length : Int) + 1))) : Int).toNat)).bind fun t741 => (some (x6 == t741))) else (some (x6 == false)))) else (none)) else (none)))
end
def laws_FnTypeLess.f (k : Nat) (l0 : List Int) (l1 : List Int) : Option (Bool) := if (l0.length : Int) > 1048576 then (laws_FnTypeLess.j0 k l0 l1 true) else (laws_FnTypeLess.j0 k l0 l1 (decide ((l1.length : Int) > 1048576)))
def laws_FnTypeLess.T8 : Bool × List (List Nat × List Nat) := (true, [([], []), ([], []), ([1], [1]), ([], []), ([3], [3]), ([], []), ([4, 5], [4, 5]), ([2, 6], [2, 6]), ([7], [7]), ([8, 8], [8]), ([9], [9]), ([10, 9], [9, 10]), ([9], [9]), ([12, 9], [9, 12]), ([9], [9]), ([13, 14, 9], [9, 13, 14]), ([11, 15, 9], [9, 11, 15]), ([16, 9, 9], [9, 16]), ([9, 17], [9, 17]), ([0, 18], [0, 18]), ([19, 17, 0, 1, 2, 3, 4, 5, 6, 7, 8, 9, 10, 11, 12, 13, 14, 15, 16, 17, 18, 19], [19])])
def laws_FnTypeLess.B8 : List Nat := [0, 0, 2, 0, 8, 0, 56, 126, 254, 510, 1022, 2046, 1022, 5118, 1022, 29694, 65534, 131070, 262142, 524287, 1048575]
theorem laws_FnTypeLess.tab8 : rtab .any (opsOf Try.f5 8) = laws_FnTypeLess.T8 := by kernel_rfl
theorem laws_FnTypeLess.bits8 : waitsOk laws_FnTypeLess.T8.2 laws_FnTypeLess.B8 = true := by kernel_rfl
theorem laws_FnTypeLess.calls (k : Nat) (A0 : Option Addr) (c0 : Nat) (l0 : List Int) (A1 : Option Addr) (c1 : Nat) (l1 : List Int) (r : Bool) (w : World) (hr0 : Kd.C (Kd.int .u8) w A0 l0.length l0) (hc0 : l0.length ≤ c0) (hr1 : Kd.C (Kd.int .u8) w A1 l1.length l1) (hc1 : l1.length ≤ c1) (h : laws_FnTypeLess.f k l0 l1 = some r) :
  Calls Try.prog 5 #[.slice A0 l0.length c0, .slice A1 l1.length c1] w fun e w' => e = .returned (.bool r) ∧ Below w.heap.size w w' := by
 have hu26 := Try.underlying26
 have HR0 := AM hr0
 have HC0 := AM hc0
 clear hr0 hc0
 have HR1 := AM hr1
 have HC1 := AM hc1
 clear hr1 hc1
 have HB := AM (Below.refl w.heap.size w)
 have H := h
 unfold laws_FnTypeLess.f at H
 clear h
 have HC3 := AM H
 clear H
 go_enter Try.func5, Try.ntmps5
 go_upto_region 1 with (fail)
 go_cut [15] (fun v15 wc => ∃ (kq : Nat) (x15_2 : Bool), v15 = .bool x15_2 ∧ Za (laws_FnTypeLess.j0 kq l0 l1 x15_2 = some r) ∧ Za (kq ≤ k) ∧ Za (Below w.heap.size w wc))
 case first => (
 have H := HC3.out
 clear HC3
 by_cases c4 : (l0.length : Int) > 1048576
 ·(
 rw [if_pos c4] at H
 have c4b0 := decide_eq_true c4
 have c4b1 : decide (1048576 < l0.length) = true := decide_eq_true (by omega)
 clear c4
 (first | rw [c4b0] | (simp only [i64_w, i32_w]; rw [c4b0]) | skip)
 have H' := AM H
 clear H
 go_wp2
 go_meet
 case rel => exact ⟨_, (true), (by first | rfl | (simp; done) | (simp [*]; done)), H', ⟨by first | omega | exact Nat.le_refl _⟩, ⟨ZB⟩⟩)
 ·(
 rw [if_neg c4] at H
 have c4b0 := decide_eq_false c4
 have c4b1 : decide (1048576 < l0.length) = false := decide_eq_false (by omega)
 clear c4
 (first | rw [c4b0] | (simp only [i64_w, i32_w]; rw [c4b0]) | skip)
 have H' := AM H
 clear H
 go_wp2
 go_meet
 case rel => exact ⟨_, (decide ((l1.length : Int) > 1048576)), (by first | rfl | (simp; done) | (simp [*]; done)), H', ⟨by first | omega | exact Nat.le_refl _⟩, ⟨ZB⟩⟩))
 case rest => (
 clear HC3
 try clear c1
 try clear p2
 try clear c4
 try clear c4b0
 try clear c4b1
 obtain ⟨kq, x15_2, rfl, HA, HJ2, HB⟩ := hcut
 cases kq with
 | zero => exact absurd HA.out (by simp [laws_FnTypeLess.j0])
 | succ kj2 =>
  have H := HA.out
  clear HA
  simp only [laws_FnTypeLess.j0] at H
  by_cases c5 : x15_2 = true
  ·(
  subst c5
  have H1 := H; rw [if_pos rfl] at H1
  clear H
  have H := H1
  clear H1
  obtain rfl := Option.some.inj H
  go_wp2
  go_ret
  exact ⟨ZE, ZB⟩)
  ·(
  replace c5 := Bool.eq_false_iff.mpr c5
  subst c5
  have H1 := H; rw [if_neg ZFT] at H1
  clear H
  have H := H1
  clear H1
  obtain ⟨⟨t719, t722⟩, A6, H⟩ := ZOB H; try dsimp only at H
  obtain ⟨t726, A7, H⟩ := ZOB H; try dsimp only at H
  have HC8 := AM H
  clear H
  go_upto_region 5 with (first | ((with_reducible refine gate_callee (f := 21) rfl ?_); refine ZGL (some 17) Try.func21 #[.slice A0 l0.length c0] ?_; (with_reducible refine (spec_DrawTypeOk.calls kj2 _ _ l0 t719 t722 _ (ZQ (Kd.C_below HR0.out HB.out)) HC0.out A6.out).mono ?_); rintro e w9 ⟨v720, v723, rfl, ho0, ho1, hb⟩; refine ⟨_, rfl, ?_⟩; have HO721 := AM (Kd.R_lower (Kd.R_mono (ok' := fun k_ => True) ho0 (fun _ hk_ => trivial)) (below_size (ZB))); have HO724 := AM (Kd.N_lower (Kd.N_mono (ok' := fun k_ => some k_ ≠ (v720 : Value).ownBlock) ho1 (fun k_ hk_ => hk_.2)) (below_size (ZB))); replace HB := ZT HB hb; clear hb; (try clear ho0); (try clear ho1)) | ((with_reducible refine gate_dst (N := 5) rfl ?_); refine ZX (N := 5) (cs := #[.slice none 0 0, .slice none 0 0]) (t := 26) ?_; intro gb725 hg w10 hbox hb; have BK725 := AM (hbox); have GW725 : Za (w.heap.size ≤ gb725) := ZS hg; replace HO721 := AM (Kd.R_below (ZR HO721.out) hb); replace HO724 := AM (Kd.N_below (Kd.N_elderB (ZRN HO724.out) gb725 (Nat.le_of_eq hg.symm)) hb); replace HB := ZT HB hb; clear hb hbox hg; obtain ⟨Ao11, co11, eo11⟩ := Kd.R_slice HO721.out; subst eo11; have hcz12 := ZC2 w10 BK725; have hfz12 := ZF2 BK725; obtain ⟨Ao13, co13, eo13⟩ := Kd.N_slice HO724.out; subst eo13) | ((with_reducible refine gate_callee (f := 20) rfl ?_); refine ZGL (some 19) Try.func20 #[.agg #[.slice Ao11 t719.length co11, .slice Ao13 t722.length co13]] ?_; (with_reducible refine (impl_TypeOk.calls kj2 _ _ t719 _ _ t722 t726 _ ?side1 ?side2 ?side3 ?side4 A7.out).mono ?_); (case side1 => refine (Kd.R_reads' (e := 39) (base := w.heap.size) (ok := fun k_ => True) (n := t719.length) (c := co11) ?_).2.2; exact (ZR ((Kd.R_mono (Kd.R_far (p := ⟨gb725, 1, none⟩) (Kd.R_far (p := ⟨gb725, 0, none⟩) (Kd.R_types HO721.out BK725.out (by decide)) (fun _ hk => hk.2) (.slice Ao11 t719.length co11)) (fun _ hk => hk.2) (.slice Ao13 t722.length co13)) (fun _ h_ => h_.1))))); (case side2 => exact (Kd.R_reads' HO721.out).2.1); (case side3 => refine (Kd.N_reads' (e := 32) (base := w.heap.size) (ok := fun k_ => (some k_ ≠ (.slice Ao11 t719.length co11 : Value).ownBlock ∧ k_ ≠ gb725)) (n := t722.length) (c := co13) ?_).2.2; exact (by (with_reducible repeat (first | apply Kd.N_alloc | apply Kd.N_drewN | apply Kd.N_drew)); exact (Kd.N_mono (Kd.N_far (p := ⟨gb725, 1, none⟩) (Kd.N_far (p := ⟨gb725, 0, none⟩) (Kd.N_mono HO724.out (fun k_ hk => (⟨hk, hk.2⟩ : _ ∧ k_ ≠ gb725))) (fun _ hk => hk.2) (.slice Ao11 t719.length co11)) (fun _ hk => hk.2) (.slice Ao13 t722.length co13)) (fun _ h_ => h_.1)))); (case side4 => exact (Kd.N_reads' HO724.out).2.1); rintro e w14 ⟨rfl, hb⟩; refine ⟨_, rfl, ?_⟩; replace HO721 := AM (Kd.R_below (ZR ((Kd.R_mono (Kd.R_far (p := ⟨gb725, 1, none⟩) (Kd.R_far (p := ⟨gb725, 0, none⟩) (Kd.R_types HO721.out BK725.out (by decide)) (fun _ hk => hk.2) (.slice Ao11 t719.length co11)) (fun _ hk => hk.2) (.slice Ao13 t722.length co13)) (fun _ h_ => h_.1)))) hb); replace HO724 := AM (Kd.N_below (by (with_reducible repeat (first | apply Kd.N_alloc | apply Kd.N_drewN | apply Kd.N_drew)); exact (Kd.N_mono (Kd.N_far (p := ⟨gb725, 1, none⟩) (Kd.N_far (p := ⟨gb725, 0, none⟩) (Kd.N_mono HO724.out (fun k_ hk => (⟨hk, hk.2⟩ : _ ∧ k_ ≠ gb725))) (fun _ hk => hk.2) (.slice Ao11 t719.length co11)) (fun _ hk => hk.2) (.slice Ao13 t722.length co13)) (fun _ h_ => h_.1))) hb); replace BK725 := ZV #[.slice Ao11 t719.length co11, .slice Ao13 t722.length co13] BK725 hb; replace HB := ZT HB hb; clear hb))
  (try simp only [Act.put, List.setIfInBounds_toArray, List.set_cons_zero, List.set_cons_succ])
  go_cut [28] (fun v28 wc => ∃ (kq : Nat) (x28_7 : Bool), v28 = .bool x28_7 ∧ Za (laws_FnTypeLess.j1 kq l1 t726 x28_7 t719 t722 = some r) ∧ Za (kq ≤ kj2) ∧ Za (Kd.R k39 39 wc w.heap.size (fun _ => True) (.slice Ao11 t719.length co11) t719) ∧ Za (Kd.N k32 32 wc w.heap.size (fun k_ => some k_ ≠ ((.slice Ao11 t719.length co11) : Value).ownBlock ∧ k_ ≠ gb725) (.slice Ao13 t722.length co13) t722) ∧ Za (wc.heap[gb725]? = some (.cells #[(.slice Ao11 t719.length co11), (.slice Ao13 t722.length co13)] 26 (0, 0))) ∧ Za (Below w.heap.size w wc))
  case first => (
  have H := HC8.out
  clear HC8
  obtain ⟨t727, A15, H⟩ := ZOB H; try dsimp only at H
  by_cases c16 : (t726 != t727) = true
  ·(
  rw [if_pos c16] at H
  have c16b0 : (t726 != t727) = true := c16
  (try (have c16b1 : decide (t726 = t727) = false := by simpa using c16))
  (try (have c16b2 : (t726 == t727) = false := by simpa using c16))
  (try (have c16b3 : ¬ (t726 = t727) := by simpa using c16))
  clear c16
  (first | rw [c16b0] | (simp only [i64_w, i32_w]; rw [c16b0]) | skip)
  have H' := AM H
  clear H
  have hcz17 := ZC2 w14 BK725
  have hfz17 := ZF2 BK725
  go_wp2_with (first | ((with_reducible refine gate_callee (f := 22) rfl ?_); refine ZGL (some 22) Try.func22 #[.agg #[.slice Ao11 t719.length co11, .slice Ao13 t722.length co13]] ?_; (with_reducible refine (spec_TypeOk.calls kj2 _ _ t719 _ _ t722 t727 _ ?side1 ?side2 ?side3 ?side4 A15.out).mono ?_); (case side1 => exact ZQ ((Kd.R_reads' HO721.out).2.2)); (case side2 => exact (Kd.R_reads' HO721.out).2.1); (case side3 => exact ZQ ((Kd.N_reads' HO724.out).2.2)); (case side4 => exact (Kd.N_reads' HO724.out).2.1); rintro e w18 ⟨rfl, hb⟩; refine ⟨_, rfl, ?_⟩; replace HO721 := AM (Kd.R_below (ZR HO721.out) hb); replace HO724 := AM (Kd.N_below (ZRN HO724.out) hb); replace BK725 := ZW BK725 hb; replace HB := ZT HB hb; clear hb))
  go_meet
  case rel => exact ⟨_, (true), (by first | rfl | (simp; done) | (simp [*]; done)), H', ⟨by have := HJ2.out; first | omega | exact Nat.le_refl _⟩, ⟨ZR HO721.out⟩, ⟨ZRN HO724.out⟩, ⟨ZK BK725.out⟩, ⟨ZB⟩⟩)
  ·(
  rw [if_neg c16] at H
  have c16b0 : (t726 != t727) = false := by simpa using c16
  (try (have c16b1 : decide (t726 = t727) = true := by simpa using c16))
  (try (have c16b2 : (t726 == t727) = true := by simpa using c16))
  clear c16
  (first | rw [c16b0] | (simp only [i64_w, i32_w]; rw [c16b0]) | skip)
  obtain ⟨t728, A19, H⟩ := ZOB H; try dsimp only at H
  have H' := AM H
  clear H
  have hcz20 := ZC2 w14 BK725
  have hfz20 := ZF2 BK725
  go_wp2_with (first | ((with_reducible refine gate_callee (f := 22) rfl ?_); refine ZGL (some 22) Try.func22 #[.agg #[.slice Ao11 t719.length co11, .slice Ao13 t722.length co13]] ?_; (with_reducible refine (spec_TypeOk.calls kj2 _ _ t719 _ _ t722 t727 _ ?side1 ?side2 ?side3 ?side4 A15.out).mono ?_); (case side1 => exact ZQ ((Kd.R_reads' HO721.out).2.2)); (case side2 => exact (Kd.R_reads' HO721.out).2.1); (case side3 => exact ZQ ((Kd.N_reads' HO724.out).2.2)); (case side4 => exact (Kd.N_reads' HO724.out).2.1); rintro e w21 ⟨rfl, hb⟩; refine ⟨_, rfl, ?_⟩; replace HO721 := AM (Kd.R_below (ZR HO721.out) hb); replace HO724 := AM (Kd.N_below (ZRN HO724.out) hb); replace BK725 := ZW BK725 hb; replace HB := ZT HB hb; clear hb; have hcz22 := ZC2 w21 BK725; have hfz22 := ZF2 BK725) | (go_at_call 19; (with_reducible refine (spec_ProgOk.calls kj2 _ _ t719 _ _ t722 t728 _ ?side1 ?side2 ?side3 ?side4 A19.out).mono ?_); (case side1 => exact ZQ ((Kd.R_reads' HO721.out).2.2)); (case side2 => exact (Kd.R_reads' HO721.out).2.1); (case side3 => exact ZQ ((Kd.N_reads' HO724.out).2.2)); (case side4 => exact (Kd.N_reads' HO724.out).2.1); rintro e w23 ⟨rfl, hb⟩; replace HO721 := AM (Kd.R_below (ZR HO721.out) hb); replace HO724 := AM (Kd.N_below (ZRN HO724.out) hb); replace BK725 := ZW BK725 hb; replace HB := ZT HB hb; clear hb))
  go_meet
  case rel => exact ⟨_, (!t728), (by first | rfl | (simp; done) | (simp [*]; done)), H', ⟨by have := HJ2.out; first | omega | exact Nat.le_refl _⟩, ⟨ZR HO721.out⟩, ⟨ZRN HO724.out⟩, ⟨ZK BK725.out⟩, ⟨ZB⟩⟩))
  case rest => (
  clear HC8
  try clear c1
  try clear c2
  try clear p2
  try clear c4
  try clear c4b0
  try clear c4b1
  try clear c5
  try clear c16
  try clear c16b0
  try clear c16b1
  try clear c16b2
  try clear c20
  try clear c21
  try clear c22
  try clear hcz12
  try clear hcz17
  try clear hcz20
  try clear hcz22
  try clear hfz12
  try clear hfz17
  try clear hfz20
  try clear hfz22
  try clear p2
  obtain ⟨kq, x28_7, rfl, HA, HJ7, HO_726000, HO_726001, BK725, HB⟩ := hcut
  cases kq with
  | zero => exact absurd HA.out (by simp [laws_FnTypeLess.j1])
  | succ kj7 =>
   have H := HA.out
   clear HA
   simp only [laws_FnTypeLess.j1] at H
   by_cases c24 : x28_7 = true
   ·(
   subst c24
   have H1 := H; rw [if_pos rfl] at H1
   clear H
   have H := H1
   clear H1
   obtain ⟨t729, A25, H⟩ := ZOB H; try dsimp only at H
   obtain rfl := Option.some.inj H
   have hcz26 := ZC2 wc BK725
   have hfz26 := ZF2 BK725
   go_wp2_with (first | ((with_reducible refine gate_callee (f := 22) rfl ?_); refine ZGL (some 31) Try.func22 #[.agg #[.slice Ao11 t719.length co11, .slice Ao13 t722.length co13]] ?_; (with_reducible refine (spec_TypeOk.calls kj7 _ _ t719 _ _ t722 t729 _ ?side1 ?side2 ?side3 ?side4 A25.out).mono ?_); (case side1 => exact ZQ ((Kd.R_reads' HO_726000.out).2.2)); (case side2 => exact (Kd.R_reads' HO_726000.out).2.1); (case side3 => exact ZQ ((Kd.N_reads' HO_726001.out).2.2)); (case side4 => exact (Kd.N_reads' HO_726001.out).2.1); rintro e w27 ⟨rfl, hb⟩; refine ⟨_, rfl, ?_⟩; replace HO_726000 := AM (Kd.R_below (ZR HO_726000.out) hb); replace HO_726001 := AM (Kd.N_below (ZRN HO_726001.out) hb); replace BK725 := ZW BK725 hb; replace HB := ZT HB hb; clear hb))
   go_ret
   exact ⟨ZE, ZB⟩)
   ·(
   replace c24 := Bool.eq_false_iff.mpr c24
   subst c24
   have H1 := H; rw [if_neg ZFT] at H1
   clear H
   have H := H1
   clear H1
   by_cases c28 : (wrap64 ((t722.length : Int) + 1)) = 0
   ·(
   rw [if_pos c28] at H
   exact absurd H (by simp))
   ·(
   rw [if_neg c28] at H
   have c28b0 := beq_eq_false_iff_ne.mpr c28
   have c28b1 := bne_iff_ne.mpr c28
   obtain ⟨ji29, hji29⟩ : ∃ j_ : Int, ((l1.length : Int) % (wrap64 ((t722.length : Int) + 1))) = j_ := ⟨_, rfl⟩
   replace H : (if 0 ≤ (ji29) then (if (ji29) ≤ (t722.length : Int) then ((impl_TypeOk.f kj7 t719 (t722.take ((ji29) : Int).toNat)).bind fun t735 => (if t735 = true then ((impl_TypeOk.f kj7 t719 (t722.drop ((ji29) : Int).toNat)).bind fun t741 => (some (t726 == t741))) else (some (t726 == false)))) else (none)) else (none)) = some r := by first | (rw [hji29] at H; exact H) | (simp only [hji29] at H ⊢; exact H)
   by_cases c30 : 0 ≤ (ji29)
   ·(
   rw [if_pos c30] at H
   have c30b0 := eq_true c30
   have c30b1 := decide_eq_true c30
   clear c30
   by_cases c31 : (ji29) ≤ (t722.length : Int)
   ·(
   rw [if_pos c31] at H
   have c31b0 := eq_true c31
   have c31b1 := decide_eq_true c31
   clear c31
   obtain ⟨y730, hy730⟩ : ∃ y_ : List (S32), y_ = (t722.take ((ji29) : Int).toNat) := ⟨_, rfl⟩
   replace H : ((impl_TypeOk.f kj7 t719 y730).bind fun t735 => (if t735 = true then ((impl_TypeOk.f kj7 t719 (t722.drop ((ji29) : Int).toNat)).bind fun t741 => (some (t726 == t741))) else (some (t726 == false)))) = some r := by first | (rw [hy730]; with_reducible exact H) | (have H2_ := (Option.bind_some _ _).symm.trans H; rw [hy730]; with_reducible exact H2_) | (have H2_ := (Option.bind_some _ _).symm.trans H; with_reducible exact H2_) | with_reducible exact H | (rw [hy730]; exact H) | exact H
   have Ny730 := AM hy730
   clear hy730
   obtain ⟨t735, A32, H⟩ := ZOB H; try dsimp only at H
   by_cases c33 : t735 = true
   ·(
   subst c33
   have H1 := H; rw [if_pos rfl] at H1
   clear H
   have H := H1
   clear H1
   have c34b0 := eq_true (ZD : 0 ≤ (ji29))
   have c35b0 := eq_true (ZD : (ji29) ≤ (t722.length : Int))
   obtain ⟨y736, hy736⟩ : ∃ y_ : List (S32), y_ = (t722.drop ((ji29) : Int).toNat) := ⟨_, rfl⟩
   replace H : ((impl_TypeOk.f kj7 t719 y736).bind fun t741 => (some (t726 == t741))) = some r := by first | (rw [hy736]; with_reducible exact H) | (have H2_ := (Option.bind_some _ _).symm.trans H; rw [hy736]; with_reducible exact H2_) | (have H2_ := (Option.bind_some _ _).symm.trans H; with_reducible exact H2_) | with_reducible exact H | (rw [hy736]; exact H) | exact H
   have Ny736 := AM hy736
   clear hy736
   obtain ⟨t741, A36, H⟩ := ZOB H; try dsimp only at H
   obtain rfl := Option.some.inj H
   have hcz37 := ZC2 wc BK725
   have hfz37 := ZF2 BK725
   try go_wp2
   replace HO_726000 := AM (Kd.R_drew HO_726000.out)
   replace HO_726001 := AM (Kd.N_drew HO_726001.out)
   replace BK725 := AM (blk_drew BK725.out)
   replace HB := AM (below_drew1 HB.out)
   have q39 : ((ji29) : Int) ≤ ((t722.length : Int) : Int) := ZD
   obtain ⟨i039, hi039, _, hsz39, _⟩ := info_parts info32
   have hroom39 : t722.length ≤ co13 := (Kd.N_reads' HO_726001.out).2.1
   have hC39 : Kd.F k32 _ _ Ao13 t722.length t722 := (Kd.V_at (base := w.heap.size) (Kd.N_V HO_726001.out)).2.2
   have hcut39 := cut_to (P := Try.prog) 24 32 .i64 Try.underlying24 hi039 Ao13 t722.length co13 (ji29) (ZD) q39 hroom39
   have hr39 := Kd.F_take (m := ((ji29) : Int).toNat) hC39 (by omega)
   have hy39 : y730.length = ((ji29) : Int).toNat := (by rw [Ny730.out, List.length_take]; omega)
   rw [← Ny730.out] at hr39
   rw [← hy39] at hcut39
   have HO734 := AM (show Kd.V k32 32 _ w.heap.size _ (.slice Ao13 y730.length co13) y730 from Kd.V_mk (by omega) hr39)
   have HC734 := AM (show y730.length ≤ co13 from by omega)
   clear hr39 hC39 hroom39 hi039 hsz39
   have KY39 := AM hy39
   clear hy39
   replace q39 := eq_true q39
   refine start_ (n := 21) (S := fun w' => w'.cell? ⟨gb725, 0, none⟩ = some (.slice Ao11 t719.length co11) ∧ w'.cell? ⟨gb725, 1, none⟩ = some (.slice Ao13 t722.length co13)) (ds := []) #[F,F,F,F,F,F,F,F,F,F,F,F,F,F,F,F,F,F,F,F,F] (by kernel_rfl) rfl rfl ⟨ZA BK725 0, ZA BK725 1⟩ (fun hHeld => ?_); refine with_tabW laws_FnTypeLess.tab8 laws_FnTypeLess.bits8 (fun HT_ HW_ => ?_)
   generalize wc.drew = w38 at HO_726000 HO_726001 BK725 HB HO734 hHeld ⊢
   refine ZU 0 40 #[T,F,F,F,F,F,F,F,F,F,F,F,F,F,F,F,F,F,F,F,F] ?_
   refine ZU 1 41 #[T,T,F,F,F,F,F,F,F,F,F,F,F,F,F,F,F,F,F,F,F] ?_
   refine ZU 3 43 #[T,T,F,T,F,F,F,F,F,F,F,F,F,F,F,F,F,F,F,F,F] ?_
   refine ZU 5 45 #[T,T,F,T,F,T,F,F,F,F,F,F,F,F,F,F,F,F,F,F,F] ?_
   refine ZTK 2 42 #[T,T,T,T,F,T,F,F,F,F,F,F,F,F,F,F,F,F,F,F,F] hHeld ?_
   refine ZTK 4 44 #[T,T,T,T,T,T,F,F,F,F,F,F,F,F,F,F,F,F,F,F,F] hHeld ?_
   refine ZU 6 46 #[T,T,T,T,T,T,T,F,F,F,F,F,F,F,F,F,F,F,F,F,F] ?_
   refine ZU 7 47 #[T,T,T,T,T,T,T,T,F,F,F,F,F,F,F,F,F,F,F,F,F] ?_
   refine one_ (i := 8) (N := some 48) #[T,T,T,T,T,T,T,T,T,F,F,F,F,F,F,F,F,F,F,F,F] rfl rfl (one_of HT_.out (by kernel_rfl)) (by decide) (fun K hK => ?_)
   refine ZGO Try.func20 #[.agg #[.slice Ao11 t719.length co11, .slice Ao13 y730.length co13]] ?_
   with_reducible refine (impl_TypeOk.calls kj7 _ _ t719 _ _ y730 true _ ?side1 ?side2 ?side3 ?side4 A32.out).mono ?_
   (case side1 => exact ZQ ((Kd.R_reads' HO_726000.out).2.2))
   (case side2 => exact (Kd.R_reads' HO_726000.out).2.1)
   (case side3 => exact ZQ ((Kd.V_reads' HO734.out).2.2))
   (case side4 => exact (Kd.V_reads' HO734.out).2.1)
   rintro e w40 ⟨rfl, hb⟩
   refine ⟨_, rfl, ?_⟩
   replace HO_726000 := AM (Kd.R_below (ZR HO_726000.out) hb)
   replace HO_726001 := AM (Kd.N_below (ZRN HO_726001.out) hb)
   replace HO734 := AM (Kd.V_below (ZRV HO734.out) hb)
   replace BK725 := ZW BK725 hb
   replace HB := ZT HB hb
   (try clear hb)
   (try clear hb2)
   (try clear hk)
   (try clear hi)
   have q41 : ((ji29) : Int) ≤ ((t722.length : Int) : Int) := ZD
   obtain ⟨i041, hi041, _, hsz41, _⟩ := info_parts info32
   have hroom41 : t722.length ≤ co13 := (Kd.N_reads' HO_726001.out).2.1
   have hC41 : Kd.F k32 _ _ Ao13 t722.length t722 := (Kd.V_at (base := w.heap.size) (Kd.N_V HO_726001.out)).2.2
   have q041 : (0 : Int) ≤ ((ji29) : Int) := ZD
   have hcut41 := cut_from (P := Try.prog) 24 32 .i64 Try.underlying24 hi041 8 hsz41 Ao13 t722.length co13 (ji29) q041 q41
   have hr41 := Kd.F_cut (m := ((ji29) : Int).toNat) (c := co13) hC41 (by omega) hroom41
   obtain ⟨A41, hA41⟩ : ∃ A1, A1 = (if co13 = ((ji29) : Int).toNat then Ao13 else (Ao13 : Option Addr).map (·.add (((ji29) : Int).toNat * 8))) := ⟨_, rfl⟩
   obtain ⟨c41, hc41⟩ : ∃ c1, c1 = co13 - ((ji29) : Int).toNat := ⟨_, rfl⟩
   have hy41 : y736.length = t722.length - ((ji29) : Int).toNat := (by rw [Ny736.out, List.length_drop] <;> omega)
   rw [show (t722).drop ((ji29) : Int).toNat = y736 from Ny736.out.symm] at hr41
   replace hr41 : Kd.F k32 _ _ A41 y736.length y736 := (by rw [hA41]; exact hr41)
   rw [← hy41, ← hA41, ← hc41] at hcut41
   have HO740 := AM (show Kd.V k32 32 _ w.heap.size _ (.slice A41 y736.length c41) y736 from Kd.V_mk (by rw [hy41, hc41]; exact Nat.sub_le_sub_right hroom41 _) hr41)
   have HC740 := AM (show y736.length ≤ c41 from by rw [hy41, hc41]; exact Nat.sub_le_sub_right hroom41 _)
   clear hr41 hC41 hroom41 hi041 hsz41 hc41
   have KY41 := AM hy41
   have KA41 := AM hA41
   clear hy41 hA41
   replace q41 := eq_true q41
   refine hK.out _ _ ⟨ZA BK725 0, ZA BK725 1⟩ (fun hHeld => ?_)
   clear hK K
   refine ZNO 48 ?_
   refine ZU 9 49 #[T,T,T,T,T,T,T,T,T,T,F,F,F,F,F,F,F,F,F,F,F] ?_
   refine ZU 10 50 #[T,T,T,T,T,T,T,T,T,T,T,F,F,F,F,F,F,F,F,F,F] ?_
   refine ZU 12 52 #[T,T,T,T,T,T,T,T,T,T,T,F,T,F,F,F,F,F,F,F,F] ?_
   refine ZU 14 54 #[T,T,T,T,T,T,T,T,T,T,T,F,T,F,T,F,F,F,F,F,F] ?_
   refine ZTK 11 51 #[T,T,T,T,T,T,T,T,T,T,T,T,T,F,T,F,F,F,F,F,F] hHeld ?_
   refine ZTK 13 53 #[T,T,T,T,T,T,T,T,T,T,T,T,T,T,T,F,F,F,F,F,F] hHeld ?_
   refine ZU 15 55 #[T,T,T,T,T,T,T,T,T,T,T,T,T,T,T,T,F,F,F,F,F] ?_
   refine ZU 16 56 #[T,T,T,T,T,T,T,T,T,T,T,T,T,T,T,T,T,F,F,F,F] ?_
   refine one_ (i := 17) (N := some 57) #[T,T,T,T,T,T,T,T,T,T,T,T,T,T,T,T,T,T,F,F,F] rfl rfl (one_of HT_.out (by kernel_rfl)) (by decide) (fun K hK => ?_)
   refine ZGO Try.func20 #[.agg #[.slice Ao11 t719.length co11, .slice A41 y736.length c41]] ?_
   with_reducible refine (impl_TypeOk.calls kj7 _ _ t719 _ _ y736 t741 _ ?side1 ?side2 ?side3 ?side4 A36.out).mono ?_
   (case side1 => exact ZQ ((Kd.R_reads' HO_726000.out).2.2))
   (case side2 => exact (Kd.R_reads' HO_726000.out).2.1)
   (case side3 => exact ZQ ((Kd.V_reads' HO740.out).2.2))
   (case side4 => exact (Kd.V_reads' HO740.out).2.1)
   rintro e w42 ⟨rfl, hb⟩
   refine ⟨_, rfl, ?_⟩
   replace HO_726000 := AM (Kd.R_below (ZR HO_726000.out) hb)
   replace HO_726001 := AM (Kd.N_below (ZRN HO_726001.out) hb)
   replace HO734 := AM (Kd.V_below (ZRV HO734.out) hb)
   replace HO740 := AM (Kd.V_below (ZRV HO740.out) hb)
   replace BK725 := ZW BK725 hb
   replace HB := ZT HB hb
   (try clear hb)
   (try clear hb2)
   (try clear hk)
   (try clear hi)
   refine hK.out _ _ ⟨ZA BK725 0, ZA BK725 1⟩ (fun hHeld => ?_)
   clear hK K
   refine ZNO 57 ?_
   refine ZU 18 58 #[T,T,T,T,T,T,T,T,T,T,T,T,T,T,T,T,T,T,T,F,F] ?_
   refine ZU 19 59 #[T,T,T,T,T,T,T,T,T,T,T,T,T,T,T,T,T,T,T,T,F] ?_
   refine ZU 20 4 #[T,T,T,T,T,T,T,T,T,T,T,T,T,T,T,T,T,T,T,T,T] ?_
   refine done_ (done_of HT_.out (by kernel_rfl)) ?_
   try go_wp2
   go_ret
   exact ⟨by first | rfl | (simp [errW_none, errW_some] <;> rfl) | (simp only [← hji29]; first | rfl | (simp [errW_none, errW_some] <;> rfl)) | (simp [*, errW_none, errW_some] <;> rfl), ZB⟩)
   ·(
   replace c33 := Bool.eq_false_iff.mpr c33
   subst c33
   have H1 := H; rw [if_neg ZFT] at H1
   clear H
   have H := H1
   clear H1
   obtain rfl := Option.some.inj H
   have hcz43 := ZC2 wc BK725
   have hfz43 := ZF2 BK725
   try go_wp2
   replace HO_726000 := AM (Kd.R_drew HO_726000.out)
   replace HO_726001 := AM (Kd.N_drew HO_726001.out)
   replace BK725 := AM (blk_drew BK725.out)
   replace HB := AM (below_drew1 HB.out)
   have q45 : ((ji29) : Int) ≤ ((t722.length : Int) : Int) := ZD
   obtain ⟨i045, hi045, _, hsz45, _⟩ := info_parts info32
   have hroom45 : t722.length ≤ co13 := (Kd.N_reads' HO_726001.out).2.1
   have hC45 : Kd.F k32 _ _ Ao13 t722.length t722 := (Kd.V_at (base := w.heap.size) (Kd.N_V HO_726001.out)).2.2
   have hcut45 := cut_to (P := Try.prog) 24 32 .i64 Try.underlying24 hi045 Ao13 t722.length co13 (ji29) (ZD) q45 hroom45
   have hr45 := Kd.F_take (m := ((ji29) : Int).toNat) hC45 (by omega)
   have hy45 : y730.length = ((ji29) : Int).toNat := (by rw [Ny730.out, List.length_take]; omega)
   rw [← Ny730.out] at hr45
   rw [← hy45] at hcut45
   have HO734 := AM (show Kd.V k32 32 _ w.heap.size _ (.slice Ao13 y730.length co13) y730 from Kd.V_mk (by omega) hr45)
   have HC734 := AM (show y730.length ≤ co13 from by omega)
   clear hr45 hC45 hroom45 hi045 hsz45
   have KY45 := AM hy45
   clear hy45
   replace q45 := eq_true q45
   refine start_ (n := 21) (S := fun w' => w'.cell? ⟨gb725, 0, none⟩ = some (.slice Ao11 t719.length co11) ∧ w'.cell? ⟨gb725, 1, none⟩ = some (.slice Ao13 t722.length co13)) (ds := []) #[F,F,F,F,F,F,F,F,F,F,F,F,F,F,F,F,F,F,F,F,F] (by kernel_rfl) rfl rfl ⟨ZA BK725 0, ZA BK725 1⟩ (fun hHeld => ?_); refine with_tabW laws_FnTypeLess.tab8 laws_FnTypeLess.bits8 (fun HT_ HW_ => ?_)
   generalize wc.drew = w44 at HO_726000 HO_726001 BK725 HB HO734 hHeld ⊢
   refine ZU 0 40 #[T,F,F,F,F,F,F,F,F,F,F,F,F,F,F,F,F,F,F,F,F] ?_
   refine ZU 1 41 #[T,T,F,F,F,F,F,F,F,F,F,F,F,F,F,F,F,F,F,F,F] ?_
   refine ZU 3 43 #[T,T,F,T,F,F,F,F,F,F,F,F,F,F,F,F,F,F,F,F,F] ?_
   refine ZU 5 45 #[T,T,F,T,F,T,F,F,F,F,F,F,F,F,F,F,F,F,F,F,F] ?_
   refine ZTK 2 42 #[T,T,T,T,F,T,F,F,F,F,F,F,F,F,F,F,F,F,F,F,F] hHeld ?_
   refine ZTK 4 44 #[T,T,T,T,T,T,F,F,F,F,F,F,F,F,F,F,F,F,F,F,F] hHeld ?_
   refine ZU 6 46 #[T,T,T,T,T,T,T,F,F,F,F,F,F,F,F,F,F,F,F,F,F] ?_
   refine ZU 7 47 #[T,T,T,T,T,T,T,T,F,F,F,F,F,F,F,F,F,F,F,F,F] ?_
   refine one_ (i := 8) (N := some 48) #[T,T,T,T,T,T,T,T,T,F,F,F,F,F,F,F,F,F,F,F,F] rfl rfl (one_of HT_.out (by kernel_rfl)) (by decide) (fun K hK => ?_)
   refine ZGO Try.func20 #[.agg #[.slice Ao11 t719.length co11, .slice Ao13 y730.length co13]] ?_
   with_reducible refine (impl_TypeOk.calls kj7 _ _ t719 _ _ y730 false _ ?side1 ?side2 ?side3 ?side4 A32.out).mono ?_
   (case side1 => exact ZQ ((Kd.R_reads' HO_726000.out).2.2))
   (case side2 => exact (Kd.R_reads' HO_726000.out).2.1)
   (case side3 => exact ZQ ((Kd.V_reads' HO734.out).2.2))
   (case side4 => exact (Kd.V_reads' HO734.out).2.1)
   rintro e w46 ⟨rfl, hb⟩
   refine ⟨_, rfl, ?_⟩
   replace HO_726000 := AM (Kd.R_below (ZR HO_726000.out) hb)
   replace HO_726001 := AM (Kd.N_below (ZRN HO_726001.out) hb)
   replace HO734 := AM (Kd.V_below (ZRV HO734.out) hb)
   replace BK725 := ZW BK725 hb
   replace HB := ZT HB hb
   (try clear hb)
   (try clear hb2)
   (try clear hk)
   (try clear hi)
   refine hK.out _ _ ⟨ZA BK725 0, ZA BK725 1⟩ (fun hHeld => ?_)
   clear hK K
   refine ZNO 48 ?_
   refine ZU 9 49 #[T,T,T,T,T,T,T,T,T,T,F,F,F,F,F,F,F,F,F,F,F] ?_
   refine ZUU 10 50 #[T,T,T,T,T,T,T,T,T,T,T,F,F,F,F,F,F,F,F,F,F] ?_
   refine ZUU 11 51 #[T,T,T,T,T,T,T,T,T,T,T,T,F,F,F,F,F,F,F,F,F] ?_
   refine ZUU 12 52 #[T,T,T,T,T,T,T,T,T,T,T,T,T,F,F,F,F,F,F,F,F] ?_
   refine ZUU 13 53 #[T,T,T,T,T,T,T,T,T,T,T,T,T,T,F,F,F,F,F,F,F] ?_
   refine ZUU 14 54 #[T,T,T,T,T,T,T,T,T,T,T,T,T,T,T,F,F,F,F,F,F] ?_
   refine ZUU 15 55 #[T,T,T,T,T,T,T,T,T,T,T,T,T,T,T,T,F,F,F,F,F] ?_
   refine ZUU 16 56 #[T,T,T,T,T,T,T,T,T,T,T,T,T,T,T,T,T,F,F,F,F] ?_
   refine ZUU 17 57 #[T,T,T,T,T,T,T,T,T,T,T,T,T,T,T,T,T,T,F,F,F] ?_
   refine ZU 18 58 #[T,T,T,T,T,T,T,T,T,T,T,T,T,T,T,T,T,T,T,F,F] ?_
   refine ZU 19 59 #[T,T,T,T,T,T,T,T,T,T,T,T,T,T,T,T,T,T,T,T,F] ?_
   refine ZU 20 4 #[T,T,T,T,T,T,T,T,T,T,T,T,T,T,T,T,T,T,T,T,T] ?_
   refine done_ (done_of HT_.out (by kernel_rfl)) ?_
   try go_wp2
   go_ret
   exact ⟨by first | rfl | (simp [errW_none, errW_some] <;> rfl) | (simp only [← hji29]; first | rfl | (simp [errW_none, errW_some] <;> rfl)) | (simp [*, errW_none, errW_some] <;> rfl), ZB⟩))
   ·(
   rw [if_neg c31] at H
   exact absurd H (by simp)))
   ·(
   rw [if_neg c30] at H
   exact absurd H (by simp)))))))

end Go.Proofs.Ythidgkfgdkjghaa.A
