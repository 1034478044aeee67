/- Go functions as Lean functions, and for each its contract; written by wip/tools/pr.py over the kit's print. -/
import Derived.Test.YthidgkfgdkjghaaAx0
import Derived.Test.YthidgkfgdkjghaaAx19
import Derived.Test.YthidgkfgdkjghaaAx23
namespace Go.Proofs.Ythidgkfgdkjghaa.A
open Go.RowKit Go.Proofs.YthidgkfgdkjghaaW.PrintWords Go.Proofs.YthidgkfgdkjghaaW.PrintLast Go.Proofs.YthidgkfgdkjghaaW.PrintMore
attribute [local go_sem] max2_int min2_int max_two min_two max_three min_three max_four min_four
set_option linter.unusedVariables false
set_option linter.unusedSimpArgs false
set_option maxHeartbeats 8000000
set_option maxRecDepth 100000

/-! ### laws_FnProgSize: function 3 -/
mutual
def laws_FnProgSize.j0 : Nat → Int → Bool → List (S39) → List (S32) → Option (Bool)
 | 0, _, _, _, _ => none
 | k + 1, x4, x21, x566000, x566001 => if x21 = true then ((spec_ProgSize.f k x566000 x566001).bind fun t568 => (some (x4 == t568))) else (laws_FnProgSize.l0 k x4 0 0 x566000 x566001)
def laws_FnProgSize.l0 : Nat → Int → Int → Int → List (S39) → List (S32) → Option (Bool)
 | 0, _, _, _, _, _ => none
 | k + 1, x4, x5, x6, x566000, x566001 => if x6 < (x566001.length : Int) then (if 0 ≤ x6 then ((impl_ProgSize.f k x566000 ((rd_T32 x566001 x6).f4)).bind fun t570 => ((impl_ProgSize.f k x566000 ((rd_T32 x566001 x6).f5)).bind fun t572 => (laws_FnProgSize.l0 k x4 (wrap64 ((wrap64 ((wrap64 (x5 + 1)) + t570)) + t572)) (wrap64 (x6 + 1)) x566000 x566001))) else (none)) else (if x5 = x4 then (some (decide (x4 ≤ 8))) else (some false))
end
def laws_FnProgSize.f (k : Nat) (l0 : List Int) : Option (Bool) := if (l0.length : Int) > 1048576 then (some true) else ((spec_DrawProgSize.f k l0).bind fun bt559 => ((impl_ProgSize.f k bt559.1 bt559.2).bind fun t566 => ((spec_ProgSize.f k bt559.1 bt559.2).bind fun t567 => (if t566 = t567 then (laws_FnProgSize.j0 k t566 (decide (t566 < 0)) bt559.1 bt559.2) else (laws_FnProgSize.j0 k t566 true bt559.1 bt559.2)))))
def laws_FnProgSize.T11 : Bool × List (List Nat × List Nat) := (true, [([], []), ([0], [0]), ([], []), ([2], [2]), ([], []), ([4], [4]), ([], []), ([5, 6], [5, 6]), ([7], [7]), ([8], [8]), ([3, 9], [3, 9]), ([10], [10]), ([1, 11], [1, 11]), ([], []), ([13], [13]), ([], []), ([15], [15]), ([], []), ([16, 17], [16, 17]), ([18], [18]), ([19], [19]), ([14, 20], [14, 20]), ([21, 11], [21]), ([12, 22], [12, 22]), ([23, 22, 0, 1, 2, 3, 4, 5, 6, 7, 8, 9, 10, 11, 12, 13, 14, 15, 16, 17, 18, 19, 20, 21, 22, 23], [0, 23])])
def laws_FnProgSize.B11 : List Nat := [0, 1, 0, 4, 0, 16, 0, 112, 240, 496, 1020, 2044, 4095, 0, 8192, 0, 32768, 0, 229376, 491520, 1015808, 2088960, 4190204, 8388607, 16777215]
theorem laws_FnProgSize.tab11 : rtab .any (opsOf Try.f3 11) = laws_FnProgSize.T11 := by kernel_rfl
theorem laws_FnProgSize.bits11 : waitsOk laws_FnProgSize.T11.2 laws_FnProgSize.B11 = true := by kernel_rfl
theorem laws_FnProgSize.calls (k : Nat) (A0 : Option Addr) (c0 : Nat) (l0 : List Int) (r : Bool) (w : World) (hr0 : Kd.C (Kd.int .u8) w A0 l0.length l0) (hc0 : l0.length ≤ c0) (h : laws_FnProgSize.f k l0 = some r) :
  Calls Try.prog 3 #[.slice A0 l0.length c0] w fun e w' => e = .returned (.bool r) ∧ Below w.heap.size w w' := by
 have hu26 := Try.underlying26
 have HR0 := AM hr0
 have HC0 := AM hc0
 clear hr0 hc0
 have HB := AM (Below.refl w.heap.size w)
 have H := h
 unfold laws_FnProgSize.f at H
 clear h
 by_cases c2 : (l0.length : Int) > 1048576
 ·(
 rw [if_pos c2] at H
 have c2b0 := decide_eq_true c2
 have c2b1 : decide (1048576 < l0.length) = true := decide_eq_true (by omega)
 clear c2
 obtain rfl := Option.some.inj H
 go_enter Try.func3, Try.ntmps3
 go_wp2
 go_ret
 exact ⟨ZE, ZB⟩)
 ·(
 rw [if_neg c2] at H
 have c2b0 := decide_eq_false c2
 have c2b1 : decide (1048576 < l0.length) = false := decide_eq_false (by omega)
 clear c2
 obtain ⟨⟨t559, t562⟩, A3, H⟩ := ZOB H; try dsimp only at H
 obtain ⟨t566, A4, H⟩ := ZOB H; try dsimp only at H
 have HC5 := AM H
 clear H
 go_enter Try.func3, Try.ntmps3
 go_upto_region 5 with (first | ((with_reducible refine gate_callee (f := 13) rfl ?_); refine ZGL (some 11) Try.func13 #[.slice A0 l0.length c0] ?_; (with_reducible refine (spec_DrawProgSize.calls k _ _ l0 t559 t562 _ ?side1 ?side2 A3.out).mono ?_); (case side1 => exact ZQ HR0.out); (case side2 => exact HC0.out); rintro e w6 ⟨v560, v563, rfl, ho0, ho1, hb⟩; refine ⟨_, rfl, ?_⟩; have HO561 := AM (Kd.R_lower (Kd.R_mono (ok' := fun k_ => True) ho0 (fun _ hk_ => trivial)) (below_size (ZB))); have HO564 := AM (Kd.N_lower (Kd.N_mono (ok' := fun k_ => some k_ ≠ (v560 : Value).ownBlock) ho1 (fun k_ hk_ => hk_.2)) (below_size (ZB))); replace HB := ZT HB hb; clear hb; (try clear ho0); (try clear ho1)) | ((with_reducible refine gate_dst (N := 3) rfl ?_); refine ZX (N := 3) (cs := #[.slice none 0 0, .slice none 0 0]) (t := 26) ?_; intro gb565 hg w7 hbox hb; have BK565 := AM (hbox); have GW565 : Aside0 (w.heap.size ≤ gb565) := ZS hg; have GE565 : Aside0 (w.heap.size ≤ gb565) := ZS hg; replace HO561 := AM (Kd.R_below (ZR HO561.out) hb); replace HO564 := AM (Kd.N_below (Kd.N_elderB (ZRN HO564.out) gb565 (Nat.le_of_eq hg.symm)) hb); replace HB := ZT HB hb; clear hb hbox hg; obtain ⟨Ao8, co8, eo8⟩ := Kd.R_slice HO561.out; subst eo8; have hcz9 := ZC2 w7 BK565; have hfz9 := ZF2 BK565; obtain ⟨Ao10, co10, eo10⟩ := Kd.N_slice HO564.out; subst eo10) | ((with_reducible refine gate_callee (f := 14) rfl ?_); refine ZGL (some 13) Try.func14 #[.agg #[.slice Ao8 t559.length co8, .slice Ao10 t562.length co10]] ?_; (with_reducible refine (impl_ProgSize.calls k _ _ t559 _ _ t562 t566 _ ?side1 ?side2 ?side3 ?side4 A4.out).mono ?_); (case side1 => refine (Kd.R_reads' (e := 39) (base := w.heap.size) (ok := fun k_ => True) (n := t559.length) (c := co8) ?_).2.2; exact (ZR ((Kd.R_mono (Kd.R_far (p := ⟨gb565, 1, none⟩) (Kd.R_far (p := ⟨gb565, 0, none⟩) (Kd.R_types HO561.out BK565.out (by decide)) (fun _ hk => hk.2) (.slice Ao8 t559.length co8)) (fun _ hk => hk.2) (.slice Ao10 t562.length co10)) (fun _ h_ => h_.1))))); (case side2 => exact (Kd.R_reads' HO561.out).2.1); (case side3 => refine (Kd.N_reads' (e := 32) (base := w.heap.size) (ok := fun k_ => (some k_ ≠ (.slice Ao8 t559.length co8 : Value).ownBlock ∧ k_ ≠ gb565)) (n := t562.length) (c := co10) ?_).2.2; exact (by (with_reducible repeat (first | apply Kd.N_alloc | apply Kd.N_drewN | apply Kd.N_drew)); exact (Kd.N_mono (Kd.N_far (p := ⟨gb565, 1, none⟩) (Kd.N_far (p := ⟨gb565, 0, none⟩) (Kd.N_mono HO564.out (fun k_ hk => (⟨hk, hk.2⟩ : _ ∧ k_ ≠ gb565))) (fun _ hk => hk.2) (.slice Ao8 t559.length co8)) (fun _ hk => hk.2) (.slice Ao10 t562.length co10)) (fun _ h_ => h_.1)))); (case side4 => exact (Kd.N_reads' HO564.out).2.1); rintro e w11 ⟨rfl, hb⟩; refine ⟨_, rfl, ?_⟩; replace HO561 := AM (Kd.R_below (ZR ((Kd.R_mono (Kd.R_far (p := ⟨gb565, 1, none⟩) (Kd.R_far (p := ⟨gb565, 0, none⟩) (Kd.R_types HO561.out BK565.out (by decide)) (fun _ hk => hk.2) (.slice Ao8 t559.length co8)) (fun _ hk => hk.2) (.slice Ao10 t562.length co10)) (fun _ h_ => h_.1)))) hb); replace HO564 := AM (Kd.N_below (by (with_reducible repeat (first | apply Kd.N_alloc | apply Kd.N_drewN | apply Kd.N_drew)); exact (Kd.N_mono (Kd.N_far (p := ⟨gb565, 1, none⟩) (Kd.N_far (p := ⟨gb565, 0, none⟩) (Kd.N_mono HO564.out (fun k_ hk => (⟨hk, hk.2⟩ : _ ∧ k_ ≠ gb565))) (fun _ hk => hk.2) (.slice Ao8 t559.length co8)) (fun _ hk => hk.2) (.slice Ao10 t562.length co10)) (fun _ h_ => h_.1))) hb); replace BK565 := ZV #[.slice Ao8 t559.length co8, .slice Ao10 t562.length co10] BK565 hb; replace HB := ZT HB hb; clear hb))
 (try simp only [Act.put, List.setIfInBounds_toArray, List.set_cons_zero, List.set_cons_succ])
 go_cut [21] (fun v21 wc => ∃ (kq : Nat) (x21_4 : Bool), v21 = .bool x21_4 ∧ Aside0 (laws_FnProgSize.j0 kq t566 x21_4 t559 t562 = some r) ∧ Aside0 (kq ≤ k) ∧ Aside0 (Kd.R k39 39 wc w.heap.size (fun _ => True) (.slice Ao8 t559.length co8) t559) ∧ Aside0 (Kd.N k32 32 wc w.heap.size (fun k_ => some k_ ≠ ((.slice Ao8 t559.length co8) : Value).ownBlock ∧ k_ ≠ gb565) (.slice Ao10 t562.length co10) t562) ∧ Aside0 (wc.heap[gb565]? = some (.cells #[(.slice Ao8 t559.length co8), (.slice Ao10 t562.length co10)] 26 (0, 0))) ∧ Aside0 (Below w.heap.size w wc))
 case first => (
 have H := HC5.out
 clear HC5
 obtain ⟨t567, A12, H⟩ := ZOB H; try dsimp only at H
 by_cases c13 : t566 = t567
 ·(
 rw [if_pos c13] at H
 have c13b0 := beq_iff_eq.mpr c13
 have c13b1 := bne_eq_false_iff_eq.mpr c13
 clear c13
 (first | rw [c13b0] | (simp only [i64_w, i32_w]; rw [c13b0]) | skip)
 have H' := AM H
 clear H
 have hcz14 := ZC2 w11 BK565
 have hfz14 := ZF2 BK565
 go_wp2_with (first | ((with_reducible refine gate_callee (f := 15) rfl ?_); refine ZGL (some 16) Try.func15 #[.agg #[.slice Ao8 t559.length co8, .slice Ao10 t562.length co10]] ?_; (with_reducible refine (spec_ProgSize.calls k _ _ t559 _ _ t562 t567 _ ?side1 ?side2 ?side3 ?side4 A12.out).mono ?_); (case side1 => exact ZQ ((Kd.R_reads' HO561.out).2.2)); (case side2 => exact (Kd.R_reads' HO561.out).2.1); (case side3 => exact ZQ ((Kd.N_reads' HO564.out).2.2)); (case side4 => exact (Kd.N_reads' HO564.out).2.1); rintro e w15 ⟨rfl, hb⟩; refine ⟨_, rfl, ?_⟩; replace HO561 := AM (Kd.R_below (ZR HO561.out) hb); replace HO564 := AM (Kd.N_below (ZRN HO564.out) hb); replace BK565 := ZW BK565 hb; replace HB := ZT HB hb; clear hb))
 go_meet
 case rel => exact ⟨_, (decide (t566 < 0)), (by first | rfl | (simp; done) | (simp [*]; done)), H', ⟨by first | omega | exact Nat.le_refl _⟩, ⟨ZR HO561.out⟩, ⟨ZRN HO564.out⟩, ⟨ZK BK565.out⟩, ⟨ZB⟩⟩)
 ·(
 rw [if_neg c13] at H
 have c13b0 := beq_eq_false_iff_ne.mpr c13
 have c13b1 := bne_iff_ne.mpr c13
 (first | rw [c13b0] | (simp only [i64_w, i32_w]; rw [c13b0]) | skip)
 have H' := AM H
 clear H
 have hcz16 := ZC2 w11 BK565
 have hfz16 := ZF2 BK565
 go_wp2_with (first | ((with_reducible refine gate_callee (f := 15) rfl ?_); refine ZGL (some 16) Try.func15 #[.agg #[.slice Ao8 t559.length co8, .slice Ao10 t562.length co10]] ?_; (with_reducible refine (spec_ProgSize.calls k _ _ t559 _ _ t562 t567 _ ?side1 ?side2 ?side3 ?side4 A12.out).mono ?_); (case side1 => exact ZQ ((Kd.R_reads' HO561.out).2.2)); (case side2 => exact (Kd.R_reads' HO561.out).2.1); (case side3 => exact ZQ ((Kd.N_reads' HO564.out).2.2)); (case side4 => exact (Kd.N_reads' HO564.out).2.1); rintro e w17 ⟨rfl, hb⟩; refine ⟨_, rfl, ?_⟩; replace HO561 := AM (Kd.R_below (ZR HO561.out) hb); replace HO564 := AM (Kd.N_below (ZRN HO564.out) hb); replace BK565 := ZW BK565 hb; replace HB := ZT HB hb; clear hb))
 go_meet
 case rel => exact ⟨_, (true), (by first | rfl | (simp; done) | (simp [*]; done)), H', ⟨by first | omega | exact Nat.le_refl _⟩, ⟨ZR HO561.out⟩, ⟨ZRN HO564.out⟩, ⟨ZK BK565.out⟩, ⟨ZB⟩⟩))
 case rest => (
 clear HC5
 try clear c1
 try clear c2
 try clear c2b0
 try clear c2b1
 try clear p2
 try clear c3
 try clear c13
 try clear c13b0
 try clear c13b1
 try clear c14
 try clear c15
 try clear hcz14
 try clear hcz16
 try clear hcz9
 try clear hfz14
 try clear hfz16
 try clear hfz9
 obtain ⟨kq, x21_4, rfl, HA, HJ4, HO_566000, HO_566001, BK565, HB⟩ := hcut
 cases kq with
 | zero => exact absurd HA.out (by simp [laws_FnProgSize.j0])
 | succ kj4 =>
  have H := HA.out
  clear HA
  simp only [laws_FnProgSize.j0] at H
  by_cases c18 : x21_4 = true
  ·(
  subst c18
  have H1 := H; rw [if_pos rfl] at H1
  clear H
  have H := H1
  clear H1
  obtain ⟨t568, A19, H⟩ := ZOB H; try dsimp only at H
  obtain rfl := Option.some.inj H
  have hcz20 := ZC2 wc BK565
  have hfz20 := ZF2 BK565
  go_wp2_with (first | ((with_reducible refine gate_callee (f := 15) rfl ?_); refine ZGL (some 24) Try.func15 #[.agg #[.slice Ao8 t559.length co8, .slice Ao10 t562.length co10]] ?_; (with_reducible refine (spec_ProgSize.calls kj4 _ _ t559 _ _ t562 t568 _ ?side1 ?side2 ?side3 ?side4 A19.out).mono ?_); (case side1 => exact ZQ ((Kd.R_reads' HO_566000.out).2.2)); (case side2 => exact (Kd.R_reads' HO_566000.out).2.1); (case side3 => exact ZQ ((Kd.N_reads' HO_566001.out).2.2)); (case side4 => exact (Kd.N_reads' HO_566001.out).2.1); rintro e w21 ⟨rfl, hb⟩; refine ⟨_, rfl, ?_⟩; replace HO_566000 := AM (Kd.R_below (ZR HO_566000.out) hb); replace HO_566001 := AM (Kd.N_below (ZRN HO_566001.out) hb); replace BK565 := ZW BK565 hb; replace HB := ZT HB hb; clear hb))
  go_ret
  exact ⟨ZE, ZB⟩)
  ·(
  replace c18 := Bool.eq_false_iff.mpr c18
  subst c18
  have H1 := H; rw [if_neg ZFT] at H1
  clear H
  have H := H1
  clear H1
  have H' := AM H
  clear H
  go_wp2
  go_loopg [5, 6] kj4 (fun kq v5 v6 w' => ∃ (x5_2 : Int) (x6_2 : Int), v5 = .int .i64 x5_2 ∧ v6 = .int .i64 x6_2 ∧ Aside0 (laws_FnProgSize.l0 kq t566 x5_2 x6_2 t559 t562 = some r) ∧ Aside0 (kq ≤ kj4) ∧ Aside0 (Kd.R k39 39 w' w.heap.size (fun _ => True) (.slice Ao8 t559.length co8) t559) ∧ Aside0 (Kd.N k32 32 w' w.heap.size (fun k_ => some k_ ≠ ((.slice Ao8 t559.length co8) : Value).ownBlock ∧ k_ ≠ gb565) (.slice Ao10 t562.length co10) t562) ∧ Aside0 (w'.heap[gb565]? = some (.cells #[(.slice Ao8 t559.length co8), (.slice Ao10 t562.length co10)] 26 (0, 0))) ∧ Aside0 (Below w.heap.size w w'))
  case atStart => exact ⟨(0), (0), (by first | rfl | (simp; done) | (simp [*]; done)), (by first | rfl | (simp; done) | (simp [*]; done)), H', ⟨Nat.le_refl _⟩, ⟨ZR HO_566000.out⟩, ⟨ZRN HO_566001.out⟩, ⟨ZK BK565.out⟩, ⟨ZB⟩⟩
  case round => (
  clear H'
  try clear c1
  try clear c2
  try clear c2b0
  try clear c2b1
  try clear p2
  try clear c3
  try clear c13
  try clear c13b0
  try clear c13b1
  try clear c14
  try clear c15
  try clear c18
  try clear hcz14
  try clear hcz16
  try clear hcz20
  try clear hcz9
  try clear hfz14
  try clear hfz16
  try clear hfz20
  try clear hfz9
  try clear p2
  obtain ⟨x5_2, x6_2, rfl, rfl, HA, HK2, HO_566000, HO_566001, BK565, HB⟩ := hrel
  cases gk with
  | zero => exact absurd HA.out (by simp [laws_FnProgSize.l0])
  | succ k2 =>
   have H := HA.out
   clear HA
   simp only [laws_FnProgSize.l0] at H
   by_cases c22 : x6_2 < (t562.length : Int)
   ·(
   rw [if_pos c22] at H
   have c22b0 := decide_eq_true c22
   clear c22
   by_cases c23 : 0 ≤ x6_2
   ·(
   rw [if_pos c23] at H
   have c23b0 := decide_eq_true c23
   clear c23
   obtain ⟨t570, A24, H⟩ := ZOB H; try dsimp only at H
   obtain ⟨t572, A25, H⟩ := ZOB H; try dsimp only at H
   have H' := AM H
   clear H
   have hcz26 := ZC2 wr BK565
   have hfz26 := ZF2 BK565
   try go_wp2
   replace HO_566000 := AM (Kd.R_drew HO_566000.out)
   replace HO_566001 := AM (Kd.N_drew HO_566001.out)
   replace BK565 := AM (blk_drew BK565.out)
   replace HB := AM (below_drew1 HB.out)
   have p569 : 0 ≤ (x6_2 : Int) := ZD
   have q569 : x6_2 < (t562.length : Int) := ZD
   obtain ⟨ad569, A569_6, c569_6, A569_7, c569_7, e569, hx569_0, hx569_1, hx569_2, hx569_3, hx569_4, hx569_5, hx569_6, hx569_7, hl569_6, hi569_6, hl569_7, hi569_7⟩ := at_T32 (Kd.N_reads' HO_566001.out).2.2 x6_2 p569 q569
   cases e569
   obtain ⟨ce569, hce569, hMe569, hcc569⟩ := Kd.N_get HO_566001.out z32 x6_2 p569 (by first | exact q569 | exact ZD | (have e_ := (Kd.N_reads' HO_566001.out).1; omega))
   obtain ⟨ua569_6, uc569_6, ua569_7, uc569_7, rfl, ul569_6, ge569_6, ul569_7, ge569_7⟩ := k32_openF hMe569
   have hv569_6 := hcc569 6 _ rfl
   rw [add_field _ _ 6 (by omega)] at hv569_6
   replace hv569_6 := Option.some.inj (hv569_6.symm.trans hx569_6)
   injection hv569_6 with hva_ hvn_ hvc_
   rw [hva_] at ge569_6
   rw [hvc_] at ul569_6
   have HL569_6 := AM (show Kd.V k32 32 _ w.heap.size _ _ ((rd_T32 t562 x6_2).f4) from Kd.V_mk ul569_6 ge569_6)
   clear hva_ hvn_ hvc_ ge569_6 ul569_6
   have hv569_7 := hcc569 7 _ rfl
   rw [add_field _ _ 7 (by omega)] at hv569_7
   replace hv569_7 := Option.some.inj (hv569_7.symm.trans hx569_7)
   injection hv569_7 with hva_ hvn_ hvc_
   rw [hva_] at ge569_7
   rw [hvc_] at ul569_7
   have HL569_7 := AM (show Kd.V k32 32 _ w.heap.size _ _ ((rd_T32 t562 x6_2).f5) from Kd.V_mk ul569_7 ge569_7)
   clear hva_ hvn_ hvc_ ge569_7 ul569_7 hcc569 hce569
   have HR569_6 := AM hi569_6
   have HC569_6 := AM hl569_6
   clear hi569_6 hl569_6
   have HR569_7 := AM hi569_7
   have HC569_7 := AM hl569_7
   clear hi569_7 hl569_7
   replace p569 := eq_true p569
   replace q569 := eq_true q569
   have p571 : 0 ≤ (x6_2 : Int) := ZD
   have q571 : x6_2 < (t562.length : Int) := ZD
   obtain ⟨ad571, A571_6, c571_6, A571_7, c571_7, e571, hx571_0, hx571_1, hx571_2, hx571_3, hx571_4, hx571_5, hx571_6, hx571_7, hl571_6, hi571_6, hl571_7, hi571_7⟩ := at_T32 (Kd.N_reads' HO_566001.out).2.2 x6_2 p571 q571
   obtain rfl : ad569 = ad571 := (by injection e571)
   obtain ⟨ce571, hce571, hMe571, hcc571⟩ := Kd.N_get HO_566001.out z32 x6_2 p571 (by first | exact q571 | exact ZD | (have e_ := (Kd.N_reads' HO_566001.out).1; omega))
   obtain ⟨ua571_6, uc571_6, ua571_7, uc571_7, rfl, ul571_6, ge571_6, ul571_7, ge571_7⟩ := k32_openF hMe571
   have hv571_6 := hcc571 6 _ rfl
   rw [add_field _ _ 6 (by omega)] at hv571_6
   replace hv571_6 := Option.some.inj (hv571_6.symm.trans hx571_6)
   injection hv571_6 with hva_ hvn_ hvc_
   rw [hva_] at ge571_6
   rw [hvc_] at ul571_6
   have HL571_6 := AM (show Kd.V k32 32 _ w.heap.size _ _ ((rd_T32 t562 x6_2).f4) from Kd.V_mk ul571_6 ge571_6)
   clear hva_ hvn_ hvc_ ge571_6 ul571_6
   have hv571_7 := hcc571 7 _ rfl
   rw [add_field _ _ 7 (by omega)] at hv571_7
   replace hv571_7 := Option.some.inj (hv571_7.symm.trans hx571_7)
   injection hv571_7 with hva_ hvn_ hvc_
   rw [hva_] at ge571_7
   rw [hvc_] at ul571_7
   have HL571_7 := AM (show Kd.V k32 32 _ w.heap.size _ _ ((rd_T32 t562 x6_2).f5) from Kd.V_mk ul571_7 ge571_7)
   clear hva_ hvn_ hvc_ ge571_7 ul571_7 hcc571 hce571
   have HR571_6 := AM hi571_6
   have HC571_6 := AM hl571_6
   clear hi571_6 hl571_6
   have HR571_7 := AM hi571_7
   have HC571_7 := AM hl571_7
   clear hi571_7 hl571_7
   replace p571 := eq_true p571
   replace q571 := eq_true q571
   have ea_ := Option.some.inj (hx569_6.symm.trans hx571_6)
   injection ea_ with ea_ en_ ec_
   subst ea_
   subst ec_
   clear en_
   have ea_ := Option.some.inj (hx569_7.symm.trans hx571_7)
   injection ea_ with ea_ en_ ec_
   subst ea_
   subst ec_
   clear en_
   refine start_ (n := 25) (S := fun w' => w'.cell? ⟨gb565, 0, none⟩ = some (.slice Ao8 t559.length co8) ∧ w'.cell? ⟨gb565, 1, none⟩ = some (.slice (some ad569) t562.length co10) ∧ w'.cell? (ad569.add ((x6_2).toNat * 8)) = some (.int .i64 ((rd_T32 t562 x6_2).f0)) ∧ w'.cell? ⟨(ad569.add ((x6_2).toNat * 8)).block, (ad569.add ((x6_2).toNat * 8)).off + 1, none⟩ = some (.int .i64 ((rd_T32 t562 x6_2).f1)) ∧ w'.cell? ⟨(ad569.add ((x6_2).toNat * 8)).block, (ad569.add ((x6_2).toNat * 8)).off + 2, none⟩ = some (.int .i64 ((rd_T32 t562 x6_2).f2.f0)) ∧ w'.cell? ⟨(ad569.add ((x6_2).toNat * 8)).block, (ad569.add ((x6_2).toNat * 8)).off + 3, none⟩ = some (.int .i64 ((rd_T32 t562 x6_2).f2.f1)) ∧ w'.cell? ⟨(ad569.add ((x6_2).toNat * 8)).block, (ad569.add ((x6_2).toNat * 8)).off + 4, none⟩ = some (.int .i64 ((rd_T32 t562 x6_2).f2.f2)) ∧ w'.cell? ⟨(ad569.add ((x6_2).toNat * 8)).block, (ad569.add ((x6_2).toNat * 8)).off + 5, none⟩ = some (.int .i64 ((rd_T32 t562 x6_2).f3)) ∧ w'.cell? ⟨(ad569.add ((x6_2).toNat * 8)).block, (ad569.add ((x6_2).toNat * 8)).off + 6, none⟩ = some (.slice A569_6 ((rd_T32 t562 x6_2).f4).length c569_6) ∧ w'.cell? ⟨(ad569.add ((x6_2).toNat * 8)).block, (ad569.add ((x6_2).toNat * 8)).off + 7, none⟩ = some (.slice A569_7 ((rd_T32 t562 x6_2).f5).length c569_7) ∧ w'.cell? (ad569.add ((x6_2).toNat * 8)) = some (.int .i64 ((rd_T32 t562 x6_2).f0)) ∧ w'.cell? ⟨(ad569.add ((x6_2).toNat * 8)).block, (ad569.add ((x6_2).toNat * 8)).off + 1, none⟩ = some (.int .i64 ((rd_T32 t562 x6_2).f1)) ∧ w'.cell? ⟨(ad569.add ((x6_2).toNat * 8)).block, (ad569.add ((x6_2).toNat * 8)).off + 2, none⟩ = some (.int .i64 ((rd_T32 t562 x6_2).f2.f0)) ∧ w'.cell? ⟨(ad569.add ((x6_2).toNat * 8)).block, (ad569.add ((x6_2).toNat * 8)).off + 3, none⟩ = some (.int .i64 ((rd_T32 t562 x6_2).f2.f1)) ∧ w'.cell? ⟨(ad569.add ((x6_2).toNat * 8)).block, (ad569.add ((x6_2).toNat * 8)).off + 4, none⟩ = some (.int .i64 ((rd_T32 t562 x6_2).f2.f2)) ∧ w'.cell? ⟨(ad569.add ((x6_2).toNat * 8)).block, (ad569.add ((x6_2).toNat * 8)).off + 5, none⟩ = some (.int .i64 ((rd_T32 t562 x6_2).f3)) ∧ w'.cell? ⟨(ad569.add ((x6_2).toNat * 8)).block, (ad569.add ((x6_2).toNat * 8)).off + 6, none⟩ = some (.slice A569_6 ((rd_T32 t562 x6_2).f4).length c569_6) ∧ w'.cell? ⟨(ad569.add ((x6_2).toNat * 8)).block, (ad569.add ((x6_2).toNat * 8)).off + 7, none⟩ = some (.slice A569_7 ((rd_T32 t562 x6_2).f5).length c569_7)) (ds := []) #[F,F,F,F,F,F,F,F,F,F,F,F,F,F,F,F,F,F,F,F,F,F,F,F,F] (by kernel_rfl) rfl rfl ⟨ZA BK565 0, ZA BK565 1, hx569_0, hx569_1, hx569_2, hx569_3, hx569_4, hx569_5, hx569_6, hx569_7, hx571_0, hx571_1, hx571_2, hx571_3, hx571_4, hx571_5, hx571_6, hx571_7⟩ (fun hHeld => ?_); refine with_tabW laws_FnProgSize.tab11 laws_FnProgSize.bits11 (fun HT_ HW_ => ?_)
   generalize wr.drew = w27 at HO_566000 HO_566001 BK565 HB HL569_6 HL569_7 HL571_6 HL571_7 HR569_6 HR569_7 HR571_6 HR571_7 hx569_0 hx569_1 hx569_2 hx569_3 hx569_4 hx569_5 hx569_6 hx569_7 hx571_0 hx571_1 hx571_2 hx571_3 hx571_4 hx571_5 hx571_6 hx571_7 hHeld ⊢
   refine ZU 0 33 #[T,F,F,F,F,F,F,F,F,F,F,F,F,F,F,F,F,F,F,F,F,F,F,F,F] ?_
   refine ZU 1 34 #[T,T,F,F,F,F,F,F,F,F,F,F,F,F,F,F,F,F,F,F,F,F,F,F,F] ?_
   refine ZU 2 35 #[T,T,T,F,F,F,F,F,F,F,F,F,F,F,F,F,F,F,F,F,F,F,F,F,F] ?_
   refine ZU 4 37 #[T,T,T,F,T,F,F,F,F,F,F,F,F,F,F,F,F,F,F,F,F,F,F,F,F] ?_
   refine ZU 6 39 #[T,T,T,F,T,F,T,F,F,F,F,F,F,F,F,F,F,F,F,F,F,F,F,F,F] ?_
   refine ZU 13 46 #[T,T,T,F,T,F,T,F,F,F,F,F,F,T,F,F,F,F,F,F,F,F,F,F,F] ?_
   refine ZU 15 48 #[T,T,T,F,T,F,T,F,F,F,F,F,F,T,F,T,F,F,F,F,F,F,F,F,F] ?_
   refine ZU 17 50 #[T,T,T,F,T,F,T,F,F,F,F,F,F,T,F,T,F,T,F,F,F,F,F,F,F] ?_
   refine ZTK 3 36 #[T,T,T,T,T,F,T,F,F,F,F,F,F,T,F,T,F,T,F,F,F,F,F,F,F] hHeld ?_
   refine ZTK 5 38 #[T,T,T,T,T,T,T,F,F,F,F,F,F,T,F,T,F,T,F,F,F,F,F,F,F] hHeld ?_
   refine ZU 7 40 #[T,T,T,T,T,T,T,T,F,F,F,F,F,T,F,T,F,T,F,F,F,F,F,F,F] ?_
   refine ZU 8 41 #[T,T,T,T,T,T,T,T,T,F,F,F,F,T,F,T,F,T,F,F,F,F,F,F,F] ?_
   refine ZTK 9 42 #[T,T,T,T,T,T,T,T,T,T,F,F,F,T,F,T,F,T,F,F,F,F,F,F,F] hHeld ?_
   refine ZU 10 43 #[T,T,T,T,T,T,T,T,T,T,T,F,F,T,F,T,F,T,F,F,F,F,F,F,F] ?_
   refine ZTK 14 47 #[T,T,T,T,T,T,T,T,T,T,T,F,F,T,T,T,F,T,F,F,F,F,F,F,F] hHeld ?_
   refine ZTK 16 49 #[T,T,T,T,T,T,T,T,T,T,T,F,F,T,T,T,T,T,F,F,F,F,F,F,F] hHeld ?_
   refine ZU 18 51 #[T,T,T,T,T,T,T,T,T,T,T,F,F,T,T,T,T,T,T,F,F,F,F,F,F] ?_
   refine ZU 19 52 #[T,T,T,T,T,T,T,T,T,T,T,F,F,T,T,T,T,T,T,T,F,F,F,F,F] ?_
   refine ZTK 20 53 #[T,T,T,T,T,T,T,T,T,T,T,F,F,T,T,T,T,T,T,T,T,F,F,F,F] hHeld ?_
   refine ZU 21 54 #[T,T,T,T,T,T,T,T,T,T,T,F,F,T,T,T,T,T,T,T,T,T,F,F,F] ?_
   refine one_ (i := 11) (N := some 44) #[T,T,T,T,T,T,T,T,T,T,T,T,F,T,T,T,T,T,T,T,T,T,F,F,F] rfl rfl (one_of HT_.out (by kernel_rfl)) (by decide) (fun K hK => ?_)
   refine ZGO Try.func14 #[.agg #[.slice Ao8 t559.length co8, .slice A569_6 ((rd_T32 t562 x6_2).f4).length c569_6]] ?_
   with_reducible refine (impl_ProgSize.calls k2 _ _ t559 _ _ ((rd_T32 t562 x6_2).f4) t570 _ ?side1 ?side2 ?side3 ?side4 A24.out).mono ?_
   (case side1 => exact ZQ ((Kd.R_reads' HO_566000.out).2.2))
   (case side2 => exact (Kd.R_reads' HO_566000.out).2.1)
   (case side3 => repeat (first | exact (ZQ HR569_6.out) | (with_reducible refine Kd.C_alloc ?_ _) | (with_reducible refine Kd.C_drewN ?_ _) | (with_reducible refine Kd.C_drew ?_)))
   (case side4 => exact HC569_6.out)
   rintro e w28 ⟨rfl, hb⟩
   have HS2_ := (hb.cell (World.block_lt_of_cell? _ _ (hHeld.2.2.1))).trans (hHeld.2.2.1)
   have HS3_ := (hb.cell (World.block_lt_of_cell? _ _ (hHeld.2.2.2.1))).trans (hHeld.2.2.2.1)
   have HS4_ := (hb.cell (World.block_lt_of_cell? _ _ (hHeld.2.2.2.2.1))).trans (hHeld.2.2.2.2.1)
   have HS5_ := (hb.cell (World.block_lt_of_cell? _ _ (hHeld.2.2.2.2.2.1))).trans (hHeld.2.2.2.2.2.1)
   have HS6_ := (hb.cell (World.block_lt_of_cell? _ _ (hHeld.2.2.2.2.2.2.1))).trans (hHeld.2.2.2.2.2.2.1)
   have HS7_ := (hb.cell (World.block_lt_of_cell? _ _ (hHeld.2.2.2.2.2.2.2.1))).trans (hHeld.2.2.2.2.2.2.2.1)
   have HS8_ := (hb.cell (World.block_lt_of_cell? _ _ (hHeld.2.2.2.2.2.2.2.2.1))).trans (hHeld.2.2.2.2.2.2.2.2.1)
   have HS9_ := (hb.cell (World.block_lt_of_cell? _ _ (hHeld.2.2.2.2.2.2.2.2.2.1))).trans (hHeld.2.2.2.2.2.2.2.2.2.1)
   have HS10_ := (hb.cell (World.block_lt_of_cell? _ _ (hHeld.2.2.2.2.2.2.2.2.2.2.1))).trans (hHeld.2.2.2.2.2.2.2.2.2.2.1)
   have HS11_ := (hb.cell (World.block_lt_of_cell? _ _ (hHeld.2.2.2.2.2.2.2.2.2.2.2.1))).trans (hHeld.2.2.2.2.2.2.2.2.2.2.2.1)
   have HS12_ := (hb.cell (World.block_lt_of_cell? _ _ (hHeld.2.2.2.2.2.2.2.2.2.2.2.2.1))).trans (hHeld.2.2.2.2.2.2.2.2.2.2.2.2.1)
   have HS13_ := (hb.cell (World.block_lt_of_cell? _ _ (hHeld.2.2.2.2.2.2.2.2.2.2.2.2.2.1))).trans (hHeld.2.2.2.2.2.2.2.2.2.2.2.2.2.1)
   have HS14_ := (hb.cell (World.block_lt_of_cell? _ _ (hHeld.2.2.2.2.2.2.2.2.2.2.2.2.2.2.1))).trans (hHeld.2.2.2.2.2.2.2.2.2.2.2.2.2.2.1)
   have HS15_ := (hb.cell (World.block_lt_of_cell? _ _ (hHeld.2.2.2.2.2.2.2.2.2.2.2.2.2.2.2.1))).trans (hHeld.2.2.2.2.2.2.2.2.2.2.2.2.2.2.2.1)
   have HS16_ := (hb.cell (World.block_lt_of_cell? _ _ (hHeld.2.2.2.2.2.2.2.2.2.2.2.2.2.2.2.2.1))).trans (hHeld.2.2.2.2.2.2.2.2.2.2.2.2.2.2.2.2.1)
   have HS17_ := (hb.cell (World.block_lt_of_cell? _ _ (hHeld.2.2.2.2.2.2.2.2.2.2.2.2.2.2.2.2.2))).trans (hHeld.2.2.2.2.2.2.2.2.2.2.2.2.2.2.2.2.2)
   refine ⟨_, rfl, ?_⟩
   replace HO_566000 := AM (Kd.R_below (ZR HO_566000.out) hb)
   replace HO_566001 := AM (Kd.N_below (ZRN HO_566001.out) hb)
   replace HL569_6 := AM (Kd.V_below (ZRV HL569_6.out) hb)
   replace HL569_7 := AM (Kd.V_below (ZRV HL569_7.out) hb)
   replace HL571_6 := AM (Kd.V_below (ZRV HL571_6.out) hb)
   replace HL571_7 := AM (Kd.V_below (ZRV HL571_7.out) hb)
   replace BK565 := ZW BK565 hb
   replace HR569_6 := AM (Kd.C_below (ZQ HR569_6.out) hb)
   replace HR569_7 := AM (Kd.C_below (ZQ HR569_7.out) hb)
   replace HR571_6 := AM (Kd.C_below (ZQ HR571_6.out) hb)
   replace HR571_7 := AM (Kd.C_below (ZQ HR571_7.out) hb)
   replace HB := ZT HB hb
   (try clear hb)
   (try clear hb2)
   (try clear hk)
   (try clear hi)
   refine hK.out _ _ ⟨ZA BK565 0, ZA BK565 1, HS2_, HS3_, HS4_, HS5_, HS6_, HS7_, HS8_, HS9_, HS10_, HS11_, HS12_, HS13_, HS14_, HS15_, HS16_, HS17_⟩ (fun hHeld => ?_)
   clear hK K
   refine ZNO 44 ?_
   refine ZU 12 45 #[T,T,T,T,T,T,T,T,T,T,T,T,T,T,T,T,T,T,T,T,T,T,F,F,F] ?_
   refine one_ (i := 22) (N := some 55) #[T,T,T,T,T,T,T,T,T,T,T,T,T,T,T,T,T,T,T,T,T,T,T,F,F] rfl rfl (one_of HT_.out (by kernel_rfl)) (by decide) (fun K hK => ?_)
   refine ZGO Try.func14 #[.agg #[.slice Ao8 t559.length co8, .slice A569_7 ((rd_T32 t562 x6_2).f5).length c569_7]] ?_
   with_reducible refine (impl_ProgSize.calls k2 _ _ t559 _ _ ((rd_T32 t562 x6_2).f5) t572 _ ?side1 ?side2 ?side3 ?side4 A25.out).mono ?_
   (case side1 => exact ZQ ((Kd.R_reads' HO_566000.out).2.2))
   (case side2 => exact (Kd.R_reads' HO_566000.out).2.1)
   (case side3 => repeat (first | exact (ZQ HR571_7.out) | (with_reducible refine Kd.C_alloc ?_ _) | (with_reducible refine Kd.C_drewN ?_ _) | (with_reducible refine Kd.C_drew ?_)))
   (case side4 => exact HC571_7.out)
   rintro e w29 ⟨rfl, hb⟩
   have HS2_ := (hb.cell (World.block_lt_of_cell? _ _ (hHeld.2.2.1))).trans (hHeld.2.2.1)
   have HS3_ := (hb.cell (World.block_lt_of_cell? _ _ (hHeld.2.2.2.1))).trans (hHeld.2.2.2.1)
   have HS4_ := (hb.cell (World.block_lt_of_cell? _ _ (hHeld.2.2.2.2.1))).trans (hHeld.2.2.2.2.1)
   have HS5_ := (hb.cell (World.block_lt_of_cell? _ _ (hHeld.2.2.2.2.2.1))).trans (hHeld.2.2.2.2.2.1)
   have HS6_ := (hb.cell (World.block_lt_of_cell? _ _ (hHeld.2.2.2.2.2.2.1))).trans (hHeld.2.2.2.2.2.2.1)
   have HS7_ := (hb.cell (World.block_lt_of_cell? _ _ (hHeld.2.2.2.2.2.2.2.1))).trans (hHeld.2.2.2.2.2.2.2.1)
   have HS8_ := (hb.cell (World.block_lt_of_cell? _ _ (hHeld.2.2.2.2.2.2.2.2.1))).trans (hHeld.2.2.2.2.2.2.2.2.1)
   have HS9_ := (hb.cell (World.block_lt_of_cell? _ _ (hHeld.2.2.2.2.2.2.2.2.2.1))).trans (hHeld.2.2.2.2.2.2.2.2.2.1)
   have HS10_ := (hb.cell (World.block_lt_of_cell? _ _ (hHeld.2.2.2.2.2.2.2.2.2.2.1))).trans (hHeld.2.2.2.2.2.2.2.2.2.2.1)
   have HS11_ := (hb.cell (World.block_lt_of_cell? _ _ (hHeld.2.2.2.2.2.2.2.2.2.2.2.1))).trans (hHeld.2.2.2.2.2.2.2.2.2.2.2.1)
   have HS12_ := (hb.cell (World.block_lt_of_cell? _ _ (hHeld.2.2.2.2.2.2.2.2.2.2.2.2.1))).trans (hHeld.2.2.2.2.2.2.2.2.2.2.2.2.1)
   have HS13_ := (hb.cell (World.block_lt_of_cell? _ _ (hHeld.2.2.2.2.2.2.2.2.2.2.2.2.2.1))).trans (hHeld.2.2.2.2.2.2.2.2.2.2.2.2.2.1)
   have HS14_ := (hb.cell (World.block_lt_of_cell? _ _ (hHeld.2.2.2.2.2.2.2.2.2.2.2.2.2.2.1))).trans (hHeld.2.2.2.2.2.2.2.2.2.2.2.2.2.2.1)
   have HS15_ := (hb.cell (World.block_lt_of_cell? _ _ (hHeld.2.2.2.2.2.2.2.2.2.2.2.2.2.2.2.1))).trans (hHeld.2.2.2.2.2.2.2.2.2.2.2.2.2.2.2.1)
   have HS16_ := (hb.cell (World.block_lt_of_cell? _ _ (hHeld.2.2.2.2.2.2.2.2.2.2.2.2.2.2.2.2.1))).trans (hHeld.2.2.2.2.2.2.2.2.2.2.2.2.2.2.2.2.1)
   have HS17_ := (hb.cell (World.block_lt_of_cell? _ _ (hHeld.2.2.2.2.2.2.2.2.2.2.2.2.2.2.2.2.2))).trans (hHeld.2.2.2.2.2.2.2.2.2.2.2.2.2.2.2.2.2)
   refine ⟨_, rfl, ?_⟩
   replace HO_566000 := AM (Kd.R_below (ZR HO_566000.out) hb)
   replace HO_566001 := AM (Kd.N_below (ZRN HO_566001.out) hb)
   replace HL569_6 := AM (Kd.V_below (ZRV HL569_6.out) hb)
   replace HL569_7 := AM (Kd.V_below (ZRV HL569_7.out) hb)
   replace HL571_6 := AM (Kd.V_below (ZRV HL571_6.out) hb)
   replace HL571_7 := AM (Kd.V_below (ZRV HL571_7.out) hb)
   replace BK565 := ZW BK565 hb
   replace HR569_6 := AM (Kd.C_below (ZQ HR569_6.out) hb)
   replace HR569_7 := AM (Kd.C_below (ZQ HR569_7.out) hb)
   replace HR571_6 := AM (Kd.C_below (ZQ HR571_6.out) hb)
   replace HR571_7 := AM (Kd.C_below (ZQ HR571_7.out) hb)
   replace HB := ZT HB hb
   (try clear hb)
   (try clear hb2)
   (try clear hk)
   (try clear hi)
   refine hK.out _ _ ⟨ZA BK565 0, ZA BK565 1, HS2_, HS3_, HS4_, HS5_, HS6_, HS7_, HS8_, HS9_, HS10_, HS11_, HS12_, HS13_, HS14_, HS15_, HS16_, HS17_⟩ (fun hHeld => ?_)
   clear hK K
   refine ZNO 55 ?_
   refine ZU 23 56 #[T,T,T,T,T,T,T,T,T,T,T,T,T,T,T,T,T,T,T,T,T,T,T,T,F] ?_
   refine ZU 24 5 #[T,T,T,T,T,T,T,T,T,T,T,T,T,T,T,T,T,T,T,T,T,T,T,T,T] ?_
   refine done_ (done_of HT_.out (by kernel_rfl)) ?_
   try go_wp2
   go_roundg k2
   case measure => have := HJ4.out; have := HK2.out; omega
   case rel => exact ⟨(wrap64 ((wrap64 ((wrap64 (x5_2 + 1)) + t570)) + t572)), (wrap64 (x6_2 + 1)), (by first | rfl | (simp; done) | (simp [*]; done)), (by first | rfl | (simp; done) | (simp [*]; done)), H', ⟨by have := HJ4.out; have := HK2.out; omega⟩, ⟨ZR HO_566000.out⟩, ⟨ZRN HO_566001.out⟩, ⟨ZK BK565.out⟩, ⟨ZB⟩⟩)
   ·(
   rw [if_neg c23] at H
   exact absurd H (by simp)))
   ·(
   rw [if_neg c22] at H
   have c22b0 := decide_eq_false c22
   clear c22
   by_cases c30 : x5_2 = t566
   ·(
   rw [if_pos c30] at H
   have c30b0 := beq_iff_eq.mpr c30
   have c30b1 := bne_eq_false_iff_eq.mpr c30
   clear c30
   obtain rfl := Option.some.inj H
   have hcz31 := ZC2 wr BK565
   have hfz31 := ZF2 BK565
   go_wp2
   go_ret
   exact ⟨ZE, ZB⟩)
   ·(
   rw [if_neg c30] at H
   have c30b0 := beq_eq_false_iff_ne.mpr c30
   have c30b1 := bne_iff_ne.mpr c30
   obtain rfl := Option.some.inj H
   have hcz32 := ZC2 wr BK565
   have hfz32 := ZF2 BK565
   go_wp2
   go_ret
   exact ⟨ZE, ZB⟩))))))

end Go.Proofs.Ythidgkfgdkjghaa.A
