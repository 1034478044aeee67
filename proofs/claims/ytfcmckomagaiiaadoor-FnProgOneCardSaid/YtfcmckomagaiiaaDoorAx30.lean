/- Go functions as Lean functions, and for each its contract; written by wip/tools/pr.py over the kit's print. -/
import Derived.Test.YtfcmckomagaiiaaDoorAx0
import Derived.Test.YtfcmckomagaiiaaDoorAx5
import Derived.Test.YtfcmckomagaiiaaDoorAx7
import Derived.Test.YtfcmckomagaiiaaDoorAx13
import Derived.Test.YtfcmckomagaiiaaDoorAx28
import Derived.Test.YtfcmckomagaiiaaDoorAx29
namespace Go.Proofs.YtfcmckomagaiiaaDoor.A
open Go.RowKit Go.Proofs.YtfcmckomagaiiaaDoorW.PrintWords Go.Proofs.YtfcmckomagaiiaaDoorW.PrintLast Go.Proofs.YtfcmckomagaiiaaDoorW.PrintMore
attribute [local go_sem] max2_int min2_int max_two min_two max_three min_three max_four min_four
set_option linter.unusedVariables false
set_option linter.unusedSimpArgs false
set_option maxHeartbeats 8000000
set_option maxRecDepth 100000

/-! ### laws_FnProgOne: function 4 -/
mutual
def laws_FnProgOne.j0 : Nat → List Int → List Int → Bool → Option (Bool)
 | 0, _, _, _ => none
 | k + 1, x0, x1, x16 => if x16 = true then (some true) else ((spec_DrawProgText.f k x0).bind fun bt619 => ((spec_DrawProgText.f k x1).bind fun bt626 => ((impl_ProgText.f k bt619.1 bt619.2).bind fun t633 => ((impl_ProgText.f k bt626.1 bt626.2).bind fun t634 => ((spec_ProgText.f k bt619.1 bt619.2).bind fun t635 => (if t633.toList = t635.toList then ((spec_ProgText.f k bt626.1 bt626.2).bind fun t636 => (if t634.toList = t636.toList then ((spec_ProgOk.f k bt619.1 bt619.2).bind fun t637 => (if t637 = true then ((spec_ProgOk.f k bt626.1 bt626.2).bind fun t638 => (laws_FnProgOne.j1 k t633 t634 (!t638) bt619.1 bt619.2 bt626.1 bt626.2)) else (laws_FnProgOne.j1 k t633 t634 true bt619.1 bt619.2 bt626.1 bt626.2))) else (laws_FnProgOne.j1 k t633 t634 true bt619.1 bt619.2 bt626.1 bt626.2))) else (laws_FnProgOne.j1 k t633 t634 true bt619.1 bt619.2 bt626.1 bt626.2)))))))
def laws_FnProgOne.j1 : Nat → ByteArray → ByteArray → Bool → List (S43) → List (S71) → List (S43) → List (S71) → Option (Bool)
 | 0, _, _, _, _, _, _, _ => none
 | k + 1, x7, x8, x44, x626000, x626001, x633000, x633001 => if x44 = true then ((spec_ProgText.f k x626000 x626001).bind fun t639 => (if x7.toList = t639.toList then ((spec_ProgText.f k x633000 x633001).bind fun t640 => (some (x8.toList == t640.toList))) else (none))) else ((laws_lcProg.f k x626000 x626001 x633000 x633001).bind fun t641 => (some ((x7.toList == x8.toList) == t641)))
end
def laws_FnProgOne.f (k : Nat) (l0 : List Int) (l1 : List Int) : Option (Bool) := if (l0.length : Int) > 1048576 then (laws_FnProgOne.j0 k l0 l1 true) else (laws_FnProgOne.j0 k l0 l1 (decide ((l1.length : Int) > 1048576)))
theorem laws_FnProgOne.calls (k : Nat) (A0 : Option Addr) (c0 : Nat) (l0 : List Int) (A1 : Option Addr) (c1 : Nat) (l1 : List Int) (r : Bool) (w : World) (hr0 : Kd.C (Kd.int .u8) w A0 l0.length l0) (hc0 : l0.length ≤ c0) (hr1 : Kd.C (Kd.int .u8) w A1 l1.length l1) (hc1 : l1.length ≤ c1) (h : laws_FnProgOne.f k l0 l1 = some r) :
  Calls Tryd.prog 4 #[.slice A0 l0.length c0, .slice A1 l1.length c1] w fun e w' => e = .returned (.bool r) ∧ Below w.heap.size w w' := by
 have hu31 := Tryd.underlying31
 have HR0 := AM hr0
 have HC0 := AM hc0
 clear hr0 hc0
 have HR1 := AM hr1
 have HC1 := AM hc1
 clear hr1 hc1
 have HB := AM (Below.refl w.heap.size w)
 have H := h
 unfold laws_FnProgOne.f at H
 clear h
 have HC3 := AM H
 clear H
 go_enter Tryd.func4, Tryd.ntmps4
 go_upto_region 1 with (fail)
 go_cut [16] (fun v16 wc => ∃ (kq : Nat) (x16_2 : Bool), v16 = .bool x16_2 ∧ Za (laws_FnProgOne.j0 kq l0 l1 x16_2 = some r) ∧ Za (kq ≤ k) ∧ Za (Below w.heap.size w wc))
 case first => (
 have H := HC3.out
 clear HC3
 by_cases c4 : (l0.length : Int) > 1048576
 ·(
 rw [if_pos c4] at H
 have c4b0 := decide_eq_true c4
 have c4b1 : decide (1048576 < l0.length) = true := decide_eq_true (by omega)
 clear c4
 (first | rw [c4b0] | (simp only [i64_w, i32_w]; rw [c4b0]) | skip)
 have H' := AM H
 clear H
 go_wp2
 go_meet
 case rel => exact ⟨_, (true), ZSM, H', ⟨by first | omega | exact Nat.le_refl _⟩, ⟨ZB⟩⟩)
 ·(
 rw [if_neg c4] at H
 have c4b0 := decide_eq_false c4
 have c4b1 : decide (1048576 < l0.length) = false := decide_eq_false (by omega)
 clear c4
 (first | rw [c4b0] | (simp only [i64_w, i32_w]; rw [c4b0]) | skip)
 have H' := AM H
 clear H
 go_wp2
 go_meet
 case rel => exact ⟨_, (decide ((l1.length : Int) > 1048576)), ZSM, H', ⟨by first | omega | exact Nat.le_refl _⟩, ⟨ZB⟩⟩))
 case rest => (
 clear HC3
 try clear c1
 try clear p2
 try clear c4
 try clear c4b0
 try clear c4b1
 obtain ⟨kq, x16_2, rfl, HA, HJ2, HB⟩ := hcut
 cases kq with
 | zero => exact absurd HA.out (by simp [laws_FnProgOne.j0])
 | succ kj2 =>
  have H := HA.out
  clear HA
  simp only [laws_FnProgOne.j0] at H
  by_cases c5 : x16_2 = true
  ·(
  subst c5
  have H1 := H; rw [if_pos rfl] at H1
  clear H
  have H := H1
  clear H1
  obtain rfl := Option.some.inj H
  go_wp2
  go_ret
  exact ⟨ZE, ZB⟩)
  ·(
  replace c5 := Bool.eq_false_iff.mpr c5
  subst c5
  have H1 := H; rw [if_neg ZFT] at H1
  clear H
  have H := H1
  clear H1
  obtain ⟨⟨t619, t622⟩, A6, H⟩ := ZOB H; try dsimp only at H
  obtain ⟨⟨t626, t629⟩, A7, H⟩ := ZOB H; try dsimp only at H
  obtain ⟨t633, A8, H⟩ := ZOB H; try dsimp only at H
  obtain ⟨t634, A9, H⟩ := ZOB H; try dsimp only at H
  have HC10 := AM H
  clear H
  go_upto_region 7 with (first | ((with_reducible refine gate_callee (f := 10) rfl ?_); refine ZGL (some 18) Tryd.func10 #[.slice A0 l0.length c0] ?_; (with_reducible refine (spec_DrawProgText.calls kj2 _ _ l0 t619 t622 _ (ZQ (Kd.C_below HR0.out HB.out)) HC0.out A6.out).mono ?_); rintro e w11 ⟨v620, v623, rfl, ho0, ho1, hb⟩; refine ZV1 ?_; have HO621 := AM (Kd.R_lower (Kd.R_mono (ok' := fun k_ => True) ho0 (fun _ hk_ => trivial)) (below_size (ZB))); have HO624 := AM (Kd.N_lower (Kd.N_mono (ok' := fun k_ => some k_ ≠ (v620 : Value).ownBlock) ho1 (fun k_ hk_ => hk_.2)) (below_size (ZB))); replace HB := ZT HB hb; clear hb; (try clear ho0); (try clear ho1)) | ((with_reducible refine gate_dst (N := 5) rfl ?_); refine ZXW w (N := 5) (cs := #[.slice none 0 0, .slice none 0 0]) (t := 31) ?_; intro gb625 hg w12 BK625 GW625 hb; replace HO621 := AM (Kd.R_below (ZR HO621.out) hb); replace HO624 := AM (Kd.N_below (Kd.N_elderB (ZRN HO624.out) gb625 (Nat.le_of_eq hg.symm)) hb); replace HB := ZT HB hb; clear hb hg; obtain ⟨Ao13, co13, eo13⟩ := Kd.R_slice HO621.out; subst eo13; have hcz14 := ZC2 w12 BK625; obtain ⟨Ao15, co15, eo15⟩ := Kd.N_slice HO624.out; subst eo15) | ((with_reducible refine gate_callee (f := 10) rfl ?_); refine ZGL (some 20) Tryd.func10 #[.slice A1 l1.length c1] ?_; (with_reducible refine (spec_DrawProgText.calls kj2 _ _ l1 t626 t629 _ ?side1 HC1.out A7.out).mono ?_); (case side1 => exact Kd.C_below HR1.out (ZB)); rintro e w16 ⟨v627, v630, rfl, ho0, ho1, hb⟩; refine ZV1 ?_; have HO628 := AM (Kd.R_lower (Kd.R_new' (Kd.R_mono (ok' := fun k_ => True) ho0 (fun _ hk_ => trivial)) (Kd.R_lt (ZR ((Kd.R_mono (Kd.R_far (p := ⟨gb625, 1, none⟩) (Kd.R_far (p := ⟨gb625, 0, none⟩) (Kd.R_types HO621.out BK625.out (by decide)) (fun _ hk => hk.2) (.slice Ao13 t619.length co13)) (fun _ hk => hk.2) (.slice Ao15 t622.length co15)) (fun _ h_ => h_.1)))))) (below_size (ZB))); have HO631 := AM (Kd.N_lower (Kd.N_mono (ok' := fun k_ => some k_ ≠ (v627 : Value).ownBlock ∧ some k_ ≠ (.slice Ao13 t619.length co13 : Value).ownBlock ∧ some k_ ≠ (.slice Ao15 t622.length co15 : Value).ownBlock ∧ k_ ≠ gb625) ho1 (fun k_ hk_ => ⟨hk_.2, (Kd.fresh' (Kd.R_lt (ZR ((Kd.R_mono (Kd.R_far (p := ⟨gb625, 1, none⟩) (Kd.R_far (p := ⟨gb625, 0, none⟩) (Kd.R_types HO621.out BK625.out (by decide)) (fun _ hk => hk.2) (.slice Ao13 t619.length co13)) (fun _ hk => hk.2) (.slice Ao15 t622.length co15)) (fun _ h_ => h_.1))))) k_ hk_.1), (Kd.fresh' (Kd.N_lt (by (with_reducible repeat (first | apply Kd.N_alloc | apply Kd.N_drewN | apply Kd.N_drew)); exact (ZNf (Kd.N_mono HO624.out (fun k_ hk => (⟨hk, hk.2⟩ : _ ∧ k_ ≠ gb625))) (fun _ h_ => ⟨h_.2, h_.1⟩)))) k_ hk_.1), (Kd.freshB (g := gb625) (o := .cells #[.slice Ao13 t619.length co13, .slice Ao15 t622.length co15] 31 (0, 0)) (ZZ BK625.out) k_ hk_.1)⟩)) (below_size (ZB))); replace HO621 := AM (Kd.R_elder' (ZR ((Kd.R_mono (Kd.R_far (p := ⟨gb625, 1, none⟩) (Kd.R_far (p := ⟨gb625, 0, none⟩) (Kd.R_types HO621.out BK625.out (by decide)) (fun _ hk => hk.2) (.slice Ao13 t619.length co13)) (fun _ hk => hk.2) (.slice Ao15 t622.length co15)) (fun _ h_ => h_.1)))) (Kd.R_base ho0) hb); replace HO624 := AM (Kd.N_mono (Kd.N_told (Kd.N_told (Kd.N_old (by (with_reducible repeat (first | apply Kd.N_alloc | apply Kd.N_drewN | apply Kd.N_drew)); exact (ZNf (Kd.N_mono HO624.out (fun k_ hk => (⟨hk, hk.2⟩ : _ ∧ k_ ≠ gb625))) (fun _ h_ => ⟨h_.2, h_.1⟩))) hb) (Kd.R_base ho0)) (Kd.N_base ho1)) (fun _ h_ => h_.1)); replace BK625 := ZV #[.slice Ao13 t619.length co13, .slice Ao15 t622.length co15] BK625 hb; replace HB := ZT HB hb; clear hb; (try clear ho0); (try clear ho1)) | ((with_reducible refine gate_dst (N := 6) rfl ?_); refine ZXW w (N := 6) (cs := #[.slice none 0 0, .slice none 0 0]) (t := 31) ?_; intro gb632 hg w17 BK632 GW632 hb; have NB625_632 : Za (gb625 ≠ gb632) := ZN hg BK625; have NB632_625 : Za (gb632 ≠ gb625) := ZM hg BK625; replace HO621 := AM (Kd.R_below (ZR HO621.out) hb); replace HO624 := AM (Kd.N_below (Kd.N_elderB (ZRN HO624.out) gb632 (Nat.le_of_eq hg.symm)) hb); replace HO628 := AM (Kd.R_below (ZR HO628.out) hb); replace HO631 := AM (Kd.N_below (Kd.N_elderB (ZRN HO631.out) gb632 (Nat.le_of_eq hg.symm)) hb); replace BK625 := ZW BK625 hb; replace HB := ZT HB hb; clear hb hg; obtain ⟨Ao18, co18, eo18⟩ := Kd.R_slice HO628.out; subst eo18; have hnb19 := NB632_625.out; have hnc19 := NB625_632.out; have hcz20 := ZC2 w17 BK632; obtain ⟨Ao21, co21, eo21⟩ := Kd.N_slice HO631.out; subst eo21; have hcz22 := ZC2 w17 BK625) | ((with_reducible refine gate_callee (f := 8) rfl ?_); refine ZGL (some 22) Tryd.func8 #[.agg #[.slice Ao13 t619.length co13, .slice Ao15 t622.length co15]] ?_; (with_reducible refine (impl_ProgText.calls kj2 _ _ t619 _ _ t622 t633 _ ?side1 ?side2 ?side3 ?side4 A8.out).mono ?_); (case side1 => refine (Kd.R_reads' (e := 43) (base := w.heap.size) (ok := fun k_ => (True ∧ some k_ ≠ (.slice Ao18 t626.length co18 : Value).ownBlock)) (n := t619.length) (c := co13) ?_).2.2; exact (ZR ((Kd.R_mono (Kd.R_far (p := ⟨gb632, 1, none⟩) (Kd.R_far (p := ⟨gb632, 0, none⟩) (Kd.R_types HO621.out BK632.out (by decide)) (fun _ hk => hk.2) (.slice Ao18 t626.length co18)) (fun _ hk => hk.2) (.slice Ao21 t629.length co21)) (fun _ h_ => h_.1))))); (case side2 => exact (Kd.R_reads' HO621.out).2.1); (case side3 => refine (Kd.N_reads' (e := 71) (base := w.heap.size) (ok := fun k_ => ((((some k_ ≠ (.slice Ao13 t619.length co13 : Value).ownBlock ∧ k_ ≠ gb625) ∧ some k_ ≠ (.slice Ao18 t626.length co18 : Value).ownBlock) ∧ some k_ ≠ (.slice Ao21 t629.length co21 : Value).ownBlock) ∧ k_ ≠ gb632)) (n := t622.length) (c := co15) ?_).2.2; exact (by (with_reducible repeat (first | apply Kd.N_alloc | apply Kd.N_drewN | apply Kd.N_drew)); exact (ZNf (Kd.N_mono HO624.out (fun k_ hk => (⟨hk, hk.2⟩ : _ ∧ k_ ≠ gb632))) (fun _ h_ => ⟨h_.2, h_.1⟩)))); (case side4 => exact (Kd.N_reads' HO624.out).2.1); rintro e w23 ⟨rfl, hb⟩; refine ZV1 ?_; replace HO621 := AM (Kd.R_below (ZR ((Kd.R_mono (Kd.R_far (p := ⟨gb632, 1, none⟩) (Kd.R_far (p := ⟨gb632, 0, none⟩) (Kd.R_types HO621.out BK632.out (by decide)) (fun _ hk => hk.2) (.slice Ao18 t626.length co18)) (fun _ hk => hk.2) (.slice Ao21 t629.length co21)) (fun _ h_ => h_.1)))) hb); replace HO624 := AM (Kd.N_below (by (with_reducible repeat (first | apply Kd.N_alloc | apply Kd.N_drewN | apply Kd.N_drew)); exact (ZNf (Kd.N_mono HO624.out (fun k_ hk => (⟨hk, hk.2⟩ : _ ∧ k_ ≠ gb632))) (fun _ h_ => ⟨h_.2, h_.1⟩))) hb); replace HO628 := AM (Kd.R_below (ZR ((Kd.R_mono (Kd.R_far (p := ⟨gb632, 1, none⟩) (Kd.R_far (p := ⟨gb632, 0, none⟩) (Kd.R_types HO628.out BK632.out (by decide)) (fun _ hk => hk.2) (.slice Ao18 t626.length co18)) (fun _ hk => hk.2) (.slice Ao21 t629.length co21)) (fun _ h_ => h_.1)))) hb); replace HO631 := AM (Kd.N_below (by (with_reducible repeat (first | apply Kd.N_alloc | apply Kd.N_drewN | apply Kd.N_drew)); exact (ZNf (Kd.N_mono HO631.out (fun k_ hk => (⟨hk, hk.2⟩ : _ ∧ k_ ≠ gb632))) (fun _ h_ => ⟨h_.2, h_.1⟩))) hb); replace BK625 := ZV #[.slice Ao13 t619.length co13, .slice Ao15 t622.length co15] BK625 hb; replace BK632 := ZV #[.slice Ao18 t626.length co18, .slice Ao21 t629.length co21] BK632 hb; replace HB := ZT HB hb; clear hb; have hcz24 := ZC2 w23 BK632) | ((with_reducible refine gate_callee (f := 8) rfl ?_); refine ZGL (some 24) Tryd.func8 #[.agg #[.slice Ao18 t626.length co18, .slice Ao21 t629.length co21]] ?_; (with_reducible refine (impl_ProgText.calls kj2 _ _ t626 _ _ t629 t634 _ ?side1 ?side2 ?side3 ?side4 A9.out).mono ?_); (case side1 => exact ZQ ((Kd.R_reads' HO628.out).2.2)); (case side2 => exact (Kd.R_reads' HO628.out).2.1); (case side3 => exact ZQ ((Kd.N_reads' HO631.out).2.2)); (case side4 => exact (Kd.N_reads' HO631.out).2.1); rintro e w25 ⟨rfl, hb⟩; refine ZV1 ?_; replace HO621 := AM (Kd.R_below (ZR HO621.out) hb); replace HO624 := AM (Kd.N_below (ZRN HO624.out) hb); replace HO628 := AM (Kd.R_below (ZR HO628.out) hb); replace HO631 := AM (Kd.N_below (ZRN HO631.out) hb); replace BK625 := ZW BK625 hb; replace BK632 := ZW BK632 hb; replace HB := ZT HB hb; clear hb))
  (try simp only [Act.put, List.setIfInBounds_toArray, List.set_cons_zero, List.set_cons_succ])
  go_cut [44] (fun v44 wc => ∃ (kq : Nat) (x44_9 : Bool), v44 = .bool x44_9 ∧ Za (laws_FnProgOne.j1 kq t633 t634 x44_9 t619 t622 t626 t629 = some r) ∧ Za (kq ≤ kj2) ∧ Za (Kd.R k43 43 wc w.heap.size (fun k_ => some k_ ≠ ((.slice Ao18 t626.length co18) : Value).ownBlock) (.slice Ao13 t619.length co13) t619) ∧ Za (Kd.N k71 71 wc w.heap.size (fun k_ => some k_ ≠ ((.slice Ao13 t619.length co13) : Value).ownBlock ∧ some k_ ≠ ((.slice Ao18 t626.length co18) : Value).ownBlock ∧ some k_ ≠ ((.slice Ao21 t629.length co21) : Value).ownBlock ∧ k_ ≠ gb625 ∧ k_ ≠ gb632) (.slice Ao15 t622.length co15) t622) ∧ Za (Kd.R k43 43 wc w.heap.size (fun k_ => some k_ ≠ ((.slice Ao13 t619.length co13) : Value).ownBlock) (.slice Ao18 t626.length co18) t626) ∧ Za (Kd.N k71 71 wc w.heap.size (fun k_ => some k_ ≠ ((.slice Ao13 t619.length co13) : Value).ownBlock ∧ some k_ ≠ ((.slice Ao15 t622.length co15) : Value).ownBlock ∧ some k_ ≠ ((.slice Ao18 t626.length co18) : Value).ownBlock ∧ k_ ≠ gb625 ∧ k_ ≠ gb632) (.slice Ao21 t629.length co21) t629) ∧ Za (wc.heap[gb625]? = some (.cells #[(.slice Ao13 t619.length co13), (.slice Ao15 t622.length co15)] 31 (0, 0))) ∧ Za (wc.heap[gb632]? = some (.cells #[(.slice Ao18 t626.length co18), (.slice Ao21 t629.length co21)] 31 (0, 0))) ∧ Za (Below w.heap.size w wc))
  case first => (
  have H := HC10.out
  clear HC10
  obtain ⟨t635, A26, H⟩ := ZOB H; try dsimp only at H
  by_cases c27 : t633.toList = t635.toList
  ·(
  rw [if_pos c27] at H
  have c27b0 := beq_iff_eq.mpr c27
  have c27b1 := bne_eq_false_iff_eq.mpr c27
  clear c27
  (first | rw [c27b0] | (simp only [i64_w, i32_w]; rw [c27b0]) | skip)
  obtain ⟨t636, A28, H⟩ := ZOB H; try dsimp only at H
  by_cases c29 : t634.toList = t636.toList
  ·(
  rw [if_pos c29] at H
  have c29b0 := beq_iff_eq.mpr c29
  have c29b1 := bne_eq_false_iff_eq.mpr c29
  clear c29
  obtain ⟨t637, A30, H⟩ := ZOB H; try dsimp only at H
  by_cases c31 : t637 = true
  ·(
  subst c31
  have H1 := H; rw [if_pos rfl] at H1
  clear H
  have H := H1
  clear H1
  obtain ⟨t638, A32, H⟩ := ZOB H; try dsimp only at H
  have H' := AM H
  clear H
  have hnb33 := NB625_632.out
  have hnc33 := NB632_625.out
  have hcz34 := ZC2 w25 BK625
  go_wp2_with (first | ((with_reducible refine gate_callee (f := 6) rfl ?_); refine ZGL (some 27) Tryd.func6 #[.agg #[.slice Ao13 t619.length co13, .slice Ao15 t622.length co15]] ?_; (with_reducible refine (spec_ProgText.calls kj2 _ _ t619 _ _ t622 t635 _ ?side1 ?side2 ?side3 ?side4 A26.out).mono ?_); (case side1 => exact ZQ ((Kd.R_reads' HO621.out).2.2)); (case side2 => exact (Kd.R_reads' HO621.out).2.1); (case side3 => exact ZQ ((Kd.N_reads' HO624.out).2.2)); (case side4 => exact (Kd.N_reads' HO624.out).2.1); rintro e w35 ⟨rfl, hb⟩; refine ZV1 ?_; replace HO621 := AM (Kd.R_below (ZR HO621.out) hb); replace HO624 := AM (Kd.N_below (ZRN HO624.out) hb); replace HO628 := AM (Kd.R_below (ZR HO628.out) hb); replace HO631 := AM (Kd.N_below (ZRN HO631.out) hb); replace BK625 := ZW BK625 hb; replace BK632 := ZW BK632 hb; replace HB := ZT HB hb; clear hb; have hcz36 := ZC2 w35 BK632) | (go_at_call 6; (with_reducible refine (spec_ProgText.calls kj2 _ _ t626 _ _ t629 t636 _ ?side1 ?side2 ?side3 ?side4 A28.out).mono ?_); (case side1 => exact ZQ ((Kd.R_reads' HO628.out).2.2)); (case side2 => exact (Kd.R_reads' HO628.out).2.1); (case side3 => exact ZQ ((Kd.N_reads' HO631.out).2.2)); (case side4 => exact (Kd.N_reads' HO631.out).2.1); rintro e w37 ⟨rfl, hb⟩; replace HO621 := AM (Kd.R_below (ZR HO621.out) hb); replace HO624 := AM (Kd.N_below (ZRN HO624.out) hb); replace HO628 := AM (Kd.R_below (ZR HO628.out) hb); replace HO631 := AM (Kd.N_below (ZRN HO631.out) hb); replace BK625 := ZW BK625 hb; replace BK632 := ZW BK632 hb; replace HB := ZT HB hb; clear hb; have hcz38 := ZC2 w37 BK625) | (go_at_call 11; (with_reducible refine (spec_ProgOk.calls kj2 _ _ t619 _ _ t622 true _ ?side1 ?side2 ?side3 ?side4 A30.out).mono ?_); (case side1 => exact ZQ ((Kd.R_reads' HO621.out).2.2)); (case side2 => exact (Kd.R_reads' HO621.out).2.1); (case side3 => exact ZQ ((Kd.N_reads' HO624.out).2.2)); (case side4 => exact (Kd.N_reads' HO624.out).2.1); rintro e w39 ⟨rfl, hb⟩; replace HO621 := AM (Kd.R_below (ZR HO621.out) hb); replace HO624 := AM (Kd.N_below (ZRN HO624.out) hb); replace HO628 := AM (Kd.R_below (ZR HO628.out) hb); replace HO631 := AM (Kd.N_below (ZRN HO631.out) hb); replace BK625 := ZW BK625 hb; replace BK632 := ZW BK632 hb; replace HB := ZT HB hb; clear hb; have hcz40 := ZC2 w39 BK632) | (go_at_call 11; (with_reducible refine (spec_ProgOk.calls kj2 _ _ t626 _ _ t629 t638 _ ?side1 ?side2 ?side3 ?side4 A32.out).mono ?_); (case side1 => exact ZQ ((Kd.R_reads' HO628.out).2.2)); (case side2 => exact (Kd.R_reads' HO628.out).2.1); (case side3 => exact ZQ ((Kd.N_reads' HO631.out).2.2)); (case side4 => exact (Kd.N_reads' HO631.out).2.1); rintro e w41 ⟨rfl, hb⟩; replace HO621 := AM (Kd.R_below (ZR HO621.out) hb); replace HO624 := AM (Kd.N_below (ZRN HO624.out) hb); replace HO628 := AM (Kd.R_below (ZR HO628.out) hb); replace HO631 := AM (Kd.N_below (ZRN HO631.out) hb); replace BK625 := ZW BK625 hb; replace BK632 := ZW BK632 hb; replace HB := ZT HB hb; clear hb))
  go_meet
  case rel => exact ⟨_, (!t638), ZSM, H', ⟨by have := HJ2.out; first | omega | exact Nat.le_refl _⟩, ⟨ZR (Kd.R_mono HO621.out (fun _ hk => hk.2))⟩, ⟨ZNm HO624.out (fun _ hk => ⟨hk.1.1.1.1, ⟨hk.1.1.2, ⟨hk.1.2, ⟨hk.1.1.1.2, hk.2⟩⟩⟩⟩)⟩, ⟨ZR (Kd.R_mono HO628.out (fun _ hk => hk.2))⟩, ⟨ZNm HO631.out (fun _ hk => ⟨hk.1.2.1, ⟨hk.1.2.2.1, ⟨hk.1.1, ⟨hk.1.2.2.2, hk.2⟩⟩⟩⟩)⟩, ⟨ZK BK625.out⟩, ⟨ZK BK632.out⟩, ⟨ZB⟩⟩)
  ·(
  replace c31 := Bool.eq_false_iff.mpr c31
  subst c31
  have H1 := H; rw [if_neg ZFT] at H1
  clear H
  have H := H1
  clear H1
  have H' := AM H
  clear H
  have hnb42 := NB625_632.out
  have hnc42 := NB632_625.out
  have hcz43 := ZC2 w25 BK625
  go_wp2_with (first | ((with_reducible refine gate_callee (f := 6) rfl ?_); refine ZGL (some 27) Tryd.func6 #[.agg #[.slice Ao13 t619.length co13, .slice Ao15 t622.length co15]] ?_; (with_reducible refine (spec_ProgText.calls kj2 _ _ t619 _ _ t622 t635 _ ?side1 ?side2 ?side3 ?side4 A26.out).mono ?_); (case side1 => exact ZQ ((Kd.R_reads' HO621.out).2.2)); (case side2 => exact (Kd.R_reads' HO621.out).2.1); (case side3 => exact ZQ ((Kd.N_reads' HO624.out).2.2)); (case side4 => exact (Kd.N_reads' HO624.out).2.1); rintro e w44 ⟨rfl, hb⟩; refine ZV1 ?_; replace HO621 := AM (Kd.R_below (ZR HO621.out) hb); replace HO624 := AM (Kd.N_below (ZRN HO624.out) hb); replace HO628 := AM (Kd.R_below (ZR HO628.out) hb); replace HO631 := AM (Kd.N_below (ZRN HO631.out) hb); replace BK625 := ZW BK625 hb; replace BK632 := ZW BK632 hb; replace HB := ZT HB hb; clear hb; have hcz45 := ZC2 w44 BK632) | (go_at_call 6; (with_reducible refine (spec_ProgText.calls kj2 _ _ t626 _ _ t629 t636 _ ?side1 ?side2 ?side3 ?side4 A28.out).mono ?_); (case side1 => exact ZQ ((Kd.R_reads' HO628.out).2.2)); (case side2 => exact (Kd.R_reads' HO628.out).2.1); (case side3 => exact ZQ ((Kd.N_reads' HO631.out).2.2)); (case side4 => exact (Kd.N_reads' HO631.out).2.1); rintro e w46 ⟨rfl, hb⟩; replace HO621 := AM (Kd.R_below (ZR HO621.out) hb); replace HO624 := AM (Kd.N_below (ZRN HO624.out) hb); replace HO628 := AM (Kd.R_below (ZR HO628.out) hb); replace HO631 := AM (Kd.N_below (ZRN HO631.out) hb); replace BK625 := ZW BK625 hb; replace BK632 := ZW BK632 hb; replace HB := ZT HB hb; clear hb; have hcz47 := ZC2 w46 BK625) | (go_at_call 11; (with_reducible refine (spec_ProgOk.calls kj2 _ _ t619 _ _ t622 false _ ?side1 ?side2 ?side3 ?side4 A30.out).mono ?_); (case side1 => exact ZQ ((Kd.R_reads' HO621.out).2.2)); (case side2 => exact (Kd.R_reads' HO621.out).2.1); (case side3 => exact ZQ ((Kd.N_reads' HO624.out).2.2)); (case side4 => exact (Kd.N_reads' HO624.out).2.1); rintro e w48 ⟨rfl, hb⟩; replace HO621 := AM (Kd.R_below (ZR HO621.out) hb); replace HO624 := AM (Kd.N_below (ZRN HO624.out) hb); replace HO628 := AM (Kd.R_below (ZR HO628.out) hb); replace HO631 := AM (Kd.N_below (ZRN HO631.out) hb); replace BK625 := ZW BK625 hb; replace BK632 := ZW BK632 hb; replace HB := ZT HB hb; clear hb))
  go_meet
  case rel => exact ⟨_, (true), ZSM, H', ⟨by have := HJ2.out; first | omega | exact Nat.le_refl _⟩, ⟨ZR (Kd.R_mono HO621.out (fun _ hk => hk.2))⟩, ⟨ZNm HO624.out (fun _ hk => ⟨hk.1.1.1.1, ⟨hk.1.1.2, ⟨hk.1.2, ⟨hk.1.1.1.2, hk.2⟩⟩⟩⟩)⟩, ⟨ZR (Kd.R_mono HO628.out (fun _ hk => hk.2))⟩, ⟨ZNm HO631.out (fun _ hk => ⟨hk.1.2.1, ⟨hk.1.2.2.1, ⟨hk.1.1, ⟨hk.1.2.2.2, hk.2⟩⟩⟩⟩)⟩, ⟨ZK BK625.out⟩, ⟨ZK BK632.out⟩, ⟨ZB⟩⟩))
  ·(
  rw [if_neg c29] at H
  have c29b0 := beq_eq_false_iff_ne.mpr c29
  have c29b1 := bne_iff_ne.mpr c29
  have H' := AM H
  clear H
  have hnb49 := NB625_632.out
  have hnc49 := NB632_625.out
  have hcz50 := ZC2 w25 BK625
  go_wp2_with (first | ((with_reducible refine gate_callee (f := 6) rfl ?_); refine ZGL (some 27) Tryd.func6 #[.agg #[.slice Ao13 t619.length co13, .slice Ao15 t622.length co15]] ?_; (with_reducible refine (spec_ProgText.calls kj2 _ _ t619 _ _ t622 t635 _ ?side1 ?side2 ?side3 ?side4 A26.out).mono ?_); (case side1 => exact ZQ ((Kd.R_reads' HO621.out).2.2)); (case side2 => exact (Kd.R_reads' HO621.out).2.1); (case side3 => exact ZQ ((Kd.N_reads' HO624.out).2.2)); (case side4 => exact (Kd.N_reads' HO624.out).2.1); rintro e w51 ⟨rfl, hb⟩; refine ZV1 ?_; replace HO621 := AM (Kd.R_below (ZR HO621.out) hb); replace HO624 := AM (Kd.N_below (ZRN HO624.out) hb); replace HO628 := AM (Kd.R_below (ZR HO628.out) hb); replace HO631 := AM (Kd.N_below (ZRN HO631.out) hb); replace BK625 := ZW BK625 hb; replace BK632 := ZW BK632 hb; replace HB := ZT HB hb; clear hb; have hcz52 := ZC2 w51 BK632) | (go_at_call 6; (with_reducible refine (spec_ProgText.calls kj2 _ _ t626 _ _ t629 t636 _ ?side1 ?side2 ?side3 ?side4 A28.out).mono ?_); (case side1 => exact ZQ ((Kd.R_reads' HO628.out).2.2)); (case side2 => exact (Kd.R_reads' HO628.out).2.1); (case side3 => exact ZQ ((Kd.N_reads' HO631.out).2.2)); (case side4 => exact (Kd.N_reads' HO631.out).2.1); rintro e w53 ⟨rfl, hb⟩; replace HO621 := AM (Kd.R_below (ZR HO621.out) hb); replace HO624 := AM (Kd.N_below (ZRN HO624.out) hb); replace HO628 := AM (Kd.R_below (ZR HO628.out) hb); replace HO631 := AM (Kd.N_below (ZRN HO631.out) hb); replace BK625 := ZW BK625 hb; replace BK632 := ZW BK632 hb; replace HB := ZT HB hb; clear hb))
  go_meet
  case rel => exact ⟨_, (true), ZSM, H', ⟨by have := HJ2.out; first | omega | exact Nat.le_refl _⟩, ⟨ZR (Kd.R_mono HO621.out (fun _ hk => hk.2))⟩, ⟨ZNm HO624.out (fun _ hk => ⟨hk.1.1.1.1, ⟨hk.1.1.2, ⟨hk.1.2, ⟨hk.1.1.1.2, hk.2⟩⟩⟩⟩)⟩, ⟨ZR (Kd.R_mono HO628.out (fun _ hk => hk.2))⟩, ⟨ZNm HO631.out (fun _ hk => ⟨hk.1.2.1, ⟨hk.1.2.2.1, ⟨hk.1.1, ⟨hk.1.2.2.2, hk.2⟩⟩⟩⟩)⟩, ⟨ZK BK625.out⟩, ⟨ZK BK632.out⟩, ⟨ZB⟩⟩))
  ·(
  rw [if_neg c27] at H
  have c27b0 := beq_eq_false_iff_ne.mpr c27
  have c27b1 := bne_iff_ne.mpr c27
  (first | rw [c27b0] | (simp only [i64_w, i32_w]; rw [c27b0]) | skip)
  have H' := AM H
  clear H
  have hnb54 := NB625_632.out
  have hnc54 := NB632_625.out
  have hcz55 := ZC2 w25 BK625
  go_wp2_with (first | ((with_reducible refine gate_callee (f := 6) rfl ?_); refine ZGL (some 27) Tryd.func6 #[.agg #[.slice Ao13 t619.length co13, .slice Ao15 t622.length co15]] ?_; (with_reducible refine (spec_ProgText.calls kj2 _ _ t619 _ _ t622 t635 _ ?side1 ?side2 ?side3 ?side4 A26.out).mono ?_); (case side1 => exact ZQ ((Kd.R_reads' HO621.out).2.2)); (case side2 => exact (Kd.R_reads' HO621.out).2.1); (case side3 => exact ZQ ((Kd.N_reads' HO624.out).2.2)); (case side4 => exact (Kd.N_reads' HO624.out).2.1); rintro e w56 ⟨rfl, hb⟩; refine ZV1 ?_; replace HO621 := AM (Kd.R_below (ZR HO621.out) hb); replace HO624 := AM (Kd.N_below (ZRN HO624.out) hb); replace HO628 := AM (Kd.R_below (ZR HO628.out) hb); replace HO631 := AM (Kd.N_below (ZRN HO631.out) hb); replace BK625 := ZW BK625 hb; replace BK632 := ZW BK632 hb; replace HB := ZT HB hb; clear hb))
  go_meet
  case rel => exact ⟨_, (true), ZSM, H', ⟨by have := HJ2.out; first | omega | exact Nat.le_refl _⟩, ⟨ZR (Kd.R_mono HO621.out (fun _ hk => hk.2))⟩, ⟨ZNm HO624.out (fun _ hk => ⟨hk.1.1.1.1, ⟨hk.1.1.2, ⟨hk.1.2, ⟨hk.1.1.1.2, hk.2⟩⟩⟩⟩)⟩, ⟨ZR (Kd.R_mono HO628.out (fun _ hk => hk.2))⟩, ⟨ZNm HO631.out (fun _ hk => ⟨hk.1.2.1, ⟨hk.1.2.2.1, ⟨hk.1.1, ⟨hk.1.2.2.2, hk.2⟩⟩⟩⟩)⟩, ⟨ZK BK625.out⟩, ⟨ZK BK632.out⟩, ⟨ZB⟩⟩))
  case rest => (
  clear HC10
  try clear c1
  try clear c2
  try clear p2
  try clear c3
  try clear c4
  try clear c4b0
  try clear c4b1
  try clear c5
  try clear c6
  try clear c8
  try clear c10
  try clear c19
  try clear c27
  try clear c27b0
  try clear c27b1
  try clear c29
  try clear c29b0
  try clear c29b1
  try clear c31
  try clear c33
  try clear c42
  try clear c49
  try clear c54
  try clear hcz14
  try clear hcz20
  try clear hcz22
  try clear hcz24
  try clear hcz34
  try clear hcz36
  try clear hcz38
  try clear hcz40
  try clear hcz43
  try clear hcz45
  try clear hcz47
  try clear hcz50
  try clear hcz52
  try clear hcz55
  try clear p2
  obtain ⟨kq, x44_9, rfl, HA, HJ9, HO_626000, HO_626001, HO_633000, HO_633001, BK625, BK632, HB⟩ := hcut
  cases kq with
  | zero => exact absurd HA.out (by simp [laws_FnProgOne.j1])
  | succ kj9 =>
   have H := HA.out
   clear HA
   simp only [laws_FnProgOne.j1] at H
   by_cases c57 : x44_9 = true
   ·(
   subst c57
   have H1 := H; rw [if_pos rfl] at H1
   clear H
   have H := H1
   clear H1
   obtain ⟨t639, A58, H⟩ := ZOB H; try dsimp only at H
   by_cases c59 : t633.toList = t639.toList
   ·(
   rw [if_pos c59] at H
   have c59b0 := beq_iff_eq.mpr c59
   have c59b1 := bne_eq_false_iff_eq.mpr c59
   clear c59
   obtain ⟨t640, A60, H⟩ := ZOB H; try dsimp only at H
   obtain rfl := Option.some.inj H
   have hnb61 := NB625_632.out
   have hnc61 := NB632_625.out
   have hcz62 := ZC2 wc BK625
   go_wp2_with (first | ((with_reducible refine gate_callee (f := 6) rfl ?_); refine ZGL (some 47) Tryd.func6 #[.agg #[.slice Ao13 t619.length co13, .slice Ao15 t622.length co15]] ?_; (with_reducible refine (spec_ProgText.calls kj9 _ _ t619 _ _ t622 t639 _ ?side1 ?side2 ?side3 ?side4 A58.out).mono ?_); (case side1 => exact ZQ ((Kd.R_reads' HO_626000.out).2.2)); (case side2 => exact (Kd.R_reads' HO_626000.out).2.1); (case side3 => exact ZQ ((Kd.N_reads' HO_626001.out).2.2)); (case side4 => exact (Kd.N_reads' HO_626001.out).2.1); rintro e w63 ⟨rfl, hb⟩; refine ZV1 ?_; replace HO_626000 := AM (Kd.R_below (ZR HO_626000.out) hb); replace HO_626001 := AM (Kd.N_below (ZRN HO_626001.out) hb); replace HO_633000 := AM (Kd.R_below (ZR HO_633000.out) hb); replace HO_633001 := AM (Kd.N_below (ZRN HO_633001.out) hb); replace BK625 := ZW BK625 hb; replace BK632 := ZW BK632 hb; replace HB := ZT HB hb; clear hb; have hcz64 := ZC2 w63 BK632) | (go_at_call 6; (with_reducible refine (spec_ProgText.calls kj9 _ _ t626 _ _ t629 t640 _ ?side1 ?side2 ?side3 ?side4 A60.out).mono ?_); (case side1 => exact ZQ ((Kd.R_reads' HO_633000.out).2.2)); (case side2 => exact (Kd.R_reads' HO_633000.out).2.1); (case side3 => exact ZQ ((Kd.N_reads' HO_633001.out).2.2)); (case side4 => exact (Kd.N_reads' HO_633001.out).2.1); rintro e w65 ⟨rfl, hb⟩; replace HO_626000 := AM (Kd.R_below (ZR HO_626000.out) hb); replace HO_626001 := AM (Kd.N_below (ZRN HO_626001.out) hb); replace HO_633000 := AM (Kd.R_below (ZR HO_633000.out) hb); replace HO_633001 := AM (Kd.N_below (ZRN HO_633001.out) hb); replace BK625 := ZW BK625 hb; replace BK632 := ZW BK632 hb; replace HB := ZT HB hb; clear hb))
   go_ret
   exact ⟨ZE, ZB⟩)
   ·(
   rw [if_neg c59] at H
   exact absurd H (by simp)))
   ·(
   replace c57 := Bool.eq_false_iff.mpr c57
   subst c57
   have H1 := H; rw [if_neg ZFT] at H1
   clear H
   have H := H1
   clear H1
   obtain ⟨t641, A66, H⟩ := ZOB H; try dsimp only at H
   obtain rfl := Option.some.inj H
   have hnb67 := NB625_632.out
   have hnc67 := NB632_625.out
   have hcz68 := ZC2 wc BK625
   have hcz69 := ZC2 wc BK632
   go_wp2_with (first | ((with_reducible refine gate_callee (f := 12) rfl ?_); refine ZGL (some 60) Tryd.func12 #[.agg #[.slice Ao13 t619.length co13, .slice Ao15 t622.length co15], .agg #[.slice Ao18 t626.length co18, .slice Ao21 t629.length co21]] ?_; (with_reducible refine (laws_lcProg.calls kj9 _ _ t619 _ _ t622 _ _ t626 _ _ t629 t641 _ ?side1 ?side2 ?side3 ?side4 ?side5 ?side6 ?side7 ?side8 A66.out).mono ?_); (case side1 => exact ZQ ((Kd.R_reads' HO_626000.out).2.2)); (case side2 => exact (Kd.R_reads' HO_626000.out).2.1); (case side3 => exact ZQ ((Kd.N_reads' HO_626001.out).2.2)); (case side4 => exact (Kd.N_reads' HO_626001.out).2.1); (case side5 => exact ZQ ((Kd.R_reads' HO_633000.out).2.2)); (case side6 => exact (Kd.R_reads' HO_633000.out).2.1); (case side7 => exact ZQ ((Kd.N_reads' HO_633001.out).2.2)); (case side8 => exact (Kd.N_reads' HO_633001.out).2.1); rintro e w70 ⟨rfl, hb⟩; refine ZV1 ?_; replace HO_626000 := AM (Kd.R_below (ZR HO_626000.out) hb); replace HO_626001 := AM (Kd.N_below (ZRN HO_626001.out) hb); replace HO_633000 := AM (Kd.R_below (ZR HO_633000.out) hb); replace HO_633001 := AM (Kd.N_below (ZRN HO_633001.out) hb); replace BK625 := ZW BK625 hb; replace BK632 := ZW BK632 hb; replace HB := ZT HB hb; clear hb))
   go_ret
   exact ⟨ZE, ZB⟩))))

end Go.Proofs.YtfcmckomagaiiaaDoor.A
