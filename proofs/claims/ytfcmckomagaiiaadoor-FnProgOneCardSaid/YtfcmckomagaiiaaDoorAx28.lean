/- Go functions as Lean functions, and for each its contract; written by wip/tools/pr.py over the kit's print. -/
import Derived.Test.YtfcmckomagaiiaaDoorAx0
import Derived.Test.YtfcmckomagaiiaaDoorAx13
import Derived.Test.YtfcmckomagaiiaaDoorAx17
import Derived.Test.YtfcmckomagaiiaaDoorAx26
import Derived.Test.YtfcmckomagaiiaaDoorAx27
namespace Go.Proofs.YtfcmckomagaiiaaDoor.A
open Go.RowKit Go.Proofs.YtfcmckomagaiiaaDoorW.PrintWords Go.Proofs.YtfcmckomagaiiaaDoorW.PrintLast Go.Proofs.YtfcmckomagaiiaaDoorW.PrintMore
attribute [local go_sem] max2_int min2_int max_two min_two max_three min_three max_four min_four
set_option linter.unusedVariables false
set_option linter.unusedSimpArgs false
set_option maxHeartbeats 8000000
set_option maxRecDepth 100000

/-! ### spec_l71Any: function 26 -/
def spec_l71Any.j0 : Nat → List Int → Int → List (S43) → List (S71) → Option ((List (S43)) × (List (S71)) × Int)
 | 0, _, _, _, _ => none
 | k + 1, x1000, x1001, x582000, x582001 => (spec_l6Rd_pick.f k x1000 x1001 16).bind fun bt591 => (if bt591.1 = 0 then ((spec_l71Bent.f k x1000 bt591.2 x582000 x582001).bind fun bt593 => (some (bt593.1, bt593.2.1, bt593.2.2))) else (some (x582000, x582001, bt591.2)))
def spec_l71Any.f (k : Nat) (s0_0 : List Int) (s0_1 : Int) : Option ((List (S43)) × (List (S71)) × Int) := (spec_l71Prog.f k s0_0 s0_1).bind fun bt574 => ((spec_l6Rd_pick.f k s0_0 bt574.2.2 3).bind fun bt582 => (if bt582.1 > 0 then ((spec_l71Fine.f k s0_0 bt582.2).bind fun bt584 => (spec_l71Any.j0 k s0_0 bt584.2.2 bt584.1 bt584.2.1)) else (spec_l71Any.j0 k s0_0 bt582.2 bt574.1 bt574.2.1)))
theorem spec_l71Any.calls (k : Nat) (g : Nat) (s0_0 : List Int) (s0_1 : Int) (r1 : List (S43)) (r2 : List (S71)) (r3 : Int) (w0 w : World) (hI : IsS84 w0 w g s0_0 s0_1) (hB : Below w0.heap.size w0 w) (h : spec_l71Any.f k s0_0 s0_1 = some (r1, r2, r3)) :
  Calls Tryd.prog 26 #[.pointer (some ⟨g, 0, none⟩)] w fun e w' => ∃ v0_ v1_ : Value, e = .returned (.agg #[v0_, v1_]) ∧ Kd.R k43 43 w' w.heap.size (fun k_ => (w.heap.size ≤ k_)) v0_ r1 ∧ Kd.N k71 71 w' w.heap.size (fun k_ => (w.heap.size ≤ k_) ∧ some k_ ≠ (v0_ : Value).ownBlock) v1_ r2 ∧ IsS84 w0 w' g s0_0 r3 ∧ Below w0.heap.size w0 w' ∧ KeepBut w w' g none := by
 have hu31 := Tryd.underlying31
 have HI0 := AM hI
 have HK := AM (KeepBut.refl w g none)
 have HL := AM hB.size
 clear hI
 have HW0 := AM hB.size
 have HB := AM hB
 clear hB
 have H := h
 unfold spec_l71Any.f at H
 clear h
 obtain ⟨⟨t574, t577, t580⟩, A2, H⟩ := ZOB H; try dsimp only at H
 obtain ⟨⟨t582, t583⟩, A3, H⟩ := ZOB H; try dsimp only at H
 have HC4 := AM H
 clear H
 go_enter Tryd.func26, Tryd.ntmps26
 go_upto_if 8 with (first | ((with_reducible refine gate_dst (N := 2) rfl ?_); refine ZX (N := 2) (cs := #[.slice none 0 0, .slice none 0 0]) (t := 31) ?_; intro gb573 hg w5 hbox hb; have BK573 := AM (hbox); have GW573 := AM ((by rw [hg]; exact (keep_size (w := w) (g := g) (row := none) (ZJ)) : w.heap.size ≤ gb573)); have GE573 := AM ((Nat.le_trans HW0.out (by rw [hg]; exact (keep_size (w := w) (g := g) (row := none) (ZJ)) : w.heap.size ≤ gb573) : w0.heap.size ≤ gb573)); have NB0_573 := AM ((by rw [hg]; exact Nat.ne_of_lt (IsS84.lt (show IsS84 w0 _ g s0_0 s0_1 from ZI)) : g ≠ gb573)); have NB573_0 := AM ((by rw [hg]; exact Nat.ne_of_gt (IsS84.lt (show IsS84 w0 _ g s0_0 s0_1 from ZI)) : gb573 ≠ g)); replace HK := ZKT HK (KeepBut.of_below hb g none); replace HB := ZTI HB hb; replace HI0 := AM (IsS84.below (ZI) hb); clear hb hbox hg) | ((with_reducible refine gate_callee (f := 51) rfl ?_); refine ZGL (some 5) Tryd.func51 #[.pointer (some ⟨g, 0, none⟩)] ?_; (with_reducible refine (spec_l71Prog.calls k g s0_0 s0_1 t574 t577 t580 w0 _ ?side1 ?side2 A2.out).mono ?_); (case side1 => exact ZI); (case side2 => exact ZBI); rintro e w6 ⟨v575, v578, rfl, ho0, ho1, hi, hb, hk⟩; refine ZV1 ?_; have HO576 := AM (Kd.R_lower (Kd.R_newM (M := fun k_ => (w.heap.size ≤ k_)) ho0 (keep_size (w := w) (g := g) (row := none) (ZJ)) (fun k_ h_ => h_)) (keep_size (w := w) (g := g) (row := none) (ZJ))); have HO579 := AM (Kd.N_lower (Kd.N_mono (ok' := fun k_ => (w.heap.size ≤ k_) ∧ some k_ ≠ (v575 : Value).ownBlock ∧ k_ ≠ gb573 ∧ k_ ≠ g) (Kd.R_N (Kd.R_bound (Kd.R_apart' ho1 (Kd.R_typed ho0) (by decide)))) (fun k_ hk_ => ⟨(Nat.le_trans (keep_size (w := w) (g := g) (row := none) (ZJ)) hk_.2.1), hk_.1.2, (Kd.freshB (g := gb573) (o := .cells #[.slice none 0 0, .slice none 0 0] 31 (0, 0)) (ZK BK573.out) k_ hk_.2.1), (IsS84.fresh (ZI) k_ hk_.2.1)⟩)) (keep_size (w := w) (g := g) (row := none) (ZJ))); replace BK573 := ZL hk BK573 NB573_0; replace HK := ZKT HK hk; replace HB := AM (hb); replace HI0 := AM (hi); clear hb hk hi; (try clear ho0); (try clear ho1)) | ((with_reducible refine gate_dst (N := 3) rfl ?_); refine ZX (N := 3) (cs := #[.slice none 0 0, .slice none 0 0]) (t := 31) ?_; intro gb581 hg w7 hbox hb; have BK581 := AM (hbox); have GW581 := AM ((by rw [hg]; exact (keep_size (w := w) (g := g) (row := none) (ZJ)) : w.heap.size ≤ gb581)); have GE581 := AM ((Nat.le_trans HW0.out (by rw [hg]; exact (keep_size (w := w) (g := g) (row := none) (ZJ)) : w.heap.size ≤ gb581) : w0.heap.size ≤ gb581)); have NB573_581 : Za (gb573 ≠ gb581) := ZN hg BK573; have NB581_573 : Za (gb581 ≠ gb573) := ZM hg BK573; have NB0_581 := AM ((by rw [hg]; exact Nat.ne_of_lt (IsS84.lt (show IsS84 w0 _ g s0_0 t580 from ZI)) : g ≠ gb581)); have NB581_0 := AM ((by rw [hg]; exact Nat.ne_of_gt (IsS84.lt (show IsS84 w0 _ g s0_0 t580 from ZI)) : gb581 ≠ g)); replace HO576 := AM (Kd.R_below (ZR HO576.out) hb); replace HO579 := AM (Kd.N_below (Kd.N_elderB (ZRN HO579.out) gb581 (Nat.le_of_eq hg.symm)) hb); replace BK573 := ZW BK573 hb; replace HK := ZKT HK (KeepBut.of_below hb g none); replace HB := ZTI HB hb; replace HI0 := AM (IsS84.below (ZI) hb); clear hb hbox hg; obtain ⟨Ao8, co8, eo8⟩ := Kd.R_slice HO576.out; subst eo8; have hnb9 := NB581_573.out; have hnc9 := NB573_581.out; have hnb10 := NB581_0.out; have hnc10 := NB0_581.out; have hcz11 := ZC2 w7 BK581; obtain ⟨Ao12, co12, eo12⟩ := Kd.N_slice HO579.out; subst eo12) | ((with_reducible refine gate_callee (f := 52) rfl ?_); refine ZGL (some 7) Tryd.func52 #[.pointer (some ⟨g, 0, none⟩), .int .i64 3] ?_; (with_reducible refine (spec_l6Rd_pick.calls k g s0_0 t580 3 t582 t583 w0 _ ?side1 ?side2 A3.out).mono ?_); (case side1 => exact ZI); (case side2 => exact ZBI); rintro e w13 ⟨rfl, hi, hb, hk⟩; refine ZV1 ?_; replace BK573 := ZLV #[.slice none 0 0, .slice none 0 0] hk BK573 NB573_0; replace HO576 := AM (Kd.R_mono (Kd.R_keep (IsS84.apart (show IsS84 w0 _ g s0_0 t580 from ZI) (ZR ((Kd.R_mono (Kd.R_far (p := ⟨gb581, 1, none⟩) (Kd.R_far (p := ⟨gb581, 0, none⟩) (Kd.R_types HO576.out BK581.out (by decide)) (fun _ hk => hk.2) (.slice Ao8 t574.length co8)) (fun _ hk => hk.2) (.slice Ao12 t577.length co12)) (fun _ h_ => h_.1)))) (by decide)) hk (fun _ h => h.2)) (fun _ h => h.1)); replace HO579 := AM (Kd.N_mono (Kd.N_keep (Kd.N_mono (ok := fun k_ => ((((w.heap.size ≤ k_)) ∧ (some k_ ≠ (.slice Ao8 t574.length co8 : Value).ownBlock ∧ (k_ ≠ gb573 ∧ k_ ≠ g))) ∧ k_ ≠ gb581)) (by (with_reducible repeat (first | apply Kd.N_alloc | apply Kd.N_drewN | apply Kd.N_drew)); exact (ZNf (Kd.N_mono HO579.out (fun k_ hk => (⟨hk, hk.2⟩ : _ ∧ k_ ≠ gb581))) (fun _ h_ => ⟨h_.2, h_.1⟩))) (fun k_ hk_ => (⟨hk_, hk_.1.2.2.2⟩ : _ ∧ k_ ≠ g))) hk (fun _ h => h.2)) (fun _ h => h.1)); replace BK581 := ZLV #[.slice Ao8 t574.length co8, .slice Ao12 t577.length co12] hk BK581 NB581_0; replace HK := ZKT HK hk; replace HB := AM (hb); replace HI0 := AM (hi); clear hb hk hi))
 (try simp only [Act.put, List.setIfInBounds_toArray, List.set_cons_zero, List.set_cons_succ])
 go_cut [] (fun wc => ∃ (kq : Nat) (x1001_3 : Int) (x582000_3 : List (S43)) (x582001_3 : List (S71)) (u582000 : Value) (u582001 : Value), Za (spec_l71Any.j0 kq s0_0 x1001_3 x582000_3 x582001_3 = some (r1, r2, r3)) ∧ Za (kq ≤ k) ∧ Za (Kd.R k43 43 wc w.heap.size (fun k_ => (w.heap.size ≤ k_)) u582000 x582000_3) ∧ Za (Kd.N k71 71 wc w.heap.size (fun k_ => (w.heap.size ≤ k_) ∧ some k_ ≠ (u582000 : Value).ownBlock ∧ k_ ≠ gb573 ∧ k_ ≠ gb581 ∧ k_ ≠ g) u582001 x582001_3) ∧ Za (wc.heap[gb573]? = some (.cells #[(.slice none 0 0), (.slice none 0 0)] 31 (0, 0))) ∧ Za (wc.heap[gb581]? = some (.cells #[u582000, u582001] 31 (0, 0))) ∧ Za (IsS84 w0 wc g s0_0 x1001_3) ∧ Za (KeepBut w wc g none) ∧ Za (Below w0.heap.size w0 wc))
 case first => (
 have H := HC4.out
 clear HC4
 by_cases c14 : t582 > 0
 ·(
 rw [if_pos c14] at H
 have c14b0 := decide_eq_true c14
 clear c14
 (first | rw [c14b0] | (simp only [i64_w, i32_w]; rw [c14b0]) | skip)
 obtain ⟨⟨t584, t587, t590⟩, A15, H⟩ := ZOB H; try dsimp only at H
 have H' := AM H
 clear H
 go_wp2_with (first | ((with_reducible refine gate_callee (f := 53) rfl ?_); refine ZGL (some 10) Tryd.func53 #[.pointer (some ⟨g, 0, none⟩)] ?_; (with_reducible refine (spec_l71Fine.calls k g s0_0 t583 t584 t587 t590 w0 _ ?side1 ?side2 A15.out).mono ?_); (case side1 => exact ZI); (case side2 => exact ZBI); rintro e w16 ⟨v585, v588, rfl, ho0, ho1, hi, hb, hk⟩; refine ZV1 ?_; have HO586 := AM (Kd.R_lower (Kd.R_new' (Kd.R_newM (M := fun k_ => (w.heap.size ≤ k_)) (Kd.R_mono (ok' := fun k_ => True) ho0 (fun _ hk_ => trivial)) (keep_size (w := w) (g := g) (row := none) (ZJ)) (fun k_ h_ => h_)) (Kd.R_lt (ZR HO576.out))) (keep_size (w := w) (g := g) (row := none) (ZJ))); have HO589 := AM (Kd.N_lower (Kd.N_mono (ok' := fun k_ => (w.heap.size ≤ k_) ∧ some k_ ≠ (v585 : Value).ownBlock ∧ some k_ ≠ (.slice Ao8 t574.length co8 : Value).ownBlock ∧ some k_ ≠ (.slice Ao12 t577.length co12 : Value).ownBlock ∧ k_ ≠ gb573 ∧ k_ ≠ gb581 ∧ k_ ≠ g) ho1 (fun k_ hk_ => ⟨(Nat.le_trans (keep_size (w := w) (g := g) (row := none) (ZJ)) hk_.1), hk_.2, (Kd.fresh' (Kd.R_lt (ZR HO576.out)) k_ hk_.1), (Kd.fresh' (Kd.N_lt (ZRN HO579.out)) k_ hk_.1), (Kd.freshB (g := gb573) (o := .cells #[.slice none 0 0, .slice none 0 0] 31 (0, 0)) (ZK BK573.out) k_ hk_.1), (Kd.freshB (g := gb581) (o := .cells #[.slice Ao8 t574.length co8, .slice Ao12 t577.length co12] 31 (0, 0)) (ZK BK581.out) k_ hk_.1), (IsS84.fresh (ZI) k_ hk_.1)⟩)) (keep_size (w := w) (g := g) (row := none) (ZJ))); replace BK573 := ZL hk BK573 NB573_0; replace HO576 := AM (Kd.R_mono (Kd.R_told (Kd.R_oldK (IsS84.apart (show IsS84 w0 _ g s0_0 t583 from ZI) (ZR HO576.out) (by decide)) hk) (Kd.R_base ho0)) (fun _ h_ => h_.1)); replace HO579 := AM (Kd.N_mono (Kd.N_told (Kd.N_told (Kd.N_oldK (Kd.N_mono (ok := fun k_ => ((((w.heap.size ≤ k_)) ∧ (some k_ ≠ (.slice Ao8 t574.length co8 : Value).ownBlock ∧ (k_ ≠ gb573 ∧ k_ ≠ g))) ∧ k_ ≠ gb581)) (ZRN HO579.out) (fun k_ hk_ => (⟨hk_, hk_.1.2.2.2⟩ : _ ∧ k_ ≠ g))) hk) (Kd.R_base ho0)) (Kd.N_base ho1)) (fun _ h_ => h_.1)); replace BK581 := ZL hk BK581 NB581_0; replace HK := ZKT HK hk; replace HB := AM (hb); replace HI0 := AM (hi); clear hb hk hi; (try clear ho0); (try clear ho1); obtain ⟨Ao17, co17, eo17⟩ := Kd.R_slice HO586.out; subst eo17; have hnb18 := NB581_573.out; have hnc18 := NB573_581.out; have hnb19 := NB581_0.out; have hnc19 := NB0_581.out; have hcz20 := ZC2 w16 BK581; obtain ⟨Ao21, co21, eo21⟩ := Kd.N_slice HO589.out; subst eo21))
 go_meet
 case rel => exact ⟨_, (t590), (t584), (t587), (.slice Ao17 t584.length co17), (.slice Ao21 t587.length co21), H', ⟨by first | omega | exact Nat.le_refl _⟩, ⟨ZR (Kd.R_mono (Kd.R_far (p := ⟨gb581, 1, none⟩) (Kd.R_far (p := ⟨gb581, 0, none⟩) (Kd.R_types HO586.out BK581.out (by decide)) (fun _ hk => hk.2) (.slice Ao17 t584.length co17)) (fun _ hk => hk.2) (.slice Ao21 t587.length co21)) (fun _ hk => hk.1.1.1))⟩, ⟨ZNf (Kd.N_mono HO589.out (fun k_ hk => (⟨hk, hk.2.2.2.2.2.1⟩ : _ ∧ k_ ≠ gb581))) (fun _ hk => ⟨hk.2, ⟨hk.1.1, ⟨hk.1.2.1, ⟨hk.1.2.2.2.2.1, ⟨hk.1.2.2.2.2.2.1, hk.1.2.2.2.2.2.2⟩⟩⟩⟩⟩)⟩, ⟨ZZ BK573.out⟩, ⟨ZZ BK581.out⟩, ⟨ZI⟩, ⟨ZJ⟩, ⟨ZBI⟩⟩)
 ·(
 rw [if_neg c14] at H
 have c14b0 := decide_eq_false c14
 clear c14
 (first | rw [c14b0] | (simp only [i64_w, i32_w]; rw [c14b0]) | skip)
 have H' := AM H
 clear H
 go_wp2
 go_meet
 case rel => exact ⟨_, (t583), (t574), (t577), (.slice Ao8 t574.length co8), (.slice Ao12 t577.length co12), H', ⟨by first | omega | exact Nat.le_refl _⟩, ⟨ZR (Kd.R_mono HO576.out (fun _ hk => hk.1))⟩, ⟨ZNm HO579.out (fun _ hk => ⟨hk.1.1, ⟨hk.1.2.1, ⟨hk.1.2.2.1, ⟨hk.2, hk.1.2.2.2⟩⟩⟩⟩)⟩, ⟨ZK BK573.out⟩, ⟨ZK BK581.out⟩, ⟨ZI⟩, ⟨ZJ⟩, ⟨ZBI⟩⟩))
 case rest => (
 clear HC4
 try clear c1
 try clear c2
 try clear p2
 try clear c5
 try clear c9
 try clear c10
 try clear c14
 try clear c14b0
 try clear c18
 try clear c19
 try clear hcz11
 try clear hcz20
 obtain ⟨kq, x1001_3, x582000_3, x582001_3, u582000, u582001, HA, HJ3, HO_582000, HO_582001, BK573, BK581, HI0, HK, HB⟩ := hcut
 cases kq with
 | zero => exact absurd HA.out (by simp [spec_l71Any.j0])
 | succ kj3 =>
  have H := HA.out
  clear HA
  simp only [spec_l71Any.j0] at H
  obtain ⟨⟨t591, t592⟩, A22, H⟩ := ZOB H; try dsimp only at H
  by_cases c23 : t591 = 0
  ·(
  rw [if_pos c23] at H
  have c23b0 := beq_iff_eq.mpr c23
  have c23b1 := bne_eq_false_iff_eq.mpr c23
  clear c23
  obtain ⟨⟨t593, t596, t599⟩, A24, H⟩ := ZOB H; try dsimp only at H
  simp only [Option.some.injEq, Prod.mk.injEq] at H
  obtain ⟨rfl, rfl, rfl⟩ := H
  go_wp2_with (first | ((with_reducible refine gate_callee (f := 52) rfl ?_); refine ZGL (some 12) Tryd.func52 #[.pointer (some ⟨g, 0, none⟩), .int .i64 16] ?_; (with_reducible refine (spec_l6Rd_pick.calls kj3 g s0_0 x1001_3 16 t591 t592 w0 _ ?side1 ?side2 A22.out).mono ?_); (case side1 => exact ZI); (case side2 => exact ZBI); rintro e w25 ⟨rfl, hi, hb, hk⟩; refine ZV1 ?_; replace HO_582000 := AM (Kd.R_mono (Kd.R_keep (IsS84.apart (show IsS84 w0 _ g s0_0 x1001_3 from ZI) (ZR HO_582000.out) (by decide)) hk (fun _ h => h.2)) (fun _ h => h.1)); replace HO_582001 := AM (Kd.N_mono (Kd.N_keep (Kd.N_mono (ok := fun k_ => (((w.heap.size ≤ k_)) ∧ (some k_ ≠ (u582000 : Value).ownBlock ∧ (k_ ≠ gb573 ∧ (k_ ≠ gb581 ∧ k_ ≠ g))))) (ZRN HO_582001.out) (fun k_ hk_ => (⟨hk_, hk_.2.2.2.2⟩ : _ ∧ k_ ≠ g))) hk (fun _ h => h.2)) (fun _ h => h.1)); replace BK573 := ZL hk BK573 NB573_0; replace BK581 := ZL hk BK581 NB581_0; replace HK := ZKT HK hk; replace HB := AM (hb); replace HI0 := AM (hi); clear hb hk hi; have hnb26 := NB581_573.out; have hnc26 := NB573_581.out; have hnb27 := NB581_0.out; have hnc27 := NB0_581.out; have hcz28 := ZC2 w25 BK581; obtain ⟨Ao29, co29, eo29⟩ := Kd.R_slice HO_582000.out; subst eo29; obtain ⟨Ao30, co30, eo30⟩ := Kd.N_slice HO_582001.out; subst eo30) | ((with_reducible refine gate_callee (f := 54) rfl ?_); refine ZGL (some 16) Tryd.func54 #[.pointer (some ⟨g, 0, none⟩), .agg #[.slice Ao29 x582000_3.length co29, .slice Ao30 x582001_3.length co30]] ?_; (with_reducible refine (spec_l71Bent.calls kj3 g s0_0 t592 _ _ x582000_3 _ _ x582001_3 t593 t596 t599 w0 _ ?side1 ?side2 ?side3 ?side4 ?side5 ?side6 A24.out).mono ?_); (case side1 => exact ZI); (case side2 => exact ZBI); (case side3 => exact Kd.C_foot_own (IsS84.apart (show IsS84 w0 _ g s0_0 t592 from ZI) (ZR HO_582000.out) (by decide)) (fun _ h_ => h_.2)); (case side4 => exact (Kd.R_reads' HO_582000.out).2.1); (case side5 => exact Kd.C_foot_ownV (base := 0) (Kd.N_V (Kd.N_mono (ok := fun k_ => (((w.heap.size ≤ k_)) ∧ (some k_ ≠ (.slice Ao29 x582000_3.length co29 : Value).ownBlock ∧ (k_ ≠ gb573 ∧ (k_ ≠ gb581 ∧ k_ ≠ g))))) (ZRN HO_582001.out) (fun k_ hk_ => (⟨hk_, hk_.2.2.2.2⟩ : _ ∧ k_ ≠ g)))) (fun _ h_ => h_.2)); (case side6 => exact (Kd.N_reads' HO_582001.out).2.1); rintro e w31 ⟨v594, v597, rfl, ho0, ho1, hi, hb, hk⟩; refine ZV1 ?_; have HO595 := AM (Kd.R_lower (Kd.R_new' (Kd.R_newM (M := fun k_ => (w.heap.size ≤ k_)) (Kd.R_mono (ok' := fun k_ => True) ho0 (fun _ hk_ => trivial)) (keep_size (w := w) (g := g) (row := none) (ZJ)) (fun k_ h_ => h_)) (Kd.R_lt (ZR HO_582000.out))) (keep_size (w := w) (g := g) (row := none) (ZJ))); have HO598 := AM (Kd.N_lower (Kd.N_mono (ok' := fun k_ => (w.heap.size ≤ k_) ∧ some k_ ≠ (v594 : Value).ownBlock ∧ some k_ ≠ (.slice Ao29 x582000_3.length co29 : Value).ownBlock ∧ some k_ ≠ (.slice Ao30 x582001_3.length co30 : Value).ownBlock ∧ k_ ≠ gb573 ∧ k_ ≠ gb581 ∧ k_ ≠ g) ho1 (fun k_ hk_ => ⟨(Nat.le_trans (keep_size (w := w) (g := g) (row := none) (ZJ)) hk_.1), hk_.2, (Kd.fresh' (Kd.R_lt (ZR HO_582000.out)) k_ hk_.1), (Kd.fresh' (Kd.N_lt (ZRN HO_582001.out)) k_ hk_.1), (Kd.freshB (g := gb573) (o := .cells #[.slice none 0 0, .slice none 0 0] 31 (0, 0)) (ZK BK573.out) k_ hk_.1), (Kd.freshB (g := gb581) (o := .cells #[.slice Ao29 x582000_3.length co29, .slice Ao30 x582001_3.length co30] 31 (0, 0)) (ZK BK581.out) k_ hk_.1), (IsS84.fresh (ZI) k_ hk_.1)⟩)) (keep_size (w := w) (g := g) (row := none) (ZJ))); replace HO_582000 := AM (Kd.R_mono (Kd.R_told (Kd.R_oldK (IsS84.apart (show IsS84 w0 _ g s0_0 t592 from ZI) (ZR HO_582000.out) (by decide)) hk) (Kd.R_base ho0)) (fun _ h_ => h_.1)); replace HO_582001 := AM (Kd.N_mono (Kd.N_told (Kd.N_told (Kd.N_oldK (Kd.N_mono (ok := fun k_ => (((w.heap.size ≤ k_)) ∧ (some k_ ≠ (.slice Ao29 x582000_3.length co29 : Value).ownBlock ∧ (k_ ≠ gb573 ∧ (k_ ≠ gb581 ∧ k_ ≠ g))))) (ZRN HO_582001.out) (fun k_ hk_ => (⟨hk_, hk_.2.2.2.2⟩ : _ ∧ k_ ≠ g))) hk) (Kd.R_base ho0)) (Kd.N_base ho1)) (fun _ h_ => h_.1)); replace BK573 := ZL hk BK573 NB573_0; replace BK581 := ZL hk BK581 NB581_0; replace HK := ZKT HK hk; replace HB := AM (hb); replace HI0 := AM (hi); clear hb hk hi; (try clear ho0); (try clear ho1); obtain ⟨Ao32, co32, eo32⟩ := Kd.R_slice HO595.out; subst eo32; have hnb33 := NB573_0.out; have hnc33 := NB0_573.out; have hcz34 := ZC2 w31 BK573; obtain ⟨Ao35, co35, eo35⟩ := Kd.N_slice HO598.out; subst eo35))
  refine bodyPost_ret (results_cell_row rfl _ _ gb573 31 #[.slice Ao32 t593.length co32, .slice Ao35 t596.length co35] (0, 0) _ rfl (ZZ BK573.out) Tryd.underlying31 rfl (by kernel_rfl)) rfl ?_
  exact ⟨_, _, ZE, ZRf (Kd.R_types HO595.out BK573.out (by decide)) (fun _ hk => ⟨hk.2, hk.1.1.1⟩), ZNf (Kd.N_mono HO598.out (fun k_ hk => (⟨hk, hk.2.2.2.2.1⟩ : _ ∧ k_ ≠ gb573))) (fun _ hk => ⟨hk.2, ⟨hk.1.1, hk.1.2.1⟩⟩), ZI, ZBI, ZJ⟩)
  ·(
  rw [if_neg c23] at H
  have c23b0 := beq_eq_false_iff_ne.mpr c23
  have c23b1 := bne_iff_ne.mpr c23
  simp only [Option.some.injEq, Prod.mk.injEq] at H
  obtain ⟨rfl, rfl, rfl⟩ := H
  go_wp2_with (first | ((with_reducible refine gate_callee (f := 52) rfl ?_); refine ZGL (some 12) Tryd.func52 #[.pointer (some ⟨g, 0, none⟩), .int .i64 16] ?_; (with_reducible refine (spec_l6Rd_pick.calls kj3 g s0_0 x1001_3 16 t591 t592 w0 _ ?side1 ?side2 A22.out).mono ?_); (case side1 => exact ZI); (case side2 => exact ZBI); rintro e w36 ⟨rfl, hi, hb, hk⟩; refine ZV1 ?_; replace HO_582000 := AM (Kd.R_mono (Kd.R_keep (IsS84.apart (show IsS84 w0 _ g s0_0 x1001_3 from ZI) (ZR HO_582000.out) (by decide)) hk (fun _ h => h.2)) (fun _ h => h.1)); replace HO_582001 := AM (Kd.N_mono (Kd.N_keep (Kd.N_mono (ok := fun k_ => (((w.heap.size ≤ k_)) ∧ (some k_ ≠ (u582000 : Value).ownBlock ∧ (k_ ≠ gb573 ∧ (k_ ≠ gb581 ∧ k_ ≠ g))))) (ZRN HO_582001.out) (fun k_ hk_ => (⟨hk_, hk_.2.2.2.2⟩ : _ ∧ k_ ≠ g))) hk (fun _ h => h.2)) (fun _ h => h.1)); replace BK573 := ZL hk BK573 NB573_0; replace BK581 := ZL hk BK581 NB581_0; replace HK := ZKT HK hk; replace HB := AM (hb); replace HI0 := AM (hi); clear hb hk hi; have hnb37 := NB581_573.out; have hnc37 := NB573_581.out; have hnb38 := NB581_0.out; have hnc38 := NB0_581.out; have hcz39 := ZC2 w36 BK581; obtain ⟨Ao40, co40, eo40⟩ := Kd.R_slice HO_582000.out; subst eo40; have hnb41 := NB573_0.out; have hnc41 := NB0_573.out; have hcz42 := ZC2 w36 BK573; obtain ⟨Ao43, co43, eo43⟩ := Kd.N_slice HO_582001.out; subst eo43))
  refine bodyPost_ret (results_cell_row rfl _ _ gb573 31 #[.slice Ao40 x582000_3.length co40, .slice Ao43 x582001_3.length co43] (0, 0) _ rfl (ZZ BK573.out) Tryd.underlying31 rfl (by kernel_rfl)) rfl ?_
  exact ⟨_, _, ZE, ZRf (Kd.R_types HO_582000.out BK573.out (by decide)) (fun _ hk => ⟨hk.2, hk.1⟩), ZNf (Kd.N_mono HO_582001.out (fun k_ hk => (⟨hk, hk.2.2.1⟩ : _ ∧ k_ ≠ gb573))) (fun _ hk => ⟨hk.2, ⟨hk.1.1, hk.1.2.1⟩⟩), ZI, ZBI, ZJ⟩))

/-! ### spec_l6Open: function 27 -/
def spec_l6Open.f (l0 : List Int) : Option (List Int × Int) := if (l0.length : Int) > 2000 then (if 2000 ≤ (l0.length : Int) then (some (l0.take 2000, 0)) else (none)) else (some (l0, 0))
theorem spec_l6Open.calls (A0 : Option Addr) (c0 : Nat) (l0 : List Int) (r1 : List Int) (r2 : Int) (w0 w : World) (hB : Below w0.heap.size w0 w) (hr0 : Kd.C (Kd.int .u8) w0 A0 l0.length l0) (hc0 : l0.length ≤ c0) (h : spec_l6Open.f l0 = some (r1, r2)) :
  Calls Tryd.prog 27 #[.slice A0 l0.length c0] w fun e w' => ∃ g_ : Nat, e = .returned (.pointer (some ⟨g_, 0, none⟩)) ∧ IsS84 w0 w' g_ r1 r2 ∧ Below w0.heap.size w0 w' ∧ Below w.heap.size w w' := by
 have hu84 := Tryd.underlying84
 have HR0 := AM hr0
 have HC0 := AM hc0
 clear hr0 hc0
 have HBW := AM (Below.refl w.heap.size w)
 have HW0 := AM hB.size
 have HB := AM hB
 clear hB
 have H := h
 unfold spec_l6Open.f at H
 clear h
 by_cases c2 : (l0.length : Int) > 2000
 ·(
 rw [if_pos c2] at H
 have c2b0 := decide_eq_true c2
 have c2b1 : decide (2000 < l0.length) = true := decide_eq_true (by omega)
 clear c2
 by_cases c3 : 2000 ≤ (l0.length : Int)
 ·(
 rw [if_pos c3] at H
 have c3b0 := eq_true c3
 have c3b1 := decide_eq_true c3
 clear c3
 simp only [Option.some.injEq, Prod.mk.injEq] at H
 obtain ⟨rfl, rfl⟩ := H
 obtain ⟨i04, hi04, _, hsz4, _⟩ := info_parts info5
 obtain ⟨hcut4, hA4, hC4⟩ := print_take_of (P := Tryd.prog) (Value.int .u8) 0 35 5 .i64 Tryd.underlying35 hi04 hsz4 A0 c0 l0 2000 (by omega) (ZD) HC0.out
 have HR600 := AM (Kd.C_of_reads (h1 := fun _ => rfl) (hA4 _ (Kd.reads_of_C HR0.out)))
 have HC600 := AM hC4
 clear hA4 hC4 hi04 hsz4
 go_enter Tryd.func27, Tryd.ntmps27
 go_wp2_with (first | ((with_reducible refine gate_dst (N := 10) rfl ?_); refine ZX (N := 10) (cs := #[.slice A0 (l0.take 2000).length c0, .int .i64 0]) (t := 84) ?_; intro gb601 hg w5 hbox hb; have BK601 := AM (hbox); have GW601 := AM ((by rw [hg]; exact (below_size (by repeat (first | (with_reducible first | exact HBW.out | apply below_alloc | apply pw_below_drewN | apply below_drew1) | exact HBW.out))) : w.heap.size ≤ gb601)); have GE601 := AM ((Nat.le_trans HW0.out (by rw [hg]; exact (below_size (by repeat (first | (with_reducible first | exact HBW.out | apply below_alloc | apply pw_below_drewN | apply below_drew1) | exact HBW.out))) : w.heap.size ≤ gb601) : w0.heap.size ≤ gb601)); replace HBW := AM (below_step HBW.out hb); replace HB := ZT HB hb; clear hb hbox hg))
 go_ret
 exact ⟨_, rfl, (show IsS84 w0 _ gb601 (l0.take 2000) 0 from ⟨_, _, by (with_reducible repeat (first | refine blk_drewN ?_ _ | refine blk_drew ?_ | refine blk_alloc ?_ _)); exact BK601.out, GE601.out, HR600.out⟩), ZB, by repeat (first | (with_reducible first | exact HBW.out | apply below_alloc | apply pw_below_drewN | apply below_drew1 | refine below_set ?_ GW601.out) | exact HBW.out)⟩)
 ·(
 rw [if_neg c3] at H
 exact absurd H (by simp)))
 ·(
 rw [if_neg c2] at H
 have c2b0 := decide_eq_false c2
 have c2b1 : decide (2000 < l0.length) = false := decide_eq_false (by omega)
 clear c2
 simp only [Option.some.injEq, Prod.mk.injEq] at H
 obtain ⟨rfl, rfl⟩ := H
 go_enter Tryd.func27, Tryd.ntmps27
 go_wp2_with (first | ((with_reducible refine gate_dst (N := 10) rfl ?_); refine ZX (N := 10) (cs := #[.slice A0 l0.length c0, .int .i64 0]) (t := 84) ?_; intro gb602 hg w6 hbox hb; have BK602 := AM (hbox); have GW602 := AM ((by rw [hg]; exact (below_size (by repeat (first | (with_reducible first | exact HBW.out | apply below_alloc | apply pw_below_drewN | apply below_drew1) | exact HBW.out))) : w.heap.size ≤ gb602)); have GE602 := AM ((Nat.le_trans HW0.out (by rw [hg]; exact (below_size (by repeat (first | (with_reducible first | exact HBW.out | apply below_alloc | apply pw_below_drewN | apply below_drew1) | exact HBW.out))) : w.heap.size ≤ gb602) : w0.heap.size ≤ gb602)); replace HBW := AM (below_step HBW.out hb); replace HB := ZT HB hb; clear hb hbox hg))
 go_ret
 exact ⟨_, rfl, (show IsS84 w0 _ gb602 l0 0 from ⟨_, _, by (with_reducible repeat (first | refine blk_drewN ?_ _ | refine blk_drew ?_ | refine blk_alloc ?_ _)); exact BK602.out, GE602.out, HR0.out⟩), ZB, by repeat (first | (with_reducible first | exact HBW.out | apply below_alloc | apply pw_below_drewN | apply below_drew1 | refine below_set ?_ GW602.out) | exact HBW.out)⟩)

/-! ### spec_DrawProgText: function 10 -/
def spec_DrawProgText.f (k : Nat) (l0 : List Int) : Option ((List (S43)) × (List (S71))) := (spec_l6Open.f l0).bind fun bt604 => ((spec_l71Any.f k bt604.1 bt604.2).bind fun bt607 => (some (bt607.1, bt607.2.1)))
theorem spec_DrawProgText.calls (k : Nat) (A0 : Option Addr) (c0 : Nat) (l0 : List Int) (r1 : List (S43)) (r2 : List (S71)) (w : World) (hr0 : Kd.C (Kd.int .u8) w A0 l0.length l0) (hc0 : l0.length ≤ c0) (h : spec_DrawProgText.f k l0 = some (r1, r2)) :
  Calls Tryd.prog 10 #[.slice A0 l0.length c0] w fun e w' => ∃ v0_ v1_ : Value, e = .returned (.agg #[v0_, v1_]) ∧ Kd.R k43 43 w' w.heap.size (fun k_ => (w.heap.size ≤ k_)) v0_ r1 ∧ Kd.N k71 71 w' w.heap.size (fun k_ => (w.heap.size ≤ k_) ∧ some k_ ≠ (v0_ : Value).ownBlock) v1_ r2 ∧ Below w.heap.size w w' := by
 have hu31 := Tryd.underlying31
 have HR0 := AM hr0
 have HC0 := AM hc0
 clear hr0 hc0
 have HB := AM (Below.refl w.heap.size w)
 have H := h
 unfold spec_DrawProgText.f at H
 clear h
 obtain ⟨⟨t604, t605⟩, A2, H⟩ := ZOB H; try dsimp only at H
 obtain ⟨⟨t607, t610, t613⟩, A3, H⟩ := ZOB H; try dsimp only at H
 simp only [Option.some.injEq, Prod.mk.injEq] at H
 obtain ⟨rfl, rfl⟩ := H
 go_enter Tryd.func10, Tryd.ntmps10
 go_wp2_with (first | ((with_reducible refine gate_dst (N := 2) rfl ?_); refine ZXW w (N := 2) (cs := #[.slice none 0 0, .slice none 0 0]) (t := 31) ?_; intro gb603 hg w4 BK603 GW603 hb; replace HB := ZT HB hb; clear hb hg) | ((with_reducible refine gate_callee (f := 27) rfl ?_); refine ZGL (some 4) Tryd.func27 #[.slice A0 l0.length c0] ?_; (with_reducible refine (spec_l6Open.calls _ _ l0 t604 t605 w _ ?side1 ?side2 HC0.out A2.out).mono ?_); (case side1 => repeat (first | (with_reducible first | exact HB.out | apply below_alloc | apply pw_below_drewN | apply below_drew1 | refine below_set ?_ GW603.out) | exact HB.out)); (case side2 => exact HR0.out); rintro e w5 ⟨g606, rfl, hi, hb, hb2⟩; refine ZV1 ?_; have HI606 := AM (hi); have NB606_603 := AM (IsS84.ne_blk hi (blk_below (g := gb603) (o := .cells #[.slice none 0 0, .slice none 0 0] 31 (0, 0)) (ZK BK603.out) hb2) (by decide)); have NB603_606 := AM (Ne.symm (IsS84.ne_blk hi (blk_below (g := gb603) (o := .cells #[.slice none 0 0, .slice none 0 0] 31 (0, 0)) (ZK BK603.out) hb2) (by decide))); replace BK603 := AM (blk_below (g := gb603) (o := .cells #[.slice none 0 0, .slice none 0 0] 31 (0, 0)) (ZK BK603.out) hb2); replace HB := AM (hb); clear hb hb2 hi) | ((with_reducible refine gate_callee (f := 26) rfl ?_); refine ZGL (some 5) Tryd.func26 #[.pointer (some ⟨g606, 0, none⟩)] ?_; (with_reducible refine (spec_l71Any.calls k g606 t604 t605 t607 t610 t613 w _ ?side1 ?side2 A3.out).mono ?_); (case side1 => repeat (first | (with_reducible first | exact HI606.out | apply IsS84.alloc | apply IsS84.drewN | apply IsS84.drew | apply IsS84.set_1 | refine IsS84.far ?_ NB606_603.out _) | exact HI606.out)); (case side2 => repeat (first | (with_reducible first | exact HB.out | apply below_alloc | apply pw_below_drewN | apply below_drew1 | refine below_set ?_ (IsS84.ge HI606.out) | refine below_set ?_ GW603.out) | exact HB.out)); rintro e w6 ⟨v608, v611, rfl, ho0, ho1, hi, hb, hk⟩; refine ZV1 ?_; have HO609 := AM (Kd.R_lower (Kd.R_newM (M := fun k_ => (w.heap.size ≤ k_)) (Kd.R_mono (ok' := fun k_ => True) ho0 (fun _ hk_ => trivial)) (below_size (by repeat (first | (with_reducible first | exact HB.out | apply below_alloc | apply pw_below_drewN | apply below_drew1 | refine below_set ?_ (IsS84.ge HI606.out) | refine below_set ?_ GW603.out) | exact HB.out))) (fun k_ h_ => h_)) (below_size (by repeat (first | (with_reducible first | exact HB.out | apply below_alloc | apply pw_below_drewN | apply below_drew1 | refine below_set ?_ (IsS84.ge HI606.out) | refine below_set ?_ GW603.out) | exact HB.out)))); have HO612 := AM (Kd.N_lower (Kd.N_mono (ok' := fun k_ => (w.heap.size ≤ k_) ∧ some k_ ≠ (v608 : Value).ownBlock ∧ k_ ≠ gb603 ∧ k_ ≠ g606) ho1 (fun k_ hk_ => ⟨(Nat.le_trans (below_size (by repeat (first | (with_reducible first | exact HB.out | apply below_alloc | apply pw_below_drewN | apply below_drew1 | refine below_set ?_ (IsS84.ge HI606.out) | refine below_set ?_ GW603.out) | exact HB.out))) hk_.1), hk_.2, (Kd.freshB (g := gb603) (o := .cells #[.slice none 0 0, .slice none 0 0] 31 (0, 0)) (ZK BK603.out) k_ hk_.1), (IsS84.fresh (by repeat (first | (with_reducible first | exact HI606.out | apply IsS84.alloc | apply IsS84.drewN | apply IsS84.drew | apply IsS84.set_1 | refine IsS84.far ?_ NB606_603.out _) | exact HI606.out)) k_ hk_.1)⟩)) (below_size (by repeat (first | (with_reducible first | exact HB.out | apply below_alloc | apply pw_below_drewN | apply below_drew1 | refine below_set ?_ (IsS84.ge HI606.out) | refine below_set ?_ GW603.out) | exact HB.out)))); replace BK603 := ZL hk BK603 NB603_606; replace HB := AM (hb); replace HI606 := AM (hi); clear hb hk hi; (try clear ho0); (try clear ho1); obtain ⟨Ao7, co7, eo7⟩ := Kd.R_slice HO609.out; subst eo7; have hnb8 := NB603_606.out; have hnc8 := NB606_603.out; have hcz9 := ZC2 w6 BK603; obtain ⟨Ao10, co10, eo10⟩ := Kd.N_slice HO612.out; subst eo10))
 refine bodyPost_ret (results_cell_row rfl _ _ gb603 31 #[.slice Ao7 t607.length co7, .slice Ao10 t610.length co10] (0, 0) _ rfl (ZZ BK603.out) Tryd.underlying31 rfl (by kernel_rfl)) rfl ?_
 exact ⟨_, _, ZE, ZRf (Kd.R_types HO609.out BK603.out (by decide)) (fun _ hk => ⟨hk.2, hk.1.1⟩), ZNf (Kd.N_mono HO612.out (fun k_ hk => (⟨hk, hk.2.2.1⟩ : _ ∧ k_ ≠ gb603))) (fun _ hk => ⟨hk.2, ⟨hk.1.1, hk.1.2.1⟩⟩), by repeat (first | (with_reducible first | exact HB.out | apply below_alloc | apply pw_below_drewN | apply below_drew1 | refine below_set ?_ (IsS84.ge HI606.out) | refine below_set ?_ GW603.out) | exact HB.out)⟩

end Go.Proofs.YtfcmckomagaiiaaDoor.A
