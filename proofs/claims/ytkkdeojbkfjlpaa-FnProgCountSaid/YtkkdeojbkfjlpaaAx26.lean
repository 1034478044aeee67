/- Go functions as Lean functions, and for each its contract; written by wip/tools/pr.py over the kit's print. -/
import Derived.Test.YtkkdeojbkfjlpaaAx0
import Derived.Test.YtkkdeojbkfjlpaaAx9
import Derived.Test.YtkkdeojbkfjlpaaAx12
import Derived.Test.YtkkdeojbkfjlpaaAx16
import Derived.Test.YtkkdeojbkfjlpaaAx24
import Derived.Test.YtkkdeojbkfjlpaaAx25
namespace Go.Proofs.Ytkkdeojbkfjlpaa.A
open Go.RowKit Go.Proofs.YtkkdeojbkfjlpaaW.PrintWords Go.Proofs.YtkkdeojbkfjlpaaW.PrintLast Go.Proofs.YtkkdeojbkfjlpaaW.PrintMore
attribute [local go_sem] max2_int min2_int max_two min_two max_three min_three max_four min_four
set_option linter.unusedVariables false
set_option linter.unusedSimpArgs false
set_option maxHeartbeats 8000000
set_option maxRecDepth 100000

/-! ### spec_l71Any: function 23 -/
def spec_l71Any.j0 : Nat → List Int → Int → List (S35) → List (S40) → Option ((List (S35)) × (List (S40)) × Int)
 | 0, _, _, _, _ => none
 | k + 1, x1000, x1001, x592000, x592001 => (spec_l6Rd_pick.f k x1000 x1001 16).bind fun bt601 => (if bt601.1 = 0 then ((spec_l71Bent.f k x1000 bt601.2 x592000 x592001).bind fun bt603 => (some (bt603.1, bt603.2.1, bt603.2.2))) else (some (x592000, x592001, bt601.2)))
def spec_l71Any.f (k : Nat) (s0_0 : List Int) (s0_1 : Int) : Option ((List (S35)) × (List (S40)) × Int) := (spec_l71Prog.f k s0_0 s0_1).bind fun bt584 => ((spec_l6Rd_pick.f k s0_0 bt584.2.2 3).bind fun bt592 => (if bt592.1 > 0 then ((spec_l71Fine.f k s0_0 bt592.2).bind fun bt594 => (spec_l71Any.j0 k s0_0 bt594.2.2 bt594.1 bt594.2.1)) else (spec_l71Any.j0 k s0_0 bt592.2 bt584.1 bt584.2.1)))
theorem spec_l71Any.calls (k : Nat) (g : Nat) (s0_0 : List Int) (s0_1 : Int) (r1 : List (S35)) (r2 : List (S40)) (r3 : Int) (w0 w : World) (hI : IsS64 w0 w g s0_0 s0_1) (hB : Below w0.heap.size w0 w) (h : spec_l71Any.f k s0_0 s0_1 = some (r1, r2, r3)) :
  Calls Try.prog 23 #[.pointer (some ⟨g, 0, none⟩)] w fun e w' => ∃ v0_ v1_ : Value, e = .returned (.agg #[v0_, v1_]) ∧ Kd.R k35 35 w' w.heap.size (fun k_ => (w.heap.size ≤ k_)) v0_ r1 ∧ Kd.N k40 40 w' w.heap.size (fun k_ => (w.heap.size ≤ k_) ∧ some k_ ≠ (v0_ : Value).ownBlock) v1_ r2 ∧ IsS64 w0 w' g s0_0 r3 ∧ Below w0.heap.size w0 w' ∧ KeepBut w w' g none := by
 have hu26 := Try.underlying26
 have HI0 := AM hI
 have HK := AM (KeepBut.refl w g none)
 have HL := AM hB.size
 clear hI
 have HW0 := AM hB.size
 have HB := AM hB
 clear hB
 have H := h
 unfold spec_l71Any.f at H
 clear h
 obtain ⟨⟨t584, t587, t590⟩, A2, H⟩ := ZOB H; try dsimp only at H
 obtain ⟨⟨t592, t593⟩, A3, H⟩ := ZOB H; try dsimp only at H
 have HC4 := AM H
 clear H
 go_enter Try.func23, Try.ntmps23
 go_upto_if 8 with (first | ((with_reducible refine gate_dst (N := 2) rfl ?_); refine ZX (N := 2) (cs := #[.slice none 0 0, .slice none 0 0]) (t := 26) ?_; intro gb583 hg w5 hbox hb; have BK583 := AM (hbox); have GW583 := AM ((by rw [hg]; exact (keep_size (w := w) (g := g) (row := none) (ZJ)) : w.heap.size ≤ gb583)); have GE583 := AM ((Nat.le_trans HW0.out (by rw [hg]; exact (keep_size (w := w) (g := g) (row := none) (ZJ)) : w.heap.size ≤ gb583) : w0.heap.size ≤ gb583)); have NB0_583 := AM ((by rw [hg]; exact Nat.ne_of_lt (IsS64.lt (show IsS64 w0 _ g s0_0 s0_1 from ZI)) : g ≠ gb583)); have NB583_0 := AM ((by rw [hg]; exact Nat.ne_of_gt (IsS64.lt (show IsS64 w0 _ g s0_0 s0_1 from ZI)) : gb583 ≠ g)); replace HK := ZKT HK (KeepBut.of_below hb g none); replace HB := ZTI HB hb; replace HI0 := AM (IsS64.below (ZI) hb); clear hb hbox hg) | ((with_reducible refine gate_callee (f := 45) rfl ?_); refine ZGL (some 5) Try.func45 #[.pointer (some ⟨g, 0, none⟩)] ?_; (with_reducible refine (spec_l71Prog.calls k g s0_0 s0_1 t584 t587 t590 w0 _ ?side1 ?side2 A2.out).mono ?_); (case side1 => exact ZI); (case side2 => exact ZBI); rintro e w6 ⟨v585, v588, rfl, ho0, ho1, hi, hb, hk⟩; refine ZV1 ?_; have HO586 := AM (Kd.R_lower (Kd.R_newM (M := fun k_ => (w.heap.size ≤ k_)) ho0 (keep_size (w := w) (g := g) (row := none) (ZJ)) (fun k_ h_ => h_)) (keep_size (w := w) (g := g) (row := none) (ZJ))); have HO589 := AM (Kd.N_lower (Kd.N_mono (ok' := fun k_ => (w.heap.size ≤ k_) ∧ some k_ ≠ (v585 : Value).ownBlock ∧ k_ ≠ gb583 ∧ k_ ≠ g) (Kd.R_N (Kd.R_bound (Kd.R_apart' ho1 (Kd.R_typed ho0) (by decide)))) (fun k_ hk_ => ⟨(Nat.le_trans (keep_size (w := w) (g := g) (row := none) (ZJ)) hk_.2.1), hk_.1.2, (Kd.freshB (g := gb583) (o := .cells #[.slice none 0 0, .slice none 0 0] 26 (0, 0)) (ZK BK583.out) k_ hk_.2.1), (IsS64.fresh (ZI) k_ hk_.2.1)⟩)) (keep_size (w := w) (g := g) (row := none) (ZJ))); replace BK583 := ZL hk BK583 NB583_0; replace HK := ZKT HK hk; replace HB := AM (hb); replace HI0 := AM (hi); clear hb hk hi; (try clear ho0); (try clear ho1)) | ((with_reducible refine gate_dst (N := 3) rfl ?_); refine ZX (N := 3) (cs := #[.slice none 0 0, .slice none 0 0]) (t := 26) ?_; intro gb591 hg w7 hbox hb; have BK591 := AM (hbox); have GW591 := AM ((by rw [hg]; exact (keep_size (w := w) (g := g) (row := none) (ZJ)) : w.heap.size ≤ gb591)); have GE591 := AM ((Nat.le_trans HW0.out (by rw [hg]; exact (keep_size (w := w) (g := g) (row := none) (ZJ)) : w.heap.size ≤ gb591) : w0.heap.size ≤ gb591)); have NB583_591 : Za (gb583 ≠ gb591) := ZN hg BK583; have NB591_583 : Za (gb591 ≠ gb583) := ZM hg BK583; have NB0_591 := AM ((by rw [hg]; exact Nat.ne_of_lt (IsS64.lt (show IsS64 w0 _ g s0_0 t590 from ZI)) : g ≠ gb591)); have NB591_0 := AM ((by rw [hg]; exact Nat.ne_of_gt (IsS64.lt (show IsS64 w0 _ g s0_0 t590 from ZI)) : gb591 ≠ g)); replace HO586 := AM (Kd.R_below (ZR HO586.out) hb); replace HO589 := AM (Kd.N_below (Kd.N_elderB (ZRN HO589.out) gb591 (Nat.le_of_eq hg.symm)) hb); replace BK583 := ZW BK583 hb; replace HK := ZKT HK (KeepBut.of_below hb g none); replace HB := ZTI HB hb; replace HI0 := AM (IsS64.below (ZI) hb); clear hb hbox hg; obtain ⟨Ao8, co8, eo8⟩ := Kd.R_slice HO586.out; subst eo8; have hnb9 := NB591_583.out; have hnc9 := NB583_591.out; have hnb10 := NB591_0.out; have hnc10 := NB0_591.out; have hcz11 := ZC2 w7 BK591; obtain ⟨Ao12, co12, eo12⟩ := Kd.N_slice HO589.out; subst eo12) | ((with_reducible refine gate_callee (f := 38) rfl ?_); refine ZGL (some 7) Try.func38 #[.pointer (some ⟨g, 0, none⟩), .int .i64 3] ?_; (with_reducible refine (spec_l6Rd_pick.calls k g s0_0 t590 3 t592 t593 w0 _ ?side1 ?side2 A3.out).mono ?_); (case side1 => exact ZI); (case side2 => exact ZBI); rintro e w13 ⟨rfl, hi, hb, hk⟩; refine ZV1 ?_; replace BK583 := ZLV #[.slice none 0 0, .slice none 0 0] hk BK583 NB583_0; replace HO586 := AM (Kd.R_mono (Kd.R_keep (IsS64.apart (show IsS64 w0 _ g s0_0 t590 from ZI) (ZR ((Kd.R_mono (Kd.R_far (p := ⟨gb591, 1, none⟩) (Kd.R_far (p := ⟨gb591, 0, none⟩) (Kd.R_types HO586.out BK591.out (by decide)) (fun _ hk => hk.2) (.slice Ao8 t584.length co8)) (fun _ hk => hk.2) (.slice Ao12 t587.length co12)) (fun _ h_ => h_.1)))) (by decide)) hk (fun _ h => h.2)) (fun _ h => h.1)); replace HO589 := AM (Kd.N_mono (Kd.N_keep (Kd.N_mono (ok := fun k_ => ((((w.heap.size ≤ k_)) ∧ (some k_ ≠ (.slice Ao8 t584.length co8 : Value).ownBlock ∧ (k_ ≠ gb583 ∧ k_ ≠ g))) ∧ k_ ≠ gb591)) (by (with_reducible repeat (first | apply Kd.N_alloc | apply Kd.N_drewN | apply Kd.N_drew)); exact (ZNf (Kd.N_mono HO589.out (fun k_ hk => (⟨hk, hk.2⟩ : _ ∧ k_ ≠ gb591))) (fun _ h_ => ⟨h_.2, h_.1⟩))) (fun k_ hk_ => (⟨hk_, hk_.1.2.2.2⟩ : _ ∧ k_ ≠ g))) hk (fun _ h => h.2)) (fun _ h => h.1)); replace BK591 := ZLV #[.slice Ao8 t584.length co8, .slice Ao12 t587.length co12] hk BK591 NB591_0; replace HK := ZKT HK hk; replace HB := AM (hb); replace HI0 := AM (hi); clear hb hk hi))
 (try simp only [Act.put, List.setIfInBounds_toArray, List.set_cons_zero, List.set_cons_succ])
 go_cut [] (fun wc => ∃ (kq : Nat) (x1001_3 : Int) (x592000_3 : List (S35)) (x592001_3 : List (S40)) (u592000 : Value) (u592001 : Value), Za (spec_l71Any.j0 kq s0_0 x1001_3 x592000_3 x592001_3 = some (r1, r2, r3)) ∧ Za (kq ≤ k) ∧ Za (Kd.R k35 35 wc w.heap.size (fun k_ => (w.heap.size ≤ k_)) u592000 x592000_3) ∧ Za (Kd.N k40 40 wc w.heap.size (fun k_ => (w.heap.size ≤ k_) ∧ some k_ ≠ (u592000 : Value).ownBlock ∧ k_ ≠ gb583 ∧ k_ ≠ gb591 ∧ k_ ≠ g) u592001 x592001_3) ∧ Za (wc.heap[gb583]? = some (.cells #[(.slice none 0 0), (.slice none 0 0)] 26 (0, 0))) ∧ Za (wc.heap[gb591]? = some (.cells #[u592000, u592001] 26 (0, 0))) ∧ Za (IsS64 w0 wc g s0_0 x1001_3) ∧ Za (KeepBut w wc g none) ∧ Za (Below w0.heap.size w0 wc))
 case first => (
 have H := HC4.out
 clear HC4
 by_cases c14 : t592 > 0
 ·(
 rw [if_pos c14] at H
 have c14b0 := decide_eq_true c14
 clear c14
 (first | rw [c14b0] | (simp only [i64_w, i32_w]; rw [c14b0]) | skip)
 obtain ⟨⟨t594, t597, t600⟩, A15, H⟩ := ZOB H; try dsimp only at H
 have H' := AM H
 clear H
 go_wp2_with (first | ((with_reducible refine gate_callee (f := 46) rfl ?_); refine ZGL (some 10) Try.func46 #[.pointer (some ⟨g, 0, none⟩)] ?_; (with_reducible refine (spec_l71Fine.calls k g s0_0 t593 t594 t597 t600 w0 _ ?side1 ?side2 A15.out).mono ?_); (case side1 => exact ZI); (case side2 => exact ZBI); rintro e w16 ⟨v595, v598, rfl, ho0, ho1, hi, hb, hk⟩; refine ZV1 ?_; have HO596 := AM (Kd.R_lower (Kd.R_new' (Kd.R_newM (M := fun k_ => (w.heap.size ≤ k_)) (Kd.R_mono (ok' := fun k_ => True) ho0 (fun _ hk_ => trivial)) (keep_size (w := w) (g := g) (row := none) (ZJ)) (fun k_ h_ => h_)) (Kd.R_lt (ZR HO586.out))) (keep_size (w := w) (g := g) (row := none) (ZJ))); have HO599 := AM (Kd.N_lower (Kd.N_mono (ok' := fun k_ => (w.heap.size ≤ k_) ∧ some k_ ≠ (v595 : Value).ownBlock ∧ some k_ ≠ (.slice Ao8 t584.length co8 : Value).ownBlock ∧ some k_ ≠ (.slice Ao12 t587.length co12 : Value).ownBlock ∧ k_ ≠ gb583 ∧ k_ ≠ gb591 ∧ k_ ≠ g) ho1 (fun k_ hk_ => ⟨(Nat.le_trans (keep_size (w := w) (g := g) (row := none) (ZJ)) hk_.1), hk_.2, (Kd.fresh' (Kd.R_lt (ZR HO586.out)) k_ hk_.1), (Kd.fresh' (Kd.N_lt (ZRN HO589.out)) k_ hk_.1), (Kd.freshB (g := gb583) (o := .cells #[.slice none 0 0, .slice none 0 0] 26 (0, 0)) (ZK BK583.out) k_ hk_.1), (Kd.freshB (g := gb591) (o := .cells #[.slice Ao8 t584.length co8, .slice Ao12 t587.length co12] 26 (0, 0)) (ZK BK591.out) k_ hk_.1), (IsS64.fresh (ZI) k_ hk_.1)⟩)) (keep_size (w := w) (g := g) (row := none) (ZJ))); replace BK583 := ZL hk BK583 NB583_0; replace HO586 := AM (Kd.R_mono (Kd.R_told (Kd.R_oldK (IsS64.apart (show IsS64 w0 _ g s0_0 t593 from ZI) (ZR HO586.out) (by decide)) hk) (Kd.R_base ho0)) (fun _ h_ => h_.1)); replace HO589 := AM (Kd.N_mono (Kd.N_told (Kd.N_told (Kd.N_oldK (Kd.N_mono (ok := fun k_ => ((((w.heap.size ≤ k_)) ∧ (some k_ ≠ (.slice Ao8 t584.length co8 : Value).ownBlock ∧ (k_ ≠ gb583 ∧ k_ ≠ g))) ∧ k_ ≠ gb591)) (ZRN HO589.out) (fun k_ hk_ => (⟨hk_, hk_.1.2.2.2⟩ : _ ∧ k_ ≠ g))) hk) (Kd.R_base ho0)) (Kd.N_base ho1)) (fun _ h_ => h_.1)); replace BK591 := ZL hk BK591 NB591_0; replace HK := ZKT HK hk; replace HB := AM (hb); replace HI0 := AM (hi); clear hb hk hi; (try clear ho0); (try clear ho1); obtain ⟨Ao17, co17, eo17⟩ := Kd.R_slice HO596.out; subst eo17; have hnb18 := NB591_583.out; have hnc18 := NB583_591.out; have hnb19 := NB591_0.out; have hnc19 := NB0_591.out; have hcz20 := ZC2 w16 BK591; obtain ⟨Ao21, co21, eo21⟩ := Kd.N_slice HO599.out; subst eo21))
 go_meet
 case rel => exact ⟨_, (t600), (t594), (t597), (.slice Ao17 t594.length co17), (.slice Ao21 t597.length co21), H', ⟨by first | omega | exact Nat.le_refl _⟩, ⟨ZR (Kd.R_mono (Kd.R_far (p := ⟨gb591, 1, none⟩) (Kd.R_far (p := ⟨gb591, 0, none⟩) (Kd.R_types HO596.out BK591.out (by decide)) (fun _ hk => hk.2) (.slice Ao17 t594.length co17)) (fun _ hk => hk.2) (.slice Ao21 t597.length co21)) (fun _ hk => hk.1.1.1))⟩, ⟨ZNf (Kd.N_mono HO599.out (fun k_ hk => (⟨hk, hk.2.2.2.2.2.1⟩ : _ ∧ k_ ≠ gb591))) (fun _ hk => ⟨hk.2, ⟨hk.1.1, ⟨hk.1.2.1, ⟨hk.1.2.2.2.2.1, ⟨hk.1.2.2.2.2.2.1, hk.1.2.2.2.2.2.2⟩⟩⟩⟩⟩)⟩, ⟨ZZ BK583.out⟩, ⟨ZZ BK591.out⟩, ⟨ZI⟩, ⟨ZJ⟩, ⟨ZBI⟩⟩)
 ·(
 rw [if_neg c14] at H
 have c14b0 := decide_eq_false c14
 clear c14
 (first | rw [c14b0] | (simp only [i64_w, i32_w]; rw [c14b0]) | skip)
 have H' := AM H
 clear H
 go_wp2
 go_meet
 case rel => exact ⟨_, (t593), (t584), (t587), (.slice Ao8 t584.length co8), (.slice Ao12 t587.length co12), H', ⟨by first | omega | exact Nat.le_refl _⟩, ⟨ZR (Kd.R_mono HO586.out (fun _ hk => hk.1))⟩, ⟨ZNm HO589.out (fun _ hk => ⟨hk.1.1, ⟨hk.1.2.1, ⟨hk.1.2.2.1, ⟨hk.2, hk.1.2.2.2⟩⟩⟩⟩)⟩, ⟨ZK BK583.out⟩, ⟨ZK BK591.out⟩, ⟨ZI⟩, ⟨ZJ⟩, ⟨ZBI⟩⟩))
 case rest => (
 clear HC4
 try clear c1
 try clear c2
 try clear p2
 try clear c3
 try clear c4
 try clear c9
 try clear c10
 try clear c14
 try clear c14b0
 try clear c18
 try clear c19
 try clear hcz11
 try clear hcz20
 obtain ⟨kq, x1001_3, x592000_3, x592001_3, u592000, u592001, HA, HJ3, HO_592000, HO_592001, BK583, BK591, HI0, HK, HB⟩ := hcut
 cases kq with
 | zero => exact absurd HA.out (by simp [spec_l71Any.j0])
 | succ kj3 =>
  have H := HA.out
  clear HA
  simp only [spec_l71Any.j0] at H
  obtain ⟨⟨t601, t602⟩, A22, H⟩ := ZOB H; try dsimp only at H
  by_cases c23 : t601 = 0
  ·(
  rw [if_pos c23] at H
  have c23b0 := beq_iff_eq.mpr c23
  have c23b1 := bne_eq_false_iff_eq.mpr c23
  clear c23
  obtain ⟨⟨t603, t606, t609⟩, A24, H⟩ := ZOB H; try dsimp only at H
  simp only [Option.some.injEq, Prod.mk.injEq] at H
  obtain ⟨rfl, rfl, rfl⟩ := H
  go_wp2_with (first | ((with_reducible refine gate_callee (f := 38) rfl ?_); refine ZGL (some 12) Try.func38 #[.pointer (some ⟨g, 0, none⟩), .int .i64 16] ?_; (with_reducible refine (spec_l6Rd_pick.calls kj3 g s0_0 x1001_3 16 t601 t602 w0 _ ?side1 ?side2 A22.out).mono ?_); (case side1 => exact ZI); (case side2 => exact ZBI); rintro e w25 ⟨rfl, hi, hb, hk⟩; refine ZV1 ?_; replace HO_592000 := AM (Kd.R_mono (Kd.R_keep (IsS64.apart (show IsS64 w0 _ g s0_0 x1001_3 from ZI) (ZR HO_592000.out) (by decide)) hk (fun _ h => h.2)) (fun _ h => h.1)); replace HO_592001 := AM (Kd.N_mono (Kd.N_keep (Kd.N_mono (ok := fun k_ => (((w.heap.size ≤ k_)) ∧ (some k_ ≠ (u592000 : Value).ownBlock ∧ (k_ ≠ gb583 ∧ (k_ ≠ gb591 ∧ k_ ≠ g))))) (ZRN HO_592001.out) (fun k_ hk_ => (⟨hk_, hk_.2.2.2.2⟩ : _ ∧ k_ ≠ g))) hk (fun _ h => h.2)) (fun _ h => h.1)); replace BK583 := ZL hk BK583 NB583_0; replace BK591 := ZL hk BK591 NB591_0; replace HK := ZKT HK hk; replace HB := AM (hb); replace HI0 := AM (hi); clear hb hk hi; have hnb26 := NB591_583.out; have hnc26 := NB583_591.out; have hnb27 := NB591_0.out; have hnc27 := NB0_591.out; have hcz28 := ZC2 w25 BK591; obtain ⟨Ao29, co29, eo29⟩ := Kd.R_slice HO_592000.out; subst eo29; obtain ⟨Ao30, co30, eo30⟩ := Kd.N_slice HO_592001.out; subst eo30) | ((with_reducible refine gate_callee (f := 47) rfl ?_); refine ZGL (some 16) Try.func47 #[.pointer (some ⟨g, 0, none⟩), .agg #[.slice Ao29 x592000_3.length co29, .slice Ao30 x592001_3.length co30]] ?_; (with_reducible refine (spec_l71Bent.calls kj3 g s0_0 t602 _ _ x592000_3 _ _ x592001_3 t603 t606 t609 w0 _ ?side1 ?side2 ?side3 ?side4 ?side5 ?side6 A24.out).mono ?_); (case side1 => exact ZI); (case side2 => exact ZBI); (case side3 => exact Kd.C_foot_own (IsS64.apart (show IsS64 w0 _ g s0_0 t602 from ZI) (ZR HO_592000.out) (by decide)) (fun _ h_ => h_.2)); (case side4 => exact (Kd.R_reads' HO_592000.out).2.1); (case side5 => exact Kd.C_foot_ownV (base := 0) (Kd.N_V (Kd.N_mono (ok := fun k_ => (((w.heap.size ≤ k_)) ∧ (some k_ ≠ (.slice Ao29 x592000_3.length co29 : Value).ownBlock ∧ (k_ ≠ gb583 ∧ (k_ ≠ gb591 ∧ k_ ≠ g))))) (ZRN HO_592001.out) (fun k_ hk_ => (⟨hk_, hk_.2.2.2.2⟩ : _ ∧ k_ ≠ g)))) (fun _ h_ => h_.2)); (case side6 => exact (Kd.N_reads' HO_592001.out).2.1); rintro e w31 ⟨v604, v607, rfl, ho0, ho1, hi, hb, hk⟩; refine ZV1 ?_; have HO605 := AM (Kd.R_lower (Kd.R_new' (Kd.R_newM (M := fun k_ => (w.heap.size ≤ k_)) (Kd.R_mono (ok' := fun k_ => True) ho0 (fun _ hk_ => trivial)) (keep_size (w := w) (g := g) (row := none) (ZJ)) (fun k_ h_ => h_)) (Kd.R_lt (ZR HO_592000.out))) (keep_size (w := w) (g := g) (row := none) (ZJ))); have HO608 := AM (Kd.N_lower (Kd.N_mono (ok' := fun k_ => (w.heap.size ≤ k_) ∧ some k_ ≠ (v604 : Value).ownBlock ∧ some k_ ≠ (.slice Ao29 x592000_3.length co29 : Value).ownBlock ∧ some k_ ≠ (.slice Ao30 x592001_3.length co30 : Value).ownBlock ∧ k_ ≠ gb583 ∧ k_ ≠ gb591 ∧ k_ ≠ g) ho1 (fun k_ hk_ => ⟨(Nat.le_trans (keep_size (w := w) (g := g) (row := none) (ZJ)) hk_.1), hk_.2, (Kd.fresh' (Kd.R_lt (ZR HO_592000.out)) k_ hk_.1), (Kd.fresh' (Kd.N_lt (ZRN HO_592001.out)) k_ hk_.1), (Kd.freshB (g := gb583) (o := .cells #[.slice none 0 0, .slice none 0 0] 26 (0, 0)) (ZK BK583.out) k_ hk_.1), (Kd.freshB (g := gb591) (o := .cells #[.slice Ao29 x592000_3.length co29, .slice Ao30 x592001_3.length co30] 26 (0, 0)) (ZK BK591.out) k_ hk_.1), (IsS64.fresh (ZI) k_ hk_.1)⟩)) (keep_size (w := w) (g := g) (row := none) (ZJ))); replace HO_592000 := AM (Kd.R_mono (Kd.R_told (Kd.R_oldK (IsS64.apart (show IsS64 w0 _ g s0_0 t602 from ZI) (ZR HO_592000.out) (by decide)) hk) (Kd.R_base ho0)) (fun _ h_ => h_.1)); replace HO_592001 := AM (Kd.N_mono (Kd.N_told (Kd.N_told (Kd.N_oldK (Kd.N_mono (ok := fun k_ => (((w.heap.size ≤ k_)) ∧ (some k_ ≠ (.slice Ao29 x592000_3.length co29 : Value).ownBlock ∧ (k_ ≠ gb583 ∧ (k_ ≠ gb591 ∧ k_ ≠ g))))) (ZRN HO_592001.out) (fun k_ hk_ => (⟨hk_, hk_.2.2.2.2⟩ : _ ∧ k_ ≠ g))) hk) (Kd.R_base ho0)) (Kd.N_base ho1)) (fun _ h_ => h_.1)); replace BK583 := ZL hk BK583 NB583_0; replace BK591 := ZL hk BK591 NB591_0; replace HK := ZKT HK hk; replace HB := AM (hb); replace HI0 := AM (hi); clear hb hk hi; (try clear ho0); (try clear ho1); obtain ⟨Ao32, co32, eo32⟩ := Kd.R_slice HO605.out; subst eo32; have hnb33 := NB583_0.out; have hnc33 := NB0_583.out; have hcz34 := ZC2 w31 BK583; obtain ⟨Ao35, co35, eo35⟩ := Kd.N_slice HO608.out; subst eo35))
  refine bodyPost_ret (results_cell_row rfl _ _ gb583 26 #[.slice Ao32 t603.length co32, .slice Ao35 t606.length co35] (0, 0) _ rfl (ZZ BK583.out) Try.underlying26 rfl (by kernel_rfl)) rfl ?_
  exact ⟨_, _, ZE, ZRf (Kd.R_types HO605.out BK583.out (by decide)) (fun _ hk => ⟨hk.2, hk.1.1.1⟩), ZNf (Kd.N_mono HO608.out (fun k_ hk => (⟨hk, hk.2.2.2.2.1⟩ : _ ∧ k_ ≠ gb583))) (fun _ hk => ⟨hk.2, ⟨hk.1.1, hk.1.2.1⟩⟩), ZI, ZBI, ZJ⟩)
  ·(
  rw [if_neg c23] at H
  have c23b0 := beq_eq_false_iff_ne.mpr c23
  have c23b1 := bne_iff_ne.mpr c23
  simp only [Option.some.injEq, Prod.mk.injEq] at H
  obtain ⟨rfl, rfl, rfl⟩ := H
  go_wp2_with (first | ((with_reducible refine gate_callee (f := 38) rfl ?_); refine ZGL (some 12) Try.func38 #[.pointer (some ⟨g, 0, none⟩), .int .i64 16] ?_; (with_reducible refine (spec_l6Rd_pick.calls kj3 g s0_0 x1001_3 16 t601 t602 w0 _ ?side1 ?side2 A22.out).mono ?_); (case side1 => exact ZI); (case side2 => exact ZBI); rintro e w36 ⟨rfl, hi, hb, hk⟩; refine ZV1 ?_; replace HO_592000 := AM (Kd.R_mono (Kd.R_keep (IsS64.apart (show IsS64 w0 _ g s0_0 x1001_3 from ZI) (ZR HO_592000.out) (by decide)) hk (fun _ h => h.2)) (fun _ h => h.1)); replace HO_592001 := AM (Kd.N_mono (Kd.N_keep (Kd.N_mono (ok := fun k_ => (((w.heap.size ≤ k_)) ∧ (some k_ ≠ (u592000 : Value).ownBlock ∧ (k_ ≠ gb583 ∧ (k_ ≠ gb591 ∧ k_ ≠ g))))) (ZRN HO_592001.out) (fun k_ hk_ => (⟨hk_, hk_.2.2.2.2⟩ : _ ∧ k_ ≠ g))) hk (fun _ h => h.2)) (fun _ h => h.1)); replace BK583 := ZL hk BK583 NB583_0; replace BK591 := ZL hk BK591 NB591_0; replace HK := ZKT HK hk; replace HB := AM (hb); replace HI0 := AM (hi); clear hb hk hi; have hnb37 := NB591_583.out; have hnc37 := NB583_591.out; have hnb38 := NB591_0.out; have hnc38 := NB0_591.out; have hcz39 := ZC2 w36 BK591; obtain ⟨Ao40, co40, eo40⟩ := Kd.R_slice HO_592000.out; subst eo40; have hnb41 := NB583_0.out; have hnc41 := NB0_583.out; have hcz42 := ZC2 w36 BK583; obtain ⟨Ao43, co43, eo43⟩ := Kd.N_slice HO_592001.out; subst eo43))
  refine bodyPost_ret (results_cell_row rfl _ _ gb583 26 #[.slice Ao40 x592000_3.length co40, .slice Ao43 x592001_3.length co43] (0, 0) _ rfl (ZZ BK583.out) Try.underlying26 rfl (by kernel_rfl)) rfl ?_
  exact ⟨_, _, ZE, ZRf (Kd.R_types HO_592000.out BK583.out (by decide)) (fun _ hk => ⟨hk.2, hk.1⟩), ZNf (Kd.N_mono HO_592001.out (fun k_ hk => (⟨hk, hk.2.2.1⟩ : _ ∧ k_ ≠ gb583))) (fun _ hk => ⟨hk.2, ⟨hk.1.1, hk.1.2.1⟩⟩), ZI, ZBI, ZJ⟩))

/-! ### spec_l6Open: function 24 -/
def spec_l6Open.f (l0 : List Int) : Option (List Int × Int) := if (l0.length : Int) > 2000 then (if 2000 ≤ (l0.length : Int) then (some (l0.take 2000, 0)) else (none)) else (some (l0, 0))
theorem spec_l6Open.calls (A0 : Option Addr) (c0 : Nat) (l0 : List Int) (r1 : List Int) (r2 : Int) (w0 w : World) (hB : Below w0.heap.size w0 w) (hr0 : Kd.C (Kd.int .u8) w0 A0 l0.length l0) (hc0 : l0.length ≤ c0) (h : spec_l6Open.f l0 = some (r1, r2)) :
  Calls Try.prog 24 #[.slice A0 l0.length c0] w fun e w' => ∃ g_ : Nat, e = .returned (.pointer (some ⟨g_, 0, none⟩)) ∧ IsS64 w0 w' g_ r1 r2 ∧ Below w0.heap.size w0 w' ∧ Below w.heap.size w w' := by
 have hu64 := Try.underlying64
 have HR0 := AM hr0
 have HC0 := AM hc0
 clear hr0 hc0
 have HBW := AM (Below.refl w.heap.size w)
 have HW0 := AM hB.size
 have HB := AM hB
 clear hB
 have H := h
 unfold spec_l6Open.f at H
 clear h
 by_cases c2 : (l0.length : Int) > 2000
 ·(
 rw [if_pos c2] at H
 have c2b0 := decide_eq_true c2
 have c2b1 : decide (2000 < l0.length) = true := decide_eq_true (by omega)
 clear c2
 by_cases c3 : 2000 ≤ (l0.length : Int)
 ·(
 rw [if_pos c3] at H
 have c3b0 := eq_true c3
 have c3b1 := decide_eq_true c3
 clear c3
 simp only [Option.some.injEq, Prod.mk.injEq] at H
 obtain ⟨rfl, rfl⟩ := H
 obtain ⟨i04, hi04, _, hsz4, _⟩ := info_parts info5
 obtain ⟨hcut4, hA4, hC4⟩ := print_take_of (P := Try.prog) (Value.int .u8) 0 22 5 .i64 Try.underlying22 hi04 hsz4 A0 c0 l0 2000 (by omega) (ZD) HC0.out
 have HR610 := AM (Kd.C_of_reads (h1 := fun _ => rfl) (hA4 _ (Kd.reads_of_C HR0.out)))
 have HC610 := AM hC4
 clear hA4 hC4 hi04 hsz4
 go_enter Try.func24, Try.ntmps24
 go_wp2_with (first | ((with_reducible refine gate_dst (N := 10) rfl ?_); refine ZX (N := 10) (cs := #[.slice A0 (l0.take 2000).length c0, .int .i64 0]) (t := 64) ?_; intro gb611 hg w5 hbox hb; have BK611 := AM (hbox); have GW611 := AM ((by rw [hg]; exact (below_size (by repeat (first | (with_reducible first | exact HBW.out | apply below_alloc | apply pw_below_drewN | apply below_drew1) | exact HBW.out))) : w.heap.size ≤ gb611)); have GE611 := AM ((Nat.le_trans HW0.out (by rw [hg]; exact (below_size (by repeat (first | (with_reducible first | exact HBW.out | apply below_alloc | apply pw_below_drewN | apply below_drew1) | exact HBW.out))) : w.heap.size ≤ gb611) : w0.heap.size ≤ gb611)); replace HBW := AM (below_step HBW.out hb); replace HB := ZT HB hb; clear hb hbox hg))
 go_ret
 exact ⟨_, rfl, (show IsS64 w0 _ gb611 (l0.take 2000) 0 from ⟨_, _, by (with_reducible repeat (first | refine blk_drewN ?_ _ | refine blk_drew ?_ | refine blk_alloc ?_ _)); exact BK611.out, GE611.out, HR610.out⟩), ZB, by repeat (first | (with_reducible first | exact HBW.out | apply below_alloc | apply pw_below_drewN | apply below_drew1 | refine below_set ?_ GW611.out) | exact HBW.out)⟩)
 ·(
 rw [if_neg c3] at H
 exact absurd H (by simp)))
 ·(
 rw [if_neg c2] at H
 have c2b0 := decide_eq_false c2
 have c2b1 : decide (2000 < l0.length) = false := decide_eq_false (by omega)
 clear c2
 simp only [Option.some.injEq, Prod.mk.injEq] at H
 obtain ⟨rfl, rfl⟩ := H
 go_enter Try.func24, Try.ntmps24
 go_wp2_with (first | ((with_reducible refine gate_dst (N := 10) rfl ?_); refine ZX (N := 10) (cs := #[.slice A0 l0.length c0, .int .i64 0]) (t := 64) ?_; intro gb612 hg w6 hbox hb; have BK612 := AM (hbox); have GW612 := AM ((by rw [hg]; exact (below_size (by repeat (first | (with_reducible first | exact HBW.out | apply below_alloc | apply pw_below_drewN | apply below_drew1) | exact HBW.out))) : w.heap.size ≤ gb612)); have GE612 := AM ((Nat.le_trans HW0.out (by rw [hg]; exact (below_size (by repeat (first | (with_reducible first | exact HBW.out | apply below_alloc | apply pw_below_drewN | apply below_drew1) | exact HBW.out))) : w.heap.size ≤ gb612) : w0.heap.size ≤ gb612)); replace HBW := AM (below_step HBW.out hb); replace HB := ZT HB hb; clear hb hbox hg))
 go_ret
 exact ⟨_, rfl, (show IsS64 w0 _ gb612 l0 0 from ⟨_, _, by (with_reducible repeat (first | refine blk_drewN ?_ _ | refine blk_drew ?_ | refine blk_alloc ?_ _)); exact BK612.out, GE612.out, HR0.out⟩), ZB, by repeat (first | (with_reducible first | exact HBW.out | apply below_alloc | apply pw_below_drewN | apply below_drew1 | refine below_set ?_ GW612.out) | exact HBW.out)⟩)

/-! ### spec_ProgSize: function 39 -/
def spec_ProgSize.f (k : Nat) (l0_0 : List (S35)) (l0_1 : List (S40)) : Option (Int) := (spec_ProgOk.f k l0_0 l0_1).bind fun t614 => (if t614 = true then ((spec_l2Count.f k l0_1).bind fun t615 => (some t615)) else (some (-1)))
theorem spec_ProgSize.calls (k : Nat) (A0_0 : Option Addr) (c0_0 : Nat) (l0_0 : List (S35)) (A0_1 : Option Addr) (c0_1 : Nat) (l0_1 : List (S40)) (r : Int) (w : World) (hr0_0 : Kd.C k35 w A0_0 l0_0.length l0_0) (hc0_0 : l0_0.length ≤ c0_0) (hr0_1 : Kd.C k40 w A0_1 l0_1.length l0_1) (hc0_1 : l0_1.length ≤ c0_1) (h : spec_ProgSize.f k l0_0 l0_1 = some r) :
  Calls Try.prog 39 #[.agg #[.slice A0_0 l0_0.length c0_0, .slice A0_1 l0_1.length c0_1]] w fun e w' => e = .returned (.int .i64 r) ∧ Below w.heap.size w w' := by
 have hu26 := Try.underlying26
 have HR0_0 := AM hr0_0
 have HC0_0 := AM hc0_0
 clear hr0_0 hc0_0
 have HR0_1 := AM hr0_1
 have HC0_1 := AM hc0_1
 clear hr0_1 hc0_1
 have HB := AM (Below.refl w.heap.size w)
 have H := h
 unfold spec_ProgSize.f at H
 clear h
 obtain ⟨t614, A2, H⟩ := ZOB H; try dsimp only at H
 by_cases c3 : t614 = true
 ·(
 subst c3
 have H1 := H; rw [if_pos rfl] at H1
 clear H
 have H := H1
 clear H1
 obtain ⟨t615, A4, H⟩ := ZOB H; try dsimp only at H
 obtain rfl := Option.some.inj H
 go_enter Try.func39, Try.ntmps39
 go_wp2_with (first | ((with_reducible refine gate_dst (N := 1) rfl ?_); refine ZXW w (N := 1) (cs := #[.slice A0_0 l0_0.length c0_0, .slice A0_1 l0_1.length c0_1]) (t := 26) ?_; intro gb613 hg w5 BK613 GW613 hb; replace HB := ZT HB hb; clear hb hg; have hcz6 := ZC2 w5 BK613) | ((with_reducible refine gate_callee (f := 16) rfl ?_); refine ZGL (some 4) Try.func16 #[.agg #[.slice A0_0 l0_0.length c0_0, .slice A0_1 l0_1.length c0_1]] ?_; (with_reducible refine (spec_ProgOk.calls k _ _ l0_0 _ _ l0_1 true _ (ZQ (Kd.C_below HR0_0.out HB.out)) HC0_0.out (ZQ (Kd.C_below HR0_1.out HB.out)) HC0_1.out A2.out).mono ?_); rintro e w7 ⟨rfl, hb⟩; refine ZV1 ?_; replace BK613 := ZW BK613 hb; replace HB := ZT HB hb; clear hb; have hcz8 := ZC2 w7 BK613) | ((with_reducible refine gate_callee (f := 35) rfl ?_); refine ZGL (some 8) Try.func35 #[.slice A0_1 l0_1.length c0_1] ?_; (with_reducible refine (spec_l2Count.calls k _ _ l0_1 t615 _ (ZQ (Kd.C_below HR0_1.out HB.out)) HC0_1.out A4.out).mono ?_); rintro e w9 ⟨rfl, hb⟩; refine ZV1 ?_; replace BK613 := ZW BK613 hb; replace HB := ZT HB hb; clear hb))
 go_ret
 exact ⟨ZE, ZB⟩)
 ·(
 replace c3 := Bool.eq_false_iff.mpr c3
 subst c3
 have H1 := H; rw [if_neg ZFT] at H1
 clear H
 have H := H1
 clear H1
 obtain rfl := Option.some.inj H
 go_enter Try.func39, Try.ntmps39
 go_wp2_with (first | ((with_reducible refine gate_dst (N := 1) rfl ?_); refine ZXW w (N := 1) (cs := #[.slice A0_0 l0_0.length c0_0, .slice A0_1 l0_1.length c0_1]) (t := 26) ?_; intro gb613 hg w10 BK613 GW613 hb; replace HB := ZT HB hb; clear hb hg; have hcz11 := ZC2 w10 BK613) | ((with_reducible refine gate_callee (f := 16) rfl ?_); refine ZGL (some 4) Try.func16 #[.agg #[.slice A0_0 l0_0.length c0_0, .slice A0_1 l0_1.length c0_1]] ?_; (with_reducible refine (spec_ProgOk.calls k _ _ l0_0 _ _ l0_1 false _ (ZQ (Kd.C_below HR0_0.out HB.out)) HC0_0.out (ZQ (Kd.C_below HR0_1.out HB.out)) HC0_1.out A2.out).mono ?_); rintro e w12 ⟨rfl, hb⟩; refine ZV1 ?_; replace BK613 := ZW BK613 hb; replace HB := ZT HB hb; clear hb))
 go_ret
 exact ⟨ZE, ZB⟩)

end Go.Proofs.Ytkkdeojbkfjlpaa.A
