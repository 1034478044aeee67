/- Go functions as Lean functions, and for each its contract; written by wip/tools/pr.py over the kit's print. -/
import Derived.Test.YtfcmckomagaiiaaDoorAx0
import Derived.Test.YtfcmckomagaiiaaDoorAx13
namespace Go.Proofs.YtfcmckomagaiiaaDoor.A
open Go.RowKit Go.Proofs.YtfcmckomagaiiaaDoorW.PrintWords Go.Proofs.YtfcmckomagaiiaaDoorW.PrintLast Go.Proofs.YtfcmckomagaiiaaDoorW.PrintMore
attribute [local go_sem] max2_int min2_int max_two min_two max_three min_three max_four min_four
set_option linter.unusedVariables false
set_option linter.unusedSimpArgs false
set_option maxHeartbeats 8000000
set_option maxRecDepth 100000

/-! ### spec_l71Val: function 80 -/
def spec_l71Val.j0 : Nat → Int → Int → Bool → List Int → Int → Option (Int × Int × Int × Int)
 | 0, _, _, _, _, _ => none
 | k + 1, x1, x6, x12, x1000, x1001 => if x12 = true then ((spec_l6Rd_pick.f k x1000 x1001 x1).bind fun bt253 => (some (2, bt253.1, 0, bt253.2))) else (if x6 = 3 then ((spec_l6Rd_pick.f k x1000 x1001 x1).bind fun bt255 => ((spec_l6Rd_pick.f k x1000 bt255.2 x1).bind fun bt257 => (some (3, bt255.1, bt257.1, bt257.2)))) else ((spec_l6Rd_pick.f k x1000 x1001 x1).bind fun bt259 => ((spec_l6Rd_pick.f k x1000 bt259.2 x1).bind fun bt261 => (some (4, bt259.1, bt261.1, bt261.2)))))
def spec_l71Val.f (k : Nat) (s0_0 : List Int) (s0_1 : Int) (a1 : Int) : Option (Int × Int × Int × Int) := (spec_l6Rd_pick.f k s0_0 s0_1 5).bind fun bt249 => (if bt249.1 = 0 then ((spec_l6Rd_pick.f k s0_0 bt249.2 10).bind fun bt251 => (some (1, bt251.1, 0, bt251.2))) else (if bt249.1 = 1 then (spec_l71Val.j0 k a1 bt249.1 (bt249.1 == 1) s0_0 bt249.2) else (spec_l71Val.j0 k a1 bt249.1 (bt249.1 == 2) s0_0 bt249.2)))
theorem spec_l71Val.calls (k : Nat) (g : Nat) (s0_0 : List Int) (s0_1 : Int) (a1 : Int) (r1 : Int) (r2 : Int) (r3 : Int) (r4 : Int) (w0 w : World) (hI : IsS84 w0 w g s0_0 s0_1) (hB : Below w0.heap.size w0 w) (h : spec_l71Val.f k s0_0 s0_1 a1 = some (r1, r2, r3, r4)) :
  Calls Tryd.prog 80 #[.pointer (some ⟨g, 0, none⟩), .int .i64 a1] w fun e w' => e = .returned (.agg #[.int .i64 r1, .int .i64 r2, .int .i64 r3]) ∧ IsS84 w0 w' g s0_0 r4 ∧ Below w0.heap.size w0 w' ∧ KeepBut w w' g none := by
 have hu69 := Tryd.underlying69
 have HI0 := AM hI
 have HK := AM (KeepBut.refl w g none)
 have HL := AM hB.size
 clear hI
 have HW0 := AM hB.size
 have HB := AM hB
 clear hB
 have H := h
 unfold spec_l71Val.f at H
 clear h
 obtain ⟨⟨t249, t250⟩, A3, H⟩ := ZOB H; try dsimp only at H
 by_cases c4 : t249 = 0
 ·(
 rw [if_pos c4] at H
 have c4b0 := beq_iff_eq.mpr c4
 have c4b1 := bne_eq_false_iff_eq.mpr c4
 clear c4
 obtain ⟨⟨t251, t252⟩, A5, H⟩ := ZOB H; try dsimp only at H
 simp only [Option.some.injEq, Prod.mk.injEq] at H
 obtain ⟨rfl, rfl, rfl, rfl⟩ := H
 go_enter Tryd.func80, Tryd.ntmps80
 go_wp2_with (first | ((with_reducible refine gate_dst (N := 4) rfl ?_); refine ZX (N := 4) (cs := #[.int .i64 0, .int .i64 0, .int .i64 0]) (t := 69) ?_; intro gb248 hg w6 hbox hb; have BK248 := AM (hbox); have GW248 := AM ((by rw [hg]; exact (keep_size (w := w) (g := g) (row := none) (ZJ)) : w.heap.size ≤ gb248)); have GE248 := AM ((Nat.le_trans HW0.out (by rw [hg]; exact (keep_size (w := w) (g := g) (row := none) (ZJ)) : w.heap.size ≤ gb248) : w0.heap.size ≤ gb248)); have NB0_248 := AM ((by rw [hg]; exact Nat.ne_of_lt (IsS84.lt (show IsS84 w0 _ g s0_0 s0_1 from ZI)) : g ≠ gb248)); have NB248_0 := AM ((by rw [hg]; exact Nat.ne_of_gt (IsS84.lt (show IsS84 w0 _ g s0_0 s0_1 from ZI)) : gb248 ≠ g)); replace HK := ZKT HK (KeepBut.of_below hb g none); replace HB := ZTI HB hb; replace HI0 := AM (IsS84.below (ZI) hb); clear hb hbox hg) | ((with_reducible refine gate_callee (f := 52) rfl ?_); refine ZGL (some 6) Tryd.func52 #[.pointer (some ⟨g, 0, none⟩), .int .i64 5] ?_; (with_reducible refine (spec_l6Rd_pick.calls k g s0_0 s0_1 5 t249 t250 w0 _ ?side1 ?side2 A3.out).mono ?_); (case side1 => exact ZI); (case side2 => exact ZBI); rintro e w7 ⟨rfl, hi, hb, hk⟩; refine ZV1 ?_; replace BK248 := ZL hk BK248 NB248_0; replace HK := ZKT HK hk; replace HB := AM (hb); replace HI0 := AM (hi); clear hb hk hi) | ((with_reducible refine gate_callee (f := 52) rfl ?_); refine ZGL (some 10) Tryd.func52 #[.pointer (some ⟨g, 0, none⟩), .int .i64 10] ?_; (with_reducible refine (spec_l6Rd_pick.calls k g s0_0 t250 10 t251 t252 w0 _ ?side1 ?side2 A5.out).mono ?_); (case side1 => exact ZI); (case side2 => exact ZBI); rintro e w8 ⟨rfl, hi, hb, hk⟩; refine ZV1 ?_; replace BK248 := ZL hk BK248 NB248_0; replace HK := ZKT HK hk; replace HB := AM (hb); replace HI0 := AM (hi); clear hb hk hi; have hnb9 := NB248_0.out; have hnc9 := NB0_248.out; have hcz10 := ZC3 w8 BK248))
 refine bodyPost_ret (results_cell_row rfl _ _ gb248 69 #[.int .i64 1, .int .i64 t251, .int .i64 0] (0, 0) _ rfl (ZZ BK248.out) Tryd.underlying69 rfl (by kernel_rfl)) rfl ?_
 exact ⟨ZE, ZI, ZBI, ZJ⟩)
 ·(
 rw [if_neg c4] at H
 have c4b0 := beq_eq_false_iff_ne.mpr c4
 have c4b1 := bne_iff_ne.mpr c4
 have HC11 := AM H
 clear H
 go_enter Tryd.func80, Tryd.ntmps80
 go_upto_if 12 with (first | ((with_reducible refine gate_dst (N := 4) rfl ?_); refine ZX (N := 4) (cs := #[.int .i64 0, .int .i64 0, .int .i64 0]) (t := 69) ?_; intro gb248 hg w12 hbox hb; have BK248 := AM (hbox); have GW248 := AM ((by rw [hg]; exact (keep_size (w := w) (g := g) (row := none) (ZJ)) : w.heap.size ≤ gb248)); have GE248 := AM ((Nat.le_trans HW0.out (by rw [hg]; exact (keep_size (w := w) (g := g) (row := none) (ZJ)) : w.heap.size ≤ gb248) : w0.heap.size ≤ gb248)); have NB0_248 := AM ((by rw [hg]; exact Nat.ne_of_lt (IsS84.lt (show IsS84 w0 _ g s0_0 s0_1 from ZI)) : g ≠ gb248)); have NB248_0 := AM ((by rw [hg]; exact Nat.ne_of_gt (IsS84.lt (show IsS84 w0 _ g s0_0 s0_1 from ZI)) : gb248 ≠ g)); replace HK := ZKT HK (KeepBut.of_below hb g none); replace HB := ZTI HB hb; replace HI0 := AM (IsS84.below (ZI) hb); clear hb hbox hg) | ((with_reducible refine gate_callee (f := 52) rfl ?_); refine ZGL (some 6) Tryd.func52 #[.pointer (some ⟨g, 0, none⟩), .int .i64 5] ?_; (with_reducible refine (spec_l6Rd_pick.calls k g s0_0 s0_1 5 t249 t250 w0 _ ?side1 ?side2 A3.out).mono ?_); (case side1 => exact ZI); (case side2 => exact ZBI); rintro e w13 ⟨rfl, hi, hb, hk⟩; refine ZV1 ?_; replace BK248 := ZL hk BK248 NB248_0; replace HK := ZKT HK hk; replace HB := AM (hb); replace HI0 := AM (hi); clear hb hk hi))
 (try simp only [Act.put, List.setIfInBounds_toArray, List.set_cons_zero, List.set_cons_succ])
 go_cut [12] (fun v12 wc => ∃ (kq : Nat) (x12_10 : Bool), v12 = .bool x12_10 ∧ Za (spec_l71Val.j0 kq a1 t249 x12_10 s0_0 t250 = some (r1, r2, r3, r4)) ∧ Za (kq ≤ k) ∧ Za (wc.heap[gb248]? = some (.cells #[.int .i64 0, .int .i64 0, .int .i64 0] 69 (0, 0))) ∧ Za (IsS84 w0 wc g s0_0 t250) ∧ Za (KeepBut w wc g none) ∧ Za (Below w0.heap.size w0 wc))
 case first => (
 have H := HC11.out
 clear HC11
 by_cases c14 : t249 = 1
 ·(
 rw [if_pos c14] at H
 have c14b0 := beq_iff_eq.mpr c14
 have c14b1 := bne_eq_false_iff_eq.mpr c14
 clear c14
 (first | rw [c14b0] | (simp only [i64_w, i32_w]; rw [c14b0]) | skip)
 have H' := AM H
 clear H
 go_wp2
 go_meet
 case rel => exact ⟨_, ((t249 == 1)), ZSM, H', ⟨by first | omega | exact Nat.le_refl _⟩, ⟨ZK BK248.out⟩, ⟨ZI⟩, ⟨ZJ⟩, ⟨ZBI⟩⟩)
 ·(
 rw [if_neg c14] at H
 have c14b0 := beq_eq_false_iff_ne.mpr c14
 have c14b1 := bne_iff_ne.mpr c14
 (first | rw [c14b0] | (simp only [i64_w, i32_w]; rw [c14b0]) | skip)
 have H' := AM H
 clear H
 go_wp2
 go_meet
 case rel => exact ⟨_, ((t249 == 2)), ZSM, H', ⟨by first | omega | exact Nat.le_refl _⟩, ⟨ZK BK248.out⟩, ⟨ZI⟩, ⟨ZJ⟩, ⟨ZBI⟩⟩))
 case rest => (
 clear HC11
 try clear c1
 try clear p2
 try clear c4
 try clear c4b0
 try clear c4b1
 try clear c5
 try clear c8
 try clear c9
 try clear c14
 try clear c14b0
 try clear c14b1
 try clear hcz10
 obtain ⟨kq, x12_10, rfl, HA, HJ10, BK248, HI0, HK, HB⟩ := hcut
 cases kq with
 | zero => exact absurd HA.out (by simp [spec_l71Val.j0])
 | succ kj10 =>
  have H := HA.out
  clear HA
  simp only [spec_l71Val.j0] at H
  by_cases c15 : x12_10 = true
  ·(
  subst c15
  have H1 := H; rw [if_pos rfl] at H1
  clear H
  have H := H1
  clear H1
  obtain ⟨⟨t253, t254⟩, A16, H⟩ := ZOB H; try dsimp only at H
  simp only [Option.some.injEq, Prod.mk.injEq] at H
  obtain ⟨rfl, rfl, rfl, rfl⟩ := H
  go_wp2_with (first | ((with_reducible refine gate_callee (f := 52) rfl ?_); refine ZGL (some 17) Tryd.func52 #[.pointer (some ⟨g, 0, none⟩), .int .i64 a1] ?_; (with_reducible refine (spec_l6Rd_pick.calls kj10 g s0_0 t250 a1 t253 t254 w0 _ ?side1 ?side2 A16.out).mono ?_); (case side1 => exact ZI); (case side2 => exact ZBI); rintro e w17 ⟨rfl, hi, hb, hk⟩; refine ZV1 ?_; replace BK248 := ZL hk BK248 NB248_0; replace HK := ZKT HK hk; replace HB := AM (hb); replace HI0 := AM (hi); clear hb hk hi; have hnb18 := NB248_0.out; have hnc18 := NB0_248.out; have hcz19 := ZC3 w17 BK248))
  refine bodyPost_ret (results_cell_row rfl _ _ gb248 69 #[.int .i64 2, .int .i64 t253, .int .i64 0] (0, 0) _ rfl (ZZ BK248.out) Tryd.underlying69 rfl (by kernel_rfl)) rfl ?_
  exact ⟨ZE, ZI, ZBI, ZJ⟩)
  ·(
  replace c15 := Bool.eq_false_iff.mpr c15
  subst c15
  have H1 := H; rw [if_neg ZFT] at H1
  clear H
  have H := H1
  clear H1
  by_cases c20 : t249 = 3
  ·(
  rw [if_pos c20] at H
  have c20b0 := beq_iff_eq.mpr c20
  have c20b1 := bne_eq_false_iff_eq.mpr c20
  clear c20
  obtain ⟨⟨t255, t256⟩, A21, H⟩ := ZOB H; try dsimp only at H
  obtain ⟨⟨t257, t258⟩, A22, H⟩ := ZOB H; try dsimp only at H
  simp only [Option.some.injEq, Prod.mk.injEq] at H
  obtain ⟨rfl, rfl, rfl, rfl⟩ := H
  go_wp2_with (first | ((with_reducible refine gate_callee (f := 52) rfl ?_); refine ZGL (some 23) Tryd.func52 #[.pointer (some ⟨g, 0, none⟩), .int .i64 a1] ?_; (with_reducible refine (spec_l6Rd_pick.calls kj10 g s0_0 t250 a1 t255 t256 w0 _ ?side1 ?side2 A21.out).mono ?_); (case side1 => exact ZI); (case side2 => exact ZBI); rintro e w23 ⟨rfl, hi, hb, hk⟩; refine ZV1 ?_; replace BK248 := ZL hk BK248 NB248_0; replace HK := ZKT HK hk; replace HB := AM (hb); replace HI0 := AM (hi); clear hb hk hi) | ((with_reducible refine gate_callee (f := 52) rfl ?_); refine ZGL (some 26) Tryd.func52 #[.pointer (some ⟨g, 0, none⟩), .int .i64 a1] ?_; (with_reducible refine (spec_l6Rd_pick.calls kj10 g s0_0 t256 a1 t257 t258 w0 _ ?side1 ?side2 A22.out).mono ?_); (case side1 => exact ZI); (case side2 => exact ZBI); rintro e w24 ⟨rfl, hi, hb, hk⟩; refine ZV1 ?_; replace BK248 := ZL hk BK248 NB248_0; replace HK := ZKT HK hk; replace HB := AM (hb); replace HI0 := AM (hi); clear hb hk hi; have hnb25 := NB248_0.out; have hnc25 := NB0_248.out; have hcz26 := ZC3 w24 BK248))
  refine bodyPost_ret (results_cell_row rfl _ _ gb248 69 #[.int .i64 3, .int .i64 t255, .int .i64 t257] (0, 0) _ rfl (ZZ BK248.out) Tryd.underlying69 rfl (by kernel_rfl)) rfl ?_
  exact ⟨ZE, ZI, ZBI, ZJ⟩)
  ·(
  rw [if_neg c20] at H
  have c20b0 := beq_eq_false_iff_ne.mpr c20
  have c20b1 := bne_iff_ne.mpr c20
  obtain ⟨⟨t259, t260⟩, A27, H⟩ := ZOB H; try dsimp only at H
  obtain ⟨⟨t261, t262⟩, A28, H⟩ := ZOB H; try dsimp only at H
  simp only [Option.some.injEq, Prod.mk.injEq] at H
  obtain ⟨rfl, rfl, rfl, rfl⟩ := H
  go_wp2_with (first | ((with_reducible refine gate_callee (f := 52) rfl ?_); refine ZGL (some 30) Tryd.func52 #[.pointer (some ⟨g, 0, none⟩), .int .i64 a1] ?_; (with_reducible refine (spec_l6Rd_pick.calls kj10 g s0_0 t250 a1 t259 t260 w0 _ ?side1 ?side2 A27.out).mono ?_); (case side1 => exact ZI); (case side2 => exact ZBI); rintro e w29 ⟨rfl, hi, hb, hk⟩; refine ZV1 ?_; replace BK248 := ZL hk BK248 NB248_0; replace HK := ZKT HK hk; replace HB := AM (hb); replace HI0 := AM (hi); clear hb hk hi) | ((with_reducible refine gate_callee (f := 52) rfl ?_); refine ZGL (some 33) Tryd.func52 #[.pointer (some ⟨g, 0, none⟩), .int .i64 a1] ?_; (with_reducible refine (spec_l6Rd_pick.calls kj10 g s0_0 t260 a1 t261 t262 w0 _ ?side1 ?side2 A28.out).mono ?_); (case side1 => exact ZI); (case side2 => exact ZBI); rintro e w30 ⟨rfl, hi, hb, hk⟩; refine ZV1 ?_; replace BK248 := ZL hk BK248 NB248_0; replace HK := ZKT HK hk; replace HB := AM (hb); replace HI0 := AM (hi); clear hb hk hi; have hnb31 := NB248_0.out; have hnc31 := NB0_248.out; have hcz32 := ZC3 w30 BK248))
  refine bodyPost_ret (results_cell_row rfl _ _ gb248 69 #[.int .i64 4, .int .i64 t259, .int .i64 t261] (0, 0) _ rfl (ZZ BK248.out) Tryd.underlying69 rfl (by kernel_rfl)) rfl ?_
  exact ⟨ZE, ZI, ZBI, ZJ⟩))))

end Go.Proofs.YtfcmckomagaiiaaDoor.A
