/- What Go functions compute, as Lean functions, and for each its contract: for every input at which the Lean function answers the call returns that; written by wip/tools/pr.py over the kit's print. -/
import Derived.Test.YtcffnnedghgmaaaAx0
import Derived.Test.YtcffnnedghgmaaaAx2
import Derived.Test.YtcffnnedghgmaaaAx6
namespace Go.Proofs.Ytcffnnedghgmaaa.A
open Go.RowKit Go.Proofs.YtcffnnedghgmaaaW.PrintWords Go.Proofs.YtcffnnedghgmaaaW.PrintLast Go.Proofs.YtcffnnedghgmaaaW.PrintMore
attribute [local go_sem] max2_int min2_int max_two min_two max_three min_three max_four min_four   -- for this text's walks alone
set_option linter.unusedVariables false
set_option linter.unusedSimpArgs false

/-! ### spec_l71Val: function 144 -/
def spec_l71Val.j0 : Nat → Int → Int → Bool → List Int → Int → Option (Int × Int × Int × Int)
 | 0, _, _, _, _, _ => none
 | k + 1, x1, x6, x12, x1000, x1001 => if x12 = true then ((spec_l6Rd_pick.f k x1000 x1001 x1).bind fun bt158 => (some (2, bt158.1, 0, bt158.2))) else (if x6 = 3 then ((spec_l6Rd_pick.f k x1000 x1001 x1).bind fun bt160 => ((spec_l6Rd_pick.f k x1000 bt160.2 x1).bind fun bt162 => (some (3, bt160.1, bt162.1, bt162.2)))) else ((spec_l6Rd_pick.f k x1000 x1001 x1).bind fun bt164 => ((spec_l6Rd_pick.f k x1000 bt164.2 x1).bind fun bt166 => (some (4, bt164.1, bt166.1, bt166.2)))))
def spec_l71Val.f (k : Nat) (s0_0 : List Int) (s0_1 : Int) (a1 : Int) : Option (Int × Int × Int × Int) := (spec_l6Rd_pick.f k s0_0 s0_1 5).bind fun bt154 => (if bt154.1 = 0 then ((spec_l6Rd_pick.f k s0_0 bt154.2 10).bind fun bt156 => (some (1, bt156.1, 0, bt156.2))) else (if bt154.1 = 1 then (spec_l71Val.j0 k a1 bt154.1 (bt154.1 == 1) s0_0 bt154.2) else (spec_l71Val.j0 k a1 bt154.1 (bt154.1 == 2) s0_0 bt154.2)))
set_option maxHeartbeats 8000000 in
set_option maxRecDepth 100000 in
theorem spec_l71Val.calls (k : Nat) (g : Nat) (s0_0 : List Int) (s0_1 : Int) (a1 : Int) (r1 : Int) (r2 : Int) (r3 : Int) (r4 : Int) (w0 w : World) (hI : IsS101 w0 w g s0_0 s0_1) (hB : Below w0.heap.size w0 w) (h : spec_l71Val.f k s0_0 s0_1 a1 = some (r1, r2, r3, r4)) :
  Calls Try.prog 144 #[.pointer (some ⟨g, 0, none⟩), .int .i64 a1] w fun e w' => e = .returned (.agg #[.int .i64 r1, .int .i64 r2, .int .i64 r3]) ∧ IsS101 w0 w' g s0_0 r4 ∧ Below w0.heap.size w0 w' ∧ KeepBut w w' g none := by
 have hu57 := Try.underlying57
 have HI0 := Aside0.mk hI
 have HK := Aside0.mk (KeepBut.refl w g none)
 have HL := Aside0.mk hB.size
 clear hI
 have HW0 := Aside0.mk hB.size
 have HB := Aside0.mk hB
 clear hB
 have H : ((spec_l6Rd_pick.f k s0_0 s0_1 5).bind fun bt154 => (if bt154.1 = 0 then ((spec_l6Rd_pick.f k s0_0 bt154.2 10).bind fun bt156 => (some (1, bt156.1, 0, bt156.2))) else (if bt154.1 = 1 then (spec_l71Val.j0 k a1 bt154.1 (bt154.1 == 1) s0_0 bt154.2) else (spec_l71Val.j0 k a1 bt154.1 (bt154.1 == 2) s0_0 bt154.2)))) = some (r1, r2, r3, r4) := h
 clear h
 replace H := Option.bind_eq_some_iff.mp H
 obtain ⟨⟨t154, t155⟩, A30, H⟩ := H
 replace H : (if t154 = 0 then ((spec_l6Rd_pick.f k s0_0 t155 10).bind fun bt156 => (some (1, bt156.1, 0, bt156.2))) else (if t154 = 1 then (spec_l71Val.j0 k a1 t154 (t154 == 1) s0_0 t155) else (spec_l71Val.j0 k a1 t154 (t154 == 2) s0_0 t155))) = some (r1, r2, r3, r4) := H
 have A3 := Aside0.mk A30
 clear A30
 by_cases c4 : t154 = 0
 ·rw [if_pos c4] at H
  have c4b0 : (t154 == 0) = true := beq_iff_eq.mpr c4
  have c4b1 : (t154 != 0) = false := bne_eq_false_iff_eq.mpr c4
  clear c4
  replace H := Option.bind_eq_some_iff.mp H
  obtain ⟨⟨t156, t157⟩, A50, H⟩ := H
  replace H : (some (1, t156, 0, t157)) = some (r1, r2, r3, r4) := H
  have A5 := Aside0.mk A50
  clear A50
  simp only [Option.some.injEq, Prod.mk.injEq] at H
  obtain ⟨rfl, rfl, rfl, rfl⟩ := H
  go_enter Try.func144, Try.ntmps144
  go_wp2_with (first | ((with_reducible refine gate_dst (N := 4) rfl ?_); refine ZX (N := 4) (cs := #[.int .i64 0, .int .i64 0, .int .i64 0]) (t := 57) ?_; intro gb153 hg w6 hbox hb; have BK153 := Aside0.mk (hbox); have GW153 := Aside0.mk ((by rw [hg]; exact (keep_size (w := w) (g := g) (row := none) (ZJ)) : w.heap.size ≤ gb153)); have GE153 := Aside0.mk ((Nat.le_trans HW0.out (by rw [hg]; exact (keep_size (w := w) (g := g) (row := none) (ZJ)) : w.heap.size ≤ gb153) : w0.heap.size ≤ gb153)); have NB0_153 := Aside0.mk ((by rw [hg]; exact Nat.ne_of_lt (IsS101.lt (show IsS101 w0 _ g s0_0 s0_1 from ZI)) : g ≠ gb153)); have NB153_0 := Aside0.mk ((by rw [hg]; exact Nat.ne_of_gt (IsS101.lt (show IsS101 w0 _ g s0_0 s0_1 from ZI)) : gb153 ≠ g)); replace HK := ZKT HK (KeepBut.of_below hb g none); replace HB := ZTI HB hb; replace HI0 := Aside0.mk (IsS101.below (ZI) hb); clear hb hbox hg) | ((with_reducible refine gate_callee (f := 85) rfl ?_); refine goesL_ (some 6) rfl rfl Try.func85 (by kernel_rfl) rfl #[.pointer (some ⟨g, 0, none⟩), .int .i64 5] rfl ZG ?_; (with_reducible refine (spec_l6Rd_pick.calls k g s0_0 s0_1 5 t154 t155 w0 _ ?side1 ?side2 A3.out).mono ?_); (case side1 => exact ZI); (case side2 => exact ZBI); rintro e w7 ⟨rfl, hi, hb, hk⟩; refine ⟨_, rfl, ?_⟩; replace BK153 := ZL hk BK153 NB153_0; replace HK := ZKT HK hk; replace HB := Aside0.mk (hb); replace HI0 := Aside0.mk (hi); (try clear hb); (try clear hb2); (try clear hk); (try clear hi)) | ((with_reducible refine gate_callee (f := 85) rfl ?_); refine goesL_ (some 10) rfl rfl Try.func85 (by kernel_rfl) rfl #[.pointer (some ⟨g, 0, none⟩), .int .i64 10] rfl ZG ?_; (with_reducible refine (spec_l6Rd_pick.calls k g s0_0 t155 10 t156 t157 w0 _ ?side1 ?side2 A5.out).mono ?_); (case side1 => exact ZI); (case side2 => exact ZBI); rintro e w8 ⟨rfl, hi, hb, hk⟩; refine ⟨_, rfl, ?_⟩; replace BK153 := ZL hk BK153 NB153_0; replace HK := ZKT HK hk; replace HB := Aside0.mk (hb); replace HI0 := Aside0.mk (hi); (try clear hb); (try clear hb2); (try clear hk); (try clear hi); have hnb9 := NB153_0.out; have hnc9 := NB0_153.out; obtain ⟨hcz10_0, hcz10_1, hcz10_2⟩ := ZC3 w8 BK153; obtain ⟨hfz10_0, hfz10_1, hfz10_2⟩ := ZF3 BK153))
  refine bodyPost_ret (results_cell_row rfl _ _ gb153 57 #[.int .i64 1, .int .i64 t156, .int .i64 0] (0, 0) _ rfl (ZZ BK153.out) Try.underlying57 rfl (by kernel_rfl)) rfl ?_
  exact ⟨ZE, ZI, ZBI, ZJ⟩
 ·rw [if_neg c4] at H
  have c4b0 : (t154 == 0) = false := beq_eq_false_iff_ne.mpr c4
  have c4b1 : (t154 != 0) = true := bne_iff_ne.mpr c4
  have HC11 := Aside0.mk H
  clear H
  go_enter Try.func144, Try.ntmps144
  go_upto_if 12 with (first | ((with_reducible refine gate_dst (N := 4) rfl ?_); refine ZX (N := 4) (cs := #[.int .i64 0, .int .i64 0, .int .i64 0]) (t := 57) ?_; intro gb153 hg w12 hbox hb; have BK153 := Aside0.mk (hbox); have GW153 := Aside0.mk ((by rw [hg]; exact (keep_size (w := w) (g := g) (row := none) (ZJ)) : w.heap.size ≤ gb153)); have GE153 := Aside0.mk ((Nat.le_trans HW0.out (by rw [hg]; exact (keep_size (w := w) (g := g) (row := none) (ZJ)) : w.heap.size ≤ gb153) : w0.heap.size ≤ gb153)); have NB0_153 := Aside0.mk ((by rw [hg]; exact Nat.ne_of_lt (IsS101.lt (show IsS101 w0 _ g s0_0 s0_1 from ZI)) : g ≠ gb153)); have NB153_0 := Aside0.mk ((by rw [hg]; exact Nat.ne_of_gt (IsS101.lt (show IsS101 w0 _ g s0_0 s0_1 from ZI)) : gb153 ≠ g)); replace HK := ZKT HK (KeepBut.of_below hb g none); replace HB := ZTI HB hb; replace HI0 := Aside0.mk (IsS101.below (ZI) hb); clear hb hbox hg) | ((with_reducible refine gate_callee (f := 85) rfl ?_); refine goesL_ (some 6) rfl rfl Try.func85 (by kernel_rfl) rfl #[.pointer (some ⟨g, 0, none⟩), .int .i64 5] rfl ZG ?_; (with_reducible refine (spec_l6Rd_pick.calls k g s0_0 s0_1 5 t154 t155 w0 _ ?side1 ?side2 A3.out).mono ?_); (case side1 => exact ZI); (case side2 => exact ZBI); rintro e w13 ⟨rfl, hi, hb, hk⟩; refine ⟨_, rfl, ?_⟩; replace BK153 := ZL hk BK153 NB153_0; replace HK := ZKT HK hk; replace HB := Aside0.mk (hb); replace HI0 := Aside0.mk (hi); (try clear hb); (try clear hb2); (try clear hk); (try clear hi)))
  (try simp only [Act.put, List.setIfInBounds_toArray, List.set_cons_zero, List.set_cons_succ])
  go_cut [12] (fun v12 wc => ∃ (kq : Nat) (x12_10 : Bool), v12 = .bool x12_10 ∧ Aside0 (spec_l71Val.j0 kq a1 t154 x12_10 s0_0 t155 = some (r1, r2, r3, r4)) ∧ Aside0 (kq ≤ k) ∧ Aside0 (wc.heap[gb153]? = some (.cells #[.int .i64 0, .int .i64 0, .int .i64 0] 57 (0, 0))) ∧ Aside0 (IsS101 w0 wc g s0_0 t155) ∧ Aside0 (KeepBut w wc g none) ∧ Aside0 (Below w0.heap.size w0 wc))
  case first =>
   have H := HC11.out
   clear HC11
   by_cases c14 : t154 = 1
   ·rw [if_pos c14] at H
    have c14b0 : (t154 == 1) = true := beq_iff_eq.mpr c14
    have c14b1 : (t154 != 1) = false := bne_eq_false_iff_eq.mpr c14
    clear c14
    (first | rw [c14b0] | (simp only [i64_w, i32_w]; rw [c14b0]) | skip)
    have H' := Aside0.mk H
    clear H
    go_wp2
    go_meet
    case rel => exact ⟨_, ((t154 == 1)), (by first | rfl | (simp; done) | (simp [*]; done)), H', ⟨by first | omega | exact Nat.le_refl _⟩, ⟨ZK BK153.out⟩, ⟨ZI⟩, ⟨ZJ⟩, ⟨ZBI⟩⟩
   ·rw [if_neg c14] at H
    have c14b0 : (t154 == 1) = false := beq_eq_false_iff_ne.mpr c14
    have c14b1 : (t154 != 1) = true := bne_iff_ne.mpr c14
    (first | rw [c14b0] | (simp only [i64_w, i32_w]; rw [c14b0]) | skip)
    have H' := Aside0.mk H
    clear H
    go_wp2
    go_meet
    case rel => exact ⟨_, ((t154 == 2)), (by first | rfl | (simp; done) | (simp [*]; done)), H', ⟨by first | omega | exact Nat.le_refl _⟩, ⟨ZK BK153.out⟩, ⟨ZI⟩, ⟨ZJ⟩, ⟨ZBI⟩⟩
  case rest =>
   clear HC11
   try clear c1
   try clear p2
   try clear c4
   try clear c4b0
   try clear c4b1
   try clear c8
   try clear c9
   try clear c14
   try clear c14b0
   try clear c14b1
   try clear hcz10_0
   try clear hcz10_1
   try clear hcz10_2
   try clear hfz10_0
   try clear hfz10_1
   try clear hfz10_2
   obtain ⟨kq, x12_10, rfl, HA, HJ10, BK153, HI0, HK, HB⟩ := hcut
   cases kq with
   | zero => exact absurd HA.out (by simp [spec_l71Val.j0])
   | succ kj10 =>
    have H := HA.out
    clear HA
    simp only [spec_l71Val.j0] at H
    by_cases c15 : x12_10 = true
    ·subst c15
     have H1 : ((spec_l6Rd_pick.f kj10 s0_0 t155 a1).bind fun bt158 => (some (2, bt158.1, 0, bt158.2))) = some (r1, r2, r3, r4) := by rw [if_pos rfl] at H; exact H
     clear H
     have H := H1
     clear H1
     replace H := Option.bind_eq_some_iff.mp H
     obtain ⟨⟨t158, t159⟩, A160, H⟩ := H
     replace H : (some (2, t158, 0, t159)) = some (r1, r2, r3, r4) := H
     have A16 := Aside0.mk A160
     clear A160
     simp only [Option.some.injEq, Prod.mk.injEq] at H
     obtain ⟨rfl, rfl, rfl, rfl⟩ := H
     go_wp2_with (first | ((with_reducible refine gate_callee (f := 85) rfl ?_); refine goesL_ (some 17) rfl rfl Try.func85 (by kernel_rfl) rfl #[.pointer (some ⟨g, 0, none⟩), .int .i64 a1] rfl ZG ?_; (with_reducible refine (spec_l6Rd_pick.calls kj10 g s0_0 t155 a1 t158 t159 w0 _ ?side1 ?side2 A16.out).mono ?_); (case side1 => exact ZI); (case side2 => exact ZBI); rintro e w17 ⟨rfl, hi, hb, hk⟩; refine ⟨_, rfl, ?_⟩; replace BK153 := ZL hk BK153 NB153_0; replace HK := ZKT HK hk; replace HB := Aside0.mk (hb); replace HI0 := Aside0.mk (hi); (try clear hb); (try clear hb2); (try clear hk); (try clear hi); have hnb18 := NB153_0.out; have hnc18 := NB0_153.out; obtain ⟨hcz19_0, hcz19_1, hcz19_2⟩ := ZC3 w17 BK153; obtain ⟨hfz19_0, hfz19_1, hfz19_2⟩ := ZF3 BK153))
     refine bodyPost_ret (results_cell_row rfl _ _ gb153 57 #[.int .i64 2, .int .i64 t158, .int .i64 0] (0, 0) _ rfl (ZZ BK153.out) Try.underlying57 rfl (by kernel_rfl)) rfl ?_
     exact ⟨ZE, ZI, ZBI, ZJ⟩
    ·replace c15 := Bool.eq_false_iff.mpr c15
     subst c15
     have H1 : (if t154 = 3 then ((spec_l6Rd_pick.f kj10 s0_0 t155 a1).bind fun bt160 => ((spec_l6Rd_pick.f kj10 s0_0 bt160.2 a1).bind fun bt162 => (some (3, bt160.1, bt162.1, bt162.2)))) else ((spec_l6Rd_pick.f kj10 s0_0 t155 a1).bind fun bt164 => ((spec_l6Rd_pick.f kj10 s0_0 bt164.2 a1).bind fun bt166 => (some (4, bt164.1, bt166.1, bt166.2))))) = some (r1, r2, r3, r4) := by rw [if_neg (show ¬ (false = true) by decide)] at H; exact H
     clear H
     have H := H1
     clear H1
     by_cases c20 : t154 = 3
     ·rw [if_pos c20] at H
      have c20b0 : (t154 == 3) = true := beq_iff_eq.mpr c20
      have c20b1 : (t154 != 3) = false := bne_eq_false_iff_eq.mpr c20
      clear c20
      replace H := Option.bind_eq_some_iff.mp H
      obtain ⟨⟨t160, t161⟩, A210, H⟩ := H
      replace H : ((spec_l6Rd_pick.f kj10 s0_0 t161 a1).bind fun bt162 => (some (3, t160, bt162.1, bt162.2))) = some (r1, r2, r3, r4) := H
      have A21 := Aside0.mk A210
      clear A210
      replace H := Option.bind_eq_some_iff.mp H
      obtain ⟨⟨t162, t163⟩, A220, H⟩ := H
      replace H : (some (3, t160, t162, t163)) = some (r1, r2, r3, r4) := H
      have A22 := Aside0.mk A220
      clear A220
      simp only [Option.some.injEq, Prod.mk.injEq] at H
      obtain ⟨rfl, rfl, rfl, rfl⟩ := H
      go_wp2_with (first | ((with_reducible refine gate_callee (f := 85) rfl ?_); refine goesL_ (some 23) rfl rfl Try.func85 (by kernel_rfl) rfl #[.pointer (some ⟨g, 0, none⟩), .int .i64 a1] rfl ZG ?_; (with_reducible refine (spec_l6Rd_pick.calls kj10 g s0_0 t155 a1 t160 t161 w0 _ ?side1 ?side2 A21.out).mono ?_); (case side1 => exact ZI); (case side2 => exact ZBI); rintro e w23 ⟨rfl, hi, hb, hk⟩; refine ⟨_, rfl, ?_⟩; replace BK153 := ZL hk BK153 NB153_0; replace HK := ZKT HK hk; replace HB := Aside0.mk (hb); replace HI0 := Aside0.mk (hi); (try clear hb); (try clear hb2); (try clear hk); (try clear hi)) | ((with_reducible refine gate_callee (f := 85) rfl ?_); refine goesL_ (some 26) rfl rfl Try.func85 (by kernel_rfl) rfl #[.pointer (some ⟨g, 0, none⟩), .int .i64 a1] rfl ZG ?_; (with_reducible refine (spec_l6Rd_pick.calls kj10 g s0_0 t161 a1 t162 t163 w0 _ ?side1 ?side2 A22.out).mono ?_); (case side1 => exact ZI); (case side2 => exact ZBI); rintro e w24 ⟨rfl, hi, hb, hk⟩; refine ⟨_, rfl, ?_⟩; replace BK153 := ZL hk BK153 NB153_0; replace HK := ZKT HK hk; replace HB := Aside0.mk (hb); replace HI0 := Aside0.mk (hi); (try clear hb); (try clear hb2); (try clear hk); (try clear hi); have hnb25 := NB153_0.out; have hnc25 := NB0_153.out; obtain ⟨hcz26_0, hcz26_1, hcz26_2⟩ := ZC3 w24 BK153; obtain ⟨hfz26_0, hfz26_1, hfz26_2⟩ := ZF3 BK153))
      refine bodyPost_ret (results_cell_row rfl _ _ gb153 57 #[.int .i64 3, .int .i64 t160, .int .i64 t162] (0, 0) _ rfl (ZZ BK153.out) Try.underlying57 rfl (by kernel_rfl)) rfl ?_
      exact ⟨ZE, ZI, ZBI, ZJ⟩
     ·rw [if_neg c20] at H
      have c20b0 : (t154 == 3) = false := beq_eq_false_iff_ne.mpr c20
      have c20b1 : (t154 != 3) = true := bne_iff_ne.mpr c20
      replace H := Option.bind_eq_some_iff.mp H
      obtain ⟨⟨t164, t165⟩, A270, H⟩ := H
      replace H : ((spec_l6Rd_pick.f kj10 s0_0 t165 a1).bind fun bt166 => (some (4, t164, bt166.1, bt166.2))) = some (r1, r2, r3, r4) := H
      have A27 := Aside0.mk A270
      clear A270
      replace H := Option.bind_eq_some_iff.mp H
      obtain ⟨⟨t166, t167⟩, A280, H⟩ := H
      replace H : (some (4, t164, t166, t167)) = some (r1, r2, r3, r4) := H
      have A28 := Aside0.mk A280
      clear A280
      simp only [Option.some.injEq, Prod.mk.injEq] at H
      obtain ⟨rfl, rfl, rfl, rfl⟩ := H
      go_wp2_with (first | ((with_reducible refine gate_callee (f := 85) rfl ?_); refine goesL_ (some 30) rfl rfl Try.func85 (by kernel_rfl) rfl #[.pointer (some ⟨g, 0, none⟩), .int .i64 a1] rfl ZG ?_; (with_reducible refine (spec_l6Rd_pick.calls kj10 g s0_0 t155 a1 t164 t165 w0 _ ?side1 ?side2 A27.out).mono ?_); (case side1 => exact ZI); (case side2 => exact ZBI); rintro e w29 ⟨rfl, hi, hb, hk⟩; refine ⟨_, rfl, ?_⟩; replace BK153 := ZL hk BK153 NB153_0; replace HK := ZKT HK hk; replace HB := Aside0.mk (hb); replace HI0 := Aside0.mk (hi); (try clear hb); (try clear hb2); (try clear hk); (try clear hi)) | ((with_reducible refine gate_callee (f := 85) rfl ?_); refine goesL_ (some 33) rfl rfl Try.func85 (by kernel_rfl) rfl #[.pointer (some ⟨g, 0, none⟩), .int .i64 a1] rfl ZG ?_; (with_reducible refine (spec_l6Rd_pick.calls kj10 g s0_0 t165 a1 t166 t167 w0 _ ?side1 ?side2 A28.out).mono ?_); (case side1 => exact ZI); (case side2 => exact ZBI); rintro e w30 ⟨rfl, hi, hb, hk⟩; refine ⟨_, rfl, ?_⟩; replace BK153 := ZL hk BK153 NB153_0; replace HK := ZKT HK hk; replace HB := Aside0.mk (hb); replace HI0 := Aside0.mk (hi); (try clear hb); (try clear hb2); (try clear hk); (try clear hi); have hnb31 := NB153_0.out; have hnc31 := NB0_153.out; obtain ⟨hcz32_0, hcz32_1, hcz32_2⟩ := ZC3 w30 BK153; obtain ⟨hfz32_0, hfz32_1, hfz32_2⟩ := ZF3 BK153))
      refine bodyPost_ret (results_cell_row rfl _ _ gb153 57 #[.int .i64 4, .int .i64 t164, .int .i64 t166] (0, 0) _ rfl (ZZ BK153.out) Try.underlying57 rfl (by kernel_rfl)) rfl ?_
      exact ⟨ZE, ZI, ZBI, ZJ⟩

end Go.Proofs.Ytcffnnedghgmaaa.A
