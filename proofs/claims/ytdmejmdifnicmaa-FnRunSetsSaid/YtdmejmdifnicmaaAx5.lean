/- What Go functions compute, as Lean functions, and for each its contract: for every input at which the Lean function answers the call returns that; written by wip/tools/pr.py over the kit's print. -/
import Derived.Test.YtdmejmdifnicmaaAx0
import Derived.Test.YtdmejmdifnicmaaAx3
namespace Go.Proofs.Ytdmejmdifnicmaa.A
open Go.RowKit Go.Proofs.YtdmejmdifnicmaaW.PrintWords Go.Proofs.YtdmejmdifnicmaaW.PrintLast Go.Proofs.YtdmejmdifnicmaaW.PrintMore
attribute [local go_sem] max2_int min2_int max_two min_two max_three min_three max_four min_four   -- for this text's walks alone
set_option linter.unusedVariables false
set_option linter.unusedSimpArgs false

/-! ### spec_l71Val: function 25 -/
def spec_l71Val.j0 : Nat → Int → Int → Bool → List Int → Int → Option (Int × Int × Int × Int)
 | 0, _, _, _, _, _ => none
 | k + 1, x1, x6, x12, x1000, x1001 => if x12 = true then ((spec_l6Rd_pick.f k x1000 x1001 x1).bind fun bt126 => (some (2, bt126.1, 0, bt126.2))) else (if x6 = 3 then ((spec_l6Rd_pick.f k x1000 x1001 x1).bind fun bt128 => ((spec_l6Rd_pick.f k x1000 bt128.2 x1).bind fun bt130 => (some (3, bt128.1, bt130.1, bt130.2)))) else ((spec_l6Rd_pick.f k x1000 x1001 x1).bind fun bt132 => ((spec_l6Rd_pick.f k x1000 bt132.2 x1).bind fun bt134 => (some (4, bt132.1, bt134.1, bt134.2)))))
def spec_l71Val.f (k : Nat) (s0_0 : List Int) (s0_1 : Int) (a1 : Int) : Option (Int × Int × Int × Int) := (spec_l6Rd_pick.f k s0_0 s0_1 5).bind fun bt122 => (if bt122.1 = 0 then ((spec_l6Rd_pick.f k s0_0 bt122.2 10).bind fun bt124 => (some (1, bt124.1, 0, bt124.2))) else (if bt122.1 = 1 then (spec_l71Val.j0 k a1 bt122.1 (bt122.1 == 1) s0_0 bt122.2) else (spec_l71Val.j0 k a1 bt122.1 (bt122.1 == 2) s0_0 bt122.2)))
set_option maxHeartbeats 8000000 in
set_option maxRecDepth 100000 in
theorem spec_l71Val.calls (k : Nat) (g : Nat) (s0_0 : List Int) (s0_1 : Int) (a1 : Int) (r1 : Int) (r2 : Int) (r3 : Int) (r4 : Int) (w0 w : World) (hI : IsS55 w0 w g s0_0 s0_1) (hB : Below w0.heap.size w0 w) (h : spec_l71Val.f k s0_0 s0_1 a1 = some (r1, r2, r3, r4)) :
  Calls Try.prog 25 #[.pointer (some ⟨g, 0, none⟩), .int .i64 a1] w fun e w' => e = .returned (.agg #[.int .i64 r1, .int .i64 r2, .int .i64 r3]) ∧ IsS55 w0 w' g s0_0 r4 ∧ Below w0.heap.size w0 w' ∧ KeepBut w w' g none := by
 have hu64 := Try.underlying64
 have HI0 := Aside0.mk hI
 have HK := Aside0.mk (KeepBut.refl w g none)
 have HL := Aside0.mk hB.size
 clear hI
 have HW0 := Aside0.mk hB.size
 have HB := Aside0.mk hB
 clear hB
 have H : ((spec_l6Rd_pick.f k s0_0 s0_1 5).bind fun bt122 => (if bt122.1 = 0 then ((spec_l6Rd_pick.f k s0_0 bt122.2 10).bind fun bt124 => (some (1, bt124.1, 0, bt124.2))) else (if bt122.1 = 1 then (spec_l71Val.j0 k a1 bt122.1 (bt122.1 == 1) s0_0 bt122.2) else (spec_l71Val.j0 k a1 bt122.1 (bt122.1 == 2) s0_0 bt122.2)))) = some (r1, r2, r3, r4) := h
 clear h
 replace H := Option.bind_eq_some_iff.mp H
 obtain ⟨⟨t122, t123⟩, A30, H⟩ := H
 replace H : (if t122 = 0 then ((spec_l6Rd_pick.f k s0_0 t123 10).bind fun bt124 => (some (1, bt124.1, 0, bt124.2))) else (if t122 = 1 then (spec_l71Val.j0 k a1 t122 (t122 == 1) s0_0 t123) else (spec_l71Val.j0 k a1 t122 (t122 == 2) s0_0 t123))) = some (r1, r2, r3, r4) := H
 have A3 := Aside0.mk A30
 clear A30
 by_cases c4 : t122 = 0
 ·rw [if_pos c4] at H
  have c4b0 : (t122 == 0) = true := beq_iff_eq.mpr c4
  have c4b1 : (t122 != 0) = false := bne_eq_false_iff_eq.mpr c4
  clear c4
  replace H := Option.bind_eq_some_iff.mp H
  obtain ⟨⟨t124, t125⟩, A50, H⟩ := H
  replace H : (some (1, t124, 0, t125)) = some (r1, r2, r3, r4) := H
  have A5 := Aside0.mk A50
  clear A50
  simp only [Option.some.injEq, Prod.mk.injEq] at H
  obtain ⟨rfl, rfl, rfl, rfl⟩ := H
  go_enter Try.func25, Try.ntmps25
  go_wp2_with (first | ((with_reducible refine gate_dst (N := 4) rfl ?_); refine ZX (N := 4) (cs := #[.int .i64 0, .int .i64 0, .int .i64 0]) (t := 64) ?_; intro gb121 hg w6 hbox hb; have BK121 := Aside0.mk (hbox); have GW121 := Aside0.mk ((by rw [hg]; exact (keep_size (w := w) (g := g) (row := none) (ZJ)) : w.heap.size ≤ gb121)); have GE121 := Aside0.mk ((Nat.le_trans HW0.out (by rw [hg]; exact (keep_size (w := w) (g := g) (row := none) (ZJ)) : w.heap.size ≤ gb121) : w0.heap.size ≤ gb121)); have NB0_121 := Aside0.mk ((by rw [hg]; exact Nat.ne_of_lt (IsS55.lt (show IsS55 w0 _ g s0_0 s0_1 from ZI)) : g ≠ gb121)); have NB121_0 := Aside0.mk ((by rw [hg]; exact Nat.ne_of_gt (IsS55.lt (show IsS55 w0 _ g s0_0 s0_1 from ZI)) : gb121 ≠ g)); replace HK := ZKT HK (KeepBut.of_below hb g none); replace HB := ZTI HB hb; replace HI0 := Aside0.mk (IsS55.below (ZI) hb); clear hb hbox hg) | ((with_reducible refine gate_callee (f := 17) rfl ?_); refine goesL_ (some 6) rfl rfl Try.func17 (by kernel_rfl) rfl #[.pointer (some ⟨g, 0, none⟩), .int .i64 5] rfl ZG ?_; (with_reducible refine (spec_l6Rd_pick.calls k g s0_0 s0_1 5 t122 t123 w0 _ ?side1 ?side2 A3.out).mono ?_); (case side1 => exact ZI); (case side2 => exact ZBI); rintro e w7 ⟨rfl, hi, hb, hk⟩; refine ⟨_, rfl, ?_⟩; replace BK121 := ZL hk BK121 NB121_0; replace HK := ZKT HK hk; replace HB := Aside0.mk (hb); replace HI0 := Aside0.mk (hi); (try clear hb); (try clear hb2); (try clear hk); (try clear hi)) | ((with_reducible refine gate_callee (f := 17) rfl ?_); refine goesL_ (some 10) rfl rfl Try.func17 (by kernel_rfl) rfl #[.pointer (some ⟨g, 0, none⟩), .int .i64 10] rfl ZG ?_; (with_reducible refine (spec_l6Rd_pick.calls k g s0_0 t123 10 t124 t125 w0 _ ?side1 ?side2 A5.out).mono ?_); (case side1 => exact ZI); (case side2 => exact ZBI); rintro e w8 ⟨rfl, hi, hb, hk⟩; refine ⟨_, rfl, ?_⟩; replace BK121 := ZL hk BK121 NB121_0; replace HK := ZKT HK hk; replace HB := Aside0.mk (hb); replace HI0 := Aside0.mk (hi); (try clear hb); (try clear hb2); (try clear hk); (try clear hi); have hnb9 := NB121_0.out; have hnc9 := NB0_121.out; obtain ⟨hcz10_0, hcz10_1, hcz10_2⟩ := ZC3 w8 BK121; obtain ⟨hfz10_0, hfz10_1, hfz10_2⟩ := ZF3 BK121))
  refine bodyPost_ret (results_cell_row rfl _ _ gb121 64 #[.int .i64 1, .int .i64 t124, .int .i64 0] (0, 0) _ rfl (ZZ BK121.out) Try.underlying64 rfl (by kernel_rfl)) rfl ?_
  exact ⟨ZE, ZI, ZBI, ZJ⟩
 ·rw [if_neg c4] at H
  have c4b0 : (t122 == 0) = false := beq_eq_false_iff_ne.mpr c4
  have c4b1 : (t122 != 0) = true := bne_iff_ne.mpr c4
  have HC11 := Aside0.mk H
  clear H
  go_enter Try.func25, Try.ntmps25
  go_upto_if 12 with (first | ((with_reducible refine gate_dst (N := 4) rfl ?_); refine ZX (N := 4) (cs := #[.int .i64 0, .int .i64 0, .int .i64 0]) (t := 64) ?_; intro gb121 hg w12 hbox hb; have BK121 := Aside0.mk (hbox); have GW121 := Aside0.mk ((by rw [hg]; exact (keep_size (w := w) (g := g) (row := none) (ZJ)) : w.heap.size ≤ gb121)); have GE121 := Aside0.mk ((Nat.le_trans HW0.out (by rw [hg]; exact (keep_size (w := w) (g := g) (row := none) (ZJ)) : w.heap.size ≤ gb121) : w0.heap.size ≤ gb121)); have NB0_121 := Aside0.mk ((by rw [hg]; exact Nat.ne_of_lt (IsS55.lt (show IsS55 w0 _ g s0_0 s0_1 from ZI)) : g ≠ gb121)); have NB121_0 := Aside0.mk ((by rw [hg]; exact Nat.ne_of_gt (IsS55.lt (show IsS55 w0 _ g s0_0 s0_1 from ZI)) : gb121 ≠ g)); replace HK := ZKT HK (KeepBut.of_below hb g none); replace HB := ZTI HB hb; replace HI0 := Aside0.mk (IsS55.below (ZI) hb); clear hb hbox hg) | ((with_reducible refine gate_callee (f := 17) rfl ?_); refine goesL_ (some 6) rfl rfl Try.func17 (by kernel_rfl) rfl #[.pointer (some ⟨g, 0, none⟩), .int .i64 5] rfl ZG ?_; (with_reducible refine (spec_l6Rd_pick.calls k g s0_0 s0_1 5 t122 t123 w0 _ ?side1 ?side2 A3.out).mono ?_); (case side1 => exact ZI); (case side2 => exact ZBI); rintro e w13 ⟨rfl, hi, hb, hk⟩; refine ⟨_, rfl, ?_⟩; replace BK121 := ZL hk BK121 NB121_0; replace HK := ZKT HK hk; replace HB := Aside0.mk (hb); replace HI0 := Aside0.mk (hi); (try clear hb); (try clear hb2); (try clear hk); (try clear hi)))
  (try simp only [Act.put, List.setIfInBounds_toArray, List.set_cons_zero, List.set_cons_succ])
  go_cut [12] (fun v12 wc => ∃ (kq : Nat) (x12_10 : Bool), v12 = .bool x12_10 ∧ Aside0 (spec_l71Val.j0 kq a1 t122 x12_10 s0_0 t123 = some (r1, r2, r3, r4)) ∧ Aside0 (kq ≤ k) ∧ Aside0 (wc.heap[gb121]? = some (.cells #[.int .i64 0, .int .i64 0, .int .i64 0] 64 (0, 0))) ∧ Aside0 (IsS55 w0 wc g s0_0 t123) ∧ Aside0 (KeepBut w wc g none) ∧ Aside0 (Below w0.heap.size w0 wc))
  case first =>
   have H := HC11.out
   clear HC11
   by_cases c14 : t122 = 1
   ·rw [if_pos c14] at H
    have c14b0 : (t122 == 1) = true := beq_iff_eq.mpr c14
    have c14b1 : (t122 != 1) = false := bne_eq_false_iff_eq.mpr c14
    clear c14
    (first | rw [c14b0] | (simp only [i64_w, i32_w]; rw [c14b0]) | skip)
    have H' := Aside0.mk H
    clear H
    go_wp2
    go_meet
    case rel => exact ⟨_, ((t122 == 1)), (by first | rfl | (simp; done) | (simp [*]; done)), H', ⟨by first | omega | exact Nat.le_refl _⟩, ⟨ZK BK121.out⟩, ⟨ZI⟩, ⟨ZJ⟩, ⟨ZBI⟩⟩
   ·rw [if_neg c14] at H
    have c14b0 : (t122 == 1) = false := beq_eq_false_iff_ne.mpr c14
    have c14b1 : (t122 != 1) = true := bne_iff_ne.mpr c14
    (first | rw [c14b0] | (simp only [i64_w, i32_w]; rw [c14b0]) | skip)
    have H' := Aside0.mk H
    clear H
    go_wp2
    go_meet
    case rel => exact ⟨_, ((t122 == 2)), (by first | rfl | (simp; done) | (simp [*]; done)), H', ⟨by first | omega | exact Nat.le_refl _⟩, ⟨ZK BK121.out⟩, ⟨ZI⟩, ⟨ZJ⟩, ⟨ZBI⟩⟩
  case rest =>
   clear HC11
   try clear c1
   try clear c2
   try clear p2
   try clear c4
   try clear c4b0
   try clear c4b1
   try clear c9
   try clear c14
   try clear c14b0
   try clear c14b1
   try clear hcz10_0
   try clear hcz10_1
   try clear hcz10_2
   try clear hfz10_0
   try clear hfz10_1
   try clear hfz10_2
   obtain ⟨kq, x12_10, rfl, HA, HJ10, BK121, HI0, HK, HB⟩ := hcut
   cases kq with
   | zero => exact absurd HA.out (by simp [spec_l71Val.j0])
   | succ kj10 =>
    have H := HA.out
    clear HA
    simp only [spec_l71Val.j0] at H
    by_cases c15 : x12_10 = true
    ·subst c15
     have H1 : ((spec_l6Rd_pick.f kj10 s0_0 t123 a1).bind fun bt126 => (some (2, bt126.1, 0, bt126.2))) = some (r1, r2, r3, r4) := by rw [if_pos rfl] at H; exact H
     clear H
     have H := H1
     clear H1
     replace H := Option.bind_eq_some_iff.mp H
     obtain ⟨⟨t126, t127⟩, A160, H⟩ := H
     replace H : (some (2, t126, 0, t127)) = some (r1, r2, r3, r4) := H
     have A16 := Aside0.mk A160
     clear A160
     simp only [Option.some.injEq, Prod.mk.injEq] at H
     obtain ⟨rfl, rfl, rfl, rfl⟩ := H
     go_wp2_with (first | ((with_reducible refine gate_callee (f := 17) rfl ?_); refine goesL_ (some 17) rfl rfl Try.func17 (by kernel_rfl) rfl #[.pointer (some ⟨g, 0, none⟩), .int .i64 a1] rfl ZG ?_; (with_reducible refine (spec_l6Rd_pick.calls kj10 g s0_0 t123 a1 t126 t127 w0 _ ?side1 ?side2 A16.out).mono ?_); (case side1 => exact ZI); (case side2 => exact ZBI); rintro e w17 ⟨rfl, hi, hb, hk⟩; refine ⟨_, rfl, ?_⟩; replace BK121 := ZL hk BK121 NB121_0; replace HK := ZKT HK hk; replace HB := Aside0.mk (hb); replace HI0 := Aside0.mk (hi); (try clear hb); (try clear hb2); (try clear hk); (try clear hi); have hnb18 := NB121_0.out; have hnc18 := NB0_121.out; obtain ⟨hcz19_0, hcz19_1, hcz19_2⟩ := ZC3 w17 BK121; obtain ⟨hfz19_0, hfz19_1, hfz19_2⟩ := ZF3 BK121))
     refine bodyPost_ret (results_cell_row rfl _ _ gb121 64 #[.int .i64 2, .int .i64 t126, .int .i64 0] (0, 0) _ rfl (ZZ BK121.out) Try.underlying64 rfl (by kernel_rfl)) rfl ?_
     exact ⟨ZE, ZI, ZBI, ZJ⟩
    ·replace c15 := Bool.eq_false_iff.mpr c15
     subst c15
     have H1 : (if t122 = 3 then ((spec_l6Rd_pick.f kj10 s0_0 t123 a1).bind fun bt128 => ((spec_l6Rd_pick.f kj10 s0_0 bt128.2 a1).bind fun bt130 => (some (3, bt128.1, bt130.1, bt130.2)))) else ((spec_l6Rd_pick.f kj10 s0_0 t123 a1).bind fun bt132 => ((spec_l6Rd_pick.f kj10 s0_0 bt132.2 a1).bind fun bt134 => (some (4, bt132.1, bt134.1, bt134.2))))) = some (r1, r2, r3, r4) := by rw [if_neg (show ¬ (false = true) by decide)] at H; exact H
     clear H
     have H := H1
     clear H1
     by_cases c20 : t122 = 3
     ·rw [if_pos c20] at H
      have c20b0 : (t122 == 3) = true := beq_iff_eq.mpr c20
      have c20b1 : (t122 != 3) = false := bne_eq_false_iff_eq.mpr c20
      clear c20
      replace H := Option.bind_eq_some_iff.mp H
      obtain ⟨⟨t128, t129⟩, A210, H⟩ := H
      replace H : ((spec_l6Rd_pick.f kj10 s0_0 t129 a1).bind fun bt130 => (some (3, t128, bt130.1, bt130.2))) = some (r1, r2, r3, r4) := H
      have A21 := Aside0.mk A210
      clear A210
      replace H := Option.bind_eq_some_iff.mp H
      obtain ⟨⟨t130, t131⟩, A220, H⟩ := H
      replace H : (some (3, t128, t130, t131)) = some (r1, r2, r3, r4) := H
      have A22 := Aside0.mk A220
      clear A220
      simp only [Option.some.injEq, Prod.mk.injEq] at H
      obtain ⟨rfl, rfl, rfl, rfl⟩ := H
      go_wp2_with (first | ((with_reducible refine gate_callee (f := 17) rfl ?_); refine goesL_ (some 23) rfl rfl Try.func17 (by kernel_rfl) rfl #[.pointer (some ⟨g, 0, none⟩), .int .i64 a1] rfl ZG ?_; (with_reducible refine (spec_l6Rd_pick.calls kj10 g s0_0 t123 a1 t128 t129 w0 _ ?side1 ?side2 A21.out).mono ?_); (case side1 => exact ZI); (case side2 => exact ZBI); rintro e w23 ⟨rfl, hi, hb, hk⟩; refine ⟨_, rfl, ?_⟩; replace BK121 := ZL hk BK121 NB121_0; replace HK := ZKT HK hk; replace HB := Aside0.mk (hb); replace HI0 := Aside0.mk (hi); (try clear hb); (try clear hb2); (try clear hk); (try clear hi)) | ((with_reducible refine gate_callee (f := 17) rfl ?_); refine goesL_ (some 26) rfl rfl Try.func17 (by kernel_rfl) rfl #[.pointer (some ⟨g, 0, none⟩), .int .i64 a1] rfl ZG ?_; (with_reducible refine (spec_l6Rd_pick.calls kj10 g s0_0 t129 a1 t130 t131 w0 _ ?side1 ?side2 A22.out).mono ?_); (case side1 => exact ZI); (case side2 => exact ZBI); rintro e w24 ⟨rfl, hi, hb, hk⟩; refine ⟨_, rfl, ?_⟩; replace BK121 := ZL hk BK121 NB121_0; replace HK := ZKT HK hk; replace HB := Aside0.mk (hb); replace HI0 := Aside0.mk (hi); (try clear hb); (try clear hb2); (try clear hk); (try clear hi); have hnb25 := NB121_0.out; have hnc25 := NB0_121.out; obtain ⟨hcz26_0, hcz26_1, hcz26_2⟩ := ZC3 w24 BK121; obtain ⟨hfz26_0, hfz26_1, hfz26_2⟩ := ZF3 BK121))
      refine bodyPost_ret (results_cell_row rfl _ _ gb121 64 #[.int .i64 3, .int .i64 t128, .int .i64 t130] (0, 0) _ rfl (ZZ BK121.out) Try.underlying64 rfl (by kernel_rfl)) rfl ?_
      exact ⟨ZE, ZI, ZBI, ZJ⟩
     ·rw [if_neg c20] at H
      have c20b0 : (t122 == 3) = false := beq_eq_false_iff_ne.mpr c20
      have c20b1 : (t122 != 3) = true := bne_iff_ne.mpr c20
      replace H := Option.bind_eq_some_iff.mp H
      obtain ⟨⟨t132, t133⟩, A270, H⟩ := H
      replace H : ((spec_l6Rd_pick.f kj10 s0_0 t133 a1).bind fun bt134 => (some (4, t132, bt134.1, bt134.2))) = some (r1, r2, r3, r4) := H
      have A27 := Aside0.mk A270
      clear A270
      replace H := Option.bind_eq_some_iff.mp H
      obtain ⟨⟨t134, t135⟩, A280, H⟩ := H
      replace H : (some (4, t132, t134, t135)) = some (r1, r2, r3, r4) := H
      have A28 := Aside0.mk A280
      clear A280
      simp only [Option.some.injEq, Prod.mk.injEq] at H
      obtain ⟨rfl, rfl, rfl, rfl⟩ := H
      go_wp2_with (first | ((with_reducible refine gate_callee (f := 17) rfl ?_); refine goesL_ (some 30) rfl rfl Try.func17 (by kernel_rfl) rfl #[.pointer (some ⟨g, 0, none⟩), .int .i64 a1] rfl ZG ?_; (with_reducible refine (spec_l6Rd_pick.calls kj10 g s0_0 t123 a1 t132 t133 w0 _ ?side1 ?side2 A27.out).mono ?_); (case side1 => exact ZI); (case side2 => exact ZBI); rintro e w29 ⟨rfl, hi, hb, hk⟩; refine ⟨_, rfl, ?_⟩; replace BK121 := ZL hk BK121 NB121_0; replace HK := ZKT HK hk; replace HB := Aside0.mk (hb); replace HI0 := Aside0.mk (hi); (try clear hb); (try clear hb2); (try clear hk); (try clear hi)) | ((with_reducible refine gate_callee (f := 17) rfl ?_); refine goesL_ (some 33) rfl rfl Try.func17 (by kernel_rfl) rfl #[.pointer (some ⟨g, 0, none⟩), .int .i64 a1] rfl ZG ?_; (with_reducible refine (spec_l6Rd_pick.calls kj10 g s0_0 t133 a1 t134 t135 w0 _ ?side1 ?side2 A28.out).mono ?_); (case side1 => exact ZI); (case side2 => exact ZBI); rintro e w30 ⟨rfl, hi, hb, hk⟩; refine ⟨_, rfl, ?_⟩; replace BK121 := ZL hk BK121 NB121_0; replace HK := ZKT HK hk; replace HB := Aside0.mk (hb); replace HI0 := Aside0.mk (hi); (try clear hb); (try clear hb2); (try clear hk); (try clear hi); have hnb31 := NB121_0.out; have hnc31 := NB0_121.out; obtain ⟨hcz32_0, hcz32_1, hcz32_2⟩ := ZC3 w30 BK121; obtain ⟨hfz32_0, hfz32_1, hfz32_2⟩ := ZF3 BK121))
      refine bodyPost_ret (results_cell_row rfl _ _ gb121 64 #[.int .i64 4, .int .i64 t132, .int .i64 t134] (0, 0) _ rfl (ZZ BK121.out) Try.underlying64 rfl (by kernel_rfl)) rfl ?_
      exact ⟨ZE, ZI, ZBI, ZJ⟩

end Go.Proofs.Ytdmejmdifnicmaa.A
