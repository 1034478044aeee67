/- What Go functions compute, as Lean functions, and for each its contract: for every input at which the Lean function answers the call returns that; written by wip/tools/pr.py over the kit's print. -/
import Derived.Test.YtcffnnedghgmaaaAx0
import Derived.Test.YtcffnnedghgmaaaAx6
import Derived.Test.YtcffnnedghgmaaaAx13
import Derived.Test.YtcffnnedghgmaaaAx17
namespace Go.Proofs.Ytcffnnedghgmaaa.A
open Go.RowKit Go.Proofs.YtcffnnedghgmaaaW.PrintWords Go.Proofs.YtcffnnedghgmaaaW.PrintLast Go.Proofs.YtcffnnedghgmaaaW.PrintMore
attribute [local go_sem] max2_int min2_int max_two min_two max_three min_three max_four min_four   -- for this text's walks alone
set_option linter.unusedVariables false
set_option linter.unusedSimpArgs false

/-! ### laws_FnProgLess: function 4 -/
mutual
def laws_FnProgLess.j0 : Nat → List Int → List Int → Bool → Option (Bool)
 | 0, _, _, _ => none
 | k + 1, x0, x1, x15 => if x15 = true then (some true) else ((spec_DrawProgOk.f k x0).bind fun bt374 => ((impl_ProgOk.f k bt374.1 bt374.2).bind fun t381 => ((spec_ProgOk.f k bt374.1 bt374.2).bind fun t382 => (if (t381 != t382) = true then (laws_FnProgLess.j1 k x1 t381 true bt374.1 bt374.2) else (laws_FnProgLess.j1 k x1 t381 (!t381) bt374.1 bt374.2)))))
def laws_FnProgLess.j1 : Nat → List Int → Bool → Bool → List (S35) → List (S59) → Option (Bool)
 | 0, _, _, _, _, _ => none
 | k + 1, x1, x6, x27, x381000, x381001 => if x27 = true then ((spec_ProgOk.f k x381000 x381001).bind fun t383 => (some (x6 == t383))) else (if (wrap64 ((x381001.length : Int) + 1)) = 0 then (none) else (if 0 ≤ ((x1.length : Int) % (wrap64 ((x381001.length : Int) + 1))) then (if ((x1.length : Int) % (wrap64 ((x381001.length : Int) + 1))) ≤ (x381001.length : Int) then ((impl_ProgOk.f k x381000 (x381001.take (((x1.length : Int) % (wrap64 ((x381001.length : Int) + 1))) : Int).toNat)).bind fun t389 => (if t389 = true then ((impl_ProgOk.f k x381000 (x381001.drop (((x1.length : Int) % (wrap64 ((x381001.length : Int) + 1))) : Int).toNat)).bind fun t395 => (some t395)) else (some false))) else (none)) else (none)))
end
def laws_FnProgLess.f (k : Nat) (l0 : List Int) (l1 : List Int) : Option (Bool) := if (l0.length : Int) > 1048576 then (laws_FnProgLess.j0 k l0 l1 true) else (laws_FnProgLess.j0 k l0 l1 (decide ((l1.length : Int) > 1048576)))
def laws_FnProgLess.T8 : Bool × List (List Nat × List Nat) := (true, [([], []), ([0], [0]), ([], []), ([2], [2]), ([], []), ([3, 4], [3, 4]), ([1, 5], [1, 5]), ([6], [6]), ([7, 7], [7]), ([8], [8]), ([9, 8], [8, 9]), ([8], [8]), ([11, 8], [8, 11]), ([8], [8]), ([12, 13, 8], [8, 12, 13]), ([10, 14, 8], [8, 10, 14]), ([15, 8, 8], [8, 15]), ([8, 16], [8, 16]), ([17, 16, 0, 1, 2, 3, 4, 5, 6, 7, 8, 9, 10, 11, 12, 13, 14, 15, 16, 17], [17])])
def laws_FnProgLess.B8 : List Nat := [0, 1, 0, 4, 0, 28, 63, 127, 255, 511, 1023, 511, 2559, 511, 14847, 32767, 65535, 131071, 262143]
theorem laws_FnProgLess.tab8 : rtab .any (opsOf Try.f4 8) = laws_FnProgLess.T8 := by kernel_rfl
theorem laws_FnProgLess.bits8 : waitsOk laws_FnProgLess.T8.2 laws_FnProgLess.B8 = true := by kernel_rfl
set_option maxHeartbeats 8000000 in
set_option maxRecDepth 100000 in
theorem laws_FnProgLess.calls (k : Nat) (A0 : Option Addr) (c0 : Nat) (l0 : List Int) (A1 : Option Addr) (c1 : Nat) (l1 : List Int) (r : Bool) (w : World) (hr0 : Kd.C (Kd.int .u8) w A0 l0.length l0) (hc0 : l0.length ≤ c0) (hr1 : Kd.C (Kd.int .u8) w A1 l1.length l1) (hc1 : l1.length ≤ c1) (h : laws_FnProgLess.f k l0 l1 = some r) :
  Calls Try.prog 4 #[.slice A0 l0.length c0, .slice A1 l1.length c1] w fun e w' => e = .returned (.bool r) ∧ Below w.heap.size w w' := by
 have hu26 := Try.underlying26
 have HR0 := Aside0.mk hr0
 have HC0 := Aside0.mk hc0
 clear hr0 hc0
 have HR1 := Aside0.mk hr1
 have HC1 := Aside0.mk hc1
 clear hr1 hc1
 have HB := Aside0.mk (Below.refl w.heap.size w)
 have H : (if (l0.length : Int) > 1048576 then (laws_FnProgLess.j0 k l0 l1 true) else (laws_FnProgLess.j0 k l0 l1 (decide ((l1.length : Int) > 1048576)))) = some r := h
 clear h
 have HC3 := Aside0.mk H
 clear H
 go_enter Try.func4, Try.ntmps4
 go_upto_region 1 with (fail)
 go_cut [15] (fun v15 wc => ∃ (kq : Nat) (x15_2 : Bool), v15 = .bool x15_2 ∧ Aside0 (laws_FnProgLess.j0 kq l0 l1 x15_2 = some r) ∧ Aside0 (kq ≤ k) ∧ Aside0 (Below w.heap.size w wc))
 case first =>
  have H := HC3.out
  clear HC3
  by_cases c4 : (l0.length : Int) > 1048576
  ·rw [if_pos c4] at H
   have c4b0 : decide (1048576 < (l0.length : Int)) = true := decide_eq_true c4
   have c4b1 : decide (1048576 < l0.length) = true := decide_eq_true (by omega)
   clear c4
   (first | rw [c4b0] | (simp only [i64_w, i32_w]; rw [c4b0]) | skip)
   have H' := Aside0.mk H
   clear H
   go_wp2
   go_meet
   case rel => exact ⟨_, (true), (by first | rfl | (simp; done) | (simp [*]; done)), H', ⟨by first | omega | exact Nat.le_refl _⟩, ⟨ZB⟩⟩
  ·rw [if_neg c4] at H
   have c4b0 : decide (1048576 < (l0.length : Int)) = false := decide_eq_false c4
   have c4b1 : decide (1048576 < l0.length) = false := decide_eq_false (by omega)
   clear c4
   (first | rw [c4b0] | (simp only [i64_w, i32_w]; rw [c4b0]) | skip)
   have H' := Aside0.mk H
   clear H
   go_wp2
   go_meet
   case rel => exact ⟨_, (decide ((l1.length : Int) > 1048576)), (by first | rfl | (simp; done) | (simp [*]; done)), H', ⟨by first | omega | exact Nat.le_refl _⟩, ⟨ZB⟩⟩
 case rest =>
  clear HC3
  try clear c1
  try clear p2
  try clear c4
  try clear c4b0
  try clear c4b1
  obtain ⟨kq, x15_2, rfl, HA, HJ2, HB⟩ := hcut
  cases kq with
  | zero => exact absurd HA.out (by simp [laws_FnProgLess.j0])
  | succ kj2 =>
   have H := HA.out
   clear HA
   simp only [laws_FnProgLess.j0] at H
   by_cases c5 : x15_2 = true
   ·subst c5
    have H1 : (some true) = some r := by rw [if_pos rfl] at H; exact H
    clear H
    have H := H1
    clear H1
    obtain rfl := Option.some.inj H
    go_wp2
    go_ret
    exact ⟨ZE, ZB⟩
   ·replace c5 := Bool.eq_false_iff.mpr c5
    subst c5
    have H1 : ((spec_DrawProgOk.f kj2 l0).bind fun bt374 => ((impl_ProgOk.f kj2 bt374.1 bt374.2).bind fun t381 => ((spec_ProgOk.f kj2 bt374.1 bt374.2).bind fun t382 => (if (t381 != t382) = true then (laws_FnProgLess.j1 kj2 l1 t381 true bt374.1 bt374.2) else (laws_FnProgLess.j1 kj2 l1 t381 (!t381) bt374.1 bt374.2))))) = some r := by rw [if_neg (show ¬ (false = true) by decide)] at H; exact H
    clear H
    have H := H1
    clear H1
    replace H := Option.bind_eq_some_iff.mp H
    obtain ⟨⟨t374, t377⟩, A60, H⟩ := H
    replace H : ((impl_ProgOk.f kj2 t374 t377).bind fun t381 => ((spec_ProgOk.f kj2 t374 t377).bind fun t382 => (if (t381 != t382) = true then (laws_FnProgLess.j1 kj2 l1 t381 true t374 t377) else (laws_FnProgLess.j1 kj2 l1 t381 (!t381) t374 t377)))) = some r := H
    have A6 := Aside0.mk A60
    clear A60
    replace H := Option.bind_eq_some_iff.mp H
    obtain ⟨t381, A70, H⟩ := H
    replace H : ((spec_ProgOk.f kj2 t374 t377).bind fun t382 => (if (t381 != t382) = true then (laws_FnProgLess.j1 kj2 l1 t381 true t374 t377) else (laws_FnProgLess.j1 kj2 l1 t381 (!t381) t374 t377))) = some r := H
    have A7 := Aside0.mk A70
    clear A70
    have HC8 := Aside0.mk H
    clear H
    go_upto_region 5 with (first | ((with_reducible refine gate_callee (f := 34) rfl ?_); refine goesL_ (some 17) rfl rfl Try.func34 (by kernel_rfl) rfl #[.slice A0 l0.length c0] rfl ZG ?_; (with_reducible refine (spec_DrawProgOk.calls kj2 _ _ l0 t374 t377 _ ?side1 ?side2 A6.out).mono ?_); (case side1 => exact ZQ (Kd.C_below HR0.out HB.out)); (case side2 => exact HC0.out); rintro e w9 ⟨v375, v378, rfl, ho0, ho1, hb⟩; refine ⟨_, rfl, ?_⟩; have HO376 := Aside0.mk (Kd.R_lower (Kd.R_mono (ok' := fun k_ => True) ho0 (fun _ hk_ => trivial)) (below_size (ZB))); have HO379 := Aside0.mk (Kd.N_lower (Kd.N_mono (ok' := fun k_ => some k_ ≠ (v375 : Value).ownBlock) ho1 (fun k_ hk_ => hk_.2)) (below_size (ZB))); replace HB := ZT HB hb; (try clear hb); (try clear hb2); (try clear hk); (try clear hi); (try clear ho0); (try clear ho1)) | ((with_reducible refine gate_dst (N := 5) rfl ?_); refine ZX (N := 5) (cs := #[.slice none 0 0, .slice none 0 0]) (t := 26) ?_; intro gb380 hg w10 hbox hb; have BK380 := Aside0.mk (hbox); have GW380 : Aside0 (w.heap.size ≤ gb380) := ZS hg; have GE380 : Aside0 (w.heap.size ≤ gb380) := ZS hg; replace HO376 := Aside0.mk (Kd.R_below (ZR HO376.out) hb); replace HO379 := Aside0.mk (Kd.N_below (Kd.N_elderB (ZRN HO379.out) gb380 (Nat.le_of_eq hg.symm)) hb); replace HB := ZT HB hb; clear hb hbox hg; obtain ⟨Ao11, co11, eo11⟩ := Kd.R_slice HO376.out; subst eo11; obtain ⟨hcz12_0, hcz12_1⟩ := ZC2 w10 BK380; obtain ⟨hfz12_0, hfz12_1⟩ := ZF2 BK380; obtain ⟨Ao13, co13, eo13⟩ := Kd.N_slice HO379.out; subst eo13) | ((with_reducible refine gate_callee (f := 35) rfl ?_); refine goesL_ (some 19) rfl rfl Try.func35 (by kernel_rfl) rfl #[.agg #[.slice Ao11 t374.length co11, .slice Ao13 t377.length co13]] rfl ZG ?_; (with_reducible refine (impl_ProgOk.calls kj2 _ _ t374 _ _ t377 t381 _ ?side1 ?side2 ?side3 ?side4 A7.out).mono ?_); (case side1 => refine (Kd.R_reads' (e := 35) (base := w.heap.size) (ok := fun k_ => True) (n := t374.length) (c := co11) ?_).2.2; exact (ZR ((Kd.R_mono (Kd.R_far (p := ⟨gb380, 1, none⟩) (Kd.R_far (p := ⟨gb380, 0, none⟩) (Kd.R_types HO376.out BK380.out (by decide)) (fun _ hk => hk.2) (.slice Ao11 t374.length co11)) (fun _ hk => hk.2) (.slice Ao13 t377.length co13)) (fun _ h_ => h_.1))))); (case side2 => exact (Kd.R_reads' HO376.out).2.1); (case side3 => refine (Kd.N_reads' (e := 59) (base := w.heap.size) (ok := fun k_ => (some k_ ≠ (.slice Ao11 t374.length co11 : Value).ownBlock ∧ k_ ≠ gb380)) (n := t377.length) (c := co13) ?_).2.2; exact (by (with_reducible repeat (first | apply Kd.N_alloc | apply Kd.N_drewN | apply Kd.N_drew)); exact (Kd.N_mono (Kd.N_far (p := ⟨gb380, 1, none⟩) (Kd.N_far (p := ⟨gb380, 0, none⟩) (Kd.N_mono HO379.out (fun k_ hk => (⟨hk, hk.2⟩ : _ ∧ k_ ≠ gb380))) (fun _ hk => hk.2) (.slice Ao11 t374.length co11)) (fun _ hk => hk.2) (.slice Ao13 t377.length co13)) (fun _ h_ => h_.1)))); (case side4 => exact (Kd.N_reads' HO379.out).2.1); rintro e w14 ⟨rfl, hb⟩; refine ⟨_, rfl, ?_⟩; replace HO376 := Aside0.mk (Kd.R_below (ZR ((Kd.R_mono (Kd.R_far (p := ⟨gb380, 1, none⟩) (Kd.R_far (p := ⟨gb380, 0, none⟩) (Kd.R_types HO376.out BK380.out (by decide)) (fun _ hk => hk.2) (.slice Ao11 t374.length co11)) (fun _ hk => hk.2) (.slice Ao13 t377.length co13)) (fun _ h_ => h_.1)))) hb); replace HO379 := Aside0.mk (Kd.N_below (by (with_reducible repeat (first | apply Kd.N_alloc | apply Kd.N_drewN | apply Kd.N_drew)); exact (Kd.N_mono (Kd.N_far (p := ⟨gb380, 1, none⟩) (Kd.N_far (p := ⟨gb380, 0, none⟩) (Kd.N_mono HO379.out (fun k_ hk => (⟨hk, hk.2⟩ : _ ∧ k_ ≠ gb380))) (fun _ hk => hk.2) (.slice Ao11 t374.length co11)) (fun _ hk => hk.2) (.slice Ao13 t377.length co13)) (fun _ h_ => h_.1))) hb); replace BK380 := ZV #[.slice Ao11 t374.length co11, .slice Ao13 t377.length co13] BK380 hb; replace HB := ZT HB hb; (try clear hb); (try clear hb2); (try clear hk); (try clear hi)))
    (try simp only [Act.put, List.setIfInBounds_toArray, List.set_cons_zero, List.set_cons_succ])
    go_cut [27] (fun v27 wc => ∃ (kq : Nat) (x27_7 : Bool), v27 = .bool x27_7 ∧ Aside0 (laws_FnProgLess.j1 kq l1 t381 x27_7 t374 t377 = some r) ∧ Aside0 (kq ≤ kj2) ∧ Aside0 (Kd.R k35 35 wc w.heap.size (fun _ => True) (.slice Ao11 t374.length co11) t374) ∧ Aside0 (Kd.N k59 59 wc w.heap.size (fun k_ => some k_ ≠ ((.slice Ao11 t374.length co11) : Value).ownBlock ∧ k_ ≠ gb380) (.slice Ao13 t377.length co13) t377) ∧ Aside0 (wc.heap[gb380]? = some (.cells #[(.slice Ao11 t374.length co11), (.slice Ao13 t377.length co13)] 26 (0, 0))) ∧ Aside0 (Below w.heap.size w wc))
    case first =>
     have H := HC8.out
     clear HC8
     replace H := Option.bind_eq_some_iff.mp H
     obtain ⟨t382, A150, H⟩ := H
     replace H : (if (t381 != t382) = true then (laws_FnProgLess.j1 kj2 l1 t381 true t374 t377) else (laws_FnProgLess.j1 kj2 l1 t381 (!t381) t374 t377)) = some r := H
     have A15 := Aside0.mk A150
     clear A150
     by_cases c16 : (t381 != t382) = true
     ·rw [if_pos c16] at H
      have c16b0 : (t381 != t382) = true := c16
      (try (have c16b1 : decide (t381 = t382) = false := by simpa using c16))
      (try (have c16b2 : (t381 == t382) = false := by simpa using c16))
      (try (have c16b3 : ¬ (t381 = t382) := by simpa using c16))
      clear c16
      (first | rw [c16b0] | (simp only [i64_w, i32_w]; rw [c16b0]) | skip)
      have H' := Aside0.mk H
      clear H
      obtain ⟨hcz17_0, hcz17_1⟩ := ZC2 w14 BK380
      obtain ⟨hfz17_0, hfz17_1⟩ := ZF2 BK380
      go_wp2_with (first | ((with_reducible refine gate_callee (f := 36) rfl ?_); refine goesL_ (some 22) rfl rfl Try.func36 (by kernel_rfl) rfl #[.agg #[.slice Ao11 t374.length co11, .slice Ao13 t377.length co13]] rfl ZG ?_; (with_reducible refine (spec_ProgOk.calls kj2 _ _ t374 _ _ t377 t382 _ ?side1 ?side2 ?side3 ?side4 A15.out).mono ?_); (case side1 => exact ZQ ((Kd.R_reads' HO376.out).2.2)); (case side2 => exact (Kd.R_reads' HO376.out).2.1); (case side3 => exact ZQ ((Kd.N_reads' HO379.out).2.2)); (case side4 => exact (Kd.N_reads' HO379.out).2.1); rintro e w18 ⟨rfl, hb⟩; refine ⟨_, rfl, ?_⟩; replace HO376 := Aside0.mk (Kd.R_below (ZR HO376.out) hb); replace HO379 := Aside0.mk (Kd.N_below (ZRN HO379.out) hb); replace BK380 := ZW BK380 hb; replace HB := ZT HB hb; (try clear hb); (try clear hb2); (try clear hk); (try clear hi)))
      go_meet
      case rel => exact ⟨_, (true), (by first | rfl | (simp; done) | (simp [*]; done)), H', ⟨by have := HJ2.out; first | omega | exact Nat.le_refl _⟩, ⟨ZR HO376.out⟩, ⟨ZRN HO379.out⟩, ⟨ZK BK380.out⟩, ⟨ZB⟩⟩
     ·rw [if_neg c16] at H
      have c16b0 : (t381 != t382) = false := by simpa using c16
      (try (have c16b1 : decide (t381 = t382) = true := by simpa using c16))
      (try (have c16b2 : (t381 == t382) = true := by simpa using c16))
      clear c16
      (first | rw [c16b0] | (simp only [i64_w, i32_w]; rw [c16b0]) | skip)
      have H' := Aside0.mk H
      clear H
      obtain ⟨hcz19_0, hcz19_1⟩ := ZC2 w14 BK380
      obtain ⟨hfz19_0, hfz19_1⟩ := ZF2 BK380
      go_wp2_with (first | ((with_reducible refine gate_callee (f := 36) rfl ?_); refine goesL_ (some 22) rfl rfl Try.func36 (by kernel_rfl) rfl #[.agg #[.slice Ao11 t374.length co11, .slice Ao13 t377.length co13]] rfl ZG ?_; (with_reducible refine (spec_ProgOk.calls kj2 _ _ t374 _ _ t377 t382 _ ?side1 ?side2 ?side3 ?side4 A15.out).mono ?_); (case side1 => exact ZQ ((Kd.R_reads' HO376.out).2.2)); (case side2 => exact (Kd.R_reads' HO376.out).2.1); (case side3 => exact ZQ ((Kd.N_reads' HO379.out).2.2)); (case side4 => exact (Kd.N_reads' HO379.out).2.1); rintro e w20 ⟨rfl, hb⟩; refine ⟨_, rfl, ?_⟩; replace HO376 := Aside0.mk (Kd.R_below (ZR HO376.out) hb); replace HO379 := Aside0.mk (Kd.N_below (ZRN HO379.out) hb); replace BK380 := ZW BK380 hb; replace HB := ZT HB hb; (try clear hb); (try clear hb2); (try clear hk); (try clear hi)))
      go_meet
      case rel => exact ⟨_, (!t381), (by first | rfl | (simp; done) | (simp [*]; done)), H', ⟨by have := HJ2.out; first | omega | exact Nat.le_refl _⟩, ⟨ZR HO376.out⟩, ⟨ZRN HO379.out⟩, ⟨ZK BK380.out⟩, ⟨ZB⟩⟩
    case rest =>
     clear HC8
     try clear c1
     try clear p2
     try clear c3
     try clear c4
     try clear c4b0
     try clear c4b1
     try clear c5
     try clear c16
     try clear c16b0
     try clear c16b1
     try clear c16b2
     try clear hcz12_0
     try clear hcz12_1
     try clear hcz17_0
     try clear hcz17_1
     try clear hcz19_0
     try clear hcz19_1
     try clear hfz12_0
     try clear hfz12_1
     try clear hfz17_0
     try clear hfz17_1
     try clear hfz19_0
     try clear hfz19_1
     try clear p2
     obtain ⟨kq, x27_7, rfl, HA, HJ7, HO_381000, HO_381001, BK380, HB⟩ := hcut
     cases kq with
     | zero => exact absurd HA.out (by simp [laws_FnProgLess.j1])
     | succ kj7 =>
      have H := HA.out
      clear HA
      simp only [laws_FnProgLess.j1] at H
      by_cases c21 : x27_7 = true
      ·subst c21
       have H1 : ((spec_ProgOk.f kj7 t374 t377).bind fun t383 => (some (t381 == t383))) = some r := by rw [if_pos rfl] at H; exact H
       clear H
       have H := H1
       clear H1
       replace H := Option.bind_eq_some_iff.mp H
       obtain ⟨t383, A220, H⟩ := H
       replace H : (some (t381 == t383)) = some r := H
       have A22 := Aside0.mk A220
       clear A220
       obtain rfl := Option.some.inj H
       obtain ⟨hcz23_0, hcz23_1⟩ := ZC2 wc BK380
       obtain ⟨hfz23_0, hfz23_1⟩ := ZF2 BK380
       go_wp2_with (first | ((with_reducible refine gate_callee (f := 36) rfl ?_); refine goesL_ (some 30) rfl rfl Try.func36 (by kernel_rfl) rfl #[.agg #[.slice Ao11 t374.length co11, .slice Ao13 t377.length co13]] rfl ZG ?_; (with_reducible refine (spec_ProgOk.calls kj7 _ _ t374 _ _ t377 t383 _ ?side1 ?side2 ?side3 ?side4 A22.out).mono ?_); (case side1 => exact ZQ ((Kd.R_reads' HO_381000.out).2.2)); (case side2 => exact (Kd.R_reads' HO_381000.out).2.1); (case side3 => exact ZQ ((Kd.N_reads' HO_381001.out).2.2)); (case side4 => exact (Kd.N_reads' HO_381001.out).2.1); rintro e w24 ⟨rfl, hb⟩; refine ⟨_, rfl, ?_⟩; replace HO_381000 := Aside0.mk (Kd.R_below (ZR HO_381000.out) hb); replace HO_381001 := Aside0.mk (Kd.N_below (ZRN HO_381001.out) hb); replace BK380 := ZW BK380 hb; replace HB := ZT HB hb; (try clear hb); (try clear hb2); (try clear hk); (try clear hi)))
       go_ret
       exact ⟨ZE, ZB⟩
      ·replace c21 := Bool.eq_false_iff.mpr c21
       subst c21
       have H1 : (if (wrap64 ((t377.length : Int) + 1)) = 0 then (none) else (if 0 ≤ ((l1.length : Int) % (wrap64 ((t377.length : Int) + 1))) then (if ((l1.length : Int) % (wrap64 ((t377.length : Int) + 1))) ≤ (t377.length : Int) then ((impl_ProgOk.f kj7 t374 (t377.take (((l1.length : Int) % (wrap64 ((t377.length : Int) + 1))) : Int).toNat)).bind fun t389 => (if t389 = true then ((impl_ProgOk.f kj7 t374 (t377.drop (((l1.length : Int) % (wrap64 ((t377.length : Int) + 1))) : Int).toNat)).bind fun t395 => (some t395)) else (some false))) else (none)) else (none))) = some r := by rw [if_neg (show ¬ (false = true) by decide)] at H; exact H
       clear H
       have H := H1
       clear H1
       by_cases c25 : (wrap64 ((t377.length : Int) + 1)) = 0
       ·rw [if_pos c25] at H
        exact absurd H (by simp)
       ·rw [if_neg c25] at H
        have c25b0 : ((wrap64 ((t377.length : Int) + 1)) == 0) = false := beq_eq_false_iff_ne.mpr c25
        have c25b1 : ((wrap64 ((t377.length : Int) + 1)) != 0) = true := bne_iff_ne.mpr c25
        obtain ⟨ji26, hji26⟩ : ∃ j_ : Int, ((l1.length : Int) % (wrap64 ((t377.length : Int) + 1))) = j_ := ⟨_, rfl⟩
        replace H : (if 0 ≤ (ji26) then (if (ji26) ≤ (t377.length : Int) then ((impl_ProgOk.f kj7 t374 (t377.take ((ji26) : Int).toNat)).bind fun t389 => (if t389 = true then ((impl_ProgOk.f kj7 t374 (t377.drop ((ji26) : Int).toNat)).bind fun t395 => (some t395)) else (some false))) else (none)) else (none)) = some r := by first | (rw [hji26] at H; exact H) | (simp only [hji26] at H ⊢; exact H)
        by_cases c27 : 0 ≤ (ji26)
        ·rw [if_pos c27] at H
         have c27b0 := eq_true c27
         have c27b1 : decide (0 ≤ (ji26)) = true := decide_eq_true c27
         clear c27
         by_cases c28 : (ji26) ≤ (t377.length : Int)
         ·rw [if_pos c28] at H
          have c28b0 := eq_true c28
          have c28b1 : decide ((ji26) ≤ (t377.length : Int)) = true := decide_eq_true c28
          clear c28
          obtain ⟨y384, hy384⟩ : ∃ y_ : List (S59), y_ = (t377.take ((ji26) : Int).toNat) := ⟨_, rfl⟩
          replace H : ((impl_ProgOk.f kj7 t374 y384).bind fun t389 => (if t389 = true then ((impl_ProgOk.f kj7 t374 (t377.drop ((ji26) : Int).toNat)).bind fun t395 => (some t395)) else (some false))) = some r := by first | (rw [hy384]; with_reducible exact H) | (have H2_ := (Option.bind_some _ _).symm.trans H; rw [hy384]; with_reducible exact H2_) | (have H2_ := (Option.bind_some _ _).symm.trans H; with_reducible exact H2_) | with_reducible exact H | (rw [hy384]; exact H) | exact H
          have Ny384 := Aside0.mk hy384
          clear hy384
          replace H := Option.bind_eq_some_iff.mp H
          obtain ⟨t389, A290, H⟩ := H
          replace H : (if t389 = true then ((impl_ProgOk.f kj7 t374 (t377.drop ((ji26) : Int).toNat)).bind fun t395 => (some t395)) else (some false)) = some r := H
          have A29 := Aside0.mk A290
          clear A290
          by_cases c30 : t389 = true
          ·subst c30
           have H1 : ((impl_ProgOk.f kj7 t374 (t377.drop ((ji26) : Int).toNat)).bind fun t395 => (some t395)) = some r := by rw [if_pos rfl] at H; exact H
           clear H
           have H := H1
           clear H1
           have c31b0 := eq_true (ZD : 0 ≤ (ji26))
           have c32b0 := eq_true (ZD : (ji26) ≤ (t377.length : Int))
           obtain ⟨y390, hy390⟩ : ∃ y_ : List (S59), y_ = (t377.drop ((ji26) : Int).toNat) := ⟨_, rfl⟩
           replace H : ((impl_ProgOk.f kj7 t374 y390).bind fun t395 => (some t395)) = some r := by first | (rw [hy390]; with_reducible exact H) | (have H2_ := (Option.bind_some _ _).symm.trans H; rw [hy390]; with_reducible exact H2_) | (have H2_ := (Option.bind_some _ _).symm.trans H; with_reducible exact H2_) | with_reducible exact H | (rw [hy390]; exact H) | exact H
           have Ny390 := Aside0.mk hy390
           clear hy390
           replace H := Option.bind_eq_some_iff.mp H
           obtain ⟨t395, A330, H⟩ := H
           replace H : (some t395) = some r := H
           have A33 := Aside0.mk A330
           clear A330
           obtain rfl := Option.some.inj H
           obtain ⟨hcz34_0, hcz34_1⟩ := ZC2 wc BK380
           obtain ⟨hfz34_0, hfz34_1⟩ := ZF2 BK380
           try go_wp2
           have n0_ := Aside0.mk (Kd.R_drew HO_381000.out)
           have n1_ := Aside0.mk (Kd.N_drew HO_381001.out)
           have n2_ := Aside0.mk (blk_drew BK380.out)
           have n3_ := Aside0.mk (below_drew1 HB.out)
           clear HO_381000
           clear HO_381001
           clear BK380
           clear HB
           have HO_381000 := n0_
           have HO_381001 := n1_
           have BK380 := n2_
           have HB := n3_
           clear n0_ n1_ n2_ n3_
           have q36 : ((ji26) : Int) ≤ ((t377.length : Int) : Int) := ZD
           obtain ⟨i036, hi036, _, hsz36, _⟩ := info_parts info59
           have hroom36 : t377.length ≤ co13 := (Kd.N_reads' HO_381001.out).2.1
           have hC36 : Kd.F k59 _ _ Ao13 t377.length t377 := (Kd.V_at (base := w.heap.size) (Kd.N_V HO_381001.out)).2.2
           have hcut36 := cut_to (P := Try.prog) 24 59 .i64 Try.underlying24 hi036 Ao13 t377.length co13 (ji26) (ZD) q36 hroom36
           have hr36 := Kd.F_take (m := ((ji26) : Int).toNat) hC36 (by omega)
           have hy36 : y384.length = ((ji26) : Int).toNat := (by rw [Ny384.out, List.length_take]; omega)
           rw [← Ny384.out] at hr36
           rw [← hy36] at hcut36
           have HO388 := Aside0.mk (show Kd.V k59 59 _ w.heap.size _ (.slice Ao13 y384.length co13) y384 from Kd.V_mk (by omega) hr36)
           have HC388 := Aside0.mk (show y384.length ≤ co13 from by omega)
           clear hr36 hC36 hroom36 hi036 hsz36
           have KY36 := Aside0.mk hy36
           clear hy36
           replace q36 := eq_true q36
           refine start_ (n := 19) (S := fun w' => w'.cell? ⟨gb380, 0, none⟩ = some (.slice Ao11 t374.length co11) ∧ w'.cell? ⟨gb380, 1, none⟩ = some (.slice Ao13 t377.length co13)) (ds := []) #[false, false, false, false, false, false, false, false, false, false, false, false, false, false, false, false, false, false, false] (by kernel_rfl) rfl rfl ⟨(blk_cell BK380.out 0).trans rfl, (blk_cell BK380.out 1).trans rfl⟩ (fun hHeld => ?_); refine with_tabW laws_FnProgLess.tab8 laws_FnProgLess.bits8 (fun HT_ HW_ => ?_)
           generalize wc.drew = w35 at HO_381000 HO_381001 BK380 HB HO388 hHeld ⊢
           refine pure_ (i := 0) (N := some 39) (v := ?_) (a' := ?_) #[true, false, false, false, false, false, false, false, false, false, false, false, false, false, false, false, false, false, false] rfl rfl (any_of HT_.out (by kernel_rfl)) (fun _ _ _ h => h) (Or.inl ⟨by rfl, ?_⟩) ?_ ?_
           rotate_left
           ·intro w'
            go_simp
            with_reducible rfl
           rotate_left
           ·simp only [Act.put, List.setIfInBounds_toArray, List.set_cons_zero, List.set_cons_succ, i64_w, i32_w]
            rfl
           refine pure_ (i := 2) (N := some 41) (v := ?_) (a' := ?_) #[true, false, true, false, false, false, false, false, false, false, false, false, false, false, false, false, false, false, false] rfl rfl (any_of HT_.out (by kernel_rfl)) (fun _ _ _ h => h) (Or.inl ⟨by rfl, ?_⟩) ?_ ?_
           rotate_left
           ·intro w'
            go_simp
            with_reducible rfl
           rotate_left
           ·simp only [Act.put, List.setIfInBounds_toArray, List.set_cons_zero, List.set_cons_succ, i64_w, i32_w]
            rfl
           refine pure_ (i := 4) (N := some 43) (v := ?_) (a' := ?_) #[true, false, true, false, true, false, false, false, false, false, false, false, false, false, false, false, false, false, false] rfl rfl (any_of HT_.out (by kernel_rfl)) (fun _ _ _ h => h) (Or.inl ⟨by rfl, ?_⟩) ?_ ?_
           rotate_left
           ·intro w'
            go_simp
            with_reducible rfl
           rotate_left
           ·simp only [Act.put, List.setIfInBounds_toArray, List.set_cons_zero, List.set_cons_succ, i64_w, i32_w]
            rfl
           refine take_ (i := 1) (N := some 40) (v := ?_) (a' := ?_) #[true, true, true, false, true, false, false, false, false, false, false, false, false, false, false, false, false, false, false] rfl rfl (take_ofW HT_.out HW_.out (by kernel_rfl)) (fun _ _ _ h => h) (Or.inl ⟨by rfl, ?_⟩) hHeld ?_ ?_
           rotate_left
           ·rintro w' ⟨s0, s1⟩
            go_simp
            with_reducible rfl
           rotate_left
           ·simp only [Act.put, List.setIfInBounds_toArray, List.set_cons_zero, List.set_cons_succ, i64_w, i32_w]
            rfl
           refine take_ (i := 3) (N := some 42) (v := ?_) (a' := ?_) #[true, true, true, true, true, false, false, false, false, false, false, false, false, false, false, false, false, false, false] rfl rfl (take_ofW HT_.out HW_.out (by kernel_rfl)) (fun _ _ _ h => h) (Or.inl ⟨by rfl, ?_⟩) hHeld ?_ ?_
           rotate_left
           ·rintro w' ⟨s0, s1⟩
            go_simp
            with_reducible rfl
           rotate_left
           ·simp only [Act.put, List.setIfInBounds_toArray, List.set_cons_zero, List.set_cons_succ, i64_w, i32_w]
            rfl
           refine pure_ (i := 5) (N := some 44) (v := ?_) (a' := ?_) #[true, true, true, true, true, true, false, false, false, false, false, false, false, false, false, false, false, false, false] rfl rfl (any_of HT_.out (by kernel_rfl)) (fun _ _ _ h => h) (Or.inl ⟨by rfl, ?_⟩) ?_ ?_
           rotate_left
           ·intro w'
            go_simp
            with_reducible rfl
           rotate_left
           ·simp only [Act.put, List.setIfInBounds_toArray, List.set_cons_zero, List.set_cons_succ, i64_w, i32_w]
            rfl
           refine pure_ (i := 6) (N := some 45) (v := ?_) (a' := ?_) #[true, true, true, true, true, true, true, false, false, false, false, false, false, false, false, false, false, false, false] rfl rfl (any_of HT_.out (by kernel_rfl)) (fun _ _ _ h => h) (Or.inl ⟨by rfl, ?_⟩) ?_ ?_
           rotate_left
           ·intro w'
            go_simp
            with_reducible rfl
           rotate_left
           ·simp only [Act.put, List.setIfInBounds_toArray, List.set_cons_zero, List.set_cons_succ, i64_w, i32_w]
            rfl
           refine one_ (i := 7) (N := some 46) #[true, true, true, true, true, true, true, true, false, false, false, false, false, false, false, false, false, false, false] rfl rfl (one_of HT_.out (by kernel_rfl)) (by decide) (fun K hK => ?_)
           refine goes_ Try.func35 (by kernel_rfl) rfl #[.agg #[.slice Ao11 t374.length co11, .slice Ao13 y384.length co13]] (by rfl) rfl rfl ZG ?_
           with_reducible refine (impl_ProgOk.calls kj7 _ _ t374 _ _ y384 true _ ?side1 ?side2 ?side3 ?side4 A29.out).mono ?_
           (case side1 => exact ZQ ((Kd.R_reads' HO_381000.out).2.2))
           (case side2 => exact (Kd.R_reads' HO_381000.out).2.1)
           (case side3 => exact ZQ ((Kd.V_reads' HO388.out).2.2))
           (case side4 => exact (Kd.V_reads' HO388.out).2.1)
           rintro e w37 ⟨rfl, hb⟩
           refine ⟨_, rfl, ?_⟩
           have n0_ := Aside0.mk (Kd.R_below (ZR HO_381000.out) hb)
           have n1_ := Aside0.mk (Kd.N_below (ZRN HO_381001.out) hb)
           have n2_ := Aside0.mk (Kd.V_below (ZRV HO388.out) hb)
           have n3_ := ZW BK380 hb
           have n4_ := ZT HB hb
           clear HO_381000
           clear HO_381001
           clear HO388
           clear BK380
           clear HB
           have HO_381000 := n0_
           have HO_381001 := n1_
           have HO388 := n2_
           have BK380 := n3_
           have HB := n4_
           clear n0_ n1_ n2_ n3_ n4_
           (try clear hb)
           (try clear hb2)
           (try clear hk)
           (try clear hi)
           have q38 : ((ji26) : Int) ≤ ((t377.length : Int) : Int) := ZD
           obtain ⟨i038, hi038, _, hsz38, _⟩ := info_parts info59
           have hroom38 : t377.length ≤ co13 := (Kd.N_reads' HO_381001.out).2.1
           have hC38 : Kd.F k59 _ _ Ao13 t377.length t377 := (Kd.V_at (base := w.heap.size) (Kd.N_V HO_381001.out)).2.2
           have q038 : (0 : Int) ≤ ((ji26) : Int) := ZD
           have hcut38 := cut_from (P := Try.prog) 24 59 .i64 Try.underlying24 hi038 8 hsz38 Ao13 t377.length co13 (ji26) q038 q38
           have hr38 := Kd.F_cut (m := ((ji26) : Int).toNat) (c := co13) hC38 (by omega) hroom38
           obtain ⟨A38, hA38⟩ : ∃ A1, A1 = (if co13 = ((ji26) : Int).toNat then Ao13 else (Ao13 : Option Addr).map (·.add (((ji26) : Int).toNat * 8))) := ⟨_, rfl⟩
           obtain ⟨c38, hc38⟩ : ∃ c1, c1 = co13 - ((ji26) : Int).toNat := ⟨_, rfl⟩
           have hy38 : y390.length = t377.length - ((ji26) : Int).toNat := (by rw [Ny390.out, List.length_drop] <;> omega)
           rw [show (t377).drop ((ji26) : Int).toNat = y390 from Ny390.out.symm] at hr38
           replace hr38 : Kd.F k59 _ _ A38 y390.length y390 := (by rw [hA38]; exact hr38)
           rw [← hy38, ← hA38, ← hc38] at hcut38
           have HO394 := Aside0.mk (show Kd.V k59 59 _ w.heap.size _ (.slice A38 y390.length c38) y390 from Kd.V_mk (by rw [hy38, hc38]; exact Nat.sub_le_sub_right hroom38 _) hr38)
           have HC394 := Aside0.mk (show y390.length ≤ c38 from by rw [hy38, hc38]; exact Nat.sub_le_sub_right hroom38 _)
           clear hr38 hC38 hroom38 hi038 hsz38 hc38
           have KY38 := Aside0.mk hy38
           have KA38 := Aside0.mk hA38
           clear hy38 hA38
           replace q38 := eq_true q38
           refine hK.out _ _ ⟨(blk_cell BK380.out 0).trans rfl, (blk_cell BK380.out 1).trans rfl⟩ (fun hHeld => ?_)
           clear hK K
           refine ZNO 46 ?_
           refine pure_ (i := 8) (N := some 47) (v := ?_) (a' := ?_) #[true, true, true, true, true, true, true, true, true, false, false, false, false, false, false, false, false, false, false] rfl rfl (any_of HT_.out (by kernel_rfl)) (fun _ _ _ h => h) (Or.inl ⟨by rfl, ?_⟩) ?_ ?_
           rotate_left
           ·intro w'
            go_simp
            with_reducible rfl
           rotate_left
           ·simp only [Act.put, List.setIfInBounds_toArray, List.set_cons_zero, List.set_cons_succ, i64_w, i32_w]
            rfl
           refine pure_ (i := 9) (N := some 48) (v := ?_) (a' := ?_) #[true, true, true, true, true, true, true, true, true, true, false, false, false, false, false, false, false, false, false] rfl rfl (any_of HT_.out (by kernel_rfl)) (fun _ _ _ h => h) (Or.inl ⟨by rfl, ?_⟩) ?_ ?_
           rotate_left
           ·intro w'
            go_simp
            with_reducible rfl
           rotate_left
           ·simp only [Act.put, List.setIfInBounds_toArray, List.set_cons_zero, List.set_cons_succ, i64_w, i32_w]
            rfl
           refine pure_ (i := 11) (N := some 50) (v := ?_) (a' := ?_) #[true, true, true, true, true, true, true, true, true, true, false, true, false, false, false, false, false, false, false] rfl rfl (any_of HT_.out (by kernel_rfl)) (fun _ _ _ h => h) (Or.inl ⟨by rfl, ?_⟩) ?_ ?_
           rotate_left
           ·intro w'
            go_simp
            with_reducible rfl
           rotate_left
           ·simp only [Act.put, List.setIfInBounds_toArray, List.set_cons_zero, List.set_cons_succ, i64_w, i32_w]
            rfl
           refine pure_ (i := 13) (N := some 52) (v := ?_) (a' := ?_) #[true, true, true, true, true, true, true, true, true, true, false, true, false, true, false, false, false, false, false] rfl rfl (any_of HT_.out (by kernel_rfl)) (fun _ _ _ h => h) (Or.inl ⟨by rfl, ?_⟩) ?_ ?_
           rotate_left
           ·intro w'
            go_simp
            with_reducible rfl
           rotate_left
           ·simp only [Act.put, List.setIfInBounds_toArray, List.set_cons_zero, List.set_cons_succ, i64_w, i32_w]
            rfl
           refine take_ (i := 10) (N := some 49) (v := ?_) (a' := ?_) #[true, true, true, true, true, true, true, true, true, true, true, true, false, true, false, false, false, false, false] rfl rfl (take_ofW HT_.out HW_.out (by kernel_rfl)) (fun _ _ _ h => h) (Or.inl ⟨by rfl, ?_⟩) hHeld ?_ ?_
           rotate_left
           ·rintro w' ⟨s0, s1⟩
            go_simp
            with_reducible rfl
           rotate_left
           ·simp only [Act.put, List.setIfInBounds_toArray, List.set_cons_zero, List.set_cons_succ, i64_w, i32_w]
            rfl
           refine take_ (i := 12) (N := some 51) (v := ?_) (a' := ?_) #[true, true, true, true, true, true, true, true, true, true, true, true, true, true, false, false, false, false, false] rfl rfl (take_ofW HT_.out HW_.out (by kernel_rfl)) (fun _ _ _ h => h) (Or.inl ⟨by rfl, ?_⟩) hHeld ?_ ?_
           rotate_left
           ·rintro w' ⟨s0, s1⟩
            go_simp
            with_reducible rfl
           rotate_left
           ·simp only [Act.put, List.setIfInBounds_toArray, List.set_cons_zero, List.set_cons_succ, i64_w, i32_w]
            rfl
           refine pure_ (i := 14) (N := some 53) (v := ?_) (a' := ?_) #[true, true, true, true, true, true, true, true, true, true, true, true, true, true, true, false, false, false, false] rfl rfl (any_of HT_.out (by kernel_rfl)) (fun _ _ _ h => h) (Or.inl ⟨by rfl, ?_⟩) ?_ ?_
           rotate_left
           ·intro w'
            go_simp
            with_reducible rfl
           rotate_left
           ·simp only [Act.put, List.setIfInBounds_toArray, List.set_cons_zero, List.set_cons_succ, i64_w, i32_w]
            rfl
           refine pure_ (i := 15) (N := some 54) (v := ?_) (a' := ?_) #[true, true, true, true, true, true, true, true, true, true, true, true, true, true, true, true, false, false, false] rfl rfl (any_of HT_.out (by kernel_rfl)) (fun _ _ _ h => h) (Or.inl ⟨by rfl, ?_⟩) ?_ ?_
           rotate_left
           ·intro w'
            go_simp
            with_reducible rfl
           rotate_left
           ·simp only [Act.put, List.setIfInBounds_toArray, List.set_cons_zero, List.set_cons_succ, i64_w, i32_w]
            rfl
           refine one_ (i := 16) (N := some 55) #[true, true, true, true, true, true, true, true, true, true, true, true, true, true, true, true, true, false, false] rfl rfl (one_of HT_.out (by kernel_rfl)) (by decide) (fun K hK => ?_)
           refine goes_ Try.func35 (by kernel_rfl) rfl #[.agg #[.slice Ao11 t374.length co11, .slice A38 y390.length c38]] (by rfl) rfl rfl ZG ?_
           with_reducible refine (impl_ProgOk.calls kj7 _ _ t374 _ _ y390 t395 _ ?side1 ?side2 ?side3 ?side4 A33.out).mono ?_
           (case side1 => exact ZQ ((Kd.R_reads' HO_381000.out).2.2))
           (case side2 => exact (Kd.R_reads' HO_381000.out).2.1)
           (case side3 => exact ZQ ((Kd.V_reads' HO394.out).2.2))
           (case side4 => exact (Kd.V_reads' HO394.out).2.1)
           rintro e w39 ⟨rfl, hb⟩
           refine ⟨_, rfl, ?_⟩
           have n0_ := Aside0.mk (Kd.R_below (ZR HO_381000.out) hb)
           have n1_ := Aside0.mk (Kd.N_below (ZRN HO_381001.out) hb)
           have n2_ := Aside0.mk (Kd.V_below (ZRV HO388.out) hb)
           have n3_ := Aside0.mk (Kd.V_below (ZRV HO394.out) hb)
           have n4_ := ZW BK380 hb
           have n5_ := ZT HB hb
           clear HO_381000
           clear HO_381001
           clear HO388
           clear HO394
           clear BK380
           clear HB
           have HO_381000 := n0_
           have HO_381001 := n1_
           have HO388 := n2_
           have HO394 := n3_
           have BK380 := n4_
           have HB := n5_
           clear n0_ n1_ n2_ n3_ n4_ n5_
           (try clear hb)
           (try clear hb2)
           (try clear hk)
           (try clear hi)
           refine hK.out _ _ ⟨(blk_cell BK380.out 0).trans rfl, (blk_cell BK380.out 1).trans rfl⟩ (fun hHeld => ?_)
           clear hK K
           refine ZNO 55 ?_
           refine pure_ (i := 17) (N := some 56) (v := ?_) (a' := ?_) #[true, true, true, true, true, true, true, true, true, true, true, true, true, true, true, true, true, true, false] rfl rfl (any_of HT_.out (by kernel_rfl)) (fun _ _ _ h => h) (Or.inl ⟨by rfl, ?_⟩) ?_ ?_
           rotate_left
           ·intro w'
            go_simp
            with_reducible rfl
           rotate_left
           ·simp only [Act.put, List.setIfInBounds_toArray, List.set_cons_zero, List.set_cons_succ, i64_w, i32_w]
            rfl
           refine pure_ (i := 18) (N := some 4) (v := ?_) (a' := ?_) #[true, true, true, true, true, true, true, true, true, true, true, true, true, true, true, true, true, true, true] rfl rfl (any_of HT_.out (by kernel_rfl)) (fun _ _ _ h => h) (Or.inl ⟨by rfl, ?_⟩) ?_ ?_
           rotate_left
           ·intro w'
            go_simp
            with_reducible rfl
           rotate_left
           ·simp only [Act.put, List.setIfInBounds_toArray, List.set_cons_zero, List.set_cons_succ, i64_w, i32_w]
            rfl
           refine done_ (done_of HT_.out (by kernel_rfl)) ?_
           try go_wp2
           go_ret
           exact ⟨by first | rfl | (simp [errW_none, errW_some] <;> rfl) | (simp only [← hji26]; first | rfl | (simp [errW_none, errW_some] <;> rfl)) | (simp [*, errW_none, errW_some] <;> rfl), ZB⟩
          ·replace c30 := Bool.eq_false_iff.mpr c30
           subst c30
           have H1 : (some false) = some r := by rw [if_neg (show ¬ (false = true) by decide)] at H; exact H
           clear H
           have H := H1
           clear H1
           obtain rfl := Option.some.inj H
           obtain ⟨hcz40_0, hcz40_1⟩ := ZC2 wc BK380
           obtain ⟨hfz40_0, hfz40_1⟩ := ZF2 BK380
           try go_wp2
           have n0_ := Aside0.mk (Kd.R_drew HO_381000.out)
           have n1_ := Aside0.mk (Kd.N_drew HO_381001.out)
           have n2_ := Aside0.mk (blk_drew BK380.out)
           have n3_ := Aside0.mk (below_drew1 HB.out)
           clear HO_381000
           clear HO_381001
           clear BK380
           clear HB
           have HO_381000 := n0_
           have HO_381001 := n1_
           have BK380 := n2_
           have HB := n3_
           clear n0_ n1_ n2_ n3_
           have q42 : ((ji26) : Int) ≤ ((t377.length : Int) : Int) := ZD
           obtain ⟨i042, hi042, _, hsz42, _⟩ := info_parts info59
           have hroom42 : t377.length ≤ co13 := (Kd.N_reads' HO_381001.out).2.1
           have hC42 : Kd.F k59 _ _ Ao13 t377.length t377 := (Kd.V_at (base := w.heap.size) (Kd.N_V HO_381001.out)).2.2
           have hcut42 := cut_to (P := Try.prog) 24 59 .i64 Try.underlying24 hi042 Ao13 t377.length co13 (ji26) (ZD) q42 hroom42
           have hr42 := Kd.F_take (m := ((ji26) : Int).toNat) hC42 (by omega)
           have hy42 : y384.length = ((ji26) : Int).toNat := (by rw [Ny384.out, List.length_take]; omega)
           rw [← Ny384.out] at hr42
           rw [← hy42] at hcut42
           have HO388 := Aside0.mk (show Kd.V k59 59 _ w.heap.size _ (.slice Ao13 y384.length co13) y384 from Kd.V_mk (by omega) hr42)
           have HC388 := Aside0.mk (show y384.length ≤ co13 from by omega)
           clear hr42 hC42 hroom42 hi042 hsz42
           have KY42 := Aside0.mk hy42
           clear hy42
           replace q42 := eq_true q42
           refine start_ (n := 19) (S := fun w' => w'.cell? ⟨gb380, 0, none⟩ = some (.slice Ao11 t374.length co11) ∧ w'.cell? ⟨gb380, 1, none⟩ = some (.slice Ao13 t377.length co13)) (ds := []) #[false, false, false, false, false, false, false, false, false, false, false, false, false, false, false, false, false, false, false] (by kernel_rfl) rfl rfl ⟨(blk_cell BK380.out 0).trans rfl, (blk_cell BK380.out 1).trans rfl⟩ (fun hHeld => ?_); refine with_tabW laws_FnProgLess.tab8 laws_FnProgLess.bits8 (fun HT_ HW_ => ?_)
           generalize wc.drew = w41 at HO_381000 HO_381001 BK380 HB HO388 hHeld ⊢
           refine pure_ (i := 0) (N := some 39) (v := ?_) (a' := ?_) #[true, false, false, false, false, false, false, false, false, false, false, false, false, false, false, false, false, false, false] rfl rfl (any_of HT_.out (by kernel_rfl)) (fun _ _ _ h => h) (Or.inl ⟨by rfl, ?_⟩) ?_ ?_
           rotate_left
           ·intro w'
            go_simp
            with_reducible rfl
           rotate_left
           ·simp only [Act.put, List.setIfInBounds_toArray, List.set_cons_zero, List.set_cons_succ, i64_w, i32_w]
            rfl
           refine pure_ (i := 2) (N := some 41) (v := ?_) (a' := ?_) #[true, false, true, false, false, false, false, false, false, false, false, false, false, false, false, false, false, false, false] rfl rfl (any_of HT_.out (by kernel_rfl)) (fun _ _ _ h => h) (Or.inl ⟨by rfl, ?_⟩) ?_ ?_
           rotate_left
           ·intro w'
            go_simp
            with_reducible rfl
           rotate_left
           ·simp only [Act.put, List.setIfInBounds_toArray, List.set_cons_zero, List.set_cons_succ, i64_w, i32_w]
            rfl
           refine pure_ (i := 4) (N := some 43) (v := ?_) (a' := ?_) #[true, false, true, false, true, false, false, false, false, false, false, false, false, false, false, false, false, false, false] rfl rfl (any_of HT_.out (by kernel_rfl)) (fun _ _ _ h => h) (Or.inl ⟨by rfl, ?_⟩) ?_ ?_
           rotate_left
           ·intro w'
            go_simp
            with_reducible rfl
           rotate_left
           ·simp only [Act.put, List.setIfInBounds_toArray, List.set_cons_zero, List.set_cons_succ, i64_w, i32_w]
            rfl
           refine take_ (i := 1) (N := some 40) (v := ?_) (a' := ?_) #[true, true, true, false, true, false, false, false, false, false, false, false, false, false, false, false, false, false, false] rfl rfl (take_ofW HT_.out HW_.out (by kernel_rfl)) (fun _ _ _ h => h) (Or.inl ⟨by rfl, ?_⟩) hHeld ?_ ?_
           rotate_left
           ·rintro w' ⟨s0, s1⟩
            go_simp
            with_reducible rfl
           rotate_left
           ·simp only [Act.put, List.setIfInBounds_toArray, List.set_cons_zero, List.set_cons_succ, i64_w, i32_w]
            rfl
           refine take_ (i := 3) (N := some 42) (v := ?_) (a' := ?_) #[true, true, true, true, true, false, false, false, false, false, false, false, false, false, false, false, false, false, false] rfl rfl (take_ofW HT_.out HW_.out (by kernel_rfl)) (fun _ _ _ h => h) (Or.inl ⟨by rfl, ?_⟩) hHeld ?_ ?_
           rotate_left
           ·rintro w' ⟨s0, s1⟩
            go_simp
            with_reducible rfl
           rotate_left
           ·simp only [Act.put, List.setIfInBounds_toArray, List.set_cons_zero, List.set_cons_succ, i64_w, i32_w]
            rfl
           refine pure_ (i := 5) (N := some 44) (v := ?_) (a' := ?_) #[true, true, true, true, true, true, false, false, false, false, false, false, false, false, false, false, false, false, false] rfl rfl (any_of HT_.out (by kernel_rfl)) (fun _ _ _ h => h) (Or.inl ⟨by rfl, ?_⟩) ?_ ?_
           rotate_left
           ·intro w'
            go_simp
            with_reducible rfl
           rotate_left
           ·simp only [Act.put, List.setIfInBounds_toArray, List.set_cons_zero, List.set_cons_succ, i64_w, i32_w]
            rfl
           refine pure_ (i := 6) (N := some 45) (v := ?_) (a' := ?_) #[true, true, true, true, true, true, true, false, false, false, false, false, false, false, false, false, false, false, false] rfl rfl (any_of HT_.out (by kernel_rfl)) (fun _ _ _ h => h) (Or.inl ⟨by rfl, ?_⟩) ?_ ?_
           rotate_left
           ·intro w'
            go_simp
            with_reducible rfl
           rotate_left
           ·simp only [Act.put, List.setIfInBounds_toArray, List.set_cons_zero, List.set_cons_succ, i64_w, i32_w]
            rfl
           refine one_ (i := 7) (N := some 46) #[true, true, true, true, true, true, true, true, false, false, false, false, false, false, false, false, false, false, false] rfl rfl (one_of HT_.out (by kernel_rfl)) (by decide) (fun K hK => ?_)
           refine goes_ Try.func35 (by kernel_rfl) rfl #[.agg #[.slice Ao11 t374.length co11, .slice Ao13 y384.length co13]] (by rfl) rfl rfl ZG ?_
           with_reducible refine (impl_ProgOk.calls kj7 _ _ t374 _ _ y384 false _ ?side1 ?side2 ?side3 ?side4 A29.out).mono ?_
           (case side1 => exact ZQ ((Kd.R_reads' HO_381000.out).2.2))
           (case side2 => exact (Kd.R_reads' HO_381000.out).2.1)
           (case side3 => exact ZQ ((Kd.V_reads' HO388.out).2.2))
           (case side4 => exact (Kd.V_reads' HO388.out).2.1)
           rintro e w43 ⟨rfl, hb⟩
           refine ⟨_, rfl, ?_⟩
           have n0_ := Aside0.mk (Kd.R_below (ZR HO_381000.out) hb)
           have n1_ := Aside0.mk (Kd.N_below (ZRN HO_381001.out) hb)
           have n2_ := Aside0.mk (Kd.V_below (ZRV HO388.out) hb)
           have n3_ := ZW BK380 hb
           have n4_ := ZT HB hb
           clear HO_381000
           clear HO_381001
           clear HO388
           clear BK380
           clear HB
           have HO_381000 := n0_
           have HO_381001 := n1_
           have HO388 := n2_
           have BK380 := n3_
           have HB := n4_
           clear n0_ n1_ n2_ n3_ n4_
           (try clear hb)
           (try clear hb2)
           (try clear hk)
           (try clear hi)
           refine hK.out _ _ ⟨(blk_cell BK380.out 0).trans rfl, (blk_cell BK380.out 1).trans rfl⟩ (fun hHeld => ?_)
           clear hK K
           refine ZNO 46 ?_
           refine pure_ (i := 8) (N := some 47) (v := ?_) (a' := ?_) #[true, true, true, true, true, true, true, true, true, false, false, false, false, false, false, false, false, false, false] rfl rfl (any_of HT_.out (by kernel_rfl)) (fun _ _ _ h => h) (Or.inl ⟨by rfl, ?_⟩) ?_ ?_
           rotate_left
           ·intro w'
            go_simp
            with_reducible rfl
           rotate_left
           ·simp only [Act.put, List.setIfInBounds_toArray, List.set_cons_zero, List.set_cons_succ, i64_w, i32_w]
            rfl
           refine pure_ (i := 9) (N := some 48) (v := undef) (a' := ?_) #[true, true, true, true, true, true, true, true, true, true, false, false, false, false, false, false, false, false, false] rfl rfl (any_of HT_.out (by kernel_rfl)) (fun _ _ _ h => h) (Or.inr ⟨by rfl, rfl⟩) ?_ ?_
           rotate_left
           ·simp only [Act.put, List.setIfInBounds_toArray, List.set_cons_zero, List.set_cons_succ, i64_w, i32_w]
            rfl
           refine pure_ (i := 10) (N := some 49) (v := undef) (a' := ?_) #[true, true, true, true, true, true, true, true, true, true, true, false, false, false, false, false, false, false, false] rfl rfl (any_of HT_.out (by kernel_rfl)) (fun _ _ _ h => h) (Or.inr ⟨by rfl, rfl⟩) ?_ ?_
           rotate_left
           ·simp only [Act.put, List.setIfInBounds_toArray, List.set_cons_zero, List.set_cons_succ, i64_w, i32_w]
            rfl
           refine pure_ (i := 11) (N := some 50) (v := undef) (a' := ?_) #[true, true, true, true, true, true, true, true, true, true, true, true, false, false, false, false, false, false, false] rfl rfl (any_of HT_.out (by kernel_rfl)) (fun _ _ _ h => h) (Or.inr ⟨by rfl, rfl⟩) ?_ ?_
           rotate_left
           ·simp only [Act.put, List.setIfInBounds_toArray, List.set_cons_zero, List.set_cons_succ, i64_w, i32_w]
            rfl
           refine pure_ (i := 12) (N := some 51) (v := undef) (a' := ?_) #[true, true, true, true, true, true, true, true, true, true, true, true, true, false, false, false, false, false, false] rfl rfl (any_of HT_.out (by kernel_rfl)) (fun _ _ _ h => h) (Or.inr ⟨by rfl, rfl⟩) ?_ ?_
           rotate_left
           ·simp only [Act.put, List.setIfInBounds_toArray, List.set_cons_zero, List.set_cons_succ, i64_w, i32_w]
            rfl
           refine pure_ (i := 13) (N := some 52) (v := undef) (a' := ?_) #[true, true, true, true, true, true, true, true, true, true, true, true, true, true, false, false, false, false, false] rfl rfl (any_of HT_.out (by kernel_rfl)) (fun _ _ _ h => h) (Or.inr ⟨by rfl, rfl⟩) ?_ ?_
           rotate_left
           ·simp only [Act.put, List.setIfInBounds_toArray, List.set_cons_zero, List.set_cons_succ, i64_w, i32_w]
            rfl
           refine pure_ (i := 14) (N := some 53) (v := undef) (a' := ?_) #[true, true, true, true, true, true, true, true, true, true, true, true, true, true, true, false, false, false, false] rfl rfl (any_of HT_.out (by kernel_rfl)) (fun _ _ _ h => h) (Or.inr ⟨by rfl, rfl⟩) ?_ ?_
           rotate_left
           ·simp only [Act.put, List.setIfInBounds_toArray, List.set_cons_zero, List.set_cons_succ, i64_w, i32_w]
            rfl
           refine pure_ (i := 15) (N := some 54) (v := undef) (a' := ?_) #[true, true, true, true, true, true, true, true, true, true, true, true, true, true, true, true, false, false, false] rfl rfl (any_of HT_.out (by kernel_rfl)) (fun _ _ _ h => h) (Or.inr ⟨by rfl, rfl⟩) ?_ ?_
           rotate_left
           ·simp only [Act.put, List.setIfInBounds_toArray, List.set_cons_zero, List.set_cons_succ, i64_w, i32_w]
            rfl
           refine pure_ (i := 16) (N := some 55) (v := undef) (a' := ?_) #[true, true, true, true, true, true, true, true, true, true, true, true, true, true, true, true, true, false, false] rfl rfl (any_of HT_.out (by kernel_rfl)) (fun _ _ _ h => h) (Or.inr ⟨by rfl, rfl⟩) ?_ ?_
           rotate_left
           ·simp only [Act.put, List.setIfInBounds_toArray, List.set_cons_zero, List.set_cons_succ, i64_w, i32_w]
            rfl
           refine pure_ (i := 17) (N := some 56) (v := ?_) (a' := ?_) #[true, true, true, true, true, true, true, true, true, true, true, true, true, true, true, true, true, true, false] rfl rfl (any_of HT_.out (by kernel_rfl)) (fun _ _ _ h => h) (Or.inl ⟨by rfl, ?_⟩) ?_ ?_
           rotate_left
           ·intro w'
            go_simp
            with_reducible rfl
           rotate_left
           ·simp only [Act.put, List.setIfInBounds_toArray, List.set_cons_zero, List.set_cons_succ, i64_w, i32_w]
            rfl
           refine pure_ (i := 18) (N := some 4) (v := ?_) (a' := ?_) #[true, true, true, true, true, true, true, true, true, true, true, true, true, true, true, true, true, true, true] rfl rfl (any_of HT_.out (by kernel_rfl)) (fun _ _ _ h => h) (Or.inl ⟨by rfl, ?_⟩) ?_ ?_
           rotate_left
           ·intro w'
            go_simp
            with_reducible rfl
           rotate_left
           ·simp only [Act.put, List.setIfInBounds_toArray, List.set_cons_zero, List.set_cons_succ, i64_w, i32_w]
            rfl
           refine done_ (done_of HT_.out (by kernel_rfl)) ?_
           try go_wp2
           go_ret
           exact ⟨by first | rfl | (simp [errW_none, errW_some] <;> rfl) | (simp only [← hji26]; first | rfl | (simp [errW_none, errW_some] <;> rfl)) | (simp [*, errW_none, errW_some] <;> rfl), ZB⟩
         ·rw [if_neg c28] at H
          exact absurd H (by simp)
        ·rw [if_neg c27] at H
         exact absurd H (by simp)

end Go.Proofs.Ytcffnnedghgmaaa.A
