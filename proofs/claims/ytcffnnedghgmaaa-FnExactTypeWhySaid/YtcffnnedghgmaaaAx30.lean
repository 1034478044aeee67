/- What Go functions compute, as Lean functions, and for each its contract: for every input at which the Lean function answers the call returns that; written by wip/tools/pr.py over the kit's print. -/
import Derived.Test.YtcffnnedghgmaaaAx0
import Derived.Test.YtcffnnedghgmaaaAx23
import Derived.Test.YtcffnnedghgmaaaAx24
import Derived.Test.YtcffnnedghgmaaaAx28
import Derived.Test.YtcffnnedghgmaaaAx29
namespace Go.Proofs.Ytcffnnedghgmaaa.A
open Go.RowKit Go.Proofs.YtcffnnedghgmaaaW.PrintWords Go.Proofs.YtcffnnedghgmaaaW.PrintLast Go.Proofs.YtcffnnedghgmaaaW.PrintMore
attribute [local go_sem] max2_int min2_int max_two min_two max_three min_three max_four min_four   -- for this text's walks alone
set_option linter.unusedVariables false
set_option linter.unusedSimpArgs false

/-! ### spec_l11Fine: function 117 -/
def spec_l11Fine.f (k : Nat) (l0_0 : List (S35)) (l0_1 : List (S59)) (a1_0 : Int) (a1_1 : Int) (a1_2 : Int) (a1_3 : Int) (a1_4 : Int) (a1_5 : Int) (l1_6 : List (S59)) (l1_7 : List (S59)) (a2_0 : Int) (a2_1 : Int) : Option (Bool) := if a1_0 = 1 then ((spec_l11Val.f k l0_0 l0_1 a1_2 a1_3 a1_4).bind fun bt447 => ((spec_LabelBoth.f k a2_0 a2_1 bt447.1 bt447.2).bind fun bt449 => (if 0 ≤ a1_1 then (if a1_1 < (l0_0.length : Int) then ((spec_LabelFlows.f k bt449.1 bt449.2 ((rd_T35 l0_0 a1_1).f0) ((rd_T35 l0_0 a1_1).f1)).bind fun t452 => (some t452)) else (none)) else (none)))) else (if a1_0 = 3 then (if 0 ≤ a1_1 then (if a1_1 < (l0_0.length : Int) then ((spec_l1Both.f k a2_0 ((rd_T35 l0_0 a1_1).f0)).bind fun t454 => ((spec_l1Has.f t454 a1_5).bind fun t455 => (some t455))) else (none)) else (none)) else (some true))
def spec_l11Fine.T3 : Bool × List (List Nat × List Nat) := (true, [([], []), ([], []), ([], []), ([2], [2]), ([1, 3], [1, 3]), ([0, 4, 4], [0, 4]), ([], []), ([6], [6]), ([], []), ([8], [8]), ([7, 9], [7, 9]), ([10], [10]), ([5, 11, 5], [5, 11]), ([12, 12, 0, 1, 2, 3, 4, 5, 6, 7, 8, 9, 10, 11, 12], [12])])
def spec_l11Fine.B3 : List Nat := [0, 0, 0, 4, 14, 31, 0, 64, 0, 256, 960, 1984, 4095, 8191]
theorem spec_l11Fine.tab3 : rtab .any (opsOf Try.f117 3) = spec_l11Fine.T3 := by kernel_rfl
theorem spec_l11Fine.bits3 : waitsOk spec_l11Fine.T3.2 spec_l11Fine.B3 = true := by kernel_rfl
def spec_l11Fine.T5 : Bool × List (List Nat × List Nat) := (true, [([], []), ([0], [0]), ([], []), ([2], [2]), ([], []), ([4], [4]), ([3, 5], [3, 5]), ([6], [6]), ([7], [7]), ([1, 8], [1, 8]), ([], []), ([10], [10]), ([9, 11, 9], [9, 11]), ([12, 12, 0, 1, 2, 3, 4, 5, 6, 7, 8, 9, 10, 11, 12], [12])])
def spec_l11Fine.B5 : List Nat := [0, 1, 0, 4, 0, 16, 60, 124, 252, 511, 0, 1024, 4095, 8191]
theorem spec_l11Fine.tab5 : rtab .any (opsOf Try.f117 5) = spec_l11Fine.T5 := by kernel_rfl
theorem spec_l11Fine.bits5 : waitsOk spec_l11Fine.T5.2 spec_l11Fine.B5 = true := by kernel_rfl
set_option maxHeartbeats 8000000 in
set_option maxRecDepth 100000 in
theorem spec_l11Fine.calls (k : Nat) (A0_0 : Option Addr) (c0_0 : Nat) (l0_0 : List (S35)) (A0_1 : Option Addr) (c0_1 : Nat) (l0_1 : List (S59)) (a1_0 : Int) (a1_1 : Int) (a1_2 : Int) (a1_3 : Int) (a1_4 : Int) (a1_5 : Int) (A1_6 : Option Addr) (c1_6 : Nat) (l1_6 : List (S59)) (A1_7 : Option Addr) (c1_7 : Nat) (l1_7 : List (S59)) (a2_0 : Int) (a2_1 : Int) (r : Bool) (w : World) (hr0_0 : Kd.C k35 w A0_0 l0_0.length l0_0) (hc0_0 : l0_0.length ≤ c0_0) (hr0_1 : Kd.C k59 w A0_1 l0_1.length l0_1) (hc0_1 : l0_1.length ≤ c0_1) (hr1_6 : Kd.C k59 w A1_6 l1_6.length l1_6) (hc1_6 : l1_6.length ≤ c1_6) (hr1_7 : Kd.C k59 w A1_7 l1_7.length l1_7) (hc1_7 : l1_7.length ≤ c1_7) (h : spec_l11Fine.f k l0_0 l0_1 a1_0 a1_1 a1_2 a1_3 a1_4 a1_5 l1_6 l1_7 a2_0 a2_1 = some r) :
  Calls Try.prog 117 #[.agg #[.slice A0_0 l0_0.length c0_0, .slice A0_1 l0_1.length c0_1], .agg #[.int .i64 a1_0, .int .i64 a1_1, .int .i64 a1_2, .int .i64 a1_3, .int .i64 a1_4, .int .i64 a1_5, .slice A1_6 l1_6.length c1_6, .slice A1_7 l1_7.length c1_7], .agg #[.int .i64 a2_0, .int .i64 a2_1]] w fun e w' => e = .returned (.bool r) ∧ Below w.heap.size w w' := by
 have hu26 := Try.underlying26
 have hu59 := Try.underlying59
 have hu35 := Try.underlying35
 have hu57 := Try.underlying57
 have HR0_0 := Aside0.mk hr0_0
 have HC0_0 := Aside0.mk hc0_0
 clear hr0_0 hc0_0
 have HR0_1 := Aside0.mk hr0_1
 have HC0_1 := Aside0.mk hc0_1
 clear hr0_1 hc0_1
 have HR1_6 := Aside0.mk hr1_6
 have HC1_6 := Aside0.mk hc1_6
 clear hr1_6 hc1_6
 have HR1_7 := Aside0.mk hr1_7
 have HC1_7 := Aside0.mk hc1_7
 clear hr1_7 hc1_7
 have HB := Aside0.mk (Below.refl w.heap.size w)
 have H : (if a1_0 = 1 then ((spec_l11Val.f k l0_0 l0_1 a1_2 a1_3 a1_4).bind fun bt447 => ((spec_LabelBoth.f k a2_0 a2_1 bt447.1 bt447.2).bind fun bt449 => (if 0 ≤ a1_1 then (if a1_1 < (l0_0.length : Int) then ((spec_LabelFlows.f k bt449.1 bt449.2 ((rd_T35 l0_0 a1_1).f0) ((rd_T35 l0_0 a1_1).f1)).bind fun t452 => (some t452)) else (none)) else (none)))) else (if a1_0 = 3 then (if 0 ≤ a1_1 then (if a1_1 < (l0_0.length : Int) then ((spec_l1Both.f k a2_0 ((rd_T35 l0_0 a1_1).f0)).bind fun t454 => ((spec_l1Has.f t454 a1_5).bind fun t455 => (some t455))) else (none)) else (none)) else (some true))) = some r := h
 clear h
 by_cases c4 : a1_0 = 1
 ·rw [if_pos c4] at H
  have c4b0 : (a1_0 == 1) = true := beq_iff_eq.mpr c4
  have c4b1 : (a1_0 != 1) = false := bne_eq_false_iff_eq.mpr c4
  clear c4
  replace H := Option.bind_eq_some_iff.mp H
  obtain ⟨⟨t447, t448⟩, A50, H⟩ := H
  replace H : ((spec_LabelBoth.f k a2_0 a2_1 t447 t448).bind fun bt449 => (if 0 ≤ a1_1 then (if a1_1 < (l0_0.length : Int) then ((spec_LabelFlows.f k bt449.1 bt449.2 ((rd_T35 l0_0 a1_1).f0) ((rd_T35 l0_0 a1_1).f1)).bind fun t452 => (some t452)) else (none)) else (none))) = some r := H
  have A5 := Aside0.mk A50
  clear A50
  replace H := Option.bind_eq_some_iff.mp H
  obtain ⟨⟨t449, t450⟩, A60, H⟩ := H
  replace H : (if 0 ≤ a1_1 then (if a1_1 < (l0_0.length : Int) then ((spec_LabelFlows.f k t449 t450 ((rd_T35 l0_0 a1_1).f0) ((rd_T35 l0_0 a1_1).f1)).bind fun t452 => (some t452)) else (none)) else (none)) = some r := H
  have A6 := Aside0.mk A60
  clear A60
  by_cases c7 : 0 ≤ a1_1
  ·rw [if_pos c7] at H
   have c7b0 : decide (0 ≤ a1_1) = true := decide_eq_true c7
   clear c7
   by_cases c8 : a1_1 < (l0_0.length : Int)
   ·rw [if_pos c8] at H
    have c8b0 : decide (a1_1 < (l0_0.length : Int)) = true := decide_eq_true c8
    clear c8
    replace H := Option.bind_eq_some_iff.mp H
    obtain ⟨t452, A90, H⟩ := H
    replace H : (some t452) = some r := H
    have A9 := Aside0.mk A90
    clear A90
    obtain rfl := Option.some.inj H
    go_enter Try.func117, Try.ntmps117
    try go_wp2_with (first | ((with_reducible refine gate_dst (N := 3) rfl ?_); refine ZX (N := 3) (cs := #[.slice A0_0 l0_0.length c0_0, .slice A0_1 l0_1.length c0_1]) (t := 26) ?_; intro gb444 hg w10 hbox hb; have BK444 := Aside0.mk (hbox); have GW444 : Aside0 (w.heap.size ≤ gb444) := ZS hg; have GE444 : Aside0 (w.heap.size ≤ gb444) := ZS hg; replace HB := ZT hb; clear hb hbox hg) | ((with_reducible refine gate_dst (N := 4) rfl ?_); refine ZX (N := 4) (cs := #[.int .i64 a1_0, .int .i64 a1_1, .int .i64 a1_2, .int .i64 a1_3, .int .i64 a1_4, .int .i64 a1_5, .slice A1_6 l1_6.length c1_6, .slice A1_7 l1_7.length c1_7]) (t := 59) ?_; intro gb445 hg w11 hbox hb; have BK445 := Aside0.mk (hbox); have GW445 : Aside0 (w.heap.size ≤ gb445) := ZS hg; have GE445 : Aside0 (w.heap.size ≤ gb445) := ZS hg; have NB444_445 : Aside0 (gb444 ≠ gb445) := ZN hg BK444; have NB445_444 : Aside0 (gb445 ≠ gb444) := ZM hg BK444; replace BK444 := ZW BK444 hb; replace HB := ZT hb; clear hb hbox hg) | ((with_reducible refine gate_dst (N := 5) rfl ?_); refine ZX (N := 5) (cs := #[.int .i64 a2_0, .int .i64 a2_1]) (t := 35) ?_; intro gb446 hg w12 hbox hb; have BK446 := Aside0.mk (hbox); have GW446 : Aside0 (w.heap.size ≤ gb446) := ZS hg; have GE446 : Aside0 (w.heap.size ≤ gb446) := ZS hg; have NB444_446 : Aside0 (gb444 ≠ gb446) := ZN hg BK444; have NB446_444 : Aside0 (gb446 ≠ gb444) := ZM hg BK444; have NB445_446 : Aside0 (gb445 ≠ gb446) := ZN hg BK445; have NB446_445 : Aside0 (gb446 ≠ gb445) := ZM hg BK445; replace BK444 := ZW BK444 hb; replace BK445 := ZW BK445 hb; replace HB := ZT hb; clear hb hbox hg; have hnb13 := NB445_444.out; have hnc13 := NB444_445.out; have hnb14 := NB445_446.out; have hnc14 := NB446_445.out; obtain ⟨hcz15_0, hcz15_1, hcz15_2, hcz15_3, hcz15_4, hcz15_5, hcz15_6, hcz15_7⟩ := ZC8 w12 BK445; obtain ⟨hfz15_0, hfz15_1, hfz15_2, hfz15_3, hfz15_4, hfz15_5, hfz15_6, hfz15_7⟩ := ZF8 BK445))
    have n0_ := Aside0.mk (blk_drew BK444.out)
    have n1_ := Aside0.mk (blk_drew BK445.out)
    have n2_ := Aside0.mk (blk_drew BK446.out)
    have n3_ := Aside0.mk (below_drew1 HB.out)
    clear BK444
    clear BK445
    clear BK446
    clear HB
    have BK444 := n0_
    have BK445 := n1_
    have BK446 := n2_
    have HB := n3_
    clear n0_ n1_ n2_ n3_
    have p451 : 0 ≤ (a1_1 : Int) := ZD
    have q451 : a1_1 < (l0_0.length : Int) := ZD
    obtain ⟨ad451, e451, hx451_0, hx451_1⟩ := at_T35 HR0_0.out a1_1 p451 q451
    have hw451_1 := hx451_1
    have hw451_0 := hx451_0
    cases e451
    replace hx451_0 := (HB.out.cell (World.block_lt_of_cell? w _ hx451_0)).trans hx451_0
    replace hx451_1 := (HB.out.cell (World.block_lt_of_cell? w _ hx451_1)).trans hx451_1
    replace p451 := eq_true p451
    replace q451 := eq_true q451
    refine start_ (n := 14) (S := fun w' => w'.cell? ⟨gb446, 0, none⟩ = some (.int .i64 a2_0) ∧ w'.cell? ⟨gb446, 1, none⟩ = some (.int .i64 a2_1) ∧ w'.cell? ⟨gb444, 0, none⟩ = some (.slice (some ad451) l0_0.length c0_0) ∧ w'.cell? ⟨gb444, 1, none⟩ = some (.slice A0_1 l0_1.length c0_1) ∧ w'.cell? ⟨gb445, 0, none⟩ = some (.int .i64 a1_0) ∧ w'.cell? ⟨gb445, 1, none⟩ = some (.int .i64 a1_1) ∧ w'.cell? ⟨gb445, 2, none⟩ = some (.int .i64 a1_2) ∧ w'.cell? ⟨gb445, 3, none⟩ = some (.int .i64 a1_3) ∧ w'.cell? ⟨gb445, 4, none⟩ = some (.int .i64 a1_4) ∧ w'.cell? ⟨gb445, 5, none⟩ = some (.int .i64 a1_5) ∧ w'.cell? ⟨gb445, 6, none⟩ = some (.slice A1_6 l1_6.length c1_6) ∧ w'.cell? ⟨gb445, 7, none⟩ = some (.slice A1_7 l1_7.length c1_7) ∧ w'.cell? (ad451.add ((a1_1).toNat * 2)) = some (.int .i64 ((rd_T35 l0_0 a1_1).f0)) ∧ w'.cell? ⟨(ad451.add ((a1_1).toNat * 2)).block, (ad451.add ((a1_1).toNat * 2)).off + 1, none⟩ = some (.int .i64 ((rd_T35 l0_0 a1_1).f1))) (ds := []) #[false, false, false, false, false, false, false, false, false, false, false, false, false, false] (by kernel_rfl) rfl rfl ⟨(blk_cell BK446.out 0).trans rfl, (blk_cell BK446.out 1).trans rfl, (blk_cell BK444.out 0).trans rfl, (blk_cell BK444.out 1).trans rfl, (blk_cell BK445.out 0).trans rfl, (blk_cell BK445.out 1).trans rfl, (blk_cell BK445.out 2).trans rfl, (blk_cell BK445.out 3).trans rfl, (blk_cell BK445.out 4).trans rfl, (blk_cell BK445.out 5).trans rfl, (blk_cell BK445.out 6).trans rfl, (blk_cell BK445.out 7).trans rfl, ((HB.out.cell (World.block_lt_of_cell? w _ hw451_0)).trans hw451_0), ((HB.out.cell (World.block_lt_of_cell? w _ hw451_1)).trans hw451_1)⟩ (fun hHeld => ?_); refine with_tabW spec_l11Fine.tab3 spec_l11Fine.bits3 (fun HT_ HW_ => ?_)
    generalize w12.drew = w16 at BK444 BK445 BK446 HB hx451_0 hx451_1 hHeld ⊢
    refine pure_ (i := 2) (N := some 13) (v := ?_) (a' := ?_) #[false, false, true, false, false, false, false, false, false, false, false, false, false, false] rfl rfl (any_of HT_.out (by kernel_rfl)) (fun _ _ _ h => h) (Or.inl ⟨by rfl, ?_⟩) ?_ ?_
    rotate_left
    ·intro w'
     go_simp
     with_reducible rfl
    rotate_left
    ·simp only [Act.put, List.setIfInBounds_toArray, List.set_cons_zero, List.set_cons_succ, i64_w, i32_w]
     rfl
    refine pure_ (i := 6) (N := some 17) (v := ?_) (a' := ?_) #[false, false, true, false, false, false, true, false, false, false, false, false, false, false] rfl rfl (any_of HT_.out (by kernel_rfl)) (fun _ _ _ h => h) (Or.inl ⟨by rfl, ?_⟩) ?_ ?_
    rotate_left
    ·intro w'
     go_simp
     with_reducible rfl
    rotate_left
    ·simp only [Act.put, List.setIfInBounds_toArray, List.set_cons_zero, List.set_cons_succ, i64_w, i32_w]
     rfl
    refine pure_ (i := 8) (N := some 19) (v := ?_) (a' := ?_) #[false, false, true, false, false, false, true, false, true, false, false, false, false, false] rfl rfl (any_of HT_.out (by kernel_rfl)) (fun _ _ _ h => h) (Or.inl ⟨by rfl, ?_⟩) ?_ ?_
    rotate_left
    ·intro w'
     go_simp
     with_reducible rfl
    rotate_left
    ·simp only [Act.put, List.setIfInBounds_toArray, List.set_cons_zero, List.set_cons_succ, i64_w, i32_w]
     rfl
    refine take_ (i := 0) (N := some 11) (v := ?_) (a' := ?_) #[true, false, true, false, false, false, true, false, true, false, false, false, false, false] rfl rfl (take_ofW HT_.out HW_.out (by kernel_rfl)) (fun _ _ _ h => h) (Or.inl ⟨by rfl, ?_⟩) hHeld ?_ ?_
    rotate_left
    ·rintro w' ⟨s0, s1, s2, s3, s4, s5, s6, s7, s8, s9, s10, s11, s12, s13⟩
     go_simp
     with_reducible rfl
    rotate_left
    ·simp only [Act.put, List.setIfInBounds_toArray, List.set_cons_zero, List.set_cons_succ, i64_w, i32_w]
     rfl
    refine take_ (i := 1) (N := some 12) (v := ?_) (a' := ?_) #[true, true, true, false, false, false, true, false, true, false, false, false, false, false] rfl rfl (take_ofW HT_.out HW_.out (by kernel_rfl)) (fun _ _ _ h => h) (Or.inl ⟨by rfl, ?_⟩) hHeld ?_ ?_
    rotate_left
    ·rintro w' ⟨s0, s1, s2, s3, s4, s5, s6, s7, s8, s9, s10, s11, s12, s13⟩
     go_simp
     with_reducible rfl
    rotate_left
    ·simp only [Act.put, List.setIfInBounds_toArray, List.set_cons_zero, List.set_cons_succ, i64_w, i32_w]
     rfl
    refine take_ (i := 3) (N := some 14) (v := ?_) (a' := ?_) #[true, true, true, true, false, false, true, false, true, false, false, false, false, false] rfl rfl (take_ofW HT_.out HW_.out (by kernel_rfl)) (fun _ _ _ h => h) (Or.inl ⟨by rfl, ?_⟩) hHeld ?_ ?_
    rotate_left
    ·rintro w' ⟨s0, s1, s2, s3, s4, s5, s6, s7, s8, s9, s10, s11, s12, s13⟩
     go_simp
     with_reducible rfl
    rotate_left
    ·simp only [Act.put, List.setIfInBounds_toArray, List.set_cons_zero, List.set_cons_succ, i64_w, i32_w]
     rfl
    refine take_ (i := 7) (N := some 18) (v := ?_) (a' := ?_) #[true, true, true, true, false, false, true, true, true, false, false, false, false, false] rfl rfl (take_ofW HT_.out HW_.out (by kernel_rfl)) (fun _ _ _ h => h) (Or.inl ⟨by rfl, ?_⟩) hHeld ?_ ?_
    rotate_left
    ·rintro w' ⟨s0, s1, s2, s3, s4, s5, s6, s7, s8, s9, s10, s11, s12, s13⟩
     go_simp
     with_reducible rfl
    rotate_left
    ·simp only [Act.put, List.setIfInBounds_toArray, List.set_cons_zero, List.set_cons_succ, i64_w, i32_w]
     rfl
    refine take_ (i := 9) (N := some 20) (v := ?_) (a' := ?_) #[true, true, true, true, false, false, true, true, true, true, false, false, false, false] rfl rfl (take_ofW HT_.out HW_.out (by kernel_rfl)) (fun _ _ _ h => h) (Or.inl ⟨by rfl, ?_⟩) hHeld ?_ ?_
    rotate_left
    ·rintro w' ⟨s0, s1, s2, s3, s4, s5, s6, s7, s8, s9, s10, s11, s12, s13⟩
     go_simp
     with_reducible rfl
    rotate_left
    ·simp only [Act.put, List.setIfInBounds_toArray, List.set_cons_zero, List.set_cons_succ, i64_w, i32_w]
     rfl
    refine pure_ (i := 10) (N := some 21) (v := ?_) (a' := ?_) #[true, true, true, true, false, false, true, true, true, true, true, false, false, false] rfl rfl (any_of HT_.out (by kernel_rfl)) (fun _ _ _ h => h) (Or.inl ⟨by rfl, ?_⟩) ?_ ?_
    rotate_left
    ·intro w'
     go_simp
     with_reducible rfl
    rotate_left
    ·simp only [Act.put, List.setIfInBounds_toArray, List.set_cons_zero, List.set_cons_succ, i64_w, i32_w]
     rfl
    refine take_ (i := 11) (N := some 22) (v := ?_) (a' := ?_) #[true, true, true, true, false, false, true, true, true, true, true, true, false, false] rfl rfl (take_ofW HT_.out HW_.out (by kernel_rfl)) (fun _ _ _ h => h) (Or.inl ⟨by rfl, ?_⟩) hHeld ?_ ?_
    rotate_left
    ·rintro w' ⟨s0, s1, s2, s3, s4, s5, s6, s7, s8, s9, s10, s11, s12, s13⟩
     go_simp
     with_reducible rfl
    rotate_left
    ·simp only [Act.put, List.setIfInBounds_toArray, List.set_cons_zero, List.set_cons_succ, i64_w, i32_w]
     rfl
    refine one_ (i := 4) (N := some 15) #[true, true, true, true, true, false, true, true, true, true, true, true, false, false] rfl rfl (one_of HT_.out (by kernel_rfl)) (by decide) (fun K hK => ?_)
    refine goes_ Try.func140 (by kernel_rfl) rfl #[.agg #[.slice (some ad451) l0_0.length c0_0, .slice A0_1 l0_1.length c0_1], .agg #[.int .i64 a1_2, .int .i64 a1_3, .int .i64 a1_4]] (by rfl) rfl rfl ZG ?_
    with_reducible refine (spec_l11Val.calls k _ _ l0_0 _ _ l0_1 a1_2 a1_3 a1_4 t447 t448 _ ?side1 ?side2 ?side3 ?side4 A5.out).mono ?_
    (case side1 => exact ZQ (Kd.C_below HR0_0.out HB.out))
    (case side2 => exact HC0_0.out)
    (case side3 => exact ZQ (Kd.C_below HR0_1.out HB.out))
    (case side4 => exact HC0_1.out)
    rintro e w17 ⟨rfl, hb⟩
    refine ⟨_, rfl, ?_⟩
    have n0_ := ZW BK444 hb
    have n1_ := ZW BK445 hb
    have n2_ := ZW BK446 hb
    have n3_ := ZT hb
    clear BK444
    clear BK445
    clear BK446
    clear HB
    have BK444 := n0_
    have BK445 := n1_
    have BK446 := n2_
    have HB := n3_
    clear n0_ n1_ n2_ n3_
    (try clear hb)
    (try clear hb2)
    (try clear hk)
    (try clear hi)
    refine hK.out _ _ ⟨(blk_cell BK446.out 0).trans rfl, (blk_cell BK446.out 1).trans rfl, (blk_cell BK444.out 0).trans rfl, (blk_cell BK444.out 1).trans rfl, (blk_cell BK445.out 0).trans rfl, (blk_cell BK445.out 1).trans rfl, (blk_cell BK445.out 2).trans rfl, (blk_cell BK445.out 3).trans rfl, (blk_cell BK445.out 4).trans rfl, (blk_cell BK445.out 5).trans rfl, (blk_cell BK445.out 6).trans rfl, (blk_cell BK445.out 7).trans rfl, ((HB.out.cell (World.block_lt_of_cell? w _ hw451_0)).trans hw451_0), ((HB.out.cell (World.block_lt_of_cell? w _ hw451_1)).trans hw451_1)⟩ (fun hHeld => ?_)
    clear hK K
    refine ZNO 15 ?_
    refine one_ (i := 5) (N := some 16) #[true, true, true, true, true, true, true, true, true, true, true, true, false, false] rfl rfl (one_of HT_.out (by kernel_rfl)) (by decide) (fun K hK => ?_)
    refine goes_ Try.func135 (by kernel_rfl) rfl #[.agg #[.int .i64 a2_0, .int .i64 a2_1], .agg #[.int .i64 t447, .int .i64 t448]] (by rfl) rfl rfl ZG ?_
    with_reducible refine (spec_LabelBoth.calls k a2_0 a2_1 t447 t448 t449 t450 _ A6.out).mono ?_
    rintro e w18 ⟨rfl, hb⟩
    refine ⟨_, rfl, ?_⟩
    have n0_ := ZW BK444 hb
    have n1_ := ZW BK445 hb
    have n2_ := ZW BK446 hb
    have n3_ := ZT hb
    clear BK444
    clear BK445
    clear BK446
    clear HB
    have BK444 := n0_
    have BK445 := n1_
    have BK446 := n2_
    have HB := n3_
    clear n0_ n1_ n2_ n3_
    (try clear hb)
    (try clear hb2)
    (try clear hk)
    (try clear hi)
    refine hK.out _ _ ⟨(blk_cell BK446.out 0).trans rfl, (blk_cell BK446.out 1).trans rfl, (blk_cell BK444.out 0).trans rfl, (blk_cell BK444.out 1).trans rfl, (blk_cell BK445.out 0).trans rfl, (blk_cell BK445.out 1).trans rfl, (blk_cell BK445.out 2).trans rfl, (blk_cell BK445.out 3).trans rfl, (blk_cell BK445.out 4).trans rfl, (blk_cell BK445.out 5).trans rfl, (blk_cell BK445.out 6).trans rfl, (blk_cell BK445.out 7).trans rfl, ((HB.out.cell (World.block_lt_of_cell? w _ hw451_0)).trans hw451_0), ((HB.out.cell (World.block_lt_of_cell? w _ hw451_1)).trans hw451_1)⟩ (fun hHeld => ?_)
    clear hK K
    refine ZNO 16 ?_
    refine one_ (i := 12) (N := some 23) #[true, true, true, true, true, true, true, true, true, true, true, true, true, false] rfl rfl (one_of HT_.out (by kernel_rfl)) (by decide) (fun K hK => ?_)
    refine goes_ Try.func139 (by kernel_rfl) rfl #[.agg #[.int .i64 t449, .int .i64 t450], .agg #[.int .i64 ((rd_T35 l0_0 a1_1).f0), .int .i64 ((rd_T35 l0_0 a1_1).f1)]] (by rfl) rfl rfl ZG ?_
    with_reducible refine (spec_LabelFlows.calls k t449 t450 ((rd_T35 l0_0 a1_1).f0) ((rd_T35 l0_0 a1_1).f1) t452 _ A9.out).mono ?_
    rintro e w19 ⟨rfl, hb⟩
    refine ⟨_, rfl, ?_⟩
    have n0_ := ZW BK444 hb
    have n1_ := ZW BK445 hb
    have n2_ := ZW BK446 hb
    have n3_ := ZT hb
    clear BK444
    clear BK445
    clear BK446
    clear HB
    have BK444 := n0_
    have BK445 := n1_
    have BK446 := n2_
    have HB := n3_
    clear n0_ n1_ n2_ n3_
    (try clear hb)
    (try clear hb2)
    (try clear hk)
    (try clear hi)
    refine hK.out _ _ ⟨(blk_cell BK446.out 0).trans rfl, (blk_cell BK446.out 1).trans rfl, (blk_cell BK444.out 0).trans rfl, (blk_cell BK444.out 1).trans rfl, (blk_cell BK445.out 0).trans rfl, (blk_cell BK445.out 1).trans rfl, (blk_cell BK445.out 2).trans rfl, (blk_cell BK445.out 3).trans rfl, (blk_cell BK445.out 4).trans rfl, (blk_cell BK445.out 5).trans rfl, (blk_cell BK445.out 6).trans rfl, (blk_cell BK445.out 7).trans rfl, ((HB.out.cell (World.block_lt_of_cell? w _ hw451_0)).trans hw451_0), ((HB.out.cell (World.block_lt_of_cell? w _ hw451_1)).trans hw451_1)⟩ (fun hHeld => ?_)
    clear hK K
    refine ZNO 23 ?_
    refine pure_ (i := 13) (N := some 6) (v := ?_) (a' := ?_) #[true, true, true, true, true, true, true, true, true, true, true, true, true, true] rfl rfl (any_of HT_.out (by kernel_rfl)) (fun _ _ _ h => h) (Or.inl ⟨by rfl, ?_⟩) ?_ ?_
    rotate_left
    ·intro w'
     go_simp
     with_reducible rfl
    rotate_left
    ·simp only [Act.put, List.setIfInBounds_toArray, List.set_cons_zero, List.set_cons_succ, i64_w, i32_w]
     rfl
    refine done_ (done_of HT_.out (by kernel_rfl)) ?_
    try go_wp2
    go_ret
    exact ⟨ZE, ZB⟩
   ·rw [if_neg c8] at H
    exact absurd H (by simp)
  ·rw [if_neg c7] at H
   exact absurd H (by simp)
 ·rw [if_neg c4] at H
  have c4b0 : (a1_0 == 1) = false := beq_eq_false_iff_ne.mpr c4
  have c4b1 : (a1_0 != 1) = true := bne_iff_ne.mpr c4
  by_cases c20 : a1_0 = 3
  ·rw [if_pos c20] at H
   have c20b0 : (a1_0 == 3) = true := beq_iff_eq.mpr c20
   have c20b1 : (a1_0 != 3) = false := bne_eq_false_iff_eq.mpr c20
   clear c20
   by_cases c21 : 0 ≤ a1_1
   ·rw [if_pos c21] at H
    have c21b0 : decide (0 ≤ a1_1) = true := decide_eq_true c21
    clear c21
    by_cases c22 : a1_1 < (l0_0.length : Int)
    ·rw [if_pos c22] at H
     have c22b0 : decide (a1_1 < (l0_0.length : Int)) = true := decide_eq_true c22
     clear c22
     replace H := Option.bind_eq_some_iff.mp H
     obtain ⟨t454, A230, H⟩ := H
     replace H : ((spec_l1Has.f t454 a1_5).bind fun t455 => (some t455)) = some r := H
     have A23 := Aside0.mk A230
     clear A230
     replace H := Option.bind_eq_some_iff.mp H
     obtain ⟨t455, A240, H⟩ := H
     replace H : (some t455) = some r := H
     have A24 := Aside0.mk A240
     clear A240
     obtain rfl := Option.some.inj H
     go_enter Try.func117, Try.ntmps117
     try go_wp2_with (first | ((with_reducible refine gate_dst (N := 3) rfl ?_); refine ZX (N := 3) (cs := #[.slice A0_0 l0_0.length c0_0, .slice A0_1 l0_1.length c0_1]) (t := 26) ?_; intro gb444 hg w25 hbox hb; have BK444 := Aside0.mk (hbox); have GW444 : Aside0 (w.heap.size ≤ gb444) := ZS hg; have GE444 : Aside0 (w.heap.size ≤ gb444) := ZS hg; replace HB := ZT hb; clear hb hbox hg) | ((with_reducible refine gate_dst (N := 4) rfl ?_); refine ZX (N := 4) (cs := #[.int .i64 a1_0, .int .i64 a1_1, .int .i64 a1_2, .int .i64 a1_3, .int .i64 a1_4, .int .i64 a1_5, .slice A1_6 l1_6.length c1_6, .slice A1_7 l1_7.length c1_7]) (t := 59) ?_; intro gb445 hg w26 hbox hb; have BK445 := Aside0.mk (hbox); have GW445 : Aside0 (w.heap.size ≤ gb445) := ZS hg; have GE445 : Aside0 (w.heap.size ≤ gb445) := ZS hg; have NB444_445 : Aside0 (gb444 ≠ gb445) := ZN hg BK444; have NB445_444 : Aside0 (gb445 ≠ gb444) := ZM hg BK444; replace BK444 := ZW BK444 hb; replace HB := ZT hb; clear hb hbox hg) | ((with_reducible refine gate_dst (N := 5) rfl ?_); refine ZX (N := 5) (cs := #[.int .i64 a2_0, .int .i64 a2_1]) (t := 35) ?_; intro gb446 hg w27 hbox hb; have BK446 := Aside0.mk (hbox); have GW446 : Aside0 (w.heap.size ≤ gb446) := ZS hg; have GE446 : Aside0 (w.heap.size ≤ gb446) := ZS hg; have NB444_446 : Aside0 (gb444 ≠ gb446) := ZN hg BK444; have NB446_444 : Aside0 (gb446 ≠ gb444) := ZM hg BK444; have NB445_446 : Aside0 (gb445 ≠ gb446) := ZN hg BK445; have NB446_445 : Aside0 (gb446 ≠ gb445) := ZM hg BK445; replace BK444 := ZW BK444 hb; replace BK445 := ZW BK445 hb; replace HB := ZT hb; clear hb hbox hg; have hnb28 := NB445_444.out; have hnc28 := NB444_445.out; have hnb29 := NB445_446.out; have hnc29 := NB446_445.out; obtain ⟨hcz30_0, hcz30_1, hcz30_2, hcz30_3, hcz30_4, hcz30_5, hcz30_6, hcz30_7⟩ := ZC8 w27 BK445; obtain ⟨hfz30_0, hfz30_1, hfz30_2, hfz30_3, hfz30_4, hfz30_5, hfz30_6, hfz30_7⟩ := ZF8 BK445))
     have n0_ := Aside0.mk (blk_drew BK444.out)
     have n1_ := Aside0.mk (blk_drew BK445.out)
     have n2_ := Aside0.mk (blk_drew BK446.out)
     have n3_ := Aside0.mk (below_drew1 HB.out)
     clear BK444
     clear BK445
     clear BK446
     clear HB
     have BK444 := n0_
     have BK445 := n1_
     have BK446 := n2_
     have HB := n3_
     clear n0_ n1_ n2_ n3_
     have p453 : 0 ≤ (a1_1 : Int) := ZD
     have q453 : a1_1 < (l0_0.length : Int) := ZD
     obtain ⟨ad453, e453, hx453_0, hx453_1⟩ := at_T35 HR0_0.out a1_1 p453 q453
     have hw453_1 := hx453_1
     have hw453_0 := hx453_0
     cases e453
     replace hx453_0 := (HB.out.cell (World.block_lt_of_cell? w _ hx453_0)).trans hx453_0
     replace hx453_1 := (HB.out.cell (World.block_lt_of_cell? w _ hx453_1)).trans hx453_1
     replace p453 := eq_true p453
     replace q453 := eq_true q453
     refine start_ (n := 14) (S := fun w' => w'.cell? ⟨gb446, 0, none⟩ = some (.int .i64 a2_0) ∧ w'.cell? ⟨gb446, 1, none⟩ = some (.int .i64 a2_1) ∧ w'.cell? ⟨gb444, 0, none⟩ = some (.slice (some ad453) l0_0.length c0_0) ∧ w'.cell? ⟨gb444, 1, none⟩ = some (.slice A0_1 l0_1.length c0_1) ∧ w'.cell? ⟨gb445, 0, none⟩ = some (.int .i64 a1_0) ∧ w'.cell? ⟨gb445, 1, none⟩ = some (.int .i64 a1_1) ∧ w'.cell? ⟨gb445, 2, none⟩ = some (.int .i64 a1_2) ∧ w'.cell? ⟨gb445, 3, none⟩ = some (.int .i64 a1_3) ∧ w'.cell? ⟨gb445, 4, none⟩ = some (.int .i64 a1_4) ∧ w'.cell? ⟨gb445, 5, none⟩ = some (.int .i64 a1_5) ∧ w'.cell? ⟨gb445, 6, none⟩ = some (.slice A1_6 l1_6.length c1_6) ∧ w'.cell? ⟨gb445, 7, none⟩ = some (.slice A1_7 l1_7.length c1_7) ∧ w'.cell? (ad453.add ((a1_1).toNat * 2)) = some (.int .i64 ((rd_T35 l0_0 a1_1).f0)) ∧ w'.cell? ⟨(ad453.add ((a1_1).toNat * 2)).block, (ad453.add ((a1_1).toNat * 2)).off + 1, none⟩ = some (.int .i64 ((rd_T35 l0_0 a1_1).f1))) (ds := []) #[false, false, false, false, false, false, false, false, false, false, false, false, false, false] (by kernel_rfl) rfl rfl ⟨(blk_cell BK446.out 0).trans rfl, (blk_cell BK446.out 1).trans rfl, (blk_cell BK444.out 0).trans rfl, (blk_cell BK444.out 1).trans rfl, (blk_cell BK445.out 0).trans rfl, (blk_cell BK445.out 1).trans rfl, (blk_cell BK445.out 2).trans rfl, (blk_cell BK445.out 3).trans rfl, (blk_cell BK445.out 4).trans rfl, (blk_cell BK445.out 5).trans rfl, (blk_cell BK445.out 6).trans rfl, (blk_cell BK445.out 7).trans rfl, ((HB.out.cell (World.block_lt_of_cell? w _ hw453_0)).trans hw453_0), ((HB.out.cell (World.block_lt_of_cell? w _ hw453_1)).trans hw453_1)⟩ (fun hHeld => ?_); refine with_tabW spec_l11Fine.tab5 spec_l11Fine.bits5 (fun HT_ HW_ => ?_)
     generalize w27.drew = w31 at BK444 BK445 BK446 HB hx453_0 hx453_1 hHeld ⊢
     refine pure_ (i := 0) (N := some 26) (v := ?_) (a' := ?_) #[true, false, false, false, false, false, false, false, false, false, false, false, false, false] rfl rfl (any_of HT_.out (by kernel_rfl)) (fun _ _ _ h => h) (Or.inl ⟨by rfl, ?_⟩) ?_ ?_
     rotate_left
     ·intro w'
      go_simp
      with_reducible rfl
     rotate_left
     ·simp only [Act.put, List.setIfInBounds_toArray, List.set_cons_zero, List.set_cons_succ, i64_w, i32_w]
      rfl
     refine pure_ (i := 2) (N := some 28) (v := ?_) (a' := ?_) #[true, false, true, false, false, false, false, false, false, false, false, false, false, false] rfl rfl (any_of HT_.out (by kernel_rfl)) (fun _ _ _ h => h) (Or.inl ⟨by rfl, ?_⟩) ?_ ?_
     rotate_left
     ·intro w'
      go_simp
      with_reducible rfl
     rotate_left
     ·simp only [Act.put, List.setIfInBounds_toArray, List.set_cons_zero, List.set_cons_succ, i64_w, i32_w]
      rfl
     refine pure_ (i := 4) (N := some 30) (v := ?_) (a' := ?_) #[true, false, true, false, true, false, false, false, false, false, false, false, false, false] rfl rfl (any_of HT_.out (by kernel_rfl)) (fun _ _ _ h => h) (Or.inl ⟨by rfl, ?_⟩) ?_ ?_
     rotate_left
     ·intro w'
      go_simp
      with_reducible rfl
     rotate_left
     ·simp only [Act.put, List.setIfInBounds_toArray, List.set_cons_zero, List.set_cons_succ, i64_w, i32_w]
      rfl
     refine pure_ (i := 10) (N := some 36) (v := ?_) (a' := ?_) #[true, false, true, false, true, false, false, false, false, false, true, false, false, false] rfl rfl (any_of HT_.out (by kernel_rfl)) (fun _ _ _ h => h) (Or.inl ⟨by rfl, ?_⟩) ?_ ?_
     rotate_left
     ·intro w'
      go_simp
      with_reducible rfl
     rotate_left
     ·simp only [Act.put, List.setIfInBounds_toArray, List.set_cons_zero, List.set_cons_succ, i64_w, i32_w]
      rfl
     refine take_ (i := 1) (N := some 27) (v := ?_) (a' := ?_) #[true, true, true, false, true, false, false, false, false, false, true, false, false, false] rfl rfl (take_ofW HT_.out HW_.out (by kernel_rfl)) (fun _ _ _ h => h) (Or.inl ⟨by rfl, ?_⟩) hHeld ?_ ?_
     rotate_left
     ·rintro w' ⟨s0, s1, s2, s3, s4, s5, s6, s7, s8, s9, s10, s11, s12, s13⟩
      go_simp
      with_reducible rfl
     rotate_left
     ·simp only [Act.put, List.setIfInBounds_toArray, List.set_cons_zero, List.set_cons_succ, i64_w, i32_w]
      rfl
     refine take_ (i := 3) (N := some 29) (v := ?_) (a' := ?_) #[true, true, true, true, true, false, false, false, false, false, true, false, false, false] rfl rfl (take_ofW HT_.out HW_.out (by kernel_rfl)) (fun _ _ _ h => h) (Or.inl ⟨by rfl, ?_⟩) hHeld ?_ ?_
     rotate_left
     ·rintro w' ⟨s0, s1, s2, s3, s4, s5, s6, s7, s8, s9, s10, s11, s12, s13⟩
      go_simp
      with_reducible rfl
     rotate_left
     ·simp only [Act.put, List.setIfInBounds_toArray, List.set_cons_zero, List.set_cons_succ, i64_w, i32_w]
      rfl
     refine take_ (i := 5) (N := some 31) (v := ?_) (a' := ?_) #[true, true, true, true, true, true, false, false, false, false, true, false, false, false] rfl rfl (take_ofW HT_.out HW_.out (by kernel_rfl)) (fun _ _ _ h => h) (Or.inl ⟨by rfl, ?_⟩) hHeld ?_ ?_
     rotate_left
     ·rintro w' ⟨s0, s1, s2, s3, s4, s5, s6, s7, s8, s9, s10, s11, s12, s13⟩
      go_simp
      with_reducible rfl
     rotate_left
     ·simp only [Act.put, List.setIfInBounds_toArray, List.set_cons_zero, List.set_cons_succ, i64_w, i32_w]
      rfl
     refine pure_ (i := 6) (N := some 32) (v := ?_) (a' := ?_) #[true, true, true, true, true, true, true, false, false, false, true, false, false, false] rfl rfl (any_of HT_.out (by kernel_rfl)) (fun _ _ _ h => h) (Or.inl ⟨by rfl, ?_⟩) ?_ ?_
     rotate_left
     ·intro w'
      go_simp
      with_reducible rfl
     rotate_left
     ·simp only [Act.put, List.setIfInBounds_toArray, List.set_cons_zero, List.set_cons_succ, i64_w, i32_w]
      rfl
     refine pure_ (i := 7) (N := some 33) (v := ?_) (a' := ?_) #[true, true, true, true, true, true, true, true, false, false, true, false, false, false] rfl rfl (any_of HT_.out (by kernel_rfl)) (fun _ _ _ h => h) (Or.inl ⟨by rfl, ?_⟩) ?_ ?_
     rotate_left
     ·intro w'
      go_simp
      with_reducible rfl
     rotate_left
     ·simp only [Act.put, List.setIfInBounds_toArray, List.set_cons_zero, List.set_cons_succ, i64_w, i32_w]
      rfl
     refine take_ (i := 8) (N := some 34) (v := ?_) (a' := ?_) #[true, true, true, true, true, true, true, true, true, false, true, false, false, false] rfl rfl (take_ofW HT_.out HW_.out (by kernel_rfl)) (fun _ _ _ h => h) (Or.inl ⟨by rfl, ?_⟩) hHeld ?_ ?_
     rotate_left
     ·rintro w' ⟨s0, s1, s2, s3, s4, s5, s6, s7, s8, s9, s10, s11, s12, s13⟩
      go_simp
      with_reducible rfl
     rotate_left
     ·simp only [Act.put, List.setIfInBounds_toArray, List.set_cons_zero, List.set_cons_succ, i64_w, i32_w]
      rfl
     refine take_ (i := 11) (N := some 37) (v := ?_) (a' := ?_) #[true, true, true, true, true, true, true, true, true, false, true, true, false, false] rfl rfl (take_ofW HT_.out HW_.out (by kernel_rfl)) (fun _ _ _ h => h) (Or.inl ⟨by rfl, ?_⟩) hHeld ?_ ?_
     rotate_left
     ·rintro w' ⟨s0, s1, s2, s3, s4, s5, s6, s7, s8, s9, s10, s11, s12, s13⟩
      go_simp
      with_reducible rfl
     rotate_left
     ·simp only [Act.put, List.setIfInBounds_toArray, List.set_cons_zero, List.set_cons_succ, i64_w, i32_w]
      rfl
     refine one_ (i := 9) (N := some 35) #[true, true, true, true, true, true, true, true, true, true, true, true, false, false] rfl rfl (one_of HT_.out (by kernel_rfl)) (by decide) (fun K hK => ?_)
     refine goes_ Try.func141 (by kernel_rfl) rfl #[.int .i64 a2_0, .int .i64 ((rd_T35 l0_0 a1_1).f0)] (by rfl) rfl rfl ZG ?_
     with_reducible refine (spec_l1Both.calls k a2_0 ((rd_T35 l0_0 a1_1).f0) t454 _ A23.out).mono ?_
     rintro e w' ⟨rfl, ⟨nd, rfl⟩⟩
     refine ⟨_, rfl, ?_⟩
     refine hK.out _ _ ⟨(blk_cell BK446.out 0).trans rfl, (blk_cell BK446.out 1).trans rfl, (blk_cell BK444.out 0).trans rfl, (blk_cell BK444.out 1).trans rfl, (blk_cell BK445.out 0).trans rfl, (blk_cell BK445.out 1).trans rfl, (blk_cell BK445.out 2).trans rfl, (blk_cell BK445.out 3).trans rfl, (blk_cell BK445.out 4).trans rfl, (blk_cell BK445.out 5).trans rfl, (blk_cell BK445.out 6).trans rfl, (blk_cell BK445.out 7).trans rfl, ((HB.out.cell (World.block_lt_of_cell? w _ hw453_0)).trans hw453_0), ((HB.out.cell (World.block_lt_of_cell? w _ hw453_1)).trans hw453_1)⟩ (fun hHeld => ?_)
     clear hK K
     refine ZNO 35 ?_
     refine one_ (i := 12) (N := some 38) #[true, true, true, true, true, true, true, true, true, true, true, true, true, false] rfl rfl (one_of HT_.out (by kernel_rfl)) (by decide) (fun K hK => ?_)
     refine goes_ Try.func102 (by kernel_rfl) rfl #[.int .i64 t454, .int .i64 a1_5] (by rfl) rfl rfl ZG ?_
     with_reducible refine (spec_l1Has.calls t454 a1_5 t455 _ A24.out).mono ?_
     rintro e w' ⟨rfl, ⟨nd, rfl⟩⟩
     refine ⟨_, rfl, ?_⟩
     refine hK.out _ _ ⟨(blk_cell BK446.out 0).trans rfl, (blk_cell BK446.out 1).trans rfl, (blk_cell BK444.out 0).trans rfl, (blk_cell BK444.out 1).trans rfl, (blk_cell BK445.out 0).trans rfl, (blk_cell BK445.out 1).trans rfl, (blk_cell BK445.out 2).trans rfl, (blk_cell BK445.out 3).trans rfl, (blk_cell BK445.out 4).trans rfl, (blk_cell BK445.out 5).trans rfl, (blk_cell BK445.out 6).trans rfl, (blk_cell BK445.out 7).trans rfl, ((HB.out.cell (World.block_lt_of_cell? w _ hw453_0)).trans hw453_0), ((HB.out.cell (World.block_lt_of_cell? w _ hw453_1)).trans hw453_1)⟩ (fun hHeld => ?_)
     clear hK K
     refine ZNO 38 ?_
     refine pure_ (i := 13) (N := some 6) (v := ?_) (a' := ?_) #[true, true, true, true, true, true, true, true, true, true, true, true, true, true] rfl rfl (any_of HT_.out (by kernel_rfl)) (fun _ _ _ h => h) (Or.inl ⟨by rfl, ?_⟩) ?_ ?_
     rotate_left
     ·intro w'
      go_simp
      with_reducible rfl
     rotate_left
     ·simp only [Act.put, List.setIfInBounds_toArray, List.set_cons_zero, List.set_cons_succ, i64_w, i32_w]
      rfl
     refine done_ (done_of HT_.out (by kernel_rfl)) ?_
     try go_wp2
     go_ret
     exact ⟨ZE, ZB⟩
    ·rw [if_neg c22] at H
     exact absurd H (by simp)
   ·rw [if_neg c21] at H
    exact absurd H (by simp)
  ·rw [if_neg c20] at H
   have c20b0 : (a1_0 == 3) = false := beq_eq_false_iff_ne.mpr c20
   have c20b1 : (a1_0 != 3) = true := bne_iff_ne.mpr c20
   obtain rfl := Option.some.inj H
   go_enter Try.func117, Try.ntmps117
   go_wp2_with (first | ((with_reducible refine gate_dst (N := 3) rfl ?_); refine ZX (N := 3) (cs := #[.slice A0_0 l0_0.length c0_0, .slice A0_1 l0_1.length c0_1]) (t := 26) ?_; intro gb444 hg w32 hbox hb; have BK444 := Aside0.mk (hbox); have GW444 : Aside0 (w.heap.size ≤ gb444) := ZS hg; have GE444 : Aside0 (w.heap.size ≤ gb444) := ZS hg; replace HB := ZT hb; clear hb hbox hg) | ((with_reducible refine gate_dst (N := 4) rfl ?_); refine ZX (N := 4) (cs := #[.int .i64 a1_0, .int .i64 a1_1, .int .i64 a1_2, .int .i64 a1_3, .int .i64 a1_4, .int .i64 a1_5, .slice A1_6 l1_6.length c1_6, .slice A1_7 l1_7.length c1_7]) (t := 59) ?_; intro gb445 hg w33 hbox hb; have BK445 := Aside0.mk (hbox); have GW445 : Aside0 (w.heap.size ≤ gb445) := ZS hg; have GE445 : Aside0 (w.heap.size ≤ gb445) := ZS hg; have NB444_445 : Aside0 (gb444 ≠ gb445) := ZN hg BK444; have NB445_444 : Aside0 (gb445 ≠ gb444) := ZM hg BK444; replace BK444 := ZW BK444 hb; replace HB := ZT hb; clear hb hbox hg) | ((with_reducible refine gate_dst (N := 5) rfl ?_); refine ZX (N := 5) (cs := #[.int .i64 a2_0, .int .i64 a2_1]) (t := 35) ?_; intro gb446 hg w34 hbox hb; have BK446 := Aside0.mk (hbox); have GW446 : Aside0 (w.heap.size ≤ gb446) := ZS hg; have GE446 : Aside0 (w.heap.size ≤ gb446) := ZS hg; have NB444_446 : Aside0 (gb444 ≠ gb446) := ZN hg BK444; have NB446_444 : Aside0 (gb446 ≠ gb444) := ZM hg BK444; have NB445_446 : Aside0 (gb445 ≠ gb446) := ZN hg BK445; have NB446_445 : Aside0 (gb446 ≠ gb445) := ZM hg BK445; replace BK444 := ZW BK444 hb; replace BK445 := ZW BK445 hb; replace HB := ZT hb; clear hb hbox hg; have hnb35 := NB445_444.out; have hnc35 := NB444_445.out; have hnb36 := NB445_446.out; have hnc36 := NB446_445.out; obtain ⟨hcz37_0, hcz37_1, hcz37_2, hcz37_3, hcz37_4, hcz37_5, hcz37_6, hcz37_7⟩ := ZC8 w34 BK445; obtain ⟨hfz37_0, hfz37_1, hfz37_2, hfz37_3, hfz37_4, hfz37_5, hfz37_6, hfz37_7⟩ := ZF8 BK445))
   go_ret
   exact ⟨ZE, ZB⟩

end Go.Proofs.Ytcffnnedghgmaaa.A
