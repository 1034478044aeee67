/- What Go functions compute, as Lean functions, and for each its contract: for every input at which the Lean function answers the call returns that; written by wip/tools/pr.py over the kit's print. -/
import Derived.Test.YtcffnnedghgmaaaAx0
import Derived.Test.YtcffnnedghgmaaaAx24
import Derived.Test.YtcffnnedghgmaaaAx26
namespace Go.Proofs.Ytcffnnedghgmaaa.A
open Go.RowKit Go.Proofs.YtcffnnedghgmaaaW.PrintWords Go.Proofs.YtcffnnedghgmaaaW.PrintLast Go.Proofs.YtcffnnedghgmaaaW.PrintMore
attribute [local go_sem] max2_int min2_int max_two min_two max_three min_three max_four min_four   -- for this text's walks alone
set_option linter.unusedVariables false
set_option linter.unusedSimpArgs false

/-! ### spec_l11Val: function 140 -/
def spec_l11Val.f (k : Nat) (l0_0 : List (S35)) (l0_1 : List (S59)) (a1_0 : Int) (a1_1 : Int) (a1_2 : Int) : Option (Int × Int) := (spec_l11Any.f).bind fun bt426 => (if a1_0 = 1 then (if a1_0 = 3 then (if 0 ≤ a1_2 then (if a1_2 < (l0_0.length : Int) then ((spec_LabelBoth.f k bt426.1 bt426.2 ((rd_T35 l0_0 a1_2).f0) ((rd_T35 l0_0 a1_2).f1)).bind fun bt430 => (some (bt430.1, bt430.2))) else (none)) else (none)) else (if a1_0 = 4 then (if 0 ≤ a1_2 then (if a1_2 < (l0_0.length : Int) then ((spec_LabelBoth.f k bt426.1 bt426.2 ((rd_T35 l0_0 a1_2).f0) ((rd_T35 l0_0 a1_2).f1)).bind fun bt433 => (some (bt433.1, bt433.2))) else (none)) else (none)) else (some (bt426.1, bt426.2)))) else (if 0 ≤ a1_1 then (if a1_1 < (l0_0.length : Int) then ((spec_LabelBoth.f k bt426.1 bt426.2 ((rd_T35 l0_0 a1_1).f0) ((rd_T35 l0_0 a1_1).f1)).bind fun bt436 => (if a1_0 = 3 then (if 0 ≤ a1_2 then (if a1_2 < (l0_0.length : Int) then ((spec_LabelBoth.f k bt436.1 bt436.2 ((rd_T35 l0_0 a1_2).f0) ((rd_T35 l0_0 a1_2).f1)).bind fun bt439 => (some (bt439.1, bt439.2))) else (none)) else (none)) else (if a1_0 = 4 then (if 0 ≤ a1_2 then (if a1_2 < (l0_0.length : Int) then ((spec_LabelBoth.f k bt436.1 bt436.2 ((rd_T35 l0_0 a1_2).f0) ((rd_T35 l0_0 a1_2).f1)).bind fun bt442 => (some (bt442.1, bt442.2))) else (none)) else (none)) else (some (bt436.1, bt436.2))))) else (none)) else (none)))
def spec_l11Val.T3 : Bool × List (List Nat × List Nat) := (true, [([], []), ([], []), ([1], [1]), ([], []), ([3], [3]), ([2, 4], [2, 4]), ([5], [5]), ([0, 6], [0, 6]), ([7, 7, 0, 1, 2, 3, 4, 5, 6, 7], [7])])
def spec_l11Val.B3 : List Nat := [0, 0, 2, 0, 8, 30, 62, 127, 255]
theorem spec_l11Val.tab3 : rtab .any (opsOf Try.f140 3) = spec_l11Val.T3 := by kernel_rfl
theorem spec_l11Val.bits3 : waitsOk spec_l11Val.T3.2 spec_l11Val.B3 = true := by kernel_rfl
def spec_l11Val.T5 : Bool × List (List Nat × List Nat) := (true, [([], []), ([], []), ([1], [1]), ([], []), ([3], [3]), ([2, 4], [2, 4]), ([5], [5]), ([0, 6], [0, 6]), ([7, 7, 0, 1, 2, 3, 4, 5, 6, 7], [7])])
def spec_l11Val.B5 : List Nat := [0, 0, 2, 0, 8, 30, 62, 127, 255]
theorem spec_l11Val.tab5 : rtab .any (opsOf Try.f140 5) = spec_l11Val.T5 := by kernel_rfl
theorem spec_l11Val.bits5 : waitsOk spec_l11Val.T5.2 spec_l11Val.B5 = true := by kernel_rfl
set_option maxHeartbeats 8000000 in
set_option maxRecDepth 100000 in
theorem spec_l11Val.calls (k : Nat) (A0_0 : Option Addr) (c0_0 : Nat) (l0_0 : List (S35)) (A0_1 : Option Addr) (c0_1 : Nat) (l0_1 : List (S59)) (a1_0 : Int) (a1_1 : Int) (a1_2 : Int) (r1 : Int) (r2 : Int) (w : World) (hr0_0 : Kd.C k35 w A0_0 l0_0.length l0_0) (hc0_0 : l0_0.length ≤ c0_0) (hr0_1 : Kd.C k59 w A0_1 l0_1.length l0_1) (hc0_1 : l0_1.length ≤ c0_1) (h : spec_l11Val.f k l0_0 l0_1 a1_0 a1_1 a1_2 = some (r1, r2)) :
  Calls Try.prog 140 #[.agg #[.slice A0_0 l0_0.length c0_0, .slice A0_1 l0_1.length c0_1], .agg #[.int .i64 a1_0, .int .i64 a1_1, .int .i64 a1_2]] w fun e w' => e = .returned (.agg #[.int .i64 r1, .int .i64 r2]) ∧ Below w.heap.size w w' := by
 have hu26 := Try.underlying26
 have hu57 := Try.underlying57
 have hu35 := Try.underlying35
 have HR0_0 := Aside0.mk hr0_0
 have HC0_0 := Aside0.mk hc0_0
 clear hr0_0 hc0_0
 have HR0_1 := Aside0.mk hr0_1
 have HC0_1 := Aside0.mk hc0_1
 clear hr0_1 hc0_1
 have HB := Aside0.mk (Below.refl w.heap.size w)
 have H : ((spec_l11Any.f).bind fun bt426 => (if a1_0 = 1 then (if a1_0 = 3 then (if 0 ≤ a1_2 then (if a1_2 < (l0_0.length : Int) then ((spec_LabelBoth.f k bt426.1 bt426.2 ((rd_T35 l0_0 a1_2).f0) ((rd_T35 l0_0 a1_2).f1)).bind fun bt430 => (some (bt430.1, bt430.2))) else (none)) else (none)) else (if a1_0 = 4 then (if 0 ≤ a1_2 then (if a1_2 < (l0_0.length : Int) then ((spec_LabelBoth.f k bt426.1 bt426.2 ((rd_T35 l0_0 a1_2).f0) ((rd_T35 l0_0 a1_2).f1)).bind fun bt433 => (some (bt433.1, bt433.2))) else (none)) else (none)) else (some (bt426.1, bt426.2)))) else (if 0 ≤ a1_1 then (if a1_1 < (l0_0.length : Int) then ((spec_LabelBoth.f k bt426.1 bt426.2 ((rd_T35 l0_0 a1_1).f0) ((rd_T35 l0_0 a1_1).f1)).bind fun bt436 => (if a1_0 = 3 then (if 0 ≤ a1_2 then (if a1_2 < (l0_0.length : Int) then ((spec_LabelBoth.f k bt436.1 bt436.2 ((rd_T35 l0_0 a1_2).f0) ((rd_T35 l0_0 a1_2).f1)).bind fun bt439 => (some (bt439.1, bt439.2))) else (none)) else (none)) else (if a1_0 = 4 then (if 0 ≤ a1_2 then (if a1_2 < (l0_0.length : Int) then ((spec_LabelBoth.f k bt436.1 bt436.2 ((rd_T35 l0_0 a1_2).f0) ((rd_T35 l0_0 a1_2).f1)).bind fun bt442 => (some (bt442.1, bt442.2))) else (none)) else (none)) else (some (bt436.1, bt436.2))))) else (none)) else (none)))) = some (r1, r2) := h
 clear h
 replace H := Option.bind_eq_some_iff.mp H
 obtain ⟨⟨t426, t427⟩, A30, H⟩ := H
 replace H : (if a1_0 = 1 then (if a1_0 = 3 then (if 0 ≤ a1_2 then (if a1_2 < (l0_0.length : Int) then ((spec_LabelBoth.f k t426 t427 ((rd_T35 l0_0 a1_2).f0) ((rd_T35 l0_0 a1_2).f1)).bind fun bt430 => (some (bt430.1, bt430.2))) else (none)) else (none)) else (if a1_0 = 4 then (if 0 ≤ a1_2 then (if a1_2 < (l0_0.length : Int) then ((spec_LabelBoth.f k t426 t427 ((rd_T35 l0_0 a1_2).f0) ((rd_T35 l0_0 a1_2).f1)).bind fun bt433 => (some (bt433.1, bt433.2))) else (none)) else (none)) else (some (t426, t427)))) else (if 0 ≤ a1_1 then (if a1_1 < (l0_0.length : Int) then ((spec_LabelBoth.f k t426 t427 ((rd_T35 l0_0 a1_1).f0) ((rd_T35 l0_0 a1_1).f1)).bind fun bt436 => (if a1_0 = 3 then (if 0 ≤ a1_2 then (if a1_2 < (l0_0.length : Int) then ((spec_LabelBoth.f k bt436.1 bt436.2 ((rd_T35 l0_0 a1_2).f0) ((rd_T35 l0_0 a1_2).f1)).bind fun bt439 => (some (bt439.1, bt439.2))) else (none)) else (none)) else (if a1_0 = 4 then (if 0 ≤ a1_2 then (if a1_2 < (l0_0.length : Int) then ((spec_LabelBoth.f k bt436.1 bt436.2 ((rd_T35 l0_0 a1_2).f0) ((rd_T35 l0_0 a1_2).f1)).bind fun bt442 => (some (bt442.1, bt442.2))) else (none)) else (none)) else (some (bt436.1, bt436.2))))) else (none)) else (none))) = some (r1, r2) := H
 have A3 := Aside0.mk A30
 clear A30
 by_cases c4 : a1_0 = 1
 focus
  rw [if_pos c4] at H
  have c4b0 : (a1_0 == 1) = true := beq_iff_eq.mpr c4
  have c4b1 : (a1_0 != 1) = false := bne_eq_false_iff_eq.mpr c4
  clear c4
  by_cases c5 : a1_0 = 3
  focus
   rw [if_pos c5] at H
   have c5b0 : (a1_0 == 3) = true := beq_iff_eq.mpr c5
   have c5b1 : (a1_0 != 3) = false := bne_eq_false_iff_eq.mpr c5
   clear c5
   by_cases c6 : 0 ≤ a1_2
   focus
    rw [if_pos c6] at H
    have c6b0 : decide (0 ≤ a1_2) = true := decide_eq_true c6
    clear c6
    by_cases c7 : a1_2 < (l0_0.length : Int)
    focus
     rw [if_pos c7] at H
     have c7b0 : decide (a1_2 < (l0_0.length : Int)) = true := decide_eq_true c7
     clear c7
     replace H := Option.bind_eq_some_iff.mp H
     obtain ⟨⟨t430, t431⟩, A80, H⟩ := H
     replace H : (some (t430, t431)) = some (r1, r2) := H
     have A8 := Aside0.mk A80
     clear A80
     simp only [Option.some.injEq, Prod.mk.injEq] at H
     obtain ⟨rfl, rfl⟩ := H
     have tag0_ : Aside0 True := ⟨trivial⟩
    rotate_left
    focus
     rw [if_neg c7] at H
     exact absurd H (by simp)
   rotate_left
   focus
    rw [if_neg c6] at H
    exact absurd H (by simp)
  rotate_left
  focus
   rw [if_neg c5] at H
   have c5b0 : (a1_0 == 3) = false := beq_eq_false_iff_ne.mpr c5
   have c5b1 : (a1_0 != 3) = true := bne_iff_ne.mpr c5
   by_cases c29 : a1_0 = 4
   focus
    rw [if_pos c29] at H
    have c29b0 : (a1_0 == 4) = true := beq_iff_eq.mpr c29
    have c29b1 : (a1_0 != 4) = false := bne_eq_false_iff_eq.mpr c29
    clear c29
    by_cases c30 : 0 ≤ a1_2
    focus
     rw [if_pos c30] at H
     have c30b0 : decide (0 ≤ a1_2) = true := decide_eq_true c30
     clear c30
     by_cases c31 : a1_2 < (l0_0.length : Int)
     focus
      rw [if_pos c31] at H
      have c31b0 : decide (a1_2 < (l0_0.length : Int)) = true := decide_eq_true c31
      clear c31
      replace H := Option.bind_eq_some_iff.mp H
      obtain ⟨⟨t433, t434⟩, A320, H⟩ := H
      replace H : (some (t433, t434)) = some (r1, r2) := H
      have A32 := Aside0.mk A320
      clear A320
      simp only [Option.some.injEq, Prod.mk.injEq] at H
      obtain ⟨rfl, rfl⟩ := H
      have tag1_ : Aside0 True := ⟨trivial⟩
     rotate_left
     focus
      rw [if_neg c31] at H
      exact absurd H (by simp)
    rotate_left
    focus
     rw [if_neg c30] at H
     exact absurd H (by simp)
   rotate_left
   focus
    rw [if_neg c29] at H
    have c29b0 : (a1_0 == 4) = false := beq_eq_false_iff_ne.mpr c29
    have c29b1 : (a1_0 != 4) = true := bne_iff_ne.mpr c29
    simp only [Option.some.injEq, Prod.mk.injEq] at H
    obtain ⟨rfl, rfl⟩ := H
    have tag2_ : Aside0 True := ⟨trivial⟩
   rotate_left
  rotate_left 2
 rotate_left 3
 focus
  rw [if_neg c4] at H
  have c4b0 : (a1_0 == 1) = false := beq_eq_false_iff_ne.mpr c4
  have c4b1 : (a1_0 != 1) = true := bne_iff_ne.mpr c4
  by_cases c67 : 0 ≤ a1_1
  focus
   rw [if_pos c67] at H
   have c67b0 : decide (0 ≤ a1_1) = true := decide_eq_true c67
   clear c67
   by_cases c68 : a1_1 < (l0_0.length : Int)
   focus
    rw [if_pos c68] at H
    have c68b0 : decide (a1_1 < (l0_0.length : Int)) = true := decide_eq_true c68
    clear c68
    replace H := Option.bind_eq_some_iff.mp H
    obtain ⟨⟨t436, t437⟩, A690, H⟩ := H
    replace H : (if a1_0 = 3 then (if 0 ≤ a1_2 then (if a1_2 < (l0_0.length : Int) then ((spec_LabelBoth.f k t436 t437 ((rd_T35 l0_0 a1_2).f0) ((rd_T35 l0_0 a1_2).f1)).bind fun bt439 => (some (bt439.1, bt439.2))) else (none)) else (none)) else (if a1_0 = 4 then (if 0 ≤ a1_2 then (if a1_2 < (l0_0.length : Int) then ((spec_LabelBoth.f k t436 t437 ((rd_T35 l0_0 a1_2).f0) ((rd_T35 l0_0 a1_2).f1)).bind fun bt442 => (some (bt442.1, bt442.2))) else (none)) else (none)) else (some (t436, t437)))) = some (r1, r2) := H
    have A69 := Aside0.mk A690
    clear A690
    by_cases c70 : a1_0 = 3
    focus
     rw [if_pos c70] at H
     have c70b0 : (a1_0 == 3) = true := beq_iff_eq.mpr c70
     have c70b1 : (a1_0 != 3) = false := bne_eq_false_iff_eq.mpr c70
     clear c70
     by_cases c71 : 0 ≤ a1_2
     focus
      rw [if_pos c71] at H
      have c71b0 : decide (0 ≤ a1_2) = true := decide_eq_true c71
      clear c71
      by_cases c72 : a1_2 < (l0_0.length : Int)
      focus
       rw [if_pos c72] at H
       have c72b0 : decide (a1_2 < (l0_0.length : Int)) = true := decide_eq_true c72
       clear c72
       replace H := Option.bind_eq_some_iff.mp H
       obtain ⟨⟨t439, t440⟩, A730, H⟩ := H
       replace H : (some (t439, t440)) = some (r1, r2) := H
       have A73 := Aside0.mk A730
       clear A730
       simp only [Option.some.injEq, Prod.mk.injEq] at H
       obtain ⟨rfl, rfl⟩ := H
       have tag3_ : Aside0 True := ⟨trivial⟩
      rotate_left
      focus
       rw [if_neg c72] at H
       exact absurd H (by simp)
     rotate_left
     focus
      rw [if_neg c71] at H
      exact absurd H (by simp)
    rotate_left
    focus
     rw [if_neg c70] at H
     have c70b0 : (a1_0 == 3) = false := beq_eq_false_iff_ne.mpr c70
     have c70b1 : (a1_0 != 3) = true := bne_iff_ne.mpr c70
     by_cases c100 : a1_0 = 4
     focus
      rw [if_pos c100] at H
      have c100b0 : (a1_0 == 4) = true := beq_iff_eq.mpr c100
      have c100b1 : (a1_0 != 4) = false := bne_eq_false_iff_eq.mpr c100
      clear c100
      by_cases c101 : 0 ≤ a1_2
      focus
       rw [if_pos c101] at H
       have c101b0 : decide (0 ≤ a1_2) = true := decide_eq_true c101
       clear c101
       by_cases c102 : a1_2 < (l0_0.length : Int)
       focus
        rw [if_pos c102] at H
        have c102b0 : decide (a1_2 < (l0_0.length : Int)) = true := decide_eq_true c102
        clear c102
        replace H := Option.bind_eq_some_iff.mp H
        obtain ⟨⟨t442, t443⟩, A1030, H⟩ := H
        replace H : (some (t442, t443)) = some (r1, r2) := H
        have A103 := Aside0.mk A1030
        clear A1030
        simp only [Option.some.injEq, Prod.mk.injEq] at H
        obtain ⟨rfl, rfl⟩ := H
        have tag4_ : Aside0 True := ⟨trivial⟩
       rotate_left
       focus
        rw [if_neg c102] at H
        exact absurd H (by simp)
      rotate_left
      focus
       rw [if_neg c101] at H
       exact absurd H (by simp)
     rotate_left
     focus
      rw [if_neg c100] at H
      have c100b0 : (a1_0 == 4) = false := beq_eq_false_iff_ne.mpr c100
      have c100b1 : (a1_0 != 4) = true := bne_iff_ne.mpr c100
      simp only [Option.some.injEq, Prod.mk.injEq] at H
      obtain ⟨rfl, rfl⟩ := H
      have tag5_ : Aside0 True := ⟨trivial⟩
     rotate_left
    rotate_left 2
   rotate_left 3
   focus
    rw [if_neg c68] at H
    exact absurd H (by simp)
  rotate_left 3
  focus
   rw [if_neg c67] at H
   exact absurd H (by simp)
 rotate_left 3
 all_goals
  go_enter Try.func140, Try.ntmps140
  first
  | (
    (first | (have z_ := tag0_; clear z_) | (have z_ := tag1_; clear z_) | (have z_ := tag3_; clear z_) | (have z_ := tag4_; clear z_) | (have z_ := tag5_; clear z_))
    try go_wp2_with (first | ((with_reducible refine gate_dst (N := 2) rfl ?_); refine ZX (N := 2) (cs := #[.slice A0_0 l0_0.length c0_0, .slice A0_1 l0_1.length c0_1]) (t := 26) ?_; intro gbq0 hg wq0 hbox hb; have BKq0 := Aside0.mk (hbox); have GWq0 : Aside0 (w.heap.size ≤ gbq0) := ZS hg; have GEq0 : Aside0 (w.heap.size ≤ gbq0) := ZS hg; replace HB := ZT hb; clear hb hbox hg) | ((with_reducible refine gate_dst (N := 3) rfl ?_); refine ZX (N := 3) (cs := #[.int .i64 a1_0, .int .i64 a1_1, .int .i64 a1_2]) (t := 57) ?_; intro gbq1 hg wq1 hbox hb; have BKq1 := Aside0.mk (hbox); have GWq1 : Aside0 (w.heap.size ≤ gbq1) := ZS hg; have GEq1 : Aside0 (w.heap.size ≤ gbq1) := ZS hg; have NBq0_424 : Aside0 (gbq0 ≠ gbq1) := ZN hg BKq0; have NBq1_423 : Aside0 (gbq1 ≠ gbq0) := ZM hg BKq0; replace BKq0 := ZW BKq0 hb; replace HB := ZT hb; clear hb hbox hg) | ((with_reducible refine gate_dst (N := 4) rfl ?_); refine ZX (N := 4) (cs := #[.int .i64 0, .int .i64 0]) (t := 35) ?_; intro gbq2 hg wq2 hbox hb; have BKq2 := Aside0.mk (hbox); have GWq2 : Aside0 (w.heap.size ≤ gbq2) := ZS hg; have GEq2 : Aside0 (w.heap.size ≤ gbq2) := ZS hg; have NBq0_425 : Aside0 (gbq0 ≠ gbq2) := ZN hg BKq0; have NBq2_423 : Aside0 (gbq2 ≠ gbq0) := ZM hg BKq0; have NBq1_425 : Aside0 (gbq1 ≠ gbq2) := ZN hg BKq1; have NBq2_424 : Aside0 (gbq2 ≠ gbq1) := ZM hg BKq1; replace BKq0 := ZW BKq0 hb; replace BKq1 := ZW BKq1 hb; replace HB := ZT hb; clear hb hbox hg) | ((with_reducible refine gate_callee (f := 108) rfl ?_); refine goesL_ (some 6) rfl rfl Try.func108 (by kernel_rfl) rfl #[] rfl ZG ?_; (with_reducible refine (spec_l11Any.calls  t426 t427 _ A3.out).mono ?_); rintro e wq3 ⟨rfl, hb⟩; refine ⟨_, rfl, ?_⟩; replace BKq0 := ZW BKq0 hb; replace BKq1 := ZW BKq1 hb; replace BKq2 := ZW BKq2 hb; replace HB := ZT hb; (try clear hb); (try clear hb2); (try clear hk); (try clear hi)) | ((with_reducible refine gate_dst (N := 5) rfl ?_); refine ZX (N := 5) (cs := #[.int .i64 0, .int .i64 0]) (t := 35) ?_; intro gbq3 hg wq4 hbox hb; have BKq3 := Aside0.mk (hbox); have GWq3 : Aside0 (w.heap.size ≤ gbq3) := ZS hg; have GEq3 : Aside0 (w.heap.size ≤ gbq3) := ZS hg; have NBq0_428 : Aside0 (gbq0 ≠ gbq3) := ZN hg BKq0; have NBq3_423 : Aside0 (gbq3 ≠ gbq0) := ZM hg BKq0; have NBq1_428 : Aside0 (gbq1 ≠ gbq3) := ZN hg BKq1; have NBq3_424 : Aside0 (gbq3 ≠ gbq1) := ZM hg BKq1; have NBq2_428 : Aside0 (gbq2 ≠ gbq3) := ZN hg BKq2; have NBq3_425 : Aside0 (gbq3 ≠ gbq2) := ZM hg BKq2; replace BKq0 := ZW BKq0 hb; replace BKq1 := ZW BKq1 hb; replace BKq2 := ZW BKq2 hb; replace HB := ZT hb; clear hb hbox hg; have hnbq0 := NBq3_423.out; have hncq0 := NBq0_428.out; have hnbq1 := NBq3_424.out; have hncq1 := NBq1_428.out; have hnbq2 := NBq3_425.out; have hncq2 := NBq2_428.out; obtain ⟨hczq0_0, hczq0_1⟩ := ZC2 wq4 BKq3; obtain ⟨hfzq0_0, hfzq0_1⟩ := ZF2 BKq3; have hnbq3 := NBq1_423.out; have hncq3 := NBq0_424.out; have hnbq4 := NBq1_425.out; have hncq4 := NBq2_424.out; obtain ⟨hczq1_0, hczq1_1, hczq1_2⟩ := ZC3 wq4 BKq1; obtain ⟨hfzq1_0, hfzq1_1, hfzq1_2⟩ := ZF3 BKq1))
    have nq0_ : Aside0 (((wq4.setCell ⟨gbq3, 0, none⟩ (.int .i64 t426)).setCell ⟨gbq3, 1, none⟩ (.int .i64 t427)).heap[gbq0]? = some (.cells #[.slice A0_0 l0_0.length c0_0, .slice A0_1 l0_1.length c0_1] 26 (0, 0))) := ⟨ZZ BKq0.out⟩
    have nq1_ : Aside0 (((wq4.setCell ⟨gbq3, 0, none⟩ (.int .i64 t426)).setCell ⟨gbq3, 1, none⟩ (.int .i64 t427)).heap[gbq1]? = some (.cells #[.int .i64 a1_0, .int .i64 a1_1, .int .i64 a1_2] 57 (0, 0))) := ⟨ZZ BKq1.out⟩
    have nq2_ : Aside0 (((wq4.setCell ⟨gbq3, 0, none⟩ (.int .i64 t426)).setCell ⟨gbq3, 1, none⟩ (.int .i64 t427)).heap[gbq2]? = some (.cells #[.int .i64 0, .int .i64 0] 35 (0, 0))) := ⟨ZZ BKq2.out⟩
    have nq3_ : Aside0 (((wq4.setCell ⟨gbq3, 0, none⟩ (.int .i64 t426)).setCell ⟨gbq3, 1, none⟩ (.int .i64 t427)).heap[gbq3]? = some (.cells #[.int .i64 t426, .int .i64 t427] 35 (0, 0))) := ⟨ZZ BKq3.out⟩
    have nq4_ : Aside0 (Below w.heap.size w ((wq4.setCell ⟨gbq3, 0, none⟩ (.int .i64 t426)).setCell ⟨gbq3, 1, none⟩ (.int .i64 t427))) := ⟨ZB⟩
    (try clear BKq0)
    (try clear BKq1)
    (try clear BKq2)
    (try clear BKq3)
    (try clear HB)
    generalize ((wq4.setCell ⟨gbq3, 0, none⟩ (.int .i64 t426)).setCell ⟨gbq3, 1, none⟩ (.int .i64 t427)) = wq5 at nq0_ nq1_ nq2_ nq3_ nq4_ ⊢
    have BKq0 := nq0_
    have BKq1 := nq1_
    have BKq2 := nq2_
    have BKq3 := nq3_
    have HB := nq4_
    clear nq0_ nq1_ nq2_ nq3_ nq4_
    have nq0_ := Aside0.mk (blk_drew BKq0.out)
    have nq1_ := Aside0.mk (blk_drew BKq1.out)
    have nq2_ := Aside0.mk (blk_drew BKq2.out)
    have nq3_ := Aside0.mk (blk_drew BKq3.out)
    have nq4_ := Aside0.mk (below_drew1 HB.out)
    clear BKq0
    clear BKq1
    clear BKq2
    clear BKq3
    clear HB
    have BKq0 := nq0_
    have BKq1 := nq1_
    have BKq2 := nq2_
    have BKq3 := nq3_
    have HB := nq4_
    clear nq0_ nq1_ nq2_ nq3_ nq4_
    first
    | (
      (first | (have z_ := tag0_; clear z_) | (have z_ := tag1_; clear z_))
      have pq0 : 0 ≤ (a1_2 : Int) := ZD
      have qq0 : a1_2 < (l0_0.length : Int) := ZD
      obtain ⟨adq0, eq0, hxq0_0, hxq0_1⟩ := at_T35 HR0_0.out a1_2 pq0 qq0
      have hwq0_1 := hxq0_1
      have hwq0_0 := hxq0_0
      cases eq0
      replace hxq0_0 := (HB.out.cell (World.block_lt_of_cell? w _ hxq0_0)).trans hxq0_0
      replace hxq0_1 := (HB.out.cell (World.block_lt_of_cell? w _ hxq0_1)).trans hxq0_1
      replace pq0 := eq_true pq0
      replace qq0 := eq_true qq0
      refine start_ (n := 9) (S := fun w' => w'.cell? ⟨gbq3, 0, none⟩ = some (.int .i64 t426) ∧ w'.cell? ⟨gbq3, 1, none⟩ = some (.int .i64 t427) ∧ w'.cell? ⟨gbq0, 0, none⟩ = some (.slice (some adq0) l0_0.length c0_0) ∧ w'.cell? ⟨gbq0, 1, none⟩ = some (.slice A0_1 l0_1.length c0_1) ∧ w'.cell? ⟨gbq1, 0, none⟩ = some (.int .i64 a1_0) ∧ w'.cell? ⟨gbq1, 1, none⟩ = some (.int .i64 a1_1) ∧ w'.cell? ⟨gbq1, 2, none⟩ = some (.int .i64 a1_2) ∧ w'.cell? (adq0.add ((a1_2).toNat * 2)) = some (.int .i64 ((rd_T35 l0_0 a1_2).f0)) ∧ w'.cell? ⟨(adq0.add ((a1_2).toNat * 2)).block, (adq0.add ((a1_2).toNat * 2)).off + 1, none⟩ = some (.int .i64 ((rd_T35 l0_0 a1_2).f1))) (ds := [8]) #[false, false, false, false, false, false, false, false, false] (by kernel_rfl) rfl rfl ⟨(blk_cell BKq3.out 0).trans rfl, (blk_cell BKq3.out 1).trans rfl, (blk_cell BKq0.out 0).trans rfl, (blk_cell BKq0.out 1).trans rfl, (blk_cell BKq1.out 0).trans rfl, (blk_cell BKq1.out 1).trans rfl, (blk_cell BKq1.out 2).trans rfl, ((HB.out.cell (World.block_lt_of_cell? w _ hwq0_0)).trans hwq0_0), ((HB.out.cell (World.block_lt_of_cell? w _ hwq0_1)).trans hwq0_1)⟩ (fun hHeld => ?_); refine with_tabW spec_l11Val.tab5 spec_l11Val.bits5 (fun HT_ HW_ => ?_)
      generalize wq5.drew = wq6 at BKq0 BKq1 BKq2 BKq3 HB hxq0_0 hxq0_1 hHeld ⊢
      refine pure_ (i := 1) (N := some 27) (v := ?_) (a' := ?_) #[false, true, false, false, false, false, false, false, false] rfl rfl (any_of HT_.out (by kernel_rfl)) (fun _ _ _ h => h) (Or.inl ⟨by rfl, ?_⟩) ?_ ?_
      rotate_left
      ·intro w'
       go_simp
       with_reducible rfl
      rotate_left
      ·simp only [Act.put, List.setIfInBounds_toArray, List.set_cons_zero, List.set_cons_succ, i64_w, i32_w]
       rfl
      refine pure_ (i := 3) (N := some 29) (v := ?_) (a' := ?_) #[false, true, false, true, false, false, false, false, false] rfl rfl (any_of HT_.out (by kernel_rfl)) (fun _ _ _ h => h) (Or.inl ⟨by rfl, ?_⟩) ?_ ?_
      rotate_left
      ·intro w'
       go_simp
       with_reducible rfl
      rotate_left
      ·simp only [Act.put, List.setIfInBounds_toArray, List.set_cons_zero, List.set_cons_succ, i64_w, i32_w]
       rfl
      refine take_ (i := 0) (N := some 26) (v := ?_) (a' := ?_) #[true, true, false, true, false, false, false, false, false] rfl rfl (take_ofW HT_.out HW_.out (by kernel_rfl)) (fun _ _ _ h => h) (Or.inl ⟨by rfl, ?_⟩) hHeld ?_ ?_
      rotate_left
      ·rintro w' ⟨sq0, sq1, sq2, sq3, sq4, sq5, sq6, sq7, sq8⟩
       go_simp
       with_reducible rfl
      rotate_left
      ·simp only [Act.put, List.setIfInBounds_toArray, List.set_cons_zero, List.set_cons_succ, i64_w, i32_w]
       rfl
      refine take_ (i := 2) (N := some 28) (v := ?_) (a' := ?_) #[true, true, true, true, false, false, false, false, false] rfl rfl (take_ofW HT_.out HW_.out (by kernel_rfl)) (fun _ _ _ h => h) (Or.inl ⟨by rfl, ?_⟩) hHeld ?_ ?_
      rotate_left
      ·rintro w' ⟨sq0, sq1, sq2, sq3, sq4, sq5, sq6, sq7, sq8⟩
       go_simp
       with_reducible rfl
      rotate_left
      ·simp only [Act.put, List.setIfInBounds_toArray, List.set_cons_zero, List.set_cons_succ, i64_w, i32_w]
       rfl
      refine take_ (i := 4) (N := some 30) (v := ?_) (a' := ?_) #[true, true, true, true, true, false, false, false, false] rfl rfl (take_ofW HT_.out HW_.out (by kernel_rfl)) (fun _ _ _ h => h) (Or.inl ⟨by rfl, ?_⟩) hHeld ?_ ?_
      rotate_left
      ·rintro w' ⟨sq0, sq1, sq2, sq3, sq4, sq5, sq6, sq7, sq8⟩
       go_simp
       with_reducible rfl
      rotate_left
      ·simp only [Act.put, List.setIfInBounds_toArray, List.set_cons_zero, List.set_cons_succ, i64_w, i32_w]
       rfl
      refine pure_ (i := 5) (N := some 31) (v := ?_) (a' := ?_) #[true, true, true, true, true, true, false, false, false] rfl rfl (any_of HT_.out (by kernel_rfl)) (fun _ _ _ h => h) (Or.inl ⟨by rfl, ?_⟩) ?_ ?_
      rotate_left
      ·intro w'
       go_simp
       with_reducible rfl
      rotate_left
      ·simp only [Act.put, List.setIfInBounds_toArray, List.set_cons_zero, List.set_cons_succ, i64_w, i32_w]
       rfl
      refine take_ (i := 6) (N := some 32) (v := ?_) (a' := ?_) #[true, true, true, true, true, true, true, false, false] rfl rfl (take_ofW HT_.out HW_.out (by kernel_rfl)) (fun _ _ _ h => h) (Or.inl ⟨by rfl, ?_⟩) hHeld ?_ ?_
      rotate_left
      ·rintro w' ⟨sq0, sq1, sq2, sq3, sq4, sq5, sq6, sq7, sq8⟩
       go_simp
       with_reducible rfl
      rotate_left
      ·simp only [Act.put, List.setIfInBounds_toArray, List.set_cons_zero, List.set_cons_succ, i64_w, i32_w]
       rfl
      refine one_ (i := 7) (N := some 33) #[true, true, true, true, true, true, true, true, false] rfl rfl (one_of HT_.out (by kernel_rfl)) (by decide) (fun K hK => ?_)
      refine goes_ Try.func135 (by kernel_rfl) rfl #[.agg #[.int .i64 t426, .int .i64 t427], .agg #[.int .i64 ((rd_T35 l0_0 a1_2).f0), .int .i64 ((rd_T35 l0_0 a1_2).f1)]] (by rfl) rfl rfl ZG ?_
      first
      | (
        (have z_ := tag0_; clear z_)
        with_reducible refine (spec_LabelBoth.calls k t426 t427 ((rd_T35 l0_0 a1_2).f0) ((rd_T35 l0_0 a1_2).f1) t430 t431 _ A8.out).mono ?_
        rintro e wq7 ⟨rfl, hb⟩
        refine ⟨_, rfl, ?_⟩
        have nq0_ := ZW BKq0 hb
        have nq1_ := ZW BKq1 hb
        have nq2_ := ZW BKq2 hb
        have nq3_ := ZW BKq3 hb
        have nq4_ := ZT hb
        clear BKq0
        clear BKq1
        clear BKq2
        clear BKq3
        clear HB
        have BKq0 := nq0_
        have BKq1 := nq1_
        have BKq2 := nq2_
        have BKq3 := nq3_
        have HB := nq4_
        clear nq0_ nq1_ nq2_ nq3_ nq4_
        (try clear hb)
        (try clear hb2)
        (try clear hk)
        (try clear hi)
        refine hK.out _ _ ⟨(blk_cell BKq3.out 0).trans rfl, (blk_cell BKq3.out 1).trans rfl, (blk_cell BKq0.out 0).trans rfl, (blk_cell BKq0.out 1).trans rfl, (blk_cell BKq1.out 0).trans rfl, (blk_cell BKq1.out 1).trans rfl, (blk_cell BKq1.out 2).trans rfl, ((HB.out.cell (World.block_lt_of_cell? w _ hwq0_0)).trans hwq0_0), ((HB.out.cell (World.block_lt_of_cell? w _ hwq0_1)).trans hwq0_1)⟩ (fun hHeld => ?_)
        clear hK K
        refine ZNO 33 ?_
        refine last_ (i := 8) (N := none) #[true, true, true, true, true, true, true, true, true] rfl rfl (one_of HT_.out (by kernel_rfl)) (by decide) (fun K hK => ?_)
        have hsq0 : wq7.cell? ⟨gbq3, 0, none⟩ = some (.int .i64 t426) := (blk_cell BKq3.out 0).trans rfl
        have hfsq0 := blk_frozen BKq3.out 0
        have hnsq0_0 := NBq0_428.out
        have hnsq0_1 := NBq1_428.out
        have hnsq0_2 := NBq2_428.out
        have hmsq0_0 := NBq3_423.out
        have hmsq0_1 := NBq3_424.out
        have hmsq0_2 := NBq3_425.out
        have hsq1 : wq7.cell? ⟨gbq3, 1, none⟩ = some (.int .i64 t427) := (blk_cell BKq3.out 1).trans rfl
        have hfsq1 := blk_frozen BKq3.out 1
        have hnsq1_0 := NBq0_428.out
        have hnsq1_1 := NBq1_428.out
        have hnsq1_2 := NBq2_428.out
        have hmsq1_0 := NBq3_423.out
        have hmsq1_1 := NBq3_424.out
        have hmsq1_2 := NBq3_425.out
        refine skip_ (w1 := ?_) (by rfl) rfl ?_ ?_
        rotate_left
        ·go_simp
         rfl
        refine hK.out _ _ ?_
        clear hK K
        refine done_ (done_of HT_.out (by kernel_rfl)) ?_
        obtain ⟨hczq2_0, hczq2_1⟩ := ZC2 wq7 BKq3
        obtain ⟨hfzq2_0, hfzq2_1⟩ := ZF2 BKq3
        have hnbq5 := NBq2_423.out
        have hncq5 := NBq0_425.out
        obtain ⟨hczq3_0, hczq3_1⟩ := ZC2 wq7 BKq2
        obtain ⟨hfzq3_0, hfzq3_1⟩ := ZF2 BKq2
        try go_wp2
        refine bodyPost_ret (results_cell_row rfl _ _ gbq2 35 #[.int .i64 t430, .int .i64 t431] (0, 0) _ rfl (ZZ BKq2.out) Try.underlying35 rfl (by kernel_rfl)) rfl ?_
        exact ⟨ZE, ZB⟩)
      | (
        (have z_ := tag1_; clear z_)
        with_reducible refine (spec_LabelBoth.calls k t426 t427 ((rd_T35 l0_0 a1_2).f0) ((rd_T35 l0_0 a1_2).f1) t433 t434 _ A32.out).mono ?_
        rintro e wq7 ⟨rfl, hb⟩
        refine ⟨_, rfl, ?_⟩
        have nq0_ := ZW BKq0 hb
        have nq1_ := ZW BKq1 hb
        have nq2_ := ZW BKq2 hb
        have nq3_ := ZW BKq3 hb
        have nq4_ := ZT hb
        clear BKq0
        clear BKq1
        clear BKq2
        clear BKq3
        clear HB
        have BKq0 := nq0_
        have BKq1 := nq1_
        have BKq2 := nq2_
        have BKq3 := nq3_
        have HB := nq4_
        clear nq0_ nq1_ nq2_ nq3_ nq4_
        (try clear hb)
        (try clear hb2)
        (try clear hk)
        (try clear hi)
        refine hK.out _ _ ⟨(blk_cell BKq3.out 0).trans rfl, (blk_cell BKq3.out 1).trans rfl, (blk_cell BKq0.out 0).trans rfl, (blk_cell BKq0.out 1).trans rfl, (blk_cell BKq1.out 0).trans rfl, (blk_cell BKq1.out 1).trans rfl, (blk_cell BKq1.out 2).trans rfl, ((HB.out.cell (World.block_lt_of_cell? w _ hwq0_0)).trans hwq0_0), ((HB.out.cell (World.block_lt_of_cell? w _ hwq0_1)).trans hwq0_1)⟩ (fun hHeld => ?_)
        clear hK K
        refine ZNO 33 ?_
        refine last_ (i := 8) (N := none) #[true, true, true, true, true, true, true, true, true] rfl rfl (one_of HT_.out (by kernel_rfl)) (by decide) (fun K hK => ?_)
        have hsq0 : wq7.cell? ⟨gbq3, 0, none⟩ = some (.int .i64 t426) := (blk_cell BKq3.out 0).trans rfl
        have hfsq0 := blk_frozen BKq3.out 0
        have hnsq0_0 := NBq0_428.out
        have hnsq0_1 := NBq1_428.out
        have hnsq0_2 := NBq2_428.out
        have hmsq0_0 := NBq3_423.out
        have hmsq0_1 := NBq3_424.out
        have hmsq0_2 := NBq3_425.out
        have hsq1 : wq7.cell? ⟨gbq3, 1, none⟩ = some (.int .i64 t427) := (blk_cell BKq3.out 1).trans rfl
        have hfsq1 := blk_frozen BKq3.out 1
        have hnsq1_0 := NBq0_428.out
        have hnsq1_1 := NBq1_428.out
        have hnsq1_2 := NBq2_428.out
        have hmsq1_0 := NBq3_423.out
        have hmsq1_1 := NBq3_424.out
        have hmsq1_2 := NBq3_425.out
        refine skip_ (w1 := ?_) (by rfl) rfl ?_ ?_
        rotate_left
        ·go_simp
         rfl
        refine hK.out _ _ ?_
        clear hK K
        refine done_ (done_of HT_.out (by kernel_rfl)) ?_
        obtain ⟨hczq2_0, hczq2_1⟩ := ZC2 wq7 BKq3
        obtain ⟨hfzq2_0, hfzq2_1⟩ := ZF2 BKq3
        have hnbq5 := NBq2_423.out
        have hncq5 := NBq0_425.out
        obtain ⟨hczq3_0, hczq3_1⟩ := ZC2 wq7 BKq2
        obtain ⟨hfzq3_0, hfzq3_1⟩ := ZF2 BKq2
        try go_wp2
        refine bodyPost_ret (results_cell_row rfl _ _ gbq2 35 #[.int .i64 t433, .int .i64 t434] (0, 0) _ rfl (ZZ BKq2.out) Try.underlying35 rfl (by kernel_rfl)) rfl ?_
        exact ⟨ZE, ZB⟩))
    | (
      (first | (have z_ := tag3_; clear z_) | (have z_ := tag4_; clear z_) | (have z_ := tag5_; clear z_))
      have pq0 : 0 ≤ (a1_1 : Int) := ZD
      have qq0 : a1_1 < (l0_0.length : Int) := ZD
      obtain ⟨adq0, eq0, hxq0_0, hxq0_1⟩ := at_T35 HR0_0.out a1_1 pq0 qq0
      have hwq0_1 := hxq0_1
      have hwq0_0 := hxq0_0
      cases eq0
      replace hxq0_0 := (HB.out.cell (World.block_lt_of_cell? w _ hxq0_0)).trans hxq0_0
      replace hxq0_1 := (HB.out.cell (World.block_lt_of_cell? w _ hxq0_1)).trans hxq0_1
      replace pq0 := eq_true pq0
      replace qq0 := eq_true qq0
      refine start_ (n := 9) (S := fun w' => w'.cell? ⟨gbq3, 0, none⟩ = some (.int .i64 t426) ∧ w'.cell? ⟨gbq3, 1, none⟩ = some (.int .i64 t427) ∧ w'.cell? ⟨gbq0, 0, none⟩ = some (.slice (some adq0) l0_0.length c0_0) ∧ w'.cell? ⟨gbq0, 1, none⟩ = some (.slice A0_1 l0_1.length c0_1) ∧ w'.cell? ⟨gbq1, 0, none⟩ = some (.int .i64 a1_0) ∧ w'.cell? ⟨gbq1, 1, none⟩ = some (.int .i64 a1_1) ∧ w'.cell? ⟨gbq1, 2, none⟩ = some (.int .i64 a1_2) ∧ w'.cell? (adq0.add ((a1_1).toNat * 2)) = some (.int .i64 ((rd_T35 l0_0 a1_1).f0)) ∧ w'.cell? ⟨(adq0.add ((a1_1).toNat * 2)).block, (adq0.add ((a1_1).toNat * 2)).off + 1, none⟩ = some (.int .i64 ((rd_T35 l0_0 a1_1).f1))) (ds := [8]) #[false, false, false, false, false, false, false, false, false] (by kernel_rfl) rfl rfl ⟨(blk_cell BKq3.out 0).trans rfl, (blk_cell BKq3.out 1).trans rfl, (blk_cell BKq0.out 0).trans rfl, (blk_cell BKq0.out 1).trans rfl, (blk_cell BKq1.out 0).trans rfl, (blk_cell BKq1.out 1).trans rfl, (blk_cell BKq1.out 2).trans rfl, ((HB.out.cell (World.block_lt_of_cell? w _ hwq0_0)).trans hwq0_0), ((HB.out.cell (World.block_lt_of_cell? w _ hwq0_1)).trans hwq0_1)⟩ (fun hHeld => ?_); refine with_tabW spec_l11Val.tab3 spec_l11Val.bits3 (fun HT_ HW_ => ?_)
      generalize wq5.drew = wq6 at BKq0 BKq1 BKq2 BKq3 HB hxq0_0 hxq0_1 hHeld ⊢
      refine pure_ (i := 1) (N := some 11) (v := ?_) (a' := ?_) #[false, true, false, false, false, false, false, false, false] rfl rfl (any_of HT_.out (by kernel_rfl)) (fun _ _ _ h => h) (Or.inl ⟨by rfl, ?_⟩) ?_ ?_
      rotate_left
      ·intro w'
       go_simp
       with_reducible rfl
      rotate_left
      ·simp only [Act.put, List.setIfInBounds_toArray, List.set_cons_zero, List.set_cons_succ, i64_w, i32_w]
       rfl
      refine pure_ (i := 3) (N := some 13) (v := ?_) (a' := ?_) #[false, true, false, true, false, false, false, false, false] rfl rfl (any_of HT_.out (by kernel_rfl)) (fun _ _ _ h => h) (Or.inl ⟨by rfl, ?_⟩) ?_ ?_
      rotate_left
      ·intro w'
       go_simp
       with_reducible rfl
      rotate_left
      ·simp only [Act.put, List.setIfInBounds_toArray, List.set_cons_zero, List.set_cons_succ, i64_w, i32_w]
       rfl
      refine take_ (i := 0) (N := some 10) (v := ?_) (a' := ?_) #[true, true, false, true, false, false, false, false, false] rfl rfl (take_ofW HT_.out HW_.out (by kernel_rfl)) (fun _ _ _ h => h) (Or.inl ⟨by rfl, ?_⟩) hHeld ?_ ?_
      rotate_left
      ·rintro w' ⟨sq0, sq1, sq2, sq3, sq4, sq5, sq6, sq7, sq8⟩
       go_simp
       with_reducible rfl
      rotate_left
      ·simp only [Act.put, List.setIfInBounds_toArray, List.set_cons_zero, List.set_cons_succ, i64_w, i32_w]
       rfl
      refine take_ (i := 2) (N := some 12) (v := ?_) (a' := ?_) #[true, true, true, true, false, false, false, false, false] rfl rfl (take_ofW HT_.out HW_.out (by kernel_rfl)) (fun _ _ _ h => h) (Or.inl ⟨by rfl, ?_⟩) hHeld ?_ ?_
      rotate_left
      ·rintro w' ⟨sq0, sq1, sq2, sq3, sq4, sq5, sq6, sq7, sq8⟩
       go_simp
       with_reducible rfl
      rotate_left
      ·simp only [Act.put, List.setIfInBounds_toArray, List.set_cons_zero, List.set_cons_succ, i64_w, i32_w]
       rfl
      refine take_ (i := 4) (N := some 14) (v := ?_) (a' := ?_) #[true, true, true, true, true, false, false, false, false] rfl rfl (take_ofW HT_.out HW_.out (by kernel_rfl)) (fun _ _ _ h => h) (Or.inl ⟨by rfl, ?_⟩) hHeld ?_ ?_
      rotate_left
      ·rintro w' ⟨sq0, sq1, sq2, sq3, sq4, sq5, sq6, sq7, sq8⟩
       go_simp
       with_reducible rfl
      rotate_left
      ·simp only [Act.put, List.setIfInBounds_toArray, List.set_cons_zero, List.set_cons_succ, i64_w, i32_w]
       rfl
      refine pure_ (i := 5) (N := some 15) (v := ?_) (a' := ?_) #[true, true, true, true, true, true, false, false, false] rfl rfl (any_of HT_.out (by kernel_rfl)) (fun _ _ _ h => h) (Or.inl ⟨by rfl, ?_⟩) ?_ ?_
      rotate_left
      ·intro w'
       go_simp
       with_reducible rfl
      rotate_left
      ·simp only [Act.put, List.setIfInBounds_toArray, List.set_cons_zero, List.set_cons_succ, i64_w, i32_w]
       rfl
      refine take_ (i := 6) (N := some 16) (v := ?_) (a' := ?_) #[true, true, true, true, true, true, true, false, false] rfl rfl (take_ofW HT_.out HW_.out (by kernel_rfl)) (fun _ _ _ h => h) (Or.inl ⟨by rfl, ?_⟩) hHeld ?_ ?_
      rotate_left
      ·rintro w' ⟨sq0, sq1, sq2, sq3, sq4, sq5, sq6, sq7, sq8⟩
       go_simp
       with_reducible rfl
      rotate_left
      ·simp only [Act.put, List.setIfInBounds_toArray, List.set_cons_zero, List.set_cons_succ, i64_w, i32_w]
       rfl
      refine one_ (i := 7) (N := some 17) #[true, true, true, true, true, true, true, true, false] rfl rfl (one_of HT_.out (by kernel_rfl)) (by decide) (fun K hK => ?_)
      refine goes_ Try.func135 (by kernel_rfl) rfl #[.agg #[.int .i64 t426, .int .i64 t427], .agg #[.int .i64 ((rd_T35 l0_0 a1_1).f0), .int .i64 ((rd_T35 l0_0 a1_1).f1)]] (by rfl) rfl rfl ZG ?_
      with_reducible refine (spec_LabelBoth.calls k t426 t427 ((rd_T35 l0_0 a1_1).f0) ((rd_T35 l0_0 a1_1).f1) t436 t437 _ A69.out).mono ?_
      rintro e wq7 ⟨rfl, hb⟩
      refine ⟨_, rfl, ?_⟩
      have nq0_ := ZW BKq0 hb
      have nq1_ := ZW BKq1 hb
      have nq2_ := ZW BKq2 hb
      have nq3_ := ZW BKq3 hb
      have nq4_ := ZT hb
      clear BKq0
      clear BKq1
      clear BKq2
      clear BKq3
      clear HB
      have BKq0 := nq0_
      have BKq1 := nq1_
      have BKq2 := nq2_
      have BKq3 := nq3_
      have HB := nq4_
      clear nq0_ nq1_ nq2_ nq3_ nq4_
      (try clear hb)
      (try clear hb2)
      (try clear hk)
      (try clear hi)
      refine hK.out _ _ ⟨(blk_cell BKq3.out 0).trans rfl, (blk_cell BKq3.out 1).trans rfl, (blk_cell BKq0.out 0).trans rfl, (blk_cell BKq0.out 1).trans rfl, (blk_cell BKq1.out 0).trans rfl, (blk_cell BKq1.out 1).trans rfl, (blk_cell BKq1.out 2).trans rfl, ((HB.out.cell (World.block_lt_of_cell? w _ hwq0_0)).trans hwq0_0), ((HB.out.cell (World.block_lt_of_cell? w _ hwq0_1)).trans hwq0_1)⟩ (fun hHeld => ?_)
      clear hK K
      refine ZNO 17 ?_
      refine last_ (i := 8) (N := none) #[true, true, true, true, true, true, true, true, true] rfl rfl (one_of HT_.out (by kernel_rfl)) (by decide) (fun K hK => ?_)
      have hsq0 : wq7.cell? ⟨gbq3, 0, none⟩ = some (.int .i64 t426) := (blk_cell BKq3.out 0).trans rfl
      have hfsq0 := blk_frozen BKq3.out 0
      have hnsq0_0 := NBq0_428.out
      have hnsq0_1 := NBq1_428.out
      have hnsq0_2 := NBq2_428.out
      have hmsq0_0 := NBq3_423.out
      have hmsq0_1 := NBq3_424.out
      have hmsq0_2 := NBq3_425.out
      have hsq1 : wq7.cell? ⟨gbq3, 1, none⟩ = some (.int .i64 t427) := (blk_cell BKq3.out 1).trans rfl
      have hfsq1 := blk_frozen BKq3.out 1
      have hnsq1_0 := NBq0_428.out
      have hnsq1_1 := NBq1_428.out
      have hnsq1_2 := NBq2_428.out
      have hmsq1_0 := NBq3_423.out
      have hmsq1_1 := NBq3_424.out
      have hmsq1_2 := NBq3_425.out
      refine skip_ (w1 := ?_) (by rfl) rfl ?_ ?_
      rotate_left
      ·go_simp
       rfl
      refine hK.out _ _ ?_
      clear hK K
      refine done_ (done_of HT_.out (by kernel_rfl)) ?_
      obtain ⟨hczq2_0, hczq2_1, hczq2_2⟩ := ZC3 wq7 BKq1
      obtain ⟨hfzq2_0, hfzq2_1, hfzq2_2⟩ := ZF3 BKq1
      first
      | (
        (first | (have z_ := tag3_; clear z_) | (have z_ := tag4_; clear z_))
        try go_wp2
        have nq0_ : Aside0 (((wq7.setCell ⟨gbq3, 0, none⟩ (.int .i64 t436)).setCell ⟨gbq3, 1, none⟩ (.int .i64 t437)).heap[gbq0]? = some (.cells #[.slice (some adq0) l0_0.length c0_0, .slice A0_1 l0_1.length c0_1] 26 (0, 0))) := ⟨ZZ BKq0.out⟩
        have nq1_ : Aside0 (((wq7.setCell ⟨gbq3, 0, none⟩ (.int .i64 t436)).setCell ⟨gbq3, 1, none⟩ (.int .i64 t437)).heap[gbq1]? = some (.cells #[.int .i64 a1_0, .int .i64 a1_1, .int .i64 a1_2] 57 (0, 0))) := ⟨ZZ BKq1.out⟩
        have nq2_ : Aside0 (((wq7.setCell ⟨gbq3, 0, none⟩ (.int .i64 t436)).setCell ⟨gbq3, 1, none⟩ (.int .i64 t437)).heap[gbq2]? = some (.cells #[.int .i64 0, .int .i64 0] 35 (0, 0))) := ⟨ZZ BKq2.out⟩
        have nq3_ : Aside0 (((wq7.setCell ⟨gbq3, 0, none⟩ (.int .i64 t436)).setCell ⟨gbq3, 1, none⟩ (.int .i64 t437)).heap[gbq3]? = some (.cells #[.int .i64 t436, .int .i64 t437] 35 (0, 0))) := ⟨ZZ BKq3.out⟩
        have nq4_ : Aside0 (Below w.heap.size w ((wq7.setCell ⟨gbq3, 0, none⟩ (.int .i64 t436)).setCell ⟨gbq3, 1, none⟩ (.int .i64 t437))) := ⟨ZB⟩
        (try clear BKq0)
        (try clear BKq1)
        (try clear BKq2)
        (try clear BKq3)
        (try clear HB)
        generalize ((wq7.setCell ⟨gbq3, 0, none⟩ (.int .i64 t436)).setCell ⟨gbq3, 1, none⟩ (.int .i64 t437)) = wq8 at nq0_ nq1_ nq2_ nq3_ nq4_ ⊢
        have BKq0 := nq0_
        have BKq1 := nq1_
        have BKq2 := nq2_
        have BKq3 := nq3_
        have HB := nq4_
        clear nq0_ nq1_ nq2_ nq3_ nq4_
        have nq0_ := Aside0.mk (blk_drew BKq0.out)
        have nq1_ := Aside0.mk (blk_drew BKq1.out)
        have nq2_ := Aside0.mk (blk_drew BKq2.out)
        have nq3_ := Aside0.mk (blk_drew BKq3.out)
        have nq4_ := Aside0.mk (below_drew1 HB.out)
        clear BKq0
        clear BKq1
        clear BKq2
        clear BKq3
        clear HB
        have BKq0 := nq0_
        have BKq1 := nq1_
        have BKq2 := nq2_
        have BKq3 := nq3_
        have HB := nq4_
        clear nq0_ nq1_ nq2_ nq3_ nq4_
        have pq1 : 0 ≤ (a1_2 : Int) := ZD
        have qq1 : a1_2 < (l0_0.length : Int) := ZD
        obtain ⟨adq1, eq1, hxq1_0, hxq1_1⟩ := at_T35 HR0_0.out a1_2 pq1 qq1
        have hwq1_1 := hxq1_1
        have hwq1_0 := hxq1_0
        obtain rfl : adq0 = adq1 := (by injection eq1)
        replace hxq1_0 := (HB.out.cell (World.block_lt_of_cell? w _ hxq1_0)).trans hxq1_0
        replace hxq1_1 := (HB.out.cell (World.block_lt_of_cell? w _ hxq1_1)).trans hxq1_1
        replace pq1 := eq_true pq1
        replace qq1 := eq_true qq1
        refine start_ (n := 9) (S := fun w' => w'.cell? ⟨gbq3, 0, none⟩ = some (.int .i64 t436) ∧ w'.cell? ⟨gbq3, 1, none⟩ = some (.int .i64 t437) ∧ w'.cell? ⟨gbq0, 0, none⟩ = some (.slice (some adq0) l0_0.length c0_0) ∧ w'.cell? ⟨gbq0, 1, none⟩ = some (.slice A0_1 l0_1.length c0_1) ∧ w'.cell? ⟨gbq1, 0, none⟩ = some (.int .i64 a1_0) ∧ w'.cell? ⟨gbq1, 1, none⟩ = some (.int .i64 a1_1) ∧ w'.cell? ⟨gbq1, 2, none⟩ = some (.int .i64 a1_2) ∧ w'.cell? (adq0.add ((a1_2).toNat * 2)) = some (.int .i64 ((rd_T35 l0_0 a1_2).f0)) ∧ w'.cell? ⟨(adq0.add ((a1_2).toNat * 2)).block, (adq0.add ((a1_2).toNat * 2)).off + 1, none⟩ = some (.int .i64 ((rd_T35 l0_0 a1_2).f1))) (ds := [8]) #[false, false, false, false, false, false, false, false, false] (by kernel_rfl) rfl rfl ⟨(blk_cell BKq3.out 0).trans rfl, (blk_cell BKq3.out 1).trans rfl, (blk_cell BKq0.out 0).trans rfl, (blk_cell BKq0.out 1).trans rfl, (blk_cell BKq1.out 0).trans rfl, (blk_cell BKq1.out 1).trans rfl, (blk_cell BKq1.out 2).trans rfl, ((HB.out.cell (World.block_lt_of_cell? w _ hwq1_0)).trans hwq1_0), ((HB.out.cell (World.block_lt_of_cell? w _ hwq1_1)).trans hwq1_1)⟩ (fun hHeld => ?_); refine with_tabW spec_l11Val.tab5 spec_l11Val.bits5 (fun HT_ HW_ => ?_)
        generalize wq8.drew = wq9 at BKq0 BKq1 BKq2 BKq3 HB hxq1_0 hxq1_1 hHeld ⊢
        refine pure_ (i := 1) (N := some 27) (v := ?_) (a' := ?_) #[false, true, false, false, false, false, false, false, false] rfl rfl (any_of HT_.out (by kernel_rfl)) (fun _ _ _ h => h) (Or.inl ⟨by rfl, ?_⟩) ?_ ?_
        rotate_left
        ·intro w'
         go_simp
         with_reducible rfl
        rotate_left
        ·simp only [Act.put, List.setIfInBounds_toArray, List.set_cons_zero, List.set_cons_succ, i64_w, i32_w]
         rfl
        refine pure_ (i := 3) (N := some 29) (v := ?_) (a' := ?_) #[false, true, false, true, false, false, false, false, false] rfl rfl (any_of HT_.out (by kernel_rfl)) (fun _ _ _ h => h) (Or.inl ⟨by rfl, ?_⟩) ?_ ?_
        rotate_left
        ·intro w'
         go_simp
         with_reducible rfl
        rotate_left
        ·simp only [Act.put, List.setIfInBounds_toArray, List.set_cons_zero, List.set_cons_succ, i64_w, i32_w]
         rfl
        refine take_ (i := 0) (N := some 26) (v := ?_) (a' := ?_) #[true, true, false, true, false, false, false, false, false] rfl rfl (take_ofW HT_.out HW_.out (by kernel_rfl)) (fun _ _ _ h => h) (Or.inl ⟨by rfl, ?_⟩) hHeld ?_ ?_
        rotate_left
        ·rintro w' ⟨sq0, sq1, sq2, sq3, sq4, sq5, sq6, sq7, sq8⟩
         go_simp
         with_reducible rfl
        rotate_left
        ·simp only [Act.put, List.setIfInBounds_toArray, List.set_cons_zero, List.set_cons_succ, i64_w, i32_w]
         rfl
        refine take_ (i := 2) (N := some 28) (v := ?_) (a' := ?_) #[true, true, true, true, false, false, false, false, false] rfl rfl (take_ofW HT_.out HW_.out (by kernel_rfl)) (fun _ _ _ h => h) (Or.inl ⟨by rfl, ?_⟩) hHeld ?_ ?_
        rotate_left
        ·rintro w' ⟨sq0, sq1, sq2, sq3, sq4, sq5, sq6, sq7, sq8⟩
         go_simp
         with_reducible rfl
        rotate_left
        ·simp only [Act.put, List.setIfInBounds_toArray, List.set_cons_zero, List.set_cons_succ, i64_w, i32_w]
         rfl
        refine take_ (i := 4) (N := some 30) (v := ?_) (a' := ?_) #[true, true, true, true, true, false, false, false, false] rfl rfl (take_ofW HT_.out HW_.out (by kernel_rfl)) (fun _ _ _ h => h) (Or.inl ⟨by rfl, ?_⟩) hHeld ?_ ?_
        rotate_left
        ·rintro w' ⟨sq0, sq1, sq2, sq3, sq4, sq5, sq6, sq7, sq8⟩
         go_simp
         with_reducible rfl
        rotate_left
        ·simp only [Act.put, List.setIfInBounds_toArray, List.set_cons_zero, List.set_cons_succ, i64_w, i32_w]
         rfl
        refine pure_ (i := 5) (N := some 31) (v := ?_) (a' := ?_) #[true, true, true, true, true, true, false, false, false] rfl rfl (any_of HT_.out (by kernel_rfl)) (fun _ _ _ h => h) (Or.inl ⟨by rfl, ?_⟩) ?_ ?_
        rotate_left
        ·intro w'
         go_simp
         with_reducible rfl
        rotate_left
        ·simp only [Act.put, List.setIfInBounds_toArray, List.set_cons_zero, List.set_cons_succ, i64_w, i32_w]
         rfl
        refine take_ (i := 6) (N := some 32) (v := ?_) (a' := ?_) #[true, true, true, true, true, true, true, false, false] rfl rfl (take_ofW HT_.out HW_.out (by kernel_rfl)) (fun _ _ _ h => h) (Or.inl ⟨by rfl, ?_⟩) hHeld ?_ ?_
        rotate_left
        ·rintro w' ⟨sq0, sq1, sq2, sq3, sq4, sq5, sq6, sq7, sq8⟩
         go_simp
         with_reducible rfl
        rotate_left
        ·simp only [Act.put, List.setIfInBounds_toArray, List.set_cons_zero, List.set_cons_succ, i64_w, i32_w]
         rfl
        refine one_ (i := 7) (N := some 33) #[true, true, true, true, true, true, true, true, false] rfl rfl (one_of HT_.out (by kernel_rfl)) (by decide) (fun K hK => ?_)
        refine goes_ Try.func135 (by kernel_rfl) rfl #[.agg #[.int .i64 t436, .int .i64 t437], .agg #[.int .i64 ((rd_T35 l0_0 a1_2).f0), .int .i64 ((rd_T35 l0_0 a1_2).f1)]] (by rfl) rfl rfl ZG ?_
        first
        | (
          (have z_ := tag3_; clear z_)
          with_reducible refine (spec_LabelBoth.calls k t436 t437 ((rd_T35 l0_0 a1_2).f0) ((rd_T35 l0_0 a1_2).f1) t439 t440 _ A73.out).mono ?_
          rintro e wq10 ⟨rfl, hb⟩
          refine ⟨_, rfl, ?_⟩
          have nq0_ := ZW BKq0 hb
          have nq1_ := ZW BKq1 hb
          have nq2_ := ZW BKq2 hb
          have nq3_ := ZW BKq3 hb
          have nq4_ := ZT hb
          clear BKq0
          clear BKq1
          clear BKq2
          clear BKq3
          clear HB
          have BKq0 := nq0_
          have BKq1 := nq1_
          have BKq2 := nq2_
          have BKq3 := nq3_
          have HB := nq4_
          clear nq0_ nq1_ nq2_ nq3_ nq4_
          (try clear hb)
          (try clear hb2)
          (try clear hk)
          (try clear hi)
          refine hK.out _ _ ⟨(blk_cell BKq3.out 0).trans rfl, (blk_cell BKq3.out 1).trans rfl, (blk_cell BKq0.out 0).trans rfl, (blk_cell BKq0.out 1).trans rfl, (blk_cell BKq1.out 0).trans rfl, (blk_cell BKq1.out 1).trans rfl, (blk_cell BKq1.out 2).trans rfl, ((HB.out.cell (World.block_lt_of_cell? w _ hwq1_0)).trans hwq1_0), ((HB.out.cell (World.block_lt_of_cell? w _ hwq1_1)).trans hwq1_1)⟩ (fun hHeld => ?_)
          clear hK K
          refine ZNO 33 ?_
          refine last_ (i := 8) (N := none) #[true, true, true, true, true, true, true, true, true] rfl rfl (one_of HT_.out (by kernel_rfl)) (by decide) (fun K hK => ?_)
          have hsq2 : wq10.cell? ⟨gbq3, 0, none⟩ = some (.int .i64 t436) := (blk_cell BKq3.out 0).trans rfl
          have hfsq2 := blk_frozen BKq3.out 0
          have hnsq2_0 := NBq0_428.out
          have hnsq2_1 := NBq1_428.out
          have hnsq2_2 := NBq2_428.out
          have hmsq2_0 := NBq3_423.out
          have hmsq2_1 := NBq3_424.out
          have hmsq2_2 := NBq3_425.out
          have hsq3 : wq10.cell? ⟨gbq3, 1, none⟩ = some (.int .i64 t437) := (blk_cell BKq3.out 1).trans rfl
          have hfsq3 := blk_frozen BKq3.out 1
          have hnsq3_0 := NBq0_428.out
          have hnsq3_1 := NBq1_428.out
          have hnsq3_2 := NBq2_428.out
          have hmsq3_0 := NBq3_423.out
          have hmsq3_1 := NBq3_424.out
          have hmsq3_2 := NBq3_425.out
          refine skip_ (w1 := ?_) (by rfl) rfl ?_ ?_
          rotate_left
          ·go_simp
           rfl
          refine hK.out _ _ ?_
          clear hK K
          refine done_ (done_of HT_.out (by kernel_rfl)) ?_
          obtain ⟨hczq3_0, hczq3_1⟩ := ZC2 wq10 BKq3
          obtain ⟨hfzq3_0, hfzq3_1⟩ := ZF2 BKq3
          have hnbq5 := NBq2_423.out
          have hncq5 := NBq0_425.out
          obtain ⟨hczq4_0, hczq4_1⟩ := ZC2 wq10 BKq2
          obtain ⟨hfzq4_0, hfzq4_1⟩ := ZF2 BKq2
          try go_wp2
          refine bodyPost_ret (results_cell_row rfl _ _ gbq2 35 #[.int .i64 t439, .int .i64 t440] (0, 0) _ rfl (ZZ BKq2.out) Try.underlying35 rfl (by kernel_rfl)) rfl ?_
          exact ⟨ZE, ZB⟩)
        | (
          (have z_ := tag4_; clear z_)
          with_reducible refine (spec_LabelBoth.calls k t436 t437 ((rd_T35 l0_0 a1_2).f0) ((rd_T35 l0_0 a1_2).f1) t442 t443 _ A103.out).mono ?_
          rintro e wq10 ⟨rfl, hb⟩
          refine ⟨_, rfl, ?_⟩
          have nq0_ := ZW BKq0 hb
          have nq1_ := ZW BKq1 hb
          have nq2_ := ZW BKq2 hb
          have nq3_ := ZW BKq3 hb
          have nq4_ := ZT hb
          clear BKq0
          clear BKq1
          clear BKq2
          clear BKq3
          clear HB
          have BKq0 := nq0_
          have BKq1 := nq1_
          have BKq2 := nq2_
          have BKq3 := nq3_
          have HB := nq4_
          clear nq0_ nq1_ nq2_ nq3_ nq4_
          (try clear hb)
          (try clear hb2)
          (try clear hk)
          (try clear hi)
          refine hK.out _ _ ⟨(blk_cell BKq3.out 0).trans rfl, (blk_cell BKq3.out 1).trans rfl, (blk_cell BKq0.out 0).trans rfl, (blk_cell BKq0.out 1).trans rfl, (blk_cell BKq1.out 0).trans rfl, (blk_cell BKq1.out 1).trans rfl, (blk_cell BKq1.out 2).trans rfl, ((HB.out.cell (World.block_lt_of_cell? w _ hwq1_0)).trans hwq1_0), ((HB.out.cell (World.block_lt_of_cell? w _ hwq1_1)).trans hwq1_1)⟩ (fun hHeld => ?_)
          clear hK K
          refine ZNO 33 ?_
          refine last_ (i := 8) (N := none) #[true, true, true, true, true, true, true, true, true] rfl rfl (one_of HT_.out (by kernel_rfl)) (by decide) (fun K hK => ?_)
          have hsq2 : wq10.cell? ⟨gbq3, 0, none⟩ = some (.int .i64 t436) := (blk_cell BKq3.out 0).trans rfl
          have hfsq2 := blk_frozen BKq3.out 0
          have hnsq2_0 := NBq0_428.out
          have hnsq2_1 := NBq1_428.out
          have hnsq2_2 := NBq2_428.out
          have hmsq2_0 := NBq3_423.out
          have hmsq2_1 := NBq3_424.out
          have hmsq2_2 := NBq3_425.out
          have hsq3 : wq10.cell? ⟨gbq3, 1, none⟩ = some (.int .i64 t437) := (blk_cell BKq3.out 1).trans rfl
          have hfsq3 := blk_frozen BKq3.out 1
          have hnsq3_0 := NBq0_428.out
          have hnsq3_1 := NBq1_428.out
          have hnsq3_2 := NBq2_428.out
          have hmsq3_0 := NBq3_423.out
          have hmsq3_1 := NBq3_424.out
          have hmsq3_2 := NBq3_425.out
          refine skip_ (w1 := ?_) (by rfl) rfl ?_ ?_
          rotate_left
          ·go_simp
           rfl
          refine hK.out _ _ ?_
          clear hK K
          refine done_ (done_of HT_.out (by kernel_rfl)) ?_
          obtain ⟨hczq3_0, hczq3_1⟩ := ZC2 wq10 BKq3
          obtain ⟨hfzq3_0, hfzq3_1⟩ := ZF2 BKq3
          have hnbq5 := NBq2_423.out
          have hncq5 := NBq0_425.out
          obtain ⟨hczq4_0, hczq4_1⟩ := ZC2 wq10 BKq2
          obtain ⟨hfzq4_0, hfzq4_1⟩ := ZF2 BKq2
          try go_wp2
          refine bodyPost_ret (results_cell_row rfl _ _ gbq2 35 #[.int .i64 t442, .int .i64 t443] (0, 0) _ rfl (ZZ BKq2.out) Try.underlying35 rfl (by kernel_rfl)) rfl ?_
          exact ⟨ZE, ZB⟩))
      | (
        (have z_ := tag5_; clear z_)
        obtain ⟨hczq3_0, hczq3_1⟩ := ZC2 wq7 BKq3
        obtain ⟨hfzq3_0, hfzq3_1⟩ := ZF2 BKq3
        have hnbq5 := NBq2_423.out
        have hncq5 := NBq0_425.out
        obtain ⟨hczq4_0, hczq4_1⟩ := ZC2 wq7 BKq2
        obtain ⟨hfzq4_0, hfzq4_1⟩ := ZF2 BKq2
        try go_wp2
        refine bodyPost_ret (results_cell_row rfl _ _ gbq2 35 #[.int .i64 t436, .int .i64 t437] (0, 0) _ rfl (ZZ BKq2.out) Try.underlying35 rfl (by kernel_rfl)) rfl ?_
        exact ⟨ZE, ZB⟩)))
  | (
    (have z_ := tag2_; clear z_)
    go_wp2_with (first | ((with_reducible refine gate_dst (N := 2) rfl ?_); refine ZX (N := 2) (cs := #[.slice A0_0 l0_0.length c0_0, .slice A0_1 l0_1.length c0_1]) (t := 26) ?_; intro gbq0 hg wq0 hbox hb; have BKq0 := Aside0.mk (hbox); have GWq0 : Aside0 (w.heap.size ≤ gbq0) := ZS hg; have GEq0 : Aside0 (w.heap.size ≤ gbq0) := ZS hg; replace HB := ZT hb; clear hb hbox hg) | ((with_reducible refine gate_dst (N := 3) rfl ?_); refine ZX (N := 3) (cs := #[.int .i64 a1_0, .int .i64 a1_1, .int .i64 a1_2]) (t := 57) ?_; intro gbq1 hg wq1 hbox hb; have BKq1 := Aside0.mk (hbox); have GWq1 : Aside0 (w.heap.size ≤ gbq1) := ZS hg; have GEq1 : Aside0 (w.heap.size ≤ gbq1) := ZS hg; have NBq0_424 : Aside0 (gbq0 ≠ gbq1) := ZN hg BKq0; have NBq1_423 : Aside0 (gbq1 ≠ gbq0) := ZM hg BKq0; replace BKq0 := ZW BKq0 hb; replace HB := ZT hb; clear hb hbox hg) | ((with_reducible refine gate_dst (N := 4) rfl ?_); refine ZX (N := 4) (cs := #[.int .i64 0, .int .i64 0]) (t := 35) ?_; intro gbq2 hg wq2 hbox hb; have BKq2 := Aside0.mk (hbox); have GWq2 : Aside0 (w.heap.size ≤ gbq2) := ZS hg; have GEq2 : Aside0 (w.heap.size ≤ gbq2) := ZS hg; have NBq0_425 : Aside0 (gbq0 ≠ gbq2) := ZN hg BKq0; have NBq2_423 : Aside0 (gbq2 ≠ gbq0) := ZM hg BKq0; have NBq1_425 : Aside0 (gbq1 ≠ gbq2) := ZN hg BKq1; have NBq2_424 : Aside0 (gbq2 ≠ gbq1) := ZM hg BKq1; replace BKq0 := ZW BKq0 hb; replace BKq1 := ZW BKq1 hb; replace HB := ZT hb; clear hb hbox hg) | ((with_reducible refine gate_callee (f := 108) rfl ?_); refine goesL_ (some 6) rfl rfl Try.func108 (by kernel_rfl) rfl #[] rfl ZG ?_; (with_reducible refine (spec_l11Any.calls  t426 t427 _ A3.out).mono ?_); rintro e wq3 ⟨rfl, hb⟩; refine ⟨_, rfl, ?_⟩; replace BKq0 := ZW BKq0 hb; replace BKq1 := ZW BKq1 hb; replace BKq2 := ZW BKq2 hb; replace HB := ZT hb; (try clear hb); (try clear hb2); (try clear hk); (try clear hi)) | ((with_reducible refine gate_dst (N := 5) rfl ?_); refine ZX (N := 5) (cs := #[.int .i64 0, .int .i64 0]) (t := 35) ?_; intro gbq3 hg wq4 hbox hb; have BKq3 := Aside0.mk (hbox); have GWq3 : Aside0 (w.heap.size ≤ gbq3) := ZS hg; have GEq3 : Aside0 (w.heap.size ≤ gbq3) := ZS hg; have NBq0_428 : Aside0 (gbq0 ≠ gbq3) := ZN hg BKq0; have NBq3_423 : Aside0 (gbq3 ≠ gbq0) := ZM hg BKq0; have NBq1_428 : Aside0 (gbq1 ≠ gbq3) := ZN hg BKq1; have NBq3_424 : Aside0 (gbq3 ≠ gbq1) := ZM hg BKq1; have NBq2_428 : Aside0 (gbq2 ≠ gbq3) := ZN hg BKq2; have NBq3_425 : Aside0 (gbq3 ≠ gbq2) := ZM hg BKq2; replace BKq0 := ZW BKq0 hb; replace BKq1 := ZW BKq1 hb; replace BKq2 := ZW BKq2 hb; replace HB := ZT hb; clear hb hbox hg; have hnbq0 := NBq3_423.out; have hncq0 := NBq0_428.out; have hnbq1 := NBq3_424.out; have hncq1 := NBq1_428.out; have hnbq2 := NBq3_425.out; have hncq2 := NBq2_428.out; obtain ⟨hczq0_0, hczq0_1⟩ := ZC2 wq4 BKq3; obtain ⟨hfzq0_0, hfzq0_1⟩ := ZF2 BKq3; have hnbq3 := NBq1_423.out; have hncq3 := NBq0_424.out; have hnbq4 := NBq1_425.out; have hncq4 := NBq2_424.out; obtain ⟨hczq1_0, hczq1_1, hczq1_2⟩ := ZC3 wq4 BKq1; obtain ⟨hfzq1_0, hfzq1_1, hfzq1_2⟩ := ZF3 BKq1; have hnbq5 := NBq2_423.out; have hncq5 := NBq0_425.out; obtain ⟨hczq2_0, hczq2_1⟩ := ZC2 wq4 BKq2; obtain ⟨hfzq2_0, hfzq2_1⟩ := ZF2 BKq2))
    refine bodyPost_ret (results_cell_row rfl _ _ gbq2 35 #[.int .i64 t426, .int .i64 t427] (0, 0) _ rfl (ZZ BKq2.out) Try.underlying35 rfl (by kernel_rfl)) rfl ?_
    exact ⟨ZE, ZB⟩)

end Go.Proofs.Ytcffnnedghgmaaa.A
