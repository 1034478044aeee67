/- What Go functions compute, as Lean functions, and for each its contract: for every input at which the Lean function answers the call returns that; written by wip/tools/pr.py over the kit's print. -/
import Derived.Test.YtdmejmdifnicmaaAx0
import Derived.Test.YtdmejmdifnicmaaAx2
import Derived.Test.YtdmejmdifnicmaaAx7
import Derived.Test.YtdmejmdifnicmaaAx8
namespace Go.Proofs.Ytdmejmdifnicmaa.A
open Go.RowKit Go.Proofs.YtdmejmdifnicmaaW.PrintWords Go.Proofs.YtdmejmdifnicmaaW.PrintLast Go.Proofs.YtdmejmdifnicmaaW.PrintMore
attribute [local go_sem] max2_int min2_int max_two min_two max_three min_three max_four min_four   -- for this text's walks alone
set_option linter.unusedVariables false
set_option linter.unusedSimpArgs false

attribute [local go_sem high] eqA64
/-! ### spec_l2Step: function 31 -/
def spec_l2Step.g (k : Nat) (bf : List (S57) → List (S66) → List (S66) → Int → Option (Bool)) (l0_0 : List (S57)) (l0_1 : List (S66)) (a1_0 : Int) (a1_1 : Int) (a1_2 : Int) (a1_3 : Int) (a1_4 : Int) (a1_5 : Int) (l1_6 : List (S66)) (l1_7 : List (S66)) (a2 : Int) : Option (Bool) := if a2 < 1 then (some false) else ((spec_l2Var.f l0_0 l0_1 a1_1).bind fun t211 => (if t211 = true then (if a1_0 = 1 then ((spec_l2Val.f k l0_0 l0_1 a1_2 a1_3 a1_4).bind fun t212 => (if t212 = true then (if a1_5 = 0 then (some ((wrap64 ((l1_6.length : Int) + (l1_7.length : Int))) == 0)) else (some false)) else (some false))) else (if a1_0 = 3 then (if (a1_2 == 0 && (a1_3 == 0 && (a1_4 == 0))) = true then ((spec_l6In.f a1_5 0 2).bind fun t213 => (if t213 = true then (some ((wrap64 ((l1_6.length : Int) + (l1_7.length : Int))) == 0)) else (some false))) else (some false)) else (if a1_0 = 2 then (if (a1_2 == 0 && (a1_3 == 0 && (a1_4 == 0))) = true then (if a1_5 = 0 then ((bf l0_0 l0_1 l1_6 (wrap64 (a2 - 1))).bind fun t214 => (if t214 = true then ((bf l0_0 l0_1 l1_7 (wrap64 (a2 - 1))).bind fun t215 => (some t215)) else (some false))) else (some false)) else (some false)) else (some false)))) else (some false)))
set_option maxHeartbeats 8000000 in
set_option maxRecDepth 100000 in
theorem spec_l2Step.calls_g (k : Nat) (bf : List (S57) → List (S66) → List (S66) → Int → Option (Bool)) (ihB : ∀ (A0_0 : Option Addr) (c0_0 : Nat) (l0_0 : List (S57)) (A0_1 : Option Addr) (c0_1 : Nat) (l0_1 : List (S66)) (A1 : Option Addr) (c1 : Nat) (l1 : List (S66)) (a2 : Int) (r : Bool) (w : World) (hr0_0 : Kd.C k57 w A0_0 l0_0.length l0_0) (hc0_0 : l0_0.length ≤ c0_0) (hr0_1 : Kd.C k66 w A0_1 l0_1.length l0_1) (hc0_1 : l0_1.length ≤ c0_1) (hr1 : Kd.C k66 w A1 l1.length l1) (hc1 : l1.length ≤ c1) (h : bf l0_0 l0_1 l1 a2 = some r),
  Calls Try.prog 27 #[.agg #[.slice A0_0 l0_0.length c0_0, .slice A0_1 l0_1.length c0_1], .slice A1 l1.length c1, .int .i64 a2] w fun e w' => e = .returned (.bool r) ∧ Below w.heap.size w w') (A0_0 : Option Addr) (c0_0 : Nat) (l0_0 : List (S57)) (A0_1 : Option Addr) (c0_1 : Nat) (l0_1 : List (S66)) (a1_0 : Int) (a1_1 : Int) (a1_2 : Int) (a1_3 : Int) (a1_4 : Int) (a1_5 : Int) (A1_6 : Option Addr) (c1_6 : Nat) (l1_6 : List (S66)) (A1_7 : Option Addr) (c1_7 : Nat) (l1_7 : List (S66)) (a2 : Int) (r : Bool) (w : World) (hr0_0 : Kd.C k57 w A0_0 l0_0.length l0_0) (hc0_0 : l0_0.length ≤ c0_0) (hr0_1 : Kd.C k66 w A0_1 l0_1.length l0_1) (hc0_1 : l0_1.length ≤ c0_1) (hr1_6 : Kd.C k66 w A1_6 l1_6.length l1_6) (hc1_6 : l1_6.length ≤ c1_6) (hr1_7 : Kd.C k66 w A1_7 l1_7.length l1_7) (hc1_7 : l1_7.length ≤ c1_7) (h : spec_l2Step.g k bf l0_0 l0_1 a1_0 a1_1 a1_2 a1_3 a1_4 a1_5 l1_6 l1_7 a2 = some r) :
  Calls Try.prog 31 #[.agg #[.slice A0_0 l0_0.length c0_0, .slice A0_1 l0_1.length c0_1], .agg #[.int .i64 a1_0, .int .i64 a1_1, .int .i64 a1_2, .int .i64 a1_3, .int .i64 a1_4, .int .i64 a1_5, .slice A1_6 l1_6.length c1_6, .slice A1_7 l1_7.length c1_7], .int .i64 a2] w fun e w' => e = .returned (.bool r) ∧ Below w.heap.size w w' := by
 have hu43 := Try.underlying43
 have hu66 := Try.underlying66
 have hu64 := Try.underlying64
 have HR0_0 := Aside0.mk hr0_0
 have HC0_0 := Aside0.mk hc0_0
 clear hr0_0 hc0_0
 have HR0_1 := Aside0.mk hr0_1
 have HC0_1 := Aside0.mk hc0_1
 clear hr0_1 hc0_1
 have HR1_6 := Aside0.mk hr1_6
 have HC1_6 := Aside0.mk hc1_6
 clear hr1_6 hc1_6
 have HR1_7 := Aside0.mk hr1_7
 have HC1_7 := Aside0.mk hc1_7
 clear hr1_7 hc1_7
 have HB := Aside0.mk (Below.refl w.heap.size w)
 have H : (if a2 < 1 then (some false) else ((spec_l2Var.f l0_0 l0_1 a1_1).bind fun t211 => (if t211 = true then (if a1_0 = 1 then ((spec_l2Val.f k l0_0 l0_1 a1_2 a1_3 a1_4).bind fun t212 => (if t212 = true then (if a1_5 = 0 then (some ((wrap64 ((l1_6.length : Int) + (l1_7.length : Int))) == 0)) else (some false)) else (some false))) else (if a1_0 = 3 then (if (a1_2 == 0 && (a1_3 == 0 && (a1_4 == 0))) = true then ((spec_l6In.f a1_5 0 2).bind fun t213 => (if t213 = true then (some ((wrap64 ((l1_6.length : Int) + (l1_7.length : Int))) == 0)) else (some false))) else (some false)) else (if a1_0 = 2 then (if (a1_2 == 0 && (a1_3 == 0 && (a1_4 == 0))) = true then (if a1_5 = 0 then ((bf l0_0 l0_1 l1_6 (wrap64 (a2 - 1))).bind fun t214 => (if t214 = true then ((bf l0_0 l0_1 l1_7 (wrap64 (a2 - 1))).bind fun t215 => (some t215)) else (some false))) else (some false)) else (some false)) else (some false)))) else (some false)))) = some r := h
 clear h
 by_cases c4 : a2 < 1
 focus
  rw [if_pos c4] at H
  have c4b0 : decide (a2 < 1) = true := decide_eq_true c4
  clear c4
  obtain rfl := Option.some.inj H
  have tag0_ : Aside0 True := ⟨trivial⟩
 rotate_left
 focus
  rw [if_neg c4] at H
  have c4b0 : decide (a2 < 1) = false := decide_eq_false c4
  clear c4
  replace H := Option.bind_eq_some_iff.mp H
  obtain ⟨t211, A70, H⟩ := H
  replace H : (if t211 = true then (if a1_0 = 1 then ((spec_l2Val.f k l0_0 l0_1 a1_2 a1_3 a1_4).bind fun t212 => (if t212 = true then (if a1_5 = 0 then (some ((wrap64 ((l1_6.length : Int) + (l1_7.length : Int))) == 0)) else (some false)) else (some false))) else (if a1_0 = 3 then (if (a1_2 == 0 && (a1_3 == 0 && (a1_4 == 0))) = true then ((spec_l6In.f a1_5 0 2).bind fun t213 => (if t213 = true then (some ((wrap64 ((l1_6.length : Int) + (l1_7.length : Int))) == 0)) else (some false))) else (some false)) else (if a1_0 = 2 then (if (a1_2 == 0 && (a1_3 == 0 && (a1_4 == 0))) = true then (if a1_5 = 0 then ((bf l0_0 l0_1 l1_6 (wrap64 (a2 - 1))).bind fun t214 => (if t214 = true then ((bf l0_0 l0_1 l1_7 (wrap64 (a2 - 1))).bind fun t215 => (some t215)) else (some false))) else (some false)) else (some false)) else (some false)))) else (some false)) = some r := H
  have A7 := Aside0.mk A70
  clear A70
  by_cases c8 : t211 = true
  focus
   subst c8
   have H1 : (if a1_0 = 1 then ((spec_l2Val.f k l0_0 l0_1 a1_2 a1_3 a1_4).bind fun t212 => (if t212 = true then (if a1_5 = 0 then (some ((wrap64 ((l1_6.length : Int) + (l1_7.length : Int))) == 0)) else (some false)) else (some false))) else (if a1_0 = 3 then (if (a1_2 == 0 && (a1_3 == 0 && (a1_4 == 0))) = true then ((spec_l6In.f a1_5 0 2).bind fun t213 => (if t213 = true then (some ((wrap64 ((l1_6.length : Int) + (l1_7.length : Int))) == 0)) else (some false))) else (some false)) else (if a1_0 = 2 then (if (a1_2 == 0 && (a1_3 == 0 && (a1_4 == 0))) = true then (if a1_5 = 0 then ((bf l0_0 l0_1 l1_6 (wrap64 (a2 - 1))).bind fun t214 => (if t214 = true then ((bf l0_0 l0_1 l1_7 (wrap64 (a2 - 1))).bind fun t215 => (some t215)) else (some false))) else (some false)) else (some false)) else (some false)))) = some r := by rw [if_pos rfl] at H; exact H
   clear H
   have H := H1
   clear H1
   by_cases c9 : a1_0 = 1
   focus
    rw [if_pos c9] at H
    have c9b0 : (a1_0 == 1) = true := beq_iff_eq.mpr c9
    have c9b1 : (a1_0 != 1) = false := bne_eq_false_iff_eq.mpr c9
    clear c9
    replace H := Option.bind_eq_some_iff.mp H
    obtain ⟨t212, A100, H⟩ := H
    replace H : (if t212 = true then (if a1_5 = 0 then (some ((wrap64 ((l1_6.length : Int) + (l1_7.length : Int))) == 0)) else (some false)) else (some false)) = some r := H
    have A10 := Aside0.mk A100
    clear A100
    by_cases c11 : t212 = true
    focus
     subst c11
     have H1 : (if a1_5 = 0 then (some ((wrap64 ((l1_6.length : Int) + (l1_7.length : Int))) == 0)) else (some false)) = some r := by rw [if_pos rfl] at H; exact H
     clear H
     have H := H1
     clear H1
     by_cases c12 : a1_5 = 0
     focus
      rw [if_pos c12] at H
      have c12b0 : (a1_5 == 0) = true := beq_iff_eq.mpr c12
      have c12b1 : (a1_5 != 0) = false := bne_eq_false_iff_eq.mpr c12
      clear c12
      obtain rfl := Option.some.inj H
      have tag1_ : Aside0 True := ⟨trivial⟩
     rotate_left
     focus
      rw [if_neg c12] at H
      have c12b0 : (a1_5 == 0) = false := beq_eq_false_iff_ne.mpr c12
      have c12b1 : (a1_5 != 0) = true := bne_iff_ne.mpr c12
      obtain rfl := Option.some.inj H
      have tag2_ : Aside0 True := ⟨trivial⟩
     rotate_left
    rotate_left 2
    focus
     replace c11 := Bool.eq_false_iff.mpr c11
     subst c11
     have H1 : (some false) = some r := by rw [if_neg (show ¬ (false = true) by decide)] at H; exact H
     clear H
     have H := H1
     clear H1
     obtain rfl := Option.some.inj H
     have tag3_ : Aside0 True := ⟨trivial⟩
    rotate_left
   rotate_left 3
   focus
    rw [if_neg c9] at H
    have c9b0 : (a1_0 == 1) = false := beq_eq_false_iff_ne.mpr c9
    have c9b1 : (a1_0 != 1) = true := bne_iff_ne.mpr c9
    by_cases c42 : a1_0 = 3
    focus
     rw [if_pos c42] at H
     have c42b0 : (a1_0 == 3) = true := beq_iff_eq.mpr c42
     have c42b1 : (a1_0 != 3) = false := bne_eq_false_iff_eq.mpr c42
     clear c42
     by_cases c43 : (a1_2 == 0 && (a1_3 == 0 && (a1_4 == 0))) = true
     focus
      rw [if_pos c43] at H
      have c43b0 : (a1_2 == 0 && (a1_3 == 0 && (a1_4 == 0))) = true := c43
      (try (have c43b1 : decide (a1_2 = 0 && (a1_3 == 0 && (a1_4 == 0))) = true := by simpa using c43))
      (try (have c43b2 : (a1_2 == 0 && (a1_3 == 0 && (a1_4 == 0))) = true := by simpa using c43))
      clear c43
      replace H := Option.bind_eq_some_iff.mp H
      obtain ⟨t213, A440, H⟩ := H
      replace H : (if t213 = true then (some ((wrap64 ((l1_6.length : Int) + (l1_7.length : Int))) == 0)) else (some false)) = some r := H
      have A44 := Aside0.mk A440
      clear A440
      by_cases c45 : t213 = true
      focus
       subst c45
       have H1 : (some ((wrap64 ((l1_6.length : Int) + (l1_7.length : Int))) == 0)) = some r := by rw [if_pos rfl] at H; exact H
       clear H
       have H := H1
       clear H1
       obtain rfl := Option.some.inj H
       have tag4_ : Aside0 True := ⟨trivial⟩
      rotate_left
      focus
       replace c45 := Bool.eq_false_iff.mpr c45
       subst c45
       have H1 : (some false) = some r := by rw [if_neg (show ¬ (false = true) by decide)] at H; exact H
       clear H
       have H := H1
       clear H1
       obtain rfl := Option.some.inj H
       have tag5_ : Aside0 True := ⟨trivial⟩
      rotate_left
     rotate_left 2
     focus
      rw [if_neg c43] at H
      have c43b0 : (a1_2 == 0 && (a1_3 == 0 && (a1_4 == 0))) = false := by simpa using c43
      (try (have c43b1 : decide (a1_2 = 0 && (a1_3 == 0 && (a1_4 == 0))) = false := by simpa using c43))
      (try (have c43b2 : (a1_2 == 0 && (a1_3 == 0 && (a1_4 == 0))) = false := by simpa using c43))
      (try (have c43b3 : ¬ (a1_2 = 0 && (a1_3 == 0 && (a1_4 == 0))) := by simpa using c43))
      clear c43
      obtain rfl := Option.some.inj H
      have tag6_ : Aside0 True := ⟨trivial⟩
     rotate_left
    rotate_left 3
    focus
     rw [if_neg c42] at H
     have c42b0 : (a1_0 == 3) = false := beq_eq_false_iff_ne.mpr c42
     have c42b1 : (a1_0 != 3) = true := bne_iff_ne.mpr c42
     by_cases c67 : a1_0 = 2
     focus
      rw [if_pos c67] at H
      have c67b0 : (a1_0 == 2) = true := beq_iff_eq.mpr c67
      have c67b1 : (a1_0 != 2) = false := bne_eq_false_iff_eq.mpr c67
      clear c67
      by_cases c68 : (a1_2 == 0 && (a1_3 == 0 && (a1_4 == 0))) = true
      focus
       rw [if_pos c68] at H
       have c68b0 : (a1_2 == 0 && (a1_3 == 0 && (a1_4 == 0))) = true := c68
       (try (have c68b1 : decide (a1_2 = 0 && (a1_3 == 0 && (a1_4 == 0))) = true := by simpa using c68))
       (try (have c68b2 : (a1_2 == 0 && (a1_3 == 0 && (a1_4 == 0))) = true := by simpa using c68))
       clear c68
       by_cases c69 : a1_5 = 0
       focus
        rw [if_pos c69] at H
        have c69b0 : (a1_5 == 0) = true := beq_iff_eq.mpr c69
        have c69b1 : (a1_5 != 0) = false := bne_eq_false_iff_eq.mpr c69
        clear c69
        replace H := Option.bind_eq_some_iff.mp H
        obtain ⟨t214, A700, H⟩ := H
        replace H : (if t214 = true then ((bf l0_0 l0_1 l1_7 (wrap64 (a2 - 1))).bind fun t215 => (some t215)) else (some false)) = some r := H
        have A70 := Aside0.mk A700
        clear A700
        by_cases c71 : t214 = true
        focus
         subst c71
         have H1 : ((bf l0_0 l0_1 l1_7 (wrap64 (a2 - 1))).bind fun t215 => (some t215)) = some r := by rw [if_pos rfl] at H; exact H
         clear H
         have H := H1
         clear H1
         replace H := Option.bind_eq_some_iff.mp H
         obtain ⟨t215, A720, H⟩ := H
         replace H : (some t215) = some r := H
         have A72 := Aside0.mk A720
         clear A720
         obtain rfl := Option.some.inj H
         have tag7_ : Aside0 True := ⟨trivial⟩
        rotate_left
        focus
         replace c71 := Bool.eq_false_iff.mpr c71
         subst c71
         have H1 : (some false) = some r := by rw [if_neg (show ¬ (false = true) by decide)] at H; exact H
         clear H
         have H := H1
         clear H1
         obtain rfl := Option.some.inj H
         have tag8_ : Aside0 True := ⟨trivial⟩
        rotate_left
       rotate_left 2
       focus
        rw [if_neg c69] at H
        have c69b0 : (a1_5 == 0) = false := beq_eq_false_iff_ne.mpr c69
        have c69b1 : (a1_5 != 0) = true := bne_iff_ne.mpr c69
        obtain rfl := Option.some.inj H
        have tag9_ : Aside0 True := ⟨trivial⟩
       rotate_left
      rotate_left 3
      focus
       rw [if_neg c68] at H
       have c68b0 : (a1_2 == 0 && (a1_3 == 0 && (a1_4 == 0))) = false := by simpa using c68
       (try (have c68b1 : decide (a1_2 = 0 && (a1_3 == 0 && (a1_4 == 0))) = false := by simpa using c68))
       (try (have c68b2 : (a1_2 == 0 && (a1_3 == 0 && (a1_4 == 0))) = false := by simpa using c68))
       (try (have c68b3 : ¬ (a1_2 = 0 && (a1_3 == 0 && (a1_4 == 0))) := by simpa using c68))
       clear c68
       obtain rfl := Option.some.inj H
       have tag10_ : Aside0 True := ⟨trivial⟩
      rotate_left
     rotate_left 4
     focus
      rw [if_neg c67] at H
      have c67b0 : (a1_0 == 2) = false := beq_eq_false_iff_ne.mpr c67
      have c67b1 : (a1_0 != 2) = true := bne_iff_ne.mpr c67
      obtain rfl := Option.some.inj H
      have tag11_ : Aside0 True := ⟨trivial⟩
     rotate_left
    rotate_left 5
   rotate_left 8
  rotate_left 11
  focus
   replace c8 := Bool.eq_false_iff.mpr c8
   subst c8
   have H1 : (some false) = some r := by rw [if_neg (show ¬ (false = true) by decide)] at H; exact H
   clear H
   have H := H1
   clear H1
   obtain rfl := Option.some.inj H
   have tag12_ : Aside0 True := ⟨trivial⟩
  rotate_left
 rotate_left 12
 all_goals
  go_enter Try.func31, Try.ntmps31
  first
  | (
    (have z_ := tag0_; clear z_)
    go_wp2_with (first | ((with_reducible refine gate_dst (N := 3) rfl ?_); refine ZX (N := 3) (cs := #[.slice A0_0 l0_0.length c0_0, .slice A0_1 l0_1.length c0_1]) (t := 43) ?_; intro gbq0 hg wq0 hbox hb; have BKq0 := Aside0.mk (hbox); have GWq0 : Aside0 (w.heap.size ≤ gbq0) := ZS hg; have GEq0 : Aside0 (w.heap.size ≤ gbq0) := ZS hg; replace HB := ZT HB hb; clear hb hbox hg) | ((with_reducible refine gate_dst (N := 4) rfl ?_); refine ZX (N := 4) (cs := #[.int .i64 a1_0, .int .i64 a1_1, .int .i64 a1_2, .int .i64 a1_3, .int .i64 a1_4, .int .i64 a1_5, .slice A1_6 l1_6.length c1_6, .slice A1_7 l1_7.length c1_7]) (t := 66) ?_; intro gbq1 hg wq1 hbox hb; have BKq1 := Aside0.mk (hbox); have GWq1 : Aside0 (w.heap.size ≤ gbq1) := ZS hg; have GEq1 : Aside0 (w.heap.size ≤ gbq1) := ZS hg; have NBq0_210 : Aside0 (gbq0 ≠ gbq1) := ZN hg BKq0; have NBq1_209 : Aside0 (gbq1 ≠ gbq0) := ZM hg BKq0; replace BKq0 := ZW BKq0 hb; replace HB := ZT HB hb; clear hb hbox hg))
    go_ret
    exact ⟨ZE, ZB⟩)
  | (
    (first | (have z_ := tag1_; clear z_) | (have z_ := tag2_; clear z_))
    go_wp2_with (first | ((with_reducible refine gate_dst (N := 3) rfl ?_); refine ZX (N := 3) (cs := #[.slice A0_0 l0_0.length c0_0, .slice A0_1 l0_1.length c0_1]) (t := 43) ?_; intro gbq0 hg wq0 hbox hb; have BKq0 := Aside0.mk (hbox); have GWq0 : Aside0 (w.heap.size ≤ gbq0) := ZS hg; have GEq0 : Aside0 (w.heap.size ≤ gbq0) := ZS hg; replace HB := ZT HB hb; clear hb hbox hg) | ((with_reducible refine gate_dst (N := 4) rfl ?_); refine ZX (N := 4) (cs := #[.int .i64 a1_0, .int .i64 a1_1, .int .i64 a1_2, .int .i64 a1_3, .int .i64 a1_4, .int .i64 a1_5, .slice A1_6 l1_6.length c1_6, .slice A1_7 l1_7.length c1_7]) (t := 66) ?_; intro gbq1 hg wq1 hbox hb; have BKq1 := Aside0.mk (hbox); have GWq1 : Aside0 (w.heap.size ≤ gbq1) := ZS hg; have GEq1 : Aside0 (w.heap.size ≤ gbq1) := ZS hg; have NBq0_210 : Aside0 (gbq0 ≠ gbq1) := ZN hg BKq0; have NBq1_209 : Aside0 (gbq1 ≠ gbq0) := ZM hg BKq0; replace BKq0 := ZW BKq0 hb; replace HB := ZT HB hb; clear hb hbox hg; have hnbq0 := NBq0_210.out; have hncq0 := NBq1_209.out; obtain ⟨hczq0_0, hczq0_1⟩ := ZC2 wq1 BKq0; obtain ⟨hfzq0_0, hfzq0_1⟩ := ZF2 BKq0; obtain ⟨hczq1_0, hczq1_1, hczq1_2, hczq1_3, hczq1_4, hczq1_5, hczq1_6, hczq1_7⟩ := ZC8 wq1 BKq1; obtain ⟨hfzq1_0, hfzq1_1, hfzq1_2, hfzq1_3, hfzq1_4, hfzq1_5, hfzq1_6, hfzq1_7⟩ := ZF8 BKq1) | (go_at_call 33; (with_reducible refine (spec_l2Var.calls _ _ l0_0 _ _ l0_1 a1_1 true _ ?side1 ?side2 ?side3 ?side4 A7.out).mono ?_); (case side1 => exact ZQ (Kd.C_below HR0_0.out HB.out)); (case side2 => exact HC0_0.out); (case side3 => exact ZQ (Kd.C_below HR0_1.out HB.out)); (case side4 => exact HC0_1.out); rintro e wq2 ⟨rfl, hb⟩; replace BKq0 := ZW BKq0 hb; replace BKq1 := ZW BKq1 hb; replace HB := ZT HB hb; (try clear hb); (try clear hb2); (try clear hk); (try clear hi); obtain ⟨hczq2_0, hczq2_1, hczq2_2, hczq2_3, hczq2_4, hczq2_5, hczq2_6, hczq2_7⟩ := ZC8 wq2 BKq1; obtain ⟨hfzq2_0, hfzq2_1, hfzq2_2, hfzq2_3, hfzq2_4, hfzq2_5, hfzq2_6, hfzq2_7⟩ := ZF8 BKq1; obtain ⟨hczq3_0, hczq3_1⟩ := ZC2 wq2 BKq0; obtain ⟨hfzq3_0, hfzq3_1⟩ := ZF2 BKq0) | ((with_reducible refine gate_callee (f := 34) rfl ?_); refine goesL_ (some 28) rfl rfl Try.func34 (by kernel_rfl) rfl #[.agg #[.slice A0_0 l0_0.length c0_0, .slice A0_1 l0_1.length c0_1], .agg #[.int .i64 a1_2, .int .i64 a1_3, .int .i64 a1_4]] rfl ZG ?_; (with_reducible refine (spec_l2Val.calls k _ _ l0_0 _ _ l0_1 a1_2 a1_3 a1_4 true _ ?side1 ?side2 ?side3 ?side4 A10.out).mono ?_); (case side1 => exact ZQ (Kd.C_below HR0_0.out HB.out)); (case side2 => exact HC0_0.out); (case side3 => exact ZQ (Kd.C_below HR0_1.out HB.out)); (case side4 => exact HC0_1.out); rintro e wq3 ⟨rfl, hb⟩; refine ⟨_, rfl, ?_⟩; replace BKq0 := ZW BKq0 hb; replace BKq1 := ZW BKq1 hb; replace HB := ZT HB hb; (try clear hb); (try clear hb2); (try clear hk); (try clear hi); obtain ⟨hczq4_0, hczq4_1, hczq4_2, hczq4_3, hczq4_4, hczq4_5, hczq4_6, hczq4_7⟩ := ZC8 wq3 BKq1; obtain ⟨hfzq4_0, hfzq4_1, hfzq4_2, hfzq4_3, hfzq4_4, hfzq4_5, hfzq4_6, hfzq4_7⟩ := ZF8 BKq1))
    go_ret
    exact ⟨ZE, ZB⟩)
  | (
    (have z_ := tag3_; clear z_)
    go_wp2_with (first | ((with_reducible refine gate_dst (N := 3) rfl ?_); refine ZX (N := 3) (cs := #[.slice A0_0 l0_0.length c0_0, .slice A0_1 l0_1.length c0_1]) (t := 43) ?_; intro gbq0 hg wq0 hbox hb; have BKq0 := Aside0.mk (hbox); have GWq0 : Aside0 (w.heap.size ≤ gbq0) := ZS hg; have GEq0 : Aside0 (w.heap.size ≤ gbq0) := ZS hg; replace HB := ZT HB hb; clear hb hbox hg) | ((with_reducible refine gate_dst (N := 4) rfl ?_); refine ZX (N := 4) (cs := #[.int .i64 a1_0, .int .i64 a1_1, .int .i64 a1_2, .int .i64 a1_3, .int .i64 a1_4, .int .i64 a1_5, .slice A1_6 l1_6.length c1_6, .slice A1_7 l1_7.length c1_7]) (t := 66) ?_; intro gbq1 hg wq1 hbox hb; have BKq1 := Aside0.mk (hbox); have GWq1 : Aside0 (w.heap.size ≤ gbq1) := ZS hg; have GEq1 : Aside0 (w.heap.size ≤ gbq1) := ZS hg; have NBq0_210 : Aside0 (gbq0 ≠ gbq1) := ZN hg BKq0; have NBq1_209 : Aside0 (gbq1 ≠ gbq0) := ZM hg BKq0; replace BKq0 := ZW BKq0 hb; replace HB := ZT HB hb; clear hb hbox hg; have hnbq0 := NBq0_210.out; have hncq0 := NBq1_209.out; obtain ⟨hczq0_0, hczq0_1⟩ := ZC2 wq1 BKq0; obtain ⟨hfzq0_0, hfzq0_1⟩ := ZF2 BKq0; obtain ⟨hczq1_0, hczq1_1, hczq1_2, hczq1_3, hczq1_4, hczq1_5, hczq1_6, hczq1_7⟩ := ZC8 wq1 BKq1; obtain ⟨hfzq1_0, hfzq1_1, hfzq1_2, hfzq1_3, hfzq1_4, hfzq1_5, hfzq1_6, hfzq1_7⟩ := ZF8 BKq1) | (go_at_call 33; (with_reducible refine (spec_l2Var.calls _ _ l0_0 _ _ l0_1 a1_1 true _ ?side1 ?side2 ?side3 ?side4 A7.out).mono ?_); (case side1 => exact ZQ (Kd.C_below HR0_0.out HB.out)); (case side2 => exact HC0_0.out); (case side3 => exact ZQ (Kd.C_below HR0_1.out HB.out)); (case side4 => exact HC0_1.out); rintro e wq2 ⟨rfl, hb⟩; replace BKq0 := ZW BKq0 hb; replace BKq1 := ZW BKq1 hb; replace HB := ZT HB hb; (try clear hb); (try clear hb2); (try clear hk); (try clear hi); obtain ⟨hczq2_0, hczq2_1, hczq2_2, hczq2_3, hczq2_4, hczq2_5, hczq2_6, hczq2_7⟩ := ZC8 wq2 BKq1; obtain ⟨hfzq2_0, hfzq2_1, hfzq2_2, hfzq2_3, hfzq2_4, hfzq2_5, hfzq2_6, hfzq2_7⟩ := ZF8 BKq1; obtain ⟨hczq3_0, hczq3_1⟩ := ZC2 wq2 BKq0; obtain ⟨hfzq3_0, hfzq3_1⟩ := ZF2 BKq0) | ((with_reducible refine gate_callee (f := 34) rfl ?_); refine goesL_ (some 28) rfl rfl Try.func34 (by kernel_rfl) rfl #[.agg #[.slice A0_0 l0_0.length c0_0, .slice A0_1 l0_1.length c0_1], .agg #[.int .i64 a1_2, .int .i64 a1_3, .int .i64 a1_4]] rfl ZG ?_; (with_reducible refine (spec_l2Val.calls k _ _ l0_0 _ _ l0_1 a1_2 a1_3 a1_4 false _ ?side1 ?side2 ?side3 ?side4 A10.out).mono ?_); (case side1 => exact ZQ (Kd.C_below HR0_0.out HB.out)); (case side2 => exact HC0_0.out); (case side3 => exact ZQ (Kd.C_below HR0_1.out HB.out)); (case side4 => exact HC0_1.out); rintro e wq3 ⟨rfl, hb⟩; refine ⟨_, rfl, ?_⟩; replace BKq0 := ZW BKq0 hb; replace BKq1 := ZW BKq1 hb; replace HB := ZT HB hb; (try clear hb); (try clear hb2); (try clear hk); (try clear hi)))
    go_ret
    exact ⟨ZE, ZB⟩)
  | (
    (have z_ := tag4_; clear z_)
    go_wp2_with (first | ((with_reducible refine gate_dst (N := 3) rfl ?_); refine ZX (N := 3) (cs := #[.slice A0_0 l0_0.length c0_0, .slice A0_1 l0_1.length c0_1]) (t := 43) ?_; intro gbq0 hg wq0 hbox hb; have BKq0 := Aside0.mk (hbox); have GWq0 : Aside0 (w.heap.size ≤ gbq0) := ZS hg; have GEq0 : Aside0 (w.heap.size ≤ gbq0) := ZS hg; replace HB := ZT HB hb; clear hb hbox hg) | ((with_reducible refine gate_dst (N := 4) rfl ?_); refine ZX (N := 4) (cs := #[.int .i64 a1_0, .int .i64 a1_1, .int .i64 a1_2, .int .i64 a1_3, .int .i64 a1_4, .int .i64 a1_5, .slice A1_6 l1_6.length c1_6, .slice A1_7 l1_7.length c1_7]) (t := 66) ?_; intro gbq1 hg wq1 hbox hb; have BKq1 := Aside0.mk (hbox); have GWq1 : Aside0 (w.heap.size ≤ gbq1) := ZS hg; have GEq1 : Aside0 (w.heap.size ≤ gbq1) := ZS hg; have NBq0_210 : Aside0 (gbq0 ≠ gbq1) := ZN hg BKq0; have NBq1_209 : Aside0 (gbq1 ≠ gbq0) := ZM hg BKq0; replace BKq0 := ZW BKq0 hb; replace HB := ZT HB hb; clear hb hbox hg; have hnbq0 := NBq0_210.out; have hncq0 := NBq1_209.out; obtain ⟨hczq0_0, hczq0_1⟩ := ZC2 wq1 BKq0; obtain ⟨hfzq0_0, hfzq0_1⟩ := ZF2 BKq0; obtain ⟨hczq1_0, hczq1_1, hczq1_2, hczq1_3, hczq1_4, hczq1_5, hczq1_6, hczq1_7⟩ := ZC8 wq1 BKq1; obtain ⟨hfzq1_0, hfzq1_1, hfzq1_2, hfzq1_3, hfzq1_4, hfzq1_5, hfzq1_6, hfzq1_7⟩ := ZF8 BKq1) | (go_at_call 33; (with_reducible refine (spec_l2Var.calls _ _ l0_0 _ _ l0_1 a1_1 true _ ?side1 ?side2 ?side3 ?side4 A7.out).mono ?_); (case side1 => exact ZQ (Kd.C_below HR0_0.out HB.out)); (case side2 => exact HC0_0.out); (case side3 => exact ZQ (Kd.C_below HR0_1.out HB.out)); (case side4 => exact HC0_1.out); rintro e wq2 ⟨rfl, hb⟩; replace BKq0 := ZW BKq0 hb; replace BKq1 := ZW BKq1 hb; replace HB := ZT HB hb; (try clear hb); (try clear hb2); (try clear hk); (try clear hi); obtain ⟨hczq2_0, hczq2_1, hczq2_2, hczq2_3, hczq2_4, hczq2_5, hczq2_6, hczq2_7⟩ := ZC8 wq2 BKq1; obtain ⟨hfzq2_0, hfzq2_1, hfzq2_2, hfzq2_3, hfzq2_4, hfzq2_5, hfzq2_6, hfzq2_7⟩ := ZF8 BKq1) | (go_at_call 19; (with_reducible refine (spec_l6In.calls a1_5 0 2 true _ A44.out).mono ?_); rintro e w' ⟨rfl, ⟨nd, rfl⟩⟩))
    go_ret
    exact ⟨ZE, ZB⟩)
  | (
    (have z_ := tag5_; clear z_)
    go_wp2_with (first | ((with_reducible refine gate_dst (N := 3) rfl ?_); refine ZX (N := 3) (cs := #[.slice A0_0 l0_0.length c0_0, .slice A0_1 l0_1.length c0_1]) (t := 43) ?_; intro gbq0 hg wq0 hbox hb; have BKq0 := Aside0.mk (hbox); have GWq0 : Aside0 (w.heap.size ≤ gbq0) := ZS hg; have GEq0 : Aside0 (w.heap.size ≤ gbq0) := ZS hg; replace HB := ZT HB hb; clear hb hbox hg) | ((with_reducible refine gate_dst (N := 4) rfl ?_); refine ZX (N := 4) (cs := #[.int .i64 a1_0, .int .i64 a1_1, .int .i64 a1_2, .int .i64 a1_3, .int .i64 a1_4, .int .i64 a1_5, .slice A1_6 l1_6.length c1_6, .slice A1_7 l1_7.length c1_7]) (t := 66) ?_; intro gbq1 hg wq1 hbox hb; have BKq1 := Aside0.mk (hbox); have GWq1 : Aside0 (w.heap.size ≤ gbq1) := ZS hg; have GEq1 : Aside0 (w.heap.size ≤ gbq1) := ZS hg; have NBq0_210 : Aside0 (gbq0 ≠ gbq1) := ZN hg BKq0; have NBq1_209 : Aside0 (gbq1 ≠ gbq0) := ZM hg BKq0; replace BKq0 := ZW BKq0 hb; replace HB := ZT HB hb; clear hb hbox hg; have hnbq0 := NBq0_210.out; have hncq0 := NBq1_209.out; obtain ⟨hczq0_0, hczq0_1⟩ := ZC2 wq1 BKq0; obtain ⟨hfzq0_0, hfzq0_1⟩ := ZF2 BKq0; obtain ⟨hczq1_0, hczq1_1, hczq1_2, hczq1_3, hczq1_4, hczq1_5, hczq1_6, hczq1_7⟩ := ZC8 wq1 BKq1; obtain ⟨hfzq1_0, hfzq1_1, hfzq1_2, hfzq1_3, hfzq1_4, hfzq1_5, hfzq1_6, hfzq1_7⟩ := ZF8 BKq1) | (go_at_call 33; (with_reducible refine (spec_l2Var.calls _ _ l0_0 _ _ l0_1 a1_1 true _ ?side1 ?side2 ?side3 ?side4 A7.out).mono ?_); (case side1 => exact ZQ (Kd.C_below HR0_0.out HB.out)); (case side2 => exact HC0_0.out); (case side3 => exact ZQ (Kd.C_below HR0_1.out HB.out)); (case side4 => exact HC0_1.out); rintro e wq2 ⟨rfl, hb⟩; replace BKq0 := ZW BKq0 hb; replace BKq1 := ZW BKq1 hb; replace HB := ZT HB hb; (try clear hb); (try clear hb2); (try clear hk); (try clear hi); obtain ⟨hczq2_0, hczq2_1, hczq2_2, hczq2_3, hczq2_4, hczq2_5, hczq2_6, hczq2_7⟩ := ZC8 wq2 BKq1; obtain ⟨hfzq2_0, hfzq2_1, hfzq2_2, hfzq2_3, hfzq2_4, hfzq2_5, hfzq2_6, hfzq2_7⟩ := ZF8 BKq1) | (go_at_call 19; (with_reducible refine (spec_l6In.calls a1_5 0 2 false _ A44.out).mono ?_); rintro e w' ⟨rfl, ⟨nd, rfl⟩⟩))
    go_ret
    exact ⟨ZE, ZB⟩)
  | (
    (first | (have z_ := tag6_; clear z_) | (have z_ := tag9_; clear z_) | (have z_ := tag10_; clear z_) | (have z_ := tag11_; clear z_))
    go_wp2_with (first | ((with_reducible refine gate_dst (N := 3) rfl ?_); refine ZX (N := 3) (cs := #[.slice A0_0 l0_0.length c0_0, .slice A0_1 l0_1.length c0_1]) (t := 43) ?_; intro gbq0 hg wq0 hbox hb; have BKq0 := Aside0.mk (hbox); have GWq0 : Aside0 (w.heap.size ≤ gbq0) := ZS hg; have GEq0 : Aside0 (w.heap.size ≤ gbq0) := ZS hg; replace HB := ZT HB hb; clear hb hbox hg) | ((with_reducible refine gate_dst (N := 4) rfl ?_); refine ZX (N := 4) (cs := #[.int .i64 a1_0, .int .i64 a1_1, .int .i64 a1_2, .int .i64 a1_3, .int .i64 a1_4, .int .i64 a1_5, .slice A1_6 l1_6.length c1_6, .slice A1_7 l1_7.length c1_7]) (t := 66) ?_; intro gbq1 hg wq1 hbox hb; have BKq1 := Aside0.mk (hbox); have GWq1 : Aside0 (w.heap.size ≤ gbq1) := ZS hg; have GEq1 : Aside0 (w.heap.size ≤ gbq1) := ZS hg; have NBq0_210 : Aside0 (gbq0 ≠ gbq1) := ZN hg BKq0; have NBq1_209 : Aside0 (gbq1 ≠ gbq0) := ZM hg BKq0; replace BKq0 := ZW BKq0 hb; replace HB := ZT HB hb; clear hb hbox hg; have hnbq0 := NBq0_210.out; have hncq0 := NBq1_209.out; obtain ⟨hczq0_0, hczq0_1⟩ := ZC2 wq1 BKq0; obtain ⟨hfzq0_0, hfzq0_1⟩ := ZF2 BKq0; obtain ⟨hczq1_0, hczq1_1, hczq1_2, hczq1_3, hczq1_4, hczq1_5, hczq1_6, hczq1_7⟩ := ZC8 wq1 BKq1; obtain ⟨hfzq1_0, hfzq1_1, hfzq1_2, hfzq1_3, hfzq1_4, hfzq1_5, hfzq1_6, hfzq1_7⟩ := ZF8 BKq1) | (go_at_call 33; (with_reducible refine (spec_l2Var.calls _ _ l0_0 _ _ l0_1 a1_1 true _ ?side1 ?side2 ?side3 ?side4 A7.out).mono ?_); (case side1 => exact ZQ (Kd.C_below HR0_0.out HB.out)); (case side2 => exact HC0_0.out); (case side3 => exact ZQ (Kd.C_below HR0_1.out HB.out)); (case side4 => exact HC0_1.out); rintro e wq2 ⟨rfl, hb⟩; replace BKq0 := ZW BKq0 hb; replace BKq1 := ZW BKq1 hb; replace HB := ZT HB hb; (try clear hb); (try clear hb2); (try clear hk); (try clear hi); obtain ⟨hczq2_0, hczq2_1, hczq2_2, hczq2_3, hczq2_4, hczq2_5, hczq2_6, hczq2_7⟩ := ZC8 wq2 BKq1; obtain ⟨hfzq2_0, hfzq2_1, hfzq2_2, hfzq2_3, hfzq2_4, hfzq2_5, hfzq2_6, hfzq2_7⟩ := ZF8 BKq1))
    go_ret
    exact ⟨ZE, ZB⟩)
  | (
    (have z_ := tag7_; clear z_)
    go_wp2_with (first | ((with_reducible refine gate_dst (N := 3) rfl ?_); refine ZX (N := 3) (cs := #[.slice A0_0 l0_0.length c0_0, .slice A0_1 l0_1.length c0_1]) (t := 43) ?_; intro gbq0 hg wq0 hbox hb; have BKq0 := Aside0.mk (hbox); have GWq0 : Aside0 (w.heap.size ≤ gbq0) := ZS hg; have GEq0 : Aside0 (w.heap.size ≤ gbq0) := ZS hg; replace HB := ZT HB hb; clear hb hbox hg) | ((with_reducible refine gate_dst (N := 4) rfl ?_); refine ZX (N := 4) (cs := #[.int .i64 a1_0, .int .i64 a1_1, .int .i64 a1_2, .int .i64 a1_3, .int .i64 a1_4, .int .i64 a1_5, .slice A1_6 l1_6.length c1_6, .slice A1_7 l1_7.length c1_7]) (t := 66) ?_; intro gbq1 hg wq1 hbox hb; have BKq1 := Aside0.mk (hbox); have GWq1 : Aside0 (w.heap.size ≤ gbq1) := ZS hg; have GEq1 : Aside0 (w.heap.size ≤ gbq1) := ZS hg; have NBq0_210 : Aside0 (gbq0 ≠ gbq1) := ZN hg BKq0; have NBq1_209 : Aside0 (gbq1 ≠ gbq0) := ZM hg BKq0; replace BKq0 := ZW BKq0 hb; replace HB := ZT HB hb; clear hb hbox hg; have hnbq0 := NBq0_210.out; have hncq0 := NBq1_209.out; obtain ⟨hczq0_0, hczq0_1⟩ := ZC2 wq1 BKq0; obtain ⟨hfzq0_0, hfzq0_1⟩ := ZF2 BKq0; obtain ⟨hczq1_0, hczq1_1, hczq1_2, hczq1_3, hczq1_4, hczq1_5, hczq1_6, hczq1_7⟩ := ZC8 wq1 BKq1; obtain ⟨hfzq1_0, hfzq1_1, hfzq1_2, hfzq1_3, hfzq1_4, hfzq1_5, hfzq1_6, hfzq1_7⟩ := ZF8 BKq1) | (go_at_call 33; (with_reducible refine (spec_l2Var.calls _ _ l0_0 _ _ l0_1 a1_1 true _ ?side1 ?side2 ?side3 ?side4 A7.out).mono ?_); (case side1 => exact ZQ (Kd.C_below HR0_0.out HB.out)); (case side2 => exact HC0_0.out); (case side3 => exact ZQ (Kd.C_below HR0_1.out HB.out)); (case side4 => exact HC0_1.out); rintro e wq2 ⟨rfl, hb⟩; replace BKq0 := ZW BKq0 hb; replace BKq1 := ZW BKq1 hb; replace HB := ZT HB hb; (try clear hb); (try clear hb2); (try clear hk); (try clear hi); obtain ⟨hczq2_0, hczq2_1, hczq2_2, hczq2_3, hczq2_4, hczq2_5, hczq2_6, hczq2_7⟩ := ZC8 wq2 BKq1; obtain ⟨hfzq2_0, hfzq2_1, hfzq2_2, hfzq2_3, hfzq2_4, hfzq2_5, hfzq2_6, hfzq2_7⟩ := ZF8 BKq1; obtain ⟨hczq3_0, hczq3_1⟩ := ZC2 wq2 BKq0; obtain ⟨hfzq3_0, hfzq3_1⟩ := ZF2 BKq0) | (go_at_call 27; (with_reducible refine (ihB _ _ l0_0 _ _ l0_1 _ _ l1_6 (wrap64 (a2 - 1)) true _ ?side1 ?side2 ?side3 ?side4 ?side5 ?side6 A70.out).mono ?_); (case side1 => exact ZQ (Kd.C_below HR0_0.out HB.out)); (case side2 => exact HC0_0.out); (case side3 => exact ZQ (Kd.C_below HR0_1.out HB.out)); (case side4 => exact HC0_1.out); (case side5 => exact ZQ (Kd.C_below HR1_6.out HB.out)); (case side6 => exact HC1_6.out); rintro e wq3 ⟨rfl, hb⟩; replace BKq0 := ZW BKq0 hb; replace BKq1 := ZW BKq1 hb; replace HB := ZT HB hb; (try clear hb); (try clear hb2); (try clear hk); (try clear hi); obtain ⟨hczq4_0, hczq4_1⟩ := ZC2 wq3 BKq0; obtain ⟨hfzq4_0, hfzq4_1⟩ := ZF2 BKq0; obtain ⟨hczq5_0, hczq5_1, hczq5_2, hczq5_3, hczq5_4, hczq5_5, hczq5_6, hczq5_7⟩ := ZC8 wq3 BKq1; obtain ⟨hfzq5_0, hfzq5_1, hfzq5_2, hfzq5_3, hfzq5_4, hfzq5_5, hfzq5_6, hfzq5_7⟩ := ZF8 BKq1) | (go_at_call 27; (with_reducible refine (ihB _ _ l0_0 _ _ l0_1 _ _ l1_7 (wrap64 (a2 - 1)) t215 _ ?side1 ?side2 ?side3 ?side4 ?side5 ?side6 A72.out).mono ?_); (case side1 => exact ZQ (Kd.C_below HR0_0.out HB.out)); (case side2 => exact HC0_0.out); (case side3 => exact ZQ (Kd.C_below HR0_1.out HB.out)); (case side4 => exact HC0_1.out); (case side5 => exact ZQ (Kd.C_below HR1_7.out HB.out)); (case side6 => exact HC1_7.out); rintro e wq4 ⟨rfl, hb⟩; replace BKq0 := ZW BKq0 hb; replace BKq1 := ZW BKq1 hb; replace HB := ZT HB hb; (try clear hb); (try clear hb2); (try clear hk); (try clear hi)))
    go_ret
    exact ⟨ZE, ZB⟩)
  | (
    (have z_ := tag8_; clear z_)
    go_wp2_with (first | ((with_reducible refine gate_dst (N := 3) rfl ?_); refine ZX (N := 3) (cs := #[.slice A0_0 l0_0.length c0_0, .slice A0_1 l0_1.length c0_1]) (t := 43) ?_; intro gbq0 hg wq0 hbox hb; have BKq0 := Aside0.mk (hbox); have GWq0 : Aside0 (w.heap.size ≤ gbq0) := ZS hg; have GEq0 : Aside0 (w.heap.size ≤ gbq0) := ZS hg; replace HB := ZT HB hb; clear hb hbox hg) | ((with_reducible refine gate_dst (N := 4) rfl ?_); refine ZX (N := 4) (cs := #[.int .i64 a1_0, .int .i64 a1_1, .int .i64 a1_2, .int .i64 a1_3, .int .i64 a1_4, .int .i64 a1_5, .slice A1_6 l1_6.length c1_6, .slice A1_7 l1_7.length c1_7]) (t := 66) ?_; intro gbq1 hg wq1 hbox hb; have BKq1 := Aside0.mk (hbox); have GWq1 : Aside0 (w.heap.size ≤ gbq1) := ZS hg; have GEq1 : Aside0 (w.heap.size ≤ gbq1) := ZS hg; have NBq0_210 : Aside0 (gbq0 ≠ gbq1) := ZN hg BKq0; have NBq1_209 : Aside0 (gbq1 ≠ gbq0) := ZM hg BKq0; replace BKq0 := ZW BKq0 hb; replace HB := ZT HB hb; clear hb hbox hg; have hnbq0 := NBq0_210.out; have hncq0 := NBq1_209.out; obtain ⟨hczq0_0, hczq0_1⟩ := ZC2 wq1 BKq0; obtain ⟨hfzq0_0, hfzq0_1⟩ := ZF2 BKq0; obtain ⟨hczq1_0, hczq1_1, hczq1_2, hczq1_3, hczq1_4, hczq1_5, hczq1_6, hczq1_7⟩ := ZC8 wq1 BKq1; obtain ⟨hfzq1_0, hfzq1_1, hfzq1_2, hfzq1_3, hfzq1_4, hfzq1_5, hfzq1_6, hfzq1_7⟩ := ZF8 BKq1) | (go_at_call 33; (with_reducible refine (spec_l2Var.calls _ _ l0_0 _ _ l0_1 a1_1 true _ ?side1 ?side2 ?side3 ?side4 A7.out).mono ?_); (case side1 => exact ZQ (Kd.C_below HR0_0.out HB.out)); (case side2 => exact HC0_0.out); (case side3 => exact ZQ (Kd.C_below HR0_1.out HB.out)); (case side4 => exact HC0_1.out); rintro e wq2 ⟨rfl, hb⟩; replace BKq0 := ZW BKq0 hb; replace BKq1 := ZW BKq1 hb; replace HB := ZT HB hb; (try clear hb); (try clear hb2); (try clear hk); (try clear hi); obtain ⟨hczq2_0, hczq2_1, hczq2_2, hczq2_3, hczq2_4, hczq2_5, hczq2_6, hczq2_7⟩ := ZC8 wq2 BKq1; obtain ⟨hfzq2_0, hfzq2_1, hfzq2_2, hfzq2_3, hfzq2_4, hfzq2_5, hfzq2_6, hfzq2_7⟩ := ZF8 BKq1; obtain ⟨hczq3_0, hczq3_1⟩ := ZC2 wq2 BKq0; obtain ⟨hfzq3_0, hfzq3_1⟩ := ZF2 BKq0) | (go_at_call 27; (with_reducible refine (ihB _ _ l0_0 _ _ l0_1 _ _ l1_6 (wrap64 (a2 - 1)) false _ ?side1 ?side2 ?side3 ?side4 ?side5 ?side6 A70.out).mono ?_); (case side1 => exact ZQ (Kd.C_below HR0_0.out HB.out)); (case side2 => exact HC0_0.out); (case side3 => exact ZQ (Kd.C_below HR0_1.out HB.out)); (case side4 => exact HC0_1.out); (case side5 => exact ZQ (Kd.C_below HR1_6.out HB.out)); (case side6 => exact HC1_6.out); rintro e wq3 ⟨rfl, hb⟩; replace BKq0 := ZW BKq0 hb; replace BKq1 := ZW BKq1 hb; replace HB := ZT HB hb; (try clear hb); (try clear hb2); (try clear hk); (try clear hi)))
    go_ret
    exact ⟨ZE, ZB⟩)
  | (
    (have z_ := tag12_; clear z_)
    go_wp2_with (first | ((with_reducible refine gate_dst (N := 3) rfl ?_); refine ZX (N := 3) (cs := #[.slice A0_0 l0_0.length c0_0, .slice A0_1 l0_1.length c0_1]) (t := 43) ?_; intro gbq0 hg wq0 hbox hb; have BKq0 := Aside0.mk (hbox); have GWq0 : Aside0 (w.heap.size ≤ gbq0) := ZS hg; have GEq0 : Aside0 (w.heap.size ≤ gbq0) := ZS hg; replace HB := ZT HB hb; clear hb hbox hg) | ((with_reducible refine gate_dst (N := 4) rfl ?_); refine ZX (N := 4) (cs := #[.int .i64 a1_0, .int .i64 a1_1, .int .i64 a1_2, .int .i64 a1_3, .int .i64 a1_4, .int .i64 a1_5, .slice A1_6 l1_6.length c1_6, .slice A1_7 l1_7.length c1_7]) (t := 66) ?_; intro gbq1 hg wq1 hbox hb; have BKq1 := Aside0.mk (hbox); have GWq1 : Aside0 (w.heap.size ≤ gbq1) := ZS hg; have GEq1 : Aside0 (w.heap.size ≤ gbq1) := ZS hg; have NBq0_210 : Aside0 (gbq0 ≠ gbq1) := ZN hg BKq0; have NBq1_209 : Aside0 (gbq1 ≠ gbq0) := ZM hg BKq0; replace BKq0 := ZW BKq0 hb; replace HB := ZT HB hb; clear hb hbox hg; have hnbq0 := NBq0_210.out; have hncq0 := NBq1_209.out; obtain ⟨hczq0_0, hczq0_1⟩ := ZC2 wq1 BKq0; obtain ⟨hfzq0_0, hfzq0_1⟩ := ZF2 BKq0; obtain ⟨hczq1_0, hczq1_1, hczq1_2, hczq1_3, hczq1_4, hczq1_5, hczq1_6, hczq1_7⟩ := ZC8 wq1 BKq1; obtain ⟨hfzq1_0, hfzq1_1, hfzq1_2, hfzq1_3, hfzq1_4, hfzq1_5, hfzq1_6, hfzq1_7⟩ := ZF8 BKq1) | (go_at_call 33; (with_reducible refine (spec_l2Var.calls _ _ l0_0 _ _ l0_1 a1_1 false _ ?side1 ?side2 ?side3 ?side4 A7.out).mono ?_); (case side1 => exact ZQ (Kd.C_below HR0_0.out HB.out)); (case side2 => exact HC0_0.out); (case side3 => exact ZQ (Kd.C_below HR0_1.out HB.out)); (case side4 => exact HC0_1.out); rintro e wq2 ⟨rfl, hb⟩; replace BKq0 := ZW BKq0 hb; replace BKq1 := ZW BKq1 hb; replace HB := ZT HB hb; (try clear hb); (try clear hb2); (try clear hk); (try clear hi)))
    go_ret
    exact ⟨ZE, ZB⟩)

/-! ### spec_l2Steps: function 27 -/
mutual
def spec_l2Steps.l0 : Nat → List (S66) → Int → Int → List (S57) → List (S66) → Option (Bool)
 | 0, _, _, _, _, _ => none
 | k + 1, x1, x2, x7, x217000, x217001 => if x7 < (x1.length : Int) then (if 0 ≤ x7 then ((spec_l2Step.g k (spec_l2Steps.f k) x217000 x217001 ((rd_T66 x1 x7).f0) ((rd_T66 x1 x7).f1) ((rd_T66 x1 x7).f2.f0) ((rd_T66 x1 x7).f2.f1) ((rd_T66 x1 x7).f2.f2) ((rd_T66 x1 x7).f3) ((rd_T66 x1 x7).f4) ((rd_T66 x1 x7).f5) x2).bind fun t218 => (if t218 = true then (spec_l2Steps.l0 k x1 x2 (wrap64 (x7 + 1)) x217000 x217001) else (some false))) else (none)) else (some true)
def spec_l2Steps.f : Nat → List (S57) → List (S66) → List (S66) → Int → Option (Bool)
 | 0, _, _, _, _ => none
 | k + 1, l0_0, l0_1, l1, a2 => spec_l2Steps.l0 k l1 a2 0 l0_0 l0_1
end
def spec_l2Steps.T4 : Bool × List (List Nat × List Nat) := (true, [([], []), ([], []), ([], []), ([1, 2], [1, 2]), ([3], [3]), ([], []), ([0, 4, 5], [0, 4, 5]), ([6], [6])])
def spec_l2Steps.B4 : List Nat := [0, 0, 0, 6, 14, 0, 63, 127]
theorem spec_l2Steps.tab4 : rtab .any (opsOf Try.f27 4) = spec_l2Steps.T4 := by kernel_rfl
theorem spec_l2Steps.bits4 : waitsOk spec_l2Steps.T4.2 spec_l2Steps.B4 = true := by kernel_rfl
theorem spec_l2Step.calls_of {K : Nat} (ih : ∀ m, m < K → ∀ (A0_0 : Option Addr) (c0_0 : Nat) (l0_0 : List (S57)) (A0_1 : Option Addr) (c0_1 : Nat) (l0_1 : List (S66)) (A1 : Option Addr) (c1 : Nat) (l1 : List (S66)) (a2 : Int) (r : Bool) (w : World) (hr0_0 : Kd.C k57 w A0_0 l0_0.length l0_0) (hc0_0 : l0_0.length ≤ c0_0) (hr0_1 : Kd.C k66 w A0_1 l0_1.length l0_1) (hc0_1 : l0_1.length ≤ c0_1) (hr1 : Kd.C k66 w A1 l1.length l1) (hc1 : l1.length ≤ c1) (h : spec_l2Steps.f m l0_0 l0_1 l1 a2 = some r),
  Calls Try.prog 27 #[.agg #[.slice A0_0 l0_0.length c0_0, .slice A0_1 l0_1.length c0_1], .slice A1 l1.length c1, .int .i64 a2] w fun e w' => e = .returned (.bool r) ∧ Below w.heap.size w w') (k : Nat) (hk : k < K) (A0_0 : Option Addr) (c0_0 : Nat) (l0_0 : List (S57)) (A0_1 : Option Addr) (c0_1 : Nat) (l0_1 : List (S66)) (a1_0 : Int) (a1_1 : Int) (a1_2 : Int) (a1_3 : Int) (a1_4 : Int) (a1_5 : Int) (A1_6 : Option Addr) (c1_6 : Nat) (l1_6 : List (S66)) (A1_7 : Option Addr) (c1_7 : Nat) (l1_7 : List (S66)) (a2 : Int) (r : Bool) (w : World) (hr0_0 : Kd.C k57 w A0_0 l0_0.length l0_0) (hc0_0 : l0_0.length ≤ c0_0) (hr0_1 : Kd.C k66 w A0_1 l0_1.length l0_1) (hc0_1 : l0_1.length ≤ c0_1) (hr1_6 : Kd.C k66 w A1_6 l1_6.length l1_6) (hc1_6 : l1_6.length ≤ c1_6) (hr1_7 : Kd.C k66 w A1_7 l1_7.length l1_7) (hc1_7 : l1_7.length ≤ c1_7) (h : spec_l2Step.g k (spec_l2Steps.f k) l0_0 l0_1 a1_0 a1_1 a1_2 a1_3 a1_4 a1_5 l1_6 l1_7 a2 = some r) :
  Calls Try.prog 31 #[.agg #[.slice A0_0 l0_0.length c0_0, .slice A0_1 l0_1.length c0_1], .agg #[.int .i64 a1_0, .int .i64 a1_1, .int .i64 a1_2, .int .i64 a1_3, .int .i64 a1_4, .int .i64 a1_5, .slice A1_6 l1_6.length c1_6, .slice A1_7 l1_7.length c1_7], .int .i64 a2] w fun e w' => e = .returned (.bool r) ∧ Below w.heap.size w w' := spec_l2Step.calls_g k (spec_l2Steps.f k) (ih k hk) A0_0 c0_0 l0_0 A0_1 c0_1 l0_1 a1_0 a1_1 a1_2 a1_3 a1_4 a1_5 A1_6 c1_6 l1_6 A1_7 c1_7 l1_7 a2 r w hr0_0 hc0_0 hr0_1 hc0_1 hr1_6 hc1_6 hr1_7 hc1_7 h
set_option maxHeartbeats 8000000 in
set_option maxRecDepth 100000 in
theorem spec_l2Steps.calls (k : Nat) : ∀ (A0_0 : Option Addr) (c0_0 : Nat) (l0_0 : List (S57)) (A0_1 : Option Addr) (c0_1 : Nat) (l0_1 : List (S66)) (A1 : Option Addr) (c1 : Nat) (l1 : List (S66)) (a2 : Int) (r : Bool) (w : World) (hr0_0 : Kd.C k57 w A0_0 l0_0.length l0_0) (hc0_0 : l0_0.length ≤ c0_0) (hr0_1 : Kd.C k66 w A0_1 l0_1.length l0_1) (hc0_1 : l0_1.length ≤ c0_1) (hr1 : Kd.C k66 w A1 l1.length l1) (hc1 : l1.length ≤ c1) (h : spec_l2Steps.f k l0_0 l0_1 l1 a2 = some r),
  Calls Try.prog 27 #[.agg #[.slice A0_0 l0_0.length c0_0, .slice A0_1 l0_1.length c0_1], .slice A1 l1.length c1, .int .i64 a2] w fun e w' => e = .returned (.bool r) ∧ Below w.heap.size w w' := by
 induction k using Nat.strongRecOn with
 | _ k ih =>
 intro A0_0 c0_0 l0_0 A0_1 c0_1 l0_1 A1 c1 l1 a2 r w hr0_0 hc0_0 hr0_1 hc0_1 hr1 hc1 h
 cases k with
 | zero => exact absurd h (by simp [spec_l2Steps.f])
 | succ k =>
 simp only [spec_l2Steps.f] at h
 have hu43 := Try.underlying43
 have hu66 := Try.underlying66
 have HR0_0 := Aside0.mk hr0_0
 have HC0_0 := Aside0.mk hc0_0
 clear hr0_0 hc0_0
 have HR0_1 := Aside0.mk hr0_1
 have HC0_1 := Aside0.mk hc0_1
 clear hr0_1 hc0_1
 have HR1 := Aside0.mk hr1
 have HC1 := Aside0.mk hc1
 clear hr1 hc1
 have HB := Aside0.mk (Below.refl w.heap.size w)
 have H : (spec_l2Steps.l0 k l1 a2 0 l0_0 l0_1) = some r := h
 clear h
 have H' := Aside0.mk H
 clear H
 go_enter Try.func27, Try.ntmps27
 go_wp2_with (first | ((with_reducible refine gate_dst (N := 3) rfl ?_); refine ZX (N := 3) (cs := #[.slice A0_0 l0_0.length c0_0, .slice A0_1 l0_1.length c0_1]) (t := 43) ?_; intro gb216 hg w4 hbox hb; have BK216 := Aside0.mk (hbox); have GW216 : Aside0 (w.heap.size ≤ gb216) := ZS hg; have GE216 : Aside0 (w.heap.size ≤ gb216) := ZS hg; replace HB := ZT HB hb; clear hb hbox hg))
 go_loopg [7] k (fun kq v7 w' => ∃ (x7_1 : Int), v7 = .int .i64 x7_1 ∧ Aside0 (spec_l2Steps.l0 kq l1 a2 x7_1 l0_0 l0_1 = some r) ∧ Aside0 (kq ≤ k) ∧ Aside0 (w'.heap[gb216]? = some (.cells #[(.slice A0_0 l0_0.length c0_0), (.slice A0_1 l0_1.length c0_1)] 43 (0, 0))) ∧ Aside0 (Below w.heap.size w w'))
 case atStart => exact ⟨(0), (by first | rfl | (simp; done) | (simp [*]; done)), H', ⟨Nat.le_refl _⟩, ⟨ZK BK216.out⟩, ⟨ZB⟩⟩
 case round =>
  clear H'
  try clear c1
  try clear c2
  try clear p2
  obtain ⟨x7_1, rfl, HA, HK1, BK216, HB⟩ := hrel
  cases gk with
  | zero => exact absurd HA.out (by simp [spec_l2Steps.l0])
  | succ k1 =>
   have H := HA.out
   clear HA
   simp only [spec_l2Steps.l0] at H
   by_cases c5 : x7_1 < (l1.length : Int)
   focus
    rw [if_pos c5] at H
    have c5b0 : decide (x7_1 < (l1.length : Int)) = true := decide_eq_true c5
    clear c5
    by_cases c6 : 0 ≤ x7_1
    focus
     rw [if_pos c6] at H
     have c6b0 : decide (0 ≤ x7_1) = true := decide_eq_true c6
     clear c6
     replace H := Option.bind_eq_some_iff.mp H
     obtain ⟨t218, A70, H⟩ := H
     replace H : (if t218 = true then (spec_l2Steps.l0 k1 l1 a2 (wrap64 (x7_1 + 1)) l0_0 l0_1) else (some false)) = some r := H
     have A7 := Aside0.mk A70
     clear A70
     by_cases c8 : t218 = true
     focus
      subst c8
      have H1 : (spec_l2Steps.l0 k1 l1 a2 (wrap64 (x7_1 + 1)) l0_0 l0_1) = some r := by rw [if_pos rfl] at H; exact H
      clear H
      have H := H1
      clear H1
      have H' := Aside0.mk H
      clear H
      have tag0_ : Aside0 True := ⟨trivial⟩
     rotate_left
     focus
      replace c8 := Bool.eq_false_iff.mpr c8
      subst c8
      have H1 : (some false) = some r := by rw [if_neg (show ¬ (false = true) by decide)] at H; exact H
      clear H
      have H := H1
      clear H1
      obtain rfl := Option.some.inj H
      have tag1_ : Aside0 True := ⟨trivial⟩
     rotate_left
    rotate_left 2
    focus
     rw [if_neg c6] at H
     exact absurd H (by simp)
   rotate_left 2
   focus
    rw [if_neg c5] at H
    have c5b0 : decide (x7_1 < (l1.length : Int)) = false := decide_eq_false c5
    clear c5
    obtain rfl := Option.some.inj H
    have tag2_ : Aside0 True := ⟨trivial⟩
   rotate_left
   all_goals
    first
    | (
      (first | (have z_ := tag0_; clear z_) | (have z_ := tag1_; clear z_))
      try go_wp2
      have n0_ := Aside0.mk (blk_drew BK216.out)
      have n1_ := Aside0.mk (below_drew1 HB.out)
      clear BK216
      clear HB
      have BK216 := n0_
      have HB := n1_
      clear n0_ n1_
      have pq0 : 0 ≤ (x7_1 : Int) := ZD
      have qq0 : x7_1 < (l1.length : Int) := ZD
      obtain ⟨adq0, Aq0_6, cq0_6, Aq0_7, cq0_7, eq0, hxq0_0, hxq0_1, hxq0_2, hxq0_3, hxq0_4, hxq0_5, hxq0_6, hxq0_7, hlq0_6, hiq0_6, hlq0_7, hiq0_7⟩ := at_T66 HR1.out x7_1 pq0 qq0
      have hwq0_7 := hxq0_7
      have hwq0_6 := hxq0_6
      have hwq0_5 := hxq0_5
      have hwq0_4 := hxq0_4
      have hwq0_3 := hxq0_3
      have hwq0_2 := hxq0_2
      have hwq0_1 := hxq0_1
      have hwq0_0 := hxq0_0
      cases eq0
      replace hxq0_0 := (HB.out.cell (World.block_lt_of_cell? w _ hxq0_0)).trans hxq0_0
      replace hxq0_1 := (HB.out.cell (World.block_lt_of_cell? w _ hxq0_1)).trans hxq0_1
      replace hxq0_2 := (HB.out.cell (World.block_lt_of_cell? w _ hxq0_2)).trans hxq0_2
      replace hxq0_3 := (HB.out.cell (World.block_lt_of_cell? w _ hxq0_3)).trans hxq0_3
      replace hxq0_4 := (HB.out.cell (World.block_lt_of_cell? w _ hxq0_4)).trans hxq0_4
      replace hxq0_5 := (HB.out.cell (World.block_lt_of_cell? w _ hxq0_5)).trans hxq0_5
      replace hxq0_6 := (HB.out.cell (World.block_lt_of_cell? w _ hxq0_6)).trans hxq0_6
      replace hxq0_7 := (HB.out.cell (World.block_lt_of_cell? w _ hxq0_7)).trans hxq0_7
      have HRq0_6 := Aside0.mk hiq0_6
      have HCq0_6 := Aside0.mk hlq0_6
      clear hiq0_6 hlq0_6
      have HRq0_7 := Aside0.mk hiq0_7
      have HCq0_7 := Aside0.mk hlq0_7
      clear hiq0_7 hlq0_7
      replace pq0 := eq_true pq0
      replace qq0 := eq_true qq0
      refine start_ (n := 8) (S := fun w' => w'.cell? ⟨gb216, 0, none⟩ = some (.slice A0_0 l0_0.length c0_0) ∧ w'.cell? ⟨gb216, 1, none⟩ = some (.slice A0_1 l0_1.length c0_1) ∧ w'.cell? (adq0.add ((x7_1).toNat * 8)) = some (.int .i64 ((rd_T66 l1 x7_1).f0)) ∧ w'.cell? ⟨(adq0.add ((x7_1).toNat * 8)).block, (adq0.add ((x7_1).toNat * 8)).off + 1, none⟩ = some (.int .i64 ((rd_T66 l1 x7_1).f1)) ∧ w'.cell? ⟨(adq0.add ((x7_1).toNat * 8)).block, (adq0.add ((x7_1).toNat * 8)).off + 2, none⟩ = some (.int .i64 ((rd_T66 l1 x7_1).f2.f0)) ∧ w'.cell? ⟨(adq0.add ((x7_1).toNat * 8)).block, (adq0.add ((x7_1).toNat * 8)).off + 3, none⟩ = some (.int .i64 ((rd_T66 l1 x7_1).f2.f1)) ∧ w'.cell? ⟨(adq0.add ((x7_1).toNat * 8)).block, (adq0.add ((x7_1).toNat * 8)).off + 4, none⟩ = some (.int .i64 ((rd_T66 l1 x7_1).f2.f2)) ∧ w'.cell? ⟨(adq0.add ((x7_1).toNat * 8)).block, (adq0.add ((x7_1).toNat * 8)).off + 5, none⟩ = some (.int .i64 ((rd_T66 l1 x7_1).f3)) ∧ w'.cell? ⟨(adq0.add ((x7_1).toNat * 8)).block, (adq0.add ((x7_1).toNat * 8)).off + 6, none⟩ = some (.slice Aq0_6 ((rd_T66 l1 x7_1).f4).length cq0_6) ∧ w'.cell? ⟨(adq0.add ((x7_1).toNat * 8)).block, (adq0.add ((x7_1).toNat * 8)).off + 7, none⟩ = some (.slice Aq0_7 ((rd_T66 l1 x7_1).f5).length cq0_7)) (ds := []) #[false, false, false, false, false, false, false, false] (by kernel_rfl) rfl rfl ⟨(blk_cell BK216.out 0).trans rfl, (blk_cell BK216.out 1).trans rfl, ((HB.out.cell (World.block_lt_of_cell? w _ hwq0_0)).trans hwq0_0), ((HB.out.cell (World.block_lt_of_cell? w _ hwq0_1)).trans hwq0_1), ((HB.out.cell (World.block_lt_of_cell? w _ hwq0_2)).trans hwq0_2), ((HB.out.cell (World.block_lt_of_cell? w _ hwq0_3)).trans hwq0_3), ((HB.out.cell (World.block_lt_of_cell? w _ hwq0_4)).trans hwq0_4), ((HB.out.cell (World.block_lt_of_cell? w _ hwq0_5)).trans hwq0_5), ((HB.out.cell (World.block_lt_of_cell? w _ hwq0_6)).trans hwq0_6), ((HB.out.cell (World.block_lt_of_cell? w _ hwq0_7)).trans hwq0_7)⟩ (fun hHeld => ?_); refine with_tabW spec_l2Steps.tab4 spec_l2Steps.bits4 (fun HT_ HW_ => ?_)
      generalize wr.drew = wq0 at BK216 HB HRq0_6 HRq0_7 hxq0_0 hxq0_1 hxq0_2 hxq0_3 hxq0_4 hxq0_5 hxq0_6 hxq0_7 hHeld ⊢
      refine pure_ (i := 1) (N := some 15) (v := ?_) (a' := ?_) #[false, true, false, false, false, false, false, false] rfl rfl (any_of HT_.out (by kernel_rfl)) (fun _ _ _ h => h) (Or.inl ⟨by rfl, ?_⟩) ?_ ?_
      rotate_left
      ·intro w'
       go_simp
       with_reducible rfl
      rotate_left
      ·simp only [Act.put, List.setIfInBounds_toArray, List.set_cons_zero, List.set_cons_succ, i64_w, i32_w]
       rfl
      refine pure_ (i := 2) (N := some 16) (v := ?_) (a' := ?_) #[false, true, true, false, false, false, false, false] rfl rfl (any_of HT_.out (by kernel_rfl)) (fun _ _ _ h => h) (Or.inl ⟨by rfl, ?_⟩) ?_ ?_
      rotate_left
      ·intro w'
       go_simp
       with_reducible rfl
      rotate_left
      ·simp only [Act.put, List.setIfInBounds_toArray, List.set_cons_zero, List.set_cons_succ, i64_w, i32_w]
       rfl
      refine pure_ (i := 3) (N := some 17) (v := ?_) (a' := ?_) #[false, true, true, true, false, false, false, false] rfl rfl (any_of HT_.out (by kernel_rfl)) (fun _ _ _ h => h) (Or.inl ⟨by rfl, ?_⟩) ?_ ?_
      rotate_left
      ·intro w'
       go_simp
       with_reducible rfl
      rotate_left
      ·simp only [Act.put, List.setIfInBounds_toArray, List.set_cons_zero, List.set_cons_succ, i64_w, i32_w]
       rfl
      refine pure_ (i := 5) (N := some 19) (v := ?_) (a' := ?_) #[false, true, true, true, false, true, false, false] rfl rfl (any_of HT_.out (by kernel_rfl)) (fun _ _ _ h => h) (Or.inl ⟨by rfl, ?_⟩) ?_ ?_
      rotate_left
      ·intro w'
       go_simp
       with_reducible rfl
      rotate_left
      ·simp only [Act.put, List.setIfInBounds_toArray, List.set_cons_zero, List.set_cons_succ, i64_w, i32_w]
       rfl
      refine take_ (i := 0) (N := some 14) (v := ?_) (a' := ?_) #[true, true, true, true, false, true, false, false] rfl rfl (take_ofW HT_.out HW_.out (by kernel_rfl)) (fun _ _ _ h => h) (Or.inl ⟨by rfl, ?_⟩) hHeld ?_ ?_
      rotate_left
      ·rintro w' ⟨sq0, sq1, sq2, sq3, sq4, sq5, sq6, sq7, sq8, sq9⟩
       go_simp
       with_reducible rfl
      rotate_left
      ·simp only [Act.put, List.setIfInBounds_toArray, List.set_cons_zero, List.set_cons_succ, i64_w, i32_w]
       rfl
      refine take_ (i := 4) (N := some 18) (v := ?_) (a' := ?_) #[true, true, true, true, true, true, false, false] rfl rfl (take_ofW HT_.out HW_.out (by kernel_rfl)) (fun _ _ _ h => h) (Or.inl ⟨by rfl, ?_⟩) hHeld ?_ ?_
      rotate_left
      ·rintro w' ⟨sq0, sq1, sq2, sq3, sq4, sq5, sq6, sq7, sq8, sq9⟩
       go_simp
       with_reducible rfl
      rotate_left
      ·simp only [Act.put, List.setIfInBounds_toArray, List.set_cons_zero, List.set_cons_succ, i64_w, i32_w]
       rfl
      refine one_ (i := 6) (N := some 20) #[true, true, true, true, true, true, true, false] rfl rfl (one_of HT_.out (by kernel_rfl)) (by decide) (fun K hK => ?_)
      refine goes_ Try.func31 (by kernel_rfl) rfl #[.agg #[.slice A0_0 l0_0.length c0_0, .slice A0_1 l0_1.length c0_1], .agg #[.int .i64 ((rd_T66 l1 x7_1).f0), .int .i64 ((rd_T66 l1 x7_1).f1), .int .i64 ((rd_T66 l1 x7_1).f2.f0), .int .i64 ((rd_T66 l1 x7_1).f2.f1), .int .i64 ((rd_T66 l1 x7_1).f2.f2), .int .i64 ((rd_T66 l1 x7_1).f3), .slice Aq0_6 ((rd_T66 l1 x7_1).f4).length cq0_6, .slice Aq0_7 ((rd_T66 l1 x7_1).f5).length cq0_7], .int .i64 a2] (by rfl) rfl rfl ZG ?_
      first
      | (
        (have z_ := tag0_; clear z_)
        with_reducible refine ((spec_l2Step.calls_of ih) k1 (by have := HK1.out; omega) _ _ l0_0 _ _ l0_1 ((rd_T66 l1 x7_1).f0) ((rd_T66 l1 x7_1).f1) ((rd_T66 l1 x7_1).f2.f0) ((rd_T66 l1 x7_1).f2.f1) ((rd_T66 l1 x7_1).f2.f2) ((rd_T66 l1 x7_1).f3) _ _ ((rd_T66 l1 x7_1).f4) _ _ ((rd_T66 l1 x7_1).f5) a2 true _ ?side1 ?side2 ?side3 ?side4 ?side5 ?side6 ?side7 ?side8 A7.out).mono ?_
        (case side1 => exact ZQ (Kd.C_below HR0_0.out HB.out))
        (case side2 => exact HC0_0.out)
        (case side3 => exact ZQ (Kd.C_below HR0_1.out HB.out))
        (case side4 => exact HC0_1.out)
        (case side5 => exact ZQ (Kd.C_below HRq0_6.out HB.out))
        (case side6 => exact HCq0_6.out)
        (case side7 => exact ZQ (Kd.C_below HRq0_7.out HB.out))
        (case side8 => exact HCq0_7.out)
        rintro e wq1 ⟨rfl, hb⟩
        refine ⟨_, rfl, ?_⟩
        have n0_ := ZW BK216 hb
        have n1_ := ZT HB hb
        clear BK216
        clear HB
        have BK216 := n0_
        have HB := n1_
        clear n0_ n1_
        (try clear hb)
        (try clear hb2)
        (try clear hk)
        (try clear hi)
        refine hK.out _ _ ⟨(blk_cell BK216.out 0).trans rfl, (blk_cell BK216.out 1).trans rfl, ((HB.out.cell (World.block_lt_of_cell? w _ hwq0_0)).trans hwq0_0), ((HB.out.cell (World.block_lt_of_cell? w _ hwq0_1)).trans hwq0_1), ((HB.out.cell (World.block_lt_of_cell? w _ hwq0_2)).trans hwq0_2), ((HB.out.cell (World.block_lt_of_cell? w _ hwq0_3)).trans hwq0_3), ((HB.out.cell (World.block_lt_of_cell? w _ hwq0_4)).trans hwq0_4), ((HB.out.cell (World.block_lt_of_cell? w _ hwq0_5)).trans hwq0_5), ((HB.out.cell (World.block_lt_of_cell? w _ hwq0_6)).trans hwq0_6), ((HB.out.cell (World.block_lt_of_cell? w _ hwq0_7)).trans hwq0_7)⟩ (fun hHeld => ?_)
        clear hK K
        refine ZNO 20 ?_
        refine pure_ (i := 7) (N := some 21) (v := ?_) (a' := ?_) #[true, true, true, true, true, true, true, true] rfl rfl (any_of HT_.out (by kernel_rfl)) (fun _ _ _ h => h) (Or.inl ⟨by rfl, ?_⟩) ?_ ?_
        rotate_left
        ·intro w'
         go_simp
         with_reducible rfl
        rotate_left
        ·simp only [Act.put, List.setIfInBounds_toArray, List.set_cons_zero, List.set_cons_succ, i64_w, i32_w]
         rfl
        refine done_ (done_of HT_.out (by kernel_rfl)) ?_
        try go_wp2
        go_roundg k1
        case measure => have := HK1.out; omega
        case rel => exact ⟨(wrap64 (x7_1 + 1)), (by first | rfl | (simp; done) | (simp [*]; done)), H', ⟨by have := HK1.out; omega⟩, ⟨ZK BK216.out⟩, ⟨ZB⟩⟩)
      | (
        (have z_ := tag1_; clear z_)
        with_reducible refine ((spec_l2Step.calls_of ih) k1 (by have := HK1.out; omega) _ _ l0_0 _ _ l0_1 ((rd_T66 l1 x7_1).f0) ((rd_T66 l1 x7_1).f1) ((rd_T66 l1 x7_1).f2.f0) ((rd_T66 l1 x7_1).f2.f1) ((rd_T66 l1 x7_1).f2.f2) ((rd_T66 l1 x7_1).f3) _ _ ((rd_T66 l1 x7_1).f4) _ _ ((rd_T66 l1 x7_1).f5) a2 false _ ?side1 ?side2 ?side3 ?side4 ?side5 ?side6 ?side7 ?side8 A7.out).mono ?_
        (case side1 => exact ZQ (Kd.C_below HR0_0.out HB.out))
        (case side2 => exact HC0_0.out)
        (case side3 => exact ZQ (Kd.C_below HR0_1.out HB.out))
        (case side4 => exact HC0_1.out)
        (case side5 => exact ZQ (Kd.C_below HRq0_6.out HB.out))
        (case side6 => exact HCq0_6.out)
        (case side7 => exact ZQ (Kd.C_below HRq0_7.out HB.out))
        (case side8 => exact HCq0_7.out)
        rintro e wq1 ⟨rfl, hb⟩
        refine ⟨_, rfl, ?_⟩
        have n0_ := ZW BK216 hb
        have n1_ := ZT HB hb
        clear BK216
        clear HB
        have BK216 := n0_
        have HB := n1_
        clear n0_ n1_
        (try clear hb)
        (try clear hb2)
        (try clear hk)
        (try clear hi)
        refine hK.out _ _ ⟨(blk_cell BK216.out 0).trans rfl, (blk_cell BK216.out 1).trans rfl, ((HB.out.cell (World.block_lt_of_cell? w _ hwq0_0)).trans hwq0_0), ((HB.out.cell (World.block_lt_of_cell? w _ hwq0_1)).trans hwq0_1), ((HB.out.cell (World.block_lt_of_cell? w _ hwq0_2)).trans hwq0_2), ((HB.out.cell (World.block_lt_of_cell? w _ hwq0_3)).trans hwq0_3), ((HB.out.cell (World.block_lt_of_cell? w _ hwq0_4)).trans hwq0_4), ((HB.out.cell (World.block_lt_of_cell? w _ hwq0_5)).trans hwq0_5), ((HB.out.cell (World.block_lt_of_cell? w _ hwq0_6)).trans hwq0_6), ((HB.out.cell (World.block_lt_of_cell? w _ hwq0_7)).trans hwq0_7)⟩ (fun hHeld => ?_)
        clear hK K
        refine ZNO 20 ?_
        refine pure_ (i := 7) (N := some 21) (v := ?_) (a' := ?_) #[true, true, true, true, true, true, true, true] rfl rfl (any_of HT_.out (by kernel_rfl)) (fun _ _ _ h => h) (Or.inl ⟨by rfl, ?_⟩) ?_ ?_
        rotate_left
        ·intro w'
         go_simp
         with_reducible rfl
        rotate_left
        ·simp only [Act.put, List.setIfInBounds_toArray, List.set_cons_zero, List.set_cons_succ, i64_w, i32_w]
         rfl
        refine done_ (done_of HT_.out (by kernel_rfl)) ?_
        try go_wp2
        go_ret
        exact ⟨ZE, ZB⟩))
    | (
      (have z_ := tag2_; clear z_)
      go_wp2
      go_ret
      exact ⟨ZE, ZB⟩
      )
def spec_l2Step.f (k : Nat) := spec_l2Step.g k (spec_l2Steps.f k)
theorem spec_l2Step.calls (k : Nat) (A0_0 : Option Addr) (c0_0 : Nat) (l0_0 : List (S57)) (A0_1 : Option Addr) (c0_1 : Nat) (l0_1 : List (S66)) (a1_0 : Int) (a1_1 : Int) (a1_2 : Int) (a1_3 : Int) (a1_4 : Int) (a1_5 : Int) (A1_6 : Option Addr) (c1_6 : Nat) (l1_6 : List (S66)) (A1_7 : Option Addr) (c1_7 : Nat) (l1_7 : List (S66)) (a2 : Int) (r : Bool) (w : World) (hr0_0 : Kd.C k57 w A0_0 l0_0.length l0_0) (hc0_0 : l0_0.length ≤ c0_0) (hr0_1 : Kd.C k66 w A0_1 l0_1.length l0_1) (hc0_1 : l0_1.length ≤ c0_1) (hr1_6 : Kd.C k66 w A1_6 l1_6.length l1_6) (hc1_6 : l1_6.length ≤ c1_6) (hr1_7 : Kd.C k66 w A1_7 l1_7.length l1_7) (hc1_7 : l1_7.length ≤ c1_7) (h : spec_l2Step.f k l0_0 l0_1 a1_0 a1_1 a1_2 a1_3 a1_4 a1_5 l1_6 l1_7 a2 = some r) :
  Calls Try.prog 31 #[.agg #[.slice A0_0 l0_0.length c0_0, .slice A0_1 l0_1.length c0_1], .agg #[.int .i64 a1_0, .int .i64 a1_1, .int .i64 a1_2, .int .i64 a1_3, .int .i64 a1_4, .int .i64 a1_5, .slice A1_6 l1_6.length c1_6, .slice A1_7 l1_7.length c1_7], .int .i64 a2] w fun e w' => e = .returned (.bool r) ∧ Below w.heap.size w w' := spec_l2Step.calls_g k (spec_l2Steps.f k) (spec_l2Steps.calls k) A0_0 c0_0 l0_0 A0_1 c0_1 l0_1 a1_0 a1_1 a1_2 a1_3 a1_4 a1_5 A1_6 c1_6 l1_6 A1_7 c1_7 l1_7 a2 r w hr0_0 hc0_0 hr0_1 hc0_1 hr1_6 hc1_6 hr1_7 hc1_7 h

end Go.Proofs.Ytdmejmdifnicmaa.A
