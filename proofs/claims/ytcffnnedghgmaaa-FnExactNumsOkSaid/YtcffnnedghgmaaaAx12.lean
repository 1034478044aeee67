/- What Go functions compute, as Lean functions, and for each its contract: for every input at which the Lean function answers the call returns that; written by wip/tools/pr.py over the kit's print. -/
import Derived.Test.YtcffnnedghgmaaaAx0
import Derived.Test.YtcffnnedghgmaaaAx1
import Derived.Test.YtcffnnedghgmaaaAx8
import Derived.Test.YtcffnnedghgmaaaAx9
import Derived.Test.YtcffnnedghgmaaaAx10
namespace Go.Proofs.Ytcffnnedghgmaaa.A
open Go.RowKit Go.Proofs.YtcffnnedghgmaaaW.PrintWords Go.Proofs.YtcffnnedghgmaaaW.PrintLast Go.Proofs.YtcffnnedghgmaaaW.PrintMore
attribute [local go_sem] max2_int min2_int max_two min_two max_three min_three max_four min_four   -- for this text's walks alone
set_option linter.unusedVariables false
set_option linter.unusedSimpArgs false

attribute [local go_sem high] eqA57
/-! ### spec_l2Step: function 130 -/
def spec_l2Step.g (k : Nat) (bf : List (S35) → List (S59) → List (S59) → Int → Option (Bool)) (l0_0 : List (S35)) (l0_1 : List (S59)) (a1_0 : Int) (a1_1 : Int) (a1_2 : Int) (a1_3 : Int) (a1_4 : Int) (a1_5 : Int) (l1_6 : List (S59)) (l1_7 : List (S59)) (a2 : Int) : Option (Bool) := if a2 < 1 then (some false) else ((spec_l2Var.f l0_0 l0_1 a1_1).bind fun t153 => (if t153 = true then (if a1_0 = 1 then ((spec_l2Val.f k l0_0 l0_1 a1_2 a1_3 a1_4).bind fun t154 => (if t154 = true then (if a1_5 = 0 then (some ((wrap64 ((l1_6.length : Int) + (l1_7.length : Int))) == 0)) else (some false)) else (some false))) else (if a1_0 = 3 then (if (a1_2 == 0 && (a1_3 == 0 && (a1_4 == 0))) = true then ((spec_l6In.f a1_5 0 2).bind fun t155 => (if t155 = true then (some ((wrap64 ((l1_6.length : Int) + (l1_7.length : Int))) == 0)) else (some false))) else (some false)) else (if a1_0 = 2 then (if (a1_2 == 0 && (a1_3 == 0 && (a1_4 == 0))) = true then (if a1_5 = 0 then ((bf l0_0 l0_1 l1_6 (wrap64 (a2 - 1))).bind fun t156 => (if t156 = true then ((bf l0_0 l0_1 l1_7 (wrap64 (a2 - 1))).bind fun t157 => (some t157)) else (some false))) else (some false)) else (some false)) else (some false)))) else (some false)))
theorem spec_l2Step.mono_g {bf bf' : List (S35) → List (S59) → List (S59) → Int → Option (Bool)} (hb : ∀ y0 y1 y2 y3, LeO (bf y0 y1 y2 y3) (bf' y0 y1 y2 y3)) : ∀ a0 a1 a2 a3 a4 a5 a6 a7 a8 a9 a10 k, LeO (spec_l2Step.g k bf a0 a1 a2 a3 a4 a5 a6 a7 a8 a9 a10) (spec_l2Step.g (k + 1) bf' a0 a1 a2 a3 a4 a5 a6 a7 a8 a9 a10) := by
  intro a0 a1 a2 a3 a4 a5 a6 a7 a8 a9 a10 k
  unfold spec_l2Step.g
  repeat' first
      | (with_reducible exact hb _ _ _ _)
      | (with_reducible exact spec_l2Val.mono _ _ _ _ _ _)
      | (with_reducible exact LeO.refl _)
      | (with_reducible exact LeO.none _)
      | (with_reducible refine LeO.ite ?_ ?_)
      | (with_reducible refine LeO.bind ?_ (fun _ => ?_))
      | exact hb _ _ _ _
      | exact spec_l2Val.mono _ _ _ _ _ _
      | exact LeO.none _
      | refine LeO.ite ?_ ?_
      | refine LeO.bind ?_ (fun _ => ?_)
set_option maxHeartbeats 8000000 in
set_option maxRecDepth 100000 in
theorem spec_l2Step.calls_g (k : Nat) (bf : List (S35) → List (S59) → List (S59) → Int → Option (Bool)) (ihB : ∀ (A0_0 : Option Addr) (c0_0 : Nat) (l0_0 : List (S35)) (A0_1 : Option Addr) (c0_1 : Nat) (l0_1 : List (S59)) (A1 : Option Addr) (c1 : Nat) (l1 : List (S59)) (a2 : Int) (r : Bool) (w : World) (hr0_0 : Kd.C k35 w A0_0 l0_0.length l0_0) (hc0_0 : l0_0.length ≤ c0_0) (hr0_1 : Kd.C k59 w A0_1 l0_1.length l0_1) (hc0_1 : l0_1.length ≤ c0_1) (hr1 : Kd.C k59 w A1 l1.length l1) (hc1 : l1.length ≤ c1) (h : bf l0_0 l0_1 l1 a2 = some r),
    Calls Try.prog 93 #[.agg #[.slice A0_0 l0_0.length c0_0, .slice A0_1 l0_1.length c0_1], .slice A1 l1.length c1, .int .i64 a2] w fun e w' => e = .returned (.bool r) ∧ Below w.heap.size w w') (A0_0 : Option Addr) (c0_0 : Nat) (l0_0 : List (S35)) (A0_1 : Option Addr) (c0_1 : Nat) (l0_1 : List (S59)) (a1_0 : Int) (a1_1 : Int) (a1_2 : Int) (a1_3 : Int) (a1_4 : Int) (a1_5 : Int) (A1_6 : Option Addr) (c1_6 : Nat) (l1_6 : List (S59)) (A1_7 : Option Addr) (c1_7 : Nat) (l1_7 : List (S59)) (a2 : Int) (r : Bool) (w : World) (hr0_0 : Kd.C k35 w A0_0 l0_0.length l0_0) (hc0_0 : l0_0.length ≤ c0_0) (hr0_1 : Kd.C k59 w A0_1 l0_1.length l0_1) (hc0_1 : l0_1.length ≤ c0_1) (hr1_6 : Kd.C k59 w A1_6 l1_6.length l1_6) (hc1_6 : l1_6.length ≤ c1_6) (hr1_7 : Kd.C k59 w A1_7 l1_7.length l1_7) (hc1_7 : l1_7.length ≤ c1_7) (h : spec_l2Step.g k bf l0_0 l0_1 a1_0 a1_1 a1_2 a1_3 a1_4 a1_5 l1_6 l1_7 a2 = some r) :
    Calls Try.prog 130 #[.agg #[.slice A0_0 l0_0.length c0_0, .slice A0_1 l0_1.length c0_1], .agg #[.int .i64 a1_0, .int .i64 a1_1, .int .i64 a1_2, .int .i64 a1_3, .int .i64 a1_4, .int .i64 a1_5, .slice A1_6 l1_6.length c1_6, .slice A1_7 l1_7.length c1_7], .int .i64 a2] w fun e w' => e = .returned (.bool r) ∧ Below w.heap.size w w' := by
  have hu26 := Try.underlying26
  have hu59 := Try.underlying59
  have hu57 := Try.underlying57
  have HR0_0 := Aside0.mk hr0_0
  have HC0_0 := Aside0.mk hc0_0
  clear hr0_0 hc0_0
  have HR0_1 := Aside0.mk hr0_1
  have HC0_1 := Aside0.mk hc0_1
  clear hr0_1 hc0_1
  have HR1_6 := Aside0.mk hr1_6
  have HC1_6 := Aside0.mk hc1_6
  clear hr1_6 hc1_6
  have HR1_7 := Aside0.mk hr1_7
  have HC1_7 := Aside0.mk hc1_7
  clear hr1_7 hc1_7
  have HB := Aside0.mk (Below.refl w.heap.size w)
  have H : (if a2 < 1 then (some false) else ((spec_l2Var.f l0_0 l0_1 a1_1).bind fun t153 => (if t153 = true then (if a1_0 = 1 then ((spec_l2Val.f k l0_0 l0_1 a1_2 a1_3 a1_4).bind fun t154 => (if t154 = true then (if a1_5 = 0 then (some ((wrap64 ((l1_6.length : Int) + (l1_7.length : Int))) == 0)) else (some false)) else (some false))) else (if a1_0 = 3 then (if (a1_2 == 0 && (a1_3 == 0 && (a1_4 == 0))) = true then ((spec_l6In.f a1_5 0 2).bind fun t155 => (if t155 = true then (some ((wrap64 ((l1_6.length : Int) + (l1_7.length : Int))) == 0)) else (some false))) else (some false)) else (if a1_0 = 2 then (if (a1_2 == 0 && (a1_3 == 0 && (a1_4 == 0))) = true then (if a1_5 = 0 then ((bf l0_0 l0_1 l1_6 (wrap64 (a2 - 1))).bind fun t156 => (if t156 = true then ((bf l0_0 l0_1 l1_7 (wrap64 (a2 - 1))).bind fun t157 => (some t157)) else (some false))) else (some false)) else (some false)) else (some false)))) else (some false)))) = some r := h
  clear h
  by_cases c4 : a2 < 1
  focus
    rw [if_pos c4] at H
    have c4b0 : decide (a2 < 1) = true := decide_eq_true c4
    clear c4
    obtain rfl := Option.some.inj H
    have tag0_ : Aside0 True := ⟨trivial⟩
  rotate_left
  focus
    rw [if_neg c4] at H
    have c4b0 : decide (a2 < 1) = false := decide_eq_false c4
    clear c4
    replace H := Option.bind_eq_some_iff.mp H
    obtain ⟨t153, A70, H⟩ := H
    replace H : (if t153 = true then (if a1_0 = 1 then ((spec_l2Val.f k l0_0 l0_1 a1_2 a1_3 a1_4).bind fun t154 => (if t154 = true then (if a1_5 = 0 then (some ((wrap64 ((l1_6.length : Int) + (l1_7.length : Int))) == 0)) else (some false)) else (some false))) else (if a1_0 = 3 then (if (a1_2 == 0 && (a1_3 == 0 && (a1_4 == 0))) = true then ((spec_l6In.f a1_5 0 2).bind fun t155 => (if t155 = true then (some ((wrap64 ((l1_6.length : Int) + (l1_7.length : Int))) == 0)) else (some false))) else (some false)) else (if a1_0 = 2 then (if (a1_2 == 0 && (a1_3 == 0 && (a1_4 == 0))) = true then (if a1_5 = 0 then ((bf l0_0 l0_1 l1_6 (wrap64 (a2 - 1))).bind fun t156 => (if t156 = true then ((bf l0_0 l0_1 l1_7 (wrap64 (a2 - 1))).bind fun t157 => (some t157)) else (some false))) else (some false)) else (some false)) else (some false)))) else (some false)) = some r := H
    have A7 := Aside0.mk A70
    clear A70
    by_cases c8 : t153 = true
    focus
      subst c8
      have H1 : (if a1_0 = 1 then ((spec_l2Val.f k l0_0 l0_1 a1_2 a1_3 a1_4).bind fun t154 => (if t154 = true then (if a1_5 = 0 then (some ((wrap64 ((l1_6.length : Int) + (l1_7.length : Int))) == 0)) else (some false)) else (some false))) else (if a1_0 = 3 then (if (a1_2 == 0 && (a1_3 == 0 && (a1_4 == 0))) = true then ((spec_l6In.f a1_5 0 2).bind fun t155 => (if t155 = true then (some ((wrap64 ((l1_6.length : Int) + (l1_7.length : Int))) == 0)) else (some false))) else (some false)) else (if a1_0 = 2 then (if (a1_2 == 0 && (a1_3 == 0 && (a1_4 == 0))) = true then (if a1_5 = 0 then ((bf l0_0 l0_1 l1_6 (wrap64 (a2 - 1))).bind fun t156 => (if t156 = true then ((bf l0_0 l0_1 l1_7 (wrap64 (a2 - 1))).bind fun t157 => (some t157)) else (some false))) else (some false)) else (some false)) else (some false)))) = some r := by rw [if_pos rfl] at H; exact H
      clear H
      have H := H1
      clear H1
      by_cases c9 : a1_0 = 1
      focus
        rw [if_pos c9] at H
        have c9b0 : (a1_0 == 1) = true := beq_iff_eq.mpr c9
        have c9b1 : (a1_0 != 1) = false := bne_eq_false_iff_eq.mpr c9
        clear c9
        replace H := Option.bind_eq_some_iff.mp H
        obtain ⟨t154, A100, H⟩ := H
        replace H : (if t154 = true then (if a1_5 = 0 then (some ((wrap64 ((l1_6.length : Int) + (l1_7.length : Int))) == 0)) else (some false)) else (some false)) = some r := H
        have A10 := Aside0.mk A100
        clear A100
        by_cases c11 : t154 = true
        focus
          subst c11
          have H1 : (if a1_5 = 0 then (some ((wrap64 ((l1_6.length : Int) + (l1_7.length : Int))) == 0)) else (some false)) = some r := by rw [if_pos rfl] at H; exact H
          clear H
          have H := H1
          clear H1
          by_cases c12 : a1_5 = 0
          focus
            rw [if_pos c12] at H
            have c12b0 : (a1_5 == 0) = true := beq_iff_eq.mpr c12
            have c12b1 : (a1_5 != 0) = false := bne_eq_false_iff_eq.mpr c12
            clear c12
            obtain rfl := Option.some.inj H
            have tag1_ : Aside0 True := ⟨trivial⟩
          rotate_left
          focus
            rw [if_neg c12] at H
            have c12b0 : (a1_5 == 0) = false := beq_eq_false_iff_ne.mpr c12
            have c12b1 : (a1_5 != 0) = true := bne_iff_ne.mpr c12
            obtain rfl := Option.some.inj H
            have tag2_ : Aside0 True := ⟨trivial⟩
          rotate_left
        rotate_left 2
        focus
          replace c11 := Bool.eq_false_iff.mpr c11
          subst c11
          have H1 : (some false) = some r := by rw [if_neg (show ¬ (false = true) by decide)] at H; exact H
          clear H
          have H := H1
          clear H1
          obtain rfl := Option.some.inj H
          have tag3_ : Aside0 True := ⟨trivial⟩
        rotate_left
      rotate_left 3
      focus
        rw [if_neg c9] at H
        have c9b0 : (a1_0 == 1) = false := beq_eq_false_iff_ne.mpr c9
        have c9b1 : (a1_0 != 1) = true := bne_iff_ne.mpr c9
        by_cases c42 : a1_0 = 3
        focus
          rw [if_pos c42] at H
          have c42b0 : (a1_0 == 3) = true := beq_iff_eq.mpr c42
          have c42b1 : (a1_0 != 3) = false := bne_eq_false_iff_eq.mpr c42
          clear c42
          by_cases c43 : (a1_2 == 0 && (a1_3 == 0 && (a1_4 == 0))) = true
          focus
            rw [if_pos c43] at H
            have c43b0 : (a1_2 == 0 && (a1_3 == 0 && (a1_4 == 0))) = true := c43
            (try (have c43b1 : decide (a1_2 = 0 && (a1_3 == 0 && (a1_4 == 0))) = true := by simpa using c43))
            (try (have c43b2 : (a1_2 == 0 && (a1_3 == 0 && (a1_4 == 0))) = true := by simpa using c43))
            clear c43
            replace H := Option.bind_eq_some_iff.mp H
            obtain ⟨t155, A440, H⟩ := H
            replace H : (if t155 = true then (some ((wrap64 ((l1_6.length : Int) + (l1_7.length : Int))) == 0)) else (some false)) = some r := H
            have A44 := Aside0.mk A440
            clear A440
            by_cases c45 : t155 = true
            focus
              subst c45
              have H1 : (some ((wrap64 ((l1_6.length : Int) + (l1_7.length : Int))) == 0)) = some r := by rw [if_pos rfl] at H; exact H
              clear H
              have H := H1
              clear H1
              obtain rfl := Option.some.inj H
              have tag4_ : Aside0 True := ⟨trivial⟩
            rotate_left
            focus
              replace c45 := Bool.eq_false_iff.mpr c45
              subst c45
              have H1 : (some false) = some r := by rw [if_neg (show ¬ (false = true) by decide)] at H; exact H
              clear H
              have H := H1
              clear H1
              obtain rfl := Option.some.inj H
              have tag5_ : Aside0 True := ⟨trivial⟩
            rotate_left
          rotate_left 2
          focus
            rw [if_neg c43] at H
            have c43b0 : (a1_2 == 0 && (a1_3 == 0 && (a1_4 == 0))) = false := by simpa using c43
            (try (have c43b1 : decide (a1_2 = 0 && (a1_3 == 0 && (a1_4 == 0))) = false := by simpa using c43))
            (try (have c43b2 : (a1_2 == 0 && (a1_3 == 0 && (a1_4 == 0))) = false := by simpa using c43))
            (try (have c43b3 : ¬ (a1_2 = 0 && (a1_3 == 0 && (a1_4 == 0))) := by simpa using c43))
            clear c43
            obtain rfl := Option.some.inj H
            have tag6_ : Aside0 True := ⟨trivial⟩
          rotate_left
        rotate_left 3
        focus
          rw [if_neg c42] at H
          have c42b0 : (a1_0 == 3) = false := beq_eq_false_iff_ne.mpr c42
          have c42b1 : (a1_0 != 3) = true := bne_iff_ne.mpr c42
          by_cases c67 : a1_0 = 2
          focus
            rw [if_pos c67] at H
            have c67b0 : (a1_0 == 2) = true := beq_iff_eq.mpr c67
            have c67b1 : (a1_0 != 2) = false := bne_eq_false_iff_eq.mpr c67
            clear c67
            by_cases c68 : (a1_2 == 0 && (a1_3 == 0 && (a1_4 == 0))) = true
            focus
              rw [if_pos c68] at H
              have c68b0 : (a1_2 == 0 && (a1_3 == 0 && (a1_4 == 0))) = true := c68
              (try (have c68b1 : decide (a1_2 = 0 && (a1_3 == 0 && (a1_4 == 0))) = true := by simpa using c68))
              (try (have c68b2 : (a1_2 == 0 && (a1_3 == 0 && (a1_4 == 0))) = true := by simpa using c68))
              clear c68
              by_cases c69 : a1_5 = 0
              focus
                rw [if_pos c69] at H
                have c69b0 : (a1_5 == 0) = true := beq_iff_eq.mpr c69
                have c69b1 : (a1_5 != 0) = false := bne_eq_false_iff_eq.mpr c69
                clear c69
                replace H := Option.bind_eq_some_iff.mp H
                obtain ⟨t156, A700, H⟩ := H
                replace H : (if t156 = true then ((bf l0_0 l0_1 l1_7 (wrap64 (a2 - 1))).bind fun t157 => (some t157)) else (some false)) = some r := H
                have A70 := Aside0.mk A700
                clear A700
                by_cases c71 : t156 = true
                focus
                  subst c71
                  have H1 : ((bf l0_0 l0_1 l1_7 (wrap64 (a2 - 1))).bind fun t157 => (some t157)) = some r := by rw [if_pos rfl] at H; exact H
                  clear H
                  have H := H1
                  clear H1
                  replace H := Option.bind_eq_some_iff.mp H
                  obtain ⟨t157, A720, H⟩ := H
                  replace H : (some t157) = some r := H
                  have A72 := Aside0.mk A720
                  clear A720
                  obtain rfl := Option.some.inj H
                  have tag7_ : Aside0 True := ⟨trivial⟩
                rotate_left
                focus
                  replace c71 := Bool.eq_false_iff.mpr c71
                  subst c71
                  have H1 : (some false) = some r := by rw [if_neg (show ¬ (false = true) by decide)] at H; exact H
                  clear H
                  have H := H1
                  clear H1
                  obtain rfl := Option.some.inj H
                  have tag8_ : Aside0 True := ⟨trivial⟩
                rotate_left
              rotate_left 2
              focus
                rw [if_neg c69] at H
                have c69b0 : (a1_5 == 0) = false := beq_eq_false_iff_ne.mpr c69
                have c69b1 : (a1_5 != 0) = true := bne_iff_ne.mpr c69
                obtain rfl := Option.some.inj H
                have tag9_ : Aside0 True := ⟨trivial⟩
              rotate_left
            rotate_left 3
            focus
              rw [if_neg c68] at H
              have c68b0 : (a1_2 == 0 && (a1_3 == 0 && (a1_4 == 0))) = false := by simpa using c68
              (try (have c68b1 : decide (a1_2 = 0 && (a1_3 == 0 && (a1_4 == 0))) = false := by simpa using c68))
              (try (have c68b2 : (a1_2 == 0 && (a1_3 == 0 && (a1_4 == 0))) = false := by simpa using c68))
              (try (have c68b3 : ¬ (a1_2 = 0 && (a1_3 == 0 && (a1_4 == 0))) := by simpa using c68))
              clear c68
              obtain rfl := Option.some.inj H
              have tag10_ : Aside0 True := ⟨trivial⟩
            rotate_left
          rotate_left 4
          focus
            rw [if_neg c67] at H
            have c67b0 : (a1_0 == 2) = false := beq_eq_false_iff_ne.mpr c67
            have c67b1 : (a1_0 != 2) = true := bne_iff_ne.mpr c67
            obtain rfl := Option.some.inj H
            have tag11_ : Aside0 True := ⟨trivial⟩
          rotate_left
        rotate_left 5
      rotate_left 8
    rotate_left 11
    focus
      replace c8 := Bool.eq_false_iff.mpr c8
      subst c8
      have H1 : (some false) = some r := by rw [if_neg (show ¬ (false = true) by decide)] at H; exact H
      clear H
      have H := H1
      clear H1
      obtain rfl := Option.some.inj H
      have tag12_ : Aside0 True := ⟨trivial⟩
    rotate_left
  rotate_left 12
  all_goals
    go_enter Try.func130, Try.ntmps130
    first
    | ((have z_ := tag0_; clear z_)
       go_wp2_with (first | ((with_reducible refine gate_dst (N := 3) rfl ?_); refine box_event ?hg (N := 3) ?hd (cs := #[.slice A0_0 l0_0.length c0_0, .slice A0_1 l0_1.length c0_1]) (t := 26) ?hr ?_; (case hd => rfl); (case hg => rfl); (case hr => first | (go_simp; done) | (go_simp; rfl)); intro gbq0 hg wq0 hbox hb; have nq0_ := Aside0.mk (below_step (by repeat (first | (with_reducible first | exact HB.out | apply below_alloc | apply pw_below_drewN | apply below_drew1) | exact HB.out)) hb); have nq1_ := Aside0.mk (hbox); have nq2_ := Aside0.mk ((by rw [hg]; exact (below_size (by repeat (first | (with_reducible first | exact HB.out | apply below_alloc | apply pw_below_drewN | apply below_drew1) | exact HB.out))) : w.heap.size ≤ gbq0)); have nq3_ := Aside0.mk ((by rw [hg]; exact (below_size (by repeat (first | (with_reducible first | exact HB.out | apply below_alloc | apply pw_below_drewN | apply below_drew1) | exact HB.out))) : w.heap.size ≤ gbq0)); clear HB; have HB := nq0_; have BKq0 := nq1_; have GWq0 := nq2_; have GEq0 := nq3_; clear nq0_ nq1_ nq2_ nq3_; clear hb hbox hg) | ((with_reducible refine gate_dst (N := 4) rfl ?_); refine box_event ?hg (N := 4) ?hd (cs := #[.int .i64 a1_0, .int .i64 a1_1, .int .i64 a1_2, .int .i64 a1_3, .int .i64 a1_4, .int .i64 a1_5, .slice A1_6 l1_6.length c1_6, .slice A1_7 l1_7.length c1_7]) (t := 59) ?hr ?_; (case hd => rfl); (case hg => rfl); (case hr => first | (go_simp; done) | (go_simp; rfl)); intro gbq1 hg wq1 hbox hb; have nq0_ := Aside0.mk (blk_below (g := gbq0) (o := .cells #[.slice A0_0 l0_0.length c0_0, .slice A0_1 l0_1.length c0_1] 26 (0, 0)) (by (with_reducible repeat (first | refine blk_drewN ?_ _ | refine blk_drew ?_ | refine blk_alloc ?_ _)); exact BKq0.out) hb); have nq1_ := Aside0.mk (below_step (by repeat (first | (with_reducible first | exact HB.out | apply below_alloc | apply pw_below_drewN | apply below_drew1 | refine below_set ?_ GEq0.out) | exact HB.out)) hb); have nq2_ := Aside0.mk (hbox); have nq3_ := Aside0.mk ((by rw [hg]; exact (below_size (by repeat (first | (with_reducible first | exact HB.out | apply below_alloc | apply pw_below_drewN | apply below_drew1 | refine below_set ?_ GEq0.out) | exact HB.out))) : w.heap.size ≤ gbq1)); have nq4_ := Aside0.mk ((by rw [hg]; exact (below_size (by repeat (first | (with_reducible first | exact HB.out | apply below_alloc | apply pw_below_drewN | apply below_drew1 | refine below_set ?_ GEq0.out) | exact HB.out))) : w.heap.size ≤ gbq1)); have nq5_ := Aside0.mk ((by rw [hg]; exact Nat.ne_of_lt (blk_lt (g := gbq0) (o := .cells #[.slice A0_0 l0_0.length c0_0, .slice A0_1 l0_1.length c0_1] 26 (0, 0)) (by (with_reducible repeat (first | refine blk_drewN ?_ _ | refine blk_drew ?_ | refine blk_alloc ?_ _)); exact BKq0.out)) : gbq0 ≠ gbq1)); have nq6_ := Aside0.mk ((by rw [hg]; exact Nat.ne_of_gt (blk_lt (g := gbq0) (o := .cells #[.slice A0_0 l0_0.length c0_0, .slice A0_1 l0_1.length c0_1] 26 (0, 0)) (by (with_reducible repeat (first | refine blk_drewN ?_ _ | refine blk_drew ?_ | refine blk_alloc ?_ _)); exact BKq0.out)) : gbq1 ≠ gbq0)); clear BKq0; clear HB; have BKq0 := nq0_; have HB := nq1_; have BKq1 := nq2_; have GWq1 := nq3_; have GEq1 := nq4_; have NBq0_152 := nq5_; have NBq1_151 := nq6_; clear nq0_ nq1_ nq2_ nq3_ nq4_ nq5_ nq6_; clear hb hbox hg))
       go_ret
       exact ⟨by first | rfl | (simp [errW_none, errW_some] <;> rfl) | (simp [*, errW_none, errW_some] <;> rfl), by repeat (first | (with_reducible first | exact HB.out | apply below_alloc | apply pw_below_drewN | apply below_drew1 | refine below_set ?_ GEq0.out | refine below_set ?_ GEq1.out) | exact HB.out)⟩)
    | ((first | (have z_ := tag1_; clear z_) | (have z_ := tag2_; clear z_))
       go_wp2_with (first | ((with_reducible refine gate_dst (N := 3) rfl ?_); refine box_event ?hg (N := 3) ?hd (cs := #[.slice A0_0 l0_0.length c0_0, .slice A0_1 l0_1.length c0_1]) (t := 26) ?hr ?_; (case hd => rfl); (case hg => rfl); (case hr => first | (go_simp; done) | (go_simp; rfl)); intro gbq0 hg wq0 hbox hb; have nq0_ := Aside0.mk (below_step (by repeat (first | (with_reducible first | exact HB.out | apply below_alloc | apply pw_below_drewN | apply below_drew1) | exact HB.out)) hb); have nq1_ := Aside0.mk (hbox); have nq2_ := Aside0.mk ((by rw [hg]; exact (below_size (by repeat (first | (with_reducible first | exact HB.out | apply below_alloc | apply pw_below_drewN | apply below_drew1) | exact HB.out))) : w.heap.size ≤ gbq0)); have nq3_ := Aside0.mk ((by rw [hg]; exact (below_size (by repeat (first | (with_reducible first | exact HB.out | apply below_alloc | apply pw_below_drewN | apply below_drew1) | exact HB.out))) : w.heap.size ≤ gbq0)); clear HB; have HB := nq0_; have BKq0 := nq1_; have GWq0 := nq2_; have GEq0 := nq3_; clear nq0_ nq1_ nq2_ nq3_; clear hb hbox hg) | ((with_reducible refine gate_dst (N := 4) rfl ?_); refine box_event ?hg (N := 4) ?hd (cs := #[.int .i64 a1_0, .int .i64 a1_1, .int .i64 a1_2, .int .i64 a1_3, .int .i64 a1_4, .int .i64 a1_5, .slice A1_6 l1_6.length c1_6, .slice A1_7 l1_7.length c1_7]) (t := 59) ?hr ?_; (case hd => rfl); (case hg => rfl); (case hr => first | (go_simp; done) | (go_simp; rfl)); intro gbq1 hg wq1 hbox hb; have nq0_ := Aside0.mk (blk_below (g := gbq0) (o := .cells #[.slice A0_0 l0_0.length c0_0, .slice A0_1 l0_1.length c0_1] 26 (0, 0)) (by (with_reducible repeat (first | refine blk_drewN ?_ _ | refine blk_drew ?_ | refine blk_alloc ?_ _)); exact BKq0.out) hb); have nq1_ := Aside0.mk (below_step (by repeat (first | (with_reducible first | exact HB.out | apply below_alloc | apply pw_below_drewN | apply below_drew1 | refine below_set ?_ GEq0.out) | exact HB.out)) hb); have nq2_ := Aside0.mk (hbox); have nq3_ := Aside0.mk ((by rw [hg]; exact (below_size (by repeat (first | (with_reducible first | exact HB.out | apply below_alloc | apply pw_below_drewN | apply below_drew1 | refine below_set ?_ GEq0.out) | exact HB.out))) : w.heap.size ≤ gbq1)); have nq4_ := Aside0.mk ((by rw [hg]; exact (below_size (by repeat (first | (with_reducible first | exact HB.out | apply below_alloc | apply pw_below_drewN | apply below_drew1 | refine below_set ?_ GEq0.out) | exact HB.out))) : w.heap.size ≤ gbq1)); have nq5_ := Aside0.mk ((by rw [hg]; exact Nat.ne_of_lt (blk_lt (g := gbq0) (o := .cells #[.slice A0_0 l0_0.length c0_0, .slice A0_1 l0_1.length c0_1] 26 (0, 0)) (by (with_reducible repeat (first | refine blk_drewN ?_ _ | refine blk_drew ?_ | refine blk_alloc ?_ _)); exact BKq0.out)) : gbq0 ≠ gbq1)); have nq6_ := Aside0.mk ((by rw [hg]; exact Nat.ne_of_gt (blk_lt (g := gbq0) (o := .cells #[.slice A0_0 l0_0.length c0_0, .slice A0_1 l0_1.length c0_1] 26 (0, 0)) (by (with_reducible repeat (first | refine blk_drewN ?_ _ | refine blk_drew ?_ | refine blk_alloc ?_ _)); exact BKq0.out)) : gbq1 ≠ gbq0)); clear BKq0; clear HB; have BKq0 := nq0_; have HB := nq1_; have BKq1 := nq2_; have GWq1 := nq3_; have GEq1 := nq4_; have NBq0_152 := nq5_; have NBq1_151 := nq6_; clear nq0_ nq1_ nq2_ nq3_ nq4_ nq5_ nq6_; clear hb hbox hg; have hnbq0 := NBq0_152.out; have hncq0 := NBq1_151.out; have hczq0_0 : wq1.cell? ⟨gbq0, 0, none⟩ = some (.slice A0_0 l0_0.length c0_0) := (blk_cell BKq0.out 0).trans rfl; have hczq0_1 : wq1.cell? ⟨gbq0, 1, none⟩ = some (.slice A0_1 l0_1.length c0_1) := (blk_cell BKq0.out 1).trans rfl; have hfzq0_0 := blk_frozen BKq0.out 0; have hfzq0_1 := blk_frozen BKq0.out 1; have hczq1_0 : wq1.cell? ⟨gbq1, 0, none⟩ = some (.int .i64 a1_0) := (blk_cell BKq1.out 0).trans rfl; have hczq1_1 : wq1.cell? ⟨gbq1, 1, none⟩ = some (.int .i64 a1_1) := (blk_cell BKq1.out 1).trans rfl; have hczq1_2 : wq1.cell? ⟨gbq1, 2, none⟩ = some (.int .i64 a1_2) := (blk_cell BKq1.out 2).trans rfl; have hczq1_3 : wq1.cell? ⟨gbq1, 3, none⟩ = some (.int .i64 a1_3) := (blk_cell BKq1.out 3).trans rfl; have hczq1_4 : wq1.cell? ⟨gbq1, 4, none⟩ = some (.int .i64 a1_4) := (blk_cell BKq1.out 4).trans rfl; have hczq1_5 : wq1.cell? ⟨gbq1, 5, none⟩ = some (.int .i64 a1_5) := (blk_cell BKq1.out 5).trans rfl; have hczq1_6 : wq1.cell? ⟨gbq1, 6, none⟩ = some (.slice A1_6 l1_6.length c1_6) := (blk_cell BKq1.out 6).trans rfl; have hczq1_7 : wq1.cell? ⟨gbq1, 7, none⟩ = some (.slice A1_7 l1_7.length c1_7) := (blk_cell BKq1.out 7).trans rfl; have hfzq1_0 := blk_frozen BKq1.out 0; have hfzq1_1 := blk_frozen BKq1.out 1; have hfzq1_2 := blk_frozen BKq1.out 2; have hfzq1_3 := blk_frozen BKq1.out 3; have hfzq1_4 := blk_frozen BKq1.out 4; have hfzq1_5 := blk_frozen BKq1.out 5; have hfzq1_6 := blk_frozen BKq1.out 6; have hfzq1_7 := blk_frozen BKq1.out 7) | (go_at_call 145; (with_reducible refine (spec_l2Var.calls _ _ l0_0 _ _ l0_1 a1_1 true _ ?side1 ?side2 ?side3 ?side4 A7.out).mono ?_); (case side1 => repeat (first | exact (Kd.C_below HR0_0.out HB.out) | (with_reducible refine Kd.C_alloc ?_ _) | (with_reducible refine Kd.C_drewN ?_ _) | (with_reducible refine Kd.C_drew ?_))); (case side2 => exact HC0_0.out); (case side3 => repeat (first | exact (Kd.C_below HR0_1.out HB.out) | (with_reducible refine Kd.C_alloc ?_ _) | (with_reducible refine Kd.C_drewN ?_ _) | (with_reducible refine Kd.C_drew ?_))); (case side4 => exact HC0_1.out); rintro e wq2 ⟨rfl, hb⟩; have nq0_ := Aside0.mk (blk_below (g := gbq0) (o := .cells #[.slice A0_0 l0_0.length c0_0, .slice A0_1 l0_1.length c0_1] 26 (0, 0)) (by (with_reducible repeat (first | refine blk_drewN ?_ _ | refine blk_drew ?_ | refine blk_alloc ?_ _)); exact BKq0.out) hb); have nq1_ := Aside0.mk (blk_below (g := gbq1) (o := .cells #[.int .i64 a1_0, .int .i64 a1_1, .int .i64 a1_2, .int .i64 a1_3, .int .i64 a1_4, .int .i64 a1_5, .slice A1_6 l1_6.length c1_6, .slice A1_7 l1_7.length c1_7] 59 (0, 0)) (by (with_reducible repeat (first | refine blk_drewN ?_ _ | refine blk_drew ?_ | refine blk_alloc ?_ _)); exact BKq1.out) hb); have nq2_ := Aside0.mk (below_step (by repeat (first | (with_reducible first | exact HB.out | apply below_alloc | apply pw_below_drewN | apply below_drew1 | refine below_set ?_ GEq0.out | refine below_set ?_ GEq1.out) | exact HB.out)) hb); clear BKq0; clear BKq1; clear HB; have BKq0 := nq0_; have BKq1 := nq1_; have HB := nq2_; clear nq0_ nq1_ nq2_; (try clear hb); (try clear hb2); (try clear hk); (try clear hi); have hczq2_0 : wq2.cell? ⟨gbq1, 0, none⟩ = some (.int .i64 a1_0) := (blk_cell BKq1.out 0).trans rfl; have hczq2_1 : wq2.cell? ⟨gbq1, 1, none⟩ = some (.int .i64 a1_1) := (blk_cell BKq1.out 1).trans rfl; have hczq2_2 : wq2.cell? ⟨gbq1, 2, none⟩ = some (.int .i64 a1_2) := (blk_cell BKq1.out 2).trans rfl; have hczq2_3 : wq2.cell? ⟨gbq1, 3, none⟩ = some (.int .i64 a1_3) := (blk_cell BKq1.out 3).trans rfl; have hczq2_4 : wq2.cell? ⟨gbq1, 4, none⟩ = some (.int .i64 a1_4) := (blk_cell BKq1.out 4).trans rfl; have hczq2_5 : wq2.cell? ⟨gbq1, 5, none⟩ = some (.int .i64 a1_5) := (blk_cell BKq1.out 5).trans rfl; have hczq2_6 : wq2.cell? ⟨gbq1, 6, none⟩ = some (.slice A1_6 l1_6.length c1_6) := (blk_cell BKq1.out 6).trans rfl; have hczq2_7 : wq2.cell? ⟨gbq1, 7, none⟩ = some (.slice A1_7 l1_7.length c1_7) := (blk_cell BKq1.out 7).trans rfl; have hfzq2_0 := blk_frozen BKq1.out 0; have hfzq2_1 := blk_frozen BKq1.out 1; have hfzq2_2 := blk_frozen BKq1.out 2; have hfzq2_3 := blk_frozen BKq1.out 3; have hfzq2_4 := blk_frozen BKq1.out 4; have hfzq2_5 := blk_frozen BKq1.out 5; have hfzq2_6 := blk_frozen BKq1.out 6; have hfzq2_7 := blk_frozen BKq1.out 7; have hczq3_0 : wq2.cell? ⟨gbq0, 0, none⟩ = some (.slice A0_0 l0_0.length c0_0) := (blk_cell BKq0.out 0).trans rfl; have hczq3_1 : wq2.cell? ⟨gbq0, 1, none⟩ = some (.slice A0_1 l0_1.length c0_1) := (blk_cell BKq0.out 1).trans rfl; have hfzq3_0 := blk_frozen BKq0.out 0; have hfzq3_1 := blk_frozen BKq0.out 1) | ((with_reducible refine gate_callee (f := 146) rfl ?_); refine goesL_ (some 28) rfl rfl Try.func146 (by kernel_rfl) rfl #[.agg #[.slice A0_0 l0_0.length c0_0, .slice A0_1 l0_1.length c0_1], .agg #[.int .i64 a1_2, .int .i64 a1_3, .int .i64 a1_4]] rfl (by (try simp only [List.map_toArray, List.map_cons, List.map_nil]); first | done | rfl | (simp only [List.length_drop, List.length_take]; rfl)) ?_; (with_reducible refine (spec_l2Val.calls k _ _ l0_0 _ _ l0_1 a1_2 a1_3 a1_4 true _ ?side1 ?side2 ?side3 ?side4 A10.out).mono ?_); (case side1 => repeat (first | exact (Kd.C_below HR0_0.out HB.out) | (with_reducible refine Kd.C_alloc ?_ _) | (with_reducible refine Kd.C_drewN ?_ _) | (with_reducible refine Kd.C_drew ?_))); (case side2 => exact HC0_0.out); (case side3 => repeat (first | exact (Kd.C_below HR0_1.out HB.out) | (with_reducible refine Kd.C_alloc ?_ _) | (with_reducible refine Kd.C_drewN ?_ _) | (with_reducible refine Kd.C_drew ?_))); (case side4 => exact HC0_1.out); rintro e wq3 ⟨rfl, hb⟩; refine ⟨_, rfl, ?_⟩; have nq0_ := Aside0.mk (blk_below (g := gbq0) (o := .cells #[.slice A0_0 l0_0.length c0_0, .slice A0_1 l0_1.length c0_1] 26 (0, 0)) (by (with_reducible repeat (first | refine blk_drewN ?_ _ | refine blk_drew ?_ | refine blk_alloc ?_ _)); exact BKq0.out) hb); have nq1_ := Aside0.mk (blk_below (g := gbq1) (o := .cells #[.int .i64 a1_0, .int .i64 a1_1, .int .i64 a1_2, .int .i64 a1_3, .int .i64 a1_4, .int .i64 a1_5, .slice A1_6 l1_6.length c1_6, .slice A1_7 l1_7.length c1_7] 59 (0, 0)) (by (with_reducible repeat (first | refine blk_drewN ?_ _ | refine blk_drew ?_ | refine blk_alloc ?_ _)); exact BKq1.out) hb); have nq2_ := Aside0.mk (below_step (by repeat (first | (with_reducible first | exact HB.out | apply below_alloc | apply pw_below_drewN | apply below_drew1 | refine below_set ?_ GEq0.out | refine below_set ?_ GEq1.out) | exact HB.out)) hb); clear BKq0; clear BKq1; clear HB; have BKq0 := nq0_; have BKq1 := nq1_; have HB := nq2_; clear nq0_ nq1_ nq2_; (try clear hb); (try clear hb2); (try clear hk); (try clear hi); have hczq4_0 : wq3.cell? ⟨gbq1, 0, none⟩ = some (.int .i64 a1_0) := (blk_cell BKq1.out 0).trans rfl; have hczq4_1 : wq3.cell? ⟨gbq1, 1, none⟩ = some (.int .i64 a1_1) := (blk_cell BKq1.out 1).trans rfl; have hczq4_2 : wq3.cell? ⟨gbq1, 2, none⟩ = some (.int .i64 a1_2) := (blk_cell BKq1.out 2).trans rfl; have hczq4_3 : wq3.cell? ⟨gbq1, 3, none⟩ = some (.int .i64 a1_3) := (blk_cell BKq1.out 3).trans rfl; have hczq4_4 : wq3.cell? ⟨gbq1, 4, none⟩ = some (.int .i64 a1_4) := (blk_cell BKq1.out 4).trans rfl; have hczq4_5 : wq3.cell? ⟨gbq1, 5, none⟩ = some (.int .i64 a1_5) := (blk_cell BKq1.out 5).trans rfl; have hczq4_6 : wq3.cell? ⟨gbq1, 6, none⟩ = some (.slice A1_6 l1_6.length c1_6) := (blk_cell BKq1.out 6).trans rfl; have hczq4_7 : wq3.cell? ⟨gbq1, 7, none⟩ = some (.slice A1_7 l1_7.length c1_7) := (blk_cell BKq1.out 7).trans rfl; have hfzq4_0 := blk_frozen BKq1.out 0; have hfzq4_1 := blk_frozen BKq1.out 1; have hfzq4_2 := blk_frozen BKq1.out 2; have hfzq4_3 := blk_frozen BKq1.out 3; have hfzq4_4 := blk_frozen BKq1.out 4; have hfzq4_5 := blk_frozen BKq1.out 5; have hfzq4_6 := blk_frozen BKq1.out 6; have hfzq4_7 := blk_frozen BKq1.out 7))
       go_ret
       exact ⟨by first | rfl | (simp [errW_none, errW_some] <;> rfl) | (simp [*, errW_none, errW_some] <;> rfl), by repeat (first | (with_reducible first | exact HB.out | apply below_alloc | apply pw_below_drewN | apply below_drew1 | refine below_set ?_ GEq0.out | refine below_set ?_ GEq1.out) | exact HB.out)⟩)
    | ((have z_ := tag3_; clear z_)
       go_wp2_with (first | ((with_reducible refine gate_dst (N := 3) rfl ?_); refine box_event ?hg (N := 3) ?hd (cs := #[.slice A0_0 l0_0.length c0_0, .slice A0_1 l0_1.length c0_1]) (t := 26) ?hr ?_; (case hd => rfl); (case hg => rfl); (case hr => first | (go_simp; done) | (go_simp; rfl)); intro gbq0 hg wq0 hbox hb; have nq0_ := Aside0.mk (below_step (by repeat (first | (with_reducible first | exact HB.out | apply below_alloc | apply pw_below_drewN | apply below_drew1) | exact HB.out)) hb); have nq1_ := Aside0.mk (hbox); have nq2_ := Aside0.mk ((by rw [hg]; exact (below_size (by repeat (first | (with_reducible first | exact HB.out | apply below_alloc | apply pw_below_drewN | apply below_drew1) | exact HB.out))) : w.heap.size ≤ gbq0)); have nq3_ := Aside0.mk ((by rw [hg]; exact (below_size (by repeat (first | (with_reducible first | exact HB.out | apply below_alloc | apply pw_below_drewN | apply below_drew1) | exact HB.out))) : w.heap.size ≤ gbq0)); clear HB; have HB := nq0_; have BKq0 := nq1_; have GWq0 := nq2_; have GEq0 := nq3_; clear nq0_ nq1_ nq2_ nq3_; clear hb hbox hg) | ((with_reducible refine gate_dst (N := 4) rfl ?_); refine box_event ?hg (N := 4) ?hd (cs := #[.int .i64 a1_0, .int .i64 a1_1, .int .i64 a1_2, .int .i64 a1_3, .int .i64 a1_4, .int .i64 a1_5, .slice A1_6 l1_6.length c1_6, .slice A1_7 l1_7.length c1_7]) (t := 59) ?hr ?_; (case hd => rfl); (case hg => rfl); (case hr => first | (go_simp; done) | (go_simp; rfl)); intro gbq1 hg wq1 hbox hb; have nq0_ := Aside0.mk (blk_below (g := gbq0) (o := .cells #[.slice A0_0 l0_0.length c0_0, .slice A0_1 l0_1.length c0_1] 26 (0, 0)) (by (with_reducible repeat (first | refine blk_drewN ?_ _ | refine blk_drew ?_ | refine blk_alloc ?_ _)); exact BKq0.out) hb); have nq1_ := Aside0.mk (below_step (by repeat (first | (with_reducible first | exact HB.out | apply below_alloc | apply pw_below_drewN | apply below_drew1 | refine below_set ?_ GEq0.out) | exact HB.out)) hb); have nq2_ := Aside0.mk (hbox); have nq3_ := Aside0.mk ((by rw [hg]; exact (below_size (by repeat (first | (with_reducible first | exact HB.out | apply below_alloc | apply pw_below_drewN | apply below_drew1 | refine below_set ?_ GEq0.out) | exact HB.out))) : w.heap.size ≤ gbq1)); have nq4_ := Aside0.mk ((by rw [hg]; exact (below_size (by repeat (first | (with_reducible first | exact HB.out | apply below_alloc | apply pw_below_drewN | apply below_drew1 | refine below_set ?_ GEq0.out) | exact HB.out))) : w.heap.size ≤ gbq1)); have nq5_ := Aside0.mk ((by rw [hg]; exact Nat.ne_of_lt (blk_lt (g := gbq0) (o := .cells #[.slice A0_0 l0_0.length c0_0, .slice A0_1 l0_1.length c0_1] 26 (0, 0)) (by (with_reducible repeat (first | refine blk_drewN ?_ _ | refine blk_drew ?_ | refine blk_alloc ?_ _)); exact BKq0.out)) : gbq0 ≠ gbq1)); have nq6_ := Aside0.mk ((by rw [hg]; exact Nat.ne_of_gt (blk_lt (g := gbq0) (o := .cells #[.slice A0_0 l0_0.length c0_0, .slice A0_1 l0_1.length c0_1] 26 (0, 0)) (by (with_reducible repeat (first | refine blk_drewN ?_ _ | refine blk_drew ?_ | refine blk_alloc ?_ _)); exact BKq0.out)) : gbq1 ≠ gbq0)); clear BKq0; clear HB; have BKq0 := nq0_; have HB := nq1_; have BKq1 := nq2_; have GWq1 := nq3_; have GEq1 := nq4_; have NBq0_152 := nq5_; have NBq1_151 := nq6_; clear nq0_ nq1_ nq2_ nq3_ nq4_ nq5_ nq6_; clear hb hbox hg; have hnbq0 := NBq0_152.out; have hncq0 := NBq1_151.out; have hczq0_0 : wq1.cell? ⟨gbq0, 0, none⟩ = some (.slice A0_0 l0_0.length c0_0) := (blk_cell BKq0.out 0).trans rfl; have hczq0_1 : wq1.cell? ⟨gbq0, 1, none⟩ = some (.slice A0_1 l0_1.length c0_1) := (blk_cell BKq0.out 1).trans rfl; have hfzq0_0 := blk_frozen BKq0.out 0; have hfzq0_1 := blk_frozen BKq0.out 1; have hczq1_0 : wq1.cell? ⟨gbq1, 0, none⟩ = some (.int .i64 a1_0) := (blk_cell BKq1.out 0).trans rfl; have hczq1_1 : wq1.cell? ⟨gbq1, 1, none⟩ = some (.int .i64 a1_1) := (blk_cell BKq1.out 1).trans rfl; have hczq1_2 : wq1.cell? ⟨gbq1, 2, none⟩ = some (.int .i64 a1_2) := (blk_cell BKq1.out 2).trans rfl; have hczq1_3 : wq1.cell? ⟨gbq1, 3, none⟩ = some (.int .i64 a1_3) := (blk_cell BKq1.out 3).trans rfl; have hczq1_4 : wq1.cell? ⟨gbq1, 4, none⟩ = some (.int .i64 a1_4) := (blk_cell BKq1.out 4).trans rfl; have hczq1_5 : wq1.cell? ⟨gbq1, 5, none⟩ = some (.int .i64 a1_5) := (blk_cell BKq1.out 5).trans rfl; have hczq1_6 : wq1.cell? ⟨gbq1, 6, none⟩ = some (.slice A1_6 l1_6.length c1_6) := (blk_cell BKq1.out 6).trans rfl; have hczq1_7 : wq1.cell? ⟨gbq1, 7, none⟩ = some (.slice A1_7 l1_7.length c1_7) := (blk_cell BKq1.out 7).trans rfl; have hfzq1_0 := blk_frozen BKq1.out 0; have hfzq1_1 := blk_frozen BKq1.out 1; have hfzq1_2 := blk_frozen BKq1.out 2; have hfzq1_3 := blk_frozen BKq1.out 3; have hfzq1_4 := blk_frozen BKq1.out 4; have hfzq1_5 := blk_frozen BKq1.out 5; have hfzq1_6 := blk_frozen BKq1.out 6; have hfzq1_7 := blk_frozen BKq1.out 7) | (go_at_call 145; (with_reducible refine (spec_l2Var.calls _ _ l0_0 _ _ l0_1 a1_1 true _ ?side1 ?side2 ?side3 ?side4 A7.out).mono ?_); (case side1 => repeat (first | exact (Kd.C_below HR0_0.out HB.out) | (with_reducible refine Kd.C_alloc ?_ _) | (with_reducible refine Kd.C_drewN ?_ _) | (with_reducible refine Kd.C_drew ?_))); (case side2 => exact HC0_0.out); (case side3 => repeat (first | exact (Kd.C_below HR0_1.out HB.out) | (with_reducible refine Kd.C_alloc ?_ _) | (with_reducible refine Kd.C_drewN ?_ _) | (with_reducible refine Kd.C_drew ?_))); (case side4 => exact HC0_1.out); rintro e wq2 ⟨rfl, hb⟩; have nq0_ := Aside0.mk (blk_below (g := gbq0) (o := .cells #[.slice A0_0 l0_0.length c0_0, .slice A0_1 l0_1.length c0_1] 26 (0, 0)) (by (with_reducible repeat (first | refine blk_drewN ?_ _ | refine blk_drew ?_ | refine blk_alloc ?_ _)); exact BKq0.out) hb); have nq1_ := Aside0.mk (blk_below (g := gbq1) (o := .cells #[.int .i64 a1_0, .int .i64 a1_1, .int .i64 a1_2, .int .i64 a1_3, .int .i64 a1_4, .int .i64 a1_5, .slice A1_6 l1_6.length c1_6, .slice A1_7 l1_7.length c1_7] 59 (0, 0)) (by (with_reducible repeat (first | refine blk_drewN ?_ _ | refine blk_drew ?_ | refine blk_alloc ?_ _)); exact BKq1.out) hb); have nq2_ := Aside0.mk (below_step (by repeat (first | (with_reducible first | exact HB.out | apply below_alloc | apply pw_below_drewN | apply below_drew1 | refine below_set ?_ GEq0.out | refine below_set ?_ GEq1.out) | exact HB.out)) hb); clear BKq0; clear BKq1; clear HB; have BKq0 := nq0_; have BKq1 := nq1_; have HB := nq2_; clear nq0_ nq1_ nq2_; (try clear hb); (try clear hb2); (try clear hk); (try clear hi); have hczq2_0 : wq2.cell? ⟨gbq1, 0, none⟩ = some (.int .i64 a1_0) := (blk_cell BKq1.out 0).trans rfl; have hczq2_1 : wq2.cell? ⟨gbq1, 1, none⟩ = some (.int .i64 a1_1) := (blk_cell BKq1.out 1).trans rfl; have hczq2_2 : wq2.cell? ⟨gbq1, 2, none⟩ = some (.int .i64 a1_2) := (blk_cell BKq1.out 2).trans rfl; have hczq2_3 : wq2.cell? ⟨gbq1, 3, none⟩ = some (.int .i64 a1_3) := (blk_cell BKq1.out 3).trans rfl; have hczq2_4 : wq2.cell? ⟨gbq1, 4, none⟩ = some (.int .i64 a1_4) := (blk_cell BKq1.out 4).trans rfl; have hczq2_5 : wq2.cell? ⟨gbq1, 5, none⟩ = some (.int .i64 a1_5) := (blk_cell BKq1.out 5).trans rfl; have hczq2_6 : wq2.cell? ⟨gbq1, 6, none⟩ = some (.slice A1_6 l1_6.length c1_6) := (blk_cell BKq1.out 6).trans rfl; have hczq2_7 : wq2.cell? ⟨gbq1, 7, none⟩ = some (.slice A1_7 l1_7.length c1_7) := (blk_cell BKq1.out 7).trans rfl; have hfzq2_0 := blk_frozen BKq1.out 0; have hfzq2_1 := blk_frozen BKq1.out 1; have hfzq2_2 := blk_frozen BKq1.out 2; have hfzq2_3 := blk_frozen BKq1.out 3; have hfzq2_4 := blk_frozen BKq1.out 4; have hfzq2_5 := blk_frozen BKq1.out 5; have hfzq2_6 := blk_frozen BKq1.out 6; have hfzq2_7 := blk_frozen BKq1.out 7; have hczq3_0 : wq2.cell? ⟨gbq0, 0, none⟩ = some (.slice A0_0 l0_0.length c0_0) := (blk_cell BKq0.out 0).trans rfl; have hczq3_1 : wq2.cell? ⟨gbq0, 1, none⟩ = some (.slice A0_1 l0_1.length c0_1) := (blk_cell BKq0.out 1).trans rfl; have hfzq3_0 := blk_frozen BKq0.out 0; have hfzq3_1 := blk_frozen BKq0.out 1) | ((with_reducible refine gate_callee (f := 146) rfl ?_); refine goesL_ (some 28) rfl rfl Try.func146 (by kernel_rfl) rfl #[.agg #[.slice A0_0 l0_0.length c0_0, .slice A0_1 l0_1.length c0_1], .agg #[.int .i64 a1_2, .int .i64 a1_3, .int .i64 a1_4]] rfl (by (try simp only [List.map_toArray, List.map_cons, List.map_nil]); first | done | rfl | (simp only [List.length_drop, List.length_take]; rfl)) ?_; (with_reducible refine (spec_l2Val.calls k _ _ l0_0 _ _ l0_1 a1_2 a1_3 a1_4 false _ ?side1 ?side2 ?side3 ?side4 A10.out).mono ?_); (case side1 => repeat (first | exact (Kd.C_below HR0_0.out HB.out) | (with_reducible refine Kd.C_alloc ?_ _) | (with_reducible refine Kd.C_drewN ?_ _) | (with_reducible refine Kd.C_drew ?_))); (case side2 => exact HC0_0.out); (case side3 => repeat (first | exact (Kd.C_below HR0_1.out HB.out) | (with_reducible refine Kd.C_alloc ?_ _) | (with_reducible refine Kd.C_drewN ?_ _) | (with_reducible refine Kd.C_drew ?_))); (case side4 => exact HC0_1.out); rintro e wq3 ⟨rfl, hb⟩; refine ⟨_, rfl, ?_⟩; have nq0_ := Aside0.mk (blk_below (g := gbq0) (o := .cells #[.slice A0_0 l0_0.length c0_0, .slice A0_1 l0_1.length c0_1] 26 (0, 0)) (by (with_reducible repeat (first | refine blk_drewN ?_ _ | refine blk_drew ?_ | refine blk_alloc ?_ _)); exact BKq0.out) hb); have nq1_ := Aside0.mk (blk_below (g := gbq1) (o := .cells #[.int .i64 a1_0, .int .i64 a1_1, .int .i64 a1_2, .int .i64 a1_3, .int .i64 a1_4, .int .i64 a1_5, .slice A1_6 l1_6.length c1_6, .slice A1_7 l1_7.length c1_7] 59 (0, 0)) (by (with_reducible repeat (first | refine blk_drewN ?_ _ | refine blk_drew ?_ | refine blk_alloc ?_ _)); exact BKq1.out) hb); have nq2_ := Aside0.mk (below_step (by repeat (first | (with_reducible first | exact HB.out | apply below_alloc | apply pw_below_drewN | apply below_drew1 | refine below_set ?_ GEq0.out | refine below_set ?_ GEq1.out) | exact HB.out)) hb); clear BKq0; clear BKq1; clear HB; have BKq0 := nq0_; have BKq1 := nq1_; have HB := nq2_; clear nq0_ nq1_ nq2_; (try clear hb); (try clear hb2); (try clear hk); (try clear hi)))
       go_ret
       exact ⟨by first | rfl | (simp [errW_none, errW_some] <;> rfl) | (simp [*, errW_none, errW_some] <;> rfl), by repeat (first | (with_reducible first | exact HB.out | apply below_alloc | apply pw_below_drewN | apply below_drew1 | refine below_set ?_ GEq0.out | refine below_set ?_ GEq1.out) | exact HB.out)⟩)
    | ((have z_ := tag4_; clear z_)
       go_wp2_with (first | ((with_reducible refine gate_dst (N := 3) rfl ?_); refine box_event ?hg (N := 3) ?hd (cs := #[.slice A0_0 l0_0.length c0_0, .slice A0_1 l0_1.length c0_1]) (t := 26) ?hr ?_; (case hd => rfl); (case hg => rfl); (case hr => first | (go_simp; done) | (go_simp; rfl)); intro gbq0 hg wq0 hbox hb; have nq0_ := Aside0.mk (below_step (by repeat (first | (with_reducible first | exact HB.out | apply below_alloc | apply pw_below_drewN | apply below_drew1) | exact HB.out)) hb); have nq1_ := Aside0.mk (hbox); have nq2_ := Aside0.mk ((by rw [hg]; exact (below_size (by repeat (first | (with_reducible first | exact HB.out | apply below_alloc | apply pw_below_drewN | apply below_drew1) | exact HB.out))) : w.heap.size ≤ gbq0)); have nq3_ := Aside0.mk ((by rw [hg]; exact (below_size (by repeat (first | (with_reducible first | exact HB.out | apply below_alloc | apply pw_below_drewN | apply below_drew1) | exact HB.out))) : w.heap.size ≤ gbq0)); clear HB; have HB := nq0_; have BKq0 := nq1_; have GWq0 := nq2_; have GEq0 := nq3_; clear nq0_ nq1_ nq2_ nq3_; clear hb hbox hg) | ((with_reducible refine gate_dst (N := 4) rfl ?_); refine box_event ?hg (N := 4) ?hd (cs := #[.int .i64 a1_0, .int .i64 a1_1, .int .i64 a1_2, .int .i64 a1_3, .int .i64 a1_4, .int .i64 a1_5, .slice A1_6 l1_6.length c1_6, .slice A1_7 l1_7.length c1_7]) (t := 59) ?hr ?_; (case hd => rfl); (case hg => rfl); (case hr => first | (go_simp; done) | (go_simp; rfl)); intro gbq1 hg wq1 hbox hb; have nq0_ := Aside0.mk (blk_below (g := gbq0) (o := .cells #[.slice A0_0 l0_0.length c0_0, .slice A0_1 l0_1.length c0_1] 26 (0, 0)) (by (with_reducible repeat (first | refine blk_drewN ?_ _ | refine blk_drew ?_ | refine blk_alloc ?_ _)); exact BKq0.out) hb); have nq1_ := Aside0.mk (below_step (by repeat (first | (with_reducible first | exact HB.out | apply below_alloc | apply pw_below_drewN | apply below_drew1 | refine below_set ?_ GEq0.out) | exact HB.out)) hb); have nq2_ := Aside0.mk (hbox); have nq3_ := Aside0.mk ((by rw [hg]; exact (below_size (by repeat (first | (with_reducible first | exact HB.out | apply below_alloc | apply pw_below_drewN | apply below_drew1 | refine below_set ?_ GEq0.out) | exact HB.out))) : w.heap.size ≤ gbq1)); have nq4_ := Aside0.mk ((by rw [hg]; exact (below_size (by repeat (first | (with_reducible first | exact HB.out | apply below_alloc | apply pw_below_drewN | apply below_drew1 | refine below_set ?_ GEq0.out) | exact HB.out))) : w.heap.size ≤ gbq1)); have nq5_ := Aside0.mk ((by rw [hg]; exact Nat.ne_of_lt (blk_lt (g := gbq0) (o := .cells #[.slice A0_0 l0_0.length c0_0, .slice A0_1 l0_1.length c0_1] 26 (0, 0)) (by (with_reducible repeat (first | refine blk_drewN ?_ _ | refine blk_drew ?_ | refine blk_alloc ?_ _)); exact BKq0.out)) : gbq0 ≠ gbq1)); have nq6_ := Aside0.mk ((by rw [hg]; exact Nat.ne_of_gt (blk_lt (g := gbq0) (o := .cells #[.slice A0_0 l0_0.length c0_0, .slice A0_1 l0_1.length c0_1] 26 (0, 0)) (by (with_reducible repeat (first | refine blk_drewN ?_ _ | refine blk_drew ?_ | refine blk_alloc ?_ _)); exact BKq0.out)) : gbq1 ≠ gbq0)); clear BKq0; clear HB; have BKq0 := nq0_; have HB := nq1_; have BKq1 := nq2_; have GWq1 := nq3_; have GEq1 := nq4_; have NBq0_152 := nq5_; have NBq1_151 := nq6_; clear nq0_ nq1_ nq2_ nq3_ nq4_ nq5_ nq6_; clear hb hbox hg; have hnbq0 := NBq0_152.out; have hncq0 := NBq1_151.out; have hczq0_0 : wq1.cell? ⟨gbq0, 0, none⟩ = some (.slice A0_0 l0_0.length c0_0) := (blk_cell BKq0.out 0).trans rfl; have hczq0_1 : wq1.cell? ⟨gbq0, 1, none⟩ = some (.slice A0_1 l0_1.length c0_1) := (blk_cell BKq0.out 1).trans rfl; have hfzq0_0 := blk_frozen BKq0.out 0; have hfzq0_1 := blk_frozen BKq0.out 1; have hczq1_0 : wq1.cell? ⟨gbq1, 0, none⟩ = some (.int .i64 a1_0) := (blk_cell BKq1.out 0).trans rfl; have hczq1_1 : wq1.cell? ⟨gbq1, 1, none⟩ = some (.int .i64 a1_1) := (blk_cell BKq1.out 1).trans rfl; have hczq1_2 : wq1.cell? ⟨gbq1, 2, none⟩ = some (.int .i64 a1_2) := (blk_cell BKq1.out 2).trans rfl; have hczq1_3 : wq1.cell? ⟨gbq1, 3, none⟩ = some (.int .i64 a1_3) := (blk_cell BKq1.out 3).trans rfl; have hczq1_4 : wq1.cell? ⟨gbq1, 4, none⟩ = some (.int .i64 a1_4) := (blk_cell BKq1.out 4).trans rfl; have hczq1_5 : wq1.cell? ⟨gbq1, 5, none⟩ = some (.int .i64 a1_5) := (blk_cell BKq1.out 5).trans rfl; have hczq1_6 : wq1.cell? ⟨gbq1, 6, none⟩ = some (.slice A1_6 l1_6.length c1_6) := (blk_cell BKq1.out 6).trans rfl; have hczq1_7 : wq1.cell? ⟨gbq1, 7, none⟩ = some (.slice A1_7 l1_7.length c1_7) := (blk_cell BKq1.out 7).trans rfl; have hfzq1_0 := blk_frozen BKq1.out 0; have hfzq1_1 := blk_frozen BKq1.out 1; have hfzq1_2 := blk_frozen BKq1.out 2; have hfzq1_3 := blk_frozen BKq1.out 3; have hfzq1_4 := blk_frozen BKq1.out 4; have hfzq1_5 := blk_frozen BKq1.out 5; have hfzq1_6 := blk_frozen BKq1.out 6; have hfzq1_7 := blk_frozen BKq1.out 7) | (go_at_call 145; (with_reducible refine (spec_l2Var.calls _ _ l0_0 _ _ l0_1 a1_1 true _ ?side1 ?side2 ?side3 ?side4 A7.out).mono ?_); (case side1 => repeat (first | exact (Kd.C_below HR0_0.out HB.out) | (with_reducible refine Kd.C_alloc ?_ _) | (with_reducible refine Kd.C_drewN ?_ _) | (with_reducible refine Kd.C_drew ?_))); (case side2 => exact HC0_0.out); (case side3 => repeat (first | exact (Kd.C_below HR0_1.out HB.out) | (with_reducible refine Kd.C_alloc ?_ _) | (with_reducible refine Kd.C_drewN ?_ _) | (with_reducible refine Kd.C_drew ?_))); (case side4 => exact HC0_1.out); rintro e wq2 ⟨rfl, hb⟩; have nq0_ := Aside0.mk (blk_below (g := gbq0) (o := .cells #[.slice A0_0 l0_0.length c0_0, .slice A0_1 l0_1.length c0_1] 26 (0, 0)) (by (with_reducible repeat (first | refine blk_drewN ?_ _ | refine blk_drew ?_ | refine blk_alloc ?_ _)); exact BKq0.out) hb); have nq1_ := Aside0.mk (blk_below (g := gbq1) (o := .cells #[.int .i64 a1_0, .int .i64 a1_1, .int .i64 a1_2, .int .i64 a1_3, .int .i64 a1_4, .int .i64 a1_5, .slice A1_6 l1_6.length c1_6, .slice A1_7 l1_7.length c1_7] 59 (0, 0)) (by (with_reducible repeat (first | refine blk_drewN ?_ _ | refine blk_drew ?_ | refine blk_alloc ?_ _)); exact BKq1.out) hb); have nq2_ := Aside0.mk (below_step (by repeat (first | (with_reducible first | exact HB.out | apply below_alloc | apply pw_below_drewN | apply below_drew1 | refine below_set ?_ GEq0.out | refine below_set ?_ GEq1.out) | exact HB.out)) hb); clear BKq0; clear BKq1; clear HB; have BKq0 := nq0_; have BKq1 := nq1_; have HB := nq2_; clear nq0_ nq1_ nq2_; (try clear hb); (try clear hb2); (try clear hk); (try clear hi); have hczq2_0 : wq2.cell? ⟨gbq1, 0, none⟩ = some (.int .i64 a1_0) := (blk_cell BKq1.out 0).trans rfl; have hczq2_1 : wq2.cell? ⟨gbq1, 1, none⟩ = some (.int .i64 a1_1) := (blk_cell BKq1.out 1).trans rfl; have hczq2_2 : wq2.cell? ⟨gbq1, 2, none⟩ = some (.int .i64 a1_2) := (blk_cell BKq1.out 2).trans rfl; have hczq2_3 : wq2.cell? ⟨gbq1, 3, none⟩ = some (.int .i64 a1_3) := (blk_cell BKq1.out 3).trans rfl; have hczq2_4 : wq2.cell? ⟨gbq1, 4, none⟩ = some (.int .i64 a1_4) := (blk_cell BKq1.out 4).trans rfl; have hczq2_5 : wq2.cell? ⟨gbq1, 5, none⟩ = some (.int .i64 a1_5) := (blk_cell BKq1.out 5).trans rfl; have hczq2_6 : wq2.cell? ⟨gbq1, 6, none⟩ = some (.slice A1_6 l1_6.length c1_6) := (blk_cell BKq1.out 6).trans rfl; have hczq2_7 : wq2.cell? ⟨gbq1, 7, none⟩ = some (.slice A1_7 l1_7.length c1_7) := (blk_cell BKq1.out 7).trans rfl; have hfzq2_0 := blk_frozen BKq1.out 0; have hfzq2_1 := blk_frozen BKq1.out 1; have hfzq2_2 := blk_frozen BKq1.out 2; have hfzq2_3 := blk_frozen BKq1.out 3; have hfzq2_4 := blk_frozen BKq1.out 4; have hfzq2_5 := blk_frozen BKq1.out 5; have hfzq2_6 := blk_frozen BKq1.out 6; have hfzq2_7 := blk_frozen BKq1.out 7) | (go_at_call 100; (with_reducible refine (spec_l6In.calls a1_5 0 2 true _ A44.out).mono ?_); rintro e w' ⟨rfl, ⟨nd, rfl⟩⟩))
       go_ret
       exact ⟨by first | rfl | (simp [errW_none, errW_some] <;> rfl) | (simp [*, errW_none, errW_some] <;> rfl), by repeat (first | (with_reducible first | exact HB.out | apply below_alloc | apply pw_below_drewN | apply below_drew1 | refine below_set ?_ GEq0.out | refine below_set ?_ GEq1.out) | exact HB.out)⟩)
    | ((have z_ := tag5_; clear z_)
       go_wp2_with (first | ((with_reducible refine gate_dst (N := 3) rfl ?_); refine box_event ?hg (N := 3) ?hd (cs := #[.slice A0_0 l0_0.length c0_0, .slice A0_1 l0_1.length c0_1]) (t := 26) ?hr ?_; (case hd => rfl); (case hg => rfl); (case hr => first | (go_simp; done) | (go_simp; rfl)); intro gbq0 hg wq0 hbox hb; have nq0_ := Aside0.mk (below_step (by repeat (first | (with_reducible first | exact HB.out | apply below_alloc | apply pw_below_drewN | apply below_drew1) | exact HB.out)) hb); have nq1_ := Aside0.mk (hbox); have nq2_ := Aside0.mk ((by rw [hg]; exact (below_size (by repeat (first | (with_reducible first | exact HB.out | apply below_alloc | apply pw_below_drewN | apply below_drew1) | exact HB.out))) : w.heap.size ≤ gbq0)); have nq3_ := Aside0.mk ((by rw [hg]; exact (below_size (by repeat (first | (with_reducible first | exact HB.out | apply below_alloc | apply pw_below_drewN | apply below_drew1) | exact HB.out))) : w.heap.size ≤ gbq0)); clear HB; have HB := nq0_; have BKq0 := nq1_; have GWq0 := nq2_; have GEq0 := nq3_; clear nq0_ nq1_ nq2_ nq3_; clear hb hbox hg) | ((with_reducible refine gate_dst (N := 4) rfl ?_); refine box_event ?hg (N := 4) ?hd (cs := #[.int .i64 a1_0, .int .i64 a1_1, .int .i64 a1_2, .int .i64 a1_3, .int .i64 a1_4, .int .i64 a1_5, .slice A1_6 l1_6.length c1_6, .slice A1_7 l1_7.length c1_7]) (t := 59) ?hr ?_; (case hd => rfl); (case hg => rfl); (case hr => first | (go_simp; done) | (go_simp; rfl)); intro gbq1 hg wq1 hbox hb; have nq0_ := Aside0.mk (blk_below (g := gbq0) (o := .cells #[.slice A0_0 l0_0.length c0_0, .slice A0_1 l0_1.length c0_1] 26 (0, 0)) (by (with_reducible repeat (first | refine blk_drewN ?_ _ | refine blk_drew ?_ | refine blk_alloc ?_ _)); exact BKq0.out) hb); have nq1_ := Aside0.mk (below_step (by repeat (first | (with_reducible first | exact HB.out | apply below_alloc | apply pw_below_drewN | apply below_drew1 | refine below_set ?_ GEq0.out) | exact HB.out)) hb); have nq2_ := Aside0.mk (hbox); have nq3_ := Aside0.mk ((by rw [hg]; exact (below_size (by repeat (first | (with_reducible first | exact HB.out | apply below_alloc | apply pw_below_drewN | apply below_drew1 | refine below_set ?_ GEq0.out) | exact HB.out))) : w.heap.size ≤ gbq1)); have nq4_ := Aside0.mk ((by rw [hg]; exact (below_size (by repeat (first | (with_reducible first | exact HB.out | apply below_alloc | apply pw_below_drewN | apply below_drew1 | refine below_set ?_ GEq0.out) | exact HB.out))) : w.heap.size ≤ gbq1)); have nq5_ := Aside0.mk ((by rw [hg]; exact Nat.ne_of_lt (blk_lt (g := gbq0) (o := .cells #[.slice A0_0 l0_0.length c0_0, .slice A0_1 l0_1.length c0_1] 26 (0, 0)) (by (with_reducible repeat (first | refine blk_drewN ?_ _ | refine blk_drew ?_ | refine blk_alloc ?_ _)); exact BKq0.out)) : gbq0 ≠ gbq1)); have nq6_ := Aside0.mk ((by rw [hg]; exact Nat.ne_of_gt (blk_lt (g := gbq0) (o := .cells #[.slice A0_0 l0_0.length c0_0, .slice A0_1 l0_1.length c0_1] 26 (0, 0)) (by (with_reducible repeat (first | refine blk_drewN ?_ _ | refine blk_drew ?_ | refine blk_alloc ?_ _)); exact BKq0.out)) : gbq1 ≠ gbq0)); clear BKq0; clear HB; have BKq0 := nq0_; have HB := nq1_; have BKq1 := nq2_; have GWq1 := nq3_; have GEq1 := nq4_; have NBq0_152 := nq5_; have NBq1_151 := nq6_; clear nq0_ nq1_ nq2_ nq3_ nq4_ nq5_ nq6_; clear hb hbox hg; have hnbq0 := NBq0_152.out; have hncq0 := NBq1_151.out; have hczq0_0 : wq1.cell? ⟨gbq0, 0, none⟩ = some (.slice A0_0 l0_0.length c0_0) := (blk_cell BKq0.out 0).trans rfl; have hczq0_1 : wq1.cell? ⟨gbq0, 1, none⟩ = some (.slice A0_1 l0_1.length c0_1) := (blk_cell BKq0.out 1).trans rfl; have hfzq0_0 := blk_frozen BKq0.out 0; have hfzq0_1 := blk_frozen BKq0.out 1; have hczq1_0 : wq1.cell? ⟨gbq1, 0, none⟩ = some (.int .i64 a1_0) := (blk_cell BKq1.out 0).trans rfl; have hczq1_1 : wq1.cell? ⟨gbq1, 1, none⟩ = some (.int .i64 a1_1) := (blk_cell BKq1.out 1).trans rfl; have hczq1_2 : wq1.cell? ⟨gbq1, 2, none⟩ = some (.int .i64 a1_2) := (blk_cell BKq1.out 2).trans rfl; have hczq1_3 : wq1.cell? ⟨gbq1, 3, none⟩ = some (.int .i64 a1_3) := (blk_cell BKq1.out 3).trans rfl; have hczq1_4 : wq1.cell? ⟨gbq1, 4, none⟩ = some (.int .i64 a1_4) := (blk_cell BKq1.out 4).trans rfl; have hczq1_5 : wq1.cell? ⟨gbq1, 5, none⟩ = some (.int .i64 a1_5) := (blk_cell BKq1.out 5).trans rfl; have hczq1_6 : wq1.cell? ⟨gbq1, 6, none⟩ = some (.slice A1_6 l1_6.length c1_6) := (blk_cell BKq1.out 6).trans rfl; have hczq1_7 : wq1.cell? ⟨gbq1, 7, none⟩ = some (.slice A1_7 l1_7.length c1_7) := (blk_cell BKq1.out 7).trans rfl; have hfzq1_0 := blk_frozen BKq1.out 0; have hfzq1_1 := blk_frozen BKq1.out 1; have hfzq1_2 := blk_frozen BKq1.out 2; have hfzq1_3 := blk_frozen BKq1.out 3; have hfzq1_4 := blk_frozen BKq1.out 4; have hfzq1_5 := blk_frozen BKq1.out 5; have hfzq1_6 := blk_frozen BKq1.out 6; have hfzq1_7 := blk_frozen BKq1.out 7) | (go_at_call 145; (with_reducible refine (spec_l2Var.calls _ _ l0_0 _ _ l0_1 a1_1 true _ ?side1 ?side2 ?side3 ?side4 A7.out).mono ?_); (case side1 => repeat (first | exact (Kd.C_below HR0_0.out HB.out) | (with_reducible refine Kd.C_alloc ?_ _) | (with_reducible refine Kd.C_drewN ?_ _) | (with_reducible refine Kd.C_drew ?_))); (case side2 => exact HC0_0.out); (case side3 => repeat (first | exact (Kd.C_below HR0_1.out HB.out) | (with_reducible refine Kd.C_alloc ?_ _) | (with_reducible refine Kd.C_drewN ?_ _) | (with_reducible refine Kd.C_drew ?_))); (case side4 => exact HC0_1.out); rintro e wq2 ⟨rfl, hb⟩; have nq0_ := Aside0.mk (blk_below (g := gbq0) (o := .cells #[.slice A0_0 l0_0.length c0_0, .slice A0_1 l0_1.length c0_1] 26 (0, 0)) (by (with_reducible repeat (first | refine blk_drewN ?_ _ | refine blk_drew ?_ | refine blk_alloc ?_ _)); exact BKq0.out) hb); have nq1_ := Aside0.mk (blk_below (g := gbq1) (o := .cells #[.int .i64 a1_0, .int .i64 a1_1, .int .i64 a1_2, .int .i64 a1_3, .int .i64 a1_4, .int .i64 a1_5, .slice A1_6 l1_6.length c1_6, .slice A1_7 l1_7.length c1_7] 59 (0, 0)) (by (with_reducible repeat (first | refine blk_drewN ?_ _ | refine blk_drew ?_ | refine blk_alloc ?_ _)); exact BKq1.out) hb); have nq2_ := Aside0.mk (below_step (by repeat (first | (with_reducible first | exact HB.out | apply below_alloc | apply pw_below_drewN | apply below_drew1 | refine below_set ?_ GEq0.out | refine below_set ?_ GEq1.out) | exact HB.out)) hb); clear BKq0; clear BKq1; clear HB; have BKq0 := nq0_; have BKq1 := nq1_; have HB := nq2_; clear nq0_ nq1_ nq2_; (try clear hb); (try clear hb2); (try clear hk); (try clear hi); have hczq2_0 : wq2.cell? ⟨gbq1, 0, none⟩ = some (.int .i64 a1_0) := (blk_cell BKq1.out 0).trans rfl; have hczq2_1 : wq2.cell? ⟨gbq1, 1, none⟩ = some (.int .i64 a1_1) := (blk_cell BKq1.out 1).trans rfl; have hczq2_2 : wq2.cell? ⟨gbq1, 2, none⟩ = some (.int .i64 a1_2) := (blk_cell BKq1.out 2).trans rfl; have hczq2_3 : wq2.cell? ⟨gbq1, 3, none⟩ = some (.int .i64 a1_3) := (blk_cell BKq1.out 3).trans rfl; have hczq2_4 : wq2.cell? ⟨gbq1, 4, none⟩ = some (.int .i64 a1_4) := (blk_cell BKq1.out 4).trans rfl; have hczq2_5 : wq2.cell? ⟨gbq1, 5, none⟩ = some (.int .i64 a1_5) := (blk_cell BKq1.out 5).trans rfl; have hczq2_6 : wq2.cell? ⟨gbq1, 6, none⟩ = some (.slice A1_6 l1_6.length c1_6) := (blk_cell BKq1.out 6).trans rfl; have hczq2_7 : wq2.cell? ⟨gbq1, 7, none⟩ = some (.slice A1_7 l1_7.length c1_7) := (blk_cell BKq1.out 7).trans rfl; have hfzq2_0 := blk_frozen BKq1.out 0; have hfzq2_1 := blk_frozen BKq1.out 1; have hfzq2_2 := blk_frozen BKq1.out 2; have hfzq2_3 := blk_frozen BKq1.out 3; have hfzq2_4 := blk_frozen BKq1.out 4; have hfzq2_5 := blk_frozen BKq1.out 5; have hfzq2_6 := blk_frozen BKq1.out 6; have hfzq2_7 := blk_frozen BKq1.out 7) | (go_at_call 100; (with_reducible refine (spec_l6In.calls a1_5 0 2 false _ A44.out).mono ?_); rintro e w' ⟨rfl, ⟨nd, rfl⟩⟩))
       go_ret
       exact ⟨by first | rfl | (simp [errW_none, errW_some] <;> rfl) | (simp [*, errW_none, errW_some] <;> rfl), by repeat (first | (with_reducible first | exact HB.out | apply below_alloc | apply pw_below_drewN | apply below_drew1 | refine below_set ?_ GEq0.out | refine below_set ?_ GEq1.out) | exact HB.out)⟩)
    | ((first | (have z_ := tag6_; clear z_) | (have z_ := tag9_; clear z_) | (have z_ := tag10_; clear z_) | (have z_ := tag11_; clear z_))
       go_wp2_with (first | ((with_reducible refine gate_dst (N := 3) rfl ?_); refine box_event ?hg (N := 3) ?hd (cs := #[.slice A0_0 l0_0.length c0_0, .slice A0_1 l0_1.length c0_1]) (t := 26) ?hr ?_; (case hd => rfl); (case hg => rfl); (case hr => first | (go_simp; done) | (go_simp; rfl)); intro gbq0 hg wq0 hbox hb; have nq0_ := Aside0.mk (below_step (by repeat (first | (with_reducible first | exact HB.out | apply below_alloc | apply pw_below_drewN | apply below_drew1) | exact HB.out)) hb); have nq1_ := Aside0.mk (hbox); have nq2_ := Aside0.mk ((by rw [hg]; exact (below_size (by repeat (first | (with_reducible first | exact HB.out | apply below_alloc | apply pw_below_drewN | apply below_drew1) | exact HB.out))) : w.heap.size ≤ gbq0)); have nq3_ := Aside0.mk ((by rw [hg]; exact (below_size (by repeat (first | (with_reducible first | exact HB.out | apply below_alloc | apply pw_below_drewN | apply below_drew1) | exact HB.out))) : w.heap.size ≤ gbq0)); clear HB; have HB := nq0_; have BKq0 := nq1_; have GWq0 := nq2_; have GEq0 := nq3_; clear nq0_ nq1_ nq2_ nq3_; clear hb hbox hg) | ((with_reducible refine gate_dst (N := 4) rfl ?_); refine box_event ?hg (N := 4) ?hd (cs := #[.int .i64 a1_0, .int .i64 a1_1, .int .i64 a1_2, .int .i64 a1_3, .int .i64 a1_4, .int .i64 a1_5, .slice A1_6 l1_6.length c1_6, .slice A1_7 l1_7.length c1_7]) (t := 59) ?hr ?_; (case hd => rfl); (case hg => rfl); (case hr => first | (go_simp; done) | (go_simp; rfl)); intro gbq1 hg wq1 hbox hb; have nq0_ := Aside0.mk (blk_below (g := gbq0) (o := .cells #[.slice A0_0 l0_0.length c0_0, .slice A0_1 l0_1.length c0_1] 26 (0, 0)) (by (with_reducible repeat (first | refine blk_drewN ?_ _ | refine blk_drew ?_ | refine blk_alloc ?_ _)); exact BKq0.out) hb); have nq1_ := Aside0.mk (below_step (by repeat (first | (with_reducible first | exact HB.out | apply below_alloc | apply pw_below_drewN | apply below_drew1 | refine below_set ?_ GEq0.out) | exact HB.out)) hb); have nq2_ := Aside0.mk (hbox); have nq3_ := Aside0.mk ((by rw [hg]; exact (below_size (by repeat (first | (with_reducible first | exact HB.out | apply below_alloc | apply pw_below_drewN | apply below_drew1 | refine below_set ?_ GEq0.out) | exact HB.out))) : w.heap.size ≤ gbq1)); have nq4_ := Aside0.mk ((by rw [hg]; exact (below_size (by repeat (first | (with_reducible first | exact HB.out | apply below_alloc | apply pw_below_drewN | apply below_drew1 | refine below_set ?_ GEq0.out) | exact HB.out))) : w.heap.size ≤ gbq1)); have nq5_ := Aside0.mk ((by rw [hg]; exact Nat.ne_of_lt (blk_lt (g := gbq0) (o := .cells #[.slice A0_0 l0_0.length c0_0, .slice A0_1 l0_1.length c0_1] 26 (0, 0)) (by (with_reducible repeat (first | refine blk_drewN ?_ _ | refine blk_drew ?_ | refine blk_alloc ?_ _)); exact BKq0.out)) : gbq0 ≠ gbq1)); have nq6_ := Aside0.mk ((by rw [hg]; exact Nat.ne_of_gt (blk_lt (g := gbq0) (o := .cells #[.slice A0_0 l0_0.length c0_0, .slice A0_1 l0_1.length c0_1] 26 (0, 0)) (by (with_reducible repeat (first | refine blk_drewN ?_ _ | refine blk_drew ?_ | refine blk_alloc ?_ _)); exact BKq0.out)) : gbq1 ≠ gbq0)); clear BKq0; clear HB; have BKq0 := nq0_; have HB := nq1_; have BKq1 := nq2_; have GWq1 := nq3_; have GEq1 := nq4_; have NBq0_152 := nq5_; have NBq1_151 := nq6_; clear nq0_ nq1_ nq2_ nq3_ nq4_ nq5_ nq6_; clear hb hbox hg; have hnbq0 := NBq0_152.out; have hncq0 := NBq1_151.out; have hczq0_0 : wq1.cell? ⟨gbq0, 0, none⟩ = some (.slice A0_0 l0_0.length c0_0) := (blk_cell BKq0.out 0).trans rfl; have hczq0_1 : wq1.cell? ⟨gbq0, 1, none⟩ = some (.slice A0_1 l0_1.length c0_1) := (blk_cell BKq0.out 1).trans rfl; have hfzq0_0 := blk_frozen BKq0.out 0; have hfzq0_1 := blk_frozen BKq0.out 1; have hczq1_0 : wq1.cell? ⟨gbq1, 0, none⟩ = some (.int .i64 a1_0) := (blk_cell BKq1.out 0).trans rfl; have hczq1_1 : wq1.cell? ⟨gbq1, 1, none⟩ = some (.int .i64 a1_1) := (blk_cell BKq1.out 1).trans rfl; have hczq1_2 : wq1.cell? ⟨gbq1, 2, none⟩ = some (.int .i64 a1_2) := (blk_cell BKq1.out 2).trans rfl; have hczq1_3 : wq1.cell? ⟨gbq1, 3, none⟩ = some (.int .i64 a1_3) := (blk_cell BKq1.out 3).trans rfl; have hczq1_4 : wq1.cell? ⟨gbq1, 4, none⟩ = some (.int .i64 a1_4) := (blk_cell BKq1.out 4).trans rfl; have hczq1_5 : wq1.cell? ⟨gbq1, 5, none⟩ = some (.int .i64 a1_5) := (blk_cell BKq1.out 5).trans rfl; have hczq1_6 : wq1.cell? ⟨gbq1, 6, none⟩ = some (.slice A1_6 l1_6.length c1_6) := (blk_cell BKq1.out 6).trans rfl; have hczq1_7 : wq1.cell? ⟨gbq1, 7, none⟩ = some (.slice A1_7 l1_7.length c1_7) := (blk_cell BKq1.out 7).trans rfl; have hfzq1_0 := blk_frozen BKq1.out 0; have hfzq1_1 := blk_frozen BKq1.out 1; have hfzq1_2 := blk_frozen BKq1.out 2; have hfzq1_3 := blk_frozen BKq1.out 3; have hfzq1_4 := blk_frozen BKq1.out 4; have hfzq1_5 := blk_frozen BKq1.out 5; have hfzq1_6 := blk_frozen BKq1.out 6; have hfzq1_7 := blk_frozen BKq1.out 7) | (go_at_call 145; (with_reducible refine (spec_l2Var.calls _ _ l0_0 _ _ l0_1 a1_1 true _ ?side1 ?side2 ?side3 ?side4 A7.out).mono ?_); (case side1 => repeat (first | exact (Kd.C_below HR0_0.out HB.out) | (with_reducible refine Kd.C_alloc ?_ _) | (with_reducible refine Kd.C_drewN ?_ _) | (with_reducible refine Kd.C_drew ?_))); (case side2 => exact HC0_0.out); (case side3 => repeat (first | exact (Kd.C_below HR0_1.out HB.out) | (with_reducible refine Kd.C_alloc ?_ _) | (with_reducible refine Kd.C_drewN ?_ _) | (with_reducible refine Kd.C_drew ?_))); (case side4 => exact HC0_1.out); rintro e wq2 ⟨rfl, hb⟩; have nq0_ := Aside0.mk (blk_below (g := gbq0) (o := .cells #[.slice A0_0 l0_0.length c0_0, .slice A0_1 l0_1.length c0_1] 26 (0, 0)) (by (with_reducible repeat (first | refine blk_drewN ?_ _ | refine blk_drew ?_ | refine blk_alloc ?_ _)); exact BKq0.out) hb); have nq1_ := Aside0.mk (blk_below (g := gbq1) (o := .cells #[.int .i64 a1_0, .int .i64 a1_1, .int .i64 a1_2, .int .i64 a1_3, .int .i64 a1_4, .int .i64 a1_5, .slice A1_6 l1_6.length c1_6, .slice A1_7 l1_7.length c1_7] 59 (0, 0)) (by (with_reducible repeat (first | refine blk_drewN ?_ _ | refine blk_drew ?_ | refine blk_alloc ?_ _)); exact BKq1.out) hb); have nq2_ := Aside0.mk (below_step (by repeat (first | (with_reducible first | exact HB.out | apply below_alloc | apply pw_below_drewN | apply below_drew1 | refine below_set ?_ GEq0.out | refine below_set ?_ GEq1.out) | exact HB.out)) hb); clear BKq0; clear BKq1; clear HB; have BKq0 := nq0_; have BKq1 := nq1_; have HB := nq2_; clear nq0_ nq1_ nq2_; (try clear hb); (try clear hb2); (try clear hk); (try clear hi); have hczq2_0 : wq2.cell? ⟨gbq1, 0, none⟩ = some (.int .i64 a1_0) := (blk_cell BKq1.out 0).trans rfl; have hczq2_1 : wq2.cell? ⟨gbq1, 1, none⟩ = some (.int .i64 a1_1) := (blk_cell BKq1.out 1).trans rfl; have hczq2_2 : wq2.cell? ⟨gbq1, 2, none⟩ = some (.int .i64 a1_2) := (blk_cell BKq1.out 2).trans rfl; have hczq2_3 : wq2.cell? ⟨gbq1, 3, none⟩ = some (.int .i64 a1_3) := (blk_cell BKq1.out 3).trans rfl; have hczq2_4 : wq2.cell? ⟨gbq1, 4, none⟩ = some (.int .i64 a1_4) := (blk_cell BKq1.out 4).trans rfl; have hczq2_5 : wq2.cell? ⟨gbq1, 5, none⟩ = some (.int .i64 a1_5) := (blk_cell BKq1.out 5).trans rfl; have hczq2_6 : wq2.cell? ⟨gbq1, 6, none⟩ = some (.slice A1_6 l1_6.length c1_6) := (blk_cell BKq1.out 6).trans rfl; have hczq2_7 : wq2.cell? ⟨gbq1, 7, none⟩ = some (.slice A1_7 l1_7.length c1_7) := (blk_cell BKq1.out 7).trans rfl; have hfzq2_0 := blk_frozen BKq1.out 0; have hfzq2_1 := blk_frozen BKq1.out 1; have hfzq2_2 := blk_frozen BKq1.out 2; have hfzq2_3 := blk_frozen BKq1.out 3; have hfzq2_4 := blk_frozen BKq1.out 4; have hfzq2_5 := blk_frozen BKq1.out 5; have hfzq2_6 := blk_frozen BKq1.out 6; have hfzq2_7 := blk_frozen BKq1.out 7))
       go_ret
       exact ⟨by first | rfl | (simp [errW_none, errW_some] <;> rfl) | (simp [*, errW_none, errW_some] <;> rfl), by repeat (first | (with_reducible first | exact HB.out | apply below_alloc | apply pw_below_drewN | apply below_drew1 | refine below_set ?_ GEq0.out | refine below_set ?_ GEq1.out) | exact HB.out)⟩)
    | ((have z_ := tag7_; clear z_)
       go_wp2_with (first | ((with_reducible refine gate_dst (N := 3) rfl ?_); refine box_event ?hg (N := 3) ?hd (cs := #[.slice A0_0 l0_0.length c0_0, .slice A0_1 l0_1.length c0_1]) (t := 26) ?hr ?_; (case hd => rfl); (case hg => rfl); (case hr => first | (go_simp; done) | (go_simp; rfl)); intro gbq0 hg wq0 hbox hb; have nq0_ := Aside0.mk (below_step (by repeat (first | (with_reducible first | exact HB.out | apply below_alloc | apply pw_below_drewN | apply below_drew1) | exact HB.out)) hb); have nq1_ := Aside0.mk (hbox); have nq2_ := Aside0.mk ((by rw [hg]; exact (below_size (by repeat (first | (with_reducible first | exact HB.out | apply below_alloc | apply pw_below_drewN | apply below_drew1) | exact HB.out))) : w.heap.size ≤ gbq0)); have nq3_ := Aside0.mk ((by rw [hg]; exact (below_size (by repeat (first | (with_reducible first | exact HB.out | apply below_alloc | apply pw_below_drewN | apply below_drew1) | exact HB.out))) : w.heap.size ≤ gbq0)); clear HB; have HB := nq0_; have BKq0 := nq1_; have GWq0 := nq2_; have GEq0 := nq3_; clear nq0_ nq1_ nq2_ nq3_; clear hb hbox hg) | ((with_reducible refine gate_dst (N := 4) rfl ?_); refine box_event ?hg (N := 4) ?hd (cs := #[.int .i64 a1_0, .int .i64 a1_1, .int .i64 a1_2, .int .i64 a1_3, .int .i64 a1_4, .int .i64 a1_5, .slice A1_6 l1_6.length c1_6, .slice A1_7 l1_7.length c1_7]) (t := 59) ?hr ?_; (case hd => rfl); (case hg => rfl); (case hr => first | (go_simp; done) | (go_simp; rfl)); intro gbq1 hg wq1 hbox hb; have nq0_ := Aside0.mk (blk_below (g := gbq0) (o := .cells #[.slice A0_0 l0_0.length c0_0, .slice A0_1 l0_1.length c0_1] 26 (0, 0)) (by (with_reducible repeat (first | refine blk_drewN ?_ _ | refine blk_drew ?_ | refine blk_alloc ?_ _)); exact BKq0.out) hb); have nq1_ := Aside0.mk (below_step (by repeat (first | (with_reducible first | exact HB.out | apply below_alloc | apply pw_below_drewN | apply below_drew1 | refine below_set ?_ GEq0.out) | exact HB.out)) hb); have nq2_ := Aside0.mk (hbox); have nq3_ := Aside0.mk ((by rw [hg]; exact (below_size (by repeat (first | (with_reducible first | exact HB.out | apply below_alloc | apply pw_below_drewN | apply below_drew1 | refine below_set ?_ GEq0.out) | exact HB.out))) : w.heap.size ≤ gbq1)); have nq4_ := Aside0.mk ((by rw [hg]; exact (below_size (by repeat (first | (with_reducible first | exact HB.out | apply below_alloc | apply pw_below_drewN | apply below_drew1 | refine below_set ?_ GEq0.out) | exact HB.out))) : w.heap.size ≤ gbq1)); have nq5_ := Aside0.mk ((by rw [hg]; exact Nat.ne_of_lt (blk_lt (g := gbq0) (o := .cells #[.slice A0_0 l0_0.length c0_0, .slice A0_1 l0_1.length c0_1] 26 (0, 0)) (by (with_reducible repeat (first | refine blk_drewN ?_ _ | refine blk_drew ?_ | refine blk_alloc ?_ _)); exact BKq0.out)) : gbq0 ≠ gbq1)); have nq6_ := Aside0.mk ((by rw [hg]; exact Nat.ne_of_gt (blk_lt (g := gbq0) (o := .cells #[.slice A0_0 l0_0.length c0_0, .slice A0_1 l0_1.length c0_1] 26 (0, 0)) (by (with_reducible repeat (first | refine blk_drewN ?_ _ | refine blk_drew ?_ | refine blk_alloc ?_ _)); exact BKq0.out)) : gbq1 ≠ gbq0)); clear BKq0; clear HB; have BKq0 := nq0_; have HB := nq1_; have BKq1 := nq2_; have GWq1 := nq3_; have GEq1 := nq4_; have NBq0_152 := nq5_; have NBq1_151 := nq6_; clear nq0_ nq1_ nq2_ nq3_ nq4_ nq5_ nq6_; clear hb hbox hg; have hnbq0 := NBq0_152.out; have hncq0 := NBq1_151.out; have hczq0_0 : wq1.cell? ⟨gbq0, 0, none⟩ = some (.slice A0_0 l0_0.length c0_0) := (blk_cell BKq0.out 0).trans rfl; have hczq0_1 : wq1.cell? ⟨gbq0, 1, none⟩ = some (.slice A0_1 l0_1.length c0_1) := (blk_cell BKq0.out 1).trans rfl; have hfzq0_0 := blk_frozen BKq0.out 0; have hfzq0_1 := blk_frozen BKq0.out 1; have hczq1_0 : wq1.cell? ⟨gbq1, 0, none⟩ = some (.int .i64 a1_0) := (blk_cell BKq1.out 0).trans rfl; have hczq1_1 : wq1.cell? ⟨gbq1, 1, none⟩ = some (.int .i64 a1_1) := (blk_cell BKq1.out 1).trans rfl; have hczq1_2 : wq1.cell? ⟨gbq1, 2, none⟩ = some (.int .i64 a1_2) := (blk_cell BKq1.out 2).trans rfl; have hczq1_3 : wq1.cell? ⟨gbq1, 3, none⟩ = some (.int .i64 a1_3) := (blk_cell BKq1.out 3).trans rfl; have hczq1_4 : wq1.cell? ⟨gbq1, 4, none⟩ = some (.int .i64 a1_4) := (blk_cell BKq1.out 4).trans rfl; have hczq1_5 : wq1.cell? ⟨gbq1, 5, none⟩ = some (.int .i64 a1_5) := (blk_cell BKq1.out 5).trans rfl; have hczq1_6 : wq1.cell? ⟨gbq1, 6, none⟩ = some (.slice A1_6 l1_6.length c1_6) := (blk_cell BKq1.out 6).trans rfl; have hczq1_7 : wq1.cell? ⟨gbq1, 7, none⟩ = some (.slice A1_7 l1_7.length c1_7) := (blk_cell BKq1.out 7).trans rfl; have hfzq1_0 := blk_frozen BKq1.out 0; have hfzq1_1 := blk_frozen BKq1.out 1; have hfzq1_2 := blk_frozen BKq1.out 2; have hfzq1_3 := blk_frozen BKq1.out 3; have hfzq1_4 := blk_frozen BKq1.out 4; have hfzq1_5 := blk_frozen BKq1.out 5; have hfzq1_6 := blk_frozen BKq1.out 6; have hfzq1_7 := blk_frozen BKq1.out 7) | (go_at_call 145; (with_reducible refine (spec_l2Var.calls _ _ l0_0 _ _ l0_1 a1_1 true _ ?side1 ?side2 ?side3 ?side4 A7.out).mono ?_); (case side1 => repeat (first | exact (Kd.C_below HR0_0.out HB.out) | (with_reducible refine Kd.C_alloc ?_ _) | (with_reducible refine Kd.C_drewN ?_ _) | (with_reducible refine Kd.C_drew ?_))); (case side2 => exact HC0_0.out); (case side3 => repeat (first | exact (Kd.C_below HR0_1.out HB.out) | (with_reducible refine Kd.C_alloc ?_ _) | (with_reducible refine Kd.C_drewN ?_ _) | (with_reducible refine Kd.C_drew ?_))); (case side4 => exact HC0_1.out); rintro e wq2 ⟨rfl, hb⟩; have nq0_ := Aside0.mk (blk_below (g := gbq0) (o := .cells #[.slice A0_0 l0_0.length c0_0, .slice A0_1 l0_1.length c0_1] 26 (0, 0)) (by (with_reducible repeat (first | refine blk_drewN ?_ _ | refine blk_drew ?_ | refine blk_alloc ?_ _)); exact BKq0.out) hb); have nq1_ := Aside0.mk (blk_below (g := gbq1) (o := .cells #[.int .i64 a1_0, .int .i64 a1_1, .int .i64 a1_2, .int .i64 a1_3, .int .i64 a1_4, .int .i64 a1_5, .slice A1_6 l1_6.length c1_6, .slice A1_7 l1_7.length c1_7] 59 (0, 0)) (by (with_reducible repeat (first | refine blk_drewN ?_ _ | refine blk_drew ?_ | refine blk_alloc ?_ _)); exact BKq1.out) hb); have nq2_ := Aside0.mk (below_step (by repeat (first | (with_reducible first | exact HB.out | apply below_alloc | apply pw_below_drewN | apply below_drew1 | refine below_set ?_ GEq0.out | refine below_set ?_ GEq1.out) | exact HB.out)) hb); clear BKq0; clear BKq1; clear HB; have BKq0 := nq0_; have BKq1 := nq1_; have HB := nq2_; clear nq0_ nq1_ nq2_; (try clear hb); (try clear hb2); (try clear hk); (try clear hi); have hczq2_0 : wq2.cell? ⟨gbq1, 0, none⟩ = some (.int .i64 a1_0) := (blk_cell BKq1.out 0).trans rfl; have hczq2_1 : wq2.cell? ⟨gbq1, 1, none⟩ = some (.int .i64 a1_1) := (blk_cell BKq1.out 1).trans rfl; have hczq2_2 : wq2.cell? ⟨gbq1, 2, none⟩ = some (.int .i64 a1_2) := (blk_cell BKq1.out 2).trans rfl; have hczq2_3 : wq2.cell? ⟨gbq1, 3, none⟩ = some (.int .i64 a1_3) := (blk_cell BKq1.out 3).trans rfl; have hczq2_4 : wq2.cell? ⟨gbq1, 4, none⟩ = some (.int .i64 a1_4) := (blk_cell BKq1.out 4).trans rfl; have hczq2_5 : wq2.cell? ⟨gbq1, 5, none⟩ = some (.int .i64 a1_5) := (blk_cell BKq1.out 5).trans rfl; have hczq2_6 : wq2.cell? ⟨gbq1, 6, none⟩ = some (.slice A1_6 l1_6.length c1_6) := (blk_cell BKq1.out 6).trans rfl; have hczq2_7 : wq2.cell? ⟨gbq1, 7, none⟩ = some (.slice A1_7 l1_7.length c1_7) := (blk_cell BKq1.out 7).trans rfl; have hfzq2_0 := blk_frozen BKq1.out 0; have hfzq2_1 := blk_frozen BKq1.out 1; have hfzq2_2 := blk_frozen BKq1.out 2; have hfzq2_3 := blk_frozen BKq1.out 3; have hfzq2_4 := blk_frozen BKq1.out 4; have hfzq2_5 := blk_frozen BKq1.out 5; have hfzq2_6 := blk_frozen BKq1.out 6; have hfzq2_7 := blk_frozen BKq1.out 7; have hczq3_0 : wq2.cell? ⟨gbq0, 0, none⟩ = some (.slice A0_0 l0_0.length c0_0) := (blk_cell BKq0.out 0).trans rfl; have hczq3_1 : wq2.cell? ⟨gbq0, 1, none⟩ = some (.slice A0_1 l0_1.length c0_1) := (blk_cell BKq0.out 1).trans rfl; have hfzq3_0 := blk_frozen BKq0.out 0; have hfzq3_1 := blk_frozen BKq0.out 1) | (go_at_call 93; (with_reducible refine (ihB _ _ l0_0 _ _ l0_1 _ _ l1_6 (wrap64 (a2 - 1)) true _ ?side1 ?side2 ?side3 ?side4 ?side5 ?side6 A70.out).mono ?_); (case side1 => repeat (first | exact (Kd.C_below HR0_0.out HB.out) | (with_reducible refine Kd.C_alloc ?_ _) | (with_reducible refine Kd.C_drewN ?_ _) | (with_reducible refine Kd.C_drew ?_))); (case side2 => exact HC0_0.out); (case side3 => repeat (first | exact (Kd.C_below HR0_1.out HB.out) | (with_reducible refine Kd.C_alloc ?_ _) | (with_reducible refine Kd.C_drewN ?_ _) | (with_reducible refine Kd.C_drew ?_))); (case side4 => exact HC0_1.out); (case side5 => repeat (first | exact (Kd.C_below HR1_6.out HB.out) | (with_reducible refine Kd.C_alloc ?_ _) | (with_reducible refine Kd.C_drewN ?_ _) | (with_reducible refine Kd.C_drew ?_))); (case side6 => exact HC1_6.out); rintro e wq3 ⟨rfl, hb⟩; have nq0_ := Aside0.mk (blk_below (g := gbq0) (o := .cells #[.slice A0_0 l0_0.length c0_0, .slice A0_1 l0_1.length c0_1] 26 (0, 0)) (by (with_reducible repeat (first | refine blk_drewN ?_ _ | refine blk_drew ?_ | refine blk_alloc ?_ _)); exact BKq0.out) hb); have nq1_ := Aside0.mk (blk_below (g := gbq1) (o := .cells #[.int .i64 a1_0, .int .i64 a1_1, .int .i64 a1_2, .int .i64 a1_3, .int .i64 a1_4, .int .i64 a1_5, .slice A1_6 l1_6.length c1_6, .slice A1_7 l1_7.length c1_7] 59 (0, 0)) (by (with_reducible repeat (first | refine blk_drewN ?_ _ | refine blk_drew ?_ | refine blk_alloc ?_ _)); exact BKq1.out) hb); have nq2_ := Aside0.mk (below_step (by repeat (first | (with_reducible first | exact HB.out | apply below_alloc | apply pw_below_drewN | apply below_drew1 | refine below_set ?_ GEq0.out | refine below_set ?_ GEq1.out) | exact HB.out)) hb); clear BKq0; clear BKq1; clear HB; have BKq0 := nq0_; have BKq1 := nq1_; have HB := nq2_; clear nq0_ nq1_ nq2_; (try clear hb); (try clear hb2); (try clear hk); (try clear hi); have hczq4_0 : wq3.cell? ⟨gbq0, 0, none⟩ = some (.slice A0_0 l0_0.length c0_0) := (blk_cell BKq0.out 0).trans rfl; have hczq4_1 : wq3.cell? ⟨gbq0, 1, none⟩ = some (.slice A0_1 l0_1.length c0_1) := (blk_cell BKq0.out 1).trans rfl; have hfzq4_0 := blk_frozen BKq0.out 0; have hfzq4_1 := blk_frozen BKq0.out 1; have hczq5_0 : wq3.cell? ⟨gbq1, 0, none⟩ = some (.int .i64 a1_0) := (blk_cell BKq1.out 0).trans rfl; have hczq5_1 : wq3.cell? ⟨gbq1, 1, none⟩ = some (.int .i64 a1_1) := (blk_cell BKq1.out 1).trans rfl; have hczq5_2 : wq3.cell? ⟨gbq1, 2, none⟩ = some (.int .i64 a1_2) := (blk_cell BKq1.out 2).trans rfl; have hczq5_3 : wq3.cell? ⟨gbq1, 3, none⟩ = some (.int .i64 a1_3) := (blk_cell BKq1.out 3).trans rfl; have hczq5_4 : wq3.cell? ⟨gbq1, 4, none⟩ = some (.int .i64 a1_4) := (blk_cell BKq1.out 4).trans rfl; have hczq5_5 : wq3.cell? ⟨gbq1, 5, none⟩ = some (.int .i64 a1_5) := (blk_cell BKq1.out 5).trans rfl; have hczq5_6 : wq3.cell? ⟨gbq1, 6, none⟩ = some (.slice A1_6 l1_6.length c1_6) := (blk_cell BKq1.out 6).trans rfl; have hczq5_7 : wq3.cell? ⟨gbq1, 7, none⟩ = some (.slice A1_7 l1_7.length c1_7) := (blk_cell BKq1.out 7).trans rfl; have hfzq5_0 := blk_frozen BKq1.out 0; have hfzq5_1 := blk_frozen BKq1.out 1; have hfzq5_2 := blk_frozen BKq1.out 2; have hfzq5_3 := blk_frozen BKq1.out 3; have hfzq5_4 := blk_frozen BKq1.out 4; have hfzq5_5 := blk_frozen BKq1.out 5; have hfzq5_6 := blk_frozen BKq1.out 6; have hfzq5_7 := blk_frozen BKq1.out 7) | (go_at_call 93; (with_reducible refine (ihB _ _ l0_0 _ _ l0_1 _ _ l1_7 (wrap64 (a2 - 1)) t157 _ ?side1 ?side2 ?side3 ?side4 ?side5 ?side6 A72.out).mono ?_); (case side1 => repeat (first | exact (Kd.C_below HR0_0.out HB.out) | (with_reducible refine Kd.C_alloc ?_ _) | (with_reducible refine Kd.C_drewN ?_ _) | (with_reducible refine Kd.C_drew ?_))); (case side2 => exact HC0_0.out); (case side3 => repeat (first | exact (Kd.C_below HR0_1.out HB.out) | (with_reducible refine Kd.C_alloc ?_ _) | (with_reducible refine Kd.C_drewN ?_ _) | (with_reducible refine Kd.C_drew ?_))); (case side4 => exact HC0_1.out); (case side5 => repeat (first | exact (Kd.C_below HR1_7.out HB.out) | (with_reducible refine Kd.C_alloc ?_ _) | (with_reducible refine Kd.C_drewN ?_ _) | (with_reducible refine Kd.C_drew ?_))); (case side6 => exact HC1_7.out); rintro e wq4 ⟨rfl, hb⟩; have nq0_ := Aside0.mk (blk_below (g := gbq0) (o := .cells #[.slice A0_0 l0_0.length c0_0, .slice A0_1 l0_1.length c0_1] 26 (0, 0)) (by (with_reducible repeat (first | refine blk_drewN ?_ _ | refine blk_drew ?_ | refine blk_alloc ?_ _)); exact BKq0.out) hb); have nq1_ := Aside0.mk (blk_below (g := gbq1) (o := .cells #[.int .i64 a1_0, .int .i64 a1_1, .int .i64 a1_2, .int .i64 a1_3, .int .i64 a1_4, .int .i64 a1_5, .slice A1_6 l1_6.length c1_6, .slice A1_7 l1_7.length c1_7] 59 (0, 0)) (by (with_reducible repeat (first | refine blk_drewN ?_ _ | refine blk_drew ?_ | refine blk_alloc ?_ _)); exact BKq1.out) hb); have nq2_ := Aside0.mk (below_step (by repeat (first | (with_reducible first | exact HB.out | apply below_alloc | apply pw_below_drewN | apply below_drew1 | refine below_set ?_ GEq0.out | refine below_set ?_ GEq1.out) | exact HB.out)) hb); clear BKq0; clear BKq1; clear HB; have BKq0 := nq0_; have BKq1 := nq1_; have HB := nq2_; clear nq0_ nq1_ nq2_; (try clear hb); (try clear hb2); (try clear hk); (try clear hi)))
       go_ret
       exact ⟨by first | rfl | (simp [errW_none, errW_some] <;> rfl) | (simp [*, errW_none, errW_some] <;> rfl), by repeat (first | (with_reducible first | exact HB.out | apply below_alloc | apply pw_below_drewN | apply below_drew1 | refine below_set ?_ GEq0.out | refine below_set ?_ GEq1.out) | exact HB.out)⟩)
    | ((have z_ := tag8_; clear z_)
       go_wp2_with (first | ((with_reducible refine gate_dst (N := 3) rfl ?_); refine box_event ?hg (N := 3) ?hd (cs := #[.slice A0_0 l0_0.length c0_0, .slice A0_1 l0_1.length c0_1]) (t := 26) ?hr ?_; (case hd => rfl); (case hg => rfl); (case hr => first | (go_simp; done) | (go_simp; rfl)); intro gbq0 hg wq0 hbox hb; have nq0_ := Aside0.mk (below_step (by repeat (first | (with_reducible first | exact HB.out | apply below_alloc | apply pw_below_drewN | apply below_drew1) | exact HB.out)) hb); have nq1_ := Aside0.mk (hbox); have nq2_ := Aside0.mk ((by rw [hg]; exact (below_size (by repeat (first | (with_reducible first | exact HB.out | apply below_alloc | apply pw_below_drewN | apply below_drew1) | exact HB.out))) : w.heap.size ≤ gbq0)); have nq3_ := Aside0.mk ((by rw [hg]; exact (below_size (by repeat (first | (with_reducible first | exact HB.out | apply below_alloc | apply pw_below_drewN | apply below_drew1) | exact HB.out))) : w.heap.size ≤ gbq0)); clear HB; have HB := nq0_; have BKq0 := nq1_; have GWq0 := nq2_; have GEq0 := nq3_; clear nq0_ nq1_ nq2_ nq3_; clear hb hbox hg) | ((with_reducible refine gate_dst (N := 4) rfl ?_); refine box_event ?hg (N := 4) ?hd (cs := #[.int .i64 a1_0, .int .i64 a1_1, .int .i64 a1_2, .int .i64 a1_3, .int .i64 a1_4, .int .i64 a1_5, .slice A1_6 l1_6.length c1_6, .slice A1_7 l1_7.length c1_7]) (t := 59) ?hr ?_; (case hd => rfl); (case hg => rfl); (case hr => first | (go_simp; done) | (go_simp; rfl)); intro gbq1 hg wq1 hbox hb; have nq0_ := Aside0.mk (blk_below (g := gbq0) (o := .cells #[.slice A0_0 l0_0.length c0_0, .slice A0_1 l0_1.length c0_1] 26 (0, 0)) (by (with_reducible repeat (first | refine blk_drewN ?_ _ | refine blk_drew ?_ | refine blk_alloc ?_ _)); exact BKq0.out) hb); have nq1_ := Aside0.mk (below_step (by repeat (first | (with_reducible first | exact HB.out | apply below_alloc | apply pw_below_drewN | apply below_drew1 | refine below_set ?_ GEq0.out) | exact HB.out)) hb); have nq2_ := Aside0.mk (hbox); have nq3_ := Aside0.mk ((by rw [hg]; exact (below_size (by repeat (first | (with_reducible first | exact HB.out | apply below_alloc | apply pw_below_drewN | apply below_drew1 | refine below_set ?_ GEq0.out) | exact HB.out))) : w.heap.size ≤ gbq1)); have nq4_ := Aside0.mk ((by rw [hg]; exact (below_size (by repeat (first | (with_reducible first | exact HB.out | apply below_alloc | apply pw_below_drewN | apply below_drew1 | refine below_set ?_ GEq0.out) | exact HB.out))) : w.heap.size ≤ gbq1)); have nq5_ := Aside0.mk ((by rw [hg]; exact Nat.ne_of_lt (blk_lt (g := gbq0) (o := .cells #[.slice A0_0 l0_0.length c0_0, .slice A0_1 l0_1.length c0_1] 26 (0, 0)) (by (with_reducible repeat (first | refine blk_drewN ?_ _ | refine blk_drew ?_ | refine blk_alloc ?_ _)); exact BKq0.out)) : gbq0 ≠ gbq1)); have nq6_ := Aside0.mk ((by rw [hg]; exact Nat.ne_of_gt (blk_lt (g := gbq0) (o := .cells #[.slice A0_0 l0_0.length c0_0, .slice A0_1 l0_1.length c0_1] 26 (0, 0)) (by (with_reducible repeat (first | refine blk_drewN ?_ _ | refine blk_drew ?_ | refine blk_alloc ?_ _)); exact BKq0.out)) : gbq1 ≠ gbq0)); clear BKq0; clear HB; have BKq0 := nq0_; have HB := nq1_; have BKq1 := nq2_; have GWq1 := nq3_; have GEq1 := nq4_; have NBq0_152 := nq5_; have NBq1_151 := nq6_; clear nq0_ nq1_ nq2_ nq3_ nq4_ nq5_ nq6_; clear hb hbox hg; have hnbq0 := NBq0_152.out; have hncq0 := NBq1_151.out; have hczq0_0 : wq1.cell? ⟨gbq0, 0, none⟩ = some (.slice A0_0 l0_0.length c0_0) := (blk_cell BKq0.out 0).trans rfl; have hczq0_1 : wq1.cell? ⟨gbq0, 1, none⟩ = some (.slice A0_1 l0_1.length c0_1) := (blk_cell BKq0.out 1).trans rfl; have hfzq0_0 := blk_frozen BKq0.out 0; have hfzq0_1 := blk_frozen BKq0.out 1; have hczq1_0 : wq1.cell? ⟨gbq1, 0, none⟩ = some (.int .i64 a1_0) := (blk_cell BKq1.out 0).trans rfl; have hczq1_1 : wq1.cell? ⟨gbq1, 1, none⟩ = some (.int .i64 a1_1) := (blk_cell BKq1.out 1).trans rfl; have hczq1_2 : wq1.cell? ⟨gbq1, 2, none⟩ = some (.int .i64 a1_2) := (blk_cell BKq1.out 2).trans rfl; have hczq1_3 : wq1.cell? ⟨gbq1, 3, none⟩ = some (.int .i64 a1_3) := (blk_cell BKq1.out 3).trans rfl; have hczq1_4 : wq1.cell? ⟨gbq1, 4, none⟩ = some (.int .i64 a1_4) := (blk_cell BKq1.out 4).trans rfl; have hczq1_5 : wq1.cell? ⟨gbq1, 5, none⟩ = some (.int .i64 a1_5) := (blk_cell BKq1.out 5).trans rfl; have hczq1_6 : wq1.cell? ⟨gbq1, 6, none⟩ = some (.slice A1_6 l1_6.length c1_6) := (blk_cell BKq1.out 6).trans rfl; have hczq1_7 : wq1.cell? ⟨gbq1, 7, none⟩ = some (.slice A1_7 l1_7.length c1_7) := (blk_cell BKq1.out 7).trans rfl; have hfzq1_0 := blk_frozen BKq1.out 0; have hfzq1_1 := blk_frozen BKq1.out 1; have hfzq1_2 := blk_frozen BKq1.out 2; have hfzq1_3 := blk_frozen BKq1.out 3; have hfzq1_4 := blk_frozen BKq1.out 4; have hfzq1_5 := blk_frozen BKq1.out 5; have hfzq1_6 := blk_frozen BKq1.out 6; have hfzq1_7 := blk_frozen BKq1.out 7) | (go_at_call 145; (with_reducible refine (spec_l2Var.calls _ _ l0_0 _ _ l0_1 a1_1 true _ ?side1 ?side2 ?side3 ?side4 A7.out).mono ?_); (case side1 => repeat (first | exact (Kd.C_below HR0_0.out HB.out) | (with_reducible refine Kd.C_alloc ?_ _) | (with_reducible refine Kd.C_drewN ?_ _) | (with_reducible refine Kd.C_drew ?_))); (case side2 => exact HC0_0.out); (case side3 => repeat (first | exact (Kd.C_below HR0_1.out HB.out) | (with_reducible refine Kd.C_alloc ?_ _) | (with_reducible refine Kd.C_drewN ?_ _) | (with_reducible refine Kd.C_drew ?_))); (case side4 => exact HC0_1.out); rintro e wq2 ⟨rfl, hb⟩; have nq0_ := Aside0.mk (blk_below (g := gbq0) (o := .cells #[.slice A0_0 l0_0.length c0_0, .slice A0_1 l0_1.length c0_1] 26 (0, 0)) (by (with_reducible repeat (first | refine blk_drewN ?_ _ | refine blk_drew ?_ | refine blk_alloc ?_ _)); exact BKq0.out) hb); have nq1_ := Aside0.mk (blk_below (g := gbq1) (o := .cells #[.int .i64 a1_0, .int .i64 a1_1, .int .i64 a1_2, .int .i64 a1_3, .int .i64 a1_4, .int .i64 a1_5, .slice A1_6 l1_6.length c1_6, .slice A1_7 l1_7.length c1_7] 59 (0, 0)) (by (with_reducible repeat (first | refine blk_drewN ?_ _ | refine blk_drew ?_ | refine blk_alloc ?_ _)); exact BKq1.out) hb); have nq2_ := Aside0.mk (below_step (by repeat (first | (with_reducible first | exact HB.out | apply below_alloc | apply pw_below_drewN | apply below_drew1 | refine below_set ?_ GEq0.out | refine below_set ?_ GEq1.out) | exact HB.out)) hb); clear BKq0; clear BKq1; clear HB; have BKq0 := nq0_; have BKq1 := nq1_; have HB := nq2_; clear nq0_ nq1_ nq2_; (try clear hb); (try clear hb2); (try clear hk); (try clear hi); have hczq2_0 : wq2.cell? ⟨gbq1, 0, none⟩ = some (.int .i64 a1_0) := (blk_cell BKq1.out 0).trans rfl; have hczq2_1 : wq2.cell? ⟨gbq1, 1, none⟩ = some (.int .i64 a1_1) := (blk_cell BKq1.out 1).trans rfl; have hczq2_2 : wq2.cell? ⟨gbq1, 2, none⟩ = some (.int .i64 a1_2) := (blk_cell BKq1.out 2).trans rfl; have hczq2_3 : wq2.cell? ⟨gbq1, 3, none⟩ = some (.int .i64 a1_3) := (blk_cell BKq1.out 3).trans rfl; have hczq2_4 : wq2.cell? ⟨gbq1, 4, none⟩ = some (.int .i64 a1_4) := (blk_cell BKq1.out 4).trans rfl; have hczq2_5 : wq2.cell? ⟨gbq1, 5, none⟩ = some (.int .i64 a1_5) := (blk_cell BKq1.out 5).trans rfl; have hczq2_6 : wq2.cell? ⟨gbq1, 6, none⟩ = some (.slice A1_6 l1_6.length c1_6) := (blk_cell BKq1.out 6).trans rfl; have hczq2_7 : wq2.cell? ⟨gbq1, 7, none⟩ = some (.slice A1_7 l1_7.length c1_7) := (blk_cell BKq1.out 7).trans rfl; have hfzq2_0 := blk_frozen BKq1.out 0; have hfzq2_1 := blk_frozen BKq1.out 1; have hfzq2_2 := blk_frozen BKq1.out 2; have hfzq2_3 := blk_frozen BKq1.out 3; have hfzq2_4 := blk_frozen BKq1.out 4; have hfzq2_5 := blk_frozen BKq1.out 5; have hfzq2_6 := blk_frozen BKq1.out 6; have hfzq2_7 := blk_frozen BKq1.out 7; have hczq3_0 : wq2.cell? ⟨gbq0, 0, none⟩ = some (.slice A0_0 l0_0.length c0_0) := (blk_cell BKq0.out 0).trans rfl; have hczq3_1 : wq2.cell? ⟨gbq0, 1, none⟩ = some (.slice A0_1 l0_1.length c0_1) := (blk_cell BKq0.out 1).trans rfl; have hfzq3_0 := blk_frozen BKq0.out 0; have hfzq3_1 := blk_frozen BKq0.out 1) | (go_at_call 93; (with_reducible refine (ihB _ _ l0_0 _ _ l0_1 _ _ l1_6 (wrap64 (a2 - 1)) false _ ?side1 ?side2 ?side3 ?side4 ?side5 ?side6 A70.out).mono ?_); (case side1 => repeat (first | exact (Kd.C_below HR0_0.out HB.out) | (with_reducible refine Kd.C_alloc ?_ _) | (with_reducible refine Kd.C_drewN ?_ _) | (with_reducible refine Kd.C_drew ?_))); (case side2 => exact HC0_0.out); (case side3 => repeat (first | exact (Kd.C_below HR0_1.out HB.out) | (with_reducible refine Kd.C_alloc ?_ _) | (with_reducible refine Kd.C_drewN ?_ _) | (with_reducible refine Kd.C_drew ?_))); (case side4 => exact HC0_1.out); (case side5 => repeat (first | exact (Kd.C_below HR1_6.out HB.out) | (with_reducible refine Kd.C_alloc ?_ _) | (with_reducible refine Kd.C_drewN ?_ _) | (with_reducible refine Kd.C_drew ?_))); (case side6 => exact HC1_6.out); rintro e wq3 ⟨rfl, hb⟩; have nq0_ := Aside0.mk (blk_below (g := gbq0) (o := .cells #[.slice A0_0 l0_0.length c0_0, .slice A0_1 l0_1.length c0_1] 26 (0, 0)) (by (with_reducible repeat (first | refine blk_drewN ?_ _ | refine blk_drew ?_ | refine blk_alloc ?_ _)); exact BKq0.out) hb); have nq1_ := Aside0.mk (blk_below (g := gbq1) (o := .cells #[.int .i64 a1_0, .int .i64 a1_1, .int .i64 a1_2, .int .i64 a1_3, .int .i64 a1_4, .int .i64 a1_5, .slice A1_6 l1_6.length c1_6, .slice A1_7 l1_7.length c1_7] 59 (0, 0)) (by (with_reducible repeat (first | refine blk_drewN ?_ _ | refine blk_drew ?_ | refine blk_alloc ?_ _)); exact BKq1.out) hb); have nq2_ := Aside0.mk (below_step (by repeat (first | (with_reducible first | exact HB.out | apply below_alloc | apply pw_below_drewN | apply below_drew1 | refine below_set ?_ GEq0.out | refine below_set ?_ GEq1.out) | exact HB.out)) hb); clear BKq0; clear BKq1; clear HB; have BKq0 := nq0_; have BKq1 := nq1_; have HB := nq2_; clear nq0_ nq1_ nq2_; (try clear hb); (try clear hb2); (try clear hk); (try clear hi)))
       go_ret
       exact ⟨by first | rfl | (simp [errW_none, errW_some] <;> rfl) | (simp [*, errW_none, errW_some] <;> rfl), by repeat (first | (with_reducible first | exact HB.out | apply below_alloc | apply pw_below_drewN | apply below_drew1 | refine below_set ?_ GEq0.out | refine below_set ?_ GEq1.out) | exact HB.out)⟩)
    | ((have z_ := tag12_; clear z_)
       go_wp2_with (first | ((with_reducible refine gate_dst (N := 3) rfl ?_); refine box_event ?hg (N := 3) ?hd (cs := #[.slice A0_0 l0_0.length c0_0, .slice A0_1 l0_1.length c0_1]) (t := 26) ?hr ?_; (case hd => rfl); (case hg => rfl); (case hr => first | (go_simp; done) | (go_simp; rfl)); intro gbq0 hg wq0 hbox hb; have nq0_ := Aside0.mk (below_step (by repeat (first | (with_reducible first | exact HB.out | apply below_alloc | apply pw_below_drewN | apply below_drew1) | exact HB.out)) hb); have nq1_ := Aside0.mk (hbox); have nq2_ := Aside0.mk ((by rw [hg]; exact (below_size (by repeat (first | (with_reducible first | exact HB.out | apply below_alloc | apply pw_below_drewN | apply below_drew1) | exact HB.out))) : w.heap.size ≤ gbq0)); have nq3_ := Aside0.mk ((by rw [hg]; exact (below_size (by repeat (first | (with_reducible first | exact HB.out | apply below_alloc | apply pw_below_drewN | apply below_drew1) | exact HB.out))) : w.heap.size ≤ gbq0)); clear HB; have HB := nq0_; have BKq0 := nq1_; have GWq0 := nq2_; have GEq0 := nq3_; clear nq0_ nq1_ nq2_ nq3_; clear hb hbox hg) | ((with_reducible refine gate_dst (N := 4) rfl ?_); refine box_event ?hg (N := 4) ?hd (cs := #[.int .i64 a1_0, .int .i64 a1_1, .int .i64 a1_2, .int .i64 a1_3, .int .i64 a1_4, .int .i64 a1_5, .slice A1_6 l1_6.length c1_6, .slice A1_7 l1_7.length c1_7]) (t := 59) ?hr ?_; (case hd => rfl); (case hg => rfl); (case hr => first | (go_simp; done) | (go_simp; rfl)); intro gbq1 hg wq1 hbox hb; have nq0_ := Aside0.mk (blk_below (g := gbq0) (o := .cells #[.slice A0_0 l0_0.length c0_0, .slice A0_1 l0_1.length c0_1] 26 (0, 0)) (by (with_reducible repeat (first | refine blk_drewN ?_ _ | refine blk_drew ?_ | refine blk_alloc ?_ _)); exact BKq0.out) hb); have nq1_ := Aside0.mk (below_step (by repeat (first | (with_reducible first | exact HB.out | apply below_alloc | apply pw_below_drewN | apply below_drew1 | refine below_set ?_ GEq0.out) | exact HB.out)) hb); have nq2_ := Aside0.mk (hbox); have nq3_ := Aside0.mk ((by rw [hg]; exact (below_size (by repeat (first | (with_reducible first | exact HB.out | apply below_alloc | apply pw_below_drewN | apply below_drew1 | refine below_set ?_ GEq0.out) | exact HB.out))) : w.heap.size ≤ gbq1)); have nq4_ := Aside0.mk ((by rw [hg]; exact (below_size (by repeat (first | (with_reducible first | exact HB.out | apply below_alloc | apply pw_below_drewN | apply below_drew1 | refine below_set ?_ GEq0.out) | exact HB.out))) : w.heap.size ≤ gbq1)); have nq5_ := Aside0.mk ((by rw [hg]; exact Nat.ne_of_lt (blk_lt (g := gbq0) (o := .cells #[.slice A0_0 l0_0.length c0_0, .slice A0_1 l0_1.length c0_1] 26 (0, 0)) (by (with_reducible repeat (first | refine blk_drewN ?_ _ | refine blk_drew ?_ | refine blk_alloc ?_ _)); exact BKq0.out)) : gbq0 ≠ gbq1)); have nq6_ := Aside0.mk ((by rw [hg]; exact Nat.ne_of_gt (blk_lt (g := gbq0) (o := .cells #[.slice A0_0 l0_0.length c0_0, .slice A0_1 l0_1.length c0_1] 26 (0, 0)) (by (with_reducible repeat (first | refine blk_drewN ?_ _ | refine blk_drew ?_ | refine blk_alloc ?_ _)); exact BKq0.out)) : gbq1 ≠ gbq0)); clear BKq0; clear HB; have BKq0 := nq0_; have HB := nq1_; have BKq1 := nq2_; have GWq1 := nq3_; have GEq1 := nq4_; have NBq0_152 := nq5_; have NBq1_151 := nq6_; clear nq0_ nq1_ nq2_ nq3_ nq4_ nq5_ nq6_; clear hb hbox hg; have hnbq0 := NBq0_152.out; have hncq0 := NBq1_151.out; have hczq0_0 : wq1.cell? ⟨gbq0, 0, none⟩ = some (.slice A0_0 l0_0.length c0_0) := (blk_cell BKq0.out 0).trans rfl; have hczq0_1 : wq1.cell? ⟨gbq0, 1, none⟩ = some (.slice A0_1 l0_1.length c0_1) := (blk_cell BKq0.out 1).trans rfl; have hfzq0_0 := blk_frozen BKq0.out 0; have hfzq0_1 := blk_frozen BKq0.out 1; have hczq1_0 : wq1.cell? ⟨gbq1, 0, none⟩ = some (.int .i64 a1_0) := (blk_cell BKq1.out 0).trans rfl; have hczq1_1 : wq1.cell? ⟨gbq1, 1, none⟩ = some (.int .i64 a1_1) := (blk_cell BKq1.out 1).trans rfl; have hczq1_2 : wq1.cell? ⟨gbq1, 2, none⟩ = some (.int .i64 a1_2) := (blk_cell BKq1.out 2).trans rfl; have hczq1_3 : wq1.cell? ⟨gbq1, 3, none⟩ = some (.int .i64 a1_3) := (blk_cell BKq1.out 3).trans rfl; have hczq1_4 : wq1.cell? ⟨gbq1, 4, none⟩ = some (.int .i64 a1_4) := (blk_cell BKq1.out 4).trans rfl; have hczq1_5 : wq1.cell? ⟨gbq1, 5, none⟩ = some (.int .i64 a1_5) := (blk_cell BKq1.out 5).trans rfl; have hczq1_6 : wq1.cell? ⟨gbq1, 6, none⟩ = some (.slice A1_6 l1_6.length c1_6) := (blk_cell BKq1.out 6).trans rfl; have hczq1_7 : wq1.cell? ⟨gbq1, 7, none⟩ = some (.slice A1_7 l1_7.length c1_7) := (blk_cell BKq1.out 7).trans rfl; have hfzq1_0 := blk_frozen BKq1.out 0; have hfzq1_1 := blk_frozen BKq1.out 1; have hfzq1_2 := blk_frozen BKq1.out 2; have hfzq1_3 := blk_frozen BKq1.out 3; have hfzq1_4 := blk_frozen BKq1.out 4; have hfzq1_5 := blk_frozen BKq1.out 5; have hfzq1_6 := blk_frozen BKq1.out 6; have hfzq1_7 := blk_frozen BKq1.out 7) | (go_at_call 145; (with_reducible refine (spec_l2Var.calls _ _ l0_0 _ _ l0_1 a1_1 false _ ?side1 ?side2 ?side3 ?side4 A7.out).mono ?_); (case side1 => repeat (first | exact (Kd.C_below HR0_0.out HB.out) | (with_reducible refine Kd.C_alloc ?_ _) | (with_reducible refine Kd.C_drewN ?_ _) | (with_reducible refine Kd.C_drew ?_))); (case side2 => exact HC0_0.out); (case side3 => repeat (first | exact (Kd.C_below HR0_1.out HB.out) | (with_reducible refine Kd.C_alloc ?_ _) | (with_reducible refine Kd.C_drewN ?_ _) | (with_reducible refine Kd.C_drew ?_))); (case side4 => exact HC0_1.out); rintro e wq2 ⟨rfl, hb⟩; have nq0_ := Aside0.mk (blk_below (g := gbq0) (o := .cells #[.slice A0_0 l0_0.length c0_0, .slice A0_1 l0_1.length c0_1] 26 (0, 0)) (by (with_reducible repeat (first | refine blk_drewN ?_ _ | refine blk_drew ?_ | refine blk_alloc ?_ _)); exact BKq0.out) hb); have nq1_ := Aside0.mk (blk_below (g := gbq1) (o := .cells #[.int .i64 a1_0, .int .i64 a1_1, .int .i64 a1_2, .int .i64 a1_3, .int .i64 a1_4, .int .i64 a1_5, .slice A1_6 l1_6.length c1_6, .slice A1_7 l1_7.length c1_7] 59 (0, 0)) (by (with_reducible repeat (first | refine blk_drewN ?_ _ | refine blk_drew ?_ | refine blk_alloc ?_ _)); exact BKq1.out) hb); have nq2_ := Aside0.mk (below_step (by repeat (first | (with_reducible first | exact HB.out | apply below_alloc | apply pw_below_drewN | apply below_drew1 | refine below_set ?_ GEq0.out | refine below_set ?_ GEq1.out) | exact HB.out)) hb); clear BKq0; clear BKq1; clear HB; have BKq0 := nq0_; have BKq1 := nq1_; have HB := nq2_; clear nq0_ nq1_ nq2_; (try clear hb); (try clear hb2); (try clear hk); (try clear hi)))
       go_ret
       exact ⟨by first | rfl | (simp [errW_none, errW_some] <;> rfl) | (simp [*, errW_none, errW_some] <;> rfl), by repeat (first | (with_reducible first | exact HB.out | apply below_alloc | apply pw_below_drewN | apply below_drew1 | refine below_set ?_ GEq0.out | refine below_set ?_ GEq1.out) | exact HB.out)⟩)

/-! ### spec_l2Steps: function 93 -/
mutual
def spec_l2Steps.l0 : Nat → List (S59) → Int → Int → List (S35) → List (S59) → Option (Bool)
  | 0, _, _, _, _, _ => none
  | k + 1, x1, x2, x7, x159000, x159001 => if x7 < (x1.length : Int) then (if 0 ≤ x7 then ((spec_l2Step.g k (spec_l2Steps.f k) x159000 x159001 ((rd_T59 x1 x7).f0) ((rd_T59 x1 x7).f1) ((rd_T59 x1 x7).f2.f0) ((rd_T59 x1 x7).f2.f1) ((rd_T59 x1 x7).f2.f2) ((rd_T59 x1 x7).f3) ((rd_T59 x1 x7).f4) ((rd_T59 x1 x7).f5) x2).bind fun t160 => (if t160 = true then (spec_l2Steps.l0 k x1 x2 (wrap64 (x7 + 1)) x159000 x159001) else (some false))) else (none)) else (some true)
def spec_l2Steps.f : Nat → List (S35) → List (S59) → List (S59) → Int → Option (Bool)
  | 0, _, _, _, _ => none
  | k + 1, l0_0, l0_1, l1, a2 => spec_l2Steps.l0 k l1 a2 0 l0_0 l0_1
end
theorem spec_l2Steps.mono_l : ∀ k, (∀ y0 y1 y2 y3, LeO (spec_l2Steps.f k y0 y1 y2 y3) (spec_l2Steps.f (k + 1) y0 y1 y2 y3)) ∧ (∀ y0 y1 y2 y3 y4, LeO (spec_l2Steps.l0 k y0 y1 y2 y3 y4) (spec_l2Steps.l0 (k + 1) y0 y1 y2 y3 y4))
  | 0 => ⟨fun _ _ _ _ r h => by simp [spec_l2Steps.f] at h, fun _ _ _ _ _ r h => by simp [spec_l2Steps.l0] at h⟩
  | k + 1 => by
    obtain ⟨ih0, ih1⟩ := spec_l2Steps.mono_l k
    refine ⟨?_, ?_⟩
    · intro y0 y1 y2 y3
      unfold spec_l2Steps.f
      repeat' first
      | (with_reducible exact ih0 _ _ _ _)
      | (with_reducible exact ih1 _ _ _ _ _)
      | (with_reducible exact spec_l2Step.mono_g ih0 _ _ _ _ _ _ _ _ _ _ _ _)
      | (with_reducible exact LeO.refl _)
      | (with_reducible exact LeO.none _)
      | (with_reducible refine LeO.ite ?_ ?_)
      | (with_reducible refine LeO.bind ?_ (fun _ => ?_))
      | exact ih0 _ _ _ _
      | exact ih1 _ _ _ _ _
      | exact spec_l2Step.mono_g ih0 _ _ _ _ _ _ _ _ _ _ _ _
      | exact LeO.none _
      | refine LeO.ite ?_ ?_
      | refine LeO.bind ?_ (fun _ => ?_)
    · intro y0 y1 y2 y3 y4
      unfold spec_l2Steps.l0
      repeat' first
      | (with_reducible exact ih0 _ _ _ _)
      | (with_reducible exact ih1 _ _ _ _ _)
      | (with_reducible exact spec_l2Step.mono_g ih0 _ _ _ _ _ _ _ _ _ _ _ _)
      | (with_reducible exact LeO.refl _)
      | (with_reducible exact LeO.none _)
      | (with_reducible refine LeO.ite ?_ ?_)
      | (with_reducible refine LeO.bind ?_ (fun _ => ?_))
      | exact ih0 _ _ _ _
      | exact ih1 _ _ _ _ _
      | exact spec_l2Step.mono_g ih0 _ _ _ _ _ _ _ _ _ _ _ _
      | exact LeO.none _
      | refine LeO.ite ?_ ?_
      | refine LeO.bind ?_ (fun _ => ?_)
theorem spec_l2Steps.mono : ∀ a0 a1 a2 a3 k, LeO (spec_l2Steps.f k a0 a1 a2 a3) (spec_l2Steps.f (k + 1) a0 a1 a2 a3) := by
  intro a0 a1 a2 a3 k
  obtain ⟨ih0, ih1⟩ := spec_l2Steps.mono_l k
  exact ih0 a0 a1 a2 a3
def spec_l2Steps.T4 : Bool × List (List Nat × List Nat) := (true, [([], []), ([], []), ([], []), ([1, 2], [1, 2]), ([3], [3]), ([], []), ([0, 4, 5], [0, 4, 5]), ([6], [6])])
def spec_l2Steps.B4 : List Nat := [0, 0, 0, 6, 14, 0, 63, 127]
theorem spec_l2Steps.tab4 : rtab .any (opsOf Try.f93 4) = spec_l2Steps.T4 := by kernel_rfl
theorem spec_l2Steps.bits4 : waitsOk spec_l2Steps.T4.2 spec_l2Steps.B4 = true := by kernel_rfl
theorem spec_l2Step.calls_of {K : Nat} (ih : ∀ m, m < K → ∀ (A0_0 : Option Addr) (c0_0 : Nat) (l0_0 : List (S35)) (A0_1 : Option Addr) (c0_1 : Nat) (l0_1 : List (S59)) (A1 : Option Addr) (c1 : Nat) (l1 : List (S59)) (a2 : Int) (r : Bool) (w : World) (hr0_0 : Kd.C k35 w A0_0 l0_0.length l0_0) (hc0_0 : l0_0.length ≤ c0_0) (hr0_1 : Kd.C k59 w A0_1 l0_1.length l0_1) (hc0_1 : l0_1.length ≤ c0_1) (hr1 : Kd.C k59 w A1 l1.length l1) (hc1 : l1.length ≤ c1) (h : spec_l2Steps.f m l0_0 l0_1 l1 a2 = some r),
    Calls Try.prog 93 #[.agg #[.slice A0_0 l0_0.length c0_0, .slice A0_1 l0_1.length c0_1], .slice A1 l1.length c1, .int .i64 a2] w fun e w' => e = .returned (.bool r) ∧ Below w.heap.size w w') (k : Nat) (hk : k < K) (A0_0 : Option Addr) (c0_0 : Nat) (l0_0 : List (S35)) (A0_1 : Option Addr) (c0_1 : Nat) (l0_1 : List (S59)) (a1_0 : Int) (a1_1 : Int) (a1_2 : Int) (a1_3 : Int) (a1_4 : Int) (a1_5 : Int) (A1_6 : Option Addr) (c1_6 : Nat) (l1_6 : List (S59)) (A1_7 : Option Addr) (c1_7 : Nat) (l1_7 : List (S59)) (a2 : Int) (r : Bool) (w : World) (hr0_0 : Kd.C k35 w A0_0 l0_0.length l0_0) (hc0_0 : l0_0.length ≤ c0_0) (hr0_1 : Kd.C k59 w A0_1 l0_1.length l0_1) (hc0_1 : l0_1.length ≤ c0_1) (hr1_6 : Kd.C k59 w A1_6 l1_6.length l1_6) (hc1_6 : l1_6.length ≤ c1_6) (hr1_7 : Kd.C k59 w A1_7 l1_7.length l1_7) (hc1_7 : l1_7.length ≤ c1_7) (h : spec_l2Step.g k (spec_l2Steps.f k) l0_0 l0_1 a1_0 a1_1 a1_2 a1_3 a1_4 a1_5 l1_6 l1_7 a2 = some r) :
    Calls Try.prog 130 #[.agg #[.slice A0_0 l0_0.length c0_0, .slice A0_1 l0_1.length c0_1], .agg #[.int .i64 a1_0, .int .i64 a1_1, .int .i64 a1_2, .int .i64 a1_3, .int .i64 a1_4, .int .i64 a1_5, .slice A1_6 l1_6.length c1_6, .slice A1_7 l1_7.length c1_7], .int .i64 a2] w fun e w' => e = .returned (.bool r) ∧ Below w.heap.size w w' := spec_l2Step.calls_g k (spec_l2Steps.f k) (ih k hk) A0_0 c0_0 l0_0 A0_1 c0_1 l0_1 a1_0 a1_1 a1_2 a1_3 a1_4 a1_5 A1_6 c1_6 l1_6 A1_7 c1_7 l1_7 a2 r w hr0_0 hc0_0 hr0_1 hc0_1 hr1_6 hc1_6 hr1_7 hc1_7 h
set_option maxHeartbeats 8000000 in
set_option maxRecDepth 100000 in
theorem spec_l2Steps.calls (k : Nat) : ∀ (A0_0 : Option Addr) (c0_0 : Nat) (l0_0 : List (S35)) (A0_1 : Option Addr) (c0_1 : Nat) (l0_1 : List (S59)) (A1 : Option Addr) (c1 : Nat) (l1 : List (S59)) (a2 : Int) (r : Bool) (w : World) (hr0_0 : Kd.C k35 w A0_0 l0_0.length l0_0) (hc0_0 : l0_0.length ≤ c0_0) (hr0_1 : Kd.C k59 w A0_1 l0_1.length l0_1) (hc0_1 : l0_1.length ≤ c0_1) (hr1 : Kd.C k59 w A1 l1.length l1) (hc1 : l1.length ≤ c1) (h : spec_l2Steps.f k l0_0 l0_1 l1 a2 = some r),
    Calls Try.prog 93 #[.agg #[.slice A0_0 l0_0.length c0_0, .slice A0_1 l0_1.length c0_1], .slice A1 l1.length c1, .int .i64 a2] w fun e w' => e = .returned (.bool r) ∧ Below w.heap.size w w' := by
  induction k using Nat.strongRecOn with
  | _ k ih =>
  intro A0_0 c0_0 l0_0 A0_1 c0_1 l0_1 A1 c1 l1 a2 r w hr0_0 hc0_0 hr0_1 hc0_1 hr1 hc1 h
  cases k with
  | zero => exact absurd h (by simp [spec_l2Steps.f])
  | succ k =>
  simp only [spec_l2Steps.f] at h
  have hu26 := Try.underlying26
  have hu59 := Try.underlying59
  have HR0_0 := Aside0.mk hr0_0
  have HC0_0 := Aside0.mk hc0_0
  clear hr0_0 hc0_0
  have HR0_1 := Aside0.mk hr0_1
  have HC0_1 := Aside0.mk hc0_1
  clear hr0_1 hc0_1
  have HR1 := Aside0.mk hr1
  have HC1 := Aside0.mk hc1
  clear hr1 hc1
  have HB := Aside0.mk (Below.refl w.heap.size w)
  have H : (spec_l2Steps.l0 k l1 a2 0 l0_0 l0_1) = some r := h
  clear h
  have H' := Aside0.mk H
  clear H
  go_enter Try.func93, Try.ntmps93
  go_wp2_with (first | ((with_reducible refine gate_dst (N := 3) rfl ?_); refine box_event ?hg (N := 3) ?hd (cs := #[.slice A0_0 l0_0.length c0_0, .slice A0_1 l0_1.length c0_1]) (t := 26) ?hr ?_; (case hd => rfl); (case hg => rfl); (case hr => first | (go_simp; done) | (go_simp; rfl)); intro gb158 hg w4 hbox hb; have n0_ := Aside0.mk (below_step (by repeat (first | (with_reducible first | exact HB.out | apply below_alloc | apply pw_below_drewN | apply below_drew1) | exact HB.out)) hb); have n1_ := Aside0.mk (hbox); have n2_ := Aside0.mk ((by rw [hg]; exact (below_size (by repeat (first | (with_reducible first | exact HB.out | apply below_alloc | apply pw_below_drewN | apply below_drew1) | exact HB.out))) : w.heap.size ≤ gb158)); have n3_ := Aside0.mk ((by rw [hg]; exact (below_size (by repeat (first | (with_reducible first | exact HB.out | apply below_alloc | apply pw_below_drewN | apply below_drew1) | exact HB.out))) : w.heap.size ≤ gb158)); clear HB; have HB := n0_; have BK158 := n1_; have GW158 := n2_; have GE158 := n3_; clear n0_ n1_ n2_ n3_; clear hb hbox hg))
  go_loopg [7] k (fun kq v7 w' => ∃ (x7_1 : Int), v7 = .int .i64 x7_1 ∧ Aside0 (spec_l2Steps.l0 kq l1 a2 x7_1 l0_0 l0_1 = some r) ∧ Aside0 (kq ≤ k) ∧ Aside0 (w'.heap[gb158]? = some (.cells #[(.slice A0_0 l0_0.length c0_0), (.slice A0_1 l0_1.length c0_1)] 26 (0, 0))) ∧ Aside0 (Below w.heap.size w w'))
  case atStart => exact ⟨(0), (by first | rfl | (simp; done) | (simp [*]; done)), H', ⟨Nat.le_refl _⟩, ⟨by (with_reducible repeat (first | refine blk_drewN ?_ _ | refine blk_drew ?_ | refine blk_alloc ?_ _)); exact BK158.out⟩, ⟨by repeat (first | (with_reducible first | exact HB.out | apply below_alloc | apply pw_below_drewN | apply below_drew1 | refine below_set ?_ GE158.out) | exact HB.out)⟩⟩
  case round =>
    clear H'
    try clear c1
    try clear p2
    obtain ⟨x7_1, rfl, HA, HK1, BK158, HB⟩ := hrel
    cases gk with
    | zero => exact absurd HA.out (by simp [spec_l2Steps.l0])
    | succ k1 =>
      have H := HA.out
      clear HA
      simp only [spec_l2Steps.l0] at H
      by_cases c5 : x7_1 < (l1.length : Int)
      · rw [if_pos c5] at H
        have c5b0 : decide (x7_1 < (l1.length : Int)) = true := decide_eq_true c5
        clear c5
        by_cases c6 : 0 ≤ x7_1
        · rw [if_pos c6] at H
          have c6b0 : decide (0 ≤ x7_1) = true := decide_eq_true c6
          clear c6
          replace H := Option.bind_eq_some_iff.mp H
          obtain ⟨t160, A70, H⟩ := H
          replace H : (if t160 = true then (spec_l2Steps.l0 k1 l1 a2 (wrap64 (x7_1 + 1)) l0_0 l0_1) else (some false)) = some r := H
          have A7 := Aside0.mk A70
          clear A70
          by_cases c8 : t160 = true
          · subst c8
            have H1 : (spec_l2Steps.l0 k1 l1 a2 (wrap64 (x7_1 + 1)) l0_0 l0_1) = some r := by rw [if_pos rfl] at H; exact H
            clear H
            have H := H1
            clear H1
            have H' := Aside0.mk H
            clear H
            try go_wp2
            have n0_ := Aside0.mk (blk_drew BK158.out)
            have n1_ := Aside0.mk (below_drew1 HB.out)
            clear BK158
            clear HB
            have BK158 := n0_
            have HB := n1_
            clear n0_ n1_
            have p159 : 0 ≤ (x7_1 : Int) := of_decide_eq_true (by first | (with_reducible assumption) | assumption)
            have q159 : x7_1 < (l1.length : Int) := of_decide_eq_true (by first | (with_reducible assumption) | assumption)
            obtain ⟨ad159, A159_6, c159_6, A159_7, c159_7, e159, hx159_0, hx159_1, hx159_2, hx159_3, hx159_4, hx159_5, hx159_6, hx159_7, hl159_6, hi159_6, hl159_7, hi159_7⟩ := at_T59 HR1.out x7_1 p159 q159
            have hw159_7 := hx159_7
            have hw159_6 := hx159_6
            have hw159_5 := hx159_5
            have hw159_4 := hx159_4
            have hw159_3 := hx159_3
            have hw159_2 := hx159_2
            have hw159_1 := hx159_1
            have hw159_0 := hx159_0
            cases e159
            replace hx159_0 := (HB.out.cell (World.block_lt_of_cell? w _ hx159_0)).trans hx159_0
            replace hx159_1 := (HB.out.cell (World.block_lt_of_cell? w _ hx159_1)).trans hx159_1
            replace hx159_2 := (HB.out.cell (World.block_lt_of_cell? w _ hx159_2)).trans hx159_2
            replace hx159_3 := (HB.out.cell (World.block_lt_of_cell? w _ hx159_3)).trans hx159_3
            replace hx159_4 := (HB.out.cell (World.block_lt_of_cell? w _ hx159_4)).trans hx159_4
            replace hx159_5 := (HB.out.cell (World.block_lt_of_cell? w _ hx159_5)).trans hx159_5
            replace hx159_6 := (HB.out.cell (World.block_lt_of_cell? w _ hx159_6)).trans hx159_6
            replace hx159_7 := (HB.out.cell (World.block_lt_of_cell? w _ hx159_7)).trans hx159_7
            have HR159_6 := Aside0.mk hi159_6
            have HC159_6 := Aside0.mk hl159_6
            clear hi159_6 hl159_6
            have HR159_7 := Aside0.mk hi159_7
            have HC159_7 := Aside0.mk hl159_7
            clear hi159_7 hl159_7
            replace p159 := eq_true p159
            replace q159 := eq_true q159
            refine start_ (n := 8) (S := fun w' => w'.cell? ⟨gb158, 0, none⟩ = some (.slice A0_0 l0_0.length c0_0) ∧ w'.cell? ⟨gb158, 1, none⟩ = some (.slice A0_1 l0_1.length c0_1) ∧ w'.cell? (ad159.add ((x7_1).toNat * 8)) = some (.int .i64 ((rd_T59 l1 x7_1).f0)) ∧ w'.cell? ⟨(ad159.add ((x7_1).toNat * 8)).block, (ad159.add ((x7_1).toNat * 8)).off + 1, none⟩ = some (.int .i64 ((rd_T59 l1 x7_1).f1)) ∧ w'.cell? ⟨(ad159.add ((x7_1).toNat * 8)).block, (ad159.add ((x7_1).toNat * 8)).off + 2, none⟩ = some (.int .i64 ((rd_T59 l1 x7_1).f2.f0)) ∧ w'.cell? ⟨(ad159.add ((x7_1).toNat * 8)).block, (ad159.add ((x7_1).toNat * 8)).off + 3, none⟩ = some (.int .i64 ((rd_T59 l1 x7_1).f2.f1)) ∧ w'.cell? ⟨(ad159.add ((x7_1).toNat * 8)).block, (ad159.add ((x7_1).toNat * 8)).off + 4, none⟩ = some (.int .i64 ((rd_T59 l1 x7_1).f2.f2)) ∧ w'.cell? ⟨(ad159.add ((x7_1).toNat * 8)).block, (ad159.add ((x7_1).toNat * 8)).off + 5, none⟩ = some (.int .i64 ((rd_T59 l1 x7_1).f3)) ∧ w'.cell? ⟨(ad159.add ((x7_1).toNat * 8)).block, (ad159.add ((x7_1).toNat * 8)).off + 6, none⟩ = some (.slice A159_6 ((rd_T59 l1 x7_1).f4).length c159_6) ∧ w'.cell? ⟨(ad159.add ((x7_1).toNat * 8)).block, (ad159.add ((x7_1).toNat * 8)).off + 7, none⟩ = some (.slice A159_7 ((rd_T59 l1 x7_1).f5).length c159_7)) (ds := []) #[false, false, false, false, false, false, false, false] (by kernel_rfl) rfl rfl ⟨(blk_cell BK158.out 0).trans rfl, (blk_cell BK158.out 1).trans rfl, ((HB.out.cell (World.block_lt_of_cell? w _ hw159_0)).trans hw159_0), ((HB.out.cell (World.block_lt_of_cell? w _ hw159_1)).trans hw159_1), ((HB.out.cell (World.block_lt_of_cell? w _ hw159_2)).trans hw159_2), ((HB.out.cell (World.block_lt_of_cell? w _ hw159_3)).trans hw159_3), ((HB.out.cell (World.block_lt_of_cell? w _ hw159_4)).trans hw159_4), ((HB.out.cell (World.block_lt_of_cell? w _ hw159_5)).trans hw159_5), ((HB.out.cell (World.block_lt_of_cell? w _ hw159_6)).trans hw159_6), ((HB.out.cell (World.block_lt_of_cell? w _ hw159_7)).trans hw159_7)⟩ (fun hHeld => ?_); refine with_tabW spec_l2Steps.tab4 spec_l2Steps.bits4 (fun HT_ HW_ => ?_)
            generalize wr.drew = w9 at BK158 HB HR159_6 HR159_7 hx159_0 hx159_1 hx159_2 hx159_3 hx159_4 hx159_5 hx159_6 hx159_7 hHeld ⊢
            refine pure_ (i := 1) (N := some 15) (v := ?_) (a' := ?_) #[false, true, false, false, false, false, false, false] rfl rfl (any_of HT_.out (by kernel_rfl)) (fun _ _ _ h => h) (Or.inl ⟨by rfl, ?_⟩) ?_ ?_
            rotate_left
            · intro w'
              go_simp
              with_reducible rfl
            rotate_left
            · simp only [Act.put, List.setIfInBounds_toArray, List.set_cons_zero, List.set_cons_succ, i64_w, i32_w]
              rfl
            refine pure_ (i := 2) (N := some 16) (v := ?_) (a' := ?_) #[false, true, true, false, false, false, false, false] rfl rfl (any_of HT_.out (by kernel_rfl)) (fun _ _ _ h => h) (Or.inl ⟨by rfl, ?_⟩) ?_ ?_
            rotate_left
            · intro w'
              go_simp
              with_reducible rfl
            rotate_left
            · simp only [Act.put, List.setIfInBounds_toArray, List.set_cons_zero, List.set_cons_succ, i64_w, i32_w]
              rfl
            refine pure_ (i := 3) (N := some 17) (v := ?_) (a' := ?_) #[false, true, true, true, false, false, false, false] rfl rfl (any_of HT_.out (by kernel_rfl)) (fun _ _ _ h => h) (Or.inl ⟨by rfl, ?_⟩) ?_ ?_
            rotate_left
            · intro w'
              go_simp
              with_reducible rfl
            rotate_left
            · simp only [Act.put, List.setIfInBounds_toArray, List.set_cons_zero, List.set_cons_succ, i64_w, i32_w]
              rfl
            refine pure_ (i := 5) (N := some 19) (v := ?_) (a' := ?_) #[false, true, true, true, false, true, false, false] rfl rfl (any_of HT_.out (by kernel_rfl)) (fun _ _ _ h => h) (Or.inl ⟨by rfl, ?_⟩) ?_ ?_
            rotate_left
            · intro w'
              go_simp
              with_reducible rfl
            rotate_left
            · simp only [Act.put, List.setIfInBounds_toArray, List.set_cons_zero, List.set_cons_succ, i64_w, i32_w]
              rfl
            refine take_ (i := 0) (N := some 14) (v := ?_) (a' := ?_) #[true, true, true, true, false, true, false, false] rfl rfl (take_ofW HT_.out HW_.out (by kernel_rfl)) (fun _ _ _ h => h) (Or.inl ⟨by rfl, ?_⟩) hHeld ?_ ?_
            rotate_left
            · rintro w' ⟨s0, s1, s2, s3, s4, s5, s6, s7, s8, s9⟩
              go_simp
              with_reducible rfl
            rotate_left
            · simp only [Act.put, List.setIfInBounds_toArray, List.set_cons_zero, List.set_cons_succ, i64_w, i32_w]
              rfl
            refine take_ (i := 4) (N := some 18) (v := ?_) (a' := ?_) #[true, true, true, true, true, true, false, false] rfl rfl (take_ofW HT_.out HW_.out (by kernel_rfl)) (fun _ _ _ h => h) (Or.inl ⟨by rfl, ?_⟩) hHeld ?_ ?_
            rotate_left
            · rintro w' ⟨s0, s1, s2, s3, s4, s5, s6, s7, s8, s9⟩
              go_simp
              with_reducible rfl
            rotate_left
            · simp only [Act.put, List.setIfInBounds_toArray, List.set_cons_zero, List.set_cons_succ, i64_w, i32_w]
              rfl
            refine one_ (i := 6) (N := some 20) #[true, true, true, true, true, true, true, false] rfl rfl (one_of HT_.out (by kernel_rfl)) (by decide) (fun K hK => ?_)
            refine goes_ Try.func130 (by kernel_rfl) rfl #[.agg #[.slice A0_0 l0_0.length c0_0, .slice A0_1 l0_1.length c0_1], .agg #[.int .i64 ((rd_T59 l1 x7_1).f0), .int .i64 ((rd_T59 l1 x7_1).f1), .int .i64 ((rd_T59 l1 x7_1).f2.f0), .int .i64 ((rd_T59 l1 x7_1).f2.f1), .int .i64 ((rd_T59 l1 x7_1).f2.f2), .int .i64 ((rd_T59 l1 x7_1).f3), .slice A159_6 ((rd_T59 l1 x7_1).f4).length c159_6, .slice A159_7 ((rd_T59 l1 x7_1).f5).length c159_7], .int .i64 a2] (by rfl) rfl rfl (by (try simp only [List.map_toArray, List.map_cons, List.map_nil]); first | done | rfl | (simp only [List.length_drop, List.length_take]; rfl)) ?_
            with_reducible refine ((spec_l2Step.calls_of ih) k1 (by have := HK1.out; omega) _ _ l0_0 _ _ l0_1 ((rd_T59 l1 x7_1).f0) ((rd_T59 l1 x7_1).f1) ((rd_T59 l1 x7_1).f2.f0) ((rd_T59 l1 x7_1).f2.f1) ((rd_T59 l1 x7_1).f2.f2) ((rd_T59 l1 x7_1).f3) _ _ ((rd_T59 l1 x7_1).f4) _ _ ((rd_T59 l1 x7_1).f5) a2 true _ ?side1 ?side2 ?side3 ?side4 ?side5 ?side6 ?side7 ?side8 A7.out).mono ?_
            (case side1 => repeat (first | exact (Kd.C_below HR0_0.out HB.out) | (with_reducible refine Kd.C_alloc ?_ _) | (with_reducible refine Kd.C_drewN ?_ _) | (with_reducible refine Kd.C_drew ?_)))
            (case side2 => exact HC0_0.out)
            (case side3 => repeat (first | exact (Kd.C_below HR0_1.out HB.out) | (with_reducible refine Kd.C_alloc ?_ _) | (with_reducible refine Kd.C_drewN ?_ _) | (with_reducible refine Kd.C_drew ?_)))
            (case side4 => exact HC0_1.out)
            (case side5 => repeat (first | exact (Kd.C_below HR159_6.out HB.out) | (with_reducible refine Kd.C_alloc ?_ _) | (with_reducible refine Kd.C_drewN ?_ _) | (with_reducible refine Kd.C_drew ?_)))
            (case side6 => exact HC159_6.out)
            (case side7 => repeat (first | exact (Kd.C_below HR159_7.out HB.out) | (with_reducible refine Kd.C_alloc ?_ _) | (with_reducible refine Kd.C_drewN ?_ _) | (with_reducible refine Kd.C_drew ?_)))
            (case side8 => exact HC159_7.out)
            rintro e w10 ⟨rfl, hb⟩
            refine ⟨_, rfl, ?_⟩
            have n0_ := Aside0.mk (blk_below (g := gb158) (o := .cells #[.slice A0_0 l0_0.length c0_0, .slice A0_1 l0_1.length c0_1] 26 (0, 0)) (by (with_reducible repeat (first | refine blk_drewN ?_ _ | refine blk_drew ?_ | refine blk_alloc ?_ _)); exact BK158.out) hb)
            have n1_ := Aside0.mk (below_step (by repeat (first | (with_reducible first | exact HB.out | apply below_alloc | apply pw_below_drewN | apply below_drew1 | refine below_set ?_ GE158.out) | exact HB.out)) hb)
            clear BK158
            clear HB
            have BK158 := n0_
            have HB := n1_
            clear n0_ n1_
            (try clear hb)
            (try clear hb2)
            (try clear hk)
            (try clear hi)
            refine hK.out _ _ ⟨(blk_cell BK158.out 0).trans rfl, (blk_cell BK158.out 1).trans rfl, ((HB.out.cell (World.block_lt_of_cell? w _ hw159_0)).trans hw159_0), ((HB.out.cell (World.block_lt_of_cell? w _ hw159_1)).trans hw159_1), ((HB.out.cell (World.block_lt_of_cell? w _ hw159_2)).trans hw159_2), ((HB.out.cell (World.block_lt_of_cell? w _ hw159_3)).trans hw159_3), ((HB.out.cell (World.block_lt_of_cell? w _ hw159_4)).trans hw159_4), ((HB.out.cell (World.block_lt_of_cell? w _ hw159_5)).trans hw159_5), ((HB.out.cell (World.block_lt_of_cell? w _ hw159_6)).trans hw159_6), ((HB.out.cell (World.block_lt_of_cell? w _ hw159_7)).trans hw159_7)⟩ (fun hHeld => ?_)
            clear hK K
            refine norm_ (a' := ?_) ?_ ?_
            rotate_left
            · show Act.put _ (some 20) _ = _
              simp only [Act.put, List.setIfInBounds_toArray, List.set_cons_zero, List.set_cons_succ, i64_w, i32_w]
              rfl
            refine pure_ (i := 7) (N := some 21) (v := ?_) (a' := ?_) #[true, true, true, true, true, true, true, true] rfl rfl (any_of HT_.out (by kernel_rfl)) (fun _ _ _ h => h) (Or.inl ⟨by rfl, ?_⟩) ?_ ?_
            rotate_left
            · intro w'
              go_simp
              with_reducible rfl
            rotate_left
            · simp only [Act.put, List.setIfInBounds_toArray, List.set_cons_zero, List.set_cons_succ, i64_w, i32_w]
              rfl
            refine done_ (done_of HT_.out (by kernel_rfl)) ?_
            try go_wp2
            go_roundg k1
            case measure => have := HK1.out; omega
            case rel => exact ⟨(wrap64 (x7_1 + 1)), (by first | rfl | (simp; done) | (simp [*]; done)), H', ⟨by have := HK1.out; omega⟩, ⟨by (with_reducible repeat (first | refine blk_drewN ?_ _ | refine blk_drew ?_ | refine blk_alloc ?_ _)); exact BK158.out⟩, ⟨by repeat (first | (with_reducible first | exact HB.out | apply below_alloc | apply pw_below_drewN | apply below_drew1 | refine below_set ?_ GE158.out) | exact HB.out)⟩⟩
          · replace c8 := Bool.eq_false_iff.mpr c8
            subst c8
            have H1 : (some false) = some r := by rw [if_neg (show ¬ (false = true) by decide)] at H; exact H
            clear H
            have H := H1
            clear H1
            obtain rfl := Option.some.inj H
            try go_wp2
            have n0_ := Aside0.mk (blk_drew BK158.out)
            have n1_ := Aside0.mk (below_drew1 HB.out)
            clear BK158
            clear HB
            have BK158 := n0_
            have HB := n1_
            clear n0_ n1_
            have p159 : 0 ≤ (x7_1 : Int) := of_decide_eq_true (by first | (with_reducible assumption) | assumption)
            have q159 : x7_1 < (l1.length : Int) := of_decide_eq_true (by first | (with_reducible assumption) | assumption)
            obtain ⟨ad159, A159_6, c159_6, A159_7, c159_7, e159, hx159_0, hx159_1, hx159_2, hx159_3, hx159_4, hx159_5, hx159_6, hx159_7, hl159_6, hi159_6, hl159_7, hi159_7⟩ := at_T59 HR1.out x7_1 p159 q159
            have hw159_7 := hx159_7
            have hw159_6 := hx159_6
            have hw159_5 := hx159_5
            have hw159_4 := hx159_4
            have hw159_3 := hx159_3
            have hw159_2 := hx159_2
            have hw159_1 := hx159_1
            have hw159_0 := hx159_0
            cases e159
            replace hx159_0 := (HB.out.cell (World.block_lt_of_cell? w _ hx159_0)).trans hx159_0
            replace hx159_1 := (HB.out.cell (World.block_lt_of_cell? w _ hx159_1)).trans hx159_1
            replace hx159_2 := (HB.out.cell (World.block_lt_of_cell? w _ hx159_2)).trans hx159_2
            replace hx159_3 := (HB.out.cell (World.block_lt_of_cell? w _ hx159_3)).trans hx159_3
            replace hx159_4 := (HB.out.cell (World.block_lt_of_cell? w _ hx159_4)).trans hx159_4
            replace hx159_5 := (HB.out.cell (World.block_lt_of_cell? w _ hx159_5)).trans hx159_5
            replace hx159_6 := (HB.out.cell (World.block_lt_of_cell? w _ hx159_6)).trans hx159_6
            replace hx159_7 := (HB.out.cell (World.block_lt_of_cell? w _ hx159_7)).trans hx159_7
            have HR159_6 := Aside0.mk hi159_6
            have HC159_6 := Aside0.mk hl159_6
            clear hi159_6 hl159_6
            have HR159_7 := Aside0.mk hi159_7
            have HC159_7 := Aside0.mk hl159_7
            clear hi159_7 hl159_7
            replace p159 := eq_true p159
            replace q159 := eq_true q159
            refine start_ (n := 8) (S := fun w' => w'.cell? ⟨gb158, 0, none⟩ = some (.slice A0_0 l0_0.length c0_0) ∧ w'.cell? ⟨gb158, 1, none⟩ = some (.slice A0_1 l0_1.length c0_1) ∧ w'.cell? (ad159.add ((x7_1).toNat * 8)) = some (.int .i64 ((rd_T59 l1 x7_1).f0)) ∧ w'.cell? ⟨(ad159.add ((x7_1).toNat * 8)).block, (ad159.add ((x7_1).toNat * 8)).off + 1, none⟩ = some (.int .i64 ((rd_T59 l1 x7_1).f1)) ∧ w'.cell? ⟨(ad159.add ((x7_1).toNat * 8)).block, (ad159.add ((x7_1).toNat * 8)).off + 2, none⟩ = some (.int .i64 ((rd_T59 l1 x7_1).f2.f0)) ∧ w'.cell? ⟨(ad159.add ((x7_1).toNat * 8)).block, (ad159.add ((x7_1).toNat * 8)).off + 3, none⟩ = some (.int .i64 ((rd_T59 l1 x7_1).f2.f1)) ∧ w'.cell? ⟨(ad159.add ((x7_1).toNat * 8)).block, (ad159.add ((x7_1).toNat * 8)).off + 4, none⟩ = some (.int .i64 ((rd_T59 l1 x7_1).f2.f2)) ∧ w'.cell? ⟨(ad159.add ((x7_1).toNat * 8)).block, (ad159.add ((x7_1).toNat * 8)).off + 5, none⟩ = some (.int .i64 ((rd_T59 l1 x7_1).f3)) ∧ w'.cell? ⟨(ad159.add ((x7_1).toNat * 8)).block, (ad159.add ((x7_1).toNat * 8)).off + 6, none⟩ = some (.slice A159_6 ((rd_T59 l1 x7_1).f4).length c159_6) ∧ w'.cell? ⟨(ad159.add ((x7_1).toNat * 8)).block, (ad159.add ((x7_1).toNat * 8)).off + 7, none⟩ = some (.slice A159_7 ((rd_T59 l1 x7_1).f5).length c159_7)) (ds := []) #[false, false, false, false, false, false, false, false] (by kernel_rfl) rfl rfl ⟨(blk_cell BK158.out 0).trans rfl, (blk_cell BK158.out 1).trans rfl, ((HB.out.cell (World.block_lt_of_cell? w _ hw159_0)).trans hw159_0), ((HB.out.cell (World.block_lt_of_cell? w _ hw159_1)).trans hw159_1), ((HB.out.cell (World.block_lt_of_cell? w _ hw159_2)).trans hw159_2), ((HB.out.cell (World.block_lt_of_cell? w _ hw159_3)).trans hw159_3), ((HB.out.cell (World.block_lt_of_cell? w _ hw159_4)).trans hw159_4), ((HB.out.cell (World.block_lt_of_cell? w _ hw159_5)).trans hw159_5), ((HB.out.cell (World.block_lt_of_cell? w _ hw159_6)).trans hw159_6), ((HB.out.cell (World.block_lt_of_cell? w _ hw159_7)).trans hw159_7)⟩ (fun hHeld => ?_); refine with_tabW spec_l2Steps.tab4 spec_l2Steps.bits4 (fun HT_ HW_ => ?_)
            generalize wr.drew = w11 at BK158 HB HR159_6 HR159_7 hx159_0 hx159_1 hx159_2 hx159_3 hx159_4 hx159_5 hx159_6 hx159_7 hHeld ⊢
            refine pure_ (i := 1) (N := some 15) (v := ?_) (a' := ?_) #[false, true, false, false, false, false, false, false] rfl rfl (any_of HT_.out (by kernel_rfl)) (fun _ _ _ h => h) (Or.inl ⟨by rfl, ?_⟩) ?_ ?_
            rotate_left
            · intro w'
              go_simp
              with_reducible rfl
            rotate_left
            · simp only [Act.put, List.setIfInBounds_toArray, List.set_cons_zero, List.set_cons_succ, i64_w, i32_w]
              rfl
            refine pure_ (i := 2) (N := some 16) (v := ?_) (a' := ?_) #[false, true, true, false, false, false, false, false] rfl rfl (any_of HT_.out (by kernel_rfl)) (fun _ _ _ h => h) (Or.inl ⟨by rfl, ?_⟩) ?_ ?_
            rotate_left
            · intro w'
              go_simp
              with_reducible rfl
            rotate_left
            · simp only [Act.put, List.setIfInBounds_toArray, List.set_cons_zero, List.set_cons_succ, i64_w, i32_w]
              rfl
            refine pure_ (i := 3) (N := some 17) (v := ?_) (a' := ?_) #[false, true, true, true, false, false, false, false] rfl rfl (any_of HT_.out (by kernel_rfl)) (fun _ _ _ h => h) (Or.inl ⟨by rfl, ?_⟩) ?_ ?_
            rotate_left
            · intro w'
              go_simp
              with_reducible rfl
            rotate_left
            · simp only [Act.put, List.setIfInBounds_toArray, List.set_cons_zero, List.set_cons_succ, i64_w, i32_w]
              rfl
            refine pure_ (i := 5) (N := some 19) (v := ?_) (a' := ?_) #[false, true, true, true, false, true, false, false] rfl rfl (any_of HT_.out (by kernel_rfl)) (fun _ _ _ h => h) (Or.inl ⟨by rfl, ?_⟩) ?_ ?_
            rotate_left
            · intro w'
              go_simp
              with_reducible rfl
            rotate_left
            · simp only [Act.put, List.setIfInBounds_toArray, List.set_cons_zero, List.set_cons_succ, i64_w, i32_w]
              rfl
            refine take_ (i := 0) (N := some 14) (v := ?_) (a' := ?_) #[true, true, true, true, false, true, false, false] rfl rfl (take_ofW HT_.out HW_.out (by kernel_rfl)) (fun _ _ _ h => h) (Or.inl ⟨by rfl, ?_⟩) hHeld ?_ ?_
            rotate_left
            · rintro w' ⟨s0, s1, s2, s3, s4, s5, s6, s7, s8, s9⟩
              go_simp
              with_reducible rfl
            rotate_left
            · simp only [Act.put, List.setIfInBounds_toArray, List.set_cons_zero, List.set_cons_succ, i64_w, i32_w]
              rfl
            refine take_ (i := 4) (N := some 18) (v := ?_) (a' := ?_) #[true, true, true, true, true, true, false, false] rfl rfl (take_ofW HT_.out HW_.out (by kernel_rfl)) (fun _ _ _ h => h) (Or.inl ⟨by rfl, ?_⟩) hHeld ?_ ?_
            rotate_left
            · rintro w' ⟨s0, s1, s2, s3, s4, s5, s6, s7, s8, s9⟩
              go_simp
              with_reducible rfl
            rotate_left
            · simp only [Act.put, List.setIfInBounds_toArray, List.set_cons_zero, List.set_cons_succ, i64_w, i32_w]
              rfl
            refine one_ (i := 6) (N := some 20) #[true, true, true, true, true, true, true, false] rfl rfl (one_of HT_.out (by kernel_rfl)) (by decide) (fun K hK => ?_)
            refine goes_ Try.func130 (by kernel_rfl) rfl #[.agg #[.slice A0_0 l0_0.length c0_0, .slice A0_1 l0_1.length c0_1], .agg #[.int .i64 ((rd_T59 l1 x7_1).f0), .int .i64 ((rd_T59 l1 x7_1).f1), .int .i64 ((rd_T59 l1 x7_1).f2.f0), .int .i64 ((rd_T59 l1 x7_1).f2.f1), .int .i64 ((rd_T59 l1 x7_1).f2.f2), .int .i64 ((rd_T59 l1 x7_1).f3), .slice A159_6 ((rd_T59 l1 x7_1).f4).length c159_6, .slice A159_7 ((rd_T59 l1 x7_1).f5).length c159_7], .int .i64 a2] (by rfl) rfl rfl (by (try simp only [List.map_toArray, List.map_cons, List.map_nil]); first | done | rfl | (simp only [List.length_drop, List.length_take]; rfl)) ?_
            with_reducible refine ((spec_l2Step.calls_of ih) k1 (by have := HK1.out; omega) _ _ l0_0 _ _ l0_1 ((rd_T59 l1 x7_1).f0) ((rd_T59 l1 x7_1).f1) ((rd_T59 l1 x7_1).f2.f0) ((rd_T59 l1 x7_1).f2.f1) ((rd_T59 l1 x7_1).f2.f2) ((rd_T59 l1 x7_1).f3) _ _ ((rd_T59 l1 x7_1).f4) _ _ ((rd_T59 l1 x7_1).f5) a2 false _ ?side1 ?side2 ?side3 ?side4 ?side5 ?side6 ?side7 ?side8 A7.out).mono ?_
            (case side1 => repeat (first | exact (Kd.C_below HR0_0.out HB.out) | (with_reducible refine Kd.C_alloc ?_ _) | (with_reducible refine Kd.C_drewN ?_ _) | (with_reducible refine Kd.C_drew ?_)))
            (case side2 => exact HC0_0.out)
            (case side3 => repeat (first | exact (Kd.C_below HR0_1.out HB.out) | (with_reducible refine Kd.C_alloc ?_ _) | (with_reducible refine Kd.C_drewN ?_ _) | (with_reducible refine Kd.C_drew ?_)))
            (case side4 => exact HC0_1.out)
            (case side5 => repeat (first | exact (Kd.C_below HR159_6.out HB.out) | (with_reducible refine Kd.C_alloc ?_ _) | (with_reducible refine Kd.C_drewN ?_ _) | (with_reducible refine Kd.C_drew ?_)))
            (case side6 => exact HC159_6.out)
            (case side7 => repeat (first | exact (Kd.C_below HR159_7.out HB.out) | (with_reducible refine Kd.C_alloc ?_ _) | (with_reducible refine Kd.C_drewN ?_ _) | (with_reducible refine Kd.C_drew ?_)))
            (case side8 => exact HC159_7.out)
            rintro e w12 ⟨rfl, hb⟩
            refine ⟨_, rfl, ?_⟩
            have n0_ := Aside0.mk (blk_below (g := gb158) (o := .cells #[.slice A0_0 l0_0.length c0_0, .slice A0_1 l0_1.length c0_1] 26 (0, 0)) (by (with_reducible repeat (first | refine blk_drewN ?_ _ | refine blk_drew ?_ | refine blk_alloc ?_ _)); exact BK158.out) hb)
            have n1_ := Aside0.mk (below_step (by repeat (first | (with_reducible first | exact HB.out | apply below_alloc | apply pw_below_drewN | apply below_drew1 | refine below_set ?_ GE158.out) | exact HB.out)) hb)
            clear BK158
            clear HB
            have BK158 := n0_
            have HB := n1_
            clear n0_ n1_
            (try clear hb)
            (try clear hb2)
            (try clear hk)
            (try clear hi)
            refine hK.out _ _ ⟨(blk_cell BK158.out 0).trans rfl, (blk_cell BK158.out 1).trans rfl, ((HB.out.cell (World.block_lt_of_cell? w _ hw159_0)).trans hw159_0), ((HB.out.cell (World.block_lt_of_cell? w _ hw159_1)).trans hw159_1), ((HB.out.cell (World.block_lt_of_cell? w _ hw159_2)).trans hw159_2), ((HB.out.cell (World.block_lt_of_cell? w _ hw159_3)).trans hw159_3), ((HB.out.cell (World.block_lt_of_cell? w _ hw159_4)).trans hw159_4), ((HB.out.cell (World.block_lt_of_cell? w _ hw159_5)).trans hw159_5), ((HB.out.cell (World.block_lt_of_cell? w _ hw159_6)).trans hw159_6), ((HB.out.cell (World.block_lt_of_cell? w _ hw159_7)).trans hw159_7)⟩ (fun hHeld => ?_)
            clear hK K
            refine norm_ (a' := ?_) ?_ ?_
            rotate_left
            · show Act.put _ (some 20) _ = _
              simp only [Act.put, List.setIfInBounds_toArray, List.set_cons_zero, List.set_cons_succ, i64_w, i32_w]
              rfl
            refine pure_ (i := 7) (N := some 21) (v := ?_) (a' := ?_) #[true, true, true, true, true, true, true, true] rfl rfl (any_of HT_.out (by kernel_rfl)) (fun _ _ _ h => h) (Or.inl ⟨by rfl, ?_⟩) ?_ ?_
            rotate_left
            · intro w'
              go_simp
              with_reducible rfl
            rotate_left
            · simp only [Act.put, List.setIfInBounds_toArray, List.set_cons_zero, List.set_cons_succ, i64_w, i32_w]
              rfl
            refine done_ (done_of HT_.out (by kernel_rfl)) ?_
            try go_wp2
            go_ret
            exact ⟨by first | rfl | (simp [errW_none, errW_some] <;> rfl) | (simp [*, errW_none, errW_some] <;> rfl), by repeat (first | (with_reducible first | exact HB.out | apply below_alloc | apply pw_below_drewN | apply below_drew1 | refine below_set ?_ GE158.out) | exact HB.out)⟩
        · rw [if_neg c6] at H
          exact absurd H (by simp)
      · rw [if_neg c5] at H
        have c5b0 : decide (x7_1 < (l1.length : Int)) = false := decide_eq_false c5
        clear c5
        obtain rfl := Option.some.inj H
        go_wp2
        go_ret
        exact ⟨by first | rfl | (simp [errW_none, errW_some] <;> rfl) | (simp [*, errW_none, errW_some] <;> rfl), by repeat (first | (with_reducible first | exact HB.out | apply below_alloc | apply pw_below_drewN | apply below_drew1 | refine below_set ?_ GE158.out) | exact HB.out)⟩

def spec_l2Step.f (k : Nat) := spec_l2Step.g k (spec_l2Steps.f k)
theorem spec_l2Step.mono : ∀ a0 a1 a2 a3 a4 a5 a6 a7 a8 a9 a10 k, LeO (spec_l2Step.f k a0 a1 a2 a3 a4 a5 a6 a7 a8 a9 a10) (spec_l2Step.f (k + 1) a0 a1 a2 a3 a4 a5 a6 a7 a8 a9 a10) := fun a0 a1 a2 a3 a4 a5 a6 a7 a8 a9 a10 k => spec_l2Step.mono_g (fun y0 y1 y2 y3 => spec_l2Steps.mono y0 y1 y2 y3 k) a0 a1 a2 a3 a4 a5 a6 a7 a8 a9 a10 k
theorem spec_l2Step.calls (k : Nat) (A0_0 : Option Addr) (c0_0 : Nat) (l0_0 : List (S35)) (A0_1 : Option Addr) (c0_1 : Nat) (l0_1 : List (S59)) (a1_0 : Int) (a1_1 : Int) (a1_2 : Int) (a1_3 : Int) (a1_4 : Int) (a1_5 : Int) (A1_6 : Option Addr) (c1_6 : Nat) (l1_6 : List (S59)) (A1_7 : Option Addr) (c1_7 : Nat) (l1_7 : List (S59)) (a2 : Int) (r : Bool) (w : World) (hr0_0 : Kd.C k35 w A0_0 l0_0.length l0_0) (hc0_0 : l0_0.length ≤ c0_0) (hr0_1 : Kd.C k59 w A0_1 l0_1.length l0_1) (hc0_1 : l0_1.length ≤ c0_1) (hr1_6 : Kd.C k59 w A1_6 l1_6.length l1_6) (hc1_6 : l1_6.length ≤ c1_6) (hr1_7 : Kd.C k59 w A1_7 l1_7.length l1_7) (hc1_7 : l1_7.length ≤ c1_7) (h : spec_l2Step.f k l0_0 l0_1 a1_0 a1_1 a1_2 a1_3 a1_4 a1_5 l1_6 l1_7 a2 = some r) :
    Calls Try.prog 130 #[.agg #[.slice A0_0 l0_0.length c0_0, .slice A0_1 l0_1.length c0_1], .agg #[.int .i64 a1_0, .int .i64 a1_1, .int .i64 a1_2, .int .i64 a1_3, .int .i64 a1_4, .int .i64 a1_5, .slice A1_6 l1_6.length c1_6, .slice A1_7 l1_7.length c1_7], .int .i64 a2] w fun e w' => e = .returned (.bool r) ∧ Below w.heap.size w w' := spec_l2Step.calls_g k (spec_l2Steps.f k) (spec_l2Steps.calls k) A0_0 c0_0 l0_0 A0_1 c0_1 l0_1 a1_0 a1_1 a1_2 a1_3 a1_4 a1_5 A1_6 c1_6 l1_6 A1_7 c1_7 l1_7 a2 r w hr0_0 hc0_0 hr0_1 hc0_1 hr1_6 hc1_6 hr1_7 hc1_7 h

end Go.Proofs.Ytcffnnedghgmaaa.A
