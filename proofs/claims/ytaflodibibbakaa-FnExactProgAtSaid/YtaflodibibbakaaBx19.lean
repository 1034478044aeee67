/- Go functions as Lean functions, and for each its contract; written by wip/tools/pr.py over the kit's print. -/
import Derived.Test.YtaflodibibbakaaBx0
namespace Go.Proofs.Ytaflodibibbakaa.B
open Go.RowKit Go.Proofs.YtaflodibibbakaaW.PrintWords Go.Proofs.YtaflodibibbakaaW.PrintLast Go.Proofs.YtaflodibibbakaaW.PrintMore
attribute [local go_sem] max2_int min2_int max_two min_two max_three min_three max_four min_four
set_option linter.unusedVariables false
set_option linter.unusedSimpArgs false
set_option maxHeartbeats 8000000
set_option maxRecDepth 100000

/-! ### laws_heldStepS: function 61 -/
mutual
def laws_heldStepS.l0 : Nat → List (S50) → Int → Int → Option (Int)
 | 0, _, _, _ => none
 | k + 1, x0, x1, x5 => if x5 < (x0.length : Int) then (if 0 ≤ x5 then (if ((rd_T50 x0 x5).f0) = x1 then (if ((rd_T50 x0 x5).f1) = (wrap64 (x1 + 1)) then (if ((rd_T50 x0 x5).f2.f0) = (wrap64 ((wrap64 (x1 + 1)) + 1)) then (if ((rd_T50 x0 x5).f2.f1) = (wrap64 ((wrap64 ((wrap64 (x1 + 1)) + 1)) + 1)) then (if ((rd_T50 x0 x5).f2.f2) = (wrap64 ((wrap64 ((wrap64 ((wrap64 (x1 + 1)) + 1)) + 1)) + 1)) then (if ((rd_T50 x0 x5).f3) = (wrap64 ((wrap64 ((wrap64 ((wrap64 ((wrap64 (x1 + 1)) + 1)) + 1)) + 1)) + 1)) then ((laws_heldStepS.f k ((rd_T50 x0 x5).f4) (wrap64 ((wrap64 ((wrap64 ((wrap64 ((wrap64 ((wrap64 (x1 + 1)) + 1)) + 1)) + 1)) + 1)) + 1))).bind fun t325 => (if t325 < 0 then (some (-1)) else ((laws_heldStepS.f k ((rd_T50 x0 x5).f5) t325).bind fun t327 => (if t327 < 0 then (some (-1)) else (laws_heldStepS.l0 k x0 t327 (wrap64 (x5 + 1))))))) else (some (-1))) else (some (-1))) else (some (-1))) else (some (-1))) else (some (-1))) else (some (-1))) else (none)) else (some x1)
def laws_heldStepS.f : Nat → List (S50) → Int → Option (Int)
 | 0, _, _ => none
 | k + 1, l0, a1 => laws_heldStepS.l0 k l0 a1 0
end
theorem laws_heldStepS.calls (k : Nat) : ∀ (A0 : Option Addr) (c0 : Nat) (l0 : List (S50)) (a1 : Int) (r : Int) (w : World) (hr0 : Kd.C k50 w A0 l0.length l0) (hc0 : l0.length ≤ c0) (h : laws_heldStepS.f k l0 a1 = some r),
  Calls Try.prog 61 #[.slice A0 l0.length c0, .int .i64 a1] w fun e w' => e = .returned (.int .i64 r) ∧ Drawn0 w w' := by
 induction k using Nat.strongRecOn with
 | _ k ih =>
 intro A0 c0 l0 a1 r w hr0 hc0 h
 cases k with
 | zero => exact absurd h (by simp [laws_heldStepS.f])
 | succ k =>
 simp only [laws_heldStepS.f] at h
 have HR0 := AM hr0
 have HC0 := AM hc0
 clear hr0 hc0
 have H : (laws_heldStepS.l0 k l0 a1 0) = some r := h
 clear h
 have H' := AM H
 clear H
 go_enter Try.func61, Try.ntmps61
 go_wp2
 go_loopg [1, 5] k (fun kq v1 v5 w' => ∃ (x1_1 : Int) (x5_1 : Int), v1 = .int .i64 x1_1 ∧ v5 = .int .i64 x5_1 ∧ Aside0 (laws_heldStepS.l0 kq l0 x1_1 x5_1 = some r) ∧ Aside0 (kq ≤ k) ∧ Drawn0 w w')
 case atStart => exact ⟨(a1), (0), (by first | rfl | (simp; done) | (simp [*]; done)), (by first | rfl | (simp; done) | (simp [*]; done)), H', ⟨Nat.le_refl _⟩, by repeat (first | exact Drawn0.refl _ | apply Drawn0.step)⟩
 case round => (
 clear H'
 try clear p2
 obtain ⟨x1_1, x5_1, rfl, rfl, HA, HK1, ⟨m1, rfl⟩⟩ := hrel
 cases gk with
 | zero => exact absurd HA.out (by simp [laws_heldStepS.l0])
 | succ k1 =>
  have H := HA.out
  clear HA
  simp only [laws_heldStepS.l0] at H
  by_cases c3 : x5_1 < (l0.length : Int)
  focus (
  rw [if_pos c3] at H
  have c3b0 := decide_eq_true c3
  clear c3
  by_cases c4 : 0 ≤ x5_1
  focus (
  rw [if_pos c4] at H
  have c4b0 := decide_eq_true c4
  clear c4
  by_cases c5 : ((rd_T50 l0 x5_1).f0) = x1_1
  focus (
  rw [if_pos c5] at H
  have c5b0 := beq_iff_eq.mpr c5
  have c5b1 := bne_eq_false_iff_eq.mpr c5
  clear c5
  by_cases c6 : ((rd_T50 l0 x5_1).f1) = (wrap64 (x1_1 + 1))
  focus (
  rw [if_pos c6] at H
  have c6b0 := beq_iff_eq.mpr c6
  have c6b1 := bne_eq_false_iff_eq.mpr c6
  clear c6
  by_cases c7 : ((rd_T50 l0 x5_1).f2.f0) = (wrap64 ((wrap64 (x1_1 + 1)) + 1))
  focus (
  rw [if_pos c7] at H
  have c7b0 := beq_iff_eq.mpr c7
  have c7b1 := bne_eq_false_iff_eq.mpr c7
  clear c7
  by_cases c8 : ((rd_T50 l0 x5_1).f2.f1) = (wrap64 ((wrap64 ((wrap64 (x1_1 + 1)) + 1)) + 1))
  focus (
  rw [if_pos c8] at H
  have c8b0 := beq_iff_eq.mpr c8
  have c8b1 := bne_eq_false_iff_eq.mpr c8
  clear c8
  by_cases c9 : ((rd_T50 l0 x5_1).f2.f2) = (wrap64 ((wrap64 ((wrap64 ((wrap64 (x1_1 + 1)) + 1)) + 1)) + 1))
  focus (
  rw [if_pos c9] at H
  have c9b0 := beq_iff_eq.mpr c9
  have c9b1 := bne_eq_false_iff_eq.mpr c9
  clear c9
  by_cases c10 : ((rd_T50 l0 x5_1).f3) = (wrap64 ((wrap64 ((wrap64 ((wrap64 ((wrap64 (x1_1 + 1)) + 1)) + 1)) + 1)) + 1))
  focus (
  rw [if_pos c10] at H
  have c10b0 := beq_iff_eq.mpr c10
  have c10b1 := bne_eq_false_iff_eq.mpr c10
  clear c10
  obtain ⟨t325, A11, H⟩ := ZOB H; try dsimp only at H
  by_cases c12 : t325 < 0
  focus (
  rw [if_pos c12] at H
  have c12b0 := decide_eq_true c12
  clear c12
  obtain rfl := Option.some.inj H
  have tag0_ : Aside0 True := ⟨trivial⟩)
  rotate_left
  focus (
  rw [if_neg c12] at H
  have c12b0 := decide_eq_false c12
  clear c12
  obtain ⟨t327, A13, H⟩ := ZOB H; try dsimp only at H
  by_cases c14 : t327 < 0
  focus (
  rw [if_pos c14] at H
  have c14b0 := decide_eq_true c14
  clear c14
  obtain rfl := Option.some.inj H
  have tag1_ : Aside0 True := ⟨trivial⟩)
  rotate_left
  focus (
  rw [if_neg c14] at H
  have c14b0 := decide_eq_false c14
  clear c14
  have H' := AM H
  clear H
  have tag2_ : Aside0 True := ⟨trivial⟩)
  rotate_left)
  rotate_left 2)
  rotate_left 3
  focus (
  rw [if_neg c10] at H
  have c10b0 := beq_eq_false_iff_ne.mpr c10
  have c10b1 := bne_iff_ne.mpr c10
  obtain rfl := Option.some.inj H
  have tag3_ : Aside0 True := ⟨trivial⟩)
  rotate_left)
  rotate_left 4
  focus (
  rw [if_neg c9] at H
  have c9b0 := beq_eq_false_iff_ne.mpr c9
  have c9b1 := bne_iff_ne.mpr c9
  obtain rfl := Option.some.inj H
  have tag4_ : Aside0 True := ⟨trivial⟩)
  rotate_left)
  rotate_left 5
  focus (
  rw [if_neg c8] at H
  have c8b0 := beq_eq_false_iff_ne.mpr c8
  have c8b1 := bne_iff_ne.mpr c8
  obtain rfl := Option.some.inj H
  have tag5_ : Aside0 True := ⟨trivial⟩)
  rotate_left)
  rotate_left 6
  focus (
  rw [if_neg c7] at H
  have c7b0 := beq_eq_false_iff_ne.mpr c7
  have c7b1 := bne_iff_ne.mpr c7
  obtain rfl := Option.some.inj H
  have tag6_ : Aside0 True := ⟨trivial⟩)
  rotate_left)
  rotate_left 7
  focus (
  rw [if_neg c6] at H
  have c6b0 := beq_eq_false_iff_ne.mpr c6
  have c6b1 := bne_iff_ne.mpr c6
  obtain rfl := Option.some.inj H
  have tag7_ : Aside0 True := ⟨trivial⟩)
  rotate_left)
  rotate_left 8
  focus (
  rw [if_neg c5] at H
  have c5b0 := beq_eq_false_iff_ne.mpr c5
  have c5b1 := bne_iff_ne.mpr c5
  obtain rfl := Option.some.inj H
  have tag8_ : Aside0 True := ⟨trivial⟩)
  rotate_left)
  rotate_left 9
  focus (
  exact ZNE H c4))
  rotate_left 9
  focus (
  rw [if_neg c3] at H
  have c3b0 := decide_eq_false c3
  clear c3
  obtain rfl := Option.some.inj H
  have tag9_ : Aside0 True := ⟨trivial⟩)
  rotate_left
  all_goals (
  first
  | (
  (first | (have z_ := tag0_; clear z_) | (have z_ := tag1_; clear z_) | (have z_ := tag2_; clear z_) | (have z_ := tag3_; clear z_) | (have z_ := tag4_; clear z_) | (have z_ := tag5_; clear z_) | (have z_ := tag6_; clear z_) | (have z_ := tag7_; clear z_) | (have z_ := tag8_; clear z_))
  have pq0 : 0 ≤ (x5_1 : Int) := ZD
  have qq0 : x5_1 < (l0.length : Int) := ZD
  obtain ⟨adq0, Aq0_6, cq0_6, Aq0_7, cq0_7, eq0, hxq0_0, hxq0_1, hxq0_2, hxq0_3, hxq0_4, hxq0_5, hxq0_6, hxq0_7, hlq0_6, hiq0_6, hlq0_7, hiq0_7⟩ := at_T50 HR0.out x5_1 pq0 qq0
  cases eq0
  have HRq0_6 := AM hiq0_6
  have HCq0_6 := AM hlq0_6
  clear hiq0_6 hlq0_6
  have HRq0_7 := AM hiq0_7
  have HCq0_7 := AM hlq0_7
  clear hiq0_7 hlq0_7
  replace pq0 := eq_true pq0
  replace qq0 := eq_true qq0
  first
  | (
  (first | (have z_ := tag0_; clear z_) | (have z_ := tag1_; clear z_) | (have z_ := tag2_; clear z_) | (have z_ := tag3_; clear z_) | (have z_ := tag4_; clear z_) | (have z_ := tag5_; clear z_) | (have z_ := tag6_; clear z_) | (have z_ := tag7_; clear z_))
  have pq1 : 0 ≤ (x5_1 : Int) := ZD
  have qq1 : x5_1 < (l0.length : Int) := ZD
  obtain ⟨adq1, Aq1_6, cq1_6, Aq1_7, cq1_7, eq1, hxq1_0, hxq1_1, hxq1_2, hxq1_3, hxq1_4, hxq1_5, hxq1_6, hxq1_7, hlq1_6, hiq1_6, hlq1_7, hiq1_7⟩ := at_T50 HR0.out x5_1 pq1 qq1
  obtain rfl : adq0 = adq1 := (by injection eq1)
  have HRq1_6 := AM hiq1_6
  have HCq1_6 := AM hlq1_6
  clear hiq1_6 hlq1_6
  have HRq1_7 := AM hiq1_7
  have HCq1_7 := AM hlq1_7
  clear hiq1_7 hlq1_7
  replace pq1 := eq_true pq1
  replace qq1 := eq_true qq1
  have ea_ := Option.some.inj (hxq0_6.symm.trans hxq1_6)
  injection ea_ with ea_ en_ ec_
  subst ea_
  subst ec_
  clear en_
  have ea_ := Option.some.inj (hxq0_7.symm.trans hxq1_7)
  injection ea_ with ea_ en_ ec_
  subst ea_
  subst ec_
  clear en_
  first
  | (
  (first | (have z_ := tag0_; clear z_) | (have z_ := tag1_; clear z_) | (have z_ := tag2_; clear z_) | (have z_ := tag3_; clear z_) | (have z_ := tag4_; clear z_) | (have z_ := tag5_; clear z_) | (have z_ := tag6_; clear z_))
  have pq2 : 0 ≤ (x5_1 : Int) := ZD
  have qq2 : x5_1 < (l0.length : Int) := ZD
  obtain ⟨adq2, Aq2_6, cq2_6, Aq2_7, cq2_7, eq2, hxq2_0, hxq2_1, hxq2_2, hxq2_3, hxq2_4, hxq2_5, hxq2_6, hxq2_7, hlq2_6, hiq2_6, hlq2_7, hiq2_7⟩ := at_T50 HR0.out x5_1 pq2 qq2
  obtain rfl : adq0 = adq2 := (by injection eq2)
  have HRq2_6 := AM hiq2_6
  have HCq2_6 := AM hlq2_6
  clear hiq2_6 hlq2_6
  have HRq2_7 := AM hiq2_7
  have HCq2_7 := AM hlq2_7
  clear hiq2_7 hlq2_7
  replace pq2 := eq_true pq2
  replace qq2 := eq_true qq2
  have ea_ := Option.some.inj (hxq0_6.symm.trans hxq2_6)
  injection ea_ with ea_ en_ ec_
  subst ea_
  subst ec_
  clear en_
  have ea_ := Option.some.inj (hxq0_7.symm.trans hxq2_7)
  injection ea_ with ea_ en_ ec_
  subst ea_
  subst ec_
  clear en_
  first
  | (
  (first | (have z_ := tag0_; clear z_) | (have z_ := tag1_; clear z_) | (have z_ := tag2_; clear z_) | (have z_ := tag3_; clear z_) | (have z_ := tag4_; clear z_) | (have z_ := tag5_; clear z_))
  have pq3 : 0 ≤ (x5_1 : Int) := ZD
  have qq3 : x5_1 < (l0.length : Int) := ZD
  obtain ⟨adq3, Aq3_6, cq3_6, Aq3_7, cq3_7, eq3, hxq3_0, hxq3_1, hxq3_2, hxq3_3, hxq3_4, hxq3_5, hxq3_6, hxq3_7, hlq3_6, hiq3_6, hlq3_7, hiq3_7⟩ := at_T50 HR0.out x5_1 pq3 qq3
  obtain rfl : adq0 = adq3 := (by injection eq3)
  have HRq3_6 := AM hiq3_6
  have HCq3_6 := AM hlq3_6
  clear hiq3_6 hlq3_6
  have HRq3_7 := AM hiq3_7
  have HCq3_7 := AM hlq3_7
  clear hiq3_7 hlq3_7
  replace pq3 := eq_true pq3
  replace qq3 := eq_true qq3
  have ea_ := Option.some.inj (hxq0_6.symm.trans hxq3_6)
  injection ea_ with ea_ en_ ec_
  subst ea_
  subst ec_
  clear en_
  have ea_ := Option.some.inj (hxq0_7.symm.trans hxq3_7)
  injection ea_ with ea_ en_ ec_
  subst ea_
  subst ec_
  clear en_
  first
  | (
  (first | (have z_ := tag0_; clear z_) | (have z_ := tag1_; clear z_) | (have z_ := tag2_; clear z_) | (have z_ := tag3_; clear z_) | (have z_ := tag4_; clear z_))
  have pq4 : 0 ≤ (x5_1 : Int) := ZD
  have qq4 : x5_1 < (l0.length : Int) := ZD
  obtain ⟨adq4, Aq4_6, cq4_6, Aq4_7, cq4_7, eq4, hxq4_0, hxq4_1, hxq4_2, hxq4_3, hxq4_4, hxq4_5, hxq4_6, hxq4_7, hlq4_6, hiq4_6, hlq4_7, hiq4_7⟩ := at_T50 HR0.out x5_1 pq4 qq4
  obtain rfl : adq0 = adq4 := (by injection eq4)
  have HRq4_6 := AM hiq4_6
  have HCq4_6 := AM hlq4_6
  clear hiq4_6 hlq4_6
  have HRq4_7 := AM hiq4_7
  have HCq4_7 := AM hlq4_7
  clear hiq4_7 hlq4_7
  replace pq4 := eq_true pq4
  replace qq4 := eq_true qq4
  have ea_ := Option.some.inj (hxq0_6.symm.trans hxq4_6)
  injection ea_ with ea_ en_ ec_
  subst ea_
  subst ec_
  clear en_
  have ea_ := Option.some.inj (hxq0_7.symm.trans hxq4_7)
  injection ea_ with ea_ en_ ec_
  subst ea_
  subst ec_
  clear en_
  first
  | (
  (first | (have z_ := tag0_; clear z_) | (have z_ := tag1_; clear z_) | (have z_ := tag2_; clear z_) | (have z_ := tag3_; clear z_))
  have pq5 : 0 ≤ (x5_1 : Int) := ZD
  have qq5 : x5_1 < (l0.length : Int) := ZD
  obtain ⟨adq5, Aq5_6, cq5_6, Aq5_7, cq5_7, eq5, hxq5_0, hxq5_1, hxq5_2, hxq5_3, hxq5_4, hxq5_5, hxq5_6, hxq5_7, hlq5_6, hiq5_6, hlq5_7, hiq5_7⟩ := at_T50 HR0.out x5_1 pq5 qq5
  obtain rfl : adq0 = adq5 := (by injection eq5)
  have HRq5_6 := AM hiq5_6
  have HCq5_6 := AM hlq5_6
  clear hiq5_6 hlq5_6
  have HRq5_7 := AM hiq5_7
  have HCq5_7 := AM hlq5_7
  clear hiq5_7 hlq5_7
  replace pq5 := eq_true pq5
  replace qq5 := eq_true qq5
  have ea_ := Option.some.inj (hxq0_6.symm.trans hxq5_6)
  injection ea_ with ea_ en_ ec_
  subst ea_
  subst ec_
  clear en_
  have ea_ := Option.some.inj (hxq0_7.symm.trans hxq5_7)
  injection ea_ with ea_ en_ ec_
  subst ea_
  subst ec_
  clear en_
  first
  | (
  (first | (have z_ := tag0_; clear z_) | (have z_ := tag1_; clear z_) | (have z_ := tag2_; clear z_))
  have pq6 : 0 ≤ (x5_1 : Int) := ZD
  have qq6 : x5_1 < (l0.length : Int) := ZD
  obtain ⟨adq6, Aq6_6, cq6_6, Aq6_7, cq6_7, eq6, hxq6_0, hxq6_1, hxq6_2, hxq6_3, hxq6_4, hxq6_5, hxq6_6, hxq6_7, hlq6_6, hiq6_6, hlq6_7, hiq6_7⟩ := at_T50 HR0.out x5_1 pq6 qq6
  obtain rfl : adq0 = adq6 := (by injection eq6)
  have HRq6_6 := AM hiq6_6
  have HCq6_6 := AM hlq6_6
  clear hiq6_6 hlq6_6
  have HRq6_7 := AM hiq6_7
  have HCq6_7 := AM hlq6_7
  clear hiq6_7 hlq6_7
  replace pq6 := eq_true pq6
  replace qq6 := eq_true qq6
  have ea_ := Option.some.inj (hxq0_6.symm.trans hxq6_6)
  injection ea_ with ea_ en_ ec_
  subst ea_
  subst ec_
  clear en_
  have ea_ := Option.some.inj (hxq0_7.symm.trans hxq6_7)
  injection ea_ with ea_ en_ ec_
  subst ea_
  subst ec_
  clear en_
  first
  | (
  (have z_ := tag0_; clear z_)
  go_wp2_with (first | ((with_reducible refine gate_callee (f := 61) rfl ?_); refine ZGL (some 75) Try.func61 #[.slice Aq0_6 ((rd_T50 l0 x5_1).f4).length cq0_6, .int .i64 (wrap64 ((wrap64 ((wrap64 ((wrap64 ((wrap64 ((wrap64 (x1_1 + 1)) + 1)) + 1)) + 1)) + 1)) + 1))] ?_; (with_reducible refine (ih k1 (by have := HK1.out; omega) _ _ ((rd_T50 l0 x5_1).f4) (wrap64 ((wrap64 ((wrap64 ((wrap64 ((wrap64 ((wrap64 (x1_1 + 1)) + 1)) + 1)) + 1)) + 1)) + 1)) t325 _ ?side1 ?side2 A11.out).mono ?_); (case side1 => exact ZQ HRq6_6.out); (case side2 => exact HCq6_6.out); rintro e w' ⟨rfl, ⟨nd, rfl⟩⟩; refine ⟨_, rfl, ?_⟩))
  go_ret
  exact ⟨by first | rfl | (simp; done) | (simp [*]; done), by repeat (first | exact Drawn0.refl _ | apply Drawn0.step)⟩)
  | (
  (first | (have z_ := tag1_; clear z_) | (have z_ := tag2_; clear z_))
  go_wp2_with (first | ((with_reducible refine gate_callee (f := 61) rfl ?_); refine ZGL (some 75) Try.func61 #[.slice Aq0_6 ((rd_T50 l0 x5_1).f4).length cq0_6, .int .i64 (wrap64 ((wrap64 ((wrap64 ((wrap64 ((wrap64 ((wrap64 (x1_1 + 1)) + 1)) + 1)) + 1)) + 1)) + 1))] ?_; (with_reducible refine (ih k1 (by have := HK1.out; omega) _ _ ((rd_T50 l0 x5_1).f4) (wrap64 ((wrap64 ((wrap64 ((wrap64 ((wrap64 ((wrap64 (x1_1 + 1)) + 1)) + 1)) + 1)) + 1)) + 1)) t325 _ ?side1 ?side2 A11.out).mono ?_); (case side1 => exact ZQ HRq6_6.out); (case side2 => exact HCq6_6.out); rintro e w' ⟨rfl, ⟨nd, rfl⟩⟩; refine ⟨_, rfl, ?_⟩; have pq7 : 0 ≤ (x5_1 : Int) := ZD; have qq7 : x5_1 < (l0.length : Int) := ZD; obtain ⟨adq7, Aq7_6, cq7_6, Aq7_7, cq7_7, eq7, hxq7_0, hxq7_1, hxq7_2, hxq7_3, hxq7_4, hxq7_5, hxq7_6, hxq7_7, hlq7_6, hiq7_6, hlq7_7, hiq7_7⟩ := at_T50 HR0.out x5_1 pq7 qq7; obtain rfl : adq0 = adq7 := (by injection eq7); have HRq7_6 := AM hiq7_6; have HCq7_6 := AM hlq7_6; clear hiq7_6 hlq7_6; have HRq7_7 := AM hiq7_7; have HCq7_7 := AM hlq7_7; clear hiq7_7 hlq7_7; replace pq7 := eq_true pq7; replace qq7 := eq_true qq7; have ea_ := Option.some.inj (hxq0_6.symm.trans hxq7_6); injection ea_ with ea_ en_ ec_; subst ea_; subst ec_; clear en_; have ea_ := Option.some.inj (hxq0_7.symm.trans hxq7_7); injection ea_ with ea_ en_ ec_; subst ea_; subst ec_; clear en_) | ((with_reducible refine gate_callee (f := 61) rfl ?_); refine ZGL (some 84) Try.func61 #[.slice Aq0_7 ((rd_T50 l0 x5_1).f5).length cq0_7, .int .i64 t325] ?_; (with_reducible refine (ih k1 (by have := HK1.out; omega) _ _ ((rd_T50 l0 x5_1).f5) t325 t327 _ ?side1 ?side2 A13.out).mono ?_); (case side1 => exact ZQ HRq7_7.out); (case side2 => exact HCq7_7.out); rintro e w' ⟨rfl, ⟨nd, rfl⟩⟩; refine ⟨_, rfl, ?_⟩))
  first
  | (
  (have z_ := tag1_; clear z_)
  go_ret
  exact ⟨by first | rfl | (simp; done) | (simp [*]; done), by repeat (first | exact Drawn0.refl _ | apply Drawn0.step)⟩)
  | (
  (have z_ := tag2_; clear z_)
  go_roundg k1
  case measure => have := HK1.out; omega
  case rel => exact ⟨(t327), (wrap64 (x5_1 + 1)), (by first | rfl | (simp; done) | (simp [*]; done)), (by first | rfl | (simp; done) | (simp [*]; done)), H', ⟨by have := HK1.out; omega⟩, by repeat (first | exact Drawn0.refl _ | apply Drawn0.step)⟩)))
  | (
  (have z_ := tag3_; clear z_)
  go_wp2
  go_ret
  exact ⟨by first | rfl | (simp; done) | (simp [*]; done), by repeat (first | exact Drawn0.refl _ | apply Drawn0.step)⟩))
  | (
  (have z_ := tag4_; clear z_)
  go_wp2
  go_ret
  exact ⟨by first | rfl | (simp; done) | (simp [*]; done), by repeat (first | exact Drawn0.refl _ | apply Drawn0.step)⟩))
  | (
  (have z_ := tag5_; clear z_)
  go_wp2
  go_ret
  exact ⟨by first | rfl | (simp; done) | (simp [*]; done), by repeat (first | exact Drawn0.refl _ | apply Drawn0.step)⟩))
  | (
  (have z_ := tag6_; clear z_)
  go_wp2
  go_ret
  exact ⟨by first | rfl | (simp; done) | (simp [*]; done), by repeat (first | exact Drawn0.refl _ | apply Drawn0.step)⟩))
  | (
  (have z_ := tag7_; clear z_)
  go_wp2
  go_ret
  exact ⟨by first | rfl | (simp; done) | (simp [*]; done), by repeat (first | exact Drawn0.refl _ | apply Drawn0.step)⟩))
  | (
  (have z_ := tag8_; clear z_)
  go_wp2
  go_ret
  exact ⟨by first | rfl | (simp; done) | (simp [*]; done), by repeat (first | exact Drawn0.refl _ | apply Drawn0.step)⟩))
  | (
  (have z_ := tag9_; clear z_)
  go_wp2
  go_ret
  exact ⟨by first | rfl | (simp; done) | (simp [*]; done), by repeat (first | exact Drawn0.refl _ | apply Drawn0.step)⟩
  )))
/-! ### laws_heldStep: function 33 -/
def laws_heldStep.f (k : Nat) (a0_0 : Int) (a0_1 : Int) (a0_2 : Int) (a0_3 : Int) (a0_4 : Int) (a0_5 : Int) (l0_6 : List (S50)) (l0_7 : List (S50)) (a1 : Int) : Option (Int) := (laws_heldStepS.f k l0_6 a1).bind fun t329 => (if t329 < 0 then (some (-1)) else ((laws_heldStepS.f k l0_7 t329).bind fun t330 => (if t330 < 0 then (some (-1)) else (some t330))))
theorem laws_heldStep.calls (k : Nat) (a0_0 : Int) (a0_1 : Int) (a0_2 : Int) (a0_3 : Int) (a0_4 : Int) (a0_5 : Int) (A0_6 : Option Addr) (c0_6 : Nat) (l0_6 : List (S50)) (A0_7 : Option Addr) (c0_7 : Nat) (l0_7 : List (S50)) (a1 : Int) (r : Int) (w : World) (hr0_6 : Kd.C k50 w A0_6 l0_6.length l0_6) (hc0_6 : l0_6.length ≤ c0_6) (hr0_7 : Kd.C k50 w A0_7 l0_7.length l0_7) (hc0_7 : l0_7.length ≤ c0_7) (h : laws_heldStep.f k a0_0 a0_1 a0_2 a0_3 a0_4 a0_5 l0_6 l0_7 a1 = some r) :
  Calls Try.prog 33 #[.agg #[.int .i64 a0_0, .int .i64 a0_1, .int .i64 a0_2, .int .i64 a0_3, .int .i64 a0_4, .int .i64 a0_5, .slice A0_6 l0_6.length c0_6, .slice A0_7 l0_7.length c0_7], .int .i64 a1] w fun e w' => e = .returned (.int .i64 r) ∧ Below w.heap.size w w' := by
 have hu50 := Try.underlying50
 have HR0_6 := AM hr0_6
 have HC0_6 := AM hc0_6
 clear hr0_6 hc0_6
 have HR0_7 := AM hr0_7
 have HC0_7 := AM hc0_7
 clear hr0_7 hc0_7
 have HB := AM (Below.refl w.heap.size w)
 have H := h
 unfold laws_heldStep.f at H
 clear h
 obtain ⟨t329, A3, H⟩ := ZOB H; try dsimp only at H
 by_cases c4 : t329 < 0
 focus (
 rw [if_pos c4] at H
 have c4b0 := decide_eq_true c4
 clear c4
 obtain rfl := Option.some.inj H
 have tag0_ : Aside0 True := ⟨trivial⟩)
 rotate_left
 focus (
 rw [if_neg c4] at H
 have c4b0 := decide_eq_false c4
 clear c4
 obtain ⟨t330, A7, H⟩ := ZOB H; try dsimp only at H
 by_cases c8 : t330 < 0
 focus (
 rw [if_pos c8] at H
 have c8b0 := decide_eq_true c8
 clear c8
 obtain rfl := Option.some.inj H
 have tag1_ : Aside0 True := ⟨trivial⟩)
 rotate_left
 focus (
 rw [if_neg c8] at H
 have c8b0 := decide_eq_false c8
 clear c8
 obtain rfl := Option.some.inj H
 have tag2_ : Aside0 True := ⟨trivial⟩)
 rotate_left)
 rotate_left 2
 all_goals (
 go_enter Try.func33, Try.ntmps33
 first
 | (
 (have z_ := tag0_; clear z_)
 go_wp2_with (first | ((with_reducible refine gate_dst (N := 2) rfl ?_); refine ZX (N := 2) (cs := #[.int .i64 a0_0, .int .i64 a0_1, .int .i64 a0_2, .int .i64 a0_3, .int .i64 a0_4, .int .i64 a0_5, .slice A0_6 l0_6.length c0_6, .slice A0_7 l0_7.length c0_7]) (t := 50) ?_; intro gbq0 hg wq0 hbox hb; have BKq0 := AM (hbox); have GWq0 : Aside0 (w.heap.size ≤ gbq0) := ZS hg; have GEq0 : Aside0 (w.heap.size ≤ gbq0) := ZS hg; replace HB := ZT HB hb; clear hb hbox hg; have hczq0 := ZC8 wq0 BKq0; have hfzq0 := ZF8 BKq0) | ((with_reducible refine gate_callee (f := 61) rfl ?_); refine ZGL (some 8) Try.func61 #[.slice A0_6 l0_6.length c0_6, .int .i64 a1] ?_; (with_reducible refine (laws_heldStepS.calls k _ _ l0_6 a1 t329 _ ?side1 ?side2 A3.out).mono ?_); (case side1 => exact ZQ (Kd.C_below HR0_6.out HB.out)); (case side2 => exact HC0_6.out); rintro e w' ⟨rfl, ⟨nd, rfl⟩⟩; refine ⟨_, rfl, ?_⟩))
 go_ret
 exact ⟨ZE, ZB⟩)
 | (
 (first | (have z_ := tag1_; clear z_) | (have z_ := tag2_; clear z_))
 go_wp2_with (first | ((with_reducible refine gate_dst (N := 2) rfl ?_); refine ZX (N := 2) (cs := #[.int .i64 a0_0, .int .i64 a0_1, .int .i64 a0_2, .int .i64 a0_3, .int .i64 a0_4, .int .i64 a0_5, .slice A0_6 l0_6.length c0_6, .slice A0_7 l0_7.length c0_7]) (t := 50) ?_; intro gbq0 hg wq0 hbox hb; have BKq0 := AM (hbox); have GWq0 : Aside0 (w.heap.size ≤ gbq0) := ZS hg; have GEq0 : Aside0 (w.heap.size ≤ gbq0) := ZS hg; replace HB := ZT HB hb; clear hb hbox hg; have hczq0 := ZC8 wq0 BKq0; have hfzq0 := ZF8 BKq0) | ((with_reducible refine gate_callee (f := 61) rfl ?_); refine ZGL (some 8) Try.func61 #[.slice A0_6 l0_6.length c0_6, .int .i64 a1] ?_; (with_reducible refine (laws_heldStepS.calls k _ _ l0_6 a1 t329 _ ?side1 ?side2 A3.out).mono ?_); (case side1 => exact ZQ (Kd.C_below HR0_6.out HB.out)); (case side2 => exact HC0_6.out); rintro e w' ⟨rfl, ⟨nd, rfl⟩⟩; refine ⟨_, rfl, ?_⟩) | ((with_reducible refine gate_callee (f := 61) rfl ?_); refine ZGL (some 14) Try.func61 #[.slice A0_7 l0_7.length c0_7, .int .i64 t329] ?_; (with_reducible refine (laws_heldStepS.calls k _ _ l0_7 t329 t330 _ ?side1 ?side2 A7.out).mono ?_); (case side1 => repeat (first | exact (Kd.C_below HR0_7.out (ZB)) | (with_reducible refine Kd.C_alloc ?_ _) | (with_reducible refine Kd.C_drewN ?_ _) | (with_reducible refine Kd.C_drew ?_))); (case side2 => exact HC0_7.out); rintro e w' ⟨rfl, ⟨nd, rfl⟩⟩; refine ⟨_, rfl, ?_⟩))
 go_ret
 exact ⟨ZE, ZB⟩))

end Go.Proofs.Ytaflodibibbakaa.B
