/- Go functions as Lean functions, and for each its contract; written by wip/tools/pr.py over the kit's print. -/
import Derived.Test.YtfcmckomagaiiaaDoorAx0
import Derived.Test.YtfcmckomagaiiaaDoorAx5
namespace Go.Proofs.YtfcmckomagaiiaaDoor.A
open Go.RowKit Go.Proofs.YtfcmckomagaiiaaDoorW.PrintWords Go.Proofs.YtfcmckomagaiiaaDoorW.PrintLast Go.Proofs.YtfcmckomagaiiaaDoorW.PrintMore
attribute [local go_sem] max2_int min2_int max_two min_two max_three min_three max_four min_four
set_option linter.unusedVariables false
set_option linter.unusedSimpArgs false
set_option maxHeartbeats 8000000
set_option maxRecDepth 100000

/-! ### spec_l71Without: function 71 -/
mutual
def spec_l71Without.l0 : Nat → List (S71) → Int → List (S71) → Int → Option ((List (S71)))
 | 0, _, _, _, _ => none
 | k + 1, x0, x1, x5, x6 => if x6 < (x0.length : Int) then (if 0 ≤ x6 then (if x1 = 0 then (spec_l71Without.l0 k x0 (-1) x5 (wrap64 (x6 + 1))) else ((spec_l2Count.f k ((D71 x0 x6).f4)).bind fun t465 => ((spec_l2Count.f k ((D71 x0 x6).f5)).bind fun t466 => (if x1 > 0 then (if x1 < (wrap64 ((wrap64 (1 + t465)) + t466)) then ((spec_l2Count.f k ((D71 x0 x6).f4)).bind fun t467 => (if (wrap64 (x1 - 1)) < t467 then ((spec_l71Without.f k ((D71 x0 x6).f4) (wrap64 (x1 - 1))).bind fun t468 => (if x5.length < 1466015503701 then (spec_l71Without.l0 k x0 (-1) (x5 ++ [(⟨(D71 x0 x6).f0, (D71 x0 x6).f1, (⟨(D71 x0 x6).f2.f0, (D71 x0 x6).f2.f1, (D71 x0 x6).f2.f2⟩ : S69), (D71 x0 x6).f3, t468, (D71 x0 x6).f5⟩ : S71)]) (wrap64 (x6 + 1))) else (none))) else ((spec_l71Without.f k ((D71 x0 x6).f5) (wrap64 ((wrap64 (x1 - 1)) - t467))).bind fun t474 => (if x5.length < 1466015503701 then (spec_l71Without.l0 k x0 (-1) (x5 ++ [(⟨(D71 x0 x6).f0, (D71 x0 x6).f1, (⟨(D71 x0 x6).f2.f0, (D71 x0 x6).f2.f1, (D71 x0 x6).f2.f2⟩ : S69), (D71 x0 x6).f3, (D71 x0 x6).f4, t474⟩ : S71)]) (wrap64 (x6 + 1))) else (none))))) else (if x1 ≥ (wrap64 ((wrap64 (1 + t465)) + t466)) then (if x5.length < 1466015503701 then (spec_l71Without.l0 k x0 (wrap64 (x1 - (wrap64 ((wrap64 (1 + t465)) + t466)))) (x5 ++ [(⟨(D71 x0 x6).f0, (D71 x0 x6).f1, (⟨(D71 x0 x6).f2.f0, (D71 x0 x6).f2.f1, (D71 x0 x6).f2.f2⟩ : S69), (D71 x0 x6).f3, (D71 x0 x6).f4, (D71 x0 x6).f5⟩ : S71)]) (wrap64 (x6 + 1))) else (none)) else (if x5.length < 1466015503701 then (spec_l71Without.l0 k x0 x1 (x5 ++ [(⟨(D71 x0 x6).f0, (D71 x0 x6).f1, (⟨(D71 x0 x6).f2.f0, (D71 x0 x6).f2.f1, (D71 x0 x6).f2.f2⟩ : S69), (D71 x0 x6).f3, (D71 x0 x6).f4, (D71 x0 x6).f5⟩ : S71)]) (wrap64 (x6 + 1))) else (none)))) else (if x1 ≥ (wrap64 ((wrap64 (1 + t465)) + t466)) then (if x5.length < 1466015503701 then (spec_l71Without.l0 k x0 (wrap64 (x1 - (wrap64 ((wrap64 (1 + t465)) + t466)))) (x5 ++ [(⟨(D71 x0 x6).f0, (D71 x0 x6).f1, (⟨(D71 x0 x6).f2.f0, (D71 x0 x6).f2.f1, (D71 x0 x6).f2.f2⟩ : S69), (D71 x0 x6).f3, (D71 x0 x6).f4, (D71 x0 x6).f5⟩ : S71)]) (wrap64 (x6 + 1))) else (none)) else (if x5.length < 1466015503701 then (spec_l71Without.l0 k x0 x1 (x5 ++ [(⟨(D71 x0 x6).f0, (D71 x0 x6).f1, (⟨(D71 x0 x6).f2.f0, (D71 x0 x6).f2.f1, (D71 x0 x6).f2.f2⟩ : S69), (D71 x0 x6).f3, (D71 x0 x6).f4, (D71 x0 x6).f5⟩ : S71)]) (wrap64 (x6 + 1))) else (none))))))) else (none)) else (some x5)
def spec_l71Without.f : Nat → List (S71) → Int → Option ((List (S71)))
 | 0, _, _ => none
 | k + 1, l0, a1 => spec_l71Without.l0 k l0 a1 (([] : List (S71))) 0
end
def spec_l71Without.T8 : Bool × List (List Nat × List Nat) := (true, [([], []), ([0], [0]), ([1], [1]), ([2], [2]), ([], []), ([4], [4]), ([5, 2], [5]), ([3, 6], [3, 6]), ([7, 6, 0, 1, 2, 3, 4, 5, 6, 7], [7])])
def spec_l71Without.B8 : List Nat := [0, 1, 3, 7, 0, 16, 55, 127, 255]
theorem spec_l71Without.tab8 : rtab .any (opsOf Tryd.f71 8) = spec_l71Without.T8 := by kernel_rfl
theorem spec_l71Without.bits8 : waitsOk spec_l71Without.T8.2 spec_l71Without.B8 = true := by kernel_rfl
theorem spec_l71Without.calls (k : Nat) : ∀ (P0_ : Nat → Prop) (A0 : Option Addr) (c0 : Nat) (l0 : List (S71)) (a1 : Int) (r : List (S71)) (w : World) (hs0 : Kd.V k71 71 w w.heap.size (fun k_ => P0_ k_) (.slice A0 l0.length c0) l0) (h : spec_l71Without.f k l0 a1 = some r),
  Calls Tryd.prog 71 #[.slice A0 l0.length c0, .int .i64 a1] w fun e w' => ∃ v0_ : Value, e = .returned (v0_) ∧ Kd.N k71 71 w' w.heap.size (fun k_ => (P0_ k_ ∨ w.heap.size ≤ k_)) v0_ r ∧ Below w.heap.size w w' := by
 induction k using Nat.strongRecOn with
 | _ k ih =>
 intro P0_ A0 c0 l0 a1 r w hs0 h
 cases k with
 | zero => exact absurd h (by simp [spec_l71Without.f])
 | succ k =>
 simp only [spec_l71Without.f] at h
 have hu71 := Tryd.underlying71
 have HO0 := AM (show Kd.V k71 71 w w.heap.size (fun k_ => (P0_ k_ ∨ w.heap.size ≤ k_)) (.slice A0 l0.length c0) l0 from Kd.V_mono hs0 (fun k_ hk => .inl hk))
 have HB := AM (Below.refl w.heap.size w)
 have H : (spec_l71Without.l0 k l0 a1 (([] : List (S71))) 0) = some r := h
 clear h
 obtain ⟨y460, hy460⟩ : ∃ y_ : List (S71), y_ = (([] : List (S71))) := ⟨_, rfl⟩
 replace H : (spec_l71Without.l0 k l0 a1 y460 0) = some r := by rw [hy460]; exact H
 have Ny460 := AM hy460
 clear hy460
 have H' := AM H
 clear H
 go_enter Tryd.func71, Tryd.ntmps71
 go_wp2_with (first | ((with_reducible refine gate_dst (N := 10) rfl ?_); refine Kd.N_lit k71 _ 71 ?hg (N' := 10) ?hd (xs := ([] : List (S71))) (inner := []) (ok := (fun k_ => (P0_ k_ ∨ w.heap.size ≤ k_))) (okp := (fun k_ => (P0_ k_ ∨ w.heap.size ≤ k_))) ?hr ?hp (fun _ hk => hk) ((show ∀ k_, w.heap.size ≤ k_ → (fun k_ => (P0_ k_ ∨ w.heap.size ≤ k_)) k_ from fun k_ hk => (.inr (Nat.le_trans (below_size (ZB)) hk))) _ (Nat.le_refl _)) (Below.refl _ _) (Nat.le_refl _) (by simp) ?_; (case hd => rfl); (case hg => rfl); (case hr => first | (go_simp; done) | (go_simp; rfl)); (case hp => exact (Reps.none _ _)); intro v461 w3 ho4 hb hg_ hnew_; clear hg_ hnew_; (first | rw [← Ny460.out] at ho4 | (simp only [Int.reduceToNat] at ho4; rw [← Ny460.out] at ho4)); have HO462 := AM (Kd.N_lower ho4 (below_size (ZB))); replace HO0 := AM (Kd.V_elder' (ZRV HO0.out) (Kd.N_base ho4) hb); replace HB := ZT HB hb; clear hb ho4))
 go_loopg [1, 5, 6] k (fun kq v1 v5 v6 w' => ∃ (x1_1 : Int) (x5_1 : List (S71)) (x6_1 : Int), v1 = .int .i64 x1_1 ∧ v6 = .int .i64 x6_1 ∧ Za (spec_l71Without.l0 kq l0 x1_1 x5_1 x6_1 = some r) ∧ Za (kq ≤ k) ∧ Za (Kd.V k71 71 w' w.heap.size (fun k_ => (P0_ k_ ∨ w.heap.size ≤ k_) ∧ some k_ ≠ (v5 : Value).ownBlock) (.slice A0 l0.length c0) l0) ∧ Za (Kd.N k71 71 w' w.heap.size (fun k_ => (P0_ k_ ∨ w.heap.size ≤ k_)) v5 x5_1) ∧ Za (Below w.heap.size w w'))
 case atStart => exact ⟨(a1), (y460), (0), ZSM, ZSM, H', ⟨Nat.le_refl _⟩, ⟨ZRV HO0.out⟩, ⟨ZRN HO462.out⟩, ⟨ZB⟩⟩
 case round => (
 clear H'
 try clear p2
 obtain ⟨x1_1, x5_1, x6_1, rfl, rfl, HA, HK1, HO_0, HO_5, HB⟩ := hrel
 cases gk with
 | zero => exact absurd HA.out (by simp [spec_l71Without.l0])
 | succ k1 =>
  have H := HA.out
  clear HA
  simp only [spec_l71Without.l0] at H
  by_cases c5 : x6_1 < (l0.length : Int)
  focus (
  rw [if_pos c5] at H
  have c5b0 := decide_eq_true c5
  clear c5
  by_cases c6 : 0 ≤ x6_1
  focus (
  rw [if_pos c6] at H
  have c6b0 := decide_eq_true c6
  clear c6
  by_cases c7 : x1_1 = 0
  focus (
  rw [if_pos c7] at H
  have c7b0 := beq_iff_eq.mpr c7
  have c7b1 := bne_eq_false_iff_eq.mpr c7
  clear c7
  have H' := AM H
  clear H
  have tag0_ : Za True := ⟨trivial⟩)
  rotate_left
  focus (
  rw [if_neg c7] at H
  have c7b0 := beq_eq_false_iff_ne.mpr c7
  have c7b1 := bne_iff_ne.mpr c7
  obtain ⟨t465, A10, H⟩ := ZOB H; try dsimp only at H
  obtain ⟨t466, A11, H⟩ := ZOB H; try dsimp only at H
  by_cases c12 : x1_1 > 0
  focus (
  rw [if_pos c12] at H
  have c12b0 := decide_eq_true c12
  clear c12
  by_cases c13 : x1_1 < (wrap64 ((wrap64 (1 + t465)) + t466))
  focus (
  rw [if_pos c13] at H
  have c13b0 := decide_eq_true c13
  clear c13
  obtain ⟨t467, A14, H⟩ := ZOB H; try dsimp only at H
  by_cases c15 : (wrap64 (x1_1 - 1)) < t467
  focus (
  rw [if_pos c15] at H
  have c15b0 := decide_eq_true c15
  clear c15
  obtain ⟨t468, A16, H⟩ := ZOB H; try dsimp only at H
  by_cases c17 : x5_1.length < 1466015503701
  focus (
  rw [if_pos c17] at H
  have LMc17 := AM c17
  clear c17
  obtain ⟨y471, hy471⟩ : ∃ y_ : List (S71), y_ = (x5_1 ++ [(⟨(D71 l0 x6_1).f0, (D71 l0 x6_1).f1, (⟨(D71 l0 x6_1).f2.f0, (D71 l0 x6_1).f2.f1, (D71 l0 x6_1).f2.f2⟩ : S69), (D71 l0 x6_1).f3, t468, (D71 l0 x6_1).f5⟩ : S71)]) := ⟨_, rfl⟩
  replace H : (spec_l71Without.l0 k1 l0 (-1) y471 (wrap64 (x6_1 + 1))) = some r := by rw [hy471]; exact H
  have Ny471 := AM hy471
  clear hy471
  have H' := AM H
  clear H
  have tag1_ : Za True := ⟨trivial⟩)
  rotate_left
  focus (
  exact ZNE H c17))
  rotate_left
  focus (
  rw [if_neg c15] at H
  have c15b0 := decide_eq_false c15
  clear c15
  obtain ⟨t474, A33, H⟩ := ZOB H; try dsimp only at H
  by_cases c34 : x5_1.length < 1466015503701
  focus (
  rw [if_pos c34] at H
  have LMc34 := AM c34
  clear c34
  obtain ⟨y477, hy477⟩ : ∃ y_ : List (S71), y_ = (x5_1 ++ [(⟨(D71 l0 x6_1).f0, (D71 l0 x6_1).f1, (⟨(D71 l0 x6_1).f2.f0, (D71 l0 x6_1).f2.f1, (D71 l0 x6_1).f2.f2⟩ : S69), (D71 l0 x6_1).f3, (D71 l0 x6_1).f4, t474⟩ : S71)]) := ⟨_, rfl⟩
  replace H : (spec_l71Without.l0 k1 l0 (-1) y477 (wrap64 (x6_1 + 1))) = some r := by rw [hy477]; exact H
  have Ny477 := AM hy477
  clear hy477
  have H' := AM H
  clear H
  have tag2_ : Za True := ⟨trivial⟩)
  rotate_left
  focus (
  exact ZNE H c34))
  rotate_left)
  rotate_left 2
  focus (
  rw [if_neg c13] at H
  have c13b0 := decide_eq_false c13
  clear c13
  by_cases c50 : x1_1 ≥ (wrap64 ((wrap64 (1 + t465)) + t466))
  focus (
  rw [if_pos c50] at H
  have c50b0 := decide_eq_true c50
  clear c50
  by_cases c51 : x5_1.length < 1466015503701
  focus (
  rw [if_pos c51] at H
  have LMc51 := AM c51
  clear c51
  obtain ⟨y480, hy480⟩ : ∃ y_ : List (S71), y_ = (x5_1 ++ [(⟨(D71 l0 x6_1).f0, (D71 l0 x6_1).f1, (⟨(D71 l0 x6_1).f2.f0, (D71 l0 x6_1).f2.f1, (D71 l0 x6_1).f2.f2⟩ : S69), (D71 l0 x6_1).f3, (D71 l0 x6_1).f4, (D71 l0 x6_1).f5⟩ : S71)]) := ⟨_, rfl⟩
  replace H : (spec_l71Without.l0 k1 l0 (wrap64 (x1_1 - (wrap64 ((wrap64 (1 + t465)) + t466)))) y480 (wrap64 (x6_1 + 1))) = some r := by rw [hy480]; exact H
  have Ny480 := AM hy480
  clear hy480
  have H' := AM H
  clear H
  have tag3_ : Za True := ⟨trivial⟩)
  rotate_left
  focus (
  exact ZNE H c51))
  rotate_left
  focus (
  rw [if_neg c50] at H
  have c50b0 := decide_eq_false c50
  clear c50
  by_cases c60 : x5_1.length < 1466015503701
  focus (
  rw [if_pos c60] at H
  have LMc60 := AM c60
  clear c60
  obtain ⟨y483, hy483⟩ : ∃ y_ : List (S71), y_ = (x5_1 ++ [(⟨(D71 l0 x6_1).f0, (D71 l0 x6_1).f1, (⟨(D71 l0 x6_1).f2.f0, (D71 l0 x6_1).f2.f1, (D71 l0 x6_1).f2.f2⟩ : S69), (D71 l0 x6_1).f3, (D71 l0 x6_1).f4, (D71 l0 x6_1).f5⟩ : S71)]) := ⟨_, rfl⟩
  replace H : (spec_l71Without.l0 k1 l0 x1_1 y483 (wrap64 (x6_1 + 1))) = some r := by rw [hy483]; exact H
  have Ny483 := AM hy483
  clear hy483
  have H' := AM H
  clear H
  have tag4_ : Za True := ⟨trivial⟩)
  rotate_left
  focus (
  exact ZNE H c60))
  rotate_left)
  rotate_left 2)
  rotate_left 4
  focus (
  rw [if_neg c12] at H
  have c12b0 := decide_eq_false c12
  clear c12
  by_cases c69 : x1_1 ≥ (wrap64 ((wrap64 (1 + t465)) + t466))
  focus (
  rw [if_pos c69] at H
  have c69b0 := decide_eq_true c69
  clear c69
  by_cases c70 : x5_1.length < 1466015503701
  focus (
  rw [if_pos c70] at H
  have LMc70 := AM c70
  clear c70
  obtain ⟨y486, hy486⟩ : ∃ y_ : List (S71), y_ = (x5_1 ++ [(⟨(D71 l0 x6_1).f0, (D71 l0 x6_1).f1, (⟨(D71 l0 x6_1).f2.f0, (D71 l0 x6_1).f2.f1, (D71 l0 x6_1).f2.f2⟩ : S69), (D71 l0 x6_1).f3, (D71 l0 x6_1).f4, (D71 l0 x6_1).f5⟩ : S71)]) := ⟨_, rfl⟩
  replace H : (spec_l71Without.l0 k1 l0 (wrap64 (x1_1 - (wrap64 ((wrap64 (1 + t465)) + t466)))) y486 (wrap64 (x6_1 + 1))) = some r := by rw [hy486]; exact H
  have Ny486 := AM hy486
  clear hy486
  have H' := AM H
  clear H
  have tag5_ : Za True := ⟨trivial⟩)
  rotate_left
  focus (
  exact ZNE H c70))
  rotate_left
  focus (
  rw [if_neg c69] at H
  have c69b0 := decide_eq_false c69
  clear c69
  by_cases c79 : x5_1.length < 1466015503701
  focus (
  rw [if_pos c79] at H
  have LMc79 := AM c79
  clear c79
  obtain ⟨y489, hy489⟩ : ∃ y_ : List (S71), y_ = (x5_1 ++ [(⟨(D71 l0 x6_1).f0, (D71 l0 x6_1).f1, (⟨(D71 l0 x6_1).f2.f0, (D71 l0 x6_1).f2.f1, (D71 l0 x6_1).f2.f2⟩ : S69), (D71 l0 x6_1).f3, (D71 l0 x6_1).f4, (D71 l0 x6_1).f5⟩ : S71)]) := ⟨_, rfl⟩
  replace H : (spec_l71Without.l0 k1 l0 x1_1 y489 (wrap64 (x6_1 + 1))) = some r := by rw [hy489]; exact H
  have Ny489 := AM hy489
  clear hy489
  have H' := AM H
  clear H
  have tag6_ : Za True := ⟨trivial⟩)
  rotate_left
  focus (
  exact ZNE H c79))
  rotate_left)
  rotate_left 2)
  rotate_left 6)
  rotate_left 7
  focus (
  exact ZNE H c6))
  rotate_left 7
  focus (
  rw [if_neg c5] at H
  have c5b0 := decide_eq_false c5
  clear c5
  obtain rfl := Option.some.inj H
  have tag7_ : Za True := ⟨trivial⟩)
  rotate_left
  all_goals (
  first
  | (
  (first | (have z_ := tag0_; clear z_) | (have z_ := tag1_; clear z_) | (have z_ := tag2_; clear z_) | (have z_ := tag3_; clear z_) | (have z_ := tag4_; clear z_) | (have z_ := tag5_; clear z_) | (have z_ := tag6_; clear z_))
  have pq0 : 0 ≤ (x6_1 : Int) := ZD
  have qq0 : x6_1 < (l0.length : Int) := ZD
  obtain ⟨adq0, Aq0_6, cq0_6, Aq0_7, cq0_7, eq0, hxq0_0, hxq0_1, hxq0_2, hxq0_3, hxq0_4, hxq0_5, hxq0_6, hxq0_7, hlq0_6, hiq0_6, hlq0_7, hiq0_7⟩ := at_T71 (Kd.V_reads' HO_0.out).2.2 x6_1 pq0 qq0
  cases eq0
  obtain ⟨ceq0, hceq0, hMeq0, hccq0⟩ := Kd.V_get HO_0.out z71 x6_1 pq0 (by first | exact qq0 | exact ZD | (have e_ := (Kd.V_reads' HO_0.out).1; omega))
  obtain ⟨uaq0_6, ucq0_6, uaq0_7, ucq0_7, rfl, ulq0_6, geq0_6, ulq0_7, geq0_7⟩ := k71_openF hMeq0
  have hvq0_6 := hccq0 6 _ rfl
  rw [add_field _ _ 6 (by omega)] at hvq0_6
  replace hvq0_6 := Option.some.inj (hvq0_6.symm.trans hxq0_6)
  injection hvq0_6 with hva_ hvn_ hvc_
  rw [hva_] at geq0_6
  rw [hvc_] at ulq0_6
  have HLq0_6 := AM (show Kd.V k71 71 _ w.heap.size _ _ ((D71 l0 x6_1).f4) from Kd.V_mk ulq0_6 geq0_6)
  clear hva_ hvn_ hvc_ geq0_6 ulq0_6
  have hvq0_7 := hccq0 7 _ rfl
  rw [add_field _ _ 7 (by omega)] at hvq0_7
  replace hvq0_7 := Option.some.inj (hvq0_7.symm.trans hxq0_7)
  injection hvq0_7 with hva_ hvn_ hvc_
  rw [hva_] at geq0_7
  rw [hvc_] at ulq0_7
  have HLq0_7 := AM (show Kd.V k71 71 _ w.heap.size _ _ ((D71 l0 x6_1).f5) from Kd.V_mk ulq0_7 geq0_7)
  clear hva_ hvn_ hvc_ geq0_7 ulq0_7 hccq0 hceq0
  have HRq0_6 := AM hiq0_6
  have HCq0_6 := AM hlq0_6
  clear hiq0_6 hlq0_6
  have HRq0_7 := AM hiq0_7
  have HCq0_7 := AM hlq0_7
  clear hiq0_7 hlq0_7
  replace pq0 := eq_true pq0
  replace qq0 := eq_true qq0
  first
  | (
  (have z_ := tag0_; clear z_)
  go_wp2_with (first | ((with_reducible refine gate_dst (N := 7) rfl ?_); refine ZX (N := 7) (cs := #[.int .i64 0, .int .i64 0, .int .i64 0, .int .i64 0, .int .i64 0, .int .i64 0, .slice none 0 0, .slice none 0 0]) (t := 71) ?_; intro gbq0 hg wq0 hbox hb; have n0_ := AM (Kd.V_below (Kd.V_elderB (ZRV HO_0.out) gbq0 (Nat.le_of_eq hg.symm)) hb); have n1_ := AM (Kd.N_below (Kd.N_elderB (ZRN HO_5.out) gbq0 (Nat.le_of_eq hg.symm)) hb); have n2_ := AM (Kd.V_below (Kd.V_elderB (ZRV HLq0_6.out) gbq0 (Nat.le_of_eq hg.symm)) hb); have nq0_ := AM (Kd.V_below (Kd.V_elderB (ZRV HLq0_7.out) gbq0 (Nat.le_of_eq hg.symm)) hb); have nq1_ := AM (Kd.C_below (ZQ HRq0_6.out) hb); have nq2_ := AM (Kd.C_below (ZQ HRq0_7.out) hb); have nq3_ := ZT HB hb; have nq4_ := AM (hbox); have nq5_ : Za (w.heap.size ≤ gbq0) := ZS hg; have nq6_ : Za (w.heap.size ≤ gbq0) := ZS hg; clear HO_0 HO_5 HLq0_6 HLq0_7 HRq0_6 HRq0_7 HB; have HO_0 := n0_; have HO_5 := n1_; have HLq0_6 := n2_; have HLq0_7 := nq0_; have HRq0_6 := nq1_; have HRq0_7 := nq2_; have HB := nq3_; have BKq0 := nq4_; have GWq0 := nq5_; have GEq0 := nq6_; clear n0_ n1_ n2_ nq0_ nq1_ nq2_ nq3_ nq4_ nq5_ nq6_ hb hbox hg; have hczq0 := ZC8 wq0 BKq0))
  go_roundg k1
  case measure => have := HK1.out; omega
  case rel => exact ⟨((-1)), (x5_1), (wrap64 (x6_1 + 1)), ZSM, ZSM, H', ⟨by have := HK1.out; omega⟩, ⟨ZVf (Kd.V_mono HO_0.out (fun k_ hk => (⟨hk, hk.2⟩ : _ ∧ k_ ≠ gbq0))) (fun _ hk => ⟨hk.2, ⟨hk.1.1.1, hk.1.1.2⟩⟩)⟩, ⟨ZNf (Kd.N_mono HO_5.out (fun k_ hk => (⟨hk, hk.2⟩ : _ ∧ k_ ≠ gbq0))) (fun _ hk => ⟨hk.2, hk.1.1⟩)⟩, ⟨ZB⟩⟩)
  | (
  (first | (have z_ := tag1_; clear z_) | (have z_ := tag2_; clear z_) | (have z_ := tag3_; clear z_) | (have z_ := tag4_; clear z_) | (have z_ := tag5_; clear z_) | (have z_ := tag6_; clear z_))
  try go_wp2_with (first | ((with_reducible refine gate_dst (N := 7) rfl ?_); refine ZX (N := 7) (cs := #[.int .i64 0, .int .i64 0, .int .i64 0, .int .i64 0, .int .i64 0, .int .i64 0, .slice none 0 0, .slice none 0 0]) (t := 71) ?_; intro gbq0 hg wq0 hbox hb; have n0_ := AM (Kd.V_below (Kd.V_elderB (ZRV HO_0.out) gbq0 (Nat.le_of_eq hg.symm)) hb); have n1_ := AM (Kd.N_below (Kd.N_elderB (ZRN HO_5.out) gbq0 (Nat.le_of_eq hg.symm)) hb); have n2_ := AM (Kd.V_below (Kd.V_elderB (ZRV HLq0_6.out) gbq0 (Nat.le_of_eq hg.symm)) hb); have nq0_ := AM (Kd.V_below (Kd.V_elderB (ZRV HLq0_7.out) gbq0 (Nat.le_of_eq hg.symm)) hb); have nq1_ := AM (Kd.C_below (ZQ HRq0_6.out) hb); have nq2_ := AM (Kd.C_below (ZQ HRq0_7.out) hb); have nq3_ := ZT HB hb; have nq4_ := AM (hbox); have nq5_ : Za (w.heap.size ≤ gbq0) := ZS hg; have nq6_ : Za (w.heap.size ≤ gbq0) := ZS hg; clear HO_0 HO_5 HLq0_6 HLq0_7 HRq0_6 HRq0_7 HB; have HO_0 := n0_; have HO_5 := n1_; have HLq0_6 := n2_; have HLq0_7 := nq0_; have HRq0_6 := nq1_; have HRq0_7 := nq2_; have HB := nq3_; have BKq0 := nq4_; have GWq0 := nq5_; have GEq0 := nq6_; clear n0_ n1_ n2_ nq0_ nq1_ nq2_ nq3_ nq4_ nq5_ nq6_ hb hbox hg; have hczq0 := ZC8 wq0 BKq0))
  have n0_ : Za (Kd.V k71 71 ((((((((wq0.setCell ⟨gbq0, 0, none⟩ (.int .i64 ((D71 l0 x6_1).f0))).setCell ⟨gbq0, 1, none⟩ (.int .i64 ((D71 l0 x6_1).f1))).setCell ⟨gbq0, 2, none⟩ (.int .i64 ((D71 l0 x6_1).f2.f0))).setCell ⟨gbq0, 3, none⟩ (.int .i64 ((D71 l0 x6_1).f2.f1))).setCell ⟨gbq0, 4, none⟩ (.int .i64 ((D71 l0 x6_1).f2.f2))).setCell ⟨gbq0, 5, none⟩ (.int .i64 ((D71 l0 x6_1).f3))).setCell ⟨gbq0, 6, none⟩ (.slice Aq0_6 ((D71 l0 x6_1).f4).length cq0_6)).setCell ⟨gbq0, 7, none⟩ (.slice Aq0_7 ((D71 l0 x6_1).f5).length cq0_7)) w.heap.size (fun k_ => (P0_ k_ ∨ w.heap.size ≤ k_) ∧ some k_ ≠ (u5 : Value).ownBlock ∧ k_ ≠ gbq0) (.slice (some adq0) l0.length c0) l0) := ⟨ZVf (Kd.V_mono HO_0.out (fun k_ hk => (⟨hk, hk.2⟩ : _ ∧ k_ ≠ gbq0))) (fun _ hk => ⟨hk.2, ⟨hk.1.1.1, ⟨hk.1.1.2, hk.1.2⟩⟩⟩)⟩
  have n1_ : Za (Kd.N k71 71 ((((((((wq0.setCell ⟨gbq0, 0, none⟩ (.int .i64 ((D71 l0 x6_1).f0))).setCell ⟨gbq0, 1, none⟩ (.int .i64 ((D71 l0 x6_1).f1))).setCell ⟨gbq0, 2, none⟩ (.int .i64 ((D71 l0 x6_1).f2.f0))).setCell ⟨gbq0, 3, none⟩ (.int .i64 ((D71 l0 x6_1).f2.f1))).setCell ⟨gbq0, 4, none⟩ (.int .i64 ((D71 l0 x6_1).f2.f2))).setCell ⟨gbq0, 5, none⟩ (.int .i64 ((D71 l0 x6_1).f3))).setCell ⟨gbq0, 6, none⟩ (.slice Aq0_6 ((D71 l0 x6_1).f4).length cq0_6)).setCell ⟨gbq0, 7, none⟩ (.slice Aq0_7 ((D71 l0 x6_1).f5).length cq0_7)) w.heap.size (fun k_ => (P0_ k_ ∨ w.heap.size ≤ k_) ∧ k_ ≠ gbq0) u5 x5_1) := ⟨ZNf (Kd.N_mono HO_5.out (fun k_ hk => (⟨hk, hk.2⟩ : _ ∧ k_ ≠ gbq0))) (fun _ hk => ⟨hk.2, ⟨hk.1.1, hk.1.2⟩⟩)⟩
  have n2_ : Za (Kd.V k71 71 ((((((((wq0.setCell ⟨gbq0, 0, none⟩ (.int .i64 ((D71 l0 x6_1).f0))).setCell ⟨gbq0, 1, none⟩ (.int .i64 ((D71 l0 x6_1).f1))).setCell ⟨gbq0, 2, none⟩ (.int .i64 ((D71 l0 x6_1).f2.f0))).setCell ⟨gbq0, 3, none⟩ (.int .i64 ((D71 l0 x6_1).f2.f1))).setCell ⟨gbq0, 4, none⟩ (.int .i64 ((D71 l0 x6_1).f2.f2))).setCell ⟨gbq0, 5, none⟩ (.int .i64 ((D71 l0 x6_1).f3))).setCell ⟨gbq0, 6, none⟩ (.slice Aq0_6 ((D71 l0 x6_1).f4).length cq0_6)).setCell ⟨gbq0, 7, none⟩ (.slice Aq0_7 ((D71 l0 x6_1).f5).length cq0_7)) w.heap.size (fun k_ => (P0_ k_ ∨ w.heap.size ≤ k_) ∧ some k_ ≠ (u5 : Value).ownBlock ∧ k_ ≠ gbq0) (.slice Aq0_6 ((D71 l0 x6_1).f4).length cq0_6) ((D71 l0 x6_1).f4)) := ⟨ZVf (Kd.V_mono HLq0_6.out (fun k_ hk => (⟨hk, hk.2⟩ : _ ∧ k_ ≠ gbq0))) (fun _ hk => ⟨hk.2, ⟨hk.1.1.1, ⟨hk.1.1.2, hk.1.2⟩⟩⟩)⟩
  have nq0_ : Za (Kd.V k71 71 ((((((((wq0.setCell ⟨gbq0, 0, none⟩ (.int .i64 ((D71 l0 x6_1).f0))).setCell ⟨gbq0, 1, none⟩ (.int .i64 ((D71 l0 x6_1).f1))).setCell ⟨gbq0, 2, none⟩ (.int .i64 ((D71 l0 x6_1).f2.f0))).setCell ⟨gbq0, 3, none⟩ (.int .i64 ((D71 l0 x6_1).f2.f1))).setCell ⟨gbq0, 4, none⟩ (.int .i64 ((D71 l0 x6_1).f2.f2))).setCell ⟨gbq0, 5, none⟩ (.int .i64 ((D71 l0 x6_1).f3))).setCell ⟨gbq0, 6, none⟩ (.slice Aq0_6 ((D71 l0 x6_1).f4).length cq0_6)).setCell ⟨gbq0, 7, none⟩ (.slice Aq0_7 ((D71 l0 x6_1).f5).length cq0_7)) w.heap.size (fun k_ => (P0_ k_ ∨ w.heap.size ≤ k_) ∧ some k_ ≠ (u5 : Value).ownBlock ∧ k_ ≠ gbq0) (.slice Aq0_7 ((D71 l0 x6_1).f5).length cq0_7) ((D71 l0 x6_1).f5)) := ⟨ZVf (Kd.V_mono HLq0_7.out (fun k_ hk => (⟨hk, hk.2⟩ : _ ∧ k_ ≠ gbq0))) (fun _ hk => ⟨hk.2, ⟨hk.1.1.1, ⟨hk.1.1.2, hk.1.2⟩⟩⟩)⟩
  have nq1_ : Za (((((((((wq0.setCell ⟨gbq0, 0, none⟩ (.int .i64 ((D71 l0 x6_1).f0))).setCell ⟨gbq0, 1, none⟩ (.int .i64 ((D71 l0 x6_1).f1))).setCell ⟨gbq0, 2, none⟩ (.int .i64 ((D71 l0 x6_1).f2.f0))).setCell ⟨gbq0, 3, none⟩ (.int .i64 ((D71 l0 x6_1).f2.f1))).setCell ⟨gbq0, 4, none⟩ (.int .i64 ((D71 l0 x6_1).f2.f2))).setCell ⟨gbq0, 5, none⟩ (.int .i64 ((D71 l0 x6_1).f3))).setCell ⟨gbq0, 6, none⟩ (.slice Aq0_6 ((D71 l0 x6_1).f4).length cq0_6)).setCell ⟨gbq0, 7, none⟩ (.slice Aq0_7 ((D71 l0 x6_1).f5).length cq0_7)).heap[gbq0]? = some (.cells #[.int .i64 ((D71 l0 x6_1).f0), .int .i64 ((D71 l0 x6_1).f1), .int .i64 ((D71 l0 x6_1).f2.f0), .int .i64 ((D71 l0 x6_1).f2.f1), .int .i64 ((D71 l0 x6_1).f2.f2), .int .i64 ((D71 l0 x6_1).f3), .slice Aq0_6 ((D71 l0 x6_1).f4).length cq0_6, .slice Aq0_7 ((D71 l0 x6_1).f5).length cq0_7] 71 (0, 0))) := ⟨ZZ BKq0.out⟩
  have nq2_ : Za (Below w.heap.size w ((((((((wq0.setCell ⟨gbq0, 0, none⟩ (.int .i64 ((D71 l0 x6_1).f0))).setCell ⟨gbq0, 1, none⟩ (.int .i64 ((D71 l0 x6_1).f1))).setCell ⟨gbq0, 2, none⟩ (.int .i64 ((D71 l0 x6_1).f2.f0))).setCell ⟨gbq0, 3, none⟩ (.int .i64 ((D71 l0 x6_1).f2.f1))).setCell ⟨gbq0, 4, none⟩ (.int .i64 ((D71 l0 x6_1).f2.f2))).setCell ⟨gbq0, 5, none⟩ (.int .i64 ((D71 l0 x6_1).f3))).setCell ⟨gbq0, 6, none⟩ (.slice Aq0_6 ((D71 l0 x6_1).f4).length cq0_6)).setCell ⟨gbq0, 7, none⟩ (.slice Aq0_7 ((D71 l0 x6_1).f5).length cq0_7))) := ⟨ZB⟩
  (try clear HO_0)
  (try clear HO_5)
  (try clear HLq0_6)
  (try clear HLq0_7)
  (try clear BKq0)
  (try clear HB)
  generalize ((((((((wq0.setCell ⟨gbq0, 0, none⟩ (.int .i64 ((D71 l0 x6_1).f0))).setCell ⟨gbq0, 1, none⟩ (.int .i64 ((D71 l0 x6_1).f1))).setCell ⟨gbq0, 2, none⟩ (.int .i64 ((D71 l0 x6_1).f2.f0))).setCell ⟨gbq0, 3, none⟩ (.int .i64 ((D71 l0 x6_1).f2.f1))).setCell ⟨gbq0, 4, none⟩ (.int .i64 ((D71 l0 x6_1).f2.f2))).setCell ⟨gbq0, 5, none⟩ (.int .i64 ((D71 l0 x6_1).f3))).setCell ⟨gbq0, 6, none⟩ (.slice Aq0_6 ((D71 l0 x6_1).f4).length cq0_6)).setCell ⟨gbq0, 7, none⟩ (.slice Aq0_7 ((D71 l0 x6_1).f5).length cq0_7)) = wq1 at n0_ n1_ n2_ nq0_ nq1_ nq2_ ⊢
  have HO_0 := n0_
  have HO_5 := n1_
  have HLq0_6 := n2_
  have HLq0_7 := nq0_
  have BKq0 := nq1_
  have HB := nq2_
  clear n0_ n1_ n2_ nq0_ nq1_ nq2_
  have n0_ := AM (Kd.V_drew HO_0.out)
  have n1_ := AM (Kd.N_drew HO_5.out)
  have n2_ := AM (Kd.V_drew HLq0_6.out)
  have nq0_ := AM (Kd.V_drew HLq0_7.out)
  have nq1_ := AM (blk_drew BKq0.out)
  have nq2_ := AM (below_drew1 HB.out)
  clear HO_0 HO_5 HLq0_6 HLq0_7 BKq0 HB
  have HO_0 := n0_
  have HO_5 := n1_
  have HLq0_6 := n2_
  have HLq0_7 := nq0_
  have BKq0 := nq1_
  have HB := nq2_
  clear n0_ n1_ n2_ nq0_ nq1_ nq2_
  refine start_ (n := 9) (S := fun w' => w'.cell? ⟨gbq0, 0, none⟩ = some (.int .i64 ((D71 l0 x6_1).f0)) ∧ w'.cell? ⟨gbq0, 1, none⟩ = some (.int .i64 ((D71 l0 x6_1).f1)) ∧ w'.cell? ⟨gbq0, 2, none⟩ = some (.int .i64 ((D71 l0 x6_1).f2.f0)) ∧ w'.cell? ⟨gbq0, 3, none⟩ = some (.int .i64 ((D71 l0 x6_1).f2.f1)) ∧ w'.cell? ⟨gbq0, 4, none⟩ = some (.int .i64 ((D71 l0 x6_1).f2.f2)) ∧ w'.cell? ⟨gbq0, 5, none⟩ = some (.int .i64 ((D71 l0 x6_1).f3)) ∧ w'.cell? ⟨gbq0, 6, none⟩ = some (.slice Aq0_6 ((D71 l0 x6_1).f4).length cq0_6) ∧ w'.cell? ⟨gbq0, 7, none⟩ = some (.slice Aq0_7 ((D71 l0 x6_1).f5).length cq0_7)) (ds := []) #[F,F,F,F,F,F,F,F,F] (by kernel_rfl) rfl rfl ⟨ZA BKq0 0, ZA BKq0 1, ZA BKq0 2, ZA BKq0 3, ZA BKq0 4, ZA BKq0 5, ZA BKq0 6, ZA BKq0 7⟩ (fun hHeld => ?_); refine with_tabW spec_l71Without.tab8 spec_l71Without.bits8 (fun HT_ HW_ => ?_)
  generalize wq1.drew = wq2 at HO_0 HO_5 HLq0_6 HLq0_7 BKq0 HB hHeld ⊢
  refine ZU 0 23 #[T,F,F,F,F,F,F,F,F] ?_
  refine ZU 4 27 #[T,F,F,F,T,F,F,F,F] ?_
  refine ZTK 1 24 #[T,T,F,F,T,F,F,F,F] hHeld ?_
  refine ZTK 5 28 #[T,T,F,F,T,T,F,F,F] hHeld ?_
  refine one_ (i := 2) (N := some 25) #[T,T,T,F,T,T,F,F,F] rfl rfl (one_of HT_.out (by kernel_rfl)) (by decide) (fun K hK => ?_)
  refine ZGO Tryd.func30 #[.slice Aq0_6 ((D71 l0 x6_1).f4).length cq0_6] ?_
  with_reducible refine (spec_l2Count.calls k1 _ _ ((D71 l0 x6_1).f4) t465 _ ?side1 ?side2 A10.out).mono ?_
  (case side1 => repeat (first | exact ((Kd.V_reads' (ZRV HLq0_6.out)).2.2) | (with_reducible refine Kd.C_alloc ?_ _) | (with_reducible refine Kd.C_drewN ?_ _) | (with_reducible refine Kd.C_drew ?_)))
  (case side2 => exact HCq0_6.out)
  rintro e wq3 ⟨rfl, hb⟩
  refine ZV1 ?_
  have n0_ := AM (Kd.V_below (ZRV HO_0.out) hb)
  have n1_ := AM (Kd.N_below (ZRN HO_5.out) hb)
  have n2_ := AM (Kd.V_below (ZRV HLq0_6.out) hb)
  have nq0_ := AM (Kd.V_below (ZRV HLq0_7.out) hb)
  have nq1_ := ZW BKq0 hb
  have nq2_ := ZT HB hb
  clear HO_0 HO_5 HLq0_6 HLq0_7 BKq0 HB
  have HO_0 := n0_
  have HO_5 := n1_
  have HLq0_6 := n2_
  have HLq0_7 := nq0_
  have BKq0 := nq1_
  have HB := nq2_
  clear n0_ n1_ n2_ nq0_ nq1_ nq2_
  (try clear hb)
  (try clear hb2)
  (try clear hk)
  (try clear hi)
  refine hK.out _ _ ⟨ZA BKq0 0, ZA BKq0 1, ZA BKq0 2, ZA BKq0 3, ZA BKq0 4, ZA BKq0 5, ZA BKq0 6, ZA BKq0 7⟩ (fun hHeld => ?_)
  clear hK K
  refine ZNO 25 ?_
  refine ZU 3 26 #[T,T,T,T,T,T,F,F,F] ?_
  refine one_ (i := 6) (N := some 29) #[T,T,T,T,T,T,T,F,F] rfl rfl (one_of HT_.out (by kernel_rfl)) (by decide) (fun K hK => ?_)
  refine ZGO Tryd.func30 #[.slice Aq0_7 ((D71 l0 x6_1).f5).length cq0_7] ?_
  with_reducible refine (spec_l2Count.calls k1 _ _ ((D71 l0 x6_1).f5) t466 _ ?side1 ?side2 A11.out).mono ?_
  (case side1 => repeat (first | exact ((Kd.V_reads' (ZRV HLq0_7.out)).2.2) | (with_reducible refine Kd.C_alloc ?_ _) | (with_reducible refine Kd.C_drewN ?_ _) | (with_reducible refine Kd.C_drew ?_)))
  (case side2 => exact HCq0_7.out)
  rintro e wq4 ⟨rfl, hb⟩
  refine ZV1 ?_
  have n0_ := AM (Kd.V_below (ZRV HO_0.out) hb)
  have n1_ := AM (Kd.N_below (ZRN HO_5.out) hb)
  have n2_ := AM (Kd.V_below (ZRV HLq0_6.out) hb)
  have nq0_ := AM (Kd.V_below (ZRV HLq0_7.out) hb)
  have nq1_ := ZW BKq0 hb
  have nq2_ := ZT HB hb
  clear HO_0 HO_5 HLq0_6 HLq0_7 BKq0 HB
  have HO_0 := n0_
  have HO_5 := n1_
  have HLq0_6 := n2_
  have HLq0_7 := nq0_
  have BKq0 := nq1_
  have HB := nq2_
  clear n0_ n1_ n2_ nq0_ nq1_ nq2_
  (try clear hb)
  (try clear hb2)
  (try clear hk)
  (try clear hi)
  refine hK.out _ _ ⟨ZA BKq0 0, ZA BKq0 1, ZA BKq0 2, ZA BKq0 3, ZA BKq0 4, ZA BKq0 5, ZA BKq0 6, ZA BKq0 7⟩ (fun hHeld => ?_)
  clear hK K
  refine ZNO 29 ?_
  refine ZU 7 30 #[T,T,T,T,T,T,T,T,F] ?_
  refine ZU 8 8 #[T,T,T,T,T,T,T,T,T] ?_
  refine done_ (done_of HT_.out (by kernel_rfl)) ?_
  have hczq1 := ZC8 wq4 BKq0
  first
  | (
  (have z_ := tag1_; clear z_)
  try go_wp2_with (first | ((with_reducible refine gate_callee (f := 30) rfl ?_); refine ZGL (some 40) Tryd.func30 #[.slice Aq0_6 ((D71 l0 x6_1).f4).length cq0_6] ?_; (with_reducible refine (spec_l2Count.calls k1 _ _ ((D71 l0 x6_1).f4) t467 _ ?side1 HCq0_6.out A14.out).mono ?_); (case side1 => repeat (first | exact ((Kd.V_reads' (ZRV HLq0_6.out)).2.2) | (with_reducible refine Kd.C_alloc ?_ _) | (with_reducible refine Kd.C_drewN ?_ _) | (with_reducible refine Kd.C_drew ?_))); rintro e wq5 ⟨rfl, hb⟩; refine ZV1 ?_; have n0_ := AM (Kd.V_below (ZRV HO_0.out) hb); have n1_ := AM (Kd.N_below (ZRN HO_5.out) hb); have n2_ := AM (Kd.V_below (ZRV HLq0_6.out) hb); have nq0_ := AM (Kd.V_below (ZRV HLq0_7.out) hb); have nq1_ := ZW BKq0 hb; have nq2_ := ZT HB hb; clear HO_0 HO_5 HLq0_6 HLq0_7 BKq0 HB; have HO_0 := n0_; have HO_5 := n1_; have HLq0_6 := n2_; have HLq0_7 := nq0_; have BKq0 := nq1_; have HB := nq2_; clear n0_ n1_ n2_ nq0_ nq1_ nq2_; clear hb; have hczq2 := ZC8 wq5 BKq0) | ((with_reducible refine gate_callee (f := 71) rfl ?_); refine ZGL (some 49) Tryd.func71 #[.slice Aq0_6 ((D71 l0 x6_1).f4).length cq0_6, .int .i64 (wrap64 (x1_1 - 1))] ?_; (with_reducible refine (ih k1 (by have := HK1.out; omega) (fun k_ => ((P0_ k_ ∨ w.heap.size ≤ k_) ∧ (some k_ ≠ (u5 : Value).ownBlock ∧ k_ ≠ gbq0))) _ _ ((D71 l0 x6_1).f4) (wrap64 (x1_1 - 1)) t468 _ ?side1 A16.out).mono ?_); (case side1 => exact HLq0_6.out); rintro e wq6 ⟨vq0, rfl, hoq0, hb⟩; refine ZV1 ?_; have n0_ := AM (Kd.V_elder' (ZRV HO_0.out) (Kd.N_base hoq0) hb); have n1_ := AM (Kd.N_elder' (ZRN HO_5.out) (Kd.N_base hoq0) hb); have n2_ := AM (Kd.V_elder' (ZRV HLq0_6.out) (Kd.N_base hoq0) hb); have nq0_ := AM (Kd.V_elder' (ZRV HLq0_7.out) (Kd.N_base hoq0) hb); have nq1_ := AM (Kd.N_lower (Kd.N_mono (ok' := fun k_ => (P0_ k_ ∨ w.heap.size ≤ k_) ∧ some k_ ≠ (u5 : Value).ownBlock ∧ k_ ≠ gbq0) hoq0 (fun k_ hk_ => ⟨Or.elim hk_ (fun hs_ => hs_.1) (fun hn_ => (.inr (Nat.le_trans (below_size (ZB)) hn_))), Or.elim hk_ (fun hs_ => hs_.2.1) (fun hn_ => (Kd.fresh' (Kd.N_lt (ZRN HO_5.out)) k_ hn_)), Or.elim hk_ (fun hs_ => hs_.2.2) (fun hn_ => (Kd.freshB (g := gbq0) (o := .cells #[.int .i64 ((D71 l0 x6_1).f0), .int .i64 ((D71 l0 x6_1).f1), .int .i64 ((D71 l0 x6_1).f2.f0), .int .i64 ((D71 l0 x6_1).f2.f1), .int .i64 ((D71 l0 x6_1).f2.f2), .int .i64 ((D71 l0 x6_1).f3), .slice Aq0_6 ((D71 l0 x6_1).f4).length cq0_6, .slice Aq0_7 ((D71 l0 x6_1).f5).length cq0_7] 71 (0, 0)) (ZK BKq0.out) k_ hn_))⟩)) (below_size (ZB))); have nq2_ := ZW BKq0 hb; have nq3_ := ZT HB hb; clear HO_0 HO_5 HLq0_6 HLq0_7 BKq0 HB; have HO_0 := n0_; have HO_5 := n1_; have HLq0_6 := n2_; have HLq0_7 := nq0_; have HOq0 := nq1_; have BKq0 := nq2_; have HB := nq3_; clear n0_ n1_ n2_ nq0_ nq1_ nq2_ nq3_; clear hb; (try clear hoq0); obtain ⟨Aoq0, coq0, eoq0⟩ := Kd.N_slice HOq0.out; subst eoq0; have hczq3 := ZC8 wq6 BKq0) | ((with_reducible refine gate_store (t := 29) (p := 50) rfl ?_); refine store_event (t := 29) (p := 50) (v := ?vo_w30) (w1 := (wq6.setCell ⟨gbq0, 6, none⟩ (.slice Aoq0 t468.length coq0))) ?hg ?ho ?hn ?hr ?_; (case ho => rfl); (case hg => rfl); (case hn => rfl); (case hr => first | (go_simp; done) | (go_simp; rfl)); intro wq7 hw; have n0_ : Za (Kd.V k71 71 wq7 w.heap.size (fun k_ => (P0_ k_ ∨ w.heap.size ≤ k_) ∧ some k_ ≠ (u5 : Value).ownBlock ∧ some k_ ≠ (.slice Aoq0 t468.length coq0 : Value).ownBlock ∧ k_ ≠ gbq0) (.slice (some adq0) l0.length c0) l0) := ⟨(by rw [hw]; exact (ZVf (Kd.V_mono HO_0.out (fun k_ hk => (⟨hk, hk.1.2.2⟩ : _ ∧ k_ ≠ gbq0))) (fun _ hk => ⟨hk.2, ⟨hk.1.1.1, ⟨hk.1.1.2.1, ⟨hk.1.2, hk.1.1.2.2⟩⟩⟩⟩)))⟩; have n1_ : Za (Kd.N k71 71 wq7 w.heap.size (fun k_ => (P0_ k_ ∨ w.heap.size ≤ k_) ∧ some k_ ≠ (.slice Aoq0 t468.length coq0 : Value).ownBlock ∧ k_ ≠ gbq0) u5 x5_1) := ⟨(by rw [hw]; exact (ZNf (Kd.N_mono HO_5.out (fun k_ hk => (⟨hk, hk.1.2⟩ : _ ∧ k_ ≠ gbq0))) (fun _ hk => ⟨hk.2, ⟨hk.1.1.1, ⟨hk.1.2, hk.1.1.2⟩⟩⟩)))⟩; have n2_ : Za (Kd.V k71 71 wq7 w.heap.size (fun k_ => (P0_ k_ ∨ w.heap.size ≤ k_) ∧ some k_ ≠ (u5 : Value).ownBlock ∧ some k_ ≠ (.slice Aoq0 t468.length coq0 : Value).ownBlock ∧ k_ ≠ gbq0) (.slice Aq0_6 ((D71 l0 x6_1).f4).length cq0_6) ((D71 l0 x6_1).f4)) := ⟨(by rw [hw]; exact (ZVf (Kd.V_mono HLq0_6.out (fun k_ hk => (⟨hk, hk.1.2.2⟩ : _ ∧ k_ ≠ gbq0))) (fun _ hk => ⟨hk.2, ⟨hk.1.1.1, ⟨hk.1.1.2.1, ⟨hk.1.2, hk.1.1.2.2⟩⟩⟩⟩)))⟩; have nq0_ : Za (Kd.V k71 71 wq7 w.heap.size (fun k_ => (P0_ k_ ∨ w.heap.size ≤ k_) ∧ some k_ ≠ (u5 : Value).ownBlock ∧ some k_ ≠ (.slice Aoq0 t468.length coq0 : Value).ownBlock ∧ k_ ≠ gbq0) (.slice Aq0_7 ((D71 l0 x6_1).f5).length cq0_7) ((D71 l0 x6_1).f5)) := ⟨(by rw [hw]; exact (ZVf (Kd.V_mono HLq0_7.out (fun k_ hk => (⟨hk, hk.1.2.2⟩ : _ ∧ k_ ≠ gbq0))) (fun _ hk => ⟨hk.2, ⟨hk.1.1.1, ⟨hk.1.1.2.1, ⟨hk.1.2, hk.1.1.2.2⟩⟩⟩⟩)))⟩; have nq1_ : Za (Kd.N k71 71 wq7 w.heap.size (fun k_ => (P0_ k_ ∨ w.heap.size ≤ k_) ∧ some k_ ≠ (u5 : Value).ownBlock ∧ k_ ≠ gbq0) (.slice Aoq0 t468.length coq0) t468) := ⟨(by rw [hw]; exact (ZNf (Kd.N_mono HOq0.out (fun k_ hk => (⟨hk, hk.2.2⟩ : _ ∧ k_ ≠ gbq0))) (fun _ hk => ⟨hk.2, ⟨hk.1.1, ⟨hk.1.2.1, hk.1.2.2⟩⟩⟩)))⟩; have nq2_ : Za (wq7.heap[gbq0]? = some (.cells #[.int .i64 ((D71 l0 x6_1).f0), .int .i64 ((D71 l0 x6_1).f1), .int .i64 ((D71 l0 x6_1).f2.f0), .int .i64 ((D71 l0 x6_1).f2.f1), .int .i64 ((D71 l0 x6_1).f2.f2), .int .i64 ((D71 l0 x6_1).f3), .slice Aoq0 t468.length coq0, .slice Aq0_7 ((D71 l0 x6_1).f5).length cq0_7] 71 (0, 0))) := ⟨(by rw [hw]; exact (ZZ BKq0.out))⟩; have nq3_ : Za (Below w.heap.size w wq7) := ⟨(by rw [hw]; exact (ZB))⟩; clear hw HO_0 HO_5 HLq0_6 HLq0_7 HOq0 BKq0 HB; have HO_0 := n0_; have HO_5 := n1_; have HLq0_6 := n2_; have HLq0_7 := nq0_; have HOq0 := nq1_; have BKq0 := nq2_; have HB := nq3_; clear n0_ n1_ n2_ nq0_ nq1_ nq2_ nq3_; have hczq4 := ZC8 wq7 BKq0) | ((with_reducible refine gate_builtin (b := .append) (xs := #[.tmp 65, .tmp 67]) rfl ?_); at_builtin; refine Kd.N_append k71 (w0 := w) w.heap.size rfl (.tmp 65) (.tmp 67) 29 71 (.agg #[(.int .i64 0), (.int .i64 0), (.int .i64 0), (.int .i64 0), (.int .i64 0), (.int .i64 0), (.slice none 0 0), (.slice none 0 0)]) 96 rfl Tryd.underlying29 info71 rfl (by decide) (by omega) u5 x5_1 (⟨(D71 l0 x6_1).f0, (D71 l0 x6_1).f1, (⟨(D71 l0 x6_1).f2.f0, (D71 l0 x6_1).f2.f1, (D71 l0 x6_1).f2.f2⟩ : S69), (D71 l0 x6_1).f3, t468, (D71 l0 x6_1).f5⟩ : S71) [.int .i64 ((D71 l0 x6_1).f0), .int .i64 ((D71 l0 x6_1).f1), .int .i64 ((D71 l0 x6_1).f2.f0), .int .i64 ((D71 l0 x6_1).f2.f1), .int .i64 ((D71 l0 x6_1).f2.f2), .int .i64 ((D71 l0 x6_1).f3), .slice Aoq0 t468.length coq0, .slice Aq0_7 ((D71 l0 x6_1).f5).length cq0_7] (fun k_ => (P0_ k_ ∨ w.heap.size ≤ k_) ∧ k_ ≠ gbq0) (fun k_ => ((fun k_ => (P0_ k_ ∨ w.heap.size ≤ k_) ∧ k_ ≠ gbq0)) k_ ∧ some k_ ≠ (u5 : Value).ownBlock) rfl rfl ?aP (fun _ hk => hk) ?aF ?aO ?aB ?aS ?aL ?_; (case aP => exact (k71_mkF _ _ (⟨(D71 l0 x6_1).f0, (D71 l0 x6_1).f1, (⟨(D71 l0 x6_1).f2.f0, (D71 l0 x6_1).f2.f1, (D71 l0 x6_1).f2.f2⟩ : S69), (D71 l0 x6_1).f3, t468, (D71 l0 x6_1).f5⟩ : S71) (Kd.N_reads' (Kd.N_mono (ok' := (fun k_ => ((fun k_ => (P0_ k_ ∨ w.heap.size ≤ k_) ∧ k_ ≠ gbq0)) k_ ∧ some k_ ≠ (u5 : Value).ownBlock)) (HOq0.out) (fun k_ hk => ⟨⟨hk.1, hk.2.2⟩, hk.2.1⟩))).2.1 (Kd.N_F (Kd.N_mono (ok' := (fun k_ => ((fun k_ => (P0_ k_ ∨ w.heap.size ≤ k_) ∧ k_ ≠ gbq0)) k_ ∧ some k_ ≠ (u5 : Value).ownBlock)) (HOq0.out) (fun k_ hk => ⟨⟨hk.1, hk.2.2⟩, hk.2.1⟩))) (Kd.V_reads' (Kd.V_mono (ok' := (fun k_ => ((fun k_ => (P0_ k_ ∨ w.heap.size ≤ k_) ∧ k_ ≠ gbq0)) k_ ∧ some k_ ≠ (u5 : Value).ownBlock)) (HLq0_7.out) (fun k_ hk => ⟨⟨hk.1, hk.2.2.2⟩, hk.2.1⟩))).2.1 (Kd.V_F (Kd.V_mono (ok' := (fun k_ => ((fun k_ => (P0_ k_ ∨ w.heap.size ≤ k_) ∧ k_ ≠ gbq0)) k_ ∧ some k_ ≠ (u5 : Value).ownBlock)) (HLq0_7.out) (fun k_ hk => ⟨⟨hk.1, hk.2.2.2⟩, hk.2.1⟩))))); (case aB => exact (ZB)); (case aF => exact (fun k_ hk => ⟨(.inr (Nat.le_trans (below_size (ZB)) hk)), Kd.freshB (g := gbq0) (o := .cells #[.int .i64 ((D71 l0 x6_1).f0), .int .i64 ((D71 l0 x6_1).f1), .int .i64 ((D71 l0 x6_1).f2.f0), .int .i64 ((D71 l0 x6_1).f2.f1), .int .i64 ((D71 l0 x6_1).f2.f2), .int .i64 ((D71 l0 x6_1).f3), .slice Aoq0 t468.length coq0, .slice Aq0_7 ((D71 l0 x6_1).f5).length cq0_7] 71 (0, 0)) (ZK BKq0.out) k_ hk⟩)); (case aO => exact (ZNm HO_5.out (fun _ hk => ⟨hk.1, hk.2.2⟩))); (case aS => exact (below_size (ZB))); (case aL => have := LMc17.out; omega); intro vq1 wq8 ho hb hg hat; rw [← Ny471.out] at ho; have n0_ := AM (Kd.V_afterv (ok := (fun k_ => (P0_ k_ ∨ w.heap.size ≤ k_) ∧ some k_ ≠ (.slice Aoq0 t468.length coq0 : Value).ownBlock ∧ k_ ≠ gbq0)) (ZVm HO_0.out (fun _ hk => ⟨⟨hk.1, ⟨hk.2.2.1, hk.2.2.2⟩⟩, hk.2.1⟩)) hg hat); have n1_ := AM (Kd.V_afterv (ok := (fun k_ => (P0_ k_ ∨ w.heap.size ≤ k_) ∧ some k_ ≠ (.slice Aoq0 t468.length coq0 : Value).ownBlock ∧ k_ ≠ gbq0)) (ZVm HLq0_6.out (fun _ hk => ⟨⟨hk.1, ⟨hk.2.2.1, hk.2.2.2⟩⟩, hk.2.1⟩)) hg hat); have n2_ := AM (Kd.V_afterv (ok := (fun k_ => (P0_ k_ ∨ w.heap.size ≤ k_) ∧ some k_ ≠ (.slice Aoq0 t468.length coq0 : Value).ownBlock ∧ k_ ≠ gbq0)) (ZVm HLq0_7.out (fun _ hk => ⟨⟨hk.1, ⟨hk.2.2.1, hk.2.2.2⟩⟩, hk.2.1⟩)) hg hat); have nq0_ := AM (blk_grown (g := gbq0) (o := .cells #[.int .i64 ((D71 l0 x6_1).f0), .int .i64 ((D71 l0 x6_1).f1), .int .i64 ((D71 l0 x6_1).f2.f0), .int .i64 ((D71 l0 x6_1).f2.f1), .int .i64 ((D71 l0 x6_1).f2.f2), .int .i64 ((D71 l0 x6_1).f3), .slice Aoq0 t468.length coq0, .slice Aq0_7 ((D71 l0 x6_1).f5).length cq0_7] 71 (0, 0)) (ZK BKq0.out) hg (Kd.N_away HO_5.out (fun _ hk => hk.2.2))); have nq1_ := AM (hb); have nq2_ := AM (ho); clear HO_0 HLq0_6 HLq0_7 BKq0 HB HO_5 HOq0; have HO_0 := n0_; have HLq0_6 := n1_; have HLq0_7 := n2_; have BKq0 := nq0_; have HB := nq1_; have HOq1 := nq2_; clear n0_ n1_ n2_ nq0_ nq1_ nq2_ ho hb hg hat))
  go_roundg k1
  case measure => have := HK1.out; omega
  case rel => exact ⟨((-1)), (y471), (wrap64 (x6_1 + 1)), ZSM, ZSM, H', ⟨by have := HK1.out; omega⟩, ⟨ZVm HO_0.out (fun _ hk => ⟨hk.1.1, hk.2⟩)⟩, ⟨ZRN (Kd.N_mono HOq1.out (fun _ hk => hk.1))⟩, ⟨ZB⟩⟩)
  | (
  (have z_ := tag2_; clear z_)
  try go_wp2_with (first | ((with_reducible refine gate_callee (f := 30) rfl ?_); refine ZGL (some 40) Tryd.func30 #[.slice Aq0_6 ((D71 l0 x6_1).f4).length cq0_6] ?_; (with_reducible refine (spec_l2Count.calls k1 _ _ ((D71 l0 x6_1).f4) t467 _ ?side1 HCq0_6.out A14.out).mono ?_); (case side1 => repeat (first | exact ((Kd.V_reads' (ZRV HLq0_6.out)).2.2) | (with_reducible refine Kd.C_alloc ?_ _) | (with_reducible refine Kd.C_drewN ?_ _) | (with_reducible refine Kd.C_drew ?_))); rintro e wq5 ⟨rfl, hb⟩; refine ZV1 ?_; have n0_ := AM (Kd.V_below (ZRV HO_0.out) hb); have n1_ := AM (Kd.N_below (ZRN HO_5.out) hb); have n2_ := AM (Kd.V_below (ZRV HLq0_6.out) hb); have nq0_ := AM (Kd.V_below (ZRV HLq0_7.out) hb); have nq1_ := ZW BKq0 hb; have nq2_ := ZT HB hb; clear HO_0 HO_5 HLq0_6 HLq0_7 BKq0 HB; have HO_0 := n0_; have HO_5 := n1_; have HLq0_6 := n2_; have HLq0_7 := nq0_; have BKq0 := nq1_; have HB := nq2_; clear n0_ n1_ n2_ nq0_ nq1_ nq2_; clear hb; have hczq2 := ZC8 wq5 BKq0) | ((with_reducible refine gate_callee (f := 71) rfl ?_); refine ZGL (some 57) Tryd.func71 #[.slice Aq0_7 ((D71 l0 x6_1).f5).length cq0_7, .int .i64 (wrap64 ((wrap64 (x1_1 - 1)) - t467))] ?_; (with_reducible refine (ih k1 (by have := HK1.out; omega) (fun k_ => ((P0_ k_ ∨ w.heap.size ≤ k_) ∧ (some k_ ≠ (u5 : Value).ownBlock ∧ k_ ≠ gbq0))) _ _ ((D71 l0 x6_1).f5) (wrap64 ((wrap64 (x1_1 - 1)) - t467)) t474 _ ?side1 A33.out).mono ?_); (case side1 => exact HLq0_7.out); rintro e wq6 ⟨vq0, rfl, hoq0, hb⟩; refine ZV1 ?_; have n0_ := AM (Kd.V_elder' (ZRV HO_0.out) (Kd.N_base hoq0) hb); have n1_ := AM (Kd.N_elder' (ZRN HO_5.out) (Kd.N_base hoq0) hb); have n2_ := AM (Kd.V_elder' (ZRV HLq0_6.out) (Kd.N_base hoq0) hb); have nq0_ := AM (Kd.V_elder' (ZRV HLq0_7.out) (Kd.N_base hoq0) hb); have nq1_ := AM (Kd.N_lower (Kd.N_mono (ok' := fun k_ => (P0_ k_ ∨ w.heap.size ≤ k_) ∧ some k_ ≠ (u5 : Value).ownBlock ∧ k_ ≠ gbq0) hoq0 (fun k_ hk_ => ⟨Or.elim hk_ (fun hs_ => hs_.1) (fun hn_ => (.inr (Nat.le_trans (below_size (ZB)) hn_))), Or.elim hk_ (fun hs_ => hs_.2.1) (fun hn_ => (Kd.fresh' (Kd.N_lt (ZRN HO_5.out)) k_ hn_)), Or.elim hk_ (fun hs_ => hs_.2.2) (fun hn_ => (Kd.freshB (g := gbq0) (o := .cells #[.int .i64 ((D71 l0 x6_1).f0), .int .i64 ((D71 l0 x6_1).f1), .int .i64 ((D71 l0 x6_1).f2.f0), .int .i64 ((D71 l0 x6_1).f2.f1), .int .i64 ((D71 l0 x6_1).f2.f2), .int .i64 ((D71 l0 x6_1).f3), .slice Aq0_6 ((D71 l0 x6_1).f4).length cq0_6, .slice Aq0_7 ((D71 l0 x6_1).f5).length cq0_7] 71 (0, 0)) (ZK BKq0.out) k_ hn_))⟩)) (below_size (ZB))); have nq2_ := ZW BKq0 hb; have nq3_ := ZT HB hb; clear HO_0 HO_5 HLq0_6 HLq0_7 BKq0 HB; have HO_0 := n0_; have HO_5 := n1_; have HLq0_6 := n2_; have HLq0_7 := nq0_; have HOq0 := nq1_; have BKq0 := nq2_; have HB := nq3_; clear n0_ n1_ n2_ nq0_ nq1_ nq2_ nq3_; clear hb; (try clear hoq0); obtain ⟨Aoq0, coq0, eoq0⟩ := Kd.N_slice HOq0.out; subst eoq0; have hczq3 := ZC8 wq6 BKq0) | ((with_reducible refine gate_store (t := 29) (p := 58) rfl ?_); refine store_event (t := 29) (p := 58) (v := ?vo_w47) (w1 := (wq6.setCell ⟨gbq0, 7, none⟩ (.slice Aoq0 t474.length coq0))) ?hg ?ho ?hn ?hr ?_; (case ho => rfl); (case hg => rfl); (case hn => rfl); (case hr => first | (go_simp; done) | (go_simp; rfl)); intro wq7 hw; have n0_ : Za (Kd.V k71 71 wq7 w.heap.size (fun k_ => (P0_ k_ ∨ w.heap.size ≤ k_) ∧ some k_ ≠ (u5 : Value).ownBlock ∧ some k_ ≠ (.slice Aoq0 t474.length coq0 : Value).ownBlock ∧ k_ ≠ gbq0) (.slice (some adq0) l0.length c0) l0) := ⟨(by rw [hw]; exact (ZVf (Kd.V_mono HO_0.out (fun k_ hk => (⟨hk, hk.1.2.2⟩ : _ ∧ k_ ≠ gbq0))) (fun _ hk => ⟨hk.2, ⟨hk.1.1.1, ⟨hk.1.1.2.1, ⟨hk.1.2, hk.1.1.2.2⟩⟩⟩⟩)))⟩; have n1_ : Za (Kd.N k71 71 wq7 w.heap.size (fun k_ => (P0_ k_ ∨ w.heap.size ≤ k_) ∧ some k_ ≠ (.slice Aoq0 t474.length coq0 : Value).ownBlock ∧ k_ ≠ gbq0) u5 x5_1) := ⟨(by rw [hw]; exact (ZNf (Kd.N_mono HO_5.out (fun k_ hk => (⟨hk, hk.1.2⟩ : _ ∧ k_ ≠ gbq0))) (fun _ hk => ⟨hk.2, ⟨hk.1.1.1, ⟨hk.1.2, hk.1.1.2⟩⟩⟩)))⟩; have n2_ : Za (Kd.V k71 71 wq7 w.heap.size (fun k_ => (P0_ k_ ∨ w.heap.size ≤ k_) ∧ some k_ ≠ (u5 : Value).ownBlock ∧ some k_ ≠ (.slice Aoq0 t474.length coq0 : Value).ownBlock ∧ k_ ≠ gbq0) (.slice Aq0_6 ((D71 l0 x6_1).f4).length cq0_6) ((D71 l0 x6_1).f4)) := ⟨(by rw [hw]; exact (ZVf (Kd.V_mono HLq0_6.out (fun k_ hk => (⟨hk, hk.1.2.2⟩ : _ ∧ k_ ≠ gbq0))) (fun _ hk => ⟨hk.2, ⟨hk.1.1.1, ⟨hk.1.1.2.1, ⟨hk.1.2, hk.1.1.2.2⟩⟩⟩⟩)))⟩; have nq0_ : Za (Kd.V k71 71 wq7 w.heap.size (fun k_ => (P0_ k_ ∨ w.heap.size ≤ k_) ∧ some k_ ≠ (u5 : Value).ownBlock ∧ some k_ ≠ (.slice Aoq0 t474.length coq0 : Value).ownBlock ∧ k_ ≠ gbq0) (.slice Aq0_7 ((D71 l0 x6_1).f5).length cq0_7) ((D71 l0 x6_1).f5)) := ⟨(by rw [hw]; exact (ZVf (Kd.V_mono HLq0_7.out (fun k_ hk => (⟨hk, hk.1.2.2⟩ : _ ∧ k_ ≠ gbq0))) (fun _ hk => ⟨hk.2, ⟨hk.1.1.1, ⟨hk.1.1.2.1, ⟨hk.1.2, hk.1.1.2.2⟩⟩⟩⟩)))⟩; have nq1_ : Za (Kd.N k71 71 wq7 w.heap.size (fun k_ => (P0_ k_ ∨ w.heap.size ≤ k_) ∧ some k_ ≠ (u5 : Value).ownBlock ∧ k_ ≠ gbq0) (.slice Aoq0 t474.length coq0) t474) := ⟨(by rw [hw]; exact (ZNf (Kd.N_mono HOq0.out (fun k_ hk => (⟨hk, hk.2.2⟩ : _ ∧ k_ ≠ gbq0))) (fun _ hk => ⟨hk.2, ⟨hk.1.1, ⟨hk.1.2.1, hk.1.2.2⟩⟩⟩)))⟩; have nq2_ : Za (wq7.heap[gbq0]? = some (.cells #[.int .i64 ((D71 l0 x6_1).f0), .int .i64 ((D71 l0 x6_1).f1), .int .i64 ((D71 l0 x6_1).f2.f0), .int .i64 ((D71 l0 x6_1).f2.f1), .int .i64 ((D71 l0 x6_1).f2.f2), .int .i64 ((D71 l0 x6_1).f3), .slice Aq0_6 ((D71 l0 x6_1).f4).length cq0_6, .slice Aoq0 t474.length coq0] 71 (0, 0))) := ⟨(by rw [hw]; exact (ZZ BKq0.out))⟩; have nq3_ : Za (Below w.heap.size w wq7) := ⟨(by rw [hw]; exact (ZB))⟩; clear hw HO_0 HO_5 HLq0_6 HLq0_7 HOq0 BKq0 HB; have HO_0 := n0_; have HO_5 := n1_; have HLq0_6 := n2_; have HLq0_7 := nq0_; have HOq0 := nq1_; have BKq0 := nq2_; have HB := nq3_; clear n0_ n1_ n2_ nq0_ nq1_ nq2_ nq3_; have hczq4 := ZC8 wq7 BKq0) | ((with_reducible refine gate_builtin (b := .append) (xs := #[.tmp 65, .tmp 67]) rfl ?_); at_builtin; refine Kd.N_append k71 (w0 := w) w.heap.size rfl (.tmp 65) (.tmp 67) 29 71 (.agg #[(.int .i64 0), (.int .i64 0), (.int .i64 0), (.int .i64 0), (.int .i64 0), (.int .i64 0), (.slice none 0 0), (.slice none 0 0)]) 96 rfl Tryd.underlying29 info71 rfl (by decide) (by omega) u5 x5_1 (⟨(D71 l0 x6_1).f0, (D71 l0 x6_1).f1, (⟨(D71 l0 x6_1).f2.f0, (D71 l0 x6_1).f2.f1, (D71 l0 x6_1).f2.f2⟩ : S69), (D71 l0 x6_1).f3, (D71 l0 x6_1).f4, t474⟩ : S71) [.int .i64 ((D71 l0 x6_1).f0), .int .i64 ((D71 l0 x6_1).f1), .int .i64 ((D71 l0 x6_1).f2.f0), .int .i64 ((D71 l0 x6_1).f2.f1), .int .i64 ((D71 l0 x6_1).f2.f2), .int .i64 ((D71 l0 x6_1).f3), .slice Aq0_6 ((D71 l0 x6_1).f4).length cq0_6, .slice Aoq0 t474.length coq0] (fun k_ => (P0_ k_ ∨ w.heap.size ≤ k_) ∧ k_ ≠ gbq0) (fun k_ => ((fun k_ => (P0_ k_ ∨ w.heap.size ≤ k_) ∧ k_ ≠ gbq0)) k_ ∧ some k_ ≠ (u5 : Value).ownBlock) rfl rfl ?aP (fun _ hk => hk) ?aF ?aO ?aB ?aS ?aL ?_; (case aP => exact (k71_mkF _ _ (⟨(D71 l0 x6_1).f0, (D71 l0 x6_1).f1, (⟨(D71 l0 x6_1).f2.f0, (D71 l0 x6_1).f2.f1, (D71 l0 x6_1).f2.f2⟩ : S69), (D71 l0 x6_1).f3, (D71 l0 x6_1).f4, t474⟩ : S71) (Kd.V_reads' (Kd.V_mono (ok' := (fun k_ => ((fun k_ => (P0_ k_ ∨ w.heap.size ≤ k_) ∧ k_ ≠ gbq0)) k_ ∧ some k_ ≠ (u5 : Value).ownBlock)) (HLq0_6.out) (fun k_ hk => ⟨⟨hk.1, hk.2.2.2⟩, hk.2.1⟩))).2.1 (Kd.V_F (Kd.V_mono (ok' := (fun k_ => ((fun k_ => (P0_ k_ ∨ w.heap.size ≤ k_) ∧ k_ ≠ gbq0)) k_ ∧ some k_ ≠ (u5 : Value).ownBlock)) (HLq0_6.out) (fun k_ hk => ⟨⟨hk.1, hk.2.2.2⟩, hk.2.1⟩))) (Kd.N_reads' (Kd.N_mono (ok' := (fun k_ => ((fun k_ => (P0_ k_ ∨ w.heap.size ≤ k_) ∧ k_ ≠ gbq0)) k_ ∧ some k_ ≠ (u5 : Value).ownBlock)) (HOq0.out) (fun k_ hk => ⟨⟨hk.1, hk.2.2⟩, hk.2.1⟩))).2.1 (Kd.N_F (Kd.N_mono (ok' := (fun k_ => ((fun k_ => (P0_ k_ ∨ w.heap.size ≤ k_) ∧ k_ ≠ gbq0)) k_ ∧ some k_ ≠ (u5 : Value).ownBlock)) (HOq0.out) (fun k_ hk => ⟨⟨hk.1, hk.2.2⟩, hk.2.1⟩))))); (case aB => exact (ZB)); (case aF => exact (fun k_ hk => ⟨(.inr (Nat.le_trans (below_size (ZB)) hk)), Kd.freshB (g := gbq0) (o := .cells #[.int .i64 ((D71 l0 x6_1).f0), .int .i64 ((D71 l0 x6_1).f1), .int .i64 ((D71 l0 x6_1).f2.f0), .int .i64 ((D71 l0 x6_1).f2.f1), .int .i64 ((D71 l0 x6_1).f2.f2), .int .i64 ((D71 l0 x6_1).f3), .slice Aq0_6 ((D71 l0 x6_1).f4).length cq0_6, .slice Aoq0 t474.length coq0] 71 (0, 0)) (ZK BKq0.out) k_ hk⟩)); (case aO => exact (ZNm HO_5.out (fun _ hk => ⟨hk.1, hk.2.2⟩))); (case aS => exact (below_size (ZB))); (case aL => have := LMc34.out; omega); intro vq1 wq8 ho hb hg hat; rw [← Ny477.out] at ho; have n0_ := AM (Kd.V_afterv (ok := (fun k_ => (P0_ k_ ∨ w.heap.size ≤ k_) ∧ some k_ ≠ (.slice Aoq0 t474.length coq0 : Value).ownBlock ∧ k_ ≠ gbq0)) (ZVm HO_0.out (fun _ hk => ⟨⟨hk.1, ⟨hk.2.2.1, hk.2.2.2⟩⟩, hk.2.1⟩)) hg hat); have n1_ := AM (Kd.V_afterv (ok := (fun k_ => (P0_ k_ ∨ w.heap.size ≤ k_) ∧ some k_ ≠ (.slice Aoq0 t474.length coq0 : Value).ownBlock ∧ k_ ≠ gbq0)) (ZVm HLq0_6.out (fun _ hk => ⟨⟨hk.1, ⟨hk.2.2.1, hk.2.2.2⟩⟩, hk.2.1⟩)) hg hat); have n2_ := AM (Kd.V_afterv (ok := (fun k_ => (P0_ k_ ∨ w.heap.size ≤ k_) ∧ some k_ ≠ (.slice Aoq0 t474.length coq0 : Value).ownBlock ∧ k_ ≠ gbq0)) (ZVm HLq0_7.out (fun _ hk => ⟨⟨hk.1, ⟨hk.2.2.1, hk.2.2.2⟩⟩, hk.2.1⟩)) hg hat); have nq0_ := AM (blk_grown (g := gbq0) (o := .cells #[.int .i64 ((D71 l0 x6_1).f0), .int .i64 ((D71 l0 x6_1).f1), .int .i64 ((D71 l0 x6_1).f2.f0), .int .i64 ((D71 l0 x6_1).f2.f1), .int .i64 ((D71 l0 x6_1).f2.f2), .int .i64 ((D71 l0 x6_1).f3), .slice Aq0_6 ((D71 l0 x6_1).f4).length cq0_6, .slice Aoq0 t474.length coq0] 71 (0, 0)) (ZK BKq0.out) hg (Kd.N_away HO_5.out (fun _ hk => hk.2.2))); have nq1_ := AM (hb); have nq2_ := AM (ho); clear HO_0 HLq0_6 HLq0_7 BKq0 HB HO_5 HOq0; have HO_0 := n0_; have HLq0_6 := n1_; have HLq0_7 := n2_; have BKq0 := nq0_; have HB := nq1_; have HOq1 := nq2_; clear n0_ n1_ n2_ nq0_ nq1_ nq2_ ho hb hg hat))
  go_roundg k1
  case measure => have := HK1.out; omega
  case rel => exact ⟨((-1)), (y477), (wrap64 (x6_1 + 1)), ZSM, ZSM, H', ⟨by have := HK1.out; omega⟩, ⟨ZVm HO_0.out (fun _ hk => ⟨hk.1.1, hk.2⟩)⟩, ⟨ZRN (Kd.N_mono HOq1.out (fun _ hk => hk.1))⟩, ⟨ZB⟩⟩)
  | (
  (have z_ := tag3_; clear z_)
  try go_wp2_with (first | ((with_reducible refine gate_builtin (b := .append) (xs := #[.tmp 65, .tmp 67]) rfl ?_); at_builtin; refine Kd.N_append k71 (w0 := w) w.heap.size rfl (.tmp 65) (.tmp 67) 29 71 (.agg #[(.int .i64 0), (.int .i64 0), (.int .i64 0), (.int .i64 0), (.int .i64 0), (.int .i64 0), (.slice none 0 0), (.slice none 0 0)]) 96 rfl Tryd.underlying29 info71 rfl (by decide) (by omega) u5 x5_1 (⟨(D71 l0 x6_1).f0, (D71 l0 x6_1).f1, (⟨(D71 l0 x6_1).f2.f0, (D71 l0 x6_1).f2.f1, (D71 l0 x6_1).f2.f2⟩ : S69), (D71 l0 x6_1).f3, (D71 l0 x6_1).f4, (D71 l0 x6_1).f5⟩ : S71) [.int .i64 ((D71 l0 x6_1).f0), .int .i64 ((D71 l0 x6_1).f1), .int .i64 ((D71 l0 x6_1).f2.f0), .int .i64 ((D71 l0 x6_1).f2.f1), .int .i64 ((D71 l0 x6_1).f2.f2), .int .i64 ((D71 l0 x6_1).f3), .slice Aq0_6 ((D71 l0 x6_1).f4).length cq0_6, .slice Aq0_7 ((D71 l0 x6_1).f5).length cq0_7] (fun k_ => (P0_ k_ ∨ w.heap.size ≤ k_) ∧ k_ ≠ gbq0) (fun k_ => ((fun k_ => (P0_ k_ ∨ w.heap.size ≤ k_) ∧ k_ ≠ gbq0)) k_ ∧ some k_ ≠ (u5 : Value).ownBlock) rfl rfl ?aP (fun _ hk => hk) ?aF ?aO ?aB ?aS ?aL ?_; (case aP => exact (k71_mkF _ _ (⟨(D71 l0 x6_1).f0, (D71 l0 x6_1).f1, (⟨(D71 l0 x6_1).f2.f0, (D71 l0 x6_1).f2.f1, (D71 l0 x6_1).f2.f2⟩ : S69), (D71 l0 x6_1).f3, (D71 l0 x6_1).f4, (D71 l0 x6_1).f5⟩ : S71) (Kd.V_reads' (Kd.V_mono (ok' := (fun k_ => ((fun k_ => (P0_ k_ ∨ w.heap.size ≤ k_) ∧ k_ ≠ gbq0)) k_ ∧ some k_ ≠ (u5 : Value).ownBlock)) (HLq0_6.out) (fun k_ hk => ⟨⟨hk.1, hk.2.2⟩, hk.2.1⟩))).2.1 (Kd.V_F (Kd.V_mono (ok' := (fun k_ => ((fun k_ => (P0_ k_ ∨ w.heap.size ≤ k_) ∧ k_ ≠ gbq0)) k_ ∧ some k_ ≠ (u5 : Value).ownBlock)) (HLq0_6.out) (fun k_ hk => ⟨⟨hk.1, hk.2.2⟩, hk.2.1⟩))) (Kd.V_reads' (Kd.V_mono (ok' := (fun k_ => ((fun k_ => (P0_ k_ ∨ w.heap.size ≤ k_) ∧ k_ ≠ gbq0)) k_ ∧ some k_ ≠ (u5 : Value).ownBlock)) (HLq0_7.out) (fun k_ hk => ⟨⟨hk.1, hk.2.2⟩, hk.2.1⟩))).2.1 (Kd.V_F (Kd.V_mono (ok' := (fun k_ => ((fun k_ => (P0_ k_ ∨ w.heap.size ≤ k_) ∧ k_ ≠ gbq0)) k_ ∧ some k_ ≠ (u5 : Value).ownBlock)) (HLq0_7.out) (fun k_ hk => ⟨⟨hk.1, hk.2.2⟩, hk.2.1⟩))))); (case aB => exact (ZB)); (case aF => exact (fun k_ hk => ⟨(.inr (Nat.le_trans (below_size (ZB)) hk)), Kd.freshB (g := gbq0) (o := .cells #[.int .i64 ((D71 l0 x6_1).f0), .int .i64 ((D71 l0 x6_1).f1), .int .i64 ((D71 l0 x6_1).f2.f0), .int .i64 ((D71 l0 x6_1).f2.f1), .int .i64 ((D71 l0 x6_1).f2.f2), .int .i64 ((D71 l0 x6_1).f3), .slice Aq0_6 ((D71 l0 x6_1).f4).length cq0_6, .slice Aq0_7 ((D71 l0 x6_1).f5).length cq0_7] 71 (0, 0)) (ZK BKq0.out) k_ hk⟩)); (case aO => exact (ZRN HO_5.out)); (case aS => exact (below_size (ZB))); (case aL => have := LMc51.out; omega); intro vq0 wq5 ho hb hg hat; rw [← Ny480.out] at ho; have n0_ := AM (Kd.V_afterv (ok := (fun k_ => (P0_ k_ ∨ w.heap.size ≤ k_) ∧ k_ ≠ gbq0)) (ZVm HO_0.out (fun _ hk => ⟨⟨hk.1, hk.2.2⟩, hk.2.1⟩)) hg hat); have n1_ := AM (Kd.V_afterv (ok := (fun k_ => (P0_ k_ ∨ w.heap.size ≤ k_) ∧ k_ ≠ gbq0)) (ZVm HLq0_6.out (fun _ hk => ⟨⟨hk.1, hk.2.2⟩, hk.2.1⟩)) hg hat); have n2_ := AM (Kd.V_afterv (ok := (fun k_ => (P0_ k_ ∨ w.heap.size ≤ k_) ∧ k_ ≠ gbq0)) (ZVm HLq0_7.out (fun _ hk => ⟨⟨hk.1, hk.2.2⟩, hk.2.1⟩)) hg hat); have nq0_ := AM (blk_grown (g := gbq0) (o := .cells #[.int .i64 ((D71 l0 x6_1).f0), .int .i64 ((D71 l0 x6_1).f1), .int .i64 ((D71 l0 x6_1).f2.f0), .int .i64 ((D71 l0 x6_1).f2.f1), .int .i64 ((D71 l0 x6_1).f2.f2), .int .i64 ((D71 l0 x6_1).f3), .slice Aq0_6 ((D71 l0 x6_1).f4).length cq0_6, .slice Aq0_7 ((D71 l0 x6_1).f5).length cq0_7] 71 (0, 0)) (ZK BKq0.out) hg (Kd.N_away HO_5.out (fun _ hk => hk.2))); have nq1_ := AM (hb); have nq2_ := AM (ho); clear HO_0 HLq0_6 HLq0_7 BKq0 HB HO_5; have HO_0 := n0_; have HLq0_6 := n1_; have HLq0_7 := n2_; have BKq0 := nq0_; have HB := nq1_; have HOq0 := nq2_; clear n0_ n1_ n2_ nq0_ nq1_ nq2_ ho hb hg hat))
  go_roundg k1
  case measure => have := HK1.out; omega
  case rel => exact ⟨(wrap64 (x1_1 - (wrap64 ((wrap64 (1 + t465)) + t466)))), (y480), (wrap64 (x6_1 + 1)), ZSM, ZSM, H', ⟨by have := HK1.out; omega⟩, ⟨ZVm HO_0.out (fun _ hk => ⟨hk.1.1, hk.2⟩)⟩, ⟨ZRN (Kd.N_mono HOq0.out (fun _ hk => hk.1))⟩, ⟨ZB⟩⟩)
  | (
  (have z_ := tag4_; clear z_)
  try go_wp2_with (first | ((with_reducible refine gate_builtin (b := .append) (xs := #[.tmp 65, .tmp 67]) rfl ?_); at_builtin; refine Kd.N_append k71 (w0 := w) w.heap.size rfl (.tmp 65) (.tmp 67) 29 71 (.agg #[(.int .i64 0), (.int .i64 0), (.int .i64 0), (.int .i64 0), (.int .i64 0), (.int .i64 0), (.slice none 0 0), (.slice none 0 0)]) 96 rfl Tryd.underlying29 info71 rfl (by decide) (by omega) u5 x5_1 (⟨(D71 l0 x6_1).f0, (D71 l0 x6_1).f1, (⟨(D71 l0 x6_1).f2.f0, (D71 l0 x6_1).f2.f1, (D71 l0 x6_1).f2.f2⟩ : S69), (D71 l0 x6_1).f3, (D71 l0 x6_1).f4, (D71 l0 x6_1).f5⟩ : S71) [.int .i64 ((D71 l0 x6_1).f0), .int .i64 ((D71 l0 x6_1).f1), .int .i64 ((D71 l0 x6_1).f2.f0), .int .i64 ((D71 l0 x6_1).f2.f1), .int .i64 ((D71 l0 x6_1).f2.f2), .int .i64 ((D71 l0 x6_1).f3), .slice Aq0_6 ((D71 l0 x6_1).f4).length cq0_6, .slice Aq0_7 ((D71 l0 x6_1).f5).length cq0_7] (fun k_ => (P0_ k_ ∨ w.heap.size ≤ k_) ∧ k_ ≠ gbq0) (fun k_ => ((fun k_ => (P0_ k_ ∨ w.heap.size ≤ k_) ∧ k_ ≠ gbq0)) k_ ∧ some k_ ≠ (u5 : Value).ownBlock) rfl rfl ?aP (fun _ hk => hk) ?aF ?aO ?aB ?aS ?aL ?_; (case aP => exact (k71_mkF _ _ (⟨(D71 l0 x6_1).f0, (D71 l0 x6_1).f1, (⟨(D71 l0 x6_1).f2.f0, (D71 l0 x6_1).f2.f1, (D71 l0 x6_1).f2.f2⟩ : S69), (D71 l0 x6_1).f3, (D71 l0 x6_1).f4, (D71 l0 x6_1).f5⟩ : S71) (Kd.V_reads' (Kd.V_mono (ok' := (fun k_ => ((fun k_ => (P0_ k_ ∨ w.heap.size ≤ k_) ∧ k_ ≠ gbq0)) k_ ∧ some k_ ≠ (u5 : Value).ownBlock)) (HLq0_6.out) (fun k_ hk => ⟨⟨hk.1, hk.2.2⟩, hk.2.1⟩))).2.1 (Kd.V_F (Kd.V_mono (ok' := (fun k_ => ((fun k_ => (P0_ k_ ∨ w.heap.size ≤ k_) ∧ k_ ≠ gbq0)) k_ ∧ some k_ ≠ (u5 : Value).ownBlock)) (HLq0_6.out) (fun k_ hk => ⟨⟨hk.1, hk.2.2⟩, hk.2.1⟩))) (Kd.V_reads' (Kd.V_mono (ok' := (fun k_ => ((fun k_ => (P0_ k_ ∨ w.heap.size ≤ k_) ∧ k_ ≠ gbq0)) k_ ∧ some k_ ≠ (u5 : Value).ownBlock)) (HLq0_7.out) (fun k_ hk => ⟨⟨hk.1, hk.2.2⟩, hk.2.1⟩))).2.1 (Kd.V_F (Kd.V_mono (ok' := (fun k_ => ((fun k_ => (P0_ k_ ∨ w.heap.size ≤ k_) ∧ k_ ≠ gbq0)) k_ ∧ some k_ ≠ (u5 : Value).ownBlock)) (HLq0_7.out) (fun k_ hk => ⟨⟨hk.1, hk.2.2⟩, hk.2.1⟩))))); (case aB => exact (ZB)); (case aF => exact (fun k_ hk => ⟨(.inr (Nat.le_trans (below_size (ZB)) hk)), Kd.freshB (g := gbq0) (o := .cells #[.int .i64 ((D71 l0 x6_1).f0), .int .i64 ((D71 l0 x6_1).f1), .int .i64 ((D71 l0 x6_1).f2.f0), .int .i64 ((D71 l0 x6_1).f2.f1), .int .i64 ((D71 l0 x6_1).f2.f2), .int .i64 ((D71 l0 x6_1).f3), .slice Aq0_6 ((D71 l0 x6_1).f4).length cq0_6, .slice Aq0_7 ((D71 l0 x6_1).f5).length cq0_7] 71 (0, 0)) (ZK BKq0.out) k_ hk⟩)); (case aO => exact (ZRN HO_5.out)); (case aS => exact (below_size (ZB))); (case aL => have := LMc60.out; omega); intro vq0 wq5 ho hb hg hat; rw [← Ny483.out] at ho; have n0_ := AM (Kd.V_afterv (ok := (fun k_ => (P0_ k_ ∨ w.heap.size ≤ k_) ∧ k_ ≠ gbq0)) (ZVm HO_0.out (fun _ hk => ⟨⟨hk.1, hk.2.2⟩, hk.2.1⟩)) hg hat); have n1_ := AM (Kd.V_afterv (ok := (fun k_ => (P0_ k_ ∨ w.heap.size ≤ k_) ∧ k_ ≠ gbq0)) (ZVm HLq0_6.out (fun _ hk => ⟨⟨hk.1, hk.2.2⟩, hk.2.1⟩)) hg hat); have n2_ := AM (Kd.V_afterv (ok := (fun k_ => (P0_ k_ ∨ w.heap.size ≤ k_) ∧ k_ ≠ gbq0)) (ZVm HLq0_7.out (fun _ hk => ⟨⟨hk.1, hk.2.2⟩, hk.2.1⟩)) hg hat); have nq0_ := AM (blk_grown (g := gbq0) (o := .cells #[.int .i64 ((D71 l0 x6_1).f0), .int .i64 ((D71 l0 x6_1).f1), .int .i64 ((D71 l0 x6_1).f2.f0), .int .i64 ((D71 l0 x6_1).f2.f1), .int .i64 ((D71 l0 x6_1).f2.f2), .int .i64 ((D71 l0 x6_1).f3), .slice Aq0_6 ((D71 l0 x6_1).f4).length cq0_6, .slice Aq0_7 ((D71 l0 x6_1).f5).length cq0_7] 71 (0, 0)) (ZK BKq0.out) hg (Kd.N_away HO_5.out (fun _ hk => hk.2))); have nq1_ := AM (hb); have nq2_ := AM (ho); clear HO_0 HLq0_6 HLq0_7 BKq0 HB HO_5; have HO_0 := n0_; have HLq0_6 := n1_; have HLq0_7 := n2_; have BKq0 := nq0_; have HB := nq1_; have HOq0 := nq2_; clear n0_ n1_ n2_ nq0_ nq1_ nq2_ ho hb hg hat))
  go_roundg k1
  case measure => have := HK1.out; omega
  case rel => exact ⟨(x1_1), (y483), (wrap64 (x6_1 + 1)), ZSM, ZSM, H', ⟨by have := HK1.out; omega⟩, ⟨ZVm HO_0.out (fun _ hk => ⟨hk.1.1, hk.2⟩)⟩, ⟨ZRN (Kd.N_mono HOq0.out (fun _ hk => hk.1))⟩, ⟨ZB⟩⟩)
  | (
  (have z_ := tag5_; clear z_)
  try go_wp2_with (first | ((with_reducible refine gate_builtin (b := .append) (xs := #[.tmp 65, .tmp 67]) rfl ?_); at_builtin; refine Kd.N_append k71 (w0 := w) w.heap.size rfl (.tmp 65) (.tmp 67) 29 71 (.agg #[(.int .i64 0), (.int .i64 0), (.int .i64 0), (.int .i64 0), (.int .i64 0), (.int .i64 0), (.slice none 0 0), (.slice none 0 0)]) 96 rfl Tryd.underlying29 info71 rfl (by decide) (by omega) u5 x5_1 (⟨(D71 l0 x6_1).f0, (D71 l0 x6_1).f1, (⟨(D71 l0 x6_1).f2.f0, (D71 l0 x6_1).f2.f1, (D71 l0 x6_1).f2.f2⟩ : S69), (D71 l0 x6_1).f3, (D71 l0 x6_1).f4, (D71 l0 x6_1).f5⟩ : S71) [.int .i64 ((D71 l0 x6_1).f0), .int .i64 ((D71 l0 x6_1).f1), .int .i64 ((D71 l0 x6_1).f2.f0), .int .i64 ((D71 l0 x6_1).f2.f1), .int .i64 ((D71 l0 x6_1).f2.f2), .int .i64 ((D71 l0 x6_1).f3), .slice Aq0_6 ((D71 l0 x6_1).f4).length cq0_6, .slice Aq0_7 ((D71 l0 x6_1).f5).length cq0_7] (fun k_ => (P0_ k_ ∨ w.heap.size ≤ k_) ∧ k_ ≠ gbq0) (fun k_ => ((fun k_ => (P0_ k_ ∨ w.heap.size ≤ k_) ∧ k_ ≠ gbq0)) k_ ∧ some k_ ≠ (u5 : Value).ownBlock) rfl rfl ?aP (fun _ hk => hk) ?aF ?aO ?aB ?aS ?aL ?_; (case aP => exact (k71_mkF _ _ (⟨(D71 l0 x6_1).f0, (D71 l0 x6_1).f1, (⟨(D71 l0 x6_1).f2.f0, (D71 l0 x6_1).f2.f1, (D71 l0 x6_1).f2.f2⟩ : S69), (D71 l0 x6_1).f3, (D71 l0 x6_1).f4, (D71 l0 x6_1).f5⟩ : S71) (Kd.V_reads' (Kd.V_mono (ok' := (fun k_ => ((fun k_ => (P0_ k_ ∨ w.heap.size ≤ k_) ∧ k_ ≠ gbq0)) k_ ∧ some k_ ≠ (u5 : Value).ownBlock)) (HLq0_6.out) (fun k_ hk => ⟨⟨hk.1, hk.2.2⟩, hk.2.1⟩))).2.1 (Kd.V_F (Kd.V_mono (ok' := (fun k_ => ((fun k_ => (P0_ k_ ∨ w.heap.size ≤ k_) ∧ k_ ≠ gbq0)) k_ ∧ some k_ ≠ (u5 : Value).ownBlock)) (HLq0_6.out) (fun k_ hk => ⟨⟨hk.1, hk.2.2⟩, hk.2.1⟩))) (Kd.V_reads' (Kd.V_mono (ok' := (fun k_ => ((fun k_ => (P0_ k_ ∨ w.heap.size ≤ k_) ∧ k_ ≠ gbq0)) k_ ∧ some k_ ≠ (u5 : Value).ownBlock)) (HLq0_7.out) (fun k_ hk => ⟨⟨hk.1, hk.2.2⟩, hk.2.1⟩))).2.1 (Kd.V_F (Kd.V_mono (ok' := (fun k_ => ((fun k_ => (P0_ k_ ∨ w.heap.size ≤ k_) ∧ k_ ≠ gbq0)) k_ ∧ some k_ ≠ (u5 : Value).ownBlock)) (HLq0_7.out) (fun k_ hk => ⟨⟨hk.1, hk.2.2⟩, hk.2.1⟩))))); (case aB => exact (ZB)); (case aF => exact (fun k_ hk => ⟨(.inr (Nat.le_trans (below_size (ZB)) hk)), Kd.freshB (g := gbq0) (o := .cells #[.int .i64 ((D71 l0 x6_1).f0), .int .i64 ((D71 l0 x6_1).f1), .int .i64 ((D71 l0 x6_1).f2.f0), .int .i64 ((D71 l0 x6_1).f2.f1), .int .i64 ((D71 l0 x6_1).f2.f2), .int .i64 ((D71 l0 x6_1).f3), .slice Aq0_6 ((D71 l0 x6_1).f4).length cq0_6, .slice Aq0_7 ((D71 l0 x6_1).f5).length cq0_7] 71 (0, 0)) (ZK BKq0.out) k_ hk⟩)); (case aO => exact (ZRN HO_5.out)); (case aS => exact (below_size (ZB))); (case aL => have := LMc70.out; omega); intro vq0 wq5 ho hb hg hat; rw [← Ny486.out] at ho; have n0_ := AM (Kd.V_afterv (ok := (fun k_ => (P0_ k_ ∨ w.heap.size ≤ k_) ∧ k_ ≠ gbq0)) (ZVm HO_0.out (fun _ hk => ⟨⟨hk.1, hk.2.2⟩, hk.2.1⟩)) hg hat); have n1_ := AM (Kd.V_afterv (ok := (fun k_ => (P0_ k_ ∨ w.heap.size ≤ k_) ∧ k_ ≠ gbq0)) (ZVm HLq0_6.out (fun _ hk => ⟨⟨hk.1, hk.2.2⟩, hk.2.1⟩)) hg hat); have n2_ := AM (Kd.V_afterv (ok := (fun k_ => (P0_ k_ ∨ w.heap.size ≤ k_) ∧ k_ ≠ gbq0)) (ZVm HLq0_7.out (fun _ hk => ⟨⟨hk.1, hk.2.2⟩, hk.2.1⟩)) hg hat); have nq0_ := AM (blk_grown (g := gbq0) (o := .cells #[.int .i64 ((D71 l0 x6_1).f0), .int .i64 ((D71 l0 x6_1).f1), .int .i64 ((D71 l0 x6_1).f2.f0), .int .i64 ((D71 l0 x6_1).f2.f1), .int .i64 ((D71 l0 x6_1).f2.f2), .int .i64 ((D71 l0 x6_1).f3), .slice Aq0_6 ((D71 l0 x6_1).f4).length cq0_6, .slice Aq0_7 ((D71 l0 x6_1).f5).length cq0_7] 71 (0, 0)) (ZK BKq0.out) hg (Kd.N_away HO_5.out (fun _ hk => hk.2))); have nq1_ := AM (hb); have nq2_ := AM (ho); clear HO_0 HLq0_6 HLq0_7 BKq0 HB HO_5; have HO_0 := n0_; have HLq0_6 := n1_; have HLq0_7 := n2_; have BKq0 := nq0_; have HB := nq1_; have HOq0 := nq2_; clear n0_ n1_ n2_ nq0_ nq1_ nq2_ ho hb hg hat))
  go_roundg k1
  case measure => have := HK1.out; omega
  case rel => exact ⟨(wrap64 (x1_1 - (wrap64 ((wrap64 (1 + t465)) + t466)))), (y486), (wrap64 (x6_1 + 1)), ZSM, ZSM, H', ⟨by have := HK1.out; omega⟩, ⟨ZVm HO_0.out (fun _ hk => ⟨hk.1.1, hk.2⟩)⟩, ⟨ZRN (Kd.N_mono HOq0.out (fun _ hk => hk.1))⟩, ⟨ZB⟩⟩)
  | (
  (have z_ := tag6_; clear z_)
  try go_wp2_with (first | ((with_reducible refine gate_builtin (b := .append) (xs := #[.tmp 65, .tmp 67]) rfl ?_); at_builtin; refine Kd.N_append k71 (w0 := w) w.heap.size rfl (.tmp 65) (.tmp 67) 29 71 (.agg #[(.int .i64 0), (.int .i64 0), (.int .i64 0), (.int .i64 0), (.int .i64 0), (.int .i64 0), (.slice none 0 0), (.slice none 0 0)]) 96 rfl Tryd.underlying29 info71 rfl (by decide) (by omega) u5 x5_1 (⟨(D71 l0 x6_1).f0, (D71 l0 x6_1).f1, (⟨(D71 l0 x6_1).f2.f0, (D71 l0 x6_1).f2.f1, (D71 l0 x6_1).f2.f2⟩ : S69), (D71 l0 x6_1).f3, (D71 l0 x6_1).f4, (D71 l0 x6_1).f5⟩ : S71) [.int .i64 ((D71 l0 x6_1).f0), .int .i64 ((D71 l0 x6_1).f1), .int .i64 ((D71 l0 x6_1).f2.f0), .int .i64 ((D71 l0 x6_1).f2.f1), .int .i64 ((D71 l0 x6_1).f2.f2), .int .i64 ((D71 l0 x6_1).f3), .slice Aq0_6 ((D71 l0 x6_1).f4).length cq0_6, .slice Aq0_7 ((D71 l0 x6_1).f5).length cq0_7] (fun k_ => (P0_ k_ ∨ w.heap.size ≤ k_) ∧ k_ ≠ gbq0) (fun k_ => ((fun k_ => (P0_ k_ ∨ w.heap.size ≤ k_) ∧ k_ ≠ gbq0)) k_ ∧ some k_ ≠ (u5 : Value).ownBlock) rfl rfl ?aP (fun _ hk => hk) ?aF ?aO ?aB ?aS ?aL ?_; (case aP => exact (k71_mkF _ _ (⟨(D71 l0 x6_1).f0, (D71 l0 x6_1).f1, (⟨(D71 l0 x6_1).f2.f0, (D71 l0 x6_1).f2.f1, (D71 l0 x6_1).f2.f2⟩ : S69), (D71 l0 x6_1).f3, (D71 l0 x6_1).f4, (D71 l0 x6_1).f5⟩ : S71) (Kd.V_reads' (Kd.V_mono (ok' := (fun k_ => ((fun k_ => (P0_ k_ ∨ w.heap.size ≤ k_) ∧ k_ ≠ gbq0)) k_ ∧ some k_ ≠ (u5 : Value).ownBlock)) (HLq0_6.out) (fun k_ hk => ⟨⟨hk.1, hk.2.2⟩, hk.2.1⟩))).2.1 (Kd.V_F (Kd.V_mono (ok' := (fun k_ => ((fun k_ => (P0_ k_ ∨ w.heap.size ≤ k_) ∧ k_ ≠ gbq0)) k_ ∧ some k_ ≠ (u5 : Value).ownBlock)) (HLq0_6.out) (fun k_ hk => ⟨⟨hk.1, hk.2.2⟩, hk.2.1⟩))) (Kd.V_reads' (Kd.V_mono (ok' := (fun k_ => ((fun k_ => (P0_ k_ ∨ w.heap.size ≤ k_) ∧ k_ ≠ gbq0)) k_ ∧ some k_ ≠ (u5 : Value).ownBlock)) (HLq0_7.out) (fun k_ hk => ⟨⟨hk.1, hk.2.2⟩, hk.2.1⟩))).2.1 (Kd.V_F (Kd.V_mono (ok' := (fun k_ => ((fun k_ => (P0_ k_ ∨ w.heap.size ≤ k_) ∧ k_ ≠ gbq0)) k_ ∧ some k_ ≠ (u5 : Value).ownBlock)) (HLq0_7.out) (fun k_ hk => ⟨⟨hk.1, hk.2.2⟩, hk.2.1⟩))))); (case aB => exact (ZB)); (case aF => exact (fun k_ hk => ⟨(.inr (Nat.le_trans (below_size (ZB)) hk)), Kd.freshB (g := gbq0) (o := .cells #[.int .i64 ((D71 l0 x6_1).f0), .int .i64 ((D71 l0 x6_1).f1), .int .i64 ((D71 l0 x6_1).f2.f0), .int .i64 ((D71 l0 x6_1).f2.f1), .int .i64 ((D71 l0 x6_1).f2.f2), .int .i64 ((D71 l0 x6_1).f3), .slice Aq0_6 ((D71 l0 x6_1).f4).length cq0_6, .slice Aq0_7 ((D71 l0 x6_1).f5).length cq0_7] 71 (0, 0)) (ZK BKq0.out) k_ hk⟩)); (case aO => exact (ZRN HO_5.out)); (case aS => exact (below_size (ZB))); (case aL => have := LMc79.out; omega); intro vq0 wq5 ho hb hg hat; rw [← Ny489.out] at ho; have n0_ := AM (Kd.V_afterv (ok := (fun k_ => (P0_ k_ ∨ w.heap.size ≤ k_) ∧ k_ ≠ gbq0)) (ZVm HO_0.out (fun _ hk => ⟨⟨hk.1, hk.2.2⟩, hk.2.1⟩)) hg hat); have n1_ := AM (Kd.V_afterv (ok := (fun k_ => (P0_ k_ ∨ w.heap.size ≤ k_) ∧ k_ ≠ gbq0)) (ZVm HLq0_6.out (fun _ hk => ⟨⟨hk.1, hk.2.2⟩, hk.2.1⟩)) hg hat); have n2_ := AM (Kd.V_afterv (ok := (fun k_ => (P0_ k_ ∨ w.heap.size ≤ k_) ∧ k_ ≠ gbq0)) (ZVm HLq0_7.out (fun _ hk => ⟨⟨hk.1, hk.2.2⟩, hk.2.1⟩)) hg hat); have nq0_ := AM (blk_grown (g := gbq0) (o := .cells #[.int .i64 ((D71 l0 x6_1).f0), .int .i64 ((D71 l0 x6_1).f1), .int .i64 ((D71 l0 x6_1).f2.f0), .int .i64 ((D71 l0 x6_1).f2.f1), .int .i64 ((D71 l0 x6_1).f2.f2), .int .i64 ((D71 l0 x6_1).f3), .slice Aq0_6 ((D71 l0 x6_1).f4).length cq0_6, .slice Aq0_7 ((D71 l0 x6_1).f5).length cq0_7] 71 (0, 0)) (ZK BKq0.out) hg (Kd.N_away HO_5.out (fun _ hk => hk.2))); have nq1_ := AM (hb); have nq2_ := AM (ho); clear HO_0 HLq0_6 HLq0_7 BKq0 HB HO_5; have HO_0 := n0_; have HLq0_6 := n1_; have HLq0_7 := n2_; have BKq0 := nq0_; have HB := nq1_; have HOq0 := nq2_; clear n0_ n1_ n2_ nq0_ nq1_ nq2_ ho hb hg hat))
  go_roundg k1
  case measure => have := HK1.out; omega
  case rel => exact ⟨(x1_1), (y489), (wrap64 (x6_1 + 1)), ZSM, ZSM, H', ⟨by have := HK1.out; omega⟩, ⟨ZVm HO_0.out (fun _ hk => ⟨hk.1.1, hk.2⟩)⟩, ⟨ZRN (Kd.N_mono HOq0.out (fun _ hk => hk.1))⟩, ⟨ZB⟩⟩)))
  | (
  (have z_ := tag7_; clear z_)
  go_wp2
  go_ret
  exact ⟨_, ZE, by (with_reducible repeat (first | apply Kd.N_alloc | apply Kd.N_drewN | apply Kd.N_drew)); exact HO_5.out, ZB⟩
  )))
end Go.Proofs.YtfcmckomagaiiaaDoor.A
