/- What Go functions compute, as Lean functions, and for each its contract: for every input at which the Lean function answers the call returns that; written by wip/tools/pr.py over the kit's print. -/
import Derived.Test.YtcffnnedghgmaaaAx0
namespace Go.Proofs.Ytcffnnedghgmaaa.A
open Go.RowKit Go.Proofs.YtcffnnedghgmaaaW.PrintWords Go.Proofs.YtcffnnedghgmaaaW.PrintLast Go.Proofs.YtcffnnedghgmaaaW.PrintMore
attribute [local go_sem] max2_int min2_int max_two min_two max_three min_three max_four min_four   -- for this text's walks alone
set_option linter.unusedVariables false
set_option linter.unusedSimpArgs false

/-! ### laws_szStep: function 131 -/
def laws_szStep.g (k : Nat) (bf : List (S112) → Int → Option (Int)) (a0_0 : Int) (a0_1 : Int) (a0_2 : Int) (a0_3 : Int) (a0_4 : Int) (a0_5 : Int) (l0_6 : List (S112)) (l0_7 : List (S112)) (a1 : Int) : Option (Int) := (bf l0_6 a1).bind fun t171 => (if t171 < 0 then (some (-1)) else ((bf l0_7 t171).bind fun t172 => (if t172 < 0 then (some (-1)) else (some t172))))
theorem laws_szStep.mono_g {bf bf' : List (S112) → Int → Option (Int)} (hb : ∀ y0 y1, LeO (bf y0 y1) (bf' y0 y1)) : ∀ a0 a1 a2 a3 a4 a5 a6 a7 a8 k, LeO (laws_szStep.g k bf a0 a1 a2 a3 a4 a5 a6 a7 a8) (laws_szStep.g (k + 1) bf' a0 a1 a2 a3 a4 a5 a6 a7 a8) := by
  intro a0 a1 a2 a3 a4 a5 a6 a7 a8 k
  unfold laws_szStep.g
  repeat' first
      | (with_reducible exact hb _ _)
      | (with_reducible exact LeO.refl _)
      | (with_reducible exact LeO.none _)
      | (with_reducible refine LeO.ite ?_ ?_)
      | (with_reducible refine LeO.bind ?_ (fun _ => ?_))
      | exact hb _ _
      | exact LeO.none _
      | refine LeO.ite ?_ ?_
      | refine LeO.bind ?_ (fun _ => ?_)
set_option maxHeartbeats 8000000 in
set_option maxRecDepth 100000 in
theorem laws_szStep.calls_g (k : Nat) (bf : List (S112) → Int → Option (Int)) (ihB : ∀ (A0 : Option Addr) (c0 : Nat) (l0 : List (S112)) (a1 : Int) (r : Int) (w : World) (hr0 : Kd.C k112 w A0 l0.length l0) (hc0 : l0.length ≤ c0) (h : bf l0 a1 = some r),
    Calls Try.prog 96 #[.slice A0 l0.length c0, .int .i64 a1] w fun e w' => e = .returned (.int .i64 r) ∧ Below w.heap.size w w') (a0_0 : Int) (a0_1 : Int) (a0_2 : Int) (a0_3 : Int) (a0_4 : Int) (a0_5 : Int) (A0_6 : Option Addr) (c0_6 : Nat) (l0_6 : List (S112)) (A0_7 : Option Addr) (c0_7 : Nat) (l0_7 : List (S112)) (a1 : Int) (r : Int) (w : World) (hr0_6 : Kd.C k112 w A0_6 l0_6.length l0_6) (hc0_6 : l0_6.length ≤ c0_6) (hr0_7 : Kd.C k112 w A0_7 l0_7.length l0_7) (hc0_7 : l0_7.length ≤ c0_7) (h : laws_szStep.g k bf a0_0 a0_1 a0_2 a0_3 a0_4 a0_5 l0_6 l0_7 a1 = some r) :
    Calls Try.prog 131 #[.agg #[.int .i64 a0_0, .int .i64 a0_1, .int .i64 a0_2, .int .i64 a0_3, .int .i64 a0_4, .int .i64 a0_5, .slice A0_6 l0_6.length c0_6, .slice A0_7 l0_7.length c0_7], .int .i64 a1] w fun e w' => e = .returned (.int .i64 r) ∧ Below w.heap.size w w' := by
  have hu112 := Try.underlying112
  have HR0_6 := Aside0.mk hr0_6
  have HC0_6 := Aside0.mk hc0_6
  clear hr0_6 hc0_6
  have HR0_7 := Aside0.mk hr0_7
  have HC0_7 := Aside0.mk hc0_7
  clear hr0_7 hc0_7
  have HB := Aside0.mk (Below.refl w.heap.size w)
  have H : ((bf l0_6 a1).bind fun t171 => (if t171 < 0 then (some (-1)) else ((bf l0_7 t171).bind fun t172 => (if t172 < 0 then (some (-1)) else (some t172))))) = some r := h
  clear h
  replace H := Option.bind_eq_some_iff.mp H
  obtain ⟨t171, A30, H⟩ := H
  replace H : (if t171 < 0 then (some (-1)) else ((bf l0_7 t171).bind fun t172 => (if t172 < 0 then (some (-1)) else (some t172)))) = some r := H
  have A3 := Aside0.mk A30
  clear A30
  by_cases c4 : t171 < 0
  focus
    rw [if_pos c4] at H
    have c4b0 : decide (t171 < 0) = true := decide_eq_true c4
    clear c4
    obtain rfl := Option.some.inj H
    have tag0_ : Aside0 True := ⟨trivial⟩
  rotate_left
  focus
    rw [if_neg c4] at H
    have c4b0 : decide (t171 < 0) = false := decide_eq_false c4
    clear c4
    replace H := Option.bind_eq_some_iff.mp H
    obtain ⟨t172, A80, H⟩ := H
    replace H : (if t172 < 0 then (some (-1)) else (some t172)) = some r := H
    have A8 := Aside0.mk A80
    clear A80
    by_cases c9 : t172 < 0
    focus
      rw [if_pos c9] at H
      have c9b0 : decide (t172 < 0) = true := decide_eq_true c9
      clear c9
      obtain rfl := Option.some.inj H
      have tag1_ : Aside0 True := ⟨trivial⟩
    rotate_left
    focus
      rw [if_neg c9] at H
      have c9b0 : decide (t172 < 0) = false := decide_eq_false c9
      clear c9
      obtain rfl := Option.some.inj H
      have tag2_ : Aside0 True := ⟨trivial⟩
    rotate_left
  rotate_left 2
  all_goals
    go_enter Try.func131, Try.ntmps131
    first
    | ((have z_ := tag0_; clear z_)
       go_wp2_with (first | ((with_reducible refine gate_dst (N := 2) rfl ?_); refine box_event ?hg (N := 2) ?hd (cs := #[.int .i64 a0_0, .int .i64 a0_1, .int .i64 a0_2, .int .i64 a0_3, .int .i64 a0_4, .int .i64 a0_5, .slice A0_6 l0_6.length c0_6, .slice A0_7 l0_7.length c0_7]) (t := 112) ?hr ?_; (case hd => rfl); (case hg => rfl); (case hr => first | (go_simp; done) | (go_simp; rfl)); intro gbq0 hg wq0 hbox hb; have nq0_ := Aside0.mk (below_step (by repeat (first | (with_reducible first | exact HB.out | apply below_alloc | apply pw_below_drewN | apply below_drew1) | exact HB.out)) hb); have nq1_ := Aside0.mk (hbox); have nq2_ := Aside0.mk ((by rw [hg]; exact (below_size (by repeat (first | (with_reducible first | exact HB.out | apply below_alloc | apply pw_below_drewN | apply below_drew1) | exact HB.out))) : w.heap.size ≤ gbq0)); have nq3_ := Aside0.mk ((by rw [hg]; exact (below_size (by repeat (first | (with_reducible first | exact HB.out | apply below_alloc | apply pw_below_drewN | apply below_drew1) | exact HB.out))) : w.heap.size ≤ gbq0)); clear HB; have HB := nq0_; have BKq0 := nq1_; have GWq0 := nq2_; have GEq0 := nq3_; clear nq0_ nq1_ nq2_ nq3_; clear hb hbox hg; have hczq0_0 : wq0.cell? ⟨gbq0, 0, none⟩ = some (.int .i64 a0_0) := (blk_cell BKq0.out 0).trans rfl; have hczq0_1 : wq0.cell? ⟨gbq0, 1, none⟩ = some (.int .i64 a0_1) := (blk_cell BKq0.out 1).trans rfl; have hczq0_2 : wq0.cell? ⟨gbq0, 2, none⟩ = some (.int .i64 a0_2) := (blk_cell BKq0.out 2).trans rfl; have hczq0_3 : wq0.cell? ⟨gbq0, 3, none⟩ = some (.int .i64 a0_3) := (blk_cell BKq0.out 3).trans rfl; have hczq0_4 : wq0.cell? ⟨gbq0, 4, none⟩ = some (.int .i64 a0_4) := (blk_cell BKq0.out 4).trans rfl; have hczq0_5 : wq0.cell? ⟨gbq0, 5, none⟩ = some (.int .i64 a0_5) := (blk_cell BKq0.out 5).trans rfl; have hczq0_6 : wq0.cell? ⟨gbq0, 6, none⟩ = some (.slice A0_6 l0_6.length c0_6) := (blk_cell BKq0.out 6).trans rfl; have hczq0_7 : wq0.cell? ⟨gbq0, 7, none⟩ = some (.slice A0_7 l0_7.length c0_7) := (blk_cell BKq0.out 7).trans rfl; have hfzq0_0 := blk_frozen BKq0.out 0; have hfzq0_1 := blk_frozen BKq0.out 1; have hfzq0_2 := blk_frozen BKq0.out 2; have hfzq0_3 := blk_frozen BKq0.out 3; have hfzq0_4 := blk_frozen BKq0.out 4; have hfzq0_5 := blk_frozen BKq0.out 5; have hfzq0_6 := blk_frozen BKq0.out 6; have hfzq0_7 := blk_frozen BKq0.out 7) | ((with_reducible refine gate_callee (f := 96) rfl ?_); refine goesL_ (some 8) rfl rfl Try.func96 (by kernel_rfl) rfl #[.slice A0_6 l0_6.length c0_6, .int .i64 a1] rfl (by (try simp only [List.map_toArray, List.map_cons, List.map_nil]); first | done | rfl | (simp only [List.length_drop, List.length_take]; rfl)) ?_; (with_reducible refine (ihB _ _ l0_6 a1 t171 _ ?side1 ?side2 A3.out).mono ?_); (case side1 => repeat (first | exact (Kd.C_below HR0_6.out HB.out) | (with_reducible refine Kd.C_alloc ?_ _) | (with_reducible refine Kd.C_drewN ?_ _) | (with_reducible refine Kd.C_drew ?_))); (case side2 => exact HC0_6.out); rintro e wq1 ⟨rfl, hb⟩; refine ⟨_, rfl, ?_⟩; have nq0_ := Aside0.mk (blk_below (g := gbq0) (o := .cells #[.int .i64 a0_0, .int .i64 a0_1, .int .i64 a0_2, .int .i64 a0_3, .int .i64 a0_4, .int .i64 a0_5, .slice A0_6 l0_6.length c0_6, .slice A0_7 l0_7.length c0_7] 112 (0, 0)) (by (with_reducible repeat (first | refine blk_drewN ?_ _ | refine blk_drew ?_ | refine blk_alloc ?_ _)); exact BKq0.out) hb); have nq1_ := Aside0.mk (below_step (by repeat (first | (with_reducible first | exact HB.out | apply below_alloc | apply pw_below_drewN | apply below_drew1 | refine below_set ?_ GEq0.out) | exact HB.out)) hb); clear BKq0; clear HB; have BKq0 := nq0_; have HB := nq1_; clear nq0_ nq1_; (try clear hb); (try clear hb2); (try clear hk); (try clear hi)))
       go_ret
       exact ⟨by first | rfl | (simp [errW_none, errW_some] <;> rfl) | (simp [*, errW_none, errW_some] <;> rfl), by repeat (first | (with_reducible first | exact HB.out | apply below_alloc | apply pw_below_drewN | apply below_drew1 | refine below_set ?_ GEq0.out) | exact HB.out)⟩)
    | ((first | (have z_ := tag1_; clear z_) | (have z_ := tag2_; clear z_))
       go_wp2_with (first | ((with_reducible refine gate_dst (N := 2) rfl ?_); refine box_event ?hg (N := 2) ?hd (cs := #[.int .i64 a0_0, .int .i64 a0_1, .int .i64 a0_2, .int .i64 a0_3, .int .i64 a0_4, .int .i64 a0_5, .slice A0_6 l0_6.length c0_6, .slice A0_7 l0_7.length c0_7]) (t := 112) ?hr ?_; (case hd => rfl); (case hg => rfl); (case hr => first | (go_simp; done) | (go_simp; rfl)); intro gbq0 hg wq0 hbox hb; have nq0_ := Aside0.mk (below_step (by repeat (first | (with_reducible first | exact HB.out | apply below_alloc | apply pw_below_drewN | apply below_drew1) | exact HB.out)) hb); have nq1_ := Aside0.mk (hbox); have nq2_ := Aside0.mk ((by rw [hg]; exact (below_size (by repeat (first | (with_reducible first | exact HB.out | apply below_alloc | apply pw_below_drewN | apply below_drew1) | exact HB.out))) : w.heap.size ≤ gbq0)); have nq3_ := Aside0.mk ((by rw [hg]; exact (below_size (by repeat (first | (with_reducible first | exact HB.out | apply below_alloc | apply pw_below_drewN | apply below_drew1) | exact HB.out))) : w.heap.size ≤ gbq0)); clear HB; have HB := nq0_; have BKq0 := nq1_; have GWq0 := nq2_; have GEq0 := nq3_; clear nq0_ nq1_ nq2_ nq3_; clear hb hbox hg; have hczq0_0 : wq0.cell? ⟨gbq0, 0, none⟩ = some (.int .i64 a0_0) := (blk_cell BKq0.out 0).trans rfl; have hczq0_1 : wq0.cell? ⟨gbq0, 1, none⟩ = some (.int .i64 a0_1) := (blk_cell BKq0.out 1).trans rfl; have hczq0_2 : wq0.cell? ⟨gbq0, 2, none⟩ = some (.int .i64 a0_2) := (blk_cell BKq0.out 2).trans rfl; have hczq0_3 : wq0.cell? ⟨gbq0, 3, none⟩ = some (.int .i64 a0_3) := (blk_cell BKq0.out 3).trans rfl; have hczq0_4 : wq0.cell? ⟨gbq0, 4, none⟩ = some (.int .i64 a0_4) := (blk_cell BKq0.out 4).trans rfl; have hczq0_5 : wq0.cell? ⟨gbq0, 5, none⟩ = some (.int .i64 a0_5) := (blk_cell BKq0.out 5).trans rfl; have hczq0_6 : wq0.cell? ⟨gbq0, 6, none⟩ = some (.slice A0_6 l0_6.length c0_6) := (blk_cell BKq0.out 6).trans rfl; have hczq0_7 : wq0.cell? ⟨gbq0, 7, none⟩ = some (.slice A0_7 l0_7.length c0_7) := (blk_cell BKq0.out 7).trans rfl; have hfzq0_0 := blk_frozen BKq0.out 0; have hfzq0_1 := blk_frozen BKq0.out 1; have hfzq0_2 := blk_frozen BKq0.out 2; have hfzq0_3 := blk_frozen BKq0.out 3; have hfzq0_4 := blk_frozen BKq0.out 4; have hfzq0_5 := blk_frozen BKq0.out 5; have hfzq0_6 := blk_frozen BKq0.out 6; have hfzq0_7 := blk_frozen BKq0.out 7) | ((with_reducible refine gate_callee (f := 96) rfl ?_); refine goesL_ (some 8) rfl rfl Try.func96 (by kernel_rfl) rfl #[.slice A0_6 l0_6.length c0_6, .int .i64 a1] rfl (by (try simp only [List.map_toArray, List.map_cons, List.map_nil]); first | done | rfl | (simp only [List.length_drop, List.length_take]; rfl)) ?_; (with_reducible refine (ihB _ _ l0_6 a1 t171 _ ?side1 ?side2 A3.out).mono ?_); (case side1 => repeat (first | exact (Kd.C_below HR0_6.out HB.out) | (with_reducible refine Kd.C_alloc ?_ _) | (with_reducible refine Kd.C_drewN ?_ _) | (with_reducible refine Kd.C_drew ?_))); (case side2 => exact HC0_6.out); rintro e wq1 ⟨rfl, hb⟩; refine ⟨_, rfl, ?_⟩; have nq0_ := Aside0.mk (blk_below (g := gbq0) (o := .cells #[.int .i64 a0_0, .int .i64 a0_1, .int .i64 a0_2, .int .i64 a0_3, .int .i64 a0_4, .int .i64 a0_5, .slice A0_6 l0_6.length c0_6, .slice A0_7 l0_7.length c0_7] 112 (0, 0)) (by (with_reducible repeat (first | refine blk_drewN ?_ _ | refine blk_drew ?_ | refine blk_alloc ?_ _)); exact BKq0.out) hb); have nq1_ := Aside0.mk (below_step (by repeat (first | (with_reducible first | exact HB.out | apply below_alloc | apply pw_below_drewN | apply below_drew1 | refine below_set ?_ GEq0.out) | exact HB.out)) hb); clear BKq0; clear HB; have BKq0 := nq0_; have HB := nq1_; clear nq0_ nq1_; (try clear hb); (try clear hb2); (try clear hk); (try clear hi); have hczq1_0 : wq1.cell? ⟨gbq0, 0, none⟩ = some (.int .i64 a0_0) := (blk_cell BKq0.out 0).trans rfl; have hczq1_1 : wq1.cell? ⟨gbq0, 1, none⟩ = some (.int .i64 a0_1) := (blk_cell BKq0.out 1).trans rfl; have hczq1_2 : wq1.cell? ⟨gbq0, 2, none⟩ = some (.int .i64 a0_2) := (blk_cell BKq0.out 2).trans rfl; have hczq1_3 : wq1.cell? ⟨gbq0, 3, none⟩ = some (.int .i64 a0_3) := (blk_cell BKq0.out 3).trans rfl; have hczq1_4 : wq1.cell? ⟨gbq0, 4, none⟩ = some (.int .i64 a0_4) := (blk_cell BKq0.out 4).trans rfl; have hczq1_5 : wq1.cell? ⟨gbq0, 5, none⟩ = some (.int .i64 a0_5) := (blk_cell BKq0.out 5).trans rfl; have hczq1_6 : wq1.cell? ⟨gbq0, 6, none⟩ = some (.slice A0_6 l0_6.length c0_6) := (blk_cell BKq0.out 6).trans rfl; have hczq1_7 : wq1.cell? ⟨gbq0, 7, none⟩ = some (.slice A0_7 l0_7.length c0_7) := (blk_cell BKq0.out 7).trans rfl; have hfzq1_0 := blk_frozen BKq0.out 0; have hfzq1_1 := blk_frozen BKq0.out 1; have hfzq1_2 := blk_frozen BKq0.out 2; have hfzq1_3 := blk_frozen BKq0.out 3; have hfzq1_4 := blk_frozen BKq0.out 4; have hfzq1_5 := blk_frozen BKq0.out 5; have hfzq1_6 := blk_frozen BKq0.out 6; have hfzq1_7 := blk_frozen BKq0.out 7) | ((with_reducible refine gate_callee (f := 96) rfl ?_); refine goesL_ (some 14) rfl rfl Try.func96 (by kernel_rfl) rfl #[.slice A0_7 l0_7.length c0_7, .int .i64 t171] rfl (by (try simp only [List.map_toArray, List.map_cons, List.map_nil]); first | done | rfl | (simp only [List.length_drop, List.length_take]; rfl)) ?_; (with_reducible refine (ihB _ _ l0_7 t171 t172 _ ?side1 ?side2 A8.out).mono ?_); (case side1 => repeat (first | exact (Kd.C_below HR0_7.out HB.out) | (with_reducible refine Kd.C_alloc ?_ _) | (with_reducible refine Kd.C_drewN ?_ _) | (with_reducible refine Kd.C_drew ?_))); (case side2 => exact HC0_7.out); rintro e wq2 ⟨rfl, hb⟩; refine ⟨_, rfl, ?_⟩; have nq0_ := Aside0.mk (blk_below (g := gbq0) (o := .cells #[.int .i64 a0_0, .int .i64 a0_1, .int .i64 a0_2, .int .i64 a0_3, .int .i64 a0_4, .int .i64 a0_5, .slice A0_6 l0_6.length c0_6, .slice A0_7 l0_7.length c0_7] 112 (0, 0)) (by (with_reducible repeat (first | refine blk_drewN ?_ _ | refine blk_drew ?_ | refine blk_alloc ?_ _)); exact BKq0.out) hb); have nq1_ := Aside0.mk (below_step (by repeat (first | (with_reducible first | exact HB.out | apply below_alloc | apply pw_below_drewN | apply below_drew1 | refine below_set ?_ GEq0.out) | exact HB.out)) hb); clear BKq0; clear HB; have BKq0 := nq0_; have HB := nq1_; clear nq0_ nq1_; (try clear hb); (try clear hb2); (try clear hk); (try clear hi)))
       go_ret
       exact ⟨by first | rfl | (simp [errW_none, errW_some] <;> rfl) | (simp [*, errW_none, errW_some] <;> rfl), by repeat (first | (with_reducible first | exact HB.out | apply below_alloc | apply pw_below_drewN | apply below_drew1 | refine below_set ?_ GEq0.out) | exact HB.out)⟩)

/-! ### laws_szStepS: function 96 -/
mutual
def laws_szStepS.l0 : Nat → List (S112) → Int → Int → Option (Int)
  | 0, _, _, _ => none
  | k + 1, x0, x1, x5 => if x5 < (x0.length : Int) then (if 0 ≤ x5 then ((laws_szStep.g k (laws_szStepS.f k) ((rd_T112 x0 x5).f0) ((rd_T112 x0 x5).f1) ((rd_T112 x0 x5).f2.f0) ((rd_T112 x0 x5).f2.f1) ((rd_T112 x0 x5).f2.f2) ((rd_T112 x0 x5).f3) ((rd_T112 x0 x5).f4) ((rd_T112 x0 x5).f5) x1).bind fun t174 => (if t174 < 0 then (some (-1)) else (laws_szStepS.l0 k x0 t174 (wrap64 (x5 + 1))))) else (none)) else (some x1)
def laws_szStepS.f : Nat → List (S112) → Int → Option (Int)
  | 0, _, _ => none
  | k + 1, l0, a1 => if (wrap64 (a1 - (l0.length : Int))) < 0 then (some (-1)) else (laws_szStepS.l0 k l0 (wrap64 (a1 - (l0.length : Int))) 0)
end
theorem laws_szStepS.mono_l : ∀ k, (∀ y0 y1, LeO (laws_szStepS.f k y0 y1) (laws_szStepS.f (k + 1) y0 y1)) ∧ (∀ y0 y1 y2, LeO (laws_szStepS.l0 k y0 y1 y2) (laws_szStepS.l0 (k + 1) y0 y1 y2))
  | 0 => ⟨fun _ _ r h => by simp [laws_szStepS.f] at h, fun _ _ _ r h => by simp [laws_szStepS.l0] at h⟩
  | k + 1 => by
    obtain ⟨ih0, ih1⟩ := laws_szStepS.mono_l k
    refine ⟨?_, ?_⟩
    · intro y0 y1
      unfold laws_szStepS.f
      repeat' first
      | (with_reducible exact ih0 _ _)
      | (with_reducible exact ih1 _ _ _)
      | (with_reducible exact laws_szStep.mono_g ih0 _ _ _ _ _ _ _ _ _ _)
      | (with_reducible exact LeO.refl _)
      | (with_reducible exact LeO.none _)
      | (with_reducible refine LeO.ite ?_ ?_)
      | (with_reducible refine LeO.bind ?_ (fun _ => ?_))
      | exact ih0 _ _
      | exact ih1 _ _ _
      | exact laws_szStep.mono_g ih0 _ _ _ _ _ _ _ _ _ _
      | exact LeO.none _
      | refine LeO.ite ?_ ?_
      | refine LeO.bind ?_ (fun _ => ?_)
    · intro y0 y1 y2
      unfold laws_szStepS.l0
      repeat' first
      | (with_reducible exact ih0 _ _)
      | (with_reducible exact ih1 _ _ _)
      | (with_reducible exact laws_szStep.mono_g ih0 _ _ _ _ _ _ _ _ _ _)
      | (with_reducible exact LeO.refl _)
      | (with_reducible exact LeO.none _)
      | (with_reducible refine LeO.ite ?_ ?_)
      | (with_reducible refine LeO.bind ?_ (fun _ => ?_))
      | exact ih0 _ _
      | exact ih1 _ _ _
      | exact laws_szStep.mono_g ih0 _ _ _ _ _ _ _ _ _ _
      | exact LeO.none _
      | refine LeO.ite ?_ ?_
      | refine LeO.bind ?_ (fun _ => ?_)
theorem laws_szStepS.mono : ∀ a0 a1 k, LeO (laws_szStepS.f k a0 a1) (laws_szStepS.f (k + 1) a0 a1) := by
  intro a0 a1 k
  obtain ⟨ih0, ih1⟩ := laws_szStepS.mono_l k
  exact ih0 a0 a1
theorem laws_szStep.calls_of {K : Nat} (ih : ∀ m, m < K → ∀ (A0 : Option Addr) (c0 : Nat) (l0 : List (S112)) (a1 : Int) (r : Int) (w : World) (hr0 : Kd.C k112 w A0 l0.length l0) (hc0 : l0.length ≤ c0) (h : laws_szStepS.f m l0 a1 = some r),
    Calls Try.prog 96 #[.slice A0 l0.length c0, .int .i64 a1] w fun e w' => e = .returned (.int .i64 r) ∧ Below w.heap.size w w') (k : Nat) (hk : k < K) (a0_0 : Int) (a0_1 : Int) (a0_2 : Int) (a0_3 : Int) (a0_4 : Int) (a0_5 : Int) (A0_6 : Option Addr) (c0_6 : Nat) (l0_6 : List (S112)) (A0_7 : Option Addr) (c0_7 : Nat) (l0_7 : List (S112)) (a1 : Int) (r : Int) (w : World) (hr0_6 : Kd.C k112 w A0_6 l0_6.length l0_6) (hc0_6 : l0_6.length ≤ c0_6) (hr0_7 : Kd.C k112 w A0_7 l0_7.length l0_7) (hc0_7 : l0_7.length ≤ c0_7) (h : laws_szStep.g k (laws_szStepS.f k) a0_0 a0_1 a0_2 a0_3 a0_4 a0_5 l0_6 l0_7 a1 = some r) :
    Calls Try.prog 131 #[.agg #[.int .i64 a0_0, .int .i64 a0_1, .int .i64 a0_2, .int .i64 a0_3, .int .i64 a0_4, .int .i64 a0_5, .slice A0_6 l0_6.length c0_6, .slice A0_7 l0_7.length c0_7], .int .i64 a1] w fun e w' => e = .returned (.int .i64 r) ∧ Below w.heap.size w w' := laws_szStep.calls_g k (laws_szStepS.f k) (ih k hk) a0_0 a0_1 a0_2 a0_3 a0_4 a0_5 A0_6 c0_6 l0_6 A0_7 c0_7 l0_7 a1 r w hr0_6 hc0_6 hr0_7 hc0_7 h
set_option maxHeartbeats 8000000 in
set_option maxRecDepth 100000 in
theorem laws_szStepS.calls (k : Nat) : ∀ (A0 : Option Addr) (c0 : Nat) (l0 : List (S112)) (a1 : Int) (r : Int) (w : World) (hr0 : Kd.C k112 w A0 l0.length l0) (hc0 : l0.length ≤ c0) (h : laws_szStepS.f k l0 a1 = some r),
    Calls Try.prog 96 #[.slice A0 l0.length c0, .int .i64 a1] w fun e w' => e = .returned (.int .i64 r) ∧ Below w.heap.size w w' := by
  induction k using Nat.strongRecOn with
  | _ k ih =>
  intro A0 c0 l0 a1 r w hr0 hc0 h
  cases k with
  | zero => exact absurd h (by simp [laws_szStepS.f])
  | succ k =>
  simp only [laws_szStepS.f] at h
  have hu112 := Try.underlying112
  have HR0 := Aside0.mk hr0
  have HC0 := Aside0.mk hc0
  clear hr0 hc0
  have HB := Aside0.mk (Below.refl w.heap.size w)
  have H : (if (wrap64 (a1 - (l0.length : Int))) < 0 then (some (-1)) else (laws_szStepS.l0 k l0 (wrap64 (a1 - (l0.length : Int))) 0)) = some r := h
  clear h
  by_cases c3 : (wrap64 (a1 - (l0.length : Int))) < 0
  · rw [if_pos c3] at H
    have c3b0 : decide ((wrap64 (a1 - (l0.length : Int))) < 0) = true := decide_eq_true c3
    clear c3
    obtain rfl := Option.some.inj H
    go_enter Try.func96, Try.ntmps96
    go_wp2
    go_ret
    exact ⟨by first | rfl | (simp [errW_none, errW_some] <;> rfl) | (simp [*, errW_none, errW_some] <;> rfl), by repeat (first | (with_reducible first | exact HB.out | apply below_alloc | apply pw_below_drewN | apply below_drew1) | exact HB.out)⟩
  · rw [if_neg c3] at H
    have c3b0 : decide ((wrap64 (a1 - (l0.length : Int))) < 0) = false := decide_eq_false c3
    clear c3
    have H' := Aside0.mk H
    clear H
    go_enter Try.func96, Try.ntmps96
    go_wp2
    go_loopg [1, 5] k (fun kq v1 v5 w' => ∃ (x1_1 : Int) (x5_1 : Int), v1 = .int .i64 x1_1 ∧ v5 = .int .i64 x5_1 ∧ Aside0 (laws_szStepS.l0 kq l0 x1_1 x5_1 = some r) ∧ Aside0 (kq ≤ k) ∧ Aside0 (Below w.heap.size w w'))
    case atStart => exact ⟨(wrap64 (a1 - (l0.length : Int))), (0), (by first | rfl | (simp; done) | (simp [*]; done)), (by first | rfl | (simp; done) | (simp [*]; done)), H', ⟨Nat.le_refl _⟩, ⟨by repeat (first | (with_reducible first | exact HB.out | apply below_alloc | apply pw_below_drewN | apply below_drew1) | exact HB.out)⟩⟩
    case round =>
      clear H'
      try clear p2
      try clear c3
      try clear c3b0
      obtain ⟨x1_1, x5_1, rfl, rfl, HA, HK1, HB⟩ := hrel
      cases gk with
      | zero => exact absurd HA.out (by simp [laws_szStepS.l0])
      | succ k1 =>
        have H := HA.out
        clear HA
        simp only [laws_szStepS.l0] at H
        by_cases c4 : x5_1 < (l0.length : Int)
        · rw [if_pos c4] at H
          have c4b0 : decide (x5_1 < (l0.length : Int)) = true := decide_eq_true c4
          clear c4
          by_cases c5 : 0 ≤ x5_1
          · rw [if_pos c5] at H
            have c5b0 : decide (0 ≤ x5_1) = true := decide_eq_true c5
            clear c5
            replace H := Option.bind_eq_some_iff.mp H
            obtain ⟨t174, A60, H⟩ := H
            replace H : (if t174 < 0 then (some (-1)) else (laws_szStepS.l0 k1 l0 t174 (wrap64 (x5_1 + 1)))) = some r := H
            have A6 := Aside0.mk A60
            clear A60
            by_cases c7 : t174 < 0
            · rw [if_pos c7] at H
              have c7b0 : decide (t174 < 0) = true := decide_eq_true c7
              clear c7
              obtain rfl := Option.some.inj H
              have p173 : 0 ≤ (x5_1 : Int) := of_decide_eq_true (by first | (with_reducible assumption) | assumption)
              have q173 : x5_1 < (l0.length : Int) := of_decide_eq_true (by first | (with_reducible assumption) | assumption)
              obtain ⟨ad173, A173_6, c173_6, A173_7, c173_7, e173, hx173_0, hx173_1, hx173_2, hx173_3, hx173_4, hx173_5, hx173_6, hx173_7, hl173_6, hi173_6, hl173_7, hi173_7⟩ := at_T112 HR0.out x5_1 p173 q173
              cases e173
              replace hx173_0 := (HB.out.cell (World.block_lt_of_cell? w _ hx173_0)).trans hx173_0
              replace hx173_1 := (HB.out.cell (World.block_lt_of_cell? w _ hx173_1)).trans hx173_1
              replace hx173_2 := (HB.out.cell (World.block_lt_of_cell? w _ hx173_2)).trans hx173_2
              replace hx173_3 := (HB.out.cell (World.block_lt_of_cell? w _ hx173_3)).trans hx173_3
              replace hx173_4 := (HB.out.cell (World.block_lt_of_cell? w _ hx173_4)).trans hx173_4
              replace hx173_5 := (HB.out.cell (World.block_lt_of_cell? w _ hx173_5)).trans hx173_5
              replace hx173_6 := (HB.out.cell (World.block_lt_of_cell? w _ hx173_6)).trans hx173_6
              replace hx173_7 := (HB.out.cell (World.block_lt_of_cell? w _ hx173_7)).trans hx173_7
              have HR173_6 := Aside0.mk hi173_6
              have HC173_6 := Aside0.mk hl173_6
              clear hi173_6 hl173_6
              have HR173_7 := Aside0.mk hi173_7
              have HC173_7 := Aside0.mk hl173_7
              clear hi173_7 hl173_7
              replace p173 := eq_true p173
              replace q173 := eq_true q173
              go_wp2_with (first | ((with_reducible refine gate_callee (f := 131) rfl ?_); refine goesL_ (some 23) rfl rfl Try.func131 (by kernel_rfl) rfl #[.agg #[.int .i64 ((rd_T112 l0 x5_1).f0), .int .i64 ((rd_T112 l0 x5_1).f1), .int .i64 ((rd_T112 l0 x5_1).f2.f0), .int .i64 ((rd_T112 l0 x5_1).f2.f1), .int .i64 ((rd_T112 l0 x5_1).f2.f2), .int .i64 ((rd_T112 l0 x5_1).f3), .slice A173_6 ((rd_T112 l0 x5_1).f4).length c173_6, .slice A173_7 ((rd_T112 l0 x5_1).f5).length c173_7], .int .i64 x1_1] rfl (by (try simp only [List.map_toArray, List.map_cons, List.map_nil]); first | done | rfl | (simp only [List.length_drop, List.length_take]; rfl)) ?_; (with_reducible refine ((laws_szStep.calls_of ih) k1 (by have := HK1.out; omega) ((rd_T112 l0 x5_1).f0) ((rd_T112 l0 x5_1).f1) ((rd_T112 l0 x5_1).f2.f0) ((rd_T112 l0 x5_1).f2.f1) ((rd_T112 l0 x5_1).f2.f2) ((rd_T112 l0 x5_1).f3) _ _ ((rd_T112 l0 x5_1).f4) _ _ ((rd_T112 l0 x5_1).f5) x1_1 t174 _ ?side1 ?side2 ?side3 ?side4 A6.out).mono ?_); (case side1 => repeat (first | exact (Kd.C_below HR173_6.out HB.out) | (with_reducible refine Kd.C_alloc ?_ _) | (with_reducible refine Kd.C_drewN ?_ _) | (with_reducible refine Kd.C_drew ?_))); (case side2 => exact HC173_6.out); (case side3 => repeat (first | exact (Kd.C_below HR173_7.out HB.out) | (with_reducible refine Kd.C_alloc ?_ _) | (with_reducible refine Kd.C_drewN ?_ _) | (with_reducible refine Kd.C_drew ?_))); (case side4 => exact HC173_7.out); rintro e w8 ⟨rfl, hb⟩; refine ⟨_, rfl, ?_⟩; have n0_ := Aside0.mk (below_step (by repeat (first | (with_reducible first | exact HB.out | apply below_alloc | apply pw_below_drewN | apply below_drew1) | exact HB.out)) hb); clear HB; have HB := n0_; clear n0_; (try clear hb); (try clear hb2); (try clear hk); (try clear hi)))
              go_ret
              exact ⟨by first | rfl | (simp [errW_none, errW_some] <;> rfl) | (simp [*, errW_none, errW_some] <;> rfl), by repeat (first | (with_reducible first | exact HB.out | apply below_alloc | apply pw_below_drewN | apply below_drew1) | exact HB.out)⟩
            · rw [if_neg c7] at H
              have c7b0 : decide (t174 < 0) = false := decide_eq_false c7
              clear c7
              have H' := Aside0.mk H
              clear H
              have p173 : 0 ≤ (x5_1 : Int) := of_decide_eq_true (by first | (with_reducible assumption) | assumption)
              have q173 : x5_1 < (l0.length : Int) := of_decide_eq_true (by first | (with_reducible assumption) | assumption)
              obtain ⟨ad173, A173_6, c173_6, A173_7, c173_7, e173, hx173_0, hx173_1, hx173_2, hx173_3, hx173_4, hx173_5, hx173_6, hx173_7, hl173_6, hi173_6, hl173_7, hi173_7⟩ := at_T112 HR0.out x5_1 p173 q173
              cases e173
              replace hx173_0 := (HB.out.cell (World.block_lt_of_cell? w _ hx173_0)).trans hx173_0
              replace hx173_1 := (HB.out.cell (World.block_lt_of_cell? w _ hx173_1)).trans hx173_1
              replace hx173_2 := (HB.out.cell (World.block_lt_of_cell? w _ hx173_2)).trans hx173_2
              replace hx173_3 := (HB.out.cell (World.block_lt_of_cell? w _ hx173_3)).trans hx173_3
              replace hx173_4 := (HB.out.cell (World.block_lt_of_cell? w _ hx173_4)).trans hx173_4
              replace hx173_5 := (HB.out.cell (World.block_lt_of_cell? w _ hx173_5)).trans hx173_5
              replace hx173_6 := (HB.out.cell (World.block_lt_of_cell? w _ hx173_6)).trans hx173_6
              replace hx173_7 := (HB.out.cell (World.block_lt_of_cell? w _ hx173_7)).trans hx173_7
              have HR173_6 := Aside0.mk hi173_6
              have HC173_6 := Aside0.mk hl173_6
              clear hi173_6 hl173_6
              have HR173_7 := Aside0.mk hi173_7
              have HC173_7 := Aside0.mk hl173_7
              clear hi173_7 hl173_7
              replace p173 := eq_true p173
              replace q173 := eq_true q173
              go_wp2_with (first | ((with_reducible refine gate_callee (f := 131) rfl ?_); refine goesL_ (some 23) rfl rfl Try.func131 (by kernel_rfl) rfl #[.agg #[.int .i64 ((rd_T112 l0 x5_1).f0), .int .i64 ((rd_T112 l0 x5_1).f1), .int .i64 ((rd_T112 l0 x5_1).f2.f0), .int .i64 ((rd_T112 l0 x5_1).f2.f1), .int .i64 ((rd_T112 l0 x5_1).f2.f2), .int .i64 ((rd_T112 l0 x5_1).f3), .slice A173_6 ((rd_T112 l0 x5_1).f4).length c173_6, .slice A173_7 ((rd_T112 l0 x5_1).f5).length c173_7], .int .i64 x1_1] rfl (by (try simp only [List.map_toArray, List.map_cons, List.map_nil]); first | done | rfl | (simp only [List.length_drop, List.length_take]; rfl)) ?_; (with_reducible refine ((laws_szStep.calls_of ih) k1 (by have := HK1.out; omega) ((rd_T112 l0 x5_1).f0) ((rd_T112 l0 x5_1).f1) ((rd_T112 l0 x5_1).f2.f0) ((rd_T112 l0 x5_1).f2.f1) ((rd_T112 l0 x5_1).f2.f2) ((rd_T112 l0 x5_1).f3) _ _ ((rd_T112 l0 x5_1).f4) _ _ ((rd_T112 l0 x5_1).f5) x1_1 t174 _ ?side1 ?side2 ?side3 ?side4 A6.out).mono ?_); (case side1 => repeat (first | exact (Kd.C_below HR173_6.out HB.out) | (with_reducible refine Kd.C_alloc ?_ _) | (with_reducible refine Kd.C_drewN ?_ _) | (with_reducible refine Kd.C_drew ?_))); (case side2 => exact HC173_6.out); (case side3 => repeat (first | exact (Kd.C_below HR173_7.out HB.out) | (with_reducible refine Kd.C_alloc ?_ _) | (with_reducible refine Kd.C_drewN ?_ _) | (with_reducible refine Kd.C_drew ?_))); (case side4 => exact HC173_7.out); rintro e w9 ⟨rfl, hb⟩; refine ⟨_, rfl, ?_⟩; have n0_ := Aside0.mk (below_step (by repeat (first | (with_reducible first | exact HB.out | apply below_alloc | apply pw_below_drewN | apply below_drew1) | exact HB.out)) hb); clear HB; have HB := n0_; clear n0_; (try clear hb); (try clear hb2); (try clear hk); (try clear hi)))
              go_roundg k1
              case measure => have := HK1.out; omega
              case rel => exact ⟨(t174), (wrap64 (x5_1 + 1)), (by first | rfl | (simp; done) | (simp [*]; done)), (by first | rfl | (simp; done) | (simp [*]; done)), H', ⟨by have := HK1.out; omega⟩, ⟨by repeat (first | (with_reducible first | exact HB.out | apply below_alloc | apply pw_below_drewN | apply below_drew1) | exact HB.out)⟩⟩
          · rw [if_neg c5] at H
            exact absurd H (by simp)
        · rw [if_neg c4] at H
          have c4b0 : decide (x5_1 < (l0.length : Int)) = false := decide_eq_false c4
          clear c4
          obtain rfl := Option.some.inj H
          go_wp2
          go_ret
          exact ⟨by first | rfl | (simp [errW_none, errW_some] <;> rfl) | (simp [*, errW_none, errW_some] <;> rfl), by repeat (first | (with_reducible first | exact HB.out | apply below_alloc | apply pw_below_drewN | apply below_drew1) | exact HB.out)⟩

def laws_szStep.f (k : Nat) := laws_szStep.g k (laws_szStepS.f k)
theorem laws_szStep.mono : ∀ a0 a1 a2 a3 a4 a5 a6 a7 a8 k, LeO (laws_szStep.f k a0 a1 a2 a3 a4 a5 a6 a7 a8) (laws_szStep.f (k + 1) a0 a1 a2 a3 a4 a5 a6 a7 a8) := fun a0 a1 a2 a3 a4 a5 a6 a7 a8 k => laws_szStep.mono_g (fun y0 y1 => laws_szStepS.mono y0 y1 k) a0 a1 a2 a3 a4 a5 a6 a7 a8 k
theorem laws_szStep.calls (k : Nat) (a0_0 : Int) (a0_1 : Int) (a0_2 : Int) (a0_3 : Int) (a0_4 : Int) (a0_5 : Int) (A0_6 : Option Addr) (c0_6 : Nat) (l0_6 : List (S112)) (A0_7 : Option Addr) (c0_7 : Nat) (l0_7 : List (S112)) (a1 : Int) (r : Int) (w : World) (hr0_6 : Kd.C k112 w A0_6 l0_6.length l0_6) (hc0_6 : l0_6.length ≤ c0_6) (hr0_7 : Kd.C k112 w A0_7 l0_7.length l0_7) (hc0_7 : l0_7.length ≤ c0_7) (h : laws_szStep.f k a0_0 a0_1 a0_2 a0_3 a0_4 a0_5 l0_6 l0_7 a1 = some r) :
    Calls Try.prog 131 #[.agg #[.int .i64 a0_0, .int .i64 a0_1, .int .i64 a0_2, .int .i64 a0_3, .int .i64 a0_4, .int .i64 a0_5, .slice A0_6 l0_6.length c0_6, .slice A0_7 l0_7.length c0_7], .int .i64 a1] w fun e w' => e = .returned (.int .i64 r) ∧ Below w.heap.size w w' := laws_szStep.calls_g k (laws_szStepS.f k) (laws_szStepS.calls k) a0_0 a0_1 a0_2 a0_3 a0_4 a0_5 A0_6 c0_6 l0_6 A0_7 c0_7 l0_7 a1 r w hr0_6 hc0_6 hr0_7 hc0_7 h

end Go.Proofs.Ytcffnnedghgmaaa.A
