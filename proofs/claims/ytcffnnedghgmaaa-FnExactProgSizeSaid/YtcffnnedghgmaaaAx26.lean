/- What Go functions compute, as Lean functions, and for each its contract: for every input at which the Lean function answers the call returns that; written by wip/tools/pr.py over the kit's print. -/
import Derived.Test.YtcffnnedghgmaaaAx0
import Derived.Test.YtcffnnedghgmaaaAx16
import Derived.Test.YtcffnnedghgmaaaAx19
import Derived.Test.YtcffnnedghgmaaaAx23
import Derived.Test.YtcffnnedghgmaaaAx25
namespace Go.Proofs.Ytcffnnedghgmaaa.A
open Go.RowKit Go.Proofs.YtcffnnedghgmaaaW.PrintWords Go.Proofs.YtcffnnedghgmaaaW.PrintLast Go.Proofs.YtcffnnedghgmaaaW.PrintMore
attribute [local go_sem] max2_int min2_int max_two min_two max_three min_three max_four min_four   -- for this text's walks alone
set_option linter.unusedVariables false
set_option linter.unusedSimpArgs false

/-! ### laws_FnExactProgSize: function 6 -/
def laws_FnExactProgSize.f (k : Nat) (l0_0 : List (S114)) (l0_1 : List (S112)) : Option (Bool) := (laws_szProg.f k l0_0 l0_1 1048576).bind fun t279 => (if t279 < 0 then (some true) else ((laws_toProg.f k l0_0 l0_1).bind fun bt280 => ((spec_ProgSize.f k bt280.1 bt280.2).bind fun t286 => ((laws_toProg.f k l0_0 l0_1).bind fun bt287 => ((impl_ProgSize.f k bt287.1 bt287.2).bind fun t294 => (if t294 = t286 then ((laws_toProg.f k l0_0 l0_1).bind fun bt295 => ((laws_eqProg.f k bt287.1 bt287.2 bt295.1 bt295.2).bind fun t301 => (if t301 = true then (some true) else (some false)))) else (some false)))))))
theorem laws_FnExactProgSize.mono : ∀ a0 a1 k, LeO (laws_FnExactProgSize.f k a0 a1) (laws_FnExactProgSize.f (k + 1) a0 a1) := by
  intro a0 a1 k
  unfold laws_FnExactProgSize.f
  repeat' first
      | (with_reducible exact impl_ProgSize.mono _ _ _)
      | (with_reducible exact laws_eqProg.mono _ _ _ _ _)
      | (with_reducible exact laws_szProg.mono _ _ _ _)
      | (with_reducible exact laws_toProg.mono _ _ _)
      | (with_reducible exact spec_ProgSize.mono _ _ _)
      | (with_reducible exact LeO.refl _)
      | (with_reducible exact LeO.none _)
      | (with_reducible refine LeO.ite ?_ ?_)
      | (with_reducible refine LeO.bind ?_ (fun _ => ?_))
      | exact impl_ProgSize.mono _ _ _
      | exact laws_eqProg.mono _ _ _ _ _
      | exact laws_szProg.mono _ _ _ _
      | exact laws_toProg.mono _ _ _
      | exact spec_ProgSize.mono _ _ _
      | exact LeO.none _
      | refine LeO.ite ?_ ?_
      | refine LeO.bind ?_ (fun _ => ?_)
set_option maxHeartbeats 8000000 in
set_option maxRecDepth 100000 in
theorem laws_FnExactProgSize.calls (k : Nat) (A0_0 : Option Addr) (c0_0 : Nat) (l0_0 : List (S114)) (A0_1 : Option Addr) (c0_1 : Nat) (l0_1 : List (S112)) (r : Bool) (w : World) (hr0_0 : Kd.C k114 w A0_0 l0_0.length l0_0) (hc0_0 : l0_0.length ≤ c0_0) (hr0_1 : Kd.C k112 w A0_1 l0_1.length l0_1) (hc0_1 : l0_1.length ≤ c0_1) (h : laws_FnExactProgSize.f k l0_0 l0_1 = some r) :
    Calls Try.prog 6 #[.agg #[.slice A0_0 l0_0.length c0_0, .slice A0_1 l0_1.length c0_1]] w fun e w' => e = .returned (.bool r) ∧ Below w.heap.size w w' := by
  have hu41 := Try.underlying41
  have hu26 := Try.underlying26
  have HR0_0 := Aside0.mk hr0_0
  have HC0_0 := Aside0.mk hc0_0
  clear hr0_0 hc0_0
  have HR0_1 := Aside0.mk hr0_1
  have HC0_1 := Aside0.mk hc0_1
  clear hr0_1 hc0_1
  have HB := Aside0.mk (Below.refl w.heap.size w)
  have H : ((laws_szProg.f k l0_0 l0_1 1048576).bind fun t279 => (if t279 < 0 then (some true) else ((laws_toProg.f k l0_0 l0_1).bind fun bt280 => ((spec_ProgSize.f k bt280.1 bt280.2).bind fun t286 => ((laws_toProg.f k l0_0 l0_1).bind fun bt287 => ((impl_ProgSize.f k bt287.1 bt287.2).bind fun t294 => (if t294 = t286 then ((laws_toProg.f k l0_0 l0_1).bind fun bt295 => ((laws_eqProg.f k bt287.1 bt287.2 bt295.1 bt295.2).bind fun t301 => (if t301 = true then (some true) else (some false)))) else (some false)))))))) = some r := h
  clear h
  replace H := Option.bind_eq_some_iff.mp H
  obtain ⟨t279, A20, H⟩ := H
  replace H : (if t279 < 0 then (some true) else ((laws_toProg.f k l0_0 l0_1).bind fun bt280 => ((spec_ProgSize.f k bt280.1 bt280.2).bind fun t286 => ((laws_toProg.f k l0_0 l0_1).bind fun bt287 => ((impl_ProgSize.f k bt287.1 bt287.2).bind fun t294 => (if t294 = t286 then ((laws_toProg.f k l0_0 l0_1).bind fun bt295 => ((laws_eqProg.f k bt287.1 bt287.2 bt295.1 bt295.2).bind fun t301 => (if t301 = true then (some true) else (some false)))) else (some false))))))) = some r := H
  have A2 := Aside0.mk A20
  clear A20
  by_cases c3 : t279 < 0
  focus
    rw [if_pos c3] at H
    have c3b0 : decide (t279 < 0) = true := decide_eq_true c3
    clear c3
    obtain rfl := Option.some.inj H
    have tag0_ : Aside0 True := ⟨trivial⟩
  rotate_left
  focus
    rw [if_neg c3] at H
    have c3b0 : decide (t279 < 0) = false := decide_eq_false c3
    clear c3
    replace H := Option.bind_eq_some_iff.mp H
    obtain ⟨⟨t280, t283⟩, A70, H⟩ := H
    replace H : ((spec_ProgSize.f k t280 t283).bind fun t286 => ((laws_toProg.f k l0_0 l0_1).bind fun bt287 => ((impl_ProgSize.f k bt287.1 bt287.2).bind fun t294 => (if t294 = t286 then ((laws_toProg.f k l0_0 l0_1).bind fun bt295 => ((laws_eqProg.f k bt287.1 bt287.2 bt295.1 bt295.2).bind fun t301 => (if t301 = true then (some true) else (some false)))) else (some false))))) = some r := H
    have A7 := Aside0.mk A70
    clear A70
    replace H := Option.bind_eq_some_iff.mp H
    obtain ⟨t286, A80, H⟩ := H
    replace H : ((laws_toProg.f k l0_0 l0_1).bind fun bt287 => ((impl_ProgSize.f k bt287.1 bt287.2).bind fun t294 => (if t294 = t286 then ((laws_toProg.f k l0_0 l0_1).bind fun bt295 => ((laws_eqProg.f k bt287.1 bt287.2 bt295.1 bt295.2).bind fun t301 => (if t301 = true then (some true) else (some false)))) else (some false)))) = some r := H
    have A8 := Aside0.mk A80
    clear A80
    replace H := Option.bind_eq_some_iff.mp H
    obtain ⟨⟨t287, t290⟩, A90, H⟩ := H
    replace H : ((impl_ProgSize.f k t287 t290).bind fun t294 => (if t294 = t286 then ((laws_toProg.f k l0_0 l0_1).bind fun bt295 => ((laws_eqProg.f k t287 t290 bt295.1 bt295.2).bind fun t301 => (if t301 = true then (some true) else (some false)))) else (some false))) = some r := H
    have A9 := Aside0.mk A90
    clear A90
    replace H := Option.bind_eq_some_iff.mp H
    obtain ⟨t294, A100, H⟩ := H
    replace H : (if t294 = t286 then ((laws_toProg.f k l0_0 l0_1).bind fun bt295 => ((laws_eqProg.f k t287 t290 bt295.1 bt295.2).bind fun t301 => (if t301 = true then (some true) else (some false)))) else (some false)) = some r := H
    have A10 := Aside0.mk A100
    clear A100
    by_cases c11 : t294 = t286
    focus
      rw [if_pos c11] at H
      have c11b0 : (t294 == t286) = true := beq_iff_eq.mpr c11
      have c11b1 : (t294 != t286) = false := bne_eq_false_iff_eq.mpr c11
      clear c11
      replace H := Option.bind_eq_some_iff.mp H
      obtain ⟨⟨t295, t298⟩, A120, H⟩ := H
      replace H : ((laws_eqProg.f k t287 t290 t295 t298).bind fun t301 => (if t301 = true then (some true) else (some false))) = some r := H
      have A12 := Aside0.mk A120
      clear A120
      replace H := Option.bind_eq_some_iff.mp H
      obtain ⟨t301, A130, H⟩ := H
      replace H : (if t301 = true then (some true) else (some false)) = some r := H
      have A13 := Aside0.mk A130
      clear A130
      by_cases c14 : t301 = true
      focus
        subst c14
        have H1 : (some true) = some r := by rw [if_pos rfl] at H; exact H
        clear H
        have H := H1
        clear H1
        obtain rfl := Option.some.inj H
        have tag1_ : Aside0 True := ⟨trivial⟩
      rotate_left
      focus
        replace c14 := Bool.eq_false_iff.mpr c14
        subst c14
        have H1 : (some false) = some r := by rw [if_neg (show ¬ (false = true) by decide)] at H; exact H
        clear H
        have H := H1
        clear H1
        obtain rfl := Option.some.inj H
        have tag2_ : Aside0 True := ⟨trivial⟩
      rotate_left
    rotate_left 2
    focus
      rw [if_neg c11] at H
      have c11b0 : (t294 == t286) = false := beq_eq_false_iff_ne.mpr c11
      have c11b1 : (t294 != t286) = true := bne_iff_ne.mpr c11
      obtain rfl := Option.some.inj H
      have tag3_ : Aside0 True := ⟨trivial⟩
    rotate_left
  rotate_left 3
  all_goals
    go_enter Try.func6, Try.ntmps6
    first
    | ((have z_ := tag0_; clear z_)
       go_wp2_with (first | ((with_reducible refine gate_dst (N := 1) rfl ?_); refine box_event ?hg (N := 1) ?hd (cs := #[.slice A0_0 l0_0.length c0_0, .slice A0_1 l0_1.length c0_1]) (t := 41) ?hr ?_; (case hd => rfl); (case hg => rfl); (case hr => first | (go_simp; done) | (go_simp; rfl)); intro gbq0 hg wq0 hbox hb; have nq0_ := Aside0.mk (below_step (by repeat (first | (with_reducible first | exact HB.out | apply below_alloc | apply pw_below_drewN | apply below_drew1) | exact HB.out)) hb); have nq1_ := Aside0.mk (hbox); have nq2_ := Aside0.mk ((by rw [hg]; exact (below_size (by repeat (first | (with_reducible first | exact HB.out | apply below_alloc | apply pw_below_drewN | apply below_drew1) | exact HB.out))) : w.heap.size ≤ gbq0)); have nq3_ := Aside0.mk ((by rw [hg]; exact (below_size (by repeat (first | (with_reducible first | exact HB.out | apply below_alloc | apply pw_below_drewN | apply below_drew1) | exact HB.out))) : w.heap.size ≤ gbq0)); clear HB; have HB := nq0_; have BKq0 := nq1_; have GWq0 := nq2_; have GEq0 := nq3_; clear nq0_ nq1_ nq2_ nq3_; clear hb hbox hg; have hczq0_0 : wq0.cell? ⟨gbq0, 0, none⟩ = some (.slice A0_0 l0_0.length c0_0) := (blk_cell BKq0.out 0).trans rfl; have hczq0_1 : wq0.cell? ⟨gbq0, 1, none⟩ = some (.slice A0_1 l0_1.length c0_1) := (blk_cell BKq0.out 1).trans rfl; have hfzq0_0 := blk_frozen BKq0.out 0; have hfzq0_1 := blk_frozen BKq0.out 1) | ((with_reducible refine gate_callee (f := 37) rfl ?_); refine goesL_ (some 9) rfl rfl Try.func37 (by kernel_rfl) rfl #[.agg #[.slice A0_0 l0_0.length c0_0, .slice A0_1 l0_1.length c0_1], .int .i64 1048576] rfl (by (try simp only [List.map_toArray, List.map_cons, List.map_nil]); first | done | rfl | (simp only [List.length_drop, List.length_take]; rfl)) ?_; (with_reducible refine (laws_szProg.calls k _ _ l0_0 _ _ l0_1 1048576 t279 _ ?side1 ?side2 ?side3 ?side4 A2.out).mono ?_); (case side1 => repeat (first | exact (Kd.C_below HR0_0.out HB.out) | (with_reducible refine Kd.C_alloc ?_ _) | (with_reducible refine Kd.C_drewN ?_ _) | (with_reducible refine Kd.C_drew ?_))); (case side2 => exact HC0_0.out); (case side3 => repeat (first | exact (Kd.C_below HR0_1.out HB.out) | (with_reducible refine Kd.C_alloc ?_ _) | (with_reducible refine Kd.C_drewN ?_ _) | (with_reducible refine Kd.C_drew ?_))); (case side4 => exact HC0_1.out); rintro e wq1 ⟨rfl, hb⟩; refine ⟨_, rfl, ?_⟩; have nq0_ := Aside0.mk (blk_below (g := gbq0) (o := .cells #[.slice A0_0 l0_0.length c0_0, .slice A0_1 l0_1.length c0_1] 41 (0, 0)) (by (with_reducible repeat (first | refine blk_drewN ?_ _ | refine blk_drew ?_ | refine blk_alloc ?_ _)); exact BKq0.out) hb); have nq1_ := Aside0.mk (below_step (by repeat (first | (with_reducible first | exact HB.out | apply below_alloc | apply pw_below_drewN | apply below_drew1 | refine below_set ?_ GEq0.out) | exact HB.out)) hb); clear BKq0; clear HB; have BKq0 := nq0_; have HB := nq1_; clear nq0_ nq1_; (try clear hb); (try clear hb2); (try clear hk); (try clear hi)))
       go_ret
       exact ⟨by first | rfl | (simp [errW_none, errW_some] <;> rfl) | (simp [*, errW_none, errW_some] <;> rfl), by repeat (first | (with_reducible first | exact HB.out | apply below_alloc | apply pw_below_drewN | apply below_drew1 | refine below_set ?_ GEq0.out) | exact HB.out)⟩)
    | ((first | (have z_ := tag1_; clear z_) | (have z_ := tag2_; clear z_))
       try go_wp2_with (first | ((with_reducible refine gate_dst (N := 1) rfl ?_); refine box_event ?hg (N := 1) ?hd (cs := #[.slice A0_0 l0_0.length c0_0, .slice A0_1 l0_1.length c0_1]) (t := 41) ?hr ?_; (case hd => rfl); (case hg => rfl); (case hr => first | (go_simp; done) | (go_simp; rfl)); intro gbq0 hg wq0 hbox hb; have nq0_ := Aside0.mk (below_step (by repeat (first | (with_reducible first | exact HB.out | apply below_alloc | apply pw_below_drewN | apply below_drew1) | exact HB.out)) hb); have nq1_ := Aside0.mk (hbox); have nq2_ := Aside0.mk ((by rw [hg]; exact (below_size (by repeat (first | (with_reducible first | exact HB.out | apply below_alloc | apply pw_below_drewN | apply below_drew1) | exact HB.out))) : w.heap.size ≤ gbq0)); have nq3_ := Aside0.mk ((by rw [hg]; exact (below_size (by repeat (first | (with_reducible first | exact HB.out | apply below_alloc | apply pw_below_drewN | apply below_drew1) | exact HB.out))) : w.heap.size ≤ gbq0)); clear HB; have HB := nq0_; have BKq0 := nq1_; have GWq0 := nq2_; have GEq0 := nq3_; clear nq0_ nq1_ nq2_ nq3_; clear hb hbox hg; have hczq0_0 : wq0.cell? ⟨gbq0, 0, none⟩ = some (.slice A0_0 l0_0.length c0_0) := (blk_cell BKq0.out 0).trans rfl; have hczq0_1 : wq0.cell? ⟨gbq0, 1, none⟩ = some (.slice A0_1 l0_1.length c0_1) := (blk_cell BKq0.out 1).trans rfl; have hfzq0_0 := blk_frozen BKq0.out 0; have hfzq0_1 := blk_frozen BKq0.out 1) | ((with_reducible refine gate_callee (f := 37) rfl ?_); refine goesL_ (some 9) rfl rfl Try.func37 (by kernel_rfl) rfl #[.agg #[.slice A0_0 l0_0.length c0_0, .slice A0_1 l0_1.length c0_1], .int .i64 1048576] rfl (by (try simp only [List.map_toArray, List.map_cons, List.map_nil]); first | done | rfl | (simp only [List.length_drop, List.length_take]; rfl)) ?_; (with_reducible refine (laws_szProg.calls k _ _ l0_0 _ _ l0_1 1048576 t279 _ ?side1 ?side2 ?side3 ?side4 A2.out).mono ?_); (case side1 => repeat (first | exact (Kd.C_below HR0_0.out HB.out) | (with_reducible refine Kd.C_alloc ?_ _) | (with_reducible refine Kd.C_drewN ?_ _) | (with_reducible refine Kd.C_drew ?_))); (case side2 => exact HC0_0.out); (case side3 => repeat (first | exact (Kd.C_below HR0_1.out HB.out) | (with_reducible refine Kd.C_alloc ?_ _) | (with_reducible refine Kd.C_drewN ?_ _) | (with_reducible refine Kd.C_drew ?_))); (case side4 => exact HC0_1.out); rintro e wq1 ⟨rfl, hb⟩; refine ⟨_, rfl, ?_⟩; have nq0_ := Aside0.mk (blk_below (g := gbq0) (o := .cells #[.slice A0_0 l0_0.length c0_0, .slice A0_1 l0_1.length c0_1] 41 (0, 0)) (by (with_reducible repeat (first | refine blk_drewN ?_ _ | refine blk_drew ?_ | refine blk_alloc ?_ _)); exact BKq0.out) hb); have nq1_ := Aside0.mk (below_step (by repeat (first | (with_reducible first | exact HB.out | apply below_alloc | apply pw_below_drewN | apply below_drew1 | refine below_set ?_ GEq0.out) | exact HB.out)) hb); clear BKq0; clear HB; have BKq0 := nq0_; have HB := nq1_; clear nq0_ nq1_; (try clear hb); (try clear hb2); (try clear hk); (try clear hi); have hczq1_0 : wq1.cell? ⟨gbq0, 0, none⟩ = some (.slice A0_0 l0_0.length c0_0) := (blk_cell BKq0.out 0).trans rfl; have hczq1_1 : wq1.cell? ⟨gbq0, 1, none⟩ = some (.slice A0_1 l0_1.length c0_1) := (blk_cell BKq0.out 1).trans rfl; have hfzq1_0 := blk_frozen BKq0.out 0; have hfzq1_1 := blk_frozen BKq0.out 1) | ((with_reducible refine gate_callee (f := 38) rfl ?_); refine goesL_ (some 13) rfl rfl Try.func38 (by kernel_rfl) rfl #[.agg #[.slice A0_0 l0_0.length c0_0, .slice A0_1 l0_1.length c0_1]] rfl (by (try simp only [List.map_toArray, List.map_cons, List.map_nil]); first | done | rfl | (simp only [List.length_drop, List.length_take]; rfl)) ?_; (with_reducible refine (laws_toProg.calls k _ _ l0_0 _ _ l0_1 t280 t283 _ ?side1 ?side2 ?side3 ?side4 A7.out).mono ?_); (case side1 => repeat (first | exact (Kd.C_below HR0_0.out HB.out) | (with_reducible refine Kd.C_alloc ?_ _) | (with_reducible refine Kd.C_drewN ?_ _) | (with_reducible refine Kd.C_drew ?_))); (case side2 => exact HC0_0.out); (case side3 => repeat (first | exact (Kd.C_below HR0_1.out HB.out) | (with_reducible refine Kd.C_alloc ?_ _) | (with_reducible refine Kd.C_drewN ?_ _) | (with_reducible refine Kd.C_drew ?_))); (case side4 => exact HC0_1.out); rintro e wq2 ⟨vq0, vq1, rfl, hoq0, hoq1, hb⟩; refine ⟨_, rfl, ?_⟩; have nq0_ := Aside0.mk (Kd.R_lower hoq0 (below_size (by repeat (first | (with_reducible first | exact HB.out | apply below_alloc | apply pw_below_drewN | apply below_drew1 | refine below_set ?_ GEq0.out) | exact HB.out)))); have nq1_ := Aside0.mk (Kd.R_lower hoq1 (below_size (by repeat (first | (with_reducible first | exact HB.out | apply below_alloc | apply pw_below_drewN | apply below_drew1 | refine below_set ?_ GEq0.out) | exact HB.out)))); have nq2_ := Aside0.mk (blk_below (g := gbq0) (o := .cells #[.slice A0_0 l0_0.length c0_0, .slice A0_1 l0_1.length c0_1] 41 (0, 0)) (by (with_reducible repeat (first | refine blk_drewN ?_ _ | refine blk_drew ?_ | refine blk_alloc ?_ _)); exact BKq0.out) hb); have nq3_ := Aside0.mk (below_step (by repeat (first | (with_reducible first | exact HB.out | apply below_alloc | apply pw_below_drewN | apply below_drew1 | refine below_set ?_ GEq0.out) | exact HB.out)) hb); clear BKq0; clear HB; have HOq0 := nq0_; have HOq1 := nq1_; have BKq0 := nq2_; have HB := nq3_; clear nq0_ nq1_ nq2_ nq3_; (try clear hb); (try clear hb2); (try clear hk); (try clear hi); (try clear hoq0); (try clear hoq1); obtain ⟨Aoq0, coq0, eoq0⟩ := Kd.R_slice HOq0.out; subst eoq0; obtain ⟨Aoq1, coq1, eoq1⟩ := Kd.R_slice HOq1.out; subst eoq1) | ((with_reducible refine gate_callee (f := 40) rfl ?_); refine goesL_ (some 14) rfl rfl Try.func40 (by kernel_rfl) rfl #[.agg #[.slice Aoq0 t280.length coq0, .slice Aoq1 t283.length coq1]] rfl (by (try simp only [List.map_toArray, List.map_cons, List.map_nil]); first | done | rfl | (simp only [List.length_drop, List.length_take]; rfl)) ?_; (with_reducible refine (spec_ProgSize.calls k _ _ t280 _ _ t283 t286 _ ?side1 ?side2 ?side3 ?side4 A8.out).mono ?_); (case side1 => repeat (first | exact (Kd.R_reads' HOq0.out).2.2 | (with_reducible refine Kd.C_alloc ?_ _) | (with_reducible refine Kd.C_drewN ?_ _) | (with_reducible refine Kd.C_drew ?_))); (case side2 => exact (Kd.R_reads' HOq0.out).2.1); (case side3 => repeat (first | exact (Kd.R_reads' HOq1.out).2.2 | (with_reducible refine Kd.C_alloc ?_ _) | (with_reducible refine Kd.C_drewN ?_ _) | (with_reducible refine Kd.C_drew ?_))); (case side4 => exact (Kd.R_reads' HOq1.out).2.1); rintro e wq3 ⟨rfl, hb⟩; refine ⟨_, rfl, ?_⟩; have nq0_ := Aside0.mk (Kd.R_below (by (with_reducible repeat (first | apply Kd.R_alloc | apply Kd.R_drewN | apply Kd.R_drew)); exact HOq0.out) hb); have nq1_ := Aside0.mk (Kd.R_below (by (with_reducible repeat (first | apply Kd.R_alloc | apply Kd.R_drewN | apply Kd.R_drew)); exact HOq1.out) hb); have nq2_ := Aside0.mk (blk_below (g := gbq0) (o := .cells #[.slice A0_0 l0_0.length c0_0, .slice A0_1 l0_1.length c0_1] 41 (0, 0)) (by (with_reducible repeat (first | refine blk_drewN ?_ _ | refine blk_drew ?_ | refine blk_alloc ?_ _)); exact BKq0.out) hb); have nq3_ := Aside0.mk (below_step (by repeat (first | (with_reducible first | exact HB.out | apply below_alloc | apply pw_below_drewN | apply below_drew1 | refine below_set ?_ GEq0.out) | exact HB.out)) hb); clear HOq0; clear HOq1; clear BKq0; clear HB; have HOq0 := nq0_; have HOq1 := nq1_; have BKq0 := nq2_; have HB := nq3_; clear nq0_ nq1_ nq2_ nq3_; (try clear hb); (try clear hb2); (try clear hk); (try clear hi); have hczq2_0 : wq3.cell? ⟨gbq0, 0, none⟩ = some (.slice A0_0 l0_0.length c0_0) := (blk_cell BKq0.out 0).trans rfl; have hczq2_1 : wq3.cell? ⟨gbq0, 1, none⟩ = some (.slice A0_1 l0_1.length c0_1) := (blk_cell BKq0.out 1).trans rfl; have hfzq2_0 := blk_frozen BKq0.out 0; have hfzq2_1 := blk_frozen BKq0.out 1) | ((with_reducible refine gate_callee (f := 38) rfl ?_); refine goesL_ (some 16) rfl rfl Try.func38 (by kernel_rfl) rfl #[.agg #[.slice A0_0 l0_0.length c0_0, .slice A0_1 l0_1.length c0_1]] rfl (by (try simp only [List.map_toArray, List.map_cons, List.map_nil]); first | done | rfl | (simp only [List.length_drop, List.length_take]; rfl)) ?_; (with_reducible refine (laws_toProg.calls k _ _ l0_0 _ _ l0_1 t287 t290 _ ?side1 ?side2 ?side3 ?side4 A9.out).mono ?_); (case side1 => repeat (first | exact (Kd.C_below HR0_0.out HB.out) | (with_reducible refine Kd.C_alloc ?_ _) | (with_reducible refine Kd.C_drewN ?_ _) | (with_reducible refine Kd.C_drew ?_))); (case side2 => exact HC0_0.out); (case side3 => repeat (first | exact (Kd.C_below HR0_1.out HB.out) | (with_reducible refine Kd.C_alloc ?_ _) | (with_reducible refine Kd.C_drewN ?_ _) | (with_reducible refine Kd.C_drew ?_))); (case side4 => exact HC0_1.out); rintro e wq4 ⟨vq2, vq3, rfl, hoq0, hoq1, hb⟩; refine ⟨_, rfl, ?_⟩; have nq0_ := Aside0.mk (Kd.R_elder' (by (with_reducible repeat (first | apply Kd.R_alloc | apply Kd.R_drewN | apply Kd.R_drew)); exact HOq0.out) (Kd.R_base hoq0) hb); have nq1_ := Aside0.mk (Kd.R_elder' (by (with_reducible repeat (first | apply Kd.R_alloc | apply Kd.R_drewN | apply Kd.R_drew)); exact HOq1.out) (Kd.R_base hoq1) hb); have nq2_ := Aside0.mk (Kd.R_lower (Kd.R_new' hoq0 (Kd.R_lt (by (with_reducible repeat (first | apply Kd.R_alloc | apply Kd.R_drewN | apply Kd.R_drew)); exact HOq0.out))) (below_size (by repeat (first | (with_reducible first | exact HB.out | apply below_alloc | apply pw_below_drewN | apply below_drew1 | refine below_set ?_ GEq0.out) | exact HB.out)))); have nq3_ := Aside0.mk (Kd.R_lower (Kd.R_new' hoq1 (Kd.R_lt (by (with_reducible repeat (first | apply Kd.R_alloc | apply Kd.R_drewN | apply Kd.R_drew)); exact HOq1.out))) (below_size (by repeat (first | (with_reducible first | exact HB.out | apply below_alloc | apply pw_below_drewN | apply below_drew1 | refine below_set ?_ GEq0.out) | exact HB.out)))); have nq4_ := Aside0.mk (blk_below (g := gbq0) (o := .cells #[.slice A0_0 l0_0.length c0_0, .slice A0_1 l0_1.length c0_1] 41 (0, 0)) (by (with_reducible repeat (first | refine blk_drewN ?_ _ | refine blk_drew ?_ | refine blk_alloc ?_ _)); exact BKq0.out) hb); have nq5_ := Aside0.mk (below_step (by repeat (first | (with_reducible first | exact HB.out | apply below_alloc | apply pw_below_drewN | apply below_drew1 | refine below_set ?_ GEq0.out) | exact HB.out)) hb); clear HOq0; clear HOq1; clear BKq0; clear HB; have HOq0 := nq0_; have HOq1 := nq1_; have HOq2 := nq2_; have HOq3 := nq3_; have BKq0 := nq4_; have HB := nq5_; clear nq0_ nq1_ nq2_ nq3_ nq4_ nq5_; (try clear hb); (try clear hb2); (try clear hk); (try clear hi); (try clear hoq0); (try clear hoq1)) | ((with_reducible refine gate_dst (N := 5) rfl ?_); refine box_event ?hg (N := 5) ?hd (cs := #[.slice none 0 0, .slice none 0 0]) (t := 26) ?hr ?_; (case hd => rfl); (case hg => rfl); (case hr => first | (go_simp; done) | (go_simp; rfl)); intro gbq1 hg wq5 hbox hb; have nq0_ := Aside0.mk (Kd.R_below (by (with_reducible repeat (first | apply Kd.R_alloc | apply Kd.R_drewN | apply Kd.R_drew)); exact HOq0.out) hb); have nq1_ := Aside0.mk (Kd.R_below (by (with_reducible repeat (first | apply Kd.R_alloc | apply Kd.R_drewN | apply Kd.R_drew)); exact HOq1.out) hb); have nq2_ := Aside0.mk (Kd.R_below (by (with_reducible repeat (first | apply Kd.R_alloc | apply Kd.R_drewN | apply Kd.R_drew)); exact HOq2.out) hb); have nq3_ := Aside0.mk (Kd.R_below (by (with_reducible repeat (first | apply Kd.R_alloc | apply Kd.R_drewN | apply Kd.R_drew)); exact HOq3.out) hb); have nq4_ := Aside0.mk (blk_below (g := gbq0) (o := .cells #[.slice A0_0 l0_0.length c0_0, .slice A0_1 l0_1.length c0_1] 41 (0, 0)) (by (with_reducible repeat (first | refine blk_drewN ?_ _ | refine blk_drew ?_ | refine blk_alloc ?_ _)); exact BKq0.out) hb); have nq5_ := Aside0.mk (below_step (by repeat (first | (with_reducible first | exact HB.out | apply below_alloc | apply pw_below_drewN | apply below_drew1 | refine below_set ?_ GEq0.out) | exact HB.out)) hb); have nq6_ := Aside0.mk (hbox); have nq7_ := Aside0.mk ((by rw [hg]; exact (below_size (by repeat (first | (with_reducible first | exact HB.out | apply below_alloc | apply pw_below_drewN | apply below_drew1 | refine below_set ?_ GEq0.out) | exact HB.out))) : w.heap.size ≤ gbq1)); have nq8_ := Aside0.mk ((by rw [hg]; exact (below_size (by repeat (first | (with_reducible first | exact HB.out | apply below_alloc | apply pw_below_drewN | apply below_drew1 | refine below_set ?_ GEq0.out) | exact HB.out))) : w.heap.size ≤ gbq1)); have nq9_ := Aside0.mk ((by rw [hg]; exact Nat.ne_of_lt (blk_lt (g := gbq0) (o := .cells #[.slice A0_0 l0_0.length c0_0, .slice A0_1 l0_1.length c0_1] 41 (0, 0)) (by (with_reducible repeat (first | refine blk_drewN ?_ _ | refine blk_drew ?_ | refine blk_alloc ?_ _)); exact BKq0.out)) : gbq0 ≠ gbq1)); have nq10_ := Aside0.mk ((by rw [hg]; exact Nat.ne_of_gt (blk_lt (g := gbq0) (o := .cells #[.slice A0_0 l0_0.length c0_0, .slice A0_1 l0_1.length c0_1] 41 (0, 0)) (by (with_reducible repeat (first | refine blk_drewN ?_ _ | refine blk_drew ?_ | refine blk_alloc ?_ _)); exact BKq0.out)) : gbq1 ≠ gbq0)); clear HOq0; clear HOq1; clear HOq2; clear HOq3; clear BKq0; clear HB; have HOq0 := nq0_; have HOq1 := nq1_; have HOq2 := nq2_; have HOq3 := nq3_; have BKq0 := nq4_; have HB := nq5_; have BKq1 := nq6_; have GWq1 := nq7_; have GEq1 := nq8_; have NBq0_293 := nq9_; have NBq1_278 := nq10_; clear nq0_ nq1_ nq2_ nq3_ nq4_ nq5_ nq6_ nq7_ nq8_ nq9_ nq10_; clear hb hbox hg; obtain ⟨Aoq2, coq2, eoq2⟩ := Kd.R_slice HOq2.out; subst eoq2; have hnbq0 := NBq1_278.out; have hncq0 := NBq0_293.out; have hczq3_0 : wq5.cell? ⟨gbq1, 0, none⟩ = some (.slice none 0 0) := (blk_cell BKq1.out 0).trans rfl; have hczq3_1 : wq5.cell? ⟨gbq1, 1, none⟩ = some (.slice none 0 0) := (blk_cell BKq1.out 1).trans rfl; have hfzq3_0 := blk_frozen BKq1.out 0; have hfzq3_1 := blk_frozen BKq1.out 1; obtain ⟨Aoq3, coq3, eoq3⟩ := Kd.R_slice HOq3.out; subst eoq3) | ((with_reducible refine gate_callee (f := 41) rfl ?_); refine goesL_ (some 18) rfl rfl Try.func41 (by kernel_rfl) rfl #[.agg #[.slice Aoq2 t287.length coq2, .slice Aoq3 t290.length coq3]] rfl (by (try simp only [List.map_toArray, List.map_cons, List.map_nil]); first | done | rfl | (simp only [List.length_drop, List.length_take]; rfl)) ?_; (with_reducible refine (impl_ProgSize.calls k _ _ t287 _ _ t290 t294 _ ?side1 ?side2 ?side3 ?side4 A10.out).mono ?_); (case side1 => refine (Kd.R_reads' (e := 35) (base := w.heap.size) (ok := fun k_ => (True ∧ some k_ ≠ (.slice Aoq0 t280.length coq0 : Value).ownBlock)) (n := t287.length) (c := coq2) ?_).2.2; exact (by (with_reducible repeat (first | apply Kd.R_alloc | apply Kd.R_drewN | apply Kd.R_drew)); exact (Kd.R_mono (Kd.R_far (p := ⟨gbq1, 1, none⟩) (Kd.R_far (p := ⟨gbq1, 0, none⟩) (Kd.R_types HOq2.out BKq1.out (by decide)) (fun _ hk => hk.2) (.slice Aoq2 t287.length coq2)) (fun _ hk => hk.2) (.slice Aoq3 t290.length coq3)) (fun _ h_ => h_.1)))); (case side2 => exact (Kd.R_reads' HOq2.out).2.1); (case side3 => refine (Kd.R_reads' (e := 59) (base := w.heap.size) (ok := fun k_ => (True ∧ some k_ ≠ (.slice Aoq1 t283.length coq1 : Value).ownBlock)) (n := t290.length) (c := coq3) ?_).2.2; exact (by (with_reducible repeat (first | apply Kd.R_alloc | apply Kd.R_drewN | apply Kd.R_drew)); exact (Kd.R_mono (Kd.R_far (p := ⟨gbq1, 1, none⟩) (Kd.R_far (p := ⟨gbq1, 0, none⟩) (Kd.R_types HOq3.out BKq1.out (by decide)) (fun _ hk => hk.2) (.slice Aoq2 t287.length coq2)) (fun _ hk => hk.2) (.slice Aoq3 t290.length coq3)) (fun _ h_ => h_.1)))); (case side4 => exact (Kd.R_reads' HOq3.out).2.1); rintro e wq6 ⟨rfl, hb⟩; refine ⟨_, rfl, ?_⟩; have nq0_ := Aside0.mk (Kd.R_below (by (with_reducible repeat (first | apply Kd.R_alloc | apply Kd.R_drewN | apply Kd.R_drew)); exact (Kd.R_mono (Kd.R_far (p := ⟨gbq1, 1, none⟩) (Kd.R_far (p := ⟨gbq1, 0, none⟩) (Kd.R_types HOq0.out BKq1.out (by decide)) (fun _ hk => hk.2) (.slice Aoq2 t287.length coq2)) (fun _ hk => hk.2) (.slice Aoq3 t290.length coq3)) (fun _ h_ => h_.1))) hb); have nq1_ := Aside0.mk (Kd.R_below (by (with_reducible repeat (first | apply Kd.R_alloc | apply Kd.R_drewN | apply Kd.R_drew)); exact (Kd.R_mono (Kd.R_far (p := ⟨gbq1, 1, none⟩) (Kd.R_far (p := ⟨gbq1, 0, none⟩) (Kd.R_types HOq1.out BKq1.out (by decide)) (fun _ hk => hk.2) (.slice Aoq2 t287.length coq2)) (fun _ hk => hk.2) (.slice Aoq3 t290.length coq3)) (fun _ h_ => h_.1))) hb); have nq2_ := Aside0.mk (Kd.R_below (by (with_reducible repeat (first | apply Kd.R_alloc | apply Kd.R_drewN | apply Kd.R_drew)); exact (Kd.R_mono (Kd.R_far (p := ⟨gbq1, 1, none⟩) (Kd.R_far (p := ⟨gbq1, 0, none⟩) (Kd.R_types HOq2.out BKq1.out (by decide)) (fun _ hk => hk.2) (.slice Aoq2 t287.length coq2)) (fun _ hk => hk.2) (.slice Aoq3 t290.length coq3)) (fun _ h_ => h_.1))) hb); have nq3_ := Aside0.mk (Kd.R_below (by (with_reducible repeat (first | apply Kd.R_alloc | apply Kd.R_drewN | apply Kd.R_drew)); exact (Kd.R_mono (Kd.R_far (p := ⟨gbq1, 1, none⟩) (Kd.R_far (p := ⟨gbq1, 0, none⟩) (Kd.R_types HOq3.out BKq1.out (by decide)) (fun _ hk => hk.2) (.slice Aoq2 t287.length coq2)) (fun _ hk => hk.2) (.slice Aoq3 t290.length coq3)) (fun _ h_ => h_.1))) hb); have nq4_ := Aside0.mk (blk_below (g := gbq0) (o := .cells #[.slice A0_0 l0_0.length c0_0, .slice A0_1 l0_1.length c0_1] 41 (0, 0)) (by (with_reducible repeat (first | refine blk_drewN ?_ _ | refine blk_drew ?_ | refine blk_alloc ?_ _)); refine blk_far ?_ NBq0_293.out _; (with_reducible repeat (first | refine blk_drewN ?_ _ | refine blk_drew ?_ | refine blk_alloc ?_ _)); refine blk_far ?_ NBq0_293.out _; (with_reducible repeat (first | refine blk_drewN ?_ _ | refine blk_drew ?_ | refine blk_alloc ?_ _)); exact BKq0.out) hb); have nq5_ := Aside0.mk (blk_below (g := gbq1) (o := .cells #[.slice Aoq2 t287.length coq2, .slice Aoq3 t290.length coq3] 26 (0, 0)) (by (with_reducible repeat (first | refine blk_drewN ?_ _ | refine blk_drew ?_ | refine blk_alloc ?_ _)); refine blk_put (cs := #[.slice Aoq2 t287.length coq2, .slice none 0 0]) ?_ 1 _ rfl; (with_reducible repeat (first | refine blk_drewN ?_ _ | refine blk_drew ?_ | refine blk_alloc ?_ _)); refine blk_put (cs := #[.slice none 0 0, .slice none 0 0]) ?_ 0 _ rfl; (with_reducible repeat (first | refine blk_drewN ?_ _ | refine blk_drew ?_ | refine blk_alloc ?_ _)); exact BKq1.out) hb); have nq6_ := Aside0.mk (below_step (by repeat (first | (with_reducible first | exact HB.out | apply below_alloc | apply pw_below_drewN | apply below_drew1 | refine below_set ?_ GEq0.out | refine below_set ?_ GEq1.out) | exact HB.out)) hb); clear HOq0; clear HOq1; clear HOq2; clear HOq3; clear BKq0; clear BKq1; clear HB; have HOq0 := nq0_; have HOq1 := nq1_; have HOq2 := nq2_; have HOq3 := nq3_; have BKq0 := nq4_; have BKq1 := nq5_; have HB := nq6_; clear nq0_ nq1_ nq2_ nq3_ nq4_ nq5_ nq6_; (try clear hb); (try clear hb2); (try clear hk); (try clear hi)))
       have nq0_ := Aside0.mk (Kd.R_drew HOq0.out)
       have nq1_ := Aside0.mk (Kd.R_drew HOq1.out)
       have nq2_ := Aside0.mk (Kd.R_drew HOq2.out)
       have nq3_ := Aside0.mk (Kd.R_drew HOq3.out)
       have nq4_ := Aside0.mk (blk_drew BKq0.out)
       have nq5_ := Aside0.mk (blk_drew BKq1.out)
       have nq6_ := Aside0.mk (below_drew1 HB.out)
       clear HOq0
       clear HOq1
       clear HOq2
       clear HOq3
       clear BKq0
       clear BKq1
       clear HB
       have HOq0 := nq0_
       have HOq1 := nq1_
       have HOq2 := nq2_
       have HOq3 := nq3_
       have BKq0 := nq4_
       have BKq1 := nq5_
       have HB := nq6_
       clear nq0_ nq1_ nq2_ nq3_ nq4_ nq5_ nq6_
       refine start_ (n := 5) (S := fun w' => w'.cell? ⟨gbq1, 0, none⟩ = some (.slice Aoq2 t287.length coq2) ∧ w'.cell? ⟨gbq1, 1, none⟩ = some (.slice Aoq3 t290.length coq3) ∧ w'.cell? ⟨gbq0, 0, none⟩ = some (.slice A0_0 l0_0.length c0_0) ∧ w'.cell? ⟨gbq0, 1, none⟩ = some (.slice A0_1 l0_1.length c0_1)) (ds := []) #[false, false, false, false, false] (by kernel_rfl) rfl rfl ⟨(blk_cell BKq1.out 0).trans rfl, (blk_cell BKq1.out 1).trans rfl, (blk_cell BKq0.out 0).trans rfl, (blk_cell BKq0.out 1).trans rfl⟩ (fun hHeld => ?_)
       generalize wq6.drew = wq7 at HOq0 HOq1 HOq2 HOq3 BKq0 BKq1 HB hHeld ⊢
       refine take_ (i := 0) (N := some 22) (v := ?_) (a' := ?_) #[true, false, false, false, false] rfl rfl (by kernel_rfl) (fun _ _ _ h => h) (Or.inl ⟨by rfl, ?_⟩) hHeld ?_ ?_
       rotate_left
       · rintro w' ⟨sq0, sq1, sq2, sq3⟩
         go_simp
         with_reducible rfl
       rotate_left
       · simp only [Act.put, List.setIfInBounds_toArray, List.set_cons_zero, List.set_cons_succ, i64_w, i32_w]
         rfl
       refine take_ (i := 1) (N := some 23) (v := ?_) (a' := ?_) #[true, true, false, false, false] rfl rfl (by kernel_rfl) (fun _ _ _ h => h) (Or.inl ⟨by rfl, ?_⟩) hHeld ?_ ?_
       rotate_left
       · rintro w' ⟨sq0, sq1, sq2, sq3⟩
         go_simp
         with_reducible rfl
       rotate_left
       · simp only [Act.put, List.setIfInBounds_toArray, List.set_cons_zero, List.set_cons_succ, i64_w, i32_w]
         rfl
       refine one_ (i := 2) (N := some 24) #[true, true, true, false, false] rfl rfl (by kernel_rfl) (by decide) (fun K hK => ?_)
       refine goes_ Try.func38 (by kernel_rfl) rfl #[.agg #[.slice A0_0 l0_0.length c0_0, .slice A0_1 l0_1.length c0_1]] (by rfl) rfl rfl (by (try simp only [List.map_toArray, List.map_cons, List.map_nil]); first | done | rfl | (simp only [List.length_drop, List.length_take]; rfl)) ?_
       with_reducible refine (laws_toProg.calls k _ _ l0_0 _ _ l0_1 t295 t298 _ ?side1 ?side2 ?side3 ?side4 A12.out).mono ?_
       (case side1 => repeat (first | exact (Kd.C_below HR0_0.out HB.out) | (with_reducible refine Kd.C_alloc ?_ _) | (with_reducible refine Kd.C_drewN ?_ _) | (with_reducible refine Kd.C_drew ?_)))
       (case side2 => exact HC0_0.out)
       (case side3 => repeat (first | exact (Kd.C_below HR0_1.out HB.out) | (with_reducible refine Kd.C_alloc ?_ _) | (with_reducible refine Kd.C_drewN ?_ _) | (with_reducible refine Kd.C_drew ?_)))
       (case side4 => exact HC0_1.out)
       rintro e wq8 ⟨vq4, vq5, rfl, hoq0, hoq1, hb⟩
       refine ⟨_, rfl, ?_⟩
       have nq0_ := Aside0.mk (Kd.R_elder' (by (with_reducible repeat (first | apply Kd.R_alloc | apply Kd.R_drewN | apply Kd.R_drew)); exact HOq0.out) (Kd.R_base hoq0) hb)
       have nq1_ := Aside0.mk (Kd.R_elder' (by (with_reducible repeat (first | apply Kd.R_alloc | apply Kd.R_drewN | apply Kd.R_drew)); exact HOq1.out) (Kd.R_base hoq1) hb)
       have nq2_ := Aside0.mk (Kd.R_elder' (by (with_reducible repeat (first | apply Kd.R_alloc | apply Kd.R_drewN | apply Kd.R_drew)); exact HOq2.out) (Kd.R_base hoq0) hb)
       have nq3_ := Aside0.mk (Kd.R_elder' (by (with_reducible repeat (first | apply Kd.R_alloc | apply Kd.R_drewN | apply Kd.R_drew)); exact HOq3.out) (Kd.R_base hoq1) hb)
       have nq4_ := Aside0.mk (Kd.R_lower (Kd.R_new' (Kd.R_new' hoq0 (Kd.R_lt (by (with_reducible repeat (first | apply Kd.R_alloc | apply Kd.R_drewN | apply Kd.R_drew)); exact HOq0.out))) (Kd.R_lt (by (with_reducible repeat (first | apply Kd.R_alloc | apply Kd.R_drewN | apply Kd.R_drew)); exact HOq2.out))) (below_size (by repeat (first | (with_reducible first | exact HB.out | apply below_alloc | apply pw_below_drewN | apply below_drew1 | refine below_set ?_ GEq0.out | refine below_set ?_ GEq1.out) | exact HB.out))))
       have nq5_ := Aside0.mk (Kd.R_lower (Kd.R_new' (Kd.R_new' hoq1 (Kd.R_lt (by (with_reducible repeat (first | apply Kd.R_alloc | apply Kd.R_drewN | apply Kd.R_drew)); exact HOq1.out))) (Kd.R_lt (by (with_reducible repeat (first | apply Kd.R_alloc | apply Kd.R_drewN | apply Kd.R_drew)); exact HOq3.out))) (below_size (by repeat (first | (with_reducible first | exact HB.out | apply below_alloc | apply pw_below_drewN | apply below_drew1 | refine below_set ?_ GEq0.out | refine below_set ?_ GEq1.out) | exact HB.out))))
       have nq6_ := Aside0.mk (blk_below (g := gbq0) (o := .cells #[.slice A0_0 l0_0.length c0_0, .slice A0_1 l0_1.length c0_1] 41 (0, 0)) (by (with_reducible repeat (first | refine blk_drewN ?_ _ | refine blk_drew ?_ | refine blk_alloc ?_ _)); exact BKq0.out) hb)
       have nq7_ := Aside0.mk (blk_below (g := gbq1) (o := .cells #[.slice Aoq2 t287.length coq2, .slice Aoq3 t290.length coq3] 26 (0, 0)) (by (with_reducible repeat (first | refine blk_drewN ?_ _ | refine blk_drew ?_ | refine blk_alloc ?_ _)); exact BKq1.out) hb)
       have nq8_ := Aside0.mk (below_step (by repeat (first | (with_reducible first | exact HB.out | apply below_alloc | apply pw_below_drewN | apply below_drew1 | refine below_set ?_ GEq0.out | refine below_set ?_ GEq1.out) | exact HB.out)) hb)
       clear HOq0
       clear HOq1
       clear HOq2
       clear HOq3
       clear BKq0
       clear BKq1
       clear HB
       have HOq0 := nq0_
       have HOq1 := nq1_
       have HOq2 := nq2_
       have HOq3 := nq3_
       have HOq4 := nq4_
       have HOq5 := nq5_
       have BKq0 := nq6_
       have BKq1 := nq7_
       have HB := nq8_
       clear nq0_ nq1_ nq2_ nq3_ nq4_ nq5_ nq6_ nq7_ nq8_
       (try clear hb)
       (try clear hb2)
       (try clear hk)
       (try clear hi)
       (try clear hoq0)
       (try clear hoq1)
       obtain ⟨Aoq4, coq4, eoq4⟩ := Kd.R_slice HOq4.out
       (first | subst eoq4 | (injection eoq4 with f1_ f2_ f3_; have fq0_ := f1_.symm; have fq1_ := f3_.symm; clear f1_ f2_ f3_; subst fq0_; subst fq1_))
       obtain ⟨Aoq5, coq5, eoq5⟩ := Kd.R_slice HOq5.out
       (first | subst eoq5 | (injection eoq5 with f1_ f2_ f3_; have fq0_ := f1_.symm; have fq1_ := f3_.symm; clear f1_ f2_ f3_; subst fq0_; subst fq1_))
       refine hK.out _ _ ⟨(blk_cell BKq1.out 0).trans rfl, (blk_cell BKq1.out 1).trans rfl, (blk_cell BKq0.out 0).trans rfl, (blk_cell BKq0.out 1).trans rfl⟩ (fun hHeld => ?_)
       clear hK K
       refine norm_ (a' := ?_) ?_ ?_
       rotate_left
       · show Act.put _ (some 24) _ = _
         simp only [Act.put, List.setIfInBounds_toArray, List.set_cons_zero, List.set_cons_succ, i64_w, i32_w]
         rfl
       refine one_ (i := 3) (N := some 25) #[true, true, true, true, false] rfl rfl (by kernel_rfl) (by decide) (fun K hK => ?_)
       refine goes_ Try.func39 (by kernel_rfl) rfl #[.agg #[.slice Aoq2 t287.length coq2, .slice Aoq3 t290.length coq3], .agg #[.slice Aoq4 t295.length coq4, .slice Aoq5 t298.length coq5]] (by rfl) rfl rfl (by (try simp only [List.map_toArray, List.map_cons, List.map_nil]); first | done | rfl | (simp only [List.length_drop, List.length_take]; rfl)) ?_
       first
       | ((have z_ := tag1_; clear z_)
          with_reducible refine (laws_eqProg.calls k _ _ t287 _ _ t290 _ _ t295 _ _ t298 true _ ?side1 ?side2 ?side3 ?side4 ?side5 ?side6 ?side7 ?side8 A13.out).mono ?_
          (case side1 => repeat (first | exact (Kd.R_reads' HOq2.out).2.2 | (with_reducible refine Kd.C_alloc ?_ _) | (with_reducible refine Kd.C_drewN ?_ _) | (with_reducible refine Kd.C_drew ?_)))
          (case side2 => exact (Kd.R_reads' HOq2.out).2.1)
          (case side3 => repeat (first | exact (Kd.R_reads' HOq3.out).2.2 | (with_reducible refine Kd.C_alloc ?_ _) | (with_reducible refine Kd.C_drewN ?_ _) | (with_reducible refine Kd.C_drew ?_)))
          (case side4 => exact (Kd.R_reads' HOq3.out).2.1)
          (case side5 => repeat (first | exact (Kd.R_reads' HOq4.out).2.2 | (with_reducible refine Kd.C_alloc ?_ _) | (with_reducible refine Kd.C_drewN ?_ _) | (with_reducible refine Kd.C_drew ?_)))
          (case side6 => exact (Kd.R_reads' HOq4.out).2.1)
          (case side7 => repeat (first | exact (Kd.R_reads' HOq5.out).2.2 | (with_reducible refine Kd.C_alloc ?_ _) | (with_reducible refine Kd.C_drewN ?_ _) | (with_reducible refine Kd.C_drew ?_)))
          (case side8 => exact (Kd.R_reads' HOq5.out).2.1)
          rintro e wq9 ⟨rfl, hb⟩
          refine ⟨_, rfl, ?_⟩
          have nq0_ := Aside0.mk (Kd.R_below (by (with_reducible repeat (first | apply Kd.R_alloc | apply Kd.R_drewN | apply Kd.R_drew)); exact HOq0.out) hb)
          have nq1_ := Aside0.mk (Kd.R_below (by (with_reducible repeat (first | apply Kd.R_alloc | apply Kd.R_drewN | apply Kd.R_drew)); exact HOq1.out) hb)
          have nq2_ := Aside0.mk (Kd.R_below (by (with_reducible repeat (first | apply Kd.R_alloc | apply Kd.R_drewN | apply Kd.R_drew)); exact HOq2.out) hb)
          have nq3_ := Aside0.mk (Kd.R_below (by (with_reducible repeat (first | apply Kd.R_alloc | apply Kd.R_drewN | apply Kd.R_drew)); exact HOq3.out) hb)
          have nq4_ := Aside0.mk (Kd.R_below (by (with_reducible repeat (first | apply Kd.R_alloc | apply Kd.R_drewN | apply Kd.R_drew)); exact HOq4.out) hb)
          have nq5_ := Aside0.mk (Kd.R_below (by (with_reducible repeat (first | apply Kd.R_alloc | apply Kd.R_drewN | apply Kd.R_drew)); exact HOq5.out) hb)
          have nq6_ := Aside0.mk (blk_below (g := gbq0) (o := .cells #[.slice A0_0 l0_0.length c0_0, .slice A0_1 l0_1.length c0_1] 41 (0, 0)) (by (with_reducible repeat (first | refine blk_drewN ?_ _ | refine blk_drew ?_ | refine blk_alloc ?_ _)); exact BKq0.out) hb)
          have nq7_ := Aside0.mk (blk_below (g := gbq1) (o := .cells #[.slice Aoq2 t287.length coq2, .slice Aoq3 t290.length coq3] 26 (0, 0)) (by (with_reducible repeat (first | refine blk_drewN ?_ _ | refine blk_drew ?_ | refine blk_alloc ?_ _)); exact BKq1.out) hb)
          have nq8_ := Aside0.mk (below_step (by repeat (first | (with_reducible first | exact HB.out | apply below_alloc | apply pw_below_drewN | apply below_drew1 | refine below_set ?_ GEq0.out | refine below_set ?_ GEq1.out) | exact HB.out)) hb)
          clear HOq0
          clear HOq1
          clear HOq2
          clear HOq3
          clear HOq4
          clear HOq5
          clear BKq0
          clear BKq1
          clear HB
          have HOq0 := nq0_
          have HOq1 := nq1_
          have HOq2 := nq2_
          have HOq3 := nq3_
          have HOq4 := nq4_
          have HOq5 := nq5_
          have BKq0 := nq6_
          have BKq1 := nq7_
          have HB := nq8_
          clear nq0_ nq1_ nq2_ nq3_ nq4_ nq5_ nq6_ nq7_ nq8_
          (try clear hb)
          (try clear hb2)
          (try clear hk)
          (try clear hi)
          refine hK.out _ _ ⟨(blk_cell BKq1.out 0).trans rfl, (blk_cell BKq1.out 1).trans rfl, (blk_cell BKq0.out 0).trans rfl, (blk_cell BKq0.out 1).trans rfl⟩ (fun hHeld => ?_)
          clear hK K
          refine norm_ (a' := ?_) ?_ ?_
          rotate_left
          · show Act.put _ (some 25) _ = _
            simp only [Act.put, List.setIfInBounds_toArray, List.set_cons_zero, List.set_cons_succ, i64_w, i32_w]
            rfl
          refine pure_ (i := 4) (N := some 26) (v := ?_) (a' := ?_) #[true, true, true, true, true] rfl rfl (by kernel_rfl) (fun _ _ _ h => h) (Or.inl ⟨by rfl, ?_⟩) ?_ ?_
          rotate_left
          · intro w'
            go_simp
            with_reducible rfl
          rotate_left
          · simp only [Act.put, List.setIfInBounds_toArray, List.set_cons_zero, List.set_cons_succ, i64_w, i32_w]
            rfl
          refine done_ (by kernel_rfl) ?_
          try go_wp2
          go_ret
          exact ⟨by first | rfl | (simp [errW_none, errW_some] <;> rfl) | (simp [*, errW_none, errW_some] <;> rfl), by repeat (first | (with_reducible first | exact HB.out | apply below_alloc | apply pw_below_drewN | apply below_drew1 | refine below_set ?_ GEq0.out | refine below_set ?_ GEq1.out) | exact HB.out)⟩)
       | ((have z_ := tag2_; clear z_)
          with_reducible refine (laws_eqProg.calls k _ _ t287 _ _ t290 _ _ t295 _ _ t298 false _ ?side1 ?side2 ?side3 ?side4 ?side5 ?side6 ?side7 ?side8 A13.out).mono ?_
          (case side1 => repeat (first | exact (Kd.R_reads' HOq2.out).2.2 | (with_reducible refine Kd.C_alloc ?_ _) | (with_reducible refine Kd.C_drewN ?_ _) | (with_reducible refine Kd.C_drew ?_)))
          (case side2 => exact (Kd.R_reads' HOq2.out).2.1)
          (case side3 => repeat (first | exact (Kd.R_reads' HOq3.out).2.2 | (with_reducible refine Kd.C_alloc ?_ _) | (with_reducible refine Kd.C_drewN ?_ _) | (with_reducible refine Kd.C_drew ?_)))
          (case side4 => exact (Kd.R_reads' HOq3.out).2.1)
          (case side5 => repeat (first | exact (Kd.R_reads' HOq4.out).2.2 | (with_reducible refine Kd.C_alloc ?_ _) | (with_reducible refine Kd.C_drewN ?_ _) | (with_reducible refine Kd.C_drew ?_)))
          (case side6 => exact (Kd.R_reads' HOq4.out).2.1)
          (case side7 => repeat (first | exact (Kd.R_reads' HOq5.out).2.2 | (with_reducible refine Kd.C_alloc ?_ _) | (with_reducible refine Kd.C_drewN ?_ _) | (with_reducible refine Kd.C_drew ?_)))
          (case side8 => exact (Kd.R_reads' HOq5.out).2.1)
          rintro e wq9 ⟨rfl, hb⟩
          refine ⟨_, rfl, ?_⟩
          have nq0_ := Aside0.mk (Kd.R_below (by (with_reducible repeat (first | apply Kd.R_alloc | apply Kd.R_drewN | apply Kd.R_drew)); exact HOq0.out) hb)
          have nq1_ := Aside0.mk (Kd.R_below (by (with_reducible repeat (first | apply Kd.R_alloc | apply Kd.R_drewN | apply Kd.R_drew)); exact HOq1.out) hb)
          have nq2_ := Aside0.mk (Kd.R_below (by (with_reducible repeat (first | apply Kd.R_alloc | apply Kd.R_drewN | apply Kd.R_drew)); exact HOq2.out) hb)
          have nq3_ := Aside0.mk (Kd.R_below (by (with_reducible repeat (first | apply Kd.R_alloc | apply Kd.R_drewN | apply Kd.R_drew)); exact HOq3.out) hb)
          have nq4_ := Aside0.mk (Kd.R_below (by (with_reducible repeat (first | apply Kd.R_alloc | apply Kd.R_drewN | apply Kd.R_drew)); exact HOq4.out) hb)
          have nq5_ := Aside0.mk (Kd.R_below (by (with_reducible repeat (first | apply Kd.R_alloc | apply Kd.R_drewN | apply Kd.R_drew)); exact HOq5.out) hb)
          have nq6_ := Aside0.mk (blk_below (g := gbq0) (o := .cells #[.slice A0_0 l0_0.length c0_0, .slice A0_1 l0_1.length c0_1] 41 (0, 0)) (by (with_reducible repeat (first | refine blk_drewN ?_ _ | refine blk_drew ?_ | refine blk_alloc ?_ _)); exact BKq0.out) hb)
          have nq7_ := Aside0.mk (blk_below (g := gbq1) (o := .cells #[.slice Aoq2 t287.length coq2, .slice Aoq3 t290.length coq3] 26 (0, 0)) (by (with_reducible repeat (first | refine blk_drewN ?_ _ | refine blk_drew ?_ | refine blk_alloc ?_ _)); exact BKq1.out) hb)
          have nq8_ := Aside0.mk (below_step (by repeat (first | (with_reducible first | exact HB.out | apply below_alloc | apply pw_below_drewN | apply below_drew1 | refine below_set ?_ GEq0.out | refine below_set ?_ GEq1.out) | exact HB.out)) hb)
          clear HOq0
          clear HOq1
          clear HOq2
          clear HOq3
          clear HOq4
          clear HOq5
          clear BKq0
          clear BKq1
          clear HB
          have HOq0 := nq0_
          have HOq1 := nq1_
          have HOq2 := nq2_
          have HOq3 := nq3_
          have HOq4 := nq4_
          have HOq5 := nq5_
          have BKq0 := nq6_
          have BKq1 := nq7_
          have HB := nq8_
          clear nq0_ nq1_ nq2_ nq3_ nq4_ nq5_ nq6_ nq7_ nq8_
          (try clear hb)
          (try clear hb2)
          (try clear hk)
          (try clear hi)
          refine hK.out _ _ ⟨(blk_cell BKq1.out 0).trans rfl, (blk_cell BKq1.out 1).trans rfl, (blk_cell BKq0.out 0).trans rfl, (blk_cell BKq0.out 1).trans rfl⟩ (fun hHeld => ?_)
          clear hK K
          refine norm_ (a' := ?_) ?_ ?_
          rotate_left
          · show Act.put _ (some 25) _ = _
            simp only [Act.put, List.setIfInBounds_toArray, List.set_cons_zero, List.set_cons_succ, i64_w, i32_w]
            rfl
          refine pure_ (i := 4) (N := some 26) (v := ?_) (a' := ?_) #[true, true, true, true, true] rfl rfl (by kernel_rfl) (fun _ _ _ h => h) (Or.inl ⟨by rfl, ?_⟩) ?_ ?_
          rotate_left
          · intro w'
            go_simp
            with_reducible rfl
          rotate_left
          · simp only [Act.put, List.setIfInBounds_toArray, List.set_cons_zero, List.set_cons_succ, i64_w, i32_w]
            rfl
          refine done_ (by kernel_rfl) ?_
          try go_wp2
          go_ret
          exact ⟨by first | rfl | (simp [errW_none, errW_some] <;> rfl) | (simp [*, errW_none, errW_some] <;> rfl), by repeat (first | (with_reducible first | exact HB.out | apply below_alloc | apply pw_below_drewN | apply below_drew1 | refine below_set ?_ GEq0.out | refine below_set ?_ GEq1.out) | exact HB.out)⟩))
    | ((have z_ := tag3_; clear z_)
       go_wp2_with (first | ((with_reducible refine gate_dst (N := 1) rfl ?_); refine box_event ?hg (N := 1) ?hd (cs := #[.slice A0_0 l0_0.length c0_0, .slice A0_1 l0_1.length c0_1]) (t := 41) ?hr ?_; (case hd => rfl); (case hg => rfl); (case hr => first | (go_simp; done) | (go_simp; rfl)); intro gbq0 hg wq0 hbox hb; have nq0_ := Aside0.mk (below_step (by repeat (first | (with_reducible first | exact HB.out | apply below_alloc | apply pw_below_drewN | apply below_drew1) | exact HB.out)) hb); have nq1_ := Aside0.mk (hbox); have nq2_ := Aside0.mk ((by rw [hg]; exact (below_size (by repeat (first | (with_reducible first | exact HB.out | apply below_alloc | apply pw_below_drewN | apply below_drew1) | exact HB.out))) : w.heap.size ≤ gbq0)); have nq3_ := Aside0.mk ((by rw [hg]; exact (below_size (by repeat (first | (with_reducible first | exact HB.out | apply below_alloc | apply pw_below_drewN | apply below_drew1) | exact HB.out))) : w.heap.size ≤ gbq0)); clear HB; have HB := nq0_; have BKq0 := nq1_; have GWq0 := nq2_; have GEq0 := nq3_; clear nq0_ nq1_ nq2_ nq3_; clear hb hbox hg; have hczq0_0 : wq0.cell? ⟨gbq0, 0, none⟩ = some (.slice A0_0 l0_0.length c0_0) := (blk_cell BKq0.out 0).trans rfl; have hczq0_1 : wq0.cell? ⟨gbq0, 1, none⟩ = some (.slice A0_1 l0_1.length c0_1) := (blk_cell BKq0.out 1).trans rfl; have hfzq0_0 := blk_frozen BKq0.out 0; have hfzq0_1 := blk_frozen BKq0.out 1) | ((with_reducible refine gate_callee (f := 37) rfl ?_); refine goesL_ (some 9) rfl rfl Try.func37 (by kernel_rfl) rfl #[.agg #[.slice A0_0 l0_0.length c0_0, .slice A0_1 l0_1.length c0_1], .int .i64 1048576] rfl (by (try simp only [List.map_toArray, List.map_cons, List.map_nil]); first | done | rfl | (simp only [List.length_drop, List.length_take]; rfl)) ?_; (with_reducible refine (laws_szProg.calls k _ _ l0_0 _ _ l0_1 1048576 t279 _ ?side1 ?side2 ?side3 ?side4 A2.out).mono ?_); (case side1 => repeat (first | exact (Kd.C_below HR0_0.out HB.out) | (with_reducible refine Kd.C_alloc ?_ _) | (with_reducible refine Kd.C_drewN ?_ _) | (with_reducible refine Kd.C_drew ?_))); (case side2 => exact HC0_0.out); (case side3 => repeat (first | exact (Kd.C_below HR0_1.out HB.out) | (with_reducible refine Kd.C_alloc ?_ _) | (with_reducible refine Kd.C_drewN ?_ _) | (with_reducible refine Kd.C_drew ?_))); (case side4 => exact HC0_1.out); rintro e wq1 ⟨rfl, hb⟩; refine ⟨_, rfl, ?_⟩; have nq0_ := Aside0.mk (blk_below (g := gbq0) (o := .cells #[.slice A0_0 l0_0.length c0_0, .slice A0_1 l0_1.length c0_1] 41 (0, 0)) (by (with_reducible repeat (first | refine blk_drewN ?_ _ | refine blk_drew ?_ | refine blk_alloc ?_ _)); exact BKq0.out) hb); have nq1_ := Aside0.mk (below_step (by repeat (first | (with_reducible first | exact HB.out | apply below_alloc | apply pw_below_drewN | apply below_drew1 | refine below_set ?_ GEq0.out) | exact HB.out)) hb); clear BKq0; clear HB; have BKq0 := nq0_; have HB := nq1_; clear nq0_ nq1_; (try clear hb); (try clear hb2); (try clear hk); (try clear hi); have hczq1_0 : wq1.cell? ⟨gbq0, 0, none⟩ = some (.slice A0_0 l0_0.length c0_0) := (blk_cell BKq0.out 0).trans rfl; have hczq1_1 : wq1.cell? ⟨gbq0, 1, none⟩ = some (.slice A0_1 l0_1.length c0_1) := (blk_cell BKq0.out 1).trans rfl; have hfzq1_0 := blk_frozen BKq0.out 0; have hfzq1_1 := blk_frozen BKq0.out 1) | ((with_reducible refine gate_callee (f := 38) rfl ?_); refine goesL_ (some 13) rfl rfl Try.func38 (by kernel_rfl) rfl #[.agg #[.slice A0_0 l0_0.length c0_0, .slice A0_1 l0_1.length c0_1]] rfl (by (try simp only [List.map_toArray, List.map_cons, List.map_nil]); first | done | rfl | (simp only [List.length_drop, List.length_take]; rfl)) ?_; (with_reducible refine (laws_toProg.calls k _ _ l0_0 _ _ l0_1 t280 t283 _ ?side1 ?side2 ?side3 ?side4 A7.out).mono ?_); (case side1 => repeat (first | exact (Kd.C_below HR0_0.out HB.out) | (with_reducible refine Kd.C_alloc ?_ _) | (with_reducible refine Kd.C_drewN ?_ _) | (with_reducible refine Kd.C_drew ?_))); (case side2 => exact HC0_0.out); (case side3 => repeat (first | exact (Kd.C_below HR0_1.out HB.out) | (with_reducible refine Kd.C_alloc ?_ _) | (with_reducible refine Kd.C_drewN ?_ _) | (with_reducible refine Kd.C_drew ?_))); (case side4 => exact HC0_1.out); rintro e wq2 ⟨vq0, vq1, rfl, hoq0, hoq1, hb⟩; refine ⟨_, rfl, ?_⟩; have nq0_ := Aside0.mk (Kd.R_lower hoq0 (below_size (by repeat (first | (with_reducible first | exact HB.out | apply below_alloc | apply pw_below_drewN | apply below_drew1 | refine below_set ?_ GEq0.out) | exact HB.out)))); have nq1_ := Aside0.mk (Kd.R_lower hoq1 (below_size (by repeat (first | (with_reducible first | exact HB.out | apply below_alloc | apply pw_below_drewN | apply below_drew1 | refine below_set ?_ GEq0.out) | exact HB.out)))); have nq2_ := Aside0.mk (blk_below (g := gbq0) (o := .cells #[.slice A0_0 l0_0.length c0_0, .slice A0_1 l0_1.length c0_1] 41 (0, 0)) (by (with_reducible repeat (first | refine blk_drewN ?_ _ | refine blk_drew ?_ | refine blk_alloc ?_ _)); exact BKq0.out) hb); have nq3_ := Aside0.mk (below_step (by repeat (first | (with_reducible first | exact HB.out | apply below_alloc | apply pw_below_drewN | apply below_drew1 | refine below_set ?_ GEq0.out) | exact HB.out)) hb); clear BKq0; clear HB; have HOq0 := nq0_; have HOq1 := nq1_; have BKq0 := nq2_; have HB := nq3_; clear nq0_ nq1_ nq2_ nq3_; (try clear hb); (try clear hb2); (try clear hk); (try clear hi); (try clear hoq0); (try clear hoq1); obtain ⟨Aoq0, coq0, eoq0⟩ := Kd.R_slice HOq0.out; subst eoq0; obtain ⟨Aoq1, coq1, eoq1⟩ := Kd.R_slice HOq1.out; subst eoq1) | ((with_reducible refine gate_callee (f := 40) rfl ?_); refine goesL_ (some 14) rfl rfl Try.func40 (by kernel_rfl) rfl #[.agg #[.slice Aoq0 t280.length coq0, .slice Aoq1 t283.length coq1]] rfl (by (try simp only [List.map_toArray, List.map_cons, List.map_nil]); first | done | rfl | (simp only [List.length_drop, List.length_take]; rfl)) ?_; (with_reducible refine (spec_ProgSize.calls k _ _ t280 _ _ t283 t286 _ ?side1 ?side2 ?side3 ?side4 A8.out).mono ?_); (case side1 => repeat (first | exact (Kd.R_reads' HOq0.out).2.2 | (with_reducible refine Kd.C_alloc ?_ _) | (with_reducible refine Kd.C_drewN ?_ _) | (with_reducible refine Kd.C_drew ?_))); (case side2 => exact (Kd.R_reads' HOq0.out).2.1); (case side3 => repeat (first | exact (Kd.R_reads' HOq1.out).2.2 | (with_reducible refine Kd.C_alloc ?_ _) | (with_reducible refine Kd.C_drewN ?_ _) | (with_reducible refine Kd.C_drew ?_))); (case side4 => exact (Kd.R_reads' HOq1.out).2.1); rintro e wq3 ⟨rfl, hb⟩; refine ⟨_, rfl, ?_⟩; have nq0_ := Aside0.mk (Kd.R_below (by (with_reducible repeat (first | apply Kd.R_alloc | apply Kd.R_drewN | apply Kd.R_drew)); exact HOq0.out) hb); have nq1_ := Aside0.mk (Kd.R_below (by (with_reducible repeat (first | apply Kd.R_alloc | apply Kd.R_drewN | apply Kd.R_drew)); exact HOq1.out) hb); have nq2_ := Aside0.mk (blk_below (g := gbq0) (o := .cells #[.slice A0_0 l0_0.length c0_0, .slice A0_1 l0_1.length c0_1] 41 (0, 0)) (by (with_reducible repeat (first | refine blk_drewN ?_ _ | refine blk_drew ?_ | refine blk_alloc ?_ _)); exact BKq0.out) hb); have nq3_ := Aside0.mk (below_step (by repeat (first | (with_reducible first | exact HB.out | apply below_alloc | apply pw_below_drewN | apply below_drew1 | refine below_set ?_ GEq0.out) | exact HB.out)) hb); clear HOq0; clear HOq1; clear BKq0; clear HB; have HOq0 := nq0_; have HOq1 := nq1_; have BKq0 := nq2_; have HB := nq3_; clear nq0_ nq1_ nq2_ nq3_; (try clear hb); (try clear hb2); (try clear hk); (try clear hi); have hczq2_0 : wq3.cell? ⟨gbq0, 0, none⟩ = some (.slice A0_0 l0_0.length c0_0) := (blk_cell BKq0.out 0).trans rfl; have hczq2_1 : wq3.cell? ⟨gbq0, 1, none⟩ = some (.slice A0_1 l0_1.length c0_1) := (blk_cell BKq0.out 1).trans rfl; have hfzq2_0 := blk_frozen BKq0.out 0; have hfzq2_1 := blk_frozen BKq0.out 1) | ((with_reducible refine gate_callee (f := 38) rfl ?_); refine goesL_ (some 16) rfl rfl Try.func38 (by kernel_rfl) rfl #[.agg #[.slice A0_0 l0_0.length c0_0, .slice A0_1 l0_1.length c0_1]] rfl (by (try simp only [List.map_toArray, List.map_cons, List.map_nil]); first | done | rfl | (simp only [List.length_drop, List.length_take]; rfl)) ?_; (with_reducible refine (laws_toProg.calls k _ _ l0_0 _ _ l0_1 t287 t290 _ ?side1 ?side2 ?side3 ?side4 A9.out).mono ?_); (case side1 => repeat (first | exact (Kd.C_below HR0_0.out HB.out) | (with_reducible refine Kd.C_alloc ?_ _) | (with_reducible refine Kd.C_drewN ?_ _) | (with_reducible refine Kd.C_drew ?_))); (case side2 => exact HC0_0.out); (case side3 => repeat (first | exact (Kd.C_below HR0_1.out HB.out) | (with_reducible refine Kd.C_alloc ?_ _) | (with_reducible refine Kd.C_drewN ?_ _) | (with_reducible refine Kd.C_drew ?_))); (case side4 => exact HC0_1.out); rintro e wq4 ⟨vq2, vq3, rfl, hoq0, hoq1, hb⟩; refine ⟨_, rfl, ?_⟩; have nq0_ := Aside0.mk (Kd.R_elder' (by (with_reducible repeat (first | apply Kd.R_alloc | apply Kd.R_drewN | apply Kd.R_drew)); exact HOq0.out) (Kd.R_base hoq0) hb); have nq1_ := Aside0.mk (Kd.R_elder' (by (with_reducible repeat (first | apply Kd.R_alloc | apply Kd.R_drewN | apply Kd.R_drew)); exact HOq1.out) (Kd.R_base hoq1) hb); have nq2_ := Aside0.mk (Kd.R_lower (Kd.R_new' hoq0 (Kd.R_lt (by (with_reducible repeat (first | apply Kd.R_alloc | apply Kd.R_drewN | apply Kd.R_drew)); exact HOq0.out))) (below_size (by repeat (first | (with_reducible first | exact HB.out | apply below_alloc | apply pw_below_drewN | apply below_drew1 | refine below_set ?_ GEq0.out) | exact HB.out)))); have nq3_ := Aside0.mk (Kd.R_lower (Kd.R_new' hoq1 (Kd.R_lt (by (with_reducible repeat (first | apply Kd.R_alloc | apply Kd.R_drewN | apply Kd.R_drew)); exact HOq1.out))) (below_size (by repeat (first | (with_reducible first | exact HB.out | apply below_alloc | apply pw_below_drewN | apply below_drew1 | refine below_set ?_ GEq0.out) | exact HB.out)))); have nq4_ := Aside0.mk (blk_below (g := gbq0) (o := .cells #[.slice A0_0 l0_0.length c0_0, .slice A0_1 l0_1.length c0_1] 41 (0, 0)) (by (with_reducible repeat (first | refine blk_drewN ?_ _ | refine blk_drew ?_ | refine blk_alloc ?_ _)); exact BKq0.out) hb); have nq5_ := Aside0.mk (below_step (by repeat (first | (with_reducible first | exact HB.out | apply below_alloc | apply pw_below_drewN | apply below_drew1 | refine below_set ?_ GEq0.out) | exact HB.out)) hb); clear HOq0; clear HOq1; clear BKq0; clear HB; have HOq0 := nq0_; have HOq1 := nq1_; have HOq2 := nq2_; have HOq3 := nq3_; have BKq0 := nq4_; have HB := nq5_; clear nq0_ nq1_ nq2_ nq3_ nq4_ nq5_; (try clear hb); (try clear hb2); (try clear hk); (try clear hi); (try clear hoq0); (try clear hoq1)) | ((with_reducible refine gate_dst (N := 5) rfl ?_); refine box_event ?hg (N := 5) ?hd (cs := #[.slice none 0 0, .slice none 0 0]) (t := 26) ?hr ?_; (case hd => rfl); (case hg => rfl); (case hr => first | (go_simp; done) | (go_simp; rfl)); intro gbq1 hg wq5 hbox hb; have nq0_ := Aside0.mk (Kd.R_below (by (with_reducible repeat (first | apply Kd.R_alloc | apply Kd.R_drewN | apply Kd.R_drew)); exact HOq0.out) hb); have nq1_ := Aside0.mk (Kd.R_below (by (with_reducible repeat (first | apply Kd.R_alloc | apply Kd.R_drewN | apply Kd.R_drew)); exact HOq1.out) hb); have nq2_ := Aside0.mk (Kd.R_below (by (with_reducible repeat (first | apply Kd.R_alloc | apply Kd.R_drewN | apply Kd.R_drew)); exact HOq2.out) hb); have nq3_ := Aside0.mk (Kd.R_below (by (with_reducible repeat (first | apply Kd.R_alloc | apply Kd.R_drewN | apply Kd.R_drew)); exact HOq3.out) hb); have nq4_ := Aside0.mk (blk_below (g := gbq0) (o := .cells #[.slice A0_0 l0_0.length c0_0, .slice A0_1 l0_1.length c0_1] 41 (0, 0)) (by (with_reducible repeat (first | refine blk_drewN ?_ _ | refine blk_drew ?_ | refine blk_alloc ?_ _)); exact BKq0.out) hb); have nq5_ := Aside0.mk (below_step (by repeat (first | (with_reducible first | exact HB.out | apply below_alloc | apply pw_below_drewN | apply below_drew1 | refine below_set ?_ GEq0.out) | exact HB.out)) hb); have nq6_ := Aside0.mk (hbox); have nq7_ := Aside0.mk ((by rw [hg]; exact (below_size (by repeat (first | (with_reducible first | exact HB.out | apply below_alloc | apply pw_below_drewN | apply below_drew1 | refine below_set ?_ GEq0.out) | exact HB.out))) : w.heap.size ≤ gbq1)); have nq8_ := Aside0.mk ((by rw [hg]; exact (below_size (by repeat (first | (with_reducible first | exact HB.out | apply below_alloc | apply pw_below_drewN | apply below_drew1 | refine below_set ?_ GEq0.out) | exact HB.out))) : w.heap.size ≤ gbq1)); have nq9_ := Aside0.mk ((by rw [hg]; exact Nat.ne_of_lt (blk_lt (g := gbq0) (o := .cells #[.slice A0_0 l0_0.length c0_0, .slice A0_1 l0_1.length c0_1] 41 (0, 0)) (by (with_reducible repeat (first | refine blk_drewN ?_ _ | refine blk_drew ?_ | refine blk_alloc ?_ _)); exact BKq0.out)) : gbq0 ≠ gbq1)); have nq10_ := Aside0.mk ((by rw [hg]; exact Nat.ne_of_gt (blk_lt (g := gbq0) (o := .cells #[.slice A0_0 l0_0.length c0_0, .slice A0_1 l0_1.length c0_1] 41 (0, 0)) (by (with_reducible repeat (first | refine blk_drewN ?_ _ | refine blk_drew ?_ | refine blk_alloc ?_ _)); exact BKq0.out)) : gbq1 ≠ gbq0)); clear HOq0; clear HOq1; clear HOq2; clear HOq3; clear BKq0; clear HB; have HOq0 := nq0_; have HOq1 := nq1_; have HOq2 := nq2_; have HOq3 := nq3_; have BKq0 := nq4_; have HB := nq5_; have BKq1 := nq6_; have GWq1 := nq7_; have GEq1 := nq8_; have NBq0_293 := nq9_; have NBq1_278 := nq10_; clear nq0_ nq1_ nq2_ nq3_ nq4_ nq5_ nq6_ nq7_ nq8_ nq9_ nq10_; clear hb hbox hg; obtain ⟨Aoq2, coq2, eoq2⟩ := Kd.R_slice HOq2.out; subst eoq2; have hnbq0 := NBq1_278.out; have hncq0 := NBq0_293.out; have hczq3_0 : wq5.cell? ⟨gbq1, 0, none⟩ = some (.slice none 0 0) := (blk_cell BKq1.out 0).trans rfl; have hczq3_1 : wq5.cell? ⟨gbq1, 1, none⟩ = some (.slice none 0 0) := (blk_cell BKq1.out 1).trans rfl; have hfzq3_0 := blk_frozen BKq1.out 0; have hfzq3_1 := blk_frozen BKq1.out 1; obtain ⟨Aoq3, coq3, eoq3⟩ := Kd.R_slice HOq3.out; subst eoq3) | ((with_reducible refine gate_callee (f := 41) rfl ?_); refine goesL_ (some 18) rfl rfl Try.func41 (by kernel_rfl) rfl #[.agg #[.slice Aoq2 t287.length coq2, .slice Aoq3 t290.length coq3]] rfl (by (try simp only [List.map_toArray, List.map_cons, List.map_nil]); first | done | rfl | (simp only [List.length_drop, List.length_take]; rfl)) ?_; (with_reducible refine (impl_ProgSize.calls k _ _ t287 _ _ t290 t294 _ ?side1 ?side2 ?side3 ?side4 A10.out).mono ?_); (case side1 => refine (Kd.R_reads' (e := 35) (base := w.heap.size) (ok := fun k_ => (True ∧ some k_ ≠ (.slice Aoq0 t280.length coq0 : Value).ownBlock)) (n := t287.length) (c := coq2) ?_).2.2; exact (by (with_reducible repeat (first | apply Kd.R_alloc | apply Kd.R_drewN | apply Kd.R_drew)); exact (Kd.R_mono (Kd.R_far (p := ⟨gbq1, 1, none⟩) (Kd.R_far (p := ⟨gbq1, 0, none⟩) (Kd.R_types HOq2.out BKq1.out (by decide)) (fun _ hk => hk.2) (.slice Aoq2 t287.length coq2)) (fun _ hk => hk.2) (.slice Aoq3 t290.length coq3)) (fun _ h_ => h_.1)))); (case side2 => exact (Kd.R_reads' HOq2.out).2.1); (case side3 => refine (Kd.R_reads' (e := 59) (base := w.heap.size) (ok := fun k_ => (True ∧ some k_ ≠ (.slice Aoq1 t283.length coq1 : Value).ownBlock)) (n := t290.length) (c := coq3) ?_).2.2; exact (by (with_reducible repeat (first | apply Kd.R_alloc | apply Kd.R_drewN | apply Kd.R_drew)); exact (Kd.R_mono (Kd.R_far (p := ⟨gbq1, 1, none⟩) (Kd.R_far (p := ⟨gbq1, 0, none⟩) (Kd.R_types HOq3.out BKq1.out (by decide)) (fun _ hk => hk.2) (.slice Aoq2 t287.length coq2)) (fun _ hk => hk.2) (.slice Aoq3 t290.length coq3)) (fun _ h_ => h_.1)))); (case side4 => exact (Kd.R_reads' HOq3.out).2.1); rintro e wq6 ⟨rfl, hb⟩; refine ⟨_, rfl, ?_⟩; have nq0_ := Aside0.mk (Kd.R_below (by (with_reducible repeat (first | apply Kd.R_alloc | apply Kd.R_drewN | apply Kd.R_drew)); exact (Kd.R_mono (Kd.R_far (p := ⟨gbq1, 1, none⟩) (Kd.R_far (p := ⟨gbq1, 0, none⟩) (Kd.R_types HOq0.out BKq1.out (by decide)) (fun _ hk => hk.2) (.slice Aoq2 t287.length coq2)) (fun _ hk => hk.2) (.slice Aoq3 t290.length coq3)) (fun _ h_ => h_.1))) hb); have nq1_ := Aside0.mk (Kd.R_below (by (with_reducible repeat (first | apply Kd.R_alloc | apply Kd.R_drewN | apply Kd.R_drew)); exact (Kd.R_mono (Kd.R_far (p := ⟨gbq1, 1, none⟩) (Kd.R_far (p := ⟨gbq1, 0, none⟩) (Kd.R_types HOq1.out BKq1.out (by decide)) (fun _ hk => hk.2) (.slice Aoq2 t287.length coq2)) (fun _ hk => hk.2) (.slice Aoq3 t290.length coq3)) (fun _ h_ => h_.1))) hb); have nq2_ := Aside0.mk (Kd.R_below (by (with_reducible repeat (first | apply Kd.R_alloc | apply Kd.R_drewN | apply Kd.R_drew)); exact (Kd.R_mono (Kd.R_far (p := ⟨gbq1, 1, none⟩) (Kd.R_far (p := ⟨gbq1, 0, none⟩) (Kd.R_types HOq2.out BKq1.out (by decide)) (fun _ hk => hk.2) (.slice Aoq2 t287.length coq2)) (fun _ hk => hk.2) (.slice Aoq3 t290.length coq3)) (fun _ h_ => h_.1))) hb); have nq3_ := Aside0.mk (Kd.R_below (by (with_reducible repeat (first | apply Kd.R_alloc | apply Kd.R_drewN | apply Kd.R_drew)); exact (Kd.R_mono (Kd.R_far (p := ⟨gbq1, 1, none⟩) (Kd.R_far (p := ⟨gbq1, 0, none⟩) (Kd.R_types HOq3.out BKq1.out (by decide)) (fun _ hk => hk.2) (.slice Aoq2 t287.length coq2)) (fun _ hk => hk.2) (.slice Aoq3 t290.length coq3)) (fun _ h_ => h_.1))) hb); have nq4_ := Aside0.mk (blk_below (g := gbq0) (o := .cells #[.slice A0_0 l0_0.length c0_0, .slice A0_1 l0_1.length c0_1] 41 (0, 0)) (by (with_reducible repeat (first | refine blk_drewN ?_ _ | refine blk_drew ?_ | refine blk_alloc ?_ _)); refine blk_far ?_ NBq0_293.out _; (with_reducible repeat (first | refine blk_drewN ?_ _ | refine blk_drew ?_ | refine blk_alloc ?_ _)); refine blk_far ?_ NBq0_293.out _; (with_reducible repeat (first | refine blk_drewN ?_ _ | refine blk_drew ?_ | refine blk_alloc ?_ _)); exact BKq0.out) hb); have nq5_ := Aside0.mk (blk_below (g := gbq1) (o := .cells #[.slice Aoq2 t287.length coq2, .slice Aoq3 t290.length coq3] 26 (0, 0)) (by (with_reducible repeat (first | refine blk_drewN ?_ _ | refine blk_drew ?_ | refine blk_alloc ?_ _)); refine blk_put (cs := #[.slice Aoq2 t287.length coq2, .slice none 0 0]) ?_ 1 _ rfl; (with_reducible repeat (first | refine blk_drewN ?_ _ | refine blk_drew ?_ | refine blk_alloc ?_ _)); refine blk_put (cs := #[.slice none 0 0, .slice none 0 0]) ?_ 0 _ rfl; (with_reducible repeat (first | refine blk_drewN ?_ _ | refine blk_drew ?_ | refine blk_alloc ?_ _)); exact BKq1.out) hb); have nq6_ := Aside0.mk (below_step (by repeat (first | (with_reducible first | exact HB.out | apply below_alloc | apply pw_below_drewN | apply below_drew1 | refine below_set ?_ GEq0.out | refine below_set ?_ GEq1.out) | exact HB.out)) hb); clear HOq0; clear HOq1; clear HOq2; clear HOq3; clear BKq0; clear BKq1; clear HB; have HOq0 := nq0_; have HOq1 := nq1_; have HOq2 := nq2_; have HOq3 := nq3_; have BKq0 := nq4_; have BKq1 := nq5_; have HB := nq6_; clear nq0_ nq1_ nq2_ nq3_ nq4_ nq5_ nq6_; (try clear hb); (try clear hb2); (try clear hk); (try clear hi)))
       go_ret
       exact ⟨by first | rfl | (simp [errW_none, errW_some] <;> rfl) | (simp [*, errW_none, errW_some] <;> rfl), by repeat (first | (with_reducible first | exact HB.out | apply below_alloc | apply pw_below_drewN | apply below_drew1 | refine below_set ?_ GEq0.out | refine below_set ?_ GEq1.out) | exact HB.out)⟩)

end Go.Proofs.Ytcffnnedghgmaaa.A
