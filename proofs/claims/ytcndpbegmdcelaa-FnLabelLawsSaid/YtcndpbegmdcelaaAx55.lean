/- What Go functions compute, as Lean functions, and for each its contract: for every input at which the Lean function answers the call returns that; written by wip/tools/pr.py over the kit's print. -/
import Derived.Test.YtcndpbegmdcelaaAx0
import Derived.Test.YtcndpbegmdcelaaAx11
import Derived.Test.YtcndpbegmdcelaaAx25
import Derived.Test.YtcndpbegmdcelaaAx26
import Derived.Test.YtcndpbegmdcelaaAx52
namespace Go.Proofs.Ytcndpbegmdcelaa.A
open Go.RowKit Go.Proofs.YtcndpbegmdcelaaW.PrintWords Go.Proofs.YtcndpbegmdcelaaW.PrintLast Go.Proofs.YtcndpbegmdcelaaW.PrintMore
attribute [local go_sem] max2_int min2_int max_two min_two max_three min_three max_four min_four   -- for this text's walks alone
set_option linter.unusedVariables false
set_option linter.unusedSimpArgs false

/-! ### spec_DrawLabelFlows: function 32 -/
def spec_DrawLabelFlows.f (k : Nat) (l0 : List Int) : Option (Int × Int × Int × Int) := (spec_l6Open.f l0).bind fun bt613 => ((spec_l71Odd.f k bt613.1 bt613.2).bind fun bt616 => ((spec_l71Odd.f k bt613.1 bt616.2.2).bind fun bt620 => ((spec_l6Rd_pick.f k bt613.1 bt620.2.2 3).bind fun bt624 => (if bt624.1 = 0 then ((spec_LabelBoth.f k bt616.1 bt616.2.1 bt620.1 bt620.2.1).bind fun bt626 => (some (bt616.1, bt616.2.1, bt626.1, bt626.2))) else (some (bt616.1, bt616.2.1, bt620.1, bt620.2.1))))))
theorem spec_DrawLabelFlows.mono : ∀ a0 k, LeO (spec_DrawLabelFlows.f k a0) (spec_DrawLabelFlows.f (k + 1) a0) := by
  intro a0 k
  unfold spec_DrawLabelFlows.f
  repeat' first
      | (with_reducible exact spec_LabelBoth.mono _ _ _ _ _)
      | (with_reducible exact spec_l6Rd_pick.mono _ _ _ _)
      | (with_reducible exact spec_l71Odd.mono _ _ _)
      | (with_reducible exact LeO.refl _)
      | (with_reducible exact LeO.none _)
      | (with_reducible refine LeO.ite ?_ ?_)
      | (with_reducible refine LeO.bind ?_ (fun _ => ?_))
      | exact spec_LabelBoth.mono _ _ _ _ _
      | exact spec_l6Rd_pick.mono _ _ _ _
      | exact spec_l71Odd.mono _ _ _
      | exact LeO.none _
      | refine LeO.ite ?_ ?_
      | refine LeO.bind ?_ (fun _ => ?_)
set_option maxHeartbeats 8000000 in
set_option maxRecDepth 100000 in
theorem spec_DrawLabelFlows.calls (k : Nat) (A0 : Option Addr) (c0 : Nat) (l0 : List Int) (r1 : Int) (r2 : Int) (r3 : Int) (r4 : Int) (w : World) (hr0 : Kd.C (Kd.int .u8) w A0 l0.length l0) (hc0 : l0.length ≤ c0) (h : spec_DrawLabelFlows.f k l0 = some (r1, r2, r3, r4)) :
    Calls Try.prog 32 #[.slice A0 l0.length c0] w fun e w' => e = .returned (.tuple #[.agg #[.int .i64 r1, .int .i64 r2], .agg #[.int .i64 r3, .int .i64 r4]]) ∧ Below w.heap.size w w' := by
  have hu26 := Try.underlying26
  have HR0 := Aside0.mk hr0
  have HC0 := Aside0.mk hc0
  clear hr0 hc0
  have HB := Aside0.mk (Below.refl w.heap.size w)
  have H : ((spec_l6Open.f l0).bind fun bt613 => ((spec_l71Odd.f k bt613.1 bt613.2).bind fun bt616 => ((spec_l71Odd.f k bt613.1 bt616.2.2).bind fun bt620 => ((spec_l6Rd_pick.f k bt613.1 bt620.2.2 3).bind fun bt624 => (if bt624.1 = 0 then ((spec_LabelBoth.f k bt616.1 bt616.2.1 bt620.1 bt620.2.1).bind fun bt626 => (some (bt616.1, bt616.2.1, bt626.1, bt626.2))) else (some (bt616.1, bt616.2.1, bt620.1, bt620.2.1))))))) = some (r1, r2, r3, r4) := h
  clear h
  replace H := Option.bind_eq_some_iff.mp H
  obtain ⟨⟨t613, t614⟩, A20, H⟩ := H
  replace H : ((spec_l71Odd.f k t613 t614).bind fun bt616 => ((spec_l71Odd.f k t613 bt616.2.2).bind fun bt620 => ((spec_l6Rd_pick.f k t613 bt620.2.2 3).bind fun bt624 => (if bt624.1 = 0 then ((spec_LabelBoth.f k bt616.1 bt616.2.1 bt620.1 bt620.2.1).bind fun bt626 => (some (bt616.1, bt616.2.1, bt626.1, bt626.2))) else (some (bt616.1, bt616.2.1, bt620.1, bt620.2.1)))))) = some (r1, r2, r3, r4) := H
  have A2 := Aside0.mk A20
  clear A20
  replace H := Option.bind_eq_some_iff.mp H
  obtain ⟨⟨t616, t617, t618⟩, A30, H⟩ := H
  replace H : ((spec_l71Odd.f k t613 t618).bind fun bt620 => ((spec_l6Rd_pick.f k t613 bt620.2.2 3).bind fun bt624 => (if bt624.1 = 0 then ((spec_LabelBoth.f k t616 t617 bt620.1 bt620.2.1).bind fun bt626 => (some (t616, t617, bt626.1, bt626.2))) else (some (t616, t617, bt620.1, bt620.2.1))))) = some (r1, r2, r3, r4) := H
  have A3 := Aside0.mk A30
  clear A30
  replace H := Option.bind_eq_some_iff.mp H
  obtain ⟨⟨t620, t621, t622⟩, A40, H⟩ := H
  replace H : ((spec_l6Rd_pick.f k t613 t622 3).bind fun bt624 => (if bt624.1 = 0 then ((spec_LabelBoth.f k t616 t617 t620 t621).bind fun bt626 => (some (t616, t617, bt626.1, bt626.2))) else (some (t616, t617, t620, t621)))) = some (r1, r2, r3, r4) := H
  have A4 := Aside0.mk A40
  clear A40
  replace H := Option.bind_eq_some_iff.mp H
  obtain ⟨⟨t624, t625⟩, A50, H⟩ := H
  replace H : (if t624 = 0 then ((spec_LabelBoth.f k t616 t617 t620 t621).bind fun bt626 => (some (t616, t617, bt626.1, bt626.2))) else (some (t616, t617, t620, t621))) = some (r1, r2, r3, r4) := H
  have A5 := Aside0.mk A50
  clear A50
  by_cases c6 : t624 = 0
  focus
    rw [if_pos c6] at H
    have c6b0 : (t624 == 0) = true := beq_iff_eq.mpr c6
    have c6b1 : (t624 != 0) = false := bne_eq_false_iff_eq.mpr c6
    clear c6
    replace H := Option.bind_eq_some_iff.mp H
    obtain ⟨⟨t626, t627⟩, A70, H⟩ := H
    replace H : (some (t616, t617, t626, t627)) = some (r1, r2, r3, r4) := H
    have A7 := Aside0.mk A70
    clear A70
    simp only [Option.some.injEq, Prod.mk.injEq] at H
    obtain ⟨rfl, rfl, rfl, rfl⟩ := H
    have tag0_ : Aside0 True := ⟨trivial⟩
  rotate_left
  focus
    rw [if_neg c6] at H
    have c6b0 : (t624 == 0) = false := beq_eq_false_iff_ne.mpr c6
    have c6b1 : (t624 != 0) = true := bne_iff_ne.mpr c6
    simp only [Option.some.injEq, Prod.mk.injEq] at H
    obtain ⟨rfl, rfl, rfl, rfl⟩ := H
    have tag1_ : Aside0 True := ⟨trivial⟩
  rotate_left
  all_goals
    go_enter Try.func32, Try.ntmps32
    try go_wp2_with (first | ((with_reducible refine gate_dst (N := 2) rfl ?_); refine box_event ?hg (N := 2) ?hd (cs := #[.int .i64 0, .int .i64 0]) (t := 26) ?hr ?_; (case hd => rfl); (case hg => rfl); (case hr => first | (go_simp; done) | (go_simp; rfl)); intro gbq0 hg wq0 hbox hb; have nq0_ := Aside0.mk (below_step (by repeat (first | (with_reducible first | exact HB.out | apply below_alloc | apply pw_below_drewN | apply below_drew1) | exact HB.out)) hb); have nq1_ := Aside0.mk (hbox); have nq2_ := Aside0.mk ((by rw [hg]; exact (below_size (by repeat (first | (with_reducible first | exact HB.out | apply below_alloc | apply pw_below_drewN | apply below_drew1) | exact HB.out))) : w.heap.size ≤ gbq0)); have nq3_ := Aside0.mk ((by rw [hg]; exact (below_size (by repeat (first | (with_reducible first | exact HB.out | apply below_alloc | apply pw_below_drewN | apply below_drew1) | exact HB.out))) : w.heap.size ≤ gbq0)); clear HB; have HB := nq0_; have BKq0 := nq1_; have GWq0 := nq2_; have GEq0 := nq3_; clear nq0_ nq1_ nq2_ nq3_; clear hb hbox hg) | ((with_reducible refine gate_dst (N := 3) rfl ?_); refine box_event ?hg (N := 3) ?hd (cs := #[.int .i64 0, .int .i64 0]) (t := 26) ?hr ?_; (case hd => rfl); (case hg => rfl); (case hr => first | (go_simp; done) | (go_simp; rfl)); intro gbq1 hg wq1 hbox hb; have nq0_ := Aside0.mk (blk_below (g := gbq0) (o := .cells #[.int .i64 0, .int .i64 0] 26 (0, 0)) (by (with_reducible repeat (first | refine blk_drewN ?_ _ | refine blk_drew ?_ | refine blk_alloc ?_ _)); exact BKq0.out) hb); have nq1_ := Aside0.mk (below_step (by repeat (first | (with_reducible first | exact HB.out | apply below_alloc | apply pw_below_drewN | apply below_drew1 | refine below_set ?_ GEq0.out) | exact HB.out)) hb); have nq2_ := Aside0.mk (hbox); have nq3_ := Aside0.mk ((by rw [hg]; exact (below_size (by repeat (first | (with_reducible first | exact HB.out | apply below_alloc | apply pw_below_drewN | apply below_drew1 | refine below_set ?_ GEq0.out) | exact HB.out))) : w.heap.size ≤ gbq1)); have nq4_ := Aside0.mk ((by rw [hg]; exact (below_size (by repeat (first | (with_reducible first | exact HB.out | apply below_alloc | apply pw_below_drewN | apply below_drew1 | refine below_set ?_ GEq0.out) | exact HB.out))) : w.heap.size ≤ gbq1)); have nq5_ := Aside0.mk ((by rw [hg]; exact Nat.ne_of_lt (blk_lt (g := gbq0) (o := .cells #[.int .i64 0, .int .i64 0] 26 (0, 0)) (by (with_reducible repeat (first | refine blk_drewN ?_ _ | refine blk_drew ?_ | refine blk_alloc ?_ _)); exact BKq0.out)) : gbq0 ≠ gbq1)); have nq6_ := Aside0.mk ((by rw [hg]; exact Nat.ne_of_gt (blk_lt (g := gbq0) (o := .cells #[.int .i64 0, .int .i64 0] 26 (0, 0)) (by (with_reducible repeat (first | refine blk_drewN ?_ _ | refine blk_drew ?_ | refine blk_alloc ?_ _)); exact BKq0.out)) : gbq1 ≠ gbq0)); clear BKq0; clear HB; have BKq0 := nq0_; have HB := nq1_; have BKq1 := nq2_; have GWq1 := nq3_; have GEq1 := nq4_; have NBq0_612 := nq5_; have NBq1_611 := nq6_; clear nq0_ nq1_ nq2_ nq3_ nq4_ nq5_ nq6_; clear hb hbox hg) | ((with_reducible refine gate_callee (f := 72) rfl ?_); refine goesL_ (some 8) rfl rfl Try.func72 (by kernel_rfl) rfl #[.slice A0 l0.length c0] rfl (by (try simp only [List.map_toArray, List.map_cons, List.map_nil]); first | done | rfl | (simp only [List.length_drop, List.length_take]; rfl)) ?_; (with_reducible refine (spec_l6Open.calls _ _ l0 t613 t614 w _ ?side1 ?side2 ?side3 A2.out).mono ?_); (case side1 => repeat (first | (with_reducible first | exact HB.out | apply below_alloc | apply pw_below_drewN | apply below_drew1 | refine below_set ?_ GEq0.out | refine below_set ?_ GEq1.out) | exact HB.out)); (case side2 => exact HR0.out); (case side3 => exact HC0.out); rintro e wq2 ⟨gq0, rfl, hi, hb, hbq0⟩; refine ⟨_, rfl, ?_⟩; have nq0_ := Aside0.mk (blk_below (g := gbq0) (o := .cells #[.int .i64 0, .int .i64 0] 26 (0, 0)) (by (with_reducible repeat (first | refine blk_drewN ?_ _ | refine blk_drew ?_ | refine blk_alloc ?_ _)); exact BKq0.out) hbq0); have nq1_ := Aside0.mk (blk_below (g := gbq1) (o := .cells #[.int .i64 0, .int .i64 0] 26 (0, 0)) (by (with_reducible repeat (first | refine blk_drewN ?_ _ | refine blk_drew ?_ | refine blk_alloc ?_ _)); exact BKq1.out) hbq0); have nq2_ := Aside0.mk (hb); have nq3_ := Aside0.mk (hi); have nq4_ := Aside0.mk (IsS105.ne_blk hi (blk_below (g := gbq0) (o := .cells #[.int .i64 0, .int .i64 0] 26 (0, 0)) (by (with_reducible repeat (first | refine blk_drewN ?_ _ | refine blk_drew ?_ | refine blk_alloc ?_ _)); exact BKq0.out) hbq0) (by decide)); have nq5_ := Aside0.mk (Ne.symm (IsS105.ne_blk hi (blk_below (g := gbq0) (o := .cells #[.int .i64 0, .int .i64 0] 26 (0, 0)) (by (with_reducible repeat (first | refine blk_drewN ?_ _ | refine blk_drew ?_ | refine blk_alloc ?_ _)); exact BKq0.out) hbq0) (by decide))); have nq6_ := Aside0.mk (IsS105.ne_blk hi (blk_below (g := gbq1) (o := .cells #[.int .i64 0, .int .i64 0] 26 (0, 0)) (by (with_reducible repeat (first | refine blk_drewN ?_ _ | refine blk_drew ?_ | refine blk_alloc ?_ _)); exact BKq1.out) hbq0) (by decide)); have nq7_ := Aside0.mk (Ne.symm (IsS105.ne_blk hi (blk_below (g := gbq1) (o := .cells #[.int .i64 0, .int .i64 0] 26 (0, 0)) (by (with_reducible repeat (first | refine blk_drewN ?_ _ | refine blk_drew ?_ | refine blk_alloc ?_ _)); exact BKq1.out) hbq0) (by decide))); clear BKq0; clear BKq1; clear HB; have BKq0 := nq0_; have BKq1 := nq1_; have HB := nq2_; have HIq0 := nq3_; have NBq2_611 := nq4_; have NBq0_615 := nq5_; have NBq2_612 := nq6_; have NBq1_615 := nq7_; clear nq0_ nq1_ nq2_ nq3_ nq4_ nq5_ nq6_ nq7_; (try clear hb); (try clear hbq0); (try clear hk); (try clear hi)) | ((with_reducible refine gate_callee (f := 71) rfl ?_); refine goesL_ (some 10) rfl rfl Try.func71 (by kernel_rfl) rfl #[.pointer (some ⟨gq0, 0, none⟩)] rfl (by (try simp only [List.map_toArray, List.map_cons, List.map_nil]); first | done | rfl | (simp only [List.length_drop, List.length_take]; rfl)) ?_; (with_reducible refine (spec_l71Odd.calls k gq0 t613 t614 t616 t617 t618 w _ ?side1 ?side2 A3.out).mono ?_); (case side1 => repeat (first | (with_reducible first | exact HIq0.out | apply IsS105.alloc | apply IsS105.drewN | apply IsS105.drew | apply IsS105.set_1 | refine IsS105.far ?_ NBq2_611.out _ | refine IsS105.far ?_ NBq2_612.out _) | exact HIq0.out)); (case side2 => repeat (first | (with_reducible first | exact HB.out | apply below_alloc | apply pw_below_drewN | apply below_drew1 | refine below_set ?_ (IsS105.ge HIq0.out) | refine below_set ?_ GEq0.out | refine below_set ?_ GEq1.out) | exact HB.out)); rintro e wq3 ⟨rfl, hi, hb, hk⟩; refine ⟨_, rfl, ?_⟩; have nq0_ := Aside0.mk (KeepBut.blk hk (g' := gbq0) (o := .cells #[.int .i64 0, .int .i64 0] 26 (0, 0)) (by (with_reducible repeat (first | refine blk_drewN ?_ _ | refine blk_drew ?_ | refine blk_alloc ?_ _)); exact BKq0.out) NBq0_615.out (by simp)); have nq1_ := Aside0.mk (KeepBut.blk hk (g' := gbq1) (o := .cells #[.int .i64 0, .int .i64 0] 26 (0, 0)) (by (with_reducible repeat (first | refine blk_drewN ?_ _ | refine blk_drew ?_ | refine blk_alloc ?_ _)); exact BKq1.out) NBq1_615.out (by simp)); have nq2_ := Aside0.mk (hb); have nq3_ := Aside0.mk (hi); clear BKq0; clear BKq1; clear HB; clear HIq0; have BKq0 := nq0_; have BKq1 := nq1_; have HB := nq2_; have HIq0 := nq3_; clear nq0_ nq1_ nq2_ nq3_; (try clear hb); (try clear hbq0); (try clear hk); (try clear hi)) | ((with_reducible refine gate_dst (N := 5) rfl ?_); refine box_event ?hg (N := 5) ?hd (cs := #[.int .i64 0, .int .i64 0]) (t := 26) ?hr ?_; (case hd => rfl); (case hg => rfl); (case hr => first | (go_simp; done) | (go_simp; rfl)); intro gbq2 hg wq4 hbox hb; have nq0_ := Aside0.mk (blk_below (g := gbq0) (o := .cells #[.int .i64 0, .int .i64 0] 26 (0, 0)) (by (with_reducible repeat (first | refine blk_drewN ?_ _ | refine blk_drew ?_ | refine blk_alloc ?_ _)); exact BKq0.out) hb); have nq1_ := Aside0.mk (blk_below (g := gbq1) (o := .cells #[.int .i64 0, .int .i64 0] 26 (0, 0)) (by (with_reducible repeat (first | refine blk_drewN ?_ _ | refine blk_drew ?_ | refine blk_alloc ?_ _)); exact BKq1.out) hb); have nq2_ := Aside0.mk (IsS105.below (by repeat (first | (with_reducible first | exact HIq0.out | apply IsS105.alloc | apply IsS105.drewN | apply IsS105.drew | apply IsS105.set_1 | refine IsS105.far ?_ NBq2_611.out _ | refine IsS105.far ?_ NBq2_612.out _) | exact HIq0.out)) hb); have nq3_ := Aside0.mk (below_step (by repeat (first | (with_reducible first | exact HB.out | apply below_alloc | apply pw_below_drewN | apply below_drew1 | refine below_set ?_ (IsS105.ge HIq0.out) | refine below_set ?_ GEq0.out | refine below_set ?_ GEq1.out) | exact HB.out)) hb); have nq4_ := Aside0.mk (hbox); have nq5_ := Aside0.mk ((by rw [hg]; exact (below_size (by repeat (first | (with_reducible first | exact HB.out | apply below_alloc | apply pw_below_drewN | apply below_drew1 | refine below_set ?_ (IsS105.ge HIq0.out) | refine below_set ?_ GEq0.out | refine below_set ?_ GEq1.out) | exact HB.out))) : w.heap.size ≤ gbq2)); have nq6_ := Aside0.mk ((by rw [hg]; exact (below_size (by repeat (first | (with_reducible first | exact HB.out | apply below_alloc | apply pw_below_drewN | apply below_drew1 | refine below_set ?_ (IsS105.ge HIq0.out) | refine below_set ?_ GEq0.out | refine below_set ?_ GEq1.out) | exact HB.out))) : w.heap.size ≤ gbq2)); have nq7_ := Aside0.mk ((by rw [hg]; exact Nat.ne_of_lt (blk_lt (g := gbq0) (o := .cells #[.int .i64 0, .int .i64 0] 26 (0, 0)) (by (with_reducible repeat (first | refine blk_drewN ?_ _ | refine blk_drew ?_ | refine blk_alloc ?_ _)); exact BKq0.out)) : gbq0 ≠ gbq2)); have nq8_ := Aside0.mk ((by rw [hg]; exact Nat.ne_of_gt (blk_lt (g := gbq0) (o := .cells #[.int .i64 0, .int .i64 0] 26 (0, 0)) (by (with_reducible repeat (first | refine blk_drewN ?_ _ | refine blk_drew ?_ | refine blk_alloc ?_ _)); exact BKq0.out)) : gbq2 ≠ gbq0)); have nq9_ := Aside0.mk ((by rw [hg]; exact Nat.ne_of_lt (blk_lt (g := gbq1) (o := .cells #[.int .i64 0, .int .i64 0] 26 (0, 0)) (by (with_reducible repeat (first | refine blk_drewN ?_ _ | refine blk_drew ?_ | refine blk_alloc ?_ _)); exact BKq1.out)) : gbq1 ≠ gbq2)); have nq10_ := Aside0.mk ((by rw [hg]; exact Nat.ne_of_gt (blk_lt (g := gbq1) (o := .cells #[.int .i64 0, .int .i64 0] 26 (0, 0)) (by (with_reducible repeat (first | refine blk_drewN ?_ _ | refine blk_drew ?_ | refine blk_alloc ?_ _)); exact BKq1.out)) : gbq2 ≠ gbq1)); have nq11_ := Aside0.mk ((by rw [hg]; exact Nat.ne_of_lt (IsS105.lt (show IsS105 w _ gq0 t613 t618 from by repeat (first | (with_reducible first | exact HIq0.out | apply IsS105.alloc | apply IsS105.drewN | apply IsS105.drew | apply IsS105.set_1 | refine IsS105.far ?_ NBq2_611.out _ | refine IsS105.far ?_ NBq2_612.out _) | exact HIq0.out))) : gq0 ≠ gbq2)); have nq12_ := Aside0.mk ((by rw [hg]; exact Nat.ne_of_gt (IsS105.lt (show IsS105 w _ gq0 t613 t618 from by repeat (first | (with_reducible first | exact HIq0.out | apply IsS105.alloc | apply IsS105.drewN | apply IsS105.drew | apply IsS105.set_1 | refine IsS105.far ?_ NBq2_611.out _ | refine IsS105.far ?_ NBq2_612.out _) | exact HIq0.out))) : gbq2 ≠ gq0)); clear BKq0; clear BKq1; clear HIq0; clear HB; have BKq0 := nq0_; have BKq1 := nq1_; have HIq0 := nq2_; have HB := nq3_; have BKq2 := nq4_; have GWq2 := nq5_; have GEq2 := nq6_; have NBq0_619 := nq7_; have NBq3_611 := nq8_; have NBq1_619 := nq9_; have NBq3_612 := nq10_; have NBq2_619 := nq11_; have NBq3_615 := nq12_; clear nq0_ nq1_ nq2_ nq3_ nq4_ nq5_ nq6_ nq7_ nq8_ nq9_ nq10_ nq11_ nq12_; clear hb hbox hg; have hnbq0 := NBq3_611.out; have hncq0 := NBq0_619.out; have hnbq1 := NBq3_612.out; have hncq1 := NBq1_619.out; have hnbq2 := NBq3_615.out; have hncq2 := NBq2_619.out; have hczq0_0 : wq4.cell? ⟨gbq2, 0, none⟩ = some (.int .i64 0) := (blk_cell BKq2.out 0).trans rfl; have hczq0_1 : wq4.cell? ⟨gbq2, 1, none⟩ = some (.int .i64 0) := (blk_cell BKq2.out 1).trans rfl; have hfzq0_0 := blk_frozen BKq2.out 0; have hfzq0_1 := blk_frozen BKq2.out 1) | ((with_reducible refine gate_callee (f := 71) rfl ?_); refine goesL_ (some 12) rfl rfl Try.func71 (by kernel_rfl) rfl #[.pointer (some ⟨gq0, 0, none⟩)] rfl (by (try simp only [List.map_toArray, List.map_cons, List.map_nil]); first | done | rfl | (simp only [List.length_drop, List.length_take]; rfl)) ?_; (with_reducible refine (spec_l71Odd.calls k gq0 t613 t618 t620 t621 t622 w _ ?side1 ?side2 A4.out).mono ?_); (case side1 => repeat (first | (with_reducible first | exact HIq0.out | apply IsS105.alloc | apply IsS105.drewN | apply IsS105.drew | apply IsS105.set_1 | refine IsS105.far ?_ NBq2_611.out _ | refine IsS105.far ?_ NBq2_612.out _ | refine IsS105.far ?_ NBq2_619.out _) | exact HIq0.out)); (case side2 => repeat (first | (with_reducible first | exact HB.out | apply below_alloc | apply pw_below_drewN | apply below_drew1 | refine below_set ?_ (IsS105.ge HIq0.out) | refine below_set ?_ GEq0.out | refine below_set ?_ GEq1.out | refine below_set ?_ GEq2.out) | exact HB.out)); rintro e wq5 ⟨rfl, hi, hb, hk⟩; refine ⟨_, rfl, ?_⟩; have nq0_ := Aside0.mk (KeepBut.blk hk (g' := gbq0) (o := .cells #[.int .i64 0, .int .i64 0] 26 (0, 0)) (by (with_reducible repeat (first | refine blk_drewN ?_ _ | refine blk_drew ?_ | refine blk_alloc ?_ _)); refine blk_far ?_ NBq0_619.out _; (with_reducible repeat (first | refine blk_drewN ?_ _ | refine blk_drew ?_ | refine blk_alloc ?_ _)); refine blk_far ?_ NBq0_619.out _; (with_reducible repeat (first | refine blk_drewN ?_ _ | refine blk_drew ?_ | refine blk_alloc ?_ _)); exact BKq0.out) NBq0_615.out (by simp)); have nq1_ := Aside0.mk (KeepBut.blk hk (g' := gbq1) (o := .cells #[.int .i64 0, .int .i64 0] 26 (0, 0)) (by (with_reducible repeat (first | refine blk_drewN ?_ _ | refine blk_drew ?_ | refine blk_alloc ?_ _)); refine blk_far ?_ NBq1_619.out _; (with_reducible repeat (first | refine blk_drewN ?_ _ | refine blk_drew ?_ | refine blk_alloc ?_ _)); refine blk_far ?_ NBq1_619.out _; (with_reducible repeat (first | refine blk_drewN ?_ _ | refine blk_drew ?_ | refine blk_alloc ?_ _)); exact BKq1.out) NBq1_615.out (by simp)); have nq2_ := Aside0.mk (KeepBut.blk hk (g' := gbq2) (o := .cells #[.int .i64 t616, .int .i64 t617] 26 (0, 0)) (by (with_reducible repeat (first | refine blk_drewN ?_ _ | refine blk_drew ?_ | refine blk_alloc ?_ _)); refine blk_put (cs := #[.int .i64 t616, .int .i64 0]) ?_ 1 _ rfl; (with_reducible repeat (first | refine blk_drewN ?_ _ | refine blk_drew ?_ | refine blk_alloc ?_ _)); refine blk_put (cs := #[.int .i64 0, .int .i64 0]) ?_ 0 _ rfl; (with_reducible repeat (first | refine blk_drewN ?_ _ | refine blk_drew ?_ | refine blk_alloc ?_ _)); exact BKq2.out) NBq3_615.out (by simp)); have nq3_ := Aside0.mk (hb); have nq4_ := Aside0.mk (hi); clear BKq0; clear BKq1; clear BKq2; clear HB; clear HIq0; have BKq0 := nq0_; have BKq1 := nq1_; have BKq2 := nq2_; have HB := nq3_; have HIq0 := nq4_; clear nq0_ nq1_ nq2_ nq3_ nq4_; (try clear hb); (try clear hbq0); (try clear hk); (try clear hi)) | ((with_reducible refine gate_dst (N := 6) rfl ?_); refine box_event ?hg (N := 6) ?hd (cs := #[.int .i64 0, .int .i64 0]) (t := 26) ?hr ?_; (case hd => rfl); (case hg => rfl); (case hr => first | (go_simp; done) | (go_simp; rfl)); intro gbq3 hg wq6 hbox hb; have nq0_ := Aside0.mk (blk_below (g := gbq0) (o := .cells #[.int .i64 0, .int .i64 0] 26 (0, 0)) (by (with_reducible repeat (first | refine blk_drewN ?_ _ | refine blk_drew ?_ | refine blk_alloc ?_ _)); exact BKq0.out) hb); have nq1_ := Aside0.mk (blk_below (g := gbq1) (o := .cells #[.int .i64 0, .int .i64 0] 26 (0, 0)) (by (with_reducible repeat (first | refine blk_drewN ?_ _ | refine blk_drew ?_ | refine blk_alloc ?_ _)); exact BKq1.out) hb); have nq2_ := Aside0.mk (IsS105.below (by repeat (first | (with_reducible first | exact HIq0.out | apply IsS105.alloc | apply IsS105.drewN | apply IsS105.drew | apply IsS105.set_1 | refine IsS105.far ?_ NBq2_611.out _ | refine IsS105.far ?_ NBq2_612.out _ | refine IsS105.far ?_ NBq2_619.out _) | exact HIq0.out)) hb); have nq3_ := Aside0.mk (blk_below (g := gbq2) (o := .cells #[.int .i64 t616, .int .i64 t617] 26 (0, 0)) (by (with_reducible repeat (first | refine blk_drewN ?_ _ | refine blk_drew ?_ | refine blk_alloc ?_ _)); exact BKq2.out) hb); have nq4_ := Aside0.mk (below_step (by repeat (first | (with_reducible first | exact HB.out | apply below_alloc | apply pw_below_drewN | apply below_drew1 | refine below_set ?_ (IsS105.ge HIq0.out) | refine below_set ?_ GEq0.out | refine below_set ?_ GEq1.out | refine below_set ?_ GEq2.out) | exact HB.out)) hb); have nq5_ := Aside0.mk (hbox); have nq6_ := Aside0.mk ((by rw [hg]; exact (below_size (by repeat (first | (with_reducible first | exact HB.out | apply below_alloc | apply pw_below_drewN | apply below_drew1 | refine below_set ?_ (IsS105.ge HIq0.out) | refine below_set ?_ GEq0.out | refine below_set ?_ GEq1.out | refine below_set ?_ GEq2.out) | exact HB.out))) : w.heap.size ≤ gbq3)); have nq7_ := Aside0.mk ((by rw [hg]; exact (below_size (by repeat (first | (with_reducible first | exact HB.out | apply below_alloc | apply pw_below_drewN | apply below_drew1 | refine below_set ?_ (IsS105.ge HIq0.out) | refine below_set ?_ GEq0.out | refine below_set ?_ GEq1.out | refine below_set ?_ GEq2.out) | exact HB.out))) : w.heap.size ≤ gbq3)); have nq8_ := Aside0.mk ((by rw [hg]; exact Nat.ne_of_lt (blk_lt (g := gbq0) (o := .cells #[.int .i64 0, .int .i64 0] 26 (0, 0)) (by (with_reducible repeat (first | refine blk_drewN ?_ _ | refine blk_drew ?_ | refine blk_alloc ?_ _)); exact BKq0.out)) : gbq0 ≠ gbq3)); have nq9_ := Aside0.mk ((by rw [hg]; exact Nat.ne_of_gt (blk_lt (g := gbq0) (o := .cells #[.int .i64 0, .int .i64 0] 26 (0, 0)) (by (with_reducible repeat (first | refine blk_drewN ?_ _ | refine blk_drew ?_ | refine blk_alloc ?_ _)); exact BKq0.out)) : gbq3 ≠ gbq0)); have nq10_ := Aside0.mk ((by rw [hg]; exact Nat.ne_of_lt (blk_lt (g := gbq1) (o := .cells #[.int .i64 0, .int .i64 0] 26 (0, 0)) (by (with_reducible repeat (first | refine blk_drewN ?_ _ | refine blk_drew ?_ | refine blk_alloc ?_ _)); exact BKq1.out)) : gbq1 ≠ gbq3)); have nq11_ := Aside0.mk ((by rw [hg]; exact Nat.ne_of_gt (blk_lt (g := gbq1) (o := .cells #[.int .i64 0, .int .i64 0] 26 (0, 0)) (by (with_reducible repeat (first | refine blk_drewN ?_ _ | refine blk_drew ?_ | refine blk_alloc ?_ _)); exact BKq1.out)) : gbq3 ≠ gbq1)); have nq12_ := Aside0.mk ((by rw [hg]; exact Nat.ne_of_lt (blk_lt (g := gbq2) (o := .cells #[.int .i64 t616, .int .i64 t617] 26 (0, 0)) (by (with_reducible repeat (first | refine blk_drewN ?_ _ | refine blk_drew ?_ | refine blk_alloc ?_ _)); exact BKq2.out)) : gbq2 ≠ gbq3)); have nq13_ := Aside0.mk ((by rw [hg]; exact Nat.ne_of_gt (blk_lt (g := gbq2) (o := .cells #[.int .i64 t616, .int .i64 t617] 26 (0, 0)) (by (with_reducible repeat (first | refine blk_drewN ?_ _ | refine blk_drew ?_ | refine blk_alloc ?_ _)); exact BKq2.out)) : gbq3 ≠ gbq2)); have nq14_ := Aside0.mk ((by rw [hg]; exact Nat.ne_of_lt (IsS105.lt (show IsS105 w _ gq0 t613 t622 from by repeat (first | (with_reducible first | exact HIq0.out | apply IsS105.alloc | apply IsS105.drewN | apply IsS105.drew | apply IsS105.set_1 | refine IsS105.far ?_ NBq2_611.out _ | refine IsS105.far ?_ NBq2_612.out _ | refine IsS105.far ?_ NBq2_619.out _) | exact HIq0.out))) : gq0 ≠ gbq3)); have nq15_ := Aside0.mk ((by rw [hg]; exact Nat.ne_of_gt (IsS105.lt (show IsS105 w _ gq0 t613 t622 from by repeat (first | (with_reducible first | exact HIq0.out | apply IsS105.alloc | apply IsS105.drewN | apply IsS105.drew | apply IsS105.set_1 | refine IsS105.far ?_ NBq2_611.out _ | refine IsS105.far ?_ NBq2_612.out _ | refine IsS105.far ?_ NBq2_619.out _) | exact HIq0.out))) : gbq3 ≠ gq0)); clear BKq0; clear BKq1; clear HIq0; clear BKq2; clear HB; have BKq0 := nq0_; have BKq1 := nq1_; have HIq0 := nq2_; have BKq2 := nq3_; have HB := nq4_; have BKq3 := nq5_; have GWq3 := nq6_; have GEq3 := nq7_; have NBq0_623 := nq8_; have NBq4_611 := nq9_; have NBq1_623 := nq10_; have NBq4_612 := nq11_; have NBq3_623 := nq12_; have NBq4_619 := nq13_; have NBq2_623 := nq14_; have NBq4_615 := nq15_; clear nq0_ nq1_ nq2_ nq3_ nq4_ nq5_ nq6_ nq7_ nq8_ nq9_ nq10_ nq11_ nq12_ nq13_ nq14_ nq15_; clear hb hbox hg; have hnbq3 := NBq4_611.out; have hncq3 := NBq0_623.out; have hnbq4 := NBq4_612.out; have hncq4 := NBq1_623.out; have hnbq5 := NBq4_619.out; have hncq5 := NBq3_623.out; have hnbq6 := NBq4_615.out; have hncq6 := NBq2_623.out; have hczq1_0 : wq6.cell? ⟨gbq3, 0, none⟩ = some (.int .i64 0) := (blk_cell BKq3.out 0).trans rfl; have hczq1_1 : wq6.cell? ⟨gbq3, 1, none⟩ = some (.int .i64 0) := (blk_cell BKq3.out 1).trans rfl; have hfzq1_0 := blk_frozen BKq3.out 0; have hfzq1_1 := blk_frozen BKq3.out 1) | ((with_reducible refine gate_callee (f := 73) rfl ?_); refine goesL_ (some 14) rfl rfl Try.func73 (by kernel_rfl) rfl #[.pointer (some ⟨gq0, 0, none⟩), .int .i64 3] rfl (by (try simp only [List.map_toArray, List.map_cons, List.map_nil]); first | done | rfl | (simp only [List.length_drop, List.length_take]; rfl)) ?_; (with_reducible refine (spec_l6Rd_pick.calls k gq0 t613 t622 3 t624 t625 w _ ?side1 ?side2 A5.out).mono ?_); (case side1 => repeat (first | (with_reducible first | exact HIq0.out | apply IsS105.alloc | apply IsS105.drewN | apply IsS105.drew | apply IsS105.set_1 | refine IsS105.far ?_ NBq2_611.out _ | refine IsS105.far ?_ NBq2_612.out _ | refine IsS105.far ?_ NBq2_619.out _ | refine IsS105.far ?_ NBq2_623.out _) | exact HIq0.out)); (case side2 => repeat (first | (with_reducible first | exact HB.out | apply below_alloc | apply pw_below_drewN | apply below_drew1 | refine below_set ?_ (IsS105.ge HIq0.out) | refine below_set ?_ GEq0.out | refine below_set ?_ GEq1.out | refine below_set ?_ GEq2.out | refine below_set ?_ GEq3.out) | exact HB.out)); rintro e wq7 ⟨rfl, hi, hb, hk⟩; refine ⟨_, rfl, ?_⟩; have nq0_ := Aside0.mk (KeepBut.blk hk (g' := gbq0) (o := .cells #[.int .i64 0, .int .i64 0] 26 (0, 0)) (by (with_reducible repeat (first | refine blk_drewN ?_ _ | refine blk_drew ?_ | refine blk_alloc ?_ _)); refine blk_far ?_ NBq0_623.out _; (with_reducible repeat (first | refine blk_drewN ?_ _ | refine blk_drew ?_ | refine blk_alloc ?_ _)); refine blk_far ?_ NBq0_623.out _; (with_reducible repeat (first | refine blk_drewN ?_ _ | refine blk_drew ?_ | refine blk_alloc ?_ _)); exact BKq0.out) NBq0_615.out (by simp)); have nq1_ := Aside0.mk (KeepBut.blk hk (g' := gbq1) (o := .cells #[.int .i64 0, .int .i64 0] 26 (0, 0)) (by (with_reducible repeat (first | refine blk_drewN ?_ _ | refine blk_drew ?_ | refine blk_alloc ?_ _)); refine blk_far ?_ NBq1_623.out _; (with_reducible repeat (first | refine blk_drewN ?_ _ | refine blk_drew ?_ | refine blk_alloc ?_ _)); refine blk_far ?_ NBq1_623.out _; (with_reducible repeat (first | refine blk_drewN ?_ _ | refine blk_drew ?_ | refine blk_alloc ?_ _)); exact BKq1.out) NBq1_615.out (by simp)); have nq2_ := Aside0.mk (KeepBut.blk hk (g' := gbq2) (o := .cells #[.int .i64 t616, .int .i64 t617] 26 (0, 0)) (by (with_reducible repeat (first | refine blk_drewN ?_ _ | refine blk_drew ?_ | refine blk_alloc ?_ _)); refine blk_far ?_ NBq3_623.out _; (with_reducible repeat (first | refine blk_drewN ?_ _ | refine blk_drew ?_ | refine blk_alloc ?_ _)); refine blk_far ?_ NBq3_623.out _; (with_reducible repeat (first | refine blk_drewN ?_ _ | refine blk_drew ?_ | refine blk_alloc ?_ _)); exact BKq2.out) NBq3_615.out (by simp)); have nq3_ := Aside0.mk (KeepBut.blk hk (g' := gbq3) (o := .cells #[.int .i64 t620, .int .i64 t621] 26 (0, 0)) (by (with_reducible repeat (first | refine blk_drewN ?_ _ | refine blk_drew ?_ | refine blk_alloc ?_ _)); refine blk_put (cs := #[.int .i64 t620, .int .i64 0]) ?_ 1 _ rfl; (with_reducible repeat (first | refine blk_drewN ?_ _ | refine blk_drew ?_ | refine blk_alloc ?_ _)); refine blk_put (cs := #[.int .i64 0, .int .i64 0]) ?_ 0 _ rfl; (with_reducible repeat (first | refine blk_drewN ?_ _ | refine blk_drew ?_ | refine blk_alloc ?_ _)); exact BKq3.out) NBq4_615.out (by simp)); have nq4_ := Aside0.mk (hb); have nq5_ := Aside0.mk (hi); clear BKq0; clear BKq1; clear BKq2; clear BKq3; clear HB; clear HIq0; have BKq0 := nq0_; have BKq1 := nq1_; have BKq2 := nq2_; have BKq3 := nq3_; have HB := nq4_; have HIq0 := nq5_; clear nq0_ nq1_ nq2_ nq3_ nq4_ nq5_; (try clear hb); (try clear hbq0); (try clear hk); (try clear hi)))
    have nq0_ := Aside0.mk (blk_drew BKq0.out)
    have nq1_ := Aside0.mk (blk_drew BKq1.out)
    have nq2_ := Aside0.mk (blk_drew BKq2.out)
    have nq3_ := Aside0.mk (blk_drew BKq3.out)
    have nq4_ := Aside0.mk (IsS105.drew HIq0.out)
    have nq5_ := Aside0.mk (below_drew1 HB.out)
    clear BKq0
    clear BKq1
    clear BKq2
    clear BKq3
    clear HIq0
    clear HB
    have BKq0 := nq0_
    have BKq1 := nq1_
    have BKq2 := nq2_
    have BKq3 := nq3_
    have HIq0 := nq4_
    have HB := nq5_
    clear nq0_ nq1_ nq2_ nq3_ nq4_ nq5_
    first
    | ((have z_ := tag0_; clear z_)
       refine start_ (n := 6) (S := fun w' => w'.cell? ⟨gbq2, 0, none⟩ = some (.int .i64 t616) ∧ w'.cell? ⟨gbq2, 1, none⟩ = some (.int .i64 t617) ∧ w'.cell? ⟨gbq3, 0, none⟩ = some (.int .i64 t620) ∧ w'.cell? ⟨gbq3, 1, none⟩ = some (.int .i64 t621)) (ds := []) #[false, false, false, false, false, false] (by kernel_rfl) rfl rfl ⟨(blk_cell BKq2.out 0).trans rfl, (blk_cell BKq2.out 1).trans rfl, (blk_cell BKq3.out 0).trans rfl, (blk_cell BKq3.out 1).trans rfl⟩ (fun hHeld => ?_)
       generalize wq7.drew = wq8 at BKq0 BKq1 BKq2 BKq3 HIq0 HB hHeld ⊢
       refine take_ (i := 0) (N := some 16) (v := ?_) (a' := ?_) #[true, false, false, false, false, false] rfl rfl (by kernel_rfl) (fun _ _ _ h => h) (Or.inl ⟨by rfl, ?_⟩) hHeld ?_ ?_
       rotate_left
       · rintro w' ⟨sq0, sq1, sq2, sq3⟩
         go_simp
         with_reducible rfl
       rotate_left
       · simp only [Act.put, List.setIfInBounds_toArray, List.set_cons_zero, List.set_cons_succ, i64_w, i32_w]
         rfl
       refine take_ (i := 1) (N := some 17) (v := ?_) (a' := ?_) #[true, true, false, false, false, false] rfl rfl (by kernel_rfl) (fun _ _ _ h => h) (Or.inl ⟨by rfl, ?_⟩) hHeld ?_ ?_
       rotate_left
       · rintro w' ⟨sq0, sq1, sq2, sq3⟩
         go_simp
         with_reducible rfl
       rotate_left
       · simp only [Act.put, List.setIfInBounds_toArray, List.set_cons_zero, List.set_cons_succ, i64_w, i32_w]
         rfl
       refine take_ (i := 2) (N := some 18) (v := ?_) (a' := ?_) #[true, true, true, false, false, false] rfl rfl (by kernel_rfl) (fun _ _ _ h => h) (Or.inl ⟨by rfl, ?_⟩) hHeld ?_ ?_
       rotate_left
       · rintro w' ⟨sq0, sq1, sq2, sq3⟩
         go_simp
         with_reducible rfl
       rotate_left
       · simp only [Act.put, List.setIfInBounds_toArray, List.set_cons_zero, List.set_cons_succ, i64_w, i32_w]
         rfl
       refine one_ (i := 3) (N := some 19) #[true, true, true, true, false, false] rfl rfl (by kernel_rfl) (by decide) (fun K hK => ?_)
       refine goes_ Try.func26 (by kernel_rfl) rfl #[.agg #[.int .i64 t616, .int .i64 t617], .agg #[.int .i64 t620, .int .i64 t621]] (by rfl) rfl rfl (by (try simp only [List.map_toArray, List.map_cons, List.map_nil]); first | done | rfl | (simp only [List.length_drop, List.length_take]; rfl)) ?_
       with_reducible refine (spec_LabelBoth.calls k t616 t617 t620 t621 t626 t627 _ A7.out).mono ?_
       rintro e wq9 ⟨rfl, hb⟩
       refine ⟨_, rfl, ?_⟩
       have nq0_ := Aside0.mk (blk_below (g := gbq0) (o := .cells #[.int .i64 0, .int .i64 0] 26 (0, 0)) (by (with_reducible repeat (first | refine blk_drewN ?_ _ | refine blk_drew ?_ | refine blk_alloc ?_ _)); exact BKq0.out) hb)
       have nq1_ := Aside0.mk (blk_below (g := gbq1) (o := .cells #[.int .i64 0, .int .i64 0] 26 (0, 0)) (by (with_reducible repeat (first | refine blk_drewN ?_ _ | refine blk_drew ?_ | refine blk_alloc ?_ _)); exact BKq1.out) hb)
       have nq2_ := Aside0.mk (IsS105.below (by repeat (first | (with_reducible first | exact HIq0.out | apply IsS105.alloc | apply IsS105.drewN | apply IsS105.drew | apply IsS105.set_1 | refine IsS105.far ?_ NBq2_611.out _ | refine IsS105.far ?_ NBq2_612.out _ | refine IsS105.far ?_ NBq2_619.out _ | refine IsS105.far ?_ NBq2_623.out _) | exact HIq0.out)) hb)
       have nq3_ := Aside0.mk (blk_below (g := gbq2) (o := .cells #[.int .i64 t616, .int .i64 t617] 26 (0, 0)) (by (with_reducible repeat (first | refine blk_drewN ?_ _ | refine blk_drew ?_ | refine blk_alloc ?_ _)); exact BKq2.out) hb)
       have nq4_ := Aside0.mk (blk_below (g := gbq3) (o := .cells #[.int .i64 t620, .int .i64 t621] 26 (0, 0)) (by (with_reducible repeat (first | refine blk_drewN ?_ _ | refine blk_drew ?_ | refine blk_alloc ?_ _)); exact BKq3.out) hb)
       have nq5_ := Aside0.mk (below_step (by repeat (first | (with_reducible first | exact HB.out | apply below_alloc | apply pw_below_drewN | apply below_drew1 | refine below_set ?_ (IsS105.ge HIq0.out) | refine below_set ?_ GEq0.out | refine below_set ?_ GEq1.out | refine below_set ?_ GEq2.out | refine below_set ?_ GEq3.out) | exact HB.out)) hb)
       clear BKq0
       clear BKq1
       clear HIq0
       clear BKq2
       clear BKq3
       clear HB
       have BKq0 := nq0_
       have BKq1 := nq1_
       have HIq0 := nq2_
       have BKq2 := nq3_
       have BKq3 := nq4_
       have HB := nq5_
       clear nq0_ nq1_ nq2_ nq3_ nq4_ nq5_
       (try clear hb)
       (try clear hbq0)
       (try clear hk)
       (try clear hi)
       refine hK.out _ _ ⟨(blk_cell BKq2.out 0).trans rfl, (blk_cell BKq2.out 1).trans rfl, (blk_cell BKq3.out 0).trans rfl, (blk_cell BKq3.out 1).trans rfl⟩ (fun hHeld => ?_)
       clear hK K
       refine norm_ (a' := ?_) ?_ ?_
       rotate_left
       · show Act.put _ (some 19) _ = _
         simp only [Act.put, List.setIfInBounds_toArray, List.set_cons_zero, List.set_cons_succ, i64_w, i32_w]
         rfl
       refine one_ (i := 4) (N := none) #[true, true, true, true, true, false] rfl rfl (by kernel_rfl) (by decide) (fun K hK => ?_)
       have hsq0 : wq9.cell? ⟨gbq0, 0, none⟩ = some (.int .i64 0) := (blk_cell BKq0.out 0).trans rfl
       have hfsq0 := blk_frozen BKq0.out 0
       have hnsq0_1 := NBq1_611.out
       have hnsq0_2 := NBq3_611.out
       have hnsq0_3 := NBq4_611.out
       have hmsq0_1 := NBq0_612.out
       have hmsq0_2 := NBq0_619.out
       have hmsq0_3 := NBq0_623.out
       have hsq1 : wq9.cell? ⟨gbq0, 1, none⟩ = some (.int .i64 0) := (blk_cell BKq0.out 1).trans rfl
       have hfsq1 := blk_frozen BKq0.out 1
       have hnsq1_1 := NBq1_611.out
       have hnsq1_2 := NBq3_611.out
       have hnsq1_3 := NBq4_611.out
       have hmsq1_1 := NBq0_612.out
       have hmsq1_2 := NBq0_619.out
       have hmsq1_3 := NBq0_623.out
       refine skip_ (w1 := ?_) (by rfl) rfl ?_ ?_
       rotate_left
       · go_simp
         rfl
       refine hK.out _ _ ⟨((cell_far (p := ⟨gbq0, _, none⟩) NBq3_611.out _).trans (((cell_far (p := ⟨gbq0, _, none⟩) NBq3_611.out _).trans (hHeld.1)))), ((cell_far (p := ⟨gbq0, _, none⟩) NBq3_611.out _).trans (((cell_far (p := ⟨gbq0, _, none⟩) NBq3_611.out _).trans (hHeld.2.1)))), ((cell_far (p := ⟨gbq0, _, none⟩) NBq4_611.out _).trans (((cell_far (p := ⟨gbq0, _, none⟩) NBq4_611.out _).trans (hHeld.2.2.1)))), ((cell_far (p := ⟨gbq0, _, none⟩) NBq4_611.out _).trans (((cell_far (p := ⟨gbq0, _, none⟩) NBq4_611.out _).trans (hHeld.2.2.2))))⟩ (fun hHeld => ?_)
       clear hK K
       refine one_ (i := 5) (N := none) #[true, true, true, true, true, true] rfl rfl (by kernel_rfl) (by decide) (fun K hK => ?_)
       have hsq2 : wq9.cell? ⟨gbq1, 0, none⟩ = some (.int .i64 0) := (blk_cell BKq1.out 0).trans rfl
       have hfsq2 := blk_frozen BKq1.out 0
       have hnsq2_0 := NBq0_612.out
       have hnsq2_2 := NBq3_612.out
       have hnsq2_3 := NBq4_612.out
       have hmsq2_0 := NBq1_611.out
       have hmsq2_2 := NBq1_619.out
       have hmsq2_3 := NBq1_623.out
       have hsq3 : wq9.cell? ⟨gbq1, 1, none⟩ = some (.int .i64 0) := (blk_cell BKq1.out 1).trans rfl
       have hfsq3 := blk_frozen BKq1.out 1
       have hnsq3_0 := NBq0_612.out
       have hnsq3_2 := NBq3_612.out
       have hnsq3_3 := NBq4_612.out
       have hmsq3_0 := NBq1_611.out
       have hmsq3_2 := NBq1_619.out
       have hmsq3_3 := NBq1_623.out
       refine skip_ (w1 := ?_) (by rfl) rfl ?_ ?_
       rotate_left
       · go_simp
         rfl
       refine hK.out _ _ ⟨((cell_far (p := ⟨gbq1, _, none⟩) NBq3_612.out _).trans (((cell_far (p := ⟨gbq1, _, none⟩) NBq3_612.out _).trans (hHeld.1)))), ((cell_far (p := ⟨gbq1, _, none⟩) NBq3_612.out _).trans (((cell_far (p := ⟨gbq1, _, none⟩) NBq3_612.out _).trans (hHeld.2.1)))), ((cell_far (p := ⟨gbq1, _, none⟩) NBq4_612.out _).trans (((cell_far (p := ⟨gbq1, _, none⟩) NBq4_612.out _).trans (hHeld.2.2.1)))), ((cell_far (p := ⟨gbq1, _, none⟩) NBq4_612.out _).trans (((cell_far (p := ⟨gbq1, _, none⟩) NBq4_612.out _).trans (hHeld.2.2.2))))⟩ (fun hHeld => ?_)
       clear hK K
       refine done_ (by kernel_rfl) ?_
       try go_wp2
       refine bodyPost_ret (results_cc rfl _ _ gbq0 gbq1 26 26 #[.int .i64 t616, .int .i64 t617] #[.int .i64 t626, .int .i64 t627] (0, 0) (0, 0) _ _ rfl (by (with_reducible repeat (first | refine blk_drewN ?_ _ | refine blk_drew ?_ | refine blk_alloc ?_ _)); refine blk_far ?_ NBq0_612.out _; (with_reducible repeat (first | refine blk_drewN ?_ _ | refine blk_drew ?_ | refine blk_alloc ?_ _)); refine blk_far ?_ NBq0_612.out _; (with_reducible repeat (first | refine blk_drewN ?_ _ | refine blk_drew ?_ | refine blk_alloc ?_ _)); refine blk_put (cs := #[.int .i64 t616, .int .i64 0]) ?_ 1 _ rfl; (with_reducible repeat (first | refine blk_drewN ?_ _ | refine blk_drew ?_ | refine blk_alloc ?_ _)); refine blk_put (cs := #[.int .i64 0, .int .i64 0]) ?_ 0 _ rfl; (with_reducible repeat (first | refine blk_drewN ?_ _ | refine blk_drew ?_ | refine blk_alloc ?_ _)); exact BKq0.out) Try.underlying26 rfl (by kernel_rfl) rfl (by (with_reducible repeat (first | refine blk_drewN ?_ _ | refine blk_drew ?_ | refine blk_alloc ?_ _)); refine blk_put (cs := #[.int .i64 t626, .int .i64 0]) ?_ 1 _ rfl; (with_reducible repeat (first | refine blk_drewN ?_ _ | refine blk_drew ?_ | refine blk_alloc ?_ _)); refine blk_put (cs := #[.int .i64 0, .int .i64 0]) ?_ 0 _ rfl; (with_reducible repeat (first | refine blk_drewN ?_ _ | refine blk_drew ?_ | refine blk_alloc ?_ _)); refine blk_far ?_ NBq1_611.out _; (with_reducible repeat (first | refine blk_drewN ?_ _ | refine blk_drew ?_ | refine blk_alloc ?_ _)); refine blk_far ?_ NBq1_611.out _; (with_reducible repeat (first | refine blk_drewN ?_ _ | refine blk_drew ?_ | refine blk_alloc ?_ _)); exact BKq1.out) Try.underlying26 rfl (by kernel_rfl)) rfl ?_
       exact ⟨by first | rfl | (simp [errW_none, errW_some] <;> rfl) | (simp [*, errW_none, errW_some] <;> rfl), by repeat (first | (with_reducible first | exact HB.out | apply below_alloc | apply pw_below_drewN | apply below_drew1 | refine below_set ?_ (IsS105.ge HIq0.out) | refine below_set ?_ GEq0.out | refine below_set ?_ GEq1.out | refine below_set ?_ GEq2.out | refine below_set ?_ GEq3.out) | exact HB.out)⟩)
    | ((have z_ := tag1_; clear z_)
       refine start_ (n := 4) (S := fun w' => w'.cell? ⟨gbq2, 0, none⟩ = some (.int .i64 t616) ∧ w'.cell? ⟨gbq2, 1, none⟩ = some (.int .i64 t617) ∧ w'.cell? ⟨gbq3, 0, none⟩ = some (.int .i64 t620) ∧ w'.cell? ⟨gbq3, 1, none⟩ = some (.int .i64 t621)) (ds := []) #[false, false, false, false] (by kernel_rfl) rfl rfl ⟨(blk_cell BKq2.out 0).trans rfl, (blk_cell BKq2.out 1).trans rfl, (blk_cell BKq3.out 0).trans rfl, (blk_cell BKq3.out 1).trans rfl⟩ (fun hHeld => ?_)
       generalize wq7.drew = wq8 at BKq0 BKq1 BKq2 BKq3 HIq0 HB hHeld ⊢
       refine take_ (i := 0) (N := some 20) (v := ?_) (a' := ?_) #[true, false, false, false] rfl rfl (by kernel_rfl) (fun _ _ _ h => h) (Or.inl ⟨by rfl, ?_⟩) hHeld ?_ ?_
       rotate_left
       · rintro w' ⟨sq0, sq1, sq2, sq3⟩
         go_simp
         with_reducible rfl
       rotate_left
       · simp only [Act.put, List.setIfInBounds_toArray, List.set_cons_zero, List.set_cons_succ, i64_w, i32_w]
         rfl
       refine take_ (i := 1) (N := some 21) (v := ?_) (a' := ?_) #[true, true, false, false] rfl rfl (by kernel_rfl) (fun _ _ _ h => h) (Or.inl ⟨by rfl, ?_⟩) hHeld ?_ ?_
       rotate_left
       · rintro w' ⟨sq0, sq1, sq2, sq3⟩
         go_simp
         with_reducible rfl
       rotate_left
       · simp only [Act.put, List.setIfInBounds_toArray, List.set_cons_zero, List.set_cons_succ, i64_w, i32_w]
         rfl
       refine one_ (i := 2) (N := none) #[true, true, true, false] rfl rfl (by kernel_rfl) (by decide) (fun K hK => ?_)
       have hsq0 : wq8.cell? ⟨gbq0, 0, none⟩ = some (.int .i64 0) := (blk_cell BKq0.out 0).trans rfl
       have hfsq0 := blk_frozen BKq0.out 0
       have hnsq0_1 := NBq1_611.out
       have hnsq0_2 := NBq3_611.out
       have hnsq0_3 := NBq4_611.out
       have hmsq0_1 := NBq0_612.out
       have hmsq0_2 := NBq0_619.out
       have hmsq0_3 := NBq0_623.out
       have hsq1 : wq8.cell? ⟨gbq0, 1, none⟩ = some (.int .i64 0) := (blk_cell BKq0.out 1).trans rfl
       have hfsq1 := blk_frozen BKq0.out 1
       have hnsq1_1 := NBq1_611.out
       have hnsq1_2 := NBq3_611.out
       have hnsq1_3 := NBq4_611.out
       have hmsq1_1 := NBq0_612.out
       have hmsq1_2 := NBq0_619.out
       have hmsq1_3 := NBq0_623.out
       refine skip_ (w1 := ?_) (by rfl) rfl ?_ ?_
       rotate_left
       · go_simp
         rfl
       refine hK.out _ _ ⟨((cell_far (p := ⟨gbq0, _, none⟩) NBq3_611.out _).trans (((cell_far (p := ⟨gbq0, _, none⟩) NBq3_611.out _).trans (hHeld.1)))), ((cell_far (p := ⟨gbq0, _, none⟩) NBq3_611.out _).trans (((cell_far (p := ⟨gbq0, _, none⟩) NBq3_611.out _).trans (hHeld.2.1)))), ((cell_far (p := ⟨gbq0, _, none⟩) NBq4_611.out _).trans (((cell_far (p := ⟨gbq0, _, none⟩) NBq4_611.out _).trans (hHeld.2.2.1)))), ((cell_far (p := ⟨gbq0, _, none⟩) NBq4_611.out _).trans (((cell_far (p := ⟨gbq0, _, none⟩) NBq4_611.out _).trans (hHeld.2.2.2))))⟩ (fun hHeld => ?_)
       clear hK K
       refine one_ (i := 3) (N := none) #[true, true, true, true] rfl rfl (by kernel_rfl) (by decide) (fun K hK => ?_)
       have hsq2 : wq8.cell? ⟨gbq1, 0, none⟩ = some (.int .i64 0) := (blk_cell BKq1.out 0).trans rfl
       have hfsq2 := blk_frozen BKq1.out 0
       have hnsq2_0 := NBq0_612.out
       have hnsq2_2 := NBq3_612.out
       have hnsq2_3 := NBq4_612.out
       have hmsq2_0 := NBq1_611.out
       have hmsq2_2 := NBq1_619.out
       have hmsq2_3 := NBq1_623.out
       have hsq3 : wq8.cell? ⟨gbq1, 1, none⟩ = some (.int .i64 0) := (blk_cell BKq1.out 1).trans rfl
       have hfsq3 := blk_frozen BKq1.out 1
       have hnsq3_0 := NBq0_612.out
       have hnsq3_2 := NBq3_612.out
       have hnsq3_3 := NBq4_612.out
       have hmsq3_0 := NBq1_611.out
       have hmsq3_2 := NBq1_619.out
       have hmsq3_3 := NBq1_623.out
       refine skip_ (w1 := ?_) (by rfl) rfl ?_ ?_
       rotate_left
       · go_simp
         rfl
       refine hK.out _ _ ⟨((cell_far (p := ⟨gbq1, _, none⟩) NBq3_612.out _).trans (((cell_far (p := ⟨gbq1, _, none⟩) NBq3_612.out _).trans (hHeld.1)))), ((cell_far (p := ⟨gbq1, _, none⟩) NBq3_612.out _).trans (((cell_far (p := ⟨gbq1, _, none⟩) NBq3_612.out _).trans (hHeld.2.1)))), ((cell_far (p := ⟨gbq1, _, none⟩) NBq4_612.out _).trans (((cell_far (p := ⟨gbq1, _, none⟩) NBq4_612.out _).trans (hHeld.2.2.1)))), ((cell_far (p := ⟨gbq1, _, none⟩) NBq4_612.out _).trans (((cell_far (p := ⟨gbq1, _, none⟩) NBq4_612.out _).trans (hHeld.2.2.2))))⟩ (fun hHeld => ?_)
       clear hK K
       refine done_ (by kernel_rfl) ?_
       try go_wp2
       refine bodyPost_ret (results_cc rfl _ _ gbq0 gbq1 26 26 #[.int .i64 t616, .int .i64 t617] #[.int .i64 t620, .int .i64 t621] (0, 0) (0, 0) _ _ rfl (by (with_reducible repeat (first | refine blk_drewN ?_ _ | refine blk_drew ?_ | refine blk_alloc ?_ _)); refine blk_far ?_ NBq0_612.out _; (with_reducible repeat (first | refine blk_drewN ?_ _ | refine blk_drew ?_ | refine blk_alloc ?_ _)); refine blk_far ?_ NBq0_612.out _; (with_reducible repeat (first | refine blk_drewN ?_ _ | refine blk_drew ?_ | refine blk_alloc ?_ _)); refine blk_put (cs := #[.int .i64 t616, .int .i64 0]) ?_ 1 _ rfl; (with_reducible repeat (first | refine blk_drewN ?_ _ | refine blk_drew ?_ | refine blk_alloc ?_ _)); refine blk_put (cs := #[.int .i64 0, .int .i64 0]) ?_ 0 _ rfl; (with_reducible repeat (first | refine blk_drewN ?_ _ | refine blk_drew ?_ | refine blk_alloc ?_ _)); exact BKq0.out) Try.underlying26 rfl (by kernel_rfl) rfl (by (with_reducible repeat (first | refine blk_drewN ?_ _ | refine blk_drew ?_ | refine blk_alloc ?_ _)); refine blk_put (cs := #[.int .i64 t620, .int .i64 0]) ?_ 1 _ rfl; (with_reducible repeat (first | refine blk_drewN ?_ _ | refine blk_drew ?_ | refine blk_alloc ?_ _)); refine blk_put (cs := #[.int .i64 0, .int .i64 0]) ?_ 0 _ rfl; (with_reducible repeat (first | refine blk_drewN ?_ _ | refine blk_drew ?_ | refine blk_alloc ?_ _)); refine blk_far ?_ NBq1_611.out _; (with_reducible repeat (first | refine blk_drewN ?_ _ | refine blk_drew ?_ | refine blk_alloc ?_ _)); refine blk_far ?_ NBq1_611.out _; (with_reducible repeat (first | refine blk_drewN ?_ _ | refine blk_drew ?_ | refine blk_alloc ?_ _)); exact BKq1.out) Try.underlying26 rfl (by kernel_rfl)) rfl ?_
       exact ⟨by first | rfl | (simp [errW_none, errW_some] <;> rfl) | (simp [*, errW_none, errW_some] <;> rfl), by repeat (first | (with_reducible first | exact HB.out | apply below_alloc | apply pw_below_drewN | apply below_drew1 | refine below_set ?_ (IsS105.ge HIq0.out) | refine below_set ?_ GEq0.out | refine below_set ?_ GEq1.out | refine below_set ?_ GEq2.out | refine below_set ?_ GEq3.out) | exact HB.out)⟩)

end Go.Proofs.Ytcndpbegmdcelaa.A
