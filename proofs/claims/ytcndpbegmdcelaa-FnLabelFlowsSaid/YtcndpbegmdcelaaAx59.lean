/- What Go functions compute, as Lean functions, and for each its contract: for every input at which the Lean function answers the call returns that; written by wip/tools/pr.py over the kit's print. -/
import Derived.Test.YtcndpbegmdcelaaAx0
import Derived.Test.YtcndpbegmdcelaaAx3
import Derived.Test.YtcndpbegmdcelaaAx6
import Derived.Test.YtcndpbegmdcelaaAx8
import Derived.Test.YtcndpbegmdcelaaAx25
import Derived.Test.YtcndpbegmdcelaaAx55
namespace Go.Proofs.Ytcndpbegmdcelaa.A
open Go.RowKit Go.Proofs.YtcndpbegmdcelaaW.PrintWords Go.Proofs.YtcndpbegmdcelaaW.PrintLast Go.Proofs.YtcndpbegmdcelaaW.PrintMore
attribute [local go_sem] max2_int min2_int max_two min_two max_three min_three max_four min_four   -- for this text's walks alone
set_option linter.unusedVariables false
set_option linter.unusedSimpArgs false

/-! ### laws_FnLabelFlows: function 11 -/
mutual
def laws_FnLabelFlows.j0 : Nat → Bool → Bool → Int → Int → Int → Int → Option (Bool)
  | 0, _, _, _, _, _, _ => none
  | k + 1, x5, x33, x680000, x680001, x681000, x681001 => if x33 = true then ((spec_LabelFlows.f k x680000 x680001 x681000 x681001).bind fun t685 => (some (x5 == t685))) else (laws_FnLabelFlows.l0 k x5 true 0 x680000 x680001 x681000 x681001)
def laws_FnLabelFlows.l0 : Nat → Bool → Bool → Int → Int → Int → Int → Int → Option (Bool)
  | 0, _, _, _, _, _, _, _ => none
  | k + 1, x5, x6, x7, x680000, x680001, x681000, x681001 => if x7 < 3 then (if x6 = true then ((laws_lcHas.f x681000 x7).bind fun t687 => (if t687 = true then ((laws_lcHas.f x680000 x7).bind fun t688 => (if t688 = true then ((laws_lcHas.f x681001 x7).bind fun t689 => (if t689 = true then ((laws_lcHas.f x680001 x7).bind fun t690 => (laws_FnLabelFlows.l0 k x5 t690 (wrap64 (x7 + 1)) x680000 x680001 x681000 x681001)) else (laws_FnLabelFlows.l0 k x5 true (wrap64 (x7 + 1)) x680000 x680001 x681000 x681001))) else (laws_FnLabelFlows.l0 k x5 false (wrap64 (x7 + 1)) x680000 x680001 x681000 x681001))) else ((laws_lcHas.f x681001 x7).bind fun t691 => (if t691 = true then ((laws_lcHas.f x680001 x7).bind fun t692 => (laws_FnLabelFlows.l0 k x5 t692 (wrap64 (x7 + 1)) x680000 x680001 x681000 x681001)) else (laws_FnLabelFlows.l0 k x5 true (wrap64 (x7 + 1)) x680000 x680001 x681000 x681001))))) else (laws_FnLabelFlows.l0 k x5 false (wrap64 (x7 + 1)) x680000 x680001 x681000 x681001)) else (if (x5 == x6) = true then ((impl_LabelFlows.f x680000 x680001 x680000 x680001).bind fun t686 => (some t686)) else (some false))
end
def laws_FnLabelFlows.f (k : Nat) (l0 : List Int) : Option (Bool) := if (l0.length : Int) > 1048576 then (some true) else ((spec_DrawLabelFlows.f k l0).bind fun bt675 => ((impl_LabelFlows.f bt675.1 bt675.2.1 bt675.2.2.1 bt675.2.2.2).bind fun t681 => ((spec_LabelFlows.f k bt675.1 bt675.2.1 bt675.2.2.1 bt675.2.2.2).bind fun t682 => (if (t681 != t682) = true then (laws_FnLabelFlows.j0 k t681 true bt675.1 bt675.2.1 bt675.2.2.1 bt675.2.2.2) else ((spec_LabelOk.f bt675.1 bt675.2.1).bind fun t683 => (if t683 = true then ((spec_LabelOk.f bt675.2.2.1 bt675.2.2.2).bind fun t684 => (laws_FnLabelFlows.j0 k t681 (!t684) bt675.1 bt675.2.1 bt675.2.2.1 bt675.2.2.2)) else (laws_FnLabelFlows.j0 k t681 true bt675.1 bt675.2.1 bt675.2.2.1 bt675.2.2.2)))))))
theorem laws_FnLabelFlows.mono_l : ∀ k, (∀ y0 y1 y2 y3 y4 y5, LeO (laws_FnLabelFlows.j0 k y0 y1 y2 y3 y4 y5) (laws_FnLabelFlows.j0 (k + 1) y0 y1 y2 y3 y4 y5)) ∧ (∀ y0 y1 y2 y3 y4 y5 y6, LeO (laws_FnLabelFlows.l0 k y0 y1 y2 y3 y4 y5 y6) (laws_FnLabelFlows.l0 (k + 1) y0 y1 y2 y3 y4 y5 y6))
  | 0 => ⟨fun _ _ _ _ _ _ r h => by simp [laws_FnLabelFlows.j0] at h, fun _ _ _ _ _ _ _ r h => by simp [laws_FnLabelFlows.l0] at h⟩
  | k + 1 => by
    obtain ⟨ih0, ih1⟩ := laws_FnLabelFlows.mono_l k
    refine ⟨?_, ?_⟩
    · intro y0 y1 y2 y3 y4 y5
      unfold laws_FnLabelFlows.j0
      repeat' first
      | (with_reducible exact ih0 _ _ _ _ _ _)
      | (with_reducible exact ih1 _ _ _ _ _ _ _)
      | (with_reducible exact spec_DrawLabelFlows.mono _ _)
      | (with_reducible exact spec_LabelFlows.mono _ _ _ _ _)
      | (with_reducible exact LeO.refl _)
      | (with_reducible exact LeO.none _)
      | (with_reducible refine LeO.ite ?_ ?_)
      | (with_reducible refine LeO.bind ?_ (fun _ => ?_))
      | exact ih0 _ _ _ _ _ _
      | exact ih1 _ _ _ _ _ _ _
      | exact spec_DrawLabelFlows.mono _ _
      | exact spec_LabelFlows.mono _ _ _ _ _
      | exact LeO.none _
      | refine LeO.ite ?_ ?_
      | refine LeO.bind ?_ (fun _ => ?_)
    · intro y0 y1 y2 y3 y4 y5 y6
      unfold laws_FnLabelFlows.l0
      repeat' first
      | (with_reducible exact ih0 _ _ _ _ _ _)
      | (with_reducible exact ih1 _ _ _ _ _ _ _)
      | (with_reducible exact spec_DrawLabelFlows.mono _ _)
      | (with_reducible exact spec_LabelFlows.mono _ _ _ _ _)
      | (with_reducible exact LeO.refl _)
      | (with_reducible exact LeO.none _)
      | (with_reducible refine LeO.ite ?_ ?_)
      | (with_reducible refine LeO.bind ?_ (fun _ => ?_))
      | exact ih0 _ _ _ _ _ _
      | exact ih1 _ _ _ _ _ _ _
      | exact spec_DrawLabelFlows.mono _ _
      | exact spec_LabelFlows.mono _ _ _ _ _
      | exact LeO.none _
      | refine LeO.ite ?_ ?_
      | refine LeO.bind ?_ (fun _ => ?_)
theorem laws_FnLabelFlows.mono : ∀ a0 k, LeO (laws_FnLabelFlows.f k a0) (laws_FnLabelFlows.f (k + 1) a0) := by
  intro a0 k
  obtain ⟨ih0, ih1⟩ := laws_FnLabelFlows.mono_l k
  unfold laws_FnLabelFlows.f
  repeat' first
      | (with_reducible exact ih0 _ _ _ _ _ _)
      | (with_reducible exact ih1 _ _ _ _ _ _ _)
      | (with_reducible exact spec_DrawLabelFlows.mono _ _)
      | (with_reducible exact spec_LabelFlows.mono _ _ _ _ _)
      | (with_reducible exact LeO.refl _)
      | (with_reducible exact LeO.none _)
      | (with_reducible refine LeO.ite ?_ ?_)
      | (with_reducible refine LeO.bind ?_ (fun _ => ?_))
      | exact ih0 _ _ _ _ _ _
      | exact ih1 _ _ _ _ _ _ _
      | exact spec_DrawLabelFlows.mono _ _
      | exact spec_LabelFlows.mono _ _ _ _ _
      | exact LeO.none _
      | refine LeO.ite ?_ ?_
      | refine LeO.bind ?_ (fun _ => ?_)
set_option maxHeartbeats 8000000 in
set_option maxRecDepth 100000 in
theorem laws_FnLabelFlows.calls (k : Nat) (A0 : Option Addr) (c0 : Nat) (l0 : List Int) (r : Bool) (w : World) (hr0 : Kd.C (Kd.int .u8) w A0 l0.length l0) (hc0 : l0.length ≤ c0) (h : laws_FnLabelFlows.f k l0 = some r) :
    Calls Try.prog 11 #[.slice A0 l0.length c0] w fun e w' => e = .returned (.bool r) ∧ Below w.heap.size w w' := by
  have hu26 := Try.underlying26
  have HR0 := Aside0.mk hr0
  have HC0 := Aside0.mk hc0
  clear hr0 hc0
  have HB := Aside0.mk (Below.refl w.heap.size w)
  have H : (if (l0.length : Int) > 1048576 then (some true) else ((spec_DrawLabelFlows.f k l0).bind fun bt675 => ((impl_LabelFlows.f bt675.1 bt675.2.1 bt675.2.2.1 bt675.2.2.2).bind fun t681 => ((spec_LabelFlows.f k bt675.1 bt675.2.1 bt675.2.2.1 bt675.2.2.2).bind fun t682 => (if (t681 != t682) = true then (laws_FnLabelFlows.j0 k t681 true bt675.1 bt675.2.1 bt675.2.2.1 bt675.2.2.2) else ((spec_LabelOk.f bt675.1 bt675.2.1).bind fun t683 => (if t683 = true then ((spec_LabelOk.f bt675.2.2.1 bt675.2.2.2).bind fun t684 => (laws_FnLabelFlows.j0 k t681 (!t684) bt675.1 bt675.2.1 bt675.2.2.1 bt675.2.2.2)) else (laws_FnLabelFlows.j0 k t681 true bt675.1 bt675.2.1 bt675.2.2.1 bt675.2.2.2)))))))) = some r := h
  clear h
  by_cases c2 : (l0.length : Int) > 1048576
  · rw [if_pos c2] at H
    have c2b0 : decide (1048576 < (l0.length : Int)) = true := decide_eq_true c2
    have c2b1 : decide (1048576 < l0.length) = true := decide_eq_true (by omega)
    clear c2
    obtain rfl := Option.some.inj H
    go_enter Try.func11, Try.ntmps11
    go_wp2
    go_ret
    exact ⟨by first | rfl | (simp [errW_none, errW_some] <;> rfl) | (simp [*, errW_none, errW_some] <;> rfl), by repeat (first | (with_reducible first | exact HB.out | apply below_alloc | apply pw_below_drewN | apply below_drew1) | exact HB.out)⟩
  · rw [if_neg c2] at H
    have c2b0 : decide (1048576 < (l0.length : Int)) = false := decide_eq_false c2
    have c2b1 : decide (1048576 < l0.length) = false := decide_eq_false (by omega)
    clear c2
    replace H := Option.bind_eq_some_iff.mp H
    obtain ⟨⟨t675, t676, t677, t678⟩, A30, H⟩ := H
    replace H : ((impl_LabelFlows.f t675 t676 t677 t678).bind fun t681 => ((spec_LabelFlows.f k t675 t676 t677 t678).bind fun t682 => (if (t681 != t682) = true then (laws_FnLabelFlows.j0 k t681 true t675 t676 t677 t678) else ((spec_LabelOk.f t675 t676).bind fun t683 => (if t683 = true then ((spec_LabelOk.f t677 t678).bind fun t684 => (laws_FnLabelFlows.j0 k t681 (!t684) t675 t676 t677 t678)) else (laws_FnLabelFlows.j0 k t681 true t675 t676 t677 t678)))))) = some r := H
    have A3 := Aside0.mk A30
    clear A30
    replace H := Option.bind_eq_some_iff.mp H
    obtain ⟨t681, A40, H⟩ := H
    replace H : ((spec_LabelFlows.f k t675 t676 t677 t678).bind fun t682 => (if (t681 != t682) = true then (laws_FnLabelFlows.j0 k t681 true t675 t676 t677 t678) else ((spec_LabelOk.f t675 t676).bind fun t683 => (if t683 = true then ((spec_LabelOk.f t677 t678).bind fun t684 => (laws_FnLabelFlows.j0 k t681 (!t684) t675 t676 t677 t678)) else (laws_FnLabelFlows.j0 k t681 true t675 t676 t677 t678))))) = some r := H
    have A4 := Aside0.mk A40
    clear A40
    have HC5 := Aside0.mk H
    clear H
    go_enter Try.func11, Try.ntmps11
    go_upto_region 5 with (first | ((with_reducible refine gate_callee (f := 32) rfl ?_); refine goesL_ (some 13) rfl rfl Try.func32 (by kernel_rfl) rfl #[.slice A0 l0.length c0] rfl (by (try simp only [List.map_toArray, List.map_cons, List.map_nil]); first | done | rfl | (simp only [List.length_drop, List.length_take]; rfl)) ?_; (with_reducible refine (spec_DrawLabelFlows.calls k _ _ l0 t675 t676 t677 t678 _ ?side1 ?side2 A3.out).mono ?_); (case side1 => repeat (first | exact HR0.out | (with_reducible refine Kd.C_alloc ?_ _) | (with_reducible refine Kd.C_drewN ?_ _) | (with_reducible refine Kd.C_drew ?_))); (case side2 => exact HC0.out); rintro e w6 ⟨rfl, hb⟩; refine ⟨_, rfl, ?_⟩; have n0_ := Aside0.mk (below_step (by repeat (first | (with_reducible first | exact HB.out | apply below_alloc | apply pw_below_drewN | apply below_drew1) | exact HB.out)) hb); clear HB; have HB := n0_; clear n0_; (try clear hb); (try clear hb2); (try clear hk); (try clear hi)) | ((with_reducible refine gate_dst (N := 3) rfl ?_); refine box_event ?hg (N := 3) ?hd (cs := #[.int .i64 0, .int .i64 0]) (t := 26) ?hr ?_; (case hd => rfl); (case hg => rfl); (case hr => first | (go_simp; done) | (go_simp; rfl)); intro gb679 hg w7 hbox hb; have n0_ := Aside0.mk (below_step (by repeat (first | (with_reducible first | exact HB.out | apply below_alloc | apply pw_below_drewN | apply below_drew1) | exact HB.out)) hb); have n1_ := Aside0.mk (hbox); have n2_ := Aside0.mk ((by rw [hg]; exact (below_size (by repeat (first | (with_reducible first | exact HB.out | apply below_alloc | apply pw_below_drewN | apply below_drew1) | exact HB.out))) : w.heap.size ≤ gb679)); have n3_ := Aside0.mk ((by rw [hg]; exact (below_size (by repeat (first | (with_reducible first | exact HB.out | apply below_alloc | apply pw_below_drewN | apply below_drew1) | exact HB.out))) : w.heap.size ≤ gb679)); clear HB; have HB := n0_; have BK679 := n1_; have GW679 := n2_; have GE679 := n3_; clear n0_ n1_ n2_ n3_; clear hb hbox hg) | ((with_reducible refine gate_dst (N := 4) rfl ?_); refine box_event ?hg (N := 4) ?hd (cs := #[.int .i64 0, .int .i64 0]) (t := 26) ?hr ?_; (case hd => rfl); (case hg => rfl); (case hr => first | (go_simp; done) | (go_simp; rfl)); intro gb680 hg w8 hbox hb; have n0_ := Aside0.mk (blk_below (g := gb679) (o := .cells #[.int .i64 0, .int .i64 0] 26 (0, 0)) (by (with_reducible repeat (first | refine blk_drewN ?_ _ | refine blk_drew ?_ | refine blk_alloc ?_ _)); exact BK679.out) hb); have n1_ := Aside0.mk (below_step (by repeat (first | (with_reducible first | exact HB.out | apply below_alloc | apply pw_below_drewN | apply below_drew1 | refine below_set ?_ GE679.out) | exact HB.out)) hb); have n2_ := Aside0.mk (hbox); have n3_ := Aside0.mk ((by rw [hg]; exact (below_size (by repeat (first | (with_reducible first | exact HB.out | apply below_alloc | apply pw_below_drewN | apply below_drew1 | refine below_set ?_ GE679.out) | exact HB.out))) : w.heap.size ≤ gb680)); have n4_ := Aside0.mk ((by rw [hg]; exact (below_size (by repeat (first | (with_reducible first | exact HB.out | apply below_alloc | apply pw_below_drewN | apply below_drew1 | refine below_set ?_ GE679.out) | exact HB.out))) : w.heap.size ≤ gb680)); have n5_ := Aside0.mk ((by rw [hg]; exact Nat.ne_of_lt (blk_lt (g := gb679) (o := .cells #[.int .i64 0, .int .i64 0] 26 (0, 0)) (by (with_reducible repeat (first | refine blk_drewN ?_ _ | refine blk_drew ?_ | refine blk_alloc ?_ _)); exact BK679.out)) : gb679 ≠ gb680)); have n6_ := Aside0.mk ((by rw [hg]; exact Nat.ne_of_gt (blk_lt (g := gb679) (o := .cells #[.int .i64 0, .int .i64 0] 26 (0, 0)) (by (with_reducible repeat (first | refine blk_drewN ?_ _ | refine blk_drew ?_ | refine blk_alloc ?_ _)); exact BK679.out)) : gb680 ≠ gb679)); clear BK679; clear HB; have BK679 := n0_; have HB := n1_; have BK680 := n2_; have GW680 := n3_; have GE680 := n4_; have NB679_680 := n5_; have NB680_679 := n6_; clear n0_ n1_ n2_ n3_ n4_ n5_ n6_; clear hb hbox hg; have hnb9 := NB679_680.out; have hnc9 := NB680_679.out; have hcz10_0 : w8.cell? ⟨gb679, 0, none⟩ = some (.int .i64 0) := (blk_cell BK679.out 0).trans rfl; have hcz10_1 : w8.cell? ⟨gb679, 1, none⟩ = some (.int .i64 0) := (blk_cell BK679.out 1).trans rfl; have hfz10_0 := blk_frozen BK679.out 0; have hfz10_1 := blk_frozen BK679.out 1; have hcz11_0 : w8.cell? ⟨gb680, 0, none⟩ = some (.int .i64 0) := (blk_cell BK680.out 0).trans rfl; have hcz11_1 : w8.cell? ⟨gb680, 1, none⟩ = some (.int .i64 0) := (blk_cell BK680.out 1).trans rfl; have hfz11_0 := blk_frozen BK680.out 0; have hfz11_1 := blk_frozen BK680.out 1) | ((with_reducible refine gate_callee (f := 25) rfl ?_); refine goesL_ (some 18) rfl rfl Try.func25 (by kernel_rfl) rfl #[.agg #[.int .i64 t675, .int .i64 t676], .agg #[.int .i64 t677, .int .i64 t678]] rfl (by (try simp only [List.map_toArray, List.map_cons, List.map_nil]); first | done | rfl | (simp only [List.length_drop, List.length_take]; rfl)) ?_; (with_reducible refine (impl_LabelFlows.calls t675 t676 t677 t678 t681 _ A4.out).mono ?_); rintro e w12 ⟨rfl, hb⟩; refine ⟨_, rfl, ?_⟩; have n0_ := Aside0.mk (blk_below (g := gb679) (o := .cells #[.int .i64 t675, .int .i64 t676] 26 (0, 0)) (by (with_reducible repeat (first | refine blk_drewN ?_ _ | refine blk_drew ?_ | refine blk_alloc ?_ _)); refine blk_far ?_ NB679_680.out _; (with_reducible repeat (first | refine blk_drewN ?_ _ | refine blk_drew ?_ | refine blk_alloc ?_ _)); refine blk_far ?_ NB679_680.out _; (with_reducible repeat (first | refine blk_drewN ?_ _ | refine blk_drew ?_ | refine blk_alloc ?_ _)); refine blk_put (cs := #[.int .i64 t675, .int .i64 0]) ?_ 1 _ rfl; (with_reducible repeat (first | refine blk_drewN ?_ _ | refine blk_drew ?_ | refine blk_alloc ?_ _)); refine blk_put (cs := #[.int .i64 0, .int .i64 0]) ?_ 0 _ rfl; (with_reducible repeat (first | refine blk_drewN ?_ _ | refine blk_drew ?_ | refine blk_alloc ?_ _)); exact BK679.out) hb); have n1_ := Aside0.mk (blk_below (g := gb680) (o := .cells #[.int .i64 t677, .int .i64 t678] 26 (0, 0)) (by (with_reducible repeat (first | refine blk_drewN ?_ _ | refine blk_drew ?_ | refine blk_alloc ?_ _)); refine blk_put (cs := #[.int .i64 t677, .int .i64 0]) ?_ 1 _ rfl; (with_reducible repeat (first | refine blk_drewN ?_ _ | refine blk_drew ?_ | refine blk_alloc ?_ _)); refine blk_put (cs := #[.int .i64 0, .int .i64 0]) ?_ 0 _ rfl; (with_reducible repeat (first | refine blk_drewN ?_ _ | refine blk_drew ?_ | refine blk_alloc ?_ _)); refine blk_far ?_ NB680_679.out _; (with_reducible repeat (first | refine blk_drewN ?_ _ | refine blk_drew ?_ | refine blk_alloc ?_ _)); refine blk_far ?_ NB680_679.out _; (with_reducible repeat (first | refine blk_drewN ?_ _ | refine blk_drew ?_ | refine blk_alloc ?_ _)); exact BK680.out) hb); have n2_ := Aside0.mk (below_step (by repeat (first | (with_reducible first | exact HB.out | apply below_alloc | apply pw_below_drewN | apply below_drew1 | refine below_set ?_ GE679.out | refine below_set ?_ GE680.out) | exact HB.out)) hb); clear BK679; clear BK680; clear HB; have BK679 := n0_; have BK680 := n1_; have HB := n2_; clear n0_ n1_ n2_; (try clear hb); (try clear hb2); (try clear hk); (try clear hi)))
    (try simp only [Act.put, List.setIfInBounds_toArray, List.set_cons_zero, List.set_cons_succ])
    go_cut [33] (fun v33 wc => ∃ (kq : Nat) (x33_4 : Bool), v33 = .bool x33_4 ∧ Aside0 (laws_FnLabelFlows.j0 kq t681 x33_4 t675 t676 t677 t678 = some r) ∧ Aside0 (kq ≤ k) ∧ Aside0 (wc.heap[gb679]? = some (.cells #[.int .i64 t675, .int .i64 t676] 26 (0, 0))) ∧ Aside0 (wc.heap[gb680]? = some (.cells #[.int .i64 t677, .int .i64 t678] 26 (0, 0))) ∧ Aside0 (Below w.heap.size w wc))
    case first =>
      have H := HC5.out
      clear HC5
      replace H := Option.bind_eq_some_iff.mp H
      obtain ⟨t682, A130, H⟩ := H
      replace H : (if (t681 != t682) = true then (laws_FnLabelFlows.j0 k t681 true t675 t676 t677 t678) else ((spec_LabelOk.f t675 t676).bind fun t683 => (if t683 = true then ((spec_LabelOk.f t677 t678).bind fun t684 => (laws_FnLabelFlows.j0 k t681 (!t684) t675 t676 t677 t678)) else (laws_FnLabelFlows.j0 k t681 true t675 t676 t677 t678)))) = some r := H
      have A13 := Aside0.mk A130
      clear A130
      by_cases c14 : (t681 != t682) = true
      · rw [if_pos c14] at H
        have c14b0 : (t681 != t682) = true := c14
        (try (have c14b1 : decide (t681 = t682) = false := by simpa using c14))
        (try (have c14b2 : (t681 == t682) = false := by simpa using c14))
        (try (have c14b3 : ¬ (t681 = t682) := by simpa using c14))
        clear c14
        (first | rw [c14b0] | (simp only [i64_w, i32_w]; rw [c14b0]) | skip)
        have H' := Aside0.mk H
        clear H
        have hnb15 := NB679_680.out
        have hnc15 := NB680_679.out
        have hcz16_0 : w12.cell? ⟨gb679, 0, none⟩ = some (.int .i64 t675) := (blk_cell BK679.out 0).trans rfl
        have hcz16_1 : w12.cell? ⟨gb679, 1, none⟩ = some (.int .i64 t676) := (blk_cell BK679.out 1).trans rfl
        have hfz16_0 := blk_frozen BK679.out 0
        have hfz16_1 := blk_frozen BK679.out 1
        have hcz17_0 : w12.cell? ⟨gb680, 0, none⟩ = some (.int .i64 t677) := (blk_cell BK680.out 0).trans rfl
        have hcz17_1 : w12.cell? ⟨gb680, 1, none⟩ = some (.int .i64 t678) := (blk_cell BK680.out 1).trans rfl
        have hfz17_0 := blk_frozen BK680.out 0
        have hfz17_1 := blk_frozen BK680.out 1
        go_wp2_with (first | ((with_reducible refine gate_callee (f := 24) rfl ?_); refine goesL_ (some 22) rfl rfl Try.func24 (by kernel_rfl) rfl #[.agg #[.int .i64 t675, .int .i64 t676], .agg #[.int .i64 t677, .int .i64 t678]] rfl (by (try simp only [List.map_toArray, List.map_cons, List.map_nil]); first | done | rfl | (simp only [List.length_drop, List.length_take]; rfl)) ?_; (with_reducible refine (spec_LabelFlows.calls k t675 t676 t677 t678 t682 _ A13.out).mono ?_); rintro e w18 ⟨rfl, hb⟩; refine ⟨_, rfl, ?_⟩; have n0_ := Aside0.mk (blk_below (g := gb679) (o := .cells #[.int .i64 t675, .int .i64 t676] 26 (0, 0)) (by (with_reducible repeat (first | refine blk_drewN ?_ _ | refine blk_drew ?_ | refine blk_alloc ?_ _)); exact BK679.out) hb); have n1_ := Aside0.mk (blk_below (g := gb680) (o := .cells #[.int .i64 t677, .int .i64 t678] 26 (0, 0)) (by (with_reducible repeat (first | refine blk_drewN ?_ _ | refine blk_drew ?_ | refine blk_alloc ?_ _)); exact BK680.out) hb); have n2_ := Aside0.mk (below_step (by repeat (first | (with_reducible first | exact HB.out | apply below_alloc | apply pw_below_drewN | apply below_drew1 | refine below_set ?_ GE679.out | refine below_set ?_ GE680.out) | exact HB.out)) hb); clear BK679; clear BK680; clear HB; have BK679 := n0_; have BK680 := n1_; have HB := n2_; clear n0_ n1_ n2_; (try clear hb); (try clear hb2); (try clear hk); (try clear hi)))
        go_meet
        case rel => exact ⟨_, (true), (by first | rfl | (simp; done) | (simp [*]; done)), H', ⟨by first | omega | exact Nat.le_refl _⟩, ⟨by (with_reducible repeat (first | refine blk_drewN ?_ _ | refine blk_drew ?_ | refine blk_alloc ?_ _)); exact BK679.out⟩, ⟨by (with_reducible repeat (first | refine blk_drewN ?_ _ | refine blk_drew ?_ | refine blk_alloc ?_ _)); exact BK680.out⟩, ⟨by repeat (first | (with_reducible first | exact HB.out | apply below_alloc | apply pw_below_drewN | apply below_drew1 | refine below_set ?_ GE679.out | refine below_set ?_ GE680.out) | exact HB.out)⟩⟩
      · rw [if_neg c14] at H
        have c14b0 : (t681 != t682) = false := by simpa using c14
        (try (have c14b1 : decide (t681 = t682) = true := by simpa using c14))
        (try (have c14b2 : (t681 == t682) = true := by simpa using c14))
        clear c14
        (first | rw [c14b0] | (simp only [i64_w, i32_w]; rw [c14b0]) | skip)
        replace H := Option.bind_eq_some_iff.mp H
        obtain ⟨t683, A190, H⟩ := H
        replace H : (if t683 = true then ((spec_LabelOk.f t677 t678).bind fun t684 => (laws_FnLabelFlows.j0 k t681 (!t684) t675 t676 t677 t678)) else (laws_FnLabelFlows.j0 k t681 true t675 t676 t677 t678)) = some r := H
        have A19 := Aside0.mk A190
        clear A190
        by_cases c20 : t683 = true
        · subst c20
          have H1 : ((spec_LabelOk.f t677 t678).bind fun t684 => (laws_FnLabelFlows.j0 k t681 (!t684) t675 t676 t677 t678)) = some r := by rw [if_pos rfl] at H; exact H
          clear H
          have H := H1
          clear H1
          replace H := Option.bind_eq_some_iff.mp H
          obtain ⟨t684, A210, H⟩ := H
          replace H : (laws_FnLabelFlows.j0 k t681 (!t684) t675 t676 t677 t678) = some r := H
          have A21 := Aside0.mk A210
          clear A210
          have H' := Aside0.mk H
          clear H
          have hnb22 := NB679_680.out
          have hnc22 := NB680_679.out
          have hcz23_0 : w12.cell? ⟨gb679, 0, none⟩ = some (.int .i64 t675) := (blk_cell BK679.out 0).trans rfl
          have hcz23_1 : w12.cell? ⟨gb679, 1, none⟩ = some (.int .i64 t676) := (blk_cell BK679.out 1).trans rfl
          have hfz23_0 := blk_frozen BK679.out 0
          have hfz23_1 := blk_frozen BK679.out 1
          have hcz24_0 : w12.cell? ⟨gb680, 0, none⟩ = some (.int .i64 t677) := (blk_cell BK680.out 0).trans rfl
          have hcz24_1 : w12.cell? ⟨gb680, 1, none⟩ = some (.int .i64 t678) := (blk_cell BK680.out 1).trans rfl
          have hfz24_0 := blk_frozen BK680.out 0
          have hfz24_1 := blk_frozen BK680.out 1
          go_wp2_with (first | ((with_reducible refine gate_callee (f := 24) rfl ?_); refine goesL_ (some 22) rfl rfl Try.func24 (by kernel_rfl) rfl #[.agg #[.int .i64 t675, .int .i64 t676], .agg #[.int .i64 t677, .int .i64 t678]] rfl (by (try simp only [List.map_toArray, List.map_cons, List.map_nil]); first | done | rfl | (simp only [List.length_drop, List.length_take]; rfl)) ?_; (with_reducible refine (spec_LabelFlows.calls k t675 t676 t677 t678 t682 _ A13.out).mono ?_); rintro e w25 ⟨rfl, hb⟩; refine ⟨_, rfl, ?_⟩; have n0_ := Aside0.mk (blk_below (g := gb679) (o := .cells #[.int .i64 t675, .int .i64 t676] 26 (0, 0)) (by (with_reducible repeat (first | refine blk_drewN ?_ _ | refine blk_drew ?_ | refine blk_alloc ?_ _)); exact BK679.out) hb); have n1_ := Aside0.mk (blk_below (g := gb680) (o := .cells #[.int .i64 t677, .int .i64 t678] 26 (0, 0)) (by (with_reducible repeat (first | refine blk_drewN ?_ _ | refine blk_drew ?_ | refine blk_alloc ?_ _)); exact BK680.out) hb); have n2_ := Aside0.mk (below_step (by repeat (first | (with_reducible first | exact HB.out | apply below_alloc | apply pw_below_drewN | apply below_drew1 | refine below_set ?_ GE679.out | refine below_set ?_ GE680.out) | exact HB.out)) hb); clear BK679; clear BK680; clear HB; have BK679 := n0_; have BK680 := n1_; have HB := n2_; clear n0_ n1_ n2_; (try clear hb); (try clear hb2); (try clear hk); (try clear hi); have hcz26_0 : w25.cell? ⟨gb679, 0, none⟩ = some (.int .i64 t675) := (blk_cell BK679.out 0).trans rfl; have hcz26_1 : w25.cell? ⟨gb679, 1, none⟩ = some (.int .i64 t676) := (blk_cell BK679.out 1).trans rfl; have hfz26_0 := blk_frozen BK679.out 0; have hfz26_1 := blk_frozen BK679.out 1) | (go_at_call 21; (with_reducible refine (spec_LabelOk.calls t675 t676 true _ A19.out).mono ?_); rintro e w27 ⟨rfl, hb⟩; have n0_ := Aside0.mk (blk_below (g := gb679) (o := .cells #[.int .i64 t675, .int .i64 t676] 26 (0, 0)) (by (with_reducible repeat (first | refine blk_drewN ?_ _ | refine blk_drew ?_ | refine blk_alloc ?_ _)); exact BK679.out) hb); have n1_ := Aside0.mk (blk_below (g := gb680) (o := .cells #[.int .i64 t677, .int .i64 t678] 26 (0, 0)) (by (with_reducible repeat (first | refine blk_drewN ?_ _ | refine blk_drew ?_ | refine blk_alloc ?_ _)); exact BK680.out) hb); have n2_ := Aside0.mk (below_step (by repeat (first | (with_reducible first | exact HB.out | apply below_alloc | apply pw_below_drewN | apply below_drew1 | refine below_set ?_ GE679.out | refine below_set ?_ GE680.out) | exact HB.out)) hb); clear BK679; clear BK680; clear HB; have BK679 := n0_; have BK680 := n1_; have HB := n2_; clear n0_ n1_ n2_; (try clear hb); (try clear hb2); (try clear hk); (try clear hi); have hcz28_0 : w27.cell? ⟨gb680, 0, none⟩ = some (.int .i64 t677) := (blk_cell BK680.out 0).trans rfl; have hcz28_1 : w27.cell? ⟨gb680, 1, none⟩ = some (.int .i64 t678) := (blk_cell BK680.out 1).trans rfl; have hfz28_0 := blk_frozen BK680.out 0; have hfz28_1 := blk_frozen BK680.out 1) | (go_at_call 21; (with_reducible refine (spec_LabelOk.calls t677 t678 t684 _ A21.out).mono ?_); rintro e w29 ⟨rfl, hb⟩; have n0_ := Aside0.mk (blk_below (g := gb679) (o := .cells #[.int .i64 t675, .int .i64 t676] 26 (0, 0)) (by (with_reducible repeat (first | refine blk_drewN ?_ _ | refine blk_drew ?_ | refine blk_alloc ?_ _)); exact BK679.out) hb); have n1_ := Aside0.mk (blk_below (g := gb680) (o := .cells #[.int .i64 t677, .int .i64 t678] 26 (0, 0)) (by (with_reducible repeat (first | refine blk_drewN ?_ _ | refine blk_drew ?_ | refine blk_alloc ?_ _)); exact BK680.out) hb); have n2_ := Aside0.mk (below_step (by repeat (first | (with_reducible first | exact HB.out | apply below_alloc | apply pw_below_drewN | apply below_drew1 | refine below_set ?_ GE679.out | refine below_set ?_ GE680.out) | exact HB.out)) hb); clear BK679; clear BK680; clear HB; have BK679 := n0_; have BK680 := n1_; have HB := n2_; clear n0_ n1_ n2_; (try clear hb); (try clear hb2); (try clear hk); (try clear hi)))
          go_meet
          case rel => exact ⟨_, (!t684), (by first | rfl | (simp; done) | (simp [*]; done)), H', ⟨by first | omega | exact Nat.le_refl _⟩, ⟨by (with_reducible repeat (first | refine blk_drewN ?_ _ | refine blk_drew ?_ | refine blk_alloc ?_ _)); exact BK679.out⟩, ⟨by (with_reducible repeat (first | refine blk_drewN ?_ _ | refine blk_drew ?_ | refine blk_alloc ?_ _)); exact BK680.out⟩, ⟨by repeat (first | (with_reducible first | exact HB.out | apply below_alloc | apply pw_below_drewN | apply below_drew1 | refine below_set ?_ GE679.out | refine below_set ?_ GE680.out) | exact HB.out)⟩⟩
        · replace c20 := Bool.eq_false_iff.mpr c20
          subst c20
          have H1 : (laws_FnLabelFlows.j0 k t681 true t675 t676 t677 t678) = some r := by rw [if_neg (show ¬ (false = true) by decide)] at H; exact H
          clear H
          have H := H1
          clear H1
          have H' := Aside0.mk H
          clear H
          have hnb30 := NB679_680.out
          have hnc30 := NB680_679.out
          have hcz31_0 : w12.cell? ⟨gb679, 0, none⟩ = some (.int .i64 t675) := (blk_cell BK679.out 0).trans rfl
          have hcz31_1 : w12.cell? ⟨gb679, 1, none⟩ = some (.int .i64 t676) := (blk_cell BK679.out 1).trans rfl
          have hfz31_0 := blk_frozen BK679.out 0
          have hfz31_1 := blk_frozen BK679.out 1
          have hcz32_0 : w12.cell? ⟨gb680, 0, none⟩ = some (.int .i64 t677) := (blk_cell BK680.out 0).trans rfl
          have hcz32_1 : w12.cell? ⟨gb680, 1, none⟩ = some (.int .i64 t678) := (blk_cell BK680.out 1).trans rfl
          have hfz32_0 := blk_frozen BK680.out 0
          have hfz32_1 := blk_frozen BK680.out 1
          go_wp2_with (first | ((with_reducible refine gate_callee (f := 24) rfl ?_); refine goesL_ (some 22) rfl rfl Try.func24 (by kernel_rfl) rfl #[.agg #[.int .i64 t675, .int .i64 t676], .agg #[.int .i64 t677, .int .i64 t678]] rfl (by (try simp only [List.map_toArray, List.map_cons, List.map_nil]); first | done | rfl | (simp only [List.length_drop, List.length_take]; rfl)) ?_; (with_reducible refine (spec_LabelFlows.calls k t675 t676 t677 t678 t682 _ A13.out).mono ?_); rintro e w33 ⟨rfl, hb⟩; refine ⟨_, rfl, ?_⟩; have n0_ := Aside0.mk (blk_below (g := gb679) (o := .cells #[.int .i64 t675, .int .i64 t676] 26 (0, 0)) (by (with_reducible repeat (first | refine blk_drewN ?_ _ | refine blk_drew ?_ | refine blk_alloc ?_ _)); exact BK679.out) hb); have n1_ := Aside0.mk (blk_below (g := gb680) (o := .cells #[.int .i64 t677, .int .i64 t678] 26 (0, 0)) (by (with_reducible repeat (first | refine blk_drewN ?_ _ | refine blk_drew ?_ | refine blk_alloc ?_ _)); exact BK680.out) hb); have n2_ := Aside0.mk (below_step (by repeat (first | (with_reducible first | exact HB.out | apply below_alloc | apply pw_below_drewN | apply below_drew1 | refine below_set ?_ GE679.out | refine below_set ?_ GE680.out) | exact HB.out)) hb); clear BK679; clear BK680; clear HB; have BK679 := n0_; have BK680 := n1_; have HB := n2_; clear n0_ n1_ n2_; (try clear hb); (try clear hb2); (try clear hk); (try clear hi); have hcz34_0 : w33.cell? ⟨gb679, 0, none⟩ = some (.int .i64 t675) := (blk_cell BK679.out 0).trans rfl; have hcz34_1 : w33.cell? ⟨gb679, 1, none⟩ = some (.int .i64 t676) := (blk_cell BK679.out 1).trans rfl; have hfz34_0 := blk_frozen BK679.out 0; have hfz34_1 := blk_frozen BK679.out 1) | (go_at_call 21; (with_reducible refine (spec_LabelOk.calls t675 t676 false _ A19.out).mono ?_); rintro e w35 ⟨rfl, hb⟩; have n0_ := Aside0.mk (blk_below (g := gb679) (o := .cells #[.int .i64 t675, .int .i64 t676] 26 (0, 0)) (by (with_reducible repeat (first | refine blk_drewN ?_ _ | refine blk_drew ?_ | refine blk_alloc ?_ _)); exact BK679.out) hb); have n1_ := Aside0.mk (blk_below (g := gb680) (o := .cells #[.int .i64 t677, .int .i64 t678] 26 (0, 0)) (by (with_reducible repeat (first | refine blk_drewN ?_ _ | refine blk_drew ?_ | refine blk_alloc ?_ _)); exact BK680.out) hb); have n2_ := Aside0.mk (below_step (by repeat (first | (with_reducible first | exact HB.out | apply below_alloc | apply pw_below_drewN | apply below_drew1 | refine below_set ?_ GE679.out | refine below_set ?_ GE680.out) | exact HB.out)) hb); clear BK679; clear BK680; clear HB; have BK679 := n0_; have BK680 := n1_; have HB := n2_; clear n0_ n1_ n2_; (try clear hb); (try clear hb2); (try clear hk); (try clear hi)))
          go_meet
          case rel => exact ⟨_, (true), (by first | rfl | (simp; done) | (simp [*]; done)), H', ⟨by first | omega | exact Nat.le_refl _⟩, ⟨by (with_reducible repeat (first | refine blk_drewN ?_ _ | refine blk_drew ?_ | refine blk_alloc ?_ _)); exact BK679.out⟩, ⟨by (with_reducible repeat (first | refine blk_drewN ?_ _ | refine blk_drew ?_ | refine blk_alloc ?_ _)); exact BK680.out⟩, ⟨by repeat (first | (with_reducible first | exact HB.out | apply below_alloc | apply pw_below_drewN | apply below_drew1 | refine below_set ?_ GE679.out | refine below_set ?_ GE680.out) | exact HB.out)⟩⟩
    case rest =>
      clear HC5
      try clear c1
      try clear c2
      try clear c2b0
      try clear c2b1
      try clear p2
      try clear c3
      try clear c9
      try clear c11
      try clear c14
      try clear c14b0
      try clear c14b1
      try clear c14b2
      try clear c15
      try clear c20
      try clear c22
      try clear c24
      try clear c25
      try clear c30
      try clear c32
      try clear hcz10_0
      try clear hcz10_1
      try clear hcz11_0
      try clear hcz11_1
      try clear hcz16_0
      try clear hcz16_1
      try clear hcz17_0
      try clear hcz17_1
      try clear hcz23_0
      try clear hcz23_1
      try clear hcz24_0
      try clear hcz24_1
      try clear hcz26_0
      try clear hcz26_1
      try clear hcz28_0
      try clear hcz28_1
      try clear hcz31_0
      try clear hcz31_1
      try clear hcz32_0
      try clear hcz32_1
      try clear hcz34_0
      try clear hcz34_1
      try clear hfz10_0
      try clear hfz10_1
      try clear hfz11_0
      try clear hfz11_1
      try clear hfz16_0
      try clear hfz16_1
      try clear hfz17_0
      try clear hfz17_1
      try clear hfz23_0
      try clear hfz23_1
      try clear hfz24_0
      try clear hfz24_1
      try clear hfz26_0
      try clear hfz26_1
      try clear hfz28_0
      try clear hfz28_1
      try clear hfz31_0
      try clear hfz31_1
      try clear hfz32_0
      try clear hfz32_1
      try clear hfz34_0
      try clear hfz34_1
      obtain ⟨kq, x33_4, rfl, HA, HJ4, BK679, BK680, HB⟩ := hcut
      cases kq with
      | zero => exact absurd HA.out (by simp [laws_FnLabelFlows.j0])
      | succ kj4 =>
        have H := HA.out
        clear HA
        simp only [laws_FnLabelFlows.j0] at H
        by_cases c36 : x33_4 = true
        · subst c36
          have H1 : ((spec_LabelFlows.f kj4 t675 t676 t677 t678).bind fun t685 => (some (t681 == t685))) = some r := by rw [if_pos rfl] at H; exact H
          clear H
          have H := H1
          clear H1
          replace H := Option.bind_eq_some_iff.mp H
          obtain ⟨t685, A370, H⟩ := H
          replace H : (some (t681 == t685)) = some r := H
          have A37 := Aside0.mk A370
          clear A370
          obtain rfl := Option.some.inj H
          have hnb38 := NB679_680.out
          have hnc38 := NB680_679.out
          have hcz39_0 : wc.cell? ⟨gb679, 0, none⟩ = some (.int .i64 t675) := (blk_cell BK679.out 0).trans rfl
          have hcz39_1 : wc.cell? ⟨gb679, 1, none⟩ = some (.int .i64 t676) := (blk_cell BK679.out 1).trans rfl
          have hfz39_0 := blk_frozen BK679.out 0
          have hfz39_1 := blk_frozen BK679.out 1
          have hcz40_0 : wc.cell? ⟨gb680, 0, none⟩ = some (.int .i64 t677) := (blk_cell BK680.out 0).trans rfl
          have hcz40_1 : wc.cell? ⟨gb680, 1, none⟩ = some (.int .i64 t678) := (blk_cell BK680.out 1).trans rfl
          have hfz40_0 := blk_frozen BK680.out 0
          have hfz40_1 := blk_frozen BK680.out 1
          go_wp2_with (first | ((with_reducible refine gate_callee (f := 24) rfl ?_); refine goesL_ (some 37) rfl rfl Try.func24 (by kernel_rfl) rfl #[.agg #[.int .i64 t675, .int .i64 t676], .agg #[.int .i64 t677, .int .i64 t678]] rfl (by (try simp only [List.map_toArray, List.map_cons, List.map_nil]); first | done | rfl | (simp only [List.length_drop, List.length_take]; rfl)) ?_; (with_reducible refine (spec_LabelFlows.calls kj4 t675 t676 t677 t678 t685 _ A37.out).mono ?_); rintro e w41 ⟨rfl, hb⟩; refine ⟨_, rfl, ?_⟩; have n0_ := Aside0.mk (blk_below (g := gb679) (o := .cells #[.int .i64 t675, .int .i64 t676] 26 (0, 0)) (by (with_reducible repeat (first | refine blk_drewN ?_ _ | refine blk_drew ?_ | refine blk_alloc ?_ _)); exact BK679.out) hb); have n1_ := Aside0.mk (blk_below (g := gb680) (o := .cells #[.int .i64 t677, .int .i64 t678] 26 (0, 0)) (by (with_reducible repeat (first | refine blk_drewN ?_ _ | refine blk_drew ?_ | refine blk_alloc ?_ _)); exact BK680.out) hb); have n2_ := Aside0.mk (below_step (by repeat (first | (with_reducible first | exact HB.out | apply below_alloc | apply pw_below_drewN | apply below_drew1 | refine below_set ?_ GE679.out | refine below_set ?_ GE680.out) | exact HB.out)) hb); clear BK679; clear BK680; clear HB; have BK679 := n0_; have BK680 := n1_; have HB := n2_; clear n0_ n1_ n2_; (try clear hb); (try clear hb2); (try clear hk); (try clear hi)))
          go_ret
          exact ⟨by first | rfl | (simp [errW_none, errW_some] <;> rfl) | (simp [*, errW_none, errW_some] <;> rfl), by repeat (first | (with_reducible first | exact HB.out | apply below_alloc | apply pw_below_drewN | apply below_drew1 | refine below_set ?_ GE679.out | refine below_set ?_ GE680.out) | exact HB.out)⟩
        · replace c36 := Bool.eq_false_iff.mpr c36
          subst c36
          have H1 : (laws_FnLabelFlows.l0 kj4 t681 true 0 t675 t676 t677 t678) = some r := by rw [if_neg (show ¬ (false = true) by decide)] at H; exact H
          clear H
          have H := H1
          clear H1
          have H' := Aside0.mk H
          clear H
          go_wp2
          go_loopg [6, 7] kj4 (fun kq v6 v7 w' => ∃ (x6_2 : Bool) (x7_2 : Int), v6 = .bool x6_2 ∧ v7 = .int .i64 x7_2 ∧ Aside0 (laws_FnLabelFlows.l0 kq t681 x6_2 x7_2 t675 t676 t677 t678 = some r) ∧ Aside0 (kq ≤ kj4) ∧ Aside0 (w'.heap[gb679]? = some (.cells #[.int .i64 t675, .int .i64 t676] 26 (0, 0))) ∧ Aside0 (w'.heap[gb680]? = some (.cells #[.int .i64 t677, .int .i64 t678] 26 (0, 0))) ∧ Aside0 (Below w.heap.size w w'))
          case atStart => exact ⟨(true), (0), (by first | rfl | (simp; done) | (simp [*]; done)), (by first | rfl | (simp; done) | (simp [*]; done)), H', ⟨Nat.le_refl _⟩, ⟨by (with_reducible repeat (first | refine blk_drewN ?_ _ | refine blk_drew ?_ | refine blk_alloc ?_ _)); exact BK679.out⟩, ⟨by (with_reducible repeat (first | refine blk_drewN ?_ _ | refine blk_drew ?_ | refine blk_alloc ?_ _)); exact BK680.out⟩, ⟨by repeat (first | (with_reducible first | exact HB.out | apply below_alloc | apply pw_below_drewN | apply below_drew1 | refine below_set ?_ GE679.out | refine below_set ?_ GE680.out) | exact HB.out)⟩⟩
          case round =>
            clear H'
            try clear c1
            try clear c2
            try clear c2b0
            try clear c2b1
            try clear p2
            try clear c3
            try clear c9
            try clear c11
            try clear c14
            try clear c14b0
            try clear c14b1
            try clear c14b2
            try clear c15
            try clear c20
            try clear c22
            try clear c24
            try clear c25
            try clear c30
            try clear c32
            try clear c36
            try clear c38
            try clear hcz10_0
            try clear hcz10_1
            try clear hcz11_0
            try clear hcz11_1
            try clear hcz16_0
            try clear hcz16_1
            try clear hcz17_0
            try clear hcz17_1
            try clear hcz23_0
            try clear hcz23_1
            try clear hcz24_0
            try clear hcz24_1
            try clear hcz26_0
            try clear hcz26_1
            try clear hcz28_0
            try clear hcz28_1
            try clear hcz31_0
            try clear hcz31_1
            try clear hcz32_0
            try clear hcz32_1
            try clear hcz34_0
            try clear hcz34_1
            try clear hcz39_0
            try clear hcz39_1
            try clear hcz40_0
            try clear hcz40_1
            try clear hfz10_0
            try clear hfz10_1
            try clear hfz11_0
            try clear hfz11_1
            try clear hfz16_0
            try clear hfz16_1
            try clear hfz17_0
            try clear hfz17_1
            try clear hfz23_0
            try clear hfz23_1
            try clear hfz24_0
            try clear hfz24_1
            try clear hfz26_0
            try clear hfz26_1
            try clear hfz28_0
            try clear hfz28_1
            try clear hfz31_0
            try clear hfz31_1
            try clear hfz32_0
            try clear hfz32_1
            try clear hfz34_0
            try clear hfz34_1
            try clear hfz39_0
            try clear hfz39_1
            try clear hfz40_0
            try clear hfz40_1
            try clear p2
            obtain ⟨x6_2, x7_2, rfl, rfl, HA, HK2, BK679, BK680, HB⟩ := hrel
            cases gk with
            | zero => exact absurd HA.out (by simp [laws_FnLabelFlows.l0])
            | succ k2 =>
              have H := HA.out
              clear HA
              simp only [laws_FnLabelFlows.l0] at H
              by_cases c42 : x7_2 < 3
              · rw [if_pos c42] at H
                have c42b0 : decide (x7_2 < 3) = true := decide_eq_true c42
                clear c42
                by_cases c43 : x6_2 = true
                · subst c43
                  have H1 : ((laws_lcHas.f t677 x7_2).bind fun t687 => (if t687 = true then ((laws_lcHas.f t675 x7_2).bind fun t688 => (if t688 = true then ((laws_lcHas.f t678 x7_2).bind fun t689 => (if t689 = true then ((laws_lcHas.f t676 x7_2).bind fun t690 => (laws_FnLabelFlows.l0 k2 t681 t690 (wrap64 (x7_2 + 1)) t675 t676 t677 t678)) else (laws_FnLabelFlows.l0 k2 t681 true (wrap64 (x7_2 + 1)) t675 t676 t677 t678))) else (laws_FnLabelFlows.l0 k2 t681 false (wrap64 (x7_2 + 1)) t675 t676 t677 t678))) else ((laws_lcHas.f t678 x7_2).bind fun t691 => (if t691 = true then ((laws_lcHas.f t676 x7_2).bind fun t692 => (laws_FnLabelFlows.l0 k2 t681 t692 (wrap64 (x7_2 + 1)) t675 t676 t677 t678)) else (laws_FnLabelFlows.l0 k2 t681 true (wrap64 (x7_2 + 1)) t675 t676 t677 t678))))) = some r := by rw [if_pos rfl] at H; exact H
                  clear H
                  have H := H1
                  clear H1
                  replace H := Option.bind_eq_some_iff.mp H
                  obtain ⟨t687, A440, H⟩ := H
                  replace H : (if t687 = true then ((laws_lcHas.f t675 x7_2).bind fun t688 => (if t688 = true then ((laws_lcHas.f t678 x7_2).bind fun t689 => (if t689 = true then ((laws_lcHas.f t676 x7_2).bind fun t690 => (laws_FnLabelFlows.l0 k2 t681 t690 (wrap64 (x7_2 + 1)) t675 t676 t677 t678)) else (laws_FnLabelFlows.l0 k2 t681 true (wrap64 (x7_2 + 1)) t675 t676 t677 t678))) else (laws_FnLabelFlows.l0 k2 t681 false (wrap64 (x7_2 + 1)) t675 t676 t677 t678))) else ((laws_lcHas.f t678 x7_2).bind fun t691 => (if t691 = true then ((laws_lcHas.f t676 x7_2).bind fun t692 => (laws_FnLabelFlows.l0 k2 t681 t692 (wrap64 (x7_2 + 1)) t675 t676 t677 t678)) else (laws_FnLabelFlows.l0 k2 t681 true (wrap64 (x7_2 + 1)) t675 t676 t677 t678)))) = some r := H
                  have A44 := Aside0.mk A440
                  clear A440
                  by_cases c45 : t687 = true
                  · subst c45
                    have H1 : ((laws_lcHas.f t675 x7_2).bind fun t688 => (if t688 = true then ((laws_lcHas.f t678 x7_2).bind fun t689 => (if t689 = true then ((laws_lcHas.f t676 x7_2).bind fun t690 => (laws_FnLabelFlows.l0 k2 t681 t690 (wrap64 (x7_2 + 1)) t675 t676 t677 t678)) else (laws_FnLabelFlows.l0 k2 t681 true (wrap64 (x7_2 + 1)) t675 t676 t677 t678))) else (laws_FnLabelFlows.l0 k2 t681 false (wrap64 (x7_2 + 1)) t675 t676 t677 t678))) = some r := by rw [if_pos rfl] at H; exact H
                    clear H
                    have H := H1
                    clear H1
                    replace H := Option.bind_eq_some_iff.mp H
                    obtain ⟨t688, A460, H⟩ := H
                    replace H : (if t688 = true then ((laws_lcHas.f t678 x7_2).bind fun t689 => (if t689 = true then ((laws_lcHas.f t676 x7_2).bind fun t690 => (laws_FnLabelFlows.l0 k2 t681 t690 (wrap64 (x7_2 + 1)) t675 t676 t677 t678)) else (laws_FnLabelFlows.l0 k2 t681 true (wrap64 (x7_2 + 1)) t675 t676 t677 t678))) else (laws_FnLabelFlows.l0 k2 t681 false (wrap64 (x7_2 + 1)) t675 t676 t677 t678)) = some r := H
                    have A46 := Aside0.mk A460
                    clear A460
                    by_cases c47 : t688 = true
                    · subst c47
                      have H1 : ((laws_lcHas.f t678 x7_2).bind fun t689 => (if t689 = true then ((laws_lcHas.f t676 x7_2).bind fun t690 => (laws_FnLabelFlows.l0 k2 t681 t690 (wrap64 (x7_2 + 1)) t675 t676 t677 t678)) else (laws_FnLabelFlows.l0 k2 t681 true (wrap64 (x7_2 + 1)) t675 t676 t677 t678))) = some r := by rw [if_pos rfl] at H; exact H
                      clear H
                      have H := H1
                      clear H1
                      replace H := Option.bind_eq_some_iff.mp H
                      obtain ⟨t689, A480, H⟩ := H
                      replace H : (if t689 = true then ((laws_lcHas.f t676 x7_2).bind fun t690 => (laws_FnLabelFlows.l0 k2 t681 t690 (wrap64 (x7_2 + 1)) t675 t676 t677 t678)) else (laws_FnLabelFlows.l0 k2 t681 true (wrap64 (x7_2 + 1)) t675 t676 t677 t678)) = some r := H
                      have A48 := Aside0.mk A480
                      clear A480
                      by_cases c49 : t689 = true
                      · subst c49
                        have H1 : ((laws_lcHas.f t676 x7_2).bind fun t690 => (laws_FnLabelFlows.l0 k2 t681 t690 (wrap64 (x7_2 + 1)) t675 t676 t677 t678)) = some r := by rw [if_pos rfl] at H; exact H
                        clear H
                        have H := H1
                        clear H1
                        replace H := Option.bind_eq_some_iff.mp H
                        obtain ⟨t690, A500, H⟩ := H
                        replace H : (laws_FnLabelFlows.l0 k2 t681 t690 (wrap64 (x7_2 + 1)) t675 t676 t677 t678) = some r := H
                        have A50 := Aside0.mk A500
                        clear A500
                        have H' := Aside0.mk H
                        clear H
                        have hnb51 := NB680_679.out
                        have hnc51 := NB679_680.out
                        have hcz52_0 : wr.cell? ⟨gb680, 0, none⟩ = some (.int .i64 t677) := (blk_cell BK680.out 0).trans rfl
                        have hcz52_1 : wr.cell? ⟨gb680, 1, none⟩ = some (.int .i64 t678) := (blk_cell BK680.out 1).trans rfl
                        have hfz52_0 := blk_frozen BK680.out 0
                        have hfz52_1 := blk_frozen BK680.out 1
                        go_wp2_with (first | (go_at_call 34; (with_reducible refine (laws_lcHas.calls t677 x7_2 true _ A44.out).mono ?_); rintro e w' ⟨rfl, ⟨nd, rfl⟩⟩; have hcz53_0 : wr.cell? ⟨gb679, 0, none⟩ = some (.int .i64 t675) := (blk_cell BK679.out 0).trans rfl; have hcz53_1 : wr.cell? ⟨gb679, 1, none⟩ = some (.int .i64 t676) := (blk_cell BK679.out 1).trans rfl; have hfz53_0 := blk_frozen BK679.out 0; have hfz53_1 := blk_frozen BK679.out 1) | (go_at_call 34; (with_reducible refine (laws_lcHas.calls t675 x7_2 true _ A46.out).mono ?_); rintro e w' ⟨rfl, ⟨nd, rfl⟩⟩) | (go_at_call 34; (with_reducible refine (laws_lcHas.calls t678 x7_2 true _ A48.out).mono ?_); rintro e w' ⟨rfl, ⟨nd, rfl⟩⟩) | (go_at_call 34; (with_reducible refine (laws_lcHas.calls t676 x7_2 t690 _ A50.out).mono ?_); rintro e w' ⟨rfl, ⟨nd, rfl⟩⟩))
                        go_roundg k2
                        case measure => have := HJ4.out; have := HK2.out; omega
                        case rel => exact ⟨(t690), (wrap64 (x7_2 + 1)), (by first | rfl | (simp; done) | (simp [*]; done)), (by first | rfl | (simp; done) | (simp [*]; done)), H', ⟨by have := HJ4.out; have := HK2.out; omega⟩, ⟨by (with_reducible repeat (first | refine blk_drewN ?_ _ | refine blk_drew ?_ | refine blk_alloc ?_ _)); exact BK679.out⟩, ⟨by (with_reducible repeat (first | refine blk_drewN ?_ _ | refine blk_drew ?_ | refine blk_alloc ?_ _)); exact BK680.out⟩, ⟨by repeat (first | (with_reducible first | exact HB.out | apply below_alloc | apply pw_below_drewN | apply below_drew1 | refine below_set ?_ GE679.out | refine below_set ?_ GE680.out) | exact HB.out)⟩⟩
                      · replace c49 := Bool.eq_false_iff.mpr c49
                        subst c49
                        have H1 : (laws_FnLabelFlows.l0 k2 t681 true (wrap64 (x7_2 + 1)) t675 t676 t677 t678) = some r := by rw [if_neg (show ¬ (false = true) by decide)] at H; exact H
                        clear H
                        have H := H1
                        clear H1
                        have H' := Aside0.mk H
                        clear H
                        have hnb54 := NB680_679.out
                        have hnc54 := NB679_680.out
                        have hcz55_0 : wr.cell? ⟨gb680, 0, none⟩ = some (.int .i64 t677) := (blk_cell BK680.out 0).trans rfl
                        have hcz55_1 : wr.cell? ⟨gb680, 1, none⟩ = some (.int .i64 t678) := (blk_cell BK680.out 1).trans rfl
                        have hfz55_0 := blk_frozen BK680.out 0
                        have hfz55_1 := blk_frozen BK680.out 1
                        go_wp2_with (first | (go_at_call 34; (with_reducible refine (laws_lcHas.calls t677 x7_2 true _ A44.out).mono ?_); rintro e w' ⟨rfl, ⟨nd, rfl⟩⟩; have hcz56_0 : wr.cell? ⟨gb679, 0, none⟩ = some (.int .i64 t675) := (blk_cell BK679.out 0).trans rfl; have hcz56_1 : wr.cell? ⟨gb679, 1, none⟩ = some (.int .i64 t676) := (blk_cell BK679.out 1).trans rfl; have hfz56_0 := blk_frozen BK679.out 0; have hfz56_1 := blk_frozen BK679.out 1) | (go_at_call 34; (with_reducible refine (laws_lcHas.calls t675 x7_2 true _ A46.out).mono ?_); rintro e w' ⟨rfl, ⟨nd, rfl⟩⟩) | (go_at_call 34; (with_reducible refine (laws_lcHas.calls t678 x7_2 false _ A48.out).mono ?_); rintro e w' ⟨rfl, ⟨nd, rfl⟩⟩))
                        go_roundg k2
                        case measure => have := HJ4.out; have := HK2.out; omega
                        case rel => exact ⟨(true), (wrap64 (x7_2 + 1)), (by first | rfl | (simp; done) | (simp [*]; done)), (by first | rfl | (simp; done) | (simp [*]; done)), H', ⟨by have := HJ4.out; have := HK2.out; omega⟩, ⟨by (with_reducible repeat (first | refine blk_drewN ?_ _ | refine blk_drew ?_ | refine blk_alloc ?_ _)); exact BK679.out⟩, ⟨by (with_reducible repeat (first | refine blk_drewN ?_ _ | refine blk_drew ?_ | refine blk_alloc ?_ _)); exact BK680.out⟩, ⟨by repeat (first | (with_reducible first | exact HB.out | apply below_alloc | apply pw_below_drewN | apply below_drew1 | refine below_set ?_ GE679.out | refine below_set ?_ GE680.out) | exact HB.out)⟩⟩
                    · replace c47 := Bool.eq_false_iff.mpr c47
                      subst c47
                      have H1 : (laws_FnLabelFlows.l0 k2 t681 false (wrap64 (x7_2 + 1)) t675 t676 t677 t678) = some r := by rw [if_neg (show ¬ (false = true) by decide)] at H; exact H
                      clear H
                      have H := H1
                      clear H1
                      have H' := Aside0.mk H
                      clear H
                      have hnb57 := NB680_679.out
                      have hnc57 := NB679_680.out
                      have hcz58_0 : wr.cell? ⟨gb680, 0, none⟩ = some (.int .i64 t677) := (blk_cell BK680.out 0).trans rfl
                      have hcz58_1 : wr.cell? ⟨gb680, 1, none⟩ = some (.int .i64 t678) := (blk_cell BK680.out 1).trans rfl
                      have hfz58_0 := blk_frozen BK680.out 0
                      have hfz58_1 := blk_frozen BK680.out 1
                      go_wp2_with (first | (go_at_call 34; (with_reducible refine (laws_lcHas.calls t677 x7_2 true _ A44.out).mono ?_); rintro e w' ⟨rfl, ⟨nd, rfl⟩⟩; have hcz59_0 : wr.cell? ⟨gb679, 0, none⟩ = some (.int .i64 t675) := (blk_cell BK679.out 0).trans rfl; have hcz59_1 : wr.cell? ⟨gb679, 1, none⟩ = some (.int .i64 t676) := (blk_cell BK679.out 1).trans rfl; have hfz59_0 := blk_frozen BK679.out 0; have hfz59_1 := blk_frozen BK679.out 1) | (go_at_call 34; (with_reducible refine (laws_lcHas.calls t675 x7_2 false _ A46.out).mono ?_); rintro e w' ⟨rfl, ⟨nd, rfl⟩⟩))
                      go_roundg k2
                      case measure => have := HJ4.out; have := HK2.out; omega
                      case rel => exact ⟨(false), (wrap64 (x7_2 + 1)), (by first | rfl | (simp; done) | (simp [*]; done)), (by first | rfl | (simp; done) | (simp [*]; done)), H', ⟨by have := HJ4.out; have := HK2.out; omega⟩, ⟨by (with_reducible repeat (first | refine blk_drewN ?_ _ | refine blk_drew ?_ | refine blk_alloc ?_ _)); exact BK679.out⟩, ⟨by (with_reducible repeat (first | refine blk_drewN ?_ _ | refine blk_drew ?_ | refine blk_alloc ?_ _)); exact BK680.out⟩, ⟨by repeat (first | (with_reducible first | exact HB.out | apply below_alloc | apply pw_below_drewN | apply below_drew1 | refine below_set ?_ GE679.out | refine below_set ?_ GE680.out) | exact HB.out)⟩⟩
                  · replace c45 := Bool.eq_false_iff.mpr c45
                    subst c45
                    have H1 : ((laws_lcHas.f t678 x7_2).bind fun t691 => (if t691 = true then ((laws_lcHas.f t676 x7_2).bind fun t692 => (laws_FnLabelFlows.l0 k2 t681 t692 (wrap64 (x7_2 + 1)) t675 t676 t677 t678)) else (laws_FnLabelFlows.l0 k2 t681 true (wrap64 (x7_2 + 1)) t675 t676 t677 t678))) = some r := by rw [if_neg (show ¬ (false = true) by decide)] at H; exact H
                    clear H
                    have H := H1
                    clear H1
                    replace H := Option.bind_eq_some_iff.mp H
                    obtain ⟨t691, A600, H⟩ := H
                    replace H : (if t691 = true then ((laws_lcHas.f t676 x7_2).bind fun t692 => (laws_FnLabelFlows.l0 k2 t681 t692 (wrap64 (x7_2 + 1)) t675 t676 t677 t678)) else (laws_FnLabelFlows.l0 k2 t681 true (wrap64 (x7_2 + 1)) t675 t676 t677 t678)) = some r := H
                    have A60 := Aside0.mk A600
                    clear A600
                    by_cases c61 : t691 = true
                    · subst c61
                      have H1 : ((laws_lcHas.f t676 x7_2).bind fun t692 => (laws_FnLabelFlows.l0 k2 t681 t692 (wrap64 (x7_2 + 1)) t675 t676 t677 t678)) = some r := by rw [if_pos rfl] at H; exact H
                      clear H
                      have H := H1
                      clear H1
                      replace H := Option.bind_eq_some_iff.mp H
                      obtain ⟨t692, A620, H⟩ := H
                      replace H : (laws_FnLabelFlows.l0 k2 t681 t692 (wrap64 (x7_2 + 1)) t675 t676 t677 t678) = some r := H
                      have A62 := Aside0.mk A620
                      clear A620
                      have H' := Aside0.mk H
                      clear H
                      have hnb63 := NB680_679.out
                      have hnc63 := NB679_680.out
                      have hcz64_0 : wr.cell? ⟨gb680, 0, none⟩ = some (.int .i64 t677) := (blk_cell BK680.out 0).trans rfl
                      have hcz64_1 : wr.cell? ⟨gb680, 1, none⟩ = some (.int .i64 t678) := (blk_cell BK680.out 1).trans rfl
                      have hfz64_0 := blk_frozen BK680.out 0
                      have hfz64_1 := blk_frozen BK680.out 1
                      go_wp2_with (first | (go_at_call 34; (with_reducible refine (laws_lcHas.calls t677 x7_2 false _ A44.out).mono ?_); rintro e w' ⟨rfl, ⟨nd, rfl⟩⟩) | (go_at_call 34; (with_reducible refine (laws_lcHas.calls t678 x7_2 true _ A60.out).mono ?_); rintro e w' ⟨rfl, ⟨nd, rfl⟩⟩; have hcz65_0 : wr.cell? ⟨gb679, 0, none⟩ = some (.int .i64 t675) := (blk_cell BK679.out 0).trans rfl; have hcz65_1 : wr.cell? ⟨gb679, 1, none⟩ = some (.int .i64 t676) := (blk_cell BK679.out 1).trans rfl; have hfz65_0 := blk_frozen BK679.out 0; have hfz65_1 := blk_frozen BK679.out 1) | (go_at_call 34; (with_reducible refine (laws_lcHas.calls t676 x7_2 t692 _ A62.out).mono ?_); rintro e w' ⟨rfl, ⟨nd, rfl⟩⟩))
                      go_roundg k2
                      case measure => have := HJ4.out; have := HK2.out; omega
                      case rel => exact ⟨(t692), (wrap64 (x7_2 + 1)), (by first | rfl | (simp; done) | (simp [*]; done)), (by first | rfl | (simp; done) | (simp [*]; done)), H', ⟨by have := HJ4.out; have := HK2.out; omega⟩, ⟨by (with_reducible repeat (first | refine blk_drewN ?_ _ | refine blk_drew ?_ | refine blk_alloc ?_ _)); exact BK679.out⟩, ⟨by (with_reducible repeat (first | refine blk_drewN ?_ _ | refine blk_drew ?_ | refine blk_alloc ?_ _)); exact BK680.out⟩, ⟨by repeat (first | (with_reducible first | exact HB.out | apply below_alloc | apply pw_below_drewN | apply below_drew1 | refine below_set ?_ GE679.out | refine below_set ?_ GE680.out) | exact HB.out)⟩⟩
                    · replace c61 := Bool.eq_false_iff.mpr c61
                      subst c61
                      have H1 : (laws_FnLabelFlows.l0 k2 t681 true (wrap64 (x7_2 + 1)) t675 t676 t677 t678) = some r := by rw [if_neg (show ¬ (false = true) by decide)] at H; exact H
                      clear H
                      have H := H1
                      clear H1
                      have H' := Aside0.mk H
                      clear H
                      have hnb66 := NB680_679.out
                      have hnc66 := NB679_680.out
                      have hcz67_0 : wr.cell? ⟨gb680, 0, none⟩ = some (.int .i64 t677) := (blk_cell BK680.out 0).trans rfl
                      have hcz67_1 : wr.cell? ⟨gb680, 1, none⟩ = some (.int .i64 t678) := (blk_cell BK680.out 1).trans rfl
                      have hfz67_0 := blk_frozen BK680.out 0
                      have hfz67_1 := blk_frozen BK680.out 1
                      go_wp2_with (first | (go_at_call 34; (with_reducible refine (laws_lcHas.calls t677 x7_2 false _ A44.out).mono ?_); rintro e w' ⟨rfl, ⟨nd, rfl⟩⟩) | (go_at_call 34; (with_reducible refine (laws_lcHas.calls t678 x7_2 false _ A60.out).mono ?_); rintro e w' ⟨rfl, ⟨nd, rfl⟩⟩))
                      go_roundg k2
                      case measure => have := HJ4.out; have := HK2.out; omega
                      case rel => exact ⟨(true), (wrap64 (x7_2 + 1)), (by first | rfl | (simp; done) | (simp [*]; done)), (by first | rfl | (simp; done) | (simp [*]; done)), H', ⟨by have := HJ4.out; have := HK2.out; omega⟩, ⟨by (with_reducible repeat (first | refine blk_drewN ?_ _ | refine blk_drew ?_ | refine blk_alloc ?_ _)); exact BK679.out⟩, ⟨by (with_reducible repeat (first | refine blk_drewN ?_ _ | refine blk_drew ?_ | refine blk_alloc ?_ _)); exact BK680.out⟩, ⟨by repeat (first | (with_reducible first | exact HB.out | apply below_alloc | apply pw_below_drewN | apply below_drew1 | refine below_set ?_ GE679.out | refine below_set ?_ GE680.out) | exact HB.out)⟩⟩
                · replace c43 := Bool.eq_false_iff.mpr c43
                  subst c43
                  have H1 : (laws_FnLabelFlows.l0 k2 t681 false (wrap64 (x7_2 + 1)) t675 t676 t677 t678) = some r := by rw [if_neg (show ¬ (false = true) by decide)] at H; exact H
                  clear H
                  have H := H1
                  clear H1
                  have H' := Aside0.mk H
                  clear H
                  go_wp2
                  go_roundg k2
                  case measure => have := HJ4.out; have := HK2.out; omega
                  case rel => exact ⟨(false), (wrap64 (x7_2 + 1)), (by first | rfl | (simp; done) | (simp [*]; done)), (by first | rfl | (simp; done) | (simp [*]; done)), H', ⟨by have := HJ4.out; have := HK2.out; omega⟩, ⟨by (with_reducible repeat (first | refine blk_drewN ?_ _ | refine blk_drew ?_ | refine blk_alloc ?_ _)); exact BK679.out⟩, ⟨by (with_reducible repeat (first | refine blk_drewN ?_ _ | refine blk_drew ?_ | refine blk_alloc ?_ _)); exact BK680.out⟩, ⟨by repeat (first | (with_reducible first | exact HB.out | apply below_alloc | apply pw_below_drewN | apply below_drew1 | refine below_set ?_ GE679.out | refine below_set ?_ GE680.out) | exact HB.out)⟩⟩
              · rw [if_neg c42] at H
                have c42b0 : decide (x7_2 < 3) = false := decide_eq_false c42
                clear c42
                by_cases c68 : (t681 == x6_2) = true
                · rw [if_pos c68] at H
                  have c68b0 : (t681 == x6_2) = true := c68
                  (try (have c68b1 : decide (t681 = x6_2) = true := by simpa using c68))
                  (try (have c68b2 : (t681 == x6_2) = true := by simpa using c68))
                  clear c68
                  replace H := Option.bind_eq_some_iff.mp H
                  obtain ⟨t686, A690, H⟩ := H
                  replace H : (some t686) = some r := H
                  have A69 := Aside0.mk A690
                  clear A690
                  obtain rfl := Option.some.inj H
                  have hnb70 := NB679_680.out
                  have hnc70 := NB680_679.out
                  have hcz71_0 : wr.cell? ⟨gb679, 0, none⟩ = some (.int .i64 t675) := (blk_cell BK679.out 0).trans rfl
                  have hcz71_1 : wr.cell? ⟨gb679, 1, none⟩ = some (.int .i64 t676) := (blk_cell BK679.out 1).trans rfl
                  have hfz71_0 := blk_frozen BK679.out 0
                  have hfz71_1 := blk_frozen BK679.out 1
                  go_wp2_with (first | (go_at_call 25; (with_reducible refine (impl_LabelFlows.calls t675 t676 t675 t676 t686 _ A69.out).mono ?_); rintro e w72 ⟨rfl, hb⟩; have n0_ := Aside0.mk (blk_below (g := gb679) (o := .cells #[.int .i64 t675, .int .i64 t676] 26 (0, 0)) (by (with_reducible repeat (first | refine blk_drewN ?_ _ | refine blk_drew ?_ | refine blk_alloc ?_ _)); exact BK679.out) hb); have n1_ := Aside0.mk (blk_below (g := gb680) (o := .cells #[.int .i64 t677, .int .i64 t678] 26 (0, 0)) (by (with_reducible repeat (first | refine blk_drewN ?_ _ | refine blk_drew ?_ | refine blk_alloc ?_ _)); exact BK680.out) hb); have n2_ := Aside0.mk (below_step (by repeat (first | (with_reducible first | exact HB.out | apply below_alloc | apply pw_below_drewN | apply below_drew1 | refine below_set ?_ GE679.out | refine below_set ?_ GE680.out) | exact HB.out)) hb); clear BK679; clear BK680; clear HB; have BK679 := n0_; have BK680 := n1_; have HB := n2_; clear n0_ n1_ n2_; (try clear hb); (try clear hb2); (try clear hk); (try clear hi)))
                  go_ret
                  exact ⟨by first | rfl | (simp [errW_none, errW_some] <;> rfl) | (simp [*, errW_none, errW_some] <;> rfl), by repeat (first | (with_reducible first | exact HB.out | apply below_alloc | apply pw_below_drewN | apply below_drew1 | refine below_set ?_ GE679.out | refine below_set ?_ GE680.out) | exact HB.out)⟩
                · rw [if_neg c68] at H
                  have c68b0 : (t681 == x6_2) = false := by simpa using c68
                  (try (have c68b1 : decide (t681 = x6_2) = false := by simpa using c68))
                  (try (have c68b2 : (t681 == x6_2) = false := by simpa using c68))
                  (try (have c68b3 : ¬ (t681 = x6_2) := by simpa using c68))
                  clear c68
                  obtain rfl := Option.some.inj H
                  go_wp2
                  go_ret
                  exact ⟨by first | rfl | (simp [errW_none, errW_some] <;> rfl) | (simp [*, errW_none, errW_some] <;> rfl), by repeat (first | (with_reducible first | exact HB.out | apply below_alloc | apply pw_below_drewN | apply below_drew1 | refine below_set ?_ GE679.out | refine below_set ?_ GE680.out) | exact HB.out)⟩

end Go.Proofs.Ytcndpbegmdcelaa.A
