/- What Go functions compute, as Lean functions, and for each its contract: for every input at which the Lean function answers the call returns that; written by wip/tools/pr.py over the kit's print. -/
import Derived.Test.YtcndpbegmdcelaaAx0
import Derived.Test.YtcndpbegmdcelaaAx1
import Derived.Test.YtcndpbegmdcelaaAx3
import Derived.Test.YtcndpbegmdcelaaAx8
import Derived.Test.YtcndpbegmdcelaaAx11
import Derived.Test.YtcndpbegmdcelaaAx13
import Derived.Test.YtcndpbegmdcelaaAx53
import Derived.Test.YtcndpbegmdcelaaAx57
namespace Go.Proofs.Ytcndpbegmdcelaa.A
open Go.RowKit Go.Proofs.YtcndpbegmdcelaaW.PrintWords Go.Proofs.YtcndpbegmdcelaaW.PrintLast Go.Proofs.YtcndpbegmdcelaaW.PrintMore
attribute [local go_sem] max2_int min2_int max_two min_two max_three min_three max_four min_four   -- for this text's walks alone
set_option linter.unusedVariables false
set_option linter.unusedSimpArgs false

attribute [local go_sem high] eqA26
/-! ### laws_FnLabelBoth: function 10 -/
mutual
def laws_FnLabelBoth.j0 : Nat → List Int → List Int → Bool → Option (Bool)
  | 0, _, _, _ => none
  | k + 1, x0, x1, x16 => if x16 = true then (some true) else ((spec_DrawLabelBoth.f k x0).bind fun bt652 => ((spec_DrawLabelText.f k x1).bind fun bt658 => ((impl_LabelBoth.f bt652.1 bt652.2.1 bt652.2.2.1 bt652.2.2.2).bind fun bt661 => ((spec_LabelBoth.f k bt652.1 bt652.2.1 bt652.2.2.1 bt652.2.2.2).bind fun bt664 => (if (!(bt661.1 == bt664.1) || (!(bt661.2 == bt664.2))) = true then (laws_FnLabelBoth.j1 k true bt652.1 bt652.2.1 bt652.2.2.1 bt652.2.2.2 bt658.1 bt658.2 bt661.1 bt661.2) else ((spec_LabelOk.f bt652.1 bt652.2.1).bind fun t666 => (if t666 = true then ((spec_LabelOk.f bt652.2.2.1 bt652.2.2.2).bind fun t667 => (laws_FnLabelBoth.j1 k (!t667) bt652.1 bt652.2.1 bt652.2.2.1 bt652.2.2.2 bt658.1 bt658.2 bt661.1 bt661.2)) else (laws_FnLabelBoth.j1 k true bt652.1 bt652.2.1 bt652.2.2.1 bt652.2.2.2 bt658.1 bt658.2 bt661.1 bt661.2))))))))
def laws_FnLabelBoth.j1 : Nat → Bool → Int → Int → Int → Int → Int → Int → Int → Int → Option (Bool)
  | 0, _, _, _, _, _, _, _, _, _ => none
  | k + 1, x41, x657000, x657001, x658000, x658001, x661000, x661001, x664000, x664001 => if x41 = true then ((spec_LabelBoth.f k x657000 x657001 x658000 x658001).bind fun bt668 => (some (x664000 == bt668.1 && (x664001 == bt668.2)))) else ((impl_LabelFlows.f x657000 x657001 x664000 x664001).bind fun t670 => (if t670 = true then ((impl_LabelFlows.f x658000 x658001 x664000 x664001).bind fun t671 => (if t671 = true then ((impl_LabelFlows.f x657000 x657001 x661000 x661001).bind fun t672 => (if t672 = true then ((impl_LabelFlows.f x658000 x658001 x661000 x661001).bind fun t673 => (if t673 = true then ((impl_LabelFlows.f x664000 x664001 x661000 x661001).bind fun t674 => (some t674)) else (some true))) else (some true))) else (some false))) else (some false)))
end
def laws_FnLabelBoth.f (k : Nat) (l0 : List Int) (l1 : List Int) : Option (Bool) := if (l0.length : Int) > 1048576 then (laws_FnLabelBoth.j0 k l0 l1 true) else (laws_FnLabelBoth.j0 k l0 l1 (decide ((l1.length : Int) > 1048576)))
theorem laws_FnLabelBoth.mono_l : ∀ k, (∀ y0 y1 y2, LeO (laws_FnLabelBoth.j0 k y0 y1 y2) (laws_FnLabelBoth.j0 (k + 1) y0 y1 y2)) ∧ (∀ y0 y1 y2 y3 y4 y5 y6 y7 y8, LeO (laws_FnLabelBoth.j1 k y0 y1 y2 y3 y4 y5 y6 y7 y8) (laws_FnLabelBoth.j1 (k + 1) y0 y1 y2 y3 y4 y5 y6 y7 y8))
  | 0 => ⟨fun _ _ _ r h => by simp [laws_FnLabelBoth.j0] at h, fun _ _ _ _ _ _ _ _ _ r h => by simp [laws_FnLabelBoth.j1] at h⟩
  | k + 1 => by
    obtain ⟨ih0, ih1⟩ := laws_FnLabelBoth.mono_l k
    refine ⟨?_, ?_⟩
    · intro y0 y1 y2
      unfold laws_FnLabelBoth.j0
      repeat' first
      | (with_reducible exact ih0 _ _ _)
      | (with_reducible exact ih1 _ _ _ _ _ _ _ _ _)
      | (with_reducible exact spec_DrawLabelBoth.mono _ _)
      | (with_reducible exact spec_DrawLabelText.mono _ _)
      | (with_reducible exact spec_LabelBoth.mono _ _ _ _ _)
      | (with_reducible exact LeO.refl _)
      | (with_reducible exact LeO.none _)
      | (with_reducible refine LeO.ite ?_ ?_)
      | (with_reducible refine LeO.bind ?_ (fun _ => ?_))
      | exact ih0 _ _ _
      | exact ih1 _ _ _ _ _ _ _ _ _
      | exact spec_DrawLabelBoth.mono _ _
      | exact spec_DrawLabelText.mono _ _
      | exact spec_LabelBoth.mono _ _ _ _ _
      | exact LeO.none _
      | refine LeO.ite ?_ ?_
      | refine LeO.bind ?_ (fun _ => ?_)
    · intro y0 y1 y2 y3 y4 y5 y6 y7 y8
      unfold laws_FnLabelBoth.j1
      repeat' first
      | (with_reducible exact ih0 _ _ _)
      | (with_reducible exact ih1 _ _ _ _ _ _ _ _ _)
      | (with_reducible exact spec_DrawLabelBoth.mono _ _)
      | (with_reducible exact spec_DrawLabelText.mono _ _)
      | (with_reducible exact spec_LabelBoth.mono _ _ _ _ _)
      | (with_reducible exact LeO.refl _)
      | (with_reducible exact LeO.none _)
      | (with_reducible refine LeO.ite ?_ ?_)
      | (with_reducible refine LeO.bind ?_ (fun _ => ?_))
      | exact ih0 _ _ _
      | exact ih1 _ _ _ _ _ _ _ _ _
      | exact spec_DrawLabelBoth.mono _ _
      | exact spec_DrawLabelText.mono _ _
      | exact spec_LabelBoth.mono _ _ _ _ _
      | exact LeO.none _
      | refine LeO.ite ?_ ?_
      | refine LeO.bind ?_ (fun _ => ?_)
theorem laws_FnLabelBoth.mono : ∀ a0 a1 k, LeO (laws_FnLabelBoth.f k a0 a1) (laws_FnLabelBoth.f (k + 1) a0 a1) := by
  intro a0 a1 k
  obtain ⟨ih0, ih1⟩ := laws_FnLabelBoth.mono_l k
  unfold laws_FnLabelBoth.f
  repeat' first
      | (with_reducible exact ih0 _ _ _)
      | (with_reducible exact ih1 _ _ _ _ _ _ _ _ _)
      | (with_reducible exact spec_DrawLabelBoth.mono _ _)
      | (with_reducible exact spec_DrawLabelText.mono _ _)
      | (with_reducible exact spec_LabelBoth.mono _ _ _ _ _)
      | (with_reducible exact LeO.refl _)
      | (with_reducible exact LeO.none _)
      | (with_reducible refine LeO.ite ?_ ?_)
      | (with_reducible refine LeO.bind ?_ (fun _ => ?_))
      | exact ih0 _ _ _
      | exact ih1 _ _ _ _ _ _ _ _ _
      | exact spec_DrawLabelBoth.mono _ _
      | exact spec_DrawLabelText.mono _ _
      | exact spec_LabelBoth.mono _ _ _ _ _
      | exact LeO.none _
      | refine LeO.ite ?_ ?_
      | refine LeO.bind ?_ (fun _ => ?_)
def laws_FnLabelBoth.T6 : Bool × List (List Nat × List Nat) := (true, [([], []), ([], []), ([], []), ([1, 2], [1, 2]), ([0, 3], [0, 3]), ([4, 3], [4]), ([5], [5]), ([6, 5, 5], [5, 6]), ([7, 5], [5, 7]), ([5, 8], [5, 8]), ([9, 7], [9]), ([10], [10]), ([11, 10, 10], [10, 11]), ([12, 10], [10, 12]), ([10, 13], [10, 13])])
def laws_FnLabelBoth.B6 : List Nat := [0, 0, 0, 6, 15, 31, 63, 127, 255, 511, 1023, 2047, 4095, 8191, 16383]
theorem laws_FnLabelBoth.tab6 : rtab .any (opsOf Try.f10 6) = laws_FnLabelBoth.T6 := by kernel_rfl
theorem laws_FnLabelBoth.bits6 : waitsOk laws_FnLabelBoth.T6.2 laws_FnLabelBoth.B6 = true := by kernel_rfl
set_option maxHeartbeats 8000000 in
set_option maxRecDepth 100000 in
theorem laws_FnLabelBoth.calls (k : Nat) (A0 : Option Addr) (c0 : Nat) (l0 : List Int) (A1 : Option Addr) (c1 : Nat) (l1 : List Int) (r : Bool) (w : World) (hr0 : Kd.C (Kd.int .u8) w A0 l0.length l0) (hc0 : l0.length ≤ c0) (hr1 : Kd.C (Kd.int .u8) w A1 l1.length l1) (hc1 : l1.length ≤ c1) (h : laws_FnLabelBoth.f k l0 l1 = some r) :
    Calls Try.prog 10 #[.slice A0 l0.length c0, .slice A1 l1.length c1] w fun e w' => e = .returned (.bool r) ∧ Below w.heap.size w w' := by
  have hu26 := Try.underlying26
  have HR0 := Aside0.mk hr0
  have HC0 := Aside0.mk hc0
  clear hr0 hc0
  have HR1 := Aside0.mk hr1
  have HC1 := Aside0.mk hc1
  clear hr1 hc1
  have HB := Aside0.mk (Below.refl w.heap.size w)
  have H : (if (l0.length : Int) > 1048576 then (laws_FnLabelBoth.j0 k l0 l1 true) else (laws_FnLabelBoth.j0 k l0 l1 (decide ((l1.length : Int) > 1048576)))) = some r := h
  clear h
  have HC3 := Aside0.mk H
  clear H
  go_enter Try.func10, Try.ntmps10
  go_upto_region 1 with (fail)
  go_cut [16] (fun v16 wc => ∃ (kq : Nat) (x16_2 : Bool), v16 = .bool x16_2 ∧ Aside0 (laws_FnLabelBoth.j0 kq l0 l1 x16_2 = some r) ∧ Aside0 (kq ≤ k) ∧ Aside0 (Below w.heap.size w wc))
  case first =>
    have H := HC3.out
    clear HC3
    by_cases c4 : (l0.length : Int) > 1048576
    · rw [if_pos c4] at H
      have c4b0 : decide (1048576 < (l0.length : Int)) = true := decide_eq_true c4
      have c4b1 : decide (1048576 < l0.length) = true := decide_eq_true (by omega)
      clear c4
      (first | rw [c4b0] | (simp only [i64_w, i32_w]; rw [c4b0]) | skip)
      have H' := Aside0.mk H
      clear H
      go_wp2
      go_meet
      case rel => exact ⟨_, (true), (by first | rfl | (simp; done) | (simp [*]; done)), H', ⟨by first | omega | exact Nat.le_refl _⟩, ⟨by repeat (first | (with_reducible first | exact HB.out | apply below_alloc | apply pw_below_drewN | apply below_drew1) | exact HB.out)⟩⟩
    · rw [if_neg c4] at H
      have c4b0 : decide (1048576 < (l0.length : Int)) = false := decide_eq_false c4
      have c4b1 : decide (1048576 < l0.length) = false := decide_eq_false (by omega)
      clear c4
      (first | rw [c4b0] | (simp only [i64_w, i32_w]; rw [c4b0]) | skip)
      have H' := Aside0.mk H
      clear H
      go_wp2
      go_meet
      case rel => exact ⟨_, (decide ((l1.length : Int) > 1048576)), (by first | rfl | (simp; done) | (simp [*]; done)), H', ⟨by first | omega | exact Nat.le_refl _⟩, ⟨by repeat (first | (with_reducible first | exact HB.out | apply below_alloc | apply pw_below_drewN | apply below_drew1) | exact HB.out)⟩⟩
  case rest =>
    clear HC3
    try clear c1
    try clear p2
    try clear c4
    try clear c4b0
    try clear c4b1
    obtain ⟨kq, x16_2, rfl, HA, HJ2, HB⟩ := hcut
    cases kq with
    | zero => exact absurd HA.out (by simp [laws_FnLabelBoth.j0])
    | succ kj2 =>
      have H := HA.out
      clear HA
      simp only [laws_FnLabelBoth.j0] at H
      by_cases c5 : x16_2 = true
      · subst c5
        have H1 : (some true) = some r := by rw [if_pos rfl] at H; exact H
        clear H
        have H := H1
        clear H1
        obtain rfl := Option.some.inj H
        go_wp2
        go_ret
        exact ⟨by first | rfl | (simp [errW_none, errW_some] <;> rfl) | (simp [*, errW_none, errW_some] <;> rfl), by repeat (first | (with_reducible first | exact HB.out | apply below_alloc | apply pw_below_drewN | apply below_drew1) | exact HB.out)⟩
      · replace c5 := Bool.eq_false_iff.mpr c5
        subst c5
        have H1 : ((spec_DrawLabelBoth.f kj2 l0).bind fun bt652 => ((spec_DrawLabelText.f kj2 l1).bind fun bt658 => ((impl_LabelBoth.f bt652.1 bt652.2.1 bt652.2.2.1 bt652.2.2.2).bind fun bt661 => ((spec_LabelBoth.f kj2 bt652.1 bt652.2.1 bt652.2.2.1 bt652.2.2.2).bind fun bt664 => (if (!(bt661.1 == bt664.1) || (!(bt661.2 == bt664.2))) = true then (laws_FnLabelBoth.j1 kj2 true bt652.1 bt652.2.1 bt652.2.2.1 bt652.2.2.2 bt658.1 bt658.2 bt661.1 bt661.2) else ((spec_LabelOk.f bt652.1 bt652.2.1).bind fun t666 => (if t666 = true then ((spec_LabelOk.f bt652.2.2.1 bt652.2.2.2).bind fun t667 => (laws_FnLabelBoth.j1 kj2 (!t667) bt652.1 bt652.2.1 bt652.2.2.1 bt652.2.2.2 bt658.1 bt658.2 bt661.1 bt661.2)) else (laws_FnLabelBoth.j1 kj2 true bt652.1 bt652.2.1 bt652.2.2.1 bt652.2.2.2 bt658.1 bt658.2 bt661.1 bt661.2)))))))) = some r := by rw [if_neg (show ¬ (false = true) by decide)] at H; exact H
        clear H
        have H := H1
        clear H1
        replace H := Option.bind_eq_some_iff.mp H
        obtain ⟨⟨t652, t653, t654, t655⟩, A60, H⟩ := H
        replace H : ((spec_DrawLabelText.f kj2 l1).bind fun bt658 => ((impl_LabelBoth.f t652 t653 t654 t655).bind fun bt661 => ((spec_LabelBoth.f kj2 t652 t653 t654 t655).bind fun bt664 => (if (!(bt661.1 == bt664.1) || (!(bt661.2 == bt664.2))) = true then (laws_FnLabelBoth.j1 kj2 true t652 t653 t654 t655 bt658.1 bt658.2 bt661.1 bt661.2) else ((spec_LabelOk.f t652 t653).bind fun t666 => (if t666 = true then ((spec_LabelOk.f t654 t655).bind fun t667 => (laws_FnLabelBoth.j1 kj2 (!t667) t652 t653 t654 t655 bt658.1 bt658.2 bt661.1 bt661.2)) else (laws_FnLabelBoth.j1 kj2 true t652 t653 t654 t655 bt658.1 bt658.2 bt661.1 bt661.2))))))) = some r := H
        have A6 := Aside0.mk A60
        clear A60
        replace H := Option.bind_eq_some_iff.mp H
        obtain ⟨⟨t658, t659⟩, A70, H⟩ := H
        replace H : ((impl_LabelBoth.f t652 t653 t654 t655).bind fun bt661 => ((spec_LabelBoth.f kj2 t652 t653 t654 t655).bind fun bt664 => (if (!(bt661.1 == bt664.1) || (!(bt661.2 == bt664.2))) = true then (laws_FnLabelBoth.j1 kj2 true t652 t653 t654 t655 t658 t659 bt661.1 bt661.2) else ((spec_LabelOk.f t652 t653).bind fun t666 => (if t666 = true then ((spec_LabelOk.f t654 t655).bind fun t667 => (laws_FnLabelBoth.j1 kj2 (!t667) t652 t653 t654 t655 t658 t659 bt661.1 bt661.2)) else (laws_FnLabelBoth.j1 kj2 true t652 t653 t654 t655 t658 t659 bt661.1 bt661.2)))))) = some r := H
        have A7 := Aside0.mk A70
        clear A70
        replace H := Option.bind_eq_some_iff.mp H
        obtain ⟨⟨t661, t662⟩, A80, H⟩ := H
        replace H : ((spec_LabelBoth.f kj2 t652 t653 t654 t655).bind fun bt664 => (if (!(t661 == bt664.1) || (!(t662 == bt664.2))) = true then (laws_FnLabelBoth.j1 kj2 true t652 t653 t654 t655 t658 t659 t661 t662) else ((spec_LabelOk.f t652 t653).bind fun t666 => (if t666 = true then ((spec_LabelOk.f t654 t655).bind fun t667 => (laws_FnLabelBoth.j1 kj2 (!t667) t652 t653 t654 t655 t658 t659 t661 t662)) else (laws_FnLabelBoth.j1 kj2 true t652 t653 t654 t655 t658 t659 t661 t662))))) = some r := H
        have A8 := Aside0.mk A80
        clear A80
        have HC9 := Aside0.mk H
        clear H
        go_upto_region 6 with (first | ((with_reducible refine gate_callee (f := 33) rfl ?_); refine goesL_ (some 19) rfl rfl Try.func33 (by kernel_rfl) rfl #[.slice A0 l0.length c0] rfl (by (try simp only [List.map_toArray, List.map_cons, List.map_nil]); first | done | rfl | (simp only [List.length_drop, List.length_take]; rfl)) ?_; (with_reducible refine (spec_DrawLabelBoth.calls kj2 _ _ l0 t652 t653 t654 t655 _ ?side1 ?side2 A6.out).mono ?_); (case side1 => repeat (first | exact (Kd.C_below HR0.out HB.out) | (with_reducible refine Kd.C_alloc ?_ _) | (with_reducible refine Kd.C_drewN ?_ _) | (with_reducible refine Kd.C_drew ?_))); (case side2 => exact HC0.out); rintro e w10 ⟨rfl, hb⟩; refine ⟨_, rfl, ?_⟩; have n0_ := Aside0.mk (below_step (by repeat (first | (with_reducible first | exact HB.out | apply below_alloc | apply pw_below_drewN | apply below_drew1) | exact HB.out)) hb); clear HB; have HB := n0_; clear n0_; (try clear hb); (try clear hb2); (try clear hk); (try clear hi)) | ((with_reducible refine gate_dst (N := 5) rfl ?_); refine box_event ?hg (N := 5) ?hd (cs := #[.int .i64 0, .int .i64 0]) (t := 26) ?hr ?_; (case hd => rfl); (case hg => rfl); (case hr => first | (go_simp; done) | (go_simp; rfl)); intro gb656 hg w11 hbox hb; have n0_ := Aside0.mk (below_step (by repeat (first | (with_reducible first | exact HB.out | apply below_alloc | apply pw_below_drewN | apply below_drew1) | exact HB.out)) hb); have n1_ := Aside0.mk (hbox); have n2_ := Aside0.mk ((by rw [hg]; exact (below_size (by repeat (first | (with_reducible first | exact HB.out | apply below_alloc | apply pw_below_drewN | apply below_drew1) | exact HB.out))) : w.heap.size ≤ gb656)); have n3_ := Aside0.mk ((by rw [hg]; exact (below_size (by repeat (first | (with_reducible first | exact HB.out | apply below_alloc | apply pw_below_drewN | apply below_drew1) | exact HB.out))) : w.heap.size ≤ gb656)); clear HB; have HB := n0_; have BK656 := n1_; have GW656 := n2_; have GE656 := n3_; clear n0_ n1_ n2_ n3_; clear hb hbox hg) | ((with_reducible refine gate_dst (N := 6) rfl ?_); refine box_event ?hg (N := 6) ?hd (cs := #[.int .i64 0, .int .i64 0]) (t := 26) ?hr ?_; (case hd => rfl); (case hg => rfl); (case hr => first | (go_simp; done) | (go_simp; rfl)); intro gb657 hg w12 hbox hb; have n0_ := Aside0.mk (blk_below (g := gb656) (o := .cells #[.int .i64 0, .int .i64 0] 26 (0, 0)) (by (with_reducible repeat (first | refine blk_drewN ?_ _ | refine blk_drew ?_ | refine blk_alloc ?_ _)); exact BK656.out) hb); have n1_ := Aside0.mk (below_step (by repeat (first | (with_reducible first | exact HB.out | apply below_alloc | apply pw_below_drewN | apply below_drew1 | refine below_set ?_ GE656.out) | exact HB.out)) hb); have n2_ := Aside0.mk (hbox); have n3_ := Aside0.mk ((by rw [hg]; exact (below_size (by repeat (first | (with_reducible first | exact HB.out | apply below_alloc | apply pw_below_drewN | apply below_drew1 | refine below_set ?_ GE656.out) | exact HB.out))) : w.heap.size ≤ gb657)); have n4_ := Aside0.mk ((by rw [hg]; exact (below_size (by repeat (first | (with_reducible first | exact HB.out | apply below_alloc | apply pw_below_drewN | apply below_drew1 | refine below_set ?_ GE656.out) | exact HB.out))) : w.heap.size ≤ gb657)); have n5_ := Aside0.mk ((by rw [hg]; exact Nat.ne_of_lt (blk_lt (g := gb656) (o := .cells #[.int .i64 0, .int .i64 0] 26 (0, 0)) (by (with_reducible repeat (first | refine blk_drewN ?_ _ | refine blk_drew ?_ | refine blk_alloc ?_ _)); exact BK656.out)) : gb656 ≠ gb657)); have n6_ := Aside0.mk ((by rw [hg]; exact Nat.ne_of_gt (blk_lt (g := gb656) (o := .cells #[.int .i64 0, .int .i64 0] 26 (0, 0)) (by (with_reducible repeat (first | refine blk_drewN ?_ _ | refine blk_drew ?_ | refine blk_alloc ?_ _)); exact BK656.out)) : gb657 ≠ gb656)); clear BK656; clear HB; have BK656 := n0_; have HB := n1_; have BK657 := n2_; have GW657 := n3_; have GE657 := n4_; have NB656_657 := n5_; have NB657_656 := n6_; clear n0_ n1_ n2_ n3_ n4_ n5_ n6_; clear hb hbox hg; have hnb13 := NB656_657.out; have hnc13 := NB657_656.out; have hcz14_0 : w12.cell? ⟨gb656, 0, none⟩ = some (.int .i64 0) := (blk_cell BK656.out 0).trans rfl; have hcz14_1 : w12.cell? ⟨gb656, 1, none⟩ = some (.int .i64 0) := (blk_cell BK656.out 1).trans rfl; have hfz14_0 := blk_frozen BK656.out 0; have hfz14_1 := blk_frozen BK656.out 1; have hcz15_0 : w12.cell? ⟨gb657, 0, none⟩ = some (.int .i64 0) := (blk_cell BK657.out 0).trans rfl; have hcz15_1 : w12.cell? ⟨gb657, 1, none⟩ = some (.int .i64 0) := (blk_cell BK657.out 1).trans rfl; have hfz15_0 := blk_frozen BK657.out 0; have hfz15_1 := blk_frozen BK657.out 1) | ((with_reducible refine gate_callee (f := 31) rfl ?_); refine goesL_ (some 23) rfl rfl Try.func31 (by kernel_rfl) rfl #[.slice A1 l1.length c1] rfl (by (try simp only [List.map_toArray, List.map_cons, List.map_nil]); first | done | rfl | (simp only [List.length_drop, List.length_take]; rfl)) ?_; (with_reducible refine (spec_DrawLabelText.calls kj2 _ _ l1 t658 t659 _ ?side1 ?side2 A7.out).mono ?_); (case side1 => exact Kd.C_below HR1.out (by repeat (first | (with_reducible first | exact HB.out | apply below_alloc | apply pw_below_drewN | apply below_drew1 | refine below_set ?_ GE656.out | refine below_set ?_ GE657.out) | exact HB.out))); (case side2 => exact HC1.out); rintro e w16 ⟨rfl, hb⟩; refine ⟨_, rfl, ?_⟩; have n0_ := Aside0.mk (blk_below (g := gb656) (o := .cells #[.int .i64 t652, .int .i64 t653] 26 (0, 0)) (by (with_reducible repeat (first | refine blk_drewN ?_ _ | refine blk_drew ?_ | refine blk_alloc ?_ _)); refine blk_far ?_ NB656_657.out _; (with_reducible repeat (first | refine blk_drewN ?_ _ | refine blk_drew ?_ | refine blk_alloc ?_ _)); refine blk_far ?_ NB656_657.out _; (with_reducible repeat (first | refine blk_drewN ?_ _ | refine blk_drew ?_ | refine blk_alloc ?_ _)); refine blk_put (cs := #[.int .i64 t652, .int .i64 0]) ?_ 1 _ rfl; (with_reducible repeat (first | refine blk_drewN ?_ _ | refine blk_drew ?_ | refine blk_alloc ?_ _)); refine blk_put (cs := #[.int .i64 0, .int .i64 0]) ?_ 0 _ rfl; (with_reducible repeat (first | refine blk_drewN ?_ _ | refine blk_drew ?_ | refine blk_alloc ?_ _)); exact BK656.out) hb); have n1_ := Aside0.mk (blk_below (g := gb657) (o := .cells #[.int .i64 t654, .int .i64 t655] 26 (0, 0)) (by (with_reducible repeat (first | refine blk_drewN ?_ _ | refine blk_drew ?_ | refine blk_alloc ?_ _)); refine blk_put (cs := #[.int .i64 t654, .int .i64 0]) ?_ 1 _ rfl; (with_reducible repeat (first | refine blk_drewN ?_ _ | refine blk_drew ?_ | refine blk_alloc ?_ _)); refine blk_put (cs := #[.int .i64 0, .int .i64 0]) ?_ 0 _ rfl; (with_reducible repeat (first | refine blk_drewN ?_ _ | refine blk_drew ?_ | refine blk_alloc ?_ _)); refine blk_far ?_ NB657_656.out _; (with_reducible repeat (first | refine blk_drewN ?_ _ | refine blk_drew ?_ | refine blk_alloc ?_ _)); refine blk_far ?_ NB657_656.out _; (with_reducible repeat (first | refine blk_drewN ?_ _ | refine blk_drew ?_ | refine blk_alloc ?_ _)); exact BK657.out) hb); have n2_ := Aside0.mk (below_step (by repeat (first | (with_reducible first | exact HB.out | apply below_alloc | apply pw_below_drewN | apply below_drew1 | refine below_set ?_ GE656.out | refine below_set ?_ GE657.out) | exact HB.out)) hb); clear BK656; clear BK657; clear HB; have BK656 := n0_; have BK657 := n1_; have HB := n2_; clear n0_ n1_ n2_; (try clear hb); (try clear hb2); (try clear hk); (try clear hi)) | ((with_reducible refine gate_dst (N := 7) rfl ?_); refine box_event ?hg (N := 7) ?hd (cs := #[.int .i64 0, .int .i64 0]) (t := 26) ?hr ?_; (case hd => rfl); (case hg => rfl); (case hr => first | (go_simp; done) | (go_simp; rfl)); intro gb660 hg w17 hbox hb; have n0_ := Aside0.mk (blk_below (g := gb656) (o := .cells #[.int .i64 t652, .int .i64 t653] 26 (0, 0)) (by (with_reducible repeat (first | refine blk_drewN ?_ _ | refine blk_drew ?_ | refine blk_alloc ?_ _)); exact BK656.out) hb); have n1_ := Aside0.mk (blk_below (g := gb657) (o := .cells #[.int .i64 t654, .int .i64 t655] 26 (0, 0)) (by (with_reducible repeat (first | refine blk_drewN ?_ _ | refine blk_drew ?_ | refine blk_alloc ?_ _)); exact BK657.out) hb); have n2_ := Aside0.mk (below_step (by repeat (first | (with_reducible first | exact HB.out | apply below_alloc | apply pw_below_drewN | apply below_drew1 | refine below_set ?_ GE656.out | refine below_set ?_ GE657.out) | exact HB.out)) hb); have n3_ := Aside0.mk (hbox); have n4_ := Aside0.mk ((by rw [hg]; exact (below_size (by repeat (first | (with_reducible first | exact HB.out | apply below_alloc | apply pw_below_drewN | apply below_drew1 | refine below_set ?_ GE656.out | refine below_set ?_ GE657.out) | exact HB.out))) : w.heap.size ≤ gb660)); have n5_ := Aside0.mk ((by rw [hg]; exact (below_size (by repeat (first | (with_reducible first | exact HB.out | apply below_alloc | apply pw_below_drewN | apply below_drew1 | refine below_set ?_ GE656.out | refine below_set ?_ GE657.out) | exact HB.out))) : w.heap.size ≤ gb660)); have n6_ := Aside0.mk ((by rw [hg]; exact Nat.ne_of_lt (blk_lt (g := gb656) (o := .cells #[.int .i64 t652, .int .i64 t653] 26 (0, 0)) (by (with_reducible repeat (first | refine blk_drewN ?_ _ | refine blk_drew ?_ | refine blk_alloc ?_ _)); exact BK656.out)) : gb656 ≠ gb660)); have n7_ := Aside0.mk ((by rw [hg]; exact Nat.ne_of_gt (blk_lt (g := gb656) (o := .cells #[.int .i64 t652, .int .i64 t653] 26 (0, 0)) (by (with_reducible repeat (first | refine blk_drewN ?_ _ | refine blk_drew ?_ | refine blk_alloc ?_ _)); exact BK656.out)) : gb660 ≠ gb656)); have n8_ := Aside0.mk ((by rw [hg]; exact Nat.ne_of_lt (blk_lt (g := gb657) (o := .cells #[.int .i64 t654, .int .i64 t655] 26 (0, 0)) (by (with_reducible repeat (first | refine blk_drewN ?_ _ | refine blk_drew ?_ | refine blk_alloc ?_ _)); exact BK657.out)) : gb657 ≠ gb660)); have n9_ := Aside0.mk ((by rw [hg]; exact Nat.ne_of_gt (blk_lt (g := gb657) (o := .cells #[.int .i64 t654, .int .i64 t655] 26 (0, 0)) (by (with_reducible repeat (first | refine blk_drewN ?_ _ | refine blk_drew ?_ | refine blk_alloc ?_ _)); exact BK657.out)) : gb660 ≠ gb657)); clear BK656; clear BK657; clear HB; have BK656 := n0_; have BK657 := n1_; have HB := n2_; have BK660 := n3_; have GW660 := n4_; have GE660 := n5_; have NB656_660 := n6_; have NB660_656 := n7_; have NB657_660 := n8_; have NB660_657 := n9_; clear n0_ n1_ n2_ n3_ n4_ n5_ n6_ n7_ n8_ n9_; clear hb hbox hg; have hnb18 := NB660_656.out; have hnc18 := NB656_660.out; have hnb19 := NB660_657.out; have hnc19 := NB657_660.out; have hcz20_0 : w17.cell? ⟨gb660, 0, none⟩ = some (.int .i64 0) := (blk_cell BK660.out 0).trans rfl; have hcz20_1 : w17.cell? ⟨gb660, 1, none⟩ = some (.int .i64 0) := (blk_cell BK660.out 1).trans rfl; have hfz20_0 := blk_frozen BK660.out 0; have hfz20_1 := blk_frozen BK660.out 1; have hcz21_0 : w17.cell? ⟨gb656, 0, none⟩ = some (.int .i64 t652) := (blk_cell BK656.out 0).trans rfl; have hcz21_1 : w17.cell? ⟨gb656, 1, none⟩ = some (.int .i64 t653) := (blk_cell BK656.out 1).trans rfl; have hfz21_0 := blk_frozen BK656.out 0; have hfz21_1 := blk_frozen BK656.out 1; have hcz22_0 : w17.cell? ⟨gb657, 0, none⟩ = some (.int .i64 t654) := (blk_cell BK657.out 0).trans rfl; have hcz22_1 : w17.cell? ⟨gb657, 1, none⟩ = some (.int .i64 t655) := (blk_cell BK657.out 1).trans rfl; have hfz22_0 := blk_frozen BK657.out 0; have hfz22_1 := blk_frozen BK657.out 1) | ((with_reducible refine gate_callee (f := 27) rfl ?_); refine goesL_ (some 26) rfl rfl Try.func27 (by kernel_rfl) rfl #[.agg #[.int .i64 t652, .int .i64 t653], .agg #[.int .i64 t654, .int .i64 t655]] rfl (by (try simp only [List.map_toArray, List.map_cons, List.map_nil]); first | done | rfl | (simp only [List.length_drop, List.length_take]; rfl)) ?_; (with_reducible refine (impl_LabelBoth.calls t652 t653 t654 t655 t661 t662 _ A8.out).mono ?_); rintro e w23 ⟨rfl, hb⟩; refine ⟨_, rfl, ?_⟩; have n0_ := Aside0.mk (blk_below (g := gb656) (o := .cells #[.int .i64 t652, .int .i64 t653] 26 (0, 0)) (by (with_reducible repeat (first | refine blk_drewN ?_ _ | refine blk_drew ?_ | refine blk_alloc ?_ _)); refine blk_far ?_ NB656_660.out _; (with_reducible repeat (first | refine blk_drewN ?_ _ | refine blk_drew ?_ | refine blk_alloc ?_ _)); refine blk_far ?_ NB656_660.out _; (with_reducible repeat (first | refine blk_drewN ?_ _ | refine blk_drew ?_ | refine blk_alloc ?_ _)); exact BK656.out) hb); have n1_ := Aside0.mk (blk_below (g := gb657) (o := .cells #[.int .i64 t654, .int .i64 t655] 26 (0, 0)) (by (with_reducible repeat (first | refine blk_drewN ?_ _ | refine blk_drew ?_ | refine blk_alloc ?_ _)); refine blk_far ?_ NB657_660.out _; (with_reducible repeat (first | refine blk_drewN ?_ _ | refine blk_drew ?_ | refine blk_alloc ?_ _)); refine blk_far ?_ NB657_660.out _; (with_reducible repeat (first | refine blk_drewN ?_ _ | refine blk_drew ?_ | refine blk_alloc ?_ _)); exact BK657.out) hb); have n2_ := Aside0.mk (blk_below (g := gb660) (o := .cells #[.int .i64 t658, .int .i64 t659] 26 (0, 0)) (by (with_reducible repeat (first | refine blk_drewN ?_ _ | refine blk_drew ?_ | refine blk_alloc ?_ _)); refine blk_put (cs := #[.int .i64 t658, .int .i64 0]) ?_ 1 _ rfl; (with_reducible repeat (first | refine blk_drewN ?_ _ | refine blk_drew ?_ | refine blk_alloc ?_ _)); refine blk_put (cs := #[.int .i64 0, .int .i64 0]) ?_ 0 _ rfl; (with_reducible repeat (first | refine blk_drewN ?_ _ | refine blk_drew ?_ | refine blk_alloc ?_ _)); exact BK660.out) hb); have n3_ := Aside0.mk (below_step (by repeat (first | (with_reducible first | exact HB.out | apply below_alloc | apply pw_below_drewN | apply below_drew1 | refine below_set ?_ GE656.out | refine below_set ?_ GE657.out | refine below_set ?_ GE660.out) | exact HB.out)) hb); clear BK656; clear BK657; clear BK660; clear HB; have BK656 := n0_; have BK657 := n1_; have BK660 := n2_; have HB := n3_; clear n0_ n1_ n2_ n3_; (try clear hb); (try clear hb2); (try clear hk); (try clear hi)) | ((with_reducible refine gate_dst (N := 8) rfl ?_); refine box_event ?hg (N := 8) ?hd (cs := #[.int .i64 0, .int .i64 0]) (t := 26) ?hr ?_; (case hd => rfl); (case hg => rfl); (case hr => first | (go_simp; done) | (go_simp; rfl)); intro gb663 hg w24 hbox hb; have n0_ := Aside0.mk (blk_below (g := gb656) (o := .cells #[.int .i64 t652, .int .i64 t653] 26 (0, 0)) (by (with_reducible repeat (first | refine blk_drewN ?_ _ | refine blk_drew ?_ | refine blk_alloc ?_ _)); exact BK656.out) hb); have n1_ := Aside0.mk (blk_below (g := gb657) (o := .cells #[.int .i64 t654, .int .i64 t655] 26 (0, 0)) (by (with_reducible repeat (first | refine blk_drewN ?_ _ | refine blk_drew ?_ | refine blk_alloc ?_ _)); exact BK657.out) hb); have n2_ := Aside0.mk (blk_below (g := gb660) (o := .cells #[.int .i64 t658, .int .i64 t659] 26 (0, 0)) (by (with_reducible repeat (first | refine blk_drewN ?_ _ | refine blk_drew ?_ | refine blk_alloc ?_ _)); exact BK660.out) hb); have n3_ := Aside0.mk (below_step (by repeat (first | (with_reducible first | exact HB.out | apply below_alloc | apply pw_below_drewN | apply below_drew1 | refine below_set ?_ GE656.out | refine below_set ?_ GE657.out | refine below_set ?_ GE660.out) | exact HB.out)) hb); have n4_ := Aside0.mk (hbox); have n5_ := Aside0.mk ((by rw [hg]; exact (below_size (by repeat (first | (with_reducible first | exact HB.out | apply below_alloc | apply pw_below_drewN | apply below_drew1 | refine below_set ?_ GE656.out | refine below_set ?_ GE657.out | refine below_set ?_ GE660.out) | exact HB.out))) : w.heap.size ≤ gb663)); have n6_ := Aside0.mk ((by rw [hg]; exact (below_size (by repeat (first | (with_reducible first | exact HB.out | apply below_alloc | apply pw_below_drewN | apply below_drew1 | refine below_set ?_ GE656.out | refine below_set ?_ GE657.out | refine below_set ?_ GE660.out) | exact HB.out))) : w.heap.size ≤ gb663)); have n7_ := Aside0.mk ((by rw [hg]; exact Nat.ne_of_lt (blk_lt (g := gb656) (o := .cells #[.int .i64 t652, .int .i64 t653] 26 (0, 0)) (by (with_reducible repeat (first | refine blk_drewN ?_ _ | refine blk_drew ?_ | refine blk_alloc ?_ _)); exact BK656.out)) : gb656 ≠ gb663)); have n8_ := Aside0.mk ((by rw [hg]; exact Nat.ne_of_gt (blk_lt (g := gb656) (o := .cells #[.int .i64 t652, .int .i64 t653] 26 (0, 0)) (by (with_reducible repeat (first | refine blk_drewN ?_ _ | refine blk_drew ?_ | refine blk_alloc ?_ _)); exact BK656.out)) : gb663 ≠ gb656)); have n9_ := Aside0.mk ((by rw [hg]; exact Nat.ne_of_lt (blk_lt (g := gb657) (o := .cells #[.int .i64 t654, .int .i64 t655] 26 (0, 0)) (by (with_reducible repeat (first | refine blk_drewN ?_ _ | refine blk_drew ?_ | refine blk_alloc ?_ _)); exact BK657.out)) : gb657 ≠ gb663)); have n10_ := Aside0.mk ((by rw [hg]; exact Nat.ne_of_gt (blk_lt (g := gb657) (o := .cells #[.int .i64 t654, .int .i64 t655] 26 (0, 0)) (by (with_reducible repeat (first | refine blk_drewN ?_ _ | refine blk_drew ?_ | refine blk_alloc ?_ _)); exact BK657.out)) : gb663 ≠ gb657)); have n11_ := Aside0.mk ((by rw [hg]; exact Nat.ne_of_lt (blk_lt (g := gb660) (o := .cells #[.int .i64 t658, .int .i64 t659] 26 (0, 0)) (by (with_reducible repeat (first | refine blk_drewN ?_ _ | refine blk_drew ?_ | refine blk_alloc ?_ _)); exact BK660.out)) : gb660 ≠ gb663)); have n12_ := Aside0.mk ((by rw [hg]; exact Nat.ne_of_gt (blk_lt (g := gb660) (o := .cells #[.int .i64 t658, .int .i64 t659] 26 (0, 0)) (by (with_reducible repeat (first | refine blk_drewN ?_ _ | refine blk_drew ?_ | refine blk_alloc ?_ _)); exact BK660.out)) : gb663 ≠ gb660)); clear BK656; clear BK657; clear BK660; clear HB; have BK656 := n0_; have BK657 := n1_; have BK660 := n2_; have HB := n3_; have BK663 := n4_; have GW663 := n5_; have GE663 := n6_; have NB656_663 := n7_; have NB663_656 := n8_; have NB657_663 := n9_; have NB663_657 := n10_; have NB660_663 := n11_; have NB663_660 := n12_; clear n0_ n1_ n2_ n3_ n4_ n5_ n6_ n7_ n8_ n9_ n10_ n11_ n12_; clear hb hbox hg; have hnb25 := NB663_656.out; have hnc25 := NB656_663.out; have hnb26 := NB663_657.out; have hnc26 := NB657_663.out; have hnb27 := NB663_660.out; have hnc27 := NB660_663.out; have hcz28_0 : w24.cell? ⟨gb663, 0, none⟩ = some (.int .i64 0) := (blk_cell BK663.out 0).trans rfl; have hcz28_1 : w24.cell? ⟨gb663, 1, none⟩ = some (.int .i64 0) := (blk_cell BK663.out 1).trans rfl; have hfz28_0 := blk_frozen BK663.out 0; have hfz28_1 := blk_frozen BK663.out 1))
        (try simp only [Act.put, List.setIfInBounds_toArray, List.set_cons_zero, List.set_cons_succ])
        go_cut [41] (fun v41 wc => ∃ (kq : Nat) (x41_8 : Bool), v41 = .bool x41_8 ∧ Aside0 (laws_FnLabelBoth.j1 kq x41_8 t652 t653 t654 t655 t658 t659 t661 t662 = some r) ∧ Aside0 (kq ≤ kj2) ∧ Aside0 (wc.heap[gb656]? = some (.cells #[.int .i64 t652, .int .i64 t653] 26 (0, 0))) ∧ Aside0 (wc.heap[gb657]? = some (.cells #[.int .i64 t654, .int .i64 t655] 26 (0, 0))) ∧ Aside0 (wc.heap[gb660]? = some (.cells #[.int .i64 t658, .int .i64 t659] 26 (0, 0))) ∧ Aside0 (wc.heap[gb663]? = some (.cells #[.int .i64 t661, .int .i64 t662] 26 (0, 0))) ∧ Aside0 (Below w.heap.size w wc))
        case first =>
          have H := HC9.out
          clear HC9
          replace H := Option.bind_eq_some_iff.mp H
          obtain ⟨⟨t664, t665⟩, A290, H⟩ := H
          replace H : (if (!(t661 == t664) || (!(t662 == t665))) = true then (laws_FnLabelBoth.j1 kj2 true t652 t653 t654 t655 t658 t659 t661 t662) else ((spec_LabelOk.f t652 t653).bind fun t666 => (if t666 = true then ((spec_LabelOk.f t654 t655).bind fun t667 => (laws_FnLabelBoth.j1 kj2 (!t667) t652 t653 t654 t655 t658 t659 t661 t662)) else (laws_FnLabelBoth.j1 kj2 true t652 t653 t654 t655 t658 t659 t661 t662)))) = some r := H
          have A29 := Aside0.mk A290
          clear A290
          by_cases c30 : (!(t661 == t664) || (!(t662 == t665))) = true
          · rw [if_pos c30] at H
            have c30b0 : (!(t661 == t664) || (!(t662 == t665))) = true := c30
            clear c30
            (first | rw [c30b0] | (simp only [i64_w, i32_w]; rw [c30b0]) | skip)
            have H' := Aside0.mk H
            clear H
            try go_wp2
            have n0_ : Aside0 (((w24.setCell ⟨gb663, 0, none⟩ (.int .i64 t661)).setCell ⟨gb663, 1, none⟩ (.int .i64 t662)).heap[gb656]? = some (.cells #[.int .i64 t652, .int .i64 t653] 26 (0, 0))) := ⟨by (with_reducible repeat (first | refine blk_drewN ?_ _ | refine blk_drew ?_ | refine blk_alloc ?_ _)); refine blk_far ?_ NB656_663.out _; (with_reducible repeat (first | refine blk_drewN ?_ _ | refine blk_drew ?_ | refine blk_alloc ?_ _)); refine blk_far ?_ NB656_663.out _; (with_reducible repeat (first | refine blk_drewN ?_ _ | refine blk_drew ?_ | refine blk_alloc ?_ _)); exact BK656.out⟩
            have n1_ : Aside0 (((w24.setCell ⟨gb663, 0, none⟩ (.int .i64 t661)).setCell ⟨gb663, 1, none⟩ (.int .i64 t662)).heap[gb657]? = some (.cells #[.int .i64 t654, .int .i64 t655] 26 (0, 0))) := ⟨by (with_reducible repeat (first | refine blk_drewN ?_ _ | refine blk_drew ?_ | refine blk_alloc ?_ _)); refine blk_far ?_ NB657_663.out _; (with_reducible repeat (first | refine blk_drewN ?_ _ | refine blk_drew ?_ | refine blk_alloc ?_ _)); refine blk_far ?_ NB657_663.out _; (with_reducible repeat (first | refine blk_drewN ?_ _ | refine blk_drew ?_ | refine blk_alloc ?_ _)); exact BK657.out⟩
            have n2_ : Aside0 (((w24.setCell ⟨gb663, 0, none⟩ (.int .i64 t661)).setCell ⟨gb663, 1, none⟩ (.int .i64 t662)).heap[gb660]? = some (.cells #[.int .i64 t658, .int .i64 t659] 26 (0, 0))) := ⟨by (with_reducible repeat (first | refine blk_drewN ?_ _ | refine blk_drew ?_ | refine blk_alloc ?_ _)); refine blk_far ?_ NB660_663.out _; (with_reducible repeat (first | refine blk_drewN ?_ _ | refine blk_drew ?_ | refine blk_alloc ?_ _)); refine blk_far ?_ NB660_663.out _; (with_reducible repeat (first | refine blk_drewN ?_ _ | refine blk_drew ?_ | refine blk_alloc ?_ _)); exact BK660.out⟩
            have n3_ : Aside0 (((w24.setCell ⟨gb663, 0, none⟩ (.int .i64 t661)).setCell ⟨gb663, 1, none⟩ (.int .i64 t662)).heap[gb663]? = some (.cells #[.int .i64 t661, .int .i64 t662] 26 (0, 0))) := ⟨by (with_reducible repeat (first | refine blk_drewN ?_ _ | refine blk_drew ?_ | refine blk_alloc ?_ _)); refine blk_put (cs := #[.int .i64 t661, .int .i64 0]) ?_ 1 _ rfl; (with_reducible repeat (first | refine blk_drewN ?_ _ | refine blk_drew ?_ | refine blk_alloc ?_ _)); refine blk_put (cs := #[.int .i64 0, .int .i64 0]) ?_ 0 _ rfl; (with_reducible repeat (first | refine blk_drewN ?_ _ | refine blk_drew ?_ | refine blk_alloc ?_ _)); exact BK663.out⟩
            have n4_ : Aside0 (Below w.heap.size w ((w24.setCell ⟨gb663, 0, none⟩ (.int .i64 t661)).setCell ⟨gb663, 1, none⟩ (.int .i64 t662))) := ⟨by repeat (first | (with_reducible first | exact HB.out | apply below_alloc | apply pw_below_drewN | apply below_drew1 | refine below_set ?_ GE656.out | refine below_set ?_ GE657.out | refine below_set ?_ GE660.out | refine below_set ?_ GE663.out) | exact HB.out)⟩
            (try clear BK656)
            (try clear BK657)
            (try clear BK660)
            (try clear BK663)
            (try clear HB)
            generalize ((w24.setCell ⟨gb663, 0, none⟩ (.int .i64 t661)).setCell ⟨gb663, 1, none⟩ (.int .i64 t662)) = w31 at n0_ n1_ n2_ n3_ n4_ ⊢
            have BK656 := n0_
            have BK657 := n1_
            have BK660 := n2_
            have BK663 := n3_
            have HB := n4_
            clear n0_ n1_ n2_ n3_ n4_
            have n0_ := Aside0.mk (blk_drew BK656.out)
            have n1_ := Aside0.mk (blk_drew BK657.out)
            have n2_ := Aside0.mk (blk_drew BK660.out)
            have n3_ := Aside0.mk (blk_drew BK663.out)
            have n4_ := Aside0.mk (below_drew1 HB.out)
            clear BK656
            clear BK657
            clear BK660
            clear BK663
            clear HB
            have BK656 := n0_
            have BK657 := n1_
            have BK660 := n2_
            have BK663 := n3_
            have HB := n4_
            clear n0_ n1_ n2_ n3_ n4_
            refine start_ (n := 15) (S := fun w' => w'.cell? ⟨gb663, 0, none⟩ = some (.int .i64 t661) ∧ w'.cell? ⟨gb663, 1, none⟩ = some (.int .i64 t662) ∧ w'.cell? ⟨gb656, 0, none⟩ = some (.int .i64 t652) ∧ w'.cell? ⟨gb656, 1, none⟩ = some (.int .i64 t653) ∧ w'.cell? ⟨gb657, 0, none⟩ = some (.int .i64 t654) ∧ w'.cell? ⟨gb657, 1, none⟩ = some (.int .i64 t655)) (ds := []) #[false, false, false, false, false, false, false, false, false, false, false, false, false, false, false] (by kernel_rfl) rfl rfl ⟨(blk_cell BK663.out 0).trans rfl, (blk_cell BK663.out 1).trans rfl, (blk_cell BK656.out 0).trans rfl, (blk_cell BK656.out 1).trans rfl, (blk_cell BK657.out 0).trans rfl, (blk_cell BK657.out 1).trans rfl⟩ (fun hHeld => ?_); refine with_tabW laws_FnLabelBoth.tab6 laws_FnLabelBoth.bits6 (fun HT_ HW_ => ?_)
            generalize w31.drew = w32 at BK656 BK657 BK660 BK663 HB hHeld ⊢
            refine take_ (i := 0) (N := some 27) (v := ?_) (a' := ?_) #[true, false, false, false, false, false, false, false, false, false, false, false, false, false, false] rfl rfl (take_ofW HT_.out HW_.out (by kernel_rfl)) (fun _ _ _ h => h) (Or.inl ⟨by rfl, ?_⟩) hHeld ?_ ?_
            rotate_left
            · rintro w' ⟨s0, s1, s2, s3, s4, s5⟩
              go_simp
              with_reducible rfl
            rotate_left
            · simp only [Act.put, List.setIfInBounds_toArray, List.set_cons_zero, List.set_cons_succ, i64_w, i32_w]
              rfl
            refine take_ (i := 1) (N := some 28) (v := ?_) (a' := ?_) #[true, true, false, false, false, false, false, false, false, false, false, false, false, false, false] rfl rfl (take_ofW HT_.out HW_.out (by kernel_rfl)) (fun _ _ _ h => h) (Or.inl ⟨by rfl, ?_⟩) hHeld ?_ ?_
            rotate_left
            · rintro w' ⟨s0, s1, s2, s3, s4, s5⟩
              go_simp
              with_reducible rfl
            rotate_left
            · simp only [Act.put, List.setIfInBounds_toArray, List.set_cons_zero, List.set_cons_succ, i64_w, i32_w]
              rfl
            refine take_ (i := 2) (N := some 29) (v := ?_) (a' := ?_) #[true, true, true, false, false, false, false, false, false, false, false, false, false, false, false] rfl rfl (take_ofW HT_.out HW_.out (by kernel_rfl)) (fun _ _ _ h => h) (Or.inl ⟨by rfl, ?_⟩) hHeld ?_ ?_
            rotate_left
            · rintro w' ⟨s0, s1, s2, s3, s4, s5⟩
              go_simp
              with_reducible rfl
            rotate_left
            · simp only [Act.put, List.setIfInBounds_toArray, List.set_cons_zero, List.set_cons_succ, i64_w, i32_w]
              rfl
            refine one_ (i := 3) (N := some 30) #[true, true, true, true, false, false, false, false, false, false, false, false, false, false, false] rfl rfl (one_of HT_.out (by kernel_rfl)) (by decide) (fun K hK => ?_)
            refine goes_ Try.func26 (by kernel_rfl) rfl #[.agg #[.int .i64 t652, .int .i64 t653], .agg #[.int .i64 t654, .int .i64 t655]] (by rfl) rfl rfl (by (try simp only [List.map_toArray, List.map_cons, List.map_nil]); first | done | rfl | (simp only [List.length_drop, List.length_take]; rfl)) ?_
            with_reducible refine (spec_LabelBoth.calls kj2 t652 t653 t654 t655 t664 t665 _ A29.out).mono ?_
            rintro e w33 ⟨rfl, hb⟩
            refine ⟨_, rfl, ?_⟩
            have n0_ := Aside0.mk (blk_below (g := gb656) (o := .cells #[.int .i64 t652, .int .i64 t653] 26 (0, 0)) (by (with_reducible repeat (first | refine blk_drewN ?_ _ | refine blk_drew ?_ | refine blk_alloc ?_ _)); exact BK656.out) hb)
            have n1_ := Aside0.mk (blk_below (g := gb657) (o := .cells #[.int .i64 t654, .int .i64 t655] 26 (0, 0)) (by (with_reducible repeat (first | refine blk_drewN ?_ _ | refine blk_drew ?_ | refine blk_alloc ?_ _)); exact BK657.out) hb)
            have n2_ := Aside0.mk (blk_below (g := gb660) (o := .cells #[.int .i64 t658, .int .i64 t659] 26 (0, 0)) (by (with_reducible repeat (first | refine blk_drewN ?_ _ | refine blk_drew ?_ | refine blk_alloc ?_ _)); exact BK660.out) hb)
            have n3_ := Aside0.mk (blk_below (g := gb663) (o := .cells #[.int .i64 t661, .int .i64 t662] 26 (0, 0)) (by (with_reducible repeat (first | refine blk_drewN ?_ _ | refine blk_drew ?_ | refine blk_alloc ?_ _)); exact BK663.out) hb)
            have n4_ := Aside0.mk (below_step (by repeat (first | (with_reducible first | exact HB.out | apply below_alloc | apply pw_below_drewN | apply below_drew1 | refine below_set ?_ GE656.out | refine below_set ?_ GE657.out | refine below_set ?_ GE660.out | refine below_set ?_ GE663.out) | exact HB.out)) hb)
            clear BK656
            clear BK657
            clear BK660
            clear BK663
            clear HB
            have BK656 := n0_
            have BK657 := n1_
            have BK660 := n2_
            have BK663 := n3_
            have HB := n4_
            clear n0_ n1_ n2_ n3_ n4_
            (try clear hb)
            (try clear hb2)
            (try clear hk)
            (try clear hi)
            refine hK.out _ _ ⟨(blk_cell BK663.out 0).trans rfl, (blk_cell BK663.out 1).trans rfl, (blk_cell BK656.out 0).trans rfl, (blk_cell BK656.out 1).trans rfl, (blk_cell BK657.out 0).trans rfl, (blk_cell BK657.out 1).trans rfl⟩ (fun hHeld => ?_)
            clear hK K
            refine norm_ (a' := ?_) ?_ ?_
            rotate_left
            · show Act.put _ (some 30) _ = _
              simp only [Act.put, List.setIfInBounds_toArray, List.set_cons_zero, List.set_cons_succ, i64_w, i32_w]
              rfl
            refine pure_ (i := 4) (N := some 31) (v := ?_) (a' := ?_) #[true, true, true, true, true, false, false, false, false, false, false, false, false, false, false] rfl rfl (any_of HT_.out (by kernel_rfl)) (fun _ _ _ h => h) (Or.inl ⟨by rfl, ?_⟩) ?_ ?_
            rotate_left
            · intro w'
              go_simp
              with_reducible rfl
            rotate_left
            · simp only [Act.put, List.setIfInBounds_toArray, List.set_cons_zero, List.set_cons_succ, i64_w, i32_w]
              rfl
            refine pure_ (i := 5) (N := some 32) (v := ?_) (a' := ?_) #[true, true, true, true, true, true, false, false, false, false, false, false, false, false, false] rfl rfl (any_of HT_.out (by kernel_rfl)) (fun _ _ _ h => h) (Or.inl ⟨by rfl, ?_⟩) ?_ ?_
            rotate_left
            · intro w'
              go_simp
              with_reducible rfl
            rotate_left
            · simp only [Act.put, List.setIfInBounds_toArray, List.set_cons_zero, List.set_cons_succ, i64_w, i32_w]
              rfl
            refine pure_ (i := 6) (N := some 33) (v := undef) (a' := ?_) #[true, true, true, true, true, true, true, false, false, false, false, false, false, false, false] rfl rfl (any_of HT_.out (by kernel_rfl)) (fun _ _ _ h => h) (Or.inr ⟨by rfl, rfl⟩) ?_ ?_
            rotate_left
            · simp only [Act.put, List.setIfInBounds_toArray, List.set_cons_zero, List.set_cons_succ, i64_w, i32_w]
              rfl
            refine pure_ (i := 7) (N := some 34) (v := undef) (a' := ?_) #[true, true, true, true, true, true, true, true, false, false, false, false, false, false, false] rfl rfl (any_of HT_.out (by kernel_rfl)) (fun _ _ _ h => h) (Or.inr ⟨by rfl, rfl⟩) ?_ ?_
            rotate_left
            · simp only [Act.put, List.setIfInBounds_toArray, List.set_cons_zero, List.set_cons_succ, i64_w, i32_w]
              rfl
            refine pure_ (i := 8) (N := some 35) (v := undef) (a' := ?_) #[true, true, true, true, true, true, true, true, true, false, false, false, false, false, false] rfl rfl (any_of HT_.out (by kernel_rfl)) (fun _ _ _ h => h) (Or.inr ⟨by rfl, rfl⟩) ?_ ?_
            rotate_left
            · simp only [Act.put, List.setIfInBounds_toArray, List.set_cons_zero, List.set_cons_succ, i64_w, i32_w]
              rfl
            refine pure_ (i := 9) (N := some 36) (v := ?_) (a' := ?_) #[true, true, true, true, true, true, true, true, true, true, false, false, false, false, false] rfl rfl (any_of HT_.out (by kernel_rfl)) (fun _ _ _ h => h) (Or.inl ⟨by rfl, ?_⟩) ?_ ?_
            rotate_left
            · intro w'
              go_simp
              with_reducible rfl
            rotate_left
            · simp only [Act.put, List.setIfInBounds_toArray, List.set_cons_zero, List.set_cons_succ, i64_w, i32_w]
              rfl
            refine pure_ (i := 10) (N := some 37) (v := ?_) (a' := ?_) #[true, true, true, true, true, true, true, true, true, true, true, false, false, false, false] rfl rfl (any_of HT_.out (by kernel_rfl)) (fun _ _ _ h => h) (Or.inl ⟨by rfl, ?_⟩) ?_ ?_
            rotate_left
            · intro w'
              go_simp
              with_reducible rfl
            rotate_left
            · simp only [Act.put, List.setIfInBounds_toArray, List.set_cons_zero, List.set_cons_succ, i64_w, i32_w]
              rfl
            refine pure_ (i := 11) (N := some 38) (v := undef) (a' := ?_) #[true, true, true, true, true, true, true, true, true, true, true, true, false, false, false] rfl rfl (any_of HT_.out (by kernel_rfl)) (fun _ _ _ h => h) (Or.inr ⟨by rfl, rfl⟩) ?_ ?_
            rotate_left
            · simp only [Act.put, List.setIfInBounds_toArray, List.set_cons_zero, List.set_cons_succ, i64_w, i32_w]
              rfl
            refine pure_ (i := 12) (N := some 39) (v := undef) (a' := ?_) #[true, true, true, true, true, true, true, true, true, true, true, true, true, false, false] rfl rfl (any_of HT_.out (by kernel_rfl)) (fun _ _ _ h => h) (Or.inr ⟨by rfl, rfl⟩) ?_ ?_
            rotate_left
            · simp only [Act.put, List.setIfInBounds_toArray, List.set_cons_zero, List.set_cons_succ, i64_w, i32_w]
              rfl
            refine pure_ (i := 13) (N := some 40) (v := undef) (a' := ?_) #[true, true, true, true, true, true, true, true, true, true, true, true, true, true, false] rfl rfl (any_of HT_.out (by kernel_rfl)) (fun _ _ _ h => h) (Or.inr ⟨by rfl, rfl⟩) ?_ ?_
            rotate_left
            · simp only [Act.put, List.setIfInBounds_toArray, List.set_cons_zero, List.set_cons_succ, i64_w, i32_w]
              rfl
            refine pure_ (i := 14) (N := some 41) (v := ?_) (a' := ?_) #[true, true, true, true, true, true, true, true, true, true, true, true, true, true, true] rfl rfl (any_of HT_.out (by kernel_rfl)) (fun _ _ _ h => h) (Or.inl ⟨by rfl, ?_⟩) ?_ ?_
            rotate_left
            · intro w'
              go_simp
              with_reducible rfl
            rotate_left
            · simp only [Act.put, List.setIfInBounds_toArray, List.set_cons_zero, List.set_cons_succ, i64_w, i32_w]
              rfl
            refine done_ (done_of HT_.out (by kernel_rfl)) ?_
            try go_wp2
            go_meet
            case rel => exact ⟨_, (true), (by first | rfl | (simp; done) | (simp [*]; done)), H', ⟨by have := HJ2.out; first | omega | exact Nat.le_refl _⟩, ⟨by (with_reducible repeat (first | refine blk_drewN ?_ _ | refine blk_drew ?_ | refine blk_alloc ?_ _)); exact BK656.out⟩, ⟨by (with_reducible repeat (first | refine blk_drewN ?_ _ | refine blk_drew ?_ | refine blk_alloc ?_ _)); exact BK657.out⟩, ⟨by (with_reducible repeat (first | refine blk_drewN ?_ _ | refine blk_drew ?_ | refine blk_alloc ?_ _)); exact BK660.out⟩, ⟨by (with_reducible repeat (first | refine blk_drewN ?_ _ | refine blk_drew ?_ | refine blk_alloc ?_ _)); exact BK663.out⟩, ⟨by repeat (first | (with_reducible first | exact HB.out | apply below_alloc | apply pw_below_drewN | apply below_drew1 | refine below_set ?_ GE656.out | refine below_set ?_ GE657.out | refine below_set ?_ GE660.out | refine below_set ?_ GE663.out) | exact HB.out)⟩⟩
          · rw [if_neg c30] at H
            have c30b0 : (!(t661 == t664) || (!(t662 == t665))) = false := by simpa using c30
            clear c30
            (first | rw [c30b0] | (simp only [i64_w, i32_w]; rw [c30b0]) | skip)
            replace H := Option.bind_eq_some_iff.mp H
            obtain ⟨t666, A340, H⟩ := H
            replace H : (if t666 = true then ((spec_LabelOk.f t654 t655).bind fun t667 => (laws_FnLabelBoth.j1 kj2 (!t667) t652 t653 t654 t655 t658 t659 t661 t662)) else (laws_FnLabelBoth.j1 kj2 true t652 t653 t654 t655 t658 t659 t661 t662)) = some r := H
            have A34 := Aside0.mk A340
            clear A340
            by_cases c35 : t666 = true
            · subst c35
              have H1 : ((spec_LabelOk.f t654 t655).bind fun t667 => (laws_FnLabelBoth.j1 kj2 (!t667) t652 t653 t654 t655 t658 t659 t661 t662)) = some r := by rw [if_pos rfl] at H; exact H
              clear H
              have H := H1
              clear H1
              replace H := Option.bind_eq_some_iff.mp H
              obtain ⟨t667, A360, H⟩ := H
              replace H : (laws_FnLabelBoth.j1 kj2 (!t667) t652 t653 t654 t655 t658 t659 t661 t662) = some r := H
              have A36 := Aside0.mk A360
              clear A360
              have H' := Aside0.mk H
              clear H
              try go_wp2
              have n0_ : Aside0 (((w24.setCell ⟨gb663, 0, none⟩ (.int .i64 t661)).setCell ⟨gb663, 1, none⟩ (.int .i64 t662)).heap[gb656]? = some (.cells #[.int .i64 t652, .int .i64 t653] 26 (0, 0))) := ⟨by (with_reducible repeat (first | refine blk_drewN ?_ _ | refine blk_drew ?_ | refine blk_alloc ?_ _)); refine blk_far ?_ NB656_663.out _; (with_reducible repeat (first | refine blk_drewN ?_ _ | refine blk_drew ?_ | refine blk_alloc ?_ _)); refine blk_far ?_ NB656_663.out _; (with_reducible repeat (first | refine blk_drewN ?_ _ | refine blk_drew ?_ | refine blk_alloc ?_ _)); exact BK656.out⟩
              have n1_ : Aside0 (((w24.setCell ⟨gb663, 0, none⟩ (.int .i64 t661)).setCell ⟨gb663, 1, none⟩ (.int .i64 t662)).heap[gb657]? = some (.cells #[.int .i64 t654, .int .i64 t655] 26 (0, 0))) := ⟨by (with_reducible repeat (first | refine blk_drewN ?_ _ | refine blk_drew ?_ | refine blk_alloc ?_ _)); refine blk_far ?_ NB657_663.out _; (with_reducible repeat (first | refine blk_drewN ?_ _ | refine blk_drew ?_ | refine blk_alloc ?_ _)); refine blk_far ?_ NB657_663.out _; (with_reducible repeat (first | refine blk_drewN ?_ _ | refine blk_drew ?_ | refine blk_alloc ?_ _)); exact BK657.out⟩
              have n2_ : Aside0 (((w24.setCell ⟨gb663, 0, none⟩ (.int .i64 t661)).setCell ⟨gb663, 1, none⟩ (.int .i64 t662)).heap[gb660]? = some (.cells #[.int .i64 t658, .int .i64 t659] 26 (0, 0))) := ⟨by (with_reducible repeat (first | refine blk_drewN ?_ _ | refine blk_drew ?_ | refine blk_alloc ?_ _)); refine blk_far ?_ NB660_663.out _; (with_reducible repeat (first | refine blk_drewN ?_ _ | refine blk_drew ?_ | refine blk_alloc ?_ _)); refine blk_far ?_ NB660_663.out _; (with_reducible repeat (first | refine blk_drewN ?_ _ | refine blk_drew ?_ | refine blk_alloc ?_ _)); exact BK660.out⟩
              have n3_ : Aside0 (((w24.setCell ⟨gb663, 0, none⟩ (.int .i64 t661)).setCell ⟨gb663, 1, none⟩ (.int .i64 t662)).heap[gb663]? = some (.cells #[.int .i64 t661, .int .i64 t662] 26 (0, 0))) := ⟨by (with_reducible repeat (first | refine blk_drewN ?_ _ | refine blk_drew ?_ | refine blk_alloc ?_ _)); refine blk_put (cs := #[.int .i64 t661, .int .i64 0]) ?_ 1 _ rfl; (with_reducible repeat (first | refine blk_drewN ?_ _ | refine blk_drew ?_ | refine blk_alloc ?_ _)); refine blk_put (cs := #[.int .i64 0, .int .i64 0]) ?_ 0 _ rfl; (with_reducible repeat (first | refine blk_drewN ?_ _ | refine blk_drew ?_ | refine blk_alloc ?_ _)); exact BK663.out⟩
              have n4_ : Aside0 (Below w.heap.size w ((w24.setCell ⟨gb663, 0, none⟩ (.int .i64 t661)).setCell ⟨gb663, 1, none⟩ (.int .i64 t662))) := ⟨by repeat (first | (with_reducible first | exact HB.out | apply below_alloc | apply pw_below_drewN | apply below_drew1 | refine below_set ?_ GE656.out | refine below_set ?_ GE657.out | refine below_set ?_ GE660.out | refine below_set ?_ GE663.out) | exact HB.out)⟩
              (try clear BK656)
              (try clear BK657)
              (try clear BK660)
              (try clear BK663)
              (try clear HB)
              generalize ((w24.setCell ⟨gb663, 0, none⟩ (.int .i64 t661)).setCell ⟨gb663, 1, none⟩ (.int .i64 t662)) = w37 at n0_ n1_ n2_ n3_ n4_ ⊢
              have BK656 := n0_
              have BK657 := n1_
              have BK660 := n2_
              have BK663 := n3_
              have HB := n4_
              clear n0_ n1_ n2_ n3_ n4_
              have n0_ := Aside0.mk (blk_drew BK656.out)
              have n1_ := Aside0.mk (blk_drew BK657.out)
              have n2_ := Aside0.mk (blk_drew BK660.out)
              have n3_ := Aside0.mk (blk_drew BK663.out)
              have n4_ := Aside0.mk (below_drew1 HB.out)
              clear BK656
              clear BK657
              clear BK660
              clear BK663
              clear HB
              have BK656 := n0_
              have BK657 := n1_
              have BK660 := n2_
              have BK663 := n3_
              have HB := n4_
              clear n0_ n1_ n2_ n3_ n4_
              refine start_ (n := 15) (S := fun w' => w'.cell? ⟨gb663, 0, none⟩ = some (.int .i64 t661) ∧ w'.cell? ⟨gb663, 1, none⟩ = some (.int .i64 t662) ∧ w'.cell? ⟨gb656, 0, none⟩ = some (.int .i64 t652) ∧ w'.cell? ⟨gb656, 1, none⟩ = some (.int .i64 t653) ∧ w'.cell? ⟨gb657, 0, none⟩ = some (.int .i64 t654) ∧ w'.cell? ⟨gb657, 1, none⟩ = some (.int .i64 t655)) (ds := []) #[false, false, false, false, false, false, false, false, false, false, false, false, false, false, false] (by kernel_rfl) rfl rfl ⟨(blk_cell BK663.out 0).trans rfl, (blk_cell BK663.out 1).trans rfl, (blk_cell BK656.out 0).trans rfl, (blk_cell BK656.out 1).trans rfl, (blk_cell BK657.out 0).trans rfl, (blk_cell BK657.out 1).trans rfl⟩ (fun hHeld => ?_); refine with_tabW laws_FnLabelBoth.tab6 laws_FnLabelBoth.bits6 (fun HT_ HW_ => ?_)
              generalize w37.drew = w38 at BK656 BK657 BK660 BK663 HB hHeld ⊢
              refine take_ (i := 0) (N := some 27) (v := ?_) (a' := ?_) #[true, false, false, false, false, false, false, false, false, false, false, false, false, false, false] rfl rfl (take_ofW HT_.out HW_.out (by kernel_rfl)) (fun _ _ _ h => h) (Or.inl ⟨by rfl, ?_⟩) hHeld ?_ ?_
              rotate_left
              · rintro w' ⟨s0, s1, s2, s3, s4, s5⟩
                go_simp
                with_reducible rfl
              rotate_left
              · simp only [Act.put, List.setIfInBounds_toArray, List.set_cons_zero, List.set_cons_succ, i64_w, i32_w]
                rfl
              refine take_ (i := 1) (N := some 28) (v := ?_) (a' := ?_) #[true, true, false, false, false, false, false, false, false, false, false, false, false, false, false] rfl rfl (take_ofW HT_.out HW_.out (by kernel_rfl)) (fun _ _ _ h => h) (Or.inl ⟨by rfl, ?_⟩) hHeld ?_ ?_
              rotate_left
              · rintro w' ⟨s0, s1, s2, s3, s4, s5⟩
                go_simp
                with_reducible rfl
              rotate_left
              · simp only [Act.put, List.setIfInBounds_toArray, List.set_cons_zero, List.set_cons_succ, i64_w, i32_w]
                rfl
              refine take_ (i := 2) (N := some 29) (v := ?_) (a' := ?_) #[true, true, true, false, false, false, false, false, false, false, false, false, false, false, false] rfl rfl (take_ofW HT_.out HW_.out (by kernel_rfl)) (fun _ _ _ h => h) (Or.inl ⟨by rfl, ?_⟩) hHeld ?_ ?_
              rotate_left
              · rintro w' ⟨s0, s1, s2, s3, s4, s5⟩
                go_simp
                with_reducible rfl
              rotate_left
              · simp only [Act.put, List.setIfInBounds_toArray, List.set_cons_zero, List.set_cons_succ, i64_w, i32_w]
                rfl
              refine one_ (i := 3) (N := some 30) #[true, true, true, true, false, false, false, false, false, false, false, false, false, false, false] rfl rfl (one_of HT_.out (by kernel_rfl)) (by decide) (fun K hK => ?_)
              refine goes_ Try.func26 (by kernel_rfl) rfl #[.agg #[.int .i64 t652, .int .i64 t653], .agg #[.int .i64 t654, .int .i64 t655]] (by rfl) rfl rfl (by (try simp only [List.map_toArray, List.map_cons, List.map_nil]); first | done | rfl | (simp only [List.length_drop, List.length_take]; rfl)) ?_
              with_reducible refine (spec_LabelBoth.calls kj2 t652 t653 t654 t655 t664 t665 _ A29.out).mono ?_
              rintro e w39 ⟨rfl, hb⟩
              refine ⟨_, rfl, ?_⟩
              have n0_ := Aside0.mk (blk_below (g := gb656) (o := .cells #[.int .i64 t652, .int .i64 t653] 26 (0, 0)) (by (with_reducible repeat (first | refine blk_drewN ?_ _ | refine blk_drew ?_ | refine blk_alloc ?_ _)); exact BK656.out) hb)
              have n1_ := Aside0.mk (blk_below (g := gb657) (o := .cells #[.int .i64 t654, .int .i64 t655] 26 (0, 0)) (by (with_reducible repeat (first | refine blk_drewN ?_ _ | refine blk_drew ?_ | refine blk_alloc ?_ _)); exact BK657.out) hb)
              have n2_ := Aside0.mk (blk_below (g := gb660) (o := .cells #[.int .i64 t658, .int .i64 t659] 26 (0, 0)) (by (with_reducible repeat (first | refine blk_drewN ?_ _ | refine blk_drew ?_ | refine blk_alloc ?_ _)); exact BK660.out) hb)
              have n3_ := Aside0.mk (blk_below (g := gb663) (o := .cells #[.int .i64 t661, .int .i64 t662] 26 (0, 0)) (by (with_reducible repeat (first | refine blk_drewN ?_ _ | refine blk_drew ?_ | refine blk_alloc ?_ _)); exact BK663.out) hb)
              have n4_ := Aside0.mk (below_step (by repeat (first | (with_reducible first | exact HB.out | apply below_alloc | apply pw_below_drewN | apply below_drew1 | refine below_set ?_ GE656.out | refine below_set ?_ GE657.out | refine below_set ?_ GE660.out | refine below_set ?_ GE663.out) | exact HB.out)) hb)
              clear BK656
              clear BK657
              clear BK660
              clear BK663
              clear HB
              have BK656 := n0_
              have BK657 := n1_
              have BK660 := n2_
              have BK663 := n3_
              have HB := n4_
              clear n0_ n1_ n2_ n3_ n4_
              (try clear hb)
              (try clear hb2)
              (try clear hk)
              (try clear hi)
              refine hK.out _ _ ⟨(blk_cell BK663.out 0).trans rfl, (blk_cell BK663.out 1).trans rfl, (blk_cell BK656.out 0).trans rfl, (blk_cell BK656.out 1).trans rfl, (blk_cell BK657.out 0).trans rfl, (blk_cell BK657.out 1).trans rfl⟩ (fun hHeld => ?_)
              clear hK K
              refine norm_ (a' := ?_) ?_ ?_
              rotate_left
              · show Act.put _ (some 30) _ = _
                simp only [Act.put, List.setIfInBounds_toArray, List.set_cons_zero, List.set_cons_succ, i64_w, i32_w]
                rfl
              refine pure_ (i := 4) (N := some 31) (v := ?_) (a' := ?_) #[true, true, true, true, true, false, false, false, false, false, false, false, false, false, false] rfl rfl (any_of HT_.out (by kernel_rfl)) (fun _ _ _ h => h) (Or.inl ⟨by rfl, ?_⟩) ?_ ?_
              rotate_left
              · intro w'
                go_simp
                with_reducible rfl
              rotate_left
              · simp only [Act.put, List.setIfInBounds_toArray, List.set_cons_zero, List.set_cons_succ, i64_w, i32_w]
                rfl
              refine pure_ (i := 5) (N := some 32) (v := ?_) (a' := ?_) #[true, true, true, true, true, true, false, false, false, false, false, false, false, false, false] rfl rfl (any_of HT_.out (by kernel_rfl)) (fun _ _ _ h => h) (Or.inl ⟨by rfl, ?_⟩) ?_ ?_
              rotate_left
              · intro w'
                go_simp
                with_reducible rfl
              rotate_left
              · simp only [Act.put, List.setIfInBounds_toArray, List.set_cons_zero, List.set_cons_succ, i64_w, i32_w]
                rfl
              refine take_ (i := 6) (N := some 33) (v := ?_) (a' := ?_) #[true, true, true, true, true, true, true, false, false, false, false, false, false, false, false] rfl rfl (take_ofW HT_.out HW_.out (by kernel_rfl)) (fun _ _ _ h => h) (Or.inl ⟨by rfl, ?_⟩) hHeld ?_ ?_
              rotate_left
              · rintro w' ⟨s0, s1, s2, s3, s4, s5⟩
                go_simp
                with_reducible rfl
              rotate_left
              · simp only [Act.put, List.setIfInBounds_toArray, List.set_cons_zero, List.set_cons_succ, i64_w, i32_w]
                rfl
              refine one_ (i := 7) (N := some 34) #[true, true, true, true, true, true, true, true, false, false, false, false, false, false, false] rfl rfl (one_of HT_.out (by kernel_rfl)) (by decide) (fun K hK => ?_)
              refine goes_ Try.func21 (by kernel_rfl) rfl #[.agg #[.int .i64 t652, .int .i64 t653]] (by rfl) rfl rfl (by (try simp only [List.map_toArray, List.map_cons, List.map_nil]); first | done | rfl | (simp only [List.length_drop, List.length_take]; rfl)) ?_
              with_reducible refine (spec_LabelOk.calls t652 t653 true _ A34.out).mono ?_
              rintro e w40 ⟨rfl, hb⟩
              refine ⟨_, rfl, ?_⟩
              have n0_ := Aside0.mk (blk_below (g := gb656) (o := .cells #[.int .i64 t652, .int .i64 t653] 26 (0, 0)) (by (with_reducible repeat (first | refine blk_drewN ?_ _ | refine blk_drew ?_ | refine blk_alloc ?_ _)); exact BK656.out) hb)
              have n1_ := Aside0.mk (blk_below (g := gb657) (o := .cells #[.int .i64 t654, .int .i64 t655] 26 (0, 0)) (by (with_reducible repeat (first | refine blk_drewN ?_ _ | refine blk_drew ?_ | refine blk_alloc ?_ _)); exact BK657.out) hb)
              have n2_ := Aside0.mk (blk_below (g := gb660) (o := .cells #[.int .i64 t658, .int .i64 t659] 26 (0, 0)) (by (with_reducible repeat (first | refine blk_drewN ?_ _ | refine blk_drew ?_ | refine blk_alloc ?_ _)); exact BK660.out) hb)
              have n3_ := Aside0.mk (blk_below (g := gb663) (o := .cells #[.int .i64 t661, .int .i64 t662] 26 (0, 0)) (by (with_reducible repeat (first | refine blk_drewN ?_ _ | refine blk_drew ?_ | refine blk_alloc ?_ _)); exact BK663.out) hb)
              have n4_ := Aside0.mk (below_step (by repeat (first | (with_reducible first | exact HB.out | apply below_alloc | apply pw_below_drewN | apply below_drew1 | refine below_set ?_ GE656.out | refine below_set ?_ GE657.out | refine below_set ?_ GE660.out | refine below_set ?_ GE663.out) | exact HB.out)) hb)
              clear BK656
              clear BK657
              clear BK660
              clear BK663
              clear HB
              have BK656 := n0_
              have BK657 := n1_
              have BK660 := n2_
              have BK663 := n3_
              have HB := n4_
              clear n0_ n1_ n2_ n3_ n4_
              (try clear hb)
              (try clear hb2)
              (try clear hk)
              (try clear hi)
              refine hK.out _ _ ⟨(blk_cell BK663.out 0).trans rfl, (blk_cell BK663.out 1).trans rfl, (blk_cell BK656.out 0).trans rfl, (blk_cell BK656.out 1).trans rfl, (blk_cell BK657.out 0).trans rfl, (blk_cell BK657.out 1).trans rfl⟩ (fun hHeld => ?_)
              clear hK K
              refine norm_ (a' := ?_) ?_ ?_
              rotate_left
              · show Act.put _ (some 34) _ = _
                simp only [Act.put, List.setIfInBounds_toArray, List.set_cons_zero, List.set_cons_succ, i64_w, i32_w]
                rfl
              refine pure_ (i := 8) (N := some 35) (v := ?_) (a' := ?_) #[true, true, true, true, true, true, true, true, true, false, false, false, false, false, false] rfl rfl (any_of HT_.out (by kernel_rfl)) (fun _ _ _ h => h) (Or.inl ⟨by rfl, ?_⟩) ?_ ?_
              rotate_left
              · intro w'
                go_simp
                with_reducible rfl
              rotate_left
              · simp only [Act.put, List.setIfInBounds_toArray, List.set_cons_zero, List.set_cons_succ, i64_w, i32_w]
                rfl
              refine pure_ (i := 9) (N := some 36) (v := ?_) (a' := ?_) #[true, true, true, true, true, true, true, true, true, true, false, false, false, false, false] rfl rfl (any_of HT_.out (by kernel_rfl)) (fun _ _ _ h => h) (Or.inl ⟨by rfl, ?_⟩) ?_ ?_
              rotate_left
              · intro w'
                go_simp
                with_reducible rfl
              rotate_left
              · simp only [Act.put, List.setIfInBounds_toArray, List.set_cons_zero, List.set_cons_succ, i64_w, i32_w]
                rfl
              refine pure_ (i := 10) (N := some 37) (v := ?_) (a' := ?_) #[true, true, true, true, true, true, true, true, true, true, true, false, false, false, false] rfl rfl (any_of HT_.out (by kernel_rfl)) (fun _ _ _ h => h) (Or.inl ⟨by rfl, ?_⟩) ?_ ?_
              rotate_left
              · intro w'
                go_simp
                with_reducible rfl
              rotate_left
              · simp only [Act.put, List.setIfInBounds_toArray, List.set_cons_zero, List.set_cons_succ, i64_w, i32_w]
                rfl
              refine take_ (i := 11) (N := some 38) (v := ?_) (a' := ?_) #[true, true, true, true, true, true, true, true, true, true, true, true, false, false, false] rfl rfl (take_ofW HT_.out HW_.out (by kernel_rfl)) (fun _ _ _ h => h) (Or.inl ⟨by rfl, ?_⟩) hHeld ?_ ?_
              rotate_left
              · rintro w' ⟨s0, s1, s2, s3, s4, s5⟩
                go_simp
                with_reducible rfl
              rotate_left
              · simp only [Act.put, List.setIfInBounds_toArray, List.set_cons_zero, List.set_cons_succ, i64_w, i32_w]
                rfl
              refine one_ (i := 12) (N := some 39) #[true, true, true, true, true, true, true, true, true, true, true, true, true, false, false] rfl rfl (one_of HT_.out (by kernel_rfl)) (by decide) (fun K hK => ?_)
              refine goes_ Try.func21 (by kernel_rfl) rfl #[.agg #[.int .i64 t654, .int .i64 t655]] (by rfl) rfl rfl (by (try simp only [List.map_toArray, List.map_cons, List.map_nil]); first | done | rfl | (simp only [List.length_drop, List.length_take]; rfl)) ?_
              with_reducible refine (spec_LabelOk.calls t654 t655 t667 _ A36.out).mono ?_
              rintro e w41 ⟨rfl, hb⟩
              refine ⟨_, rfl, ?_⟩
              have n0_ := Aside0.mk (blk_below (g := gb656) (o := .cells #[.int .i64 t652, .int .i64 t653] 26 (0, 0)) (by (with_reducible repeat (first | refine blk_drewN ?_ _ | refine blk_drew ?_ | refine blk_alloc ?_ _)); exact BK656.out) hb)
              have n1_ := Aside0.mk (blk_below (g := gb657) (o := .cells #[.int .i64 t654, .int .i64 t655] 26 (0, 0)) (by (with_reducible repeat (first | refine blk_drewN ?_ _ | refine blk_drew ?_ | refine blk_alloc ?_ _)); exact BK657.out) hb)
              have n2_ := Aside0.mk (blk_below (g := gb660) (o := .cells #[.int .i64 t658, .int .i64 t659] 26 (0, 0)) (by (with_reducible repeat (first | refine blk_drewN ?_ _ | refine blk_drew ?_ | refine blk_alloc ?_ _)); exact BK660.out) hb)
              have n3_ := Aside0.mk (blk_below (g := gb663) (o := .cells #[.int .i64 t661, .int .i64 t662] 26 (0, 0)) (by (with_reducible repeat (first | refine blk_drewN ?_ _ | refine blk_drew ?_ | refine blk_alloc ?_ _)); exact BK663.out) hb)
              have n4_ := Aside0.mk (below_step (by repeat (first | (with_reducible first | exact HB.out | apply below_alloc | apply pw_below_drewN | apply below_drew1 | refine below_set ?_ GE656.out | refine below_set ?_ GE657.out | refine below_set ?_ GE660.out | refine below_set ?_ GE663.out) | exact HB.out)) hb)
              clear BK656
              clear BK657
              clear BK660
              clear BK663
              clear HB
              have BK656 := n0_
              have BK657 := n1_
              have BK660 := n2_
              have BK663 := n3_
              have HB := n4_
              clear n0_ n1_ n2_ n3_ n4_
              (try clear hb)
              (try clear hb2)
              (try clear hk)
              (try clear hi)
              refine hK.out _ _ ⟨(blk_cell BK663.out 0).trans rfl, (blk_cell BK663.out 1).trans rfl, (blk_cell BK656.out 0).trans rfl, (blk_cell BK656.out 1).trans rfl, (blk_cell BK657.out 0).trans rfl, (blk_cell BK657.out 1).trans rfl⟩ (fun hHeld => ?_)
              clear hK K
              refine norm_ (a' := ?_) ?_ ?_
              rotate_left
              · show Act.put _ (some 39) _ = _
                simp only [Act.put, List.setIfInBounds_toArray, List.set_cons_zero, List.set_cons_succ, i64_w, i32_w]
                rfl
              refine pure_ (i := 13) (N := some 40) (v := ?_) (a' := ?_) #[true, true, true, true, true, true, true, true, true, true, true, true, true, true, false] rfl rfl (any_of HT_.out (by kernel_rfl)) (fun _ _ _ h => h) (Or.inl ⟨by rfl, ?_⟩) ?_ ?_
              rotate_left
              · intro w'
                go_simp
                with_reducible rfl
              rotate_left
              · simp only [Act.put, List.setIfInBounds_toArray, List.set_cons_zero, List.set_cons_succ, i64_w, i32_w]
                rfl
              refine pure_ (i := 14) (N := some 41) (v := ?_) (a' := ?_) #[true, true, true, true, true, true, true, true, true, true, true, true, true, true, true] rfl rfl (any_of HT_.out (by kernel_rfl)) (fun _ _ _ h => h) (Or.inl ⟨by rfl, ?_⟩) ?_ ?_
              rotate_left
              · intro w'
                go_simp
                with_reducible rfl
              rotate_left
              · simp only [Act.put, List.setIfInBounds_toArray, List.set_cons_zero, List.set_cons_succ, i64_w, i32_w]
                rfl
              refine done_ (done_of HT_.out (by kernel_rfl)) ?_
              try go_wp2
              go_meet
              case rel => exact ⟨_, (!t667), (by first | rfl | (simp; done) | (simp [*]; done)), H', ⟨by have := HJ2.out; first | omega | exact Nat.le_refl _⟩, ⟨by (with_reducible repeat (first | refine blk_drewN ?_ _ | refine blk_drew ?_ | refine blk_alloc ?_ _)); exact BK656.out⟩, ⟨by (with_reducible repeat (first | refine blk_drewN ?_ _ | refine blk_drew ?_ | refine blk_alloc ?_ _)); exact BK657.out⟩, ⟨by (with_reducible repeat (first | refine blk_drewN ?_ _ | refine blk_drew ?_ | refine blk_alloc ?_ _)); exact BK660.out⟩, ⟨by (with_reducible repeat (first | refine blk_drewN ?_ _ | refine blk_drew ?_ | refine blk_alloc ?_ _)); exact BK663.out⟩, ⟨by repeat (first | (with_reducible first | exact HB.out | apply below_alloc | apply pw_below_drewN | apply below_drew1 | refine below_set ?_ GE656.out | refine below_set ?_ GE657.out | refine below_set ?_ GE660.out | refine below_set ?_ GE663.out) | exact HB.out)⟩⟩
            · replace c35 := Bool.eq_false_iff.mpr c35
              subst c35
              have H1 : (laws_FnLabelBoth.j1 kj2 true t652 t653 t654 t655 t658 t659 t661 t662) = some r := by rw [if_neg (show ¬ (false = true) by decide)] at H; exact H
              clear H
              have H := H1
              clear H1
              have H' := Aside0.mk H
              clear H
              try go_wp2
              have n0_ : Aside0 (((w24.setCell ⟨gb663, 0, none⟩ (.int .i64 t661)).setCell ⟨gb663, 1, none⟩ (.int .i64 t662)).heap[gb656]? = some (.cells #[.int .i64 t652, .int .i64 t653] 26 (0, 0))) := ⟨by (with_reducible repeat (first | refine blk_drewN ?_ _ | refine blk_drew ?_ | refine blk_alloc ?_ _)); refine blk_far ?_ NB656_663.out _; (with_reducible repeat (first | refine blk_drewN ?_ _ | refine blk_drew ?_ | refine blk_alloc ?_ _)); refine blk_far ?_ NB656_663.out _; (with_reducible repeat (first | refine blk_drewN ?_ _ | refine blk_drew ?_ | refine blk_alloc ?_ _)); exact BK656.out⟩
              have n1_ : Aside0 (((w24.setCell ⟨gb663, 0, none⟩ (.int .i64 t661)).setCell ⟨gb663, 1, none⟩ (.int .i64 t662)).heap[gb657]? = some (.cells #[.int .i64 t654, .int .i64 t655] 26 (0, 0))) := ⟨by (with_reducible repeat (first | refine blk_drewN ?_ _ | refine blk_drew ?_ | refine blk_alloc ?_ _)); refine blk_far ?_ NB657_663.out _; (with_reducible repeat (first | refine blk_drewN ?_ _ | refine blk_drew ?_ | refine blk_alloc ?_ _)); refine blk_far ?_ NB657_663.out _; (with_reducible repeat (first | refine blk_drewN ?_ _ | refine blk_drew ?_ | refine blk_alloc ?_ _)); exact BK657.out⟩
              have n2_ : Aside0 (((w24.setCell ⟨gb663, 0, none⟩ (.int .i64 t661)).setCell ⟨gb663, 1, none⟩ (.int .i64 t662)).heap[gb660]? = some (.cells #[.int .i64 t658, .int .i64 t659] 26 (0, 0))) := ⟨by (with_reducible repeat (first | refine blk_drewN ?_ _ | refine blk_drew ?_ | refine blk_alloc ?_ _)); refine blk_far ?_ NB660_663.out _; (with_reducible repeat (first | refine blk_drewN ?_ _ | refine blk_drew ?_ | refine blk_alloc ?_ _)); refine blk_far ?_ NB660_663.out _; (with_reducible repeat (first | refine blk_drewN ?_ _ | refine blk_drew ?_ | refine blk_alloc ?_ _)); exact BK660.out⟩
              have n3_ : Aside0 (((w24.setCell ⟨gb663, 0, none⟩ (.int .i64 t661)).setCell ⟨gb663, 1, none⟩ (.int .i64 t662)).heap[gb663]? = some (.cells #[.int .i64 t661, .int .i64 t662] 26 (0, 0))) := ⟨by (with_reducible repeat (first | refine blk_drewN ?_ _ | refine blk_drew ?_ | refine blk_alloc ?_ _)); refine blk_put (cs := #[.int .i64 t661, .int .i64 0]) ?_ 1 _ rfl; (with_reducible repeat (first | refine blk_drewN ?_ _ | refine blk_drew ?_ | refine blk_alloc ?_ _)); refine blk_put (cs := #[.int .i64 0, .int .i64 0]) ?_ 0 _ rfl; (with_reducible repeat (first | refine blk_drewN ?_ _ | refine blk_drew ?_ | refine blk_alloc ?_ _)); exact BK663.out⟩
              have n4_ : Aside0 (Below w.heap.size w ((w24.setCell ⟨gb663, 0, none⟩ (.int .i64 t661)).setCell ⟨gb663, 1, none⟩ (.int .i64 t662))) := ⟨by repeat (first | (with_reducible first | exact HB.out | apply below_alloc | apply pw_below_drewN | apply below_drew1 | refine below_set ?_ GE656.out | refine below_set ?_ GE657.out | refine below_set ?_ GE660.out | refine below_set ?_ GE663.out) | exact HB.out)⟩
              (try clear BK656)
              (try clear BK657)
              (try clear BK660)
              (try clear BK663)
              (try clear HB)
              generalize ((w24.setCell ⟨gb663, 0, none⟩ (.int .i64 t661)).setCell ⟨gb663, 1, none⟩ (.int .i64 t662)) = w42 at n0_ n1_ n2_ n3_ n4_ ⊢
              have BK656 := n0_
              have BK657 := n1_
              have BK660 := n2_
              have BK663 := n3_
              have HB := n4_
              clear n0_ n1_ n2_ n3_ n4_
              have n0_ := Aside0.mk (blk_drew BK656.out)
              have n1_ := Aside0.mk (blk_drew BK657.out)
              have n2_ := Aside0.mk (blk_drew BK660.out)
              have n3_ := Aside0.mk (blk_drew BK663.out)
              have n4_ := Aside0.mk (below_drew1 HB.out)
              clear BK656
              clear BK657
              clear BK660
              clear BK663
              clear HB
              have BK656 := n0_
              have BK657 := n1_
              have BK660 := n2_
              have BK663 := n3_
              have HB := n4_
              clear n0_ n1_ n2_ n3_ n4_
              refine start_ (n := 15) (S := fun w' => w'.cell? ⟨gb663, 0, none⟩ = some (.int .i64 t661) ∧ w'.cell? ⟨gb663, 1, none⟩ = some (.int .i64 t662) ∧ w'.cell? ⟨gb656, 0, none⟩ = some (.int .i64 t652) ∧ w'.cell? ⟨gb656, 1, none⟩ = some (.int .i64 t653) ∧ w'.cell? ⟨gb657, 0, none⟩ = some (.int .i64 t654) ∧ w'.cell? ⟨gb657, 1, none⟩ = some (.int .i64 t655)) (ds := []) #[false, false, false, false, false, false, false, false, false, false, false, false, false, false, false] (by kernel_rfl) rfl rfl ⟨(blk_cell BK663.out 0).trans rfl, (blk_cell BK663.out 1).trans rfl, (blk_cell BK656.out 0).trans rfl, (blk_cell BK656.out 1).trans rfl, (blk_cell BK657.out 0).trans rfl, (blk_cell BK657.out 1).trans rfl⟩ (fun hHeld => ?_); refine with_tabW laws_FnLabelBoth.tab6 laws_FnLabelBoth.bits6 (fun HT_ HW_ => ?_)
              generalize w42.drew = w43 at BK656 BK657 BK660 BK663 HB hHeld ⊢
              refine take_ (i := 0) (N := some 27) (v := ?_) (a' := ?_) #[true, false, false, false, false, false, false, false, false, false, false, false, false, false, false] rfl rfl (take_ofW HT_.out HW_.out (by kernel_rfl)) (fun _ _ _ h => h) (Or.inl ⟨by rfl, ?_⟩) hHeld ?_ ?_
              rotate_left
              · rintro w' ⟨s0, s1, s2, s3, s4, s5⟩
                go_simp
                with_reducible rfl
              rotate_left
              · simp only [Act.put, List.setIfInBounds_toArray, List.set_cons_zero, List.set_cons_succ, i64_w, i32_w]
                rfl
              refine take_ (i := 1) (N := some 28) (v := ?_) (a' := ?_) #[true, true, false, false, false, false, false, false, false, false, false, false, false, false, false] rfl rfl (take_ofW HT_.out HW_.out (by kernel_rfl)) (fun _ _ _ h => h) (Or.inl ⟨by rfl, ?_⟩) hHeld ?_ ?_
              rotate_left
              · rintro w' ⟨s0, s1, s2, s3, s4, s5⟩
                go_simp
                with_reducible rfl
              rotate_left
              · simp only [Act.put, List.setIfInBounds_toArray, List.set_cons_zero, List.set_cons_succ, i64_w, i32_w]
                rfl
              refine take_ (i := 2) (N := some 29) (v := ?_) (a' := ?_) #[true, true, true, false, false, false, false, false, false, false, false, false, false, false, false] rfl rfl (take_ofW HT_.out HW_.out (by kernel_rfl)) (fun _ _ _ h => h) (Or.inl ⟨by rfl, ?_⟩) hHeld ?_ ?_
              rotate_left
              · rintro w' ⟨s0, s1, s2, s3, s4, s5⟩
                go_simp
                with_reducible rfl
              rotate_left
              · simp only [Act.put, List.setIfInBounds_toArray, List.set_cons_zero, List.set_cons_succ, i64_w, i32_w]
                rfl
              refine one_ (i := 3) (N := some 30) #[true, true, true, true, false, false, false, false, false, false, false, false, false, false, false] rfl rfl (one_of HT_.out (by kernel_rfl)) (by decide) (fun K hK => ?_)
              refine goes_ Try.func26 (by kernel_rfl) rfl #[.agg #[.int .i64 t652, .int .i64 t653], .agg #[.int .i64 t654, .int .i64 t655]] (by rfl) rfl rfl (by (try simp only [List.map_toArray, List.map_cons, List.map_nil]); first | done | rfl | (simp only [List.length_drop, List.length_take]; rfl)) ?_
              with_reducible refine (spec_LabelBoth.calls kj2 t652 t653 t654 t655 t664 t665 _ A29.out).mono ?_
              rintro e w44 ⟨rfl, hb⟩
              refine ⟨_, rfl, ?_⟩
              have n0_ := Aside0.mk (blk_below (g := gb656) (o := .cells #[.int .i64 t652, .int .i64 t653] 26 (0, 0)) (by (with_reducible repeat (first | refine blk_drewN ?_ _ | refine blk_drew ?_ | refine blk_alloc ?_ _)); exact BK656.out) hb)
              have n1_ := Aside0.mk (blk_below (g := gb657) (o := .cells #[.int .i64 t654, .int .i64 t655] 26 (0, 0)) (by (with_reducible repeat (first | refine blk_drewN ?_ _ | refine blk_drew ?_ | refine blk_alloc ?_ _)); exact BK657.out) hb)
              have n2_ := Aside0.mk (blk_below (g := gb660) (o := .cells #[.int .i64 t658, .int .i64 t659] 26 (0, 0)) (by (with_reducible repeat (first | refine blk_drewN ?_ _ | refine blk_drew ?_ | refine blk_alloc ?_ _)); exact BK660.out) hb)
              have n3_ := Aside0.mk (blk_below (g := gb663) (o := .cells #[.int .i64 t661, .int .i64 t662] 26 (0, 0)) (by (with_reducible repeat (first | refine blk_drewN ?_ _ | refine blk_drew ?_ | refine blk_alloc ?_ _)); exact BK663.out) hb)
              have n4_ := Aside0.mk (below_step (by repeat (first | (with_reducible first | exact HB.out | apply below_alloc | apply pw_below_drewN | apply below_drew1 | refine below_set ?_ GE656.out | refine below_set ?_ GE657.out | refine below_set ?_ GE660.out | refine below_set ?_ GE663.out) | exact HB.out)) hb)
              clear BK656
              clear BK657
              clear BK660
              clear BK663
              clear HB
              have BK656 := n0_
              have BK657 := n1_
              have BK660 := n2_
              have BK663 := n3_
              have HB := n4_
              clear n0_ n1_ n2_ n3_ n4_
              (try clear hb)
              (try clear hb2)
              (try clear hk)
              (try clear hi)
              refine hK.out _ _ ⟨(blk_cell BK663.out 0).trans rfl, (blk_cell BK663.out 1).trans rfl, (blk_cell BK656.out 0).trans rfl, (blk_cell BK656.out 1).trans rfl, (blk_cell BK657.out 0).trans rfl, (blk_cell BK657.out 1).trans rfl⟩ (fun hHeld => ?_)
              clear hK K
              refine norm_ (a' := ?_) ?_ ?_
              rotate_left
              · show Act.put _ (some 30) _ = _
                simp only [Act.put, List.setIfInBounds_toArray, List.set_cons_zero, List.set_cons_succ, i64_w, i32_w]
                rfl
              refine pure_ (i := 4) (N := some 31) (v := ?_) (a' := ?_) #[true, true, true, true, true, false, false, false, false, false, false, false, false, false, false] rfl rfl (any_of HT_.out (by kernel_rfl)) (fun _ _ _ h => h) (Or.inl ⟨by rfl, ?_⟩) ?_ ?_
              rotate_left
              · intro w'
                go_simp
                with_reducible rfl
              rotate_left
              · simp only [Act.put, List.setIfInBounds_toArray, List.set_cons_zero, List.set_cons_succ, i64_w, i32_w]
                rfl
              refine pure_ (i := 5) (N := some 32) (v := ?_) (a' := ?_) #[true, true, true, true, true, true, false, false, false, false, false, false, false, false, false] rfl rfl (any_of HT_.out (by kernel_rfl)) (fun _ _ _ h => h) (Or.inl ⟨by rfl, ?_⟩) ?_ ?_
              rotate_left
              · intro w'
                go_simp
                with_reducible rfl
              rotate_left
              · simp only [Act.put, List.setIfInBounds_toArray, List.set_cons_zero, List.set_cons_succ, i64_w, i32_w]
                rfl
              refine take_ (i := 6) (N := some 33) (v := ?_) (a' := ?_) #[true, true, true, true, true, true, true, false, false, false, false, false, false, false, false] rfl rfl (take_ofW HT_.out HW_.out (by kernel_rfl)) (fun _ _ _ h => h) (Or.inl ⟨by rfl, ?_⟩) hHeld ?_ ?_
              rotate_left
              · rintro w' ⟨s0, s1, s2, s3, s4, s5⟩
                go_simp
                with_reducible rfl
              rotate_left
              · simp only [Act.put, List.setIfInBounds_toArray, List.set_cons_zero, List.set_cons_succ, i64_w, i32_w]
                rfl
              refine one_ (i := 7) (N := some 34) #[true, true, true, true, true, true, true, true, false, false, false, false, false, false, false] rfl rfl (one_of HT_.out (by kernel_rfl)) (by decide) (fun K hK => ?_)
              refine goes_ Try.func21 (by kernel_rfl) rfl #[.agg #[.int .i64 t652, .int .i64 t653]] (by rfl) rfl rfl (by (try simp only [List.map_toArray, List.map_cons, List.map_nil]); first | done | rfl | (simp only [List.length_drop, List.length_take]; rfl)) ?_
              with_reducible refine (spec_LabelOk.calls t652 t653 false _ A34.out).mono ?_
              rintro e w45 ⟨rfl, hb⟩
              refine ⟨_, rfl, ?_⟩
              have n0_ := Aside0.mk (blk_below (g := gb656) (o := .cells #[.int .i64 t652, .int .i64 t653] 26 (0, 0)) (by (with_reducible repeat (first | refine blk_drewN ?_ _ | refine blk_drew ?_ | refine blk_alloc ?_ _)); exact BK656.out) hb)
              have n1_ := Aside0.mk (blk_below (g := gb657) (o := .cells #[.int .i64 t654, .int .i64 t655] 26 (0, 0)) (by (with_reducible repeat (first | refine blk_drewN ?_ _ | refine blk_drew ?_ | refine blk_alloc ?_ _)); exact BK657.out) hb)
              have n2_ := Aside0.mk (blk_below (g := gb660) (o := .cells #[.int .i64 t658, .int .i64 t659] 26 (0, 0)) (by (with_reducible repeat (first | refine blk_drewN ?_ _ | refine blk_drew ?_ | refine blk_alloc ?_ _)); exact BK660.out) hb)
              have n3_ := Aside0.mk (blk_below (g := gb663) (o := .cells #[.int .i64 t661, .int .i64 t662] 26 (0, 0)) (by (with_reducible repeat (first | refine blk_drewN ?_ _ | refine blk_drew ?_ | refine blk_alloc ?_ _)); exact BK663.out) hb)
              have n4_ := Aside0.mk (below_step (by repeat (first | (with_reducible first | exact HB.out | apply below_alloc | apply pw_below_drewN | apply below_drew1 | refine below_set ?_ GE656.out | refine below_set ?_ GE657.out | refine below_set ?_ GE660.out | refine below_set ?_ GE663.out) | exact HB.out)) hb)
              clear BK656
              clear BK657
              clear BK660
              clear BK663
              clear HB
              have BK656 := n0_
              have BK657 := n1_
              have BK660 := n2_
              have BK663 := n3_
              have HB := n4_
              clear n0_ n1_ n2_ n3_ n4_
              (try clear hb)
              (try clear hb2)
              (try clear hk)
              (try clear hi)
              refine hK.out _ _ ⟨(blk_cell BK663.out 0).trans rfl, (blk_cell BK663.out 1).trans rfl, (blk_cell BK656.out 0).trans rfl, (blk_cell BK656.out 1).trans rfl, (blk_cell BK657.out 0).trans rfl, (blk_cell BK657.out 1).trans rfl⟩ (fun hHeld => ?_)
              clear hK K
              refine norm_ (a' := ?_) ?_ ?_
              rotate_left
              · show Act.put _ (some 34) _ = _
                simp only [Act.put, List.setIfInBounds_toArray, List.set_cons_zero, List.set_cons_succ, i64_w, i32_w]
                rfl
              refine pure_ (i := 8) (N := some 35) (v := ?_) (a' := ?_) #[true, true, true, true, true, true, true, true, true, false, false, false, false, false, false] rfl rfl (any_of HT_.out (by kernel_rfl)) (fun _ _ _ h => h) (Or.inl ⟨by rfl, ?_⟩) ?_ ?_
              rotate_left
              · intro w'
                go_simp
                with_reducible rfl
              rotate_left
              · simp only [Act.put, List.setIfInBounds_toArray, List.set_cons_zero, List.set_cons_succ, i64_w, i32_w]
                rfl
              refine pure_ (i := 9) (N := some 36) (v := ?_) (a' := ?_) #[true, true, true, true, true, true, true, true, true, true, false, false, false, false, false] rfl rfl (any_of HT_.out (by kernel_rfl)) (fun _ _ _ h => h) (Or.inl ⟨by rfl, ?_⟩) ?_ ?_
              rotate_left
              · intro w'
                go_simp
                with_reducible rfl
              rotate_left
              · simp only [Act.put, List.setIfInBounds_toArray, List.set_cons_zero, List.set_cons_succ, i64_w, i32_w]
                rfl
              refine pure_ (i := 10) (N := some 37) (v := ?_) (a' := ?_) #[true, true, true, true, true, true, true, true, true, true, true, false, false, false, false] rfl rfl (any_of HT_.out (by kernel_rfl)) (fun _ _ _ h => h) (Or.inl ⟨by rfl, ?_⟩) ?_ ?_
              rotate_left
              · intro w'
                go_simp
                with_reducible rfl
              rotate_left
              · simp only [Act.put, List.setIfInBounds_toArray, List.set_cons_zero, List.set_cons_succ, i64_w, i32_w]
                rfl
              refine pure_ (i := 11) (N := some 38) (v := undef) (a' := ?_) #[true, true, true, true, true, true, true, true, true, true, true, true, false, false, false] rfl rfl (any_of HT_.out (by kernel_rfl)) (fun _ _ _ h => h) (Or.inr ⟨by rfl, rfl⟩) ?_ ?_
              rotate_left
              · simp only [Act.put, List.setIfInBounds_toArray, List.set_cons_zero, List.set_cons_succ, i64_w, i32_w]
                rfl
              refine pure_ (i := 12) (N := some 39) (v := undef) (a' := ?_) #[true, true, true, true, true, true, true, true, true, true, true, true, true, false, false] rfl rfl (any_of HT_.out (by kernel_rfl)) (fun _ _ _ h => h) (Or.inr ⟨by rfl, rfl⟩) ?_ ?_
              rotate_left
              · simp only [Act.put, List.setIfInBounds_toArray, List.set_cons_zero, List.set_cons_succ, i64_w, i32_w]
                rfl
              refine pure_ (i := 13) (N := some 40) (v := undef) (a' := ?_) #[true, true, true, true, true, true, true, true, true, true, true, true, true, true, false] rfl rfl (any_of HT_.out (by kernel_rfl)) (fun _ _ _ h => h) (Or.inr ⟨by rfl, rfl⟩) ?_ ?_
              rotate_left
              · simp only [Act.put, List.setIfInBounds_toArray, List.set_cons_zero, List.set_cons_succ, i64_w, i32_w]
                rfl
              refine pure_ (i := 14) (N := some 41) (v := ?_) (a' := ?_) #[true, true, true, true, true, true, true, true, true, true, true, true, true, true, true] rfl rfl (any_of HT_.out (by kernel_rfl)) (fun _ _ _ h => h) (Or.inl ⟨by rfl, ?_⟩) ?_ ?_
              rotate_left
              · intro w'
                go_simp
                with_reducible rfl
              rotate_left
              · simp only [Act.put, List.setIfInBounds_toArray, List.set_cons_zero, List.set_cons_succ, i64_w, i32_w]
                rfl
              refine done_ (done_of HT_.out (by kernel_rfl)) ?_
              try go_wp2
              go_meet
              case rel => exact ⟨_, (true), (by first | rfl | (simp; done) | (simp [*]; done)), H', ⟨by have := HJ2.out; first | omega | exact Nat.le_refl _⟩, ⟨by (with_reducible repeat (first | refine blk_drewN ?_ _ | refine blk_drew ?_ | refine blk_alloc ?_ _)); exact BK656.out⟩, ⟨by (with_reducible repeat (first | refine blk_drewN ?_ _ | refine blk_drew ?_ | refine blk_alloc ?_ _)); exact BK657.out⟩, ⟨by (with_reducible repeat (first | refine blk_drewN ?_ _ | refine blk_drew ?_ | refine blk_alloc ?_ _)); exact BK660.out⟩, ⟨by (with_reducible repeat (first | refine blk_drewN ?_ _ | refine blk_drew ?_ | refine blk_alloc ?_ _)); exact BK663.out⟩, ⟨by repeat (first | (with_reducible first | exact HB.out | apply below_alloc | apply pw_below_drewN | apply below_drew1 | refine below_set ?_ GE656.out | refine below_set ?_ GE657.out | refine below_set ?_ GE660.out | refine below_set ?_ GE663.out) | exact HB.out)⟩⟩
        case rest =>
          clear HC9
          try clear c2
          try clear p2
          try clear c3
          try clear c21
          try clear c26
          try clear c30
          try clear c30b0
          try clear c35
          obtain ⟨kq, x41_8, rfl, HA, HJ8, BK656, BK657, BK660, BK663, HB⟩ := hcut
          cases kq with
          | zero => exact absurd HA.out (by simp [laws_FnLabelBoth.j1])
          | succ kj8 =>
            have H := HA.out
            clear HA
            simp only [laws_FnLabelBoth.j1] at H
            by_cases c46 : x41_8 = true
            · subst c46
              have H1 : ((spec_LabelBoth.f kj8 t652 t653 t654 t655).bind fun bt668 => (some (t661 == bt668.1 && (t662 == bt668.2)))) = some r := by rw [if_pos rfl] at H; exact H
              clear H
              have H := H1
              clear H1
              replace H := Option.bind_eq_some_iff.mp H
              obtain ⟨⟨t668, t669⟩, A470, H⟩ := H
              replace H : (some (t661 == t668 && (t662 == t669))) = some r := H
              have A47 := Aside0.mk A470
              clear A470
              obtain rfl := Option.some.inj H
              try go_wp2
              have n0_ := Aside0.mk (blk_drew BK656.out)
              have n1_ := Aside0.mk (blk_drew BK657.out)
              have n2_ := Aside0.mk (blk_drew BK660.out)
              have n3_ := Aside0.mk (blk_drew BK663.out)
              have n4_ := Aside0.mk (below_drew1 HB.out)
              clear BK656
              clear BK657
              clear BK660
              clear BK663
              clear HB
              have BK656 := n0_
              have BK657 := n1_
              have BK660 := n2_
              have BK663 := n3_
              have HB := n4_
              clear n0_ n1_ n2_ n3_ n4_
              refine start_ (n := 6) (S := fun w' => w'.cell? ⟨gb663, 0, none⟩ = some (.int .i64 t661) ∧ w'.cell? ⟨gb663, 1, none⟩ = some (.int .i64 t662) ∧ w'.cell? ⟨gb656, 0, none⟩ = some (.int .i64 t652) ∧ w'.cell? ⟨gb656, 1, none⟩ = some (.int .i64 t653) ∧ w'.cell? ⟨gb657, 0, none⟩ = some (.int .i64 t654) ∧ w'.cell? ⟨gb657, 1, none⟩ = some (.int .i64 t655)) (ds := []) #[false, false, false, false, false, false] (by kernel_rfl) rfl rfl ⟨(blk_cell BK663.out 0).trans rfl, (blk_cell BK663.out 1).trans rfl, (blk_cell BK656.out 0).trans rfl, (blk_cell BK656.out 1).trans rfl, (blk_cell BK657.out 0).trans rfl, (blk_cell BK657.out 1).trans rfl⟩ (fun hHeld => ?_)
              generalize wc.drew = w48 at BK656 BK657 BK660 BK663 HB hHeld ⊢
              refine take_ (i := 0) (N := some 42) (v := ?_) (a' := ?_) #[true, false, false, false, false, false] rfl rfl (by kernel_rfl) (fun _ _ _ h => h) (Or.inl ⟨by rfl, ?_⟩) hHeld ?_ ?_
              rotate_left
              · rintro w' ⟨s0, s1, s2, s3, s4, s5⟩
                go_simp
                with_reducible rfl
              rotate_left
              · simp only [Act.put, List.setIfInBounds_toArray, List.set_cons_zero, List.set_cons_succ, i64_w, i32_w]
                rfl
              refine take_ (i := 1) (N := some 43) (v := ?_) (a' := ?_) #[true, true, false, false, false, false] rfl rfl (by kernel_rfl) (fun _ _ _ h => h) (Or.inl ⟨by rfl, ?_⟩) hHeld ?_ ?_
              rotate_left
              · rintro w' ⟨s0, s1, s2, s3, s4, s5⟩
                go_simp
                with_reducible rfl
              rotate_left
              · simp only [Act.put, List.setIfInBounds_toArray, List.set_cons_zero, List.set_cons_succ, i64_w, i32_w]
                rfl
              refine take_ (i := 2) (N := some 44) (v := ?_) (a' := ?_) #[true, true, true, false, false, false] rfl rfl (by kernel_rfl) (fun _ _ _ h => h) (Or.inl ⟨by rfl, ?_⟩) hHeld ?_ ?_
              rotate_left
              · rintro w' ⟨s0, s1, s2, s3, s4, s5⟩
                go_simp
                with_reducible rfl
              rotate_left
              · simp only [Act.put, List.setIfInBounds_toArray, List.set_cons_zero, List.set_cons_succ, i64_w, i32_w]
                rfl
              refine one_ (i := 3) (N := some 45) #[true, true, true, true, false, false] rfl rfl (by kernel_rfl) (by decide) (fun K hK => ?_)
              refine goes_ Try.func26 (by kernel_rfl) rfl #[.agg #[.int .i64 t652, .int .i64 t653], .agg #[.int .i64 t654, .int .i64 t655]] (by rfl) rfl rfl (by (try simp only [List.map_toArray, List.map_cons, List.map_nil]); first | done | rfl | (simp only [List.length_drop, List.length_take]; rfl)) ?_
              with_reducible refine (spec_LabelBoth.calls kj8 t652 t653 t654 t655 t668 t669 _ A47.out).mono ?_
              rintro e w49 ⟨rfl, hb⟩
              refine ⟨_, rfl, ?_⟩
              have n0_ := Aside0.mk (blk_below (g := gb656) (o := .cells #[.int .i64 t652, .int .i64 t653] 26 (0, 0)) (by (with_reducible repeat (first | refine blk_drewN ?_ _ | refine blk_drew ?_ | refine blk_alloc ?_ _)); exact BK656.out) hb)
              have n1_ := Aside0.mk (blk_below (g := gb657) (o := .cells #[.int .i64 t654, .int .i64 t655] 26 (0, 0)) (by (with_reducible repeat (first | refine blk_drewN ?_ _ | refine blk_drew ?_ | refine blk_alloc ?_ _)); exact BK657.out) hb)
              have n2_ := Aside0.mk (blk_below (g := gb660) (o := .cells #[.int .i64 t658, .int .i64 t659] 26 (0, 0)) (by (with_reducible repeat (first | refine blk_drewN ?_ _ | refine blk_drew ?_ | refine blk_alloc ?_ _)); exact BK660.out) hb)
              have n3_ := Aside0.mk (blk_below (g := gb663) (o := .cells #[.int .i64 t661, .int .i64 t662] 26 (0, 0)) (by (with_reducible repeat (first | refine blk_drewN ?_ _ | refine blk_drew ?_ | refine blk_alloc ?_ _)); exact BK663.out) hb)
              have n4_ := Aside0.mk (below_step (by repeat (first | (with_reducible first | exact HB.out | apply below_alloc | apply pw_below_drewN | apply below_drew1 | refine below_set ?_ GE656.out | refine below_set ?_ GE657.out | refine below_set ?_ GE660.out | refine below_set ?_ GE663.out) | exact HB.out)) hb)
              clear BK656
              clear BK657
              clear BK660
              clear BK663
              clear HB
              have BK656 := n0_
              have BK657 := n1_
              have BK660 := n2_
              have BK663 := n3_
              have HB := n4_
              clear n0_ n1_ n2_ n3_ n4_
              (try clear hb)
              (try clear hb2)
              (try clear hk)
              (try clear hi)
              refine hK.out _ _ ⟨(blk_cell BK663.out 0).trans rfl, (blk_cell BK663.out 1).trans rfl, (blk_cell BK656.out 0).trans rfl, (blk_cell BK656.out 1).trans rfl, (blk_cell BK657.out 0).trans rfl, (blk_cell BK657.out 1).trans rfl⟩ (fun hHeld => ?_)
              clear hK K
              refine norm_ (a' := ?_) ?_ ?_
              rotate_left
              · show Act.put _ (some 45) _ = _
                simp only [Act.put, List.setIfInBounds_toArray, List.set_cons_zero, List.set_cons_succ, i64_w, i32_w]
                rfl
              refine pure_ (i := 4) (N := some 46) (v := ?_) (a' := ?_) #[true, true, true, true, true, false] rfl rfl (by kernel_rfl) (fun _ _ _ h => h) (Or.inl ⟨by rfl, ?_⟩) ?_ ?_
              rotate_left
              · intro w'
                go_simp
                with_reducible rfl
              rotate_left
              · simp only [Act.put, List.setIfInBounds_toArray, List.set_cons_zero, List.set_cons_succ, i64_w, i32_w]
                rfl
              refine pure_ (i := 5) (N := some 4) (v := ?_) (a' := ?_) #[true, true, true, true, true, true] rfl rfl (by kernel_rfl) (fun _ _ _ h => h) (Or.inl ⟨by rfl, ?_⟩) ?_ ?_
              rotate_left
              · intro w'
                go_simp
                with_reducible rfl
              rotate_left
              · simp only [Act.put, List.setIfInBounds_toArray, List.set_cons_zero, List.set_cons_succ, i64_w, i32_w]
                rfl
              refine done_ (by kernel_rfl) ?_
              try go_wp2
              go_ret
              exact ⟨by first | rfl | (simp [errW_none, errW_some] <;> rfl) | (simp [*, errW_none, errW_some] <;> rfl), by repeat (first | (with_reducible first | exact HB.out | apply below_alloc | apply pw_below_drewN | apply below_drew1 | refine below_set ?_ GE656.out | refine below_set ?_ GE657.out | refine below_set ?_ GE660.out | refine below_set ?_ GE663.out) | exact HB.out)⟩
            · replace c46 := Bool.eq_false_iff.mpr c46
              subst c46
              have H1 : ((impl_LabelFlows.f t652 t653 t661 t662).bind fun t670 => (if t670 = true then ((impl_LabelFlows.f t654 t655 t661 t662).bind fun t671 => (if t671 = true then ((impl_LabelFlows.f t652 t653 t658 t659).bind fun t672 => (if t672 = true then ((impl_LabelFlows.f t654 t655 t658 t659).bind fun t673 => (if t673 = true then ((impl_LabelFlows.f t661 t662 t658 t659).bind fun t674 => (some t674)) else (some true))) else (some true))) else (some false))) else (some false))) = some r := by rw [if_neg (show ¬ (false = true) by decide)] at H; exact H
              clear H
              have H := H1
              clear H1
              replace H := Option.bind_eq_some_iff.mp H
              obtain ⟨t670, A500, H⟩ := H
              replace H : (if t670 = true then ((impl_LabelFlows.f t654 t655 t661 t662).bind fun t671 => (if t671 = true then ((impl_LabelFlows.f t652 t653 t658 t659).bind fun t672 => (if t672 = true then ((impl_LabelFlows.f t654 t655 t658 t659).bind fun t673 => (if t673 = true then ((impl_LabelFlows.f t661 t662 t658 t659).bind fun t674 => (some t674)) else (some true))) else (some true))) else (some false))) else (some false)) = some r := H
              have A50 := Aside0.mk A500
              clear A500
              by_cases c51 : t670 = true
              · subst c51
                have H1 : ((impl_LabelFlows.f t654 t655 t661 t662).bind fun t671 => (if t671 = true then ((impl_LabelFlows.f t652 t653 t658 t659).bind fun t672 => (if t672 = true then ((impl_LabelFlows.f t654 t655 t658 t659).bind fun t673 => (if t673 = true then ((impl_LabelFlows.f t661 t662 t658 t659).bind fun t674 => (some t674)) else (some true))) else (some true))) else (some false))) = some r := by rw [if_pos rfl] at H; exact H
                clear H
                have H := H1
                clear H1
                replace H := Option.bind_eq_some_iff.mp H
                obtain ⟨t671, A520, H⟩ := H
                replace H : (if t671 = true then ((impl_LabelFlows.f t652 t653 t658 t659).bind fun t672 => (if t672 = true then ((impl_LabelFlows.f t654 t655 t658 t659).bind fun t673 => (if t673 = true then ((impl_LabelFlows.f t661 t662 t658 t659).bind fun t674 => (some t674)) else (some true))) else (some true))) else (some false)) = some r := H
                have A52 := Aside0.mk A520
                clear A520
                by_cases c53 : t671 = true
                · subst c53
                  have H1 : ((impl_LabelFlows.f t652 t653 t658 t659).bind fun t672 => (if t672 = true then ((impl_LabelFlows.f t654 t655 t658 t659).bind fun t673 => (if t673 = true then ((impl_LabelFlows.f t661 t662 t658 t659).bind fun t674 => (some t674)) else (some true))) else (some true))) = some r := by rw [if_pos rfl] at H; exact H
                  clear H
                  have H := H1
                  clear H1
                  replace H := Option.bind_eq_some_iff.mp H
                  obtain ⟨t672, A540, H⟩ := H
                  replace H : (if t672 = true then ((impl_LabelFlows.f t654 t655 t658 t659).bind fun t673 => (if t673 = true then ((impl_LabelFlows.f t661 t662 t658 t659).bind fun t674 => (some t674)) else (some true))) else (some true)) = some r := H
                  have A54 := Aside0.mk A540
                  clear A540
                  by_cases c55 : t672 = true
                  · subst c55
                    have H1 : ((impl_LabelFlows.f t654 t655 t658 t659).bind fun t673 => (if t673 = true then ((impl_LabelFlows.f t661 t662 t658 t659).bind fun t674 => (some t674)) else (some true))) = some r := by rw [if_pos rfl] at H; exact H
                    clear H
                    have H := H1
                    clear H1
                    replace H := Option.bind_eq_some_iff.mp H
                    obtain ⟨t673, A560, H⟩ := H
                    replace H : (if t673 = true then ((impl_LabelFlows.f t661 t662 t658 t659).bind fun t674 => (some t674)) else (some true)) = some r := H
                    have A56 := Aside0.mk A560
                    clear A560
                    by_cases c57 : t673 = true
                    · subst c57
                      have H1 : ((impl_LabelFlows.f t661 t662 t658 t659).bind fun t674 => (some t674)) = some r := by rw [if_pos rfl] at H; exact H
                      clear H
                      have H := H1
                      clear H1
                      replace H := Option.bind_eq_some_iff.mp H
                      obtain ⟨t674, A580, H⟩ := H
                      replace H : (some t674) = some r := H
                      have A58 := Aside0.mk A580
                      clear A580
                      obtain rfl := Option.some.inj H
                      have hnb59 := NB656_657.out
                      have hnc59 := NB657_656.out
                      have hnb60 := NB656_660.out
                      have hnc60 := NB660_656.out
                      have hnb61 := NB656_663.out
                      have hnc61 := NB663_656.out
                      have hcz62_0 : wc.cell? ⟨gb656, 0, none⟩ = some (.int .i64 t652) := (blk_cell BK656.out 0).trans rfl
                      have hcz62_1 : wc.cell? ⟨gb656, 1, none⟩ = some (.int .i64 t653) := (blk_cell BK656.out 1).trans rfl
                      have hfz62_0 := blk_frozen BK656.out 0
                      have hfz62_1 := blk_frozen BK656.out 1
                      have hnb63 := NB663_657.out
                      have hnc63 := NB657_663.out
                      have hnb64 := NB663_660.out
                      have hnc64 := NB660_663.out
                      have hcz65_0 : wc.cell? ⟨gb663, 0, none⟩ = some (.int .i64 t661) := (blk_cell BK663.out 0).trans rfl
                      have hcz65_1 : wc.cell? ⟨gb663, 1, none⟩ = some (.int .i64 t662) := (blk_cell BK663.out 1).trans rfl
                      have hfz65_0 := blk_frozen BK663.out 0
                      have hfz65_1 := blk_frozen BK663.out 1
                      go_wp2_with (first | ((with_reducible refine gate_callee (f := 25) rfl ?_); refine goesL_ (some 49) rfl rfl Try.func25 (by kernel_rfl) rfl #[.agg #[.int .i64 t652, .int .i64 t653], .agg #[.int .i64 t661, .int .i64 t662]] rfl (by (try simp only [List.map_toArray, List.map_cons, List.map_nil]); first | done | rfl | (simp only [List.length_drop, List.length_take]; rfl)) ?_; (with_reducible refine (impl_LabelFlows.calls t652 t653 t661 t662 true _ A50.out).mono ?_); rintro e w66 ⟨rfl, hb⟩; refine ⟨_, rfl, ?_⟩; have n0_ := Aside0.mk (blk_below (g := gb656) (o := .cells #[.int .i64 t652, .int .i64 t653] 26 (0, 0)) (by (with_reducible repeat (first | refine blk_drewN ?_ _ | refine blk_drew ?_ | refine blk_alloc ?_ _)); exact BK656.out) hb); have n1_ := Aside0.mk (blk_below (g := gb657) (o := .cells #[.int .i64 t654, .int .i64 t655] 26 (0, 0)) (by (with_reducible repeat (first | refine blk_drewN ?_ _ | refine blk_drew ?_ | refine blk_alloc ?_ _)); exact BK657.out) hb); have n2_ := Aside0.mk (blk_below (g := gb660) (o := .cells #[.int .i64 t658, .int .i64 t659] 26 (0, 0)) (by (with_reducible repeat (first | refine blk_drewN ?_ _ | refine blk_drew ?_ | refine blk_alloc ?_ _)); exact BK660.out) hb); have n3_ := Aside0.mk (blk_below (g := gb663) (o := .cells #[.int .i64 t661, .int .i64 t662] 26 (0, 0)) (by (with_reducible repeat (first | refine blk_drewN ?_ _ | refine blk_drew ?_ | refine blk_alloc ?_ _)); exact BK663.out) hb); have n4_ := Aside0.mk (below_step (by repeat (first | (with_reducible first | exact HB.out | apply below_alloc | apply pw_below_drewN | apply below_drew1 | refine below_set ?_ GE656.out | refine below_set ?_ GE657.out | refine below_set ?_ GE660.out | refine below_set ?_ GE663.out) | exact HB.out)) hb); clear BK656; clear BK657; clear BK660; clear BK663; clear HB; have BK656 := n0_; have BK657 := n1_; have BK660 := n2_; have BK663 := n3_; have HB := n4_; clear n0_ n1_ n2_ n3_ n4_; (try clear hb); (try clear hb2); (try clear hk); (try clear hi); have hnb67 := NB657_660.out; have hnc67 := NB660_657.out; have hcz68_0 : w66.cell? ⟨gb657, 0, none⟩ = some (.int .i64 t654) := (blk_cell BK657.out 0).trans rfl; have hcz68_1 : w66.cell? ⟨gb657, 1, none⟩ = some (.int .i64 t655) := (blk_cell BK657.out 1).trans rfl; have hfz68_0 := blk_frozen BK657.out 0; have hfz68_1 := blk_frozen BK657.out 1; have hcz69_0 : w66.cell? ⟨gb663, 0, none⟩ = some (.int .i64 t661) := (blk_cell BK663.out 0).trans rfl; have hcz69_1 : w66.cell? ⟨gb663, 1, none⟩ = some (.int .i64 t662) := (blk_cell BK663.out 1).trans rfl; have hfz69_0 := blk_frozen BK663.out 0; have hfz69_1 := blk_frozen BK663.out 1) | (go_at_call 25; (with_reducible refine (impl_LabelFlows.calls t654 t655 t661 t662 true _ A52.out).mono ?_); rintro e w70 ⟨rfl, hb⟩; have n0_ := Aside0.mk (blk_below (g := gb656) (o := .cells #[.int .i64 t652, .int .i64 t653] 26 (0, 0)) (by (with_reducible repeat (first | refine blk_drewN ?_ _ | refine blk_drew ?_ | refine blk_alloc ?_ _)); exact BK656.out) hb); have n1_ := Aside0.mk (blk_below (g := gb657) (o := .cells #[.int .i64 t654, .int .i64 t655] 26 (0, 0)) (by (with_reducible repeat (first | refine blk_drewN ?_ _ | refine blk_drew ?_ | refine blk_alloc ?_ _)); exact BK657.out) hb); have n2_ := Aside0.mk (blk_below (g := gb660) (o := .cells #[.int .i64 t658, .int .i64 t659] 26 (0, 0)) (by (with_reducible repeat (first | refine blk_drewN ?_ _ | refine blk_drew ?_ | refine blk_alloc ?_ _)); exact BK660.out) hb); have n3_ := Aside0.mk (blk_below (g := gb663) (o := .cells #[.int .i64 t661, .int .i64 t662] 26 (0, 0)) (by (with_reducible repeat (first | refine blk_drewN ?_ _ | refine blk_drew ?_ | refine blk_alloc ?_ _)); exact BK663.out) hb); have n4_ := Aside0.mk (below_step (by repeat (first | (with_reducible first | exact HB.out | apply below_alloc | apply pw_below_drewN | apply below_drew1 | refine below_set ?_ GE656.out | refine below_set ?_ GE657.out | refine below_set ?_ GE660.out | refine below_set ?_ GE663.out) | exact HB.out)) hb); clear BK656; clear BK657; clear BK660; clear BK663; clear HB; have BK656 := n0_; have BK657 := n1_; have BK660 := n2_; have BK663 := n3_; have HB := n4_; clear n0_ n1_ n2_ n3_ n4_; (try clear hb); (try clear hb2); (try clear hk); (try clear hi); have hcz71_0 : w70.cell? ⟨gb656, 0, none⟩ = some (.int .i64 t652) := (blk_cell BK656.out 0).trans rfl; have hcz71_1 : w70.cell? ⟨gb656, 1, none⟩ = some (.int .i64 t653) := (blk_cell BK656.out 1).trans rfl; have hfz71_0 := blk_frozen BK656.out 0; have hfz71_1 := blk_frozen BK656.out 1; have hcz72_0 : w70.cell? ⟨gb660, 0, none⟩ = some (.int .i64 t658) := (blk_cell BK660.out 0).trans rfl; have hcz72_1 : w70.cell? ⟨gb660, 1, none⟩ = some (.int .i64 t659) := (blk_cell BK660.out 1).trans rfl; have hfz72_0 := blk_frozen BK660.out 0; have hfz72_1 := blk_frozen BK660.out 1) | (go_at_call 25; (with_reducible refine (impl_LabelFlows.calls t652 t653 t658 t659 true _ A54.out).mono ?_); rintro e w73 ⟨rfl, hb⟩; have n0_ := Aside0.mk (blk_below (g := gb656) (o := .cells #[.int .i64 t652, .int .i64 t653] 26 (0, 0)) (by (with_reducible repeat (first | refine blk_drewN ?_ _ | refine blk_drew ?_ | refine blk_alloc ?_ _)); exact BK656.out) hb); have n1_ := Aside0.mk (blk_below (g := gb657) (o := .cells #[.int .i64 t654, .int .i64 t655] 26 (0, 0)) (by (with_reducible repeat (first | refine blk_drewN ?_ _ | refine blk_drew ?_ | refine blk_alloc ?_ _)); exact BK657.out) hb); have n2_ := Aside0.mk (blk_below (g := gb660) (o := .cells #[.int .i64 t658, .int .i64 t659] 26 (0, 0)) (by (with_reducible repeat (first | refine blk_drewN ?_ _ | refine blk_drew ?_ | refine blk_alloc ?_ _)); exact BK660.out) hb); have n3_ := Aside0.mk (blk_below (g := gb663) (o := .cells #[.int .i64 t661, .int .i64 t662] 26 (0, 0)) (by (with_reducible repeat (first | refine blk_drewN ?_ _ | refine blk_drew ?_ | refine blk_alloc ?_ _)); exact BK663.out) hb); have n4_ := Aside0.mk (below_step (by repeat (first | (with_reducible first | exact HB.out | apply below_alloc | apply pw_below_drewN | apply below_drew1 | refine below_set ?_ GE656.out | refine below_set ?_ GE657.out | refine below_set ?_ GE660.out | refine below_set ?_ GE663.out) | exact HB.out)) hb); clear BK656; clear BK657; clear BK660; clear BK663; clear HB; have BK656 := n0_; have BK657 := n1_; have BK660 := n2_; have BK663 := n3_; have HB := n4_; clear n0_ n1_ n2_ n3_ n4_; (try clear hb); (try clear hb2); (try clear hk); (try clear hi); have hcz74_0 : w73.cell? ⟨gb657, 0, none⟩ = some (.int .i64 t654) := (blk_cell BK657.out 0).trans rfl; have hcz74_1 : w73.cell? ⟨gb657, 1, none⟩ = some (.int .i64 t655) := (blk_cell BK657.out 1).trans rfl; have hfz74_0 := blk_frozen BK657.out 0; have hfz74_1 := blk_frozen BK657.out 1; have hcz75_0 : w73.cell? ⟨gb660, 0, none⟩ = some (.int .i64 t658) := (blk_cell BK660.out 0).trans rfl; have hcz75_1 : w73.cell? ⟨gb660, 1, none⟩ = some (.int .i64 t659) := (blk_cell BK660.out 1).trans rfl; have hfz75_0 := blk_frozen BK660.out 0; have hfz75_1 := blk_frozen BK660.out 1) | (go_at_call 25; (with_reducible refine (impl_LabelFlows.calls t654 t655 t658 t659 true _ A56.out).mono ?_); rintro e w76 ⟨rfl, hb⟩; have n0_ := Aside0.mk (blk_below (g := gb656) (o := .cells #[.int .i64 t652, .int .i64 t653] 26 (0, 0)) (by (with_reducible repeat (first | refine blk_drewN ?_ _ | refine blk_drew ?_ | refine blk_alloc ?_ _)); exact BK656.out) hb); have n1_ := Aside0.mk (blk_below (g := gb657) (o := .cells #[.int .i64 t654, .int .i64 t655] 26 (0, 0)) (by (with_reducible repeat (first | refine blk_drewN ?_ _ | refine blk_drew ?_ | refine blk_alloc ?_ _)); exact BK657.out) hb); have n2_ := Aside0.mk (blk_below (g := gb660) (o := .cells #[.int .i64 t658, .int .i64 t659] 26 (0, 0)) (by (with_reducible repeat (first | refine blk_drewN ?_ _ | refine blk_drew ?_ | refine blk_alloc ?_ _)); exact BK660.out) hb); have n3_ := Aside0.mk (blk_below (g := gb663) (o := .cells #[.int .i64 t661, .int .i64 t662] 26 (0, 0)) (by (with_reducible repeat (first | refine blk_drewN ?_ _ | refine blk_drew ?_ | refine blk_alloc ?_ _)); exact BK663.out) hb); have n4_ := Aside0.mk (below_step (by repeat (first | (with_reducible first | exact HB.out | apply below_alloc | apply pw_below_drewN | apply below_drew1 | refine below_set ?_ GE656.out | refine below_set ?_ GE657.out | refine below_set ?_ GE660.out | refine below_set ?_ GE663.out) | exact HB.out)) hb); clear BK656; clear BK657; clear BK660; clear BK663; clear HB; have BK656 := n0_; have BK657 := n1_; have BK660 := n2_; have BK663 := n3_; have HB := n4_; clear n0_ n1_ n2_ n3_ n4_; (try clear hb); (try clear hb2); (try clear hk); (try clear hi); have hcz77_0 : w76.cell? ⟨gb663, 0, none⟩ = some (.int .i64 t661) := (blk_cell BK663.out 0).trans rfl; have hcz77_1 : w76.cell? ⟨gb663, 1, none⟩ = some (.int .i64 t662) := (blk_cell BK663.out 1).trans rfl; have hfz77_0 := blk_frozen BK663.out 0; have hfz77_1 := blk_frozen BK663.out 1; have hcz78_0 : w76.cell? ⟨gb660, 0, none⟩ = some (.int .i64 t658) := (blk_cell BK660.out 0).trans rfl; have hcz78_1 : w76.cell? ⟨gb660, 1, none⟩ = some (.int .i64 t659) := (blk_cell BK660.out 1).trans rfl; have hfz78_0 := blk_frozen BK660.out 0; have hfz78_1 := blk_frozen BK660.out 1) | (go_at_call 25; (with_reducible refine (impl_LabelFlows.calls t661 t662 t658 t659 t674 _ A58.out).mono ?_); rintro e w79 ⟨rfl, hb⟩; have n0_ := Aside0.mk (blk_below (g := gb656) (o := .cells #[.int .i64 t652, .int .i64 t653] 26 (0, 0)) (by (with_reducible repeat (first | refine blk_drewN ?_ _ | refine blk_drew ?_ | refine blk_alloc ?_ _)); exact BK656.out) hb); have n1_ := Aside0.mk (blk_below (g := gb657) (o := .cells #[.int .i64 t654, .int .i64 t655] 26 (0, 0)) (by (with_reducible repeat (first | refine blk_drewN ?_ _ | refine blk_drew ?_ | refine blk_alloc ?_ _)); exact BK657.out) hb); have n2_ := Aside0.mk (blk_below (g := gb660) (o := .cells #[.int .i64 t658, .int .i64 t659] 26 (0, 0)) (by (with_reducible repeat (first | refine blk_drewN ?_ _ | refine blk_drew ?_ | refine blk_alloc ?_ _)); exact BK660.out) hb); have n3_ := Aside0.mk (blk_below (g := gb663) (o := .cells #[.int .i64 t661, .int .i64 t662] 26 (0, 0)) (by (with_reducible repeat (first | refine blk_drewN ?_ _ | refine blk_drew ?_ | refine blk_alloc ?_ _)); exact BK663.out) hb); have n4_ := Aside0.mk (below_step (by repeat (first | (with_reducible first | exact HB.out | apply below_alloc | apply pw_below_drewN | apply below_drew1 | refine below_set ?_ GE656.out | refine below_set ?_ GE657.out | refine below_set ?_ GE660.out | refine below_set ?_ GE663.out) | exact HB.out)) hb); clear BK656; clear BK657; clear BK660; clear BK663; clear HB; have BK656 := n0_; have BK657 := n1_; have BK660 := n2_; have BK663 := n3_; have HB := n4_; clear n0_ n1_ n2_ n3_ n4_; (try clear hb); (try clear hb2); (try clear hk); (try clear hi)))
                      go_ret
                      exact ⟨by first | rfl | (simp [errW_none, errW_some] <;> rfl) | (simp [*, errW_none, errW_some] <;> rfl), by repeat (first | (with_reducible first | exact HB.out | apply below_alloc | apply pw_below_drewN | apply below_drew1 | refine below_set ?_ GE656.out | refine below_set ?_ GE657.out | refine below_set ?_ GE660.out | refine below_set ?_ GE663.out) | exact HB.out)⟩
                    · replace c57 := Bool.eq_false_iff.mpr c57
                      subst c57
                      have H1 : (some true) = some r := by rw [if_neg (show ¬ (false = true) by decide)] at H; exact H
                      clear H
                      have H := H1
                      clear H1
                      obtain rfl := Option.some.inj H
                      have hnb80 := NB656_657.out
                      have hnc80 := NB657_656.out
                      have hnb81 := NB656_660.out
                      have hnc81 := NB660_656.out
                      have hnb82 := NB656_663.out
                      have hnc82 := NB663_656.out
                      have hcz83_0 : wc.cell? ⟨gb656, 0, none⟩ = some (.int .i64 t652) := (blk_cell BK656.out 0).trans rfl
                      have hcz83_1 : wc.cell? ⟨gb656, 1, none⟩ = some (.int .i64 t653) := (blk_cell BK656.out 1).trans rfl
                      have hfz83_0 := blk_frozen BK656.out 0
                      have hfz83_1 := blk_frozen BK656.out 1
                      have hnb84 := NB663_657.out
                      have hnc84 := NB657_663.out
                      have hnb85 := NB663_660.out
                      have hnc85 := NB660_663.out
                      have hcz86_0 : wc.cell? ⟨gb663, 0, none⟩ = some (.int .i64 t661) := (blk_cell BK663.out 0).trans rfl
                      have hcz86_1 : wc.cell? ⟨gb663, 1, none⟩ = some (.int .i64 t662) := (blk_cell BK663.out 1).trans rfl
                      have hfz86_0 := blk_frozen BK663.out 0
                      have hfz86_1 := blk_frozen BK663.out 1
                      go_wp2_with (first | ((with_reducible refine gate_callee (f := 25) rfl ?_); refine goesL_ (some 49) rfl rfl Try.func25 (by kernel_rfl) rfl #[.agg #[.int .i64 t652, .int .i64 t653], .agg #[.int .i64 t661, .int .i64 t662]] rfl (by (try simp only [List.map_toArray, List.map_cons, List.map_nil]); first | done | rfl | (simp only [List.length_drop, List.length_take]; rfl)) ?_; (with_reducible refine (impl_LabelFlows.calls t652 t653 t661 t662 true _ A50.out).mono ?_); rintro e w87 ⟨rfl, hb⟩; refine ⟨_, rfl, ?_⟩; have n0_ := Aside0.mk (blk_below (g := gb656) (o := .cells #[.int .i64 t652, .int .i64 t653] 26 (0, 0)) (by (with_reducible repeat (first | refine blk_drewN ?_ _ | refine blk_drew ?_ | refine blk_alloc ?_ _)); exact BK656.out) hb); have n1_ := Aside0.mk (blk_below (g := gb657) (o := .cells #[.int .i64 t654, .int .i64 t655] 26 (0, 0)) (by (with_reducible repeat (first | refine blk_drewN ?_ _ | refine blk_drew ?_ | refine blk_alloc ?_ _)); exact BK657.out) hb); have n2_ := Aside0.mk (blk_below (g := gb660) (o := .cells #[.int .i64 t658, .int .i64 t659] 26 (0, 0)) (by (with_reducible repeat (first | refine blk_drewN ?_ _ | refine blk_drew ?_ | refine blk_alloc ?_ _)); exact BK660.out) hb); have n3_ := Aside0.mk (blk_below (g := gb663) (o := .cells #[.int .i64 t661, .int .i64 t662] 26 (0, 0)) (by (with_reducible repeat (first | refine blk_drewN ?_ _ | refine blk_drew ?_ | refine blk_alloc ?_ _)); exact BK663.out) hb); have n4_ := Aside0.mk (below_step (by repeat (first | (with_reducible first | exact HB.out | apply below_alloc | apply pw_below_drewN | apply below_drew1 | refine below_set ?_ GE656.out | refine below_set ?_ GE657.out | refine below_set ?_ GE660.out | refine below_set ?_ GE663.out) | exact HB.out)) hb); clear BK656; clear BK657; clear BK660; clear BK663; clear HB; have BK656 := n0_; have BK657 := n1_; have BK660 := n2_; have BK663 := n3_; have HB := n4_; clear n0_ n1_ n2_ n3_ n4_; (try clear hb); (try clear hb2); (try clear hk); (try clear hi); have hnb88 := NB657_660.out; have hnc88 := NB660_657.out; have hcz89_0 : w87.cell? ⟨gb657, 0, none⟩ = some (.int .i64 t654) := (blk_cell BK657.out 0).trans rfl; have hcz89_1 : w87.cell? ⟨gb657, 1, none⟩ = some (.int .i64 t655) := (blk_cell BK657.out 1).trans rfl; have hfz89_0 := blk_frozen BK657.out 0; have hfz89_1 := blk_frozen BK657.out 1; have hcz90_0 : w87.cell? ⟨gb663, 0, none⟩ = some (.int .i64 t661) := (blk_cell BK663.out 0).trans rfl; have hcz90_1 : w87.cell? ⟨gb663, 1, none⟩ = some (.int .i64 t662) := (blk_cell BK663.out 1).trans rfl; have hfz90_0 := blk_frozen BK663.out 0; have hfz90_1 := blk_frozen BK663.out 1) | (go_at_call 25; (with_reducible refine (impl_LabelFlows.calls t654 t655 t661 t662 true _ A52.out).mono ?_); rintro e w91 ⟨rfl, hb⟩; have n0_ := Aside0.mk (blk_below (g := gb656) (o := .cells #[.int .i64 t652, .int .i64 t653] 26 (0, 0)) (by (with_reducible repeat (first | refine blk_drewN ?_ _ | refine blk_drew ?_ | refine blk_alloc ?_ _)); exact BK656.out) hb); have n1_ := Aside0.mk (blk_below (g := gb657) (o := .cells #[.int .i64 t654, .int .i64 t655] 26 (0, 0)) (by (with_reducible repeat (first | refine blk_drewN ?_ _ | refine blk_drew ?_ | refine blk_alloc ?_ _)); exact BK657.out) hb); have n2_ := Aside0.mk (blk_below (g := gb660) (o := .cells #[.int .i64 t658, .int .i64 t659] 26 (0, 0)) (by (with_reducible repeat (first | refine blk_drewN ?_ _ | refine blk_drew ?_ | refine blk_alloc ?_ _)); exact BK660.out) hb); have n3_ := Aside0.mk (blk_below (g := gb663) (o := .cells #[.int .i64 t661, .int .i64 t662] 26 (0, 0)) (by (with_reducible repeat (first | refine blk_drewN ?_ _ | refine blk_drew ?_ | refine blk_alloc ?_ _)); exact BK663.out) hb); have n4_ := Aside0.mk (below_step (by repeat (first | (with_reducible first | exact HB.out | apply below_alloc | apply pw_below_drewN | apply below_drew1 | refine below_set ?_ GE656.out | refine below_set ?_ GE657.out | refine below_set ?_ GE660.out | refine below_set ?_ GE663.out) | exact HB.out)) hb); clear BK656; clear BK657; clear BK660; clear BK663; clear HB; have BK656 := n0_; have BK657 := n1_; have BK660 := n2_; have BK663 := n3_; have HB := n4_; clear n0_ n1_ n2_ n3_ n4_; (try clear hb); (try clear hb2); (try clear hk); (try clear hi); have hcz92_0 : w91.cell? ⟨gb656, 0, none⟩ = some (.int .i64 t652) := (blk_cell BK656.out 0).trans rfl; have hcz92_1 : w91.cell? ⟨gb656, 1, none⟩ = some (.int .i64 t653) := (blk_cell BK656.out 1).trans rfl; have hfz92_0 := blk_frozen BK656.out 0; have hfz92_1 := blk_frozen BK656.out 1; have hcz93_0 : w91.cell? ⟨gb660, 0, none⟩ = some (.int .i64 t658) := (blk_cell BK660.out 0).trans rfl; have hcz93_1 : w91.cell? ⟨gb660, 1, none⟩ = some (.int .i64 t659) := (blk_cell BK660.out 1).trans rfl; have hfz93_0 := blk_frozen BK660.out 0; have hfz93_1 := blk_frozen BK660.out 1) | (go_at_call 25; (with_reducible refine (impl_LabelFlows.calls t652 t653 t658 t659 true _ A54.out).mono ?_); rintro e w94 ⟨rfl, hb⟩; have n0_ := Aside0.mk (blk_below (g := gb656) (o := .cells #[.int .i64 t652, .int .i64 t653] 26 (0, 0)) (by (with_reducible repeat (first | refine blk_drewN ?_ _ | refine blk_drew ?_ | refine blk_alloc ?_ _)); exact BK656.out) hb); have n1_ := Aside0.mk (blk_below (g := gb657) (o := .cells #[.int .i64 t654, .int .i64 t655] 26 (0, 0)) (by (with_reducible repeat (first | refine blk_drewN ?_ _ | refine blk_drew ?_ | refine blk_alloc ?_ _)); exact BK657.out) hb); have n2_ := Aside0.mk (blk_below (g := gb660) (o := .cells #[.int .i64 t658, .int .i64 t659] 26 (0, 0)) (by (with_reducible repeat (first | refine blk_drewN ?_ _ | refine blk_drew ?_ | refine blk_alloc ?_ _)); exact BK660.out) hb); have n3_ := Aside0.mk (blk_below (g := gb663) (o := .cells #[.int .i64 t661, .int .i64 t662] 26 (0, 0)) (by (with_reducible repeat (first | refine blk_drewN ?_ _ | refine blk_drew ?_ | refine blk_alloc ?_ _)); exact BK663.out) hb); have n4_ := Aside0.mk (below_step (by repeat (first | (with_reducible first | exact HB.out | apply below_alloc | apply pw_below_drewN | apply below_drew1 | refine below_set ?_ GE656.out | refine below_set ?_ GE657.out | refine below_set ?_ GE660.out | refine below_set ?_ GE663.out) | exact HB.out)) hb); clear BK656; clear BK657; clear BK660; clear BK663; clear HB; have BK656 := n0_; have BK657 := n1_; have BK660 := n2_; have BK663 := n3_; have HB := n4_; clear n0_ n1_ n2_ n3_ n4_; (try clear hb); (try clear hb2); (try clear hk); (try clear hi); have hcz95_0 : w94.cell? ⟨gb657, 0, none⟩ = some (.int .i64 t654) := (blk_cell BK657.out 0).trans rfl; have hcz95_1 : w94.cell? ⟨gb657, 1, none⟩ = some (.int .i64 t655) := (blk_cell BK657.out 1).trans rfl; have hfz95_0 := blk_frozen BK657.out 0; have hfz95_1 := blk_frozen BK657.out 1; have hcz96_0 : w94.cell? ⟨gb660, 0, none⟩ = some (.int .i64 t658) := (blk_cell BK660.out 0).trans rfl; have hcz96_1 : w94.cell? ⟨gb660, 1, none⟩ = some (.int .i64 t659) := (blk_cell BK660.out 1).trans rfl; have hfz96_0 := blk_frozen BK660.out 0; have hfz96_1 := blk_frozen BK660.out 1) | (go_at_call 25; (with_reducible refine (impl_LabelFlows.calls t654 t655 t658 t659 false _ A56.out).mono ?_); rintro e w97 ⟨rfl, hb⟩; have n0_ := Aside0.mk (blk_below (g := gb656) (o := .cells #[.int .i64 t652, .int .i64 t653] 26 (0, 0)) (by (with_reducible repeat (first | refine blk_drewN ?_ _ | refine blk_drew ?_ | refine blk_alloc ?_ _)); exact BK656.out) hb); have n1_ := Aside0.mk (blk_below (g := gb657) (o := .cells #[.int .i64 t654, .int .i64 t655] 26 (0, 0)) (by (with_reducible repeat (first | refine blk_drewN ?_ _ | refine blk_drew ?_ | refine blk_alloc ?_ _)); exact BK657.out) hb); have n2_ := Aside0.mk (blk_below (g := gb660) (o := .cells #[.int .i64 t658, .int .i64 t659] 26 (0, 0)) (by (with_reducible repeat (first | refine blk_drewN ?_ _ | refine blk_drew ?_ | refine blk_alloc ?_ _)); exact BK660.out) hb); have n3_ := Aside0.mk (blk_below (g := gb663) (o := .cells #[.int .i64 t661, .int .i64 t662] 26 (0, 0)) (by (with_reducible repeat (first | refine blk_drewN ?_ _ | refine blk_drew ?_ | refine blk_alloc ?_ _)); exact BK663.out) hb); have n4_ := Aside0.mk (below_step (by repeat (first | (with_reducible first | exact HB.out | apply below_alloc | apply pw_below_drewN | apply below_drew1 | refine below_set ?_ GE656.out | refine below_set ?_ GE657.out | refine below_set ?_ GE660.out | refine below_set ?_ GE663.out) | exact HB.out)) hb); clear BK656; clear BK657; clear BK660; clear BK663; clear HB; have BK656 := n0_; have BK657 := n1_; have BK660 := n2_; have BK663 := n3_; have HB := n4_; clear n0_ n1_ n2_ n3_ n4_; (try clear hb); (try clear hb2); (try clear hk); (try clear hi)))
                      go_ret
                      exact ⟨by first | rfl | (simp [errW_none, errW_some] <;> rfl) | (simp [*, errW_none, errW_some] <;> rfl), by repeat (first | (with_reducible first | exact HB.out | apply below_alloc | apply pw_below_drewN | apply below_drew1 | refine below_set ?_ GE656.out | refine below_set ?_ GE657.out | refine below_set ?_ GE660.out | refine below_set ?_ GE663.out) | exact HB.out)⟩
                  · replace c55 := Bool.eq_false_iff.mpr c55
                    subst c55
                    have H1 : (some true) = some r := by rw [if_neg (show ¬ (false = true) by decide)] at H; exact H
                    clear H
                    have H := H1
                    clear H1
                    obtain rfl := Option.some.inj H
                    have hnb98 := NB656_657.out
                    have hnc98 := NB657_656.out
                    have hnb99 := NB656_660.out
                    have hnc99 := NB660_656.out
                    have hnb100 := NB656_663.out
                    have hnc100 := NB663_656.out
                    have hcz101_0 : wc.cell? ⟨gb656, 0, none⟩ = some (.int .i64 t652) := (blk_cell BK656.out 0).trans rfl
                    have hcz101_1 : wc.cell? ⟨gb656, 1, none⟩ = some (.int .i64 t653) := (blk_cell BK656.out 1).trans rfl
                    have hfz101_0 := blk_frozen BK656.out 0
                    have hfz101_1 := blk_frozen BK656.out 1
                    have hnb102 := NB663_657.out
                    have hnc102 := NB657_663.out
                    have hnb103 := NB663_660.out
                    have hnc103 := NB660_663.out
                    have hcz104_0 : wc.cell? ⟨gb663, 0, none⟩ = some (.int .i64 t661) := (blk_cell BK663.out 0).trans rfl
                    have hcz104_1 : wc.cell? ⟨gb663, 1, none⟩ = some (.int .i64 t662) := (blk_cell BK663.out 1).trans rfl
                    have hfz104_0 := blk_frozen BK663.out 0
                    have hfz104_1 := blk_frozen BK663.out 1
                    go_wp2_with (first | ((with_reducible refine gate_callee (f := 25) rfl ?_); refine goesL_ (some 49) rfl rfl Try.func25 (by kernel_rfl) rfl #[.agg #[.int .i64 t652, .int .i64 t653], .agg #[.int .i64 t661, .int .i64 t662]] rfl (by (try simp only [List.map_toArray, List.map_cons, List.map_nil]); first | done | rfl | (simp only [List.length_drop, List.length_take]; rfl)) ?_; (with_reducible refine (impl_LabelFlows.calls t652 t653 t661 t662 true _ A50.out).mono ?_); rintro e w105 ⟨rfl, hb⟩; refine ⟨_, rfl, ?_⟩; have n0_ := Aside0.mk (blk_below (g := gb656) (o := .cells #[.int .i64 t652, .int .i64 t653] 26 (0, 0)) (by (with_reducible repeat (first | refine blk_drewN ?_ _ | refine blk_drew ?_ | refine blk_alloc ?_ _)); exact BK656.out) hb); have n1_ := Aside0.mk (blk_below (g := gb657) (o := .cells #[.int .i64 t654, .int .i64 t655] 26 (0, 0)) (by (with_reducible repeat (first | refine blk_drewN ?_ _ | refine blk_drew ?_ | refine blk_alloc ?_ _)); exact BK657.out) hb); have n2_ := Aside0.mk (blk_below (g := gb660) (o := .cells #[.int .i64 t658, .int .i64 t659] 26 (0, 0)) (by (with_reducible repeat (first | refine blk_drewN ?_ _ | refine blk_drew ?_ | refine blk_alloc ?_ _)); exact BK660.out) hb); have n3_ := Aside0.mk (blk_below (g := gb663) (o := .cells #[.int .i64 t661, .int .i64 t662] 26 (0, 0)) (by (with_reducible repeat (first | refine blk_drewN ?_ _ | refine blk_drew ?_ | refine blk_alloc ?_ _)); exact BK663.out) hb); have n4_ := Aside0.mk (below_step (by repeat (first | (with_reducible first | exact HB.out | apply below_alloc | apply pw_below_drewN | apply below_drew1 | refine below_set ?_ GE656.out | refine below_set ?_ GE657.out | refine below_set ?_ GE660.out | refine below_set ?_ GE663.out) | exact HB.out)) hb); clear BK656; clear BK657; clear BK660; clear BK663; clear HB; have BK656 := n0_; have BK657 := n1_; have BK660 := n2_; have BK663 := n3_; have HB := n4_; clear n0_ n1_ n2_ n3_ n4_; (try clear hb); (try clear hb2); (try clear hk); (try clear hi); have hnb106 := NB657_660.out; have hnc106 := NB660_657.out; have hcz107_0 : w105.cell? ⟨gb657, 0, none⟩ = some (.int .i64 t654) := (blk_cell BK657.out 0).trans rfl; have hcz107_1 : w105.cell? ⟨gb657, 1, none⟩ = some (.int .i64 t655) := (blk_cell BK657.out 1).trans rfl; have hfz107_0 := blk_frozen BK657.out 0; have hfz107_1 := blk_frozen BK657.out 1; have hcz108_0 : w105.cell? ⟨gb663, 0, none⟩ = some (.int .i64 t661) := (blk_cell BK663.out 0).trans rfl; have hcz108_1 : w105.cell? ⟨gb663, 1, none⟩ = some (.int .i64 t662) := (blk_cell BK663.out 1).trans rfl; have hfz108_0 := blk_frozen BK663.out 0; have hfz108_1 := blk_frozen BK663.out 1) | (go_at_call 25; (with_reducible refine (impl_LabelFlows.calls t654 t655 t661 t662 true _ A52.out).mono ?_); rintro e w109 ⟨rfl, hb⟩; have n0_ := Aside0.mk (blk_below (g := gb656) (o := .cells #[.int .i64 t652, .int .i64 t653] 26 (0, 0)) (by (with_reducible repeat (first | refine blk_drewN ?_ _ | refine blk_drew ?_ | refine blk_alloc ?_ _)); exact BK656.out) hb); have n1_ := Aside0.mk (blk_below (g := gb657) (o := .cells #[.int .i64 t654, .int .i64 t655] 26 (0, 0)) (by (with_reducible repeat (first | refine blk_drewN ?_ _ | refine blk_drew ?_ | refine blk_alloc ?_ _)); exact BK657.out) hb); have n2_ := Aside0.mk (blk_below (g := gb660) (o := .cells #[.int .i64 t658, .int .i64 t659] 26 (0, 0)) (by (with_reducible repeat (first | refine blk_drewN ?_ _ | refine blk_drew ?_ | refine blk_alloc ?_ _)); exact BK660.out) hb); have n3_ := Aside0.mk (blk_below (g := gb663) (o := .cells #[.int .i64 t661, .int .i64 t662] 26 (0, 0)) (by (with_reducible repeat (first | refine blk_drewN ?_ _ | refine blk_drew ?_ | refine blk_alloc ?_ _)); exact BK663.out) hb); have n4_ := Aside0.mk (below_step (by repeat (first | (with_reducible first | exact HB.out | apply below_alloc | apply pw_below_drewN | apply below_drew1 | refine below_set ?_ GE656.out | refine below_set ?_ GE657.out | refine below_set ?_ GE660.out | refine below_set ?_ GE663.out) | exact HB.out)) hb); clear BK656; clear BK657; clear BK660; clear BK663; clear HB; have BK656 := n0_; have BK657 := n1_; have BK660 := n2_; have BK663 := n3_; have HB := n4_; clear n0_ n1_ n2_ n3_ n4_; (try clear hb); (try clear hb2); (try clear hk); (try clear hi); have hcz110_0 : w109.cell? ⟨gb656, 0, none⟩ = some (.int .i64 t652) := (blk_cell BK656.out 0).trans rfl; have hcz110_1 : w109.cell? ⟨gb656, 1, none⟩ = some (.int .i64 t653) := (blk_cell BK656.out 1).trans rfl; have hfz110_0 := blk_frozen BK656.out 0; have hfz110_1 := blk_frozen BK656.out 1; have hcz111_0 : w109.cell? ⟨gb660, 0, none⟩ = some (.int .i64 t658) := (blk_cell BK660.out 0).trans rfl; have hcz111_1 : w109.cell? ⟨gb660, 1, none⟩ = some (.int .i64 t659) := (blk_cell BK660.out 1).trans rfl; have hfz111_0 := blk_frozen BK660.out 0; have hfz111_1 := blk_frozen BK660.out 1) | (go_at_call 25; (with_reducible refine (impl_LabelFlows.calls t652 t653 t658 t659 false _ A54.out).mono ?_); rintro e w112 ⟨rfl, hb⟩; have n0_ := Aside0.mk (blk_below (g := gb656) (o := .cells #[.int .i64 t652, .int .i64 t653] 26 (0, 0)) (by (with_reducible repeat (first | refine blk_drewN ?_ _ | refine blk_drew ?_ | refine blk_alloc ?_ _)); exact BK656.out) hb); have n1_ := Aside0.mk (blk_below (g := gb657) (o := .cells #[.int .i64 t654, .int .i64 t655] 26 (0, 0)) (by (with_reducible repeat (first | refine blk_drewN ?_ _ | refine blk_drew ?_ | refine blk_alloc ?_ _)); exact BK657.out) hb); have n2_ := Aside0.mk (blk_below (g := gb660) (o := .cells #[.int .i64 t658, .int .i64 t659] 26 (0, 0)) (by (with_reducible repeat (first | refine blk_drewN ?_ _ | refine blk_drew ?_ | refine blk_alloc ?_ _)); exact BK660.out) hb); have n3_ := Aside0.mk (blk_below (g := gb663) (o := .cells #[.int .i64 t661, .int .i64 t662] 26 (0, 0)) (by (with_reducible repeat (first | refine blk_drewN ?_ _ | refine blk_drew ?_ | refine blk_alloc ?_ _)); exact BK663.out) hb); have n4_ := Aside0.mk (below_step (by repeat (first | (with_reducible first | exact HB.out | apply below_alloc | apply pw_below_drewN | apply below_drew1 | refine below_set ?_ GE656.out | refine below_set ?_ GE657.out | refine below_set ?_ GE660.out | refine below_set ?_ GE663.out) | exact HB.out)) hb); clear BK656; clear BK657; clear BK660; clear BK663; clear HB; have BK656 := n0_; have BK657 := n1_; have BK660 := n2_; have BK663 := n3_; have HB := n4_; clear n0_ n1_ n2_ n3_ n4_; (try clear hb); (try clear hb2); (try clear hk); (try clear hi)))
                    go_ret
                    exact ⟨by first | rfl | (simp [errW_none, errW_some] <;> rfl) | (simp [*, errW_none, errW_some] <;> rfl), by repeat (first | (with_reducible first | exact HB.out | apply below_alloc | apply pw_below_drewN | apply below_drew1 | refine below_set ?_ GE656.out | refine below_set ?_ GE657.out | refine below_set ?_ GE660.out | refine below_set ?_ GE663.out) | exact HB.out)⟩
                · replace c53 := Bool.eq_false_iff.mpr c53
                  subst c53
                  have H1 : (some false) = some r := by rw [if_neg (show ¬ (false = true) by decide)] at H; exact H
                  clear H
                  have H := H1
                  clear H1
                  obtain rfl := Option.some.inj H
                  have hnb113 := NB656_657.out
                  have hnc113 := NB657_656.out
                  have hnb114 := NB656_660.out
                  have hnc114 := NB660_656.out
                  have hnb115 := NB656_663.out
                  have hnc115 := NB663_656.out
                  have hcz116_0 : wc.cell? ⟨gb656, 0, none⟩ = some (.int .i64 t652) := (blk_cell BK656.out 0).trans rfl
                  have hcz116_1 : wc.cell? ⟨gb656, 1, none⟩ = some (.int .i64 t653) := (blk_cell BK656.out 1).trans rfl
                  have hfz116_0 := blk_frozen BK656.out 0
                  have hfz116_1 := blk_frozen BK656.out 1
                  have hnb117 := NB663_657.out
                  have hnc117 := NB657_663.out
                  have hnb118 := NB663_660.out
                  have hnc118 := NB660_663.out
                  have hcz119_0 : wc.cell? ⟨gb663, 0, none⟩ = some (.int .i64 t661) := (blk_cell BK663.out 0).trans rfl
                  have hcz119_1 : wc.cell? ⟨gb663, 1, none⟩ = some (.int .i64 t662) := (blk_cell BK663.out 1).trans rfl
                  have hfz119_0 := blk_frozen BK663.out 0
                  have hfz119_1 := blk_frozen BK663.out 1
                  go_wp2_with (first | ((with_reducible refine gate_callee (f := 25) rfl ?_); refine goesL_ (some 49) rfl rfl Try.func25 (by kernel_rfl) rfl #[.agg #[.int .i64 t652, .int .i64 t653], .agg #[.int .i64 t661, .int .i64 t662]] rfl (by (try simp only [List.map_toArray, List.map_cons, List.map_nil]); first | done | rfl | (simp only [List.length_drop, List.length_take]; rfl)) ?_; (with_reducible refine (impl_LabelFlows.calls t652 t653 t661 t662 true _ A50.out).mono ?_); rintro e w120 ⟨rfl, hb⟩; refine ⟨_, rfl, ?_⟩; have n0_ := Aside0.mk (blk_below (g := gb656) (o := .cells #[.int .i64 t652, .int .i64 t653] 26 (0, 0)) (by (with_reducible repeat (first | refine blk_drewN ?_ _ | refine blk_drew ?_ | refine blk_alloc ?_ _)); exact BK656.out) hb); have n1_ := Aside0.mk (blk_below (g := gb657) (o := .cells #[.int .i64 t654, .int .i64 t655] 26 (0, 0)) (by (with_reducible repeat (first | refine blk_drewN ?_ _ | refine blk_drew ?_ | refine blk_alloc ?_ _)); exact BK657.out) hb); have n2_ := Aside0.mk (blk_below (g := gb660) (o := .cells #[.int .i64 t658, .int .i64 t659] 26 (0, 0)) (by (with_reducible repeat (first | refine blk_drewN ?_ _ | refine blk_drew ?_ | refine blk_alloc ?_ _)); exact BK660.out) hb); have n3_ := Aside0.mk (blk_below (g := gb663) (o := .cells #[.int .i64 t661, .int .i64 t662] 26 (0, 0)) (by (with_reducible repeat (first | refine blk_drewN ?_ _ | refine blk_drew ?_ | refine blk_alloc ?_ _)); exact BK663.out) hb); have n4_ := Aside0.mk (below_step (by repeat (first | (with_reducible first | exact HB.out | apply below_alloc | apply pw_below_drewN | apply below_drew1 | refine below_set ?_ GE656.out | refine below_set ?_ GE657.out | refine below_set ?_ GE660.out | refine below_set ?_ GE663.out) | exact HB.out)) hb); clear BK656; clear BK657; clear BK660; clear BK663; clear HB; have BK656 := n0_; have BK657 := n1_; have BK660 := n2_; have BK663 := n3_; have HB := n4_; clear n0_ n1_ n2_ n3_ n4_; (try clear hb); (try clear hb2); (try clear hk); (try clear hi); have hnb121 := NB657_660.out; have hnc121 := NB660_657.out; have hcz122_0 : w120.cell? ⟨gb657, 0, none⟩ = some (.int .i64 t654) := (blk_cell BK657.out 0).trans rfl; have hcz122_1 : w120.cell? ⟨gb657, 1, none⟩ = some (.int .i64 t655) := (blk_cell BK657.out 1).trans rfl; have hfz122_0 := blk_frozen BK657.out 0; have hfz122_1 := blk_frozen BK657.out 1; have hcz123_0 : w120.cell? ⟨gb663, 0, none⟩ = some (.int .i64 t661) := (blk_cell BK663.out 0).trans rfl; have hcz123_1 : w120.cell? ⟨gb663, 1, none⟩ = some (.int .i64 t662) := (blk_cell BK663.out 1).trans rfl; have hfz123_0 := blk_frozen BK663.out 0; have hfz123_1 := blk_frozen BK663.out 1) | (go_at_call 25; (with_reducible refine (impl_LabelFlows.calls t654 t655 t661 t662 false _ A52.out).mono ?_); rintro e w124 ⟨rfl, hb⟩; have n0_ := Aside0.mk (blk_below (g := gb656) (o := .cells #[.int .i64 t652, .int .i64 t653] 26 (0, 0)) (by (with_reducible repeat (first | refine blk_drewN ?_ _ | refine blk_drew ?_ | refine blk_alloc ?_ _)); exact BK656.out) hb); have n1_ := Aside0.mk (blk_below (g := gb657) (o := .cells #[.int .i64 t654, .int .i64 t655] 26 (0, 0)) (by (with_reducible repeat (first | refine blk_drewN ?_ _ | refine blk_drew ?_ | refine blk_alloc ?_ _)); exact BK657.out) hb); have n2_ := Aside0.mk (blk_below (g := gb660) (o := .cells #[.int .i64 t658, .int .i64 t659] 26 (0, 0)) (by (with_reducible repeat (first | refine blk_drewN ?_ _ | refine blk_drew ?_ | refine blk_alloc ?_ _)); exact BK660.out) hb); have n3_ := Aside0.mk (blk_below (g := gb663) (o := .cells #[.int .i64 t661, .int .i64 t662] 26 (0, 0)) (by (with_reducible repeat (first | refine blk_drewN ?_ _ | refine blk_drew ?_ | refine blk_alloc ?_ _)); exact BK663.out) hb); have n4_ := Aside0.mk (below_step (by repeat (first | (with_reducible first | exact HB.out | apply below_alloc | apply pw_below_drewN | apply below_drew1 | refine below_set ?_ GE656.out | refine below_set ?_ GE657.out | refine below_set ?_ GE660.out | refine below_set ?_ GE663.out) | exact HB.out)) hb); clear BK656; clear BK657; clear BK660; clear BK663; clear HB; have BK656 := n0_; have BK657 := n1_; have BK660 := n2_; have BK663 := n3_; have HB := n4_; clear n0_ n1_ n2_ n3_ n4_; (try clear hb); (try clear hb2); (try clear hk); (try clear hi)))
                  go_ret
                  exact ⟨by first | rfl | (simp [errW_none, errW_some] <;> rfl) | (simp [*, errW_none, errW_some] <;> rfl), by repeat (first | (with_reducible first | exact HB.out | apply below_alloc | apply pw_below_drewN | apply below_drew1 | refine below_set ?_ GE656.out | refine below_set ?_ GE657.out | refine below_set ?_ GE660.out | refine below_set ?_ GE663.out) | exact HB.out)⟩
              · replace c51 := Bool.eq_false_iff.mpr c51
                subst c51
                have H1 : (some false) = some r := by rw [if_neg (show ¬ (false = true) by decide)] at H; exact H
                clear H
                have H := H1
                clear H1
                obtain rfl := Option.some.inj H
                have hnb125 := NB656_657.out
                have hnc125 := NB657_656.out
                have hnb126 := NB656_660.out
                have hnc126 := NB660_656.out
                have hnb127 := NB656_663.out
                have hnc127 := NB663_656.out
                have hcz128_0 : wc.cell? ⟨gb656, 0, none⟩ = some (.int .i64 t652) := (blk_cell BK656.out 0).trans rfl
                have hcz128_1 : wc.cell? ⟨gb656, 1, none⟩ = some (.int .i64 t653) := (blk_cell BK656.out 1).trans rfl
                have hfz128_0 := blk_frozen BK656.out 0
                have hfz128_1 := blk_frozen BK656.out 1
                have hnb129 := NB663_657.out
                have hnc129 := NB657_663.out
                have hnb130 := NB663_660.out
                have hnc130 := NB660_663.out
                have hcz131_0 : wc.cell? ⟨gb663, 0, none⟩ = some (.int .i64 t661) := (blk_cell BK663.out 0).trans rfl
                have hcz131_1 : wc.cell? ⟨gb663, 1, none⟩ = some (.int .i64 t662) := (blk_cell BK663.out 1).trans rfl
                have hfz131_0 := blk_frozen BK663.out 0
                have hfz131_1 := blk_frozen BK663.out 1
                go_wp2_with (first | ((with_reducible refine gate_callee (f := 25) rfl ?_); refine goesL_ (some 49) rfl rfl Try.func25 (by kernel_rfl) rfl #[.agg #[.int .i64 t652, .int .i64 t653], .agg #[.int .i64 t661, .int .i64 t662]] rfl (by (try simp only [List.map_toArray, List.map_cons, List.map_nil]); first | done | rfl | (simp only [List.length_drop, List.length_take]; rfl)) ?_; (with_reducible refine (impl_LabelFlows.calls t652 t653 t661 t662 false _ A50.out).mono ?_); rintro e w132 ⟨rfl, hb⟩; refine ⟨_, rfl, ?_⟩; have n0_ := Aside0.mk (blk_below (g := gb656) (o := .cells #[.int .i64 t652, .int .i64 t653] 26 (0, 0)) (by (with_reducible repeat (first | refine blk_drewN ?_ _ | refine blk_drew ?_ | refine blk_alloc ?_ _)); exact BK656.out) hb); have n1_ := Aside0.mk (blk_below (g := gb657) (o := .cells #[.int .i64 t654, .int .i64 t655] 26 (0, 0)) (by (with_reducible repeat (first | refine blk_drewN ?_ _ | refine blk_drew ?_ | refine blk_alloc ?_ _)); exact BK657.out) hb); have n2_ := Aside0.mk (blk_below (g := gb660) (o := .cells #[.int .i64 t658, .int .i64 t659] 26 (0, 0)) (by (with_reducible repeat (first | refine blk_drewN ?_ _ | refine blk_drew ?_ | refine blk_alloc ?_ _)); exact BK660.out) hb); have n3_ := Aside0.mk (blk_below (g := gb663) (o := .cells #[.int .i64 t661, .int .i64 t662] 26 (0, 0)) (by (with_reducible repeat (first | refine blk_drewN ?_ _ | refine blk_drew ?_ | refine blk_alloc ?_ _)); exact BK663.out) hb); have n4_ := Aside0.mk (below_step (by repeat (first | (with_reducible first | exact HB.out | apply below_alloc | apply pw_below_drewN | apply below_drew1 | refine below_set ?_ GE656.out | refine below_set ?_ GE657.out | refine below_set ?_ GE660.out | refine below_set ?_ GE663.out) | exact HB.out)) hb); clear BK656; clear BK657; clear BK660; clear BK663; clear HB; have BK656 := n0_; have BK657 := n1_; have BK660 := n2_; have BK663 := n3_; have HB := n4_; clear n0_ n1_ n2_ n3_ n4_; (try clear hb); (try clear hb2); (try clear hk); (try clear hi)))
                go_ret
                exact ⟨by first | rfl | (simp [errW_none, errW_some] <;> rfl) | (simp [*, errW_none, errW_some] <;> rfl), by repeat (first | (with_reducible first | exact HB.out | apply below_alloc | apply pw_below_drewN | apply below_drew1 | refine below_set ?_ GE656.out | refine below_set ?_ GE657.out | refine below_set ?_ GE660.out | refine below_set ?_ GE663.out) | exact HB.out)⟩

end Go.Proofs.Ytcndpbegmdcelaa.A
