/- What Go functions compute, as Lean functions, and for each its contract: for every input at which the Lean function answers the call returns that; written by wip/tools/pr.py over the kit's print. -/
import Derived.Test.YtcndpbegmdcelaaAx0
import Derived.Test.YtcndpbegmdcelaaAx1
import Derived.Test.YtcndpbegmdcelaaAx3
import Derived.Test.YtcndpbegmdcelaaAx8
import Derived.Test.YtcndpbegmdcelaaAx17
import Derived.Test.YtcndpbegmdcelaaAx18
import Derived.Test.YtcndpbegmdcelaaAx53
import Derived.Test.YtcndpbegmdcelaaAx60
namespace Go.Proofs.Ytcndpbegmdcelaa.A
open Go.RowKit Go.Proofs.YtcndpbegmdcelaaW.PrintWords Go.Proofs.YtcndpbegmdcelaaW.PrintLast Go.Proofs.YtcndpbegmdcelaaW.PrintMore
attribute [local go_sem] max2_int min2_int max_two min_two max_three min_three max_four min_four   -- for this text's walks alone
set_option linter.unusedVariables false
set_option linter.unusedSimpArgs false

attribute [local go_sem high] eqA26
/-! ### laws_FnLabelEither: function 13 -/
mutual
def laws_FnLabelEither.j0 : Nat → List Int → List Int → Bool → Option (Bool)
  | 0, _, _, _ => none
  | k + 1, x0, x1, x16 => if x16 = true then (some true) else ((spec_DrawLabelEither.f k x0).bind fun bt727 => ((spec_DrawLabelText.f k x1).bind fun bt733 => ((impl_LabelEither.f bt727.1 bt727.2.1 bt727.2.2.1 bt727.2.2.2).bind fun bt736 => ((spec_LabelEither.f k bt727.1 bt727.2.1 bt727.2.2.1 bt727.2.2.2).bind fun bt739 => (if (!(bt736.1 == bt739.1) || (!(bt736.2 == bt739.2))) = true then (laws_FnLabelEither.j1 k true bt727.1 bt727.2.1 bt727.2.2.1 bt727.2.2.2 bt733.1 bt733.2 bt736.1 bt736.2) else ((spec_LabelOk.f bt727.1 bt727.2.1).bind fun t741 => (if t741 = true then ((spec_LabelOk.f bt727.2.2.1 bt727.2.2.2).bind fun t742 => (laws_FnLabelEither.j1 k (!t742) bt727.1 bt727.2.1 bt727.2.2.1 bt727.2.2.2 bt733.1 bt733.2 bt736.1 bt736.2)) else (laws_FnLabelEither.j1 k true bt727.1 bt727.2.1 bt727.2.2.1 bt727.2.2.2 bt733.1 bt733.2 bt736.1 bt736.2))))))))
def laws_FnLabelEither.j1 : Nat → Bool → Int → Int → Int → Int → Int → Int → Int → Int → Option (Bool)
  | 0, _, _, _, _, _, _, _, _, _ => none
  | k + 1, x41, x732000, x732001, x733000, x733001, x736000, x736001, x739000, x739001 => if x41 = true then ((spec_LabelEither.f k x732000 x732001 x733000 x733001).bind fun bt743 => (some (x739000 == bt743.1 && (x739001 == bt743.2)))) else ((impl_LabelFlows.f x739000 x739001 x732000 x732001).bind fun t745 => (if t745 = true then ((impl_LabelFlows.f x739000 x739001 x733000 x733001).bind fun t746 => (if t746 = true then ((impl_LabelFlows.f x736000 x736001 x732000 x732001).bind fun t747 => (if t747 = true then ((impl_LabelFlows.f x736000 x736001 x733000 x733001).bind fun t748 => (if t748 = true then ((impl_LabelFlows.f x736000 x736001 x739000 x739001).bind fun t749 => (some t749)) else (some true))) else (some true))) else (some false))) else (some false)))
end
def laws_FnLabelEither.f (k : Nat) (l0 : List Int) (l1 : List Int) : Option (Bool) := if (l0.length : Int) > 1048576 then (laws_FnLabelEither.j0 k l0 l1 true) else (laws_FnLabelEither.j0 k l0 l1 (decide ((l1.length : Int) > 1048576)))
theorem laws_FnLabelEither.mono_l : ∀ k, (∀ y0 y1 y2, LeO (laws_FnLabelEither.j0 k y0 y1 y2) (laws_FnLabelEither.j0 (k + 1) y0 y1 y2)) ∧ (∀ y0 y1 y2 y3 y4 y5 y6 y7 y8, LeO (laws_FnLabelEither.j1 k y0 y1 y2 y3 y4 y5 y6 y7 y8) (laws_FnLabelEither.j1 (k + 1) y0 y1 y2 y3 y4 y5 y6 y7 y8))
  | 0 => ⟨fun _ _ _ r h => by simp [laws_FnLabelEither.j0] at h, fun _ _ _ _ _ _ _ _ _ r h => by simp [laws_FnLabelEither.j1] at h⟩
  | k + 1 => by
    obtain ⟨ih0, ih1⟩ := laws_FnLabelEither.mono_l k
    refine ⟨?_, ?_⟩
    · intro y0 y1 y2
      unfold laws_FnLabelEither.j0
      repeat' first
      | (with_reducible exact ih0 _ _ _)
      | (with_reducible exact ih1 _ _ _ _ _ _ _ _ _)
      | (with_reducible exact spec_DrawLabelEither.mono _ _)
      | (with_reducible exact spec_DrawLabelText.mono _ _)
      | (with_reducible exact spec_LabelEither.mono _ _ _ _ _)
      | (with_reducible exact LeO.refl _)
      | (with_reducible exact LeO.none _)
      | (with_reducible refine LeO.ite ?_ ?_)
      | (with_reducible refine LeO.bind ?_ (fun _ => ?_))
      | exact ih0 _ _ _
      | exact ih1 _ _ _ _ _ _ _ _ _
      | exact spec_DrawLabelEither.mono _ _
      | exact spec_DrawLabelText.mono _ _
      | exact spec_LabelEither.mono _ _ _ _ _
      | exact LeO.none _
      | refine LeO.ite ?_ ?_
      | refine LeO.bind ?_ (fun _ => ?_)
    · intro y0 y1 y2 y3 y4 y5 y6 y7 y8
      unfold laws_FnLabelEither.j1
      repeat' first
      | (with_reducible exact ih0 _ _ _)
      | (with_reducible exact ih1 _ _ _ _ _ _ _ _ _)
      | (with_reducible exact spec_DrawLabelEither.mono _ _)
      | (with_reducible exact spec_DrawLabelText.mono _ _)
      | (with_reducible exact spec_LabelEither.mono _ _ _ _ _)
      | (with_reducible exact LeO.refl _)
      | (with_reducible exact LeO.none _)
      | (with_reducible refine LeO.ite ?_ ?_)
      | (with_reducible refine LeO.bind ?_ (fun _ => ?_))
      | exact ih0 _ _ _
      | exact ih1 _ _ _ _ _ _ _ _ _
      | exact spec_DrawLabelEither.mono _ _
      | exact spec_DrawLabelText.mono _ _
      | exact spec_LabelEither.mono _ _ _ _ _
      | exact LeO.none _
      | refine LeO.ite ?_ ?_
      | refine LeO.bind ?_ (fun _ => ?_)
theorem laws_FnLabelEither.mono : ∀ a0 a1 k, LeO (laws_FnLabelEither.f k a0 a1) (laws_FnLabelEither.f (k + 1) a0 a1) := by
  intro a0 a1 k
  obtain ⟨ih0, ih1⟩ := laws_FnLabelEither.mono_l k
  unfold laws_FnLabelEither.f
  repeat' first
      | (with_reducible exact ih0 _ _ _)
      | (with_reducible exact ih1 _ _ _ _ _ _ _ _ _)
      | (with_reducible exact spec_DrawLabelEither.mono _ _)
      | (with_reducible exact spec_DrawLabelText.mono _ _)
      | (with_reducible exact spec_LabelEither.mono _ _ _ _ _)
      | (with_reducible exact LeO.refl _)
      | (with_reducible exact LeO.none _)
      | (with_reducible refine LeO.ite ?_ ?_)
      | (with_reducible refine LeO.bind ?_ (fun _ => ?_))
      | exact ih0 _ _ _
      | exact ih1 _ _ _ _ _ _ _ _ _
      | exact spec_DrawLabelEither.mono _ _
      | exact spec_DrawLabelText.mono _ _
      | exact spec_LabelEither.mono _ _ _ _ _
      | exact LeO.none _
      | refine LeO.ite ?_ ?_
      | refine LeO.bind ?_ (fun _ => ?_)
def laws_FnLabelEither.T6 : Bool × List (List Nat × List Nat) := (true, [([], []), ([], []), ([], []), ([1, 2], [1, 2]), ([0, 3], [0, 3]), ([4, 3], [4]), ([5], [5]), ([6, 5, 5], [5, 6]), ([7, 5], [5, 7]), ([5, 8], [5, 8]), ([9, 7], [9]), ([10], [10]), ([11, 10, 10], [10, 11]), ([12, 10], [10, 12]), ([10, 13], [10, 13])])
def laws_FnLabelEither.B6 : List Nat := [0, 0, 0, 6, 15, 31, 63, 127, 255, 511, 1023, 2047, 4095, 8191, 16383]
theorem laws_FnLabelEither.tab6 : rtab .any (opsOf Try.f13 6) = laws_FnLabelEither.T6 := by kernel_rfl
theorem laws_FnLabelEither.bits6 : waitsOk laws_FnLabelEither.T6.2 laws_FnLabelEither.B6 = true := by kernel_rfl
set_option maxHeartbeats 8000000 in
set_option maxRecDepth 100000 in
theorem laws_FnLabelEither.calls (k : Nat) (A0 : Option Addr) (c0 : Nat) (l0 : List Int) (A1 : Option Addr) (c1 : Nat) (l1 : List Int) (r : Bool) (w : World) (hr0 : Kd.C (Kd.int .u8) w A0 l0.length l0) (hc0 : l0.length ≤ c0) (hr1 : Kd.C (Kd.int .u8) w A1 l1.length l1) (hc1 : l1.length ≤ c1) (h : laws_FnLabelEither.f k l0 l1 = some r) :
    Calls Try.prog 13 #[.slice A0 l0.length c0, .slice A1 l1.length c1] w fun e w' => e = .returned (.bool r) ∧ Below w.heap.size w w' := by
  have hu26 := Try.underlying26
  have HR0 := Aside0.mk hr0
  have HC0 := Aside0.mk hc0
  clear hr0 hc0
  have HR1 := Aside0.mk hr1
  have HC1 := Aside0.mk hc1
  clear hr1 hc1
  have HB := Aside0.mk (Below.refl w.heap.size w)
  have H : (if (l0.length : Int) > 1048576 then (laws_FnLabelEither.j0 k l0 l1 true) else (laws_FnLabelEither.j0 k l0 l1 (decide ((l1.length : Int) > 1048576)))) = some r := h
  clear h
  have HC3 := Aside0.mk H
  clear H
  go_enter Try.func13, Try.ntmps13
  go_upto_region 1 with (fail)
  go_cut [16] (fun v16 wc => ∃ (kq : Nat) (x16_2 : Bool), v16 = .bool x16_2 ∧ Aside0 (laws_FnLabelEither.j0 kq l0 l1 x16_2 = some r) ∧ Aside0 (kq ≤ k) ∧ Aside0 (Below w.heap.size w wc))
  case first =>
    have H := HC3.out
    clear HC3
    by_cases c4 : (l0.length : Int) > 1048576
    · rw [if_pos c4] at H
      have c4b0 : decide (1048576 < (l0.length : Int)) = true := decide_eq_true c4
      have c4b1 : decide (1048576 < l0.length) = true := decide_eq_true (by omega)
      clear c4
      (first | rw [c4b0] | (simp only [i64_w, i32_w]; rw [c4b0]) | skip)
      have H' := Aside0.mk H
      clear H
      go_wp2
      go_meet
      case rel => exact ⟨_, (true), (by first | rfl | (simp; done) | (simp [*]; done)), H', ⟨by first | omega | exact Nat.le_refl _⟩, ⟨by repeat (first | (with_reducible first | exact HB.out | apply below_alloc | apply pw_below_drewN | apply below_drew1) | exact HB.out)⟩⟩
    · rw [if_neg c4] at H
      have c4b0 : decide (1048576 < (l0.length : Int)) = false := decide_eq_false c4
      have c4b1 : decide (1048576 < l0.length) = false := decide_eq_false (by omega)
      clear c4
      (first | rw [c4b0] | (simp only [i64_w, i32_w]; rw [c4b0]) | skip)
      have H' := Aside0.mk H
      clear H
      go_wp2
      go_meet
      case rel => exact ⟨_, (decide ((l1.length : Int) > 1048576)), (by first | rfl | (simp; done) | (simp [*]; done)), H', ⟨by first | omega | exact Nat.le_refl _⟩, ⟨by repeat (first | (with_reducible first | exact HB.out | apply below_alloc | apply pw_below_drewN | apply below_drew1) | exact HB.out)⟩⟩
  case rest =>
    clear HC3
    try clear c1
    try clear p2
    try clear c4
    try clear c4b0
    try clear c4b1
    obtain ⟨kq, x16_2, rfl, HA, HJ2, HB⟩ := hcut
    cases kq with
    | zero => exact absurd HA.out (by simp [laws_FnLabelEither.j0])
    | succ kj2 =>
      have H := HA.out
      clear HA
      simp only [laws_FnLabelEither.j0] at H
      by_cases c5 : x16_2 = true
      · subst c5
        have H1 : (some true) = some r := by rw [if_pos rfl] at H; exact H
        clear H
        have H := H1
        clear H1
        obtain rfl := Option.some.inj H
        go_wp2
        go_ret
        exact ⟨by first | rfl | (simp [errW_none, errW_some] <;> rfl) | (simp [*, errW_none, errW_some] <;> rfl), by repeat (first | (with_reducible first | exact HB.out | apply below_alloc | apply pw_below_drewN | apply below_drew1) | exact HB.out)⟩
      · replace c5 := Bool.eq_false_iff.mpr c5
        subst c5
        have H1 : ((spec_DrawLabelEither.f kj2 l0).bind fun bt727 => ((spec_DrawLabelText.f kj2 l1).bind fun bt733 => ((impl_LabelEither.f bt727.1 bt727.2.1 bt727.2.2.1 bt727.2.2.2).bind fun bt736 => ((spec_LabelEither.f kj2 bt727.1 bt727.2.1 bt727.2.2.1 bt727.2.2.2).bind fun bt739 => (if (!(bt736.1 == bt739.1) || (!(bt736.2 == bt739.2))) = true then (laws_FnLabelEither.j1 kj2 true bt727.1 bt727.2.1 bt727.2.2.1 bt727.2.2.2 bt733.1 bt733.2 bt736.1 bt736.2) else ((spec_LabelOk.f bt727.1 bt727.2.1).bind fun t741 => (if t741 = true then ((spec_LabelOk.f bt727.2.2.1 bt727.2.2.2).bind fun t742 => (laws_FnLabelEither.j1 kj2 (!t742) bt727.1 bt727.2.1 bt727.2.2.1 bt727.2.2.2 bt733.1 bt733.2 bt736.1 bt736.2)) else (laws_FnLabelEither.j1 kj2 true bt727.1 bt727.2.1 bt727.2.2.1 bt727.2.2.2 bt733.1 bt733.2 bt736.1 bt736.2)))))))) = some r := by rw [if_neg (show ¬ (false = true) by decide)] at H; exact H
        clear H
        have H := H1
        clear H1
        replace H := Option.bind_eq_some_iff.mp H
        obtain ⟨⟨t727, t728, t729, t730⟩, A60, H⟩ := H
        replace H : ((spec_DrawLabelText.f kj2 l1).bind fun bt733 => ((impl_LabelEither.f t727 t728 t729 t730).bind fun bt736 => ((spec_LabelEither.f kj2 t727 t728 t729 t730).bind fun bt739 => (if (!(bt736.1 == bt739.1) || (!(bt736.2 == bt739.2))) = true then (laws_FnLabelEither.j1 kj2 true t727 t728 t729 t730 bt733.1 bt733.2 bt736.1 bt736.2) else ((spec_LabelOk.f t727 t728).bind fun t741 => (if t741 = true then ((spec_LabelOk.f t729 t730).bind fun t742 => (laws_FnLabelEither.j1 kj2 (!t742) t727 t728 t729 t730 bt733.1 bt733.2 bt736.1 bt736.2)) else (laws_FnLabelEither.j1 kj2 true t727 t728 t729 t730 bt733.1 bt733.2 bt736.1 bt736.2))))))) = some r := H
        have A6 := Aside0.mk A60
        clear A60
        replace H := Option.bind_eq_some_iff.mp H
        obtain ⟨⟨t733, t734⟩, A70, H⟩ := H
        replace H : ((impl_LabelEither.f t727 t728 t729 t730).bind fun bt736 => ((spec_LabelEither.f kj2 t727 t728 t729 t730).bind fun bt739 => (if (!(bt736.1 == bt739.1) || (!(bt736.2 == bt739.2))) = true then (laws_FnLabelEither.j1 kj2 true t727 t728 t729 t730 t733 t734 bt736.1 bt736.2) else ((spec_LabelOk.f t727 t728).bind fun t741 => (if t741 = true then ((spec_LabelOk.f t729 t730).bind fun t742 => (laws_FnLabelEither.j1 kj2 (!t742) t727 t728 t729 t730 t733 t734 bt736.1 bt736.2)) else (laws_FnLabelEither.j1 kj2 true t727 t728 t729 t730 t733 t734 bt736.1 bt736.2)))))) = some r := H
        have A7 := Aside0.mk A70
        clear A70
        replace H := Option.bind_eq_some_iff.mp H
        obtain ⟨⟨t736, t737⟩, A80, H⟩ := H
        replace H : ((spec_LabelEither.f kj2 t727 t728 t729 t730).bind fun bt739 => (if (!(t736 == bt739.1) || (!(t737 == bt739.2))) = true then (laws_FnLabelEither.j1 kj2 true t727 t728 t729 t730 t733 t734 t736 t737) else ((spec_LabelOk.f t727 t728).bind fun t741 => (if t741 = true then ((spec_LabelOk.f t729 t730).bind fun t742 => (laws_FnLabelEither.j1 kj2 (!t742) t727 t728 t729 t730 t733 t734 t736 t737)) else (laws_FnLabelEither.j1 kj2 true t727 t728 t729 t730 t733 t734 t736 t737))))) = some r := H
        have A8 := Aside0.mk A80
        clear A80
        have HC9 := Aside0.mk H
        clear H
        go_upto_region 6 with (first | ((with_reducible refine gate_callee (f := 35) rfl ?_); refine goesL_ (some 19) rfl rfl Try.func35 (by kernel_rfl) rfl #[.slice A0 l0.length c0] rfl (by (try simp only [List.map_toArray, List.map_cons, List.map_nil]); first | done | rfl | (simp only [List.length_drop, List.length_take]; rfl)) ?_; (with_reducible refine (spec_DrawLabelEither.calls kj2 _ _ l0 t727 t728 t729 t730 _ ?side1 ?side2 A6.out).mono ?_); (case side1 => repeat (first | exact (Kd.C_below HR0.out HB.out) | (with_reducible refine Kd.C_alloc ?_ _) | (with_reducible refine Kd.C_drewN ?_ _) | (with_reducible refine Kd.C_drew ?_))); (case side2 => exact HC0.out); rintro e w10 ⟨rfl, hb⟩; refine ⟨_, rfl, ?_⟩; have n0_ := Aside0.mk (below_step (by repeat (first | (with_reducible first | exact HB.out | apply below_alloc | apply pw_below_drewN | apply below_drew1) | exact HB.out)) hb); clear HB; have HB := n0_; clear n0_; (try clear hb); (try clear hb2); (try clear hk); (try clear hi)) | ((with_reducible refine gate_dst (N := 5) rfl ?_); refine box_event ?hg (N := 5) ?hd (cs := #[.int .i64 0, .int .i64 0]) (t := 26) ?hr ?_; (case hd => rfl); (case hg => rfl); (case hr => first | (go_simp; done) | (go_simp; rfl)); intro gb731 hg w11 hbox hb; have n0_ := Aside0.mk (below_step (by repeat (first | (with_reducible first | exact HB.out | apply below_alloc | apply pw_below_drewN | apply below_drew1) | exact HB.out)) hb); have n1_ := Aside0.mk (hbox); have n2_ := Aside0.mk ((by rw [hg]; exact (below_size (by repeat (first | (with_reducible first | exact HB.out | apply below_alloc | apply pw_below_drewN | apply below_drew1) | exact HB.out))) : w.heap.size ≤ gb731)); have n3_ := Aside0.mk ((by rw [hg]; exact (below_size (by repeat (first | (with_reducible first | exact HB.out | apply below_alloc | apply pw_below_drewN | apply below_drew1) | exact HB.out))) : w.heap.size ≤ gb731)); clear HB; have HB := n0_; have BK731 := n1_; have GW731 := n2_; have GE731 := n3_; clear n0_ n1_ n2_ n3_; clear hb hbox hg) | ((with_reducible refine gate_dst (N := 6) rfl ?_); refine box_event ?hg (N := 6) ?hd (cs := #[.int .i64 0, .int .i64 0]) (t := 26) ?hr ?_; (case hd => rfl); (case hg => rfl); (case hr => first | (go_simp; done) | (go_simp; rfl)); intro gb732 hg w12 hbox hb; have n0_ := Aside0.mk (blk_below (g := gb731) (o := .cells #[.int .i64 0, .int .i64 0] 26 (0, 0)) (by (with_reducible repeat (first | refine blk_drewN ?_ _ | refine blk_drew ?_ | refine blk_alloc ?_ _)); exact BK731.out) hb); have n1_ := Aside0.mk (below_step (by repeat (first | (with_reducible first | exact HB.out | apply below_alloc | apply pw_below_drewN | apply below_drew1 | refine below_set ?_ GE731.out) | exact HB.out)) hb); have n2_ := Aside0.mk (hbox); have n3_ := Aside0.mk ((by rw [hg]; exact (below_size (by repeat (first | (with_reducible first | exact HB.out | apply below_alloc | apply pw_below_drewN | apply below_drew1 | refine below_set ?_ GE731.out) | exact HB.out))) : w.heap.size ≤ gb732)); have n4_ := Aside0.mk ((by rw [hg]; exact (below_size (by repeat (first | (with_reducible first | exact HB.out | apply below_alloc | apply pw_below_drewN | apply below_drew1 | refine below_set ?_ GE731.out) | exact HB.out))) : w.heap.size ≤ gb732)); have n5_ := Aside0.mk ((by rw [hg]; exact Nat.ne_of_lt (blk_lt (g := gb731) (o := .cells #[.int .i64 0, .int .i64 0] 26 (0, 0)) (by (with_reducible repeat (first | refine blk_drewN ?_ _ | refine blk_drew ?_ | refine blk_alloc ?_ _)); exact BK731.out)) : gb731 ≠ gb732)); have n6_ := Aside0.mk ((by rw [hg]; exact Nat.ne_of_gt (blk_lt (g := gb731) (o := .cells #[.int .i64 0, .int .i64 0] 26 (0, 0)) (by (with_reducible repeat (first | refine blk_drewN ?_ _ | refine blk_drew ?_ | refine blk_alloc ?_ _)); exact BK731.out)) : gb732 ≠ gb731)); clear BK731; clear HB; have BK731 := n0_; have HB := n1_; have BK732 := n2_; have GW732 := n3_; have GE732 := n4_; have NB731_732 := n5_; have NB732_731 := n6_; clear n0_ n1_ n2_ n3_ n4_ n5_ n6_; clear hb hbox hg; have hnb13 := NB731_732.out; have hnc13 := NB732_731.out; have hcz14_0 : w12.cell? ⟨gb731, 0, none⟩ = some (.int .i64 0) := (blk_cell BK731.out 0).trans rfl; have hcz14_1 : w12.cell? ⟨gb731, 1, none⟩ = some (.int .i64 0) := (blk_cell BK731.out 1).trans rfl; have hfz14_0 := blk_frozen BK731.out 0; have hfz14_1 := blk_frozen BK731.out 1; have hcz15_0 : w12.cell? ⟨gb732, 0, none⟩ = some (.int .i64 0) := (blk_cell BK732.out 0).trans rfl; have hcz15_1 : w12.cell? ⟨gb732, 1, none⟩ = some (.int .i64 0) := (blk_cell BK732.out 1).trans rfl; have hfz15_0 := blk_frozen BK732.out 0; have hfz15_1 := blk_frozen BK732.out 1) | ((with_reducible refine gate_callee (f := 31) rfl ?_); refine goesL_ (some 23) rfl rfl Try.func31 (by kernel_rfl) rfl #[.slice A1 l1.length c1] rfl (by (try simp only [List.map_toArray, List.map_cons, List.map_nil]); first | done | rfl | (simp only [List.length_drop, List.length_take]; rfl)) ?_; (with_reducible refine (spec_DrawLabelText.calls kj2 _ _ l1 t733 t734 _ ?side1 ?side2 A7.out).mono ?_); (case side1 => exact Kd.C_below HR1.out (by repeat (first | (with_reducible first | exact HB.out | apply below_alloc | apply pw_below_drewN | apply below_drew1 | refine below_set ?_ GE731.out | refine below_set ?_ GE732.out) | exact HB.out))); (case side2 => exact HC1.out); rintro e w16 ⟨rfl, hb⟩; refine ⟨_, rfl, ?_⟩; have n0_ := Aside0.mk (blk_below (g := gb731) (o := .cells #[.int .i64 t727, .int .i64 t728] 26 (0, 0)) (by (with_reducible repeat (first | refine blk_drewN ?_ _ | refine blk_drew ?_ | refine blk_alloc ?_ _)); refine blk_far ?_ NB731_732.out _; (with_reducible repeat (first | refine blk_drewN ?_ _ | refine blk_drew ?_ | refine blk_alloc ?_ _)); refine blk_far ?_ NB731_732.out _; (with_reducible repeat (first | refine blk_drewN ?_ _ | refine blk_drew ?_ | refine blk_alloc ?_ _)); refine blk_put (cs := #[.int .i64 t727, .int .i64 0]) ?_ 1 _ rfl; (with_reducible repeat (first | refine blk_drewN ?_ _ | refine blk_drew ?_ | refine blk_alloc ?_ _)); refine blk_put (cs := #[.int .i64 0, .int .i64 0]) ?_ 0 _ rfl; (with_reducible repeat (first | refine blk_drewN ?_ _ | refine blk_drew ?_ | refine blk_alloc ?_ _)); exact BK731.out) hb); have n1_ := Aside0.mk (blk_below (g := gb732) (o := .cells #[.int .i64 t729, .int .i64 t730] 26 (0, 0)) (by (with_reducible repeat (first | refine blk_drewN ?_ _ | refine blk_drew ?_ | refine blk_alloc ?_ _)); refine blk_put (cs := #[.int .i64 t729, .int .i64 0]) ?_ 1 _ rfl; (with_reducible repeat (first | refine blk_drewN ?_ _ | refine blk_drew ?_ | refine blk_alloc ?_ _)); refine blk_put (cs := #[.int .i64 0, .int .i64 0]) ?_ 0 _ rfl; (with_reducible repeat (first | refine blk_drewN ?_ _ | refine blk_drew ?_ | refine blk_alloc ?_ _)); refine blk_far ?_ NB732_731.out _; (with_reducible repeat (first | refine blk_drewN ?_ _ | refine blk_drew ?_ | refine blk_alloc ?_ _)); refine blk_far ?_ NB732_731.out _; (with_reducible repeat (first | refine blk_drewN ?_ _ | refine blk_drew ?_ | refine blk_alloc ?_ _)); exact BK732.out) hb); have n2_ := Aside0.mk (below_step (by repeat (first | (with_reducible first | exact HB.out | apply below_alloc | apply pw_below_drewN | apply below_drew1 | refine below_set ?_ GE731.out | refine below_set ?_ GE732.out) | exact HB.out)) hb); clear BK731; clear BK732; clear HB; have BK731 := n0_; have BK732 := n1_; have HB := n2_; clear n0_ n1_ n2_; (try clear hb); (try clear hb2); (try clear hk); (try clear hi)) | ((with_reducible refine gate_dst (N := 7) rfl ?_); refine box_event ?hg (N := 7) ?hd (cs := #[.int .i64 0, .int .i64 0]) (t := 26) ?hr ?_; (case hd => rfl); (case hg => rfl); (case hr => first | (go_simp; done) | (go_simp; rfl)); intro gb735 hg w17 hbox hb; have n0_ := Aside0.mk (blk_below (g := gb731) (o := .cells #[.int .i64 t727, .int .i64 t728] 26 (0, 0)) (by (with_reducible repeat (first | refine blk_drewN ?_ _ | refine blk_drew ?_ | refine blk_alloc ?_ _)); exact BK731.out) hb); have n1_ := Aside0.mk (blk_below (g := gb732) (o := .cells #[.int .i64 t729, .int .i64 t730] 26 (0, 0)) (by (with_reducible repeat (first | refine blk_drewN ?_ _ | refine blk_drew ?_ | refine blk_alloc ?_ _)); exact BK732.out) hb); have n2_ := Aside0.mk (below_step (by repeat (first | (with_reducible first | exact HB.out | apply below_alloc | apply pw_below_drewN | apply below_drew1 | refine below_set ?_ GE731.out | refine below_set ?_ GE732.out) | exact HB.out)) hb); have n3_ := Aside0.mk (hbox); have n4_ := Aside0.mk ((by rw [hg]; exact (below_size (by repeat (first | (with_reducible first | exact HB.out | apply below_alloc | apply pw_below_drewN | apply below_drew1 | refine below_set ?_ GE731.out | refine below_set ?_ GE732.out) | exact HB.out))) : w.heap.size ≤ gb735)); have n5_ := Aside0.mk ((by rw [hg]; exact (below_size (by repeat (first | (with_reducible first | exact HB.out | apply below_alloc | apply pw_below_drewN | apply below_drew1 | refine below_set ?_ GE731.out | refine below_set ?_ GE732.out) | exact HB.out))) : w.heap.size ≤ gb735)); have n6_ := Aside0.mk ((by rw [hg]; exact Nat.ne_of_lt (blk_lt (g := gb731) (o := .cells #[.int .i64 t727, .int .i64 t728] 26 (0, 0)) (by (with_reducible repeat (first | refine blk_drewN ?_ _ | refine blk_drew ?_ | refine blk_alloc ?_ _)); exact BK731.out)) : gb731 ≠ gb735)); have n7_ := Aside0.mk ((by rw [hg]; exact Nat.ne_of_gt (blk_lt (g := gb731) (o := .cells #[.int .i64 t727, .int .i64 t728] 26 (0, 0)) (by (with_reducible repeat (first | refine blk_drewN ?_ _ | refine blk_drew ?_ | refine blk_alloc ?_ _)); exact BK731.out)) : gb735 ≠ gb731)); have n8_ := Aside0.mk ((by rw [hg]; exact Nat.ne_of_lt (blk_lt (g := gb732) (o := .cells #[.int .i64 t729, .int .i64 t730] 26 (0, 0)) (by (with_reducible repeat (first | refine blk_drewN ?_ _ | refine blk_drew ?_ | refine blk_alloc ?_ _)); exact BK732.out)) : gb732 ≠ gb735)); have n9_ := Aside0.mk ((by rw [hg]; exact Nat.ne_of_gt (blk_lt (g := gb732) (o := .cells #[.int .i64 t729, .int .i64 t730] 26 (0, 0)) (by (with_reducible repeat (first | refine blk_drewN ?_ _ | refine blk_drew ?_ | refine blk_alloc ?_ _)); exact BK732.out)) : gb735 ≠ gb732)); clear BK731; clear BK732; clear HB; have BK731 := n0_; have BK732 := n1_; have HB := n2_; have BK735 := n3_; have GW735 := n4_; have GE735 := n5_; have NB731_735 := n6_; have NB735_731 := n7_; have NB732_735 := n8_; have NB735_732 := n9_; clear n0_ n1_ n2_ n3_ n4_ n5_ n6_ n7_ n8_ n9_; clear hb hbox hg; have hnb18 := NB735_731.out; have hnc18 := NB731_735.out; have hnb19 := NB735_732.out; have hnc19 := NB732_735.out; have hcz20_0 : w17.cell? ⟨gb735, 0, none⟩ = some (.int .i64 0) := (blk_cell BK735.out 0).trans rfl; have hcz20_1 : w17.cell? ⟨gb735, 1, none⟩ = some (.int .i64 0) := (blk_cell BK735.out 1).trans rfl; have hfz20_0 := blk_frozen BK735.out 0; have hfz20_1 := blk_frozen BK735.out 1; have hcz21_0 : w17.cell? ⟨gb731, 0, none⟩ = some (.int .i64 t727) := (blk_cell BK731.out 0).trans rfl; have hcz21_1 : w17.cell? ⟨gb731, 1, none⟩ = some (.int .i64 t728) := (blk_cell BK731.out 1).trans rfl; have hfz21_0 := blk_frozen BK731.out 0; have hfz21_1 := blk_frozen BK731.out 1; have hcz22_0 : w17.cell? ⟨gb732, 0, none⟩ = some (.int .i64 t729) := (blk_cell BK732.out 0).trans rfl; have hcz22_1 : w17.cell? ⟨gb732, 1, none⟩ = some (.int .i64 t730) := (blk_cell BK732.out 1).trans rfl; have hfz22_0 := blk_frozen BK732.out 0; have hfz22_1 := blk_frozen BK732.out 1) | ((with_reducible refine gate_callee (f := 30) rfl ?_); refine goesL_ (some 26) rfl rfl Try.func30 (by kernel_rfl) rfl #[.agg #[.int .i64 t727, .int .i64 t728], .agg #[.int .i64 t729, .int .i64 t730]] rfl (by (try simp only [List.map_toArray, List.map_cons, List.map_nil]); first | done | rfl | (simp only [List.length_drop, List.length_take]; rfl)) ?_; (with_reducible refine (impl_LabelEither.calls t727 t728 t729 t730 t736 t737 _ A8.out).mono ?_); rintro e w23 ⟨rfl, hb⟩; refine ⟨_, rfl, ?_⟩; have n0_ := Aside0.mk (blk_below (g := gb731) (o := .cells #[.int .i64 t727, .int .i64 t728] 26 (0, 0)) (by (with_reducible repeat (first | refine blk_drewN ?_ _ | refine blk_drew ?_ | refine blk_alloc ?_ _)); refine blk_far ?_ NB731_735.out _; (with_reducible repeat (first | refine blk_drewN ?_ _ | refine blk_drew ?_ | refine blk_alloc ?_ _)); refine blk_far ?_ NB731_735.out _; (with_reducible repeat (first | refine blk_drewN ?_ _ | refine blk_drew ?_ | refine blk_alloc ?_ _)); exact BK731.out) hb); have n1_ := Aside0.mk (blk_below (g := gb732) (o := .cells #[.int .i64 t729, .int .i64 t730] 26 (0, 0)) (by (with_reducible repeat (first | refine blk_drewN ?_ _ | refine blk_drew ?_ | refine blk_alloc ?_ _)); refine blk_far ?_ NB732_735.out _; (with_reducible repeat (first | refine blk_drewN ?_ _ | refine blk_drew ?_ | refine blk_alloc ?_ _)); refine blk_far ?_ NB732_735.out _; (with_reducible repeat (first | refine blk_drewN ?_ _ | refine blk_drew ?_ | refine blk_alloc ?_ _)); exact BK732.out) hb); have n2_ := Aside0.mk (blk_below (g := gb735) (o := .cells #[.int .i64 t733, .int .i64 t734] 26 (0, 0)) (by (with_reducible repeat (first | refine blk_drewN ?_ _ | refine blk_drew ?_ | refine blk_alloc ?_ _)); refine blk_put (cs := #[.int .i64 t733, .int .i64 0]) ?_ 1 _ rfl; (with_reducible repeat (first | refine blk_drewN ?_ _ | refine blk_drew ?_ | refine blk_alloc ?_ _)); refine blk_put (cs := #[.int .i64 0, .int .i64 0]) ?_ 0 _ rfl; (with_reducible repeat (first | refine blk_drewN ?_ _ | refine blk_drew ?_ | refine blk_alloc ?_ _)); exact BK735.out) hb); have n3_ := Aside0.mk (below_step (by repeat (first | (with_reducible first | exact HB.out | apply below_alloc | apply pw_below_drewN | apply below_drew1 | refine below_set ?_ GE731.out | refine below_set ?_ GE732.out | refine below_set ?_ GE735.out) | exact HB.out)) hb); clear BK731; clear BK732; clear BK735; clear HB; have BK731 := n0_; have BK732 := n1_; have BK735 := n2_; have HB := n3_; clear n0_ n1_ n2_ n3_; (try clear hb); (try clear hb2); (try clear hk); (try clear hi)) | ((with_reducible refine gate_dst (N := 8) rfl ?_); refine box_event ?hg (N := 8) ?hd (cs := #[.int .i64 0, .int .i64 0]) (t := 26) ?hr ?_; (case hd => rfl); (case hg => rfl); (case hr => first | (go_simp; done) | (go_simp; rfl)); intro gb738 hg w24 hbox hb; have n0_ := Aside0.mk (blk_below (g := gb731) (o := .cells #[.int .i64 t727, .int .i64 t728] 26 (0, 0)) (by (with_reducible repeat (first | refine blk_drewN ?_ _ | refine blk_drew ?_ | refine blk_alloc ?_ _)); exact BK731.out) hb); have n1_ := Aside0.mk (blk_below (g := gb732) (o := .cells #[.int .i64 t729, .int .i64 t730] 26 (0, 0)) (by (with_reducible repeat (first | refine blk_drewN ?_ _ | refine blk_drew ?_ | refine blk_alloc ?_ _)); exact BK732.out) hb); have n2_ := Aside0.mk (blk_below (g := gb735) (o := .cells #[.int .i64 t733, .int .i64 t734] 26 (0, 0)) (by (with_reducible repeat (first | refine blk_drewN ?_ _ | refine blk_drew ?_ | refine blk_alloc ?_ _)); exact BK735.out) hb); have n3_ := Aside0.mk (below_step (by repeat (first | (with_reducible first | exact HB.out | apply below_alloc | apply pw_below_drewN | apply below_drew1 | refine below_set ?_ GE731.out | refine below_set ?_ GE732.out | refine below_set ?_ GE735.out) | exact HB.out)) hb); have n4_ := Aside0.mk (hbox); have n5_ := Aside0.mk ((by rw [hg]; exact (below_size (by repeat (first | (with_reducible first | exact HB.out | apply below_alloc | apply pw_below_drewN | apply below_drew1 | refine below_set ?_ GE731.out | refine below_set ?_ GE732.out | refine below_set ?_ GE735.out) | exact HB.out))) : w.heap.size ≤ gb738)); have n6_ := Aside0.mk ((by rw [hg]; exact (below_size (by repeat (first | (with_reducible first | exact HB.out | apply below_alloc | apply pw_below_drewN | apply below_drew1 | refine below_set ?_ GE731.out | refine below_set ?_ GE732.out | refine below_set ?_ GE735.out) | exact HB.out))) : w.heap.size ≤ gb738)); have n7_ := Aside0.mk ((by rw [hg]; exact Nat.ne_of_lt (blk_lt (g := gb731) (o := .cells #[.int .i64 t727, .int .i64 t728] 26 (0, 0)) (by (with_reducible repeat (first | refine blk_drewN ?_ _ | refine blk_drew ?_ | refine blk_alloc ?_ _)); exact BK731.out)) : gb731 ≠ gb738)); have n8_ := Aside0.mk ((by rw [hg]; exact Nat.ne_of_gt (blk_lt (g := gb731) (o := .cells #[.int .i64 t727, .int .i64 t728] 26 (0, 0)) (by (with_reducible repeat (first | refine blk_drewN ?_ _ | refine blk_drew ?_ | refine blk_alloc ?_ _)); exact BK731.out)) : gb738 ≠ gb731)); have n9_ := Aside0.mk ((by rw [hg]; exact Nat.ne_of_lt (blk_lt (g := gb732) (o := .cells #[.int .i64 t729, .int .i64 t730] 26 (0, 0)) (by (with_reducible repeat (first | refine blk_drewN ?_ _ | refine blk_drew ?_ | refine blk_alloc ?_ _)); exact BK732.out)) : gb732 ≠ gb738)); have n10_ := Aside0.mk ((by rw [hg]; exact Nat.ne_of_gt (blk_lt (g := gb732) (o := .cells #[.int .i64 t729, .int .i64 t730] 26 (0, 0)) (by (with_reducible repeat (first | refine blk_drewN ?_ _ | refine blk_drew ?_ | refine blk_alloc ?_ _)); exact BK732.out)) : gb738 ≠ gb732)); have n11_ := Aside0.mk ((by rw [hg]; exact Nat.ne_of_lt (blk_lt (g := gb735) (o := .cells #[.int .i64 t733, .int .i64 t734] 26 (0, 0)) (by (with_reducible repeat (first | refine blk_drewN ?_ _ | refine blk_drew ?_ | refine blk_alloc ?_ _)); exact BK735.out)) : gb735 ≠ gb738)); have n12_ := Aside0.mk ((by rw [hg]; exact Nat.ne_of_gt (blk_lt (g := gb735) (o := .cells #[.int .i64 t733, .int .i64 t734] 26 (0, 0)) (by (with_reducible repeat (first | refine blk_drewN ?_ _ | refine blk_drew ?_ | refine blk_alloc ?_ _)); exact BK735.out)) : gb738 ≠ gb735)); clear BK731; clear BK732; clear BK735; clear HB; have BK731 := n0_; have BK732 := n1_; have BK735 := n2_; have HB := n3_; have BK738 := n4_; have GW738 := n5_; have GE738 := n6_; have NB731_738 := n7_; have NB738_731 := n8_; have NB732_738 := n9_; have NB738_732 := n10_; have NB735_738 := n11_; have NB738_735 := n12_; clear n0_ n1_ n2_ n3_ n4_ n5_ n6_ n7_ n8_ n9_ n10_ n11_ n12_; clear hb hbox hg; have hnb25 := NB738_731.out; have hnc25 := NB731_738.out; have hnb26 := NB738_732.out; have hnc26 := NB732_738.out; have hnb27 := NB738_735.out; have hnc27 := NB735_738.out; have hcz28_0 : w24.cell? ⟨gb738, 0, none⟩ = some (.int .i64 0) := (blk_cell BK738.out 0).trans rfl; have hcz28_1 : w24.cell? ⟨gb738, 1, none⟩ = some (.int .i64 0) := (blk_cell BK738.out 1).trans rfl; have hfz28_0 := blk_frozen BK738.out 0; have hfz28_1 := blk_frozen BK738.out 1))
        (try simp only [Act.put, List.setIfInBounds_toArray, List.set_cons_zero, List.set_cons_succ])
        go_cut [41] (fun v41 wc => ∃ (kq : Nat) (x41_8 : Bool), v41 = .bool x41_8 ∧ Aside0 (laws_FnLabelEither.j1 kq x41_8 t727 t728 t729 t730 t733 t734 t736 t737 = some r) ∧ Aside0 (kq ≤ kj2) ∧ Aside0 (wc.heap[gb731]? = some (.cells #[.int .i64 t727, .int .i64 t728] 26 (0, 0))) ∧ Aside0 (wc.heap[gb732]? = some (.cells #[.int .i64 t729, .int .i64 t730] 26 (0, 0))) ∧ Aside0 (wc.heap[gb735]? = some (.cells #[.int .i64 t733, .int .i64 t734] 26 (0, 0))) ∧ Aside0 (wc.heap[gb738]? = some (.cells #[.int .i64 t736, .int .i64 t737] 26 (0, 0))) ∧ Aside0 (Below w.heap.size w wc))
        case first =>
          have H := HC9.out
          clear HC9
          replace H := Option.bind_eq_some_iff.mp H
          obtain ⟨⟨t739, t740⟩, A290, H⟩ := H
          replace H : (if (!(t736 == t739) || (!(t737 == t740))) = true then (laws_FnLabelEither.j1 kj2 true t727 t728 t729 t730 t733 t734 t736 t737) else ((spec_LabelOk.f t727 t728).bind fun t741 => (if t741 = true then ((spec_LabelOk.f t729 t730).bind fun t742 => (laws_FnLabelEither.j1 kj2 (!t742) t727 t728 t729 t730 t733 t734 t736 t737)) else (laws_FnLabelEither.j1 kj2 true t727 t728 t729 t730 t733 t734 t736 t737)))) = some r := H
          have A29 := Aside0.mk A290
          clear A290
          by_cases c30 : (!(t736 == t739) || (!(t737 == t740))) = true
          · rw [if_pos c30] at H
            have c30b0 : (!(t736 == t739) || (!(t737 == t740))) = true := c30
            clear c30
            (first | rw [c30b0] | (simp only [i64_w, i32_w]; rw [c30b0]) | skip)
            have H' := Aside0.mk H
            clear H
            try go_wp2
            have n0_ : Aside0 (((w24.setCell ⟨gb738, 0, none⟩ (.int .i64 t736)).setCell ⟨gb738, 1, none⟩ (.int .i64 t737)).heap[gb731]? = some (.cells #[.int .i64 t727, .int .i64 t728] 26 (0, 0))) := ⟨by (with_reducible repeat (first | refine blk_drewN ?_ _ | refine blk_drew ?_ | refine blk_alloc ?_ _)); refine blk_far ?_ NB731_738.out _; (with_reducible repeat (first | refine blk_drewN ?_ _ | refine blk_drew ?_ | refine blk_alloc ?_ _)); refine blk_far ?_ NB731_738.out _; (with_reducible repeat (first | refine blk_drewN ?_ _ | refine blk_drew ?_ | refine blk_alloc ?_ _)); exact BK731.out⟩
            have n1_ : Aside0 (((w24.setCell ⟨gb738, 0, none⟩ (.int .i64 t736)).setCell ⟨gb738, 1, none⟩ (.int .i64 t737)).heap[gb732]? = some (.cells #[.int .i64 t729, .int .i64 t730] 26 (0, 0))) := ⟨by (with_reducible repeat (first | refine blk_drewN ?_ _ | refine blk_drew ?_ | refine blk_alloc ?_ _)); refine blk_far ?_ NB732_738.out _; (with_reducible repeat (first | refine blk_drewN ?_ _ | refine blk_drew ?_ | refine blk_alloc ?_ _)); refine blk_far ?_ NB732_738.out _; (with_reducible repeat (first | refine blk_drewN ?_ _ | refine blk_drew ?_ | refine blk_alloc ?_ _)); exact BK732.out⟩
            have n2_ : Aside0 (((w24.setCell ⟨gb738, 0, none⟩ (.int .i64 t736)).setCell ⟨gb738, 1, none⟩ (.int .i64 t737)).heap[gb735]? = some (.cells #[.int .i64 t733, .int .i64 t734] 26 (0, 0))) := ⟨by (with_reducible repeat (first | refine blk_drewN ?_ _ | refine blk_drew ?_ | refine blk_alloc ?_ _)); refine blk_far ?_ NB735_738.out _; (with_reducible repeat (first | refine blk_drewN ?_ _ | refine blk_drew ?_ | refine blk_alloc ?_ _)); refine blk_far ?_ NB735_738.out _; (with_reducible repeat (first | refine blk_drewN ?_ _ | refine blk_drew ?_ | refine blk_alloc ?_ _)); exact BK735.out⟩
            have n3_ : Aside0 (((w24.setCell ⟨gb738, 0, none⟩ (.int .i64 t736)).setCell ⟨gb738, 1, none⟩ (.int .i64 t737)).heap[gb738]? = some (.cells #[.int .i64 t736, .int .i64 t737] 26 (0, 0))) := ⟨by (with_reducible repeat (first | refine blk_drewN ?_ _ | refine blk_drew ?_ | refine blk_alloc ?_ _)); refine blk_put (cs := #[.int .i64 t736, .int .i64 0]) ?_ 1 _ rfl; (with_reducible repeat (first | refine blk_drewN ?_ _ | refine blk_drew ?_ | refine blk_alloc ?_ _)); refine blk_put (cs := #[.int .i64 0, .int .i64 0]) ?_ 0 _ rfl; (with_reducible repeat (first | refine blk_drewN ?_ _ | refine blk_drew ?_ | refine blk_alloc ?_ _)); exact BK738.out⟩
            have n4_ : Aside0 (Below w.heap.size w ((w24.setCell ⟨gb738, 0, none⟩ (.int .i64 t736)).setCell ⟨gb738, 1, none⟩ (.int .i64 t737))) := ⟨by repeat (first | (with_reducible first | exact HB.out | apply below_alloc | apply pw_below_drewN | apply below_drew1 | refine below_set ?_ GE731.out | refine below_set ?_ GE732.out | refine below_set ?_ GE735.out | refine below_set ?_ GE738.out) | exact HB.out)⟩
            (try clear BK731)
            (try clear BK732)
            (try clear BK735)
            (try clear BK738)
            (try clear HB)
            generalize ((w24.setCell ⟨gb738, 0, none⟩ (.int .i64 t736)).setCell ⟨gb738, 1, none⟩ (.int .i64 t737)) = w31 at n0_ n1_ n2_ n3_ n4_ ⊢
            have BK731 := n0_
            have BK732 := n1_
            have BK735 := n2_
            have BK738 := n3_
            have HB := n4_
            clear n0_ n1_ n2_ n3_ n4_
            have n0_ := Aside0.mk (blk_drew BK731.out)
            have n1_ := Aside0.mk (blk_drew BK732.out)
            have n2_ := Aside0.mk (blk_drew BK735.out)
            have n3_ := Aside0.mk (blk_drew BK738.out)
            have n4_ := Aside0.mk (below_drew1 HB.out)
            clear BK731
            clear BK732
            clear BK735
            clear BK738
            clear HB
            have BK731 := n0_
            have BK732 := n1_
            have BK735 := n2_
            have BK738 := n3_
            have HB := n4_
            clear n0_ n1_ n2_ n3_ n4_
            refine start_ (n := 15) (S := fun w' => w'.cell? ⟨gb738, 0, none⟩ = some (.int .i64 t736) ∧ w'.cell? ⟨gb738, 1, none⟩ = some (.int .i64 t737) ∧ w'.cell? ⟨gb731, 0, none⟩ = some (.int .i64 t727) ∧ w'.cell? ⟨gb731, 1, none⟩ = some (.int .i64 t728) ∧ w'.cell? ⟨gb732, 0, none⟩ = some (.int .i64 t729) ∧ w'.cell? ⟨gb732, 1, none⟩ = some (.int .i64 t730)) (ds := []) #[false, false, false, false, false, false, false, false, false, false, false, false, false, false, false] (by kernel_rfl) rfl rfl ⟨(blk_cell BK738.out 0).trans rfl, (blk_cell BK738.out 1).trans rfl, (blk_cell BK731.out 0).trans rfl, (blk_cell BK731.out 1).trans rfl, (blk_cell BK732.out 0).trans rfl, (blk_cell BK732.out 1).trans rfl⟩ (fun hHeld => ?_); refine with_tabW laws_FnLabelEither.tab6 laws_FnLabelEither.bits6 (fun HT_ HW_ => ?_)
            generalize w31.drew = w32 at BK731 BK732 BK735 BK738 HB hHeld ⊢
            refine take_ (i := 0) (N := some 27) (v := ?_) (a' := ?_) #[true, false, false, false, false, false, false, false, false, false, false, false, false, false, false] rfl rfl (take_ofW HT_.out HW_.out (by kernel_rfl)) (fun _ _ _ h => h) (Or.inl ⟨by rfl, ?_⟩) hHeld ?_ ?_
            rotate_left
            · rintro w' ⟨s0, s1, s2, s3, s4, s5⟩
              go_simp
              with_reducible rfl
            rotate_left
            · simp only [Act.put, List.setIfInBounds_toArray, List.set_cons_zero, List.set_cons_succ, i64_w, i32_w]
              rfl
            refine take_ (i := 1) (N := some 28) (v := ?_) (a' := ?_) #[true, true, false, false, false, false, false, false, false, false, false, false, false, false, false] rfl rfl (take_ofW HT_.out HW_.out (by kernel_rfl)) (fun _ _ _ h => h) (Or.inl ⟨by rfl, ?_⟩) hHeld ?_ ?_
            rotate_left
            · rintro w' ⟨s0, s1, s2, s3, s4, s5⟩
              go_simp
              with_reducible rfl
            rotate_left
            · simp only [Act.put, List.setIfInBounds_toArray, List.set_cons_zero, List.set_cons_succ, i64_w, i32_w]
              rfl
            refine take_ (i := 2) (N := some 29) (v := ?_) (a' := ?_) #[true, true, true, false, false, false, false, false, false, false, false, false, false, false, false] rfl rfl (take_ofW HT_.out HW_.out (by kernel_rfl)) (fun _ _ _ h => h) (Or.inl ⟨by rfl, ?_⟩) hHeld ?_ ?_
            rotate_left
            · rintro w' ⟨s0, s1, s2, s3, s4, s5⟩
              go_simp
              with_reducible rfl
            rotate_left
            · simp only [Act.put, List.setIfInBounds_toArray, List.set_cons_zero, List.set_cons_succ, i64_w, i32_w]
              rfl
            refine one_ (i := 3) (N := some 30) #[true, true, true, true, false, false, false, false, false, false, false, false, false, false, false] rfl rfl (one_of HT_.out (by kernel_rfl)) (by decide) (fun K hK => ?_)
            refine goes_ Try.func29 (by kernel_rfl) rfl #[.agg #[.int .i64 t727, .int .i64 t728], .agg #[.int .i64 t729, .int .i64 t730]] (by rfl) rfl rfl (by (try simp only [List.map_toArray, List.map_cons, List.map_nil]); first | done | rfl | (simp only [List.length_drop, List.length_take]; rfl)) ?_
            with_reducible refine (spec_LabelEither.calls kj2 t727 t728 t729 t730 t739 t740 _ A29.out).mono ?_
            rintro e w33 ⟨rfl, hb⟩
            refine ⟨_, rfl, ?_⟩
            have n0_ := Aside0.mk (blk_below (g := gb731) (o := .cells #[.int .i64 t727, .int .i64 t728] 26 (0, 0)) (by (with_reducible repeat (first | refine blk_drewN ?_ _ | refine blk_drew ?_ | refine blk_alloc ?_ _)); exact BK731.out) hb)
            have n1_ := Aside0.mk (blk_below (g := gb732) (o := .cells #[.int .i64 t729, .int .i64 t730] 26 (0, 0)) (by (with_reducible repeat (first | refine blk_drewN ?_ _ | refine blk_drew ?_ | refine blk_alloc ?_ _)); exact BK732.out) hb)
            have n2_ := Aside0.mk (blk_below (g := gb735) (o := .cells #[.int .i64 t733, .int .i64 t734] 26 (0, 0)) (by (with_reducible repeat (first | refine blk_drewN ?_ _ | refine blk_drew ?_ | refine blk_alloc ?_ _)); exact BK735.out) hb)
            have n3_ := Aside0.mk (blk_below (g := gb738) (o := .cells #[.int .i64 t736, .int .i64 t737] 26 (0, 0)) (by (with_reducible repeat (first | refine blk_drewN ?_ _ | refine blk_drew ?_ | refine blk_alloc ?_ _)); exact BK738.out) hb)
            have n4_ := Aside0.mk (below_step (by repeat (first | (with_reducible first | exact HB.out | apply below_alloc | apply pw_below_drewN | apply below_drew1 | refine below_set ?_ GE731.out | refine below_set ?_ GE732.out | refine below_set ?_ GE735.out | refine below_set ?_ GE738.out) | exact HB.out)) hb)
            clear BK731
            clear BK732
            clear BK735
            clear BK738
            clear HB
            have BK731 := n0_
            have BK732 := n1_
            have BK735 := n2_
            have BK738 := n3_
            have HB := n4_
            clear n0_ n1_ n2_ n3_ n4_
            (try clear hb)
            (try clear hb2)
            (try clear hk)
            (try clear hi)
            refine hK.out _ _ ⟨(blk_cell BK738.out 0).trans rfl, (blk_cell BK738.out 1).trans rfl, (blk_cell BK731.out 0).trans rfl, (blk_cell BK731.out 1).trans rfl, (blk_cell BK732.out 0).trans rfl, (blk_cell BK732.out 1).trans rfl⟩ (fun hHeld => ?_)
            clear hK K
            refine norm_ (a' := ?_) ?_ ?_
            rotate_left
            · show Act.put _ (some 30) _ = _
              simp only [Act.put, List.setIfInBounds_toArray, List.set_cons_zero, List.set_cons_succ, i64_w, i32_w]
              rfl
            refine pure_ (i := 4) (N := some 31) (v := ?_) (a' := ?_) #[true, true, true, true, true, false, false, false, false, false, false, false, false, false, false] rfl rfl (any_of HT_.out (by kernel_rfl)) (fun _ _ _ h => h) (Or.inl ⟨by rfl, ?_⟩) ?_ ?_
            rotate_left
            · intro w'
              go_simp
              with_reducible rfl
            rotate_left
            · simp only [Act.put, List.setIfInBounds_toArray, List.set_cons_zero, List.set_cons_succ, i64_w, i32_w]
              rfl
            refine pure_ (i := 5) (N := some 32) (v := ?_) (a' := ?_) #[true, true, true, true, true, true, false, false, false, false, false, false, false, false, false] rfl rfl (any_of HT_.out (by kernel_rfl)) (fun _ _ _ h => h) (Or.inl ⟨by rfl, ?_⟩) ?_ ?_
            rotate_left
            · intro w'
              go_simp
              with_reducible rfl
            rotate_left
            · simp only [Act.put, List.setIfInBounds_toArray, List.set_cons_zero, List.set_cons_succ, i64_w, i32_w]
              rfl
            refine pure_ (i := 6) (N := some 33) (v := undef) (a' := ?_) #[true, true, true, true, true, true, true, false, false, false, false, false, false, false, false] rfl rfl (any_of HT_.out (by kernel_rfl)) (fun _ _ _ h => h) (Or.inr ⟨by rfl, rfl⟩) ?_ ?_
            rotate_left
            · simp only [Act.put, List.setIfInBounds_toArray, List.set_cons_zero, List.set_cons_succ, i64_w, i32_w]
              rfl
            refine pure_ (i := 7) (N := some 34) (v := undef) (a' := ?_) #[true, true, true, true, true, true, true, true, false, false, false, false, false, false, false] rfl rfl (any_of HT_.out (by kernel_rfl)) (fun _ _ _ h => h) (Or.inr ⟨by rfl, rfl⟩) ?_ ?_
            rotate_left
            · simp only [Act.put, List.setIfInBounds_toArray, List.set_cons_zero, List.set_cons_succ, i64_w, i32_w]
              rfl
            refine pure_ (i := 8) (N := some 35) (v := undef) (a' := ?_) #[true, true, true, true, true, true, true, true, true, false, false, false, false, false, false] rfl rfl (any_of HT_.out (by kernel_rfl)) (fun _ _ _ h => h) (Or.inr ⟨by rfl, rfl⟩) ?_ ?_
            rotate_left
            · simp only [Act.put, List.setIfInBounds_toArray, List.set_cons_zero, List.set_cons_succ, i64_w, i32_w]
              rfl
            refine pure_ (i := 9) (N := some 36) (v := ?_) (a' := ?_) #[true, true, true, true, true, true, true, true, true, true, false, false, false, false, false] rfl rfl (any_of HT_.out (by kernel_rfl)) (fun _ _ _ h => h) (Or.inl ⟨by rfl, ?_⟩) ?_ ?_
            rotate_left
            · intro w'
              go_simp
              with_reducible rfl
            rotate_left
            · simp only [Act.put, List.setIfInBounds_toArray, List.set_cons_zero, List.set_cons_succ, i64_w, i32_w]
              rfl
            refine pure_ (i := 10) (N := some 37) (v := ?_) (a' := ?_) #[true, true, true, true, true, true, true, true, true, true, true, false, false, false, false] rfl rfl (any_of HT_.out (by kernel_rfl)) (fun _ _ _ h => h) (Or.inl ⟨by rfl, ?_⟩) ?_ ?_
            rotate_left
            · intro w'
              go_simp
              with_reducible rfl
            rotate_left
            · simp only [Act.put, List.setIfInBounds_toArray, List.set_cons_zero, List.set_cons_succ, i64_w, i32_w]
              rfl
            refine pure_ (i := 11) (N := some 38) (v := undef) (a' := ?_) #[true, true, true, true, true, true, true, true, true, true, true, true, false, false, false] rfl rfl (any_of HT_.out (by kernel_rfl)) (fun _ _ _ h => h) (Or.inr ⟨by rfl, rfl⟩) ?_ ?_
            rotate_left
            · simp only [Act.put, List.setIfInBounds_toArray, List.set_cons_zero, List.set_cons_succ, i64_w, i32_w]
              rfl
            refine pure_ (i := 12) (N := some 39) (v := undef) (a' := ?_) #[true, true, true, true, true, true, true, true, true, true, true, true, true, false, false] rfl rfl (any_of HT_.out (by kernel_rfl)) (fun _ _ _ h => h) (Or.inr ⟨by rfl, rfl⟩) ?_ ?_
            rotate_left
            · simp only [Act.put, List.setIfInBounds_toArray, List.set_cons_zero, List.set_cons_succ, i64_w, i32_w]
              rfl
            refine pure_ (i := 13) (N := some 40) (v := undef) (a' := ?_) #[true, true, true, true, true, true, true, true, true, true, true, true, true, true, false] rfl rfl (any_of HT_.out (by kernel_rfl)) (fun _ _ _ h => h) (Or.inr ⟨by rfl, rfl⟩) ?_ ?_
            rotate_left
            · simp only [Act.put, List.setIfInBounds_toArray, List.set_cons_zero, List.set_cons_succ, i64_w, i32_w]
              rfl
            refine pure_ (i := 14) (N := some 41) (v := ?_) (a' := ?_) #[true, true, true, true, true, true, true, true, true, true, true, true, true, true, true] rfl rfl (any_of HT_.out (by kernel_rfl)) (fun _ _ _ h => h) (Or.inl ⟨by rfl, ?_⟩) ?_ ?_
            rotate_left
            · intro w'
              go_simp
              with_reducible rfl
            rotate_left
            · simp only [Act.put, List.setIfInBounds_toArray, List.set_cons_zero, List.set_cons_succ, i64_w, i32_w]
              rfl
            refine done_ (done_of HT_.out (by kernel_rfl)) ?_
            try go_wp2
            go_meet
            case rel => exact ⟨_, (true), (by first | rfl | (simp; done) | (simp [*]; done)), H', ⟨by have := HJ2.out; first | omega | exact Nat.le_refl _⟩, ⟨by (with_reducible repeat (first | refine blk_drewN ?_ _ | refine blk_drew ?_ | refine blk_alloc ?_ _)); exact BK731.out⟩, ⟨by (with_reducible repeat (first | refine blk_drewN ?_ _ | refine blk_drew ?_ | refine blk_alloc ?_ _)); exact BK732.out⟩, ⟨by (with_reducible repeat (first | refine blk_drewN ?_ _ | refine blk_drew ?_ | refine blk_alloc ?_ _)); exact BK735.out⟩, ⟨by (with_reducible repeat (first | refine blk_drewN ?_ _ | refine blk_drew ?_ | refine blk_alloc ?_ _)); exact BK738.out⟩, ⟨by repeat (first | (with_reducible first | exact HB.out | apply below_alloc | apply pw_below_drewN | apply below_drew1 | refine below_set ?_ GE731.out | refine below_set ?_ GE732.out | refine below_set ?_ GE735.out | refine below_set ?_ GE738.out) | exact HB.out)⟩⟩
          · rw [if_neg c30] at H
            have c30b0 : (!(t736 == t739) || (!(t737 == t740))) = false := by simpa using c30
            clear c30
            (first | rw [c30b0] | (simp only [i64_w, i32_w]; rw [c30b0]) | skip)
            replace H := Option.bind_eq_some_iff.mp H
            obtain ⟨t741, A340, H⟩ := H
            replace H : (if t741 = true then ((spec_LabelOk.f t729 t730).bind fun t742 => (laws_FnLabelEither.j1 kj2 (!t742) t727 t728 t729 t730 t733 t734 t736 t737)) else (laws_FnLabelEither.j1 kj2 true t727 t728 t729 t730 t733 t734 t736 t737)) = some r := H
            have A34 := Aside0.mk A340
            clear A340
            by_cases c35 : t741 = true
            · subst c35
              have H1 : ((spec_LabelOk.f t729 t730).bind fun t742 => (laws_FnLabelEither.j1 kj2 (!t742) t727 t728 t729 t730 t733 t734 t736 t737)) = some r := by rw [if_pos rfl] at H; exact H
              clear H
              have H := H1
              clear H1
              replace H := Option.bind_eq_some_iff.mp H
              obtain ⟨t742, A360, H⟩ := H
              replace H : (laws_FnLabelEither.j1 kj2 (!t742) t727 t728 t729 t730 t733 t734 t736 t737) = some r := H
              have A36 := Aside0.mk A360
              clear A360
              have H' := Aside0.mk H
              clear H
              try go_wp2
              have n0_ : Aside0 (((w24.setCell ⟨gb738, 0, none⟩ (.int .i64 t736)).setCell ⟨gb738, 1, none⟩ (.int .i64 t737)).heap[gb731]? = some (.cells #[.int .i64 t727, .int .i64 t728] 26 (0, 0))) := ⟨by (with_reducible repeat (first | refine blk_drewN ?_ _ | refine blk_drew ?_ | refine blk_alloc ?_ _)); refine blk_far ?_ NB731_738.out _; (with_reducible repeat (first | refine blk_drewN ?_ _ | refine blk_drew ?_ | refine blk_alloc ?_ _)); refine blk_far ?_ NB731_738.out _; (with_reducible repeat (first | refine blk_drewN ?_ _ | refine blk_drew ?_ | refine blk_alloc ?_ _)); exact BK731.out⟩
              have n1_ : Aside0 (((w24.setCell ⟨gb738, 0, none⟩ (.int .i64 t736)).setCell ⟨gb738, 1, none⟩ (.int .i64 t737)).heap[gb732]? = some (.cells #[.int .i64 t729, .int .i64 t730] 26 (0, 0))) := ⟨by (with_reducible repeat (first | refine blk_drewN ?_ _ | refine blk_drew ?_ | refine blk_alloc ?_ _)); refine blk_far ?_ NB732_738.out _; (with_reducible repeat (first | refine blk_drewN ?_ _ | refine blk_drew ?_ | refine blk_alloc ?_ _)); refine blk_far ?_ NB732_738.out _; (with_reducible repeat (first | refine blk_drewN ?_ _ | refine blk_drew ?_ | refine blk_alloc ?_ _)); exact BK732.out⟩
              have n2_ : Aside0 (((w24.setCell ⟨gb738, 0, none⟩ (.int .i64 t736)).setCell ⟨gb738, 1, none⟩ (.int .i64 t737)).heap[gb735]? = some (.cells #[.int .i64 t733, .int .i64 t734] 26 (0, 0))) := ⟨by (with_reducible repeat (first | refine blk_drewN ?_ _ | refine blk_drew ?_ | refine blk_alloc ?_ _)); refine blk_far ?_ NB735_738.out _; (with_reducible repeat (first | refine blk_drewN ?_ _ | refine blk_drew ?_ | refine blk_alloc ?_ _)); refine blk_far ?_ NB735_738.out _; (with_reducible repeat (first | refine blk_drewN ?_ _ | refine blk_drew ?_ | refine blk_alloc ?_ _)); exact BK735.out⟩
              have n3_ : Aside0 (((w24.setCell ⟨gb738, 0, none⟩ (.int .i64 t736)).setCell ⟨gb738, 1, none⟩ (.int .i64 t737)).heap[gb738]? = some (.cells #[.int .i64 t736, .int .i64 t737] 26 (0, 0))) := ⟨by (with_reducible repeat (first | refine blk_drewN ?_ _ | refine blk_drew ?_ | refine blk_alloc ?_ _)); refine blk_put (cs := #[.int .i64 t736, .int .i64 0]) ?_ 1 _ rfl; (with_reducible repeat (first | refine blk_drewN ?_ _ | refine blk_drew ?_ | refine blk_alloc ?_ _)); refine blk_put (cs := #[.int .i64 0, .int .i64 0]) ?_ 0 _ rfl; (with_reducible repeat (first | refine blk_drewN ?_ _ | refine blk_drew ?_ | refine blk_alloc ?_ _)); exact BK738.out⟩
              have n4_ : Aside0 (Below w.heap.size w ((w24.setCell ⟨gb738, 0, none⟩ (.int .i64 t736)).setCell ⟨gb738, 1, none⟩ (.int .i64 t737))) := ⟨by repeat (first | (with_reducible first | exact HB.out | apply below_alloc | apply pw_below_drewN | apply below_drew1 | refine below_set ?_ GE731.out | refine below_set ?_ GE732.out | refine below_set ?_ GE735.out | refine below_set ?_ GE738.out) | exact HB.out)⟩
              (try clear BK731)
              (try clear BK732)
              (try clear BK735)
              (try clear BK738)
              (try clear HB)
              generalize ((w24.setCell ⟨gb738, 0, none⟩ (.int .i64 t736)).setCell ⟨gb738, 1, none⟩ (.int .i64 t737)) = w37 at n0_ n1_ n2_ n3_ n4_ ⊢
              have BK731 := n0_
              have BK732 := n1_
              have BK735 := n2_
              have BK738 := n3_
              have HB := n4_
              clear n0_ n1_ n2_ n3_ n4_
              have n0_ := Aside0.mk (blk_drew BK731.out)
              have n1_ := Aside0.mk (blk_drew BK732.out)
              have n2_ := Aside0.mk (blk_drew BK735.out)
              have n3_ := Aside0.mk (blk_drew BK738.out)
              have n4_ := Aside0.mk (below_drew1 HB.out)
              clear BK731
              clear BK732
              clear BK735
              clear BK738
              clear HB
              have BK731 := n0_
              have BK732 := n1_
              have BK735 := n2_
              have BK738 := n3_
              have HB := n4_
              clear n0_ n1_ n2_ n3_ n4_
              refine start_ (n := 15) (S := fun w' => w'.cell? ⟨gb738, 0, none⟩ = some (.int .i64 t736) ∧ w'.cell? ⟨gb738, 1, none⟩ = some (.int .i64 t737) ∧ w'.cell? ⟨gb731, 0, none⟩ = some (.int .i64 t727) ∧ w'.cell? ⟨gb731, 1, none⟩ = some (.int .i64 t728) ∧ w'.cell? ⟨gb732, 0, none⟩ = some (.int .i64 t729) ∧ w'.cell? ⟨gb732, 1, none⟩ = some (.int .i64 t730)) (ds := []) #[false, false, false, false, false, false, false, false, false, false, false, false, false, false, false] (by kernel_rfl) rfl rfl ⟨(blk_cell BK738.out 0).trans rfl, (blk_cell BK738.out 1).trans rfl, (blk_cell BK731.out 0).trans rfl, (blk_cell BK731.out 1).trans rfl, (blk_cell BK732.out 0).trans rfl, (blk_cell BK732.out 1).trans rfl⟩ (fun hHeld => ?_); refine with_tabW laws_FnLabelEither.tab6 laws_FnLabelEither.bits6 (fun HT_ HW_ => ?_)
              generalize w37.drew = w38 at BK731 BK732 BK735 BK738 HB hHeld ⊢
              refine take_ (i := 0) (N := some 27) (v := ?_) (a' := ?_) #[true, false, false, false, false, false, false, false, false, false, false, false, false, false, false] rfl rfl (take_ofW HT_.out HW_.out (by kernel_rfl)) (fun _ _ _ h => h) (Or.inl ⟨by rfl, ?_⟩) hHeld ?_ ?_
              rotate_left
              · rintro w' ⟨s0, s1, s2, s3, s4, s5⟩
                go_simp
                with_reducible rfl
              rotate_left
              · simp only [Act.put, List.setIfInBounds_toArray, List.set_cons_zero, List.set_cons_succ, i64_w, i32_w]
                rfl
              refine take_ (i := 1) (N := some 28) (v := ?_) (a' := ?_) #[true, true, false, false, false, false, false, false, false, false, false, false, false, false, false] rfl rfl (take_ofW HT_.out HW_.out (by kernel_rfl)) (fun _ _ _ h => h) (Or.inl ⟨by rfl, ?_⟩) hHeld ?_ ?_
              rotate_left
              · rintro w' ⟨s0, s1, s2, s3, s4, s5⟩
                go_simp
                with_reducible rfl
              rotate_left
              · simp only [Act.put, List.setIfInBounds_toArray, List.set_cons_zero, List.set_cons_succ, i64_w, i32_w]
                rfl
              refine take_ (i := 2) (N := some 29) (v := ?_) (a' := ?_) #[true, true, true, false, false, false, false, false, false, false, false, false, false, false, false] rfl rfl (take_ofW HT_.out HW_.out (by kernel_rfl)) (fun _ _ _ h => h) (Or.inl ⟨by rfl, ?_⟩) hHeld ?_ ?_
              rotate_left
              · rintro w' ⟨s0, s1, s2, s3, s4, s5⟩
                go_simp
                with_reducible rfl
              rotate_left
              · simp only [Act.put, List.setIfInBounds_toArray, List.set_cons_zero, List.set_cons_succ, i64_w, i32_w]
                rfl
              refine one_ (i := 3) (N := some 30) #[true, true, true, true, false, false, false, false, false, false, false, false, false, false, false] rfl rfl (one_of HT_.out (by kernel_rfl)) (by decide) (fun K hK => ?_)
              refine goes_ Try.func29 (by kernel_rfl) rfl #[.agg #[.int .i64 t727, .int .i64 t728], .agg #[.int .i64 t729, .int .i64 t730]] (by rfl) rfl rfl (by (try simp only [List.map_toArray, List.map_cons, List.map_nil]); first | done | rfl | (simp only [List.length_drop, List.length_take]; rfl)) ?_
              with_reducible refine (spec_LabelEither.calls kj2 t727 t728 t729 t730 t739 t740 _ A29.out).mono ?_
              rintro e w39 ⟨rfl, hb⟩
              refine ⟨_, rfl, ?_⟩
              have n0_ := Aside0.mk (blk_below (g := gb731) (o := .cells #[.int .i64 t727, .int .i64 t728] 26 (0, 0)) (by (with_reducible repeat (first | refine blk_drewN ?_ _ | refine blk_drew ?_ | refine blk_alloc ?_ _)); exact BK731.out) hb)
              have n1_ := Aside0.mk (blk_below (g := gb732) (o := .cells #[.int .i64 t729, .int .i64 t730] 26 (0, 0)) (by (with_reducible repeat (first | refine blk_drewN ?_ _ | refine blk_drew ?_ | refine blk_alloc ?_ _)); exact BK732.out) hb)
              have n2_ := Aside0.mk (blk_below (g := gb735) (o := .cells #[.int .i64 t733, .int .i64 t734] 26 (0, 0)) (by (with_reducible repeat (first | refine blk_drewN ?_ _ | refine blk_drew ?_ | refine blk_alloc ?_ _)); exact BK735.out) hb)
              have n3_ := Aside0.mk (blk_below (g := gb738) (o := .cells #[.int .i64 t736, .int .i64 t737] 26 (0, 0)) (by (with_reducible repeat (first | refine blk_drewN ?_ _ | refine blk_drew ?_ | refine blk_alloc ?_ _)); exact BK738.out) hb)
              have n4_ := Aside0.mk (below_step (by repeat (first | (with_reducible first | exact HB.out | apply below_alloc | apply pw_below_drewN | apply below_drew1 | refine below_set ?_ GE731.out | refine below_set ?_ GE732.out | refine below_set ?_ GE735.out | refine below_set ?_ GE738.out) | exact HB.out)) hb)
              clear BK731
              clear BK732
              clear BK735
              clear BK738
              clear HB
              have BK731 := n0_
              have BK732 := n1_
              have BK735 := n2_
              have BK738 := n3_
              have HB := n4_
              clear n0_ n1_ n2_ n3_ n4_
              (try clear hb)
              (try clear hb2)
              (try clear hk)
              (try clear hi)
              refine hK.out _ _ ⟨(blk_cell BK738.out 0).trans rfl, (blk_cell BK738.out 1).trans rfl, (blk_cell BK731.out 0).trans rfl, (blk_cell BK731.out 1).trans rfl, (blk_cell BK732.out 0).trans rfl, (blk_cell BK732.out 1).trans rfl⟩ (fun hHeld => ?_)
              clear hK K
              refine norm_ (a' := ?_) ?_ ?_
              rotate_left
              · show Act.put _ (some 30) _ = _
                simp only [Act.put, List.setIfInBounds_toArray, List.set_cons_zero, List.set_cons_succ, i64_w, i32_w]
                rfl
              refine pure_ (i := 4) (N := some 31) (v := ?_) (a' := ?_) #[true, true, true, true, true, false, false, false, false, false, false, false, false, false, false] rfl rfl (any_of HT_.out (by kernel_rfl)) (fun _ _ _ h => h) (Or.inl ⟨by rfl, ?_⟩) ?_ ?_
              rotate_left
              · intro w'
                go_simp
                with_reducible rfl
              rotate_left
              · simp only [Act.put, List.setIfInBounds_toArray, List.set_cons_zero, List.set_cons_succ, i64_w, i32_w]
                rfl
              refine pure_ (i := 5) (N := some 32) (v := ?_) (a' := ?_) #[true, true, true, true, true, true, false, false, false, false, false, false, false, false, false] rfl rfl (any_of HT_.out (by kernel_rfl)) (fun _ _ _ h => h) (Or.inl ⟨by rfl, ?_⟩) ?_ ?_
              rotate_left
              · intro w'
                go_simp
                with_reducible rfl
              rotate_left
              · simp only [Act.put, List.setIfInBounds_toArray, List.set_cons_zero, List.set_cons_succ, i64_w, i32_w]
                rfl
              refine take_ (i := 6) (N := some 33) (v := ?_) (a' := ?_) #[true, true, true, true, true, true, true, false, false, false, false, false, false, false, false] rfl rfl (take_ofW HT_.out HW_.out (by kernel_rfl)) (fun _ _ _ h => h) (Or.inl ⟨by rfl, ?_⟩) hHeld ?_ ?_
              rotate_left
              · rintro w' ⟨s0, s1, s2, s3, s4, s5⟩
                go_simp
                with_reducible rfl
              rotate_left
              · simp only [Act.put, List.setIfInBounds_toArray, List.set_cons_zero, List.set_cons_succ, i64_w, i32_w]
                rfl
              refine one_ (i := 7) (N := some 34) #[true, true, true, true, true, true, true, true, false, false, false, false, false, false, false] rfl rfl (one_of HT_.out (by kernel_rfl)) (by decide) (fun K hK => ?_)
              refine goes_ Try.func21 (by kernel_rfl) rfl #[.agg #[.int .i64 t727, .int .i64 t728]] (by rfl) rfl rfl (by (try simp only [List.map_toArray, List.map_cons, List.map_nil]); first | done | rfl | (simp only [List.length_drop, List.length_take]; rfl)) ?_
              with_reducible refine (spec_LabelOk.calls t727 t728 true _ A34.out).mono ?_
              rintro e w40 ⟨rfl, hb⟩
              refine ⟨_, rfl, ?_⟩
              have n0_ := Aside0.mk (blk_below (g := gb731) (o := .cells #[.int .i64 t727, .int .i64 t728] 26 (0, 0)) (by (with_reducible repeat (first | refine blk_drewN ?_ _ | refine blk_drew ?_ | refine blk_alloc ?_ _)); exact BK731.out) hb)
              have n1_ := Aside0.mk (blk_below (g := gb732) (o := .cells #[.int .i64 t729, .int .i64 t730] 26 (0, 0)) (by (with_reducible repeat (first | refine blk_drewN ?_ _ | refine blk_drew ?_ | refine blk_alloc ?_ _)); exact BK732.out) hb)
              have n2_ := Aside0.mk (blk_below (g := gb735) (o := .cells #[.int .i64 t733, .int .i64 t734] 26 (0, 0)) (by (with_reducible repeat (first | refine blk_drewN ?_ _ | refine blk_drew ?_ | refine blk_alloc ?_ _)); exact BK735.out) hb)
              have n3_ := Aside0.mk (blk_below (g := gb738) (o := .cells #[.int .i64 t736, .int .i64 t737] 26 (0, 0)) (by (with_reducible repeat (first | refine blk_drewN ?_ _ | refine blk_drew ?_ | refine blk_alloc ?_ _)); exact BK738.out) hb)
              have n4_ := Aside0.mk (below_step (by repeat (first | (with_reducible first | exact HB.out | apply below_alloc | apply pw_below_drewN | apply below_drew1 | refine below_set ?_ GE731.out | refine below_set ?_ GE732.out | refine below_set ?_ GE735.out | refine below_set ?_ GE738.out) | exact HB.out)) hb)
              clear BK731
              clear BK732
              clear BK735
              clear BK738
              clear HB
              have BK731 := n0_
              have BK732 := n1_
              have BK735 := n2_
              have BK738 := n3_
              have HB := n4_
              clear n0_ n1_ n2_ n3_ n4_
              (try clear hb)
              (try clear hb2)
              (try clear hk)
              (try clear hi)
              refine hK.out _ _ ⟨(blk_cell BK738.out 0).trans rfl, (blk_cell BK738.out 1).trans rfl, (blk_cell BK731.out 0).trans rfl, (blk_cell BK731.out 1).trans rfl, (blk_cell BK732.out 0).trans rfl, (blk_cell BK732.out 1).trans rfl⟩ (fun hHeld => ?_)
              clear hK K
              refine norm_ (a' := ?_) ?_ ?_
              rotate_left
              · show Act.put _ (some 34) _ = _
                simp only [Act.put, List.setIfInBounds_toArray, List.set_cons_zero, List.set_cons_succ, i64_w, i32_w]
                rfl
              refine pure_ (i := 8) (N := some 35) (v := ?_) (a' := ?_) #[true, true, true, true, true, true, true, true, true, false, false, false, false, false, false] rfl rfl (any_of HT_.out (by kernel_rfl)) (fun _ _ _ h => h) (Or.inl ⟨by rfl, ?_⟩) ?_ ?_
              rotate_left
              · intro w'
                go_simp
                with_reducible rfl
              rotate_left
              · simp only [Act.put, List.setIfInBounds_toArray, List.set_cons_zero, List.set_cons_succ, i64_w, i32_w]
                rfl
              refine pure_ (i := 9) (N := some 36) (v := ?_) (a' := ?_) #[true, true, true, true, true, true, true, true, true, true, false, false, false, false, false] rfl rfl (any_of HT_.out (by kernel_rfl)) (fun _ _ _ h => h) (Or.inl ⟨by rfl, ?_⟩) ?_ ?_
              rotate_left
              · intro w'
                go_simp
                with_reducible rfl
              rotate_left
              · simp only [Act.put, List.setIfInBounds_toArray, List.set_cons_zero, List.set_cons_succ, i64_w, i32_w]
                rfl
              refine pure_ (i := 10) (N := some 37) (v := ?_) (a' := ?_) #[true, true, true, true, true, true, true, true, true, true, true, false, false, false, false] rfl rfl (any_of HT_.out (by kernel_rfl)) (fun _ _ _ h => h) (Or.inl ⟨by rfl, ?_⟩) ?_ ?_
              rotate_left
              · intro w'
                go_simp
                with_reducible rfl
              rotate_left
              · simp only [Act.put, List.setIfInBounds_toArray, List.set_cons_zero, List.set_cons_succ, i64_w, i32_w]
                rfl
              refine take_ (i := 11) (N := some 38) (v := ?_) (a' := ?_) #[true, true, true, true, true, true, true, true, true, true, true, true, false, false, false] rfl rfl (take_ofW HT_.out HW_.out (by kernel_rfl)) (fun _ _ _ h => h) (Or.inl ⟨by rfl, ?_⟩) hHeld ?_ ?_
              rotate_left
              · rintro w' ⟨s0, s1, s2, s3, s4, s5⟩
                go_simp
                with_reducible rfl
              rotate_left
              · simp only [Act.put, List.setIfInBounds_toArray, List.set_cons_zero, List.set_cons_succ, i64_w, i32_w]
                rfl
              refine one_ (i := 12) (N := some 39) #[true, true, true, true, true, true, true, true, true, true, true, true, true, false, false] rfl rfl (one_of HT_.out (by kernel_rfl)) (by decide) (fun K hK => ?_)
              refine goes_ Try.func21 (by kernel_rfl) rfl #[.agg #[.int .i64 t729, .int .i64 t730]] (by rfl) rfl rfl (by (try simp only [List.map_toArray, List.map_cons, List.map_nil]); first | done | rfl | (simp only [List.length_drop, List.length_take]; rfl)) ?_
              with_reducible refine (spec_LabelOk.calls t729 t730 t742 _ A36.out).mono ?_
              rintro e w41 ⟨rfl, hb⟩
              refine ⟨_, rfl, ?_⟩
              have n0_ := Aside0.mk (blk_below (g := gb731) (o := .cells #[.int .i64 t727, .int .i64 t728] 26 (0, 0)) (by (with_reducible repeat (first | refine blk_drewN ?_ _ | refine blk_drew ?_ | refine blk_alloc ?_ _)); exact BK731.out) hb)
              have n1_ := Aside0.mk (blk_below (g := gb732) (o := .cells #[.int .i64 t729, .int .i64 t730] 26 (0, 0)) (by (with_reducible repeat (first | refine blk_drewN ?_ _ | refine blk_drew ?_ | refine blk_alloc ?_ _)); exact BK732.out) hb)
              have n2_ := Aside0.mk (blk_below (g := gb735) (o := .cells #[.int .i64 t733, .int .i64 t734] 26 (0, 0)) (by (with_reducible repeat (first | refine blk_drewN ?_ _ | refine blk_drew ?_ | refine blk_alloc ?_ _)); exact BK735.out) hb)
              have n3_ := Aside0.mk (blk_below (g := gb738) (o := .cells #[.int .i64 t736, .int .i64 t737] 26 (0, 0)) (by (with_reducible repeat (first | refine blk_drewN ?_ _ | refine blk_drew ?_ | refine blk_alloc ?_ _)); exact BK738.out) hb)
              have n4_ := Aside0.mk (below_step (by repeat (first | (with_reducible first | exact HB.out | apply below_alloc | apply pw_below_drewN | apply below_drew1 | refine below_set ?_ GE731.out | refine below_set ?_ GE732.out | refine below_set ?_ GE735.out | refine below_set ?_ GE738.out) | exact HB.out)) hb)
              clear BK731
              clear BK732
              clear BK735
              clear BK738
              clear HB
              have BK731 := n0_
              have BK732 := n1_
              have BK735 := n2_
              have BK738 := n3_
              have HB := n4_
              clear n0_ n1_ n2_ n3_ n4_
              (try clear hb)
              (try clear hb2)
              (try clear hk)
              (try clear hi)
              refine hK.out _ _ ⟨(blk_cell BK738.out 0).trans rfl, (blk_cell BK738.out 1).trans rfl, (blk_cell BK731.out 0).trans rfl, (blk_cell BK731.out 1).trans rfl, (blk_cell BK732.out 0).trans rfl, (blk_cell BK732.out 1).trans rfl⟩ (fun hHeld => ?_)
              clear hK K
              refine norm_ (a' := ?_) ?_ ?_
              rotate_left
              · show Act.put _ (some 39) _ = _
                simp only [Act.put, List.setIfInBounds_toArray, List.set_cons_zero, List.set_cons_succ, i64_w, i32_w]
                rfl
              refine pure_ (i := 13) (N := some 40) (v := ?_) (a' := ?_) #[true, true, true, true, true, true, true, true, true, true, true, true, true, true, false] rfl rfl (any_of HT_.out (by kernel_rfl)) (fun _ _ _ h => h) (Or.inl ⟨by rfl, ?_⟩) ?_ ?_
              rotate_left
              · intro w'
                go_simp
                with_reducible rfl
              rotate_left
              · simp only [Act.put, List.setIfInBounds_toArray, List.set_cons_zero, List.set_cons_succ, i64_w, i32_w]
                rfl
              refine pure_ (i := 14) (N := some 41) (v := ?_) (a' := ?_) #[true, true, true, true, true, true, true, true, true, true, true, true, true, true, true] rfl rfl (any_of HT_.out (by kernel_rfl)) (fun _ _ _ h => h) (Or.inl ⟨by rfl, ?_⟩) ?_ ?_
              rotate_left
              · intro w'
                go_simp
                with_reducible rfl
              rotate_left
              · simp only [Act.put, List.setIfInBounds_toArray, List.set_cons_zero, List.set_cons_succ, i64_w, i32_w]
                rfl
              refine done_ (done_of HT_.out (by kernel_rfl)) ?_
              try go_wp2
              go_meet
              case rel => exact ⟨_, (!t742), (by first | rfl | (simp; done) | (simp [*]; done)), H', ⟨by have := HJ2.out; first | omega | exact Nat.le_refl _⟩, ⟨by (with_reducible repeat (first | refine blk_drewN ?_ _ | refine blk_drew ?_ | refine blk_alloc ?_ _)); exact BK731.out⟩, ⟨by (with_reducible repeat (first | refine blk_drewN ?_ _ | refine blk_drew ?_ | refine blk_alloc ?_ _)); exact BK732.out⟩, ⟨by (with_reducible repeat (first | refine blk_drewN ?_ _ | refine blk_drew ?_ | refine blk_alloc ?_ _)); exact BK735.out⟩, ⟨by (with_reducible repeat (first | refine blk_drewN ?_ _ | refine blk_drew ?_ | refine blk_alloc ?_ _)); exact BK738.out⟩, ⟨by repeat (first | (with_reducible first | exact HB.out | apply below_alloc | apply pw_below_drewN | apply below_drew1 | refine below_set ?_ GE731.out | refine below_set ?_ GE732.out | refine below_set ?_ GE735.out | refine below_set ?_ GE738.out) | exact HB.out)⟩⟩
            · replace c35 := Bool.eq_false_iff.mpr c35
              subst c35
              have H1 : (laws_FnLabelEither.j1 kj2 true t727 t728 t729 t730 t733 t734 t736 t737) = some r := by rw [if_neg (show ¬ (false = true) by decide)] at H; exact H
              clear H
              have H := H1
              clear H1
              have H' := Aside0.mk H
              clear H
              try go_wp2
              have n0_ : Aside0 (((w24.setCell ⟨gb738, 0, none⟩ (.int .i64 t736)).setCell ⟨gb738, 1, none⟩ (.int .i64 t737)).heap[gb731]? = some (.cells #[.int .i64 t727, .int .i64 t728] 26 (0, 0))) := ⟨by (with_reducible repeat (first | refine blk_drewN ?_ _ | refine blk_drew ?_ | refine blk_alloc ?_ _)); refine blk_far ?_ NB731_738.out _; (with_reducible repeat (first | refine blk_drewN ?_ _ | refine blk_drew ?_ | refine blk_alloc ?_ _)); refine blk_far ?_ NB731_738.out _; (with_reducible repeat (first | refine blk_drewN ?_ _ | refine blk_drew ?_ | refine blk_alloc ?_ _)); exact BK731.out⟩
              have n1_ : Aside0 (((w24.setCell ⟨gb738, 0, none⟩ (.int .i64 t736)).setCell ⟨gb738, 1, none⟩ (.int .i64 t737)).heap[gb732]? = some (.cells #[.int .i64 t729, .int .i64 t730] 26 (0, 0))) := ⟨by (with_reducible repeat (first | refine blk_drewN ?_ _ | refine blk_drew ?_ | refine blk_alloc ?_ _)); refine blk_far ?_ NB732_738.out _; (with_reducible repeat (first | refine blk_drewN ?_ _ | refine blk_drew ?_ | refine blk_alloc ?_ _)); refine blk_far ?_ NB732_738.out _; (with_reducible repeat (first | refine blk_drewN ?_ _ | refine blk_drew ?_ | refine blk_alloc ?_ _)); exact BK732.out⟩
              have n2_ : Aside0 (((w24.setCell ⟨gb738, 0, none⟩ (.int .i64 t736)).setCell ⟨gb738, 1, none⟩ (.int .i64 t737)).heap[gb735]? = some (.cells #[.int .i64 t733, .int .i64 t734] 26 (0, 0))) := ⟨by (with_reducible repeat (first | refine blk_drewN ?_ _ | refine blk_drew ?_ | refine blk_alloc ?_ _)); refine blk_far ?_ NB735_738.out _; (with_reducible repeat (first | refine blk_drewN ?_ _ | refine blk_drew ?_ | refine blk_alloc ?_ _)); refine blk_far ?_ NB735_738.out _; (with_reducible repeat (first | refine blk_drewN ?_ _ | refine blk_drew ?_ | refine blk_alloc ?_ _)); exact BK735.out⟩
              have n3_ : Aside0 (((w24.setCell ⟨gb738, 0, none⟩ (.int .i64 t736)).setCell ⟨gb738, 1, none⟩ (.int .i64 t737)).heap[gb738]? = some (.cells #[.int .i64 t736, .int .i64 t737] 26 (0, 0))) := ⟨by (with_reducible repeat (first | refine blk_drewN ?_ _ | refine blk_drew ?_ | refine blk_alloc ?_ _)); refine blk_put (cs := #[.int .i64 t736, .int .i64 0]) ?_ 1 _ rfl; (with_reducible repeat (first | refine blk_drewN ?_ _ | refine blk_drew ?_ | refine blk_alloc ?_ _)); refine blk_put (cs := #[.int .i64 0, .int .i64 0]) ?_ 0 _ rfl; (with_reducible repeat (first | refine blk_drewN ?_ _ | refine blk_drew ?_ | refine blk_alloc ?_ _)); exact BK738.out⟩
              have n4_ : Aside0 (Below w.heap.size w ((w24.setCell ⟨gb738, 0, none⟩ (.int .i64 t736)).setCell ⟨gb738, 1, none⟩ (.int .i64 t737))) := ⟨by repeat (first | (with_reducible first | exact HB.out | apply below_alloc | apply pw_below_drewN | apply below_drew1 | refine below_set ?_ GE731.out | refine below_set ?_ GE732.out | refine below_set ?_ GE735.out | refine below_set ?_ GE738.out) | exact HB.out)⟩
              (try clear BK731)
              (try clear BK732)
              (try clear BK735)
              (try clear BK738)
              (try clear HB)
              generalize ((w24.setCell ⟨gb738, 0, none⟩ (.int .i64 t736)).setCell ⟨gb738, 1, none⟩ (.int .i64 t737)) = w42 at n0_ n1_ n2_ n3_ n4_ ⊢
              have BK731 := n0_
              have BK732 := n1_
              have BK735 := n2_
              have BK738 := n3_
              have HB := n4_
              clear n0_ n1_ n2_ n3_ n4_
              have n0_ := Aside0.mk (blk_drew BK731.out)
              have n1_ := Aside0.mk (blk_drew BK732.out)
              have n2_ := Aside0.mk (blk_drew BK735.out)
              have n3_ := Aside0.mk (blk_drew BK738.out)
              have n4_ := Aside0.mk (below_drew1 HB.out)
              clear BK731
              clear BK732
              clear BK735
              clear BK738
              clear HB
              have BK731 := n0_
              have BK732 := n1_
              have BK735 := n2_
              have BK738 := n3_
              have HB := n4_
              clear n0_ n1_ n2_ n3_ n4_
              refine start_ (n := 15) (S := fun w' => w'.cell? ⟨gb738, 0, none⟩ = some (.int .i64 t736) ∧ w'.cell? ⟨gb738, 1, none⟩ = some (.int .i64 t737) ∧ w'.cell? ⟨gb731, 0, none⟩ = some (.int .i64 t727) ∧ w'.cell? ⟨gb731, 1, none⟩ = some (.int .i64 t728) ∧ w'.cell? ⟨gb732, 0, none⟩ = some (.int .i64 t729) ∧ w'.cell? ⟨gb732, 1, none⟩ = some (.int .i64 t730)) (ds := []) #[false, false, false, false, false, false, false, false, false, false, false, false, false, false, false] (by kernel_rfl) rfl rfl ⟨(blk_cell BK738.out 0).trans rfl, (blk_cell BK738.out 1).trans rfl, (blk_cell BK731.out 0).trans rfl, (blk_cell BK731.out 1).trans rfl, (blk_cell BK732.out 0).trans rfl, (blk_cell BK732.out 1).trans rfl⟩ (fun hHeld => ?_); refine with_tabW laws_FnLabelEither.tab6 laws_FnLabelEither.bits6 (fun HT_ HW_ => ?_)
              generalize w42.drew = w43 at BK731 BK732 BK735 BK738 HB hHeld ⊢
              refine take_ (i := 0) (N := some 27) (v := ?_) (a' := ?_) #[true, false, false, false, false, false, false, false, false, false, false, false, false, false, false] rfl rfl (take_ofW HT_.out HW_.out (by kernel_rfl)) (fun _ _ _ h => h) (Or.inl ⟨by rfl, ?_⟩) hHeld ?_ ?_
              rotate_left
              · rintro w' ⟨s0, s1, s2, s3, s4, s5⟩
                go_simp
                with_reducible rfl
              rotate_left
              · simp only [Act.put, List.setIfInBounds_toArray, List.set_cons_zero, List.set_cons_succ, i64_w, i32_w]
                rfl
              refine take_ (i := 1) (N := some 28) (v := ?_) (a' := ?_) #[true, true, false, false, false, false, false, false, false, false, false, false, false, false, false] rfl rfl (take_ofW HT_.out HW_.out (by kernel_rfl)) (fun _ _ _ h => h) (Or.inl ⟨by rfl, ?_⟩) hHeld ?_ ?_
              rotate_left
              · rintro w' ⟨s0, s1, s2, s3, s4, s5⟩
                go_simp
                with_reducible rfl
              rotate_left
              · simp only [Act.put, List.setIfInBounds_toArray, List.set_cons_zero, List.set_cons_succ, i64_w, i32_w]
                rfl
              refine take_ (i := 2) (N := some 29) (v := ?_) (a' := ?_) #[true, true, true, false, false, false, false, false, false, false, false, false, false, false, false] rfl rfl (take_ofW HT_.out HW_.out (by kernel_rfl)) (fun _ _ _ h => h) (Or.inl ⟨by rfl, ?_⟩) hHeld ?_ ?_
              rotate_left
              · rintro w' ⟨s0, s1, s2, s3, s4, s5⟩
                go_simp
                with_reducible rfl
              rotate_left
              · simp only [Act.put, List.setIfInBounds_toArray, List.set_cons_zero, List.set_cons_succ, i64_w, i32_w]
                rfl
              refine one_ (i := 3) (N := some 30) #[true, true, true, true, false, false, false, false, false, false, false, false, false, false, false] rfl rfl (one_of HT_.out (by kernel_rfl)) (by decide) (fun K hK => ?_)
              refine goes_ Try.func29 (by kernel_rfl) rfl #[.agg #[.int .i64 t727, .int .i64 t728], .agg #[.int .i64 t729, .int .i64 t730]] (by rfl) rfl rfl (by (try simp only [List.map_toArray, List.map_cons, List.map_nil]); first | done | rfl | (simp only [List.length_drop, List.length_take]; rfl)) ?_
              with_reducible refine (spec_LabelEither.calls kj2 t727 t728 t729 t730 t739 t740 _ A29.out).mono ?_
              rintro e w44 ⟨rfl, hb⟩
              refine ⟨_, rfl, ?_⟩
              have n0_ := Aside0.mk (blk_below (g := gb731) (o := .cells #[.int .i64 t727, .int .i64 t728] 26 (0, 0)) (by (with_reducible repeat (first | refine blk_drewN ?_ _ | refine blk_drew ?_ | refine blk_alloc ?_ _)); exact BK731.out) hb)
              have n1_ := Aside0.mk (blk_below (g := gb732) (o := .cells #[.int .i64 t729, .int .i64 t730] 26 (0, 0)) (by (with_reducible repeat (first | refine blk_drewN ?_ _ | refine blk_drew ?_ | refine blk_alloc ?_ _)); exact BK732.out) hb)
              have n2_ := Aside0.mk (blk_below (g := gb735) (o := .cells #[.int .i64 t733, .int .i64 t734] 26 (0, 0)) (by (with_reducible repeat (first | refine blk_drewN ?_ _ | refine blk_drew ?_ | refine blk_alloc ?_ _)); exact BK735.out) hb)
              have n3_ := Aside0.mk (blk_below (g := gb738) (o := .cells #[.int .i64 t736, .int .i64 t737] 26 (0, 0)) (by (with_reducible repeat (first | refine blk_drewN ?_ _ | refine blk_drew ?_ | refine blk_alloc ?_ _)); exact BK738.out) hb)
              have n4_ := Aside0.mk (below_step (by repeat (first | (with_reducible first | exact HB.out | apply below_alloc | apply pw_below_drewN | apply below_drew1 | refine below_set ?_ GE731.out | refine below_set ?_ GE732.out | refine below_set ?_ GE735.out | refine below_set ?_ GE738.out) | exact HB.out)) hb)
              clear BK731
              clear BK732
              clear BK735
              clear BK738
              clear HB
              have BK731 := n0_
              have BK732 := n1_
              have BK735 := n2_
              have BK738 := n3_
              have HB := n4_
              clear n0_ n1_ n2_ n3_ n4_
              (try clear hb)
              (try clear hb2)
              (try clear hk)
              (try clear hi)
              refine hK.out _ _ ⟨(blk_cell BK738.out 0).trans rfl, (blk_cell BK738.out 1).trans rfl, (blk_cell BK731.out 0).trans rfl, (blk_cell BK731.out 1).trans rfl, (blk_cell BK732.out 0).trans rfl, (blk_cell BK732.out 1).trans rfl⟩ (fun hHeld => ?_)
              clear hK K
              refine norm_ (a' := ?_) ?_ ?_
              rotate_left
              · show Act.put _ (some 30) _ = _
                simp only [Act.put, List.setIfInBounds_toArray, List.set_cons_zero, List.set_cons_succ, i64_w, i32_w]
                rfl
              refine pure_ (i := 4) (N := some 31) (v := ?_) (a' := ?_) #[true, true, true, true, true, false, false, false, false, false, false, false, false, false, false] rfl rfl (any_of HT_.out (by kernel_rfl)) (fun _ _ _ h => h) (Or.inl ⟨by rfl, ?_⟩) ?_ ?_
              rotate_left
              · intro w'
                go_simp
                with_reducible rfl
              rotate_left
              · simp only [Act.put, List.setIfInBounds_toArray, List.set_cons_zero, List.set_cons_succ, i64_w, i32_w]
                rfl
              refine pure_ (i := 5) (N := some 32) (v := ?_) (a' := ?_) #[true, true, true, true, true, true, false, false, false, false, false, false, false, false, false] rfl rfl (any_of HT_.out (by kernel_rfl)) (fun _ _ _ h => h) (Or.inl ⟨by rfl, ?_⟩) ?_ ?_
              rotate_left
              · intro w'
                go_simp
                with_reducible rfl
              rotate_left
              · simp only [Act.put, List.setIfInBounds_toArray, List.set_cons_zero, List.set_cons_succ, i64_w, i32_w]
                rfl
              refine take_ (i := 6) (N := some 33) (v := ?_) (a' := ?_) #[true, true, true, true, true, true, true, false, false, false, false, false, false, false, false] rfl rfl (take_ofW HT_.out HW_.out (by kernel_rfl)) (fun _ _ _ h => h) (Or.inl ⟨by rfl, ?_⟩) hHeld ?_ ?_
              rotate_left
              · rintro w' ⟨s0, s1, s2, s3, s4, s5⟩
                go_simp
                with_reducible rfl
              rotate_left
              · simp only [Act.put, List.setIfInBounds_toArray, List.set_cons_zero, List.set_cons_succ, i64_w, i32_w]
                rfl
              refine one_ (i := 7) (N := some 34) #[true, true, true, true, true, true, true, true, false, false, false, false, false, false, false] rfl rfl (one_of HT_.out (by kernel_rfl)) (by decide) (fun K hK => ?_)
              refine goes_ Try.func21 (by kernel_rfl) rfl #[.agg #[.int .i64 t727, .int .i64 t728]] (by rfl) rfl rfl (by (try simp only [List.map_toArray, List.map_cons, List.map_nil]); first | done | rfl | (simp only [List.length_drop, List.length_take]; rfl)) ?_
              with_reducible refine (spec_LabelOk.calls t727 t728 false _ A34.out).mono ?_
              rintro e w45 ⟨rfl, hb⟩
              refine ⟨_, rfl, ?_⟩
              have n0_ := Aside0.mk (blk_below (g := gb731) (o := .cells #[.int .i64 t727, .int .i64 t728] 26 (0, 0)) (by (with_reducible repeat (first | refine blk_drewN ?_ _ | refine blk_drew ?_ | refine blk_alloc ?_ _)); exact BK731.out) hb)
              have n1_ := Aside0.mk (blk_below (g := gb732) (o := .cells #[.int .i64 t729, .int .i64 t730] 26 (0, 0)) (by (with_reducible repeat (first | refine blk_drewN ?_ _ | refine blk_drew ?_ | refine blk_alloc ?_ _)); exact BK732.out) hb)
              have n2_ := Aside0.mk (blk_below (g := gb735) (o := .cells #[.int .i64 t733, .int .i64 t734] 26 (0, 0)) (by (with_reducible repeat (first | refine blk_drewN ?_ _ | refine blk_drew ?_ | refine blk_alloc ?_ _)); exact BK735.out) hb)
              have n3_ := Aside0.mk (blk_below (g := gb738) (o := .cells #[.int .i64 t736, .int .i64 t737] 26 (0, 0)) (by (with_reducible repeat (first | refine blk_drewN ?_ _ | refine blk_drew ?_ | refine blk_alloc ?_ _)); exact BK738.out) hb)
              have n4_ := Aside0.mk (below_step (by repeat (first | (with_reducible first | exact HB.out | apply below_alloc | apply pw_below_drewN | apply below_drew1 | refine below_set ?_ GE731.out | refine below_set ?_ GE732.out | refine below_set ?_ GE735.out | refine below_set ?_ GE738.out) | exact HB.out)) hb)
              clear BK731
              clear BK732
              clear BK735
              clear BK738
              clear HB
              have BK731 := n0_
              have BK732 := n1_
              have BK735 := n2_
              have BK738 := n3_
              have HB := n4_
              clear n0_ n1_ n2_ n3_ n4_
              (try clear hb)
              (try clear hb2)
              (try clear hk)
              (try clear hi)
              refine hK.out _ _ ⟨(blk_cell BK738.out 0).trans rfl, (blk_cell BK738.out 1).trans rfl, (blk_cell BK731.out 0).trans rfl, (blk_cell BK731.out 1).trans rfl, (blk_cell BK732.out 0).trans rfl, (blk_cell BK732.out 1).trans rfl⟩ (fun hHeld => ?_)
              clear hK K
              refine norm_ (a' := ?_) ?_ ?_
              rotate_left
              · show Act.put _ (some 34) _ = _
                simp only [Act.put, List.setIfInBounds_toArray, List.set_cons_zero, List.set_cons_succ, i64_w, i32_w]
                rfl
              refine pure_ (i := 8) (N := some 35) (v := ?_) (a' := ?_) #[true, true, true, true, true, true, true, true, true, false, false, false, false, false, false] rfl rfl (any_of HT_.out (by kernel_rfl)) (fun _ _ _ h => h) (Or.inl ⟨by rfl, ?_⟩) ?_ ?_
              rotate_left
              · intro w'
                go_simp
                with_reducible rfl
              rotate_left
              · simp only [Act.put, List.setIfInBounds_toArray, List.set_cons_zero, List.set_cons_succ, i64_w, i32_w]
                rfl
              refine pure_ (i := 9) (N := some 36) (v := ?_) (a' := ?_) #[true, true, true, true, true, true, true, true, true, true, false, false, false, false, false] rfl rfl (any_of HT_.out (by kernel_rfl)) (fun _ _ _ h => h) (Or.inl ⟨by rfl, ?_⟩) ?_ ?_
              rotate_left
              · intro w'
                go_simp
                with_reducible rfl
              rotate_left
              · simp only [Act.put, List.setIfInBounds_toArray, List.set_cons_zero, List.set_cons_succ, i64_w, i32_w]
                rfl
              refine pure_ (i := 10) (N := some 37) (v := ?_) (a' := ?_) #[true, true, true, true, true, true, true, true, true, true, true, false, false, false, false] rfl rfl (any_of HT_.out (by kernel_rfl)) (fun _ _ _ h => h) (Or.inl ⟨by rfl, ?_⟩) ?_ ?_
              rotate_left
              · intro w'
                go_simp
                with_reducible rfl
              rotate_left
              · simp only [Act.put, List.setIfInBounds_toArray, List.set_cons_zero, List.set_cons_succ, i64_w, i32_w]
                rfl
              refine pure_ (i := 11) (N := some 38) (v := undef) (a' := ?_) #[true, true, true, true, true, true, true, true, true, true, true, true, false, false, false] rfl rfl (any_of HT_.out (by kernel_rfl)) (fun _ _ _ h => h) (Or.inr ⟨by rfl, rfl⟩) ?_ ?_
              rotate_left
              · simp only [Act.put, List.setIfInBounds_toArray, List.set_cons_zero, List.set_cons_succ, i64_w, i32_w]
                rfl
              refine pure_ (i := 12) (N := some 39) (v := undef) (a' := ?_) #[true, true, true, true, true, true, true, true, true, true, true, true, true, false, false] rfl rfl (any_of HT_.out (by kernel_rfl)) (fun _ _ _ h => h) (Or.inr ⟨by rfl, rfl⟩) ?_ ?_
              rotate_left
              · simp only [Act.put, List.setIfInBounds_toArray, List.set_cons_zero, List.set_cons_succ, i64_w, i32_w]
                rfl
              refine pure_ (i := 13) (N := some 40) (v := undef) (a' := ?_) #[true, true, true, true, true, true, true, true, true, true, true, true, true, true, false] rfl rfl (any_of HT_.out (by kernel_rfl)) (fun _ _ _ h => h) (Or.inr ⟨by rfl, rfl⟩) ?_ ?_
              rotate_left
              · simp only [Act.put, List.setIfInBounds_toArray, List.set_cons_zero, List.set_cons_succ, i64_w, i32_w]
                rfl
              refine pure_ (i := 14) (N := some 41) (v := ?_) (a' := ?_) #[true, true, true, true, true, true, true, true, true, true, true, true, true, true, true] rfl rfl (any_of HT_.out (by kernel_rfl)) (fun _ _ _ h => h) (Or.inl ⟨by rfl, ?_⟩) ?_ ?_
              rotate_left
              · intro w'
                go_simp
                with_reducible rfl
              rotate_left
              · simp only [Act.put, List.setIfInBounds_toArray, List.set_cons_zero, List.set_cons_succ, i64_w, i32_w]
                rfl
              refine done_ (done_of HT_.out (by kernel_rfl)) ?_
              try go_wp2
              go_meet
              case rel => exact ⟨_, (true), (by first | rfl | (simp; done) | (simp [*]; done)), H', ⟨by have := HJ2.out; first | omega | exact Nat.le_refl _⟩, ⟨by (with_reducible repeat (first | refine blk_drewN ?_ _ | refine blk_drew ?_ | refine blk_alloc ?_ _)); exact BK731.out⟩, ⟨by (with_reducible repeat (first | refine blk_drewN ?_ _ | refine blk_drew ?_ | refine blk_alloc ?_ _)); exact BK732.out⟩, ⟨by (with_reducible repeat (first | refine blk_drewN ?_ _ | refine blk_drew ?_ | refine blk_alloc ?_ _)); exact BK735.out⟩, ⟨by (with_reducible repeat (first | refine blk_drewN ?_ _ | refine blk_drew ?_ | refine blk_alloc ?_ _)); exact BK738.out⟩, ⟨by repeat (first | (with_reducible first | exact HB.out | apply below_alloc | apply pw_below_drewN | apply below_drew1 | refine below_set ?_ GE731.out | refine below_set ?_ GE732.out | refine below_set ?_ GE735.out | refine below_set ?_ GE738.out) | exact HB.out)⟩⟩
        case rest =>
          clear HC9
          try clear c2
          try clear p2
          try clear c3
          try clear c21
          try clear c29
          try clear c30
          try clear c30b0
          try clear c35
          obtain ⟨kq, x41_8, rfl, HA, HJ8, BK731, BK732, BK735, BK738, HB⟩ := hcut
          cases kq with
          | zero => exact absurd HA.out (by simp [laws_FnLabelEither.j1])
          | succ kj8 =>
            have H := HA.out
            clear HA
            simp only [laws_FnLabelEither.j1] at H
            by_cases c46 : x41_8 = true
            · subst c46
              have H1 : ((spec_LabelEither.f kj8 t727 t728 t729 t730).bind fun bt743 => (some (t736 == bt743.1 && (t737 == bt743.2)))) = some r := by rw [if_pos rfl] at H; exact H
              clear H
              have H := H1
              clear H1
              replace H := Option.bind_eq_some_iff.mp H
              obtain ⟨⟨t743, t744⟩, A470, H⟩ := H
              replace H : (some (t736 == t743 && (t737 == t744))) = some r := H
              have A47 := Aside0.mk A470
              clear A470
              obtain rfl := Option.some.inj H
              try go_wp2
              have n0_ := Aside0.mk (blk_drew BK731.out)
              have n1_ := Aside0.mk (blk_drew BK732.out)
              have n2_ := Aside0.mk (blk_drew BK735.out)
              have n3_ := Aside0.mk (blk_drew BK738.out)
              have n4_ := Aside0.mk (below_drew1 HB.out)
              clear BK731
              clear BK732
              clear BK735
              clear BK738
              clear HB
              have BK731 := n0_
              have BK732 := n1_
              have BK735 := n2_
              have BK738 := n3_
              have HB := n4_
              clear n0_ n1_ n2_ n3_ n4_
              refine start_ (n := 6) (S := fun w' => w'.cell? ⟨gb738, 0, none⟩ = some (.int .i64 t736) ∧ w'.cell? ⟨gb738, 1, none⟩ = some (.int .i64 t737) ∧ w'.cell? ⟨gb731, 0, none⟩ = some (.int .i64 t727) ∧ w'.cell? ⟨gb731, 1, none⟩ = some (.int .i64 t728) ∧ w'.cell? ⟨gb732, 0, none⟩ = some (.int .i64 t729) ∧ w'.cell? ⟨gb732, 1, none⟩ = some (.int .i64 t730)) (ds := []) #[false, false, false, false, false, false] (by kernel_rfl) rfl rfl ⟨(blk_cell BK738.out 0).trans rfl, (blk_cell BK738.out 1).trans rfl, (blk_cell BK731.out 0).trans rfl, (blk_cell BK731.out 1).trans rfl, (blk_cell BK732.out 0).trans rfl, (blk_cell BK732.out 1).trans rfl⟩ (fun hHeld => ?_)
              generalize wc.drew = w48 at BK731 BK732 BK735 BK738 HB hHeld ⊢
              refine take_ (i := 0) (N := some 42) (v := ?_) (a' := ?_) #[true, false, false, false, false, false] rfl rfl (by kernel_rfl) (fun _ _ _ h => h) (Or.inl ⟨by rfl, ?_⟩) hHeld ?_ ?_
              rotate_left
              · rintro w' ⟨s0, s1, s2, s3, s4, s5⟩
                go_simp
                with_reducible rfl
              rotate_left
              · simp only [Act.put, List.setIfInBounds_toArray, List.set_cons_zero, List.set_cons_succ, i64_w, i32_w]
                rfl
              refine take_ (i := 1) (N := some 43) (v := ?_) (a' := ?_) #[true, true, false, false, false, false] rfl rfl (by kernel_rfl) (fun _ _ _ h => h) (Or.inl ⟨by rfl, ?_⟩) hHeld ?_ ?_
              rotate_left
              · rintro w' ⟨s0, s1, s2, s3, s4, s5⟩
                go_simp
                with_reducible rfl
              rotate_left
              · simp only [Act.put, List.setIfInBounds_toArray, List.set_cons_zero, List.set_cons_succ, i64_w, i32_w]
                rfl
              refine take_ (i := 2) (N := some 44) (v := ?_) (a' := ?_) #[true, true, true, false, false, false] rfl rfl (by kernel_rfl) (fun _ _ _ h => h) (Or.inl ⟨by rfl, ?_⟩) hHeld ?_ ?_
              rotate_left
              · rintro w' ⟨s0, s1, s2, s3, s4, s5⟩
                go_simp
                with_reducible rfl
              rotate_left
              · simp only [Act.put, List.setIfInBounds_toArray, List.set_cons_zero, List.set_cons_succ, i64_w, i32_w]
                rfl
              refine one_ (i := 3) (N := some 45) #[true, true, true, true, false, false] rfl rfl (by kernel_rfl) (by decide) (fun K hK => ?_)
              refine goes_ Try.func29 (by kernel_rfl) rfl #[.agg #[.int .i64 t727, .int .i64 t728], .agg #[.int .i64 t729, .int .i64 t730]] (by rfl) rfl rfl (by (try simp only [List.map_toArray, List.map_cons, List.map_nil]); first | done | rfl | (simp only [List.length_drop, List.length_take]; rfl)) ?_
              with_reducible refine (spec_LabelEither.calls kj8 t727 t728 t729 t730 t743 t744 _ A47.out).mono ?_
              rintro e w49 ⟨rfl, hb⟩
              refine ⟨_, rfl, ?_⟩
              have n0_ := Aside0.mk (blk_below (g := gb731) (o := .cells #[.int .i64 t727, .int .i64 t728] 26 (0, 0)) (by (with_reducible repeat (first | refine blk_drewN ?_ _ | refine blk_drew ?_ | refine blk_alloc ?_ _)); exact BK731.out) hb)
              have n1_ := Aside0.mk (blk_below (g := gb732) (o := .cells #[.int .i64 t729, .int .i64 t730] 26 (0, 0)) (by (with_reducible repeat (first | refine blk_drewN ?_ _ | refine blk_drew ?_ | refine blk_alloc ?_ _)); exact BK732.out) hb)
              have n2_ := Aside0.mk (blk_below (g := gb735) (o := .cells #[.int .i64 t733, .int .i64 t734] 26 (0, 0)) (by (with_reducible repeat (first | refine blk_drewN ?_ _ | refine blk_drew ?_ | refine blk_alloc ?_ _)); exact BK735.out) hb)
              have n3_ := Aside0.mk (blk_below (g := gb738) (o := .cells #[.int .i64 t736, .int .i64 t737] 26 (0, 0)) (by (with_reducible repeat (first | refine blk_drewN ?_ _ | refine blk_drew ?_ | refine blk_alloc ?_ _)); exact BK738.out) hb)
              have n4_ := Aside0.mk (below_step (by repeat (first | (with_reducible first | exact HB.out | apply below_alloc | apply pw_below_drewN | apply below_drew1 | refine below_set ?_ GE731.out | refine below_set ?_ GE732.out | refine below_set ?_ GE735.out | refine below_set ?_ GE738.out) | exact HB.out)) hb)
              clear BK731
              clear BK732
              clear BK735
              clear BK738
              clear HB
              have BK731 := n0_
              have BK732 := n1_
              have BK735 := n2_
              have BK738 := n3_
              have HB := n4_
              clear n0_ n1_ n2_ n3_ n4_
              (try clear hb)
              (try clear hb2)
              (try clear hk)
              (try clear hi)
              refine hK.out _ _ ⟨(blk_cell BK738.out 0).trans rfl, (blk_cell BK738.out 1).trans rfl, (blk_cell BK731.out 0).trans rfl, (blk_cell BK731.out 1).trans rfl, (blk_cell BK732.out 0).trans rfl, (blk_cell BK732.out 1).trans rfl⟩ (fun hHeld => ?_)
              clear hK K
              refine norm_ (a' := ?_) ?_ ?_
              rotate_left
              · show Act.put _ (some 45) _ = _
                simp only [Act.put, List.setIfInBounds_toArray, List.set_cons_zero, List.set_cons_succ, i64_w, i32_w]
                rfl
              refine pure_ (i := 4) (N := some 46) (v := ?_) (a' := ?_) #[true, true, true, true, true, false] rfl rfl (by kernel_rfl) (fun _ _ _ h => h) (Or.inl ⟨by rfl, ?_⟩) ?_ ?_
              rotate_left
              · intro w'
                go_simp
                with_reducible rfl
              rotate_left
              · simp only [Act.put, List.setIfInBounds_toArray, List.set_cons_zero, List.set_cons_succ, i64_w, i32_w]
                rfl
              refine pure_ (i := 5) (N := some 4) (v := ?_) (a' := ?_) #[true, true, true, true, true, true] rfl rfl (by kernel_rfl) (fun _ _ _ h => h) (Or.inl ⟨by rfl, ?_⟩) ?_ ?_
              rotate_left
              · intro w'
                go_simp
                with_reducible rfl
              rotate_left
              · simp only [Act.put, List.setIfInBounds_toArray, List.set_cons_zero, List.set_cons_succ, i64_w, i32_w]
                rfl
              refine done_ (by kernel_rfl) ?_
              try go_wp2
              go_ret
              exact ⟨by first | rfl | (simp [errW_none, errW_some] <;> rfl) | (simp [*, errW_none, errW_some] <;> rfl), by repeat (first | (with_reducible first | exact HB.out | apply below_alloc | apply pw_below_drewN | apply below_drew1 | refine below_set ?_ GE731.out | refine below_set ?_ GE732.out | refine below_set ?_ GE735.out | refine below_set ?_ GE738.out) | exact HB.out)⟩
            · replace c46 := Bool.eq_false_iff.mpr c46
              subst c46
              have H1 : ((impl_LabelFlows.f t736 t737 t727 t728).bind fun t745 => (if t745 = true then ((impl_LabelFlows.f t736 t737 t729 t730).bind fun t746 => (if t746 = true then ((impl_LabelFlows.f t733 t734 t727 t728).bind fun t747 => (if t747 = true then ((impl_LabelFlows.f t733 t734 t729 t730).bind fun t748 => (if t748 = true then ((impl_LabelFlows.f t733 t734 t736 t737).bind fun t749 => (some t749)) else (some true))) else (some true))) else (some false))) else (some false))) = some r := by rw [if_neg (show ¬ (false = true) by decide)] at H; exact H
              clear H
              have H := H1
              clear H1
              replace H := Option.bind_eq_some_iff.mp H
              obtain ⟨t745, A500, H⟩ := H
              replace H : (if t745 = true then ((impl_LabelFlows.f t736 t737 t729 t730).bind fun t746 => (if t746 = true then ((impl_LabelFlows.f t733 t734 t727 t728).bind fun t747 => (if t747 = true then ((impl_LabelFlows.f t733 t734 t729 t730).bind fun t748 => (if t748 = true then ((impl_LabelFlows.f t733 t734 t736 t737).bind fun t749 => (some t749)) else (some true))) else (some true))) else (some false))) else (some false)) = some r := H
              have A50 := Aside0.mk A500
              clear A500
              by_cases c51 : t745 = true
              · subst c51
                have H1 : ((impl_LabelFlows.f t736 t737 t729 t730).bind fun t746 => (if t746 = true then ((impl_LabelFlows.f t733 t734 t727 t728).bind fun t747 => (if t747 = true then ((impl_LabelFlows.f t733 t734 t729 t730).bind fun t748 => (if t748 = true then ((impl_LabelFlows.f t733 t734 t736 t737).bind fun t749 => (some t749)) else (some true))) else (some true))) else (some false))) = some r := by rw [if_pos rfl] at H; exact H
                clear H
                have H := H1
                clear H1
                replace H := Option.bind_eq_some_iff.mp H
                obtain ⟨t746, A520, H⟩ := H
                replace H : (if t746 = true then ((impl_LabelFlows.f t733 t734 t727 t728).bind fun t747 => (if t747 = true then ((impl_LabelFlows.f t733 t734 t729 t730).bind fun t748 => (if t748 = true then ((impl_LabelFlows.f t733 t734 t736 t737).bind fun t749 => (some t749)) else (some true))) else (some true))) else (some false)) = some r := H
                have A52 := Aside0.mk A520
                clear A520
                by_cases c53 : t746 = true
                · subst c53
                  have H1 : ((impl_LabelFlows.f t733 t734 t727 t728).bind fun t747 => (if t747 = true then ((impl_LabelFlows.f t733 t734 t729 t730).bind fun t748 => (if t748 = true then ((impl_LabelFlows.f t733 t734 t736 t737).bind fun t749 => (some t749)) else (some true))) else (some true))) = some r := by rw [if_pos rfl] at H; exact H
                  clear H
                  have H := H1
                  clear H1
                  replace H := Option.bind_eq_some_iff.mp H
                  obtain ⟨t747, A540, H⟩ := H
                  replace H : (if t747 = true then ((impl_LabelFlows.f t733 t734 t729 t730).bind fun t748 => (if t748 = true then ((impl_LabelFlows.f t733 t734 t736 t737).bind fun t749 => (some t749)) else (some true))) else (some true)) = some r := H
                  have A54 := Aside0.mk A540
                  clear A540
                  by_cases c55 : t747 = true
                  · subst c55
                    have H1 : ((impl_LabelFlows.f t733 t734 t729 t730).bind fun t748 => (if t748 = true then ((impl_LabelFlows.f t733 t734 t736 t737).bind fun t749 => (some t749)) else (some true))) = some r := by rw [if_pos rfl] at H; exact H
                    clear H
                    have H := H1
                    clear H1
                    replace H := Option.bind_eq_some_iff.mp H
                    obtain ⟨t748, A560, H⟩ := H
                    replace H : (if t748 = true then ((impl_LabelFlows.f t733 t734 t736 t737).bind fun t749 => (some t749)) else (some true)) = some r := H
                    have A56 := Aside0.mk A560
                    clear A560
                    by_cases c57 : t748 = true
                    · subst c57
                      have H1 : ((impl_LabelFlows.f t733 t734 t736 t737).bind fun t749 => (some t749)) = some r := by rw [if_pos rfl] at H; exact H
                      clear H
                      have H := H1
                      clear H1
                      replace H := Option.bind_eq_some_iff.mp H
                      obtain ⟨t749, A580, H⟩ := H
                      replace H : (some t749) = some r := H
                      have A58 := Aside0.mk A580
                      clear A580
                      obtain rfl := Option.some.inj H
                      have hnb59 := NB738_731.out
                      have hnc59 := NB731_738.out
                      have hnb60 := NB738_732.out
                      have hnc60 := NB732_738.out
                      have hnb61 := NB738_735.out
                      have hnc61 := NB735_738.out
                      have hcz62_0 : wc.cell? ⟨gb738, 0, none⟩ = some (.int .i64 t736) := (blk_cell BK738.out 0).trans rfl
                      have hcz62_1 : wc.cell? ⟨gb738, 1, none⟩ = some (.int .i64 t737) := (blk_cell BK738.out 1).trans rfl
                      have hfz62_0 := blk_frozen BK738.out 0
                      have hfz62_1 := blk_frozen BK738.out 1
                      have hnb63 := NB731_732.out
                      have hnc63 := NB732_731.out
                      have hnb64 := NB731_735.out
                      have hnc64 := NB735_731.out
                      have hcz65_0 : wc.cell? ⟨gb731, 0, none⟩ = some (.int .i64 t727) := (blk_cell BK731.out 0).trans rfl
                      have hcz65_1 : wc.cell? ⟨gb731, 1, none⟩ = some (.int .i64 t728) := (blk_cell BK731.out 1).trans rfl
                      have hfz65_0 := blk_frozen BK731.out 0
                      have hfz65_1 := blk_frozen BK731.out 1
                      go_wp2_with (first | ((with_reducible refine gate_callee (f := 25) rfl ?_); refine goesL_ (some 49) rfl rfl Try.func25 (by kernel_rfl) rfl #[.agg #[.int .i64 t736, .int .i64 t737], .agg #[.int .i64 t727, .int .i64 t728]] rfl (by (try simp only [List.map_toArray, List.map_cons, List.map_nil]); first | done | rfl | (simp only [List.length_drop, List.length_take]; rfl)) ?_; (with_reducible refine (impl_LabelFlows.calls t736 t737 t727 t728 true _ A50.out).mono ?_); rintro e w66 ⟨rfl, hb⟩; refine ⟨_, rfl, ?_⟩; have n0_ := Aside0.mk (blk_below (g := gb731) (o := .cells #[.int .i64 t727, .int .i64 t728] 26 (0, 0)) (by (with_reducible repeat (first | refine blk_drewN ?_ _ | refine blk_drew ?_ | refine blk_alloc ?_ _)); exact BK731.out) hb); have n1_ := Aside0.mk (blk_below (g := gb732) (o := .cells #[.int .i64 t729, .int .i64 t730] 26 (0, 0)) (by (with_reducible repeat (first | refine blk_drewN ?_ _ | refine blk_drew ?_ | refine blk_alloc ?_ _)); exact BK732.out) hb); have n2_ := Aside0.mk (blk_below (g := gb735) (o := .cells #[.int .i64 t733, .int .i64 t734] 26 (0, 0)) (by (with_reducible repeat (first | refine blk_drewN ?_ _ | refine blk_drew ?_ | refine blk_alloc ?_ _)); exact BK735.out) hb); have n3_ := Aside0.mk (blk_below (g := gb738) (o := .cells #[.int .i64 t736, .int .i64 t737] 26 (0, 0)) (by (with_reducible repeat (first | refine blk_drewN ?_ _ | refine blk_drew ?_ | refine blk_alloc ?_ _)); exact BK738.out) hb); have n4_ := Aside0.mk (below_step (by repeat (first | (with_reducible first | exact HB.out | apply below_alloc | apply pw_below_drewN | apply below_drew1 | refine below_set ?_ GE731.out | refine below_set ?_ GE732.out | refine below_set ?_ GE735.out | refine below_set ?_ GE738.out) | exact HB.out)) hb); clear BK731; clear BK732; clear BK735; clear BK738; clear HB; have BK731 := n0_; have BK732 := n1_; have BK735 := n2_; have BK738 := n3_; have HB := n4_; clear n0_ n1_ n2_ n3_ n4_; (try clear hb); (try clear hb2); (try clear hk); (try clear hi); have hcz67_0 : w66.cell? ⟨gb738, 0, none⟩ = some (.int .i64 t736) := (blk_cell BK738.out 0).trans rfl; have hcz67_1 : w66.cell? ⟨gb738, 1, none⟩ = some (.int .i64 t737) := (blk_cell BK738.out 1).trans rfl; have hfz67_0 := blk_frozen BK738.out 0; have hfz67_1 := blk_frozen BK738.out 1; have hnb68 := NB732_735.out; have hnc68 := NB735_732.out; have hcz69_0 : w66.cell? ⟨gb732, 0, none⟩ = some (.int .i64 t729) := (blk_cell BK732.out 0).trans rfl; have hcz69_1 : w66.cell? ⟨gb732, 1, none⟩ = some (.int .i64 t730) := (blk_cell BK732.out 1).trans rfl; have hfz69_0 := blk_frozen BK732.out 0; have hfz69_1 := blk_frozen BK732.out 1) | (go_at_call 25; (with_reducible refine (impl_LabelFlows.calls t736 t737 t729 t730 true _ A52.out).mono ?_); rintro e w70 ⟨rfl, hb⟩; have n0_ := Aside0.mk (blk_below (g := gb731) (o := .cells #[.int .i64 t727, .int .i64 t728] 26 (0, 0)) (by (with_reducible repeat (first | refine blk_drewN ?_ _ | refine blk_drew ?_ | refine blk_alloc ?_ _)); exact BK731.out) hb); have n1_ := Aside0.mk (blk_below (g := gb732) (o := .cells #[.int .i64 t729, .int .i64 t730] 26 (0, 0)) (by (with_reducible repeat (first | refine blk_drewN ?_ _ | refine blk_drew ?_ | refine blk_alloc ?_ _)); exact BK732.out) hb); have n2_ := Aside0.mk (blk_below (g := gb735) (o := .cells #[.int .i64 t733, .int .i64 t734] 26 (0, 0)) (by (with_reducible repeat (first | refine blk_drewN ?_ _ | refine blk_drew ?_ | refine blk_alloc ?_ _)); exact BK735.out) hb); have n3_ := Aside0.mk (blk_below (g := gb738) (o := .cells #[.int .i64 t736, .int .i64 t737] 26 (0, 0)) (by (with_reducible repeat (first | refine blk_drewN ?_ _ | refine blk_drew ?_ | refine blk_alloc ?_ _)); exact BK738.out) hb); have n4_ := Aside0.mk (below_step (by repeat (first | (with_reducible first | exact HB.out | apply below_alloc | apply pw_below_drewN | apply below_drew1 | refine below_set ?_ GE731.out | refine below_set ?_ GE732.out | refine below_set ?_ GE735.out | refine below_set ?_ GE738.out) | exact HB.out)) hb); clear BK731; clear BK732; clear BK735; clear BK738; clear HB; have BK731 := n0_; have BK732 := n1_; have BK735 := n2_; have BK738 := n3_; have HB := n4_; clear n0_ n1_ n2_ n3_ n4_; (try clear hb); (try clear hb2); (try clear hk); (try clear hi); have hcz71_0 : w70.cell? ⟨gb735, 0, none⟩ = some (.int .i64 t733) := (blk_cell BK735.out 0).trans rfl; have hcz71_1 : w70.cell? ⟨gb735, 1, none⟩ = some (.int .i64 t734) := (blk_cell BK735.out 1).trans rfl; have hfz71_0 := blk_frozen BK735.out 0; have hfz71_1 := blk_frozen BK735.out 1; have hcz72_0 : w70.cell? ⟨gb731, 0, none⟩ = some (.int .i64 t727) := (blk_cell BK731.out 0).trans rfl; have hcz72_1 : w70.cell? ⟨gb731, 1, none⟩ = some (.int .i64 t728) := (blk_cell BK731.out 1).trans rfl; have hfz72_0 := blk_frozen BK731.out 0; have hfz72_1 := blk_frozen BK731.out 1) | (go_at_call 25; (with_reducible refine (impl_LabelFlows.calls t733 t734 t727 t728 true _ A54.out).mono ?_); rintro e w73 ⟨rfl, hb⟩; have n0_ := Aside0.mk (blk_below (g := gb731) (o := .cells #[.int .i64 t727, .int .i64 t728] 26 (0, 0)) (by (with_reducible repeat (first | refine blk_drewN ?_ _ | refine blk_drew ?_ | refine blk_alloc ?_ _)); exact BK731.out) hb); have n1_ := Aside0.mk (blk_below (g := gb732) (o := .cells #[.int .i64 t729, .int .i64 t730] 26 (0, 0)) (by (with_reducible repeat (first | refine blk_drewN ?_ _ | refine blk_drew ?_ | refine blk_alloc ?_ _)); exact BK732.out) hb); have n2_ := Aside0.mk (blk_below (g := gb735) (o := .cells #[.int .i64 t733, .int .i64 t734] 26 (0, 0)) (by (with_reducible repeat (first | refine blk_drewN ?_ _ | refine blk_drew ?_ | refine blk_alloc ?_ _)); exact BK735.out) hb); have n3_ := Aside0.mk (blk_below (g := gb738) (o := .cells #[.int .i64 t736, .int .i64 t737] 26 (0, 0)) (by (with_reducible repeat (first | refine blk_drewN ?_ _ | refine blk_drew ?_ | refine blk_alloc ?_ _)); exact BK738.out) hb); have n4_ := Aside0.mk (below_step (by repeat (first | (with_reducible first | exact HB.out | apply below_alloc | apply pw_below_drewN | apply below_drew1 | refine below_set ?_ GE731.out | refine below_set ?_ GE732.out | refine below_set ?_ GE735.out | refine below_set ?_ GE738.out) | exact HB.out)) hb); clear BK731; clear BK732; clear BK735; clear BK738; clear HB; have BK731 := n0_; have BK732 := n1_; have BK735 := n2_; have BK738 := n3_; have HB := n4_; clear n0_ n1_ n2_ n3_ n4_; (try clear hb); (try clear hb2); (try clear hk); (try clear hi); have hcz74_0 : w73.cell? ⟨gb735, 0, none⟩ = some (.int .i64 t733) := (blk_cell BK735.out 0).trans rfl; have hcz74_1 : w73.cell? ⟨gb735, 1, none⟩ = some (.int .i64 t734) := (blk_cell BK735.out 1).trans rfl; have hfz74_0 := blk_frozen BK735.out 0; have hfz74_1 := blk_frozen BK735.out 1; have hcz75_0 : w73.cell? ⟨gb732, 0, none⟩ = some (.int .i64 t729) := (blk_cell BK732.out 0).trans rfl; have hcz75_1 : w73.cell? ⟨gb732, 1, none⟩ = some (.int .i64 t730) := (blk_cell BK732.out 1).trans rfl; have hfz75_0 := blk_frozen BK732.out 0; have hfz75_1 := blk_frozen BK732.out 1) | (go_at_call 25; (with_reducible refine (impl_LabelFlows.calls t733 t734 t729 t730 true _ A56.out).mono ?_); rintro e w76 ⟨rfl, hb⟩; have n0_ := Aside0.mk (blk_below (g := gb731) (o := .cells #[.int .i64 t727, .int .i64 t728] 26 (0, 0)) (by (with_reducible repeat (first | refine blk_drewN ?_ _ | refine blk_drew ?_ | refine blk_alloc ?_ _)); exact BK731.out) hb); have n1_ := Aside0.mk (blk_below (g := gb732) (o := .cells #[.int .i64 t729, .int .i64 t730] 26 (0, 0)) (by (with_reducible repeat (first | refine blk_drewN ?_ _ | refine blk_drew ?_ | refine blk_alloc ?_ _)); exact BK732.out) hb); have n2_ := Aside0.mk (blk_below (g := gb735) (o := .cells #[.int .i64 t733, .int .i64 t734] 26 (0, 0)) (by (with_reducible repeat (first | refine blk_drewN ?_ _ | refine blk_drew ?_ | refine blk_alloc ?_ _)); exact BK735.out) hb); have n3_ := Aside0.mk (blk_below (g := gb738) (o := .cells #[.int .i64 t736, .int .i64 t737] 26 (0, 0)) (by (with_reducible repeat (first | refine blk_drewN ?_ _ | refine blk_drew ?_ | refine blk_alloc ?_ _)); exact BK738.out) hb); have n4_ := Aside0.mk (below_step (by repeat (first | (with_reducible first | exact HB.out | apply below_alloc | apply pw_below_drewN | apply below_drew1 | refine below_set ?_ GE731.out | refine below_set ?_ GE732.out | refine below_set ?_ GE735.out | refine below_set ?_ GE738.out) | exact HB.out)) hb); clear BK731; clear BK732; clear BK735; clear BK738; clear HB; have BK731 := n0_; have BK732 := n1_; have BK735 := n2_; have BK738 := n3_; have HB := n4_; clear n0_ n1_ n2_ n3_ n4_; (try clear hb); (try clear hb2); (try clear hk); (try clear hi); have hcz77_0 : w76.cell? ⟨gb735, 0, none⟩ = some (.int .i64 t733) := (blk_cell BK735.out 0).trans rfl; have hcz77_1 : w76.cell? ⟨gb735, 1, none⟩ = some (.int .i64 t734) := (blk_cell BK735.out 1).trans rfl; have hfz77_0 := blk_frozen BK735.out 0; have hfz77_1 := blk_frozen BK735.out 1; have hcz78_0 : w76.cell? ⟨gb738, 0, none⟩ = some (.int .i64 t736) := (blk_cell BK738.out 0).trans rfl; have hcz78_1 : w76.cell? ⟨gb738, 1, none⟩ = some (.int .i64 t737) := (blk_cell BK738.out 1).trans rfl; have hfz78_0 := blk_frozen BK738.out 0; have hfz78_1 := blk_frozen BK738.out 1) | (go_at_call 25; (with_reducible refine (impl_LabelFlows.calls t733 t734 t736 t737 t749 _ A58.out).mono ?_); rintro e w79 ⟨rfl, hb⟩; have n0_ := Aside0.mk (blk_below (g := gb731) (o := .cells #[.int .i64 t727, .int .i64 t728] 26 (0, 0)) (by (with_reducible repeat (first | refine blk_drewN ?_ _ | refine blk_drew ?_ | refine blk_alloc ?_ _)); exact BK731.out) hb); have n1_ := Aside0.mk (blk_below (g := gb732) (o := .cells #[.int .i64 t729, .int .i64 t730] 26 (0, 0)) (by (with_reducible repeat (first | refine blk_drewN ?_ _ | refine blk_drew ?_ | refine blk_alloc ?_ _)); exact BK732.out) hb); have n2_ := Aside0.mk (blk_below (g := gb735) (o := .cells #[.int .i64 t733, .int .i64 t734] 26 (0, 0)) (by (with_reducible repeat (first | refine blk_drewN ?_ _ | refine blk_drew ?_ | refine blk_alloc ?_ _)); exact BK735.out) hb); have n3_ := Aside0.mk (blk_below (g := gb738) (o := .cells #[.int .i64 t736, .int .i64 t737] 26 (0, 0)) (by (with_reducible repeat (first | refine blk_drewN ?_ _ | refine blk_drew ?_ | refine blk_alloc ?_ _)); exact BK738.out) hb); have n4_ := Aside0.mk (below_step (by repeat (first | (with_reducible first | exact HB.out | apply below_alloc | apply pw_below_drewN | apply below_drew1 | refine below_set ?_ GE731.out | refine below_set ?_ GE732.out | refine below_set ?_ GE735.out | refine below_set ?_ GE738.out) | exact HB.out)) hb); clear BK731; clear BK732; clear BK735; clear BK738; clear HB; have BK731 := n0_; have BK732 := n1_; have BK735 := n2_; have BK738 := n3_; have HB := n4_; clear n0_ n1_ n2_ n3_ n4_; (try clear hb); (try clear hb2); (try clear hk); (try clear hi)))
                      go_ret
                      exact ⟨by first | rfl | (simp [errW_none, errW_some] <;> rfl) | (simp [*, errW_none, errW_some] <;> rfl), by repeat (first | (with_reducible first | exact HB.out | apply below_alloc | apply pw_below_drewN | apply below_drew1 | refine below_set ?_ GE731.out | refine below_set ?_ GE732.out | refine below_set ?_ GE735.out | refine below_set ?_ GE738.out) | exact HB.out)⟩
                    · replace c57 := Bool.eq_false_iff.mpr c57
                      subst c57
                      have H1 : (some true) = some r := by rw [if_neg (show ¬ (false = true) by decide)] at H; exact H
                      clear H
                      have H := H1
                      clear H1
                      obtain rfl := Option.some.inj H
                      have hnb80 := NB738_731.out
                      have hnc80 := NB731_738.out
                      have hnb81 := NB738_732.out
                      have hnc81 := NB732_738.out
                      have hnb82 := NB738_735.out
                      have hnc82 := NB735_738.out
                      have hcz83_0 : wc.cell? ⟨gb738, 0, none⟩ = some (.int .i64 t736) := (blk_cell BK738.out 0).trans rfl
                      have hcz83_1 : wc.cell? ⟨gb738, 1, none⟩ = some (.int .i64 t737) := (blk_cell BK738.out 1).trans rfl
                      have hfz83_0 := blk_frozen BK738.out 0
                      have hfz83_1 := blk_frozen BK738.out 1
                      have hnb84 := NB731_732.out
                      have hnc84 := NB732_731.out
                      have hnb85 := NB731_735.out
                      have hnc85 := NB735_731.out
                      have hcz86_0 : wc.cell? ⟨gb731, 0, none⟩ = some (.int .i64 t727) := (blk_cell BK731.out 0).trans rfl
                      have hcz86_1 : wc.cell? ⟨gb731, 1, none⟩ = some (.int .i64 t728) := (blk_cell BK731.out 1).trans rfl
                      have hfz86_0 := blk_frozen BK731.out 0
                      have hfz86_1 := blk_frozen BK731.out 1
                      go_wp2_with (first | ((with_reducible refine gate_callee (f := 25) rfl ?_); refine goesL_ (some 49) rfl rfl Try.func25 (by kernel_rfl) rfl #[.agg #[.int .i64 t736, .int .i64 t737], .agg #[.int .i64 t727, .int .i64 t728]] rfl (by (try simp only [List.map_toArray, List.map_cons, List.map_nil]); first | done | rfl | (simp only [List.length_drop, List.length_take]; rfl)) ?_; (with_reducible refine (impl_LabelFlows.calls t736 t737 t727 t728 true _ A50.out).mono ?_); rintro e w87 ⟨rfl, hb⟩; refine ⟨_, rfl, ?_⟩; have n0_ := Aside0.mk (blk_below (g := gb731) (o := .cells #[.int .i64 t727, .int .i64 t728] 26 (0, 0)) (by (with_reducible repeat (first | refine blk_drewN ?_ _ | refine blk_drew ?_ | refine blk_alloc ?_ _)); exact BK731.out) hb); have n1_ := Aside0.mk (blk_below (g := gb732) (o := .cells #[.int .i64 t729, .int .i64 t730] 26 (0, 0)) (by (with_reducible repeat (first | refine blk_drewN ?_ _ | refine blk_drew ?_ | refine blk_alloc ?_ _)); exact BK732.out) hb); have n2_ := Aside0.mk (blk_below (g := gb735) (o := .cells #[.int .i64 t733, .int .i64 t734] 26 (0, 0)) (by (with_reducible repeat (first | refine blk_drewN ?_ _ | refine blk_drew ?_ | refine blk_alloc ?_ _)); exact BK735.out) hb); have n3_ := Aside0.mk (blk_below (g := gb738) (o := .cells #[.int .i64 t736, .int .i64 t737] 26 (0, 0)) (by (with_reducible repeat (first | refine blk_drewN ?_ _ | refine blk_drew ?_ | refine blk_alloc ?_ _)); exact BK738.out) hb); have n4_ := Aside0.mk (below_step (by repeat (first | (with_reducible first | exact HB.out | apply below_alloc | apply pw_below_drewN | apply below_drew1 | refine below_set ?_ GE731.out | refine below_set ?_ GE732.out | refine below_set ?_ GE735.out | refine below_set ?_ GE738.out) | exact HB.out)) hb); clear BK731; clear BK732; clear BK735; clear BK738; clear HB; have BK731 := n0_; have BK732 := n1_; have BK735 := n2_; have BK738 := n3_; have HB := n4_; clear n0_ n1_ n2_ n3_ n4_; (try clear hb); (try clear hb2); (try clear hk); (try clear hi); have hcz88_0 : w87.cell? ⟨gb738, 0, none⟩ = some (.int .i64 t736) := (blk_cell BK738.out 0).trans rfl; have hcz88_1 : w87.cell? ⟨gb738, 1, none⟩ = some (.int .i64 t737) := (blk_cell BK738.out 1).trans rfl; have hfz88_0 := blk_frozen BK738.out 0; have hfz88_1 := blk_frozen BK738.out 1; have hnb89 := NB732_735.out; have hnc89 := NB735_732.out; have hcz90_0 : w87.cell? ⟨gb732, 0, none⟩ = some (.int .i64 t729) := (blk_cell BK732.out 0).trans rfl; have hcz90_1 : w87.cell? ⟨gb732, 1, none⟩ = some (.int .i64 t730) := (blk_cell BK732.out 1).trans rfl; have hfz90_0 := blk_frozen BK732.out 0; have hfz90_1 := blk_frozen BK732.out 1) | (go_at_call 25; (with_reducible refine (impl_LabelFlows.calls t736 t737 t729 t730 true _ A52.out).mono ?_); rintro e w91 ⟨rfl, hb⟩; have n0_ := Aside0.mk (blk_below (g := gb731) (o := .cells #[.int .i64 t727, .int .i64 t728] 26 (0, 0)) (by (with_reducible repeat (first | refine blk_drewN ?_ _ | refine blk_drew ?_ | refine blk_alloc ?_ _)); exact BK731.out) hb); have n1_ := Aside0.mk (blk_below (g := gb732) (o := .cells #[.int .i64 t729, .int .i64 t730] 26 (0, 0)) (by (with_reducible repeat (first | refine blk_drewN ?_ _ | refine blk_drew ?_ | refine blk_alloc ?_ _)); exact BK732.out) hb); have n2_ := Aside0.mk (blk_below (g := gb735) (o := .cells #[.int .i64 t733, .int .i64 t734] 26 (0, 0)) (by (with_reducible repeat (first | refine blk_drewN ?_ _ | refine blk_drew ?_ | refine blk_alloc ?_ _)); exact BK735.out) hb); have n3_ := Aside0.mk (blk_below (g := gb738) (o := .cells #[.int .i64 t736, .int .i64 t737] 26 (0, 0)) (by (with_reducible repeat (first | refine blk_drewN ?_ _ | refine blk_drew ?_ | refine blk_alloc ?_ _)); exact BK738.out) hb); have n4_ := Aside0.mk (below_step (by repeat (first | (with_reducible first | exact HB.out | apply below_alloc | apply pw_below_drewN | apply below_drew1 | refine below_set ?_ GE731.out | refine below_set ?_ GE732.out | refine below_set ?_ GE735.out | refine below_set ?_ GE738.out) | exact HB.out)) hb); clear BK731; clear BK732; clear BK735; clear BK738; clear HB; have BK731 := n0_; have BK732 := n1_; have BK735 := n2_; have BK738 := n3_; have HB := n4_; clear n0_ n1_ n2_ n3_ n4_; (try clear hb); (try clear hb2); (try clear hk); (try clear hi); have hcz92_0 : w91.cell? ⟨gb735, 0, none⟩ = some (.int .i64 t733) := (blk_cell BK735.out 0).trans rfl; have hcz92_1 : w91.cell? ⟨gb735, 1, none⟩ = some (.int .i64 t734) := (blk_cell BK735.out 1).trans rfl; have hfz92_0 := blk_frozen BK735.out 0; have hfz92_1 := blk_frozen BK735.out 1; have hcz93_0 : w91.cell? ⟨gb731, 0, none⟩ = some (.int .i64 t727) := (blk_cell BK731.out 0).trans rfl; have hcz93_1 : w91.cell? ⟨gb731, 1, none⟩ = some (.int .i64 t728) := (blk_cell BK731.out 1).trans rfl; have hfz93_0 := blk_frozen BK731.out 0; have hfz93_1 := blk_frozen BK731.out 1) | (go_at_call 25; (with_reducible refine (impl_LabelFlows.calls t733 t734 t727 t728 true _ A54.out).mono ?_); rintro e w94 ⟨rfl, hb⟩; have n0_ := Aside0.mk (blk_below (g := gb731) (o := .cells #[.int .i64 t727, .int .i64 t728] 26 (0, 0)) (by (with_reducible repeat (first | refine blk_drewN ?_ _ | refine blk_drew ?_ | refine blk_alloc ?_ _)); exact BK731.out) hb); have n1_ := Aside0.mk (blk_below (g := gb732) (o := .cells #[.int .i64 t729, .int .i64 t730] 26 (0, 0)) (by (with_reducible repeat (first | refine blk_drewN ?_ _ | refine blk_drew ?_ | refine blk_alloc ?_ _)); exact BK732.out) hb); have n2_ := Aside0.mk (blk_below (g := gb735) (o := .cells #[.int .i64 t733, .int .i64 t734] 26 (0, 0)) (by (with_reducible repeat (first | refine blk_drewN ?_ _ | refine blk_drew ?_ | refine blk_alloc ?_ _)); exact BK735.out) hb); have n3_ := Aside0.mk (blk_below (g := gb738) (o := .cells #[.int .i64 t736, .int .i64 t737] 26 (0, 0)) (by (with_reducible repeat (first | refine blk_drewN ?_ _ | refine blk_drew ?_ | refine blk_alloc ?_ _)); exact BK738.out) hb); have n4_ := Aside0.mk (below_step (by repeat (first | (with_reducible first | exact HB.out | apply below_alloc | apply pw_below_drewN | apply below_drew1 | refine below_set ?_ GE731.out | refine below_set ?_ GE732.out | refine below_set ?_ GE735.out | refine below_set ?_ GE738.out) | exact HB.out)) hb); clear BK731; clear BK732; clear BK735; clear BK738; clear HB; have BK731 := n0_; have BK732 := n1_; have BK735 := n2_; have BK738 := n3_; have HB := n4_; clear n0_ n1_ n2_ n3_ n4_; (try clear hb); (try clear hb2); (try clear hk); (try clear hi); have hcz95_0 : w94.cell? ⟨gb735, 0, none⟩ = some (.int .i64 t733) := (blk_cell BK735.out 0).trans rfl; have hcz95_1 : w94.cell? ⟨gb735, 1, none⟩ = some (.int .i64 t734) := (blk_cell BK735.out 1).trans rfl; have hfz95_0 := blk_frozen BK735.out 0; have hfz95_1 := blk_frozen BK735.out 1; have hcz96_0 : w94.cell? ⟨gb732, 0, none⟩ = some (.int .i64 t729) := (blk_cell BK732.out 0).trans rfl; have hcz96_1 : w94.cell? ⟨gb732, 1, none⟩ = some (.int .i64 t730) := (blk_cell BK732.out 1).trans rfl; have hfz96_0 := blk_frozen BK732.out 0; have hfz96_1 := blk_frozen BK732.out 1) | (go_at_call 25; (with_reducible refine (impl_LabelFlows.calls t733 t734 t729 t730 false _ A56.out).mono ?_); rintro e w97 ⟨rfl, hb⟩; have n0_ := Aside0.mk (blk_below (g := gb731) (o := .cells #[.int .i64 t727, .int .i64 t728] 26 (0, 0)) (by (with_reducible repeat (first | refine blk_drewN ?_ _ | refine blk_drew ?_ | refine blk_alloc ?_ _)); exact BK731.out) hb); have n1_ := Aside0.mk (blk_below (g := gb732) (o := .cells #[.int .i64 t729, .int .i64 t730] 26 (0, 0)) (by (with_reducible repeat (first | refine blk_drewN ?_ _ | refine blk_drew ?_ | refine blk_alloc ?_ _)); exact BK732.out) hb); have n2_ := Aside0.mk (blk_below (g := gb735) (o := .cells #[.int .i64 t733, .int .i64 t734] 26 (0, 0)) (by (with_reducible repeat (first | refine blk_drewN ?_ _ | refine blk_drew ?_ | refine blk_alloc ?_ _)); exact BK735.out) hb); have n3_ := Aside0.mk (blk_below (g := gb738) (o := .cells #[.int .i64 t736, .int .i64 t737] 26 (0, 0)) (by (with_reducible repeat (first | refine blk_drewN ?_ _ | refine blk_drew ?_ | refine blk_alloc ?_ _)); exact BK738.out) hb); have n4_ := Aside0.mk (below_step (by repeat (first | (with_reducible first | exact HB.out | apply below_alloc | apply pw_below_drewN | apply below_drew1 | refine below_set ?_ GE731.out | refine below_set ?_ GE732.out | refine below_set ?_ GE735.out | refine below_set ?_ GE738.out) | exact HB.out)) hb); clear BK731; clear BK732; clear BK735; clear BK738; clear HB; have BK731 := n0_; have BK732 := n1_; have BK735 := n2_; have BK738 := n3_; have HB := n4_; clear n0_ n1_ n2_ n3_ n4_; (try clear hb); (try clear hb2); (try clear hk); (try clear hi)))
                      go_ret
                      exact ⟨by first | rfl | (simp [errW_none, errW_some] <;> rfl) | (simp [*, errW_none, errW_some] <;> rfl), by repeat (first | (with_reducible first | exact HB.out | apply below_alloc | apply pw_below_drewN | apply below_drew1 | refine below_set ?_ GE731.out | refine below_set ?_ GE732.out | refine below_set ?_ GE735.out | refine below_set ?_ GE738.out) | exact HB.out)⟩
                  · replace c55 := Bool.eq_false_iff.mpr c55
                    subst c55
                    have H1 : (some true) = some r := by rw [if_neg (show ¬ (false = true) by decide)] at H; exact H
                    clear H
                    have H := H1
                    clear H1
                    obtain rfl := Option.some.inj H
                    have hnb98 := NB738_731.out
                    have hnc98 := NB731_738.out
                    have hnb99 := NB738_732.out
                    have hnc99 := NB732_738.out
                    have hnb100 := NB738_735.out
                    have hnc100 := NB735_738.out
                    have hcz101_0 : wc.cell? ⟨gb738, 0, none⟩ = some (.int .i64 t736) := (blk_cell BK738.out 0).trans rfl
                    have hcz101_1 : wc.cell? ⟨gb738, 1, none⟩ = some (.int .i64 t737) := (blk_cell BK738.out 1).trans rfl
                    have hfz101_0 := blk_frozen BK738.out 0
                    have hfz101_1 := blk_frozen BK738.out 1
                    have hnb102 := NB731_732.out
                    have hnc102 := NB732_731.out
                    have hnb103 := NB731_735.out
                    have hnc103 := NB735_731.out
                    have hcz104_0 : wc.cell? ⟨gb731, 0, none⟩ = some (.int .i64 t727) := (blk_cell BK731.out 0).trans rfl
                    have hcz104_1 : wc.cell? ⟨gb731, 1, none⟩ = some (.int .i64 t728) := (blk_cell BK731.out 1).trans rfl
                    have hfz104_0 := blk_frozen BK731.out 0
                    have hfz104_1 := blk_frozen BK731.out 1
                    go_wp2_with (first | ((with_reducible refine gate_callee (f := 25) rfl ?_); refine goesL_ (some 49) rfl rfl Try.func25 (by kernel_rfl) rfl #[.agg #[.int .i64 t736, .int .i64 t737], .agg #[.int .i64 t727, .int .i64 t728]] rfl (by (try simp only [List.map_toArray, List.map_cons, List.map_nil]); first | done | rfl | (simp only [List.length_drop, List.length_take]; rfl)) ?_; (with_reducible refine (impl_LabelFlows.calls t736 t737 t727 t728 true _ A50.out).mono ?_); rintro e w105 ⟨rfl, hb⟩; refine ⟨_, rfl, ?_⟩; have n0_ := Aside0.mk (blk_below (g := gb731) (o := .cells #[.int .i64 t727, .int .i64 t728] 26 (0, 0)) (by (with_reducible repeat (first | refine blk_drewN ?_ _ | refine blk_drew ?_ | refine blk_alloc ?_ _)); exact BK731.out) hb); have n1_ := Aside0.mk (blk_below (g := gb732) (o := .cells #[.int .i64 t729, .int .i64 t730] 26 (0, 0)) (by (with_reducible repeat (first | refine blk_drewN ?_ _ | refine blk_drew ?_ | refine blk_alloc ?_ _)); exact BK732.out) hb); have n2_ := Aside0.mk (blk_below (g := gb735) (o := .cells #[.int .i64 t733, .int .i64 t734] 26 (0, 0)) (by (with_reducible repeat (first | refine blk_drewN ?_ _ | refine blk_drew ?_ | refine blk_alloc ?_ _)); exact BK735.out) hb); have n3_ := Aside0.mk (blk_below (g := gb738) (o := .cells #[.int .i64 t736, .int .i64 t737] 26 (0, 0)) (by (with_reducible repeat (first | refine blk_drewN ?_ _ | refine blk_drew ?_ | refine blk_alloc ?_ _)); exact BK738.out) hb); have n4_ := Aside0.mk (below_step (by repeat (first | (with_reducible first | exact HB.out | apply below_alloc | apply pw_below_drewN | apply below_drew1 | refine below_set ?_ GE731.out | refine below_set ?_ GE732.out | refine below_set ?_ GE735.out | refine below_set ?_ GE738.out) | exact HB.out)) hb); clear BK731; clear BK732; clear BK735; clear BK738; clear HB; have BK731 := n0_; have BK732 := n1_; have BK735 := n2_; have BK738 := n3_; have HB := n4_; clear n0_ n1_ n2_ n3_ n4_; (try clear hb); (try clear hb2); (try clear hk); (try clear hi); have hcz106_0 : w105.cell? ⟨gb738, 0, none⟩ = some (.int .i64 t736) := (blk_cell BK738.out 0).trans rfl; have hcz106_1 : w105.cell? ⟨gb738, 1, none⟩ = some (.int .i64 t737) := (blk_cell BK738.out 1).trans rfl; have hfz106_0 := blk_frozen BK738.out 0; have hfz106_1 := blk_frozen BK738.out 1; have hnb107 := NB732_735.out; have hnc107 := NB735_732.out; have hcz108_0 : w105.cell? ⟨gb732, 0, none⟩ = some (.int .i64 t729) := (blk_cell BK732.out 0).trans rfl; have hcz108_1 : w105.cell? ⟨gb732, 1, none⟩ = some (.int .i64 t730) := (blk_cell BK732.out 1).trans rfl; have hfz108_0 := blk_frozen BK732.out 0; have hfz108_1 := blk_frozen BK732.out 1) | (go_at_call 25; (with_reducible refine (impl_LabelFlows.calls t736 t737 t729 t730 true _ A52.out).mono ?_); rintro e w109 ⟨rfl, hb⟩; have n0_ := Aside0.mk (blk_below (g := gb731) (o := .cells #[.int .i64 t727, .int .i64 t728] 26 (0, 0)) (by (with_reducible repeat (first | refine blk_drewN ?_ _ | refine blk_drew ?_ | refine blk_alloc ?_ _)); exact BK731.out) hb); have n1_ := Aside0.mk (blk_below (g := gb732) (o := .cells #[.int .i64 t729, .int .i64 t730] 26 (0, 0)) (by (with_reducible repeat (first | refine blk_drewN ?_ _ | refine blk_drew ?_ | refine blk_alloc ?_ _)); exact BK732.out) hb); have n2_ := Aside0.mk (blk_below (g := gb735) (o := .cells #[.int .i64 t733, .int .i64 t734] 26 (0, 0)) (by (with_reducible repeat (first | refine blk_drewN ?_ _ | refine blk_drew ?_ | refine blk_alloc ?_ _)); exact BK735.out) hb); have n3_ := Aside0.mk (blk_below (g := gb738) (o := .cells #[.int .i64 t736, .int .i64 t737] 26 (0, 0)) (by (with_reducible repeat (first | refine blk_drewN ?_ _ | refine blk_drew ?_ | refine blk_alloc ?_ _)); exact BK738.out) hb); have n4_ := Aside0.mk (below_step (by repeat (first | (with_reducible first | exact HB.out | apply below_alloc | apply pw_below_drewN | apply below_drew1 | refine below_set ?_ GE731.out | refine below_set ?_ GE732.out | refine below_set ?_ GE735.out | refine below_set ?_ GE738.out) | exact HB.out)) hb); clear BK731; clear BK732; clear BK735; clear BK738; clear HB; have BK731 := n0_; have BK732 := n1_; have BK735 := n2_; have BK738 := n3_; have HB := n4_; clear n0_ n1_ n2_ n3_ n4_; (try clear hb); (try clear hb2); (try clear hk); (try clear hi); have hcz110_0 : w109.cell? ⟨gb735, 0, none⟩ = some (.int .i64 t733) := (blk_cell BK735.out 0).trans rfl; have hcz110_1 : w109.cell? ⟨gb735, 1, none⟩ = some (.int .i64 t734) := (blk_cell BK735.out 1).trans rfl; have hfz110_0 := blk_frozen BK735.out 0; have hfz110_1 := blk_frozen BK735.out 1; have hcz111_0 : w109.cell? ⟨gb731, 0, none⟩ = some (.int .i64 t727) := (blk_cell BK731.out 0).trans rfl; have hcz111_1 : w109.cell? ⟨gb731, 1, none⟩ = some (.int .i64 t728) := (blk_cell BK731.out 1).trans rfl; have hfz111_0 := blk_frozen BK731.out 0; have hfz111_1 := blk_frozen BK731.out 1) | (go_at_call 25; (with_reducible refine (impl_LabelFlows.calls t733 t734 t727 t728 false _ A54.out).mono ?_); rintro e w112 ⟨rfl, hb⟩; have n0_ := Aside0.mk (blk_below (g := gb731) (o := .cells #[.int .i64 t727, .int .i64 t728] 26 (0, 0)) (by (with_reducible repeat (first | refine blk_drewN ?_ _ | refine blk_drew ?_ | refine blk_alloc ?_ _)); exact BK731.out) hb); have n1_ := Aside0.mk (blk_below (g := gb732) (o := .cells #[.int .i64 t729, .int .i64 t730] 26 (0, 0)) (by (with_reducible repeat (first | refine blk_drewN ?_ _ | refine blk_drew ?_ | refine blk_alloc ?_ _)); exact BK732.out) hb); have n2_ := Aside0.mk (blk_below (g := gb735) (o := .cells #[.int .i64 t733, .int .i64 t734] 26 (0, 0)) (by (with_reducible repeat (first | refine blk_drewN ?_ _ | refine blk_drew ?_ | refine blk_alloc ?_ _)); exact BK735.out) hb); have n3_ := Aside0.mk (blk_below (g := gb738) (o := .cells #[.int .i64 t736, .int .i64 t737] 26 (0, 0)) (by (with_reducible repeat (first | refine blk_drewN ?_ _ | refine blk_drew ?_ | refine blk_alloc ?_ _)); exact BK738.out) hb); have n4_ := Aside0.mk (below_step (by repeat (first | (with_reducible first | exact HB.out | apply below_alloc | apply pw_below_drewN | apply below_drew1 | refine below_set ?_ GE731.out | refine below_set ?_ GE732.out | refine below_set ?_ GE735.out | refine below_set ?_ GE738.out) | exact HB.out)) hb); clear BK731; clear BK732; clear BK735; clear BK738; clear HB; have BK731 := n0_; have BK732 := n1_; have BK735 := n2_; have BK738 := n3_; have HB := n4_; clear n0_ n1_ n2_ n3_ n4_; (try clear hb); (try clear hb2); (try clear hk); (try clear hi)))
                    go_ret
                    exact ⟨by first | rfl | (simp [errW_none, errW_some] <;> rfl) | (simp [*, errW_none, errW_some] <;> rfl), by repeat (first | (with_reducible first | exact HB.out | apply below_alloc | apply pw_below_drewN | apply below_drew1 | refine below_set ?_ GE731.out | refine below_set ?_ GE732.out | refine below_set ?_ GE735.out | refine below_set ?_ GE738.out) | exact HB.out)⟩
                · replace c53 := Bool.eq_false_iff.mpr c53
                  subst c53
                  have H1 : (some false) = some r := by rw [if_neg (show ¬ (false = true) by decide)] at H; exact H
                  clear H
                  have H := H1
                  clear H1
                  obtain rfl := Option.some.inj H
                  have hnb113 := NB738_731.out
                  have hnc113 := NB731_738.out
                  have hnb114 := NB738_732.out
                  have hnc114 := NB732_738.out
                  have hnb115 := NB738_735.out
                  have hnc115 := NB735_738.out
                  have hcz116_0 : wc.cell? ⟨gb738, 0, none⟩ = some (.int .i64 t736) := (blk_cell BK738.out 0).trans rfl
                  have hcz116_1 : wc.cell? ⟨gb738, 1, none⟩ = some (.int .i64 t737) := (blk_cell BK738.out 1).trans rfl
                  have hfz116_0 := blk_frozen BK738.out 0
                  have hfz116_1 := blk_frozen BK738.out 1
                  have hnb117 := NB731_732.out
                  have hnc117 := NB732_731.out
                  have hnb118 := NB731_735.out
                  have hnc118 := NB735_731.out
                  have hcz119_0 : wc.cell? ⟨gb731, 0, none⟩ = some (.int .i64 t727) := (blk_cell BK731.out 0).trans rfl
                  have hcz119_1 : wc.cell? ⟨gb731, 1, none⟩ = some (.int .i64 t728) := (blk_cell BK731.out 1).trans rfl
                  have hfz119_0 := blk_frozen BK731.out 0
                  have hfz119_1 := blk_frozen BK731.out 1
                  go_wp2_with (first | ((with_reducible refine gate_callee (f := 25) rfl ?_); refine goesL_ (some 49) rfl rfl Try.func25 (by kernel_rfl) rfl #[.agg #[.int .i64 t736, .int .i64 t737], .agg #[.int .i64 t727, .int .i64 t728]] rfl (by (try simp only [List.map_toArray, List.map_cons, List.map_nil]); first | done | rfl | (simp only [List.length_drop, List.length_take]; rfl)) ?_; (with_reducible refine (impl_LabelFlows.calls t736 t737 t727 t728 true _ A50.out).mono ?_); rintro e w120 ⟨rfl, hb⟩; refine ⟨_, rfl, ?_⟩; have n0_ := Aside0.mk (blk_below (g := gb731) (o := .cells #[.int .i64 t727, .int .i64 t728] 26 (0, 0)) (by (with_reducible repeat (first | refine blk_drewN ?_ _ | refine blk_drew ?_ | refine blk_alloc ?_ _)); exact BK731.out) hb); have n1_ := Aside0.mk (blk_below (g := gb732) (o := .cells #[.int .i64 t729, .int .i64 t730] 26 (0, 0)) (by (with_reducible repeat (first | refine blk_drewN ?_ _ | refine blk_drew ?_ | refine blk_alloc ?_ _)); exact BK732.out) hb); have n2_ := Aside0.mk (blk_below (g := gb735) (o := .cells #[.int .i64 t733, .int .i64 t734] 26 (0, 0)) (by (with_reducible repeat (first | refine blk_drewN ?_ _ | refine blk_drew ?_ | refine blk_alloc ?_ _)); exact BK735.out) hb); have n3_ := Aside0.mk (blk_below (g := gb738) (o := .cells #[.int .i64 t736, .int .i64 t737] 26 (0, 0)) (by (with_reducible repeat (first | refine blk_drewN ?_ _ | refine blk_drew ?_ | refine blk_alloc ?_ _)); exact BK738.out) hb); have n4_ := Aside0.mk (below_step (by repeat (first | (with_reducible first | exact HB.out | apply below_alloc | apply pw_below_drewN | apply below_drew1 | refine below_set ?_ GE731.out | refine below_set ?_ GE732.out | refine below_set ?_ GE735.out | refine below_set ?_ GE738.out) | exact HB.out)) hb); clear BK731; clear BK732; clear BK735; clear BK738; clear HB; have BK731 := n0_; have BK732 := n1_; have BK735 := n2_; have BK738 := n3_; have HB := n4_; clear n0_ n1_ n2_ n3_ n4_; (try clear hb); (try clear hb2); (try clear hk); (try clear hi); have hcz121_0 : w120.cell? ⟨gb738, 0, none⟩ = some (.int .i64 t736) := (blk_cell BK738.out 0).trans rfl; have hcz121_1 : w120.cell? ⟨gb738, 1, none⟩ = some (.int .i64 t737) := (blk_cell BK738.out 1).trans rfl; have hfz121_0 := blk_frozen BK738.out 0; have hfz121_1 := blk_frozen BK738.out 1; have hnb122 := NB732_735.out; have hnc122 := NB735_732.out; have hcz123_0 : w120.cell? ⟨gb732, 0, none⟩ = some (.int .i64 t729) := (blk_cell BK732.out 0).trans rfl; have hcz123_1 : w120.cell? ⟨gb732, 1, none⟩ = some (.int .i64 t730) := (blk_cell BK732.out 1).trans rfl; have hfz123_0 := blk_frozen BK732.out 0; have hfz123_1 := blk_frozen BK732.out 1) | (go_at_call 25; (with_reducible refine (impl_LabelFlows.calls t736 t737 t729 t730 false _ A52.out).mono ?_); rintro e w124 ⟨rfl, hb⟩; have n0_ := Aside0.mk (blk_below (g := gb731) (o := .cells #[.int .i64 t727, .int .i64 t728] 26 (0, 0)) (by (with_reducible repeat (first | refine blk_drewN ?_ _ | refine blk_drew ?_ | refine blk_alloc ?_ _)); exact BK731.out) hb); have n1_ := Aside0.mk (blk_below (g := gb732) (o := .cells #[.int .i64 t729, .int .i64 t730] 26 (0, 0)) (by (with_reducible repeat (first | refine blk_drewN ?_ _ | refine blk_drew ?_ | refine blk_alloc ?_ _)); exact BK732.out) hb); have n2_ := Aside0.mk (blk_below (g := gb735) (o := .cells #[.int .i64 t733, .int .i64 t734] 26 (0, 0)) (by (with_reducible repeat (first | refine blk_drewN ?_ _ | refine blk_drew ?_ | refine blk_alloc ?_ _)); exact BK735.out) hb); have n3_ := Aside0.mk (blk_below (g := gb738) (o := .cells #[.int .i64 t736, .int .i64 t737] 26 (0, 0)) (by (with_reducible repeat (first | refine blk_drewN ?_ _ | refine blk_drew ?_ | refine blk_alloc ?_ _)); exact BK738.out) hb); have n4_ := Aside0.mk (below_step (by repeat (first | (with_reducible first | exact HB.out | apply below_alloc | apply pw_below_drewN | apply below_drew1 | refine below_set ?_ GE731.out | refine below_set ?_ GE732.out | refine below_set ?_ GE735.out | refine below_set ?_ GE738.out) | exact HB.out)) hb); clear BK731; clear BK732; clear BK735; clear BK738; clear HB; have BK731 := n0_; have BK732 := n1_; have BK735 := n2_; have BK738 := n3_; have HB := n4_; clear n0_ n1_ n2_ n3_ n4_; (try clear hb); (try clear hb2); (try clear hk); (try clear hi)))
                  go_ret
                  exact ⟨by first | rfl | (simp [errW_none, errW_some] <;> rfl) | (simp [*, errW_none, errW_some] <;> rfl), by repeat (first | (with_reducible first | exact HB.out | apply below_alloc | apply pw_below_drewN | apply below_drew1 | refine below_set ?_ GE731.out | refine below_set ?_ GE732.out | refine below_set ?_ GE735.out | refine below_set ?_ GE738.out) | exact HB.out)⟩
              · replace c51 := Bool.eq_false_iff.mpr c51
                subst c51
                have H1 : (some false) = some r := by rw [if_neg (show ¬ (false = true) by decide)] at H; exact H
                clear H
                have H := H1
                clear H1
                obtain rfl := Option.some.inj H
                have hnb125 := NB738_731.out
                have hnc125 := NB731_738.out
                have hnb126 := NB738_732.out
                have hnc126 := NB732_738.out
                have hnb127 := NB738_735.out
                have hnc127 := NB735_738.out
                have hcz128_0 : wc.cell? ⟨gb738, 0, none⟩ = some (.int .i64 t736) := (blk_cell BK738.out 0).trans rfl
                have hcz128_1 : wc.cell? ⟨gb738, 1, none⟩ = some (.int .i64 t737) := (blk_cell BK738.out 1).trans rfl
                have hfz128_0 := blk_frozen BK738.out 0
                have hfz128_1 := blk_frozen BK738.out 1
                have hnb129 := NB731_732.out
                have hnc129 := NB732_731.out
                have hnb130 := NB731_735.out
                have hnc130 := NB735_731.out
                have hcz131_0 : wc.cell? ⟨gb731, 0, none⟩ = some (.int .i64 t727) := (blk_cell BK731.out 0).trans rfl
                have hcz131_1 : wc.cell? ⟨gb731, 1, none⟩ = some (.int .i64 t728) := (blk_cell BK731.out 1).trans rfl
                have hfz131_0 := blk_frozen BK731.out 0
                have hfz131_1 := blk_frozen BK731.out 1
                go_wp2_with (first | ((with_reducible refine gate_callee (f := 25) rfl ?_); refine goesL_ (some 49) rfl rfl Try.func25 (by kernel_rfl) rfl #[.agg #[.int .i64 t736, .int .i64 t737], .agg #[.int .i64 t727, .int .i64 t728]] rfl (by (try simp only [List.map_toArray, List.map_cons, List.map_nil]); first | done | rfl | (simp only [List.length_drop, List.length_take]; rfl)) ?_; (with_reducible refine (impl_LabelFlows.calls t736 t737 t727 t728 false _ A50.out).mono ?_); rintro e w132 ⟨rfl, hb⟩; refine ⟨_, rfl, ?_⟩; have n0_ := Aside0.mk (blk_below (g := gb731) (o := .cells #[.int .i64 t727, .int .i64 t728] 26 (0, 0)) (by (with_reducible repeat (first | refine blk_drewN ?_ _ | refine blk_drew ?_ | refine blk_alloc ?_ _)); exact BK731.out) hb); have n1_ := Aside0.mk (blk_below (g := gb732) (o := .cells #[.int .i64 t729, .int .i64 t730] 26 (0, 0)) (by (with_reducible repeat (first | refine blk_drewN ?_ _ | refine blk_drew ?_ | refine blk_alloc ?_ _)); exact BK732.out) hb); have n2_ := Aside0.mk (blk_below (g := gb735) (o := .cells #[.int .i64 t733, .int .i64 t734] 26 (0, 0)) (by (with_reducible repeat (first | refine blk_drewN ?_ _ | refine blk_drew ?_ | refine blk_alloc ?_ _)); exact BK735.out) hb); have n3_ := Aside0.mk (blk_below (g := gb738) (o := .cells #[.int .i64 t736, .int .i64 t737] 26 (0, 0)) (by (with_reducible repeat (first | refine blk_drewN ?_ _ | refine blk_drew ?_ | refine blk_alloc ?_ _)); exact BK738.out) hb); have n4_ := Aside0.mk (below_step (by repeat (first | (with_reducible first | exact HB.out | apply below_alloc | apply pw_below_drewN | apply below_drew1 | refine below_set ?_ GE731.out | refine below_set ?_ GE732.out | refine below_set ?_ GE735.out | refine below_set ?_ GE738.out) | exact HB.out)) hb); clear BK731; clear BK732; clear BK735; clear BK738; clear HB; have BK731 := n0_; have BK732 := n1_; have BK735 := n2_; have BK738 := n3_; have HB := n4_; clear n0_ n1_ n2_ n3_ n4_; (try clear hb); (try clear hb2); (try clear hk); (try clear hi)))
                go_ret
                exact ⟨by first | rfl | (simp [errW_none, errW_some] <;> rfl) | (simp [*, errW_none, errW_some] <;> rfl), by repeat (first | (with_reducible first | exact HB.out | apply below_alloc | apply pw_below_drewN | apply below_drew1 | refine below_set ?_ GE731.out | refine below_set ?_ GE732.out | refine below_set ?_ GE735.out | refine below_set ?_ GE738.out) | exact HB.out)⟩

end Go.Proofs.Ytcndpbegmdcelaa.A
