/- What Go functions compute, as Lean functions, and for each its contract: for every input at which the Lean function answers the call returns that; written by wip/tools/pr.py over the kit's print. -/
import Derived.Test.YtcffnnedghgmaaaAx0
import Derived.Test.YtcffnnedghgmaaaAx1
import Derived.Test.YtcffnnedghgmaaaAx2
import Derived.Test.YtcffnnedghgmaaaAx4
import Derived.Test.YtcffnnedghgmaaaAx5
namespace Go.Proofs.Ytcffnnedghgmaaa.A
open Go.RowKit Go.Proofs.YtcffnnedghgmaaaW.PrintWords Go.Proofs.YtcffnnedghgmaaaW.PrintLast Go.Proofs.YtcffnnedghgmaaaW.PrintMore
attribute [local go_sem] max2_int min2_int max_two min_two max_three min_three max_four min_four   -- for this text's walks alone
set_option linter.unusedVariables false
set_option linter.unusedSimpArgs false

attribute [local go_sem high] eqA57
/-! ### impl_Prog_stepsOk: function 90 -/
mutual
def impl_Prog_stepsOk.l0 : Nat → Int → List (S59) → Int → Int → List (S35) → List (S59) → Option (Bool)
  | 0, _, _, _, _, _, _ => none
  | k + 1, x2, x10, x11, x12, x123000, x123001 => if x12 < x11 then (if 0 ≤ x12 then (if x12 < (x10.length : Int) then (if x2 < 1 then (impl_Prog_stepsOk.j1 k x2 x10 x11 x12 true x123000 x123001 ((rd_T59 x10 x12).f0) ((rd_T59 x10 x12).f1) ((rd_T59 x10 x12).f2.f0) ((rd_T59 x10 x12).f2.f1) ((rd_T59 x10 x12).f2.f2) ((rd_T59 x10 x12).f3) ((rd_T59 x10 x12).f4) ((rd_T59 x10 x12).f5)) else ((impl_Prog_isVar.f x123000 x123001 ((rd_T59 x10 x12).f1)).bind fun t125 => (if t125 = true then (if ((rd_T59 x10 x12).f0) = 1 then (if ((rd_T59 x10 x12).f0) = 3 then (if ((rd_T59 x10 x12).f0) = 2 then (impl_Prog_stepsOk.j1 k x2 x10 x11 x12 false x123000 x123001 ((rd_T59 x10 x12).f0) ((rd_T59 x10 x12).f1) ((rd_T59 x10 x12).f2.f0) ((rd_T59 x10 x12).f2.f1) ((rd_T59 x10 x12).f2.f2) ((rd_T59 x10 x12).f3) ((rd_T59 x10 x12).f4) ((rd_T59 x10 x12).f5)) else (impl_Prog_stepsOk.j1 k x2 x10 x11 x12 (decide ((wrap64 ((((rd_T59 x10 x12).f4).length : Int) + (((rd_T59 x10 x12).f5).length : Int))) > 0)) x123000 x123001 ((rd_T59 x10 x12).f0) ((rd_T59 x10 x12).f1) ((rd_T59 x10 x12).f2.f0) ((rd_T59 x10 x12).f2.f1) ((rd_T59 x10 x12).f2.f2) ((rd_T59 x10 x12).f3) ((rd_T59 x10 x12).f4) ((rd_T59 x10 x12).f5))) else (if ((rd_T59 x10 x12).f3) = 0 then (if ((rd_T59 x10 x12).f0) = 2 then (impl_Prog_stepsOk.j1 k x2 x10 x11 x12 false x123000 x123001 ((rd_T59 x10 x12).f0) ((rd_T59 x10 x12).f1) ((rd_T59 x10 x12).f2.f0) ((rd_T59 x10 x12).f2.f1) ((rd_T59 x10 x12).f2.f2) ((rd_T59 x10 x12).f3) ((rd_T59 x10 x12).f4) ((rd_T59 x10 x12).f5)) else (impl_Prog_stepsOk.j1 k x2 x10 x11 x12 (decide ((wrap64 ((((rd_T59 x10 x12).f4).length : Int) + (((rd_T59 x10 x12).f5).length : Int))) > 0)) x123000 x123001 ((rd_T59 x10 x12).f0) ((rd_T59 x10 x12).f1) ((rd_T59 x10 x12).f2.f0) ((rd_T59 x10 x12).f2.f1) ((rd_T59 x10 x12).f2.f2) ((rd_T59 x10 x12).f3) ((rd_T59 x10 x12).f4) ((rd_T59 x10 x12).f5))) else (impl_Prog_stepsOk.j1 k x2 x10 x11 x12 true x123000 x123001 ((rd_T59 x10 x12).f0) ((rd_T59 x10 x12).f1) ((rd_T59 x10 x12).f2.f0) ((rd_T59 x10 x12).f2.f1) ((rd_T59 x10 x12).f2.f2) ((rd_T59 x10 x12).f3) ((rd_T59 x10 x12).f4) ((rd_T59 x10 x12).f5)))) else (if (!(((rd_T59 x10 x12).f2.f0) == 0) || (!(((rd_T59 x10 x12).f2.f1) == 0) || (!(((rd_T59 x10 x12).f2.f2) == 0)))) = true then (impl_Prog_stepsOk.j1 k x2 x10 x11 x12 true x123000 x123001 ((rd_T59 x10 x12).f0) ((rd_T59 x10 x12).f1) ((rd_T59 x10 x12).f2.f0) ((rd_T59 x10 x12).f2.f1) ((rd_T59 x10 x12).f2.f2) ((rd_T59 x10 x12).f3) ((rd_T59 x10 x12).f4) ((rd_T59 x10 x12).f5)) else (if ((rd_T59 x10 x12).f0) = 3 then (if ((rd_T59 x10 x12).f0) = 2 then (impl_Prog_stepsOk.j1 k x2 x10 x11 x12 false x123000 x123001 ((rd_T59 x10 x12).f0) ((rd_T59 x10 x12).f1) ((rd_T59 x10 x12).f2.f0) ((rd_T59 x10 x12).f2.f1) ((rd_T59 x10 x12).f2.f2) ((rd_T59 x10 x12).f3) ((rd_T59 x10 x12).f4) ((rd_T59 x10 x12).f5)) else (impl_Prog_stepsOk.j1 k x2 x10 x11 x12 (decide ((wrap64 ((((rd_T59 x10 x12).f4).length : Int) + (((rd_T59 x10 x12).f5).length : Int))) > 0)) x123000 x123001 ((rd_T59 x10 x12).f0) ((rd_T59 x10 x12).f1) ((rd_T59 x10 x12).f2.f0) ((rd_T59 x10 x12).f2.f1) ((rd_T59 x10 x12).f2.f2) ((rd_T59 x10 x12).f3) ((rd_T59 x10 x12).f4) ((rd_T59 x10 x12).f5))) else (if ((rd_T59 x10 x12).f3) = 0 then (if ((rd_T59 x10 x12).f0) = 2 then (impl_Prog_stepsOk.j1 k x2 x10 x11 x12 false x123000 x123001 ((rd_T59 x10 x12).f0) ((rd_T59 x10 x12).f1) ((rd_T59 x10 x12).f2.f0) ((rd_T59 x10 x12).f2.f1) ((rd_T59 x10 x12).f2.f2) ((rd_T59 x10 x12).f3) ((rd_T59 x10 x12).f4) ((rd_T59 x10 x12).f5)) else (impl_Prog_stepsOk.j1 k x2 x10 x11 x12 (decide ((wrap64 ((((rd_T59 x10 x12).f4).length : Int) + (((rd_T59 x10 x12).f5).length : Int))) > 0)) x123000 x123001 ((rd_T59 x10 x12).f0) ((rd_T59 x10 x12).f1) ((rd_T59 x10 x12).f2.f0) ((rd_T59 x10 x12).f2.f1) ((rd_T59 x10 x12).f2.f2) ((rd_T59 x10 x12).f3) ((rd_T59 x10 x12).f4) ((rd_T59 x10 x12).f5))) else (impl_Prog_stepsOk.j1 k x2 x10 x11 x12 true x123000 x123001 ((rd_T59 x10 x12).f0) ((rd_T59 x10 x12).f1) ((rd_T59 x10 x12).f2.f0) ((rd_T59 x10 x12).f2.f1) ((rd_T59 x10 x12).f2.f2) ((rd_T59 x10 x12).f3) ((rd_T59 x10 x12).f4) ((rd_T59 x10 x12).f5)))))) else (impl_Prog_stepsOk.j1 k x2 x10 x11 x12 true x123000 x123001 ((rd_T59 x10 x12).f0) ((rd_T59 x10 x12).f1) ((rd_T59 x10 x12).f2.f0) ((rd_T59 x10 x12).f2.f1) ((rd_T59 x10 x12).f2.f2) ((rd_T59 x10 x12).f3) ((rd_T59 x10 x12).f4) ((rd_T59 x10 x12).f5))))) else (none)) else (none)) else (some true)
def impl_Prog_stepsOk.j1 : Nat → Int → List (S59) → Int → Int → Bool → List (S35) → List (S59) → Int → Int → Int → Int → Int → Int → List (S59) → List (S59) → Option (Bool)
  | 0, _, _, _, _, _, _, _, _, _, _, _, _, _, _, _ => none
  | k + 1, x2, x10, x11, x12, x60, x123000, x123001, x125000, x125001, x125002, x125003, x125004, x125005, x125006, x125007 => if x60 = true then (some false) else (if x125000 = 1 then ((impl_Prog_valOk.f x123000 x123001 x125002 x125003 x125004).bind fun t126 => (if t126 = true then (impl_Prog_stepsOk.l0 k x2 x10 x11 (wrap64 (x12 + 1)) x123000 x123001) else (some false))) else (if x125000 = 2 then ((impl_Prog_stepsOk.f k x123000 x123001 x125006 (wrap64 (x2 - 1))).bind fun t127 => (if t127 = true then ((impl_Prog_stepsOk.f k x123000 x123001 x125007 (wrap64 (x2 - 1))).bind fun t128 => (if t128 = true then (impl_Prog_stepsOk.l0 k x2 x10 x11 (wrap64 (x12 + 1)) x123000 x123001) else (some false))) else (some false))) else (if x125000 = 3 then ((impl_isHost.f x125005).bind fun t129 => (if t129 = true then (impl_Prog_stepsOk.l0 k x2 x10 x11 (wrap64 (x12 + 1)) x123000 x123001) else (some false))) else (some false))))
def impl_Prog_stepsOk.f : Nat → List (S35) → List (S59) → List (S59) → Int → Option (Bool)
  | 0, _, _, _, _ => none
  | k + 1, l0_0, l0_1, l1, a2 => impl_Prog_stepsOk.l0 k a2 l1 (l1.length : Int) 0 l0_0 l0_1
end
theorem impl_Prog_stepsOk.mono_l : ∀ k, (∀ y0 y1 y2 y3, LeO (impl_Prog_stepsOk.f k y0 y1 y2 y3) (impl_Prog_stepsOk.f (k + 1) y0 y1 y2 y3)) ∧ (∀ y0 y1 y2 y3 y4 y5, LeO (impl_Prog_stepsOk.l0 k y0 y1 y2 y3 y4 y5) (impl_Prog_stepsOk.l0 (k + 1) y0 y1 y2 y3 y4 y5)) ∧ (∀ y0 y1 y2 y3 y4 y5 y6 y7 y8 y9 y10 y11 y12 y13 y14, LeO (impl_Prog_stepsOk.j1 k y0 y1 y2 y3 y4 y5 y6 y7 y8 y9 y10 y11 y12 y13 y14) (impl_Prog_stepsOk.j1 (k + 1) y0 y1 y2 y3 y4 y5 y6 y7 y8 y9 y10 y11 y12 y13 y14))
  | 0 => ⟨fun _ _ _ _ r h => by simp [impl_Prog_stepsOk.f] at h, fun _ _ _ _ _ _ r h => by simp [impl_Prog_stepsOk.l0] at h, fun _ _ _ _ _ _ _ _ _ _ _ _ _ _ _ r h => by simp [impl_Prog_stepsOk.j1] at h⟩
  | k + 1 => by
    obtain ⟨ih0, ih1, ih2⟩ := impl_Prog_stepsOk.mono_l k
    refine ⟨?_, ?_, ?_⟩
    · intro y0 y1 y2 y3
      unfold impl_Prog_stepsOk.f
      repeat' first
      | (with_reducible exact ih0 _ _ _ _)
      | (with_reducible exact ih1 _ _ _ _ _ _)
      | (with_reducible exact ih2 _ _ _ _ _ _ _ _ _ _ _ _ _ _ _)
      | (with_reducible exact LeO.refl _)
      | (with_reducible exact LeO.none _)
      | (with_reducible refine LeO.ite ?_ ?_)
      | (with_reducible refine LeO.bind ?_ (fun _ => ?_))
      | exact ih0 _ _ _ _
      | exact ih1 _ _ _ _ _ _
      | exact ih2 _ _ _ _ _ _ _ _ _ _ _ _ _ _ _
      | exact LeO.none _
      | refine LeO.ite ?_ ?_
      | refine LeO.bind ?_ (fun _ => ?_)
    · intro y0 y1 y2 y3 y4 y5
      unfold impl_Prog_stepsOk.l0
      repeat' first
      | (with_reducible exact ih0 _ _ _ _)
      | (with_reducible exact ih1 _ _ _ _ _ _)
      | (with_reducible exact ih2 _ _ _ _ _ _ _ _ _ _ _ _ _ _ _)
      | (with_reducible exact LeO.refl _)
      | (with_reducible exact LeO.none _)
      | (with_reducible refine LeO.ite ?_ ?_)
      | (with_reducible refine LeO.bind ?_ (fun _ => ?_))
      | exact ih0 _ _ _ _
      | exact ih1 _ _ _ _ _ _
      | exact ih2 _ _ _ _ _ _ _ _ _ _ _ _ _ _ _
      | exact LeO.none _
      | refine LeO.ite ?_ ?_
      | refine LeO.bind ?_ (fun _ => ?_)
    · intro y0 y1 y2 y3 y4 y5 y6 y7 y8 y9 y10 y11 y12 y13 y14
      unfold impl_Prog_stepsOk.j1
      repeat' first
      | (with_reducible exact ih0 _ _ _ _)
      | (with_reducible exact ih1 _ _ _ _ _ _)
      | (with_reducible exact ih2 _ _ _ _ _ _ _ _ _ _ _ _ _ _ _)
      | (with_reducible exact LeO.refl _)
      | (with_reducible exact LeO.none _)
      | (with_reducible refine LeO.ite ?_ ?_)
      | (with_reducible refine LeO.bind ?_ (fun _ => ?_))
      | exact ih0 _ _ _ _
      | exact ih1 _ _ _ _ _ _
      | exact ih2 _ _ _ _ _ _ _ _ _ _ _ _ _ _ _
      | exact LeO.none _
      | refine LeO.ite ?_ ?_
      | refine LeO.bind ?_ (fun _ => ?_)
theorem impl_Prog_stepsOk.mono : ∀ a0 a1 a2 a3 k, LeO (impl_Prog_stepsOk.f k a0 a1 a2 a3) (impl_Prog_stepsOk.f (k + 1) a0 a1 a2 a3) := by
  intro a0 a1 a2 a3 k
  obtain ⟨ih0, ih1, ih2⟩ := impl_Prog_stepsOk.mono_l k
  exact ih0 a0 a1 a2 a3
set_option maxHeartbeats 8000000 in
set_option maxRecDepth 100000 in
theorem impl_Prog_stepsOk.calls (k : Nat) : ∀ (A0_0 : Option Addr) (c0_0 : Nat) (l0_0 : List (S35)) (A0_1 : Option Addr) (c0_1 : Nat) (l0_1 : List (S59)) (A1 : Option Addr) (c1 : Nat) (l1 : List (S59)) (a2 : Int) (r : Bool) (w : World) (hr0_0 : Kd.C k35 w A0_0 l0_0.length l0_0) (hc0_0 : l0_0.length ≤ c0_0) (hr0_1 : Kd.C k59 w A0_1 l0_1.length l0_1) (hc0_1 : l0_1.length ≤ c0_1) (hr1 : Kd.C k59 w A1 l1.length l1) (hc1 : l1.length ≤ c1) (h : impl_Prog_stepsOk.f k l0_0 l0_1 l1 a2 = some r),
    Calls Try.prog 90 #[.agg #[.slice A0_0 l0_0.length c0_0, .slice A0_1 l0_1.length c0_1], .slice A1 l1.length c1, .int .i64 a2] w fun e w' => e = .returned (.bool r) ∧ Below w.heap.size w w' := by
  induction k using Nat.strongRecOn with
  | _ k ih =>
  intro A0_0 c0_0 l0_0 A0_1 c0_1 l0_1 A1 c1 l1 a2 r w hr0_0 hc0_0 hr0_1 hc0_1 hr1 hc1 h
  cases k with
  | zero => exact absurd h (by simp [impl_Prog_stepsOk.f])
  | succ k =>
  simp only [impl_Prog_stepsOk.f] at h
  have hu26 := Try.underlying26
  have hu59 := Try.underlying59
  have hu57 := Try.underlying57
  have HR0_0 := Aside0.mk hr0_0
  have HC0_0 := Aside0.mk hc0_0
  clear hr0_0 hc0_0
  have HR0_1 := Aside0.mk hr0_1
  have HC0_1 := Aside0.mk hc0_1
  clear hr0_1 hc0_1
  have HR1 := Aside0.mk hr1
  have HC1 := Aside0.mk hc1
  clear hr1 hc1
  have HB := Aside0.mk (Below.refl w.heap.size w)
  have H : (impl_Prog_stepsOk.l0 k a2 l1 (l1.length : Int) 0 l0_0 l0_1) = some r := h
  clear h
  have H' := Aside0.mk H
  clear H
  go_enter Try.func90, Try.ntmps90
  go_wp2_with (first | ((with_reducible refine gate_dst (N := 3) rfl ?_); refine box_event ?hg (N := 3) ?hd (cs := #[.slice A0_0 l0_0.length c0_0, .slice A0_1 l0_1.length c0_1]) (t := 26) ?hr ?_; (case hd => rfl); (case hg => rfl); (case hr => first | (go_simp; done) | (go_simp; rfl)); intro gb122 hg w4 hbox hb; have n0_ := Aside0.mk (below_step (by repeat (first | (with_reducible first | exact HB.out | apply below_alloc | apply pw_below_drewN | apply below_drew1) | exact HB.out)) hb); have n1_ := Aside0.mk (hbox); have n2_ := Aside0.mk ((by rw [hg]; exact (below_size (by repeat (first | (with_reducible first | exact HB.out | apply below_alloc | apply pw_below_drewN | apply below_drew1) | exact HB.out))) : w.heap.size ≤ gb122)); have n3_ := Aside0.mk ((by rw [hg]; exact (below_size (by repeat (first | (with_reducible first | exact HB.out | apply below_alloc | apply pw_below_drewN | apply below_drew1) | exact HB.out))) : w.heap.size ≤ gb122)); clear HB; have HB := n0_; have BK122 := n1_; have GW122 := n2_; have GE122 := n3_; clear n0_ n1_ n2_ n3_; clear hb hbox hg))
  go_loopg [12] k (fun kq v12 w' => ∃ (x12_1 : Int), v12 = .int .i64 x12_1 ∧ Aside0 (impl_Prog_stepsOk.l0 kq a2 l1 (l1.length : Int) x12_1 l0_0 l0_1 = some r) ∧ Aside0 (kq ≤ k) ∧ Aside0 (w'.heap[gb122]? = some (.cells #[(.slice A0_0 l0_0.length c0_0), (.slice A0_1 l0_1.length c0_1)] 26 (0, 0))) ∧ Aside0 (Below w.heap.size w w'))
  case atStart => exact ⟨(0), (by first | rfl | (simp; done) | (simp [*]; done)), H', ⟨Nat.le_refl _⟩, ⟨by (with_reducible repeat (first | refine blk_drewN ?_ _ | refine blk_drew ?_ | refine blk_alloc ?_ _)); exact BK122.out⟩, ⟨by repeat (first | (with_reducible first | exact HB.out | apply below_alloc | apply pw_below_drewN | apply below_drew1 | refine below_set ?_ GE122.out) | exact HB.out)⟩⟩
  case round =>
    clear H'
    try clear c1
    try clear p2
    obtain ⟨x12_1, rfl, HA, HK1, BK122, HB⟩ := hrel
    cases gk with
    | zero => exact absurd HA.out (by simp [impl_Prog_stepsOk.l0])
    | succ k1 =>
      have H := HA.out
      clear HA
      simp only [impl_Prog_stepsOk.l0] at H
      by_cases c5 : x12_1 < (l1.length : Int)
      · rw [if_pos c5] at H
        have c5b0 : decide (x12_1 < (l1.length : Int)) = true := decide_eq_true c5
        clear c5
        by_cases c6 : 0 ≤ x12_1
        · rw [if_pos c6] at H
          have c6b0 : decide (0 ≤ x12_1) = true := decide_eq_true c6
          clear c6
          by_cases c7 : x12_1 < (l1.length : Int)
          · rw [if_pos c7] at H
            have c7b0 : decide (x12_1 < (l1.length : Int)) = true := decide_eq_true c7
            clear c7
            have HC8 := Aside0.mk H
            clear H
            have p123 : 0 ≤ (x12_1 : Int) := of_decide_eq_true (by first | (with_reducible assumption) | assumption)
            have q123 : x12_1 < (l1.length : Int) := of_decide_eq_true (by first | (with_reducible assumption) | assumption)
            obtain ⟨ad123, A123_6, c123_6, A123_7, c123_7, e123, hx123_0, hx123_1, hx123_2, hx123_3, hx123_4, hx123_5, hx123_6, hx123_7, hl123_6, hi123_6, hl123_7, hi123_7⟩ := at_T59 HR1.out x12_1 p123 q123
            cases e123
            replace hx123_0 := (HB.out.cell (World.block_lt_of_cell? w _ hx123_0)).trans hx123_0
            replace hx123_1 := (HB.out.cell (World.block_lt_of_cell? w _ hx123_1)).trans hx123_1
            replace hx123_2 := (HB.out.cell (World.block_lt_of_cell? w _ hx123_2)).trans hx123_2
            replace hx123_3 := (HB.out.cell (World.block_lt_of_cell? w _ hx123_3)).trans hx123_3
            replace hx123_4 := (HB.out.cell (World.block_lt_of_cell? w _ hx123_4)).trans hx123_4
            replace hx123_5 := (HB.out.cell (World.block_lt_of_cell? w _ hx123_5)).trans hx123_5
            replace hx123_6 := (HB.out.cell (World.block_lt_of_cell? w _ hx123_6)).trans hx123_6
            replace hx123_7 := (HB.out.cell (World.block_lt_of_cell? w _ hx123_7)).trans hx123_7
            have HR123_6 := Aside0.mk hi123_6
            have HC123_6 := Aside0.mk hl123_6
            clear hi123_6 hl123_6
            have HR123_7 := Aside0.mk hi123_7
            have HC123_7 := Aside0.mk hl123_7
            clear hi123_7 hl123_7
            replace p123 := eq_true p123
            replace q123 := eq_true q123
            go_upto_region 4 with (first | ((with_reducible refine gate_dst (N := 8) rfl ?_); refine box_event ?hg (N := 8) ?hd (cs := #[.int .i64 0, .int .i64 0, .int .i64 0, .int .i64 0, .int .i64 0, .int .i64 0, .slice none 0 0, .slice none 0 0]) (t := 59) ?hr ?_; (case hd => rfl); (case hg => rfl); (case hr => first | (go_simp; done) | (go_simp; rfl)); intro gb124 hg w9 hbox hb; have n0_ := Aside0.mk (blk_below (g := gb122) (o := .cells #[.slice A0_0 l0_0.length c0_0, .slice A0_1 l0_1.length c0_1] 26 (0, 0)) (by (with_reducible repeat (first | refine blk_drewN ?_ _ | refine blk_drew ?_ | refine blk_alloc ?_ _)); exact BK122.out) hb); have n1_ := Aside0.mk (below_step (by repeat (first | (with_reducible first | exact HB.out | apply below_alloc | apply pw_below_drewN | apply below_drew1 | refine below_set ?_ GE122.out) | exact HB.out)) hb); have n2_ := Aside0.mk (hbox); have n3_ := Aside0.mk ((by rw [hg]; exact (below_size (by repeat (first | (with_reducible first | exact HB.out | apply below_alloc | apply pw_below_drewN | apply below_drew1 | refine below_set ?_ GE122.out) | exact HB.out))) : w.heap.size ≤ gb124)); have n4_ := Aside0.mk ((by rw [hg]; exact (below_size (by repeat (first | (with_reducible first | exact HB.out | apply below_alloc | apply pw_below_drewN | apply below_drew1 | refine below_set ?_ GE122.out) | exact HB.out))) : w.heap.size ≤ gb124)); have n5_ := Aside0.mk ((by rw [hg]; exact Nat.ne_of_lt (blk_lt (g := gb122) (o := .cells #[.slice A0_0 l0_0.length c0_0, .slice A0_1 l0_1.length c0_1] 26 (0, 0)) (by (with_reducible repeat (first | refine blk_drewN ?_ _ | refine blk_drew ?_ | refine blk_alloc ?_ _)); exact BK122.out)) : gb122 ≠ gb124)); have n6_ := Aside0.mk ((by rw [hg]; exact Nat.ne_of_gt (blk_lt (g := gb122) (o := .cells #[.slice A0_0 l0_0.length c0_0, .slice A0_1 l0_1.length c0_1] 26 (0, 0)) (by (with_reducible repeat (first | refine blk_drewN ?_ _ | refine blk_drew ?_ | refine blk_alloc ?_ _)); exact BK122.out)) : gb124 ≠ gb122)); clear BK122; clear HB; have BK122 := n0_; have HB := n1_; have BK124 := n2_; have GW124 := n3_; have GE124 := n4_; have NB122_124 := n5_; have NB124_122 := n6_; clear n0_ n1_ n2_ n3_ n4_ n5_ n6_; clear hb hbox hg; have hnb10 := NB124_122.out; have hnc10 := NB122_124.out; have hcz11_0 : w9.cell? ⟨gb124, 0, none⟩ = some (.int .i64 0) := (blk_cell BK124.out 0).trans rfl; have hcz11_1 : w9.cell? ⟨gb124, 1, none⟩ = some (.int .i64 0) := (blk_cell BK124.out 1).trans rfl; have hcz11_2 : w9.cell? ⟨gb124, 2, none⟩ = some (.int .i64 0) := (blk_cell BK124.out 2).trans rfl; have hcz11_3 : w9.cell? ⟨gb124, 3, none⟩ = some (.int .i64 0) := (blk_cell BK124.out 3).trans rfl; have hcz11_4 : w9.cell? ⟨gb124, 4, none⟩ = some (.int .i64 0) := (blk_cell BK124.out 4).trans rfl; have hcz11_5 : w9.cell? ⟨gb124, 5, none⟩ = some (.int .i64 0) := (blk_cell BK124.out 5).trans rfl; have hcz11_6 : w9.cell? ⟨gb124, 6, none⟩ = some (.slice none 0 0) := (blk_cell BK124.out 6).trans rfl; have hcz11_7 : w9.cell? ⟨gb124, 7, none⟩ = some (.slice none 0 0) := (blk_cell BK124.out 7).trans rfl; have hfz11_0 := blk_frozen BK124.out 0; have hfz11_1 := blk_frozen BK124.out 1; have hfz11_2 := blk_frozen BK124.out 2; have hfz11_3 := blk_frozen BK124.out 3; have hfz11_4 := blk_frozen BK124.out 4; have hfz11_5 := blk_frozen BK124.out 5; have hfz11_6 := blk_frozen BK124.out 6; have hfz11_7 := blk_frozen BK124.out 7))
            (try simp only [Act.put, List.setIfInBounds_toArray, List.set_cons_zero, List.set_cons_succ])
            go_cut [60] (fun v60 wc => ∃ (kq : Nat) (x60_7 : Bool), v60 = .bool x60_7 ∧ Aside0 (impl_Prog_stepsOk.j1 kq a2 l1 (l1.length : Int) x12_1 x60_7 l0_0 l0_1 ((rd_T59 l1 x12_1).f0) ((rd_T59 l1 x12_1).f1) ((rd_T59 l1 x12_1).f2.f0) ((rd_T59 l1 x12_1).f2.f1) ((rd_T59 l1 x12_1).f2.f2) ((rd_T59 l1 x12_1).f3) ((rd_T59 l1 x12_1).f4) ((rd_T59 l1 x12_1).f5) = some r) ∧ Aside0 (kq ≤ k1) ∧ Aside0 (wc.heap[gb122]? = some (.cells #[(.slice A0_0 l0_0.length c0_0), (.slice A0_1 l0_1.length c0_1)] 26 (0, 0))) ∧ Aside0 (wc.heap[gb124]? = some (.cells #[.int .i64 ((rd_T59 l1 x12_1).f0), .int .i64 ((rd_T59 l1 x12_1).f1), .int .i64 ((rd_T59 l1 x12_1).f2.f0), .int .i64 ((rd_T59 l1 x12_1).f2.f1), .int .i64 ((rd_T59 l1 x12_1).f2.f2), .int .i64 ((rd_T59 l1 x12_1).f3), (.slice A123_6 ((rd_T59 l1 x12_1).f4).length c123_6), (.slice A123_7 ((rd_T59 l1 x12_1).f5).length c123_7)] 59 (0, 0))) ∧ Aside0 (Below w.heap.size w wc))
            case first =>
              have H := HC8.out
              clear HC8
              by_cases c12 : a2 < 1
              · rw [if_pos c12] at H
                have c12b0 : decide (a2 < 1) = true := decide_eq_true c12
                clear c12
                (first | rw [c12b0] | (simp only [i64_w, i32_w]; rw [c12b0]) | skip)
                have H' := Aside0.mk H
                clear H
                go_wp2
                go_meet
                case rel => exact ⟨_, (true), (by first | rfl | (simp; done) | (simp [*]; done)), H', ⟨by have := HK1.out; first | omega | exact Nat.le_refl _⟩, ⟨by (with_reducible repeat (first | refine blk_drewN ?_ _ | refine blk_drew ?_ | refine blk_alloc ?_ _)); refine blk_far ?_ NB122_124.out _; (with_reducible repeat (first | refine blk_drewN ?_ _ | refine blk_drew ?_ | refine blk_alloc ?_ _)); refine blk_far ?_ NB122_124.out _; (with_reducible repeat (first | refine blk_drewN ?_ _ | refine blk_drew ?_ | refine blk_alloc ?_ _)); refine blk_far ?_ NB122_124.out _; (with_reducible repeat (first | refine blk_drewN ?_ _ | refine blk_drew ?_ | refine blk_alloc ?_ _)); refine blk_far ?_ NB122_124.out _; (with_reducible repeat (first | refine blk_drewN ?_ _ | refine blk_drew ?_ | refine blk_alloc ?_ _)); refine blk_far ?_ NB122_124.out _; (with_reducible repeat (first | refine blk_drewN ?_ _ | refine blk_drew ?_ | refine blk_alloc ?_ _)); refine blk_far ?_ NB122_124.out _; (with_reducible repeat (first | refine blk_drewN ?_ _ | refine blk_drew ?_ | refine blk_alloc ?_ _)); refine blk_far ?_ NB122_124.out _; (with_reducible repeat (first | refine blk_drewN ?_ _ | refine blk_drew ?_ | refine blk_alloc ?_ _)); refine blk_far ?_ NB122_124.out _; (with_reducible repeat (first | refine blk_drewN ?_ _ | refine blk_drew ?_ | refine blk_alloc ?_ _)); exact BK122.out⟩, ⟨by (with_reducible repeat (first | refine blk_drewN ?_ _ | refine blk_drew ?_ | refine blk_alloc ?_ _)); refine blk_put (cs := #[.int .i64 ((rd_T59 l1 x12_1).f0), .int .i64 ((rd_T59 l1 x12_1).f1), .int .i64 ((rd_T59 l1 x12_1).f2.f0), .int .i64 ((rd_T59 l1 x12_1).f2.f1), .int .i64 ((rd_T59 l1 x12_1).f2.f2), .int .i64 ((rd_T59 l1 x12_1).f3), .slice A123_6 ((rd_T59 l1 x12_1).f4).length c123_6, .slice none 0 0]) ?_ 7 _ rfl; (with_reducible repeat (first | refine blk_drewN ?_ _ | refine blk_drew ?_ | refine blk_alloc ?_ _)); refine blk_put (cs := #[.int .i64 ((rd_T59 l1 x12_1).f0), .int .i64 ((rd_T59 l1 x12_1).f1), .int .i64 ((rd_T59 l1 x12_1).f2.f0), .int .i64 ((rd_T59 l1 x12_1).f2.f1), .int .i64 ((rd_T59 l1 x12_1).f2.f2), .int .i64 ((rd_T59 l1 x12_1).f3), .slice none 0 0, .slice none 0 0]) ?_ 6 _ rfl; (with_reducible repeat (first | refine blk_drewN ?_ _ | refine blk_drew ?_ | refine blk_alloc ?_ _)); refine blk_put (cs := #[.int .i64 ((rd_T59 l1 x12_1).f0), .int .i64 ((rd_T59 l1 x12_1).f1), .int .i64 ((rd_T59 l1 x12_1).f2.f0), .int .i64 ((rd_T59 l1 x12_1).f2.f1), .int .i64 ((rd_T59 l1 x12_1).f2.f2), .int .i64 0, .slice none 0 0, .slice none 0 0]) ?_ 5 _ rfl; (with_reducible repeat (first | refine blk_drewN ?_ _ | refine blk_drew ?_ | refine blk_alloc ?_ _)); refine blk_put (cs := #[.int .i64 ((rd_T59 l1 x12_1).f0), .int .i64 ((rd_T59 l1 x12_1).f1), .int .i64 ((rd_T59 l1 x12_1).f2.f0), .int .i64 ((rd_T59 l1 x12_1).f2.f1), .int .i64 0, .int .i64 0, .slice none 0 0, .slice none 0 0]) ?_ 4 _ rfl; (with_reducible repeat (first | refine blk_drewN ?_ _ | refine blk_drew ?_ | refine blk_alloc ?_ _)); refine blk_put (cs := #[.int .i64 ((rd_T59 l1 x12_1).f0), .int .i64 ((rd_T59 l1 x12_1).f1), .int .i64 ((rd_T59 l1 x12_1).f2.f0), .int .i64 0, .int .i64 0, .int .i64 0, .slice none 0 0, .slice none 0 0]) ?_ 3 _ rfl; (with_reducible repeat (first | refine blk_drewN ?_ _ | refine blk_drew ?_ | refine blk_alloc ?_ _)); refine blk_put (cs := #[.int .i64 ((rd_T59 l1 x12_1).f0), .int .i64 ((rd_T59 l1 x12_1).f1), .int .i64 0, .int .i64 0, .int .i64 0, .int .i64 0, .slice none 0 0, .slice none 0 0]) ?_ 2 _ rfl; (with_reducible repeat (first | refine blk_drewN ?_ _ | refine blk_drew ?_ | refine blk_alloc ?_ _)); refine blk_put (cs := #[.int .i64 ((rd_T59 l1 x12_1).f0), .int .i64 0, .int .i64 0, .int .i64 0, .int .i64 0, .int .i64 0, .slice none 0 0, .slice none 0 0]) ?_ 1 _ rfl; (with_reducible repeat (first | refine blk_drewN ?_ _ | refine blk_drew ?_ | refine blk_alloc ?_ _)); refine blk_put (cs := #[.int .i64 0, .int .i64 0, .int .i64 0, .int .i64 0, .int .i64 0, .int .i64 0, .slice none 0 0, .slice none 0 0]) ?_ 0 _ rfl; (with_reducible repeat (first | refine blk_drewN ?_ _ | refine blk_drew ?_ | refine blk_alloc ?_ _)); exact BK124.out⟩, ⟨by repeat (first | (with_reducible first | exact HB.out | apply below_alloc | apply pw_below_drewN | apply below_drew1 | refine below_set ?_ GE122.out | refine below_set ?_ GE124.out) | exact HB.out)⟩⟩
              · rw [if_neg c12] at H
                have c12b0 : decide (a2 < 1) = false := decide_eq_false c12
                clear c12
                (first | rw [c12b0] | (simp only [i64_w, i32_w]; rw [c12b0]) | skip)
                replace H := Option.bind_eq_some_iff.mp H
                obtain ⟨t125, A130, H⟩ := H
                replace H : (if t125 = true then (if ((rd_T59 l1 x12_1).f0) = 1 then (if ((rd_T59 l1 x12_1).f0) = 3 then (if ((rd_T59 l1 x12_1).f0) = 2 then (impl_Prog_stepsOk.j1 k1 a2 l1 (l1.length : Int) x12_1 false l0_0 l0_1 ((rd_T59 l1 x12_1).f0) ((rd_T59 l1 x12_1).f1) ((rd_T59 l1 x12_1).f2.f0) ((rd_T59 l1 x12_1).f2.f1) ((rd_T59 l1 x12_1).f2.f2) ((rd_T59 l1 x12_1).f3) ((rd_T59 l1 x12_1).f4) ((rd_T59 l1 x12_1).f5)) else (impl_Prog_stepsOk.j1 k1 a2 l1 (l1.length : Int) x12_1 (decide ((wrap64 ((((rd_T59 l1 x12_1).f4).length : Int) + (((rd_T59 l1 x12_1).f5).length : Int))) > 0)) l0_0 l0_1 ((rd_T59 l1 x12_1).f0) ((rd_T59 l1 x12_1).f1) ((rd_T59 l1 x12_1).f2.f0) ((rd_T59 l1 x12_1).f2.f1) ((rd_T59 l1 x12_1).f2.f2) ((rd_T59 l1 x12_1).f3) ((rd_T59 l1 x12_1).f4) ((rd_T59 l1 x12_1).f5))) else (if ((rd_T59 l1 x12_1).f3) = 0 then (if ((rd_T59 l1 x12_1).f0) = 2 then (impl_Prog_stepsOk.j1 k1 a2 l1 (l1.length : Int) x12_1 false l0_0 l0_1 ((rd_T59 l1 x12_1).f0) ((rd_T59 l1 x12_1).f1) ((rd_T59 l1 x12_1).f2.f0) ((rd_T59 l1 x12_1).f2.f1) ((rd_T59 l1 x12_1).f2.f2) ((rd_T59 l1 x12_1).f3) ((rd_T59 l1 x12_1).f4) ((rd_T59 l1 x12_1).f5)) else (impl_Prog_stepsOk.j1 k1 a2 l1 (l1.length : Int) x12_1 (decide ((wrap64 ((((rd_T59 l1 x12_1).f4).length : Int) + (((rd_T59 l1 x12_1).f5).length : Int))) > 0)) l0_0 l0_1 ((rd_T59 l1 x12_1).f0) ((rd_T59 l1 x12_1).f1) ((rd_T59 l1 x12_1).f2.f0) ((rd_T59 l1 x12_1).f2.f1) ((rd_T59 l1 x12_1).f2.f2) ((rd_T59 l1 x12_1).f3) ((rd_T59 l1 x12_1).f4) ((rd_T59 l1 x12_1).f5))) else (impl_Prog_stepsOk.j1 k1 a2 l1 (l1.length : Int) x12_1 true l0_0 l0_1 ((rd_T59 l1 x12_1).f0) ((rd_T59 l1 x12_1).f1) ((rd_T59 l1 x12_1).f2.f0) ((rd_T59 l1 x12_1).f2.f1) ((rd_T59 l1 x12_1).f2.f2) ((rd_T59 l1 x12_1).f3) ((rd_T59 l1 x12_1).f4) ((rd_T59 l1 x12_1).f5)))) else (if (!(((rd_T59 l1 x12_1).f2.f0) == 0) || (!(((rd_T59 l1 x12_1).f2.f1) == 0) || (!(((rd_T59 l1 x12_1).f2.f2) == 0)))) = true then (impl_Prog_stepsOk.j1 k1 a2 l1 (l1.length : Int) x12_1 true l0_0 l0_1 ((rd_T59 l1 x12_1).f0) ((rd_T59 l1 x12_1).f1) ((rd_T59 l1 x12_1).f2.f0) ((rd_T59 l1 x12_1).f2.f1) ((rd_T59 l1 x12_1).f2.f2) ((rd_T59 l1 x12_1).f3) ((rd_T59 l1 x12_1).f4) ((rd_T59 l1 x12_1).f5)) else (if ((rd_T59 l1 x12_1).f0) = 3 then (if ((rd_T59 l1 x12_1).f0) = 2 then (impl_Prog_stepsOk.j1 k1 a2 l1 (l1.length : Int) x12_1 false l0_0 l0_1 ((rd_T59 l1 x12_1).f0) ((rd_T59 l1 x12_1).f1) ((rd_T59 l1 x12_1).f2.f0) ((rd_T59 l1 x12_1).f2.f1) ((rd_T59 l1 x12_1).f2.f2) ((rd_T59 l1 x12_1).f3) ((rd_T59 l1 x12_1).f4) ((rd_T59 l1 x12_1).f5)) else (impl_Prog_stepsOk.j1 k1 a2 l1 (l1.length : Int) x12_1 (decide ((wrap64 ((((rd_T59 l1 x12_1).f4).length : Int) + (((rd_T59 l1 x12_1).f5).length : Int))) > 0)) l0_0 l0_1 ((rd_T59 l1 x12_1).f0) ((rd_T59 l1 x12_1).f1) ((rd_T59 l1 x12_1).f2.f0) ((rd_T59 l1 x12_1).f2.f1) ((rd_T59 l1 x12_1).f2.f2) ((rd_T59 l1 x12_1).f3) ((rd_T59 l1 x12_1).f4) ((rd_T59 l1 x12_1).f5))) else (if ((rd_T59 l1 x12_1).f3) = 0 then (if ((rd_T59 l1 x12_1).f0) = 2 then (impl_Prog_stepsOk.j1 k1 a2 l1 (l1.length : Int) x12_1 false l0_0 l0_1 ((rd_T59 l1 x12_1).f0) ((rd_T59 l1 x12_1).f1) ((rd_T59 l1 x12_1).f2.f0) ((rd_T59 l1 x12_1).f2.f1) ((rd_T59 l1 x12_1).f2.f2) ((rd_T59 l1 x12_1).f3) ((rd_T59 l1 x12_1).f4) ((rd_T59 l1 x12_1).f5)) else (impl_Prog_stepsOk.j1 k1 a2 l1 (l1.length : Int) x12_1 (decide ((wrap64 ((((rd_T59 l1 x12_1).f4).length : Int) + (((rd_T59 l1 x12_1).f5).length : Int))) > 0)) l0_0 l0_1 ((rd_T59 l1 x12_1).f0) ((rd_T59 l1 x12_1).f1) ((rd_T59 l1 x12_1).f2.f0) ((rd_T59 l1 x12_1).f2.f1) ((rd_T59 l1 x12_1).f2.f2) ((rd_T59 l1 x12_1).f3) ((rd_T59 l1 x12_1).f4) ((rd_T59 l1 x12_1).f5))) else (impl_Prog_stepsOk.j1 k1 a2 l1 (l1.length : Int) x12_1 true l0_0 l0_1 ((rd_T59 l1 x12_1).f0) ((rd_T59 l1 x12_1).f1) ((rd_T59 l1 x12_1).f2.f0) ((rd_T59 l1 x12_1).f2.f1) ((rd_T59 l1 x12_1).f2.f2) ((rd_T59 l1 x12_1).f3) ((rd_T59 l1 x12_1).f4) ((rd_T59 l1 x12_1).f5)))))) else (impl_Prog_stepsOk.j1 k1 a2 l1 (l1.length : Int) x12_1 true l0_0 l0_1 ((rd_T59 l1 x12_1).f0) ((rd_T59 l1 x12_1).f1) ((rd_T59 l1 x12_1).f2.f0) ((rd_T59 l1 x12_1).f2.f1) ((rd_T59 l1 x12_1).f2.f2) ((rd_T59 l1 x12_1).f3) ((rd_T59 l1 x12_1).f4) ((rd_T59 l1 x12_1).f5))) = some r := H
                have A13 := Aside0.mk A130
                clear A130
                by_cases c14 : t125 = true
                · subst c14
                  have H1 : (if ((rd_T59 l1 x12_1).f0) = 1 then (if ((rd_T59 l1 x12_1).f0) = 3 then (if ((rd_T59 l1 x12_1).f0) = 2 then (impl_Prog_stepsOk.j1 k1 a2 l1 (l1.length : Int) x12_1 false l0_0 l0_1 ((rd_T59 l1 x12_1).f0) ((rd_T59 l1 x12_1).f1) ((rd_T59 l1 x12_1).f2.f0) ((rd_T59 l1 x12_1).f2.f1) ((rd_T59 l1 x12_1).f2.f2) ((rd_T59 l1 x12_1).f3) ((rd_T59 l1 x12_1).f4) ((rd_T59 l1 x12_1).f5)) else (impl_Prog_stepsOk.j1 k1 a2 l1 (l1.length : Int) x12_1 (decide ((wrap64 ((((rd_T59 l1 x12_1).f4).length : Int) + (((rd_T59 l1 x12_1).f5).length : Int))) > 0)) l0_0 l0_1 ((rd_T59 l1 x12_1).f0) ((rd_T59 l1 x12_1).f1) ((rd_T59 l1 x12_1).f2.f0) ((rd_T59 l1 x12_1).f2.f1) ((rd_T59 l1 x12_1).f2.f2) ((rd_T59 l1 x12_1).f3) ((rd_T59 l1 x12_1).f4) ((rd_T59 l1 x12_1).f5))) else (if ((rd_T59 l1 x12_1).f3) = 0 then (if ((rd_T59 l1 x12_1).f0) = 2 then (impl_Prog_stepsOk.j1 k1 a2 l1 (l1.length : Int) x12_1 false l0_0 l0_1 ((rd_T59 l1 x12_1).f0) ((rd_T59 l1 x12_1).f1) ((rd_T59 l1 x12_1).f2.f0) ((rd_T59 l1 x12_1).f2.f1) ((rd_T59 l1 x12_1).f2.f2) ((rd_T59 l1 x12_1).f3) ((rd_T59 l1 x12_1).f4) ((rd_T59 l1 x12_1).f5)) else (impl_Prog_stepsOk.j1 k1 a2 l1 (l1.length : Int) x12_1 (decide ((wrap64 ((((rd_T59 l1 x12_1).f4).length : Int) + (((rd_T59 l1 x12_1).f5).length : Int))) > 0)) l0_0 l0_1 ((rd_T59 l1 x12_1).f0) ((rd_T59 l1 x12_1).f1) ((rd_T59 l1 x12_1).f2.f0) ((rd_T59 l1 x12_1).f2.f1) ((rd_T59 l1 x12_1).f2.f2) ((rd_T59 l1 x12_1).f3) ((rd_T59 l1 x12_1).f4) ((rd_T59 l1 x12_1).f5))) else (impl_Prog_stepsOk.j1 k1 a2 l1 (l1.length : Int) x12_1 true l0_0 l0_1 ((rd_T59 l1 x12_1).f0) ((rd_T59 l1 x12_1).f1) ((rd_T59 l1 x12_1).f2.f0) ((rd_T59 l1 x12_1).f2.f1) ((rd_T59 l1 x12_1).f2.f2) ((rd_T59 l1 x12_1).f3) ((rd_T59 l1 x12_1).f4) ((rd_T59 l1 x12_1).f5)))) else (if (!(((rd_T59 l1 x12_1).f2.f0) == 0) || (!(((rd_T59 l1 x12_1).f2.f1) == 0) || (!(((rd_T59 l1 x12_1).f2.f2) == 0)))) = true then (impl_Prog_stepsOk.j1 k1 a2 l1 (l1.length : Int) x12_1 true l0_0 l0_1 ((rd_T59 l1 x12_1).f0) ((rd_T59 l1 x12_1).f1) ((rd_T59 l1 x12_1).f2.f0) ((rd_T59 l1 x12_1).f2.f1) ((rd_T59 l1 x12_1).f2.f2) ((rd_T59 l1 x12_1).f3) ((rd_T59 l1 x12_1).f4) ((rd_T59 l1 x12_1).f5)) else (if ((rd_T59 l1 x12_1).f0) = 3 then (if ((rd_T59 l1 x12_1).f0) = 2 then (impl_Prog_stepsOk.j1 k1 a2 l1 (l1.length : Int) x12_1 false l0_0 l0_1 ((rd_T59 l1 x12_1).f0) ((rd_T59 l1 x12_1).f1) ((rd_T59 l1 x12_1).f2.f0) ((rd_T59 l1 x12_1).f2.f1) ((rd_T59 l1 x12_1).f2.f2) ((rd_T59 l1 x12_1).f3) ((rd_T59 l1 x12_1).f4) ((rd_T59 l1 x12_1).f5)) else (impl_Prog_stepsOk.j1 k1 a2 l1 (l1.length : Int) x12_1 (decide ((wrap64 ((((rd_T59 l1 x12_1).f4).length : Int) + (((rd_T59 l1 x12_1).f5).length : Int))) > 0)) l0_0 l0_1 ((rd_T59 l1 x12_1).f0) ((rd_T59 l1 x12_1).f1) ((rd_T59 l1 x12_1).f2.f0) ((rd_T59 l1 x12_1).f2.f1) ((rd_T59 l1 x12_1).f2.f2) ((rd_T59 l1 x12_1).f3) ((rd_T59 l1 x12_1).f4) ((rd_T59 l1 x12_1).f5))) else (if ((rd_T59 l1 x12_1).f3) = 0 then (if ((rd_T59 l1 x12_1).f0) = 2 then (impl_Prog_stepsOk.j1 k1 a2 l1 (l1.length : Int) x12_1 false l0_0 l0_1 ((rd_T59 l1 x12_1).f0) ((rd_T59 l1 x12_1).f1) ((rd_T59 l1 x12_1).f2.f0) ((rd_T59 l1 x12_1).f2.f1) ((rd_T59 l1 x12_1).f2.f2) ((rd_T59 l1 x12_1).f3) ((rd_T59 l1 x12_1).f4) ((rd_T59 l1 x12_1).f5)) else (impl_Prog_stepsOk.j1 k1 a2 l1 (l1.length : Int) x12_1 (decide ((wrap64 ((((rd_T59 l1 x12_1).f4).length : Int) + (((rd_T59 l1 x12_1).f5).length : Int))) > 0)) l0_0 l0_1 ((rd_T59 l1 x12_1).f0) ((rd_T59 l1 x12_1).f1) ((rd_T59 l1 x12_1).f2.f0) ((rd_T59 l1 x12_1).f2.f1) ((rd_T59 l1 x12_1).f2.f2) ((rd_T59 l1 x12_1).f3) ((rd_T59 l1 x12_1).f4) ((rd_T59 l1 x12_1).f5))) else (impl_Prog_stepsOk.j1 k1 a2 l1 (l1.length : Int) x12_1 true l0_0 l0_1 ((rd_T59 l1 x12_1).f0) ((rd_T59 l1 x12_1).f1) ((rd_T59 l1 x12_1).f2.f0) ((rd_T59 l1 x12_1).f2.f1) ((rd_T59 l1 x12_1).f2.f2) ((rd_T59 l1 x12_1).f3) ((rd_T59 l1 x12_1).f4) ((rd_T59 l1 x12_1).f5)))))) = some r := by rw [if_pos rfl] at H; exact H
                  clear H
                  have H := H1
                  clear H1
                  by_cases c15 : ((rd_T59 l1 x12_1).f0) = 1
                  · rw [if_pos c15] at H
                    have c15b0 : (((rd_T59 l1 x12_1).f0) == 1) = true := beq_iff_eq.mpr c15
                    have c15b1 : (((rd_T59 l1 x12_1).f0) != 1) = false := bne_eq_false_iff_eq.mpr c15
                    clear c15
                    by_cases c16 : ((rd_T59 l1 x12_1).f0) = 3
                    · rw [if_pos c16] at H
                      have c16b0 : (((rd_T59 l1 x12_1).f0) == 3) = true := beq_iff_eq.mpr c16
                      have c16b1 : (((rd_T59 l1 x12_1).f0) != 3) = false := bne_eq_false_iff_eq.mpr c16
                      clear c16
                      by_cases c17 : ((rd_T59 l1 x12_1).f0) = 2
                      · rw [if_pos c17] at H
                        have c17b0 : (((rd_T59 l1 x12_1).f0) == 2) = true := beq_iff_eq.mpr c17
                        have c17b1 : (((rd_T59 l1 x12_1).f0) != 2) = false := bne_eq_false_iff_eq.mpr c17
                        clear c17
                        have H' := Aside0.mk H
                        clear H
                        have hnb18 := NB122_124.out
                        have hnc18 := NB124_122.out
                        have hcz19_0 : w9.cell? ⟨gb122, 0, none⟩ = some (.slice A0_0 l0_0.length c0_0) := (blk_cell BK122.out 0).trans rfl
                        have hcz19_1 : w9.cell? ⟨gb122, 1, none⟩ = some (.slice A0_1 l0_1.length c0_1) := (blk_cell BK122.out 1).trans rfl
                        have hfz19_0 := blk_frozen BK122.out 0
                        have hfz19_1 := blk_frozen BK122.out 1
                        have hcz20_0 : w9.cell? ⟨gb124, 0, none⟩ = some (.int .i64 0) := (blk_cell BK124.out 0).trans rfl
                        have hcz20_1 : w9.cell? ⟨gb124, 1, none⟩ = some (.int .i64 0) := (blk_cell BK124.out 1).trans rfl
                        have hcz20_2 : w9.cell? ⟨gb124, 2, none⟩ = some (.int .i64 0) := (blk_cell BK124.out 2).trans rfl
                        have hcz20_3 : w9.cell? ⟨gb124, 3, none⟩ = some (.int .i64 0) := (blk_cell BK124.out 3).trans rfl
                        have hcz20_4 : w9.cell? ⟨gb124, 4, none⟩ = some (.int .i64 0) := (blk_cell BK124.out 4).trans rfl
                        have hcz20_5 : w9.cell? ⟨gb124, 5, none⟩ = some (.int .i64 0) := (blk_cell BK124.out 5).trans rfl
                        have hcz20_6 : w9.cell? ⟨gb124, 6, none⟩ = some (.slice none 0 0) := (blk_cell BK124.out 6).trans rfl
                        have hcz20_7 : w9.cell? ⟨gb124, 7, none⟩ = some (.slice none 0 0) := (blk_cell BK124.out 7).trans rfl
                        have hfz20_0 := blk_frozen BK124.out 0
                        have hfz20_1 := blk_frozen BK124.out 1
                        have hfz20_2 := blk_frozen BK124.out 2
                        have hfz20_3 := blk_frozen BK124.out 3
                        have hfz20_4 := blk_frozen BK124.out 4
                        have hfz20_5 := blk_frozen BK124.out 5
                        have hfz20_6 := blk_frozen BK124.out 6
                        have hfz20_7 := blk_frozen BK124.out 7
                        go_wp2_with (first | (go_at_call 126; (with_reducible refine (impl_Prog_isVar.calls _ _ l0_0 _ _ l0_1 ((rd_T59 l1 x12_1).f1) true _ ?side1 ?side2 ?side3 ?side4 A13.out).mono ?_); (case side1 => exact Kd.C_below HR0_0.out (by repeat (first | (with_reducible first | exact HB.out | apply below_alloc | apply pw_below_drewN | apply below_drew1 | refine below_set ?_ GE122.out | refine below_set ?_ GE124.out) | exact HB.out))); (case side2 => exact HC0_0.out); (case side3 => exact Kd.C_below HR0_1.out (by repeat (first | (with_reducible first | exact HB.out | apply below_alloc | apply pw_below_drewN | apply below_drew1 | refine below_set ?_ GE122.out | refine below_set ?_ GE124.out) | exact HB.out))); (case side4 => exact HC0_1.out); rintro e w21 ⟨rfl, hb⟩; have n0_ := Aside0.mk (blk_below (g := gb122) (o := .cells #[.slice A0_0 l0_0.length c0_0, .slice A0_1 l0_1.length c0_1] 26 (0, 0)) (by (with_reducible repeat (first | refine blk_drewN ?_ _ | refine blk_drew ?_ | refine blk_alloc ?_ _)); refine blk_far ?_ NB122_124.out _; (with_reducible repeat (first | refine blk_drewN ?_ _ | refine blk_drew ?_ | refine blk_alloc ?_ _)); refine blk_far ?_ NB122_124.out _; (with_reducible repeat (first | refine blk_drewN ?_ _ | refine blk_drew ?_ | refine blk_alloc ?_ _)); refine blk_far ?_ NB122_124.out _; (with_reducible repeat (first | refine blk_drewN ?_ _ | refine blk_drew ?_ | refine blk_alloc ?_ _)); refine blk_far ?_ NB122_124.out _; (with_reducible repeat (first | refine blk_drewN ?_ _ | refine blk_drew ?_ | refine blk_alloc ?_ _)); refine blk_far ?_ NB122_124.out _; (with_reducible repeat (first | refine blk_drewN ?_ _ | refine blk_drew ?_ | refine blk_alloc ?_ _)); refine blk_far ?_ NB122_124.out _; (with_reducible repeat (first | refine blk_drewN ?_ _ | refine blk_drew ?_ | refine blk_alloc ?_ _)); refine blk_far ?_ NB122_124.out _; (with_reducible repeat (first | refine blk_drewN ?_ _ | refine blk_drew ?_ | refine blk_alloc ?_ _)); refine blk_far ?_ NB122_124.out _; (with_reducible repeat (first | refine blk_drewN ?_ _ | refine blk_drew ?_ | refine blk_alloc ?_ _)); exact BK122.out) hb); have n1_ := Aside0.mk (blk_below (g := gb124) (o := .cells #[.int .i64 ((rd_T59 l1 x12_1).f0), .int .i64 ((rd_T59 l1 x12_1).f1), .int .i64 ((rd_T59 l1 x12_1).f2.f0), .int .i64 ((rd_T59 l1 x12_1).f2.f1), .int .i64 ((rd_T59 l1 x12_1).f2.f2), .int .i64 ((rd_T59 l1 x12_1).f3), .slice A123_6 ((rd_T59 l1 x12_1).f4).length c123_6, .slice A123_7 ((rd_T59 l1 x12_1).f5).length c123_7] 59 (0, 0)) (by (with_reducible repeat (first | refine blk_drewN ?_ _ | refine blk_drew ?_ | refine blk_alloc ?_ _)); refine blk_put (cs := #[.int .i64 ((rd_T59 l1 x12_1).f0), .int .i64 ((rd_T59 l1 x12_1).f1), .int .i64 ((rd_T59 l1 x12_1).f2.f0), .int .i64 ((rd_T59 l1 x12_1).f2.f1), .int .i64 ((rd_T59 l1 x12_1).f2.f2), .int .i64 ((rd_T59 l1 x12_1).f3), .slice A123_6 ((rd_T59 l1 x12_1).f4).length c123_6, .slice none 0 0]) ?_ 7 _ rfl; (with_reducible repeat (first | refine blk_drewN ?_ _ | refine blk_drew ?_ | refine blk_alloc ?_ _)); refine blk_put (cs := #[.int .i64 ((rd_T59 l1 x12_1).f0), .int .i64 ((rd_T59 l1 x12_1).f1), .int .i64 ((rd_T59 l1 x12_1).f2.f0), .int .i64 ((rd_T59 l1 x12_1).f2.f1), .int .i64 ((rd_T59 l1 x12_1).f2.f2), .int .i64 ((rd_T59 l1 x12_1).f3), .slice none 0 0, .slice none 0 0]) ?_ 6 _ rfl; (with_reducible repeat (first | refine blk_drewN ?_ _ | refine blk_drew ?_ | refine blk_alloc ?_ _)); refine blk_put (cs := #[.int .i64 ((rd_T59 l1 x12_1).f0), .int .i64 ((rd_T59 l1 x12_1).f1), .int .i64 ((rd_T59 l1 x12_1).f2.f0), .int .i64 ((rd_T59 l1 x12_1).f2.f1), .int .i64 ((rd_T59 l1 x12_1).f2.f2), .int .i64 0, .slice none 0 0, .slice none 0 0]) ?_ 5 _ rfl; (with_reducible repeat (first | refine blk_drewN ?_ _ | refine blk_drew ?_ | refine blk_alloc ?_ _)); refine blk_put (cs := #[.int .i64 ((rd_T59 l1 x12_1).f0), .int .i64 ((rd_T59 l1 x12_1).f1), .int .i64 ((rd_T59 l1 x12_1).f2.f0), .int .i64 ((rd_T59 l1 x12_1).f2.f1), .int .i64 0, .int .i64 0, .slice none 0 0, .slice none 0 0]) ?_ 4 _ rfl; (with_reducible repeat (first | refine blk_drewN ?_ _ | refine blk_drew ?_ | refine blk_alloc ?_ _)); refine blk_put (cs := #[.int .i64 ((rd_T59 l1 x12_1).f0), .int .i64 ((rd_T59 l1 x12_1).f1), .int .i64 ((rd_T59 l1 x12_1).f2.f0), .int .i64 0, .int .i64 0, .int .i64 0, .slice none 0 0, .slice none 0 0]) ?_ 3 _ rfl; (with_reducible repeat (first | refine blk_drewN ?_ _ | refine blk_drew ?_ | refine blk_alloc ?_ _)); refine blk_put (cs := #[.int .i64 ((rd_T59 l1 x12_1).f0), .int .i64 ((rd_T59 l1 x12_1).f1), .int .i64 0, .int .i64 0, .int .i64 0, .int .i64 0, .slice none 0 0, .slice none 0 0]) ?_ 2 _ rfl; (with_reducible repeat (first | refine blk_drewN ?_ _ | refine blk_drew ?_ | refine blk_alloc ?_ _)); refine blk_put (cs := #[.int .i64 ((rd_T59 l1 x12_1).f0), .int .i64 0, .int .i64 0, .int .i64 0, .int .i64 0, .int .i64 0, .slice none 0 0, .slice none 0 0]) ?_ 1 _ rfl; (with_reducible repeat (first | refine blk_drewN ?_ _ | refine blk_drew ?_ | refine blk_alloc ?_ _)); refine blk_put (cs := #[.int .i64 0, .int .i64 0, .int .i64 0, .int .i64 0, .int .i64 0, .int .i64 0, .slice none 0 0, .slice none 0 0]) ?_ 0 _ rfl; (with_reducible repeat (first | refine blk_drewN ?_ _ | refine blk_drew ?_ | refine blk_alloc ?_ _)); exact BK124.out) hb); have n2_ := Aside0.mk (below_step (by repeat (first | (with_reducible first | exact HB.out | apply below_alloc | apply pw_below_drewN | apply below_drew1 | refine below_set ?_ GE122.out | refine below_set ?_ GE124.out) | exact HB.out)) hb); clear BK122; clear BK124; clear HB; have BK122 := n0_; have BK124 := n1_; have HB := n2_; clear n0_ n1_ n2_; (try clear hb); (try clear hb2); (try clear hk); (try clear hi); have hcz22_0 : w21.cell? ⟨gb124, 0, none⟩ = some (.int .i64 ((rd_T59 l1 x12_1).f0)) := (blk_cell BK124.out 0).trans rfl; have hcz22_1 : w21.cell? ⟨gb124, 1, none⟩ = some (.int .i64 ((rd_T59 l1 x12_1).f1)) := (blk_cell BK124.out 1).trans rfl; have hcz22_2 : w21.cell? ⟨gb124, 2, none⟩ = some (.int .i64 ((rd_T59 l1 x12_1).f2.f0)) := (blk_cell BK124.out 2).trans rfl; have hcz22_3 : w21.cell? ⟨gb124, 3, none⟩ = some (.int .i64 ((rd_T59 l1 x12_1).f2.f1)) := (blk_cell BK124.out 3).trans rfl; have hcz22_4 : w21.cell? ⟨gb124, 4, none⟩ = some (.int .i64 ((rd_T59 l1 x12_1).f2.f2)) := (blk_cell BK124.out 4).trans rfl; have hcz22_5 : w21.cell? ⟨gb124, 5, none⟩ = some (.int .i64 ((rd_T59 l1 x12_1).f3)) := (blk_cell BK124.out 5).trans rfl; have hcz22_6 : w21.cell? ⟨gb124, 6, none⟩ = some (.slice A123_6 ((rd_T59 l1 x12_1).f4).length c123_6) := (blk_cell BK124.out 6).trans rfl; have hcz22_7 : w21.cell? ⟨gb124, 7, none⟩ = some (.slice A123_7 ((rd_T59 l1 x12_1).f5).length c123_7) := (blk_cell BK124.out 7).trans rfl; have hfz22_0 := blk_frozen BK124.out 0; have hfz22_1 := blk_frozen BK124.out 1; have hfz22_2 := blk_frozen BK124.out 2; have hfz22_3 := blk_frozen BK124.out 3; have hfz22_4 := blk_frozen BK124.out 4; have hfz22_5 := blk_frozen BK124.out 5; have hfz22_6 := blk_frozen BK124.out 6; have hfz22_7 := blk_frozen BK124.out 7))
                        go_meet
                        case rel => exact ⟨_, (false), (by first | rfl | (simp; done) | (simp [*]; done)), H', ⟨by have := HK1.out; first | omega | exact Nat.le_refl _⟩, ⟨by (with_reducible repeat (first | refine blk_drewN ?_ _ | refine blk_drew ?_ | refine blk_alloc ?_ _)); exact BK122.out⟩, ⟨by (with_reducible repeat (first | refine blk_drewN ?_ _ | refine blk_drew ?_ | refine blk_alloc ?_ _)); exact BK124.out⟩, ⟨by repeat (first | (with_reducible first | exact HB.out | apply below_alloc | apply pw_below_drewN | apply below_drew1 | refine below_set ?_ GE122.out | refine below_set ?_ GE124.out) | exact HB.out)⟩⟩
                      · rw [if_neg c17] at H
                        have c17b0 : (((rd_T59 l1 x12_1).f0) == 2) = false := beq_eq_false_iff_ne.mpr c17
                        have c17b1 : (((rd_T59 l1 x12_1).f0) != 2) = true := bne_iff_ne.mpr c17
                        have H' := Aside0.mk H
                        clear H
                        have hnb23 := NB122_124.out
                        have hnc23 := NB124_122.out
                        have hcz24_0 : w9.cell? ⟨gb122, 0, none⟩ = some (.slice A0_0 l0_0.length c0_0) := (blk_cell BK122.out 0).trans rfl
                        have hcz24_1 : w9.cell? ⟨gb122, 1, none⟩ = some (.slice A0_1 l0_1.length c0_1) := (blk_cell BK122.out 1).trans rfl
                        have hfz24_0 := blk_frozen BK122.out 0
                        have hfz24_1 := blk_frozen BK122.out 1
                        have hcz25_0 : w9.cell? ⟨gb124, 0, none⟩ = some (.int .i64 0) := (blk_cell BK124.out 0).trans rfl
                        have hcz25_1 : w9.cell? ⟨gb124, 1, none⟩ = some (.int .i64 0) := (blk_cell BK124.out 1).trans rfl
                        have hcz25_2 : w9.cell? ⟨gb124, 2, none⟩ = some (.int .i64 0) := (blk_cell BK124.out 2).trans rfl
                        have hcz25_3 : w9.cell? ⟨gb124, 3, none⟩ = some (.int .i64 0) := (blk_cell BK124.out 3).trans rfl
                        have hcz25_4 : w9.cell? ⟨gb124, 4, none⟩ = some (.int .i64 0) := (blk_cell BK124.out 4).trans rfl
                        have hcz25_5 : w9.cell? ⟨gb124, 5, none⟩ = some (.int .i64 0) := (blk_cell BK124.out 5).trans rfl
                        have hcz25_6 : w9.cell? ⟨gb124, 6, none⟩ = some (.slice none 0 0) := (blk_cell BK124.out 6).trans rfl
                        have hcz25_7 : w9.cell? ⟨gb124, 7, none⟩ = some (.slice none 0 0) := (blk_cell BK124.out 7).trans rfl
                        have hfz25_0 := blk_frozen BK124.out 0
                        have hfz25_1 := blk_frozen BK124.out 1
                        have hfz25_2 := blk_frozen BK124.out 2
                        have hfz25_3 := blk_frozen BK124.out 3
                        have hfz25_4 := blk_frozen BK124.out 4
                        have hfz25_5 := blk_frozen BK124.out 5
                        have hfz25_6 := blk_frozen BK124.out 6
                        have hfz25_7 := blk_frozen BK124.out 7
                        go_wp2_with (first | (go_at_call 126; (with_reducible refine (impl_Prog_isVar.calls _ _ l0_0 _ _ l0_1 ((rd_T59 l1 x12_1).f1) true _ ?side1 ?side2 ?side3 ?side4 A13.out).mono ?_); (case side1 => exact Kd.C_below HR0_0.out (by repeat (first | (with_reducible first | exact HB.out | apply below_alloc | apply pw_below_drewN | apply below_drew1 | refine below_set ?_ GE122.out | refine below_set ?_ GE124.out) | exact HB.out))); (case side2 => exact HC0_0.out); (case side3 => exact Kd.C_below HR0_1.out (by repeat (first | (with_reducible first | exact HB.out | apply below_alloc | apply pw_below_drewN | apply below_drew1 | refine below_set ?_ GE122.out | refine below_set ?_ GE124.out) | exact HB.out))); (case side4 => exact HC0_1.out); rintro e w26 ⟨rfl, hb⟩; have n0_ := Aside0.mk (blk_below (g := gb122) (o := .cells #[.slice A0_0 l0_0.length c0_0, .slice A0_1 l0_1.length c0_1] 26 (0, 0)) (by (with_reducible repeat (first | refine blk_drewN ?_ _ | refine blk_drew ?_ | refine blk_alloc ?_ _)); refine blk_far ?_ NB122_124.out _; (with_reducible repeat (first | refine blk_drewN ?_ _ | refine blk_drew ?_ | refine blk_alloc ?_ _)); refine blk_far ?_ NB122_124.out _; (with_reducible repeat (first | refine blk_drewN ?_ _ | refine blk_drew ?_ | refine blk_alloc ?_ _)); refine blk_far ?_ NB122_124.out _; (with_reducible repeat (first | refine blk_drewN ?_ _ | refine blk_drew ?_ | refine blk_alloc ?_ _)); refine blk_far ?_ NB122_124.out _; (with_reducible repeat (first | refine blk_drewN ?_ _ | refine blk_drew ?_ | refine blk_alloc ?_ _)); refine blk_far ?_ NB122_124.out _; (with_reducible repeat (first | refine blk_drewN ?_ _ | refine blk_drew ?_ | refine blk_alloc ?_ _)); refine blk_far ?_ NB122_124.out _; (with_reducible repeat (first | refine blk_drewN ?_ _ | refine blk_drew ?_ | refine blk_alloc ?_ _)); refine blk_far ?_ NB122_124.out _; (with_reducible repeat (first | refine blk_drewN ?_ _ | refine blk_drew ?_ | refine blk_alloc ?_ _)); refine blk_far ?_ NB122_124.out _; (with_reducible repeat (first | refine blk_drewN ?_ _ | refine blk_drew ?_ | refine blk_alloc ?_ _)); exact BK122.out) hb); have n1_ := Aside0.mk (blk_below (g := gb124) (o := .cells #[.int .i64 ((rd_T59 l1 x12_1).f0), .int .i64 ((rd_T59 l1 x12_1).f1), .int .i64 ((rd_T59 l1 x12_1).f2.f0), .int .i64 ((rd_T59 l1 x12_1).f2.f1), .int .i64 ((rd_T59 l1 x12_1).f2.f2), .int .i64 ((rd_T59 l1 x12_1).f3), .slice A123_6 ((rd_T59 l1 x12_1).f4).length c123_6, .slice A123_7 ((rd_T59 l1 x12_1).f5).length c123_7] 59 (0, 0)) (by (with_reducible repeat (first | refine blk_drewN ?_ _ | refine blk_drew ?_ | refine blk_alloc ?_ _)); refine blk_put (cs := #[.int .i64 ((rd_T59 l1 x12_1).f0), .int .i64 ((rd_T59 l1 x12_1).f1), .int .i64 ((rd_T59 l1 x12_1).f2.f0), .int .i64 ((rd_T59 l1 x12_1).f2.f1), .int .i64 ((rd_T59 l1 x12_1).f2.f2), .int .i64 ((rd_T59 l1 x12_1).f3), .slice A123_6 ((rd_T59 l1 x12_1).f4).length c123_6, .slice none 0 0]) ?_ 7 _ rfl; (with_reducible repeat (first | refine blk_drewN ?_ _ | refine blk_drew ?_ | refine blk_alloc ?_ _)); refine blk_put (cs := #[.int .i64 ((rd_T59 l1 x12_1).f0), .int .i64 ((rd_T59 l1 x12_1).f1), .int .i64 ((rd_T59 l1 x12_1).f2.f0), .int .i64 ((rd_T59 l1 x12_1).f2.f1), .int .i64 ((rd_T59 l1 x12_1).f2.f2), .int .i64 ((rd_T59 l1 x12_1).f3), .slice none 0 0, .slice none 0 0]) ?_ 6 _ rfl; (with_reducible repeat (first | refine blk_drewN ?_ _ | refine blk_drew ?_ | refine blk_alloc ?_ _)); refine blk_put (cs := #[.int .i64 ((rd_T59 l1 x12_1).f0), .int .i64 ((rd_T59 l1 x12_1).f1), .int .i64 ((rd_T59 l1 x12_1).f2.f0), .int .i64 ((rd_T59 l1 x12_1).f2.f1), .int .i64 ((rd_T59 l1 x12_1).f2.f2), .int .i64 0, .slice none 0 0, .slice none 0 0]) ?_ 5 _ rfl; (with_reducible repeat (first | refine blk_drewN ?_ _ | refine blk_drew ?_ | refine blk_alloc ?_ _)); refine blk_put (cs := #[.int .i64 ((rd_T59 l1 x12_1).f0), .int .i64 ((rd_T59 l1 x12_1).f1), .int .i64 ((rd_T59 l1 x12_1).f2.f0), .int .i64 ((rd_T59 l1 x12_1).f2.f1), .int .i64 0, .int .i64 0, .slice none 0 0, .slice none 0 0]) ?_ 4 _ rfl; (with_reducible repeat (first | refine blk_drewN ?_ _ | refine blk_drew ?_ | refine blk_alloc ?_ _)); refine blk_put (cs := #[.int .i64 ((rd_T59 l1 x12_1).f0), .int .i64 ((rd_T59 l1 x12_1).f1), .int .i64 ((rd_T59 l1 x12_1).f2.f0), .int .i64 0, .int .i64 0, .int .i64 0, .slice none 0 0, .slice none 0 0]) ?_ 3 _ rfl; (with_reducible repeat (first | refine blk_drewN ?_ _ | refine blk_drew ?_ | refine blk_alloc ?_ _)); refine blk_put (cs := #[.int .i64 ((rd_T59 l1 x12_1).f0), .int .i64 ((rd_T59 l1 x12_1).f1), .int .i64 0, .int .i64 0, .int .i64 0, .int .i64 0, .slice none 0 0, .slice none 0 0]) ?_ 2 _ rfl; (with_reducible repeat (first | refine blk_drewN ?_ _ | refine blk_drew ?_ | refine blk_alloc ?_ _)); refine blk_put (cs := #[.int .i64 ((rd_T59 l1 x12_1).f0), .int .i64 0, .int .i64 0, .int .i64 0, .int .i64 0, .int .i64 0, .slice none 0 0, .slice none 0 0]) ?_ 1 _ rfl; (with_reducible repeat (first | refine blk_drewN ?_ _ | refine blk_drew ?_ | refine blk_alloc ?_ _)); refine blk_put (cs := #[.int .i64 0, .int .i64 0, .int .i64 0, .int .i64 0, .int .i64 0, .int .i64 0, .slice none 0 0, .slice none 0 0]) ?_ 0 _ rfl; (with_reducible repeat (first | refine blk_drewN ?_ _ | refine blk_drew ?_ | refine blk_alloc ?_ _)); exact BK124.out) hb); have n2_ := Aside0.mk (below_step (by repeat (first | (with_reducible first | exact HB.out | apply below_alloc | apply pw_below_drewN | apply below_drew1 | refine below_set ?_ GE122.out | refine below_set ?_ GE124.out) | exact HB.out)) hb); clear BK122; clear BK124; clear HB; have BK122 := n0_; have BK124 := n1_; have HB := n2_; clear n0_ n1_ n2_; (try clear hb); (try clear hb2); (try clear hk); (try clear hi); have hcz27_0 : w26.cell? ⟨gb124, 0, none⟩ = some (.int .i64 ((rd_T59 l1 x12_1).f0)) := (blk_cell BK124.out 0).trans rfl; have hcz27_1 : w26.cell? ⟨gb124, 1, none⟩ = some (.int .i64 ((rd_T59 l1 x12_1).f1)) := (blk_cell BK124.out 1).trans rfl; have hcz27_2 : w26.cell? ⟨gb124, 2, none⟩ = some (.int .i64 ((rd_T59 l1 x12_1).f2.f0)) := (blk_cell BK124.out 2).trans rfl; have hcz27_3 : w26.cell? ⟨gb124, 3, none⟩ = some (.int .i64 ((rd_T59 l1 x12_1).f2.f1)) := (blk_cell BK124.out 3).trans rfl; have hcz27_4 : w26.cell? ⟨gb124, 4, none⟩ = some (.int .i64 ((rd_T59 l1 x12_1).f2.f2)) := (blk_cell BK124.out 4).trans rfl; have hcz27_5 : w26.cell? ⟨gb124, 5, none⟩ = some (.int .i64 ((rd_T59 l1 x12_1).f3)) := (blk_cell BK124.out 5).trans rfl; have hcz27_6 : w26.cell? ⟨gb124, 6, none⟩ = some (.slice A123_6 ((rd_T59 l1 x12_1).f4).length c123_6) := (blk_cell BK124.out 6).trans rfl; have hcz27_7 : w26.cell? ⟨gb124, 7, none⟩ = some (.slice A123_7 ((rd_T59 l1 x12_1).f5).length c123_7) := (blk_cell BK124.out 7).trans rfl; have hfz27_0 := blk_frozen BK124.out 0; have hfz27_1 := blk_frozen BK124.out 1; have hfz27_2 := blk_frozen BK124.out 2; have hfz27_3 := blk_frozen BK124.out 3; have hfz27_4 := blk_frozen BK124.out 4; have hfz27_5 := blk_frozen BK124.out 5; have hfz27_6 := blk_frozen BK124.out 6; have hfz27_7 := blk_frozen BK124.out 7))
                        go_meet
                        case rel => exact ⟨_, (decide ((wrap64 ((((rd_T59 l1 x12_1).f4).length : Int) + (((rd_T59 l1 x12_1).f5).length : Int))) > 0)), (by first | rfl | (simp; done) | (simp [*]; done)), H', ⟨by have := HK1.out; first | omega | exact Nat.le_refl _⟩, ⟨by (with_reducible repeat (first | refine blk_drewN ?_ _ | refine blk_drew ?_ | refine blk_alloc ?_ _)); exact BK122.out⟩, ⟨by (with_reducible repeat (first | refine blk_drewN ?_ _ | refine blk_drew ?_ | refine blk_alloc ?_ _)); exact BK124.out⟩, ⟨by repeat (first | (with_reducible first | exact HB.out | apply below_alloc | apply pw_below_drewN | apply below_drew1 | refine below_set ?_ GE122.out | refine below_set ?_ GE124.out) | exact HB.out)⟩⟩
                    · rw [if_neg c16] at H
                      have c16b0 : (((rd_T59 l1 x12_1).f0) == 3) = false := beq_eq_false_iff_ne.mpr c16
                      have c16b1 : (((rd_T59 l1 x12_1).f0) != 3) = true := bne_iff_ne.mpr c16
                      by_cases c28 : ((rd_T59 l1 x12_1).f3) = 0
                      · rw [if_pos c28] at H
                        have c28b0 : (((rd_T59 l1 x12_1).f3) == 0) = true := beq_iff_eq.mpr c28
                        have c28b1 : (((rd_T59 l1 x12_1).f3) != 0) = false := bne_eq_false_iff_eq.mpr c28
                        clear c28
                        by_cases c29 : ((rd_T59 l1 x12_1).f0) = 2
                        · rw [if_pos c29] at H
                          have c29b0 : (((rd_T59 l1 x12_1).f0) == 2) = true := beq_iff_eq.mpr c29
                          have c29b1 : (((rd_T59 l1 x12_1).f0) != 2) = false := bne_eq_false_iff_eq.mpr c29
                          clear c29
                          have H' := Aside0.mk H
                          clear H
                          have hnb30 := NB122_124.out
                          have hnc30 := NB124_122.out
                          have hcz31_0 : w9.cell? ⟨gb122, 0, none⟩ = some (.slice A0_0 l0_0.length c0_0) := (blk_cell BK122.out 0).trans rfl
                          have hcz31_1 : w9.cell? ⟨gb122, 1, none⟩ = some (.slice A0_1 l0_1.length c0_1) := (blk_cell BK122.out 1).trans rfl
                          have hfz31_0 := blk_frozen BK122.out 0
                          have hfz31_1 := blk_frozen BK122.out 1
                          have hcz32_0 : w9.cell? ⟨gb124, 0, none⟩ = some (.int .i64 0) := (blk_cell BK124.out 0).trans rfl
                          have hcz32_1 : w9.cell? ⟨gb124, 1, none⟩ = some (.int .i64 0) := (blk_cell BK124.out 1).trans rfl
                          have hcz32_2 : w9.cell? ⟨gb124, 2, none⟩ = some (.int .i64 0) := (blk_cell BK124.out 2).trans rfl
                          have hcz32_3 : w9.cell? ⟨gb124, 3, none⟩ = some (.int .i64 0) := (blk_cell BK124.out 3).trans rfl
                          have hcz32_4 : w9.cell? ⟨gb124, 4, none⟩ = some (.int .i64 0) := (blk_cell BK124.out 4).trans rfl
                          have hcz32_5 : w9.cell? ⟨gb124, 5, none⟩ = some (.int .i64 0) := (blk_cell BK124.out 5).trans rfl
                          have hcz32_6 : w9.cell? ⟨gb124, 6, none⟩ = some (.slice none 0 0) := (blk_cell BK124.out 6).trans rfl
                          have hcz32_7 : w9.cell? ⟨gb124, 7, none⟩ = some (.slice none 0 0) := (blk_cell BK124.out 7).trans rfl
                          have hfz32_0 := blk_frozen BK124.out 0
                          have hfz32_1 := blk_frozen BK124.out 1
                          have hfz32_2 := blk_frozen BK124.out 2
                          have hfz32_3 := blk_frozen BK124.out 3
                          have hfz32_4 := blk_frozen BK124.out 4
                          have hfz32_5 := blk_frozen BK124.out 5
                          have hfz32_6 := blk_frozen BK124.out 6
                          have hfz32_7 := blk_frozen BK124.out 7
                          go_wp2_with (first | (go_at_call 126; (with_reducible refine (impl_Prog_isVar.calls _ _ l0_0 _ _ l0_1 ((rd_T59 l1 x12_1).f1) true _ ?side1 ?side2 ?side3 ?side4 A13.out).mono ?_); (case side1 => exact Kd.C_below HR0_0.out (by repeat (first | (with_reducible first | exact HB.out | apply below_alloc | apply pw_below_drewN | apply below_drew1 | refine below_set ?_ GE122.out | refine below_set ?_ GE124.out) | exact HB.out))); (case side2 => exact HC0_0.out); (case side3 => exact Kd.C_below HR0_1.out (by repeat (first | (with_reducible first | exact HB.out | apply below_alloc | apply pw_below_drewN | apply below_drew1 | refine below_set ?_ GE122.out | refine below_set ?_ GE124.out) | exact HB.out))); (case side4 => exact HC0_1.out); rintro e w33 ⟨rfl, hb⟩; have n0_ := Aside0.mk (blk_below (g := gb122) (o := .cells #[.slice A0_0 l0_0.length c0_0, .slice A0_1 l0_1.length c0_1] 26 (0, 0)) (by (with_reducible repeat (first | refine blk_drewN ?_ _ | refine blk_drew ?_ | refine blk_alloc ?_ _)); refine blk_far ?_ NB122_124.out _; (with_reducible repeat (first | refine blk_drewN ?_ _ | refine blk_drew ?_ | refine blk_alloc ?_ _)); refine blk_far ?_ NB122_124.out _; (with_reducible repeat (first | refine blk_drewN ?_ _ | refine blk_drew ?_ | refine blk_alloc ?_ _)); refine blk_far ?_ NB122_124.out _; (with_reducible repeat (first | refine blk_drewN ?_ _ | refine blk_drew ?_ | refine blk_alloc ?_ _)); refine blk_far ?_ NB122_124.out _; (with_reducible repeat (first | refine blk_drewN ?_ _ | refine blk_drew ?_ | refine blk_alloc ?_ _)); refine blk_far ?_ NB122_124.out _; (with_reducible repeat (first | refine blk_drewN ?_ _ | refine blk_drew ?_ | refine blk_alloc ?_ _)); refine blk_far ?_ NB122_124.out _; (with_reducible repeat (first | refine blk_drewN ?_ _ | refine blk_drew ?_ | refine blk_alloc ?_ _)); refine blk_far ?_ NB122_124.out _; (with_reducible repeat (first | refine blk_drewN ?_ _ | refine blk_drew ?_ | refine blk_alloc ?_ _)); refine blk_far ?_ NB122_124.out _; (with_reducible repeat (first | refine blk_drewN ?_ _ | refine blk_drew ?_ | refine blk_alloc ?_ _)); exact BK122.out) hb); have n1_ := Aside0.mk (blk_below (g := gb124) (o := .cells #[.int .i64 ((rd_T59 l1 x12_1).f0), .int .i64 ((rd_T59 l1 x12_1).f1), .int .i64 ((rd_T59 l1 x12_1).f2.f0), .int .i64 ((rd_T59 l1 x12_1).f2.f1), .int .i64 ((rd_T59 l1 x12_1).f2.f2), .int .i64 ((rd_T59 l1 x12_1).f3), .slice A123_6 ((rd_T59 l1 x12_1).f4).length c123_6, .slice A123_7 ((rd_T59 l1 x12_1).f5).length c123_7] 59 (0, 0)) (by (with_reducible repeat (first | refine blk_drewN ?_ _ | refine blk_drew ?_ | refine blk_alloc ?_ _)); refine blk_put (cs := #[.int .i64 ((rd_T59 l1 x12_1).f0), .int .i64 ((rd_T59 l1 x12_1).f1), .int .i64 ((rd_T59 l1 x12_1).f2.f0), .int .i64 ((rd_T59 l1 x12_1).f2.f1), .int .i64 ((rd_T59 l1 x12_1).f2.f2), .int .i64 ((rd_T59 l1 x12_1).f3), .slice A123_6 ((rd_T59 l1 x12_1).f4).length c123_6, .slice none 0 0]) ?_ 7 _ rfl; (with_reducible repeat (first | refine blk_drewN ?_ _ | refine blk_drew ?_ | refine blk_alloc ?_ _)); refine blk_put (cs := #[.int .i64 ((rd_T59 l1 x12_1).f0), .int .i64 ((rd_T59 l1 x12_1).f1), .int .i64 ((rd_T59 l1 x12_1).f2.f0), .int .i64 ((rd_T59 l1 x12_1).f2.f1), .int .i64 ((rd_T59 l1 x12_1).f2.f2), .int .i64 ((rd_T59 l1 x12_1).f3), .slice none 0 0, .slice none 0 0]) ?_ 6 _ rfl; (with_reducible repeat (first | refine blk_drewN ?_ _ | refine blk_drew ?_ | refine blk_alloc ?_ _)); refine blk_put (cs := #[.int .i64 ((rd_T59 l1 x12_1).f0), .int .i64 ((rd_T59 l1 x12_1).f1), .int .i64 ((rd_T59 l1 x12_1).f2.f0), .int .i64 ((rd_T59 l1 x12_1).f2.f1), .int .i64 ((rd_T59 l1 x12_1).f2.f2), .int .i64 0, .slice none 0 0, .slice none 0 0]) ?_ 5 _ rfl; (with_reducible repeat (first | refine blk_drewN ?_ _ | refine blk_drew ?_ | refine blk_alloc ?_ _)); refine blk_put (cs := #[.int .i64 ((rd_T59 l1 x12_1).f0), .int .i64 ((rd_T59 l1 x12_1).f1), .int .i64 ((rd_T59 l1 x12_1).f2.f0), .int .i64 ((rd_T59 l1 x12_1).f2.f1), .int .i64 0, .int .i64 0, .slice none 0 0, .slice none 0 0]) ?_ 4 _ rfl; (with_reducible repeat (first | refine blk_drewN ?_ _ | refine blk_drew ?_ | refine blk_alloc ?_ _)); refine blk_put (cs := #[.int .i64 ((rd_T59 l1 x12_1).f0), .int .i64 ((rd_T59 l1 x12_1).f1), .int .i64 ((rd_T59 l1 x12_1).f2.f0), .int .i64 0, .int .i64 0, .int .i64 0, .slice none 0 0, .slice none 0 0]) ?_ 3 _ rfl; (with_reducible repeat (first | refine blk_drewN ?_ _ | refine blk_drew ?_ | refine blk_alloc ?_ _)); refine blk_put (cs := #[.int .i64 ((rd_T59 l1 x12_1).f0), .int .i64 ((rd_T59 l1 x12_1).f1), .int .i64 0, .int .i64 0, .int .i64 0, .int .i64 0, .slice none 0 0, .slice none 0 0]) ?_ 2 _ rfl; (with_reducible repeat (first | refine blk_drewN ?_ _ | refine blk_drew ?_ | refine blk_alloc ?_ _)); refine blk_put (cs := #[.int .i64 ((rd_T59 l1 x12_1).f0), .int .i64 0, .int .i64 0, .int .i64 0, .int .i64 0, .int .i64 0, .slice none 0 0, .slice none 0 0]) ?_ 1 _ rfl; (with_reducible repeat (first | refine blk_drewN ?_ _ | refine blk_drew ?_ | refine blk_alloc ?_ _)); refine blk_put (cs := #[.int .i64 0, .int .i64 0, .int .i64 0, .int .i64 0, .int .i64 0, .int .i64 0, .slice none 0 0, .slice none 0 0]) ?_ 0 _ rfl; (with_reducible repeat (first | refine blk_drewN ?_ _ | refine blk_drew ?_ | refine blk_alloc ?_ _)); exact BK124.out) hb); have n2_ := Aside0.mk (below_step (by repeat (first | (with_reducible first | exact HB.out | apply below_alloc | apply pw_below_drewN | apply below_drew1 | refine below_set ?_ GE122.out | refine below_set ?_ GE124.out) | exact HB.out)) hb); clear BK122; clear BK124; clear HB; have BK122 := n0_; have BK124 := n1_; have HB := n2_; clear n0_ n1_ n2_; (try clear hb); (try clear hb2); (try clear hk); (try clear hi); have hcz34_0 : w33.cell? ⟨gb124, 0, none⟩ = some (.int .i64 ((rd_T59 l1 x12_1).f0)) := (blk_cell BK124.out 0).trans rfl; have hcz34_1 : w33.cell? ⟨gb124, 1, none⟩ = some (.int .i64 ((rd_T59 l1 x12_1).f1)) := (blk_cell BK124.out 1).trans rfl; have hcz34_2 : w33.cell? ⟨gb124, 2, none⟩ = some (.int .i64 ((rd_T59 l1 x12_1).f2.f0)) := (blk_cell BK124.out 2).trans rfl; have hcz34_3 : w33.cell? ⟨gb124, 3, none⟩ = some (.int .i64 ((rd_T59 l1 x12_1).f2.f1)) := (blk_cell BK124.out 3).trans rfl; have hcz34_4 : w33.cell? ⟨gb124, 4, none⟩ = some (.int .i64 ((rd_T59 l1 x12_1).f2.f2)) := (blk_cell BK124.out 4).trans rfl; have hcz34_5 : w33.cell? ⟨gb124, 5, none⟩ = some (.int .i64 ((rd_T59 l1 x12_1).f3)) := (blk_cell BK124.out 5).trans rfl; have hcz34_6 : w33.cell? ⟨gb124, 6, none⟩ = some (.slice A123_6 ((rd_T59 l1 x12_1).f4).length c123_6) := (blk_cell BK124.out 6).trans rfl; have hcz34_7 : w33.cell? ⟨gb124, 7, none⟩ = some (.slice A123_7 ((rd_T59 l1 x12_1).f5).length c123_7) := (blk_cell BK124.out 7).trans rfl; have hfz34_0 := blk_frozen BK124.out 0; have hfz34_1 := blk_frozen BK124.out 1; have hfz34_2 := blk_frozen BK124.out 2; have hfz34_3 := blk_frozen BK124.out 3; have hfz34_4 := blk_frozen BK124.out 4; have hfz34_5 := blk_frozen BK124.out 5; have hfz34_6 := blk_frozen BK124.out 6; have hfz34_7 := blk_frozen BK124.out 7))
                          go_meet
                          case rel => exact ⟨_, (false), (by first | rfl | (simp; done) | (simp [*]; done)), H', ⟨by have := HK1.out; first | omega | exact Nat.le_refl _⟩, ⟨by (with_reducible repeat (first | refine blk_drewN ?_ _ | refine blk_drew ?_ | refine blk_alloc ?_ _)); exact BK122.out⟩, ⟨by (with_reducible repeat (first | refine blk_drewN ?_ _ | refine blk_drew ?_ | refine blk_alloc ?_ _)); exact BK124.out⟩, ⟨by repeat (first | (with_reducible first | exact HB.out | apply below_alloc | apply pw_below_drewN | apply below_drew1 | refine below_set ?_ GE122.out | refine below_set ?_ GE124.out) | exact HB.out)⟩⟩
                        · rw [if_neg c29] at H
                          have c29b0 : (((rd_T59 l1 x12_1).f0) == 2) = false := beq_eq_false_iff_ne.mpr c29
                          have c29b1 : (((rd_T59 l1 x12_1).f0) != 2) = true := bne_iff_ne.mpr c29
                          have H' := Aside0.mk H
                          clear H
                          have hnb35 := NB122_124.out
                          have hnc35 := NB124_122.out
                          have hcz36_0 : w9.cell? ⟨gb122, 0, none⟩ = some (.slice A0_0 l0_0.length c0_0) := (blk_cell BK122.out 0).trans rfl
                          have hcz36_1 : w9.cell? ⟨gb122, 1, none⟩ = some (.slice A0_1 l0_1.length c0_1) := (blk_cell BK122.out 1).trans rfl
                          have hfz36_0 := blk_frozen BK122.out 0
                          have hfz36_1 := blk_frozen BK122.out 1
                          have hcz37_0 : w9.cell? ⟨gb124, 0, none⟩ = some (.int .i64 0) := (blk_cell BK124.out 0).trans rfl
                          have hcz37_1 : w9.cell? ⟨gb124, 1, none⟩ = some (.int .i64 0) := (blk_cell BK124.out 1).trans rfl
                          have hcz37_2 : w9.cell? ⟨gb124, 2, none⟩ = some (.int .i64 0) := (blk_cell BK124.out 2).trans rfl
                          have hcz37_3 : w9.cell? ⟨gb124, 3, none⟩ = some (.int .i64 0) := (blk_cell BK124.out 3).trans rfl
                          have hcz37_4 : w9.cell? ⟨gb124, 4, none⟩ = some (.int .i64 0) := (blk_cell BK124.out 4).trans rfl
                          have hcz37_5 : w9.cell? ⟨gb124, 5, none⟩ = some (.int .i64 0) := (blk_cell BK124.out 5).trans rfl
                          have hcz37_6 : w9.cell? ⟨gb124, 6, none⟩ = some (.slice none 0 0) := (blk_cell BK124.out 6).trans rfl
                          have hcz37_7 : w9.cell? ⟨gb124, 7, none⟩ = some (.slice none 0 0) := (blk_cell BK124.out 7).trans rfl
                          have hfz37_0 := blk_frozen BK124.out 0
                          have hfz37_1 := blk_frozen BK124.out 1
                          have hfz37_2 := blk_frozen BK124.out 2
                          have hfz37_3 := blk_frozen BK124.out 3
                          have hfz37_4 := blk_frozen BK124.out 4
                          have hfz37_5 := blk_frozen BK124.out 5
                          have hfz37_6 := blk_frozen BK124.out 6
                          have hfz37_7 := blk_frozen BK124.out 7
                          go_wp2_with (first | (go_at_call 126; (with_reducible refine (impl_Prog_isVar.calls _ _ l0_0 _ _ l0_1 ((rd_T59 l1 x12_1).f1) true _ ?side1 ?side2 ?side3 ?side4 A13.out).mono ?_); (case side1 => exact Kd.C_below HR0_0.out (by repeat (first | (with_reducible first | exact HB.out | apply below_alloc | apply pw_below_drewN | apply below_drew1 | refine below_set ?_ GE122.out | refine below_set ?_ GE124.out) | exact HB.out))); (case side2 => exact HC0_0.out); (case side3 => exact Kd.C_below HR0_1.out (by repeat (first | (with_reducible first | exact HB.out | apply below_alloc | apply pw_below_drewN | apply below_drew1 | refine below_set ?_ GE122.out | refine below_set ?_ GE124.out) | exact HB.out))); (case side4 => exact HC0_1.out); rintro e w38 ⟨rfl, hb⟩; have n0_ := Aside0.mk (blk_below (g := gb122) (o := .cells #[.slice A0_0 l0_0.length c0_0, .slice A0_1 l0_1.length c0_1] 26 (0, 0)) (by (with_reducible repeat (first | refine blk_drewN ?_ _ | refine blk_drew ?_ | refine blk_alloc ?_ _)); refine blk_far ?_ NB122_124.out _; (with_reducible repeat (first | refine blk_drewN ?_ _ | refine blk_drew ?_ | refine blk_alloc ?_ _)); refine blk_far ?_ NB122_124.out _; (with_reducible repeat (first | refine blk_drewN ?_ _ | refine blk_drew ?_ | refine blk_alloc ?_ _)); refine blk_far ?_ NB122_124.out _; (with_reducible repeat (first | refine blk_drewN ?_ _ | refine blk_drew ?_ | refine blk_alloc ?_ _)); refine blk_far ?_ NB122_124.out _; (with_reducible repeat (first | refine blk_drewN ?_ _ | refine blk_drew ?_ | refine blk_alloc ?_ _)); refine blk_far ?_ NB122_124.out _; (with_reducible repeat (first | refine blk_drewN ?_ _ | refine blk_drew ?_ | refine blk_alloc ?_ _)); refine blk_far ?_ NB122_124.out _; (with_reducible repeat (first | refine blk_drewN ?_ _ | refine blk_drew ?_ | refine blk_alloc ?_ _)); refine blk_far ?_ NB122_124.out _; (with_reducible repeat (first | refine blk_drewN ?_ _ | refine blk_drew ?_ | refine blk_alloc ?_ _)); refine blk_far ?_ NB122_124.out _; (with_reducible repeat (first | refine blk_drewN ?_ _ | refine blk_drew ?_ | refine blk_alloc ?_ _)); exact BK122.out) hb); have n1_ := Aside0.mk (blk_below (g := gb124) (o := .cells #[.int .i64 ((rd_T59 l1 x12_1).f0), .int .i64 ((rd_T59 l1 x12_1).f1), .int .i64 ((rd_T59 l1 x12_1).f2.f0), .int .i64 ((rd_T59 l1 x12_1).f2.f1), .int .i64 ((rd_T59 l1 x12_1).f2.f2), .int .i64 ((rd_T59 l1 x12_1).f3), .slice A123_6 ((rd_T59 l1 x12_1).f4).length c123_6, .slice A123_7 ((rd_T59 l1 x12_1).f5).length c123_7] 59 (0, 0)) (by (with_reducible repeat (first | refine blk_drewN ?_ _ | refine blk_drew ?_ | refine blk_alloc ?_ _)); refine blk_put (cs := #[.int .i64 ((rd_T59 l1 x12_1).f0), .int .i64 ((rd_T59 l1 x12_1).f1), .int .i64 ((rd_T59 l1 x12_1).f2.f0), .int .i64 ((rd_T59 l1 x12_1).f2.f1), .int .i64 ((rd_T59 l1 x12_1).f2.f2), .int .i64 ((rd_T59 l1 x12_1).f3), .slice A123_6 ((rd_T59 l1 x12_1).f4).length c123_6, .slice none 0 0]) ?_ 7 _ rfl; (with_reducible repeat (first | refine blk_drewN ?_ _ | refine blk_drew ?_ | refine blk_alloc ?_ _)); refine blk_put (cs := #[.int .i64 ((rd_T59 l1 x12_1).f0), .int .i64 ((rd_T59 l1 x12_1).f1), .int .i64 ((rd_T59 l1 x12_1).f2.f0), .int .i64 ((rd_T59 l1 x12_1).f2.f1), .int .i64 ((rd_T59 l1 x12_1).f2.f2), .int .i64 ((rd_T59 l1 x12_1).f3), .slice none 0 0, .slice none 0 0]) ?_ 6 _ rfl; (with_reducible repeat (first | refine blk_drewN ?_ _ | refine blk_drew ?_ | refine blk_alloc ?_ _)); refine blk_put (cs := #[.int .i64 ((rd_T59 l1 x12_1).f0), .int .i64 ((rd_T59 l1 x12_1).f1), .int .i64 ((rd_T59 l1 x12_1).f2.f0), .int .i64 ((rd_T59 l1 x12_1).f2.f1), .int .i64 ((rd_T59 l1 x12_1).f2.f2), .int .i64 0, .slice none 0 0, .slice none 0 0]) ?_ 5 _ rfl; (with_reducible repeat (first | refine blk_drewN ?_ _ | refine blk_drew ?_ | refine blk_alloc ?_ _)); refine blk_put (cs := #[.int .i64 ((rd_T59 l1 x12_1).f0), .int .i64 ((rd_T59 l1 x12_1).f1), .int .i64 ((rd_T59 l1 x12_1).f2.f0), .int .i64 ((rd_T59 l1 x12_1).f2.f1), .int .i64 0, .int .i64 0, .slice none 0 0, .slice none 0 0]) ?_ 4 _ rfl; (with_reducible repeat (first | refine blk_drewN ?_ _ | refine blk_drew ?_ | refine blk_alloc ?_ _)); refine blk_put (cs := #[.int .i64 ((rd_T59 l1 x12_1).f0), .int .i64 ((rd_T59 l1 x12_1).f1), .int .i64 ((rd_T59 l1 x12_1).f2.f0), .int .i64 0, .int .i64 0, .int .i64 0, .slice none 0 0, .slice none 0 0]) ?_ 3 _ rfl; (with_reducible repeat (first | refine blk_drewN ?_ _ | refine blk_drew ?_ | refine blk_alloc ?_ _)); refine blk_put (cs := #[.int .i64 ((rd_T59 l1 x12_1).f0), .int .i64 ((rd_T59 l1 x12_1).f1), .int .i64 0, .int .i64 0, .int .i64 0, .int .i64 0, .slice none 0 0, .slice none 0 0]) ?_ 2 _ rfl; (with_reducible repeat (first | refine blk_drewN ?_ _ | refine blk_drew ?_ | refine blk_alloc ?_ _)); refine blk_put (cs := #[.int .i64 ((rd_T59 l1 x12_1).f0), .int .i64 0, .int .i64 0, .int .i64 0, .int .i64 0, .int .i64 0, .slice none 0 0, .slice none 0 0]) ?_ 1 _ rfl; (with_reducible repeat (first | refine blk_drewN ?_ _ | refine blk_drew ?_ | refine blk_alloc ?_ _)); refine blk_put (cs := #[.int .i64 0, .int .i64 0, .int .i64 0, .int .i64 0, .int .i64 0, .int .i64 0, .slice none 0 0, .slice none 0 0]) ?_ 0 _ rfl; (with_reducible repeat (first | refine blk_drewN ?_ _ | refine blk_drew ?_ | refine blk_alloc ?_ _)); exact BK124.out) hb); have n2_ := Aside0.mk (below_step (by repeat (first | (with_reducible first | exact HB.out | apply below_alloc | apply pw_below_drewN | apply below_drew1 | refine below_set ?_ GE122.out | refine below_set ?_ GE124.out) | exact HB.out)) hb); clear BK122; clear BK124; clear HB; have BK122 := n0_; have BK124 := n1_; have HB := n2_; clear n0_ n1_ n2_; (try clear hb); (try clear hb2); (try clear hk); (try clear hi); have hcz39_0 : w38.cell? ⟨gb124, 0, none⟩ = some (.int .i64 ((rd_T59 l1 x12_1).f0)) := (blk_cell BK124.out 0).trans rfl; have hcz39_1 : w38.cell? ⟨gb124, 1, none⟩ = some (.int .i64 ((rd_T59 l1 x12_1).f1)) := (blk_cell BK124.out 1).trans rfl; have hcz39_2 : w38.cell? ⟨gb124, 2, none⟩ = some (.int .i64 ((rd_T59 l1 x12_1).f2.f0)) := (blk_cell BK124.out 2).trans rfl; have hcz39_3 : w38.cell? ⟨gb124, 3, none⟩ = some (.int .i64 ((rd_T59 l1 x12_1).f2.f1)) := (blk_cell BK124.out 3).trans rfl; have hcz39_4 : w38.cell? ⟨gb124, 4, none⟩ = some (.int .i64 ((rd_T59 l1 x12_1).f2.f2)) := (blk_cell BK124.out 4).trans rfl; have hcz39_5 : w38.cell? ⟨gb124, 5, none⟩ = some (.int .i64 ((rd_T59 l1 x12_1).f3)) := (blk_cell BK124.out 5).trans rfl; have hcz39_6 : w38.cell? ⟨gb124, 6, none⟩ = some (.slice A123_6 ((rd_T59 l1 x12_1).f4).length c123_6) := (blk_cell BK124.out 6).trans rfl; have hcz39_7 : w38.cell? ⟨gb124, 7, none⟩ = some (.slice A123_7 ((rd_T59 l1 x12_1).f5).length c123_7) := (blk_cell BK124.out 7).trans rfl; have hfz39_0 := blk_frozen BK124.out 0; have hfz39_1 := blk_frozen BK124.out 1; have hfz39_2 := blk_frozen BK124.out 2; have hfz39_3 := blk_frozen BK124.out 3; have hfz39_4 := blk_frozen BK124.out 4; have hfz39_5 := blk_frozen BK124.out 5; have hfz39_6 := blk_frozen BK124.out 6; have hfz39_7 := blk_frozen BK124.out 7))
                          go_meet
                          case rel => exact ⟨_, (decide ((wrap64 ((((rd_T59 l1 x12_1).f4).length : Int) + (((rd_T59 l1 x12_1).f5).length : Int))) > 0)), (by first | rfl | (simp; done) | (simp [*]; done)), H', ⟨by have := HK1.out; first | omega | exact Nat.le_refl _⟩, ⟨by (with_reducible repeat (first | refine blk_drewN ?_ _ | refine blk_drew ?_ | refine blk_alloc ?_ _)); exact BK122.out⟩, ⟨by (with_reducible repeat (first | refine blk_drewN ?_ _ | refine blk_drew ?_ | refine blk_alloc ?_ _)); exact BK124.out⟩, ⟨by repeat (first | (with_reducible first | exact HB.out | apply below_alloc | apply pw_below_drewN | apply below_drew1 | refine below_set ?_ GE122.out | refine below_set ?_ GE124.out) | exact HB.out)⟩⟩
                      · rw [if_neg c28] at H
                        have c28b0 : (((rd_T59 l1 x12_1).f3) == 0) = false := beq_eq_false_iff_ne.mpr c28
                        have c28b1 : (((rd_T59 l1 x12_1).f3) != 0) = true := bne_iff_ne.mpr c28
                        have H' := Aside0.mk H
                        clear H
                        have hnb40 := NB122_124.out
                        have hnc40 := NB124_122.out
                        have hcz41_0 : w9.cell? ⟨gb122, 0, none⟩ = some (.slice A0_0 l0_0.length c0_0) := (blk_cell BK122.out 0).trans rfl
                        have hcz41_1 : w9.cell? ⟨gb122, 1, none⟩ = some (.slice A0_1 l0_1.length c0_1) := (blk_cell BK122.out 1).trans rfl
                        have hfz41_0 := blk_frozen BK122.out 0
                        have hfz41_1 := blk_frozen BK122.out 1
                        have hcz42_0 : w9.cell? ⟨gb124, 0, none⟩ = some (.int .i64 0) := (blk_cell BK124.out 0).trans rfl
                        have hcz42_1 : w9.cell? ⟨gb124, 1, none⟩ = some (.int .i64 0) := (blk_cell BK124.out 1).trans rfl
                        have hcz42_2 : w9.cell? ⟨gb124, 2, none⟩ = some (.int .i64 0) := (blk_cell BK124.out 2).trans rfl
                        have hcz42_3 : w9.cell? ⟨gb124, 3, none⟩ = some (.int .i64 0) := (blk_cell BK124.out 3).trans rfl
                        have hcz42_4 : w9.cell? ⟨gb124, 4, none⟩ = some (.int .i64 0) := (blk_cell BK124.out 4).trans rfl
                        have hcz42_5 : w9.cell? ⟨gb124, 5, none⟩ = some (.int .i64 0) := (blk_cell BK124.out 5).trans rfl
                        have hcz42_6 : w9.cell? ⟨gb124, 6, none⟩ = some (.slice none 0 0) := (blk_cell BK124.out 6).trans rfl
                        have hcz42_7 : w9.cell? ⟨gb124, 7, none⟩ = some (.slice none 0 0) := (blk_cell BK124.out 7).trans rfl
                        have hfz42_0 := blk_frozen BK124.out 0
                        have hfz42_1 := blk_frozen BK124.out 1
                        have hfz42_2 := blk_frozen BK124.out 2
                        have hfz42_3 := blk_frozen BK124.out 3
                        have hfz42_4 := blk_frozen BK124.out 4
                        have hfz42_5 := blk_frozen BK124.out 5
                        have hfz42_6 := blk_frozen BK124.out 6
                        have hfz42_7 := blk_frozen BK124.out 7
                        go_wp2_with (first | (go_at_call 126; (with_reducible refine (impl_Prog_isVar.calls _ _ l0_0 _ _ l0_1 ((rd_T59 l1 x12_1).f1) true _ ?side1 ?side2 ?side3 ?side4 A13.out).mono ?_); (case side1 => exact Kd.C_below HR0_0.out (by repeat (first | (with_reducible first | exact HB.out | apply below_alloc | apply pw_below_drewN | apply below_drew1 | refine below_set ?_ GE122.out | refine below_set ?_ GE124.out) | exact HB.out))); (case side2 => exact HC0_0.out); (case side3 => exact Kd.C_below HR0_1.out (by repeat (first | (with_reducible first | exact HB.out | apply below_alloc | apply pw_below_drewN | apply below_drew1 | refine below_set ?_ GE122.out | refine below_set ?_ GE124.out) | exact HB.out))); (case side4 => exact HC0_1.out); rintro e w43 ⟨rfl, hb⟩; have n0_ := Aside0.mk (blk_below (g := gb122) (o := .cells #[.slice A0_0 l0_0.length c0_0, .slice A0_1 l0_1.length c0_1] 26 (0, 0)) (by (with_reducible repeat (first | refine blk_drewN ?_ _ | refine blk_drew ?_ | refine blk_alloc ?_ _)); refine blk_far ?_ NB122_124.out _; (with_reducible repeat (first | refine blk_drewN ?_ _ | refine blk_drew ?_ | refine blk_alloc ?_ _)); refine blk_far ?_ NB122_124.out _; (with_reducible repeat (first | refine blk_drewN ?_ _ | refine blk_drew ?_ | refine blk_alloc ?_ _)); refine blk_far ?_ NB122_124.out _; (with_reducible repeat (first | refine blk_drewN ?_ _ | refine blk_drew ?_ | refine blk_alloc ?_ _)); refine blk_far ?_ NB122_124.out _; (with_reducible repeat (first | refine blk_drewN ?_ _ | refine blk_drew ?_ | refine blk_alloc ?_ _)); refine blk_far ?_ NB122_124.out _; (with_reducible repeat (first | refine blk_drewN ?_ _ | refine blk_drew ?_ | refine blk_alloc ?_ _)); refine blk_far ?_ NB122_124.out _; (with_reducible repeat (first | refine blk_drewN ?_ _ | refine blk_drew ?_ | refine blk_alloc ?_ _)); refine blk_far ?_ NB122_124.out _; (with_reducible repeat (first | refine blk_drewN ?_ _ | refine blk_drew ?_ | refine blk_alloc ?_ _)); refine blk_far ?_ NB122_124.out _; (with_reducible repeat (first | refine blk_drewN ?_ _ | refine blk_drew ?_ | refine blk_alloc ?_ _)); exact BK122.out) hb); have n1_ := Aside0.mk (blk_below (g := gb124) (o := .cells #[.int .i64 ((rd_T59 l1 x12_1).f0), .int .i64 ((rd_T59 l1 x12_1).f1), .int .i64 ((rd_T59 l1 x12_1).f2.f0), .int .i64 ((rd_T59 l1 x12_1).f2.f1), .int .i64 ((rd_T59 l1 x12_1).f2.f2), .int .i64 ((rd_T59 l1 x12_1).f3), .slice A123_6 ((rd_T59 l1 x12_1).f4).length c123_6, .slice A123_7 ((rd_T59 l1 x12_1).f5).length c123_7] 59 (0, 0)) (by (with_reducible repeat (first | refine blk_drewN ?_ _ | refine blk_drew ?_ | refine blk_alloc ?_ _)); refine blk_put (cs := #[.int .i64 ((rd_T59 l1 x12_1).f0), .int .i64 ((rd_T59 l1 x12_1).f1), .int .i64 ((rd_T59 l1 x12_1).f2.f0), .int .i64 ((rd_T59 l1 x12_1).f2.f1), .int .i64 ((rd_T59 l1 x12_1).f2.f2), .int .i64 ((rd_T59 l1 x12_1).f3), .slice A123_6 ((rd_T59 l1 x12_1).f4).length c123_6, .slice none 0 0]) ?_ 7 _ rfl; (with_reducible repeat (first | refine blk_drewN ?_ _ | refine blk_drew ?_ | refine blk_alloc ?_ _)); refine blk_put (cs := #[.int .i64 ((rd_T59 l1 x12_1).f0), .int .i64 ((rd_T59 l1 x12_1).f1), .int .i64 ((rd_T59 l1 x12_1).f2.f0), .int .i64 ((rd_T59 l1 x12_1).f2.f1), .int .i64 ((rd_T59 l1 x12_1).f2.f2), .int .i64 ((rd_T59 l1 x12_1).f3), .slice none 0 0, .slice none 0 0]) ?_ 6 _ rfl; (with_reducible repeat (first | refine blk_drewN ?_ _ | refine blk_drew ?_ | refine blk_alloc ?_ _)); refine blk_put (cs := #[.int .i64 ((rd_T59 l1 x12_1).f0), .int .i64 ((rd_T59 l1 x12_1).f1), .int .i64 ((rd_T59 l1 x12_1).f2.f0), .int .i64 ((rd_T59 l1 x12_1).f2.f1), .int .i64 ((rd_T59 l1 x12_1).f2.f2), .int .i64 0, .slice none 0 0, .slice none 0 0]) ?_ 5 _ rfl; (with_reducible repeat (first | refine blk_drewN ?_ _ | refine blk_drew ?_ | refine blk_alloc ?_ _)); refine blk_put (cs := #[.int .i64 ((rd_T59 l1 x12_1).f0), .int .i64 ((rd_T59 l1 x12_1).f1), .int .i64 ((rd_T59 l1 x12_1).f2.f0), .int .i64 ((rd_T59 l1 x12_1).f2.f1), .int .i64 0, .int .i64 0, .slice none 0 0, .slice none 0 0]) ?_ 4 _ rfl; (with_reducible repeat (first | refine blk_drewN ?_ _ | refine blk_drew ?_ | refine blk_alloc ?_ _)); refine blk_put (cs := #[.int .i64 ((rd_T59 l1 x12_1).f0), .int .i64 ((rd_T59 l1 x12_1).f1), .int .i64 ((rd_T59 l1 x12_1).f2.f0), .int .i64 0, .int .i64 0, .int .i64 0, .slice none 0 0, .slice none 0 0]) ?_ 3 _ rfl; (with_reducible repeat (first | refine blk_drewN ?_ _ | refine blk_drew ?_ | refine blk_alloc ?_ _)); refine blk_put (cs := #[.int .i64 ((rd_T59 l1 x12_1).f0), .int .i64 ((rd_T59 l1 x12_1).f1), .int .i64 0, .int .i64 0, .int .i64 0, .int .i64 0, .slice none 0 0, .slice none 0 0]) ?_ 2 _ rfl; (with_reducible repeat (first | refine blk_drewN ?_ _ | refine blk_drew ?_ | refine blk_alloc ?_ _)); refine blk_put (cs := #[.int .i64 ((rd_T59 l1 x12_1).f0), .int .i64 0, .int .i64 0, .int .i64 0, .int .i64 0, .int .i64 0, .slice none 0 0, .slice none 0 0]) ?_ 1 _ rfl; (with_reducible repeat (first | refine blk_drewN ?_ _ | refine blk_drew ?_ | refine blk_alloc ?_ _)); refine blk_put (cs := #[.int .i64 0, .int .i64 0, .int .i64 0, .int .i64 0, .int .i64 0, .int .i64 0, .slice none 0 0, .slice none 0 0]) ?_ 0 _ rfl; (with_reducible repeat (first | refine blk_drewN ?_ _ | refine blk_drew ?_ | refine blk_alloc ?_ _)); exact BK124.out) hb); have n2_ := Aside0.mk (below_step (by repeat (first | (with_reducible first | exact HB.out | apply below_alloc | apply pw_below_drewN | apply below_drew1 | refine below_set ?_ GE122.out | refine below_set ?_ GE124.out) | exact HB.out)) hb); clear BK122; clear BK124; clear HB; have BK122 := n0_; have BK124 := n1_; have HB := n2_; clear n0_ n1_ n2_; (try clear hb); (try clear hb2); (try clear hk); (try clear hi); have hcz44_0 : w43.cell? ⟨gb124, 0, none⟩ = some (.int .i64 ((rd_T59 l1 x12_1).f0)) := (blk_cell BK124.out 0).trans rfl; have hcz44_1 : w43.cell? ⟨gb124, 1, none⟩ = some (.int .i64 ((rd_T59 l1 x12_1).f1)) := (blk_cell BK124.out 1).trans rfl; have hcz44_2 : w43.cell? ⟨gb124, 2, none⟩ = some (.int .i64 ((rd_T59 l1 x12_1).f2.f0)) := (blk_cell BK124.out 2).trans rfl; have hcz44_3 : w43.cell? ⟨gb124, 3, none⟩ = some (.int .i64 ((rd_T59 l1 x12_1).f2.f1)) := (blk_cell BK124.out 3).trans rfl; have hcz44_4 : w43.cell? ⟨gb124, 4, none⟩ = some (.int .i64 ((rd_T59 l1 x12_1).f2.f2)) := (blk_cell BK124.out 4).trans rfl; have hcz44_5 : w43.cell? ⟨gb124, 5, none⟩ = some (.int .i64 ((rd_T59 l1 x12_1).f3)) := (blk_cell BK124.out 5).trans rfl; have hcz44_6 : w43.cell? ⟨gb124, 6, none⟩ = some (.slice A123_6 ((rd_T59 l1 x12_1).f4).length c123_6) := (blk_cell BK124.out 6).trans rfl; have hcz44_7 : w43.cell? ⟨gb124, 7, none⟩ = some (.slice A123_7 ((rd_T59 l1 x12_1).f5).length c123_7) := (blk_cell BK124.out 7).trans rfl; have hfz44_0 := blk_frozen BK124.out 0; have hfz44_1 := blk_frozen BK124.out 1; have hfz44_2 := blk_frozen BK124.out 2; have hfz44_3 := blk_frozen BK124.out 3; have hfz44_4 := blk_frozen BK124.out 4; have hfz44_5 := blk_frozen BK124.out 5; have hfz44_6 := blk_frozen BK124.out 6; have hfz44_7 := blk_frozen BK124.out 7))
                        go_meet
                        case rel => exact ⟨_, (true), (by first | rfl | (simp; done) | (simp [*]; done)), H', ⟨by have := HK1.out; first | omega | exact Nat.le_refl _⟩, ⟨by (with_reducible repeat (first | refine blk_drewN ?_ _ | refine blk_drew ?_ | refine blk_alloc ?_ _)); exact BK122.out⟩, ⟨by (with_reducible repeat (first | refine blk_drewN ?_ _ | refine blk_drew ?_ | refine blk_alloc ?_ _)); exact BK124.out⟩, ⟨by repeat (first | (with_reducible first | exact HB.out | apply below_alloc | apply pw_below_drewN | apply below_drew1 | refine below_set ?_ GE122.out | refine below_set ?_ GE124.out) | exact HB.out)⟩⟩
                  · rw [if_neg c15] at H
                    have c15b0 : (((rd_T59 l1 x12_1).f0) == 1) = false := beq_eq_false_iff_ne.mpr c15
                    have c15b1 : (((rd_T59 l1 x12_1).f0) != 1) = true := bne_iff_ne.mpr c15
                    by_cases c45 : (!(((rd_T59 l1 x12_1).f2.f0) == 0) || (!(((rd_T59 l1 x12_1).f2.f1) == 0) || (!(((rd_T59 l1 x12_1).f2.f2) == 0)))) = true
                    · rw [if_pos c45] at H
                      have c45b0 : (!(((rd_T59 l1 x12_1).f2.f0) == 0) || (!(((rd_T59 l1 x12_1).f2.f1) == 0) || (!(((rd_T59 l1 x12_1).f2.f2) == 0)))) = true := c45
                      clear c45
                      have H' := Aside0.mk H
                      clear H
                      have hnb46 := NB122_124.out
                      have hnc46 := NB124_122.out
                      have hcz47_0 : w9.cell? ⟨gb122, 0, none⟩ = some (.slice A0_0 l0_0.length c0_0) := (blk_cell BK122.out 0).trans rfl
                      have hcz47_1 : w9.cell? ⟨gb122, 1, none⟩ = some (.slice A0_1 l0_1.length c0_1) := (blk_cell BK122.out 1).trans rfl
                      have hfz47_0 := blk_frozen BK122.out 0
                      have hfz47_1 := blk_frozen BK122.out 1
                      have hcz48_0 : w9.cell? ⟨gb124, 0, none⟩ = some (.int .i64 0) := (blk_cell BK124.out 0).trans rfl
                      have hcz48_1 : w9.cell? ⟨gb124, 1, none⟩ = some (.int .i64 0) := (blk_cell BK124.out 1).trans rfl
                      have hcz48_2 : w9.cell? ⟨gb124, 2, none⟩ = some (.int .i64 0) := (blk_cell BK124.out 2).trans rfl
                      have hcz48_3 : w9.cell? ⟨gb124, 3, none⟩ = some (.int .i64 0) := (blk_cell BK124.out 3).trans rfl
                      have hcz48_4 : w9.cell? ⟨gb124, 4, none⟩ = some (.int .i64 0) := (blk_cell BK124.out 4).trans rfl
                      have hcz48_5 : w9.cell? ⟨gb124, 5, none⟩ = some (.int .i64 0) := (blk_cell BK124.out 5).trans rfl
                      have hcz48_6 : w9.cell? ⟨gb124, 6, none⟩ = some (.slice none 0 0) := (blk_cell BK124.out 6).trans rfl
                      have hcz48_7 : w9.cell? ⟨gb124, 7, none⟩ = some (.slice none 0 0) := (blk_cell BK124.out 7).trans rfl
                      have hfz48_0 := blk_frozen BK124.out 0
                      have hfz48_1 := blk_frozen BK124.out 1
                      have hfz48_2 := blk_frozen BK124.out 2
                      have hfz48_3 := blk_frozen BK124.out 3
                      have hfz48_4 := blk_frozen BK124.out 4
                      have hfz48_5 := blk_frozen BK124.out 5
                      have hfz48_6 := blk_frozen BK124.out 6
                      have hfz48_7 := blk_frozen BK124.out 7
                      go_wp2_with (first | (go_at_call 126; (with_reducible refine (impl_Prog_isVar.calls _ _ l0_0 _ _ l0_1 ((rd_T59 l1 x12_1).f1) true _ ?side1 ?side2 ?side3 ?side4 A13.out).mono ?_); (case side1 => exact Kd.C_below HR0_0.out (by repeat (first | (with_reducible first | exact HB.out | apply below_alloc | apply pw_below_drewN | apply below_drew1 | refine below_set ?_ GE122.out | refine below_set ?_ GE124.out) | exact HB.out))); (case side2 => exact HC0_0.out); (case side3 => exact Kd.C_below HR0_1.out (by repeat (first | (with_reducible first | exact HB.out | apply below_alloc | apply pw_below_drewN | apply below_drew1 | refine below_set ?_ GE122.out | refine below_set ?_ GE124.out) | exact HB.out))); (case side4 => exact HC0_1.out); rintro e w49 ⟨rfl, hb⟩; have n0_ := Aside0.mk (blk_below (g := gb122) (o := .cells #[.slice A0_0 l0_0.length c0_0, .slice A0_1 l0_1.length c0_1] 26 (0, 0)) (by (with_reducible repeat (first | refine blk_drewN ?_ _ | refine blk_drew ?_ | refine blk_alloc ?_ _)); refine blk_far ?_ NB122_124.out _; (with_reducible repeat (first | refine blk_drewN ?_ _ | refine blk_drew ?_ | refine blk_alloc ?_ _)); refine blk_far ?_ NB122_124.out _; (with_reducible repeat (first | refine blk_drewN ?_ _ | refine blk_drew ?_ | refine blk_alloc ?_ _)); refine blk_far ?_ NB122_124.out _; (with_reducible repeat (first | refine blk_drewN ?_ _ | refine blk_drew ?_ | refine blk_alloc ?_ _)); refine blk_far ?_ NB122_124.out _; (with_reducible repeat (first | refine blk_drewN ?_ _ | refine blk_drew ?_ | refine blk_alloc ?_ _)); refine blk_far ?_ NB122_124.out _; (with_reducible repeat (first | refine blk_drewN ?_ _ | refine blk_drew ?_ | refine blk_alloc ?_ _)); refine blk_far ?_ NB122_124.out _; (with_reducible repeat (first | refine blk_drewN ?_ _ | refine blk_drew ?_ | refine blk_alloc ?_ _)); refine blk_far ?_ NB122_124.out _; (with_reducible repeat (first | refine blk_drewN ?_ _ | refine blk_drew ?_ | refine blk_alloc ?_ _)); refine blk_far ?_ NB122_124.out _; (with_reducible repeat (first | refine blk_drewN ?_ _ | refine blk_drew ?_ | refine blk_alloc ?_ _)); exact BK122.out) hb); have n1_ := Aside0.mk (blk_below (g := gb124) (o := .cells #[.int .i64 ((rd_T59 l1 x12_1).f0), .int .i64 ((rd_T59 l1 x12_1).f1), .int .i64 ((rd_T59 l1 x12_1).f2.f0), .int .i64 ((rd_T59 l1 x12_1).f2.f1), .int .i64 ((rd_T59 l1 x12_1).f2.f2), .int .i64 ((rd_T59 l1 x12_1).f3), .slice A123_6 ((rd_T59 l1 x12_1).f4).length c123_6, .slice A123_7 ((rd_T59 l1 x12_1).f5).length c123_7] 59 (0, 0)) (by (with_reducible repeat (first | refine blk_drewN ?_ _ | refine blk_drew ?_ | refine blk_alloc ?_ _)); refine blk_put (cs := #[.int .i64 ((rd_T59 l1 x12_1).f0), .int .i64 ((rd_T59 l1 x12_1).f1), .int .i64 ((rd_T59 l1 x12_1).f2.f0), .int .i64 ((rd_T59 l1 x12_1).f2.f1), .int .i64 ((rd_T59 l1 x12_1).f2.f2), .int .i64 ((rd_T59 l1 x12_1).f3), .slice A123_6 ((rd_T59 l1 x12_1).f4).length c123_6, .slice none 0 0]) ?_ 7 _ rfl; (with_reducible repeat (first | refine blk_drewN ?_ _ | refine blk_drew ?_ | refine blk_alloc ?_ _)); refine blk_put (cs := #[.int .i64 ((rd_T59 l1 x12_1).f0), .int .i64 ((rd_T59 l1 x12_1).f1), .int .i64 ((rd_T59 l1 x12_1).f2.f0), .int .i64 ((rd_T59 l1 x12_1).f2.f1), .int .i64 ((rd_T59 l1 x12_1).f2.f2), .int .i64 ((rd_T59 l1 x12_1).f3), .slice none 0 0, .slice none 0 0]) ?_ 6 _ rfl; (with_reducible repeat (first | refine blk_drewN ?_ _ | refine blk_drew ?_ | refine blk_alloc ?_ _)); refine blk_put (cs := #[.int .i64 ((rd_T59 l1 x12_1).f0), .int .i64 ((rd_T59 l1 x12_1).f1), .int .i64 ((rd_T59 l1 x12_1).f2.f0), .int .i64 ((rd_T59 l1 x12_1).f2.f1), .int .i64 ((rd_T59 l1 x12_1).f2.f2), .int .i64 0, .slice none 0 0, .slice none 0 0]) ?_ 5 _ rfl; (with_reducible repeat (first | refine blk_drewN ?_ _ | refine blk_drew ?_ | refine blk_alloc ?_ _)); refine blk_put (cs := #[.int .i64 ((rd_T59 l1 x12_1).f0), .int .i64 ((rd_T59 l1 x12_1).f1), .int .i64 ((rd_T59 l1 x12_1).f2.f0), .int .i64 ((rd_T59 l1 x12_1).f2.f1), .int .i64 0, .int .i64 0, .slice none 0 0, .slice none 0 0]) ?_ 4 _ rfl; (with_reducible repeat (first | refine blk_drewN ?_ _ | refine blk_drew ?_ | refine blk_alloc ?_ _)); refine blk_put (cs := #[.int .i64 ((rd_T59 l1 x12_1).f0), .int .i64 ((rd_T59 l1 x12_1).f1), .int .i64 ((rd_T59 l1 x12_1).f2.f0), .int .i64 0, .int .i64 0, .int .i64 0, .slice none 0 0, .slice none 0 0]) ?_ 3 _ rfl; (with_reducible repeat (first | refine blk_drewN ?_ _ | refine blk_drew ?_ | refine blk_alloc ?_ _)); refine blk_put (cs := #[.int .i64 ((rd_T59 l1 x12_1).f0), .int .i64 ((rd_T59 l1 x12_1).f1), .int .i64 0, .int .i64 0, .int .i64 0, .int .i64 0, .slice none 0 0, .slice none 0 0]) ?_ 2 _ rfl; (with_reducible repeat (first | refine blk_drewN ?_ _ | refine blk_drew ?_ | refine blk_alloc ?_ _)); refine blk_put (cs := #[.int .i64 ((rd_T59 l1 x12_1).f0), .int .i64 0, .int .i64 0, .int .i64 0, .int .i64 0, .int .i64 0, .slice none 0 0, .slice none 0 0]) ?_ 1 _ rfl; (with_reducible repeat (first | refine blk_drewN ?_ _ | refine blk_drew ?_ | refine blk_alloc ?_ _)); refine blk_put (cs := #[.int .i64 0, .int .i64 0, .int .i64 0, .int .i64 0, .int .i64 0, .int .i64 0, .slice none 0 0, .slice none 0 0]) ?_ 0 _ rfl; (with_reducible repeat (first | refine blk_drewN ?_ _ | refine blk_drew ?_ | refine blk_alloc ?_ _)); exact BK124.out) hb); have n2_ := Aside0.mk (below_step (by repeat (first | (with_reducible first | exact HB.out | apply below_alloc | apply pw_below_drewN | apply below_drew1 | refine below_set ?_ GE122.out | refine below_set ?_ GE124.out) | exact HB.out)) hb); clear BK122; clear BK124; clear HB; have BK122 := n0_; have BK124 := n1_; have HB := n2_; clear n0_ n1_ n2_; (try clear hb); (try clear hb2); (try clear hk); (try clear hi); have hcz50_0 : w49.cell? ⟨gb124, 0, none⟩ = some (.int .i64 ((rd_T59 l1 x12_1).f0)) := (blk_cell BK124.out 0).trans rfl; have hcz50_1 : w49.cell? ⟨gb124, 1, none⟩ = some (.int .i64 ((rd_T59 l1 x12_1).f1)) := (blk_cell BK124.out 1).trans rfl; have hcz50_2 : w49.cell? ⟨gb124, 2, none⟩ = some (.int .i64 ((rd_T59 l1 x12_1).f2.f0)) := (blk_cell BK124.out 2).trans rfl; have hcz50_3 : w49.cell? ⟨gb124, 3, none⟩ = some (.int .i64 ((rd_T59 l1 x12_1).f2.f1)) := (blk_cell BK124.out 3).trans rfl; have hcz50_4 : w49.cell? ⟨gb124, 4, none⟩ = some (.int .i64 ((rd_T59 l1 x12_1).f2.f2)) := (blk_cell BK124.out 4).trans rfl; have hcz50_5 : w49.cell? ⟨gb124, 5, none⟩ = some (.int .i64 ((rd_T59 l1 x12_1).f3)) := (blk_cell BK124.out 5).trans rfl; have hcz50_6 : w49.cell? ⟨gb124, 6, none⟩ = some (.slice A123_6 ((rd_T59 l1 x12_1).f4).length c123_6) := (blk_cell BK124.out 6).trans rfl; have hcz50_7 : w49.cell? ⟨gb124, 7, none⟩ = some (.slice A123_7 ((rd_T59 l1 x12_1).f5).length c123_7) := (blk_cell BK124.out 7).trans rfl; have hfz50_0 := blk_frozen BK124.out 0; have hfz50_1 := blk_frozen BK124.out 1; have hfz50_2 := blk_frozen BK124.out 2; have hfz50_3 := blk_frozen BK124.out 3; have hfz50_4 := blk_frozen BK124.out 4; have hfz50_5 := blk_frozen BK124.out 5; have hfz50_6 := blk_frozen BK124.out 6; have hfz50_7 := blk_frozen BK124.out 7))
                      go_meet
                      case rel => exact ⟨_, (true), (by first | rfl | (simp; done) | (simp [*]; done)), H', ⟨by have := HK1.out; first | omega | exact Nat.le_refl _⟩, ⟨by (with_reducible repeat (first | refine blk_drewN ?_ _ | refine blk_drew ?_ | refine blk_alloc ?_ _)); exact BK122.out⟩, ⟨by (with_reducible repeat (first | refine blk_drewN ?_ _ | refine blk_drew ?_ | refine blk_alloc ?_ _)); exact BK124.out⟩, ⟨by repeat (first | (with_reducible first | exact HB.out | apply below_alloc | apply pw_below_drewN | apply below_drew1 | refine below_set ?_ GE122.out | refine below_set ?_ GE124.out) | exact HB.out)⟩⟩
                    · rw [if_neg c45] at H
                      have c45b0 : (!(((rd_T59 l1 x12_1).f2.f0) == 0) || (!(((rd_T59 l1 x12_1).f2.f1) == 0) || (!(((rd_T59 l1 x12_1).f2.f2) == 0)))) = false := by simpa using c45
                      clear c45
                      by_cases c51 : ((rd_T59 l1 x12_1).f0) = 3
                      · rw [if_pos c51] at H
                        have c51b0 : (((rd_T59 l1 x12_1).f0) == 3) = true := beq_iff_eq.mpr c51
                        have c51b1 : (((rd_T59 l1 x12_1).f0) != 3) = false := bne_eq_false_iff_eq.mpr c51
                        clear c51
                        by_cases c52 : ((rd_T59 l1 x12_1).f0) = 2
                        · rw [if_pos c52] at H
                          have c52b0 : (((rd_T59 l1 x12_1).f0) == 2) = true := beq_iff_eq.mpr c52
                          have c52b1 : (((rd_T59 l1 x12_1).f0) != 2) = false := bne_eq_false_iff_eq.mpr c52
                          clear c52
                          have H' := Aside0.mk H
                          clear H
                          have hnb53 := NB122_124.out
                          have hnc53 := NB124_122.out
                          have hcz54_0 : w9.cell? ⟨gb122, 0, none⟩ = some (.slice A0_0 l0_0.length c0_0) := (blk_cell BK122.out 0).trans rfl
                          have hcz54_1 : w9.cell? ⟨gb122, 1, none⟩ = some (.slice A0_1 l0_1.length c0_1) := (blk_cell BK122.out 1).trans rfl
                          have hfz54_0 := blk_frozen BK122.out 0
                          have hfz54_1 := blk_frozen BK122.out 1
                          have hcz55_0 : w9.cell? ⟨gb124, 0, none⟩ = some (.int .i64 0) := (blk_cell BK124.out 0).trans rfl
                          have hcz55_1 : w9.cell? ⟨gb124, 1, none⟩ = some (.int .i64 0) := (blk_cell BK124.out 1).trans rfl
                          have hcz55_2 : w9.cell? ⟨gb124, 2, none⟩ = some (.int .i64 0) := (blk_cell BK124.out 2).trans rfl
                          have hcz55_3 : w9.cell? ⟨gb124, 3, none⟩ = some (.int .i64 0) := (blk_cell BK124.out 3).trans rfl
                          have hcz55_4 : w9.cell? ⟨gb124, 4, none⟩ = some (.int .i64 0) := (blk_cell BK124.out 4).trans rfl
                          have hcz55_5 : w9.cell? ⟨gb124, 5, none⟩ = some (.int .i64 0) := (blk_cell BK124.out 5).trans rfl
                          have hcz55_6 : w9.cell? ⟨gb124, 6, none⟩ = some (.slice none 0 0) := (blk_cell BK124.out 6).trans rfl
                          have hcz55_7 : w9.cell? ⟨gb124, 7, none⟩ = some (.slice none 0 0) := (blk_cell BK124.out 7).trans rfl
                          have hfz55_0 := blk_frozen BK124.out 0
                          have hfz55_1 := blk_frozen BK124.out 1
                          have hfz55_2 := blk_frozen BK124.out 2
                          have hfz55_3 := blk_frozen BK124.out 3
                          have hfz55_4 := blk_frozen BK124.out 4
                          have hfz55_5 := blk_frozen BK124.out 5
                          have hfz55_6 := blk_frozen BK124.out 6
                          have hfz55_7 := blk_frozen BK124.out 7
                          go_wp2_with (first | (go_at_call 126; (with_reducible refine (impl_Prog_isVar.calls _ _ l0_0 _ _ l0_1 ((rd_T59 l1 x12_1).f1) true _ ?side1 ?side2 ?side3 ?side4 A13.out).mono ?_); (case side1 => exact Kd.C_below HR0_0.out (by repeat (first | (with_reducible first | exact HB.out | apply below_alloc | apply pw_below_drewN | apply below_drew1 | refine below_set ?_ GE122.out | refine below_set ?_ GE124.out) | exact HB.out))); (case side2 => exact HC0_0.out); (case side3 => exact Kd.C_below HR0_1.out (by repeat (first | (with_reducible first | exact HB.out | apply below_alloc | apply pw_below_drewN | apply below_drew1 | refine below_set ?_ GE122.out | refine below_set ?_ GE124.out) | exact HB.out))); (case side4 => exact HC0_1.out); rintro e w56 ⟨rfl, hb⟩; have n0_ := Aside0.mk (blk_below (g := gb122) (o := .cells #[.slice A0_0 l0_0.length c0_0, .slice A0_1 l0_1.length c0_1] 26 (0, 0)) (by (with_reducible repeat (first | refine blk_drewN ?_ _ | refine blk_drew ?_ | refine blk_alloc ?_ _)); refine blk_far ?_ NB122_124.out _; (with_reducible repeat (first | refine blk_drewN ?_ _ | refine blk_drew ?_ | refine blk_alloc ?_ _)); refine blk_far ?_ NB122_124.out _; (with_reducible repeat (first | refine blk_drewN ?_ _ | refine blk_drew ?_ | refine blk_alloc ?_ _)); refine blk_far ?_ NB122_124.out _; (with_reducible repeat (first | refine blk_drewN ?_ _ | refine blk_drew ?_ | refine blk_alloc ?_ _)); refine blk_far ?_ NB122_124.out _; (with_reducible repeat (first | refine blk_drewN ?_ _ | refine blk_drew ?_ | refine blk_alloc ?_ _)); refine blk_far ?_ NB122_124.out _; (with_reducible repeat (first | refine blk_drewN ?_ _ | refine blk_drew ?_ | refine blk_alloc ?_ _)); refine blk_far ?_ NB122_124.out _; (with_reducible repeat (first | refine blk_drewN ?_ _ | refine blk_drew ?_ | refine blk_alloc ?_ _)); refine blk_far ?_ NB122_124.out _; (with_reducible repeat (first | refine blk_drewN ?_ _ | refine blk_drew ?_ | refine blk_alloc ?_ _)); refine blk_far ?_ NB122_124.out _; (with_reducible repeat (first | refine blk_drewN ?_ _ | refine blk_drew ?_ | refine blk_alloc ?_ _)); exact BK122.out) hb); have n1_ := Aside0.mk (blk_below (g := gb124) (o := .cells #[.int .i64 ((rd_T59 l1 x12_1).f0), .int .i64 ((rd_T59 l1 x12_1).f1), .int .i64 ((rd_T59 l1 x12_1).f2.f0), .int .i64 ((rd_T59 l1 x12_1).f2.f1), .int .i64 ((rd_T59 l1 x12_1).f2.f2), .int .i64 ((rd_T59 l1 x12_1).f3), .slice A123_6 ((rd_T59 l1 x12_1).f4).length c123_6, .slice A123_7 ((rd_T59 l1 x12_1).f5).length c123_7] 59 (0, 0)) (by (with_reducible repeat (first | refine blk_drewN ?_ _ | refine blk_drew ?_ | refine blk_alloc ?_ _)); refine blk_put (cs := #[.int .i64 ((rd_T59 l1 x12_1).f0), .int .i64 ((rd_T59 l1 x12_1).f1), .int .i64 ((rd_T59 l1 x12_1).f2.f0), .int .i64 ((rd_T59 l1 x12_1).f2.f1), .int .i64 ((rd_T59 l1 x12_1).f2.f2), .int .i64 ((rd_T59 l1 x12_1).f3), .slice A123_6 ((rd_T59 l1 x12_1).f4).length c123_6, .slice none 0 0]) ?_ 7 _ rfl; (with_reducible repeat (first | refine blk_drewN ?_ _ | refine blk_drew ?_ | refine blk_alloc ?_ _)); refine blk_put (cs := #[.int .i64 ((rd_T59 l1 x12_1).f0), .int .i64 ((rd_T59 l1 x12_1).f1), .int .i64 ((rd_T59 l1 x12_1).f2.f0), .int .i64 ((rd_T59 l1 x12_1).f2.f1), .int .i64 ((rd_T59 l1 x12_1).f2.f2), .int .i64 ((rd_T59 l1 x12_1).f3), .slice none 0 0, .slice none 0 0]) ?_ 6 _ rfl; (with_reducible repeat (first | refine blk_drewN ?_ _ | refine blk_drew ?_ | refine blk_alloc ?_ _)); refine blk_put (cs := #[.int .i64 ((rd_T59 l1 x12_1).f0), .int .i64 ((rd_T59 l1 x12_1).f1), .int .i64 ((rd_T59 l1 x12_1).f2.f0), .int .i64 ((rd_T59 l1 x12_1).f2.f1), .int .i64 ((rd_T59 l1 x12_1).f2.f2), .int .i64 0, .slice none 0 0, .slice none 0 0]) ?_ 5 _ rfl; (with_reducible repeat (first | refine blk_drewN ?_ _ | refine blk_drew ?_ | refine blk_alloc ?_ _)); refine blk_put (cs := #[.int .i64 ((rd_T59 l1 x12_1).f0), .int .i64 ((rd_T59 l1 x12_1).f1), .int .i64 ((rd_T59 l1 x12_1).f2.f0), .int .i64 ((rd_T59 l1 x12_1).f2.f1), .int .i64 0, .int .i64 0, .slice none 0 0, .slice none 0 0]) ?_ 4 _ rfl; (with_reducible repeat (first | refine blk_drewN ?_ _ | refine blk_drew ?_ | refine blk_alloc ?_ _)); refine blk_put (cs := #[.int .i64 ((rd_T59 l1 x12_1).f0), .int .i64 ((rd_T59 l1 x12_1).f1), .int .i64 ((rd_T59 l1 x12_1).f2.f0), .int .i64 0, .int .i64 0, .int .i64 0, .slice none 0 0, .slice none 0 0]) ?_ 3 _ rfl; (with_reducible repeat (first | refine blk_drewN ?_ _ | refine blk_drew ?_ | refine blk_alloc ?_ _)); refine blk_put (cs := #[.int .i64 ((rd_T59 l1 x12_1).f0), .int .i64 ((rd_T59 l1 x12_1).f1), .int .i64 0, .int .i64 0, .int .i64 0, .int .i64 0, .slice none 0 0, .slice none 0 0]) ?_ 2 _ rfl; (with_reducible repeat (first | refine blk_drewN ?_ _ | refine blk_drew ?_ | refine blk_alloc ?_ _)); refine blk_put (cs := #[.int .i64 ((rd_T59 l1 x12_1).f0), .int .i64 0, .int .i64 0, .int .i64 0, .int .i64 0, .int .i64 0, .slice none 0 0, .slice none 0 0]) ?_ 1 _ rfl; (with_reducible repeat (first | refine blk_drewN ?_ _ | refine blk_drew ?_ | refine blk_alloc ?_ _)); refine blk_put (cs := #[.int .i64 0, .int .i64 0, .int .i64 0, .int .i64 0, .int .i64 0, .int .i64 0, .slice none 0 0, .slice none 0 0]) ?_ 0 _ rfl; (with_reducible repeat (first | refine blk_drewN ?_ _ | refine blk_drew ?_ | refine blk_alloc ?_ _)); exact BK124.out) hb); have n2_ := Aside0.mk (below_step (by repeat (first | (with_reducible first | exact HB.out | apply below_alloc | apply pw_below_drewN | apply below_drew1 | refine below_set ?_ GE122.out | refine below_set ?_ GE124.out) | exact HB.out)) hb); clear BK122; clear BK124; clear HB; have BK122 := n0_; have BK124 := n1_; have HB := n2_; clear n0_ n1_ n2_; (try clear hb); (try clear hb2); (try clear hk); (try clear hi); have hcz57_0 : w56.cell? ⟨gb124, 0, none⟩ = some (.int .i64 ((rd_T59 l1 x12_1).f0)) := (blk_cell BK124.out 0).trans rfl; have hcz57_1 : w56.cell? ⟨gb124, 1, none⟩ = some (.int .i64 ((rd_T59 l1 x12_1).f1)) := (blk_cell BK124.out 1).trans rfl; have hcz57_2 : w56.cell? ⟨gb124, 2, none⟩ = some (.int .i64 ((rd_T59 l1 x12_1).f2.f0)) := (blk_cell BK124.out 2).trans rfl; have hcz57_3 : w56.cell? ⟨gb124, 3, none⟩ = some (.int .i64 ((rd_T59 l1 x12_1).f2.f1)) := (blk_cell BK124.out 3).trans rfl; have hcz57_4 : w56.cell? ⟨gb124, 4, none⟩ = some (.int .i64 ((rd_T59 l1 x12_1).f2.f2)) := (blk_cell BK124.out 4).trans rfl; have hcz57_5 : w56.cell? ⟨gb124, 5, none⟩ = some (.int .i64 ((rd_T59 l1 x12_1).f3)) := (blk_cell BK124.out 5).trans rfl; have hcz57_6 : w56.cell? ⟨gb124, 6, none⟩ = some (.slice A123_6 ((rd_T59 l1 x12_1).f4).length c123_6) := (blk_cell BK124.out 6).trans rfl; have hcz57_7 : w56.cell? ⟨gb124, 7, none⟩ = some (.slice A123_7 ((rd_T59 l1 x12_1).f5).length c123_7) := (blk_cell BK124.out 7).trans rfl; have hfz57_0 := blk_frozen BK124.out 0; have hfz57_1 := blk_frozen BK124.out 1; have hfz57_2 := blk_frozen BK124.out 2; have hfz57_3 := blk_frozen BK124.out 3; have hfz57_4 := blk_frozen BK124.out 4; have hfz57_5 := blk_frozen BK124.out 5; have hfz57_6 := blk_frozen BK124.out 6; have hfz57_7 := blk_frozen BK124.out 7))
                          go_meet
                          case rel => exact ⟨_, (false), (by first | rfl | (simp; done) | (simp [*]; done)), H', ⟨by have := HK1.out; first | omega | exact Nat.le_refl _⟩, ⟨by (with_reducible repeat (first | refine blk_drewN ?_ _ | refine blk_drew ?_ | refine blk_alloc ?_ _)); exact BK122.out⟩, ⟨by (with_reducible repeat (first | refine blk_drewN ?_ _ | refine blk_drew ?_ | refine blk_alloc ?_ _)); exact BK124.out⟩, ⟨by repeat (first | (with_reducible first | exact HB.out | apply below_alloc | apply pw_below_drewN | apply below_drew1 | refine below_set ?_ GE122.out | refine below_set ?_ GE124.out) | exact HB.out)⟩⟩
                        · rw [if_neg c52] at H
                          have c52b0 : (((rd_T59 l1 x12_1).f0) == 2) = false := beq_eq_false_iff_ne.mpr c52
                          have c52b1 : (((rd_T59 l1 x12_1).f0) != 2) = true := bne_iff_ne.mpr c52
                          have H' := Aside0.mk H
                          clear H
                          have hnb58 := NB122_124.out
                          have hnc58 := NB124_122.out
                          have hcz59_0 : w9.cell? ⟨gb122, 0, none⟩ = some (.slice A0_0 l0_0.length c0_0) := (blk_cell BK122.out 0).trans rfl
                          have hcz59_1 : w9.cell? ⟨gb122, 1, none⟩ = some (.slice A0_1 l0_1.length c0_1) := (blk_cell BK122.out 1).trans rfl
                          have hfz59_0 := blk_frozen BK122.out 0
                          have hfz59_1 := blk_frozen BK122.out 1
                          have hcz60_0 : w9.cell? ⟨gb124, 0, none⟩ = some (.int .i64 0) := (blk_cell BK124.out 0).trans rfl
                          have hcz60_1 : w9.cell? ⟨gb124, 1, none⟩ = some (.int .i64 0) := (blk_cell BK124.out 1).trans rfl
                          have hcz60_2 : w9.cell? ⟨gb124, 2, none⟩ = some (.int .i64 0) := (blk_cell BK124.out 2).trans rfl
                          have hcz60_3 : w9.cell? ⟨gb124, 3, none⟩ = some (.int .i64 0) := (blk_cell BK124.out 3).trans rfl
                          have hcz60_4 : w9.cell? ⟨gb124, 4, none⟩ = some (.int .i64 0) := (blk_cell BK124.out 4).trans rfl
                          have hcz60_5 : w9.cell? ⟨gb124, 5, none⟩ = some (.int .i64 0) := (blk_cell BK124.out 5).trans rfl
                          have hcz60_6 : w9.cell? ⟨gb124, 6, none⟩ = some (.slice none 0 0) := (blk_cell BK124.out 6).trans rfl
                          have hcz60_7 : w9.cell? ⟨gb124, 7, none⟩ = some (.slice none 0 0) := (blk_cell BK124.out 7).trans rfl
                          have hfz60_0 := blk_frozen BK124.out 0
                          have hfz60_1 := blk_frozen BK124.out 1
                          have hfz60_2 := blk_frozen BK124.out 2
                          have hfz60_3 := blk_frozen BK124.out 3
                          have hfz60_4 := blk_frozen BK124.out 4
                          have hfz60_5 := blk_frozen BK124.out 5
                          have hfz60_6 := blk_frozen BK124.out 6
                          have hfz60_7 := blk_frozen BK124.out 7
                          go_wp2_with (first | (go_at_call 126; (with_reducible refine (impl_Prog_isVar.calls _ _ l0_0 _ _ l0_1 ((rd_T59 l1 x12_1).f1) true _ ?side1 ?side2 ?side3 ?side4 A13.out).mono ?_); (case side1 => exact Kd.C_below HR0_0.out (by repeat (first | (with_reducible first | exact HB.out | apply below_alloc | apply pw_below_drewN | apply below_drew1 | refine below_set ?_ GE122.out | refine below_set ?_ GE124.out) | exact HB.out))); (case side2 => exact HC0_0.out); (case side3 => exact Kd.C_below HR0_1.out (by repeat (first | (with_reducible first | exact HB.out | apply below_alloc | apply pw_below_drewN | apply below_drew1 | refine below_set ?_ GE122.out | refine below_set ?_ GE124.out) | exact HB.out))); (case side4 => exact HC0_1.out); rintro e w61 ⟨rfl, hb⟩; have n0_ := Aside0.mk (blk_below (g := gb122) (o := .cells #[.slice A0_0 l0_0.length c0_0, .slice A0_1 l0_1.length c0_1] 26 (0, 0)) (by (with_reducible repeat (first | refine blk_drewN ?_ _ | refine blk_drew ?_ | refine blk_alloc ?_ _)); refine blk_far ?_ NB122_124.out _; (with_reducible repeat (first | refine blk_drewN ?_ _ | refine blk_drew ?_ | refine blk_alloc ?_ _)); refine blk_far ?_ NB122_124.out _; (with_reducible repeat (first | refine blk_drewN ?_ _ | refine blk_drew ?_ | refine blk_alloc ?_ _)); refine blk_far ?_ NB122_124.out _; (with_reducible repeat (first | refine blk_drewN ?_ _ | refine blk_drew ?_ | refine blk_alloc ?_ _)); refine blk_far ?_ NB122_124.out _; (with_reducible repeat (first | refine blk_drewN ?_ _ | refine blk_drew ?_ | refine blk_alloc ?_ _)); refine blk_far ?_ NB122_124.out _; (with_reducible repeat (first | refine blk_drewN ?_ _ | refine blk_drew ?_ | refine blk_alloc ?_ _)); refine blk_far ?_ NB122_124.out _; (with_reducible repeat (first | refine blk_drewN ?_ _ | refine blk_drew ?_ | refine blk_alloc ?_ _)); refine blk_far ?_ NB122_124.out _; (with_reducible repeat (first | refine blk_drewN ?_ _ | refine blk_drew ?_ | refine blk_alloc ?_ _)); refine blk_far ?_ NB122_124.out _; (with_reducible repeat (first | refine blk_drewN ?_ _ | refine blk_drew ?_ | refine blk_alloc ?_ _)); exact BK122.out) hb); have n1_ := Aside0.mk (blk_below (g := gb124) (o := .cells #[.int .i64 ((rd_T59 l1 x12_1).f0), .int .i64 ((rd_T59 l1 x12_1).f1), .int .i64 ((rd_T59 l1 x12_1).f2.f0), .int .i64 ((rd_T59 l1 x12_1).f2.f1), .int .i64 ((rd_T59 l1 x12_1).f2.f2), .int .i64 ((rd_T59 l1 x12_1).f3), .slice A123_6 ((rd_T59 l1 x12_1).f4).length c123_6, .slice A123_7 ((rd_T59 l1 x12_1).f5).length c123_7] 59 (0, 0)) (by (with_reducible repeat (first | refine blk_drewN ?_ _ | refine blk_drew ?_ | refine blk_alloc ?_ _)); refine blk_put (cs := #[.int .i64 ((rd_T59 l1 x12_1).f0), .int .i64 ((rd_T59 l1 x12_1).f1), .int .i64 ((rd_T59 l1 x12_1).f2.f0), .int .i64 ((rd_T59 l1 x12_1).f2.f1), .int .i64 ((rd_T59 l1 x12_1).f2.f2), .int .i64 ((rd_T59 l1 x12_1).f3), .slice A123_6 ((rd_T59 l1 x12_1).f4).length c123_6, .slice none 0 0]) ?_ 7 _ rfl; (with_reducible repeat (first | refine blk_drewN ?_ _ | refine blk_drew ?_ | refine blk_alloc ?_ _)); refine blk_put (cs := #[.int .i64 ((rd_T59 l1 x12_1).f0), .int .i64 ((rd_T59 l1 x12_1).f1), .int .i64 ((rd_T59 l1 x12_1).f2.f0), .int .i64 ((rd_T59 l1 x12_1).f2.f1), .int .i64 ((rd_T59 l1 x12_1).f2.f2), .int .i64 ((rd_T59 l1 x12_1).f3), .slice none 0 0, .slice none 0 0]) ?_ 6 _ rfl; (with_reducible repeat (first | refine blk_drewN ?_ _ | refine blk_drew ?_ | refine blk_alloc ?_ _)); refine blk_put (cs := #[.int .i64 ((rd_T59 l1 x12_1).f0), .int .i64 ((rd_T59 l1 x12_1).f1), .int .i64 ((rd_T59 l1 x12_1).f2.f0), .int .i64 ((rd_T59 l1 x12_1).f2.f1), .int .i64 ((rd_T59 l1 x12_1).f2.f2), .int .i64 0, .slice none 0 0, .slice none 0 0]) ?_ 5 _ rfl; (with_reducible repeat (first | refine blk_drewN ?_ _ | refine blk_drew ?_ | refine blk_alloc ?_ _)); refine blk_put (cs := #[.int .i64 ((rd_T59 l1 x12_1).f0), .int .i64 ((rd_T59 l1 x12_1).f1), .int .i64 ((rd_T59 l1 x12_1).f2.f0), .int .i64 ((rd_T59 l1 x12_1).f2.f1), .int .i64 0, .int .i64 0, .slice none 0 0, .slice none 0 0]) ?_ 4 _ rfl; (with_reducible repeat (first | refine blk_drewN ?_ _ | refine blk_drew ?_ | refine blk_alloc ?_ _)); refine blk_put (cs := #[.int .i64 ((rd_T59 l1 x12_1).f0), .int .i64 ((rd_T59 l1 x12_1).f1), .int .i64 ((rd_T59 l1 x12_1).f2.f0), .int .i64 0, .int .i64 0, .int .i64 0, .slice none 0 0, .slice none 0 0]) ?_ 3 _ rfl; (with_reducible repeat (first | refine blk_drewN ?_ _ | refine blk_drew ?_ | refine blk_alloc ?_ _)); refine blk_put (cs := #[.int .i64 ((rd_T59 l1 x12_1).f0), .int .i64 ((rd_T59 l1 x12_1).f1), .int .i64 0, .int .i64 0, .int .i64 0, .int .i64 0, .slice none 0 0, .slice none 0 0]) ?_ 2 _ rfl; (with_reducible repeat (first | refine blk_drewN ?_ _ | refine blk_drew ?_ | refine blk_alloc ?_ _)); refine blk_put (cs := #[.int .i64 ((rd_T59 l1 x12_1).f0), .int .i64 0, .int .i64 0, .int .i64 0, .int .i64 0, .int .i64 0, .slice none 0 0, .slice none 0 0]) ?_ 1 _ rfl; (with_reducible repeat (first | refine blk_drewN ?_ _ | refine blk_drew ?_ | refine blk_alloc ?_ _)); refine blk_put (cs := #[.int .i64 0, .int .i64 0, .int .i64 0, .int .i64 0, .int .i64 0, .int .i64 0, .slice none 0 0, .slice none 0 0]) ?_ 0 _ rfl; (with_reducible repeat (first | refine blk_drewN ?_ _ | refine blk_drew ?_ | refine blk_alloc ?_ _)); exact BK124.out) hb); have n2_ := Aside0.mk (below_step (by repeat (first | (with_reducible first | exact HB.out | apply below_alloc | apply pw_below_drewN | apply below_drew1 | refine below_set ?_ GE122.out | refine below_set ?_ GE124.out) | exact HB.out)) hb); clear BK122; clear BK124; clear HB; have BK122 := n0_; have BK124 := n1_; have HB := n2_; clear n0_ n1_ n2_; (try clear hb); (try clear hb2); (try clear hk); (try clear hi); have hcz62_0 : w61.cell? ⟨gb124, 0, none⟩ = some (.int .i64 ((rd_T59 l1 x12_1).f0)) := (blk_cell BK124.out 0).trans rfl; have hcz62_1 : w61.cell? ⟨gb124, 1, none⟩ = some (.int .i64 ((rd_T59 l1 x12_1).f1)) := (blk_cell BK124.out 1).trans rfl; have hcz62_2 : w61.cell? ⟨gb124, 2, none⟩ = some (.int .i64 ((rd_T59 l1 x12_1).f2.f0)) := (blk_cell BK124.out 2).trans rfl; have hcz62_3 : w61.cell? ⟨gb124, 3, none⟩ = some (.int .i64 ((rd_T59 l1 x12_1).f2.f1)) := (blk_cell BK124.out 3).trans rfl; have hcz62_4 : w61.cell? ⟨gb124, 4, none⟩ = some (.int .i64 ((rd_T59 l1 x12_1).f2.f2)) := (blk_cell BK124.out 4).trans rfl; have hcz62_5 : w61.cell? ⟨gb124, 5, none⟩ = some (.int .i64 ((rd_T59 l1 x12_1).f3)) := (blk_cell BK124.out 5).trans rfl; have hcz62_6 : w61.cell? ⟨gb124, 6, none⟩ = some (.slice A123_6 ((rd_T59 l1 x12_1).f4).length c123_6) := (blk_cell BK124.out 6).trans rfl; have hcz62_7 : w61.cell? ⟨gb124, 7, none⟩ = some (.slice A123_7 ((rd_T59 l1 x12_1).f5).length c123_7) := (blk_cell BK124.out 7).trans rfl; have hfz62_0 := blk_frozen BK124.out 0; have hfz62_1 := blk_frozen BK124.out 1; have hfz62_2 := blk_frozen BK124.out 2; have hfz62_3 := blk_frozen BK124.out 3; have hfz62_4 := blk_frozen BK124.out 4; have hfz62_5 := blk_frozen BK124.out 5; have hfz62_6 := blk_frozen BK124.out 6; have hfz62_7 := blk_frozen BK124.out 7))
                          go_meet
                          case rel => exact ⟨_, (decide ((wrap64 ((((rd_T59 l1 x12_1).f4).length : Int) + (((rd_T59 l1 x12_1).f5).length : Int))) > 0)), (by first | rfl | (simp; done) | (simp [*]; done)), H', ⟨by have := HK1.out; first | omega | exact Nat.le_refl _⟩, ⟨by (with_reducible repeat (first | refine blk_drewN ?_ _ | refine blk_drew ?_ | refine blk_alloc ?_ _)); exact BK122.out⟩, ⟨by (with_reducible repeat (first | refine blk_drewN ?_ _ | refine blk_drew ?_ | refine blk_alloc ?_ _)); exact BK124.out⟩, ⟨by repeat (first | (with_reducible first | exact HB.out | apply below_alloc | apply pw_below_drewN | apply below_drew1 | refine below_set ?_ GE122.out | refine below_set ?_ GE124.out) | exact HB.out)⟩⟩
                      · rw [if_neg c51] at H
                        have c51b0 : (((rd_T59 l1 x12_1).f0) == 3) = false := beq_eq_false_iff_ne.mpr c51
                        have c51b1 : (((rd_T59 l1 x12_1).f0) != 3) = true := bne_iff_ne.mpr c51
                        by_cases c63 : ((rd_T59 l1 x12_1).f3) = 0
                        · rw [if_pos c63] at H
                          have c63b0 : (((rd_T59 l1 x12_1).f3) == 0) = true := beq_iff_eq.mpr c63
                          have c63b1 : (((rd_T59 l1 x12_1).f3) != 0) = false := bne_eq_false_iff_eq.mpr c63
                          clear c63
                          by_cases c64 : ((rd_T59 l1 x12_1).f0) = 2
                          · rw [if_pos c64] at H
                            have c64b0 : (((rd_T59 l1 x12_1).f0) == 2) = true := beq_iff_eq.mpr c64
                            have c64b1 : (((rd_T59 l1 x12_1).f0) != 2) = false := bne_eq_false_iff_eq.mpr c64
                            clear c64
                            have H' := Aside0.mk H
                            clear H
                            have hnb65 := NB122_124.out
                            have hnc65 := NB124_122.out
                            have hcz66_0 : w9.cell? ⟨gb122, 0, none⟩ = some (.slice A0_0 l0_0.length c0_0) := (blk_cell BK122.out 0).trans rfl
                            have hcz66_1 : w9.cell? ⟨gb122, 1, none⟩ = some (.slice A0_1 l0_1.length c0_1) := (blk_cell BK122.out 1).trans rfl
                            have hfz66_0 := blk_frozen BK122.out 0
                            have hfz66_1 := blk_frozen BK122.out 1
                            have hcz67_0 : w9.cell? ⟨gb124, 0, none⟩ = some (.int .i64 0) := (blk_cell BK124.out 0).trans rfl
                            have hcz67_1 : w9.cell? ⟨gb124, 1, none⟩ = some (.int .i64 0) := (blk_cell BK124.out 1).trans rfl
                            have hcz67_2 : w9.cell? ⟨gb124, 2, none⟩ = some (.int .i64 0) := (blk_cell BK124.out 2).trans rfl
                            have hcz67_3 : w9.cell? ⟨gb124, 3, none⟩ = some (.int .i64 0) := (blk_cell BK124.out 3).trans rfl
                            have hcz67_4 : w9.cell? ⟨gb124, 4, none⟩ = some (.int .i64 0) := (blk_cell BK124.out 4).trans rfl
                            have hcz67_5 : w9.cell? ⟨gb124, 5, none⟩ = some (.int .i64 0) := (blk_cell BK124.out 5).trans rfl
                            have hcz67_6 : w9.cell? ⟨gb124, 6, none⟩ = some (.slice none 0 0) := (blk_cell BK124.out 6).trans rfl
                            have hcz67_7 : w9.cell? ⟨gb124, 7, none⟩ = some (.slice none 0 0) := (blk_cell BK124.out 7).trans rfl
                            have hfz67_0 := blk_frozen BK124.out 0
                            have hfz67_1 := blk_frozen BK124.out 1
                            have hfz67_2 := blk_frozen BK124.out 2
                            have hfz67_3 := blk_frozen BK124.out 3
                            have hfz67_4 := blk_frozen BK124.out 4
                            have hfz67_5 := blk_frozen BK124.out 5
                            have hfz67_6 := blk_frozen BK124.out 6
                            have hfz67_7 := blk_frozen BK124.out 7
                            go_wp2_with (first | (go_at_call 126; (with_reducible refine (impl_Prog_isVar.calls _ _ l0_0 _ _ l0_1 ((rd_T59 l1 x12_1).f1) true _ ?side1 ?side2 ?side3 ?side4 A13.out).mono ?_); (case side1 => exact Kd.C_below HR0_0.out (by repeat (first | (with_reducible first | exact HB.out | apply below_alloc | apply pw_below_drewN | apply below_drew1 | refine below_set ?_ GE122.out | refine below_set ?_ GE124.out) | exact HB.out))); (case side2 => exact HC0_0.out); (case side3 => exact Kd.C_below HR0_1.out (by repeat (first | (with_reducible first | exact HB.out | apply below_alloc | apply pw_below_drewN | apply below_drew1 | refine below_set ?_ GE122.out | refine below_set ?_ GE124.out) | exact HB.out))); (case side4 => exact HC0_1.out); rintro e w68 ⟨rfl, hb⟩; have n0_ := Aside0.mk (blk_below (g := gb122) (o := .cells #[.slice A0_0 l0_0.length c0_0, .slice A0_1 l0_1.length c0_1] 26 (0, 0)) (by (with_reducible repeat (first | refine blk_drewN ?_ _ | refine blk_drew ?_ | refine blk_alloc ?_ _)); refine blk_far ?_ NB122_124.out _; (with_reducible repeat (first | refine blk_drewN ?_ _ | refine blk_drew ?_ | refine blk_alloc ?_ _)); refine blk_far ?_ NB122_124.out _; (with_reducible repeat (first | refine blk_drewN ?_ _ | refine blk_drew ?_ | refine blk_alloc ?_ _)); refine blk_far ?_ NB122_124.out _; (with_reducible repeat (first | refine blk_drewN ?_ _ | refine blk_drew ?_ | refine blk_alloc ?_ _)); refine blk_far ?_ NB122_124.out _; (with_reducible repeat (first | refine blk_drewN ?_ _ | refine blk_drew ?_ | refine blk_alloc ?_ _)); refine blk_far ?_ NB122_124.out _; (with_reducible repeat (first | refine blk_drewN ?_ _ | refine blk_drew ?_ | refine blk_alloc ?_ _)); refine blk_far ?_ NB122_124.out _; (with_reducible repeat (first | refine blk_drewN ?_ _ | refine blk_drew ?_ | refine blk_alloc ?_ _)); refine blk_far ?_ NB122_124.out _; (with_reducible repeat (first | refine blk_drewN ?_ _ | refine blk_drew ?_ | refine blk_alloc ?_ _)); refine blk_far ?_ NB122_124.out _; (with_reducible repeat (first | refine blk_drewN ?_ _ | refine blk_drew ?_ | refine blk_alloc ?_ _)); exact BK122.out) hb); have n1_ := Aside0.mk (blk_below (g := gb124) (o := .cells #[.int .i64 ((rd_T59 l1 x12_1).f0), .int .i64 ((rd_T59 l1 x12_1).f1), .int .i64 ((rd_T59 l1 x12_1).f2.f0), .int .i64 ((rd_T59 l1 x12_1).f2.f1), .int .i64 ((rd_T59 l1 x12_1).f2.f2), .int .i64 ((rd_T59 l1 x12_1).f3), .slice A123_6 ((rd_T59 l1 x12_1).f4).length c123_6, .slice A123_7 ((rd_T59 l1 x12_1).f5).length c123_7] 59 (0, 0)) (by (with_reducible repeat (first | refine blk_drewN ?_ _ | refine blk_drew ?_ | refine blk_alloc ?_ _)); refine blk_put (cs := #[.int .i64 ((rd_T59 l1 x12_1).f0), .int .i64 ((rd_T59 l1 x12_1).f1), .int .i64 ((rd_T59 l1 x12_1).f2.f0), .int .i64 ((rd_T59 l1 x12_1).f2.f1), .int .i64 ((rd_T59 l1 x12_1).f2.f2), .int .i64 ((rd_T59 l1 x12_1).f3), .slice A123_6 ((rd_T59 l1 x12_1).f4).length c123_6, .slice none 0 0]) ?_ 7 _ rfl; (with_reducible repeat (first | refine blk_drewN ?_ _ | refine blk_drew ?_ | refine blk_alloc ?_ _)); refine blk_put (cs := #[.int .i64 ((rd_T59 l1 x12_1).f0), .int .i64 ((rd_T59 l1 x12_1).f1), .int .i64 ((rd_T59 l1 x12_1).f2.f0), .int .i64 ((rd_T59 l1 x12_1).f2.f1), .int .i64 ((rd_T59 l1 x12_1).f2.f2), .int .i64 ((rd_T59 l1 x12_1).f3), .slice none 0 0, .slice none 0 0]) ?_ 6 _ rfl; (with_reducible repeat (first | refine blk_drewN ?_ _ | refine blk_drew ?_ | refine blk_alloc ?_ _)); refine blk_put (cs := #[.int .i64 ((rd_T59 l1 x12_1).f0), .int .i64 ((rd_T59 l1 x12_1).f1), .int .i64 ((rd_T59 l1 x12_1).f2.f0), .int .i64 ((rd_T59 l1 x12_1).f2.f1), .int .i64 ((rd_T59 l1 x12_1).f2.f2), .int .i64 0, .slice none 0 0, .slice none 0 0]) ?_ 5 _ rfl; (with_reducible repeat (first | refine blk_drewN ?_ _ | refine blk_drew ?_ | refine blk_alloc ?_ _)); refine blk_put (cs := #[.int .i64 ((rd_T59 l1 x12_1).f0), .int .i64 ((rd_T59 l1 x12_1).f1), .int .i64 ((rd_T59 l1 x12_1).f2.f0), .int .i64 ((rd_T59 l1 x12_1).f2.f1), .int .i64 0, .int .i64 0, .slice none 0 0, .slice none 0 0]) ?_ 4 _ rfl; (with_reducible repeat (first | refine blk_drewN ?_ _ | refine blk_drew ?_ | refine blk_alloc ?_ _)); refine blk_put (cs := #[.int .i64 ((rd_T59 l1 x12_1).f0), .int .i64 ((rd_T59 l1 x12_1).f1), .int .i64 ((rd_T59 l1 x12_1).f2.f0), .int .i64 0, .int .i64 0, .int .i64 0, .slice none 0 0, .slice none 0 0]) ?_ 3 _ rfl; (with_reducible repeat (first | refine blk_drewN ?_ _ | refine blk_drew ?_ | refine blk_alloc ?_ _)); refine blk_put (cs := #[.int .i64 ((rd_T59 l1 x12_1).f0), .int .i64 ((rd_T59 l1 x12_1).f1), .int .i64 0, .int .i64 0, .int .i64 0, .int .i64 0, .slice none 0 0, .slice none 0 0]) ?_ 2 _ rfl; (with_reducible repeat (first | refine blk_drewN ?_ _ | refine blk_drew ?_ | refine blk_alloc ?_ _)); refine blk_put (cs := #[.int .i64 ((rd_T59 l1 x12_1).f0), .int .i64 0, .int .i64 0, .int .i64 0, .int .i64 0, .int .i64 0, .slice none 0 0, .slice none 0 0]) ?_ 1 _ rfl; (with_reducible repeat (first | refine blk_drewN ?_ _ | refine blk_drew ?_ | refine blk_alloc ?_ _)); refine blk_put (cs := #[.int .i64 0, .int .i64 0, .int .i64 0, .int .i64 0, .int .i64 0, .int .i64 0, .slice none 0 0, .slice none 0 0]) ?_ 0 _ rfl; (with_reducible repeat (first | refine blk_drewN ?_ _ | refine blk_drew ?_ | refine blk_alloc ?_ _)); exact BK124.out) hb); have n2_ := Aside0.mk (below_step (by repeat (first | (with_reducible first | exact HB.out | apply below_alloc | apply pw_below_drewN | apply below_drew1 | refine below_set ?_ GE122.out | refine below_set ?_ GE124.out) | exact HB.out)) hb); clear BK122; clear BK124; clear HB; have BK122 := n0_; have BK124 := n1_; have HB := n2_; clear n0_ n1_ n2_; (try clear hb); (try clear hb2); (try clear hk); (try clear hi); have hcz69_0 : w68.cell? ⟨gb124, 0, none⟩ = some (.int .i64 ((rd_T59 l1 x12_1).f0)) := (blk_cell BK124.out 0).trans rfl; have hcz69_1 : w68.cell? ⟨gb124, 1, none⟩ = some (.int .i64 ((rd_T59 l1 x12_1).f1)) := (blk_cell BK124.out 1).trans rfl; have hcz69_2 : w68.cell? ⟨gb124, 2, none⟩ = some (.int .i64 ((rd_T59 l1 x12_1).f2.f0)) := (blk_cell BK124.out 2).trans rfl; have hcz69_3 : w68.cell? ⟨gb124, 3, none⟩ = some (.int .i64 ((rd_T59 l1 x12_1).f2.f1)) := (blk_cell BK124.out 3).trans rfl; have hcz69_4 : w68.cell? ⟨gb124, 4, none⟩ = some (.int .i64 ((rd_T59 l1 x12_1).f2.f2)) := (blk_cell BK124.out 4).trans rfl; have hcz69_5 : w68.cell? ⟨gb124, 5, none⟩ = some (.int .i64 ((rd_T59 l1 x12_1).f3)) := (blk_cell BK124.out 5).trans rfl; have hcz69_6 : w68.cell? ⟨gb124, 6, none⟩ = some (.slice A123_6 ((rd_T59 l1 x12_1).f4).length c123_6) := (blk_cell BK124.out 6).trans rfl; have hcz69_7 : w68.cell? ⟨gb124, 7, none⟩ = some (.slice A123_7 ((rd_T59 l1 x12_1).f5).length c123_7) := (blk_cell BK124.out 7).trans rfl; have hfz69_0 := blk_frozen BK124.out 0; have hfz69_1 := blk_frozen BK124.out 1; have hfz69_2 := blk_frozen BK124.out 2; have hfz69_3 := blk_frozen BK124.out 3; have hfz69_4 := blk_frozen BK124.out 4; have hfz69_5 := blk_frozen BK124.out 5; have hfz69_6 := blk_frozen BK124.out 6; have hfz69_7 := blk_frozen BK124.out 7))
                            go_meet
                            case rel => exact ⟨_, (false), (by first | rfl | (simp; done) | (simp [*]; done)), H', ⟨by have := HK1.out; first | omega | exact Nat.le_refl _⟩, ⟨by (with_reducible repeat (first | refine blk_drewN ?_ _ | refine blk_drew ?_ | refine blk_alloc ?_ _)); exact BK122.out⟩, ⟨by (with_reducible repeat (first | refine blk_drewN ?_ _ | refine blk_drew ?_ | refine blk_alloc ?_ _)); exact BK124.out⟩, ⟨by repeat (first | (with_reducible first | exact HB.out | apply below_alloc | apply pw_below_drewN | apply below_drew1 | refine below_set ?_ GE122.out | refine below_set ?_ GE124.out) | exact HB.out)⟩⟩
                          · rw [if_neg c64] at H
                            have c64b0 : (((rd_T59 l1 x12_1).f0) == 2) = false := beq_eq_false_iff_ne.mpr c64
                            have c64b1 : (((rd_T59 l1 x12_1).f0) != 2) = true := bne_iff_ne.mpr c64
                            have H' := Aside0.mk H
                            clear H
                            have hnb70 := NB122_124.out
                            have hnc70 := NB124_122.out
                            have hcz71_0 : w9.cell? ⟨gb122, 0, none⟩ = some (.slice A0_0 l0_0.length c0_0) := (blk_cell BK122.out 0).trans rfl
                            have hcz71_1 : w9.cell? ⟨gb122, 1, none⟩ = some (.slice A0_1 l0_1.length c0_1) := (blk_cell BK122.out 1).trans rfl
                            have hfz71_0 := blk_frozen BK122.out 0
                            have hfz71_1 := blk_frozen BK122.out 1
                            have hcz72_0 : w9.cell? ⟨gb124, 0, none⟩ = some (.int .i64 0) := (blk_cell BK124.out 0).trans rfl
                            have hcz72_1 : w9.cell? ⟨gb124, 1, none⟩ = some (.int .i64 0) := (blk_cell BK124.out 1).trans rfl
                            have hcz72_2 : w9.cell? ⟨gb124, 2, none⟩ = some (.int .i64 0) := (blk_cell BK124.out 2).trans rfl
                            have hcz72_3 : w9.cell? ⟨gb124, 3, none⟩ = some (.int .i64 0) := (blk_cell BK124.out 3).trans rfl
                            have hcz72_4 : w9.cell? ⟨gb124, 4, none⟩ = some (.int .i64 0) := (blk_cell BK124.out 4).trans rfl
                            have hcz72_5 : w9.cell? ⟨gb124, 5, none⟩ = some (.int .i64 0) := (blk_cell BK124.out 5).trans rfl
                            have hcz72_6 : w9.cell? ⟨gb124, 6, none⟩ = some (.slice none 0 0) := (blk_cell BK124.out 6).trans rfl
                            have hcz72_7 : w9.cell? ⟨gb124, 7, none⟩ = some (.slice none 0 0) := (blk_cell BK124.out 7).trans rfl
                            have hfz72_0 := blk_frozen BK124.out 0
                            have hfz72_1 := blk_frozen BK124.out 1
                            have hfz72_2 := blk_frozen BK124.out 2
                            have hfz72_3 := blk_frozen BK124.out 3
                            have hfz72_4 := blk_frozen BK124.out 4
                            have hfz72_5 := blk_frozen BK124.out 5
                            have hfz72_6 := blk_frozen BK124.out 6
                            have hfz72_7 := blk_frozen BK124.out 7
                            go_wp2_with (first | (go_at_call 126; (with_reducible refine (impl_Prog_isVar.calls _ _ l0_0 _ _ l0_1 ((rd_T59 l1 x12_1).f1) true _ ?side1 ?side2 ?side3 ?side4 A13.out).mono ?_); (case side1 => exact Kd.C_below HR0_0.out (by repeat (first | (with_reducible first | exact HB.out | apply below_alloc | apply pw_below_drewN | apply below_drew1 | refine below_set ?_ GE122.out | refine below_set ?_ GE124.out) | exact HB.out))); (case side2 => exact HC0_0.out); (case side3 => exact Kd.C_below HR0_1.out (by repeat (first | (with_reducible first | exact HB.out | apply below_alloc | apply pw_below_drewN | apply below_drew1 | refine below_set ?_ GE122.out | refine below_set ?_ GE124.out) | exact HB.out))); (case side4 => exact HC0_1.out); rintro e w73 ⟨rfl, hb⟩; have n0_ := Aside0.mk (blk_below (g := gb122) (o := .cells #[.slice A0_0 l0_0.length c0_0, .slice A0_1 l0_1.length c0_1] 26 (0, 0)) (by (with_reducible repeat (first | refine blk_drewN ?_ _ | refine blk_drew ?_ | refine blk_alloc ?_ _)); refine blk_far ?_ NB122_124.out _; (with_reducible repeat (first | refine blk_drewN ?_ _ | refine blk_drew ?_ | refine blk_alloc ?_ _)); refine blk_far ?_ NB122_124.out _; (with_reducible repeat (first | refine blk_drewN ?_ _ | refine blk_drew ?_ | refine blk_alloc ?_ _)); refine blk_far ?_ NB122_124.out _; (with_reducible repeat (first | refine blk_drewN ?_ _ | refine blk_drew ?_ | refine blk_alloc ?_ _)); refine blk_far ?_ NB122_124.out _; (with_reducible repeat (first | refine blk_drewN ?_ _ | refine blk_drew ?_ | refine blk_alloc ?_ _)); refine blk_far ?_ NB122_124.out _; (with_reducible repeat (first | refine blk_drewN ?_ _ | refine blk_drew ?_ | refine blk_alloc ?_ _)); refine blk_far ?_ NB122_124.out _; (with_reducible repeat (first | refine blk_drewN ?_ _ | refine blk_drew ?_ | refine blk_alloc ?_ _)); refine blk_far ?_ NB122_124.out _; (with_reducible repeat (first | refine blk_drewN ?_ _ | refine blk_drew ?_ | refine blk_alloc ?_ _)); refine blk_far ?_ NB122_124.out _; (with_reducible repeat (first | refine blk_drewN ?_ _ | refine blk_drew ?_ | refine blk_alloc ?_ _)); exact BK122.out) hb); have n1_ := Aside0.mk (blk_below (g := gb124) (o := .cells #[.int .i64 ((rd_T59 l1 x12_1).f0), .int .i64 ((rd_T59 l1 x12_1).f1), .int .i64 ((rd_T59 l1 x12_1).f2.f0), .int .i64 ((rd_T59 l1 x12_1).f2.f1), .int .i64 ((rd_T59 l1 x12_1).f2.f2), .int .i64 ((rd_T59 l1 x12_1).f3), .slice A123_6 ((rd_T59 l1 x12_1).f4).length c123_6, .slice A123_7 ((rd_T59 l1 x12_1).f5).length c123_7] 59 (0, 0)) (by (with_reducible repeat (first | refine blk_drewN ?_ _ | refine blk_drew ?_ | refine blk_alloc ?_ _)); refine blk_put (cs := #[.int .i64 ((rd_T59 l1 x12_1).f0), .int .i64 ((rd_T59 l1 x12_1).f1), .int .i64 ((rd_T59 l1 x12_1).f2.f0), .int .i64 ((rd_T59 l1 x12_1).f2.f1), .int .i64 ((rd_T59 l1 x12_1).f2.f2), .int .i64 ((rd_T59 l1 x12_1).f3), .slice A123_6 ((rd_T59 l1 x12_1).f4).length c123_6, .slice none 0 0]) ?_ 7 _ rfl; (with_reducible repeat (first | refine blk_drewN ?_ _ | refine blk_drew ?_ | refine blk_alloc ?_ _)); refine blk_put (cs := #[.int .i64 ((rd_T59 l1 x12_1).f0), .int .i64 ((rd_T59 l1 x12_1).f1), .int .i64 ((rd_T59 l1 x12_1).f2.f0), .int .i64 ((rd_T59 l1 x12_1).f2.f1), .int .i64 ((rd_T59 l1 x12_1).f2.f2), .int .i64 ((rd_T59 l1 x12_1).f3), .slice none 0 0, .slice none 0 0]) ?_ 6 _ rfl; (with_reducible repeat (first | refine blk_drewN ?_ _ | refine blk_drew ?_ | refine blk_alloc ?_ _)); refine blk_put (cs := #[.int .i64 ((rd_T59 l1 x12_1).f0), .int .i64 ((rd_T59 l1 x12_1).f1), .int .i64 ((rd_T59 l1 x12_1).f2.f0), .int .i64 ((rd_T59 l1 x12_1).f2.f1), .int .i64 ((rd_T59 l1 x12_1).f2.f2), .int .i64 0, .slice none 0 0, .slice none 0 0]) ?_ 5 _ rfl; (with_reducible repeat (first | refine blk_drewN ?_ _ | refine blk_drew ?_ | refine blk_alloc ?_ _)); refine blk_put (cs := #[.int .i64 ((rd_T59 l1 x12_1).f0), .int .i64 ((rd_T59 l1 x12_1).f1), .int .i64 ((rd_T59 l1 x12_1).f2.f0), .int .i64 ((rd_T59 l1 x12_1).f2.f1), .int .i64 0, .int .i64 0, .slice none 0 0, .slice none 0 0]) ?_ 4 _ rfl; (with_reducible repeat (first | refine blk_drewN ?_ _ | refine blk_drew ?_ | refine blk_alloc ?_ _)); refine blk_put (cs := #[.int .i64 ((rd_T59 l1 x12_1).f0), .int .i64 ((rd_T59 l1 x12_1).f1), .int .i64 ((rd_T59 l1 x12_1).f2.f0), .int .i64 0, .int .i64 0, .int .i64 0, .slice none 0 0, .slice none 0 0]) ?_ 3 _ rfl; (with_reducible repeat (first | refine blk_drewN ?_ _ | refine blk_drew ?_ | refine blk_alloc ?_ _)); refine blk_put (cs := #[.int .i64 ((rd_T59 l1 x12_1).f0), .int .i64 ((rd_T59 l1 x12_1).f1), .int .i64 0, .int .i64 0, .int .i64 0, .int .i64 0, .slice none 0 0, .slice none 0 0]) ?_ 2 _ rfl; (with_reducible repeat (first | refine blk_drewN ?_ _ | refine blk_drew ?_ | refine blk_alloc ?_ _)); refine blk_put (cs := #[.int .i64 ((rd_T59 l1 x12_1).f0), .int .i64 0, .int .i64 0, .int .i64 0, .int .i64 0, .int .i64 0, .slice none 0 0, .slice none 0 0]) ?_ 1 _ rfl; (with_reducible repeat (first | refine blk_drewN ?_ _ | refine blk_drew ?_ | refine blk_alloc ?_ _)); refine blk_put (cs := #[.int .i64 0, .int .i64 0, .int .i64 0, .int .i64 0, .int .i64 0, .int .i64 0, .slice none 0 0, .slice none 0 0]) ?_ 0 _ rfl; (with_reducible repeat (first | refine blk_drewN ?_ _ | refine blk_drew ?_ | refine blk_alloc ?_ _)); exact BK124.out) hb); have n2_ := Aside0.mk (below_step (by repeat (first | (with_reducible first | exact HB.out | apply below_alloc | apply pw_below_drewN | apply below_drew1 | refine below_set ?_ GE122.out | refine below_set ?_ GE124.out) | exact HB.out)) hb); clear BK122; clear BK124; clear HB; have BK122 := n0_; have BK124 := n1_; have HB := n2_; clear n0_ n1_ n2_; (try clear hb); (try clear hb2); (try clear hk); (try clear hi); have hcz74_0 : w73.cell? ⟨gb124, 0, none⟩ = some (.int .i64 ((rd_T59 l1 x12_1).f0)) := (blk_cell BK124.out 0).trans rfl; have hcz74_1 : w73.cell? ⟨gb124, 1, none⟩ = some (.int .i64 ((rd_T59 l1 x12_1).f1)) := (blk_cell BK124.out 1).trans rfl; have hcz74_2 : w73.cell? ⟨gb124, 2, none⟩ = some (.int .i64 ((rd_T59 l1 x12_1).f2.f0)) := (blk_cell BK124.out 2).trans rfl; have hcz74_3 : w73.cell? ⟨gb124, 3, none⟩ = some (.int .i64 ((rd_T59 l1 x12_1).f2.f1)) := (blk_cell BK124.out 3).trans rfl; have hcz74_4 : w73.cell? ⟨gb124, 4, none⟩ = some (.int .i64 ((rd_T59 l1 x12_1).f2.f2)) := (blk_cell BK124.out 4).trans rfl; have hcz74_5 : w73.cell? ⟨gb124, 5, none⟩ = some (.int .i64 ((rd_T59 l1 x12_1).f3)) := (blk_cell BK124.out 5).trans rfl; have hcz74_6 : w73.cell? ⟨gb124, 6, none⟩ = some (.slice A123_6 ((rd_T59 l1 x12_1).f4).length c123_6) := (blk_cell BK124.out 6).trans rfl; have hcz74_7 : w73.cell? ⟨gb124, 7, none⟩ = some (.slice A123_7 ((rd_T59 l1 x12_1).f5).length c123_7) := (blk_cell BK124.out 7).trans rfl; have hfz74_0 := blk_frozen BK124.out 0; have hfz74_1 := blk_frozen BK124.out 1; have hfz74_2 := blk_frozen BK124.out 2; have hfz74_3 := blk_frozen BK124.out 3; have hfz74_4 := blk_frozen BK124.out 4; have hfz74_5 := blk_frozen BK124.out 5; have hfz74_6 := blk_frozen BK124.out 6; have hfz74_7 := blk_frozen BK124.out 7))
                            go_meet
                            case rel => exact ⟨_, (decide ((wrap64 ((((rd_T59 l1 x12_1).f4).length : Int) + (((rd_T59 l1 x12_1).f5).length : Int))) > 0)), (by first | rfl | (simp; done) | (simp [*]; done)), H', ⟨by have := HK1.out; first | omega | exact Nat.le_refl _⟩, ⟨by (with_reducible repeat (first | refine blk_drewN ?_ _ | refine blk_drew ?_ | refine blk_alloc ?_ _)); exact BK122.out⟩, ⟨by (with_reducible repeat (first | refine blk_drewN ?_ _ | refine blk_drew ?_ | refine blk_alloc ?_ _)); exact BK124.out⟩, ⟨by repeat (first | (with_reducible first | exact HB.out | apply below_alloc | apply pw_below_drewN | apply below_drew1 | refine below_set ?_ GE122.out | refine below_set ?_ GE124.out) | exact HB.out)⟩⟩
                        · rw [if_neg c63] at H
                          have c63b0 : (((rd_T59 l1 x12_1).f3) == 0) = false := beq_eq_false_iff_ne.mpr c63
                          have c63b1 : (((rd_T59 l1 x12_1).f3) != 0) = true := bne_iff_ne.mpr c63
                          have H' := Aside0.mk H
                          clear H
                          have hnb75 := NB122_124.out
                          have hnc75 := NB124_122.out
                          have hcz76_0 : w9.cell? ⟨gb122, 0, none⟩ = some (.slice A0_0 l0_0.length c0_0) := (blk_cell BK122.out 0).trans rfl
                          have hcz76_1 : w9.cell? ⟨gb122, 1, none⟩ = some (.slice A0_1 l0_1.length c0_1) := (blk_cell BK122.out 1).trans rfl
                          have hfz76_0 := blk_frozen BK122.out 0
                          have hfz76_1 := blk_frozen BK122.out 1
                          have hcz77_0 : w9.cell? ⟨gb124, 0, none⟩ = some (.int .i64 0) := (blk_cell BK124.out 0).trans rfl
                          have hcz77_1 : w9.cell? ⟨gb124, 1, none⟩ = some (.int .i64 0) := (blk_cell BK124.out 1).trans rfl
                          have hcz77_2 : w9.cell? ⟨gb124, 2, none⟩ = some (.int .i64 0) := (blk_cell BK124.out 2).trans rfl
                          have hcz77_3 : w9.cell? ⟨gb124, 3, none⟩ = some (.int .i64 0) := (blk_cell BK124.out 3).trans rfl
                          have hcz77_4 : w9.cell? ⟨gb124, 4, none⟩ = some (.int .i64 0) := (blk_cell BK124.out 4).trans rfl
                          have hcz77_5 : w9.cell? ⟨gb124, 5, none⟩ = some (.int .i64 0) := (blk_cell BK124.out 5).trans rfl
                          have hcz77_6 : w9.cell? ⟨gb124, 6, none⟩ = some (.slice none 0 0) := (blk_cell BK124.out 6).trans rfl
                          have hcz77_7 : w9.cell? ⟨gb124, 7, none⟩ = some (.slice none 0 0) := (blk_cell BK124.out 7).trans rfl
                          have hfz77_0 := blk_frozen BK124.out 0
                          have hfz77_1 := blk_frozen BK124.out 1
                          have hfz77_2 := blk_frozen BK124.out 2
                          have hfz77_3 := blk_frozen BK124.out 3
                          have hfz77_4 := blk_frozen BK124.out 4
                          have hfz77_5 := blk_frozen BK124.out 5
                          have hfz77_6 := blk_frozen BK124.out 6
                          have hfz77_7 := blk_frozen BK124.out 7
                          go_wp2_with (first | (go_at_call 126; (with_reducible refine (impl_Prog_isVar.calls _ _ l0_0 _ _ l0_1 ((rd_T59 l1 x12_1).f1) true _ ?side1 ?side2 ?side3 ?side4 A13.out).mono ?_); (case side1 => exact Kd.C_below HR0_0.out (by repeat (first | (with_reducible first | exact HB.out | apply below_alloc | apply pw_below_drewN | apply below_drew1 | refine below_set ?_ GE122.out | refine below_set ?_ GE124.out) | exact HB.out))); (case side2 => exact HC0_0.out); (case side3 => exact Kd.C_below HR0_1.out (by repeat (first | (with_reducible first | exact HB.out | apply below_alloc | apply pw_below_drewN | apply below_drew1 | refine below_set ?_ GE122.out | refine below_set ?_ GE124.out) | exact HB.out))); (case side4 => exact HC0_1.out); rintro e w78 ⟨rfl, hb⟩; have n0_ := Aside0.mk (blk_below (g := gb122) (o := .cells #[.slice A0_0 l0_0.length c0_0, .slice A0_1 l0_1.length c0_1] 26 (0, 0)) (by (with_reducible repeat (first | refine blk_drewN ?_ _ | refine blk_drew ?_ | refine blk_alloc ?_ _)); refine blk_far ?_ NB122_124.out _; (with_reducible repeat (first | refine blk_drewN ?_ _ | refine blk_drew ?_ | refine blk_alloc ?_ _)); refine blk_far ?_ NB122_124.out _; (with_reducible repeat (first | refine blk_drewN ?_ _ | refine blk_drew ?_ | refine blk_alloc ?_ _)); refine blk_far ?_ NB122_124.out _; (with_reducible repeat (first | refine blk_drewN ?_ _ | refine blk_drew ?_ | refine blk_alloc ?_ _)); refine blk_far ?_ NB122_124.out _; (with_reducible repeat (first | refine blk_drewN ?_ _ | refine blk_drew ?_ | refine blk_alloc ?_ _)); refine blk_far ?_ NB122_124.out _; (with_reducible repeat (first | refine blk_drewN ?_ _ | refine blk_drew ?_ | refine blk_alloc ?_ _)); refine blk_far ?_ NB122_124.out _; (with_reducible repeat (first | refine blk_drewN ?_ _ | refine blk_drew ?_ | refine blk_alloc ?_ _)); refine blk_far ?_ NB122_124.out _; (with_reducible repeat (first | refine blk_drewN ?_ _ | refine blk_drew ?_ | refine blk_alloc ?_ _)); refine blk_far ?_ NB122_124.out _; (with_reducible repeat (first | refine blk_drewN ?_ _ | refine blk_drew ?_ | refine blk_alloc ?_ _)); exact BK122.out) hb); have n1_ := Aside0.mk (blk_below (g := gb124) (o := .cells #[.int .i64 ((rd_T59 l1 x12_1).f0), .int .i64 ((rd_T59 l1 x12_1).f1), .int .i64 ((rd_T59 l1 x12_1).f2.f0), .int .i64 ((rd_T59 l1 x12_1).f2.f1), .int .i64 ((rd_T59 l1 x12_1).f2.f2), .int .i64 ((rd_T59 l1 x12_1).f3), .slice A123_6 ((rd_T59 l1 x12_1).f4).length c123_6, .slice A123_7 ((rd_T59 l1 x12_1).f5).length c123_7] 59 (0, 0)) (by (with_reducible repeat (first | refine blk_drewN ?_ _ | refine blk_drew ?_ | refine blk_alloc ?_ _)); refine blk_put (cs := #[.int .i64 ((rd_T59 l1 x12_1).f0), .int .i64 ((rd_T59 l1 x12_1).f1), .int .i64 ((rd_T59 l1 x12_1).f2.f0), .int .i64 ((rd_T59 l1 x12_1).f2.f1), .int .i64 ((rd_T59 l1 x12_1).f2.f2), .int .i64 ((rd_T59 l1 x12_1).f3), .slice A123_6 ((rd_T59 l1 x12_1).f4).length c123_6, .slice none 0 0]) ?_ 7 _ rfl; (with_reducible repeat (first | refine blk_drewN ?_ _ | refine blk_drew ?_ | refine blk_alloc ?_ _)); refine blk_put (cs := #[.int .i64 ((rd_T59 l1 x12_1).f0), .int .i64 ((rd_T59 l1 x12_1).f1), .int .i64 ((rd_T59 l1 x12_1).f2.f0), .int .i64 ((rd_T59 l1 x12_1).f2.f1), .int .i64 ((rd_T59 l1 x12_1).f2.f2), .int .i64 ((rd_T59 l1 x12_1).f3), .slice none 0 0, .slice none 0 0]) ?_ 6 _ rfl; (with_reducible repeat (first | refine blk_drewN ?_ _ | refine blk_drew ?_ | refine blk_alloc ?_ _)); refine blk_put (cs := #[.int .i64 ((rd_T59 l1 x12_1).f0), .int .i64 ((rd_T59 l1 x12_1).f1), .int .i64 ((rd_T59 l1 x12_1).f2.f0), .int .i64 ((rd_T59 l1 x12_1).f2.f1), .int .i64 ((rd_T59 l1 x12_1).f2.f2), .int .i64 0, .slice none 0 0, .slice none 0 0]) ?_ 5 _ rfl; (with_reducible repeat (first | refine blk_drewN ?_ _ | refine blk_drew ?_ | refine blk_alloc ?_ _)); refine blk_put (cs := #[.int .i64 ((rd_T59 l1 x12_1).f0), .int .i64 ((rd_T59 l1 x12_1).f1), .int .i64 ((rd_T59 l1 x12_1).f2.f0), .int .i64 ((rd_T59 l1 x12_1).f2.f1), .int .i64 0, .int .i64 0, .slice none 0 0, .slice none 0 0]) ?_ 4 _ rfl; (with_reducible repeat (first | refine blk_drewN ?_ _ | refine blk_drew ?_ | refine blk_alloc ?_ _)); refine blk_put (cs := #[.int .i64 ((rd_T59 l1 x12_1).f0), .int .i64 ((rd_T59 l1 x12_1).f1), .int .i64 ((rd_T59 l1 x12_1).f2.f0), .int .i64 0, .int .i64 0, .int .i64 0, .slice none 0 0, .slice none 0 0]) ?_ 3 _ rfl; (with_reducible repeat (first | refine blk_drewN ?_ _ | refine blk_drew ?_ | refine blk_alloc ?_ _)); refine blk_put (cs := #[.int .i64 ((rd_T59 l1 x12_1).f0), .int .i64 ((rd_T59 l1 x12_1).f1), .int .i64 0, .int .i64 0, .int .i64 0, .int .i64 0, .slice none 0 0, .slice none 0 0]) ?_ 2 _ rfl; (with_reducible repeat (first | refine blk_drewN ?_ _ | refine blk_drew ?_ | refine blk_alloc ?_ _)); refine blk_put (cs := #[.int .i64 ((rd_T59 l1 x12_1).f0), .int .i64 0, .int .i64 0, .int .i64 0, .int .i64 0, .int .i64 0, .slice none 0 0, .slice none 0 0]) ?_ 1 _ rfl; (with_reducible repeat (first | refine blk_drewN ?_ _ | refine blk_drew ?_ | refine blk_alloc ?_ _)); refine blk_put (cs := #[.int .i64 0, .int .i64 0, .int .i64 0, .int .i64 0, .int .i64 0, .int .i64 0, .slice none 0 0, .slice none 0 0]) ?_ 0 _ rfl; (with_reducible repeat (first | refine blk_drewN ?_ _ | refine blk_drew ?_ | refine blk_alloc ?_ _)); exact BK124.out) hb); have n2_ := Aside0.mk (below_step (by repeat (first | (with_reducible first | exact HB.out | apply below_alloc | apply pw_below_drewN | apply below_drew1 | refine below_set ?_ GE122.out | refine below_set ?_ GE124.out) | exact HB.out)) hb); clear BK122; clear BK124; clear HB; have BK122 := n0_; have BK124 := n1_; have HB := n2_; clear n0_ n1_ n2_; (try clear hb); (try clear hb2); (try clear hk); (try clear hi); have hcz79_0 : w78.cell? ⟨gb124, 0, none⟩ = some (.int .i64 ((rd_T59 l1 x12_1).f0)) := (blk_cell BK124.out 0).trans rfl; have hcz79_1 : w78.cell? ⟨gb124, 1, none⟩ = some (.int .i64 ((rd_T59 l1 x12_1).f1)) := (blk_cell BK124.out 1).trans rfl; have hcz79_2 : w78.cell? ⟨gb124, 2, none⟩ = some (.int .i64 ((rd_T59 l1 x12_1).f2.f0)) := (blk_cell BK124.out 2).trans rfl; have hcz79_3 : w78.cell? ⟨gb124, 3, none⟩ = some (.int .i64 ((rd_T59 l1 x12_1).f2.f1)) := (blk_cell BK124.out 3).trans rfl; have hcz79_4 : w78.cell? ⟨gb124, 4, none⟩ = some (.int .i64 ((rd_T59 l1 x12_1).f2.f2)) := (blk_cell BK124.out 4).trans rfl; have hcz79_5 : w78.cell? ⟨gb124, 5, none⟩ = some (.int .i64 ((rd_T59 l1 x12_1).f3)) := (blk_cell BK124.out 5).trans rfl; have hcz79_6 : w78.cell? ⟨gb124, 6, none⟩ = some (.slice A123_6 ((rd_T59 l1 x12_1).f4).length c123_6) := (blk_cell BK124.out 6).trans rfl; have hcz79_7 : w78.cell? ⟨gb124, 7, none⟩ = some (.slice A123_7 ((rd_T59 l1 x12_1).f5).length c123_7) := (blk_cell BK124.out 7).trans rfl; have hfz79_0 := blk_frozen BK124.out 0; have hfz79_1 := blk_frozen BK124.out 1; have hfz79_2 := blk_frozen BK124.out 2; have hfz79_3 := blk_frozen BK124.out 3; have hfz79_4 := blk_frozen BK124.out 4; have hfz79_5 := blk_frozen BK124.out 5; have hfz79_6 := blk_frozen BK124.out 6; have hfz79_7 := blk_frozen BK124.out 7))
                          go_meet
                          case rel => exact ⟨_, (true), (by first | rfl | (simp; done) | (simp [*]; done)), H', ⟨by have := HK1.out; first | omega | exact Nat.le_refl _⟩, ⟨by (with_reducible repeat (first | refine blk_drewN ?_ _ | refine blk_drew ?_ | refine blk_alloc ?_ _)); exact BK122.out⟩, ⟨by (with_reducible repeat (first | refine blk_drewN ?_ _ | refine blk_drew ?_ | refine blk_alloc ?_ _)); exact BK124.out⟩, ⟨by repeat (first | (with_reducible first | exact HB.out | apply below_alloc | apply pw_below_drewN | apply below_drew1 | refine below_set ?_ GE122.out | refine below_set ?_ GE124.out) | exact HB.out)⟩⟩
                · replace c14 := Bool.eq_false_iff.mpr c14
                  subst c14
                  have H1 : (impl_Prog_stepsOk.j1 k1 a2 l1 (l1.length : Int) x12_1 true l0_0 l0_1 ((rd_T59 l1 x12_1).f0) ((rd_T59 l1 x12_1).f1) ((rd_T59 l1 x12_1).f2.f0) ((rd_T59 l1 x12_1).f2.f1) ((rd_T59 l1 x12_1).f2.f2) ((rd_T59 l1 x12_1).f3) ((rd_T59 l1 x12_1).f4) ((rd_T59 l1 x12_1).f5)) = some r := by rw [if_neg (show ¬ (false = true) by decide)] at H; exact H
                  clear H
                  have H := H1
                  clear H1
                  have H' := Aside0.mk H
                  clear H
                  have hnb80 := NB122_124.out
                  have hnc80 := NB124_122.out
                  have hcz81_0 : w9.cell? ⟨gb122, 0, none⟩ = some (.slice A0_0 l0_0.length c0_0) := (blk_cell BK122.out 0).trans rfl
                  have hcz81_1 : w9.cell? ⟨gb122, 1, none⟩ = some (.slice A0_1 l0_1.length c0_1) := (blk_cell BK122.out 1).trans rfl
                  have hfz81_0 := blk_frozen BK122.out 0
                  have hfz81_1 := blk_frozen BK122.out 1
                  have hcz82_0 : w9.cell? ⟨gb124, 0, none⟩ = some (.int .i64 0) := (blk_cell BK124.out 0).trans rfl
                  have hcz82_1 : w9.cell? ⟨gb124, 1, none⟩ = some (.int .i64 0) := (blk_cell BK124.out 1).trans rfl
                  have hcz82_2 : w9.cell? ⟨gb124, 2, none⟩ = some (.int .i64 0) := (blk_cell BK124.out 2).trans rfl
                  have hcz82_3 : w9.cell? ⟨gb124, 3, none⟩ = some (.int .i64 0) := (blk_cell BK124.out 3).trans rfl
                  have hcz82_4 : w9.cell? ⟨gb124, 4, none⟩ = some (.int .i64 0) := (blk_cell BK124.out 4).trans rfl
                  have hcz82_5 : w9.cell? ⟨gb124, 5, none⟩ = some (.int .i64 0) := (blk_cell BK124.out 5).trans rfl
                  have hcz82_6 : w9.cell? ⟨gb124, 6, none⟩ = some (.slice none 0 0) := (blk_cell BK124.out 6).trans rfl
                  have hcz82_7 : w9.cell? ⟨gb124, 7, none⟩ = some (.slice none 0 0) := (blk_cell BK124.out 7).trans rfl
                  have hfz82_0 := blk_frozen BK124.out 0
                  have hfz82_1 := blk_frozen BK124.out 1
                  have hfz82_2 := blk_frozen BK124.out 2
                  have hfz82_3 := blk_frozen BK124.out 3
                  have hfz82_4 := blk_frozen BK124.out 4
                  have hfz82_5 := blk_frozen BK124.out 5
                  have hfz82_6 := blk_frozen BK124.out 6
                  have hfz82_7 := blk_frozen BK124.out 7
                  go_wp2_with (first | (go_at_call 126; (with_reducible refine (impl_Prog_isVar.calls _ _ l0_0 _ _ l0_1 ((rd_T59 l1 x12_1).f1) false _ ?side1 ?side2 ?side3 ?side4 A13.out).mono ?_); (case side1 => exact Kd.C_below HR0_0.out (by repeat (first | (with_reducible first | exact HB.out | apply below_alloc | apply pw_below_drewN | apply below_drew1 | refine below_set ?_ GE122.out | refine below_set ?_ GE124.out) | exact HB.out))); (case side2 => exact HC0_0.out); (case side3 => exact Kd.C_below HR0_1.out (by repeat (first | (with_reducible first | exact HB.out | apply below_alloc | apply pw_below_drewN | apply below_drew1 | refine below_set ?_ GE122.out | refine below_set ?_ GE124.out) | exact HB.out))); (case side4 => exact HC0_1.out); rintro e w83 ⟨rfl, hb⟩; have n0_ := Aside0.mk (blk_below (g := gb122) (o := .cells #[.slice A0_0 l0_0.length c0_0, .slice A0_1 l0_1.length c0_1] 26 (0, 0)) (by (with_reducible repeat (first | refine blk_drewN ?_ _ | refine blk_drew ?_ | refine blk_alloc ?_ _)); refine blk_far ?_ NB122_124.out _; (with_reducible repeat (first | refine blk_drewN ?_ _ | refine blk_drew ?_ | refine blk_alloc ?_ _)); refine blk_far ?_ NB122_124.out _; (with_reducible repeat (first | refine blk_drewN ?_ _ | refine blk_drew ?_ | refine blk_alloc ?_ _)); refine blk_far ?_ NB122_124.out _; (with_reducible repeat (first | refine blk_drewN ?_ _ | refine blk_drew ?_ | refine blk_alloc ?_ _)); refine blk_far ?_ NB122_124.out _; (with_reducible repeat (first | refine blk_drewN ?_ _ | refine blk_drew ?_ | refine blk_alloc ?_ _)); refine blk_far ?_ NB122_124.out _; (with_reducible repeat (first | refine blk_drewN ?_ _ | refine blk_drew ?_ | refine blk_alloc ?_ _)); refine blk_far ?_ NB122_124.out _; (with_reducible repeat (first | refine blk_drewN ?_ _ | refine blk_drew ?_ | refine blk_alloc ?_ _)); refine blk_far ?_ NB122_124.out _; (with_reducible repeat (first | refine blk_drewN ?_ _ | refine blk_drew ?_ | refine blk_alloc ?_ _)); refine blk_far ?_ NB122_124.out _; (with_reducible repeat (first | refine blk_drewN ?_ _ | refine blk_drew ?_ | refine blk_alloc ?_ _)); exact BK122.out) hb); have n1_ := Aside0.mk (blk_below (g := gb124) (o := .cells #[.int .i64 ((rd_T59 l1 x12_1).f0), .int .i64 ((rd_T59 l1 x12_1).f1), .int .i64 ((rd_T59 l1 x12_1).f2.f0), .int .i64 ((rd_T59 l1 x12_1).f2.f1), .int .i64 ((rd_T59 l1 x12_1).f2.f2), .int .i64 ((rd_T59 l1 x12_1).f3), .slice A123_6 ((rd_T59 l1 x12_1).f4).length c123_6, .slice A123_7 ((rd_T59 l1 x12_1).f5).length c123_7] 59 (0, 0)) (by (with_reducible repeat (first | refine blk_drewN ?_ _ | refine blk_drew ?_ | refine blk_alloc ?_ _)); refine blk_put (cs := #[.int .i64 ((rd_T59 l1 x12_1).f0), .int .i64 ((rd_T59 l1 x12_1).f1), .int .i64 ((rd_T59 l1 x12_1).f2.f0), .int .i64 ((rd_T59 l1 x12_1).f2.f1), .int .i64 ((rd_T59 l1 x12_1).f2.f2), .int .i64 ((rd_T59 l1 x12_1).f3), .slice A123_6 ((rd_T59 l1 x12_1).f4).length c123_6, .slice none 0 0]) ?_ 7 _ rfl; (with_reducible repeat (first | refine blk_drewN ?_ _ | refine blk_drew ?_ | refine blk_alloc ?_ _)); refine blk_put (cs := #[.int .i64 ((rd_T59 l1 x12_1).f0), .int .i64 ((rd_T59 l1 x12_1).f1), .int .i64 ((rd_T59 l1 x12_1).f2.f0), .int .i64 ((rd_T59 l1 x12_1).f2.f1), .int .i64 ((rd_T59 l1 x12_1).f2.f2), .int .i64 ((rd_T59 l1 x12_1).f3), .slice none 0 0, .slice none 0 0]) ?_ 6 _ rfl; (with_reducible repeat (first | refine blk_drewN ?_ _ | refine blk_drew ?_ | refine blk_alloc ?_ _)); refine blk_put (cs := #[.int .i64 ((rd_T59 l1 x12_1).f0), .int .i64 ((rd_T59 l1 x12_1).f1), .int .i64 ((rd_T59 l1 x12_1).f2.f0), .int .i64 ((rd_T59 l1 x12_1).f2.f1), .int .i64 ((rd_T59 l1 x12_1).f2.f2), .int .i64 0, .slice none 0 0, .slice none 0 0]) ?_ 5 _ rfl; (with_reducible repeat (first | refine blk_drewN ?_ _ | refine blk_drew ?_ | refine blk_alloc ?_ _)); refine blk_put (cs := #[.int .i64 ((rd_T59 l1 x12_1).f0), .int .i64 ((rd_T59 l1 x12_1).f1), .int .i64 ((rd_T59 l1 x12_1).f2.f0), .int .i64 ((rd_T59 l1 x12_1).f2.f1), .int .i64 0, .int .i64 0, .slice none 0 0, .slice none 0 0]) ?_ 4 _ rfl; (with_reducible repeat (first | refine blk_drewN ?_ _ | refine blk_drew ?_ | refine blk_alloc ?_ _)); refine blk_put (cs := #[.int .i64 ((rd_T59 l1 x12_1).f0), .int .i64 ((rd_T59 l1 x12_1).f1), .int .i64 ((rd_T59 l1 x12_1).f2.f0), .int .i64 0, .int .i64 0, .int .i64 0, .slice none 0 0, .slice none 0 0]) ?_ 3 _ rfl; (with_reducible repeat (first | refine blk_drewN ?_ _ | refine blk_drew ?_ | refine blk_alloc ?_ _)); refine blk_put (cs := #[.int .i64 ((rd_T59 l1 x12_1).f0), .int .i64 ((rd_T59 l1 x12_1).f1), .int .i64 0, .int .i64 0, .int .i64 0, .int .i64 0, .slice none 0 0, .slice none 0 0]) ?_ 2 _ rfl; (with_reducible repeat (first | refine blk_drewN ?_ _ | refine blk_drew ?_ | refine blk_alloc ?_ _)); refine blk_put (cs := #[.int .i64 ((rd_T59 l1 x12_1).f0), .int .i64 0, .int .i64 0, .int .i64 0, .int .i64 0, .int .i64 0, .slice none 0 0, .slice none 0 0]) ?_ 1 _ rfl; (with_reducible repeat (first | refine blk_drewN ?_ _ | refine blk_drew ?_ | refine blk_alloc ?_ _)); refine blk_put (cs := #[.int .i64 0, .int .i64 0, .int .i64 0, .int .i64 0, .int .i64 0, .int .i64 0, .slice none 0 0, .slice none 0 0]) ?_ 0 _ rfl; (with_reducible repeat (first | refine blk_drewN ?_ _ | refine blk_drew ?_ | refine blk_alloc ?_ _)); exact BK124.out) hb); have n2_ := Aside0.mk (below_step (by repeat (first | (with_reducible first | exact HB.out | apply below_alloc | apply pw_below_drewN | apply below_drew1 | refine below_set ?_ GE122.out | refine below_set ?_ GE124.out) | exact HB.out)) hb); clear BK122; clear BK124; clear HB; have BK122 := n0_; have BK124 := n1_; have HB := n2_; clear n0_ n1_ n2_; (try clear hb); (try clear hb2); (try clear hk); (try clear hi)))
                  go_meet
                  case rel => exact ⟨_, (true), (by first | rfl | (simp; done) | (simp [*]; done)), H', ⟨by have := HK1.out; first | omega | exact Nat.le_refl _⟩, ⟨by (with_reducible repeat (first | refine blk_drewN ?_ _ | refine blk_drew ?_ | refine blk_alloc ?_ _)); exact BK122.out⟩, ⟨by (with_reducible repeat (first | refine blk_drewN ?_ _ | refine blk_drew ?_ | refine blk_alloc ?_ _)); exact BK124.out⟩, ⟨by repeat (first | (with_reducible first | exact HB.out | apply below_alloc | apply pw_below_drewN | apply below_drew1 | refine below_set ?_ GE122.out | refine below_set ?_ GE124.out) | exact HB.out)⟩⟩
            case rest =>
              clear HC8
              try clear c1
              try clear p1
              try clear q1
              try clear hx1
              try clear c2
              try clear p2
              try clear c3
              try clear c4
              try clear c5
              try clear c5b0
              try clear c6
              try clear c6b0
              try clear p6
              try clear c7
              try clear c7b0
              try clear c8
              try clear c9
              try clear c10
              try clear c12
              try clear c12b0
              try clear p12
              try clear q12
              try clear hx12
              try clear c14
              try clear c15
              try clear c15b0
              try clear c15b1
              try clear c16
              try clear c16b0
              try clear c16b1
              try clear c17
              try clear c17b0
              try clear c17b1
              try clear c18
              try clear c23
              try clear c28
              try clear c28b0
              try clear c28b1
              try clear c29
              try clear c29b0
              try clear c29b1
              try clear c30
              try clear c35
              try clear c40
              try clear c45
              try clear c45b0
              try clear c46
              try clear c51
              try clear c51b0
              try clear c51b1
              try clear c52
              try clear c52b0
              try clear c52b1
              try clear c53
              try clear c58
              try clear c63
              try clear c63b0
              try clear c63b1
              try clear c64
              try clear c64b0
              try clear c64b1
              try clear p64
              try clear c65
              try clear c70
              try clear c75
              try clear c80
              try clear hcz11_0
              try clear hcz11_1
              try clear hcz11_2
              try clear hcz11_3
              try clear hcz11_4
              try clear hcz11_5
              try clear hcz11_6
              try clear hcz11_7
              try clear hcz19_0
              try clear hcz19_1
              try clear hcz20_0
              try clear hcz20_1
              try clear hcz20_2
              try clear hcz20_3
              try clear hcz20_4
              try clear hcz20_5
              try clear hcz20_6
              try clear hcz20_7
              try clear hcz22_0
              try clear hcz22_1
              try clear hcz22_2
              try clear hcz22_3
              try clear hcz22_4
              try clear hcz22_5
              try clear hcz22_6
              try clear hcz22_7
              try clear hcz24_0
              try clear hcz24_1
              try clear hcz25_0
              try clear hcz25_1
              try clear hcz25_2
              try clear hcz25_3
              try clear hcz25_4
              try clear hcz25_5
              try clear hcz25_6
              try clear hcz25_7
              try clear hcz27_0
              try clear hcz27_1
              try clear hcz27_2
              try clear hcz27_3
              try clear hcz27_4
              try clear hcz27_5
              try clear hcz27_6
              try clear hcz27_7
              try clear hcz31_0
              try clear hcz31_1
              try clear hcz32_0
              try clear hcz32_1
              try clear hcz32_2
              try clear hcz32_3
              try clear hcz32_4
              try clear hcz32_5
              try clear hcz32_6
              try clear hcz32_7
              try clear hcz34_0
              try clear hcz34_1
              try clear hcz34_2
              try clear hcz34_3
              try clear hcz34_4
              try clear hcz34_5
              try clear hcz34_6
              try clear hcz34_7
              try clear hcz36_0
              try clear hcz36_1
              try clear hcz37_0
              try clear hcz37_1
              try clear hcz37_2
              try clear hcz37_3
              try clear hcz37_4
              try clear hcz37_5
              try clear hcz37_6
              try clear hcz37_7
              try clear hcz39_0
              try clear hcz39_1
              try clear hcz39_2
              try clear hcz39_3
              try clear hcz39_4
              try clear hcz39_5
              try clear hcz39_6
              try clear hcz39_7
              try clear hcz41_0
              try clear hcz41_1
              try clear hcz42_0
              try clear hcz42_1
              try clear hcz42_2
              try clear hcz42_3
              try clear hcz42_4
              try clear hcz42_5
              try clear hcz42_6
              try clear hcz42_7
              try clear hcz44_0
              try clear hcz44_1
              try clear hcz44_2
              try clear hcz44_3
              try clear hcz44_4
              try clear hcz44_5
              try clear hcz44_6
              try clear hcz44_7
              try clear hcz47_0
              try clear hcz47_1
              try clear hcz48_0
              try clear hcz48_1
              try clear hcz48_2
              try clear hcz48_3
              try clear hcz48_4
              try clear hcz48_5
              try clear hcz48_6
              try clear hcz48_7
              try clear hcz50_0
              try clear hcz50_1
              try clear hcz50_2
              try clear hcz50_3
              try clear hcz50_4
              try clear hcz50_5
              try clear hcz50_6
              try clear hcz50_7
              try clear hcz54_0
              try clear hcz54_1
              try clear hcz55_0
              try clear hcz55_1
              try clear hcz55_2
              try clear hcz55_3
              try clear hcz55_4
              try clear hcz55_5
              try clear hcz55_6
              try clear hcz55_7
              try clear hcz57_0
              try clear hcz57_1
              try clear hcz57_2
              try clear hcz57_3
              try clear hcz57_4
              try clear hcz57_5
              try clear hcz57_6
              try clear hcz57_7
              try clear hcz59_0
              try clear hcz59_1
              try clear hcz60_0
              try clear hcz60_1
              try clear hcz60_2
              try clear hcz60_3
              try clear hcz60_4
              try clear hcz60_5
              try clear hcz60_6
              try clear hcz60_7
              try clear hcz62_0
              try clear hcz62_1
              try clear hcz62_2
              try clear hcz62_3
              try clear hcz62_4
              try clear hcz62_5
              try clear hcz62_6
              try clear hcz62_7
              try clear hcz66_0
              try clear hcz66_1
              try clear hcz67_0
              try clear hcz67_1
              try clear hcz67_2
              try clear hcz67_3
              try clear hcz67_4
              try clear hcz67_5
              try clear hcz67_6
              try clear hcz67_7
              try clear hcz69_0
              try clear hcz69_1
              try clear hcz69_2
              try clear hcz69_3
              try clear hcz69_4
              try clear hcz69_5
              try clear hcz69_6
              try clear hcz69_7
              try clear hcz71_0
              try clear hcz71_1
              try clear hcz72_0
              try clear hcz72_1
              try clear hcz72_2
              try clear hcz72_3
              try clear hcz72_4
              try clear hcz72_5
              try clear hcz72_6
              try clear hcz72_7
              try clear hcz74_0
              try clear hcz74_1
              try clear hcz74_2
              try clear hcz74_3
              try clear hcz74_4
              try clear hcz74_5
              try clear hcz74_6
              try clear hcz74_7
              try clear hcz76_0
              try clear hcz76_1
              try clear hcz77_0
              try clear hcz77_1
              try clear hcz77_2
              try clear hcz77_3
              try clear hcz77_4
              try clear hcz77_5
              try clear hcz77_6
              try clear hcz77_7
              try clear hcz79_0
              try clear hcz79_1
              try clear hcz79_2
              try clear hcz79_3
              try clear hcz79_4
              try clear hcz79_5
              try clear hcz79_6
              try clear hcz79_7
              try clear hcz81_0
              try clear hcz81_1
              try clear hcz82_0
              try clear hcz82_1
              try clear hcz82_2
              try clear hcz82_3
              try clear hcz82_4
              try clear hcz82_5
              try clear hcz82_6
              try clear hcz82_7
              try clear hfz11_0
              try clear hfz11_1
              try clear hfz11_2
              try clear hfz11_3
              try clear hfz11_4
              try clear hfz11_5
              try clear hfz11_6
              try clear hfz11_7
              try clear hfz19_0
              try clear hfz19_1
              try clear hfz20_0
              try clear hfz20_1
              try clear hfz20_2
              try clear hfz20_3
              try clear hfz20_4
              try clear hfz20_5
              try clear hfz20_6
              try clear hfz20_7
              try clear hfz22_0
              try clear hfz22_1
              try clear hfz22_2
              try clear hfz22_3
              try clear hfz22_4
              try clear hfz22_5
              try clear hfz22_6
              try clear hfz22_7
              try clear hfz24_0
              try clear hfz24_1
              try clear hfz25_0
              try clear hfz25_1
              try clear hfz25_2
              try clear hfz25_3
              try clear hfz25_4
              try clear hfz25_5
              try clear hfz25_6
              try clear hfz25_7
              try clear hfz27_0
              try clear hfz27_1
              try clear hfz27_2
              try clear hfz27_3
              try clear hfz27_4
              try clear hfz27_5
              try clear hfz27_6
              try clear hfz27_7
              try clear hfz31_0
              try clear hfz31_1
              try clear hfz32_0
              try clear hfz32_1
              try clear hfz32_2
              try clear hfz32_3
              try clear hfz32_4
              try clear hfz32_5
              try clear hfz32_6
              try clear hfz32_7
              try clear hfz34_0
              try clear hfz34_1
              try clear hfz34_2
              try clear hfz34_3
              try clear hfz34_4
              try clear hfz34_5
              try clear hfz34_6
              try clear hfz34_7
              try clear hfz36_0
              try clear hfz36_1
              try clear hfz37_0
              try clear hfz37_1
              try clear hfz37_2
              try clear hfz37_3
              try clear hfz37_4
              try clear hfz37_5
              try clear hfz37_6
              try clear hfz37_7
              try clear hfz39_0
              try clear hfz39_1
              try clear hfz39_2
              try clear hfz39_3
              try clear hfz39_4
              try clear hfz39_5
              try clear hfz39_6
              try clear hfz39_7
              try clear hfz41_0
              try clear hfz41_1
              try clear hfz42_0
              try clear hfz42_1
              try clear hfz42_2
              try clear hfz42_3
              try clear hfz42_4
              try clear hfz42_5
              try clear hfz42_6
              try clear hfz42_7
              try clear hfz44_0
              try clear hfz44_1
              try clear hfz44_2
              try clear hfz44_3
              try clear hfz44_4
              try clear hfz44_5
              try clear hfz44_6
              try clear hfz44_7
              try clear hfz47_0
              try clear hfz47_1
              try clear hfz48_0
              try clear hfz48_1
              try clear hfz48_2
              try clear hfz48_3
              try clear hfz48_4
              try clear hfz48_5
              try clear hfz48_6
              try clear hfz48_7
              try clear hfz50_0
              try clear hfz50_1
              try clear hfz50_2
              try clear hfz50_3
              try clear hfz50_4
              try clear hfz50_5
              try clear hfz50_6
              try clear hfz50_7
              try clear hfz54_0
              try clear hfz54_1
              try clear hfz55_0
              try clear hfz55_1
              try clear hfz55_2
              try clear hfz55_3
              try clear hfz55_4
              try clear hfz55_5
              try clear hfz55_6
              try clear hfz55_7
              try clear hfz57_0
              try clear hfz57_1
              try clear hfz57_2
              try clear hfz57_3
              try clear hfz57_4
              try clear hfz57_5
              try clear hfz57_6
              try clear hfz57_7
              try clear hfz59_0
              try clear hfz59_1
              try clear hfz60_0
              try clear hfz60_1
              try clear hfz60_2
              try clear hfz60_3
              try clear hfz60_4
              try clear hfz60_5
              try clear hfz60_6
              try clear hfz60_7
              try clear hfz62_0
              try clear hfz62_1
              try clear hfz62_2
              try clear hfz62_3
              try clear hfz62_4
              try clear hfz62_5
              try clear hfz62_6
              try clear hfz62_7
              try clear hfz66_0
              try clear hfz66_1
              try clear hfz67_0
              try clear hfz67_1
              try clear hfz67_2
              try clear hfz67_3
              try clear hfz67_4
              try clear hfz67_5
              try clear hfz67_6
              try clear hfz67_7
              try clear hfz69_0
              try clear hfz69_1
              try clear hfz69_2
              try clear hfz69_3
              try clear hfz69_4
              try clear hfz69_5
              try clear hfz69_6
              try clear hfz69_7
              try clear hfz71_0
              try clear hfz71_1
              try clear hfz72_0
              try clear hfz72_1
              try clear hfz72_2
              try clear hfz72_3
              try clear hfz72_4
              try clear hfz72_5
              try clear hfz72_6
              try clear hfz72_7
              try clear hfz74_0
              try clear hfz74_1
              try clear hfz74_2
              try clear hfz74_3
              try clear hfz74_4
              try clear hfz74_5
              try clear hfz74_6
              try clear hfz74_7
              try clear hfz76_0
              try clear hfz76_1
              try clear hfz77_0
              try clear hfz77_1
              try clear hfz77_2
              try clear hfz77_3
              try clear hfz77_4
              try clear hfz77_5
              try clear hfz77_6
              try clear hfz77_7
              try clear hfz79_0
              try clear hfz79_1
              try clear hfz79_2
              try clear hfz79_3
              try clear hfz79_4
              try clear hfz79_5
              try clear hfz79_6
              try clear hfz79_7
              try clear hfz81_0
              try clear hfz81_1
              try clear hfz82_0
              try clear hfz82_1
              try clear hfz82_2
              try clear hfz82_3
              try clear hfz82_4
              try clear hfz82_5
              try clear hfz82_6
              try clear hfz82_7
              try clear hx123_0
              try clear hx123_1
              try clear hx123_2
              try clear hx123_3
              try clear hx123_4
              try clear hx123_5
              try clear hx123_6
              try clear hx123_7
              try clear p123
              try clear p2
              try clear q123
              obtain ⟨kq, x60_7, rfl, HA, HJ7, BK122, BK124, HB⟩ := hcut
              cases kq with
              | zero => exact absurd HA.out (by simp [impl_Prog_stepsOk.j1])
              | succ kj7 =>
                have H := HA.out
                clear HA
                simp only [impl_Prog_stepsOk.j1] at H
                by_cases c84 : x60_7 = true
                · subst c84
                  have H1 : (some false) = some r := by rw [if_pos rfl] at H; exact H
                  clear H
                  have H := H1
                  clear H1
                  obtain rfl := Option.some.inj H
                  go_wp2
                  go_ret
                  exact ⟨by first | rfl | (simp [errW_none, errW_some] <;> rfl) | (simp [*, errW_none, errW_some] <;> rfl), by repeat (first | (with_reducible first | exact HB.out | apply below_alloc | apply pw_below_drewN | apply below_drew1 | refine below_set ?_ GE122.out | refine below_set ?_ GE124.out) | exact HB.out)⟩
                · replace c84 := Bool.eq_false_iff.mpr c84
                  subst c84
                  have H1 : (if ((rd_T59 l1 x12_1).f0) = 1 then ((impl_Prog_valOk.f l0_0 l0_1 ((rd_T59 l1 x12_1).f2.f0) ((rd_T59 l1 x12_1).f2.f1) ((rd_T59 l1 x12_1).f2.f2)).bind fun t126 => (if t126 = true then (impl_Prog_stepsOk.l0 kj7 a2 l1 (l1.length : Int) (wrap64 (x12_1 + 1)) l0_0 l0_1) else (some false))) else (if ((rd_T59 l1 x12_1).f0) = 2 then ((impl_Prog_stepsOk.f kj7 l0_0 l0_1 ((rd_T59 l1 x12_1).f4) (wrap64 (a2 - 1))).bind fun t127 => (if t127 = true then ((impl_Prog_stepsOk.f kj7 l0_0 l0_1 ((rd_T59 l1 x12_1).f5) (wrap64 (a2 - 1))).bind fun t128 => (if t128 = true then (impl_Prog_stepsOk.l0 kj7 a2 l1 (l1.length : Int) (wrap64 (x12_1 + 1)) l0_0 l0_1) else (some false))) else (some false))) else (if ((rd_T59 l1 x12_1).f0) = 3 then ((impl_isHost.f ((rd_T59 l1 x12_1).f3)).bind fun t129 => (if t129 = true then (impl_Prog_stepsOk.l0 kj7 a2 l1 (l1.length : Int) (wrap64 (x12_1 + 1)) l0_0 l0_1) else (some false))) else (some false)))) = some r := by rw [if_neg (show ¬ (false = true) by decide)] at H; exact H
                  clear H
                  have H := H1
                  clear H1
                  by_cases c85 : ((rd_T59 l1 x12_1).f0) = 1
                  · rw [if_pos c85] at H
                    have c85b0 : (((rd_T59 l1 x12_1).f0) == 1) = true := beq_iff_eq.mpr c85
                    have c85b1 : (((rd_T59 l1 x12_1).f0) != 1) = false := bne_eq_false_iff_eq.mpr c85
                    clear c85
                    replace H := Option.bind_eq_some_iff.mp H
                    obtain ⟨t126, A860, H⟩ := H
                    replace H : (if t126 = true then (impl_Prog_stepsOk.l0 kj7 a2 l1 (l1.length : Int) (wrap64 (x12_1 + 1)) l0_0 l0_1) else (some false)) = some r := H
                    have A86 := Aside0.mk A860
                    clear A860
                    by_cases c87 : t126 = true
                    · subst c87
                      have H1 : (impl_Prog_stepsOk.l0 kj7 a2 l1 (l1.length : Int) (wrap64 (x12_1 + 1)) l0_0 l0_1) = some r := by rw [if_pos rfl] at H; exact H
                      clear H
                      have H := H1
                      clear H1
                      have H' := Aside0.mk H
                      clear H
                      have hnb88 := NB124_122.out
                      have hnc88 := NB122_124.out
                      have hcz89_0 : wc.cell? ⟨gb124, 0, none⟩ = some (.int .i64 ((rd_T59 l1 x12_1).f0)) := (blk_cell BK124.out 0).trans rfl
                      have hcz89_1 : wc.cell? ⟨gb124, 1, none⟩ = some (.int .i64 ((rd_T59 l1 x12_1).f1)) := (blk_cell BK124.out 1).trans rfl
                      have hcz89_2 : wc.cell? ⟨gb124, 2, none⟩ = some (.int .i64 ((rd_T59 l1 x12_1).f2.f0)) := (blk_cell BK124.out 2).trans rfl
                      have hcz89_3 : wc.cell? ⟨gb124, 3, none⟩ = some (.int .i64 ((rd_T59 l1 x12_1).f2.f1)) := (blk_cell BK124.out 3).trans rfl
                      have hcz89_4 : wc.cell? ⟨gb124, 4, none⟩ = some (.int .i64 ((rd_T59 l1 x12_1).f2.f2)) := (blk_cell BK124.out 4).trans rfl
                      have hcz89_5 : wc.cell? ⟨gb124, 5, none⟩ = some (.int .i64 ((rd_T59 l1 x12_1).f3)) := (blk_cell BK124.out 5).trans rfl
                      have hcz89_6 : wc.cell? ⟨gb124, 6, none⟩ = some (.slice A123_6 ((rd_T59 l1 x12_1).f4).length c123_6) := (blk_cell BK124.out 6).trans rfl
                      have hcz89_7 : wc.cell? ⟨gb124, 7, none⟩ = some (.slice A123_7 ((rd_T59 l1 x12_1).f5).length c123_7) := (blk_cell BK124.out 7).trans rfl
                      have hfz89_0 := blk_frozen BK124.out 0
                      have hfz89_1 := blk_frozen BK124.out 1
                      have hfz89_2 := blk_frozen BK124.out 2
                      have hfz89_3 := blk_frozen BK124.out 3
                      have hfz89_4 := blk_frozen BK124.out 4
                      have hfz89_5 := blk_frozen BK124.out 5
                      have hfz89_6 := blk_frozen BK124.out 6
                      have hfz89_7 := blk_frozen BK124.out 7
                      have hcz90_0 : wc.cell? ⟨gb122, 0, none⟩ = some (.slice A0_0 l0_0.length c0_0) := (blk_cell BK122.out 0).trans rfl
                      have hcz90_1 : wc.cell? ⟨gb122, 1, none⟩ = some (.slice A0_1 l0_1.length c0_1) := (blk_cell BK122.out 1).trans rfl
                      have hfz90_0 := blk_frozen BK122.out 0
                      have hfz90_1 := blk_frozen BK122.out 1
                      go_wp2_with (first | ((with_reducible refine gate_callee (f := 127) rfl ?_); refine goesL_ (some 68) rfl rfl Try.func127 (by kernel_rfl) rfl #[.agg #[.slice A0_0 l0_0.length c0_0, .slice A0_1 l0_1.length c0_1], .agg #[.int .i64 ((rd_T59 l1 x12_1).f2.f0), .int .i64 ((rd_T59 l1 x12_1).f2.f1), .int .i64 ((rd_T59 l1 x12_1).f2.f2)]] rfl (by (try simp only [List.map_toArray, List.map_cons, List.map_nil]); first | done | rfl | (simp only [List.length_drop, List.length_take]; rfl)) ?_; (with_reducible refine (impl_Prog_valOk.calls _ _ l0_0 _ _ l0_1 ((rd_T59 l1 x12_1).f2.f0) ((rd_T59 l1 x12_1).f2.f1) ((rd_T59 l1 x12_1).f2.f2) true _ ?side1 ?side2 ?side3 ?side4 A86.out).mono ?_); (case side1 => repeat (first | exact (Kd.C_below HR0_0.out HB.out) | (with_reducible refine Kd.C_alloc ?_ _) | (with_reducible refine Kd.C_drewN ?_ _) | (with_reducible refine Kd.C_drew ?_))); (case side2 => exact HC0_0.out); (case side3 => repeat (first | exact (Kd.C_below HR0_1.out HB.out) | (with_reducible refine Kd.C_alloc ?_ _) | (with_reducible refine Kd.C_drewN ?_ _) | (with_reducible refine Kd.C_drew ?_))); (case side4 => exact HC0_1.out); rintro e w91 ⟨rfl, hb⟩; refine ⟨_, rfl, ?_⟩; have n0_ := Aside0.mk (blk_below (g := gb122) (o := .cells #[.slice A0_0 l0_0.length c0_0, .slice A0_1 l0_1.length c0_1] 26 (0, 0)) (by (with_reducible repeat (first | refine blk_drewN ?_ _ | refine blk_drew ?_ | refine blk_alloc ?_ _)); exact BK122.out) hb); have n1_ := Aside0.mk (blk_below (g := gb124) (o := .cells #[.int .i64 ((rd_T59 l1 x12_1).f0), .int .i64 ((rd_T59 l1 x12_1).f1), .int .i64 ((rd_T59 l1 x12_1).f2.f0), .int .i64 ((rd_T59 l1 x12_1).f2.f1), .int .i64 ((rd_T59 l1 x12_1).f2.f2), .int .i64 ((rd_T59 l1 x12_1).f3), .slice A123_6 ((rd_T59 l1 x12_1).f4).length c123_6, .slice A123_7 ((rd_T59 l1 x12_1).f5).length c123_7] 59 (0, 0)) (by (with_reducible repeat (first | refine blk_drewN ?_ _ | refine blk_drew ?_ | refine blk_alloc ?_ _)); exact BK124.out) hb); have n2_ := Aside0.mk (below_step (by repeat (first | (with_reducible first | exact HB.out | apply below_alloc | apply pw_below_drewN | apply below_drew1 | refine below_set ?_ GE122.out | refine below_set ?_ GE124.out) | exact HB.out)) hb); clear BK122; clear BK124; clear HB; have BK122 := n0_; have BK124 := n1_; have HB := n2_; clear n0_ n1_ n2_; (try clear hb); (try clear hb2); (try clear hk); (try clear hi)))
                      go_roundg kj7
                      case measure => have := HK1.out; have := HJ7.out; omega
                      case rel => exact ⟨(wrap64 (x12_1 + 1)), (by first | rfl | (simp; done) | (simp [*]; done)), H', ⟨by have := HK1.out; have := HJ7.out; omega⟩, ⟨by (with_reducible repeat (first | refine blk_drewN ?_ _ | refine blk_drew ?_ | refine blk_alloc ?_ _)); exact BK122.out⟩, ⟨by repeat (first | (with_reducible first | exact HB.out | apply below_alloc | apply pw_below_drewN | apply below_drew1 | refine below_set ?_ GE122.out | refine below_set ?_ GE124.out) | exact HB.out)⟩⟩
                    · replace c87 := Bool.eq_false_iff.mpr c87
                      subst c87
                      have H1 : (some false) = some r := by rw [if_neg (show ¬ (false = true) by decide)] at H; exact H
                      clear H
                      have H := H1
                      clear H1
                      obtain rfl := Option.some.inj H
                      have hnb92 := NB124_122.out
                      have hnc92 := NB122_124.out
                      have hcz93_0 : wc.cell? ⟨gb124, 0, none⟩ = some (.int .i64 ((rd_T59 l1 x12_1).f0)) := (blk_cell BK124.out 0).trans rfl
                      have hcz93_1 : wc.cell? ⟨gb124, 1, none⟩ = some (.int .i64 ((rd_T59 l1 x12_1).f1)) := (blk_cell BK124.out 1).trans rfl
                      have hcz93_2 : wc.cell? ⟨gb124, 2, none⟩ = some (.int .i64 ((rd_T59 l1 x12_1).f2.f0)) := (blk_cell BK124.out 2).trans rfl
                      have hcz93_3 : wc.cell? ⟨gb124, 3, none⟩ = some (.int .i64 ((rd_T59 l1 x12_1).f2.f1)) := (blk_cell BK124.out 3).trans rfl
                      have hcz93_4 : wc.cell? ⟨gb124, 4, none⟩ = some (.int .i64 ((rd_T59 l1 x12_1).f2.f2)) := (blk_cell BK124.out 4).trans rfl
                      have hcz93_5 : wc.cell? ⟨gb124, 5, none⟩ = some (.int .i64 ((rd_T59 l1 x12_1).f3)) := (blk_cell BK124.out 5).trans rfl
                      have hcz93_6 : wc.cell? ⟨gb124, 6, none⟩ = some (.slice A123_6 ((rd_T59 l1 x12_1).f4).length c123_6) := (blk_cell BK124.out 6).trans rfl
                      have hcz93_7 : wc.cell? ⟨gb124, 7, none⟩ = some (.slice A123_7 ((rd_T59 l1 x12_1).f5).length c123_7) := (blk_cell BK124.out 7).trans rfl
                      have hfz93_0 := blk_frozen BK124.out 0
                      have hfz93_1 := blk_frozen BK124.out 1
                      have hfz93_2 := blk_frozen BK124.out 2
                      have hfz93_3 := blk_frozen BK124.out 3
                      have hfz93_4 := blk_frozen BK124.out 4
                      have hfz93_5 := blk_frozen BK124.out 5
                      have hfz93_6 := blk_frozen BK124.out 6
                      have hfz93_7 := blk_frozen BK124.out 7
                      have hcz94_0 : wc.cell? ⟨gb122, 0, none⟩ = some (.slice A0_0 l0_0.length c0_0) := (blk_cell BK122.out 0).trans rfl
                      have hcz94_1 : wc.cell? ⟨gb122, 1, none⟩ = some (.slice A0_1 l0_1.length c0_1) := (blk_cell BK122.out 1).trans rfl
                      have hfz94_0 := blk_frozen BK122.out 0
                      have hfz94_1 := blk_frozen BK122.out 1
                      go_wp2_with (first | ((with_reducible refine gate_callee (f := 127) rfl ?_); refine goesL_ (some 68) rfl rfl Try.func127 (by kernel_rfl) rfl #[.agg #[.slice A0_0 l0_0.length c0_0, .slice A0_1 l0_1.length c0_1], .agg #[.int .i64 ((rd_T59 l1 x12_1).f2.f0), .int .i64 ((rd_T59 l1 x12_1).f2.f1), .int .i64 ((rd_T59 l1 x12_1).f2.f2)]] rfl (by (try simp only [List.map_toArray, List.map_cons, List.map_nil]); first | done | rfl | (simp only [List.length_drop, List.length_take]; rfl)) ?_; (with_reducible refine (impl_Prog_valOk.calls _ _ l0_0 _ _ l0_1 ((rd_T59 l1 x12_1).f2.f0) ((rd_T59 l1 x12_1).f2.f1) ((rd_T59 l1 x12_1).f2.f2) false _ ?side1 ?side2 ?side3 ?side4 A86.out).mono ?_); (case side1 => repeat (first | exact (Kd.C_below HR0_0.out HB.out) | (with_reducible refine Kd.C_alloc ?_ _) | (with_reducible refine Kd.C_drewN ?_ _) | (with_reducible refine Kd.C_drew ?_))); (case side2 => exact HC0_0.out); (case side3 => repeat (first | exact (Kd.C_below HR0_1.out HB.out) | (with_reducible refine Kd.C_alloc ?_ _) | (with_reducible refine Kd.C_drewN ?_ _) | (with_reducible refine Kd.C_drew ?_))); (case side4 => exact HC0_1.out); rintro e w95 ⟨rfl, hb⟩; refine ⟨_, rfl, ?_⟩; have n0_ := Aside0.mk (blk_below (g := gb122) (o := .cells #[.slice A0_0 l0_0.length c0_0, .slice A0_1 l0_1.length c0_1] 26 (0, 0)) (by (with_reducible repeat (first | refine blk_drewN ?_ _ | refine blk_drew ?_ | refine blk_alloc ?_ _)); exact BK122.out) hb); have n1_ := Aside0.mk (blk_below (g := gb124) (o := .cells #[.int .i64 ((rd_T59 l1 x12_1).f0), .int .i64 ((rd_T59 l1 x12_1).f1), .int .i64 ((rd_T59 l1 x12_1).f2.f0), .int .i64 ((rd_T59 l1 x12_1).f2.f1), .int .i64 ((rd_T59 l1 x12_1).f2.f2), .int .i64 ((rd_T59 l1 x12_1).f3), .slice A123_6 ((rd_T59 l1 x12_1).f4).length c123_6, .slice A123_7 ((rd_T59 l1 x12_1).f5).length c123_7] 59 (0, 0)) (by (with_reducible repeat (first | refine blk_drewN ?_ _ | refine blk_drew ?_ | refine blk_alloc ?_ _)); exact BK124.out) hb); have n2_ := Aside0.mk (below_step (by repeat (first | (with_reducible first | exact HB.out | apply below_alloc | apply pw_below_drewN | apply below_drew1 | refine below_set ?_ GE122.out | refine below_set ?_ GE124.out) | exact HB.out)) hb); clear BK122; clear BK124; clear HB; have BK122 := n0_; have BK124 := n1_; have HB := n2_; clear n0_ n1_ n2_; (try clear hb); (try clear hb2); (try clear hk); (try clear hi)))
                      go_ret
                      exact ⟨by first | rfl | (simp [errW_none, errW_some] <;> rfl) | (simp [*, errW_none, errW_some] <;> rfl), by repeat (first | (with_reducible first | exact HB.out | apply below_alloc | apply pw_below_drewN | apply below_drew1 | refine below_set ?_ GE122.out | refine below_set ?_ GE124.out) | exact HB.out)⟩
                  · rw [if_neg c85] at H
                    have c85b0 : (((rd_T59 l1 x12_1).f0) == 1) = false := beq_eq_false_iff_ne.mpr c85
                    have c85b1 : (((rd_T59 l1 x12_1).f0) != 1) = true := bne_iff_ne.mpr c85
                    by_cases c96 : ((rd_T59 l1 x12_1).f0) = 2
                    · rw [if_pos c96] at H
                      have c96b0 : (((rd_T59 l1 x12_1).f0) == 2) = true := beq_iff_eq.mpr c96
                      have c96b1 : (((rd_T59 l1 x12_1).f0) != 2) = false := bne_eq_false_iff_eq.mpr c96
                      clear c96
                      replace H := Option.bind_eq_some_iff.mp H
                      obtain ⟨t127, A970, H⟩ := H
                      replace H : (if t127 = true then ((impl_Prog_stepsOk.f kj7 l0_0 l0_1 ((rd_T59 l1 x12_1).f5) (wrap64 (a2 - 1))).bind fun t128 => (if t128 = true then (impl_Prog_stepsOk.l0 kj7 a2 l1 (l1.length : Int) (wrap64 (x12_1 + 1)) l0_0 l0_1) else (some false))) else (some false)) = some r := H
                      have A97 := Aside0.mk A970
                      clear A970
                      by_cases c98 : t127 = true
                      · subst c98
                        have H1 : ((impl_Prog_stepsOk.f kj7 l0_0 l0_1 ((rd_T59 l1 x12_1).f5) (wrap64 (a2 - 1))).bind fun t128 => (if t128 = true then (impl_Prog_stepsOk.l0 kj7 a2 l1 (l1.length : Int) (wrap64 (x12_1 + 1)) l0_0 l0_1) else (some false))) = some r := by rw [if_pos rfl] at H; exact H
                        clear H
                        have H := H1
                        clear H1
                        replace H := Option.bind_eq_some_iff.mp H
                        obtain ⟨t128, A990, H⟩ := H
                        replace H : (if t128 = true then (impl_Prog_stepsOk.l0 kj7 a2 l1 (l1.length : Int) (wrap64 (x12_1 + 1)) l0_0 l0_1) else (some false)) = some r := H
                        have A99 := Aside0.mk A990
                        clear A990
                        by_cases c100 : t128 = true
                        · subst c100
                          have H1 : (impl_Prog_stepsOk.l0 kj7 a2 l1 (l1.length : Int) (wrap64 (x12_1 + 1)) l0_0 l0_1) = some r := by rw [if_pos rfl] at H; exact H
                          clear H
                          have H := H1
                          clear H1
                          have H' := Aside0.mk H
                          clear H
                          have hnb101 := NB124_122.out
                          have hnc101 := NB122_124.out
                          have hcz102_0 : wc.cell? ⟨gb124, 0, none⟩ = some (.int .i64 ((rd_T59 l1 x12_1).f0)) := (blk_cell BK124.out 0).trans rfl
                          have hcz102_1 : wc.cell? ⟨gb124, 1, none⟩ = some (.int .i64 ((rd_T59 l1 x12_1).f1)) := (blk_cell BK124.out 1).trans rfl
                          have hcz102_2 : wc.cell? ⟨gb124, 2, none⟩ = some (.int .i64 ((rd_T59 l1 x12_1).f2.f0)) := (blk_cell BK124.out 2).trans rfl
                          have hcz102_3 : wc.cell? ⟨gb124, 3, none⟩ = some (.int .i64 ((rd_T59 l1 x12_1).f2.f1)) := (blk_cell BK124.out 3).trans rfl
                          have hcz102_4 : wc.cell? ⟨gb124, 4, none⟩ = some (.int .i64 ((rd_T59 l1 x12_1).f2.f2)) := (blk_cell BK124.out 4).trans rfl
                          have hcz102_5 : wc.cell? ⟨gb124, 5, none⟩ = some (.int .i64 ((rd_T59 l1 x12_1).f3)) := (blk_cell BK124.out 5).trans rfl
                          have hcz102_6 : wc.cell? ⟨gb124, 6, none⟩ = some (.slice A123_6 ((rd_T59 l1 x12_1).f4).length c123_6) := (blk_cell BK124.out 6).trans rfl
                          have hcz102_7 : wc.cell? ⟨gb124, 7, none⟩ = some (.slice A123_7 ((rd_T59 l1 x12_1).f5).length c123_7) := (blk_cell BK124.out 7).trans rfl
                          have hfz102_0 := blk_frozen BK124.out 0
                          have hfz102_1 := blk_frozen BK124.out 1
                          have hfz102_2 := blk_frozen BK124.out 2
                          have hfz102_3 := blk_frozen BK124.out 3
                          have hfz102_4 := blk_frozen BK124.out 4
                          have hfz102_5 := blk_frozen BK124.out 5
                          have hfz102_6 := blk_frozen BK124.out 6
                          have hfz102_7 := blk_frozen BK124.out 7
                          have hcz103_0 : wc.cell? ⟨gb122, 0, none⟩ = some (.slice A0_0 l0_0.length c0_0) := (blk_cell BK122.out 0).trans rfl
                          have hcz103_1 : wc.cell? ⟨gb122, 1, none⟩ = some (.slice A0_1 l0_1.length c0_1) := (blk_cell BK122.out 1).trans rfl
                          have hfz103_0 := blk_frozen BK122.out 0
                          have hfz103_1 := blk_frozen BK122.out 1
                          go_wp2_with (first | ((with_reducible refine gate_callee (f := 90) rfl ?_); refine goesL_ (some 76) rfl rfl Try.func90 (by kernel_rfl) rfl #[.agg #[.slice A0_0 l0_0.length c0_0, .slice A0_1 l0_1.length c0_1], .slice A123_6 ((rd_T59 l1 x12_1).f4).length c123_6, .int .i64 (wrap64 (a2 - 1))] rfl (by (try simp only [List.map_toArray, List.map_cons, List.map_nil]); first | done | rfl | (simp only [List.length_drop, List.length_take]; rfl)) ?_; (with_reducible refine (ih kj7 (by have := HK1.out; have := HJ7.out; omega) _ _ l0_0 _ _ l0_1 _ _ ((rd_T59 l1 x12_1).f4) (wrap64 (a2 - 1)) true _ ?side1 ?side2 ?side3 ?side4 ?side5 ?side6 A97.out).mono ?_); (case side1 => repeat (first | exact (Kd.C_below HR0_0.out HB.out) | (with_reducible refine Kd.C_alloc ?_ _) | (with_reducible refine Kd.C_drewN ?_ _) | (with_reducible refine Kd.C_drew ?_))); (case side2 => exact HC0_0.out); (case side3 => repeat (first | exact (Kd.C_below HR0_1.out HB.out) | (with_reducible refine Kd.C_alloc ?_ _) | (with_reducible refine Kd.C_drewN ?_ _) | (with_reducible refine Kd.C_drew ?_))); (case side4 => exact HC0_1.out); (case side5 => repeat (first | exact (Kd.C_below HR123_6.out HB.out) | (with_reducible refine Kd.C_alloc ?_ _) | (with_reducible refine Kd.C_drewN ?_ _) | (with_reducible refine Kd.C_drew ?_))); (case side6 => exact HC123_6.out); rintro e w104 ⟨rfl, hb⟩; refine ⟨_, rfl, ?_⟩; have n0_ := Aside0.mk (blk_below (g := gb122) (o := .cells #[.slice A0_0 l0_0.length c0_0, .slice A0_1 l0_1.length c0_1] 26 (0, 0)) (by (with_reducible repeat (first | refine blk_drewN ?_ _ | refine blk_drew ?_ | refine blk_alloc ?_ _)); exact BK122.out) hb); have n1_ := Aside0.mk (blk_below (g := gb124) (o := .cells #[.int .i64 ((rd_T59 l1 x12_1).f0), .int .i64 ((rd_T59 l1 x12_1).f1), .int .i64 ((rd_T59 l1 x12_1).f2.f0), .int .i64 ((rd_T59 l1 x12_1).f2.f1), .int .i64 ((rd_T59 l1 x12_1).f2.f2), .int .i64 ((rd_T59 l1 x12_1).f3), .slice A123_6 ((rd_T59 l1 x12_1).f4).length c123_6, .slice A123_7 ((rd_T59 l1 x12_1).f5).length c123_7] 59 (0, 0)) (by (with_reducible repeat (first | refine blk_drewN ?_ _ | refine blk_drew ?_ | refine blk_alloc ?_ _)); exact BK124.out) hb); have n2_ := Aside0.mk (below_step (by repeat (first | (with_reducible first | exact HB.out | apply below_alloc | apply pw_below_drewN | apply below_drew1 | refine below_set ?_ GE122.out | refine below_set ?_ GE124.out) | exact HB.out)) hb); clear BK122; clear BK124; clear HB; have BK122 := n0_; have BK124 := n1_; have HB := n2_; clear n0_ n1_ n2_; (try clear hb); (try clear hb2); (try clear hk); (try clear hi); have hcz105_0 : w104.cell? ⟨gb122, 0, none⟩ = some (.slice A0_0 l0_0.length c0_0) := (blk_cell BK122.out 0).trans rfl; have hcz105_1 : w104.cell? ⟨gb122, 1, none⟩ = some (.slice A0_1 l0_1.length c0_1) := (blk_cell BK122.out 1).trans rfl; have hfz105_0 := blk_frozen BK122.out 0; have hfz105_1 := blk_frozen BK122.out 1; have hcz106_0 : w104.cell? ⟨gb124, 0, none⟩ = some (.int .i64 ((rd_T59 l1 x12_1).f0)) := (blk_cell BK124.out 0).trans rfl; have hcz106_1 : w104.cell? ⟨gb124, 1, none⟩ = some (.int .i64 ((rd_T59 l1 x12_1).f1)) := (blk_cell BK124.out 1).trans rfl; have hcz106_2 : w104.cell? ⟨gb124, 2, none⟩ = some (.int .i64 ((rd_T59 l1 x12_1).f2.f0)) := (blk_cell BK124.out 2).trans rfl; have hcz106_3 : w104.cell? ⟨gb124, 3, none⟩ = some (.int .i64 ((rd_T59 l1 x12_1).f2.f1)) := (blk_cell BK124.out 3).trans rfl; have hcz106_4 : w104.cell? ⟨gb124, 4, none⟩ = some (.int .i64 ((rd_T59 l1 x12_1).f2.f2)) := (blk_cell BK124.out 4).trans rfl; have hcz106_5 : w104.cell? ⟨gb124, 5, none⟩ = some (.int .i64 ((rd_T59 l1 x12_1).f3)) := (blk_cell BK124.out 5).trans rfl; have hcz106_6 : w104.cell? ⟨gb124, 6, none⟩ = some (.slice A123_6 ((rd_T59 l1 x12_1).f4).length c123_6) := (blk_cell BK124.out 6).trans rfl; have hcz106_7 : w104.cell? ⟨gb124, 7, none⟩ = some (.slice A123_7 ((rd_T59 l1 x12_1).f5).length c123_7) := (blk_cell BK124.out 7).trans rfl; have hfz106_0 := blk_frozen BK124.out 0; have hfz106_1 := blk_frozen BK124.out 1; have hfz106_2 := blk_frozen BK124.out 2; have hfz106_3 := blk_frozen BK124.out 3; have hfz106_4 := blk_frozen BK124.out 4; have hfz106_5 := blk_frozen BK124.out 5; have hfz106_6 := blk_frozen BK124.out 6; have hfz106_7 := blk_frozen BK124.out 7) | (go_at_call 90; (with_reducible refine (ih kj7 (by have := HK1.out; have := HJ7.out; omega) _ _ l0_0 _ _ l0_1 _ _ ((rd_T59 l1 x12_1).f5) (wrap64 (a2 - 1)) true _ ?side1 ?side2 ?side3 ?side4 ?side5 ?side6 A99.out).mono ?_); (case side1 => repeat (first | exact (Kd.C_below HR0_0.out HB.out) | (with_reducible refine Kd.C_alloc ?_ _) | (with_reducible refine Kd.C_drewN ?_ _) | (with_reducible refine Kd.C_drew ?_))); (case side2 => exact HC0_0.out); (case side3 => repeat (first | exact (Kd.C_below HR0_1.out HB.out) | (with_reducible refine Kd.C_alloc ?_ _) | (with_reducible refine Kd.C_drewN ?_ _) | (with_reducible refine Kd.C_drew ?_))); (case side4 => exact HC0_1.out); (case side5 => repeat (first | exact (Kd.C_below HR123_7.out HB.out) | (with_reducible refine Kd.C_alloc ?_ _) | (with_reducible refine Kd.C_drewN ?_ _) | (with_reducible refine Kd.C_drew ?_))); (case side6 => exact HC123_7.out); rintro e w107 ⟨rfl, hb⟩; have n0_ := Aside0.mk (blk_below (g := gb122) (o := .cells #[.slice A0_0 l0_0.length c0_0, .slice A0_1 l0_1.length c0_1] 26 (0, 0)) (by (with_reducible repeat (first | refine blk_drewN ?_ _ | refine blk_drew ?_ | refine blk_alloc ?_ _)); exact BK122.out) hb); have n1_ := Aside0.mk (blk_below (g := gb124) (o := .cells #[.int .i64 ((rd_T59 l1 x12_1).f0), .int .i64 ((rd_T59 l1 x12_1).f1), .int .i64 ((rd_T59 l1 x12_1).f2.f0), .int .i64 ((rd_T59 l1 x12_1).f2.f1), .int .i64 ((rd_T59 l1 x12_1).f2.f2), .int .i64 ((rd_T59 l1 x12_1).f3), .slice A123_6 ((rd_T59 l1 x12_1).f4).length c123_6, .slice A123_7 ((rd_T59 l1 x12_1).f5).length c123_7] 59 (0, 0)) (by (with_reducible repeat (first | refine blk_drewN ?_ _ | refine blk_drew ?_ | refine blk_alloc ?_ _)); exact BK124.out) hb); have n2_ := Aside0.mk (below_step (by repeat (first | (with_reducible first | exact HB.out | apply below_alloc | apply pw_below_drewN | apply below_drew1 | refine below_set ?_ GE122.out | refine below_set ?_ GE124.out) | exact HB.out)) hb); clear BK122; clear BK124; clear HB; have BK122 := n0_; have BK124 := n1_; have HB := n2_; clear n0_ n1_ n2_; (try clear hb); (try clear hb2); (try clear hk); (try clear hi)))
                          go_roundg kj7
                          case measure => have := HK1.out; have := HJ7.out; omega
                          case rel => exact ⟨(wrap64 (x12_1 + 1)), (by first | rfl | (simp; done) | (simp [*]; done)), H', ⟨by have := HK1.out; have := HJ7.out; omega⟩, ⟨by (with_reducible repeat (first | refine blk_drewN ?_ _ | refine blk_drew ?_ | refine blk_alloc ?_ _)); exact BK122.out⟩, ⟨by repeat (first | (with_reducible first | exact HB.out | apply below_alloc | apply pw_below_drewN | apply below_drew1 | refine below_set ?_ GE122.out | refine below_set ?_ GE124.out) | exact HB.out)⟩⟩
                        · replace c100 := Bool.eq_false_iff.mpr c100
                          subst c100
                          have H1 : (some false) = some r := by rw [if_neg (show ¬ (false = true) by decide)] at H; exact H
                          clear H
                          have H := H1
                          clear H1
                          obtain rfl := Option.some.inj H
                          have hnb108 := NB124_122.out
                          have hnc108 := NB122_124.out
                          have hcz109_0 : wc.cell? ⟨gb124, 0, none⟩ = some (.int .i64 ((rd_T59 l1 x12_1).f0)) := (blk_cell BK124.out 0).trans rfl
                          have hcz109_1 : wc.cell? ⟨gb124, 1, none⟩ = some (.int .i64 ((rd_T59 l1 x12_1).f1)) := (blk_cell BK124.out 1).trans rfl
                          have hcz109_2 : wc.cell? ⟨gb124, 2, none⟩ = some (.int .i64 ((rd_T59 l1 x12_1).f2.f0)) := (blk_cell BK124.out 2).trans rfl
                          have hcz109_3 : wc.cell? ⟨gb124, 3, none⟩ = some (.int .i64 ((rd_T59 l1 x12_1).f2.f1)) := (blk_cell BK124.out 3).trans rfl
                          have hcz109_4 : wc.cell? ⟨gb124, 4, none⟩ = some (.int .i64 ((rd_T59 l1 x12_1).f2.f2)) := (blk_cell BK124.out 4).trans rfl
                          have hcz109_5 : wc.cell? ⟨gb124, 5, none⟩ = some (.int .i64 ((rd_T59 l1 x12_1).f3)) := (blk_cell BK124.out 5).trans rfl
                          have hcz109_6 : wc.cell? ⟨gb124, 6, none⟩ = some (.slice A123_6 ((rd_T59 l1 x12_1).f4).length c123_6) := (blk_cell BK124.out 6).trans rfl
                          have hcz109_7 : wc.cell? ⟨gb124, 7, none⟩ = some (.slice A123_7 ((rd_T59 l1 x12_1).f5).length c123_7) := (blk_cell BK124.out 7).trans rfl
                          have hfz109_0 := blk_frozen BK124.out 0
                          have hfz109_1 := blk_frozen BK124.out 1
                          have hfz109_2 := blk_frozen BK124.out 2
                          have hfz109_3 := blk_frozen BK124.out 3
                          have hfz109_4 := blk_frozen BK124.out 4
                          have hfz109_5 := blk_frozen BK124.out 5
                          have hfz109_6 := blk_frozen BK124.out 6
                          have hfz109_7 := blk_frozen BK124.out 7
                          have hcz110_0 : wc.cell? ⟨gb122, 0, none⟩ = some (.slice A0_0 l0_0.length c0_0) := (blk_cell BK122.out 0).trans rfl
                          have hcz110_1 : wc.cell? ⟨gb122, 1, none⟩ = some (.slice A0_1 l0_1.length c0_1) := (blk_cell BK122.out 1).trans rfl
                          have hfz110_0 := blk_frozen BK122.out 0
                          have hfz110_1 := blk_frozen BK122.out 1
                          go_wp2_with (first | ((with_reducible refine gate_callee (f := 90) rfl ?_); refine goesL_ (some 76) rfl rfl Try.func90 (by kernel_rfl) rfl #[.agg #[.slice A0_0 l0_0.length c0_0, .slice A0_1 l0_1.length c0_1], .slice A123_6 ((rd_T59 l1 x12_1).f4).length c123_6, .int .i64 (wrap64 (a2 - 1))] rfl (by (try simp only [List.map_toArray, List.map_cons, List.map_nil]); first | done | rfl | (simp only [List.length_drop, List.length_take]; rfl)) ?_; (with_reducible refine (ih kj7 (by have := HK1.out; have := HJ7.out; omega) _ _ l0_0 _ _ l0_1 _ _ ((rd_T59 l1 x12_1).f4) (wrap64 (a2 - 1)) true _ ?side1 ?side2 ?side3 ?side4 ?side5 ?side6 A97.out).mono ?_); (case side1 => repeat (first | exact (Kd.C_below HR0_0.out HB.out) | (with_reducible refine Kd.C_alloc ?_ _) | (with_reducible refine Kd.C_drewN ?_ _) | (with_reducible refine Kd.C_drew ?_))); (case side2 => exact HC0_0.out); (case side3 => repeat (first | exact (Kd.C_below HR0_1.out HB.out) | (with_reducible refine Kd.C_alloc ?_ _) | (with_reducible refine Kd.C_drewN ?_ _) | (with_reducible refine Kd.C_drew ?_))); (case side4 => exact HC0_1.out); (case side5 => repeat (first | exact (Kd.C_below HR123_6.out HB.out) | (with_reducible refine Kd.C_alloc ?_ _) | (with_reducible refine Kd.C_drewN ?_ _) | (with_reducible refine Kd.C_drew ?_))); (case side6 => exact HC123_6.out); rintro e w111 ⟨rfl, hb⟩; refine ⟨_, rfl, ?_⟩; have n0_ := Aside0.mk (blk_below (g := gb122) (o := .cells #[.slice A0_0 l0_0.length c0_0, .slice A0_1 l0_1.length c0_1] 26 (0, 0)) (by (with_reducible repeat (first | refine blk_drewN ?_ _ | refine blk_drew ?_ | refine blk_alloc ?_ _)); exact BK122.out) hb); have n1_ := Aside0.mk (blk_below (g := gb124) (o := .cells #[.int .i64 ((rd_T59 l1 x12_1).f0), .int .i64 ((rd_T59 l1 x12_1).f1), .int .i64 ((rd_T59 l1 x12_1).f2.f0), .int .i64 ((rd_T59 l1 x12_1).f2.f1), .int .i64 ((rd_T59 l1 x12_1).f2.f2), .int .i64 ((rd_T59 l1 x12_1).f3), .slice A123_6 ((rd_T59 l1 x12_1).f4).length c123_6, .slice A123_7 ((rd_T59 l1 x12_1).f5).length c123_7] 59 (0, 0)) (by (with_reducible repeat (first | refine blk_drewN ?_ _ | refine blk_drew ?_ | refine blk_alloc ?_ _)); exact BK124.out) hb); have n2_ := Aside0.mk (below_step (by repeat (first | (with_reducible first | exact HB.out | apply below_alloc | apply pw_below_drewN | apply below_drew1 | refine below_set ?_ GE122.out | refine below_set ?_ GE124.out) | exact HB.out)) hb); clear BK122; clear BK124; clear HB; have BK122 := n0_; have BK124 := n1_; have HB := n2_; clear n0_ n1_ n2_; (try clear hb); (try clear hb2); (try clear hk); (try clear hi); have hcz112_0 : w111.cell? ⟨gb122, 0, none⟩ = some (.slice A0_0 l0_0.length c0_0) := (blk_cell BK122.out 0).trans rfl; have hcz112_1 : w111.cell? ⟨gb122, 1, none⟩ = some (.slice A0_1 l0_1.length c0_1) := (blk_cell BK122.out 1).trans rfl; have hfz112_0 := blk_frozen BK122.out 0; have hfz112_1 := blk_frozen BK122.out 1; have hcz113_0 : w111.cell? ⟨gb124, 0, none⟩ = some (.int .i64 ((rd_T59 l1 x12_1).f0)) := (blk_cell BK124.out 0).trans rfl; have hcz113_1 : w111.cell? ⟨gb124, 1, none⟩ = some (.int .i64 ((rd_T59 l1 x12_1).f1)) := (blk_cell BK124.out 1).trans rfl; have hcz113_2 : w111.cell? ⟨gb124, 2, none⟩ = some (.int .i64 ((rd_T59 l1 x12_1).f2.f0)) := (blk_cell BK124.out 2).trans rfl; have hcz113_3 : w111.cell? ⟨gb124, 3, none⟩ = some (.int .i64 ((rd_T59 l1 x12_1).f2.f1)) := (blk_cell BK124.out 3).trans rfl; have hcz113_4 : w111.cell? ⟨gb124, 4, none⟩ = some (.int .i64 ((rd_T59 l1 x12_1).f2.f2)) := (blk_cell BK124.out 4).trans rfl; have hcz113_5 : w111.cell? ⟨gb124, 5, none⟩ = some (.int .i64 ((rd_T59 l1 x12_1).f3)) := (blk_cell BK124.out 5).trans rfl; have hcz113_6 : w111.cell? ⟨gb124, 6, none⟩ = some (.slice A123_6 ((rd_T59 l1 x12_1).f4).length c123_6) := (blk_cell BK124.out 6).trans rfl; have hcz113_7 : w111.cell? ⟨gb124, 7, none⟩ = some (.slice A123_7 ((rd_T59 l1 x12_1).f5).length c123_7) := (blk_cell BK124.out 7).trans rfl; have hfz113_0 := blk_frozen BK124.out 0; have hfz113_1 := blk_frozen BK124.out 1; have hfz113_2 := blk_frozen BK124.out 2; have hfz113_3 := blk_frozen BK124.out 3; have hfz113_4 := blk_frozen BK124.out 4; have hfz113_5 := blk_frozen BK124.out 5; have hfz113_6 := blk_frozen BK124.out 6; have hfz113_7 := blk_frozen BK124.out 7) | (go_at_call 90; (with_reducible refine (ih kj7 (by have := HK1.out; have := HJ7.out; omega) _ _ l0_0 _ _ l0_1 _ _ ((rd_T59 l1 x12_1).f5) (wrap64 (a2 - 1)) false _ ?side1 ?side2 ?side3 ?side4 ?side5 ?side6 A99.out).mono ?_); (case side1 => repeat (first | exact (Kd.C_below HR0_0.out HB.out) | (with_reducible refine Kd.C_alloc ?_ _) | (with_reducible refine Kd.C_drewN ?_ _) | (with_reducible refine Kd.C_drew ?_))); (case side2 => exact HC0_0.out); (case side3 => repeat (first | exact (Kd.C_below HR0_1.out HB.out) | (with_reducible refine Kd.C_alloc ?_ _) | (with_reducible refine Kd.C_drewN ?_ _) | (with_reducible refine Kd.C_drew ?_))); (case side4 => exact HC0_1.out); (case side5 => repeat (first | exact (Kd.C_below HR123_7.out HB.out) | (with_reducible refine Kd.C_alloc ?_ _) | (with_reducible refine Kd.C_drewN ?_ _) | (with_reducible refine Kd.C_drew ?_))); (case side6 => exact HC123_7.out); rintro e w114 ⟨rfl, hb⟩; have n0_ := Aside0.mk (blk_below (g := gb122) (o := .cells #[.slice A0_0 l0_0.length c0_0, .slice A0_1 l0_1.length c0_1] 26 (0, 0)) (by (with_reducible repeat (first | refine blk_drewN ?_ _ | refine blk_drew ?_ | refine blk_alloc ?_ _)); exact BK122.out) hb); have n1_ := Aside0.mk (blk_below (g := gb124) (o := .cells #[.int .i64 ((rd_T59 l1 x12_1).f0), .int .i64 ((rd_T59 l1 x12_1).f1), .int .i64 ((rd_T59 l1 x12_1).f2.f0), .int .i64 ((rd_T59 l1 x12_1).f2.f1), .int .i64 ((rd_T59 l1 x12_1).f2.f2), .int .i64 ((rd_T59 l1 x12_1).f3), .slice A123_6 ((rd_T59 l1 x12_1).f4).length c123_6, .slice A123_7 ((rd_T59 l1 x12_1).f5).length c123_7] 59 (0, 0)) (by (with_reducible repeat (first | refine blk_drewN ?_ _ | refine blk_drew ?_ | refine blk_alloc ?_ _)); exact BK124.out) hb); have n2_ := Aside0.mk (below_step (by repeat (first | (with_reducible first | exact HB.out | apply below_alloc | apply pw_below_drewN | apply below_drew1 | refine below_set ?_ GE122.out | refine below_set ?_ GE124.out) | exact HB.out)) hb); clear BK122; clear BK124; clear HB; have BK122 := n0_; have BK124 := n1_; have HB := n2_; clear n0_ n1_ n2_; (try clear hb); (try clear hb2); (try clear hk); (try clear hi)))
                          go_ret
                          exact ⟨by first | rfl | (simp [errW_none, errW_some] <;> rfl) | (simp [*, errW_none, errW_some] <;> rfl), by repeat (first | (with_reducible first | exact HB.out | apply below_alloc | apply pw_below_drewN | apply below_drew1 | refine below_set ?_ GE122.out | refine below_set ?_ GE124.out) | exact HB.out)⟩
                      · replace c98 := Bool.eq_false_iff.mpr c98
                        subst c98
                        have H1 : (some false) = some r := by rw [if_neg (show ¬ (false = true) by decide)] at H; exact H
                        clear H
                        have H := H1
                        clear H1
                        obtain rfl := Option.some.inj H
                        have hnb115 := NB124_122.out
                        have hnc115 := NB122_124.out
                        have hcz116_0 : wc.cell? ⟨gb124, 0, none⟩ = some (.int .i64 ((rd_T59 l1 x12_1).f0)) := (blk_cell BK124.out 0).trans rfl
                        have hcz116_1 : wc.cell? ⟨gb124, 1, none⟩ = some (.int .i64 ((rd_T59 l1 x12_1).f1)) := (blk_cell BK124.out 1).trans rfl
                        have hcz116_2 : wc.cell? ⟨gb124, 2, none⟩ = some (.int .i64 ((rd_T59 l1 x12_1).f2.f0)) := (blk_cell BK124.out 2).trans rfl
                        have hcz116_3 : wc.cell? ⟨gb124, 3, none⟩ = some (.int .i64 ((rd_T59 l1 x12_1).f2.f1)) := (blk_cell BK124.out 3).trans rfl
                        have hcz116_4 : wc.cell? ⟨gb124, 4, none⟩ = some (.int .i64 ((rd_T59 l1 x12_1).f2.f2)) := (blk_cell BK124.out 4).trans rfl
                        have hcz116_5 : wc.cell? ⟨gb124, 5, none⟩ = some (.int .i64 ((rd_T59 l1 x12_1).f3)) := (blk_cell BK124.out 5).trans rfl
                        have hcz116_6 : wc.cell? ⟨gb124, 6, none⟩ = some (.slice A123_6 ((rd_T59 l1 x12_1).f4).length c123_6) := (blk_cell BK124.out 6).trans rfl
                        have hcz116_7 : wc.cell? ⟨gb124, 7, none⟩ = some (.slice A123_7 ((rd_T59 l1 x12_1).f5).length c123_7) := (blk_cell BK124.out 7).trans rfl
                        have hfz116_0 := blk_frozen BK124.out 0
                        have hfz116_1 := blk_frozen BK124.out 1
                        have hfz116_2 := blk_frozen BK124.out 2
                        have hfz116_3 := blk_frozen BK124.out 3
                        have hfz116_4 := blk_frozen BK124.out 4
                        have hfz116_5 := blk_frozen BK124.out 5
                        have hfz116_6 := blk_frozen BK124.out 6
                        have hfz116_7 := blk_frozen BK124.out 7
                        have hcz117_0 : wc.cell? ⟨gb122, 0, none⟩ = some (.slice A0_0 l0_0.length c0_0) := (blk_cell BK122.out 0).trans rfl
                        have hcz117_1 : wc.cell? ⟨gb122, 1, none⟩ = some (.slice A0_1 l0_1.length c0_1) := (blk_cell BK122.out 1).trans rfl
                        have hfz117_0 := blk_frozen BK122.out 0
                        have hfz117_1 := blk_frozen BK122.out 1
                        go_wp2_with (first | ((with_reducible refine gate_callee (f := 90) rfl ?_); refine goesL_ (some 76) rfl rfl Try.func90 (by kernel_rfl) rfl #[.agg #[.slice A0_0 l0_0.length c0_0, .slice A0_1 l0_1.length c0_1], .slice A123_6 ((rd_T59 l1 x12_1).f4).length c123_6, .int .i64 (wrap64 (a2 - 1))] rfl (by (try simp only [List.map_toArray, List.map_cons, List.map_nil]); first | done | rfl | (simp only [List.length_drop, List.length_take]; rfl)) ?_; (with_reducible refine (ih kj7 (by have := HK1.out; have := HJ7.out; omega) _ _ l0_0 _ _ l0_1 _ _ ((rd_T59 l1 x12_1).f4) (wrap64 (a2 - 1)) false _ ?side1 ?side2 ?side3 ?side4 ?side5 ?side6 A97.out).mono ?_); (case side1 => repeat (first | exact (Kd.C_below HR0_0.out HB.out) | (with_reducible refine Kd.C_alloc ?_ _) | (with_reducible refine Kd.C_drewN ?_ _) | (with_reducible refine Kd.C_drew ?_))); (case side2 => exact HC0_0.out); (case side3 => repeat (first | exact (Kd.C_below HR0_1.out HB.out) | (with_reducible refine Kd.C_alloc ?_ _) | (with_reducible refine Kd.C_drewN ?_ _) | (with_reducible refine Kd.C_drew ?_))); (case side4 => exact HC0_1.out); (case side5 => repeat (first | exact (Kd.C_below HR123_6.out HB.out) | (with_reducible refine Kd.C_alloc ?_ _) | (with_reducible refine Kd.C_drewN ?_ _) | (with_reducible refine Kd.C_drew ?_))); (case side6 => exact HC123_6.out); rintro e w118 ⟨rfl, hb⟩; refine ⟨_, rfl, ?_⟩; have n0_ := Aside0.mk (blk_below (g := gb122) (o := .cells #[.slice A0_0 l0_0.length c0_0, .slice A0_1 l0_1.length c0_1] 26 (0, 0)) (by (with_reducible repeat (first | refine blk_drewN ?_ _ | refine blk_drew ?_ | refine blk_alloc ?_ _)); exact BK122.out) hb); have n1_ := Aside0.mk (blk_below (g := gb124) (o := .cells #[.int .i64 ((rd_T59 l1 x12_1).f0), .int .i64 ((rd_T59 l1 x12_1).f1), .int .i64 ((rd_T59 l1 x12_1).f2.f0), .int .i64 ((rd_T59 l1 x12_1).f2.f1), .int .i64 ((rd_T59 l1 x12_1).f2.f2), .int .i64 ((rd_T59 l1 x12_1).f3), .slice A123_6 ((rd_T59 l1 x12_1).f4).length c123_6, .slice A123_7 ((rd_T59 l1 x12_1).f5).length c123_7] 59 (0, 0)) (by (with_reducible repeat (first | refine blk_drewN ?_ _ | refine blk_drew ?_ | refine blk_alloc ?_ _)); exact BK124.out) hb); have n2_ := Aside0.mk (below_step (by repeat (first | (with_reducible first | exact HB.out | apply below_alloc | apply pw_below_drewN | apply below_drew1 | refine below_set ?_ GE122.out | refine below_set ?_ GE124.out) | exact HB.out)) hb); clear BK122; clear BK124; clear HB; have BK122 := n0_; have BK124 := n1_; have HB := n2_; clear n0_ n1_ n2_; (try clear hb); (try clear hb2); (try clear hk); (try clear hi)))
                        go_ret
                        exact ⟨by first | rfl | (simp [errW_none, errW_some] <;> rfl) | (simp [*, errW_none, errW_some] <;> rfl), by repeat (first | (with_reducible first | exact HB.out | apply below_alloc | apply pw_below_drewN | apply below_drew1 | refine below_set ?_ GE122.out | refine below_set ?_ GE124.out) | exact HB.out)⟩
                    · rw [if_neg c96] at H
                      have c96b0 : (((rd_T59 l1 x12_1).f0) == 2) = false := beq_eq_false_iff_ne.mpr c96
                      have c96b1 : (((rd_T59 l1 x12_1).f0) != 2) = true := bne_iff_ne.mpr c96
                      by_cases c119 : ((rd_T59 l1 x12_1).f0) = 3
                      · rw [if_pos c119] at H
                        have c119b0 : (((rd_T59 l1 x12_1).f0) == 3) = true := beq_iff_eq.mpr c119
                        have c119b1 : (((rd_T59 l1 x12_1).f0) != 3) = false := bne_eq_false_iff_eq.mpr c119
                        clear c119
                        replace H := Option.bind_eq_some_iff.mp H
                        obtain ⟨t129, A1200, H⟩ := H
                        replace H : (if t129 = true then (impl_Prog_stepsOk.l0 kj7 a2 l1 (l1.length : Int) (wrap64 (x12_1 + 1)) l0_0 l0_1) else (some false)) = some r := H
                        have A120 := Aside0.mk A1200
                        clear A1200
                        by_cases c121 : t129 = true
                        · subst c121
                          have H1 : (impl_Prog_stepsOk.l0 kj7 a2 l1 (l1.length : Int) (wrap64 (x12_1 + 1)) l0_0 l0_1) = some r := by rw [if_pos rfl] at H; exact H
                          clear H
                          have H := H1
                          clear H1
                          have H' := Aside0.mk H
                          clear H
                          have hnb122 := NB124_122.out
                          have hnc122 := NB122_124.out
                          have hcz123_0 : wc.cell? ⟨gb124, 0, none⟩ = some (.int .i64 ((rd_T59 l1 x12_1).f0)) := (blk_cell BK124.out 0).trans rfl
                          have hcz123_1 : wc.cell? ⟨gb124, 1, none⟩ = some (.int .i64 ((rd_T59 l1 x12_1).f1)) := (blk_cell BK124.out 1).trans rfl
                          have hcz123_2 : wc.cell? ⟨gb124, 2, none⟩ = some (.int .i64 ((rd_T59 l1 x12_1).f2.f0)) := (blk_cell BK124.out 2).trans rfl
                          have hcz123_3 : wc.cell? ⟨gb124, 3, none⟩ = some (.int .i64 ((rd_T59 l1 x12_1).f2.f1)) := (blk_cell BK124.out 3).trans rfl
                          have hcz123_4 : wc.cell? ⟨gb124, 4, none⟩ = some (.int .i64 ((rd_T59 l1 x12_1).f2.f2)) := (blk_cell BK124.out 4).trans rfl
                          have hcz123_5 : wc.cell? ⟨gb124, 5, none⟩ = some (.int .i64 ((rd_T59 l1 x12_1).f3)) := (blk_cell BK124.out 5).trans rfl
                          have hcz123_6 : wc.cell? ⟨gb124, 6, none⟩ = some (.slice A123_6 ((rd_T59 l1 x12_1).f4).length c123_6) := (blk_cell BK124.out 6).trans rfl
                          have hcz123_7 : wc.cell? ⟨gb124, 7, none⟩ = some (.slice A123_7 ((rd_T59 l1 x12_1).f5).length c123_7) := (blk_cell BK124.out 7).trans rfl
                          have hfz123_0 := blk_frozen BK124.out 0
                          have hfz123_1 := blk_frozen BK124.out 1
                          have hfz123_2 := blk_frozen BK124.out 2
                          have hfz123_3 := blk_frozen BK124.out 3
                          have hfz123_4 := blk_frozen BK124.out 4
                          have hfz123_5 := blk_frozen BK124.out 5
                          have hfz123_6 := blk_frozen BK124.out 6
                          have hfz123_7 := blk_frozen BK124.out 7
                          go_wp2_with (first | ((with_reducible refine gate_callee (f := 128) rfl ?_); refine goesL_ (some 89) rfl rfl Try.func128 (by kernel_rfl) rfl #[.int .i64 ((rd_T59 l1 x12_1).f3)] rfl (by (try simp only [List.map_toArray, List.map_cons, List.map_nil]); first | done | rfl | (simp only [List.length_drop, List.length_take]; rfl)) ?_; (with_reducible refine (impl_isHost.calls ((rd_T59 l1 x12_1).f3) true _ A120.out).mono ?_); rintro e w' ⟨rfl, ⟨nd, rfl⟩⟩; refine ⟨_, rfl, ?_⟩))
                          go_roundg kj7
                          case measure => have := HK1.out; have := HJ7.out; omega
                          case rel => exact ⟨(wrap64 (x12_1 + 1)), (by first | rfl | (simp; done) | (simp [*]; done)), H', ⟨by have := HK1.out; have := HJ7.out; omega⟩, ⟨by (with_reducible repeat (first | refine blk_drewN ?_ _ | refine blk_drew ?_ | refine blk_alloc ?_ _)); exact BK122.out⟩, ⟨by repeat (first | (with_reducible first | exact HB.out | apply below_alloc | apply pw_below_drewN | apply below_drew1 | refine below_set ?_ GE122.out | refine below_set ?_ GE124.out) | exact HB.out)⟩⟩
                        · replace c121 := Bool.eq_false_iff.mpr c121
                          subst c121
                          have H1 : (some false) = some r := by rw [if_neg (show ¬ (false = true) by decide)] at H; exact H
                          clear H
                          have H := H1
                          clear H1
                          obtain rfl := Option.some.inj H
                          have hnb124 := NB124_122.out
                          have hnc124 := NB122_124.out
                          have hcz125_0 : wc.cell? ⟨gb124, 0, none⟩ = some (.int .i64 ((rd_T59 l1 x12_1).f0)) := (blk_cell BK124.out 0).trans rfl
                          have hcz125_1 : wc.cell? ⟨gb124, 1, none⟩ = some (.int .i64 ((rd_T59 l1 x12_1).f1)) := (blk_cell BK124.out 1).trans rfl
                          have hcz125_2 : wc.cell? ⟨gb124, 2, none⟩ = some (.int .i64 ((rd_T59 l1 x12_1).f2.f0)) := (blk_cell BK124.out 2).trans rfl
                          have hcz125_3 : wc.cell? ⟨gb124, 3, none⟩ = some (.int .i64 ((rd_T59 l1 x12_1).f2.f1)) := (blk_cell BK124.out 3).trans rfl
                          have hcz125_4 : wc.cell? ⟨gb124, 4, none⟩ = some (.int .i64 ((rd_T59 l1 x12_1).f2.f2)) := (blk_cell BK124.out 4).trans rfl
                          have hcz125_5 : wc.cell? ⟨gb124, 5, none⟩ = some (.int .i64 ((rd_T59 l1 x12_1).f3)) := (blk_cell BK124.out 5).trans rfl
                          have hcz125_6 : wc.cell? ⟨gb124, 6, none⟩ = some (.slice A123_6 ((rd_T59 l1 x12_1).f4).length c123_6) := (blk_cell BK124.out 6).trans rfl
                          have hcz125_7 : wc.cell? ⟨gb124, 7, none⟩ = some (.slice A123_7 ((rd_T59 l1 x12_1).f5).length c123_7) := (blk_cell BK124.out 7).trans rfl
                          have hfz125_0 := blk_frozen BK124.out 0
                          have hfz125_1 := blk_frozen BK124.out 1
                          have hfz125_2 := blk_frozen BK124.out 2
                          have hfz125_3 := blk_frozen BK124.out 3
                          have hfz125_4 := blk_frozen BK124.out 4
                          have hfz125_5 := blk_frozen BK124.out 5
                          have hfz125_6 := blk_frozen BK124.out 6
                          have hfz125_7 := blk_frozen BK124.out 7
                          go_wp2_with (first | ((with_reducible refine gate_callee (f := 128) rfl ?_); refine goesL_ (some 89) rfl rfl Try.func128 (by kernel_rfl) rfl #[.int .i64 ((rd_T59 l1 x12_1).f3)] rfl (by (try simp only [List.map_toArray, List.map_cons, List.map_nil]); first | done | rfl | (simp only [List.length_drop, List.length_take]; rfl)) ?_; (with_reducible refine (impl_isHost.calls ((rd_T59 l1 x12_1).f3) false _ A120.out).mono ?_); rintro e w' ⟨rfl, ⟨nd, rfl⟩⟩; refine ⟨_, rfl, ?_⟩))
                          go_ret
                          exact ⟨by first | rfl | (simp [errW_none, errW_some] <;> rfl) | (simp [*, errW_none, errW_some] <;> rfl), by repeat (first | (with_reducible first | exact HB.out | apply below_alloc | apply pw_below_drewN | apply below_drew1 | refine below_set ?_ GE122.out | refine below_set ?_ GE124.out) | exact HB.out)⟩
                      · rw [if_neg c119] at H
                        have c119b0 : (((rd_T59 l1 x12_1).f0) == 3) = false := beq_eq_false_iff_ne.mpr c119
                        have c119b1 : (((rd_T59 l1 x12_1).f0) != 3) = true := bne_iff_ne.mpr c119
                        obtain rfl := Option.some.inj H
                        have hnb126 := NB124_122.out
                        have hnc126 := NB122_124.out
                        have hcz127_0 : wc.cell? ⟨gb124, 0, none⟩ = some (.int .i64 ((rd_T59 l1 x12_1).f0)) := (blk_cell BK124.out 0).trans rfl
                        have hcz127_1 : wc.cell? ⟨gb124, 1, none⟩ = some (.int .i64 ((rd_T59 l1 x12_1).f1)) := (blk_cell BK124.out 1).trans rfl
                        have hcz127_2 : wc.cell? ⟨gb124, 2, none⟩ = some (.int .i64 ((rd_T59 l1 x12_1).f2.f0)) := (blk_cell BK124.out 2).trans rfl
                        have hcz127_3 : wc.cell? ⟨gb124, 3, none⟩ = some (.int .i64 ((rd_T59 l1 x12_1).f2.f1)) := (blk_cell BK124.out 3).trans rfl
                        have hcz127_4 : wc.cell? ⟨gb124, 4, none⟩ = some (.int .i64 ((rd_T59 l1 x12_1).f2.f2)) := (blk_cell BK124.out 4).trans rfl
                        have hcz127_5 : wc.cell? ⟨gb124, 5, none⟩ = some (.int .i64 ((rd_T59 l1 x12_1).f3)) := (blk_cell BK124.out 5).trans rfl
                        have hcz127_6 : wc.cell? ⟨gb124, 6, none⟩ = some (.slice A123_6 ((rd_T59 l1 x12_1).f4).length c123_6) := (blk_cell BK124.out 6).trans rfl
                        have hcz127_7 : wc.cell? ⟨gb124, 7, none⟩ = some (.slice A123_7 ((rd_T59 l1 x12_1).f5).length c123_7) := (blk_cell BK124.out 7).trans rfl
                        have hfz127_0 := blk_frozen BK124.out 0
                        have hfz127_1 := blk_frozen BK124.out 1
                        have hfz127_2 := blk_frozen BK124.out 2
                        have hfz127_3 := blk_frozen BK124.out 3
                        have hfz127_4 := blk_frozen BK124.out 4
                        have hfz127_5 := blk_frozen BK124.out 5
                        have hfz127_6 := blk_frozen BK124.out 6
                        have hfz127_7 := blk_frozen BK124.out 7
                        go_wp2
                        go_ret
                        exact ⟨by first | rfl | (simp [errW_none, errW_some] <;> rfl) | (simp [*, errW_none, errW_some] <;> rfl), by repeat (first | (with_reducible first | exact HB.out | apply below_alloc | apply pw_below_drewN | apply below_drew1 | refine below_set ?_ GE122.out | refine below_set ?_ GE124.out) | exact HB.out)⟩
          · rw [if_neg c7] at H
            exact absurd H (by simp)
        · rw [if_neg c6] at H
          exact absurd H (by simp)
      · rw [if_neg c5] at H
        have c5b0 : decide (x12_1 < (l1.length : Int)) = false := decide_eq_false c5
        clear c5
        obtain rfl := Option.some.inj H
        go_wp2
        go_ret
        exact ⟨by first | rfl | (simp [errW_none, errW_some] <;> rfl) | (simp [*, errW_none, errW_some] <;> rfl), by repeat (first | (with_reducible first | exact HB.out | apply below_alloc | apply pw_below_drewN | apply below_drew1 | refine below_set ?_ GE122.out) | exact HB.out)⟩

end Go.Proofs.Ytcffnnedghgmaaa.A
