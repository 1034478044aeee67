/- What Go functions compute, as Lean functions, and for each its contract: for every input at which the Lean function answers the call returns that; written by wip/tools/pr.py over the kit's print. -/
import Derived.Test.YtcffnnedghgmaaaAx0
import Derived.Test.YtcffnnedghgmaaaAx1
import Derived.Test.YtcffnnedghgmaaaAx14
import Derived.Test.YtcffnnedghgmaaaAx15
namespace Go.Proofs.Ytcffnnedghgmaaa.A
open Go.RowKit Go.Proofs.YtcffnnedghgmaaaW.PrintWords Go.Proofs.YtcffnnedghgmaaaW.PrintLast Go.Proofs.YtcffnnedghgmaaaW.PrintMore
attribute [local go_sem] max2_int min2_int max_two min_two max_three min_three max_four min_four   -- for this text's walks alone
set_option linter.unusedVariables false
set_option linter.unusedSimpArgs false

attribute [local go_sem high] eqA57
/-! ### impl_Prog_stepsOk: function 90 -/
mutual
def impl_Prog_stepsOk.l0 : Nat → Int → List (S59) → Int → Int → List (S35) → List (S59) → Option (Bool)
 | 0, _, _, _, _, _, _ => none
 | k + 1, x2, x10, x11, x12, x359000, x359001 => if x12 < x11 then (if 0 ≤ x12 then (if x12 < (x10.length : Int) then (if x2 < 1 then (impl_Prog_stepsOk.j1 k x2 x10 x11 x12 true x359000 x359001 ((rd_T59 x10 x12).f0) ((rd_T59 x10 x12).f1) ((rd_T59 x10 x12).f2.f0) ((rd_T59 x10 x12).f2.f1) ((rd_T59 x10 x12).f2.f2) ((rd_T59 x10 x12).f3) ((rd_T59 x10 x12).f4) ((rd_T59 x10 x12).f5)) else ((impl_Prog_isVar.f x359000 x359001 ((rd_T59 x10 x12).f1)).bind fun t361 => (if t361 = true then (if ((rd_T59 x10 x12).f0) = 1 then (if ((rd_T59 x10 x12).f0) = 3 then (if ((rd_T59 x10 x12).f0) = 2 then (impl_Prog_stepsOk.j1 k x2 x10 x11 x12 false x359000 x359001 ((rd_T59 x10 x12).f0) ((rd_T59 x10 x12).f1) ((rd_T59 x10 x12).f2.f0) ((rd_T59 x10 x12).f2.f1) ((rd_T59 x10 x12).f2.f2) ((rd_T59 x10 x12).f3) ((rd_T59 x10 x12).f4) ((rd_T59 x10 x12).f5)) else (impl_Prog_stepsOk.j1 k x2 x10 x11 x12 (decide ((wrap64 ((((rd_T59 x10 x12).f4).length : Int) + (((rd_T59 x10 x12).f5).length : Int))) > 0)) x359000 x359001 ((rd_T59 x10 x12).f0) ((rd_T59 x10 x12).f1) ((rd_T59 x10 x12).f2.f0) ((rd_T59 x10 x12).f2.f1) ((rd_T59 x10 x12).f2.f2) ((rd_T59 x10 x12).f3) ((rd_T59 x10 x12).f4) ((rd_T59 x10 x12).f5))) else (if ((rd_T59 x10 x12).f3) = 0 then (if ((rd_T59 x10 x12).f0) = 2 then (impl_Prog_stepsOk.j1 k x2 x10 x11 x12 false x359000 x359001 ((rd_T59 x10 x12).f0) ((rd_T59 x10 x12).f1) ((rd_T59 x10 x12).f2.f0) ((rd_T59 x10 x12).f2.f1) ((rd_T59 x10 x12).f2.f2) ((rd_T59 x10 x12).f3) ((rd_T59 x10 x12).f4) ((rd_T59 x10 x12).f5)) else (impl_Prog_stepsOk.j1 k x2 x10 x11 x12 (decide ((wrap64 ((((rd_T59 x10 x12).f4).length : Int) + (((rd_T59 x10 x12).f5).length : Int))) > 0)) x359000 x359001 ((rd_T59 x10 x12).f0) ((rd_T59 x10 x12).f1) ((rd_T59 x10 x12).f2.f0) ((rd_T59 x10 x12).f2.f1) ((rd_T59 x10 x12).f2.f2) ((rd_T59 x10 x12).f3) ((rd_T59 x10 x12).f4) ((rd_T59 x10 x12).f5))) else (impl_Prog_stepsOk.j1 k x2 x10 x11 x12 true x359000 x359001 ((rd_T59 x10 x12).f0) ((rd_T59 x10 x12).f1) ((rd_T59 x10 x12).f2.f0) ((rd_T59 x10 x12).f2.f1) ((rd_T59 x10 x12).f2.f2) ((rd_T59 x10 x12).f3) ((rd_T59 x10 x12).f4) ((rd_T59 x10 x12).f5)))) else (if (!(((rd_T59 x10 x12).f2.f0) == 0) || (!(((rd_T59 x10 x12).f2.f1) == 0) || (!(((rd_T59 x10 x12).f2.f2) == 0)))) = true then (impl_Prog_stepsOk.j1 k x2 x10 x11 x12 true x359000 x359001 ((rd_T59 x10 x12).f0) ((rd_T59 x10 x12).f1) ((rd_T59 x10 x12).f2.f0) ((rd_T59 x10 x12).f2.f1) ((rd_T59 x10 x12).f2.f2) ((rd_T59 x10 x12).f3) ((rd_T59 x10 x12).f4) ((rd_T59 x10 x12).f5)) else (if ((rd_T59 x10 x12).f0) = 3 then (if ((rd_T59 x10 x12).f0) = 2 then (impl_Prog_stepsOk.j1 k x2 x10 x11 x12 false x359000 x359001 ((rd_T59 x10 x12).f0) ((rd_T59 x10 x12).f1) ((rd_T59 x10 x12).f2.f0) ((rd_T59 x10 x12).f2.f1) ((rd_T59 x10 x12).f2.f2) ((rd_T59 x10 x12).f3) ((rd_T59 x10 x12).f4) ((rd_T59 x10 x12).f5)) else (impl_Prog_stepsOk.j1 k x2 x10 x11 x12 (decide ((wrap64 ((((rd_T59 x10 x12).f4).length : Int) + (((rd_T59 x10 x12).f5).length : Int))) > 0)) x359000 x359001 ((rd_T59 x10 x12).f0) ((rd_T59 x10 x12).f1) ((rd_T59 x10 x12).f2.f0) ((rd_T59 x10 x12).f2.f1) ((rd_T59 x10 x12).f2.f2) ((rd_T59 x10 x12).f3) ((rd_T59 x10 x12).f4) ((rd_T59 x10 x12).f5))) else (if ((rd_T59 x10 x12).f3) = 0 then (if ((rd_T59 x10 x12).f0) = 2 then (impl_Prog_stepsOk.j1 k x2 x10 x11 x12 false x359000 x359001 ((rd_T59 x10 x12).f0) ((rd_T59 x10 x12).f1) ((rd_T59 x10 x12).f2.f0) ((rd_T59 x10 x12).f2.f1) ((rd_T59 x10 x12).f2.f2) ((rd_T59 x10 x12).f3) ((rd_T59 x10 x12).f4) ((rd_T59 x10 x12).f5)) else (impl_Prog_stepsOk.j1 k x2 x10 x11 x12 (decide ((wrap64 ((((rd_T59 x10 x12).f4).length : Int) + (((rd_T59 x10 x12).f5).length : Int))) > 0)) x359000 x359001 ((rd_T59 x10 x12).f0) ((rd_T59 x10 x12).f1) ((rd_T59 x10 x12).f2.f0) ((rd_T59 x10 x12).f2.f1) ((rd_T59 x10 x12).f2.f2) ((rd_T59 x10 x12).f3) ((rd_T59 x10 x12).f4) ((rd_T59 x10 x12).f5))) else (impl_Prog_stepsOk.j1 k x2 x10 x11 x12 true x359000 x359001 ((rd_T59 x10 x12).f0) ((rd_T59 x10 x12).f1) ((rd_T59 x10 x12).f2.f0) ((rd_T59 x10 x12).f2.f1) ((rd_T59 x10 x12).f2.f2) ((rd_T59 x10 x12).f3) ((rd_T59 x10 x12).f4) ((rd_T59 x10 x12).f5)))))) else (impl_Prog_stepsOk.j1 k x2 x10 x11 x12 true x359000 x359001 ((rd_T59 x10 x12).f0) ((rd_T59 x10 x12).f1) ((rd_T59 x10 x12).f2.f0) ((rd_T59 x10 x12).f2.f1) ((rd_T59 x10 x12).f2.f2) ((rd_T59 x10 x12).f3) ((rd_T59 x10 x12).f4) ((rd_T59 x10 x12).f5))))) else (none)) else (none)) else (some true)
def impl_Prog_stepsOk.j1 : Nat → Int → List (S59) → Int → Int → Bool → List (S35) → List (S59) → Int → Int → Int → Int → Int → Int → List (S59) → List (S59) → Option (Bool)
 | 0, _, _, _, _, _, _, _, _, _, _, _, _, _, _, _ => none
 | k + 1, x2, x10, x11, x12, x60, x359000, x359001, x361000, x361001, x361002, x361003, x361004, x361005, x361006, x361007 => if x60 = true then (some false) else (if x361000 = 1 then ((impl_Prog_valOk.f x359000 x359001 x361002 x361003 x361004).bind fun t362 => (if t362 = true then (impl_Prog_stepsOk.l0 k x2 x10 x11 (wrap64 (x12 + 1)) x359000 x359001) else (some false))) else (if x361000 = 2 then ((impl_Prog_stepsOk.f k x359000 x359001 x361006 (wrap64 (x2 - 1))).bind fun t363 => (if t363 = true then ((impl_Prog_stepsOk.f k x359000 x359001 x361007 (wrap64 (x2 - 1))).bind fun t364 => (if t364 = true then (impl_Prog_stepsOk.l0 k x2 x10 x11 (wrap64 (x12 + 1)) x359000 x359001) else (some false))) else (some false))) else (if x361000 = 3 then ((impl_isHost.f x361005).bind fun t365 => (if t365 = true then (impl_Prog_stepsOk.l0 k x2 x10 x11 (wrap64 (x12 + 1)) x359000 x359001) else (some false))) else (some false))))
def impl_Prog_stepsOk.f : Nat → List (S35) → List (S59) → List (S59) → Int → Option (Bool)
 | 0, _, _, _, _ => none
 | k + 1, l0_0, l0_1, l1, a2 => impl_Prog_stepsOk.l0 k a2 l1 (l1.length : Int) 0 l0_0 l0_1
end
set_option maxHeartbeats 8000000 in
set_option maxRecDepth 100000 in
theorem impl_Prog_stepsOk.calls (k : Nat) : ∀ (A0_0 : Option Addr) (c0_0 : Nat) (l0_0 : List (S35)) (A0_1 : Option Addr) (c0_1 : Nat) (l0_1 : List (S59)) (A1 : Option Addr) (c1 : Nat) (l1 : List (S59)) (a2 : Int) (r : Bool) (w : World) (hr0_0 : Kd.C k35 w A0_0 l0_0.length l0_0) (hc0_0 : l0_0.length ≤ c0_0) (hr0_1 : Kd.C k59 w A0_1 l0_1.length l0_1) (hc0_1 : l0_1.length ≤ c0_1) (hr1 : Kd.C k59 w A1 l1.length l1) (hc1 : l1.length ≤ c1) (h : impl_Prog_stepsOk.f k l0_0 l0_1 l1 a2 = some r),
  Calls Try.prog 90 #[.agg #[.slice A0_0 l0_0.length c0_0, .slice A0_1 l0_1.length c0_1], .slice A1 l1.length c1, .int .i64 a2] w fun e w' => e = .returned (.bool r) ∧ Below w.heap.size w w' := by
 induction k using Nat.strongRecOn with
 | _ k ih =>
 intro A0_0 c0_0 l0_0 A0_1 c0_1 l0_1 A1 c1 l1 a2 r w hr0_0 hc0_0 hr0_1 hc0_1 hr1 hc1 h
 cases k with
 | zero => exact absurd h (by simp [impl_Prog_stepsOk.f])
 | succ k =>
 simp only [impl_Prog_stepsOk.f] at h
 have hu26 := Try.underlying26
 have hu59 := Try.underlying59
 have hu57 := Try.underlying57
 have HR0_0 := Aside0.mk hr0_0
 have HC0_0 := Aside0.mk hc0_0
 clear hr0_0 hc0_0
 have HR0_1 := Aside0.mk hr0_1
 have HC0_1 := Aside0.mk hc0_1
 clear hr0_1 hc0_1
 have HR1 := Aside0.mk hr1
 have HC1 := Aside0.mk hc1
 clear hr1 hc1
 have HB := Aside0.mk (Below.refl w.heap.size w)
 have H : (impl_Prog_stepsOk.l0 k a2 l1 (l1.length : Int) 0 l0_0 l0_1) = some r := h
 clear h
 have H' := Aside0.mk H
 clear H
 go_enter Try.func90, Try.ntmps90
 go_wp2_with (first | ((with_reducible refine gate_dst (N := 3) rfl ?_); refine ZX (N := 3) (cs := #[.slice A0_0 l0_0.length c0_0, .slice A0_1 l0_1.length c0_1]) (t := 26) ?_; intro gb358 hg w4 hbox hb; have BK358 := Aside0.mk (hbox); have GW358 : Aside0 (w.heap.size ≤ gb358) := ZS hg; have GE358 : Aside0 (w.heap.size ≤ gb358) := ZS hg; replace HB := ZT HB hb; clear hb hbox hg))
 go_loopg [12] k (fun kq v12 w' => ∃ (x12_1 : Int), v12 = .int .i64 x12_1 ∧ Aside0 (impl_Prog_stepsOk.l0 kq a2 l1 (l1.length : Int) x12_1 l0_0 l0_1 = some r) ∧ Aside0 (kq ≤ k) ∧ Aside0 (w'.heap[gb358]? = some (.cells #[(.slice A0_0 l0_0.length c0_0), (.slice A0_1 l0_1.length c0_1)] 26 (0, 0))) ∧ Aside0 (Below w.heap.size w w'))
 case atStart => exact ⟨(0), (by first | rfl | (simp; done) | (simp [*]; done)), H', ⟨Nat.le_refl _⟩, ⟨ZK BK358.out⟩, ⟨ZB⟩⟩
 case round =>
  clear H'
  try clear c1
  try clear p2
  obtain ⟨x12_1, rfl, HA, HK1, BK358, HB⟩ := hrel
  cases gk with
  | zero => exact absurd HA.out (by simp [impl_Prog_stepsOk.l0])
  | succ k1 =>
   have H := HA.out
   clear HA
   simp only [impl_Prog_stepsOk.l0] at H
   by_cases c5 : x12_1 < (l1.length : Int)
   ·rw [if_pos c5] at H
    have c5b0 : decide (x12_1 < (l1.length : Int)) = true := decide_eq_true c5
    clear c5
    by_cases c6 : 0 ≤ x12_1
    ·rw [if_pos c6] at H
     have c6b0 : decide (0 ≤ x12_1) = true := decide_eq_true c6
     clear c6
     by_cases c7 : x12_1 < (l1.length : Int)
     ·rw [if_pos c7] at H
      have c7b0 : decide (x12_1 < (l1.length : Int)) = true := decide_eq_true c7
      clear c7
      have HC8 := Aside0.mk H
      clear H
      have p359 : 0 ≤ (x12_1 : Int) := ZD
      have q359 : x12_1 < (l1.length : Int) := ZD
      obtain ⟨ad359, A359_6, c359_6, A359_7, c359_7, e359, hx359_0, hx359_1, hx359_2, hx359_3, hx359_4, hx359_5, hx359_6, hx359_7, hl359_6, hi359_6, hl359_7, hi359_7⟩ := at_T59 HR1.out x12_1 p359 q359
      cases e359
      replace hx359_0 := (HB.out.cell (World.block_lt_of_cell? w _ hx359_0)).trans hx359_0
      replace hx359_1 := (HB.out.cell (World.block_lt_of_cell? w _ hx359_1)).trans hx359_1
      replace hx359_2 := (HB.out.cell (World.block_lt_of_cell? w _ hx359_2)).trans hx359_2
      replace hx359_3 := (HB.out.cell (World.block_lt_of_cell? w _ hx359_3)).trans hx359_3
      replace hx359_4 := (HB.out.cell (World.block_lt_of_cell? w _ hx359_4)).trans hx359_4
      replace hx359_5 := (HB.out.cell (World.block_lt_of_cell? w _ hx359_5)).trans hx359_5
      replace hx359_6 := (HB.out.cell (World.block_lt_of_cell? w _ hx359_6)).trans hx359_6
      replace hx359_7 := (HB.out.cell (World.block_lt_of_cell? w _ hx359_7)).trans hx359_7
      have HR359_6 := Aside0.mk hi359_6
      have HC359_6 := Aside0.mk hl359_6
      clear hi359_6 hl359_6
      have HR359_7 := Aside0.mk hi359_7
      have HC359_7 := Aside0.mk hl359_7
      clear hi359_7 hl359_7
      replace p359 := eq_true p359
      replace q359 := eq_true q359
      go_upto_region 4 with (first | ((with_reducible refine gate_dst (N := 8) rfl ?_); refine ZX (N := 8) (cs := #[.int .i64 0, .int .i64 0, .int .i64 0, .int .i64 0, .int .i64 0, .int .i64 0, .slice none 0 0, .slice none 0 0]) (t := 59) ?_; intro gb360 hg w9 hbox hb; have BK360 := Aside0.mk (hbox); have GW360 : Aside0 (w.heap.size ≤ gb360) := ZS hg; have GE360 : Aside0 (w.heap.size ≤ gb360) := ZS hg; have NB358_360 : Aside0 (gb358 ≠ gb360) := ZN hg BK358; have NB360_358 : Aside0 (gb360 ≠ gb358) := ZM hg BK358; replace BK358 := ZW BK358 hb; replace HB := ZT HB hb; clear hb hbox hg; have hnb10 := NB360_358.out; have hnc10 := NB358_360.out; obtain ⟨hcz11_0, hcz11_1, hcz11_2, hcz11_3, hcz11_4, hcz11_5, hcz11_6, hcz11_7⟩ := ZC8 w9 BK360; obtain ⟨hfz11_0, hfz11_1, hfz11_2, hfz11_3, hfz11_4, hfz11_5, hfz11_6, hfz11_7⟩ := ZF8 BK360))
      (try simp only [Act.put, List.setIfInBounds_toArray, List.set_cons_zero, List.set_cons_succ])
      go_cut [60] (fun v60 wc => ∃ (kq : Nat) (x60_7 : Bool), v60 = .bool x60_7 ∧ Aside0 (impl_Prog_stepsOk.j1 kq a2 l1 (l1.length : Int) x12_1 x60_7 l0_0 l0_1 ((rd_T59 l1 x12_1).f0) ((rd_T59 l1 x12_1).f1) ((rd_T59 l1 x12_1).f2.f0) ((rd_T59 l1 x12_1).f2.f1) ((rd_T59 l1 x12_1).f2.f2) ((rd_T59 l1 x12_1).f3) ((rd_T59 l1 x12_1).f4) ((rd_T59 l1 x12_1).f5) = some r) ∧ Aside0 (kq ≤ k1) ∧ Aside0 (wc.heap[gb358]? = some (.cells #[(.slice A0_0 l0_0.length c0_0), (.slice A0_1 l0_1.length c0_1)] 26 (0, 0))) ∧ Aside0 (wc.heap[gb360]? = some (.cells #[.int .i64 ((rd_T59 l1 x12_1).f0), .int .i64 ((rd_T59 l1 x12_1).f1), .int .i64 ((rd_T59 l1 x12_1).f2.f0), .int .i64 ((rd_T59 l1 x12_1).f2.f1), .int .i64 ((rd_T59 l1 x12_1).f2.f2), .int .i64 ((rd_T59 l1 x12_1).f3), (.slice A359_6 ((rd_T59 l1 x12_1).f4).length c359_6), (.slice A359_7 ((rd_T59 l1 x12_1).f5).length c359_7)] 59 (0, 0))) ∧ Aside0 (Below w.heap.size w wc))
      case first =>
       have H := HC8.out
       clear HC8
       by_cases c12 : a2 < 1
       ·rw [if_pos c12] at H
        have c12b0 : decide (a2 < 1) = true := decide_eq_true c12
        clear c12
        (first | rw [c12b0] | (simp only [i64_w, i32_w]; rw [c12b0]) | skip)
        have H' := Aside0.mk H
        clear H
        go_wp2
        go_meet
        case rel => exact ⟨_, (true), (by first | rfl | (simp; done) | (simp [*]; done)), H', ⟨by have := HK1.out; first | omega | exact Nat.le_refl _⟩, ⟨ZZ BK358.out⟩, ⟨ZZ BK360.out⟩, ⟨ZB⟩⟩
       ·rw [if_neg c12] at H
        have c12b0 : decide (a2 < 1) = false := decide_eq_false c12
        clear c12
        (first | rw [c12b0] | (simp only [i64_w, i32_w]; rw [c12b0]) | skip)
        replace H := Option.bind_eq_some_iff.mp H
        obtain ⟨t361, A130, H⟩ := H
        replace H : (if t361 = true then (if ((rd_T59 l1 x12_1).f0) = 1 then (if ((rd_T59 l1 x12_1).f0) = 3 then (if ((rd_T59 l1 x12_1).f0) = 2 then (impl_Prog_stepsOk.j1 k1 a2 l1 (l1.length : Int) x12_1 false l0_0 l0_1 ((rd_T59 l1 x12_1).f0) ((rd_T59 l1 x12_1).f1) ((rd_T59 l1 x12_1).f2.f0) ((rd_T59 l1 x12_1).f2.f1) ((rd_T59 l1 x12_1).f2.f2) ((rd_T59 l1 x12_1).f3) ((rd_T59 l1 x12_1).f4) ((rd_T59 l1 x12_1).f5)) else (impl_Prog_stepsOk.j1 k1 a2 l1 (l1.length : Int) x12_1 (decide ((wrap64 ((((rd_T59 l1 x12_1).f4).length : Int) + (((rd_T59 l1 x12_1).f5).length : Int))) > 0)) l0_0 l0_1 ((rd_T59 l1 x12_1).f0) ((rd_T59 l1 x12_1).f1) ((rd_T59 l1 x12_1).f2.f0) ((rd_T59 l1 x12_1).f2.f1) ((rd_T59 l1 x12_1).f2.f2) ((rd_T59 l1 x12_1).f3) ((rd_T59 l1 x12_1).f4) ((rd_T59 l1 x12_1).f5))) else (if ((rd_T59 l1 x12_1).f3) = 0 then (if ((rd_T59 l1 x12_1).f0) = 2 then (impl_Prog_stepsOk.j1 k1 a2 l1 (l1.length : Int) x12_1 false l0_0 l0_1 ((rd_T59 l1 x12_1).f0) ((rd_T59 l1 x12_1).f1) ((rd_T59 l1 x12_1).f2.f0) ((rd_T59 l1 x12_1).f2.f1) ((rd_T59 l1 x12_1).f2.f2) ((rd_T59 l1 x12_1).f3) ((rd_T59 l1 x12_1).f4) ((rd_T59 l1 x12_1).f5)) else (impl_Prog_stepsOk.j1 k1 a2 l1 (l1.length : Int) x12_1 (decide ((wrap64 ((((rd_T59 l1 x12_1).f4).length : Int) + (((rd_T59 l1 x12_1).f5).length : Int))) > 0)) l0_0 l0_1 ((rd_T59 l1 x12_1).f0) ((rd_T59 l1 x12_1).f1) ((rd_T59 l1 x12_1).f2.f0) ((rd_T59 l1 x12_1).f2.f1) ((rd_T59 l1 x12_1).f2.f2) ((rd_T59 l1 x12_1).f3) ((rd_T59 l1 x12_1).f4) ((rd_T59 l1 x12_1).f5))) else (impl_Prog_stepsOk.j1 k1 a2 l1 (l1.length : Int) x12_1 true l0_0 l0_1 ((rd_T59 l1 x12_1).f0) ((rd_T59 l1 x12_1).f1) ((rd_T59 l1 x12_1).f2.f0) ((rd_T59 l1 x12_1).f2.f1) ((rd_T59 l1 x12_1).f2.f2) ((rd_T59 l1 x12_1).f3) ((rd_T59 l1 x12_1).f4) ((rd_T59 l1 x12_1).f5)))) else (if (!(((rd_T59 l1 x12_1).f2.f0) == 0) || (!(((rd_T59 l1 x12_1).f2.f1) == 0) || (!(((rd_T59 l1 x12_1).f2.f2) == 0)))) = true then (impl_Prog_stepsOk.j1 k1 a2 l1 (l1.length : Int) x12_1 true l0_0 l0_1 ((rd_T59 l1 x12_1).f0) ((rd_T59 l1 x12_1).f1) ((rd_T59 l1 x12_1).f2.f0) ((rd_T59 l1 x12_1).f2.f1) ((rd_T59 l1 x12_1).f2.f2) ((rd_T59 l1 x12_1).f3) ((rd_T59 l1 x12_1).f4) ((rd_T59 l1 x12_1).f5)) else (if ((rd_T59 l1 x12_1).f0) = 3 then (if ((rd_T59 l1 x12_1).f0) = 2 then (impl_Prog_stepsOk.j1 k1 a2 l1 (l1.length : Int) x12_1 false l0_0 l0_1 ((rd_T59 l1 x12_1).f0) ((rd_T59 l1 x12_1).f1) ((rd_T59 l1 x12_1).f2.f0) ((rd_T59 l1 x12_1).f2.f1) ((rd_T59 l1 x12_1).f2.f2) ((rd_T59 l1 x12_1).f3) ((rd_T59 l1 x12_1).f4) ((rd_T59 l1 x12_1).f5)) else (impl_Prog_stepsOk.j1 k1 a2 l1 (l1.length : Int) x12_1 (decide ((wrap64 ((((rd_T59 l1 x12_1).f4).length : Int) + (((rd_T59 l1 x12_1).f5).length : Int))) > 0)) l0_0 l0_1 ((rd_T59 l1 x12_1).f0) ((rd_T59 l1 x12_1).f1) ((rd_T59 l1 x12_1).f2.f0) ((rd_T59 l1 x12_1).f2.f1) ((rd_T59 l1 x12_1).f2.f2) ((rd_T59 l1 x12_1).f3) ((rd_T59 l1 x12_1).f4) ((rd_T59 l1 x12_1).f5))) else (if ((rd_T59 l1 x12_1).f3) = 0 then (if ((rd_T59 l1 x12_1).f0) = 2 then (impl_Prog_stepsOk.j1 k1 a2 l1 (l1.length : Int) x12_1 false l0_0 l0_1 ((rd_T59 l1 x12_1).f0) ((rd_T59 l1 x12_1).f1) ((rd_T59 l1 x12_1).f2.f0) ((rd_T59 l1 x12_1).f2.f1) ((rd_T59 l1 x12_1).f2.f2) ((rd_T59 l1 x12_1).f3) ((rd_T59 l1 x12_1).f4) ((rd_T59 l1 x12_1).f5)) else (impl_Prog_stepsOk.j1 k1 a2 l1 (l1.length : Int) x12_1 (decide ((wrap64 ((((rd_T59 l1 x12_1).f4).length : Int) + (((rd_T59 l1 x12_1).f5).length : Int))) > 0)) l0_0 l0_1 ((rd_T59 l1 x12_1).f0) ((rd_T59 l1 x12_1).f1) ((rd_T59 l1 x12_1).f2.f0) ((rd_T59 l1 x12_1).f2.f1) ((rd_T59 l1 x12_1).f2.f2) ((rd_T59 l1 x12_1).f3) ((rd_T59 l1 x12_1).f4) ((rd_T59 l1 x12_1).f5))) else (impl_Prog_stepsOk.j1 k1 a2 l1 (l1.length : Int) x12_1 true l0_0 l0_1 ((rd_T59 l1 x12_1).f0) ((rd_T59 l1 x12_1).f1) ((rd_T59 l1 x12_1).f2.f0) ((rd_T59 l1 x12_1).f2.f1) ((rd_T59 l1 x12_1).f2.f2) ((rd_T59 l1 x12_1).f3) ((rd_T59 l1 x12_1).f4) ((rd_T59 l1 x12_1).f5)))))) else (impl_Prog_stepsOk.j1 k1 a2 l1 (l1.length : Int) x12_1 true l0_0 l0_1 ((rd_T59 l1 x12_1).f0) ((rd_T59 l1 x12_1).f1) ((rd_T59 l1 x12_1).f2.f0) ((rd_T59 l1 x12_1).f2.f1) ((rd_T59 l1 x12_1).f2.f2) ((rd_T59 l1 x12_1).f3) ((rd_T59 l1 x12_1).f4) ((rd_T59 l1 x12_1).f5))) = some r := H
        have A13 := Aside0.mk A130
        clear A130
        by_cases c14 : t361 = true
        ·subst c14
         have H1 : (if ((rd_T59 l1 x12_1).f0) = 1 then (if ((rd_T59 l1 x12_1).f0) = 3 then (if ((rd_T59 l1 x12_1).f0) = 2 then (impl_Prog_stepsOk.j1 k1 a2 l1 (l1.length : Int) x12_1 false l0_0 l0_1 ((rd_T59 l1 x12_1).f0) ((rd_T59 l1 x12_1).f1) ((rd_T59 l1 x12_1).f2.f0) ((rd_T59 l1 x12_1).f2.f1) ((rd_T59 l1 x12_1).f2.f2) ((rd_T59 l1 x12_1).f3) ((rd_T59 l1 x12_1).f4) ((rd_T59 l1 x12_1).f5)) else (impl_Prog_stepsOk.j1 k1 a2 l1 (l1.length : Int) x12_1 (decide ((wrap64 ((((rd_T59 l1 x12_1).f4).length : Int) + (((rd_T59 l1 x12_1).f5).length : Int))) > 0)) l0_0 l0_1 ((rd_T59 l1 x12_1).f0) ((rd_T59 l1 x12_1).f1) ((rd_T59 l1 x12_1).f2.f0) ((rd_T59 l1 x12_1).f2.f1) ((rd_T59 l1 x12_1).f2.f2) ((rd_T59 l1 x12_1).f3) ((rd_T59 l1 x12_1).f4) ((rd_T59 l1 x12_1).f5))) else (if ((rd_T59 l1 x12_1).f3) = 0 then (if ((rd_T59 l1 x12_1).f0) = 2 then (impl_Prog_stepsOk.j1 k1 a2 l1 (l1.length : Int) x12_1 false l0_0 l0_1 ((rd_T59 l1 x12_1).f0) ((rd_T59 l1 x12_1).f1) ((rd_T59 l1 x12_1).f2.f0) ((rd_T59 l1 x12_1).f2.f1) ((rd_T59 l1 x12_1).f2.f2) ((rd_T59 l1 x12_1).f3) ((rd_T59 l1 x12_1).f4) ((rd_T59 l1 x12_1).f5)) else (impl_Prog_stepsOk.j1 k1 a2 l1 (l1.length : Int) x12_1 (decide ((wrap64 ((((rd_T59 l1 x12_1).f4).length : Int) + (((rd_T59 l1 x12_1).f5).length : Int))) > 0)) l0_0 l0_1 ((rd_T59 l1 x12_1).f0) ((rd_T59 l1 x12_1).f1) ((rd_T59 l1 x12_1).f2.f0) ((rd_T59 l1 x12_1).f2.f1) ((rd_T59 l1 x12_1).f2.f2) ((rd_T59 l1 x12_1).f3) ((rd_T59 l1 x12_1).f4) ((rd_T59 l1 x12_1).f5))) else (impl_Prog_stepsOk.j1 k1 a2 l1 (l1.length : Int) x12_1 true l0_0 l0_1 ((rd_T59 l1 x12_1).f0) ((rd_T59 l1 x12_1).f1) ((rd_T59 l1 x12_1).f2.f0) ((rd_T59 l1 x12_1).f2.f1) ((rd_T59 l1 x12_1).f2.f2) ((rd_T59 l1 x12_1).f3) ((rd_T59 l1 x12_1).f4) ((rd_T59 l1 x12_1).f5)))) else (if (!(((rd_T59 l1 x12_1).f2.f0) == 0) || (!(((rd_T59 l1 x12_1).f2.f1) == 0) || (!(((rd_T59 l1 x12_1).f2.f2) == 0)))) = true then (impl_Prog_stepsOk.j1 k1 a2 l1 (l1.length : Int) x12_1 true l0_0 l0_1 ((rd_T59 l1 x12_1).f0) ((rd_T59 l1 x12_1).f1) ((rd_T59 l1 x12_1).f2.f0) ((rd_T59 l1 x12_1).f2.f1) ((rd_T59 l1 x12_1).f2.f2) ((rd_T59 l1 x12_1).f3) ((rd_T59 l1 x12_1).f4) ((rd_T59 l1 x12_1).f5)) else (if ((rd_T59 l1 x12_1).f0) = 3 then (if ((rd_T59 l1 x12_1).f0) = 2 then (impl_Prog_stepsOk.j1 k1 a2 l1 (l1.length : Int) x12_1 false l0_0 l0_1 ((rd_T59 l1 x12_1).f0) ((rd_T59 l1 x12_1).f1) ((rd_T59 l1 x12_1).f2.f0) ((rd_T59 l1 x12_1).f2.f1) ((rd_T59 l1 x12_1).f2.f2) ((rd_T59 l1 x12_1).f3) ((rd_T59 l1 x12_1).f4) ((rd_T59 l1 x12_1).f5)) else (impl_Prog_stepsOk.j1 k1 a2 l1 (l1.length : Int) x12_1 (decide ((wrap64 ((((rd_T59 l1 x12_1).f4).length : Int) + (((rd_T59 l1 x12_1).f5).length : Int))) > 0)) l0_0 l0_1 ((rd_T59 l1 x12_1).f0) ((rd_T59 l1 x12_1).f1) ((rd_T59 l1 x12_1).f2.f0) ((rd_T59 l1 x12_1).f2.f1) ((rd_T59 l1 x12_1).f2.f2) ((rd_T59 l1 x12_1).f3) ((rd_T59 l1 x12_1).f4) ((rd_T59 l1 x12_1).f5))) else (if ((rd_T59 l1 x12_1).f3) = 0 then (if ((rd_T59 l1 x12_1).f0) = 2 then (impl_Prog_stepsOk.j1 k1 a2 l1 (l1.length : Int) x12_1 false l0_0 l0_1 ((rd_T59 l1 x12_1).f0) ((rd_T59 l1 x12_1).f1) ((rd_T59 l1 x12_1).f2.f0) ((rd_T59 l1 x12_1).f2.f1) ((rd_T59 l1 x12_1).f2.f2) ((rd_T59 l1 x12_1).f3) ((rd_T59 l1 x12_1).f4) ((rd_T59 l1 x12_1).f5)) else (impl_Prog_stepsOk.j1 k1 a2 l1 (l1.length : Int) x12_1 (decide ((wrap64 ((((rd_T59 l1 x12_1).f4).length : Int) + (((rd_T59 l1 x12_1).f5).length : Int))) > 0)) l0_0 l0_1 ((rd_T59 l1 x12_1).f0) ((rd_T59 l1 x12_1).f1) ((rd_T59 l1 x12_1).f2.f0) ((rd_T59 l1 x12_1).f2.f1) ((rd_T59 l1 x12_1).f2.f2) ((rd_T59 l1 x12_1).f3) ((rd_T59 l1 x12_1).f4) ((rd_T59 l1 x12_1).f5))) else (impl_Prog_stepsOk.j1 k1 a2 l1 (l1.length : Int) x12_1 true l0_0 l0_1 ((rd_T59 l1 x12_1).f0) ((rd_T59 l1 x12_1).f1) ((rd_T59 l1 x12_1).f2.f0) ((rd_T59 l1 x12_1).f2.f1) ((rd_T59 l1 x12_1).f2.f2) ((rd_T59 l1 x12_1).f3) ((rd_T59 l1 x12_1).f4) ((rd_T59 l1 x12_1).f5)))))) = some r := by rw [if_pos rfl] at H; exact H
         clear H
         have H := H1
         clear H1
         by_cases c15 : ((rd_T59 l1 x12_1).f0) = 1
         ·rw [if_pos c15] at H
          have c15b0 : (((rd_T59 l1 x12_1).f0) == 1) = true := beq_iff_eq.mpr c15
          have c15b1 : (((rd_T59 l1 x12_1).f0) != 1) = false := bne_eq_false_iff_eq.mpr c15
          clear c15
          by_cases c16 : ((rd_T59 l1 x12_1).f0) = 3
          ·rw [if_pos c16] at H
           have c16b0 : (((rd_T59 l1 x12_1).f0) == 3) = true := beq_iff_eq.mpr c16
           have c16b1 : (((rd_T59 l1 x12_1).f0) != 3) = false := bne_eq_false_iff_eq.mpr c16
           clear c16
           by_cases c17 : ((rd_T59 l1 x12_1).f0) = 2
           ·rw [if_pos c17] at H
            have c17b0 : (((rd_T59 l1 x12_1).f0) == 2) = true := beq_iff_eq.mpr c17
            have c17b1 : (((rd_T59 l1 x12_1).f0) != 2) = false := bne_eq_false_iff_eq.mpr c17
            clear c17
            have H' := Aside0.mk H
            clear H
            have hnb18 := NB358_360.out
            have hnc18 := NB360_358.out
            obtain ⟨hcz19_0, hcz19_1⟩ := ZC2 w9 BK358
            obtain ⟨hfz19_0, hfz19_1⟩ := ZF2 BK358
            obtain ⟨hcz20_0, hcz20_1, hcz20_2, hcz20_3, hcz20_4, hcz20_5, hcz20_6, hcz20_7⟩ := ZC8 w9 BK360
            obtain ⟨hfz20_0, hfz20_1, hfz20_2, hfz20_3, hfz20_4, hfz20_5, hfz20_6, hfz20_7⟩ := ZF8 BK360
            go_wp2_with (first | (go_at_call 126; (with_reducible refine (impl_Prog_isVar.calls _ _ l0_0 _ _ l0_1 ((rd_T59 l1 x12_1).f1) true _ ?side1 ?side2 ?side3 ?side4 A13.out).mono ?_); (case side1 => exact Kd.C_below HR0_0.out (ZB)); (case side2 => exact HC0_0.out); (case side3 => exact Kd.C_below HR0_1.out (ZB)); (case side4 => exact HC0_1.out); rintro e w21 ⟨rfl, hb⟩; replace BK358 := ZV #[.slice A0_0 l0_0.length c0_0, .slice A0_1 l0_1.length c0_1] BK358 hb; replace BK360 := ZV #[.int .i64 ((rd_T59 l1 x12_1).f0), .int .i64 ((rd_T59 l1 x12_1).f1), .int .i64 ((rd_T59 l1 x12_1).f2.f0), .int .i64 ((rd_T59 l1 x12_1).f2.f1), .int .i64 ((rd_T59 l1 x12_1).f2.f2), .int .i64 ((rd_T59 l1 x12_1).f3), .slice A359_6 ((rd_T59 l1 x12_1).f4).length c359_6, .slice A359_7 ((rd_T59 l1 x12_1).f5).length c359_7] BK360 hb; replace HB := ZT HB hb; (try clear hb); (try clear hb2); (try clear hk); (try clear hi); obtain ⟨hcz22_0, hcz22_1, hcz22_2, hcz22_3, hcz22_4, hcz22_5, hcz22_6, hcz22_7⟩ := ZC8 w21 BK360; obtain ⟨hfz22_0, hfz22_1, hfz22_2, hfz22_3, hfz22_4, hfz22_5, hfz22_6, hfz22_7⟩ := ZF8 BK360))
            go_meet
            case rel => exact ⟨_, (false), (by first | rfl | (simp; done) | (simp [*]; done)), H', ⟨by have := HK1.out; first | omega | exact Nat.le_refl _⟩, ⟨ZK BK358.out⟩, ⟨ZK BK360.out⟩, ⟨ZB⟩⟩
           ·rw [if_neg c17] at H
            have c17b0 : (((rd_T59 l1 x12_1).f0) == 2) = false := beq_eq_false_iff_ne.mpr c17
            have c17b1 : (((rd_T59 l1 x12_1).f0) != 2) = true := bne_iff_ne.mpr c17
            have H' := Aside0.mk H
            clear H
            have hnb23 := NB358_360.out
            have hnc23 := NB360_358.out
            obtain ⟨hcz24_0, hcz24_1⟩ := ZC2 w9 BK358
            obtain ⟨hfz24_0, hfz24_1⟩ := ZF2 BK358
            obtain ⟨hcz25_0, hcz25_1, hcz25_2, hcz25_3, hcz25_4, hcz25_5, hcz25_6, hcz25_7⟩ := ZC8 w9 BK360
            obtain ⟨hfz25_0, hfz25_1, hfz25_2, hfz25_3, hfz25_4, hfz25_5, hfz25_6, hfz25_7⟩ := ZF8 BK360
            go_wp2_with (first | (go_at_call 126; (with_reducible refine (impl_Prog_isVar.calls _ _ l0_0 _ _ l0_1 ((rd_T59 l1 x12_1).f1) true _ ?side1 ?side2 ?side3 ?side4 A13.out).mono ?_); (case side1 => exact Kd.C_below HR0_0.out (ZB)); (case side2 => exact HC0_0.out); (case side3 => exact Kd.C_below HR0_1.out (ZB)); (case side4 => exact HC0_1.out); rintro e w26 ⟨rfl, hb⟩; replace BK358 := ZV #[.slice A0_0 l0_0.length c0_0, .slice A0_1 l0_1.length c0_1] BK358 hb; replace BK360 := ZV #[.int .i64 ((rd_T59 l1 x12_1).f0), .int .i64 ((rd_T59 l1 x12_1).f1), .int .i64 ((rd_T59 l1 x12_1).f2.f0), .int .i64 ((rd_T59 l1 x12_1).f2.f1), .int .i64 ((rd_T59 l1 x12_1).f2.f2), .int .i64 ((rd_T59 l1 x12_1).f3), .slice A359_6 ((rd_T59 l1 x12_1).f4).length c359_6, .slice A359_7 ((rd_T59 l1 x12_1).f5).length c359_7] BK360 hb; replace HB := ZT HB hb; (try clear hb); (try clear hb2); (try clear hk); (try clear hi); obtain ⟨hcz27_0, hcz27_1, hcz27_2, hcz27_3, hcz27_4, hcz27_5, hcz27_6, hcz27_7⟩ := ZC8 w26 BK360; obtain ⟨hfz27_0, hfz27_1, hfz27_2, hfz27_3, hfz27_4, hfz27_5, hfz27_6, hfz27_7⟩ := ZF8 BK360))
            go_meet
            case rel => exact ⟨_, (decide ((wrap64 ((((rd_T59 l1 x12_1).f4).length : Int) + (((rd_T59 l1 x12_1).f5).length : Int))) > 0)), (by first | rfl | (simp; done) | (simp [*]; done)), H', ⟨by have := HK1.out; first | omega | exact Nat.le_refl _⟩, ⟨ZK BK358.out⟩, ⟨ZK BK360.out⟩, ⟨ZB⟩⟩
          ·rw [if_neg c16] at H
           have c16b0 : (((rd_T59 l1 x12_1).f0) == 3) = false := beq_eq_false_iff_ne.mpr c16
           have c16b1 : (((rd_T59 l1 x12_1).f0) != 3) = true := bne_iff_ne.mpr c16
           by_cases c28 : ((rd_T59 l1 x12_1).f3) = 0
           ·rw [if_pos c28] at H
            have c28b0 : (((rd_T59 l1 x12_1).f3) == 0) = true := beq_iff_eq.mpr c28
            have c28b1 : (((rd_T59 l1 x12_1).f3) != 0) = false := bne_eq_false_iff_eq.mpr c28
            clear c28
            by_cases c29 : ((rd_T59 l1 x12_1).f0) = 2
            ·rw [if_pos c29] at H
             have c29b0 : (((rd_T59 l1 x12_1).f0) == 2) = true := beq_iff_eq.mpr c29
             have c29b1 : (((rd_T59 l1 x12_1).f0) != 2) = false := bne_eq_false_iff_eq.mpr c29
             clear c29
             have H' := Aside0.mk H
             clear H
             have hnb30 := NB358_360.out
             have hnc30 := NB360_358.out
             obtain ⟨hcz31_0, hcz31_1⟩ := ZC2 w9 BK358
             obtain ⟨hfz31_0, hfz31_1⟩ := ZF2 BK358
             obtain ⟨hcz32_0, hcz32_1, hcz32_2, hcz32_3, hcz32_4, hcz32_5, hcz32_6, hcz32_7⟩ := ZC8 w9 BK360
             obtain ⟨hfz32_0, hfz32_1, hfz32_2, hfz32_3, hfz32_4, hfz32_5, hfz32_6, hfz32_7⟩ := ZF8 BK360
             go_wp2_with (first | (go_at_call 126; (with_reducible refine (impl_Prog_isVar.calls _ _ l0_0 _ _ l0_1 ((rd_T59 l1 x12_1).f1) true _ ?side1 ?side2 ?side3 ?side4 A13.out).mono ?_); (case side1 => exact Kd.C_below HR0_0.out (ZB)); (case side2 => exact HC0_0.out); (case side3 => exact Kd.C_below HR0_1.out (ZB)); (case side4 => exact HC0_1.out); rintro e w33 ⟨rfl, hb⟩; replace BK358 := ZV #[.slice A0_0 l0_0.length c0_0, .slice A0_1 l0_1.length c0_1] BK358 hb; replace BK360 := ZV #[.int .i64 ((rd_T59 l1 x12_1).f0), .int .i64 ((rd_T59 l1 x12_1).f1), .int .i64 ((rd_T59 l1 x12_1).f2.f0), .int .i64 ((rd_T59 l1 x12_1).f2.f1), .int .i64 ((rd_T59 l1 x12_1).f2.f2), .int .i64 ((rd_T59 l1 x12_1).f3), .slice A359_6 ((rd_T59 l1 x12_1).f4).length c359_6, .slice A359_7 ((rd_T59 l1 x12_1).f5).length c359_7] BK360 hb; replace HB := ZT HB hb; (try clear hb); (try clear hb2); (try clear hk); (try clear hi); obtain ⟨hcz34_0, hcz34_1, hcz34_2, hcz34_3, hcz34_4, hcz34_5, hcz34_6, hcz34_7⟩ := ZC8 w33 BK360; obtain ⟨hfz34_0, hfz34_1, hfz34_2, hfz34_3, hfz34_4, hfz34_5, hfz34_6, hfz34_7⟩ := ZF8 BK360))
             go_meet
             case rel => exact ⟨_, (false), (by first | rfl | (simp; done) | (simp [*]; done)), H', ⟨by have := HK1.out; first | omega | exact Nat.le_refl _⟩, ⟨ZK BK358.out⟩, ⟨ZK BK360.out⟩, ⟨ZB⟩⟩
            ·rw [if_neg c29] at H
             have c29b0 : (((rd_T59 l1 x12_1).f0) == 2) = false := beq_eq_false_iff_ne.mpr c29
             have c29b1 : (((rd_T59 l1 x12_1).f0) != 2) = true := bne_iff_ne.mpr c29
             have H' := Aside0.mk H
             clear H
             have hnb35 := NB358_360.out
             have hnc35 := NB360_358.out
             obtain ⟨hcz36_0, hcz36_1⟩ := ZC2 w9 BK358
             obtain ⟨hfz36_0, hfz36_1⟩ := ZF2 BK358
             obtain ⟨hcz37_0, hcz37_1, hcz37_2, hcz37_3, hcz37_4, hcz37_5, hcz37_6, hcz37_7⟩ := ZC8 w9 BK360
             obtain ⟨hfz37_0, hfz37_1, hfz37_2, hfz37_3, hfz37_4, hfz37_5, hfz37_6, hfz37_7⟩ := ZF8 BK360
             go_wp2_with (first | (go_at_call 126; (with_reducible refine (impl_Prog_isVar.calls _ _ l0_0 _ _ l0_1 ((rd_T59 l1 x12_1).f1) true _ ?side1 ?side2 ?side3 ?side4 A13.out).mono ?_); (case side1 => exact Kd.C_below HR0_0.out (ZB)); (case side2 => exact HC0_0.out); (case side3 => exact Kd.C_below HR0_1.out (ZB)); (case side4 => exact HC0_1.out); rintro e w38 ⟨rfl, hb⟩; replace BK358 := ZV #[.slice A0_0 l0_0.length c0_0, .slice A0_1 l0_1.length c0_1] BK358 hb; replace BK360 := ZV #[.int .i64 ((rd_T59 l1 x12_1).f0), .int .i64 ((rd_T59 l1 x12_1).f1), .int .i64 ((rd_T59 l1 x12_1).f2.f0), .int .i64 ((rd_T59 l1 x12_1).f2.f1), .int .i64 ((rd_T59 l1 x12_1).f2.f2), .int .i64 ((rd_T59 l1 x12_1).f3), .slice A359_6 ((rd_T59 l1 x12_1).f4).length c359_6, .slice A359_7 ((rd_T59 l1 x12_1).f5).length c359_7] BK360 hb; replace HB := ZT HB hb; (try clear hb); (try clear hb2); (try clear hk); (try clear hi); obtain ⟨hcz39_0, hcz39_1, hcz39_2, hcz39_3, hcz39_4, hcz39_5, hcz39_6, hcz39_7⟩ := ZC8 w38 BK360; obtain ⟨hfz39_0, hfz39_1, hfz39_2, hfz39_3, hfz39_4, hfz39_5, hfz39_6, hfz39_7⟩ := ZF8 BK360))
             go_meet
             case rel => exact ⟨_, (decide ((wrap64 ((((rd_T59 l1 x12_1).f4).length : Int) + (((rd_T59 l1 x12_1).f5).length : Int))) > 0)), (by first | rfl | (simp; done) | (simp [*]; done)), H', ⟨by have := HK1.out; first | omega | exact Nat.le_refl _⟩, ⟨ZK BK358.out⟩, ⟨ZK BK360.out⟩, ⟨ZB⟩⟩
           ·rw [if_neg c28] at H
            have c28b0 : (((rd_T59 l1 x12_1).f3) == 0) = false := beq_eq_false_iff_ne.mpr c28
            have c28b1 : (((rd_T59 l1 x12_1).f3) != 0) = true := bne_iff_ne.mpr c28
            have H' := Aside0.mk H
            clear H
            have hnb40 := NB358_360.out
            have hnc40 := NB360_358.out
            obtain ⟨hcz41_0, hcz41_1⟩ := ZC2 w9 BK358
            obtain ⟨hfz41_0, hfz41_1⟩ := ZF2 BK358
            obtain ⟨hcz42_0, hcz42_1, hcz42_2, hcz42_3, hcz42_4, hcz42_5, hcz42_6, hcz42_7⟩ := ZC8 w9 BK360
            obtain ⟨hfz42_0, hfz42_1, hfz42_2, hfz42_3, hfz42_4, hfz42_5, hfz42_6, hfz42_7⟩ := ZF8 BK360
            go_wp2_with (first | (go_at_call 126; (with_reducible refine (impl_Prog_isVar.calls _ _ l0_0 _ _ l0_1 ((rd_T59 l1 x12_1).f1) true _ ?side1 ?side2 ?side3 ?side4 A13.out).mono ?_); (case side1 => exact Kd.C_below HR0_0.out (ZB)); (case side2 => exact HC0_0.out); (case side3 => exact Kd.C_below HR0_1.out (ZB)); (case side4 => exact HC0_1.out); rintro e w43 ⟨rfl, hb⟩; replace BK358 := ZV #[.slice A0_0 l0_0.length c0_0, .slice A0_1 l0_1.length c0_1] BK358 hb; replace BK360 := ZV #[.int .i64 ((rd_T59 l1 x12_1).f0), .int .i64 ((rd_T59 l1 x12_1).f1), .int .i64 ((rd_T59 l1 x12_1).f2.f0), .int .i64 ((rd_T59 l1 x12_1).f2.f1), .int .i64 ((rd_T59 l1 x12_1).f2.f2), .int .i64 ((rd_T59 l1 x12_1).f3), .slice A359_6 ((rd_T59 l1 x12_1).f4).length c359_6, .slice A359_7 ((rd_T59 l1 x12_1).f5).length c359_7] BK360 hb; replace HB := ZT HB hb; (try clear hb); (try clear hb2); (try clear hk); (try clear hi); obtain ⟨hcz44_0, hcz44_1, hcz44_2, hcz44_3, hcz44_4, hcz44_5, hcz44_6, hcz44_7⟩ := ZC8 w43 BK360; obtain ⟨hfz44_0, hfz44_1, hfz44_2, hfz44_3, hfz44_4, hfz44_5, hfz44_6, hfz44_7⟩ := ZF8 BK360))
            go_meet
            case rel => exact ⟨_, (true), (by first | rfl | (simp; done) | (simp [*]; done)), H', ⟨by have := HK1.out; first | omega | exact Nat.le_refl _⟩, ⟨ZK BK358.out⟩, ⟨ZK BK360.out⟩, ⟨ZB⟩⟩
         ·rw [if_neg c15] at H
          have c15b0 : (((rd_T59 l1 x12_1).f0) == 1) = false := beq_eq_false_iff_ne.mpr c15
          have c15b1 : (((rd_T59 l1 x12_1).f0) != 1) = true := bne_iff_ne.mpr c15
          by_cases c45 : (!(((rd_T59 l1 x12_1).f2.f0) == 0) || (!(((rd_T59 l1 x12_1).f2.f1) == 0) || (!(((rd_T59 l1 x12_1).f2.f2) == 0)))) = true
          ·rw [if_pos c45] at H
           have c45b0 : (!(((rd_T59 l1 x12_1).f2.f0) == 0) || (!(((rd_T59 l1 x12_1).f2.f1) == 0) || (!(((rd_T59 l1 x12_1).f2.f2) == 0)))) = true := c45
           clear c45
           have H' := Aside0.mk H
           clear H
           have hnb46 := NB358_360.out
           have hnc46 := NB360_358.out
           obtain ⟨hcz47_0, hcz47_1⟩ := ZC2 w9 BK358
           obtain ⟨hfz47_0, hfz47_1⟩ := ZF2 BK358
           obtain ⟨hcz48_0, hcz48_1, hcz48_2, hcz48_3, hcz48_4, hcz48_5, hcz48_6, hcz48_7⟩ := ZC8 w9 BK360
           obtain ⟨hfz48_0, hfz48_1, hfz48_2, hfz48_3, hfz48_4, hfz48_5, hfz48_6, hfz48_7⟩ := ZF8 BK360
           go_wp2_with (first | (go_at_call 126; (with_reducible refine (impl_Prog_isVar.calls _ _ l0_0 _ _ l0_1 ((rd_T59 l1 x12_1).f1) true _ ?side1 ?side2 ?side3 ?side4 A13.out).mono ?_); (case side1 => exact Kd.C_below HR0_0.out (ZB)); (case side2 => exact HC0_0.out); (case side3 => exact Kd.C_below HR0_1.out (ZB)); (case side4 => exact HC0_1.out); rintro e w49 ⟨rfl, hb⟩; replace BK358 := ZV #[.slice A0_0 l0_0.length c0_0, .slice A0_1 l0_1.length c0_1] BK358 hb; replace BK360 := ZV #[.int .i64 ((rd_T59 l1 x12_1).f0), .int .i64 ((rd_T59 l1 x12_1).f1), .int .i64 ((rd_T59 l1 x12_1).f2.f0), .int .i64 ((rd_T59 l1 x12_1).f2.f1), .int .i64 ((rd_T59 l1 x12_1).f2.f2), .int .i64 ((rd_T59 l1 x12_1).f3), .slice A359_6 ((rd_T59 l1 x12_1).f4).length c359_6, .slice A359_7 ((rd_T59 l1 x12_1).f5).length c359_7] BK360 hb; replace HB := ZT HB hb; (try clear hb); (try clear hb2); (try clear hk); (try clear hi); obtain ⟨hcz50_0, hcz50_1, hcz50_2, hcz50_3, hcz50_4, hcz50_5, hcz50_6, hcz50_7⟩ := ZC8 w49 BK360; obtain ⟨hfz50_0, hfz50_1, hfz50_2, hfz50_3, hfz50_4, hfz50_5, hfz50_6, hfz50_7⟩ := ZF8 BK360))
           go_meet
           case rel => exact ⟨_, (true), (by first | rfl | (simp; done) | (simp [*]; done)), H', ⟨by have := HK1.out; first | omega | exact Nat.le_refl _⟩, ⟨ZK BK358.out⟩, ⟨ZK BK360.out⟩, ⟨ZB⟩⟩
          ·rw [if_neg c45] at H
           have c45b0 : (!(((rd_T59 l1 x12_1).f2.f0) == 0) || (!(((rd_T59 l1 x12_1).f2.f1) == 0) || (!(((rd_T59 l1 x12_1).f2.f2) == 0)))) = false := by simpa using c45
           clear c45
           by_cases c51 : ((rd_T59 l1 x12_1).f0) = 3
           ·rw [if_pos c51] at H
            have c51b0 : (((rd_T59 l1 x12_1).f0) == 3) = true := beq_iff_eq.mpr c51
            have c51b1 : (((rd_T59 l1 x12_1).f0) != 3) = false := bne_eq_false_iff_eq.mpr c51
            clear c51
            by_cases c52 : ((rd_T59 l1 x12_1).f0) = 2
            ·rw [if_pos c52] at H
             have c52b0 : (((rd_T59 l1 x12_1).f0) == 2) = true := beq_iff_eq.mpr c52
             have c52b1 : (((rd_T59 l1 x12_1).f0) != 2) = false := bne_eq_false_iff_eq.mpr c52
             clear c52
             have H' := Aside0.mk H
             clear H
             have hnb53 := NB358_360.out
             have hnc53 := NB360_358.out
             obtain ⟨hcz54_0, hcz54_1⟩ := ZC2 w9 BK358
             obtain ⟨hfz54_0, hfz54_1⟩ := ZF2 BK358
             obtain ⟨hcz55_0, hcz55_1, hcz55_2, hcz55_3, hcz55_4, hcz55_5, hcz55_6, hcz55_7⟩ := ZC8 w9 BK360
             obtain ⟨hfz55_0, hfz55_1, hfz55_2, hfz55_3, hfz55_4, hfz55_5, hfz55_6, hfz55_7⟩ := ZF8 BK360
             go_wp2_with (first | (go_at_call 126; (with_reducible refine (impl_Prog_isVar.calls _ _ l0_0 _ _ l0_1 ((rd_T59 l1 x12_1).f1) true _ ?side1 ?side2 ?side3 ?side4 A13.out).mono ?_); (case side1 => exact Kd.C_below HR0_0.out (ZB)); (case side2 => exact HC0_0.out); (case side3 => exact Kd.C_below HR0_1.out (ZB)); (case side4 => exact HC0_1.out); rintro e w56 ⟨rfl, hb⟩; replace BK358 := ZV #[.slice A0_0 l0_0.length c0_0, .slice A0_1 l0_1.length c0_1] BK358 hb; replace BK360 := ZV #[.int .i64 ((rd_T59 l1 x12_1).f0), .int .i64 ((rd_T59 l1 x12_1).f1), .int .i64 ((rd_T59 l1 x12_1).f2.f0), .int .i64 ((rd_T59 l1 x12_1).f2.f1), .int .i64 ((rd_T59 l1 x12_1).f2.f2), .int .i64 ((rd_T59 l1 x12_1).f3), .slice A359_6 ((rd_T59 l1 x12_1).f4).length c359_6, .slice A359_7 ((rd_T59 l1 x12_1).f5).length c359_7] BK360 hb; replace HB := ZT HB hb; (try clear hb); (try clear hb2); (try clear hk); (try clear hi); obtain ⟨hcz57_0, hcz57_1, hcz57_2, hcz57_3, hcz57_4, hcz57_5, hcz57_6, hcz57_7⟩ := ZC8 w56 BK360; obtain ⟨hfz57_0, hfz57_1, hfz57_2, hfz57_3, hfz57_4, hfz57_5, hfz57_6, hfz57_7⟩ := ZF8 BK360))
             go_meet
             case rel => exact ⟨_, (false), (by first | rfl | (simp; done) | (simp [*]; done)), H', ⟨by have := HK1.out; first | omega | exact Nat.le_refl _⟩, ⟨ZK BK358.out⟩, ⟨ZK BK360.out⟩, ⟨ZB⟩⟩
            ·rw [if_neg c52] at H
             have c52b0 : (((rd_T59 l1 x12_1).f0) == 2) = false := beq_eq_false_iff_ne.mpr c52
             have c52b1 : (((rd_T59 l1 x12_1).f0) != 2) = true := bne_iff_ne.mpr c52
             have H' := Aside0.mk H
             clear H
             have hnb58 := NB358_360.out
             have hnc58 := NB360_358.out
             obtain ⟨hcz59_0, hcz59_1⟩ := ZC2 w9 BK358
             obtain ⟨hfz59_0, hfz59_1⟩ := ZF2 BK358
             obtain ⟨hcz60_0, hcz60_1, hcz60_2, hcz60_3, hcz60_4, hcz60_5, hcz60_6, hcz60_7⟩ := ZC8 w9 BK360
             obtain ⟨hfz60_0, hfz60_1, hfz60_2, hfz60_3, hfz60_4, hfz60_5, hfz60_6, hfz60_7⟩ := ZF8 BK360
             go_wp2_with (first | (go_at_call 126; (with_reducible refine (impl_Prog_isVar.calls _ _ l0_0 _ _ l0_1 ((rd_T59 l1 x12_1).f1) true _ ?side1 ?side2 ?side3 ?side4 A13.out).mono ?_); (case side1 => exact Kd.C_below HR0_0.out (ZB)); (case side2 => exact HC0_0.out); (case side3 => exact Kd.C_below HR0_1.out (ZB)); (case side4 => exact HC0_1.out); rintro e w61 ⟨rfl, hb⟩; replace BK358 := ZV #[.slice A0_0 l0_0.length c0_0, .slice A0_1 l0_1.length c0_1] BK358 hb; replace BK360 := ZV #[.int .i64 ((rd_T59 l1 x12_1).f0), .int .i64 ((rd_T59 l1 x12_1).f1), .int .i64 ((rd_T59 l1 x12_1).f2.f0), .int .i64 ((rd_T59 l1 x12_1).f2.f1), .int .i64 ((rd_T59 l1 x12_1).f2.f2), .int .i64 ((rd_T59 l1 x12_1).f3), .slice A359_6 ((rd_T59 l1 x12_1).f4).length c359_6, .slice A359_7 ((rd_T59 l1 x12_1).f5).length c359_7] BK360 hb; replace HB := ZT HB hb; (try clear hb); (try clear hb2); (try clear hk); (try clear hi); obtain ⟨hcz62_0, hcz62_1, hcz62_2, hcz62_3, hcz62_4, hcz62_5, hcz62_6, hcz62_7⟩ := ZC8 w61 BK360; obtain ⟨hfz62_0, hfz62_1, hfz62_2, hfz62_3, hfz62_4, hfz62_5, hfz62_6, hfz62_7⟩ := ZF8 BK360))
             go_meet
             case rel => exact ⟨_, (decide ((wrap64 ((((rd_T59 l1 x12_1).f4).length : Int) + (((rd_T59 l1 x12_1).f5).length : Int))) > 0)), (by first | rfl | (simp; done) | (simp [*]; done)), H', ⟨by have := HK1.out; first | omega | exact Nat.le_refl _⟩, ⟨ZK BK358.out⟩, ⟨ZK BK360.out⟩, ⟨ZB⟩⟩
           ·rw [if_neg c51] at H
            have c51b0 : (((rd_T59 l1 x12_1).f0) == 3) = false := beq_eq_false_iff_ne.mpr c51
            have c51b1 : (((rd_T59 l1 x12_1).f0) != 3) = true := bne_iff_ne.mpr c51
            by_cases c63 : ((rd_T59 l1 x12_1).f3) = 0
            ·rw [if_pos c63] at H
             have c63b0 : (((rd_T59 l1 x12_1).f3) == 0) = true := beq_iff_eq.mpr c63
             have c63b1 : (((rd_T59 l1 x12_1).f3) != 0) = false := bne_eq_false_iff_eq.mpr c63
             clear c63
             by_cases c64 : ((rd_T59 l1 x12_1).f0) = 2
             ·rw [if_pos c64] at H
              have c64b0 : (((rd_T59 l1 x12_1).f0) == 2) = true := beq_iff_eq.mpr c64
              have c64b1 : (((rd_T59 l1 x12_1).f0) != 2) = false := bne_eq_false_iff_eq.mpr c64
              clear c64
              have H' := Aside0.mk H
              clear H
              have hnb65 := NB358_360.out
              have hnc65 := NB360_358.out
              obtain ⟨hcz66_0, hcz66_1⟩ := ZC2 w9 BK358
              obtain ⟨hfz66_0, hfz66_1⟩ := ZF2 BK358
              obtain ⟨hcz67_0, hcz67_1, hcz67_2, hcz67_3, hcz67_4, hcz67_5, hcz67_6, hcz67_7⟩ := ZC8 w9 BK360
              obtain ⟨hfz67_0, hfz67_1, hfz67_2, hfz67_3, hfz67_4, hfz67_5, hfz67_6, hfz67_7⟩ := ZF8 BK360
              go_wp2_with (first | (go_at_call 126; (with_reducible refine (impl_Prog_isVar.calls _ _ l0_0 _ _ l0_1 ((rd_T59 l1 x12_1).f1) true _ ?side1 ?side2 ?side3 ?side4 A13.out).mono ?_); (case side1 => exact Kd.C_below HR0_0.out (ZB)); (case side2 => exact HC0_0.out); (case side3 => exact Kd.C_below HR0_1.out (ZB)); (case side4 => exact HC0_1.out); rintro e w68 ⟨rfl, hb⟩; replace BK358 := ZV #[.slice A0_0 l0_0.length c0_0, .slice A0_1 l0_1.length c0_1] BK358 hb; replace BK360 := ZV #[.int .i64 ((rd_T59 l1 x12_1).f0), .int .i64 ((rd_T59 l1 x12_1).f1), .int .i64 ((rd_T59 l1 x12_1).f2.f0), .int .i64 ((rd_T59 l1 x12_1).f2.f1), .int .i64 ((rd_T59 l1 x12_1).f2.f2), .int .i64 ((rd_T59 l1 x12_1).f3), .slice A359_6 ((rd_T59 l1 x12_1).f4).length c359_6, .slice A359_7 ((rd_T59 l1 x12_1).f5).length c359_7] BK360 hb; replace HB := ZT HB hb; (try clear hb); (try clear hb2); (try clear hk); (try clear hi); obtain ⟨hcz69_0, hcz69_1, hcz69_2, hcz69_3, hcz69_4, hcz69_5, hcz69_6, hcz69_7⟩ := ZC8 w68 BK360; obtain ⟨hfz69_0, hfz69_1, hfz69_2, hfz69_3, hfz69_4, hfz69_5, hfz69_6, hfz69_7⟩ := ZF8 BK360))
              go_meet
              case rel => exact ⟨_, (false), (by first | rfl | (simp; done) | (simp [*]; done)), H', ⟨by have := HK1.out; first | omega | exact Nat.le_refl _⟩, ⟨ZK BK358.out⟩, ⟨ZK BK360.out⟩, ⟨ZB⟩⟩
             ·rw [if_neg c64] at H
              have c64b0 : (((rd_T59 l1 x12_1).f0) == 2) = false := beq_eq_false_iff_ne.mpr c64
              have c64b1 : (((rd_T59 l1 x12_1).f0) != 2) = true := bne_iff_ne.mpr c64
              have H' := Aside0.mk H
              clear H
              have hnb70 := NB358_360.out
              have hnc70 := NB360_358.out
              obtain ⟨hcz71_0, hcz71_1⟩ := ZC2 w9 BK358
              obtain ⟨hfz71_0, hfz71_1⟩ := ZF2 BK358
              obtain ⟨hcz72_0, hcz72_1, hcz72_2, hcz72_3, hcz72_4, hcz72_5, hcz72_6, hcz72_7⟩ := ZC8 w9 BK360
              obtain ⟨hfz72_0, hfz72_1, hfz72_2, hfz72_3, hfz72_4, hfz72_5, hfz72_6, hfz72_7⟩ := ZF8 BK360
              go_wp2_with (first | (go_at_call 126; (with_reducible refine (impl_Prog_isVar.calls _ _ l0_0 _ _ l0_1 ((rd_T59 l1 x12_1).f1) true _ ?side1 ?side2 ?side3 ?side4 A13.out).mono ?_); (case side1 => exact Kd.C_below HR0_0.out (ZB)); (case side2 => exact HC0_0.out); (case side3 => exact Kd.C_below HR0_1.out (ZB)); (case side4 => exact HC0_1.out); rintro e w73 ⟨rfl, hb⟩; replace BK358 := ZV #[.slice A0_0 l0_0.length c0_0, .slice A0_1 l0_1.length c0_1] BK358 hb; replace BK360 := ZV #[.int .i64 ((rd_T59 l1 x12_1).f0), .int .i64 ((rd_T59 l1 x12_1).f1), .int .i64 ((rd_T59 l1 x12_1).f2.f0), .int .i64 ((rd_T59 l1 x12_1).f2.f1), .int .i64 ((rd_T59 l1 x12_1).f2.f2), .int .i64 ((rd_T59 l1 x12_1).f3), .slice A359_6 ((rd_T59 l1 x12_1).f4).length c359_6, .slice A359_7 ((rd_T59 l1 x12_1).f5).length c359_7] BK360 hb; replace HB := ZT HB hb; (try clear hb); (try clear hb2); (try clear hk); (try clear hi); obtain ⟨hcz74_0, hcz74_1, hcz74_2, hcz74_3, hcz74_4, hcz74_5, hcz74_6, hcz74_7⟩ := ZC8 w73 BK360; obtain ⟨hfz74_0, hfz74_1, hfz74_2, hfz74_3, hfz74_4, hfz74_5, hfz74_6, hfz74_7⟩ := ZF8 BK360))
              go_meet
              case rel => exact ⟨_, (decide ((wrap64 ((((rd_T59 l1 x12_1).f4).length : Int) + (((rd_T59 l1 x12_1).f5).length : Int))) > 0)), (by first | rfl | (simp; done) | (simp [*]; done)), H', ⟨by have := HK1.out; first | omega | exact Nat.le_refl _⟩, ⟨ZK BK358.out⟩, ⟨ZK BK360.out⟩, ⟨ZB⟩⟩
            ·rw [if_neg c63] at H
             have c63b0 : (((rd_T59 l1 x12_1).f3) == 0) = false := beq_eq_false_iff_ne.mpr c63
             have c63b1 : (((rd_T59 l1 x12_1).f3) != 0) = true := bne_iff_ne.mpr c63
             have H' := Aside0.mk H
             clear H
             have hnb75 := NB358_360.out
             have hnc75 := NB360_358.out
             obtain ⟨hcz76_0, hcz76_1⟩ := ZC2 w9 BK358
             obtain ⟨hfz76_0, hfz76_1⟩ := ZF2 BK358
             obtain ⟨hcz77_0, hcz77_1, hcz77_2, hcz77_3, hcz77_4, hcz77_5, hcz77_6, hcz77_7⟩ := ZC8 w9 BK360
             obtain ⟨hfz77_0, hfz77_1, hfz77_2, hfz77_3, hfz77_4, hfz77_5, hfz77_6, hfz77_7⟩ := ZF8 BK360
             go_wp2_with (first | (go_at_call 126; (with_reducible refine (impl_Prog_isVar.calls _ _ l0_0 _ _ l0_1 ((rd_T59 l1 x12_1).f1) true _ ?side1 ?side2 ?side3 ?side4 A13.out).mono ?_); (case side1 => exact Kd.C_below HR0_0.out (ZB)); (case side2 => exact HC0_0.out); (case side3 => exact Kd.C_below HR0_1.out (ZB)); (case side4 => exact HC0_1.out); rintro e w78 ⟨rfl, hb⟩; replace BK358 := ZV #[.slice A0_0 l0_0.length c0_0, .slice A0_1 l0_1.length c0_1] BK358 hb; replace BK360 := ZV #[.int .i64 ((rd_T59 l1 x12_1).f0), .int .i64 ((rd_T59 l1 x12_1).f1), .int .i64 ((rd_T59 l1 x12_1).f2.f0), .int .i64 ((rd_T59 l1 x12_1).f2.f1), .int .i64 ((rd_T59 l1 x12_1).f2.f2), .int .i64 ((rd_T59 l1 x12_1).f3), .slice A359_6 ((rd_T59 l1 x12_1).f4).length c359_6, .slice A359_7 ((rd_T59 l1 x12_1).f5).length c359_7] BK360 hb; replace HB := ZT HB hb; (try clear hb); (try clear hb2); (try clear hk); (try clear hi); obtain ⟨hcz79_0, hcz79_1, hcz79_2, hcz79_3, hcz79_4, hcz79_5, hcz79_6, hcz79_7⟩ := ZC8 w78 BK360; obtain ⟨hfz79_0, hfz79_1, hfz79_2, hfz79_3, hfz79_4, hfz79_5, hfz79_6, hfz79_7⟩ := ZF8 BK360))
             go_meet
             case rel => exact ⟨_, (true), (by first | rfl | (simp; done) | (simp [*]; done)), H', ⟨by have := HK1.out; first | omega | exact Nat.le_refl _⟩, ⟨ZK BK358.out⟩, ⟨ZK BK360.out⟩, ⟨ZB⟩⟩
        ·replace c14 := Bool.eq_false_iff.mpr c14
         subst c14
         have H1 : (impl_Prog_stepsOk.j1 k1 a2 l1 (l1.length : Int) x12_1 true l0_0 l0_1 ((rd_T59 l1 x12_1).f0) ((rd_T59 l1 x12_1).f1) ((rd_T59 l1 x12_1).f2.f0) ((rd_T59 l1 x12_1).f2.f1) ((rd_T59 l1 x12_1).f2.f2) ((rd_T59 l1 x12_1).f3) ((rd_T59 l1 x12_1).f4) ((rd_T59 l1 x12_1).f5)) = some r := by rw [if_neg (show ¬ (false = true) by decide)] at H; exact H
         clear H
         have H := H1
         clear H1
         have H' := Aside0.mk H
         clear H
         have hnb80 := NB358_360.out
         have hnc80 := NB360_358.out
         obtain ⟨hcz81_0, hcz81_1⟩ := ZC2 w9 BK358
         obtain ⟨hfz81_0, hfz81_1⟩ := ZF2 BK358
         obtain ⟨hcz82_0, hcz82_1, hcz82_2, hcz82_3, hcz82_4, hcz82_5, hcz82_6, hcz82_7⟩ := ZC8 w9 BK360
         obtain ⟨hfz82_0, hfz82_1, hfz82_2, hfz82_3, hfz82_4, hfz82_5, hfz82_6, hfz82_7⟩ := ZF8 BK360
         go_wp2_with (first | (go_at_call 126; (with_reducible refine (impl_Prog_isVar.calls _ _ l0_0 _ _ l0_1 ((rd_T59 l1 x12_1).f1) false _ ?side1 ?side2 ?side3 ?side4 A13.out).mono ?_); (case side1 => exact Kd.C_below HR0_0.out (ZB)); (case side2 => exact HC0_0.out); (case side3 => exact Kd.C_below HR0_1.out (ZB)); (case side4 => exact HC0_1.out); rintro e w83 ⟨rfl, hb⟩; replace BK358 := ZV #[.slice A0_0 l0_0.length c0_0, .slice A0_1 l0_1.length c0_1] BK358 hb; replace BK360 := ZV #[.int .i64 ((rd_T59 l1 x12_1).f0), .int .i64 ((rd_T59 l1 x12_1).f1), .int .i64 ((rd_T59 l1 x12_1).f2.f0), .int .i64 ((rd_T59 l1 x12_1).f2.f1), .int .i64 ((rd_T59 l1 x12_1).f2.f2), .int .i64 ((rd_T59 l1 x12_1).f3), .slice A359_6 ((rd_T59 l1 x12_1).f4).length c359_6, .slice A359_7 ((rd_T59 l1 x12_1).f5).length c359_7] BK360 hb; replace HB := ZT HB hb; (try clear hb); (try clear hb2); (try clear hk); (try clear hi)))
         go_meet
         case rel => exact ⟨_, (true), (by first | rfl | (simp; done) | (simp [*]; done)), H', ⟨by have := HK1.out; first | omega | exact Nat.le_refl _⟩, ⟨ZK BK358.out⟩, ⟨ZK BK360.out⟩, ⟨ZB⟩⟩
      case rest =>
       clear HC8
       try clear c1
       try clear c2
       try clear p2
       try clear c3
       try clear p3
       try clear q3
       try clear hx3
       try clear c4
       try clear c5
       try clear c5b0
       try clear c6
       try clear c6b0
       try clear p6
       try clear c7
       try clear c7b0
       try clear c8
       try clear c9
       try clear c10
       try clear c12
       try clear c12b0
       try clear c14
       try clear c15
       try clear c15b0
       try clear c15b1
       try clear c16
       try clear c16b0
       try clear c16b1
       try clear c17
       try clear c17b0
       try clear c17b1
       try clear c18
       try clear c23
       try clear c28
       try clear c28b0
       try clear c28b1
       try clear c29
       try clear c29b0
       try clear c29b1
       try clear c30
       try clear c35
       try clear p35
       try clear q35
       try clear hx35
       try clear c40
       try clear c45
       try clear c45b0
       try clear c46
       try clear c51
       try clear c51b0
       try clear c51b1
       try clear c52
       try clear c52b0
       try clear c52b1
       try clear c53
       try clear c58
       try clear c63
       try clear c63b0
       try clear c63b1
       try clear c64
       try clear c64b0
       try clear c64b1
       try clear p64
       try clear c65
       try clear c70
       try clear c75
       try clear c80
       try clear hcz11_0
       try clear hcz11_1
       try clear hcz11_2
       try clear hcz11_3
       try clear hcz11_4
       try clear hcz11_5
       try clear hcz11_6
       try clear hcz11_7
       try clear hcz19_0
       try clear hcz19_1
       try clear hcz20_0
       try clear hcz20_1
       try clear hcz20_2
       try clear hcz20_3
       try clear hcz20_4
       try clear hcz20_5
       try clear hcz20_6
       try clear hcz20_7
       try clear hcz22_0
       try clear hcz22_1
       try clear hcz22_2
       try clear hcz22_3
       try clear hcz22_4
       try clear hcz22_5
       try clear hcz22_6
       try clear hcz22_7
       try clear hcz24_0
       try clear hcz24_1
       try clear hcz25_0
       try clear hcz25_1
       try clear hcz25_2
       try clear hcz25_3
       try clear hcz25_4
       try clear hcz25_5
       try clear hcz25_6
       try clear hcz25_7
       try clear hcz27_0
       try clear hcz27_1
       try clear hcz27_2
       try clear hcz27_3
       try clear hcz27_4
       try clear hcz27_5
       try clear hcz27_6
       try clear hcz27_7
       try clear hcz31_0
       try clear hcz31_1
       try clear hcz32_0
       try clear hcz32_1
       try clear hcz32_2
       try clear hcz32_3
       try clear hcz32_4
       try clear hcz32_5
       try clear hcz32_6
       try clear hcz32_7
       try clear hcz34_0
       try clear hcz34_1
       try clear hcz34_2
       try clear hcz34_3
       try clear hcz34_4
       try clear hcz34_5
       try clear hcz34_6
       try clear hcz34_7
       try clear hcz36_0
       try clear hcz36_1
       try clear hcz37_0
       try clear hcz37_1
       try clear hcz37_2
       try clear hcz37_3
       try clear hcz37_4
       try clear hcz37_5
       try clear hcz37_6
       try clear hcz37_7
       try clear hcz39_0
       try clear hcz39_1
       try clear hcz39_2
       try clear hcz39_3
       try clear hcz39_4
       try clear hcz39_5
       try clear hcz39_6
       try clear hcz39_7
       try clear hcz41_0
       try clear hcz41_1
       try clear hcz42_0
       try clear hcz42_1
       try clear hcz42_2
       try clear hcz42_3
       try clear hcz42_4
       try clear hcz42_5
       try clear hcz42_6
       try clear hcz42_7
       try clear hcz44_0
       try clear hcz44_1
       try clear hcz44_2
       try clear hcz44_3
       try clear hcz44_4
       try clear hcz44_5
       try clear hcz44_6
       try clear hcz44_7
       try clear hcz47_0
       try clear hcz47_1
       try clear hcz48_0
       try clear hcz48_1
       try clear hcz48_2
       try clear hcz48_3
       try clear hcz48_4
       try clear hcz48_5
       try clear hcz48_6
       try clear hcz48_7
       try clear hcz50_0
       try clear hcz50_1
       try clear hcz50_2
       try clear hcz50_3
       try clear hcz50_4
       try clear hcz50_5
       try clear hcz50_6
       try clear hcz50_7
       try clear hcz54_0
       try clear hcz54_1
       try clear hcz55_0
       try clear hcz55_1
       try clear hcz55_2
       try clear hcz55_3
       try clear hcz55_4
       try clear hcz55_5
       try clear hcz55_6
       try clear hcz55_7
       try clear hcz57_0
       try clear hcz57_1
       try clear hcz57_2
       try clear hcz57_3
       try clear hcz57_4
       try clear hcz57_5
       try clear hcz57_6
       try clear hcz57_7
       try clear hcz59_0
       try clear hcz59_1
       try clear hcz60_0
       try clear hcz60_1
       try clear hcz60_2
       try clear hcz60_3
       try clear hcz60_4
       try clear hcz60_5
       try clear hcz60_6
       try clear hcz60_7
       try clear hcz62_0
       try clear hcz62_1
       try clear hcz62_2
       try clear hcz62_3
       try clear hcz62_4
       try clear hcz62_5
       try clear hcz62_6
       try clear hcz62_7
       try clear hcz66_0
       try clear hcz66_1
       try clear hcz67_0
       try clear hcz67_1
       try clear hcz67_2
       try clear hcz67_3
       try clear hcz67_4
       try clear hcz67_5
       try clear hcz67_6
       try clear hcz67_7
       try clear hcz69_0
       try clear hcz69_1
       try clear hcz69_2
       try clear hcz69_3
       try clear hcz69_4
       try clear hcz69_5
       try clear hcz69_6
       try clear hcz69_7
       try clear hcz71_0
       try clear hcz71_1
       try clear hcz72_0
       try clear hcz72_1
       try clear hcz72_2
       try clear hcz72_3
       try clear hcz72_4
       try clear hcz72_5
       try clear hcz72_6
       try clear hcz72_7
       try clear hcz74_0
       try clear hcz74_1
       try clear hcz74_2
       try clear hcz74_3
       try clear hcz74_4
       try clear hcz74_5
       try clear hcz74_6
       try clear hcz74_7
       try clear hcz76_0
       try clear hcz76_1
       try clear hcz77_0
       try clear hcz77_1
       try clear hcz77_2
       try clear hcz77_3
       try clear hcz77_4
       try clear hcz77_5
       try clear hcz77_6
       try clear hcz77_7
       try clear hcz79_0
       try clear hcz79_1
       try clear hcz79_2
       try clear hcz79_3
       try clear hcz79_4
       try clear hcz79_5
       try clear hcz79_6
       try clear hcz79_7
       try clear hcz81_0
       try clear hcz81_1
       try clear hcz82_0
       try clear hcz82_1
       try clear hcz82_2
       try clear hcz82_3
       try clear hcz82_4
       try clear hcz82_5
       try clear hcz82_6
       try clear hcz82_7
       try clear hfz11_0
       try clear hfz11_1
       try clear hfz11_2
       try clear hfz11_3
       try clear hfz11_4
       try clear hfz11_5
       try clear hfz11_6
       try clear hfz11_7
       try clear hfz19_0
       try clear hfz19_1
       try clear hfz20_0
       try clear hfz20_1
       try clear hfz20_2
       try clear hfz20_3
       try clear hfz20_4
       try clear hfz20_5
       try clear hfz20_6
       try clear hfz20_7
       try clear hfz22_0
       try clear hfz22_1
       try clear hfz22_2
       try clear hfz22_3
       try clear hfz22_4
       try clear hfz22_5
       try clear hfz22_6
       try clear hfz22_7
       try clear hfz24_0
       try clear hfz24_1
       try clear hfz25_0
       try clear hfz25_1
       try clear hfz25_2
       try clear hfz25_3
       try clear hfz25_4
       try clear hfz25_5
       try clear hfz25_6
       try clear hfz25_7
       try clear hfz27_0
       try clear hfz27_1
       try clear hfz27_2
       try clear hfz27_3
       try clear hfz27_4
       try clear hfz27_5
       try clear hfz27_6
       try clear hfz27_7
       try clear hfz31_0
       try clear hfz31_1
       try clear hfz32_0
       try clear hfz32_1
       try clear hfz32_2
       try clear hfz32_3
       try clear hfz32_4
       try clear hfz32_5
       try clear hfz32_6
       try clear hfz32_7
       try clear hfz34_0
       try clear hfz34_1
       try clear hfz34_2
       try clear hfz34_3
       try clear hfz34_4
       try clear hfz34_5
       try clear hfz34_6
       try clear hfz34_7
       try clear hfz36_0
       try clear hfz36_1
       try clear hfz37_0
       try clear hfz37_1
       try clear hfz37_2
       try clear hfz37_3
       try clear hfz37_4
       try clear hfz37_5
       try clear hfz37_6
       try clear hfz37_7
       try clear hfz39_0
       try clear hfz39_1
       try clear hfz39_2
       try clear hfz39_3
       try clear hfz39_4
       try clear hfz39_5
       try clear hfz39_6
       try clear hfz39_7
       try clear hfz41_0
       try clear hfz41_1
       try clear hfz42_0
       try clear hfz42_1
       try clear hfz42_2
       try clear hfz42_3
       try clear hfz42_4
       try clear hfz42_5
       try clear hfz42_6
       try clear hfz42_7
       try clear hfz44_0
       try clear hfz44_1
       try clear hfz44_2
       try clear hfz44_3
       try clear hfz44_4
       try clear hfz44_5
       try clear hfz44_6
       try clear hfz44_7
       try clear hfz47_0
       try clear hfz47_1
       try clear hfz48_0
       try clear hfz48_1
       try clear hfz48_2
       try clear hfz48_3
       try clear hfz48_4
       try clear hfz48_5
       try clear hfz48_6
       try clear hfz48_7
       try clear hfz50_0
       try clear hfz50_1
       try clear hfz50_2
       try clear hfz50_3
       try clear hfz50_4
       try clear hfz50_5
       try clear hfz50_6
       try clear hfz50_7
       try clear hfz54_0
       try clear hfz54_1
       try clear hfz55_0
       try clear hfz55_1
       try clear hfz55_2
       try clear hfz55_3
       try clear hfz55_4
       try clear hfz55_5
       try clear hfz55_6
       try clear hfz55_7
       try clear hfz57_0
       try clear hfz57_1
       try clear hfz57_2
       try clear hfz57_3
       try clear hfz57_4
       try clear hfz57_5
       try clear hfz57_6
       try clear hfz57_7
       try clear hfz59_0
       try clear hfz59_1
       try clear hfz60_0
       try clear hfz60_1
       try clear hfz60_2
       try clear hfz60_3
       try clear hfz60_4
       try clear hfz60_5
       try clear hfz60_6
       try clear hfz60_7
       try clear hfz62_0
       try clear hfz62_1
       try clear hfz62_2
       try clear hfz62_3
       try clear hfz62_4
       try clear hfz62_5
       try clear hfz62_6
       try clear hfz62_7
       try clear hfz66_0
       try clear hfz66_1
       try clear hfz67_0
       try clear hfz67_1
       try clear hfz67_2
       try clear hfz67_3
       try clear hfz67_4
       try clear hfz67_5
       try clear hfz67_6
       try clear hfz67_7
       try clear hfz69_0
       try clear hfz69_1
       try clear hfz69_2
       try clear hfz69_3
       try clear hfz69_4
       try clear hfz69_5
       try clear hfz69_6
       try clear hfz69_7
       try clear hfz71_0
       try clear hfz71_1
       try clear hfz72_0
       try clear hfz72_1
       try clear hfz72_2
       try clear hfz72_3
       try clear hfz72_4
       try clear hfz72_5
       try clear hfz72_6
       try clear hfz72_7
       try clear hfz74_0
       try clear hfz74_1
       try clear hfz74_2
       try clear hfz74_3
       try clear hfz74_4
       try clear hfz74_5
       try clear hfz74_6
       try clear hfz74_7
       try clear hfz76_0
       try clear hfz76_1
       try clear hfz77_0
       try clear hfz77_1
       try clear hfz77_2
       try clear hfz77_3
       try clear hfz77_4
       try clear hfz77_5
       try clear hfz77_6
       try clear hfz77_7
       try clear hfz79_0
       try clear hfz79_1
       try clear hfz79_2
       try clear hfz79_3
       try clear hfz79_4
       try clear hfz79_5
       try clear hfz79_6
       try clear hfz79_7
       try clear hfz81_0
       try clear hfz81_1
       try clear hfz82_0
       try clear hfz82_1
       try clear hfz82_2
       try clear hfz82_3
       try clear hfz82_4
       try clear hfz82_5
       try clear hfz82_6
       try clear hfz82_7
       try clear hx359_0
       try clear hx359_1
       try clear hx359_2
       try clear hx359_3
       try clear hx359_4
       try clear hx359_5
       try clear hx359_6
       try clear hx359_7
       try clear p2
       try clear p359
       try clear q359
       obtain ⟨kq, x60_7, rfl, HA, HJ7, BK358, BK360, HB⟩ := hcut
       cases kq with
       | zero => exact absurd HA.out (by simp [impl_Prog_stepsOk.j1])
       | succ kj7 =>
        have H := HA.out
        clear HA
        simp only [impl_Prog_stepsOk.j1] at H
        by_cases c84 : x60_7 = true
        ·subst c84
         have H1 : (some false) = some r := by rw [if_pos rfl] at H; exact H
         clear H
         have H := H1
         clear H1
         obtain rfl := Option.some.inj H
         go_wp2
         go_ret
         exact ⟨ZE, ZB⟩
        ·replace c84 := Bool.eq_false_iff.mpr c84
         subst c84
         have H1 : (if ((rd_T59 l1 x12_1).f0) = 1 then ((impl_Prog_valOk.f l0_0 l0_1 ((rd_T59 l1 x12_1).f2.f0) ((rd_T59 l1 x12_1).f2.f1) ((rd_T59 l1 x12_1).f2.f2)).bind fun t362 => (if t362 = true then (impl_Prog_stepsOk.l0 kj7 a2 l1 (l1.length : Int) (wrap64 (x12_1 + 1)) l0_0 l0_1) else (some false))) else (if ((rd_T59 l1 x12_1).f0) = 2 then ((impl_Prog_stepsOk.f kj7 l0_0 l0_1 ((rd_T59 l1 x12_1).f4) (wrap64 (a2 - 1))).bind fun t363 => (if t363 = true then ((impl_Prog_stepsOk.f kj7 l0_0 l0_1 ((rd_T59 l1 x12_1).f5) (wrap64 (a2 - 1))).bind fun t364 => (if t364 = true then (impl_Prog_stepsOk.l0 kj7 a2 l1 (l1.length : Int) (wrap64 (x12_1 + 1)) l0_0 l0_1) else (some false))) else (some false))) else (if ((rd_T59 l1 x12_1).f0) = 3 then ((impl_isHost.f ((rd_T59 l1 x12_1).f3)).bind fun t365 => (if t365 = true then (impl_Prog_stepsOk.l0 kj7 a2 l1 (l1.length : Int) (wrap64 (x12_1 + 1)) l0_0 l0_1) else (some false))) else (some false)))) = some r := by rw [if_neg (show ¬ (false = true) by decide)] at H; exact H
         clear H
         have H := H1
         clear H1
         by_cases c85 : ((rd_T59 l1 x12_1).f0) = 1
         ·rw [if_pos c85] at H
          have c85b0 : (((rd_T59 l1 x12_1).f0) == 1) = true := beq_iff_eq.mpr c85
          have c85b1 : (((rd_T59 l1 x12_1).f0) != 1) = false := bne_eq_false_iff_eq.mpr c85
          clear c85
          replace H := Option.bind_eq_some_iff.mp H
          obtain ⟨t362, A860, H⟩ := H
          replace H : (if t362 = true then (impl_Prog_stepsOk.l0 kj7 a2 l1 (l1.length : Int) (wrap64 (x12_1 + 1)) l0_0 l0_1) else (some false)) = some r := H
          have A86 := Aside0.mk A860
          clear A860
          by_cases c87 : t362 = true
          ·subst c87
           have H1 : (impl_Prog_stepsOk.l0 kj7 a2 l1 (l1.length : Int) (wrap64 (x12_1 + 1)) l0_0 l0_1) = some r := by rw [if_pos rfl] at H; exact H
           clear H
           have H := H1
           clear H1
           have H' := Aside0.mk H
           clear H
           have hnb88 := NB360_358.out
           have hnc88 := NB358_360.out
           obtain ⟨hcz89_0, hcz89_1, hcz89_2, hcz89_3, hcz89_4, hcz89_5, hcz89_6, hcz89_7⟩ := ZC8 wc BK360
           obtain ⟨hfz89_0, hfz89_1, hfz89_2, hfz89_3, hfz89_4, hfz89_5, hfz89_6, hfz89_7⟩ := ZF8 BK360
           obtain ⟨hcz90_0, hcz90_1⟩ := ZC2 wc BK358
           obtain ⟨hfz90_0, hfz90_1⟩ := ZF2 BK358
           go_wp2_with (first | ((with_reducible refine gate_callee (f := 127) rfl ?_); refine goesL_ (some 68) rfl rfl Try.func127 (by kernel_rfl) rfl #[.agg #[.slice A0_0 l0_0.length c0_0, .slice A0_1 l0_1.length c0_1], .agg #[.int .i64 ((rd_T59 l1 x12_1).f2.f0), .int .i64 ((rd_T59 l1 x12_1).f2.f1), .int .i64 ((rd_T59 l1 x12_1).f2.f2)]] rfl ZG ?_; (with_reducible refine (impl_Prog_valOk.calls _ _ l0_0 _ _ l0_1 ((rd_T59 l1 x12_1).f2.f0) ((rd_T59 l1 x12_1).f2.f1) ((rd_T59 l1 x12_1).f2.f2) true _ ?side1 ?side2 ?side3 ?side4 A86.out).mono ?_); (case side1 => exact ZQ (Kd.C_below HR0_0.out HB.out)); (case side2 => exact HC0_0.out); (case side3 => exact ZQ (Kd.C_below HR0_1.out HB.out)); (case side4 => exact HC0_1.out); rintro e w91 ⟨rfl, hb⟩; refine ⟨_, rfl, ?_⟩; replace BK358 := ZW BK358 hb; replace BK360 := ZW BK360 hb; replace HB := ZT HB hb; (try clear hb); (try clear hb2); (try clear hk); (try clear hi)))
           go_roundg kj7
           case measure => have := HK1.out; have := HJ7.out; omega
           case rel => exact ⟨(wrap64 (x12_1 + 1)), (by first | rfl | (simp; done) | (simp [*]; done)), H', ⟨by have := HK1.out; have := HJ7.out; omega⟩, ⟨ZK BK358.out⟩, ⟨ZB⟩⟩
          ·replace c87 := Bool.eq_false_iff.mpr c87
           subst c87
           have H1 : (some false) = some r := by rw [if_neg (show ¬ (false = true) by decide)] at H; exact H
           clear H
           have H := H1
           clear H1
           obtain rfl := Option.some.inj H
           have hnb92 := NB360_358.out
           have hnc92 := NB358_360.out
           obtain ⟨hcz93_0, hcz93_1, hcz93_2, hcz93_3, hcz93_4, hcz93_5, hcz93_6, hcz93_7⟩ := ZC8 wc BK360
           obtain ⟨hfz93_0, hfz93_1, hfz93_2, hfz93_3, hfz93_4, hfz93_5, hfz93_6, hfz93_7⟩ := ZF8 BK360
           obtain ⟨hcz94_0, hcz94_1⟩ := ZC2 wc BK358
           obtain ⟨hfz94_0, hfz94_1⟩ := ZF2 BK358
           go_wp2_with (first | ((with_reducible refine gate_callee (f := 127) rfl ?_); refine goesL_ (some 68) rfl rfl Try.func127 (by kernel_rfl) rfl #[.agg #[.slice A0_0 l0_0.length c0_0, .slice A0_1 l0_1.length c0_1], .agg #[.int .i64 ((rd_T59 l1 x12_1).f2.f0), .int .i64 ((rd_T59 l1 x12_1).f2.f1), .int .i64 ((rd_T59 l1 x12_1).f2.f2)]] rfl ZG ?_; (with_reducible refine (impl_Prog_valOk.calls _ _ l0_0 _ _ l0_1 ((rd_T59 l1 x12_1).f2.f0) ((rd_T59 l1 x12_1).f2.f1) ((rd_T59 l1 x12_1).f2.f2) false _ ?side1 ?side2 ?side3 ?side4 A86.out).mono ?_); (case side1 => exact ZQ (Kd.C_below HR0_0.out HB.out)); (case side2 => exact HC0_0.out); (case side3 => exact ZQ (Kd.C_below HR0_1.out HB.out)); (case side4 => exact HC0_1.out); rintro e w95 ⟨rfl, hb⟩; refine ⟨_, rfl, ?_⟩; replace BK358 := ZW BK358 hb; replace BK360 := ZW BK360 hb; replace HB := ZT HB hb; (try clear hb); (try clear hb2); (try clear hk); (try clear hi)))
           go_ret
           exact ⟨ZE, ZB⟩
         ·rw [if_neg c85] at H
          have c85b0 : (((rd_T59 l1 x12_1).f0) == 1) = false := beq_eq_false_iff_ne.mpr c85
          have c85b1 : (((rd_T59 l1 x12_1).f0) != 1) = true := bne_iff_ne.mpr c85
          by_cases c96 : ((rd_T59 l1 x12_1).f0) = 2
          ·rw [if_pos c96] at H
           have c96b0 : (((rd_T59 l1 x12_1).f0) == 2) = true := beq_iff_eq.mpr c96
           have c96b1 : (((rd_T59 l1 x12_1).f0) != 2) = false := bne_eq_false_iff_eq.mpr c96
           clear c96
           replace H := Option.bind_eq_some_iff.mp H
           obtain ⟨t363, A970, H⟩ := H
           replace H : (if t363 = true then ((impl_Prog_stepsOk.f kj7 l0_0 l0_1 ((rd_T59 l1 x12_1).f5) (wrap64 (a2 - 1))).bind fun t364 => (if t364 = true then (impl_Prog_stepsOk.l0 kj7 a2 l1 (l1.length : Int) (wrap64 (x12_1 + 1)) l0_0 l0_1) else (some false))) else (some false)) = some r := H
           have A97 := Aside0.mk A970
           clear A970
           by_cases c98 : t363 = true
           ·subst c98
            have H1 : ((impl_Prog_stepsOk.f kj7 l0_0 l0_1 ((rd_T59 l1 x12_1).f5) (wrap64 (a2 - 1))).bind fun t364 => (if t364 = true then (impl_Prog_stepsOk.l0 kj7 a2 l1 (l1.length : Int) (wrap64 (x12_1 + 1)) l0_0 l0_1) else (some false))) = some r := by rw [if_pos rfl] at H; exact H
            clear H
            have H := H1
            clear H1
            replace H := Option.bind_eq_some_iff.mp H
            obtain ⟨t364, A990, H⟩ := H
            replace H : (if t364 = true then (impl_Prog_stepsOk.l0 kj7 a2 l1 (l1.length : Int) (wrap64 (x12_1 + 1)) l0_0 l0_1) else (some false)) = some r := H
            have A99 := Aside0.mk A990
            clear A990
            by_cases c100 : t364 = true
            ·subst c100
             have H1 : (impl_Prog_stepsOk.l0 kj7 a2 l1 (l1.length : Int) (wrap64 (x12_1 + 1)) l0_0 l0_1) = some r := by rw [if_pos rfl] at H; exact H
             clear H
             have H := H1
             clear H1
             have H' := Aside0.mk H
             clear H
             have hnb101 := NB360_358.out
             have hnc101 := NB358_360.out
             obtain ⟨hcz102_0, hcz102_1, hcz102_2, hcz102_3, hcz102_4, hcz102_5, hcz102_6, hcz102_7⟩ := ZC8 wc BK360
             obtain ⟨hfz102_0, hfz102_1, hfz102_2, hfz102_3, hfz102_4, hfz102_5, hfz102_6, hfz102_7⟩ := ZF8 BK360
             obtain ⟨hcz103_0, hcz103_1⟩ := ZC2 wc BK358
             obtain ⟨hfz103_0, hfz103_1⟩ := ZF2 BK358
             go_wp2_with (first | ((with_reducible refine gate_callee (f := 90) rfl ?_); refine goesL_ (some 76) rfl rfl Try.func90 (by kernel_rfl) rfl #[.agg #[.slice A0_0 l0_0.length c0_0, .slice A0_1 l0_1.length c0_1], .slice A359_6 ((rd_T59 l1 x12_1).f4).length c359_6, .int .i64 (wrap64 (a2 - 1))] rfl ZG ?_; (with_reducible refine (ih kj7 (by have := HK1.out; have := HJ7.out; omega) _ _ l0_0 _ _ l0_1 _ _ ((rd_T59 l1 x12_1).f4) (wrap64 (a2 - 1)) true _ ?side1 ?side2 ?side3 ?side4 ?side5 ?side6 A97.out).mono ?_); (case side1 => exact ZQ (Kd.C_below HR0_0.out HB.out)); (case side2 => exact HC0_0.out); (case side3 => exact ZQ (Kd.C_below HR0_1.out HB.out)); (case side4 => exact HC0_1.out); (case side5 => exact ZQ (Kd.C_below HR359_6.out HB.out)); (case side6 => exact HC359_6.out); rintro e w104 ⟨rfl, hb⟩; refine ⟨_, rfl, ?_⟩; replace BK358 := ZW BK358 hb; replace BK360 := ZW BK360 hb; replace HB := ZT HB hb; (try clear hb); (try clear hb2); (try clear hk); (try clear hi); obtain ⟨hcz105_0, hcz105_1⟩ := ZC2 w104 BK358; obtain ⟨hfz105_0, hfz105_1⟩ := ZF2 BK358; obtain ⟨hcz106_0, hcz106_1, hcz106_2, hcz106_3, hcz106_4, hcz106_5, hcz106_6, hcz106_7⟩ := ZC8 w104 BK360; obtain ⟨hfz106_0, hfz106_1, hfz106_2, hfz106_3, hfz106_4, hfz106_5, hfz106_6, hfz106_7⟩ := ZF8 BK360) | (go_at_call 90; (with_reducible refine (ih kj7 (by have := HK1.out; have := HJ7.out; omega) _ _ l0_0 _ _ l0_1 _ _ ((rd_T59 l1 x12_1).f5) (wrap64 (a2 - 1)) true _ ?side1 ?side2 ?side3 ?side4 ?side5 ?side6 A99.out).mono ?_); (case side1 => exact ZQ (Kd.C_below HR0_0.out HB.out)); (case side2 => exact HC0_0.out); (case side3 => exact ZQ (Kd.C_below HR0_1.out HB.out)); (case side4 => exact HC0_1.out); (case side5 => exact ZQ (Kd.C_below HR359_7.out HB.out)); (case side6 => exact HC359_7.out); rintro e w107 ⟨rfl, hb⟩; replace BK358 := ZW BK358 hb; replace BK360 := ZW BK360 hb; replace HB := ZT HB hb; (try clear hb); (try clear hb2); (try clear hk); (try clear hi)))
             go_roundg kj7
             case measure => have := HK1.out; have := HJ7.out; omega
             case rel => exact ⟨(wrap64 (x12_1 + 1)), (by first | rfl | (simp; done) | (simp [*]; done)), H', ⟨by have := HK1.out; have := HJ7.out; omega⟩, ⟨ZK BK358.out⟩, ⟨ZB⟩⟩
            ·replace c100 := Bool.eq_false_iff.mpr c100
             subst c100
             have H1 : (some false) = some r := by rw [if_neg (show ¬ (false = true) by decide)] at H; exact H
             clear H
             have H := H1
             clear H1
             obtain rfl := Option.some.inj H
             have hnb108 := NB360_358.out
             have hnc108 := NB358_360.out
             obtain ⟨hcz109_0, hcz109_1, hcz109_2, hcz109_3, hcz109_4, hcz109_5, hcz109_6, hcz109_7⟩ := ZC8 wc BK360
             obtain ⟨hfz109_0, hfz109_1, hfz109_2, hfz109_3, hfz109_4, hfz109_5, hfz109_6, hfz109_7⟩ := ZF8 BK360
             obtain ⟨hcz110_0, hcz110_1⟩ := ZC2 wc BK358
             obtain ⟨hfz110_0, hfz110_1⟩ := ZF2 BK358
             go_wp2_with (first | ((with_reducible refine gate_callee (f := 90) rfl ?_); refine goesL_ (some 76) rfl rfl Try.func90 (by kernel_rfl) rfl #[.agg #[.slice A0_0 l0_0.length c0_0, .slice A0_1 l0_1.length c0_1], .slice A359_6 ((rd_T59 l1 x12_1).f4).length c359_6, .int .i64 (wrap64 (a2 - 1))] rfl ZG ?_; (with_reducible refine (ih kj7 (by have := HK1.out; have := HJ7.out; omega) _ _ l0_0 _ _ l0_1 _ _ ((rd_T59 l1 x12_1).f4) (wrap64 (a2 - 1)) true _ ?side1 ?side2 ?side3 ?side4 ?side5 ?side6 A97.out).mono ?_); (case side1 => exact ZQ (Kd.C_below HR0_0.out HB.out)); (case side2 => exact HC0_0.out); (case side3 => exact ZQ (Kd.C_below HR0_1.out HB.out)); (case side4 => exact HC0_1.out); (case side5 => exact ZQ (Kd.C_below HR359_6.out HB.out)); (case side6 => exact HC359_6.out); rintro e w111 ⟨rfl, hb⟩; refine ⟨_, rfl, ?_⟩; replace BK358 := ZW BK358 hb; replace BK360 := ZW BK360 hb; replace HB := ZT HB hb; (try clear hb); (try clear hb2); (try clear hk); (try clear hi); obtain ⟨hcz112_0, hcz112_1⟩ := ZC2 w111 BK358; obtain ⟨hfz112_0, hfz112_1⟩ := ZF2 BK358; obtain ⟨hcz113_0, hcz113_1, hcz113_2, hcz113_3, hcz113_4, hcz113_5, hcz113_6, hcz113_7⟩ := ZC8 w111 BK360; obtain ⟨hfz113_0, hfz113_1, hfz113_2, hfz113_3, hfz113_4, hfz113_5, hfz113_6, hfz113_7⟩ := ZF8 BK360) | (go_at_call 90; (with_reducible refine (ih kj7 (by have := HK1.out; have := HJ7.out; omega) _ _ l0_0 _ _ l0_1 _ _ ((rd_T59 l1 x12_1).f5) (wrap64 (a2 - 1)) false _ ?side1 ?side2 ?side3 ?side4 ?side5 ?side6 A99.out).mono ?_); (case side1 => exact ZQ (Kd.C_below HR0_0.out HB.out)); (case side2 => exact HC0_0.out); (case side3 => exact ZQ (Kd.C_below HR0_1.out HB.out)); (case side4 => exact HC0_1.out); (case side5 => exact ZQ (Kd.C_below HR359_7.out HB.out)); (case side6 => exact HC359_7.out); rintro e w114 ⟨rfl, hb⟩; replace BK358 := ZW BK358 hb; replace BK360 := ZW BK360 hb; replace HB := ZT HB hb; (try clear hb); (try clear hb2); (try clear hk); (try clear hi)))
             go_ret
             exact ⟨ZE, ZB⟩
           ·replace c98 := Bool.eq_false_iff.mpr c98
            subst c98
            have H1 : (some false) = some r := by rw [if_neg (show ¬ (false = true) by decide)] at H; exact H
            clear H
            have H := H1
            clear H1
            obtain rfl := Option.some.inj H
            have hnb115 := NB360_358.out
            have hnc115 := NB358_360.out
            obtain ⟨hcz116_0, hcz116_1, hcz116_2, hcz116_3, hcz116_4, hcz116_5, hcz116_6, hcz116_7⟩ := ZC8 wc BK360
            obtain ⟨hfz116_0, hfz116_1, hfz116_2, hfz116_3, hfz116_4, hfz116_5, hfz116_6, hfz116_7⟩ := ZF8 BK360
            obtain ⟨hcz117_0, hcz117_1⟩ := ZC2 wc BK358
            obtain ⟨hfz117_0, hfz117_1⟩ := ZF2 BK358
            go_wp2_with (first | ((with_reducible refine gate_callee (f := 90) rfl ?_); refine goesL_ (some 76) rfl rfl Try.func90 (by kernel_rfl) rfl #[.agg #[.slice A0_0 l0_0.length c0_0, .slice A0_1 l0_1.length c0_1], .slice A359_6 ((rd_T59 l1 x12_1).f4).length c359_6, .int .i64 (wrap64 (a2 - 1))] rfl ZG ?_; (with_reducible refine (ih kj7 (by have := HK1.out; have := HJ7.out; omega) _ _ l0_0 _ _ l0_1 _ _ ((rd_T59 l1 x12_1).f4) (wrap64 (a2 - 1)) false _ ?side1 ?side2 ?side3 ?side4 ?side5 ?side6 A97.out).mono ?_); (case side1 => exact ZQ (Kd.C_below HR0_0.out HB.out)); (case side2 => exact HC0_0.out); (case side3 => exact ZQ (Kd.C_below HR0_1.out HB.out)); (case side4 => exact HC0_1.out); (case side5 => exact ZQ (Kd.C_below HR359_6.out HB.out)); (case side6 => exact HC359_6.out); rintro e w118 ⟨rfl, hb⟩; refine ⟨_, rfl, ?_⟩; replace BK358 := ZW BK358 hb; replace BK360 := ZW BK360 hb; replace HB := ZT HB hb; (try clear hb); (try clear hb2); (try clear hk); (try clear hi)))
            go_ret
            exact ⟨ZE, ZB⟩
          ·rw [if_neg c96] at H
           have c96b0 : (((rd_T59 l1 x12_1).f0) == 2) = false := beq_eq_false_iff_ne.mpr c96
           have c96b1 : (((rd_T59 l1 x12_1).f0) != 2) = true := bne_iff_ne.mpr c96
           by_cases c119 : ((rd_T59 l1 x12_1).f0) = 3
           ·rw [if_pos c119] at H
            have c119b0 : (((rd_T59 l1 x12_1).f0) == 3) = true := beq_iff_eq.mpr c119
            have c119b1 : (((rd_T59 l1 x12_1).f0) != 3) = false := bne_eq_false_iff_eq.mpr c119
            clear c119
            replace H := Option.bind_eq_some_iff.mp H
            obtain ⟨t365, A1200, H⟩ := H
            replace H : (if t365 = true then (impl_Prog_stepsOk.l0 kj7 a2 l1 (l1.length : Int) (wrap64 (x12_1 + 1)) l0_0 l0_1) else (some false)) = some r := H
            have A120 := Aside0.mk A1200
            clear A1200
            by_cases c121 : t365 = true
            ·subst c121
             have H1 : (impl_Prog_stepsOk.l0 kj7 a2 l1 (l1.length : Int) (wrap64 (x12_1 + 1)) l0_0 l0_1) = some r := by rw [if_pos rfl] at H; exact H
             clear H
             have H := H1
             clear H1
             have H' := Aside0.mk H
             clear H
             have hnb122 := NB360_358.out
             have hnc122 := NB358_360.out
             obtain ⟨hcz123_0, hcz123_1, hcz123_2, hcz123_3, hcz123_4, hcz123_5, hcz123_6, hcz123_7⟩ := ZC8 wc BK360
             obtain ⟨hfz123_0, hfz123_1, hfz123_2, hfz123_3, hfz123_4, hfz123_5, hfz123_6, hfz123_7⟩ := ZF8 BK360
             go_wp2_with (first | ((with_reducible refine gate_callee (f := 128) rfl ?_); refine goesL_ (some 89) rfl rfl Try.func128 (by kernel_rfl) rfl #[.int .i64 ((rd_T59 l1 x12_1).f3)] rfl ZG ?_; (with_reducible refine (impl_isHost.calls ((rd_T59 l1 x12_1).f3) true _ A120.out).mono ?_); rintro e w' ⟨rfl, ⟨nd, rfl⟩⟩; refine ⟨_, rfl, ?_⟩))
             go_roundg kj7
             case measure => have := HK1.out; have := HJ7.out; omega
             case rel => exact ⟨(wrap64 (x12_1 + 1)), (by first | rfl | (simp; done) | (simp [*]; done)), H', ⟨by have := HK1.out; have := HJ7.out; omega⟩, ⟨ZK BK358.out⟩, ⟨ZB⟩⟩
            ·replace c121 := Bool.eq_false_iff.mpr c121
             subst c121
             have H1 : (some false) = some r := by rw [if_neg (show ¬ (false = true) by decide)] at H; exact H
             clear H
             have H := H1
             clear H1
             obtain rfl := Option.some.inj H
             have hnb124 := NB360_358.out
             have hnc124 := NB358_360.out
             obtain ⟨hcz125_0, hcz125_1, hcz125_2, hcz125_3, hcz125_4, hcz125_5, hcz125_6, hcz125_7⟩ := ZC8 wc BK360
             obtain ⟨hfz125_0, hfz125_1, hfz125_2, hfz125_3, hfz125_4, hfz125_5, hfz125_6, hfz125_7⟩ := ZF8 BK360
             go_wp2_with (first | ((with_reducible refine gate_callee (f := 128) rfl ?_); refine goesL_ (some 89) rfl rfl Try.func128 (by kernel_rfl) rfl #[.int .i64 ((rd_T59 l1 x12_1).f3)] rfl ZG ?_; (with_reducible refine (impl_isHost.calls ((rd_T59 l1 x12_1).f3) false _ A120.out).mono ?_); rintro e w' ⟨rfl, ⟨nd, rfl⟩⟩; refine ⟨_, rfl, ?_⟩))
             go_ret
             exact ⟨ZE, ZB⟩
           ·rw [if_neg c119] at H
            have c119b0 : (((rd_T59 l1 x12_1).f0) == 3) = false := beq_eq_false_iff_ne.mpr c119
            have c119b1 : (((rd_T59 l1 x12_1).f0) != 3) = true := bne_iff_ne.mpr c119
            obtain rfl := Option.some.inj H
            have hnb126 := NB360_358.out
            have hnc126 := NB358_360.out
            obtain ⟨hcz127_0, hcz127_1, hcz127_2, hcz127_3, hcz127_4, hcz127_5, hcz127_6, hcz127_7⟩ := ZC8 wc BK360
            obtain ⟨hfz127_0, hfz127_1, hfz127_2, hfz127_3, hfz127_4, hfz127_5, hfz127_6, hfz127_7⟩ := ZF8 BK360
            go_wp2
            go_ret
            exact ⟨ZE, ZB⟩
     ·rw [if_neg c7] at H
      exact absurd H (by simp)
    ·rw [if_neg c6] at H
     exact absurd H (by simp)
   ·rw [if_neg c5] at H
    have c5b0 : decide (x12_1 < (l1.length : Int)) = false := decide_eq_false c5
    clear c5
    obtain rfl := Option.some.inj H
    go_wp2
    go_ret
    exact ⟨ZE, ZB⟩

end Go.Proofs.Ytcffnnedghgmaaa.A
