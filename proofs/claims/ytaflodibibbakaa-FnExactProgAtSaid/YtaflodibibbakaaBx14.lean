/- Go functions as Lean functions, and for each its contract; written by wip/tools/pr.py over the kit's print. -/
import Derived.Test.YtaflodibibbakaaBx0
import Derived.Test.YtaflodibibbakaaBx1
import Derived.Test.YtaflodibibbakaaBx12
import Derived.Test.YtaflodibibbakaaBx13
namespace Go.Proofs.Ytaflodibibbakaa.B
open Go.RowKit Go.Proofs.YtaflodibibbakaaW.PrintWords Go.Proofs.YtaflodibibbakaaW.PrintLast Go.Proofs.YtaflodibibbakaaW.PrintMore
attribute [local go_sem] max2_int min2_int max_two min_two max_three min_three max_four min_four
set_option linter.unusedVariables false
set_option linter.unusedSimpArgs false
set_option maxHeartbeats 8000000
set_option maxRecDepth 100000

attribute [local go_sem high] eqA48
/-! ### impl_Prog_stepsOk: function 73 -/
mutual
def impl_Prog_stepsOk.l0 : Nat → Int → List (S50) → Int → Int → List (S60) → List (S50) → Option (Bool)
 | 0, _, _, _, _, _, _ => none
 | k + 1, x2, x10, x11, x12, x290000, x290001 => if x12 < x11 then (if 0 ≤ x12 then (if x12 < (x10.length : Int) then (if x2 < 1 then (impl_Prog_stepsOk.j1 k x2 x10 x11 x12 true x290000 x290001 ((rd_T50 x10 x12).f0) ((rd_T50 x10 x12).f1) ((rd_T50 x10 x12).f2.f0) ((rd_T50 x10 x12).f2.f1) ((rd_T50 x10 x12).f2.f2) ((rd_T50 x10 x12).f3) ((rd_T50 x10 x12).f4) ((rd_T50 x10 x12).f5)) else ((impl_Prog_isVar.f x290000 x290001 ((rd_T50 x10 x12).f1)).bind fun t292 => (if t292 = true then (if ((rd_T50 x10 x12).f0) = 1 then (if ((rd_T50 x10 x12).f0) = 3 then (if ((rd_T50 x10 x12).f0) = 2 then (impl_Prog_stepsOk.j1 k x2 x10 x11 x12 false x290000 x290001 ((rd_T50 x10 x12).f0) ((rd_T50 x10 x12).f1) ((rd_T50 x10 x12).f2.f0) ((rd_T50 x10 x12).f2.f1) ((rd_T50 x10 x12).f2.f2) ((rd_T50 x10 x12).f3) ((rd_T50 x10 x12).f4) ((rd_T50 x10 x12).f5)) else (impl_Prog_stepsOk.j1 k x2 x10 x11 x12 (decide ((wrap64 ((((rd_T50 x10 x12).f4).length : Int) + (((rd_T50 x10 x12).f5).length : Int))) > 0)) x290000 x290001 ((rd_T50 x10 x12).f0) ((rd_T50 x10 x12).f1) ((rd_T50 x10 x12).f2.f0) ((rd_T50 x10 x12).f2.f1) ((rd_T50 x10 x12).f2.f2) ((rd_T50 x10 x12).f3) ((rd_T50 x10 x12).f4) ((rd_T50 x10 x12).f5))) else (if ((rd_T50 x10 x12).f3) = 0 then (if ((rd_T50 x10 x12).f0) = 2 then (impl_Prog_stepsOk.j1 k x2 x10 x11 x12 false x290000 x290001 ((rd_T50 x10 x12).f0) ((rd_T50 x10 x12).f1) ((rd_T50 x10 x12).f2.f0) ((rd_T50 x10 x12).f2.f1) ((rd_T50 x10 x12).f2.f2) ((rd_T50 x10 x12).f3) ((rd_T50 x10 x12).f4) ((rd_T50 x10 x12).f5)) else (impl_Prog_stepsOk.j1 k x2 x10 x11 x12 (decide ((wrap64 ((((rd_T50 x10 x12).f4).length : Int) + (((rd_T50 x10 x12).f5).length : Int))) > 0)) x290000 x290001 ((rd_T50 x10 x12).f0) ((rd_T50 x10 x12).f1) ((rd_T50 x10 x12).f2.f0) ((rd_T50 x10 x12).f2.f1) ((rd_T50 x10 x12).f2.f2) ((rd_T50 x10 x12).f3) ((rd_T50 x10 x12).f4) ((rd_T50 x10 x12).f5))) else (impl_Prog_stepsOk.j1 k x2 x10 x11 x12 true x290000 x290001 ((rd_T50 x10 x12).f0) ((rd_T50 x10 x12).f1) ((rd_T50 x10 x12).f2.f0) ((rd_T50 x10 x12).f2.f1) ((rd_T50 x10 x12).f2.f2) ((rd_T50 x10 x12).f3) ((rd_T50 x10 x12).f4) ((rd_T50 x10 x12).f5)))) else (if (!(((rd_T50 x10 x12).f2.f0) == 0) || (!(((rd_T50 x10 x12).f2.f1) == 0) || (!(((rd_T50 x10 x12).f2.f2) == 0)))) = true then (impl_Prog_stepsOk.j1 k x2 x10 x11 x12 true x290000 x290001 ((rd_T50 x10 x12).f0) ((rd_T50 x10 x12).f1) ((rd_T50 x10 x12).f2.f0) ((rd_T50 x10 x12).f2.f1) ((rd_T50 x10 x12).f2.f2) ((rd_T50 x10 x12).f3) ((rd_T50 x10 x12).f4) ((rd_T50 x10 x12).f5)) else (if ((rd_T50 x10 x12).f0) = 3 then (if ((rd_T50 x10 x12).f0) = 2 then (impl_Prog_stepsOk.j1 k x2 x10 x11 x12 false x290000 x290001 ((rd_T50 x10 x12).f0) ((rd_T50 x10 x12).f1) ((rd_T50 x10 x12).f2.f0) ((rd_T50 x10 x12).f2.f1) ((rd_T50 x10 x12).f2.f2) ((rd_T50 x10 x12).f3) ((rd_T50 x10 x12).f4) ((rd_T50 x10 x12).f5)) else (impl_Prog_stepsOk.j1 k x2 x10 x11 x12 (decide ((wrap64 ((((rd_T50 x10 x12).f4).length : Int) + (((rd_T50 x10 x12).f5).length : Int))) > 0)) x290000 x290001 ((rd_T50 x10 x12).f0) ((rd_T50 x10 x12).f1) ((rd_T50 x10 x12).f2.f0) ((rd_T50 x10 x12).f2.f1) ((rd_T50 x10 x12).f2.f2) ((rd_T50 x10 x12).f3) ((rd_T50 x10 x12).f4) ((rd_T50 x10 x12).f5))) else (if ((rd_T50 x10 x12).f3) = 0 then (if ((rd_T50 x10 x12).f0) = 2 then (impl_Prog_stepsOk.j1 k x2 x10 x11 x12 false x290000 x290001 ((rd_T50 x10 x12).f0) ((rd_T50 x10 x12).f1) ((rd_T50 x10 x12).f2.f0) ((rd_T50 x10 x12).f2.f1) ((rd_T50 x10 x12).f2.f2) ((rd_T50 x10 x12).f3) ((rd_T50 x10 x12).f4) ((rd_T50 x10 x12).f5)) else (impl_Prog_stepsOk.j1 k x2 x10 x11 x12 (decide ((wrap64 ((((rd_T50 x10 x12).f4).length : Int) + (((rd_T50 x10 x12).f5).length : Int))) > 0)) x290000 x290001 ((rd_T50 x10 x12).f0) ((rd_T50 x10 x12).f1) ((rd_T50 x10 x12).f2.f0) ((rd_T50 x10 x12).f2.f1) ((rd_T50 x10 x12).f2.f2) ((rd_T50 x10 x12).f3) ((rd_T50 x10 x12).f4) ((rd_T50 x10 x12).f5))) else (impl_Prog_stepsOk.j1 k x2 x10 x11 x12 true x290000 x290001 ((rd_T50 x10 x12).f0) ((rd_T50 x10 x12).f1) ((rd_T50 x10 x12).f2.f0) ((rd_T50 x10 x12).f2.f1) ((rd_T50 x10 x12).f2.f2) ((rd_T50 x10 x12).f3) ((rd_T50 x10 x12).f4) ((rd_T50 x10 x12).f5)))))) else (impl_Prog_stepsOk.j1 k x2 x10 x11 x12 true x290000 x290001 ((rd_T50 x10 x12).f0) ((rd_T50 x10 x12).f1) ((rd_T50 x10 x12).f2.f0) ((rd_T50 x10 x12).f2.f1) ((rd_T50 x10 x12).f2.f2) ((rd_T50 x10 x12).f3) ((rd_T50 x10 x12).f4) ((rd_T50 x10 x12).f5))))) else (none)) else (none)) else (some true)
def impl_Prog_stepsOk.j1 : Nat → Int → List (S50) → Int → Int → Bool → List (S60) → List (S50) → Int → Int → Int → Int → Int → Int → List (S50) → List (S50) → Option (Bool)
 | 0, _, _, _, _, _, _, _, _, _, _, _, _, _, _, _ => none
 | k + 1, x2, x10, x11, x12, x60, x290000, x290001, x292000, x292001, x292002, x292003, x292004, x292005, x292006, x292007 => if x60 = true then (some false) else (if x292000 = 1 then ((impl_Prog_valOk.f x290000 x290001 x292002 x292003 x292004).bind fun t293 => (if t293 = true then (impl_Prog_stepsOk.l0 k x2 x10 x11 (wrap64 (x12 + 1)) x290000 x290001) else (some false))) else (if x292000 = 2 then ((impl_Prog_stepsOk.f k x290000 x290001 x292006 (wrap64 (x2 - 1))).bind fun t294 => (if t294 = true then ((impl_Prog_stepsOk.f k x290000 x290001 x292007 (wrap64 (x2 - 1))).bind fun t295 => (if t295 = true then (impl_Prog_stepsOk.l0 k x2 x10 x11 (wrap64 (x12 + 1)) x290000 x290001) else (some false))) else (some false))) else (if x292000 = 3 then ((impl_isHost.f x292005).bind fun t296 => (if t296 = true then (impl_Prog_stepsOk.l0 k x2 x10 x11 (wrap64 (x12 + 1)) x290000 x290001) else (some false))) else (some false))))
def impl_Prog_stepsOk.f : Nat → List (S60) → List (S50) → List (S50) → Int → Option (Bool)
 | 0, _, _, _, _ => none
 | k + 1, l0_0, l0_1, l1, a2 => impl_Prog_stepsOk.l0 k a2 l1 (l1.length : Int) 0 l0_0 l0_1
end
theorem impl_Prog_stepsOk.calls (k : Nat) : ∀ (A0_0 : Option Addr) (c0_0 : Nat) (l0_0 : List (S60)) (A0_1 : Option Addr) (c0_1 : Nat) (l0_1 : List (S50)) (A1 : Option Addr) (c1 : Nat) (l1 : List (S50)) (a2 : Int) (r : Bool) (w : World) (hr0_0 : Kd.C k60 w A0_0 l0_0.length l0_0) (hc0_0 : l0_0.length ≤ c0_0) (hr0_1 : Kd.C k50 w A0_1 l0_1.length l0_1) (hc0_1 : l0_1.length ≤ c0_1) (hr1 : Kd.C k50 w A1 l1.length l1) (hc1 : l1.length ≤ c1) (h : impl_Prog_stepsOk.f k l0_0 l0_1 l1 a2 = some r),
  Calls Try.prog 73 #[.agg #[.slice A0_0 l0_0.length c0_0, .slice A0_1 l0_1.length c0_1], .slice A1 l1.length c1, .int .i64 a2] w fun e w' => e = .returned (.bool r) ∧ Below w.heap.size w w' := by
 induction k using Nat.strongRecOn with
 | _ k ih =>
 intro A0_0 c0_0 l0_0 A0_1 c0_1 l0_1 A1 c1 l1 a2 r w hr0_0 hc0_0 hr0_1 hc0_1 hr1 hc1 h
 cases k with
 | zero => exact absurd h (by simp [impl_Prog_stepsOk.f])
 | succ k =>
 simp only [impl_Prog_stepsOk.f] at h
 have hu32 := Try.underlying32
 have hu50 := Try.underlying50
 have hu48 := Try.underlying48
 have HR0_0 := AM hr0_0
 have HC0_0 := AM hc0_0
 clear hr0_0 hc0_0
 have HR0_1 := AM hr0_1
 have HC0_1 := AM hc0_1
 clear hr0_1 hc0_1
 have HR1 := AM hr1
 have HC1 := AM hc1
 clear hr1 hc1
 have HB := AM (Below.refl w.heap.size w)
 have H : (impl_Prog_stepsOk.l0 k a2 l1 (l1.length : Int) 0 l0_0 l0_1) = some r := h
 clear h
 have H' := AM H
 clear H
 go_enter Try.func73, Try.ntmps73
 go_wp2_with (first | ((with_reducible refine gate_dst (N := 3) rfl ?_); refine ZX (N := 3) (cs := #[.slice A0_0 l0_0.length c0_0, .slice A0_1 l0_1.length c0_1]) (t := 32) ?_; intro gb289 hg w4 hbox hb; have BK289 := AM (hbox); have GW289 : Aside0 (w.heap.size ≤ gb289) := ZS hg; have GE289 : Aside0 (w.heap.size ≤ gb289) := ZS hg; replace HB := ZT HB hb; clear hb hbox hg))
 go_loopg [12] k (fun kq v12 w' => ∃ (x12_1 : Int), v12 = .int .i64 x12_1 ∧ Aside0 (impl_Prog_stepsOk.l0 kq a2 l1 (l1.length : Int) x12_1 l0_0 l0_1 = some r) ∧ Aside0 (kq ≤ k) ∧ Aside0 (w'.heap[gb289]? = some (.cells #[(.slice A0_0 l0_0.length c0_0), (.slice A0_1 l0_1.length c0_1)] 32 (0, 0))) ∧ Aside0 (Below w.heap.size w w'))
 case atStart => exact ⟨(0), (by first | rfl | (simp; done) | (simp [*]; done)), H', ⟨Nat.le_refl _⟩, ⟨ZK BK289.out⟩, ⟨ZB⟩⟩
 case round => (
 clear H'
 try clear c1
 try clear p2
 obtain ⟨x12_1, rfl, HA, HK1, BK289, HB⟩ := hrel
 cases gk with
 | zero => exact absurd HA.out (by simp [impl_Prog_stepsOk.l0])
 | succ k1 =>
  have H := HA.out
  clear HA
  simp only [impl_Prog_stepsOk.l0] at H
  by_cases c5 : x12_1 < (l1.length : Int)
  ·(
  rw [if_pos c5] at H
  have c5b0 := decide_eq_true c5
  clear c5
  by_cases c6 : 0 ≤ x12_1
  ·(
  rw [if_pos c6] at H
  have c6b0 := decide_eq_true c6
  clear c6
  by_cases c7 : x12_1 < (l1.length : Int)
  ·(
  rw [if_pos c7] at H
  have c7b0 := decide_eq_true c7
  clear c7
  have HC8 := AM H
  clear H
  have p290 : 0 ≤ (x12_1 : Int) := ZD
  have q290 : x12_1 < (l1.length : Int) := ZD
  obtain ⟨ad290, A290_6, c290_6, A290_7, c290_7, e290, hx290_0, hx290_1, hx290_2, hx290_3, hx290_4, hx290_5, hx290_6, hx290_7, hl290_6, hi290_6, hl290_7, hi290_7⟩ := at_T50 HR1.out x12_1 p290 q290
  cases e290
  replace hx290_0 := ZHX HB hx290_0
  replace hx290_1 := ZHX HB hx290_1
  replace hx290_2 := ZHX HB hx290_2
  replace hx290_3 := ZHX HB hx290_3
  replace hx290_4 := ZHX HB hx290_4
  replace hx290_5 := ZHX HB hx290_5
  replace hx290_6 := ZHX HB hx290_6
  replace hx290_7 := ZHX HB hx290_7
  have HR290_6 := AM hi290_6
  have HC290_6 := AM hl290_6
  clear hi290_6 hl290_6
  have HR290_7 := AM hi290_7
  have HC290_7 := AM hl290_7
  clear hi290_7 hl290_7
  replace p290 := eq_true p290
  replace q290 := eq_true q290
  go_upto_region 4 with (first | ((with_reducible refine gate_dst (N := 8) rfl ?_); refine ZX (N := 8) (cs := #[.int .i64 0, .int .i64 0, .int .i64 0, .int .i64 0, .int .i64 0, .int .i64 0, .slice none 0 0, .slice none 0 0]) (t := 50) ?_; intro gb291 hg w9 hbox hb; have BK291 := AM (hbox); have GW291 : Aside0 (w.heap.size ≤ gb291) := ZS hg; have GE291 : Aside0 (w.heap.size ≤ gb291) := ZS hg; have NB289_291 : Aside0 (gb289 ≠ gb291) := ZN hg BK289; have NB291_289 : Aside0 (gb291 ≠ gb289) := ZM hg BK289; replace BK289 := ZW BK289 hb; replace HB := ZT HB hb; clear hb hbox hg; have hnb10 := NB291_289.out; have hnc10 := NB289_291.out; have hcz11 := ZC8 w9 BK291; have hfz11 := ZF8 BK291))
  (try simp only [Act.put, List.setIfInBounds_toArray, List.set_cons_zero, List.set_cons_succ])
  go_cut [60] (fun v60 wc => ∃ (kq : Nat) (x60_7 : Bool), v60 = .bool x60_7 ∧ Aside0 (impl_Prog_stepsOk.j1 kq a2 l1 (l1.length : Int) x12_1 x60_7 l0_0 l0_1 ((rd_T50 l1 x12_1).f0) ((rd_T50 l1 x12_1).f1) ((rd_T50 l1 x12_1).f2.f0) ((rd_T50 l1 x12_1).f2.f1) ((rd_T50 l1 x12_1).f2.f2) ((rd_T50 l1 x12_1).f3) ((rd_T50 l1 x12_1).f4) ((rd_T50 l1 x12_1).f5) = some r) ∧ Aside0 (kq ≤ k1) ∧ Aside0 (wc.heap[gb289]? = some (.cells #[(.slice A0_0 l0_0.length c0_0), (.slice A0_1 l0_1.length c0_1)] 32 (0, 0))) ∧ Aside0 (wc.heap[gb291]? = some (.cells #[.int .i64 ((rd_T50 l1 x12_1).f0), .int .i64 ((rd_T50 l1 x12_1).f1), .int .i64 ((rd_T50 l1 x12_1).f2.f0), .int .i64 ((rd_T50 l1 x12_1).f2.f1), .int .i64 ((rd_T50 l1 x12_1).f2.f2), .int .i64 ((rd_T50 l1 x12_1).f3), (.slice A290_6 ((rd_T50 l1 x12_1).f4).length c290_6), (.slice A290_7 ((rd_T50 l1 x12_1).f5).length c290_7)] 50 (0, 0))) ∧ Aside0 (Below w.heap.size w wc))
  case first => (
  have H := HC8.out
  clear HC8
  by_cases c12 : a2 < 1
  ·(
  rw [if_pos c12] at H
  have c12b0 := decide_eq_true c12
  clear c12
  (first | rw [c12b0] | (simp only [i64_w, i32_w]; rw [c12b0]) | skip)
  have H' := AM H
  clear H
  go_wp2
  go_meet
  case rel => exact ⟨_, (true), (by first | rfl | (simp; done) | (simp [*]; done)), H', ⟨by have := HK1.out; first | omega | exact Nat.le_refl _⟩, ⟨ZZ BK289.out⟩, ⟨ZZ BK291.out⟩, ⟨ZB⟩⟩)
  ·(
  rw [if_neg c12] at H
  have c12b0 := decide_eq_false c12
  clear c12
  (first | rw [c12b0] | (simp only [i64_w, i32_w]; rw [c12b0]) | skip)
  obtain ⟨t292, A13, H⟩ := ZOB H; try dsimp only at H
  by_cases c14 : t292 = true
  ·(
  subst c14
  have H1 := H; rw [if_pos rfl] at H1
  clear H
  have H := H1
  clear H1
  by_cases c15 : ((rd_T50 l1 x12_1).f0) = 1
  ·(
  rw [if_pos c15] at H
  have c15b0 := beq_iff_eq.mpr c15
  have c15b1 := bne_eq_false_iff_eq.mpr c15
  clear c15
  by_cases c16 : ((rd_T50 l1 x12_1).f0) = 3
  ·(
  rw [if_pos c16] at H
  have c16b0 := beq_iff_eq.mpr c16
  have c16b1 := bne_eq_false_iff_eq.mpr c16
  clear c16
  by_cases c17 : ((rd_T50 l1 x12_1).f0) = 2
  ·(
  rw [if_pos c17] at H
  have c17b0 := beq_iff_eq.mpr c17
  have c17b1 := bne_eq_false_iff_eq.mpr c17
  clear c17
  have H' := AM H
  clear H
  have hnb18 := NB289_291.out
  have hnc18 := NB291_289.out
  have hcz19 := ZC2 w9 BK289
  have hfz19 := ZF2 BK289
  have hcz20 := ZC8 w9 BK291
  have hfz20 := ZF8 BK291
  go_wp2_with (first | (go_at_call 84; (with_reducible refine (impl_Prog_isVar.calls _ _ l0_0 _ _ l0_1 ((rd_T50 l1 x12_1).f1) true _ ?side1 ?side2 ?side3 ?side4 A13.out).mono ?_); (case side1 => exact Kd.C_below HR0_0.out (ZB)); (case side2 => exact HC0_0.out); (case side3 => exact Kd.C_below HR0_1.out (ZB)); (case side4 => exact HC0_1.out); rintro e w21 ⟨rfl, hb⟩; replace BK289 := ZV #[.slice A0_0 l0_0.length c0_0, .slice A0_1 l0_1.length c0_1] BK289 hb; replace BK291 := ZV #[.int .i64 ((rd_T50 l1 x12_1).f0), .int .i64 ((rd_T50 l1 x12_1).f1), .int .i64 ((rd_T50 l1 x12_1).f2.f0), .int .i64 ((rd_T50 l1 x12_1).f2.f1), .int .i64 ((rd_T50 l1 x12_1).f2.f2), .int .i64 ((rd_T50 l1 x12_1).f3), .slice A290_6 ((rd_T50 l1 x12_1).f4).length c290_6, .slice A290_7 ((rd_T50 l1 x12_1).f5).length c290_7] BK291 hb; replace HB := ZT HB hb; clear hb; have hcz22 := ZC8 w21 BK291; have hfz22 := ZF8 BK291))
  go_meet
  case rel => exact ⟨_, (false), (by first | rfl | (simp; done) | (simp [*]; done)), H', ⟨by have := HK1.out; first | omega | exact Nat.le_refl _⟩, ⟨ZK BK289.out⟩, ⟨ZK BK291.out⟩, ⟨ZB⟩⟩)
  ·(
  rw [if_neg c17] at H
  have c17b0 := beq_eq_false_iff_ne.mpr c17
  have c17b1 := bne_iff_ne.mpr c17
  have H' := AM H
  clear H
  have hnb23 := NB289_291.out
  have hnc23 := NB291_289.out
  have hcz24 := ZC2 w9 BK289
  have hfz24 := ZF2 BK289
  have hcz25 := ZC8 w9 BK291
  have hfz25 := ZF8 BK291
  go_wp2_with (first | (go_at_call 84; (with_reducible refine (impl_Prog_isVar.calls _ _ l0_0 _ _ l0_1 ((rd_T50 l1 x12_1).f1) true _ ?side1 ?side2 ?side3 ?side4 A13.out).mono ?_); (case side1 => exact Kd.C_below HR0_0.out (ZB)); (case side2 => exact HC0_0.out); (case side3 => exact Kd.C_below HR0_1.out (ZB)); (case side4 => exact HC0_1.out); rintro e w26 ⟨rfl, hb⟩; replace BK289 := ZV #[.slice A0_0 l0_0.length c0_0, .slice A0_1 l0_1.length c0_1] BK289 hb; replace BK291 := ZV #[.int .i64 ((rd_T50 l1 x12_1).f0), .int .i64 ((rd_T50 l1 x12_1).f1), .int .i64 ((rd_T50 l1 x12_1).f2.f0), .int .i64 ((rd_T50 l1 x12_1).f2.f1), .int .i64 ((rd_T50 l1 x12_1).f2.f2), .int .i64 ((rd_T50 l1 x12_1).f3), .slice A290_6 ((rd_T50 l1 x12_1).f4).length c290_6, .slice A290_7 ((rd_T50 l1 x12_1).f5).length c290_7] BK291 hb; replace HB := ZT HB hb; clear hb; have hcz27 := ZC8 w26 BK291; have hfz27 := ZF8 BK291))
  go_meet
  case rel => exact ⟨_, (decide ((wrap64 ((((rd_T50 l1 x12_1).f4).length : Int) + (((rd_T50 l1 x12_1).f5).length : Int))) > 0)), (by first | rfl | (simp; done) | (simp [*]; done)), H', ⟨by have := HK1.out; first | omega | exact Nat.le_refl _⟩, ⟨ZK BK289.out⟩, ⟨ZK BK291.out⟩, ⟨ZB⟩⟩))
  ·(
  rw [if_neg c16] at H
  have c16b0 := beq_eq_false_iff_ne.mpr c16
  have c16b1 := bne_iff_ne.mpr c16
  by_cases c28 : ((rd_T50 l1 x12_1).f3) = 0
  ·(
  rw [if_pos c28] at H
  have c28b0 := beq_iff_eq.mpr c28
  have c28b1 := bne_eq_false_iff_eq.mpr c28
  clear c28
  by_cases c29 : ((rd_T50 l1 x12_1).f0) = 2
  ·(
  rw [if_pos c29] at H
  have c29b0 := beq_iff_eq.mpr c29
  have c29b1 := bne_eq_false_iff_eq.mpr c29
  clear c29
  have H' := AM H
  clear H
  have hnb30 := NB289_291.out
  have hnc30 := NB291_289.out
  have hcz31 := ZC2 w9 BK289
  have hfz31 := ZF2 BK289
  have hcz32 := ZC8 w9 BK291
  have hfz32 := ZF8 BK291
  go_wp2_with (first | (go_at_call 84; (with_reducible refine (impl_Prog_isVar.calls _ _ l0_0 _ _ l0_1 ((rd_T50 l1 x12_1).f1) true _ ?side1 ?side2 ?side3 ?side4 A13.out).mono ?_); (case side1 => exact Kd.C_below HR0_0.out (ZB)); (case side2 => exact HC0_0.out); (case side3 => exact Kd.C_below HR0_1.out (ZB)); (case side4 => exact HC0_1.out); rintro e w33 ⟨rfl, hb⟩; replace BK289 := ZV #[.slice A0_0 l0_0.length c0_0, .slice A0_1 l0_1.length c0_1] BK289 hb; replace BK291 := ZV #[.int .i64 ((rd_T50 l1 x12_1).f0), .int .i64 ((rd_T50 l1 x12_1).f1), .int .i64 ((rd_T50 l1 x12_1).f2.f0), .int .i64 ((rd_T50 l1 x12_1).f2.f1), .int .i64 ((rd_T50 l1 x12_1).f2.f2), .int .i64 ((rd_T50 l1 x12_1).f3), .slice A290_6 ((rd_T50 l1 x12_1).f4).length c290_6, .slice A290_7 ((rd_T50 l1 x12_1).f5).length c290_7] BK291 hb; replace HB := ZT HB hb; clear hb; have hcz34 := ZC8 w33 BK291; have hfz34 := ZF8 BK291))
  go_meet
  case rel => exact ⟨_, (false), (by first | rfl | (simp; done) | (simp [*]; done)), H', ⟨by have := HK1.out; first | omega | exact Nat.le_refl _⟩, ⟨ZK BK289.out⟩, ⟨ZK BK291.out⟩, ⟨ZB⟩⟩)
  ·(
  rw [if_neg c29] at H
  have c29b0 := beq_eq_false_iff_ne.mpr c29
  have c29b1 := bne_iff_ne.mpr c29
  have H' := AM H
  clear H
  have hnb35 := NB289_291.out
  have hnc35 := NB291_289.out
  have hcz36 := ZC2 w9 BK289
  have hfz36 := ZF2 BK289
  have hcz37 := ZC8 w9 BK291
  have hfz37 := ZF8 BK291
  go_wp2_with (first | (go_at_call 84; (with_reducible refine (impl_Prog_isVar.calls _ _ l0_0 _ _ l0_1 ((rd_T50 l1 x12_1).f1) true _ ?side1 ?side2 ?side3 ?side4 A13.out).mono ?_); (case side1 => exact Kd.C_below HR0_0.out (ZB)); (case side2 => exact HC0_0.out); (case side3 => exact Kd.C_below HR0_1.out (ZB)); (case side4 => exact HC0_1.out); rintro e w38 ⟨rfl, hb⟩; replace BK289 := ZV #[.slice A0_0 l0_0.length c0_0, .slice A0_1 l0_1.length c0_1] BK289 hb; replace BK291 := ZV #[.int .i64 ((rd_T50 l1 x12_1).f0), .int .i64 ((rd_T50 l1 x12_1).f1), .int .i64 ((rd_T50 l1 x12_1).f2.f0), .int .i64 ((rd_T50 l1 x12_1).f2.f1), .int .i64 ((rd_T50 l1 x12_1).f2.f2), .int .i64 ((rd_T50 l1 x12_1).f3), .slice A290_6 ((rd_T50 l1 x12_1).f4).length c290_6, .slice A290_7 ((rd_T50 l1 x12_1).f5).length c290_7] BK291 hb; replace HB := ZT HB hb; clear hb; have hcz39 := ZC8 w38 BK291; have hfz39 := ZF8 BK291))
  go_meet
  case rel => exact ⟨_, (decide ((wrap64 ((((rd_T50 l1 x12_1).f4).length : Int) + (((rd_T50 l1 x12_1).f5).length : Int))) > 0)), (by first | rfl | (simp; done) | (simp [*]; done)), H', ⟨by have := HK1.out; first | omega | exact Nat.le_refl _⟩, ⟨ZK BK289.out⟩, ⟨ZK BK291.out⟩, ⟨ZB⟩⟩))
  ·(
  rw [if_neg c28] at H
  have c28b0 := beq_eq_false_iff_ne.mpr c28
  have c28b1 := bne_iff_ne.mpr c28
  have H' := AM H
  clear H
  have hnb40 := NB289_291.out
  have hnc40 := NB291_289.out
  have hcz41 := ZC2 w9 BK289
  have hfz41 := ZF2 BK289
  have hcz42 := ZC8 w9 BK291
  have hfz42 := ZF8 BK291
  go_wp2_with (first | (go_at_call 84; (with_reducible refine (impl_Prog_isVar.calls _ _ l0_0 _ _ l0_1 ((rd_T50 l1 x12_1).f1) true _ ?side1 ?side2 ?side3 ?side4 A13.out).mono ?_); (case side1 => exact Kd.C_below HR0_0.out (ZB)); (case side2 => exact HC0_0.out); (case side3 => exact Kd.C_below HR0_1.out (ZB)); (case side4 => exact HC0_1.out); rintro e w43 ⟨rfl, hb⟩; replace BK289 := ZV #[.slice A0_0 l0_0.length c0_0, .slice A0_1 l0_1.length c0_1] BK289 hb; replace BK291 := ZV #[.int .i64 ((rd_T50 l1 x12_1).f0), .int .i64 ((rd_T50 l1 x12_1).f1), .int .i64 ((rd_T50 l1 x12_1).f2.f0), .int .i64 ((rd_T50 l1 x12_1).f2.f1), .int .i64 ((rd_T50 l1 x12_1).f2.f2), .int .i64 ((rd_T50 l1 x12_1).f3), .slice A290_6 ((rd_T50 l1 x12_1).f4).length c290_6, .slice A290_7 ((rd_T50 l1 x12_1).f5).length c290_7] BK291 hb; replace HB := ZT HB hb; clear hb; have hcz44 := ZC8 w43 BK291; have hfz44 := ZF8 BK291))
  go_meet
  case rel => exact ⟨_, (true), (by first | rfl | (simp; done) | (simp [*]; done)), H', ⟨by have := HK1.out; first | omega | exact Nat.le_refl _⟩, ⟨ZK BK289.out⟩, ⟨ZK BK291.out⟩, ⟨ZB⟩⟩)))
  ·(
  rw [if_neg c15] at H
  have c15b0 := beq_eq_false_iff_ne.mpr c15
  have c15b1 := bne_iff_ne.mpr c15
  by_cases c45 : (!(((rd_T50 l1 x12_1).f2.f0) == 0) || (!(((rd_T50 l1 x12_1).f2.f1) == 0) || (!(((rd_T50 l1 x12_1).f2.f2) == 0)))) = true
  ·(
  rw [if_pos c45] at H
  have c45b0 : (!(((rd_T50 l1 x12_1).f2.f0) == 0) || (!(((rd_T50 l1 x12_1).f2.f1) == 0) || (!(((rd_T50 l1 x12_1).f2.f2) == 0)))) = true := c45
  clear c45
  have H' := AM H
  clear H
  have hnb46 := NB289_291.out
  have hnc46 := NB291_289.out
  have hcz47 := ZC2 w9 BK289
  have hfz47 := ZF2 BK289
  have hcz48 := ZC8 w9 BK291
  have hfz48 := ZF8 BK291
  go_wp2_with (first | (go_at_call 84; (with_reducible refine (impl_Prog_isVar.calls _ _ l0_0 _ _ l0_1 ((rd_T50 l1 x12_1).f1) true _ ?side1 ?side2 ?side3 ?side4 A13.out).mono ?_); (case side1 => exact Kd.C_below HR0_0.out (ZB)); (case side2 => exact HC0_0.out); (case side3 => exact Kd.C_below HR0_1.out (ZB)); (case side4 => exact HC0_1.out); rintro e w49 ⟨rfl, hb⟩; replace BK289 := ZV #[.slice A0_0 l0_0.length c0_0, .slice A0_1 l0_1.length c0_1] BK289 hb; replace BK291 := ZV #[.int .i64 ((rd_T50 l1 x12_1).f0), .int .i64 ((rd_T50 l1 x12_1).f1), .int .i64 ((rd_T50 l1 x12_1).f2.f0), .int .i64 ((rd_T50 l1 x12_1).f2.f1), .int .i64 ((rd_T50 l1 x12_1).f2.f2), .int .i64 ((rd_T50 l1 x12_1).f3), .slice A290_6 ((rd_T50 l1 x12_1).f4).length c290_6, .slice A290_7 ((rd_T50 l1 x12_1).f5).length c290_7] BK291 hb; replace HB := ZT HB hb; clear hb; have hcz50 := ZC8 w49 BK291; have hfz50 := ZF8 BK291))
  go_meet
  case rel => exact ⟨_, (true), (by first | rfl | (simp; done) | (simp [*]; done)), H', ⟨by have := HK1.out; first | omega | exact Nat.le_refl _⟩, ⟨ZK BK289.out⟩, ⟨ZK BK291.out⟩, ⟨ZB⟩⟩)
  ·(
  rw [if_neg c45] at H
  have c45b0 : (!(((rd_T50 l1 x12_1).f2.f0) == 0) || (!(((rd_T50 l1 x12_1).f2.f1) == 0) || (!(((rd_T50 l1 x12_1).f2.f2) == 0)))) = false := by simpa using c45
  clear c45
  by_cases c51 : ((rd_T50 l1 x12_1).f0) = 3
  ·(
  rw [if_pos c51] at H
  have c51b0 := beq_iff_eq.mpr c51
  have c51b1 := bne_eq_false_iff_eq.mpr c51
  clear c51
  by_cases c52 : ((rd_T50 l1 x12_1).f0) = 2
  ·(
  rw [if_pos c52] at H
  have c52b0 := beq_iff_eq.mpr c52
  have c52b1 := bne_eq_false_iff_eq.mpr c52
  clear c52
  have H' := AM H
  clear H
  have hnb53 := NB289_291.out
  have hnc53 := NB291_289.out
  have hcz54 := ZC2 w9 BK289
  have hfz54 := ZF2 BK289
  have hcz55 := ZC8 w9 BK291
  have hfz55 := ZF8 BK291
  go_wp2_with (first | (go_at_call 84; (with_reducible refine (impl_Prog_isVar.calls _ _ l0_0 _ _ l0_1 ((rd_T50 l1 x12_1).f1) true _ ?side1 ?side2 ?side3 ?side4 A13.out).mono ?_); (case side1 => exact Kd.C_below HR0_0.out (ZB)); (case side2 => exact HC0_0.out); (case side3 => exact Kd.C_below HR0_1.out (ZB)); (case side4 => exact HC0_1.out); rintro e w56 ⟨rfl, hb⟩; replace BK289 := ZV #[.slice A0_0 l0_0.length c0_0, .slice A0_1 l0_1.length c0_1] BK289 hb; replace BK291 := ZV #[.int .i64 ((rd_T50 l1 x12_1).f0), .int .i64 ((rd_T50 l1 x12_1).f1), .int .i64 ((rd_T50 l1 x12_1).f2.f0), .int .i64 ((rd_T50 l1 x12_1).f2.f1), .int .i64 ((rd_T50 l1 x12_1).f2.f2), .int .i64 ((rd_T50 l1 x12_1).f3), .slice A290_6 ((rd_T50 l1 x12_1).f4).length c290_6, .slice A290_7 ((rd_T50 l1 x12_1).f5).length c290_7] BK291 hb; replace HB := ZT HB hb; clear hb; have hcz57 := ZC8 w56 BK291; have hfz57 := ZF8 BK291))
  go_meet
  case rel => exact ⟨_, (false), (by first | rfl | (simp; done) | (simp [*]; done)), H', ⟨by have := HK1.out; first | omega | exact Nat.le_refl _⟩, ⟨ZK BK289.out⟩, ⟨ZK BK291.out⟩, ⟨ZB⟩⟩)
  ·(
  rw [if_neg c52] at H
  have c52b0 := beq_eq_false_iff_ne.mpr c52
  have c52b1 := bne_iff_ne.mpr c52
  have H' := AM H
  clear H
  have hnb58 := NB289_291.out
  have hnc58 := NB291_289.out
  have hcz59 := ZC2 w9 BK289
  have hfz59 := ZF2 BK289
  have hcz60 := ZC8 w9 BK291
  have hfz60 := ZF8 BK291
  go_wp2_with (first | (go_at_call 84; (with_reducible refine (impl_Prog_isVar.calls _ _ l0_0 _ _ l0_1 ((rd_T50 l1 x12_1).f1) true _ ?side1 ?side2 ?side3 ?side4 A13.out).mono ?_); (case side1 => exact Kd.C_below HR0_0.out (ZB)); (case side2 => exact HC0_0.out); (case side3 => exact Kd.C_below HR0_1.out (ZB)); (case side4 => exact HC0_1.out); rintro e w61 ⟨rfl, hb⟩; replace BK289 := ZV #[.slice A0_0 l0_0.length c0_0, .slice A0_1 l0_1.length c0_1] BK289 hb; replace BK291 := ZV #[.int .i64 ((rd_T50 l1 x12_1).f0), .int .i64 ((rd_T50 l1 x12_1).f1), .int .i64 ((rd_T50 l1 x12_1).f2.f0), .int .i64 ((rd_T50 l1 x12_1).f2.f1), .int .i64 ((rd_T50 l1 x12_1).f2.f2), .int .i64 ((rd_T50 l1 x12_1).f3), .slice A290_6 ((rd_T50 l1 x12_1).f4).length c290_6, .slice A290_7 ((rd_T50 l1 x12_1).f5).length c290_7] BK291 hb; replace HB := ZT HB hb; clear hb; have hcz62 := ZC8 w61 BK291; have hfz62 := ZF8 BK291))
  go_meet
  case rel => exact ⟨_, (decide ((wrap64 ((((rd_T50 l1 x12_1).f4).length : Int) + (((rd_T50 l1 x12_1).f5).length : Int))) > 0)), (by first | rfl | (simp; done) | (simp [*]; done)), H', ⟨by have := HK1.out; first | omega | exact Nat.le_refl _⟩, ⟨ZK BK289.out⟩, ⟨ZK BK291.out⟩, ⟨ZB⟩⟩))
  ·(
  rw [if_neg c51] at H
  have c51b0 := beq_eq_false_iff_ne.mpr c51
  have c51b1 := bne_iff_ne.mpr c51
  by_cases c63 : ((rd_T50 l1 x12_1).f3) = 0
  ·(
  rw [if_pos c63] at H
  have c63b0 := beq_iff_eq.mpr c63
  have c63b1 := bne_eq_false_iff_eq.mpr c63
  clear c63
  by_cases c64 : ((rd_T50 l1 x12_1).f0) = 2
  ·(
  rw [if_pos c64] at H
  have c64b0 := beq_iff_eq.mpr c64
  have c64b1 := bne_eq_false_iff_eq.mpr c64
  clear c64
  have H' := AM H
  clear H
  have hnb65 := NB289_291.out
  have hnc65 := NB291_289.out
  have hcz66 := ZC2 w9 BK289
  have hfz66 := ZF2 BK289
  have hcz67 := ZC8 w9 BK291
  have hfz67 := ZF8 BK291
  go_wp2_with (first | (go_at_call 84; (with_reducible refine (impl_Prog_isVar.calls _ _ l0_0 _ _ l0_1 ((rd_T50 l1 x12_1).f1) true _ ?side1 ?side2 ?side3 ?side4 A13.out).mono ?_); (case side1 => exact Kd.C_below HR0_0.out (ZB)); (case side2 => exact HC0_0.out); (case side3 => exact Kd.C_below HR0_1.out (ZB)); (case side4 => exact HC0_1.out); rintro e w68 ⟨rfl, hb⟩; replace BK289 := ZV #[.slice A0_0 l0_0.length c0_0, .slice A0_1 l0_1.length c0_1] BK289 hb; replace BK291 := ZV #[.int .i64 ((rd_T50 l1 x12_1).f0), .int .i64 ((rd_T50 l1 x12_1).f1), .int .i64 ((rd_T50 l1 x12_1).f2.f0), .int .i64 ((rd_T50 l1 x12_1).f2.f1), .int .i64 ((rd_T50 l1 x12_1).f2.f2), .int .i64 ((rd_T50 l1 x12_1).f3), .slice A290_6 ((rd_T50 l1 x12_1).f4).length c290_6, .slice A290_7 ((rd_T50 l1 x12_1).f5).length c290_7] BK291 hb; replace HB := ZT HB hb; clear hb; have hcz69 := ZC8 w68 BK291; have hfz69 := ZF8 BK291))
  go_meet
  case rel => exact ⟨_, (false), (by first | rfl | (simp; done) | (simp [*]; done)), H', ⟨by have := HK1.out; first | omega | exact Nat.le_refl _⟩, ⟨ZK BK289.out⟩, ⟨ZK BK291.out⟩, ⟨ZB⟩⟩)
  ·(
  rw [if_neg c64] at H
  have c64b0 := beq_eq_false_iff_ne.mpr c64
  have c64b1 := bne_iff_ne.mpr c64
  have H' := AM H
  clear H
  have hnb70 := NB289_291.out
  have hnc70 := NB291_289.out
  have hcz71 := ZC2 w9 BK289
  have hfz71 := ZF2 BK289
  have hcz72 := ZC8 w9 BK291
  have hfz72 := ZF8 BK291
  go_wp2_with (first | (go_at_call 84; (with_reducible refine (impl_Prog_isVar.calls _ _ l0_0 _ _ l0_1 ((rd_T50 l1 x12_1).f1) true _ ?side1 ?side2 ?side3 ?side4 A13.out).mono ?_); (case side1 => exact Kd.C_below HR0_0.out (ZB)); (case side2 => exact HC0_0.out); (case side3 => exact Kd.C_below HR0_1.out (ZB)); (case side4 => exact HC0_1.out); rintro e w73 ⟨rfl, hb⟩; replace BK289 := ZV #[.slice A0_0 l0_0.length c0_0, .slice A0_1 l0_1.length c0_1] BK289 hb; replace BK291 := ZV #[.int .i64 ((rd_T50 l1 x12_1).f0), .int .i64 ((rd_T50 l1 x12_1).f1), .int .i64 ((rd_T50 l1 x12_1).f2.f0), .int .i64 ((rd_T50 l1 x12_1).f2.f1), .int .i64 ((rd_T50 l1 x12_1).f2.f2), .int .i64 ((rd_T50 l1 x12_1).f3), .slice A290_6 ((rd_T50 l1 x12_1).f4).length c290_6, .slice A290_7 ((rd_T50 l1 x12_1).f5).length c290_7] BK291 hb; replace HB := ZT HB hb; clear hb; have hcz74 := ZC8 w73 BK291; have hfz74 := ZF8 BK291))
  go_meet
  case rel => exact ⟨_, (decide ((wrap64 ((((rd_T50 l1 x12_1).f4).length : Int) + (((rd_T50 l1 x12_1).f5).length : Int))) > 0)), (by first | rfl | (simp; done) | (simp [*]; done)), H', ⟨by have := HK1.out; first | omega | exact Nat.le_refl _⟩, ⟨ZK BK289.out⟩, ⟨ZK BK291.out⟩, ⟨ZB⟩⟩))
  ·(
  rw [if_neg c63] at H
  have c63b0 := beq_eq_false_iff_ne.mpr c63
  have c63b1 := bne_iff_ne.mpr c63
  have H' := AM H
  clear H
  have hnb75 := NB289_291.out
  have hnc75 := NB291_289.out
  have hcz76 := ZC2 w9 BK289
  have hfz76 := ZF2 BK289
  have hcz77 := ZC8 w9 BK291
  have hfz77 := ZF8 BK291
  go_wp2_with (first | (go_at_call 84; (with_reducible refine (impl_Prog_isVar.calls _ _ l0_0 _ _ l0_1 ((rd_T50 l1 x12_1).f1) true _ ?side1 ?side2 ?side3 ?side4 A13.out).mono ?_); (case side1 => exact Kd.C_below HR0_0.out (ZB)); (case side2 => exact HC0_0.out); (case side3 => exact Kd.C_below HR0_1.out (ZB)); (case side4 => exact HC0_1.out); rintro e w78 ⟨rfl, hb⟩; replace BK289 := ZV #[.slice A0_0 l0_0.length c0_0, .slice A0_1 l0_1.length c0_1] BK289 hb; replace BK291 := ZV #[.int .i64 ((rd_T50 l1 x12_1).f0), .int .i64 ((rd_T50 l1 x12_1).f1), .int .i64 ((rd_T50 l1 x12_1).f2.f0), .int .i64 ((rd_T50 l1 x12_1).f2.f1), .int .i64 ((rd_T50 l1 x12_1).f2.f2), .int .i64 ((rd_T50 l1 x12_1).f3), .slice A290_6 ((rd_T50 l1 x12_1).f4).length c290_6, .slice A290_7 ((rd_T50 l1 x12_1).f5).length c290_7] BK291 hb; replace HB := ZT HB hb; clear hb; have hcz79 := ZC8 w78 BK291; have hfz79 := ZF8 BK291))
  go_meet
  case rel => exact ⟨_, (true), (by first | rfl | (simp; done) | (simp [*]; done)), H', ⟨by have := HK1.out; first | omega | exact Nat.le_refl _⟩, ⟨ZK BK289.out⟩, ⟨ZK BK291.out⟩, ⟨ZB⟩⟩)))))
  ·(
  replace c14 := Bool.eq_false_iff.mpr c14
  subst c14
  have H1 := H; rw [if_neg ZFT] at H1
  clear H
  have H := H1
  clear H1
  have H' := AM H
  clear H
  have hnb80 := NB289_291.out
  have hnc80 := NB291_289.out
  have hcz81 := ZC2 w9 BK289
  have hfz81 := ZF2 BK289
  have hcz82 := ZC8 w9 BK291
  have hfz82 := ZF8 BK291
  go_wp2_with (first | (go_at_call 84; (with_reducible refine (impl_Prog_isVar.calls _ _ l0_0 _ _ l0_1 ((rd_T50 l1 x12_1).f1) false _ ?side1 ?side2 ?side3 ?side4 A13.out).mono ?_); (case side1 => exact Kd.C_below HR0_0.out (ZB)); (case side2 => exact HC0_0.out); (case side3 => exact Kd.C_below HR0_1.out (ZB)); (case side4 => exact HC0_1.out); rintro e w83 ⟨rfl, hb⟩; replace BK289 := ZV #[.slice A0_0 l0_0.length c0_0, .slice A0_1 l0_1.length c0_1] BK289 hb; replace BK291 := ZV #[.int .i64 ((rd_T50 l1 x12_1).f0), .int .i64 ((rd_T50 l1 x12_1).f1), .int .i64 ((rd_T50 l1 x12_1).f2.f0), .int .i64 ((rd_T50 l1 x12_1).f2.f1), .int .i64 ((rd_T50 l1 x12_1).f2.f2), .int .i64 ((rd_T50 l1 x12_1).f3), .slice A290_6 ((rd_T50 l1 x12_1).f4).length c290_6, .slice A290_7 ((rd_T50 l1 x12_1).f5).length c290_7] BK291 hb; replace HB := ZT HB hb; clear hb))
  go_meet
  case rel => exact ⟨_, (true), (by first | rfl | (simp; done) | (simp [*]; done)), H', ⟨by have := HK1.out; first | omega | exact Nat.le_refl _⟩, ⟨ZK BK289.out⟩, ⟨ZK BK291.out⟩, ⟨ZB⟩⟩)))
  case rest => (
  clear HC8
  try clear c1
  try clear c2
  try clear p2
  try clear q2
  try clear hx2
  try clear c3
  try clear c4
  try clear c5
  try clear c5b0
  try clear c6
  try clear c6b0
  try clear p6
  try clear c7
  try clear c7b0
  try clear c8
  try clear c10
  try clear c12
  try clear c12b0
  try clear c14
  try clear c15
  try clear c15b0
  try clear c15b1
  try clear c16
  try clear c16b0
  try clear c16b1
  try clear c17
  try clear c17b0
  try clear c17b1
  try clear c18
  try clear c23
  try clear c28
  try clear c28b0
  try clear c28b1
  try clear c29
  try clear c29b0
  try clear c29b1
  try clear p29
  try clear q29
  try clear hx29
  try clear c30
  try clear c35
  try clear c40
  try clear c45
  try clear c45b0
  try clear c46
  try clear c51
  try clear c51b0
  try clear c51b1
  try clear c52
  try clear c52b0
  try clear c52b1
  try clear c53
  try clear c58
  try clear c63
  try clear c63b0
  try clear c63b1
  try clear c64
  try clear c64b0
  try clear c64b1
  try clear p64
  try clear c65
  try clear c70
  try clear c73
  try clear c75
  try clear c80
  try clear hcz11
  try clear hcz19
  try clear hcz20
  try clear hcz22
  try clear hcz24
  try clear hcz25
  try clear hcz27
  try clear hcz31
  try clear hcz32
  try clear hcz34
  try clear hcz36
  try clear hcz37
  try clear hcz39
  try clear hcz41
  try clear hcz42
  try clear hcz44
  try clear hcz47
  try clear hcz48
  try clear hcz50
  try clear hcz54
  try clear hcz55
  try clear hcz57
  try clear hcz59
  try clear hcz60
  try clear hcz62
  try clear hcz66
  try clear hcz67
  try clear hcz69
  try clear hcz71
  try clear hcz72
  try clear hcz74
  try clear hcz76
  try clear hcz77
  try clear hcz79
  try clear hcz81
  try clear hcz82
  try clear hfz11
  try clear hfz19
  try clear hfz20
  try clear hfz22
  try clear hfz24
  try clear hfz25
  try clear hfz27
  try clear hfz31
  try clear hfz32
  try clear hfz34
  try clear hfz36
  try clear hfz37
  try clear hfz39
  try clear hfz41
  try clear hfz42
  try clear hfz44
  try clear hfz47
  try clear hfz48
  try clear hfz50
  try clear hfz54
  try clear hfz55
  try clear hfz57
  try clear hfz59
  try clear hfz60
  try clear hfz62
  try clear hfz66
  try clear hfz67
  try clear hfz69
  try clear hfz71
  try clear hfz72
  try clear hfz74
  try clear hfz76
  try clear hfz77
  try clear hfz79
  try clear hfz81
  try clear hfz82
  try clear hx290_0
  try clear hx290_1
  try clear hx290_2
  try clear hx290_3
  try clear hx290_4
  try clear hx290_5
  try clear hx290_6
  try clear hx290_7
  try clear p2
  try clear p290
  try clear q290
  obtain ⟨kq, x60_7, rfl, HA, HJ7, BK289, BK291, HB⟩ := hcut
  cases kq with
  | zero => exact absurd HA.out (by simp [impl_Prog_stepsOk.j1])
  | succ kj7 =>
   have H := HA.out
   clear HA
   simp only [impl_Prog_stepsOk.j1] at H
   by_cases c84 : x60_7 = true
   ·(
   subst c84
   have H1 := H; rw [if_pos rfl] at H1
   clear H
   have H := H1
   clear H1
   obtain rfl := Option.some.inj H
   go_wp2
   go_ret
   exact ⟨ZE, ZB⟩)
   ·(
   replace c84 := Bool.eq_false_iff.mpr c84
   subst c84
   have H1 := H; rw [if_neg ZFT] at H1
   clear H
   have H := H1
   clear H1
   by_cases c85 : ((rd_T50 l1 x12_1).f0) = 1
   ·(
   rw [if_pos c85] at H
   have c85b0 := beq_iff_eq.mpr c85
   have c85b1 := bne_eq_false_iff_eq.mpr c85
   clear c85
   obtain ⟨t293, A86, H⟩ := ZOB H; try dsimp only at H
   by_cases c87 : t293 = true
   ·(
   subst c87
   have H1 := H; rw [if_pos rfl] at H1
   clear H
   have H := H1
   clear H1
   have H' := AM H
   clear H
   have hnb88 := NB291_289.out
   have hnc88 := NB289_291.out
   have hcz89 := ZC8 wc BK291
   have hfz89 := ZF8 BK291
   have hcz90 := ZC2 wc BK289
   have hfz90 := ZF2 BK289
   go_wp2_with (first | ((with_reducible refine gate_callee (f := 85) rfl ?_); refine ZGL (some 68) Try.func85 #[.agg #[.slice A0_0 l0_0.length c0_0, .slice A0_1 l0_1.length c0_1], .agg #[.int .i64 ((rd_T50 l1 x12_1).f2.f0), .int .i64 ((rd_T50 l1 x12_1).f2.f1), .int .i64 ((rd_T50 l1 x12_1).f2.f2)]] ?_; (with_reducible refine (impl_Prog_valOk.calls _ _ l0_0 _ _ l0_1 ((rd_T50 l1 x12_1).f2.f0) ((rd_T50 l1 x12_1).f2.f1) ((rd_T50 l1 x12_1).f2.f2) true _ ?side1 ?side2 ?side3 ?side4 A86.out).mono ?_); (case side1 => exact ZQ (Kd.C_below HR0_0.out HB.out)); (case side2 => exact HC0_0.out); (case side3 => exact ZQ (Kd.C_below HR0_1.out HB.out)); (case side4 => exact HC0_1.out); rintro e w91 ⟨rfl, hb⟩; refine ⟨_, rfl, ?_⟩; replace BK289 := ZW BK289 hb; replace BK291 := ZW BK291 hb; replace HB := ZT HB hb; clear hb))
   go_roundg kj7
   case measure => have := HK1.out; have := HJ7.out; omega
   case rel => exact ⟨(wrap64 (x12_1 + 1)), (by first | rfl | (simp; done) | (simp [*]; done)), H', ⟨by have := HK1.out; have := HJ7.out; omega⟩, ⟨ZK BK289.out⟩, ⟨ZB⟩⟩)
   ·(
   replace c87 := Bool.eq_false_iff.mpr c87
   subst c87
   have H1 := H; rw [if_neg ZFT] at H1
   clear H
   have H := H1
   clear H1
   obtain rfl := Option.some.inj H
   have hnb92 := NB291_289.out
   have hnc92 := NB289_291.out
   have hcz93 := ZC8 wc BK291
   have hfz93 := ZF8 BK291
   have hcz94 := ZC2 wc BK289
   have hfz94 := ZF2 BK289
   go_wp2_with (first | ((with_reducible refine gate_callee (f := 85) rfl ?_); refine ZGL (some 68) Try.func85 #[.agg #[.slice A0_0 l0_0.length c0_0, .slice A0_1 l0_1.length c0_1], .agg #[.int .i64 ((rd_T50 l1 x12_1).f2.f0), .int .i64 ((rd_T50 l1 x12_1).f2.f1), .int .i64 ((rd_T50 l1 x12_1).f2.f2)]] ?_; (with_reducible refine (impl_Prog_valOk.calls _ _ l0_0 _ _ l0_1 ((rd_T50 l1 x12_1).f2.f0) ((rd_T50 l1 x12_1).f2.f1) ((rd_T50 l1 x12_1).f2.f2) false _ ?side1 ?side2 ?side3 ?side4 A86.out).mono ?_); (case side1 => exact ZQ (Kd.C_below HR0_0.out HB.out)); (case side2 => exact HC0_0.out); (case side3 => exact ZQ (Kd.C_below HR0_1.out HB.out)); (case side4 => exact HC0_1.out); rintro e w95 ⟨rfl, hb⟩; refine ⟨_, rfl, ?_⟩; replace BK289 := ZW BK289 hb; replace BK291 := ZW BK291 hb; replace HB := ZT HB hb; clear hb))
   go_ret
   exact ⟨ZE, ZB⟩))
   ·(
   rw [if_neg c85] at H
   have c85b0 := beq_eq_false_iff_ne.mpr c85
   have c85b1 := bne_iff_ne.mpr c85
   by_cases c96 : ((rd_T50 l1 x12_1).f0) = 2
   ·(
   rw [if_pos c96] at H
   have c96b0 := beq_iff_eq.mpr c96
   have c96b1 := bne_eq_false_iff_eq.mpr c96
   clear c96
   obtain ⟨t294, A97, H⟩ := ZOB H; try dsimp only at H
   by_cases c98 : t294 = true
   ·(
   subst c98
   have H1 := H; rw [if_pos rfl] at H1
   clear H
   have H := H1
   clear H1
   obtain ⟨t295, A99, H⟩ := ZOB H; try dsimp only at H
   by_cases c100 : t295 = true
   ·(
   subst c100
   have H1 := H; rw [if_pos rfl] at H1
   clear H
   have H := H1
   clear H1
   have H' := AM H
   clear H
   have hnb101 := NB291_289.out
   have hnc101 := NB289_291.out
   have hcz102 := ZC8 wc BK291
   have hfz102 := ZF8 BK291
   have hcz103 := ZC2 wc BK289
   have hfz103 := ZF2 BK289
   go_wp2_with (first | ((with_reducible refine gate_callee (f := 73) rfl ?_); refine ZGL (some 76) Try.func73 #[.agg #[.slice A0_0 l0_0.length c0_0, .slice A0_1 l0_1.length c0_1], .slice A290_6 ((rd_T50 l1 x12_1).f4).length c290_6, .int .i64 (wrap64 (a2 - 1))] ?_; (with_reducible refine (ih kj7 (by have := HK1.out; have := HJ7.out; omega) _ _ l0_0 _ _ l0_1 _ _ ((rd_T50 l1 x12_1).f4) (wrap64 (a2 - 1)) true _ ?side1 ?side2 ?side3 ?side4 ?side5 ?side6 A97.out).mono ?_); (case side1 => exact ZQ (Kd.C_below HR0_0.out HB.out)); (case side2 => exact HC0_0.out); (case side3 => exact ZQ (Kd.C_below HR0_1.out HB.out)); (case side4 => exact HC0_1.out); (case side5 => exact ZQ (Kd.C_below HR290_6.out HB.out)); (case side6 => exact HC290_6.out); rintro e w104 ⟨rfl, hb⟩; refine ⟨_, rfl, ?_⟩; replace BK289 := ZW BK289 hb; replace BK291 := ZW BK291 hb; replace HB := ZT HB hb; clear hb; have hcz105 := ZC2 w104 BK289; have hfz105 := ZF2 BK289; have hcz106 := ZC8 w104 BK291; have hfz106 := ZF8 BK291) | (go_at_call 73; (with_reducible refine (ih kj7 (by have := HK1.out; have := HJ7.out; omega) _ _ l0_0 _ _ l0_1 _ _ ((rd_T50 l1 x12_1).f5) (wrap64 (a2 - 1)) true _ ?side1 ?side2 ?side3 ?side4 ?side5 ?side6 A99.out).mono ?_); (case side1 => exact ZQ (Kd.C_below HR0_0.out HB.out)); (case side2 => exact HC0_0.out); (case side3 => exact ZQ (Kd.C_below HR0_1.out HB.out)); (case side4 => exact HC0_1.out); (case side5 => exact ZQ (Kd.C_below HR290_7.out HB.out)); (case side6 => exact HC290_7.out); rintro e w107 ⟨rfl, hb⟩; replace BK289 := ZW BK289 hb; replace BK291 := ZW BK291 hb; replace HB := ZT HB hb; clear hb))
   go_roundg kj7
   case measure => have := HK1.out; have := HJ7.out; omega
   case rel => exact ⟨(wrap64 (x12_1 + 1)), (by first | rfl | (simp; done) | (simp [*]; done)), H', ⟨by have := HK1.out; have := HJ7.out; omega⟩, ⟨ZK BK289.out⟩, ⟨ZB⟩⟩)
   ·(
   replace c100 := Bool.eq_false_iff.mpr c100
   subst c100
   have H1 := H; rw [if_neg ZFT] at H1
   clear H
   have H := H1
   clear H1
   obtain rfl := Option.some.inj H
   have hnb108 := NB291_289.out
   have hnc108 := NB289_291.out
   have hcz109 := ZC8 wc BK291
   have hfz109 := ZF8 BK291
   have hcz110 := ZC2 wc BK289
   have hfz110 := ZF2 BK289
   go_wp2_with (first | ((with_reducible refine gate_callee (f := 73) rfl ?_); refine ZGL (some 76) Try.func73 #[.agg #[.slice A0_0 l0_0.length c0_0, .slice A0_1 l0_1.length c0_1], .slice A290_6 ((rd_T50 l1 x12_1).f4).length c290_6, .int .i64 (wrap64 (a2 - 1))] ?_; (with_reducible refine (ih kj7 (by have := HK1.out; have := HJ7.out; omega) _ _ l0_0 _ _ l0_1 _ _ ((rd_T50 l1 x12_1).f4) (wrap64 (a2 - 1)) true _ ?side1 ?side2 ?side3 ?side4 ?side5 ?side6 A97.out).mono ?_); (case side1 => exact ZQ (Kd.C_below HR0_0.out HB.out)); (case side2 => exact HC0_0.out); (case side3 => exact ZQ (Kd.C_below HR0_1.out HB.out)); (case side4 => exact HC0_1.out); (case side5 => exact ZQ (Kd.C_below HR290_6.out HB.out)); (case side6 => exact HC290_6.out); rintro e w111 ⟨rfl, hb⟩; refine ⟨_, rfl, ?_⟩; replace BK289 := ZW BK289 hb; replace BK291 := ZW BK291 hb; replace HB := ZT HB hb; clear hb; have hcz112 := ZC2 w111 BK289; have hfz112 := ZF2 BK289; have hcz113 := ZC8 w111 BK291; have hfz113 := ZF8 BK291) | (go_at_call 73; (with_reducible refine (ih kj7 (by have := HK1.out; have := HJ7.out; omega) _ _ l0_0 _ _ l0_1 _ _ ((rd_T50 l1 x12_1).f5) (wrap64 (a2 - 1)) false _ ?side1 ?side2 ?side3 ?side4 ?side5 ?side6 A99.out).mono ?_); (case side1 => exact ZQ (Kd.C_below HR0_0.out HB.out)); (case side2 => exact HC0_0.out); (case side3 => exact ZQ (Kd.C_below HR0_1.out HB.out)); (case side4 => exact HC0_1.out); (case side5 => exact ZQ (Kd.C_below HR290_7.out HB.out)); (case side6 => exact HC290_7.out); rintro e w114 ⟨rfl, hb⟩; replace BK289 := ZW BK289 hb; replace BK291 := ZW BK291 hb; replace HB := ZT HB hb; clear hb))
   go_ret
   exact ⟨ZE, ZB⟩))
   ·(
   replace c98 := Bool.eq_false_iff.mpr c98
   subst c98
   have H1 := H; rw [if_neg ZFT] at H1
   clear H
   have H := H1
   clear H1
   obtain rfl := Option.some.inj H
   have hnb115 := NB291_289.out
   have hnc115 := NB289_291.out
   have hcz116 := ZC8 wc BK291
   have hfz116 := ZF8 BK291
   have hcz117 := ZC2 wc BK289
   have hfz117 := ZF2 BK289
   go_wp2_with (first | ((with_reducible refine gate_callee (f := 73) rfl ?_); refine ZGL (some 76) Try.func73 #[.agg #[.slice A0_0 l0_0.length c0_0, .slice A0_1 l0_1.length c0_1], .slice A290_6 ((rd_T50 l1 x12_1).f4).length c290_6, .int .i64 (wrap64 (a2 - 1))] ?_; (with_reducible refine (ih kj7 (by have := HK1.out; have := HJ7.out; omega) _ _ l0_0 _ _ l0_1 _ _ ((rd_T50 l1 x12_1).f4) (wrap64 (a2 - 1)) false _ ?side1 ?side2 ?side3 ?side4 ?side5 ?side6 A97.out).mono ?_); (case side1 => exact ZQ (Kd.C_below HR0_0.out HB.out)); (case side2 => exact HC0_0.out); (case side3 => exact ZQ (Kd.C_below HR0_1.out HB.out)); (case side4 => exact HC0_1.out); (case side5 => exact ZQ (Kd.C_below HR290_6.out HB.out)); (case side6 => exact HC290_6.out); rintro e w118 ⟨rfl, hb⟩; refine ⟨_, rfl, ?_⟩; replace BK289 := ZW BK289 hb; replace BK291 := ZW BK291 hb; replace HB := ZT HB hb; clear hb))
   go_ret
   exact ⟨ZE, ZB⟩))
   ·(
   rw [if_neg c96] at H
   have c96b0 := beq_eq_false_iff_ne.mpr c96
   have c96b1 := bne_iff_ne.mpr c96
   by_cases c119 : ((rd_T50 l1 x12_1).f0) = 3
   ·(
   rw [if_pos c119] at H
   have c119b0 := beq_iff_eq.mpr c119
   have c119b1 := bne_eq_false_iff_eq.mpr c119
   clear c119
   obtain ⟨t296, A120, H⟩ := ZOB H; try dsimp only at H
   by_cases c121 : t296 = true
   ·(
   subst c121
   have H1 := H; rw [if_pos rfl] at H1
   clear H
   have H := H1
   clear H1
   have H' := AM H
   clear H
   have hnb122 := NB291_289.out
   have hnc122 := NB289_291.out
   have hcz123 := ZC8 wc BK291
   have hfz123 := ZF8 BK291
   go_wp2_with (first | ((with_reducible refine gate_callee (f := 80) rfl ?_); refine ZGL (some 89) Try.func80 #[.int .i64 ((rd_T50 l1 x12_1).f3)] ?_; (with_reducible refine (impl_isHost.calls ((rd_T50 l1 x12_1).f3) true _ A120.out).mono ?_); rintro e w' ⟨rfl, ⟨nd, rfl⟩⟩; refine ⟨_, rfl, ?_⟩))
   go_roundg kj7
   case measure => have := HK1.out; have := HJ7.out; omega
   case rel => exact ⟨(wrap64 (x12_1 + 1)), (by first | rfl | (simp; done) | (simp [*]; done)), H', ⟨by have := HK1.out; have := HJ7.out; omega⟩, ⟨ZK BK289.out⟩, ⟨ZB⟩⟩)
   ·(
   replace c121 := Bool.eq_false_iff.mpr c121
   subst c121
   have H1 := H; rw [if_neg ZFT] at H1
   clear H
   have H := H1
   clear H1
   obtain rfl := Option.some.inj H
   have hnb124 := NB291_289.out
   have hnc124 := NB289_291.out
   have hcz125 := ZC8 wc BK291
   have hfz125 := ZF8 BK291
   go_wp2_with (first | ((with_reducible refine gate_callee (f := 80) rfl ?_); refine ZGL (some 89) Try.func80 #[.int .i64 ((rd_T50 l1 x12_1).f3)] ?_; (with_reducible refine (impl_isHost.calls ((rd_T50 l1 x12_1).f3) false _ A120.out).mono ?_); rintro e w' ⟨rfl, ⟨nd, rfl⟩⟩; refine ⟨_, rfl, ?_⟩))
   go_ret
   exact ⟨ZE, ZB⟩))
   ·(
   rw [if_neg c119] at H
   have c119b0 := beq_eq_false_iff_ne.mpr c119
   have c119b1 := bne_iff_ne.mpr c119
   obtain rfl := Option.some.inj H
   have hnb126 := NB291_289.out
   have hnc126 := NB289_291.out
   have hcz127 := ZC8 wc BK291
   have hfz127 := ZF8 BK291
   go_wp2
   go_ret
   exact ⟨ZE, ZB⟩))))))
  ·(
  rw [if_neg c7] at H
  exact absurd H (by simp)))
  ·(
  rw [if_neg c6] at H
  exact absurd H (by simp)))
  ·(
  rw [if_neg c5] at H
  have c5b0 := decide_eq_false c5
  clear c5
  obtain rfl := Option.some.inj H
  go_wp2
  go_ret
  exact ⟨ZE, ZB⟩))

end Go.Proofs.Ytaflodibibbakaa.B
