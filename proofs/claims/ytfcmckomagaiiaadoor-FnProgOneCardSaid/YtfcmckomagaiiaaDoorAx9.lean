/- Go functions as Lean functions, and for each its contract; written by wip/tools/pr.py over the kit's print. -/
import Derived.Test.YtfcmckomagaiiaaDoorAx0
import Derived.Test.YtfcmckomagaiiaaDoorAx2
import Derived.Test.YtfcmckomagaiiaaDoorAx8
namespace Go.Proofs.YtfcmckomagaiiaaDoor.A
open Go.RowKit Go.Proofs.YtfcmckomagaiiaaDoorW.PrintWords Go.Proofs.YtfcmckomagaiiaaDoorW.PrintLast Go.Proofs.YtfcmckomagaiiaaDoorW.PrintMore
attribute [local go_sem] max2_int min2_int max_two min_two max_three min_three max_four min_four
set_option linter.unusedVariables false
set_option linter.unusedSimpArgs false
set_option maxHeartbeats 8000000
set_option maxRecDepth 100000

attribute [local go_sem high] eqA69
/-! ### impl_Prog_stepsOk: function 42 -/
mutual
def impl_Prog_stepsOk.l0 : Nat → Int → List (S71) → Int → Int → List (S43) → List (S71) → Option (Bool)
 | 0, _, _, _, _, _, _ => none
 | k + 1, x2, x10, x11, x12, x193000, x193001 => if x12 < x11 then (if 0 ≤ x12 then (if x12 < (x10.length : Int) then (if x2 < 1 then (impl_Prog_stepsOk.j1 k x2 x10 x11 x12 true x193000 x193001 ((D71 x10 x12).f0) ((D71 x10 x12).f1) ((D71 x10 x12).f2.f0) ((D71 x10 x12).f2.f1) ((D71 x10 x12).f2.f2) ((D71 x10 x12).f3) ((D71 x10 x12).f4) ((D71 x10 x12).f5)) else ((impl_Prog_isVar.f x193000 x193001 ((D71 x10 x12).f1)).bind fun t195 => (if t195 = true then (if ((D71 x10 x12).f0) = 1 then (if ((D71 x10 x12).f0) = 3 then (if ((D71 x10 x12).f0) = 2 then (impl_Prog_stepsOk.j1 k x2 x10 x11 x12 false x193000 x193001 ((D71 x10 x12).f0) ((D71 x10 x12).f1) ((D71 x10 x12).f2.f0) ((D71 x10 x12).f2.f1) ((D71 x10 x12).f2.f2) ((D71 x10 x12).f3) ((D71 x10 x12).f4) ((D71 x10 x12).f5)) else (impl_Prog_stepsOk.j1 k x2 x10 x11 x12 (decide ((wrap64 ((((D71 x10 x12).f4).length : Int) + (((D71 x10 x12).f5).length : Int))) > 0)) x193000 x193001 ((D71 x10 x12).f0) ((D71 x10 x12).f1) ((D71 x10 x12).f2.f0) ((D71 x10 x12).f2.f1) ((D71 x10 x12).f2.f2) ((D71 x10 x12).f3) ((D71 x10 x12).f4) ((D71 x10 x12).f5))) else (if ((D71 x10 x12).f3) = 0 then (if ((D71 x10 x12).f0) = 2 then (impl_Prog_stepsOk.j1 k x2 x10 x11 x12 false x193000 x193001 ((D71 x10 x12).f0) ((D71 x10 x12).f1) ((D71 x10 x12).f2.f0) ((D71 x10 x12).f2.f1) ((D71 x10 x12).f2.f2) ((D71 x10 x12).f3) ((D71 x10 x12).f4) ((D71 x10 x12).f5)) else (impl_Prog_stepsOk.j1 k x2 x10 x11 x12 (decide ((wrap64 ((((D71 x10 x12).f4).length : Int) + (((D71 x10 x12).f5).length : Int))) > 0)) x193000 x193001 ((D71 x10 x12).f0) ((D71 x10 x12).f1) ((D71 x10 x12).f2.f0) ((D71 x10 x12).f2.f1) ((D71 x10 x12).f2.f2) ((D71 x10 x12).f3) ((D71 x10 x12).f4) ((D71 x10 x12).f5))) else (impl_Prog_stepsOk.j1 k x2 x10 x11 x12 true x193000 x193001 ((D71 x10 x12).f0) ((D71 x10 x12).f1) ((D71 x10 x12).f2.f0) ((D71 x10 x12).f2.f1) ((D71 x10 x12).f2.f2) ((D71 x10 x12).f3) ((D71 x10 x12).f4) ((D71 x10 x12).f5)))) else (if (!(((D71 x10 x12).f2.f0) == 0) || (!(((D71 x10 x12).f2.f1) == 0) || (!(((D71 x10 x12).f2.f2) == 0)))) = true then (impl_Prog_stepsOk.j1 k x2 x10 x11 x12 true x193000 x193001 ((D71 x10 x12).f0) ((D71 x10 x12).f1) ((D71 x10 x12).f2.f0) ((D71 x10 x12).f2.f1) ((D71 x10 x12).f2.f2) ((D71 x10 x12).f3) ((D71 x10 x12).f4) ((D71 x10 x12).f5)) else (if ((D71 x10 x12).f0) = 3 then (if ((D71 x10 x12).f0) = 2 then (impl_Prog_stepsOk.j1 k x2 x10 x11 x12 false x193000 x193001 ((D71 x10 x12).f0) ((D71 x10 x12).f1) ((D71 x10 x12).f2.f0) ((D71 x10 x12).f2.f1) ((D71 x10 x12).f2.f2) ((D71 x10 x12).f3) ((D71 x10 x12).f4) ((D71 x10 x12).f5)) else (impl_Prog_stepsOk.j1 k x2 x10 x11 x12 (decide ((wrap64 ((((D71 x10 x12).f4).length : Int) + (((D71 x10 x12).f5).length : Int))) > 0)) x193000 x193001 ((D71 x10 x12).f0) ((D71 x10 x12).f1) ((D71 x10 x12).f2.f0) ((D71 x10 x12).f2.f1) ((D71 x10 x12).f2.f2) ((D71 x10 x12).f3) ((D71 x10 x12).f4) ((D71 x10 x12).f5))) else (if ((D71 x10 x12).f3) = 0 then (if ((D71 x10 x12).f0) = 2 then (impl_Prog_stepsOk.j1 k x2 x10 x11 x12 false x193000 x193001 ((D71 x10 x12).f0) ((D71 x10 x12).f1) ((D71 x10 x12).f2.f0) ((D71 x10 x12).f2.f1) ((D71 x10 x12).f2.f2) ((D71 x10 x12).f3) ((D71 x10 x12).f4) ((D71 x10 x12).f5)) else (impl_Prog_stepsOk.j1 k x2 x10 x11 x12 (decide ((wrap64 ((((D71 x10 x12).f4).length : Int) + (((D71 x10 x12).f5).length : Int))) > 0)) x193000 x193001 ((D71 x10 x12).f0) ((D71 x10 x12).f1) ((D71 x10 x12).f2.f0) ((D71 x10 x12).f2.f1) ((D71 x10 x12).f2.f2) ((D71 x10 x12).f3) ((D71 x10 x12).f4) ((D71 x10 x12).f5))) else (impl_Prog_stepsOk.j1 k x2 x10 x11 x12 true x193000 x193001 ((D71 x10 x12).f0) ((D71 x10 x12).f1) ((D71 x10 x12).f2.f0) ((D71 x10 x12).f2.f1) ((D71 x10 x12).f2.f2) ((D71 x10 x12).f3) ((D71 x10 x12).f4) ((D71 x10 x12).f5)))))) else (impl_Prog_stepsOk.j1 k x2 x10 x11 x12 true x193000 x193001 ((D71 x10 x12).f0) ((D71 x10 x12).f1) ((D71 x10 x12).f2.f0) ((D71 x10 x12).f2.f1) ((D71 x10 x12).f2.f2) ((D71 x10 x12).f3) ((D71 x10 x12).f4) ((D71 x10 x12).f5))))) else (none)) else (none)) else (some true)
def impl_Prog_stepsOk.j1 : Nat → Int → List (S71) → Int → Int → Bool → List (S43) → List (S71) → Int → Int → Int → Int → Int → Int → List (S71) → List (S71) → Option (Bool)
 | 0, _, _, _, _, _, _, _, _, _, _, _, _, _, _, _ => none
 | k + 1, x2, x10, x11, x12, x60, x193000, x193001, x195000, x195001, x195002, x195003, x195004, x195005, x195006, x195007 => if x60 = true then (some false) else (if x195000 = 1 then ((impl_Prog_valOk.f x193000 x193001 x195002 x195003 x195004).bind fun t196 => (if t196 = true then (impl_Prog_stepsOk.l0 k x2 x10 x11 (wrap64 (x12 + 1)) x193000 x193001) else (some false))) else (if x195000 = 2 then ((impl_Prog_stepsOk.f k x193000 x193001 x195006 (wrap64 (x2 - 1))).bind fun t197 => (if t197 = true then ((impl_Prog_stepsOk.f k x193000 x193001 x195007 (wrap64 (x2 - 1))).bind fun t198 => (if t198 = true then (impl_Prog_stepsOk.l0 k x2 x10 x11 (wrap64 (x12 + 1)) x193000 x193001) else (some false))) else (some false))) else (if x195000 = 3 then ((impl_isHost.f x195005).bind fun t199 => (if t199 = true then (impl_Prog_stepsOk.l0 k x2 x10 x11 (wrap64 (x12 + 1)) x193000 x193001) else (some false))) else (some false))))
def impl_Prog_stepsOk.f : Nat → List (S43) → List (S71) → List (S71) → Int → Option (Bool)
 | 0, _, _, _, _ => none
 | k + 1, l0_0, l0_1, l1, a2 => impl_Prog_stepsOk.l0 k a2 l1 (l1.length : Int) 0 l0_0 l0_1
end
theorem impl_Prog_stepsOk.calls (k : Nat) : ∀ (A0_0 : Option Addr) (c0_0 : Nat) (l0_0 : List (S43)) (A0_1 : Option Addr) (c0_1 : Nat) (l0_1 : List (S71)) (A1 : Option Addr) (c1 : Nat) (l1 : List (S71)) (a2 : Int) (r : Bool) (w : World) (hr0_0 : Kd.C k43 w A0_0 l0_0.length l0_0) (hc0_0 : l0_0.length ≤ c0_0) (hr0_1 : Kd.C k71 w A0_1 l0_1.length l0_1) (hc0_1 : l0_1.length ≤ c0_1) (hr1 : Kd.C k71 w A1 l1.length l1) (hc1 : l1.length ≤ c1) (h : impl_Prog_stepsOk.f k l0_0 l0_1 l1 a2 = some r),
  Calls Tryd.prog 42 #[.agg #[.slice A0_0 l0_0.length c0_0, .slice A0_1 l0_1.length c0_1], .slice A1 l1.length c1, .int .i64 a2] w fun e w' => e = .returned (.bool r) ∧ Below w.heap.size w w' := by
 induction k using Nat.strongRecOn with
 | _ k ih =>
 intro A0_0 c0_0 l0_0 A0_1 c0_1 l0_1 A1 c1 l1 a2 r w hr0_0 hc0_0 hr0_1 hc0_1 hr1 hc1 h
 cases k with
 | zero => exact absurd h (by simp [impl_Prog_stepsOk.f])
 | succ k =>
 simp only [impl_Prog_stepsOk.f] at h
 have hu31 := Tryd.underlying31
 have hu71 := Tryd.underlying71
 have hu69 := Tryd.underlying69
 have HR0_0 := AM hr0_0
 have HC0_0 := AM hc0_0
 clear hr0_0 hc0_0
 have HR0_1 := AM hr0_1
 have HC0_1 := AM hc0_1
 clear hr0_1 hc0_1
 have HR1 := AM hr1
 have HC1 := AM hc1
 clear hr1 hc1
 have HB := AM (Below.refl w.heap.size w)
 have H : (impl_Prog_stepsOk.l0 k a2 l1 (l1.length : Int) 0 l0_0 l0_1) = some r := h
 clear h
 have H' := AM H
 clear H
 go_enter Tryd.func42, Tryd.ntmps42
 go_wp2_with (first | ((with_reducible refine gate_dst (N := 3) rfl ?_); refine ZXW w (N := 3) (cs := #[.slice A0_0 l0_0.length c0_0, .slice A0_1 l0_1.length c0_1]) (t := 31) ?_; intro gb192 hg w4 BK192 GW192 hb; replace HB := ZT HB hb; clear hb hg))
 go_loopg [12] k (fun kq v12 w' => ∃ (x12_1 : Int), v12 = .int .i64 x12_1 ∧ Za (impl_Prog_stepsOk.l0 kq a2 l1 (l1.length : Int) x12_1 l0_0 l0_1 = some r) ∧ Za (kq ≤ k) ∧ Za (w'.heap[gb192]? = some (.cells #[(.slice A0_0 l0_0.length c0_0), (.slice A0_1 l0_1.length c0_1)] 31 (0, 0))) ∧ Za (Below w.heap.size w w'))
 case atStart => exact ⟨(0), ZSM, H', ⟨Nat.le_refl _⟩, ⟨ZK BK192.out⟩, ⟨ZB⟩⟩
 case round => (
 clear H'
 try clear c1
 try clear p2
 try clear c4
 obtain ⟨x12_1, rfl, HA, HK1, BK192, HB⟩ := hrel
 cases gk with
 | zero => exact absurd HA.out (by simp [impl_Prog_stepsOk.l0])
 | succ k1 =>
  have H := HA.out
  clear HA
  simp only [impl_Prog_stepsOk.l0] at H
  by_cases c5 : x12_1 < (l1.length : Int)
  ·(
  rw [if_pos c5] at H
  have c5b0 := decide_eq_true c5
  clear c5
  by_cases c6 : 0 ≤ x12_1
  ·(
  rw [if_pos c6] at H
  have c6b0 := decide_eq_true c6
  clear c6
  by_cases c7 : x12_1 < (l1.length : Int)
  ·(
  rw [if_pos c7] at H
  have c7b0 := decide_eq_true c7
  clear c7
  have HC8 := AM H
  clear H
  have p193 : 0 ≤ (x12_1 : Int) := ZD
  have q193 : x12_1 < (l1.length : Int) := ZD
  obtain ⟨ad193, A193_6, c193_6, A193_7, c193_7, e193, hx193_0, hx193_1, hx193_2, hx193_3, hx193_4, hx193_5, hx193_6, hx193_7, hl193_6, hi193_6, hl193_7, hi193_7⟩ := at_T71 HR1.out x12_1 p193 q193
  cases e193
  replace hx193_0 := ZHX HB hx193_0
  replace hx193_1 := ZHX HB hx193_1
  replace hx193_2 := ZHX HB hx193_2
  replace hx193_3 := ZHX HB hx193_3
  replace hx193_4 := ZHX HB hx193_4
  replace hx193_5 := ZHX HB hx193_5
  replace hx193_6 := ZHX HB hx193_6
  replace hx193_7 := ZHX HB hx193_7
  have HR193_6 := AM hi193_6
  have HC193_6 := AM hl193_6
  clear hi193_6 hl193_6
  have HR193_7 := AM hi193_7
  have HC193_7 := AM hl193_7
  clear hi193_7 hl193_7
  replace p193 := eq_true p193
  replace q193 := eq_true q193
  go_upto_region 4 with (first | ((with_reducible refine gate_dst (N := 8) rfl ?_); refine ZXW w (N := 8) (cs := #[.int .i64 0, .int .i64 0, .int .i64 0, .int .i64 0, .int .i64 0, .int .i64 0, .slice none 0 0, .slice none 0 0]) (t := 71) ?_; intro gb194 hg w9 BK194 GW194 hb; have NB192_194 : Za (gb192 ≠ gb194) := ZN hg BK192; have NB194_192 : Za (gb194 ≠ gb192) := ZM hg BK192; replace BK192 := ZW BK192 hb; replace HB := ZT HB hb; clear hb hg; have hnb10 := NB194_192.out; have hnc10 := NB192_194.out; have hcz11 := ZC8 w9 BK194))
  (try simp only [Act.put, List.setIfInBounds_toArray, List.set_cons_zero, List.set_cons_succ])
  go_cut [60] (fun v60 wc => ∃ (kq : Nat) (x60_7 : Bool), v60 = .bool x60_7 ∧ Za (impl_Prog_stepsOk.j1 kq a2 l1 (l1.length : Int) x12_1 x60_7 l0_0 l0_1 ((D71 l1 x12_1).f0) ((D71 l1 x12_1).f1) ((D71 l1 x12_1).f2.f0) ((D71 l1 x12_1).f2.f1) ((D71 l1 x12_1).f2.f2) ((D71 l1 x12_1).f3) ((D71 l1 x12_1).f4) ((D71 l1 x12_1).f5) = some r) ∧ Za (kq ≤ k1) ∧ Za (wc.heap[gb192]? = some (.cells #[(.slice A0_0 l0_0.length c0_0), (.slice A0_1 l0_1.length c0_1)] 31 (0, 0))) ∧ Za (wc.heap[gb194]? = some (.cells #[.int .i64 ((D71 l1 x12_1).f0), .int .i64 ((D71 l1 x12_1).f1), .int .i64 ((D71 l1 x12_1).f2.f0), .int .i64 ((D71 l1 x12_1).f2.f1), .int .i64 ((D71 l1 x12_1).f2.f2), .int .i64 ((D71 l1 x12_1).f3), (.slice A193_6 ((D71 l1 x12_1).f4).length c193_6), (.slice A193_7 ((D71 l1 x12_1).f5).length c193_7)] 71 (0, 0))) ∧ Za (Below w.heap.size w wc))
  case first => (
  have H := HC8.out
  clear HC8
  by_cases c12 : a2 < 1
  ·(
  rw [if_pos c12] at H
  have c12b0 := decide_eq_true c12
  clear c12
  (first | rw [c12b0] | (simp only [i64_w, i32_w]; rw [c12b0]) | skip)
  have H' := AM H
  clear H
  go_wp2
  go_meet
  case rel => exact ⟨_, (true), ZSM, H', ⟨by have := HK1.out; first | omega | exact Nat.le_refl _⟩, ⟨ZZ BK192.out⟩, ⟨ZZ BK194.out⟩, ⟨ZB⟩⟩)
  ·(
  rw [if_neg c12] at H
  have c12b0 := decide_eq_false c12
  clear c12
  (first | rw [c12b0] | (simp only [i64_w, i32_w]; rw [c12b0]) | skip)
  obtain ⟨t195, A13, H⟩ := ZOB H; try dsimp only at H
  by_cases c14 : t195 = true
  ·(
  subst c14
  have H1 := H; rw [if_pos rfl] at H1
  clear H
  have H := H1
  clear H1
  by_cases c15 : ((D71 l1 x12_1).f0) = 1
  ·(
  rw [if_pos c15] at H
  have c15b0 := beq_iff_eq.mpr c15
  have c15b1 := bne_eq_false_iff_eq.mpr c15
  clear c15
  by_cases c16 : ((D71 l1 x12_1).f0) = 3
  ·(
  rw [if_pos c16] at H
  have c16b0 := beq_iff_eq.mpr c16
  have c16b1 := bne_eq_false_iff_eq.mpr c16
  clear c16
  by_cases c17 : ((D71 l1 x12_1).f0) = 2
  ·(
  rw [if_pos c17] at H
  have c17b0 := beq_iff_eq.mpr c17
  have c17b1 := bne_eq_false_iff_eq.mpr c17
  clear c17
  have H' := AM H
  clear H
  have hnb18 := NB192_194.out
  have hnc18 := NB194_192.out
  have hcz19 := ZC2 w9 BK192
  have hcz20 := ZC8 w9 BK194
  go_wp2_with (first | (go_at_call 61; (with_reducible refine (impl_Prog_isVar.calls _ _ l0_0 _ _ l0_1 ((D71 l1 x12_1).f1) true _ ?side1 HC0_0.out ?side3 HC0_1.out A13.out).mono ?_); (case side1 => exact Kd.C_below HR0_0.out (ZB)); (case side3 => exact Kd.C_below HR0_1.out (ZB)); rintro e w21 ⟨rfl, hb⟩; replace BK192 := ZV #[.slice A0_0 l0_0.length c0_0, .slice A0_1 l0_1.length c0_1] BK192 hb; replace BK194 := ZV #[.int .i64 ((D71 l1 x12_1).f0), .int .i64 ((D71 l1 x12_1).f1), .int .i64 ((D71 l1 x12_1).f2.f0), .int .i64 ((D71 l1 x12_1).f2.f1), .int .i64 ((D71 l1 x12_1).f2.f2), .int .i64 ((D71 l1 x12_1).f3), .slice A193_6 ((D71 l1 x12_1).f4).length c193_6, .slice A193_7 ((D71 l1 x12_1).f5).length c193_7] BK194 hb; replace HB := ZT HB hb; clear hb; have hcz22 := ZC8 w21 BK194))
  go_meet
  case rel => exact ⟨_, (false), ZSM, H', ⟨by have := HK1.out; first | omega | exact Nat.le_refl _⟩, ⟨ZK BK192.out⟩, ⟨ZK BK194.out⟩, ⟨ZB⟩⟩)
  ·(
  rw [if_neg c17] at H
  have c17b0 := beq_eq_false_iff_ne.mpr c17
  have c17b1 := bne_iff_ne.mpr c17
  have H' := AM H
  clear H
  have hnb23 := NB192_194.out
  have hnc23 := NB194_192.out
  have hcz24 := ZC2 w9 BK192
  have hcz25 := ZC8 w9 BK194
  go_wp2_with (first | (go_at_call 61; (with_reducible refine (impl_Prog_isVar.calls _ _ l0_0 _ _ l0_1 ((D71 l1 x12_1).f1) true _ ?side1 HC0_0.out ?side3 HC0_1.out A13.out).mono ?_); (case side1 => exact Kd.C_below HR0_0.out (ZB)); (case side3 => exact Kd.C_below HR0_1.out (ZB)); rintro e w26 ⟨rfl, hb⟩; replace BK192 := ZV #[.slice A0_0 l0_0.length c0_0, .slice A0_1 l0_1.length c0_1] BK192 hb; replace BK194 := ZV #[.int .i64 ((D71 l1 x12_1).f0), .int .i64 ((D71 l1 x12_1).f1), .int .i64 ((D71 l1 x12_1).f2.f0), .int .i64 ((D71 l1 x12_1).f2.f1), .int .i64 ((D71 l1 x12_1).f2.f2), .int .i64 ((D71 l1 x12_1).f3), .slice A193_6 ((D71 l1 x12_1).f4).length c193_6, .slice A193_7 ((D71 l1 x12_1).f5).length c193_7] BK194 hb; replace HB := ZT HB hb; clear hb; have hcz27 := ZC8 w26 BK194))
  go_meet
  case rel => exact ⟨_, (decide ((wrap64 ((((D71 l1 x12_1).f4).length : Int) + (((D71 l1 x12_1).f5).length : Int))) > 0)), ZSM, H', ⟨by have := HK1.out; first | omega | exact Nat.le_refl _⟩, ⟨ZK BK192.out⟩, ⟨ZK BK194.out⟩, ⟨ZB⟩⟩))
  ·(
  rw [if_neg c16] at H
  have c16b0 := beq_eq_false_iff_ne.mpr c16
  have c16b1 := bne_iff_ne.mpr c16
  by_cases c28 : ((D71 l1 x12_1).f3) = 0
  ·(
  rw [if_pos c28] at H
  have c28b0 := beq_iff_eq.mpr c28
  have c28b1 := bne_eq_false_iff_eq.mpr c28
  clear c28
  by_cases c29 : ((D71 l1 x12_1).f0) = 2
  ·(
  rw [if_pos c29] at H
  have c29b0 := beq_iff_eq.mpr c29
  have c29b1 := bne_eq_false_iff_eq.mpr c29
  clear c29
  have H' := AM H
  clear H
  have hnb30 := NB192_194.out
  have hnc30 := NB194_192.out
  have hcz31 := ZC2 w9 BK192
  have hcz32 := ZC8 w9 BK194
  go_wp2_with (first | (go_at_call 61; (with_reducible refine (impl_Prog_isVar.calls _ _ l0_0 _ _ l0_1 ((D71 l1 x12_1).f1) true _ ?side1 HC0_0.out ?side3 HC0_1.out A13.out).mono ?_); (case side1 => exact Kd.C_below HR0_0.out (ZB)); (case side3 => exact Kd.C_below HR0_1.out (ZB)); rintro e w33 ⟨rfl, hb⟩; replace BK192 := ZV #[.slice A0_0 l0_0.length c0_0, .slice A0_1 l0_1.length c0_1] BK192 hb; replace BK194 := ZV #[.int .i64 ((D71 l1 x12_1).f0), .int .i64 ((D71 l1 x12_1).f1), .int .i64 ((D71 l1 x12_1).f2.f0), .int .i64 ((D71 l1 x12_1).f2.f1), .int .i64 ((D71 l1 x12_1).f2.f2), .int .i64 ((D71 l1 x12_1).f3), .slice A193_6 ((D71 l1 x12_1).f4).length c193_6, .slice A193_7 ((D71 l1 x12_1).f5).length c193_7] BK194 hb; replace HB := ZT HB hb; clear hb; have hcz34 := ZC8 w33 BK194))
  go_meet
  case rel => exact ⟨_, (false), ZSM, H', ⟨by have := HK1.out; first | omega | exact Nat.le_refl _⟩, ⟨ZK BK192.out⟩, ⟨ZK BK194.out⟩, ⟨ZB⟩⟩)
  ·(
  rw [if_neg c29] at H
  have c29b0 := beq_eq_false_iff_ne.mpr c29
  have c29b1 := bne_iff_ne.mpr c29
  have H' := AM H
  clear H
  have hnb35 := NB192_194.out
  have hnc35 := NB194_192.out
  have hcz36 := ZC2 w9 BK192
  have hcz37 := ZC8 w9 BK194
  go_wp2_with (first | (go_at_call 61; (with_reducible refine (impl_Prog_isVar.calls _ _ l0_0 _ _ l0_1 ((D71 l1 x12_1).f1) true _ ?side1 HC0_0.out ?side3 HC0_1.out A13.out).mono ?_); (case side1 => exact Kd.C_below HR0_0.out (ZB)); (case side3 => exact Kd.C_below HR0_1.out (ZB)); rintro e w38 ⟨rfl, hb⟩; replace BK192 := ZV #[.slice A0_0 l0_0.length c0_0, .slice A0_1 l0_1.length c0_1] BK192 hb; replace BK194 := ZV #[.int .i64 ((D71 l1 x12_1).f0), .int .i64 ((D71 l1 x12_1).f1), .int .i64 ((D71 l1 x12_1).f2.f0), .int .i64 ((D71 l1 x12_1).f2.f1), .int .i64 ((D71 l1 x12_1).f2.f2), .int .i64 ((D71 l1 x12_1).f3), .slice A193_6 ((D71 l1 x12_1).f4).length c193_6, .slice A193_7 ((D71 l1 x12_1).f5).length c193_7] BK194 hb; replace HB := ZT HB hb; clear hb; have hcz39 := ZC8 w38 BK194))
  go_meet
  case rel => exact ⟨_, (decide ((wrap64 ((((D71 l1 x12_1).f4).length : Int) + (((D71 l1 x12_1).f5).length : Int))) > 0)), ZSM, H', ⟨by have := HK1.out; first | omega | exact Nat.le_refl _⟩, ⟨ZK BK192.out⟩, ⟨ZK BK194.out⟩, ⟨ZB⟩⟩))
  ·(
  rw [if_neg c28] at H
  have c28b0 := beq_eq_false_iff_ne.mpr c28
  have c28b1 := bne_iff_ne.mpr c28
  have H' := AM H
  clear H
  have hnb40 := NB192_194.out
  have hnc40 := NB194_192.out
  have hcz41 := ZC2 w9 BK192
  have hcz42 := ZC8 w9 BK194
  go_wp2_with (first | (go_at_call 61; (with_reducible refine (impl_Prog_isVar.calls _ _ l0_0 _ _ l0_1 ((D71 l1 x12_1).f1) true _ ?side1 HC0_0.out ?side3 HC0_1.out A13.out).mono ?_); (case side1 => exact Kd.C_below HR0_0.out (ZB)); (case side3 => exact Kd.C_below HR0_1.out (ZB)); rintro e w43 ⟨rfl, hb⟩; replace BK192 := ZV #[.slice A0_0 l0_0.length c0_0, .slice A0_1 l0_1.length c0_1] BK192 hb; replace BK194 := ZV #[.int .i64 ((D71 l1 x12_1).f0), .int .i64 ((D71 l1 x12_1).f1), .int .i64 ((D71 l1 x12_1).f2.f0), .int .i64 ((D71 l1 x12_1).f2.f1), .int .i64 ((D71 l1 x12_1).f2.f2), .int .i64 ((D71 l1 x12_1).f3), .slice A193_6 ((D71 l1 x12_1).f4).length c193_6, .slice A193_7 ((D71 l1 x12_1).f5).length c193_7] BK194 hb; replace HB := ZT HB hb; clear hb; have hcz44 := ZC8 w43 BK194))
  go_meet
  case rel => exact ⟨_, (true), ZSM, H', ⟨by have := HK1.out; first | omega | exact Nat.le_refl _⟩, ⟨ZK BK192.out⟩, ⟨ZK BK194.out⟩, ⟨ZB⟩⟩)))
  ·(
  rw [if_neg c15] at H
  have c15b0 := beq_eq_false_iff_ne.mpr c15
  have c15b1 := bne_iff_ne.mpr c15
  by_cases c45 : (!(((D71 l1 x12_1).f2.f0) == 0) || (!(((D71 l1 x12_1).f2.f1) == 0) || (!(((D71 l1 x12_1).f2.f2) == 0)))) = true
  ·(
  rw [if_pos c45] at H
  have c45b0 : (!(((D71 l1 x12_1).f2.f0) == 0) || (!(((D71 l1 x12_1).f2.f1) == 0) || (!(((D71 l1 x12_1).f2.f2) == 0)))) = true := c45
  clear c45
  have H' := AM H
  clear H
  have hnb46 := NB192_194.out
  have hnc46 := NB194_192.out
  have hcz47 := ZC2 w9 BK192
  have hcz48 := ZC8 w9 BK194
  go_wp2_with (first | (go_at_call 61; (with_reducible refine (impl_Prog_isVar.calls _ _ l0_0 _ _ l0_1 ((D71 l1 x12_1).f1) true _ ?side1 HC0_0.out ?side3 HC0_1.out A13.out).mono ?_); (case side1 => exact Kd.C_below HR0_0.out (ZB)); (case side3 => exact Kd.C_below HR0_1.out (ZB)); rintro e w49 ⟨rfl, hb⟩; replace BK192 := ZV #[.slice A0_0 l0_0.length c0_0, .slice A0_1 l0_1.length c0_1] BK192 hb; replace BK194 := ZV #[.int .i64 ((D71 l1 x12_1).f0), .int .i64 ((D71 l1 x12_1).f1), .int .i64 ((D71 l1 x12_1).f2.f0), .int .i64 ((D71 l1 x12_1).f2.f1), .int .i64 ((D71 l1 x12_1).f2.f2), .int .i64 ((D71 l1 x12_1).f3), .slice A193_6 ((D71 l1 x12_1).f4).length c193_6, .slice A193_7 ((D71 l1 x12_1).f5).length c193_7] BK194 hb; replace HB := ZT HB hb; clear hb; have hcz50 := ZC8 w49 BK194))
  go_meet
  case rel => exact ⟨_, (true), ZSM, H', ⟨by have := HK1.out; first | omega | exact Nat.le_refl _⟩, ⟨ZK BK192.out⟩, ⟨ZK BK194.out⟩, ⟨ZB⟩⟩)
  ·(
  rw [if_neg c45] at H
  have c45b0 : (!(((D71 l1 x12_1).f2.f0) == 0) || (!(((D71 l1 x12_1).f2.f1) == 0) || (!(((D71 l1 x12_1).f2.f2) == 0)))) = false := by simpa using c45
  clear c45
  by_cases c51 : ((D71 l1 x12_1).f0) = 3
  ·(
  rw [if_pos c51] at H
  have c51b0 := beq_iff_eq.mpr c51
  have c51b1 := bne_eq_false_iff_eq.mpr c51
  clear c51
  by_cases c52 : ((D71 l1 x12_1).f0) = 2
  ·(
  rw [if_pos c52] at H
  have c52b0 := beq_iff_eq.mpr c52
  have c52b1 := bne_eq_false_iff_eq.mpr c52
  clear c52
  have H' := AM H
  clear H
  have hnb53 := NB192_194.out
  have hnc53 := NB194_192.out
  have hcz54 := ZC2 w9 BK192
  have hcz55 := ZC8 w9 BK194
  go_wp2_with (first | (go_at_call 61; (with_reducible refine (impl_Prog_isVar.calls _ _ l0_0 _ _ l0_1 ((D71 l1 x12_1).f1) true _ ?side1 HC0_0.out ?side3 HC0_1.out A13.out).mono ?_); (case side1 => exact Kd.C_below HR0_0.out (ZB)); (case side3 => exact Kd.C_below HR0_1.out (ZB)); rintro e w56 ⟨rfl, hb⟩; replace BK192 := ZV #[.slice A0_0 l0_0.length c0_0, .slice A0_1 l0_1.length c0_1] BK192 hb; replace BK194 := ZV #[.int .i64 ((D71 l1 x12_1).f0), .int .i64 ((D71 l1 x12_1).f1), .int .i64 ((D71 l1 x12_1).f2.f0), .int .i64 ((D71 l1 x12_1).f2.f1), .int .i64 ((D71 l1 x12_1).f2.f2), .int .i64 ((D71 l1 x12_1).f3), .slice A193_6 ((D71 l1 x12_1).f4).length c193_6, .slice A193_7 ((D71 l1 x12_1).f5).length c193_7] BK194 hb; replace HB := ZT HB hb; clear hb; have hcz57 := ZC8 w56 BK194))
  go_meet
  case rel => exact ⟨_, (false), ZSM, H', ⟨by have := HK1.out; first | omega | exact Nat.le_refl _⟩, ⟨ZK BK192.out⟩, ⟨ZK BK194.out⟩, ⟨ZB⟩⟩)
  ·(
  rw [if_neg c52] at H
  have c52b0 := beq_eq_false_iff_ne.mpr c52
  have c52b1 := bne_iff_ne.mpr c52
  have H' := AM H
  clear H
  have hnb58 := NB192_194.out
  have hnc58 := NB194_192.out
  have hcz59 := ZC2 w9 BK192
  have hcz60 := ZC8 w9 BK194
  go_wp2_with (first | (go_at_call 61; (with_reducible refine (impl_Prog_isVar.calls _ _ l0_0 _ _ l0_1 ((D71 l1 x12_1).f1) true _ ?side1 HC0_0.out ?side3 HC0_1.out A13.out).mono ?_); (case side1 => exact Kd.C_below HR0_0.out (ZB)); (case side3 => exact Kd.C_below HR0_1.out (ZB)); rintro e w61 ⟨rfl, hb⟩; replace BK192 := ZV #[.slice A0_0 l0_0.length c0_0, .slice A0_1 l0_1.length c0_1] BK192 hb; replace BK194 := ZV #[.int .i64 ((D71 l1 x12_1).f0), .int .i64 ((D71 l1 x12_1).f1), .int .i64 ((D71 l1 x12_1).f2.f0), .int .i64 ((D71 l1 x12_1).f2.f1), .int .i64 ((D71 l1 x12_1).f2.f2), .int .i64 ((D71 l1 x12_1).f3), .slice A193_6 ((D71 l1 x12_1).f4).length c193_6, .slice A193_7 ((D71 l1 x12_1).f5).length c193_7] BK194 hb; replace HB := ZT HB hb; clear hb; have hcz62 := ZC8 w61 BK194))
  go_meet
  case rel => exact ⟨_, (decide ((wrap64 ((((D71 l1 x12_1).f4).length : Int) + (((D71 l1 x12_1).f5).length : Int))) > 0)), ZSM, H', ⟨by have := HK1.out; first | omega | exact Nat.le_refl _⟩, ⟨ZK BK192.out⟩, ⟨ZK BK194.out⟩, ⟨ZB⟩⟩))
  ·(
  rw [if_neg c51] at H
  have c51b0 := beq_eq_false_iff_ne.mpr c51
  have c51b1 := bne_iff_ne.mpr c51
  by_cases c63 : ((D71 l1 x12_1).f3) = 0
  ·(
  rw [if_pos c63] at H
  have c63b0 := beq_iff_eq.mpr c63
  have c63b1 := bne_eq_false_iff_eq.mpr c63
  clear c63
  by_cases c64 : ((D71 l1 x12_1).f0) = 2
  ·(
  rw [if_pos c64] at H
  have c64b0 := beq_iff_eq.mpr c64
  have c64b1 := bne_eq_false_iff_eq.mpr c64
  clear c64
  have H' := AM H
  clear H
  have hnb65 := NB192_194.out
  have hnc65 := NB194_192.out
  have hcz66 := ZC2 w9 BK192
  have hcz67 := ZC8 w9 BK194
  go_wp2_with (first | (go_at_call 61; (with_reducible refine (impl_Prog_isVar.calls _ _ l0_0 _ _ l0_1 ((D71 l1 x12_1).f1) true _ ?side1 HC0_0.out ?side3 HC0_1.out A13.out).mono ?_); (case side1 => exact Kd.C_below HR0_0.out (ZB)); (case side3 => exact Kd.C_below HR0_1.out (ZB)); rintro e w68 ⟨rfl, hb⟩; replace BK192 := ZV #[.slice A0_0 l0_0.length c0_0, .slice A0_1 l0_1.length c0_1] BK192 hb; replace BK194 := ZV #[.int .i64 ((D71 l1 x12_1).f0), .int .i64 ((D71 l1 x12_1).f1), .int .i64 ((D71 l1 x12_1).f2.f0), .int .i64 ((D71 l1 x12_1).f2.f1), .int .i64 ((D71 l1 x12_1).f2.f2), .int .i64 ((D71 l1 x12_1).f3), .slice A193_6 ((D71 l1 x12_1).f4).length c193_6, .slice A193_7 ((D71 l1 x12_1).f5).length c193_7] BK194 hb; replace HB := ZT HB hb; clear hb; have hcz69 := ZC8 w68 BK194))
  go_meet
  case rel => exact ⟨_, (false), ZSM, H', ⟨by have := HK1.out; first | omega | exact Nat.le_refl _⟩, ⟨ZK BK192.out⟩, ⟨ZK BK194.out⟩, ⟨ZB⟩⟩)
  ·(
  rw [if_neg c64] at H
  have c64b0 := beq_eq_false_iff_ne.mpr c64
  have c64b1 := bne_iff_ne.mpr c64
  have H' := AM H
  clear H
  have hnb70 := NB192_194.out
  have hnc70 := NB194_192.out
  have hcz71 := ZC2 w9 BK192
  have hcz72 := ZC8 w9 BK194
  go_wp2_with (first | (go_at_call 61; (with_reducible refine (impl_Prog_isVar.calls _ _ l0_0 _ _ l0_1 ((D71 l1 x12_1).f1) true _ ?side1 HC0_0.out ?side3 HC0_1.out A13.out).mono ?_); (case side1 => exact Kd.C_below HR0_0.out (ZB)); (case side3 => exact Kd.C_below HR0_1.out (ZB)); rintro e w73 ⟨rfl, hb⟩; replace BK192 := ZV #[.slice A0_0 l0_0.length c0_0, .slice A0_1 l0_1.length c0_1] BK192 hb; replace BK194 := ZV #[.int .i64 ((D71 l1 x12_1).f0), .int .i64 ((D71 l1 x12_1).f1), .int .i64 ((D71 l1 x12_1).f2.f0), .int .i64 ((D71 l1 x12_1).f2.f1), .int .i64 ((D71 l1 x12_1).f2.f2), .int .i64 ((D71 l1 x12_1).f3), .slice A193_6 ((D71 l1 x12_1).f4).length c193_6, .slice A193_7 ((D71 l1 x12_1).f5).length c193_7] BK194 hb; replace HB := ZT HB hb; clear hb; have hcz74 := ZC8 w73 BK194))
  go_meet
  case rel => exact ⟨_, (decide ((wrap64 ((((D71 l1 x12_1).f4).length : Int) + (((D71 l1 x12_1).f5).length : Int))) > 0)), ZSM, H', ⟨by have := HK1.out; first | omega | exact Nat.le_refl _⟩, ⟨ZK BK192.out⟩, ⟨ZK BK194.out⟩, ⟨ZB⟩⟩))
  ·(
  rw [if_neg c63] at H
  have c63b0 := beq_eq_false_iff_ne.mpr c63
  have c63b1 := bne_iff_ne.mpr c63
  have H' := AM H
  clear H
  have hnb75 := NB192_194.out
  have hnc75 := NB194_192.out
  have hcz76 := ZC2 w9 BK192
  have hcz77 := ZC8 w9 BK194
  go_wp2_with (first | (go_at_call 61; (with_reducible refine (impl_Prog_isVar.calls _ _ l0_0 _ _ l0_1 ((D71 l1 x12_1).f1) true _ ?side1 HC0_0.out ?side3 HC0_1.out A13.out).mono ?_); (case side1 => exact Kd.C_below HR0_0.out (ZB)); (case side3 => exact Kd.C_below HR0_1.out (ZB)); rintro e w78 ⟨rfl, hb⟩; replace BK192 := ZV #[.slice A0_0 l0_0.length c0_0, .slice A0_1 l0_1.length c0_1] BK192 hb; replace BK194 := ZV #[.int .i64 ((D71 l1 x12_1).f0), .int .i64 ((D71 l1 x12_1).f1), .int .i64 ((D71 l1 x12_1).f2.f0), .int .i64 ((D71 l1 x12_1).f2.f1), .int .i64 ((D71 l1 x12_1).f2.f2), .int .i64 ((D71 l1 x12_1).f3), .slice A193_6 ((D71 l1 x12_1).f4).length c193_6, .slice A193_7 ((D71 l1 x12_1).f5).length c193_7] BK194 hb; replace HB := ZT HB hb; clear hb; have hcz79 := ZC8 w78 BK194))
  go_meet
  case rel => exact ⟨_, (true), ZSM, H', ⟨by have := HK1.out; first | omega | exact Nat.le_refl _⟩, ⟨ZK BK192.out⟩, ⟨ZK BK194.out⟩, ⟨ZB⟩⟩)))))
  ·(
  replace c14 := Bool.eq_false_iff.mpr c14
  subst c14
  have H1 := H; rw [if_neg ZFT] at H1
  clear H
  have H := H1
  clear H1
  have H' := AM H
  clear H
  have hnb80 := NB192_194.out
  have hnc80 := NB194_192.out
  have hcz81 := ZC2 w9 BK192
  have hcz82 := ZC8 w9 BK194
  go_wp2_with (first | (go_at_call 61; (with_reducible refine (impl_Prog_isVar.calls _ _ l0_0 _ _ l0_1 ((D71 l1 x12_1).f1) false _ ?side1 HC0_0.out ?side3 HC0_1.out A13.out).mono ?_); (case side1 => exact Kd.C_below HR0_0.out (ZB)); (case side3 => exact Kd.C_below HR0_1.out (ZB)); rintro e w83 ⟨rfl, hb⟩; replace BK192 := ZV #[.slice A0_0 l0_0.length c0_0, .slice A0_1 l0_1.length c0_1] BK192 hb; replace BK194 := ZV #[.int .i64 ((D71 l1 x12_1).f0), .int .i64 ((D71 l1 x12_1).f1), .int .i64 ((D71 l1 x12_1).f2.f0), .int .i64 ((D71 l1 x12_1).f2.f1), .int .i64 ((D71 l1 x12_1).f2.f2), .int .i64 ((D71 l1 x12_1).f3), .slice A193_6 ((D71 l1 x12_1).f4).length c193_6, .slice A193_7 ((D71 l1 x12_1).f5).length c193_7] BK194 hb; replace HB := ZT HB hb; clear hb))
  go_meet
  case rel => exact ⟨_, (true), ZSM, H', ⟨by have := HK1.out; first | omega | exact Nat.le_refl _⟩, ⟨ZK BK192.out⟩, ⟨ZK BK194.out⟩, ⟨ZB⟩⟩)))
  case rest => (
  clear HC8
  try clear c1
  try clear p1
  try clear q1
  try clear hx1
  try clear c2
  try clear p2
  try clear c3
  try clear c4
  try clear c5
  try clear c5b0
  try clear c6
  try clear c6b0
  try clear p6
  try clear c7
  try clear c7b0
  try clear c8
  try clear c10
  try clear c12
  try clear c12b0
  try clear c14
  try clear c15
  try clear c15b0
  try clear c15b1
  try clear c16
  try clear c16b0
  try clear c16b1
  try clear c17
  try clear c17b0
  try clear c17b1
  try clear c18
  try clear c19
  try clear p19
  try clear q19
  try clear hx19
  try clear c23
  try clear c28
  try clear c28b0
  try clear c28b1
  try clear c29
  try clear c29b0
  try clear c29b1
  try clear c30
  try clear c35
  try clear c40
  try clear c42
  try clear c45
  try clear c45b0
  try clear c46
  try clear c51
  try clear c51b0
  try clear c51b1
  try clear c52
  try clear c52b0
  try clear c52b1
  try clear c53
  try clear c58
  try clear c63
  try clear c63b0
  try clear c63b1
  try clear c64
  try clear c64b0
  try clear c64b1
  try clear p64
  try clear c65
  try clear c70
  try clear c75
  try clear c80
  try clear hcz11
  try clear hcz19
  try clear hcz20
  try clear hcz22
  try clear hcz24
  try clear hcz25
  try clear hcz27
  try clear hcz31
  try clear hcz32
  try clear hcz34
  try clear hcz36
  try clear hcz37
  try clear hcz39
  try clear hcz41
  try clear hcz42
  try clear hcz44
  try clear hcz47
  try clear hcz48
  try clear hcz50
  try clear hcz54
  try clear hcz55
  try clear hcz57
  try clear hcz59
  try clear hcz60
  try clear hcz62
  try clear hcz66
  try clear hcz67
  try clear hcz69
  try clear hcz71
  try clear hcz72
  try clear hcz74
  try clear hcz76
  try clear hcz77
  try clear hcz79
  try clear hcz81
  try clear hcz82
  try clear hx193_0
  try clear hx193_1
  try clear hx193_2
  try clear hx193_3
  try clear hx193_4
  try clear hx193_5
  try clear hx193_6
  try clear hx193_7
  try clear p193
  try clear p2
  try clear q193
  obtain ⟨kq, x60_7, rfl, HA, HJ7, BK192, BK194, HB⟩ := hcut
  cases kq with
  | zero => exact absurd HA.out (by simp [impl_Prog_stepsOk.j1])
  | succ kj7 =>
   have H := HA.out
   clear HA
   simp only [impl_Prog_stepsOk.j1] at H
   by_cases c84 : x60_7 = true
   ·(
   subst c84
   have H1 := H; rw [if_pos rfl] at H1
   clear H
   have H := H1
   clear H1
   obtain rfl := Option.some.inj H
   go_wp2
   go_ret
   exact ⟨ZE, ZB⟩)
   ·(
   replace c84 := Bool.eq_false_iff.mpr c84
   subst c84
   have H1 := H; rw [if_neg ZFT] at H1
   clear H
   have H := H1
   clear H1
   by_cases c85 : ((D71 l1 x12_1).f0) = 1
   ·(
   rw [if_pos c85] at H
   have c85b0 := beq_iff_eq.mpr c85
   have c85b1 := bne_eq_false_iff_eq.mpr c85
   clear c85
   obtain ⟨t196, A86, H⟩ := ZOB H; try dsimp only at H
   by_cases c87 : t196 = true
   ·(
   subst c87
   have H1 := H; rw [if_pos rfl] at H1
   clear H
   have H := H1
   clear H1
   have H' := AM H
   clear H
   have hnb88 := NB194_192.out
   have hnc88 := NB192_194.out
   have hcz89 := ZC8 wc BK194
   have hcz90 := ZC2 wc BK192
   go_wp2_with (first | ((with_reducible refine gate_callee (f := 62) rfl ?_); refine ZGL (some 68) Tryd.func62 #[.agg #[.slice A0_0 l0_0.length c0_0, .slice A0_1 l0_1.length c0_1], .agg #[.int .i64 ((D71 l1 x12_1).f2.f0), .int .i64 ((D71 l1 x12_1).f2.f1), .int .i64 ((D71 l1 x12_1).f2.f2)]] ?_; (with_reducible refine (impl_Prog_valOk.calls _ _ l0_0 _ _ l0_1 ((D71 l1 x12_1).f2.f0) ((D71 l1 x12_1).f2.f1) ((D71 l1 x12_1).f2.f2) true _ (ZQ (Kd.C_below HR0_0.out HB.out)) HC0_0.out (ZQ (Kd.C_below HR0_1.out HB.out)) HC0_1.out A86.out).mono ?_); rintro e w91 ⟨rfl, hb⟩; refine ZV1 ?_; replace BK192 := ZW BK192 hb; replace BK194 := ZW BK194 hb; replace HB := ZT HB hb; clear hb))
   go_roundg kj7
   case measure => have := HK1.out; have := HJ7.out; omega
   case rel => exact ⟨(wrap64 (x12_1 + 1)), ZSM, H', ⟨by have := HK1.out; have := HJ7.out; omega⟩, ⟨ZK BK192.out⟩, ⟨ZB⟩⟩)
   ·(
   replace c87 := Bool.eq_false_iff.mpr c87
   subst c87
   have H1 := H; rw [if_neg ZFT] at H1
   clear H
   have H := H1
   clear H1
   obtain rfl := Option.some.inj H
   have hnb92 := NB194_192.out
   have hnc92 := NB192_194.out
   have hcz93 := ZC8 wc BK194
   have hcz94 := ZC2 wc BK192
   go_wp2_with (first | ((with_reducible refine gate_callee (f := 62) rfl ?_); refine ZGL (some 68) Tryd.func62 #[.agg #[.slice A0_0 l0_0.length c0_0, .slice A0_1 l0_1.length c0_1], .agg #[.int .i64 ((D71 l1 x12_1).f2.f0), .int .i64 ((D71 l1 x12_1).f2.f1), .int .i64 ((D71 l1 x12_1).f2.f2)]] ?_; (with_reducible refine (impl_Prog_valOk.calls _ _ l0_0 _ _ l0_1 ((D71 l1 x12_1).f2.f0) ((D71 l1 x12_1).f2.f1) ((D71 l1 x12_1).f2.f2) false _ (ZQ (Kd.C_below HR0_0.out HB.out)) HC0_0.out (ZQ (Kd.C_below HR0_1.out HB.out)) HC0_1.out A86.out).mono ?_); rintro e w95 ⟨rfl, hb⟩; refine ZV1 ?_; replace BK192 := ZW BK192 hb; replace BK194 := ZW BK194 hb; replace HB := ZT HB hb; clear hb))
   go_ret
   exact ⟨ZE, ZB⟩))
   ·(
   rw [if_neg c85] at H
   have c85b0 := beq_eq_false_iff_ne.mpr c85
   have c85b1 := bne_iff_ne.mpr c85
   by_cases c96 : ((D71 l1 x12_1).f0) = 2
   ·(
   rw [if_pos c96] at H
   have c96b0 := beq_iff_eq.mpr c96
   have c96b1 := bne_eq_false_iff_eq.mpr c96
   clear c96
   obtain ⟨t197, A97, H⟩ := ZOB H; try dsimp only at H
   by_cases c98 : t197 = true
   ·(
   subst c98
   have H1 := H; rw [if_pos rfl] at H1
   clear H
   have H := H1
   clear H1
   obtain ⟨t198, A99, H⟩ := ZOB H; try dsimp only at H
   by_cases c100 : t198 = true
   ·(
   subst c100
   have H1 := H; rw [if_pos rfl] at H1
   clear H
   have H := H1
   clear H1
   have H' := AM H
   clear H
   have hnb101 := NB194_192.out
   have hnc101 := NB192_194.out
   have hcz102 := ZC8 wc BK194
   have hcz103 := ZC2 wc BK192
   go_wp2_with (first | ((with_reducible refine gate_callee (f := 42) rfl ?_); refine ZGL (some 76) Tryd.func42 #[.agg #[.slice A0_0 l0_0.length c0_0, .slice A0_1 l0_1.length c0_1], .slice A193_6 ((D71 l1 x12_1).f4).length c193_6, .int .i64 (wrap64 (a2 - 1))] ?_; (with_reducible refine (ih kj7 (by have := HK1.out; have := HJ7.out; omega) _ _ l0_0 _ _ l0_1 _ _ ((D71 l1 x12_1).f4) (wrap64 (a2 - 1)) true _ (ZQ (Kd.C_below HR0_0.out HB.out)) HC0_0.out (ZQ (Kd.C_below HR0_1.out HB.out)) HC0_1.out (ZQ (Kd.C_below HR193_6.out HB.out)) HC193_6.out A97.out).mono ?_); rintro e w104 ⟨rfl, hb⟩; refine ZV1 ?_; replace BK192 := ZW BK192 hb; replace BK194 := ZW BK194 hb; replace HB := ZT HB hb; clear hb; have hcz105 := ZC2 w104 BK192; have hcz106 := ZC8 w104 BK194) | (go_at_call 42; (with_reducible refine (ih kj7 (by have := HK1.out; have := HJ7.out; omega) _ _ l0_0 _ _ l0_1 _ _ ((D71 l1 x12_1).f5) (wrap64 (a2 - 1)) true _ (ZQ (Kd.C_below HR0_0.out HB.out)) HC0_0.out (ZQ (Kd.C_below HR0_1.out HB.out)) HC0_1.out (ZQ (Kd.C_below HR193_7.out HB.out)) HC193_7.out A99.out).mono ?_); rintro e w107 ⟨rfl, hb⟩; replace BK192 := ZW BK192 hb; replace BK194 := ZW BK194 hb; replace HB := ZT HB hb; clear hb))
   go_roundg kj7
   case measure => have := HK1.out; have := HJ7.out; omega
   case rel => exact ⟨(wrap64 (x12_1 + 1)), ZSM, H', ⟨by have := HK1.out; have := HJ7.out; omega⟩, ⟨ZK BK192.out⟩, ⟨ZB⟩⟩)
   ·(
   replace c100 := Bool.eq_false_iff.mpr c100
   subst c100
   have H1 := H; rw [if_neg ZFT] at H1
   clear H
   have H := H1
   clear H1
   obtain rfl := Option.some.inj H
   have hnb108 := NB194_192.out
   have hnc108 := NB192_194.out
   have hcz109 := ZC8 wc BK194
   have hcz110 := ZC2 wc BK192
   go_wp2_with (first | ((with_reducible refine gate_callee (f := 42) rfl ?_); refine ZGL (some 76) Tryd.func42 #[.agg #[.slice A0_0 l0_0.length c0_0, .slice A0_1 l0_1.length c0_1], .slice A193_6 ((D71 l1 x12_1).f4).length c193_6, .int .i64 (wrap64 (a2 - 1))] ?_; (with_reducible refine (ih kj7 (by have := HK1.out; have := HJ7.out; omega) _ _ l0_0 _ _ l0_1 _ _ ((D71 l1 x12_1).f4) (wrap64 (a2 - 1)) true _ (ZQ (Kd.C_below HR0_0.out HB.out)) HC0_0.out (ZQ (Kd.C_below HR0_1.out HB.out)) HC0_1.out (ZQ (Kd.C_below HR193_6.out HB.out)) HC193_6.out A97.out).mono ?_); rintro e w111 ⟨rfl, hb⟩; refine ZV1 ?_; replace BK192 := ZW BK192 hb; replace BK194 := ZW BK194 hb; replace HB := ZT HB hb; clear hb; have hcz112 := ZC2 w111 BK192; have hcz113 := ZC8 w111 BK194) | (go_at_call 42; (with_reducible refine (ih kj7 (by have := HK1.out; have := HJ7.out; omega) _ _ l0_0 _ _ l0_1 _ _ ((D71 l1 x12_1).f5) (wrap64 (a2 - 1)) false _ (ZQ (Kd.C_below HR0_0.out HB.out)) HC0_0.out (ZQ (Kd.C_below HR0_1.out HB.out)) HC0_1.out (ZQ (Kd.C_below HR193_7.out HB.out)) HC193_7.out A99.out).mono ?_); rintro e w114 ⟨rfl, hb⟩; replace BK192 := ZW BK192 hb; replace BK194 := ZW BK194 hb; replace HB := ZT HB hb; clear hb))
   go_ret
   exact ⟨ZE, ZB⟩))
   ·(
   replace c98 := Bool.eq_false_iff.mpr c98
   subst c98
   have H1 := H; rw [if_neg ZFT] at H1
   clear H
   have H := H1
   clear H1
   obtain rfl := Option.some.inj H
   have hnb115 := NB194_192.out
   have hnc115 := NB192_194.out
   have hcz116 := ZC8 wc BK194
   have hcz117 := ZC2 wc BK192
   go_wp2_with (first | ((with_reducible refine gate_callee (f := 42) rfl ?_); refine ZGL (some 76) Tryd.func42 #[.agg #[.slice A0_0 l0_0.length c0_0, .slice A0_1 l0_1.length c0_1], .slice A193_6 ((D71 l1 x12_1).f4).length c193_6, .int .i64 (wrap64 (a2 - 1))] ?_; (with_reducible refine (ih kj7 (by have := HK1.out; have := HJ7.out; omega) _ _ l0_0 _ _ l0_1 _ _ ((D71 l1 x12_1).f4) (wrap64 (a2 - 1)) false _ (ZQ (Kd.C_below HR0_0.out HB.out)) HC0_0.out (ZQ (Kd.C_below HR0_1.out HB.out)) HC0_1.out (ZQ (Kd.C_below HR193_6.out HB.out)) HC193_6.out A97.out).mono ?_); rintro e w118 ⟨rfl, hb⟩; refine ZV1 ?_; replace BK192 := ZW BK192 hb; replace BK194 := ZW BK194 hb; replace HB := ZT HB hb; clear hb))
   go_ret
   exact ⟨ZE, ZB⟩))
   ·(
   rw [if_neg c96] at H
   have c96b0 := beq_eq_false_iff_ne.mpr c96
   have c96b1 := bne_iff_ne.mpr c96
   by_cases c119 : ((D71 l1 x12_1).f0) = 3
   ·(
   rw [if_pos c119] at H
   have c119b0 := beq_iff_eq.mpr c119
   have c119b1 := bne_eq_false_iff_eq.mpr c119
   clear c119
   obtain ⟨t199, A120, H⟩ := ZOB H; try dsimp only at H
   by_cases c121 : t199 = true
   ·(
   subst c121
   have H1 := H; rw [if_pos rfl] at H1
   clear H
   have H := H1
   clear H1
   have H' := AM H
   clear H
   have hnb122 := NB194_192.out
   have hnc122 := NB192_194.out
   have hcz123 := ZC8 wc BK194
   go_wp2_with (first | ((with_reducible refine gate_callee (f := 63) rfl ?_); refine ZGL (some 89) Tryd.func63 #[.int .i64 ((D71 l1 x12_1).f3)] ?_; (with_reducible refine (impl_isHost.calls ((D71 l1 x12_1).f3) true _ A120.out).mono ?_); rintro e w' ⟨rfl, ⟨nd, rfl⟩⟩; refine ZV1 ?_))
   go_roundg kj7
   case measure => have := HK1.out; have := HJ7.out; omega
   case rel => exact ⟨(wrap64 (x12_1 + 1)), ZSM, H', ⟨by have := HK1.out; have := HJ7.out; omega⟩, ⟨ZK BK192.out⟩, ⟨ZB⟩⟩)
   ·(
   replace c121 := Bool.eq_false_iff.mpr c121
   subst c121
   have H1 := H; rw [if_neg ZFT] at H1
   clear H
   have H := H1
   clear H1
   obtain rfl := Option.some.inj H
   have hnb124 := NB194_192.out
   have hnc124 := NB192_194.out
   have hcz125 := ZC8 wc BK194
   go_wp2_with (first | ((with_reducible refine gate_callee (f := 63) rfl ?_); refine ZGL (some 89) Tryd.func63 #[.int .i64 ((D71 l1 x12_1).f3)] ?_; (with_reducible refine (impl_isHost.calls ((D71 l1 x12_1).f3) false _ A120.out).mono ?_); rintro e w' ⟨rfl, ⟨nd, rfl⟩⟩; refine ZV1 ?_))
   go_ret
   exact ⟨ZE, ZB⟩))
   ·(
   rw [if_neg c119] at H
   have c119b0 := beq_eq_false_iff_ne.mpr c119
   have c119b1 := bne_iff_ne.mpr c119
   obtain rfl := Option.some.inj H
   have hnb126 := NB194_192.out
   have hnc126 := NB192_194.out
   have hcz127 := ZC8 wc BK194
   go_wp2
   go_ret
   exact ⟨ZE, ZB⟩))))))
  ·(
  rw [if_neg c7] at H
  exact absurd H (by simp)))
  ·(
  rw [if_neg c6] at H
  exact absurd H (by simp)))
  ·(
  rw [if_neg c5] at H
  have c5b0 := decide_eq_false c5
  clear c5
  obtain rfl := Option.some.inj H
  go_wp2
  go_ret
  exact ⟨ZE, ZB⟩))

end Go.Proofs.YtfcmckomagaiiaaDoor.A
