/- Go functions as Lean functions, and for each its contract; written by wip/tools/pr.py over the kit's print. -/
import Derived.Test.YtfcmckomagaiiaaDoorAx0
import Derived.Test.YtfcmckomagaiiaaDoorAx2
import Derived.Test.YtfcmckomagaiiaaDoorAx10
namespace Go.Proofs.YtfcmckomagaiiaaDoor.A
open Go.RowKit Go.Proofs.YtfcmckomagaiiaaDoorW.PrintWords Go.Proofs.YtfcmckomagaiiaaDoorW.PrintLast Go.Proofs.YtfcmckomagaiiaaDoorW.PrintMore
attribute [local go_sem] max2_int min2_int max_two min_two max_three min_three max_four min_four
set_option linter.unusedVariables false
set_option linter.unusedSimpArgs false
set_option maxHeartbeats 8000000
set_option maxRecDepth 100000

attribute [local go_sem high] eqA69
/-! ### impl_Prog_stepsOk: function 42 -/
mutual
def impl_Prog_stepsOk.l0 : Nat → Int → List (S71) → Int → Int → List (S43) → List (S71) → Option (Bool)
 | 0, _, _, _, _, _, _ => none
 | k + 1, x2, x10, x11, x12, x252000, x252001 => if x12 < x11 then (if 0 ≤ x12 then (if x12 < (x10.length : Int) then (if x2 < 1 then (impl_Prog_stepsOk.j1 k x2 x10 x11 x12 true x252000 x252001 ((rd_T71 x10 x12).f0) ((rd_T71 x10 x12).f1) ((rd_T71 x10 x12).f2.f0) ((rd_T71 x10 x12).f2.f1) ((rd_T71 x10 x12).f2.f2) ((rd_T71 x10 x12).f3) ((rd_T71 x10 x12).f4) ((rd_T71 x10 x12).f5)) else ((impl_Prog_isVar.f x252000 x252001 ((rd_T71 x10 x12).f1)).bind fun t254 => (if t254 = true then (if ((rd_T71 x10 x12).f0) = 1 then (if ((rd_T71 x10 x12).f0) = 3 then (if ((rd_T71 x10 x12).f0) = 2 then (impl_Prog_stepsOk.j1 k x2 x10 x11 x12 false x252000 x252001 ((rd_T71 x10 x12).f0) ((rd_T71 x10 x12).f1) ((rd_T71 x10 x12).f2.f0) ((rd_T71 x10 x12).f2.f1) ((rd_T71 x10 x12).f2.f2) ((rd_T71 x10 x12).f3) ((rd_T71 x10 x12).f4) ((rd_T71 x10 x12).f5)) else (impl_Prog_stepsOk.j1 k x2 x10 x11 x12 (decide ((wrap64 ((((rd_T71 x10 x12).f4).length : Int) + (((rd_T71 x10 x12).f5).length : Int))) > 0)) x252000 x252001 ((rd_T71 x10 x12).f0) ((rd_T71 x10 x12).f1) ((rd_T71 x10 x12).f2.f0) ((rd_T71 x10 x12).f2.f1) ((rd_T71 x10 x12).f2.f2) ((rd_T71 x10 x12).f3) ((rd_T71 x10 x12).f4) ((rd_T71 x10 x12).f5))) else (if ((rd_T71 x10 x12).f3) = 0 then (if ((rd_T71 x10 x12).f0) = 2 then (impl_Prog_stepsOk.j1 k x2 x10 x11 x12 false x252000 x252001 ((rd_T71 x10 x12).f0) ((rd_T71 x10 x12).f1) ((rd_T71 x10 x12).f2.f0) ((rd_T71 x10 x12).f2.f1) ((rd_T71 x10 x12).f2.f2) ((rd_T71 x10 x12).f3) ((rd_T71 x10 x12).f4) ((rd_T71 x10 x12).f5)) else (impl_Prog_stepsOk.j1 k x2 x10 x11 x12 (decide ((wrap64 ((((rd_T71 x10 x12).f4).length : Int) + (((rd_T71 x10 x12).f5).length : Int))) > 0)) x252000 x252001 ((rd_T71 x10 x12).f0) ((rd_T71 x10 x12).f1) ((rd_T71 x10 x12).f2.f0) ((rd_T71 x10 x12).f2.f1) ((rd_T71 x10 x12).f2.f2) ((rd_T71 x10 x12).f3) ((rd_T71 x10 x12).f4) ((rd_T71 x10 x12).f5))) else (impl_Prog_stepsOk.j1 k x2 x10 x11 x12 true x252000 x252001 ((rd_T71 x10 x12).f0) ((rd_T71 x10 x12).f1) ((rd_T71 x10 x12).f2.f0) ((rd_T71 x10 x12).f2.f1) ((rd_T71 x10 x12).f2.f2) ((rd_T71 x10 x12).f3) ((rd_T71 x10 x12).f4) ((rd_T71 x10 x12).f5)))) else (if (!(((rd_T71 x10 x12).f2.f0) == 0) || (!(((rd_T71 x10 x12).f2.f1) == 0) || (!(((rd_T71 x10 x12).f2.f2) == 0)))) = true then (impl_Prog_stepsOk.j1 k x2 x10 x11 x12 true x252000 x252001 ((rd_T71 x10 x12).f0) ((rd_T71 x10 x12).f1) ((rd_T71 x10 x12).f2.f0) ((rd_T71 x10 x12).f2.f1) ((rd_T71 x10 x12).f2.f2) ((rd_T71 x10 x12).f3) ((rd_T71 x10 x12).f4) ((rd_T71 x10 x12).f5)) else (if ((rd_T71 x10 x12).f0) = 3 then (if ((rd_T71 x10 x12).f0) = 2 then (impl_Prog_stepsOk.j1 k x2 x10 x11 x12 false x252000 x252001 ((rd_T71 x10 x12).f0) ((rd_T71 x10 x12).f1) ((rd_T71 x10 x12).f2.f0) ((rd_T71 x10 x12).f2.f1) ((rd_T71 x10 x12).f2.f2) ((rd_T71 x10 x12).f3) ((rd_T71 x10 x12).f4) ((rd_T71 x10 x12).f5)) else (impl_Prog_stepsOk.j1 k x2 x10 x11 x12 (decide ((wrap64 ((((rd_T71 x10 x12).f4).length : Int) + (((rd_T71 x10 x12).f5).length : Int))) > 0)) x252000 x252001 ((rd_T71 x10 x12).f0) ((rd_T71 x10 x12).f1) ((rd_T71 x10 x12).f2.f0) ((rd_T71 x10 x12).f2.f1) ((rd_T71 x10 x12).f2.f2) ((rd_T71 x10 x12).f3) ((rd_T71 x10 x12).f4) ((rd_T71 x10 x12).f5))) else (if ((rd_T71 x10 x12).f3) = 0 then (if ((rd_T71 x10 x12).f0) = 2 then (impl_Prog_stepsOk.j1 k x2 x10 x11 x12 false x252000 x252001 ((rd_T71 x10 x12).f0) ((rd_T71 x10 x12).f1) ((rd_T71 x10 x12).f2.f0) ((rd_T71 x10 x12).f2.f1) ((rd_T71 x10 x12).f2.f2) ((rd_T71 x10 x12).f3) ((rd_T71 x10 x12).f4) ((rd_T71 x10 x12).f5)) else (impl_Prog_stepsOk.j1 k x2 x10 x11 x12 (decide ((wrap64 ((((rd_T71 x10 x12).f4).length : Int) + (((rd_T71 x10 x12).f5).length : Int))) > 0)) x252000 x252001 ((rd_T71 x10 x12).f0) ((rd_T71 x10 x12).f1) ((rd_T71 x10 x12).f2.f0) ((rd_T71 x10 x12).f2.f1) ((rd_T71 x10 x12).f2.f2) ((rd_T71 x10 x12).f3) ((rd_T71 x10 x12).f4) ((rd_T71 x10 x12).f5))) else (impl_Prog_stepsOk.j1 k x2 x10 x11 x12 true x252000 x252001 ((rd_T71 x10 x12).f0) ((rd_T71 x10 x12).f1) ((rd_T71 x10 x12).f2.f0) ((rd_T71 x10 x12).f2.f1) ((rd_T71 x10 x12).f2.f2) ((rd_T71 x10 x12).f3) ((rd_T71 x10 x12).f4) ((rd_T71 x10 x12).f5)))))) else (impl_Prog_stepsOk.j1 k x2 x10 x11 x12 true x252000 x252001 ((rd_T71 x10 x12).f0) ((rd_T71 x10 x12).f1) ((rd_T71 x10 x12).f2.f0) ((rd_T71 x10 x12).f2.f1) ((rd_T71 x10 x12).f2.f2) ((rd_T71 x10 x12).f3) ((rd_T71 x10 x12).f4) ((rd_T71 x10 x12).f5))))) else (none)) else (none)) else (some true)
def impl_Prog_stepsOk.j1 : Nat → Int → List (S71) → Int → Int → Bool → List (S43) → List (S71) → Int → Int → Int → Int → Int → Int → List (S71) → List (S71) → Option (Bool)
 | 0, _, _, _, _, _, _, _, _, _, _, _, _, _, _, _ => none
 | k + 1, x2, x10, x11, x12, x60, x252000, x252001, x254000, x254001, x254002, x254003, x254004, x254005, x254006, x254007 => if x60 = true then (some false) else (if x254000 = 1 then ((impl_Prog_valOk.f x252000 x252001 x254002 x254003 x254004).bind fun t255 => (if t255 = true then (impl_Prog_stepsOk.l0 k x2 x10 x11 (wrap64 (x12 + 1)) x252000 x252001) else (some false))) else (if x254000 = 2 then ((impl_Prog_stepsOk.f k x252000 x252001 x254006 (wrap64 (x2 - 1))).bind fun t256 => (if t256 = true then ((impl_Prog_stepsOk.f k x252000 x252001 x254007 (wrap64 (x2 - 1))).bind fun t257 => (if t257 = true then (impl_Prog_stepsOk.l0 k x2 x10 x11 (wrap64 (x12 + 1)) x252000 x252001) else (some false))) else (some false))) else (if x254000 = 3 then ((impl_isHost.f x254005).bind fun t258 => (if t258 = true then (impl_Prog_stepsOk.l0 k x2 x10 x11 (wrap64 (x12 + 1)) x252000 x252001) else (some false))) else (some false))))
def impl_Prog_stepsOk.f : Nat → List (S43) → List (S71) → List (S71) → Int → Option (Bool)
 | 0, _, _, _, _ => none
 | k + 1, l0_0, l0_1, l1, a2 => impl_Prog_stepsOk.l0 k a2 l1 (l1.length : Int) 0 l0_0 l0_1
end
theorem impl_Prog_stepsOk.calls (k : Nat) : ∀ (A0_0 : Option Addr) (c0_0 : Nat) (l0_0 : List (S43)) (A0_1 : Option Addr) (c0_1 : Nat) (l0_1 : List (S71)) (A1 : Option Addr) (c1 : Nat) (l1 : List (S71)) (a2 : Int) (r : Bool) (w : World) (hr0_0 : Kd.C k43 w A0_0 l0_0.length l0_0) (hc0_0 : l0_0.length ≤ c0_0) (hr0_1 : Kd.C k71 w A0_1 l0_1.length l0_1) (hc0_1 : l0_1.length ≤ c0_1) (hr1 : Kd.C k71 w A1 l1.length l1) (hc1 : l1.length ≤ c1) (h : impl_Prog_stepsOk.f k l0_0 l0_1 l1 a2 = some r),
  Calls Tryd.prog 42 #[.agg #[.slice A0_0 l0_0.length c0_0, .slice A0_1 l0_1.length c0_1], .slice A1 l1.length c1, .int .i64 a2] w fun e w' => e = .returned (.bool r) ∧ Below w.heap.size w w' := by
 induction k using Nat.strongRecOn with
 | _ k ih =>
 intro A0_0 c0_0 l0_0 A0_1 c0_1 l0_1 A1 c1 l1 a2 r w hr0_0 hc0_0 hr0_1 hc0_1 hr1 hc1 h
 cases k with
 | zero => exact absurd h (by simp [impl_Prog_stepsOk.f])
 | succ k =>
 simp only [impl_Prog_stepsOk.f] at h
 have hu31 := Tryd.underlying31
 have hu71 := Tryd.underlying71
 have hu69 := Tryd.underlying69
 have HR0_0 := AM hr0_0
 have HC0_0 := AM hc0_0
 clear hr0_0 hc0_0
 have HR0_1 := AM hr0_1
 have HC0_1 := AM hc0_1
 clear hr0_1 hc0_1
 have HR1 := AM hr1
 have HC1 := AM hc1
 clear hr1 hc1
 have HB := AM (Below.refl w.heap.size w)
 have H : (impl_Prog_stepsOk.l0 k a2 l1 (l1.length : Int) 0 l0_0 l0_1) = some r := h
 clear h
 have H' := AM H
 clear H
 go_enter Tryd.func42, Tryd.ntmps42
 go_wp2_with (first | ((with_reducible refine gate_dst (N := 3) rfl ?_); refine ZX (N := 3) (cs := #[.slice A0_0 l0_0.length c0_0, .slice A0_1 l0_1.length c0_1]) (t := 31) ?_; intro gb251 hg w4 hbox hb; have BK251 := AM (hbox); have GW251 : Aside0 (w.heap.size ≤ gb251) := ZS hg; have GE251 : Aside0 (w.heap.size ≤ gb251) := ZS hg; replace HB := ZT HB hb; clear hb hbox hg))
 go_loopg [12] k (fun kq v12 w' => ∃ (x12_1 : Int), v12 = .int .i64 x12_1 ∧ Aside0 (impl_Prog_stepsOk.l0 kq a2 l1 (l1.length : Int) x12_1 l0_0 l0_1 = some r) ∧ Aside0 (kq ≤ k) ∧ Aside0 (w'.heap[gb251]? = some (.cells #[(.slice A0_0 l0_0.length c0_0), (.slice A0_1 l0_1.length c0_1)] 31 (0, 0))) ∧ Aside0 (Below w.heap.size w w'))
 case atStart => exact ⟨(0), (by first | rfl | (simp; done) | (simp [*]; done)), H', ⟨Nat.le_refl _⟩, ⟨ZK BK251.out⟩, ⟨ZB⟩⟩
 case round => (
 clear H'
 try clear c1
 try clear p2
 try clear c4
 obtain ⟨x12_1, rfl, HA, HK1, BK251, HB⟩ := hrel
 cases gk with
 | zero => exact absurd HA.out (by simp [impl_Prog_stepsOk.l0])
 | succ k1 =>
  have H := HA.out
  clear HA
  simp only [impl_Prog_stepsOk.l0] at H
  by_cases c5 : x12_1 < (l1.length : Int)
  ·(
  rw [if_pos c5] at H
  have c5b0 := decide_eq_true c5
  clear c5
  by_cases c6 : 0 ≤ x12_1
  ·(
  rw [if_pos c6] at H
  have c6b0 := decide_eq_true c6
  clear c6
  by_cases c7 : x12_1 < (l1.length : Int)
  ·(
  rw [if_pos c7] at H
  have c7b0 := decide_eq_true c7
  clear c7
  have HC8 := AM H
  clear H
  have p252 : 0 ≤ (x12_1 : Int) := ZD
  have q252 : x12_1 < (l1.length : Int) := ZD
  obtain ⟨ad252, A252_6, c252_6, A252_7, c252_7, e252, hx252_0, hx252_1, hx252_2, hx252_3, hx252_4, hx252_5, hx252_6, hx252_7, hl252_6, hi252_6, hl252_7, hi252_7⟩ := at_T71 HR1.out x12_1 p252 q252
  cases e252
  replace hx252_0 := ZHX HB hx252_0
  replace hx252_1 := ZHX HB hx252_1
  replace hx252_2 := ZHX HB hx252_2
  replace hx252_3 := ZHX HB hx252_3
  replace hx252_4 := ZHX HB hx252_4
  replace hx252_5 := ZHX HB hx252_5
  replace hx252_6 := ZHX HB hx252_6
  replace hx252_7 := ZHX HB hx252_7
  have HR252_6 := AM hi252_6
  have HC252_6 := AM hl252_6
  clear hi252_6 hl252_6
  have HR252_7 := AM hi252_7
  have HC252_7 := AM hl252_7
  clear hi252_7 hl252_7
  replace p252 := eq_true p252
  replace q252 := eq_true q252
  go_upto_region 4 with (first | ((with_reducible refine gate_dst (N := 8) rfl ?_); refine ZX (N := 8) (cs := #[.int .i64 0, .int .i64 0, .int .i64 0, .int .i64 0, .int .i64 0, .int .i64 0, .slice none 0 0, .slice none 0 0]) (t := 71) ?_; intro gb253 hg w9 hbox hb; have BK253 := AM (hbox); have GW253 : Aside0 (w.heap.size ≤ gb253) := ZS hg; have GE253 : Aside0 (w.heap.size ≤ gb253) := ZS hg; have NB251_253 : Aside0 (gb251 ≠ gb253) := ZN hg BK251; have NB253_251 : Aside0 (gb253 ≠ gb251) := ZM hg BK251; replace BK251 := ZW BK251 hb; replace HB := ZT HB hb; clear hb hbox hg; have hnb10 := NB253_251.out; have hnc10 := NB251_253.out; have hcz11 := ZC8 w9 BK253; have hfz11 := ZF8 BK253))
  (try simp only [Act.put, List.setIfInBounds_toArray, List.set_cons_zero, List.set_cons_succ])
  go_cut [60] (fun v60 wc => ∃ (kq : Nat) (x60_7 : Bool), v60 = .bool x60_7 ∧ Aside0 (impl_Prog_stepsOk.j1 kq a2 l1 (l1.length : Int) x12_1 x60_7 l0_0 l0_1 ((rd_T71 l1 x12_1).f0) ((rd_T71 l1 x12_1).f1) ((rd_T71 l1 x12_1).f2.f0) ((rd_T71 l1 x12_1).f2.f1) ((rd_T71 l1 x12_1).f2.f2) ((rd_T71 l1 x12_1).f3) ((rd_T71 l1 x12_1).f4) ((rd_T71 l1 x12_1).f5) = some r) ∧ Aside0 (kq ≤ k1) ∧ Aside0 (wc.heap[gb251]? = some (.cells #[(.slice A0_0 l0_0.length c0_0), (.slice A0_1 l0_1.length c0_1)] 31 (0, 0))) ∧ Aside0 (wc.heap[gb253]? = some (.cells #[.int .i64 ((rd_T71 l1 x12_1).f0), .int .i64 ((rd_T71 l1 x12_1).f1), .int .i64 ((rd_T71 l1 x12_1).f2.f0), .int .i64 ((rd_T71 l1 x12_1).f2.f1), .int .i64 ((rd_T71 l1 x12_1).f2.f2), .int .i64 ((rd_T71 l1 x12_1).f3), (.slice A252_6 ((rd_T71 l1 x12_1).f4).length c252_6), (.slice A252_7 ((rd_T71 l1 x12_1).f5).length c252_7)] 71 (0, 0))) ∧ Aside0 (Below w.heap.size w wc))
  case first => (
  have H := HC8.out
  clear HC8
  by_cases c12 : a2 < 1
  ·(
  rw [if_pos c12] at H
  have c12b0 := decide_eq_true c12
  clear c12
  (first | rw [c12b0] | (simp only [i64_w, i32_w]; rw [c12b0]) | skip)
  have H' := AM H
  clear H
  go_wp2
  go_meet
  case rel => exact ⟨_, (true), (by first | rfl | (simp; done) | (simp [*]; done)), H', ⟨by have := HK1.out; first | omega | exact Nat.le_refl _⟩, ⟨ZZ BK251.out⟩, ⟨ZZ BK253.out⟩, ⟨ZB⟩⟩)
  ·(
  rw [if_neg c12] at H
  have c12b0 := decide_eq_false c12
  clear c12
  (first | rw [c12b0] | (simp only [i64_w, i32_w]; rw [c12b0]) | skip)
  obtain ⟨t254, A13, H⟩ := ZOB H; try dsimp only at H
  by_cases c14 : t254 = true
  ·(
  subst c14
  have H1 := H; rw [if_pos rfl] at H1
  clear H
  have H := H1
  clear H1
  by_cases c15 : ((rd_T71 l1 x12_1).f0) = 1
  ·(
  rw [if_pos c15] at H
  have c15b0 := beq_iff_eq.mpr c15
  have c15b1 := bne_eq_false_iff_eq.mpr c15
  clear c15
  by_cases c16 : ((rd_T71 l1 x12_1).f0) = 3
  ·(
  rw [if_pos c16] at H
  have c16b0 := beq_iff_eq.mpr c16
  have c16b1 := bne_eq_false_iff_eq.mpr c16
  clear c16
  by_cases c17 : ((rd_T71 l1 x12_1).f0) = 2
  ·(
  rw [if_pos c17] at H
  have c17b0 := beq_iff_eq.mpr c17
  have c17b1 := bne_eq_false_iff_eq.mpr c17
  clear c17
  have H' := AM H
  clear H
  have hnb18 := NB251_253.out
  have hnc18 := NB253_251.out
  have hcz19 := ZC2 w9 BK251
  have hfz19 := ZF2 BK251
  have hcz20 := ZC8 w9 BK253
  have hfz20 := ZF8 BK253
  go_wp2_with (first | (go_at_call 61; (with_reducible refine (impl_Prog_isVar.calls _ _ l0_0 _ _ l0_1 ((rd_T71 l1 x12_1).f1) true _ ?side1 ?side2 ?side3 ?side4 A13.out).mono ?_); (case side1 => exact Kd.C_below HR0_0.out (ZB)); (case side2 => exact HC0_0.out); (case side3 => exact Kd.C_below HR0_1.out (ZB)); (case side4 => exact HC0_1.out); rintro e w21 ⟨rfl, hb⟩; replace BK251 := ZV #[.slice A0_0 l0_0.length c0_0, .slice A0_1 l0_1.length c0_1] BK251 hb; replace BK253 := ZV #[.int .i64 ((rd_T71 l1 x12_1).f0), .int .i64 ((rd_T71 l1 x12_1).f1), .int .i64 ((rd_T71 l1 x12_1).f2.f0), .int .i64 ((rd_T71 l1 x12_1).f2.f1), .int .i64 ((rd_T71 l1 x12_1).f2.f2), .int .i64 ((rd_T71 l1 x12_1).f3), .slice A252_6 ((rd_T71 l1 x12_1).f4).length c252_6, .slice A252_7 ((rd_T71 l1 x12_1).f5).length c252_7] BK253 hb; replace HB := ZT HB hb; clear hb; have hcz22 := ZC8 w21 BK253; have hfz22 := ZF8 BK253))
  go_meet
  case rel => exact ⟨_, (false), (by first | rfl | (simp; done) | (simp [*]; done)), H', ⟨by have := HK1.out; first | omega | exact Nat.le_refl _⟩, ⟨ZK BK251.out⟩, ⟨ZK BK253.out⟩, ⟨ZB⟩⟩)
  ·(
  rw [if_neg c17] at H
  have c17b0 := beq_eq_false_iff_ne.mpr c17
  have c17b1 := bne_iff_ne.mpr c17
  have H' := AM H
  clear H
  have hnb23 := NB251_253.out
  have hnc23 := NB253_251.out
  have hcz24 := ZC2 w9 BK251
  have hfz24 := ZF2 BK251
  have hcz25 := ZC8 w9 BK253
  have hfz25 := ZF8 BK253
  go_wp2_with (first | (go_at_call 61; (with_reducible refine (impl_Prog_isVar.calls _ _ l0_0 _ _ l0_1 ((rd_T71 l1 x12_1).f1) true _ ?side1 ?side2 ?side3 ?side4 A13.out).mono ?_); (case side1 => exact Kd.C_below HR0_0.out (ZB)); (case side2 => exact HC0_0.out); (case side3 => exact Kd.C_below HR0_1.out (ZB)); (case side4 => exact HC0_1.out); rintro e w26 ⟨rfl, hb⟩; replace BK251 := ZV #[.slice A0_0 l0_0.length c0_0, .slice A0_1 l0_1.length c0_1] BK251 hb; replace BK253 := ZV #[.int .i64 ((rd_T71 l1 x12_1).f0), .int .i64 ((rd_T71 l1 x12_1).f1), .int .i64 ((rd_T71 l1 x12_1).f2.f0), .int .i64 ((rd_T71 l1 x12_1).f2.f1), .int .i64 ((rd_T71 l1 x12_1).f2.f2), .int .i64 ((rd_T71 l1 x12_1).f3), .slice A252_6 ((rd_T71 l1 x12_1).f4).length c252_6, .slice A252_7 ((rd_T71 l1 x12_1).f5).length c252_7] BK253 hb; replace HB := ZT HB hb; clear hb; have hcz27 := ZC8 w26 BK253; have hfz27 := ZF8 BK253))
  go_meet
  case rel => exact ⟨_, (decide ((wrap64 ((((rd_T71 l1 x12_1).f4).length : Int) + (((rd_T71 l1 x12_1).f5).length : Int))) > 0)), (by first | rfl | (simp; done) | (simp [*]; done)), H', ⟨by have := HK1.out; first | omega | exact Nat.le_refl _⟩, ⟨ZK BK251.out⟩, ⟨ZK BK253.out⟩, ⟨ZB⟩⟩))
  ·(
  rw [if_neg c16] at H
  have c16b0 := beq_eq_false_iff_ne.mpr c16
  have c16b1 := bne_iff_ne.mpr c16
  by_cases c28 : ((rd_T71 l1 x12_1).f3) = 0
  ·(
  rw [if_pos c28] at H
  have c28b0 := beq_iff_eq.mpr c28
  have c28b1 := bne_eq_false_iff_eq.mpr c28
  clear c28
  by_cases c29 : ((rd_T71 l1 x12_1).f0) = 2
  ·(
  rw [if_pos c29] at H
  have c29b0 := beq_iff_eq.mpr c29
  have c29b1 := bne_eq_false_iff_eq.mpr c29
  clear c29
  have H' := AM H
  clear H
  have hnb30 := NB251_253.out
  have hnc30 := NB253_251.out
  have hcz31 := ZC2 w9 BK251
  have hfz31 := ZF2 BK251
  have hcz32 := ZC8 w9 BK253
  have hfz32 := ZF8 BK253
  go_wp2_with (first | (go_at_call 61; (with_reducible refine (impl_Prog_isVar.calls _ _ l0_0 _ _ l0_1 ((rd_T71 l1 x12_1).f1) true _ ?side1 ?side2 ?side3 ?side4 A13.out).mono ?_); (case side1 => exact Kd.C_below HR0_0.out (ZB)); (case side2 => exact HC0_0.out); (case side3 => exact Kd.C_below HR0_1.out (ZB)); (case side4 => exact HC0_1.out); rintro e w33 ⟨rfl, hb⟩; replace BK251 := ZV #[.slice A0_0 l0_0.length c0_0, .slice A0_1 l0_1.length c0_1] BK251 hb; replace BK253 := ZV #[.int .i64 ((rd_T71 l1 x12_1).f0), .int .i64 ((rd_T71 l1 x12_1).f1), .int .i64 ((rd_T71 l1 x12_1).f2.f0), .int .i64 ((rd_T71 l1 x12_1).f2.f1), .int .i64 ((rd_T71 l1 x12_1).f2.f2), .int .i64 ((rd_T71 l1 x12_1).f3), .slice A252_6 ((rd_T71 l1 x12_1).f4).length c252_6, .slice A252_7 ((rd_T71 l1 x12_1).f5).length c252_7] BK253 hb; replace HB := ZT HB hb; clear hb; have hcz34 := ZC8 w33 BK253; have hfz34 := ZF8 BK253))
  go_meet
  case rel => exact ⟨_, (false), (by first | rfl | (simp; done) | (simp [*]; done)), H', ⟨by have := HK1.out; first | omega | exact Nat.le_refl _⟩, ⟨ZK BK251.out⟩, ⟨ZK BK253.out⟩, ⟨ZB⟩⟩)
  ·(
  rw [if_neg c29] at H
  have c29b0 := beq_eq_false_iff_ne.mpr c29
  have c29b1 := bne_iff_ne.mpr c29
  have H' := AM H
  clear H
  have hnb35 := NB251_253.out
  have hnc35 := NB253_251.out
  have hcz36 := ZC2 w9 BK251
  have hfz36 := ZF2 BK251
  have hcz37 := ZC8 w9 BK253
  have hfz37 := ZF8 BK253
  go_wp2_with (first | (go_at_call 61; (with_reducible refine (impl_Prog_isVar.calls _ _ l0_0 _ _ l0_1 ((rd_T71 l1 x12_1).f1) true _ ?side1 ?side2 ?side3 ?side4 A13.out).mono ?_); (case side1 => exact Kd.C_below HR0_0.out (ZB)); (case side2 => exact HC0_0.out); (case side3 => exact Kd.C_below HR0_1.out (ZB)); (case side4 => exact HC0_1.out); rintro e w38 ⟨rfl, hb⟩; replace BK251 := ZV #[.slice A0_0 l0_0.length c0_0, .slice A0_1 l0_1.length c0_1] BK251 hb; replace BK253 := ZV #[.int .i64 ((rd_T71 l1 x12_1).f0), .int .i64 ((rd_T71 l1 x12_1).f1), .int .i64 ((rd_T71 l1 x12_1).f2.f0), .int .i64 ((rd_T71 l1 x12_1).f2.f1), .int .i64 ((rd_T71 l1 x12_1).f2.f2), .int .i64 ((rd_T71 l1 x12_1).f3), .slice A252_6 ((rd_T71 l1 x12_1).f4).length c252_6, .slice A252_7 ((rd_T71 l1 x12_1).f5).length c252_7] BK253 hb; replace HB := ZT HB hb; clear hb; have hcz39 := ZC8 w38 BK253; have hfz39 := ZF8 BK253))
  go_meet
  case rel => exact ⟨_, (decide ((wrap64 ((((rd_T71 l1 x12_1).f4).length : Int) + (((rd_T71 l1 x12_1).f5).length : Int))) > 0)), (by first | rfl | (simp; done) | (simp [*]; done)), H', ⟨by have := HK1.out; first | omega | exact Nat.le_refl _⟩, ⟨ZK BK251.out⟩, ⟨ZK BK253.out⟩, ⟨ZB⟩⟩))
  ·(
  rw [if_neg c28] at H
  have c28b0 := beq_eq_false_iff_ne.mpr c28
  have c28b1 := bne_iff_ne.mpr c28
  have H' := AM H
  clear H
  have hnb40 := NB251_253.out
  have hnc40 := NB253_251.out
  have hcz41 := ZC2 w9 BK251
  have hfz41 := ZF2 BK251
  have hcz42 := ZC8 w9 BK253
  have hfz42 := ZF8 BK253
  go_wp2_with (first | (go_at_call 61; (with_reducible refine (impl_Prog_isVar.calls _ _ l0_0 _ _ l0_1 ((rd_T71 l1 x12_1).f1) true _ ?side1 ?side2 ?side3 ?side4 A13.out).mono ?_); (case side1 => exact Kd.C_below HR0_0.out (ZB)); (case side2 => exact HC0_0.out); (case side3 => exact Kd.C_below HR0_1.out (ZB)); (case side4 => exact HC0_1.out); rintro e w43 ⟨rfl, hb⟩; replace BK251 := ZV #[.slice A0_0 l0_0.length c0_0, .slice A0_1 l0_1.length c0_1] BK251 hb; replace BK253 := ZV #[.int .i64 ((rd_T71 l1 x12_1).f0), .int .i64 ((rd_T71 l1 x12_1).f1), .int .i64 ((rd_T71 l1 x12_1).f2.f0), .int .i64 ((rd_T71 l1 x12_1).f2.f1), .int .i64 ((rd_T71 l1 x12_1).f2.f2), .int .i64 ((rd_T71 l1 x12_1).f3), .slice A252_6 ((rd_T71 l1 x12_1).f4).length c252_6, .slice A252_7 ((rd_T71 l1 x12_1).f5).length c252_7] BK253 hb; replace HB := ZT HB hb; clear hb; have hcz44 := ZC8 w43 BK253; have hfz44 := ZF8 BK253))
  go_meet
  case rel => exact ⟨_, (true), (by first | rfl | (simp; done) | (simp [*]; done)), H', ⟨by have := HK1.out; first | omega | exact Nat.le_refl _⟩, ⟨ZK BK251.out⟩, ⟨ZK BK253.out⟩, ⟨ZB⟩⟩)))
  ·(
  rw [if_neg c15] at H
  have c15b0 := beq_eq_false_iff_ne.mpr c15
  have c15b1 := bne_iff_ne.mpr c15
  by_cases c45 : (!(((rd_T71 l1 x12_1).f2.f0) == 0) || (!(((rd_T71 l1 x12_1).f2.f1) == 0) || (!(((rd_T71 l1 x12_1).f2.f2) == 0)))) = true
  ·(
  rw [if_pos c45] at H
  have c45b0 : (!(((rd_T71 l1 x12_1).f2.f0) == 0) || (!(((rd_T71 l1 x12_1).f2.f1) == 0) || (!(((rd_T71 l1 x12_1).f2.f2) == 0)))) = true := c45
  clear c45
  have H' := AM H
  clear H
  have hnb46 := NB251_253.out
  have hnc46 := NB253_251.out
  have hcz47 := ZC2 w9 BK251
  have hfz47 := ZF2 BK251
  have hcz48 := ZC8 w9 BK253
  have hfz48 := ZF8 BK253
  go_wp2_with (first | (go_at_call 61; (with_reducible refine (impl_Prog_isVar.calls _ _ l0_0 _ _ l0_1 ((rd_T71 l1 x12_1).f1) true _ ?side1 ?side2 ?side3 ?side4 A13.out).mono ?_); (case side1 => exact Kd.C_below HR0_0.out (ZB)); (case side2 => exact HC0_0.out); (case side3 => exact Kd.C_below HR0_1.out (ZB)); (case side4 => exact HC0_1.out); rintro e w49 ⟨rfl, hb⟩; replace BK251 := ZV #[.slice A0_0 l0_0.length c0_0, .slice A0_1 l0_1.length c0_1] BK251 hb; replace BK253 := ZV #[.int .i64 ((rd_T71 l1 x12_1).f0), .int .i64 ((rd_T71 l1 x12_1).f1), .int .i64 ((rd_T71 l1 x12_1).f2.f0), .int .i64 ((rd_T71 l1 x12_1).f2.f1), .int .i64 ((rd_T71 l1 x12_1).f2.f2), .int .i64 ((rd_T71 l1 x12_1).f3), .slice A252_6 ((rd_T71 l1 x12_1).f4).length c252_6, .slice A252_7 ((rd_T71 l1 x12_1).f5).length c252_7] BK253 hb; replace HB := ZT HB hb; clear hb; have hcz50 := ZC8 w49 BK253; have hfz50 := ZF8 BK253))
  go_meet
  case rel => exact ⟨_, (true), (by first | rfl | (simp; done) | (simp [*]; done)), H', ⟨by have := HK1.out; first | omega | exact Nat.le_refl _⟩, ⟨ZK BK251.out⟩, ⟨ZK BK253.out⟩, ⟨ZB⟩⟩)
  ·(
  rw [if_neg c45] at H
  have c45b0 : (!(((rd_T71 l1 x12_1).f2.f0) == 0) || (!(((rd_T71 l1 x12_1).f2.f1) == 0) || (!(((rd_T71 l1 x12_1).f2.f2) == 0)))) = false := by simpa using c45
  clear c45
  by_cases c51 : ((rd_T71 l1 x12_1).f0) = 3
  ·(
  rw [if_pos c51] at H
  have c51b0 := beq_iff_eq.mpr c51
  have c51b1 := bne_eq_false_iff_eq.mpr c51
  clear c51
  by_cases c52 : ((rd_T71 l1 x12_1).f0) = 2
  ·(
  rw [if_pos c52] at H
  have c52b0 := beq_iff_eq.mpr c52
  have c52b1 := bne_eq_false_iff_eq.mpr c52
  clear c52
  have H' := AM H
  clear H
  have hnb53 := NB251_253.out
  have hnc53 := NB253_251.out
  have hcz54 := ZC2 w9 BK251
  have hfz54 := ZF2 BK251
  have hcz55 := ZC8 w9 BK253
  have hfz55 := ZF8 BK253
  go_wp2_with (first | (go_at_call 61; (with_reducible refine (impl_Prog_isVar.calls _ _ l0_0 _ _ l0_1 ((rd_T71 l1 x12_1).f1) true _ ?side1 ?side2 ?side3 ?side4 A13.out).mono ?_); (case side1 => exact Kd.C_below HR0_0.out (ZB)); (case side2 => exact HC0_0.out); (case side3 => exact Kd.C_below HR0_1.out (ZB)); (case side4 => exact HC0_1.out); rintro e w56 ⟨rfl, hb⟩; replace BK251 := ZV #[.slice A0_0 l0_0.length c0_0, .slice A0_1 l0_1.length c0_1] BK251 hb; replace BK253 := ZV #[.int .i64 ((rd_T71 l1 x12_1).f0), .int .i64 ((rd_T71 l1 x12_1).f1), .int .i64 ((rd_T71 l1 x12_1).f2.f0), .int .i64 ((rd_T71 l1 x12_1).f2.f1), .int .i64 ((rd_T71 l1 x12_1).f2.f2), .int .i64 ((rd_T71 l1 x12_1).f3), .slice A252_6 ((rd_T71 l1 x12_1).f4).length c252_6, .slice A252_7 ((rd_T71 l1 x12_1).f5).length c252_7] BK253 hb; replace HB := ZT HB hb; clear hb; have hcz57 := ZC8 w56 BK253; have hfz57 := ZF8 BK253))
  go_meet
  case rel => exact ⟨_, (false), (by first | rfl | (simp; done) | (simp [*]; done)), H', ⟨by have := HK1.out; first | omega | exact Nat.le_refl _⟩, ⟨ZK BK251.out⟩, ⟨ZK BK253.out⟩, ⟨ZB⟩⟩)
  ·(
  rw [if_neg c52] at H
  have c52b0 := beq_eq_false_iff_ne.mpr c52
  have c52b1 := bne_iff_ne.mpr c52
  have H' := AM H
  clear H
  have hnb58 := NB251_253.out
  have hnc58 := NB253_251.out
  have hcz59 := ZC2 w9 BK251
  have hfz59 := ZF2 BK251
  have hcz60 := ZC8 w9 BK253
  have hfz60 := ZF8 BK253
  go_wp2_with (first | (go_at_call 61; (with_reducible refine (impl_Prog_isVar.calls _ _ l0_0 _ _ l0_1 ((rd_T71 l1 x12_1).f1) true _ ?side1 ?side2 ?side3 ?side4 A13.out).mono ?_); (case side1 => exact Kd.C_below HR0_0.out (ZB)); (case side2 => exact HC0_0.out); (case side3 => exact Kd.C_below HR0_1.out (ZB)); (case side4 => exact HC0_1.out); rintro e w61 ⟨rfl, hb⟩; replace BK251 := ZV #[.slice A0_0 l0_0.length c0_0, .slice A0_1 l0_1.length c0_1] BK251 hb; replace BK253 := ZV #[.int .i64 ((rd_T71 l1 x12_1).f0), .int .i64 ((rd_T71 l1 x12_1).f1), .int .i64 ((rd_T71 l1 x12_1).f2.f0), .int .i64 ((rd_T71 l1 x12_1).f2.f1), .int .i64 ((rd_T71 l1 x12_1).f2.f2), .int .i64 ((rd_T71 l1 x12_1).f3), .slice A252_6 ((rd_T71 l1 x12_1).f4).length c252_6, .slice A252_7 ((rd_T71 l1 x12_1).f5).length c252_7] BK253 hb; replace HB := ZT HB hb; clear hb; have hcz62 := ZC8 w61 BK253; have hfz62 := ZF8 BK253))
  go_meet
  case rel => exact ⟨_, (decide ((wrap64 ((((rd_T71 l1 x12_1).f4).length : Int) + (((rd_T71 l1 x12_1).f5).length : Int))) > 0)), (by first | rfl | (simp; done) | (simp [*]; done)), H', ⟨by have := HK1.out; first | omega | exact Nat.le_refl _⟩, ⟨ZK BK251.out⟩, ⟨ZK BK253.out⟩, ⟨ZB⟩⟩))
  ·(
  rw [if_neg c51] at H
  have c51b0 := beq_eq_false_iff_ne.mpr c51
  have c51b1 := bne_iff_ne.mpr c51
  by_cases c63 : ((rd_T71 l1 x12_1).f3) = 0
  ·(
  rw [if_pos c63] at H
  have c63b0 := beq_iff_eq.mpr c63
  have c63b1 := bne_eq_false_iff_eq.mpr c63
  clear c63
  by_cases c64 : ((rd_T71 l1 x12_1).f0) = 2
  ·(
  rw [if_pos c64] at H
  have c64b0 := beq_iff_eq.mpr c64
  have c64b1 := bne_eq_false_iff_eq.mpr c64
  clear c64
  have H' := AM H
  clear H
  have hnb65 := NB251_253.out
  have hnc65 := NB253_251.out
  have hcz66 := ZC2 w9 BK251
  have hfz66 := ZF2 BK251
  have hcz67 := ZC8 w9 BK253
  have hfz67 := ZF8 BK253
  go_wp2_with (first | (go_at_call 61; (with_reducible refine (impl_Prog_isVar.calls _ _ l0_0 _ _ l0_1 ((rd_T71 l1 x12_1).f1) true _ ?side1 ?side2 ?side3 ?side4 A13.out).mono ?_); (case side1 => exact Kd.C_below HR0_0.out (ZB)); (case side2 => exact HC0_0.out); (case side3 => exact Kd.C_below HR0_1.out (ZB)); (case side4 => exact HC0_1.out); rintro e w68 ⟨rfl, hb⟩; replace BK251 := ZV #[.slice A0_0 l0_0.length c0_0, .slice A0_1 l0_1.length c0_1] BK251 hb; replace BK253 := ZV #[.int .i64 ((rd_T71 l1 x12_1).f0), .int .i64 ((rd_T71 l1 x12_1).f1), .int .i64 ((rd_T71 l1 x12_1).f2.f0), .int .i64 ((rd_T71 l1 x12_1).f2.f1), .int .i64 ((rd_T71 l1 x12_1).f2.f2), .int .i64 ((rd_T71 l1 x12_1).f3), .slice A252_6 ((rd_T71 l1 x12_1).f4).length c252_6, .slice A252_7 ((rd_T71 l1 x12_1).f5).length c252_7] BK253 hb; replace HB := ZT HB hb; clear hb; have hcz69 := ZC8 w68 BK253; have hfz69 := ZF8 BK253))
  go_meet
  case rel => exact ⟨_, (false), (by first | rfl | (simp; done) | (simp [*]; done)), H', ⟨by have := HK1.out; first | omega | exact Nat.le_refl _⟩, ⟨ZK BK251.out⟩, ⟨ZK BK253.out⟩, ⟨ZB⟩⟩)
  ·(
  rw [if_neg c64] at H
  have c64b0 := beq_eq_false_iff_ne.mpr c64
  have c64b1 := bne_iff_ne.mpr c64
  have H' := AM H
  clear H
  have hnb70 := NB251_253.out
  have hnc70 := NB253_251.out
  have hcz71 := ZC2 w9 BK251
  have hfz71 := ZF2 BK251
  have hcz72 := ZC8 w9 BK253
  have hfz72 := ZF8 BK253
  go_wp2_with (first | (go_at_call 61; (with_reducible refine (impl_Prog_isVar.calls _ _ l0_0 _ _ l0_1 ((rd_T71 l1 x12_1).f1) true _ ?side1 ?side2 ?side3 ?side4 A13.out).mono ?_); (case side1 => exact Kd.C_below HR0_0.out (ZB)); (case side2 => exact HC0_0.out); (case side3 => exact Kd.C_below HR0_1.out (ZB)); (case side4 => exact HC0_1.out); rintro e w73 ⟨rfl, hb⟩; replace BK251 := ZV #[.slice A0_0 l0_0.length c0_0, .slice A0_1 l0_1.length c0_1] BK251 hb; replace BK253 := ZV #[.int .i64 ((rd_T71 l1 x12_1).f0), .int .i64 ((rd_T71 l1 x12_1).f1), .int .i64 ((rd_T71 l1 x12_1).f2.f0), .int .i64 ((rd_T71 l1 x12_1).f2.f1), .int .i64 ((rd_T71 l1 x12_1).f2.f2), .int .i64 ((rd_T71 l1 x12_1).f3), .slice A252_6 ((rd_T71 l1 x12_1).f4).length c252_6, .slice A252_7 ((rd_T71 l1 x12_1).f5).length c252_7] BK253 hb; replace HB := ZT HB hb; clear hb; have hcz74 := ZC8 w73 BK253; have hfz74 := ZF8 BK253))
  go_meet
  case rel => exact ⟨_, (decide ((wrap64 ((((rd_T71 l1 x12_1).f4).length : Int) + (((rd_T71 l1 x12_1).f5).length : Int))) > 0)), (by first | rfl | (simp; done) | (simp [*]; done)), H', ⟨by have := HK1.out; first | omega | exact Nat.le_refl _⟩, ⟨ZK BK251.out⟩, ⟨ZK BK253.out⟩, ⟨ZB⟩⟩))
  ·(
  rw [if_neg c63] at H
  have c63b0 := beq_eq_false_iff_ne.mpr c63
  have c63b1 := bne_iff_ne.mpr c63
  have H' := AM H
  clear H
  have hnb75 := NB251_253.out
  have hnc75 := NB253_251.out
  have hcz76 := ZC2 w9 BK251
  have hfz76 := ZF2 BK251
  have hcz77 := ZC8 w9 BK253
  have hfz77 := ZF8 BK253
  go_wp2_with (first | (go_at_call 61; (with_reducible refine (impl_Prog_isVar.calls _ _ l0_0 _ _ l0_1 ((rd_T71 l1 x12_1).f1) true _ ?side1 ?side2 ?side3 ?side4 A13.out).mono ?_); (case side1 => exact Kd.C_below HR0_0.out (ZB)); (case side2 => exact HC0_0.out); (case side3 => exact Kd.C_below HR0_1.out (ZB)); (case side4 => exact HC0_1.out); rintro e w78 ⟨rfl, hb⟩; replace BK251 := ZV #[.slice A0_0 l0_0.length c0_0, .slice A0_1 l0_1.length c0_1] BK251 hb; replace BK253 := ZV #[.int .i64 ((rd_T71 l1 x12_1).f0), .int .i64 ((rd_T71 l1 x12_1).f1), .int .i64 ((rd_T71 l1 x12_1).f2.f0), .int .i64 ((rd_T71 l1 x12_1).f2.f1), .int .i64 ((rd_T71 l1 x12_1).f2.f2), .int .i64 ((rd_T71 l1 x12_1).f3), .slice A252_6 ((rd_T71 l1 x12_1).f4).length c252_6, .slice A252_7 ((rd_T71 l1 x12_1).f5).length c252_7] BK253 hb; replace HB := ZT HB hb; clear hb; have hcz79 := ZC8 w78 BK253; have hfz79 := ZF8 BK253))
  go_meet
  case rel => exact ⟨_, (true), (by first | rfl | (simp; done) | (simp [*]; done)), H', ⟨by have := HK1.out; first | omega | exact Nat.le_refl _⟩, ⟨ZK BK251.out⟩, ⟨ZK BK253.out⟩, ⟨ZB⟩⟩)))))
  ·(
  replace c14 := Bool.eq_false_iff.mpr c14
  subst c14
  have H1 := H; rw [if_neg ZFT] at H1
  clear H
  have H := H1
  clear H1
  have H' := AM H
  clear H
  have hnb80 := NB251_253.out
  have hnc80 := NB253_251.out
  have hcz81 := ZC2 w9 BK251
  have hfz81 := ZF2 BK251
  have hcz82 := ZC8 w9 BK253
  have hfz82 := ZF8 BK253
  go_wp2_with (first | (go_at_call 61; (with_reducible refine (impl_Prog_isVar.calls _ _ l0_0 _ _ l0_1 ((rd_T71 l1 x12_1).f1) false _ ?side1 ?side2 ?side3 ?side4 A13.out).mono ?_); (case side1 => exact Kd.C_below HR0_0.out (ZB)); (case side2 => exact HC0_0.out); (case side3 => exact Kd.C_below HR0_1.out (ZB)); (case side4 => exact HC0_1.out); rintro e w83 ⟨rfl, hb⟩; replace BK251 := ZV #[.slice A0_0 l0_0.length c0_0, .slice A0_1 l0_1.length c0_1] BK251 hb; replace BK253 := ZV #[.int .i64 ((rd_T71 l1 x12_1).f0), .int .i64 ((rd_T71 l1 x12_1).f1), .int .i64 ((rd_T71 l1 x12_1).f2.f0), .int .i64 ((rd_T71 l1 x12_1).f2.f1), .int .i64 ((rd_T71 l1 x12_1).f2.f2), .int .i64 ((rd_T71 l1 x12_1).f3), .slice A252_6 ((rd_T71 l1 x12_1).f4).length c252_6, .slice A252_7 ((rd_T71 l1 x12_1).f5).length c252_7] BK253 hb; replace HB := ZT HB hb; clear hb))
  go_meet
  case rel => exact ⟨_, (true), (by first | rfl | (simp; done) | (simp [*]; done)), H', ⟨by have := HK1.out; first | omega | exact Nat.le_refl _⟩, ⟨ZK BK251.out⟩, ⟨ZK BK253.out⟩, ⟨ZB⟩⟩)))
  case rest => (
  clear HC8
  try clear c1
  try clear c2
  try clear p2
  try clear q2
  try clear hx2
  try clear c3
  try clear c4
  try clear c5
  try clear c5b0
  try clear c6
  try clear c6b0
  try clear p6
  try clear c7
  try clear c7b0
  try clear c8
  try clear c10
  try clear c12
  try clear c12b0
  try clear c14
  try clear c15
  try clear c15b0
  try clear c15b1
  try clear c16
  try clear c16b0
  try clear c16b1
  try clear c17
  try clear c17b0
  try clear c17b1
  try clear c18
  try clear c23
  try clear c25
  try clear p25
  try clear q25
  try clear hx25
  try clear c28
  try clear c28b0
  try clear c28b1
  try clear c29
  try clear c29b0
  try clear c29b1
  try clear c30
  try clear c35
  try clear c40
  try clear c42
  try clear c45
  try clear c45b0
  try clear c46
  try clear c51
  try clear c51b0
  try clear c51b1
  try clear c52
  try clear c52b0
  try clear c52b1
  try clear c53
  try clear c58
  try clear c63
  try clear c63b0
  try clear c63b1
  try clear c64
  try clear c64b0
  try clear c64b1
  try clear p64
  try clear c65
  try clear c70
  try clear c75
  try clear c80
  try clear hcz11
  try clear hcz19
  try clear hcz20
  try clear hcz22
  try clear hcz24
  try clear hcz25
  try clear hcz27
  try clear hcz31
  try clear hcz32
  try clear hcz34
  try clear hcz36
  try clear hcz37
  try clear hcz39
  try clear hcz41
  try clear hcz42
  try clear hcz44
  try clear hcz47
  try clear hcz48
  try clear hcz50
  try clear hcz54
  try clear hcz55
  try clear hcz57
  try clear hcz59
  try clear hcz60
  try clear hcz62
  try clear hcz66
  try clear hcz67
  try clear hcz69
  try clear hcz71
  try clear hcz72
  try clear hcz74
  try clear hcz76
  try clear hcz77
  try clear hcz79
  try clear hcz81
  try clear hcz82
  try clear hfz11
  try clear hfz19
  try clear hfz20
  try clear hfz22
  try clear hfz24
  try clear hfz25
  try clear hfz27
  try clear hfz31
  try clear hfz32
  try clear hfz34
  try clear hfz36
  try clear hfz37
  try clear hfz39
  try clear hfz41
  try clear hfz42
  try clear hfz44
  try clear hfz47
  try clear hfz48
  try clear hfz50
  try clear hfz54
  try clear hfz55
  try clear hfz57
  try clear hfz59
  try clear hfz60
  try clear hfz62
  try clear hfz66
  try clear hfz67
  try clear hfz69
  try clear hfz71
  try clear hfz72
  try clear hfz74
  try clear hfz76
  try clear hfz77
  try clear hfz79
  try clear hfz81
  try clear hfz82
  try clear hx252_0
  try clear hx252_1
  try clear hx252_2
  try clear hx252_3
  try clear hx252_4
  try clear hx252_5
  try clear hx252_6
  try clear hx252_7
  try clear p2
  try clear p252
  try clear q252
  obtain ⟨kq, x60_7, rfl, HA, HJ7, BK251, BK253, HB⟩ := hcut
  cases kq with
  | zero => exact absurd HA.out (by simp [impl_Prog_stepsOk.j1])
  | succ kj7 =>
   have H := HA.out
   clear HA
   simp only [impl_Prog_stepsOk.j1] at H
   by_cases c84 : x60_7 = true
   ·(
   subst c84
   have H1 := H; rw [if_pos rfl] at H1
   clear H
   have H := H1
   clear H1
   obtain rfl := Option.some.inj H
   go_wp2
   go_ret
   exact ⟨ZE, ZB⟩)
   ·(
   replace c84 := Bool.eq_false_iff.mpr c84
   subst c84
   have H1 := H; rw [if_neg ZFT] at H1
   clear H
   have H := H1
   clear H1
   by_cases c85 : ((rd_T71 l1 x12_1).f0) = 1
   ·(
   rw [if_pos c85] at H
   have c85b0 := beq_iff_eq.mpr c85
   have c85b1 := bne_eq_false_iff_eq.mpr c85
   clear c85
   obtain ⟨t255, A86, H⟩ := ZOB H; try dsimp only at H
   by_cases c87 : t255 = true
   ·(
   subst c87
   have H1 := H; rw [if_pos rfl] at H1
   clear H
   have H := H1
   clear H1
   have H' := AM H
   clear H
   have hnb88 := NB253_251.out
   have hnc88 := NB251_253.out
   have hcz89 := ZC8 wc BK253
   have hfz89 := ZF8 BK253
   have hcz90 := ZC2 wc BK251
   have hfz90 := ZF2 BK251
   go_wp2_with (first | ((with_reducible refine gate_callee (f := 62) rfl ?_); refine ZGL (some 68) Tryd.func62 #[.agg #[.slice A0_0 l0_0.length c0_0, .slice A0_1 l0_1.length c0_1], .agg #[.int .i64 ((rd_T71 l1 x12_1).f2.f0), .int .i64 ((rd_T71 l1 x12_1).f2.f1), .int .i64 ((rd_T71 l1 x12_1).f2.f2)]] ?_; (with_reducible refine (impl_Prog_valOk.calls _ _ l0_0 _ _ l0_1 ((rd_T71 l1 x12_1).f2.f0) ((rd_T71 l1 x12_1).f2.f1) ((rd_T71 l1 x12_1).f2.f2) true _ ?side1 ?side2 ?side3 ?side4 A86.out).mono ?_); (case side1 => exact ZQ (Kd.C_below HR0_0.out HB.out)); (case side2 => exact HC0_0.out); (case side3 => exact ZQ (Kd.C_below HR0_1.out HB.out)); (case side4 => exact HC0_1.out); rintro e w91 ⟨rfl, hb⟩; refine ⟨_, rfl, ?_⟩; replace BK251 := ZW BK251 hb; replace BK253 := ZW BK253 hb; replace HB := ZT HB hb; clear hb))
   go_roundg kj7
   case measure => have := HK1.out; have := HJ7.out; omega
   case rel => exact ⟨(wrap64 (x12_1 + 1)), (by first | rfl | (simp; done) | (simp [*]; done)), H', ⟨by have := HK1.out; have := HJ7.out; omega⟩, ⟨ZK BK251.out⟩, ⟨ZB⟩⟩)
   ·(
   replace c87 := Bool.eq_false_iff.mpr c87
   subst c87
   have H1 := H; rw [if_neg ZFT] at H1
   clear H
   have H := H1
   clear H1
   obtain rfl := Option.some.inj H
   have hnb92 := NB253_251.out
   have hnc92 := NB251_253.out
   have hcz93 := ZC8 wc BK253
   have hfz93 := ZF8 BK253
   have hcz94 := ZC2 wc BK251
   have hfz94 := ZF2 BK251
   go_wp2_with (first | ((with_reducible refine gate_callee (f := 62) rfl ?_); refine ZGL (some 68) Tryd.func62 #[.agg #[.slice A0_0 l0_0.length c0_0, .slice A0_1 l0_1.length c0_1], .agg #[.int .i64 ((rd_T71 l1 x12_1).f2.f0), .int .i64 ((rd_T71 l1 x12_1).f2.f1), .int .i64 ((rd_T71 l1 x12_1).f2.f2)]] ?_; (with_reducible refine (impl_Prog_valOk.calls _ _ l0_0 _ _ l0_1 ((rd_T71 l1 x12_1).f2.f0) ((rd_T71 l1 x12_1).f2.f1) ((rd_T71 l1 x12_1).f2.f2) false _ ?side1 ?side2 ?side3 ?side4 A86.out).mono ?_); (case side1 => exact ZQ (Kd.C_below HR0_0.out HB.out)); (case side2 => exact HC0_0.out); (case side3 => exact ZQ (Kd.C_below HR0_1.out HB.out)); (case side4 => exact HC0_1.out); rintro e w95 ⟨rfl, hb⟩; refine ⟨_, rfl, ?_⟩; replace BK251 := ZW BK251 hb; replace BK253 := ZW BK253 hb; replace HB := ZT HB hb; clear hb))
   go_ret
   exact ⟨ZE, ZB⟩))
   ·(
   rw [if_neg c85] at H
   have c85b0 := beq_eq_false_iff_ne.mpr c85
   have c85b1 := bne_iff_ne.mpr c85
   by_cases c96 : ((rd_T71 l1 x12_1).f0) = 2
   ·(
   rw [if_pos c96] at H
   have c96b0 := beq_iff_eq.mpr c96
   have c96b1 := bne_eq_false_iff_eq.mpr c96
   clear c96
   obtain ⟨t256, A97, H⟩ := ZOB H; try dsimp only at H
   by_cases c98 : t256 = true
   ·(
   subst c98
   have H1 := H; rw [if_pos rfl] at H1
   clear H
   have H := H1
   clear H1
   obtain ⟨t257, A99, H⟩ := ZOB H; try dsimp only at H
   by_cases c100 : t257 = true
   ·(
   subst c100
   have H1 := H; rw [if_pos rfl] at H1
   clear H
   have H := H1
   clear H1
   have H' := AM H
   clear H
   have hnb101 := NB253_251.out
   have hnc101 := NB251_253.out
   have hcz102 := ZC8 wc BK253
   have hfz102 := ZF8 BK253
   have hcz103 := ZC2 wc BK251
   have hfz103 := ZF2 BK251
   go_wp2_with (first | ((with_reducible refine gate_callee (f := 42) rfl ?_); refine ZGL (some 76) Tryd.func42 #[.agg #[.slice A0_0 l0_0.length c0_0, .slice A0_1 l0_1.length c0_1], .slice A252_6 ((rd_T71 l1 x12_1).f4).length c252_6, .int .i64 (wrap64 (a2 - 1))] ?_; (with_reducible refine (ih kj7 (by have := HK1.out; have := HJ7.out; omega) _ _ l0_0 _ _ l0_1 _ _ ((rd_T71 l1 x12_1).f4) (wrap64 (a2 - 1)) true _ ?side1 ?side2 ?side3 ?side4 ?side5 ?side6 A97.out).mono ?_); (case side1 => exact ZQ (Kd.C_below HR0_0.out HB.out)); (case side2 => exact HC0_0.out); (case side3 => exact ZQ (Kd.C_below HR0_1.out HB.out)); (case side4 => exact HC0_1.out); (case side5 => exact ZQ (Kd.C_below HR252_6.out HB.out)); (case side6 => exact HC252_6.out); rintro e w104 ⟨rfl, hb⟩; refine ⟨_, rfl, ?_⟩; replace BK251 := ZW BK251 hb; replace BK253 := ZW BK253 hb; replace HB := ZT HB hb; clear hb; have hcz105 := ZC2 w104 BK251; have hfz105 := ZF2 BK251; have hcz106 := ZC8 w104 BK253; have hfz106 := ZF8 BK253) | (go_at_call 42; (with_reducible refine (ih kj7 (by have := HK1.out; have := HJ7.out; omega) _ _ l0_0 _ _ l0_1 _ _ ((rd_T71 l1 x12_1).f5) (wrap64 (a2 - 1)) true _ ?side1 ?side2 ?side3 ?side4 ?side5 ?side6 A99.out).mono ?_); (case side1 => exact ZQ (Kd.C_below HR0_0.out HB.out)); (case side2 => exact HC0_0.out); (case side3 => exact ZQ (Kd.C_below HR0_1.out HB.out)); (case side4 => exact HC0_1.out); (case side5 => exact ZQ (Kd.C_below HR252_7.out HB.out)); (case side6 => exact HC252_7.out); rintro e w107 ⟨rfl, hb⟩; replace BK251 := ZW BK251 hb; replace BK253 := ZW BK253 hb; replace HB := ZT HB hb; clear hb))
   go_roundg kj7
   case measure => have := HK1.out; have := HJ7.out; omega
   case rel => exact ⟨(wrap64 (x12_1 + 1)), (by first | rfl | (simp; done) | (simp [*]; done)), H', ⟨by have := HK1.out; have := HJ7.out; omega⟩, ⟨ZK BK251.out⟩, ⟨ZB⟩⟩)
   ·(
   replace c100 := Bool.eq_false_iff.mpr c100
   subst c100
   have H1 := H; rw [if_neg ZFT] at H1
   clear H
   have H := H1
   clear H1
   obtain rfl := Option.some.inj H
   have hnb108 := NB253_251.out
   have hnc108 := NB251_253.out
   have hcz109 := ZC8 wc BK253
   have hfz109 := ZF8 BK253
   have hcz110 := ZC2 wc BK251
   have hfz110 := ZF2 BK251
   go_wp2_with (first | ((with_reducible refine gate_callee (f := 42) rfl ?_); refine ZGL (some 76) Tryd.func42 #[.agg #[.slice A0_0 l0_0.length c0_0, .slice A0_1 l0_1.length c0_1], .slice A252_6 ((rd_T71 l1 x12_1).f4).length c252_6, .int .i64 (wrap64 (a2 - 1))] ?_; (with_reducible refine (ih kj7 (by have := HK1.out; have := HJ7.out; omega) _ _ l0_0 _ _ l0_1 _ _ ((rd_T71 l1 x12_1).f4) (wrap64 (a2 - 1)) true _ ?side1 ?side2 ?side3 ?side4 ?side5 ?side6 A97.out).mono ?_); (case side1 => exact ZQ (Kd.C_below HR0_0.out HB.out)); (case side2 => exact HC0_0.out); (case side3 => exact ZQ (Kd.C_below HR0_1.out HB.out)); (case side4 => exact HC0_1.out); (case side5 => exact ZQ (Kd.C_below HR252_6.out HB.out)); (case side6 => exact HC252_6.out); rintro e w111 ⟨rfl, hb⟩; refine ⟨_, rfl, ?_⟩; replace BK251 := ZW BK251 hb; replace BK253 := ZW BK253 hb; replace HB := ZT HB hb; clear hb; have hcz112 := ZC2 w111 BK251; have hfz112 := ZF2 BK251; have hcz113 := ZC8 w111 BK253; have hfz113 := ZF8 BK253) | (go_at_call 42; (with_reducible refine (ih kj7 (by have := HK1.out; have := HJ7.out; omega) _ _ l0_0 _ _ l0_1 _ _ ((rd_T71 l1 x12_1).f5) (wrap64 (a2 - 1)) false _ ?side1 ?side2 ?side3 ?side4 ?side5 ?side6 A99.out).mono ?_); (case side1 => exact ZQ (Kd.C_below HR0_0.out HB.out)); (case side2 => exact HC0_0.out); (case side3 => exact ZQ (Kd.C_below HR0_1.out HB.out)); (case side4 => exact HC0_1.out); (case side5 => exact ZQ (Kd.C_below HR252_7.out HB.out)); (case side6 => exact HC252_7.out); rintro e w114 ⟨rfl, hb⟩; replace BK251 := ZW BK251 hb; replace BK253 := ZW BK253 hb; replace HB := ZT HB hb; clear hb))
   go_ret
   exact ⟨ZE, ZB⟩))
   ·(
   replace c98 := Bool.eq_false_iff.mpr c98
   subst c98
   have H1 := H; rw [if_neg ZFT] at H1
   clear H
   have H := H1
   clear H1
   obtain rfl := Option.some.inj H
   have hnb115 := NB253_251.out
   have hnc115 := NB251_253.out
   have hcz116 := ZC8 wc BK253
   have hfz116 := ZF8 BK253
   have hcz117 := ZC2 wc BK251
   have hfz117 := ZF2 BK251
   go_wp2_with (first | ((with_reducible refine gate_callee (f := 42) rfl ?_); refine ZGL (some 76) Tryd.func42 #[.agg #[.slice A0_0 l0_0.length c0_0, .slice A0_1 l0_1.length c0_1], .slice A252_6 ((rd_T71 l1 x12_1).f4).length c252_6, .int .i64 (wrap64 (a2 - 1))] ?_; (with_reducible refine (ih kj7 (by have := HK1.out; have := HJ7.out; omega) _ _ l0_0 _ _ l0_1 _ _ ((rd_T71 l1 x12_1).f4) (wrap64 (a2 - 1)) false _ ?side1 ?side2 ?side3 ?side4 ?side5 ?side6 A97.out).mono ?_); (case side1 => exact ZQ (Kd.C_below HR0_0.out HB.out)); (case side2 => exact HC0_0.out); (case side3 => exact ZQ (Kd.C_below HR0_1.out HB.out)); (case side4 => exact HC0_1.out); (case side5 => exact ZQ (Kd.C_below HR252_6.out HB.out)); (case side6 => exact HC252_6.out); rintro e w118 ⟨rfl, hb⟩; refine ⟨_, rfl, ?_⟩; replace BK251 := ZW BK251 hb; replace BK253 := ZW BK253 hb; replace HB := ZT HB hb; clear hb))
   go_ret
   exact ⟨ZE, ZB⟩))
   ·(
   rw [if_neg c96] at H
   have c96b0 := beq_eq_false_iff_ne.mpr c96
   have c96b1 := bne_iff_ne.mpr c96
   by_cases c119 : ((rd_T71 l1 x12_1).f0) = 3
   ·(
   rw [if_pos c119] at H
   have c119b0 := beq_iff_eq.mpr c119
   have c119b1 := bne_eq_false_iff_eq.mpr c119
   clear c119
   obtain ⟨t258, A120, H⟩ := ZOB H; try dsimp only at H
   by_cases c121 : t258 = true
   ·(
   subst c121
   have H1 := H; rw [if_pos rfl] at H1
   clear H
   have H := H1
   clear H1
   have H' := AM H
   clear H
   have hnb122 := NB253_251.out
   have hnc122 := NB251_253.out
   have hcz123 := ZC8 wc BK253
   have hfz123 := ZF8 BK253
   go_wp2_with (first | ((with_reducible refine gate_callee (f := 63) rfl ?_); refine ZGL (some 89) Tryd.func63 #[.int .i64 ((rd_T71 l1 x12_1).f3)] ?_; (with_reducible refine (impl_isHost.calls ((rd_T71 l1 x12_1).f3) true _ A120.out).mono ?_); rintro e w' ⟨rfl, ⟨nd, rfl⟩⟩; refine ⟨_, rfl, ?_⟩))
   go_roundg kj7
   case measure => have := HK1.out; have := HJ7.out; omega
   case rel => exact ⟨(wrap64 (x12_1 + 1)), (by first | rfl | (simp; done) | (simp [*]; done)), H', ⟨by have := HK1.out; have := HJ7.out; omega⟩, ⟨ZK BK251.out⟩, ⟨ZB⟩⟩)
   ·(
   replace c121 := Bool.eq_false_iff.mpr c121
   subst c121
   have H1 := H; rw [if_neg ZFT] at H1
   clear H
   have H := H1
   clear H1
   obtain rfl := Option.some.inj H
   have hnb124 := NB253_251.out
   have hnc124 := NB251_253.out
   have hcz125 := ZC8 wc BK253
   have hfz125 := ZF8 BK253
   go_wp2_with (first | ((with_reducible refine gate_callee (f := 63) rfl ?_); refine ZGL (some 89) Tryd.func63 #[.int .i64 ((rd_T71 l1 x12_1).f3)] ?_; (with_reducible refine (impl_isHost.calls ((rd_T71 l1 x12_1).f3) false _ A120.out).mono ?_); rintro e w' ⟨rfl, ⟨nd, rfl⟩⟩; refine ⟨_, rfl, ?_⟩))
   go_ret
   exact ⟨ZE, ZB⟩))
   ·(
   rw [if_neg c119] at H
   have c119b0 := beq_eq_false_iff_ne.mpr c119
   have c119b1 := bne_iff_ne.mpr c119
   obtain rfl := Option.some.inj H
   have hnb126 := NB253_251.out
   have hnc126 := NB251_253.out
   have hcz127 := ZC8 wc BK253
   have hfz127 := ZF8 BK253
   go_wp2
   go_ret
   exact ⟨ZE, ZB⟩))))))
  ·(
  rw [if_neg c7] at H
  exact absurd H (by simp)))
  ·(
  rw [if_neg c6] at H
  exact absurd H (by simp)))
  ·(
  rw [if_neg c5] at H
  have c5b0 := decide_eq_false c5
  clear c5
  obtain rfl := Option.some.inj H
  go_wp2
  go_ret
  exact ⟨ZE, ZB⟩))

end Go.Proofs.YtfcmckomagaiiaaDoor.A
