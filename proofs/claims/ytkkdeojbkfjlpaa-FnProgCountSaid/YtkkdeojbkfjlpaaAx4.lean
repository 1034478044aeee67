/- Go functions as Lean functions, and for each its contract; written by wip/tools/pr.py over the kit's print. -/
import Derived.Test.YtkkdeojbkfjlpaaAx0
import Derived.Test.YtkkdeojbkfjlpaaAx1
import Derived.Test.YtkkdeojbkfjlpaaAx2
import Derived.Test.YtkkdeojbkfjlpaaAx3
namespace Go.Proofs.Ytkkdeojbkfjlpaa.A
open Go.RowKit Go.Proofs.YtkkdeojbkfjlpaaW.PrintWords Go.Proofs.YtkkdeojbkfjlpaaW.PrintLast Go.Proofs.YtkkdeojbkfjlpaaW.PrintMore
attribute [local go_sem] max2_int min2_int max_two min_two max_three min_three max_four min_four
set_option linter.unusedVariables false
set_option linter.unusedSimpArgs false
set_option maxHeartbeats 8000000
set_option maxRecDepth 100000

attribute [local go_sem high] eqA38
/-! ### impl_Prog_stepsOk: function 50 -/
mutual
def impl_Prog_stepsOk.l0 : Nat → Int → List (S40) → Int → Int → List (S35) → List (S40) → Option (Bool)
 | 0, _, _, _, _, _, _ => none
 | k + 1, x2, x10, x11, x12, x127000, x127001 => if x12 < x11 then (if 0 ≤ x12 then (if x12 < (x10.length : Int) then (if x2 < 1 then (impl_Prog_stepsOk.j1 k x2 x10 x11 x12 true x127000 x127001 ((D40 x10 x12).f0) ((D40 x10 x12).f1) ((D40 x10 x12).f2.f0) ((D40 x10 x12).f2.f1) ((D40 x10 x12).f2.f2) ((D40 x10 x12).f3) ((D40 x10 x12).f4) ((D40 x10 x12).f5)) else ((impl_Prog_isVar.f x127000 x127001 ((D40 x10 x12).f1)).bind fun t129 => (if t129 = true then (if ((D40 x10 x12).f0) = 1 then (if ((D40 x10 x12).f0) = 3 then (if ((D40 x10 x12).f0) = 2 then (impl_Prog_stepsOk.j1 k x2 x10 x11 x12 false x127000 x127001 ((D40 x10 x12).f0) ((D40 x10 x12).f1) ((D40 x10 x12).f2.f0) ((D40 x10 x12).f2.f1) ((D40 x10 x12).f2.f2) ((D40 x10 x12).f3) ((D40 x10 x12).f4) ((D40 x10 x12).f5)) else (impl_Prog_stepsOk.j1 k x2 x10 x11 x12 (decide ((wrap64 ((((D40 x10 x12).f4).length : Int) + (((D40 x10 x12).f5).length : Int))) > 0)) x127000 x127001 ((D40 x10 x12).f0) ((D40 x10 x12).f1) ((D40 x10 x12).f2.f0) ((D40 x10 x12).f2.f1) ((D40 x10 x12).f2.f2) ((D40 x10 x12).f3) ((D40 x10 x12).f4) ((D40 x10 x12).f5))) else (if ((D40 x10 x12).f3) = 0 then (if ((D40 x10 x12).f0) = 2 then (impl_Prog_stepsOk.j1 k x2 x10 x11 x12 false x127000 x127001 ((D40 x10 x12).f0) ((D40 x10 x12).f1) ((D40 x10 x12).f2.f0) ((D40 x10 x12).f2.f1) ((D40 x10 x12).f2.f2) ((D40 x10 x12).f3) ((D40 x10 x12).f4) ((D40 x10 x12).f5)) else (impl_Prog_stepsOk.j1 k x2 x10 x11 x12 (decide ((wrap64 ((((D40 x10 x12).f4).length : Int) + (((D40 x10 x12).f5).length : Int))) > 0)) x127000 x127001 ((D40 x10 x12).f0) ((D40 x10 x12).f1) ((D40 x10 x12).f2.f0) ((D40 x10 x12).f2.f1) ((D40 x10 x12).f2.f2) ((D40 x10 x12).f3) ((D40 x10 x12).f4) ((D40 x10 x12).f5))) else (impl_Prog_stepsOk.j1 k x2 x10 x11 x12 true x127000 x127001 ((D40 x10 x12).f0) ((D40 x10 x12).f1) ((D40 x10 x12).f2.f0) ((D40 x10 x12).f2.f1) ((D40 x10 x12).f2.f2) ((D40 x10 x12).f3) ((D40 x10 x12).f4) ((D40 x10 x12).f5)))) else (if (!(((D40 x10 x12).f2.f0) == 0) || (!(((D40 x10 x12).f2.f1) == 0) || (!(((D40 x10 x12).f2.f2) == 0)))) = true then (impl_Prog_stepsOk.j1 k x2 x10 x11 x12 true x127000 x127001 ((D40 x10 x12).f0) ((D40 x10 x12).f1) ((D40 x10 x12).f2.f0) ((D40 x10 x12).f2.f1) ((D40 x10 x12).f2.f2) ((D40 x10 x12).f3) ((D40 x10 x12).f4) ((D40 x10 x12).f5)) else (if ((D40 x10 x12).f0) = 3 then (if ((D40 x10 x12).f0) = 2 then (impl_Prog_stepsOk.j1 k x2 x10 x11 x12 false x127000 x127001 ((D40 x10 x12).f0) ((D40 x10 x12).f1) ((D40 x10 x12).f2.f0) ((D40 x10 x12).f2.f1) ((D40 x10 x12).f2.f2) ((D40 x10 x12).f3) ((D40 x10 x12).f4) ((D40 x10 x12).f5)) else (impl_Prog_stepsOk.j1 k x2 x10 x11 x12 (decide ((wrap64 ((((D40 x10 x12).f4).length : Int) + (((D40 x10 x12).f5).length : Int))) > 0)) x127000 x127001 ((D40 x10 x12).f0) ((D40 x10 x12).f1) ((D40 x10 x12).f2.f0) ((D40 x10 x12).f2.f1) ((D40 x10 x12).f2.f2) ((D40 x10 x12).f3) ((D40 x10 x12).f4) ((D40 x10 x12).f5))) else (if ((D40 x10 x12).f3) = 0 then (if ((D40 x10 x12).f0) = 2 then (impl_Prog_stepsOk.j1 k x2 x10 x11 x12 false x127000 x127001 ((D40 x10 x12).f0) ((D40 x10 x12).f1) ((D40 x10 x12).f2.f0) ((D40 x10 x12).f2.f1) ((D40 x10 x12).f2.f2) ((D40 x10 x12).f3) ((D40 x10 x12).f4) ((D40 x10 x12).f5)) else (impl_Prog_stepsOk.j1 k x2 x10 x11 x12 (decide ((wrap64 ((((D40 x10 x12).f4).length : Int) + (((D40 x10 x12).f5).length : Int))) > 0)) x127000 x127001 ((D40 x10 x12).f0) ((D40 x10 x12).f1) ((D40 x10 x12).f2.f0) ((D40 x10 x12).f2.f1) ((D40 x10 x12).f2.f2) ((D40 x10 x12).f3) ((D40 x10 x12).f4) ((D40 x10 x12).f5))) else (impl_Prog_stepsOk.j1 k x2 x10 x11 x12 true x127000 x127001 ((D40 x10 x12).f0) ((D40 x10 x12).f1) ((D40 x10 x12).f2.f0) ((D40 x10 x12).f2.f1) ((D40 x10 x12).f2.f2) ((D40 x10 x12).f3) ((D40 x10 x12).f4) ((D40 x10 x12).f5)))))) else (impl_Prog_stepsOk.j1 k x2 x10 x11 x12 true x127000 x127001 ((D40 x10 x12).f0) ((D40 x10 x12).f1) ((D40 x10 x12).f2.f0) ((D40 x10 x12).f2.f1) ((D40 x10 x12).f2.f2) ((D40 x10 x12).f3) ((D40 x10 x12).f4) ((D40 x10 x12).f5))))) else (none)) else (none)) else (some true)
def impl_Prog_stepsOk.j1 : Nat → Int → List (S40) → Int → Int → Bool → List (S35) → List (S40) → Int → Int → Int → Int → Int → Int → List (S40) → List (S40) → Option (Bool)
 | 0, _, _, _, _, _, _, _, _, _, _, _, _, _, _, _ => none
 | k + 1, x2, x10, x11, x12, x60, x127000, x127001, x129000, x129001, x129002, x129003, x129004, x129005, x129006, x129007 => if x60 = true then (some false) else (if x129000 = 1 then ((impl_Prog_valOk.f x127000 x127001 x129002 x129003 x129004).bind fun t130 => (if t130 = true then (impl_Prog_stepsOk.l0 k x2 x10 x11 (wrap64 (x12 + 1)) x127000 x127001) else (some false))) else (if x129000 = 2 then ((impl_Prog_stepsOk.f k x127000 x127001 x129006 (wrap64 (x2 - 1))).bind fun t131 => (if t131 = true then ((impl_Prog_stepsOk.f k x127000 x127001 x129007 (wrap64 (x2 - 1))).bind fun t132 => (if t132 = true then (impl_Prog_stepsOk.l0 k x2 x10 x11 (wrap64 (x12 + 1)) x127000 x127001) else (some false))) else (some false))) else (if x129000 = 3 then ((impl_isHost.f x129005).bind fun t133 => (if t133 = true then (impl_Prog_stepsOk.l0 k x2 x10 x11 (wrap64 (x12 + 1)) x127000 x127001) else (some false))) else (some false))))
def impl_Prog_stepsOk.f : Nat → List (S35) → List (S40) → List (S40) → Int → Option (Bool)
 | 0, _, _, _, _ => none
 | k + 1, l0_0, l0_1, l1, a2 => impl_Prog_stepsOk.l0 k a2 l1 (l1.length : Int) 0 l0_0 l0_1
end
theorem impl_Prog_stepsOk.calls (k : Nat) : ∀ (A0_0 : Option Addr) (c0_0 : Nat) (l0_0 : List (S35)) (A0_1 : Option Addr) (c0_1 : Nat) (l0_1 : List (S40)) (A1 : Option Addr) (c1 : Nat) (l1 : List (S40)) (a2 : Int) (r : Bool) (w : World) (hr0_0 : Kd.C k35 w A0_0 l0_0.length l0_0) (hc0_0 : l0_0.length ≤ c0_0) (hr0_1 : Kd.C k40 w A0_1 l0_1.length l0_1) (hc0_1 : l0_1.length ≤ c0_1) (hr1 : Kd.C k40 w A1 l1.length l1) (hc1 : l1.length ≤ c1) (h : impl_Prog_stepsOk.f k l0_0 l0_1 l1 a2 = some r),
  Calls Try.prog 50 #[.agg #[.slice A0_0 l0_0.length c0_0, .slice A0_1 l0_1.length c0_1], .slice A1 l1.length c1, .int .i64 a2] w fun e w' => e = .returned (.bool r) ∧ Below w.heap.size w w' := by
 induction k using Nat.strongRecOn with
 | _ k ih =>
 intro A0_0 c0_0 l0_0 A0_1 c0_1 l0_1 A1 c1 l1 a2 r w hr0_0 hc0_0 hr0_1 hc0_1 hr1 hc1 h
 cases k with
 | zero => exact absurd h (by simp [impl_Prog_stepsOk.f])
 | succ k =>
 simp only [impl_Prog_stepsOk.f] at h
 have hu26 := Try.underlying26
 have hu40 := Try.underlying40
 have hu38 := Try.underlying38
 have HR0_0 := AM hr0_0
 have HC0_0 := AM hc0_0
 clear hr0_0 hc0_0
 have HR0_1 := AM hr0_1
 have HC0_1 := AM hc0_1
 clear hr0_1 hc0_1
 have HR1 := AM hr1
 have HC1 := AM hc1
 clear hr1 hc1
 have HB := AM (Below.refl w.heap.size w)
 have H : (impl_Prog_stepsOk.l0 k a2 l1 (l1.length : Int) 0 l0_0 l0_1) = some r := h
 clear h
 have H' := AM H
 clear H
 go_enter Try.func50, Try.ntmps50
 go_wp2_with (first | ((with_reducible refine gate_dst (N := 3) rfl ?_); refine ZXW w (N := 3) (cs := #[.slice A0_0 l0_0.length c0_0, .slice A0_1 l0_1.length c0_1]) (t := 26) ?_; intro gb126 hg w4 BK126 GW126 hb; replace HB := ZT HB hb; clear hb hg))
 go_loopg [12] k (fun kq v12 w' => ∃ (x12_1 : Int), v12 = .int .i64 x12_1 ∧ Za (impl_Prog_stepsOk.l0 kq a2 l1 (l1.length : Int) x12_1 l0_0 l0_1 = some r) ∧ Za (kq ≤ k) ∧ Za (w'.heap[gb126]? = some (.cells #[(.slice A0_0 l0_0.length c0_0), (.slice A0_1 l0_1.length c0_1)] 26 (0, 0))) ∧ Za (Below w.heap.size w w'))
 case atStart => exact ⟨(0), ZSM, H', ⟨Nat.le_refl _⟩, ⟨ZK BK126.out⟩, ⟨ZB⟩⟩
 case round => (
 clear H'
 try clear c1
 try clear p2
 obtain ⟨x12_1, rfl, HA, HK1, BK126, HB⟩ := hrel
 cases gk with
 | zero => exact absurd HA.out (by simp [impl_Prog_stepsOk.l0])
 | succ k1 =>
  have H := HA.out
  clear HA
  simp only [impl_Prog_stepsOk.l0] at H
  by_cases c5 : x12_1 < (l1.length : Int)
  ·(
  rw [if_pos c5] at H
  have c5b0 := decide_eq_true c5
  clear c5
  by_cases c6 : 0 ≤ x12_1
  ·(
  rw [if_pos c6] at H
  have c6b0 := decide_eq_true c6
  clear c6
  by_cases c7 : x12_1 < (l1.length : Int)
  ·(
  rw [if_pos c7] at H
  have c7b0 := decide_eq_true c7
  clear c7
  have HC8 := AM H
  clear H
  have p127 : 0 ≤ (x12_1 : Int) := ZD
  have q127 : x12_1 < (l1.length : Int) := ZD
  obtain ⟨ad127, A127_6, c127_6, A127_7, c127_7, e127, hx127_0, hx127_1, hx127_2, hx127_3, hx127_4, hx127_5, hx127_6, hx127_7, hl127_6, hi127_6, hl127_7, hi127_7⟩ := at_T40 HR1.out x12_1 p127 q127
  cases e127
  replace hx127_0 := ZHX HB hx127_0
  replace hx127_1 := ZHX HB hx127_1
  replace hx127_2 := ZHX HB hx127_2
  replace hx127_3 := ZHX HB hx127_3
  replace hx127_4 := ZHX HB hx127_4
  replace hx127_5 := ZHX HB hx127_5
  replace hx127_6 := ZHX HB hx127_6
  replace hx127_7 := ZHX HB hx127_7
  have HR127_6 := AM hi127_6
  have HC127_6 := AM hl127_6
  clear hi127_6 hl127_6
  have HR127_7 := AM hi127_7
  have HC127_7 := AM hl127_7
  clear hi127_7 hl127_7
  replace p127 := eq_true p127
  replace q127 := eq_true q127
  go_upto_region 4 with (first | ((with_reducible refine gate_dst (N := 8) rfl ?_); refine ZXW w (N := 8) (cs := #[.int .i64 0, .int .i64 0, .int .i64 0, .int .i64 0, .int .i64 0, .int .i64 0, .slice none 0 0, .slice none 0 0]) (t := 40) ?_; intro gb128 hg w9 BK128 GW128 hb; have NB126_128 : Za (gb126 ≠ gb128) := ZN hg BK126; have NB128_126 : Za (gb128 ≠ gb126) := ZM hg BK126; replace BK126 := ZW BK126 hb; replace HB := ZT HB hb; clear hb hg; have hnb10 := NB128_126.out; have hnc10 := NB126_128.out; have hcz11 := ZC8 w9 BK128))
  (try simp only [Act.put, List.setIfInBounds_toArray, List.set_cons_zero, List.set_cons_succ])
  go_cut [60] (fun v60 wc => ∃ (kq : Nat) (x60_7 : Bool), v60 = .bool x60_7 ∧ Za (impl_Prog_stepsOk.j1 kq a2 l1 (l1.length : Int) x12_1 x60_7 l0_0 l0_1 ((D40 l1 x12_1).f0) ((D40 l1 x12_1).f1) ((D40 l1 x12_1).f2.f0) ((D40 l1 x12_1).f2.f1) ((D40 l1 x12_1).f2.f2) ((D40 l1 x12_1).f3) ((D40 l1 x12_1).f4) ((D40 l1 x12_1).f5) = some r) ∧ Za (kq ≤ k1) ∧ Za (wc.heap[gb126]? = some (.cells #[(.slice A0_0 l0_0.length c0_0), (.slice A0_1 l0_1.length c0_1)] 26 (0, 0))) ∧ Za (wc.heap[gb128]? = some (.cells #[.int .i64 ((D40 l1 x12_1).f0), .int .i64 ((D40 l1 x12_1).f1), .int .i64 ((D40 l1 x12_1).f2.f0), .int .i64 ((D40 l1 x12_1).f2.f1), .int .i64 ((D40 l1 x12_1).f2.f2), .int .i64 ((D40 l1 x12_1).f3), (.slice A127_6 ((D40 l1 x12_1).f4).length c127_6), (.slice A127_7 ((D40 l1 x12_1).f5).length c127_7)] 40 (0, 0))) ∧ Za (Below w.heap.size w wc))
  case first => (
  have H := HC8.out
  clear HC8
  by_cases c12 : a2 < 1
  ·(
  rw [if_pos c12] at H
  have c12b0 := decide_eq_true c12
  clear c12
  (first | rw [c12b0] | (simp only [i64_w, i32_w]; rw [c12b0]) | skip)
  have H' := AM H
  clear H
  go_wp2
  go_meet
  case rel => exact ⟨_, (true), ZSM, H', ⟨by have := HK1.out; first | omega | exact Nat.le_refl _⟩, ⟨ZZ BK126.out⟩, ⟨ZZ BK128.out⟩, ⟨ZB⟩⟩)
  ·(
  rw [if_neg c12] at H
  have c12b0 := decide_eq_false c12
  clear c12
  (first | rw [c12b0] | (simp only [i64_w, i32_w]; rw [c12b0]) | skip)
  obtain ⟨t129, A13, H⟩ := ZOB H; try dsimp only at H
  by_cases c14 : t129 = true
  ·(
  subst c14
  have H1 := H; rw [if_pos rfl] at H1
  clear H
  have H := H1
  clear H1
  by_cases c15 : ((D40 l1 x12_1).f0) = 1
  ·(
  rw [if_pos c15] at H
  have c15b0 := beq_iff_eq.mpr c15
  have c15b1 := bne_eq_false_iff_eq.mpr c15
  clear c15
  by_cases c16 : ((D40 l1 x12_1).f0) = 3
  ·(
  rw [if_pos c16] at H
  have c16b0 := beq_iff_eq.mpr c16
  have c16b1 := bne_eq_false_iff_eq.mpr c16
  clear c16
  by_cases c17 : ((D40 l1 x12_1).f0) = 2
  ·(
  rw [if_pos c17] at H
  have c17b0 := beq_iff_eq.mpr c17
  have c17b1 := bne_eq_false_iff_eq.mpr c17
  clear c17
  have H' := AM H
  clear H
  have hnb18 := NB126_128.out
  have hnc18 := NB128_126.out
  have hcz19 := ZC2 w9 BK126
  have hcz20 := ZC8 w9 BK128
  go_wp2_with (first | (go_at_call 66; (with_reducible refine (impl_Prog_isVar.calls _ _ l0_0 _ _ l0_1 ((D40 l1 x12_1).f1) true _ ?side1 HC0_0.out ?side3 HC0_1.out A13.out).mono ?_); (case side1 => exact Kd.C_below HR0_0.out (ZB)); (case side3 => exact Kd.C_below HR0_1.out (ZB)); rintro e w21 ⟨rfl, hb⟩; replace BK126 := ZV #[.slice A0_0 l0_0.length c0_0, .slice A0_1 l0_1.length c0_1] BK126 hb; replace BK128 := ZV #[.int .i64 ((D40 l1 x12_1).f0), .int .i64 ((D40 l1 x12_1).f1), .int .i64 ((D40 l1 x12_1).f2.f0), .int .i64 ((D40 l1 x12_1).f2.f1), .int .i64 ((D40 l1 x12_1).f2.f2), .int .i64 ((D40 l1 x12_1).f3), .slice A127_6 ((D40 l1 x12_1).f4).length c127_6, .slice A127_7 ((D40 l1 x12_1).f5).length c127_7] BK128 hb; replace HB := ZT HB hb; clear hb; have hcz22 := ZC8 w21 BK128))
  go_meet
  case rel => exact ⟨_, (false), ZSM, H', ⟨by have := HK1.out; first | omega | exact Nat.le_refl _⟩, ⟨ZK BK126.out⟩, ⟨ZK BK128.out⟩, ⟨ZB⟩⟩)
  ·(
  rw [if_neg c17] at H
  have c17b0 := beq_eq_false_iff_ne.mpr c17
  have c17b1 := bne_iff_ne.mpr c17
  have H' := AM H
  clear H
  have hnb23 := NB126_128.out
  have hnc23 := NB128_126.out
  have hcz24 := ZC2 w9 BK126
  have hcz25 := ZC8 w9 BK128
  go_wp2_with (first | (go_at_call 66; (with_reducible refine (impl_Prog_isVar.calls _ _ l0_0 _ _ l0_1 ((D40 l1 x12_1).f1) true _ ?side1 HC0_0.out ?side3 HC0_1.out A13.out).mono ?_); (case side1 => exact Kd.C_below HR0_0.out (ZB)); (case side3 => exact Kd.C_below HR0_1.out (ZB)); rintro e w26 ⟨rfl, hb⟩; replace BK126 := ZV #[.slice A0_0 l0_0.length c0_0, .slice A0_1 l0_1.length c0_1] BK126 hb; replace BK128 := ZV #[.int .i64 ((D40 l1 x12_1).f0), .int .i64 ((D40 l1 x12_1).f1), .int .i64 ((D40 l1 x12_1).f2.f0), .int .i64 ((D40 l1 x12_1).f2.f1), .int .i64 ((D40 l1 x12_1).f2.f2), .int .i64 ((D40 l1 x12_1).f3), .slice A127_6 ((D40 l1 x12_1).f4).length c127_6, .slice A127_7 ((D40 l1 x12_1).f5).length c127_7] BK128 hb; replace HB := ZT HB hb; clear hb; have hcz27 := ZC8 w26 BK128))
  go_meet
  case rel => exact ⟨_, (decide ((wrap64 ((((D40 l1 x12_1).f4).length : Int) + (((D40 l1 x12_1).f5).length : Int))) > 0)), ZSM, H', ⟨by have := HK1.out; first | omega | exact Nat.le_refl _⟩, ⟨ZK BK126.out⟩, ⟨ZK BK128.out⟩, ⟨ZB⟩⟩))
  ·(
  rw [if_neg c16] at H
  have c16b0 := beq_eq_false_iff_ne.mpr c16
  have c16b1 := bne_iff_ne.mpr c16
  by_cases c28 : ((D40 l1 x12_1).f3) = 0
  ·(
  rw [if_pos c28] at H
  have c28b0 := beq_iff_eq.mpr c28
  have c28b1 := bne_eq_false_iff_eq.mpr c28
  clear c28
  by_cases c29 : ((D40 l1 x12_1).f0) = 2
  ·(
  rw [if_pos c29] at H
  have c29b0 := beq_iff_eq.mpr c29
  have c29b1 := bne_eq_false_iff_eq.mpr c29
  clear c29
  have H' := AM H
  clear H
  have hnb30 := NB126_128.out
  have hnc30 := NB128_126.out
  have hcz31 := ZC2 w9 BK126
  have hcz32 := ZC8 w9 BK128
  go_wp2_with (first | (go_at_call 66; (with_reducible refine (impl_Prog_isVar.calls _ _ l0_0 _ _ l0_1 ((D40 l1 x12_1).f1) true _ ?side1 HC0_0.out ?side3 HC0_1.out A13.out).mono ?_); (case side1 => exact Kd.C_below HR0_0.out (ZB)); (case side3 => exact Kd.C_below HR0_1.out (ZB)); rintro e w33 ⟨rfl, hb⟩; replace BK126 := ZV #[.slice A0_0 l0_0.length c0_0, .slice A0_1 l0_1.length c0_1] BK126 hb; replace BK128 := ZV #[.int .i64 ((D40 l1 x12_1).f0), .int .i64 ((D40 l1 x12_1).f1), .int .i64 ((D40 l1 x12_1).f2.f0), .int .i64 ((D40 l1 x12_1).f2.f1), .int .i64 ((D40 l1 x12_1).f2.f2), .int .i64 ((D40 l1 x12_1).f3), .slice A127_6 ((D40 l1 x12_1).f4).length c127_6, .slice A127_7 ((D40 l1 x12_1).f5).length c127_7] BK128 hb; replace HB := ZT HB hb; clear hb; have hcz34 := ZC8 w33 BK128))
  go_meet
  case rel => exact ⟨_, (false), ZSM, H', ⟨by have := HK1.out; first | omega | exact Nat.le_refl _⟩, ⟨ZK BK126.out⟩, ⟨ZK BK128.out⟩, ⟨ZB⟩⟩)
  ·(
  rw [if_neg c29] at H
  have c29b0 := beq_eq_false_iff_ne.mpr c29
  have c29b1 := bne_iff_ne.mpr c29
  have H' := AM H
  clear H
  have hnb35 := NB126_128.out
  have hnc35 := NB128_126.out
  have hcz36 := ZC2 w9 BK126
  have hcz37 := ZC8 w9 BK128
  go_wp2_with (first | (go_at_call 66; (with_reducible refine (impl_Prog_isVar.calls _ _ l0_0 _ _ l0_1 ((D40 l1 x12_1).f1) true _ ?side1 HC0_0.out ?side3 HC0_1.out A13.out).mono ?_); (case side1 => exact Kd.C_below HR0_0.out (ZB)); (case side3 => exact Kd.C_below HR0_1.out (ZB)); rintro e w38 ⟨rfl, hb⟩; replace BK126 := ZV #[.slice A0_0 l0_0.length c0_0, .slice A0_1 l0_1.length c0_1] BK126 hb; replace BK128 := ZV #[.int .i64 ((D40 l1 x12_1).f0), .int .i64 ((D40 l1 x12_1).f1), .int .i64 ((D40 l1 x12_1).f2.f0), .int .i64 ((D40 l1 x12_1).f2.f1), .int .i64 ((D40 l1 x12_1).f2.f2), .int .i64 ((D40 l1 x12_1).f3), .slice A127_6 ((D40 l1 x12_1).f4).length c127_6, .slice A127_7 ((D40 l1 x12_1).f5).length c127_7] BK128 hb; replace HB := ZT HB hb; clear hb; have hcz39 := ZC8 w38 BK128))
  go_meet
  case rel => exact ⟨_, (decide ((wrap64 ((((D40 l1 x12_1).f4).length : Int) + (((D40 l1 x12_1).f5).length : Int))) > 0)), ZSM, H', ⟨by have := HK1.out; first | omega | exact Nat.le_refl _⟩, ⟨ZK BK126.out⟩, ⟨ZK BK128.out⟩, ⟨ZB⟩⟩))
  ·(
  rw [if_neg c28] at H
  have c28b0 := beq_eq_false_iff_ne.mpr c28
  have c28b1 := bne_iff_ne.mpr c28
  have H' := AM H
  clear H
  have hnb40 := NB126_128.out
  have hnc40 := NB128_126.out
  have hcz41 := ZC2 w9 BK126
  have hcz42 := ZC8 w9 BK128
  go_wp2_with (first | (go_at_call 66; (with_reducible refine (impl_Prog_isVar.calls _ _ l0_0 _ _ l0_1 ((D40 l1 x12_1).f1) true _ ?side1 HC0_0.out ?side3 HC0_1.out A13.out).mono ?_); (case side1 => exact Kd.C_below HR0_0.out (ZB)); (case side3 => exact Kd.C_below HR0_1.out (ZB)); rintro e w43 ⟨rfl, hb⟩; replace BK126 := ZV #[.slice A0_0 l0_0.length c0_0, .slice A0_1 l0_1.length c0_1] BK126 hb; replace BK128 := ZV #[.int .i64 ((D40 l1 x12_1).f0), .int .i64 ((D40 l1 x12_1).f1), .int .i64 ((D40 l1 x12_1).f2.f0), .int .i64 ((D40 l1 x12_1).f2.f1), .int .i64 ((D40 l1 x12_1).f2.f2), .int .i64 ((D40 l1 x12_1).f3), .slice A127_6 ((D40 l1 x12_1).f4).length c127_6, .slice A127_7 ((D40 l1 x12_1).f5).length c127_7] BK128 hb; replace HB := ZT HB hb; clear hb; have hcz44 := ZC8 w43 BK128))
  go_meet
  case rel => exact ⟨_, (true), ZSM, H', ⟨by have := HK1.out; first | omega | exact Nat.le_refl _⟩, ⟨ZK BK126.out⟩, ⟨ZK BK128.out⟩, ⟨ZB⟩⟩)))
  ·(
  rw [if_neg c15] at H
  have c15b0 := beq_eq_false_iff_ne.mpr c15
  have c15b1 := bne_iff_ne.mpr c15
  by_cases c45 : (!(((D40 l1 x12_1).f2.f0) == 0) || (!(((D40 l1 x12_1).f2.f1) == 0) || (!(((D40 l1 x12_1).f2.f2) == 0)))) = true
  ·(
  rw [if_pos c45] at H
  have c45b0 : (!(((D40 l1 x12_1).f2.f0) == 0) || (!(((D40 l1 x12_1).f2.f1) == 0) || (!(((D40 l1 x12_1).f2.f2) == 0)))) = true := c45
  clear c45
  have H' := AM H
  clear H
  have hnb46 := NB126_128.out
  have hnc46 := NB128_126.out
  have hcz47 := ZC2 w9 BK126
  have hcz48 := ZC8 w9 BK128
  go_wp2_with (first | (go_at_call 66; (with_reducible refine (impl_Prog_isVar.calls _ _ l0_0 _ _ l0_1 ((D40 l1 x12_1).f1) true _ ?side1 HC0_0.out ?side3 HC0_1.out A13.out).mono ?_); (case side1 => exact Kd.C_below HR0_0.out (ZB)); (case side3 => exact Kd.C_below HR0_1.out (ZB)); rintro e w49 ⟨rfl, hb⟩; replace BK126 := ZV #[.slice A0_0 l0_0.length c0_0, .slice A0_1 l0_1.length c0_1] BK126 hb; replace BK128 := ZV #[.int .i64 ((D40 l1 x12_1).f0), .int .i64 ((D40 l1 x12_1).f1), .int .i64 ((D40 l1 x12_1).f2.f0), .int .i64 ((D40 l1 x12_1).f2.f1), .int .i64 ((D40 l1 x12_1).f2.f2), .int .i64 ((D40 l1 x12_1).f3), .slice A127_6 ((D40 l1 x12_1).f4).length c127_6, .slice A127_7 ((D40 l1 x12_1).f5).length c127_7] BK128 hb; replace HB := ZT HB hb; clear hb; have hcz50 := ZC8 w49 BK128))
  go_meet
  case rel => exact ⟨_, (true), ZSM, H', ⟨by have := HK1.out; first | omega | exact Nat.le_refl _⟩, ⟨ZK BK126.out⟩, ⟨ZK BK128.out⟩, ⟨ZB⟩⟩)
  ·(
  rw [if_neg c45] at H
  have c45b0 : (!(((D40 l1 x12_1).f2.f0) == 0) || (!(((D40 l1 x12_1).f2.f1) == 0) || (!(((D40 l1 x12_1).f2.f2) == 0)))) = false := by simpa using c45
  clear c45
  by_cases c51 : ((D40 l1 x12_1).f0) = 3
  ·(
  rw [if_pos c51] at H
  have c51b0 := beq_iff_eq.mpr c51
  have c51b1 := bne_eq_false_iff_eq.mpr c51
  clear c51
  by_cases c52 : ((D40 l1 x12_1).f0) = 2
  ·(
  rw [if_pos c52] at H
  have c52b0 := beq_iff_eq.mpr c52
  have c52b1 := bne_eq_false_iff_eq.mpr c52
  clear c52
  have H' := AM H
  clear H
  have hnb53 := NB126_128.out
  have hnc53 := NB128_126.out
  have hcz54 := ZC2 w9 BK126
  have hcz55 := ZC8 w9 BK128
  go_wp2_with (first | (go_at_call 66; (with_reducible refine (impl_Prog_isVar.calls _ _ l0_0 _ _ l0_1 ((D40 l1 x12_1).f1) true _ ?side1 HC0_0.out ?side3 HC0_1.out A13.out).mono ?_); (case side1 => exact Kd.C_below HR0_0.out (ZB)); (case side3 => exact Kd.C_below HR0_1.out (ZB)); rintro e w56 ⟨rfl, hb⟩; replace BK126 := ZV #[.slice A0_0 l0_0.length c0_0, .slice A0_1 l0_1.length c0_1] BK126 hb; replace BK128 := ZV #[.int .i64 ((D40 l1 x12_1).f0), .int .i64 ((D40 l1 x12_1).f1), .int .i64 ((D40 l1 x12_1).f2.f0), .int .i64 ((D40 l1 x12_1).f2.f1), .int .i64 ((D40 l1 x12_1).f2.f2), .int .i64 ((D40 l1 x12_1).f3), .slice A127_6 ((D40 l1 x12_1).f4).length c127_6, .slice A127_7 ((D40 l1 x12_1).f5).length c127_7] BK128 hb; replace HB := ZT HB hb; clear hb; have hcz57 := ZC8 w56 BK128))
  go_meet
  case rel => exact ⟨_, (false), ZSM, H', ⟨by have := HK1.out; first | omega | exact Nat.le_refl _⟩, ⟨ZK BK126.out⟩, ⟨ZK BK128.out⟩, ⟨ZB⟩⟩)
  ·(
  rw [if_neg c52] at H
  have c52b0 := beq_eq_false_iff_ne.mpr c52
  have c52b1 := bne_iff_ne.mpr c52
  have H' := AM H
  clear H
  have hnb58 := NB126_128.out
  have hnc58 := NB128_126.out
  have hcz59 := ZC2 w9 BK126
  have hcz60 := ZC8 w9 BK128
  go_wp2_with (first | (go_at_call 66; (with_reducible refine (impl_Prog_isVar.calls _ _ l0_0 _ _ l0_1 ((D40 l1 x12_1).f1) true _ ?side1 HC0_0.out ?side3 HC0_1.out A13.out).mono ?_); (case side1 => exact Kd.C_below HR0_0.out (ZB)); (case side3 => exact Kd.C_below HR0_1.out (ZB)); rintro e w61 ⟨rfl, hb⟩; replace BK126 := ZV #[.slice A0_0 l0_0.length c0_0, .slice A0_1 l0_1.length c0_1] BK126 hb; replace BK128 := ZV #[.int .i64 ((D40 l1 x12_1).f0), .int .i64 ((D40 l1 x12_1).f1), .int .i64 ((D40 l1 x12_1).f2.f0), .int .i64 ((D40 l1 x12_1).f2.f1), .int .i64 ((D40 l1 x12_1).f2.f2), .int .i64 ((D40 l1 x12_1).f3), .slice A127_6 ((D40 l1 x12_1).f4).length c127_6, .slice A127_7 ((D40 l1 x12_1).f5).length c127_7] BK128 hb; replace HB := ZT HB hb; clear hb; have hcz62 := ZC8 w61 BK128))
  go_meet
  case rel => exact ⟨_, (decide ((wrap64 ((((D40 l1 x12_1).f4).length : Int) + (((D40 l1 x12_1).f5).length : Int))) > 0)), ZSM, H', ⟨by have := HK1.out; first | omega | exact Nat.le_refl _⟩, ⟨ZK BK126.out⟩, ⟨ZK BK128.out⟩, ⟨ZB⟩⟩))
  ·(
  rw [if_neg c51] at H
  have c51b0 := beq_eq_false_iff_ne.mpr c51
  have c51b1 := bne_iff_ne.mpr c51
  by_cases c63 : ((D40 l1 x12_1).f3) = 0
  ·(
  rw [if_pos c63] at H
  have c63b0 := beq_iff_eq.mpr c63
  have c63b1 := bne_eq_false_iff_eq.mpr c63
  clear c63
  by_cases c64 : ((D40 l1 x12_1).f0) = 2
  ·(
  rw [if_pos c64] at H
  have c64b0 := beq_iff_eq.mpr c64
  have c64b1 := bne_eq_false_iff_eq.mpr c64
  clear c64
  have H' := AM H
  clear H
  have hnb65 := NB126_128.out
  have hnc65 := NB128_126.out
  have hcz66 := ZC2 w9 BK126
  have hcz67 := ZC8 w9 BK128
  go_wp2_with (first | (go_at_call 66; (with_reducible refine (impl_Prog_isVar.calls _ _ l0_0 _ _ l0_1 ((D40 l1 x12_1).f1) true _ ?side1 HC0_0.out ?side3 HC0_1.out A13.out).mono ?_); (case side1 => exact Kd.C_below HR0_0.out (ZB)); (case side3 => exact Kd.C_below HR0_1.out (ZB)); rintro e w68 ⟨rfl, hb⟩; replace BK126 := ZV #[.slice A0_0 l0_0.length c0_0, .slice A0_1 l0_1.length c0_1] BK126 hb; replace BK128 := ZV #[.int .i64 ((D40 l1 x12_1).f0), .int .i64 ((D40 l1 x12_1).f1), .int .i64 ((D40 l1 x12_1).f2.f0), .int .i64 ((D40 l1 x12_1).f2.f1), .int .i64 ((D40 l1 x12_1).f2.f2), .int .i64 ((D40 l1 x12_1).f3), .slice A127_6 ((D40 l1 x12_1).f4).length c127_6, .slice A127_7 ((D40 l1 x12_1).f5).length c127_7] BK128 hb; replace HB := ZT HB hb; clear hb; have hcz69 := ZC8 w68 BK128))
  go_meet
  case rel => exact ⟨_, (false), ZSM, H', ⟨by have := HK1.out; first | omega | exact Nat.le_refl _⟩, ⟨ZK BK126.out⟩, ⟨ZK BK128.out⟩, ⟨ZB⟩⟩)
  ·(
  rw [if_neg c64] at H
  have c64b0 := beq_eq_false_iff_ne.mpr c64
  have c64b1 := bne_iff_ne.mpr c64
  have H' := AM H
  clear H
  have hnb70 := NB126_128.out
  have hnc70 := NB128_126.out
  have hcz71 := ZC2 w9 BK126
  have hcz72 := ZC8 w9 BK128
  go_wp2_with (first | (go_at_call 66; (with_reducible refine (impl_Prog_isVar.calls _ _ l0_0 _ _ l0_1 ((D40 l1 x12_1).f1) true _ ?side1 HC0_0.out ?side3 HC0_1.out A13.out).mono ?_); (case side1 => exact Kd.C_below HR0_0.out (ZB)); (case side3 => exact Kd.C_below HR0_1.out (ZB)); rintro e w73 ⟨rfl, hb⟩; replace BK126 := ZV #[.slice A0_0 l0_0.length c0_0, .slice A0_1 l0_1.length c0_1] BK126 hb; replace BK128 := ZV #[.int .i64 ((D40 l1 x12_1).f0), .int .i64 ((D40 l1 x12_1).f1), .int .i64 ((D40 l1 x12_1).f2.f0), .int .i64 ((D40 l1 x12_1).f2.f1), .int .i64 ((D40 l1 x12_1).f2.f2), .int .i64 ((D40 l1 x12_1).f3), .slice A127_6 ((D40 l1 x12_1).f4).length c127_6, .slice A127_7 ((D40 l1 x12_1).f5).length c127_7] BK128 hb; replace HB := ZT HB hb; clear hb; have hcz74 := ZC8 w73 BK128))
  go_meet
  case rel => exact ⟨_, (decide ((wrap64 ((((D40 l1 x12_1).f4).length : Int) + (((D40 l1 x12_1).f5).length : Int))) > 0)), ZSM, H', ⟨by have := HK1.out; first | omega | exact Nat.le_refl _⟩, ⟨ZK BK126.out⟩, ⟨ZK BK128.out⟩, ⟨ZB⟩⟩))
  ·(
  rw [if_neg c63] at H
  have c63b0 := beq_eq_false_iff_ne.mpr c63
  have c63b1 := bne_iff_ne.mpr c63
  have H' := AM H
  clear H
  have hnb75 := NB126_128.out
  have hnc75 := NB128_126.out
  have hcz76 := ZC2 w9 BK126
  have hcz77 := ZC8 w9 BK128
  go_wp2_with (first | (go_at_call 66; (with_reducible refine (impl_Prog_isVar.calls _ _ l0_0 _ _ l0_1 ((D40 l1 x12_1).f1) true _ ?side1 HC0_0.out ?side3 HC0_1.out A13.out).mono ?_); (case side1 => exact Kd.C_below HR0_0.out (ZB)); (case side3 => exact Kd.C_below HR0_1.out (ZB)); rintro e w78 ⟨rfl, hb⟩; replace BK126 := ZV #[.slice A0_0 l0_0.length c0_0, .slice A0_1 l0_1.length c0_1] BK126 hb; replace BK128 := ZV #[.int .i64 ((D40 l1 x12_1).f0), .int .i64 ((D40 l1 x12_1).f1), .int .i64 ((D40 l1 x12_1).f2.f0), .int .i64 ((D40 l1 x12_1).f2.f1), .int .i64 ((D40 l1 x12_1).f2.f2), .int .i64 ((D40 l1 x12_1).f3), .slice A127_6 ((D40 l1 x12_1).f4).length c127_6, .slice A127_7 ((D40 l1 x12_1).f5).length c127_7] BK128 hb; replace HB := ZT HB hb; clear hb; have hcz79 := ZC8 w78 BK128))
  go_meet
  case rel => exact ⟨_, (true), ZSM, H', ⟨by have := HK1.out; first | omega | exact Nat.le_refl _⟩, ⟨ZK BK126.out⟩, ⟨ZK BK128.out⟩, ⟨ZB⟩⟩)))))
  ·(
  replace c14 := Bool.eq_false_iff.mpr c14
  subst c14
  have H1 := H; rw [if_neg ZFT] at H1
  clear H
  have H := H1
  clear H1
  have H' := AM H
  clear H
  have hnb80 := NB126_128.out
  have hnc80 := NB128_126.out
  have hcz81 := ZC2 w9 BK126
  have hcz82 := ZC8 w9 BK128
  go_wp2_with (first | (go_at_call 66; (with_reducible refine (impl_Prog_isVar.calls _ _ l0_0 _ _ l0_1 ((D40 l1 x12_1).f1) false _ ?side1 HC0_0.out ?side3 HC0_1.out A13.out).mono ?_); (case side1 => exact Kd.C_below HR0_0.out (ZB)); (case side3 => exact Kd.C_below HR0_1.out (ZB)); rintro e w83 ⟨rfl, hb⟩; replace BK126 := ZV #[.slice A0_0 l0_0.length c0_0, .slice A0_1 l0_1.length c0_1] BK126 hb; replace BK128 := ZV #[.int .i64 ((D40 l1 x12_1).f0), .int .i64 ((D40 l1 x12_1).f1), .int .i64 ((D40 l1 x12_1).f2.f0), .int .i64 ((D40 l1 x12_1).f2.f1), .int .i64 ((D40 l1 x12_1).f2.f2), .int .i64 ((D40 l1 x12_1).f3), .slice A127_6 ((D40 l1 x12_1).f4).length c127_6, .slice A127_7 ((D40 l1 x12_1).f5).length c127_7] BK128 hb; replace HB := ZT HB hb; clear hb))
  go_meet
  case rel => exact ⟨_, (true), ZSM, H', ⟨by have := HK1.out; first | omega | exact Nat.le_refl _⟩, ⟨ZK BK126.out⟩, ⟨ZK BK128.out⟩, ⟨ZB⟩⟩)))
  case rest => (
  clear HC8
  try clear c1
  try clear p1
  try clear q1
  try clear hx1
  try clear c2
  try clear p2
  try clear c3
  try clear c4
  try clear c5
  try clear c5b0
  try clear c6
  try clear c6b0
  try clear p6
  try clear c7
  try clear c7b0
  try clear c8
  try clear c10
  try clear c12
  try clear c12b0
  try clear p12
  try clear q12
  try clear hx12
  try clear c14
  try clear c15
  try clear c15b0
  try clear c15b1
  try clear c16
  try clear c16b0
  try clear c16b1
  try clear c17
  try clear c17b0
  try clear c17b1
  try clear c18
  try clear c23
  try clear c28
  try clear c28b0
  try clear c28b1
  try clear c29
  try clear c29b0
  try clear c29b1
  try clear c30
  try clear c35
  try clear c40
  try clear c45
  try clear c45b0
  try clear c46
  try clear c50
  try clear c51
  try clear c51b0
  try clear c51b1
  try clear c52
  try clear c52b0
  try clear c52b1
  try clear c53
  try clear c58
  try clear c63
  try clear c63b0
  try clear c63b1
  try clear c64
  try clear c64b0
  try clear c64b1
  try clear p64
  try clear c65
  try clear c70
  try clear c75
  try clear c80
  try clear hcz11
  try clear hcz19
  try clear hcz20
  try clear hcz22
  try clear hcz24
  try clear hcz25
  try clear hcz27
  try clear hcz31
  try clear hcz32
  try clear hcz34
  try clear hcz36
  try clear hcz37
  try clear hcz39
  try clear hcz41
  try clear hcz42
  try clear hcz44
  try clear hcz47
  try clear hcz48
  try clear hcz50
  try clear hcz54
  try clear hcz55
  try clear hcz57
  try clear hcz59
  try clear hcz60
  try clear hcz62
  try clear hcz66
  try clear hcz67
  try clear hcz69
  try clear hcz71
  try clear hcz72
  try clear hcz74
  try clear hcz76
  try clear hcz77
  try clear hcz79
  try clear hcz81
  try clear hcz82
  try clear hx127_0
  try clear hx127_1
  try clear hx127_2
  try clear hx127_3
  try clear hx127_4
  try clear hx127_5
  try clear hx127_6
  try clear hx127_7
  try clear p127
  try clear p2
  try clear q127
  obtain ⟨kq, x60_7, rfl, HA, HJ7, BK126, BK128, HB⟩ := hcut
  cases kq with
  | zero => exact absurd HA.out (by simp [impl_Prog_stepsOk.j1])
  | succ kj7 =>
   have H := HA.out
   clear HA
   simp only [impl_Prog_stepsOk.j1] at H
   by_cases c84 : x60_7 = true
   ·(
   subst c84
   have H1 := H; rw [if_pos rfl] at H1
   clear H
   have H := H1
   clear H1
   obtain rfl := Option.some.inj H
   go_wp2
   go_ret
   exact ⟨ZE, ZB⟩)
   ·(
   replace c84 := Bool.eq_false_iff.mpr c84
   subst c84
   have H1 := H; rw [if_neg ZFT] at H1
   clear H
   have H := H1
   clear H1
   by_cases c85 : ((D40 l1 x12_1).f0) = 1
   ·(
   rw [if_pos c85] at H
   have c85b0 := beq_iff_eq.mpr c85
   have c85b1 := bne_eq_false_iff_eq.mpr c85
   clear c85
   obtain ⟨t130, A86, H⟩ := ZOB H; try dsimp only at H
   by_cases c87 : t130 = true
   ·(
   subst c87
   have H1 := H; rw [if_pos rfl] at H1
   clear H
   have H := H1
   clear H1
   have H' := AM H
   clear H
   have hnb88 := NB128_126.out
   have hnc88 := NB126_128.out
   have hcz89 := ZC8 wc BK128
   have hcz90 := ZC2 wc BK126
   go_wp2_with (first | ((with_reducible refine gate_callee (f := 67) rfl ?_); refine ZGL (some 68) Try.func67 #[.agg #[.slice A0_0 l0_0.length c0_0, .slice A0_1 l0_1.length c0_1], .agg #[.int .i64 ((D40 l1 x12_1).f2.f0), .int .i64 ((D40 l1 x12_1).f2.f1), .int .i64 ((D40 l1 x12_1).f2.f2)]] ?_; (with_reducible refine (impl_Prog_valOk.calls _ _ l0_0 _ _ l0_1 ((D40 l1 x12_1).f2.f0) ((D40 l1 x12_1).f2.f1) ((D40 l1 x12_1).f2.f2) true _ (ZQ (Kd.C_below HR0_0.out HB.out)) HC0_0.out (ZQ (Kd.C_below HR0_1.out HB.out)) HC0_1.out A86.out).mono ?_); rintro e w91 ⟨rfl, hb⟩; refine ZV1 ?_; replace BK126 := ZW BK126 hb; replace BK128 := ZW BK128 hb; replace HB := ZT HB hb; clear hb))
   go_roundg kj7
   case measure => have := HK1.out; have := HJ7.out; omega
   case rel => exact ⟨(wrap64 (x12_1 + 1)), ZSM, H', ⟨by have := HK1.out; have := HJ7.out; omega⟩, ⟨ZK BK126.out⟩, ⟨ZB⟩⟩)
   ·(
   replace c87 := Bool.eq_false_iff.mpr c87
   subst c87
   have H1 := H; rw [if_neg ZFT] at H1
   clear H
   have H := H1
   clear H1
   obtain rfl := Option.some.inj H
   have hnb92 := NB128_126.out
   have hnc92 := NB126_128.out
   have hcz93 := ZC8 wc BK128
   have hcz94 := ZC2 wc BK126
   go_wp2_with (first | ((with_reducible refine gate_callee (f := 67) rfl ?_); refine ZGL (some 68) Try.func67 #[.agg #[.slice A0_0 l0_0.length c0_0, .slice A0_1 l0_1.length c0_1], .agg #[.int .i64 ((D40 l1 x12_1).f2.f0), .int .i64 ((D40 l1 x12_1).f2.f1), .int .i64 ((D40 l1 x12_1).f2.f2)]] ?_; (with_reducible refine (impl_Prog_valOk.calls _ _ l0_0 _ _ l0_1 ((D40 l1 x12_1).f2.f0) ((D40 l1 x12_1).f2.f1) ((D40 l1 x12_1).f2.f2) false _ (ZQ (Kd.C_below HR0_0.out HB.out)) HC0_0.out (ZQ (Kd.C_below HR0_1.out HB.out)) HC0_1.out A86.out).mono ?_); rintro e w95 ⟨rfl, hb⟩; refine ZV1 ?_; replace BK126 := ZW BK126 hb; replace BK128 := ZW BK128 hb; replace HB := ZT HB hb; clear hb))
   go_ret
   exact ⟨ZE, ZB⟩))
   ·(
   rw [if_neg c85] at H
   have c85b0 := beq_eq_false_iff_ne.mpr c85
   have c85b1 := bne_iff_ne.mpr c85
   by_cases c96 : ((D40 l1 x12_1).f0) = 2
   ·(
   rw [if_pos c96] at H
   have c96b0 := beq_iff_eq.mpr c96
   have c96b1 := bne_eq_false_iff_eq.mpr c96
   clear c96
   obtain ⟨t131, A97, H⟩ := ZOB H; try dsimp only at H
   by_cases c98 : t131 = true
   ·(
   subst c98
   have H1 := H; rw [if_pos rfl] at H1
   clear H
   have H := H1
   clear H1
   obtain ⟨t132, A99, H⟩ := ZOB H; try dsimp only at H
   by_cases c100 : t132 = true
   ·(
   subst c100
   have H1 := H; rw [if_pos rfl] at H1
   clear H
   have H := H1
   clear H1
   have H' := AM H
   clear H
   have hnb101 := NB128_126.out
   have hnc101 := NB126_128.out
   have hcz102 := ZC8 wc BK128
   have hcz103 := ZC2 wc BK126
   go_wp2_with (first | ((with_reducible refine gate_callee (f := 50) rfl ?_); refine ZGL (some 76) Try.func50 #[.agg #[.slice A0_0 l0_0.length c0_0, .slice A0_1 l0_1.length c0_1], .slice A127_6 ((D40 l1 x12_1).f4).length c127_6, .int .i64 (wrap64 (a2 - 1))] ?_; (with_reducible refine (ih kj7 (by have := HK1.out; have := HJ7.out; omega) _ _ l0_0 _ _ l0_1 _ _ ((D40 l1 x12_1).f4) (wrap64 (a2 - 1)) true _ (ZQ (Kd.C_below HR0_0.out HB.out)) HC0_0.out (ZQ (Kd.C_below HR0_1.out HB.out)) HC0_1.out (ZQ (Kd.C_below HR127_6.out HB.out)) HC127_6.out A97.out).mono ?_); rintro e w104 ⟨rfl, hb⟩; refine ZV1 ?_; replace BK126 := ZW BK126 hb; replace BK128 := ZW BK128 hb; replace HB := ZT HB hb; clear hb; have hcz105 := ZC2 w104 BK126; have hcz106 := ZC8 w104 BK128) | (go_at_call 50; (with_reducible refine (ih kj7 (by have := HK1.out; have := HJ7.out; omega) _ _ l0_0 _ _ l0_1 _ _ ((D40 l1 x12_1).f5) (wrap64 (a2 - 1)) true _ (ZQ (Kd.C_below HR0_0.out HB.out)) HC0_0.out (ZQ (Kd.C_below HR0_1.out HB.out)) HC0_1.out (ZQ (Kd.C_below HR127_7.out HB.out)) HC127_7.out A99.out).mono ?_); rintro e w107 ⟨rfl, hb⟩; replace BK126 := ZW BK126 hb; replace BK128 := ZW BK128 hb; replace HB := ZT HB hb; clear hb))
   go_roundg kj7
   case measure => have := HK1.out; have := HJ7.out; omega
   case rel => exact ⟨(wrap64 (x12_1 + 1)), ZSM, H', ⟨by have := HK1.out; have := HJ7.out; omega⟩, ⟨ZK BK126.out⟩, ⟨ZB⟩⟩)
   ·(
   replace c100 := Bool.eq_false_iff.mpr c100
   subst c100
   have H1 := H; rw [if_neg ZFT] at H1
   clear H
   have H := H1
   clear H1
   obtain rfl := Option.some.inj H
   have hnb108 := NB128_126.out
   have hnc108 := NB126_128.out
   have hcz109 := ZC8 wc BK128
   have hcz110 := ZC2 wc BK126
   go_wp2_with (first | ((with_reducible refine gate_callee (f := 50) rfl ?_); refine ZGL (some 76) Try.func50 #[.agg #[.slice A0_0 l0_0.length c0_0, .slice A0_1 l0_1.length c0_1], .slice A127_6 ((D40 l1 x12_1).f4).length c127_6, .int .i64 (wrap64 (a2 - 1))] ?_; (with_reducible refine (ih kj7 (by have := HK1.out; have := HJ7.out; omega) _ _ l0_0 _ _ l0_1 _ _ ((D40 l1 x12_1).f4) (wrap64 (a2 - 1)) true _ (ZQ (Kd.C_below HR0_0.out HB.out)) HC0_0.out (ZQ (Kd.C_below HR0_1.out HB.out)) HC0_1.out (ZQ (Kd.C_below HR127_6.out HB.out)) HC127_6.out A97.out).mono ?_); rintro e w111 ⟨rfl, hb⟩; refine ZV1 ?_; replace BK126 := ZW BK126 hb; replace BK128 := ZW BK128 hb; replace HB := ZT HB hb; clear hb; have hcz112 := ZC2 w111 BK126; have hcz113 := ZC8 w111 BK128) | (go_at_call 50; (with_reducible refine (ih kj7 (by have := HK1.out; have := HJ7.out; omega) _ _ l0_0 _ _ l0_1 _ _ ((D40 l1 x12_1).f5) (wrap64 (a2 - 1)) false _ (ZQ (Kd.C_below HR0_0.out HB.out)) HC0_0.out (ZQ (Kd.C_below HR0_1.out HB.out)) HC0_1.out (ZQ (Kd.C_below HR127_7.out HB.out)) HC127_7.out A99.out).mono ?_); rintro e w114 ⟨rfl, hb⟩; replace BK126 := ZW BK126 hb; replace BK128 := ZW BK128 hb; replace HB := ZT HB hb; clear hb))
   go_ret
   exact ⟨ZE, ZB⟩))
   ·(
   replace c98 := Bool.eq_false_iff.mpr c98
   subst c98
   have H1 := H; rw [if_neg ZFT] at H1
   clear H
   have H := H1
   clear H1
   obtain rfl := Option.some.inj H
   have hnb115 := NB128_126.out
   have hnc115 := NB126_128.out
   have hcz116 := ZC8 wc BK128
   have hcz117 := ZC2 wc BK126
   go_wp2_with (first | ((with_reducible refine gate_callee (f := 50) rfl ?_); refine ZGL (some 76) Try.func50 #[.agg #[.slice A0_0 l0_0.length c0_0, .slice A0_1 l0_1.length c0_1], .slice A127_6 ((D40 l1 x12_1).f4).length c127_6, .int .i64 (wrap64 (a2 - 1))] ?_; (with_reducible refine (ih kj7 (by have := HK1.out; have := HJ7.out; omega) _ _ l0_0 _ _ l0_1 _ _ ((D40 l1 x12_1).f4) (wrap64 (a2 - 1)) false _ (ZQ (Kd.C_below HR0_0.out HB.out)) HC0_0.out (ZQ (Kd.C_below HR0_1.out HB.out)) HC0_1.out (ZQ (Kd.C_below HR127_6.out HB.out)) HC127_6.out A97.out).mono ?_); rintro e w118 ⟨rfl, hb⟩; refine ZV1 ?_; replace BK126 := ZW BK126 hb; replace BK128 := ZW BK128 hb; replace HB := ZT HB hb; clear hb))
   go_ret
   exact ⟨ZE, ZB⟩))
   ·(
   rw [if_neg c96] at H
   have c96b0 := beq_eq_false_iff_ne.mpr c96
   have c96b1 := bne_iff_ne.mpr c96
   by_cases c119 : ((D40 l1 x12_1).f0) = 3
   ·(
   rw [if_pos c119] at H
   have c119b0 := beq_iff_eq.mpr c119
   have c119b1 := bne_eq_false_iff_eq.mpr c119
   clear c119
   obtain ⟨t133, A120, H⟩ := ZOB H; try dsimp only at H
   by_cases c121 : t133 = true
   ·(
   subst c121
   have H1 := H; rw [if_pos rfl] at H1
   clear H
   have H := H1
   clear H1
   have H' := AM H
   clear H
   have hnb122 := NB128_126.out
   have hnc122 := NB126_128.out
   have hcz123 := ZC8 wc BK128
   go_wp2_with (first | ((with_reducible refine gate_callee (f := 68) rfl ?_); refine ZGL (some 89) Try.func68 #[.int .i64 ((D40 l1 x12_1).f3)] ?_; (with_reducible refine (impl_isHost.calls ((D40 l1 x12_1).f3) true _ A120.out).mono ?_); rintro e w' ⟨rfl, ⟨nd, rfl⟩⟩; refine ZV1 ?_))
   go_roundg kj7
   case measure => have := HK1.out; have := HJ7.out; omega
   case rel => exact ⟨(wrap64 (x12_1 + 1)), ZSM, H', ⟨by have := HK1.out; have := HJ7.out; omega⟩, ⟨ZK BK126.out⟩, ⟨ZB⟩⟩)
   ·(
   replace c121 := Bool.eq_false_iff.mpr c121
   subst c121
   have H1 := H; rw [if_neg ZFT] at H1
   clear H
   have H := H1
   clear H1
   obtain rfl := Option.some.inj H
   have hnb124 := NB128_126.out
   have hnc124 := NB126_128.out
   have hcz125 := ZC8 wc BK128
   go_wp2_with (first | ((with_reducible refine gate_callee (f := 68) rfl ?_); refine ZGL (some 89) Try.func68 #[.int .i64 ((D40 l1 x12_1).f3)] ?_; (with_reducible refine (impl_isHost.calls ((D40 l1 x12_1).f3) false _ A120.out).mono ?_); rintro e w' ⟨rfl, ⟨nd, rfl⟩⟩; refine ZV1 ?_))
   go_ret
   exact ⟨ZE, ZB⟩))
   ·(
   rw [if_neg c119] at H
   have c119b0 := beq_eq_false_iff_ne.mpr c119
   have c119b1 := bne_iff_ne.mpr c119
   obtain rfl := Option.some.inj H
   have hnb126 := NB128_126.out
   have hnc126 := NB126_128.out
   have hcz127 := ZC8 wc BK128
   go_wp2
   go_ret
   exact ⟨ZE, ZB⟩))))))
  ·(
  rw [if_neg c7] at H
  exact absurd H (by simp)))
  ·(
  rw [if_neg c6] at H
  exact absurd H (by simp)))
  ·(
  rw [if_neg c5] at H
  have c5b0 := decide_eq_false c5
  clear c5
  obtain rfl := Option.some.inj H
  go_wp2
  go_ret
  exact ⟨ZE, ZB⟩))

end Go.Proofs.Ytkkdeojbkfjlpaa.A
