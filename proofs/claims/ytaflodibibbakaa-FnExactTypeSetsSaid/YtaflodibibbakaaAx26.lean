/- Go functions as Lean functions, and for each its contract; written by wip/tools/pr.py over the kit's print. -/
import Derived.Test.YtaflodibibbakaaAx0
import Derived.Test.YtaflodibibbakaaAx5
import Derived.Test.YtaflodibibbakaaAx25
namespace Go.Proofs.Ytaflodibibbakaa.A
open Go.RowKit Go.Proofs.YtaflodibibbakaaW.PrintWords Go.Proofs.YtaflodibibbakaaW.PrintLast Go.Proofs.YtaflodibibbakaaW.PrintMore
attribute [local go_sem] max2_int min2_int max_two min_two max_three min_three max_four min_four
set_option linter.unusedVariables false
set_option linter.unusedSimpArgs false
set_option maxHeartbeats 8000000
set_option maxRecDepth 100000

/-! ### spec_l11Sets: function 51 -/
mutual
def spec_l11Sets.l0 : Nat → List (S50) → Int → Int → List (S60) → List (S50) → Option (Int)
 | 0, _, _, _, _, _ => none
 | k + 1, x1, x5, x6, x545000, x545001 => if x6 < (x1.length : Int) then (if 0 ≤ x6 then (if ((rd_T50 x1 x6).f0) = 1 then (if 0 ≤ ((rd_T50 x1 x6).f1) then (if ((rd_T50 x1 x6).f1) < (x545000.length : Int) then ((spec_l1Either.f k x5 ((rd_T60 x545000 ((rd_T50 x1 x6).f1)).f1)).bind fun t548 => (spec_l11Sets.j1 k x1 t548 x6 x545000 x545001 ((rd_T50 x1 x6).f0) ((rd_T50 x1 x6).f1) ((rd_T50 x1 x6).f2.f0) ((rd_T50 x1 x6).f2.f1) ((rd_T50 x1 x6).f2.f2) ((rd_T50 x1 x6).f3) ((rd_T50 x1 x6).f4) ((rd_T50 x1 x6).f5))) else (none)) else (none)) else (spec_l11Sets.j1 k x1 x5 x6 x545000 x545001 ((rd_T50 x1 x6).f0) ((rd_T50 x1 x6).f1) ((rd_T50 x1 x6).f2.f0) ((rd_T50 x1 x6).f2.f1) ((rd_T50 x1 x6).f2.f2) ((rd_T50 x1 x6).f3) ((rd_T50 x1 x6).f4) ((rd_T50 x1 x6).f5))) else (none)) else (some x5)
def spec_l11Sets.j1 : Nat → List (S50) → Int → Int → List (S60) → List (S50) → Int → Int → Int → Int → Int → Int → List (S50) → List (S50) → Option (Int)
 | 0, _, _, _, _, _, _, _, _, _, _, _, _, _ => none
 | k + 1, x1, x5, x6, x545000, x545001, x547000, x547001, x547002, x547003, x547004, x547005, x547006, x547007 => (spec_l11Sets.f k x545000 x545001 x547006).bind fun t549 => ((spec_l11Sets.f k x545000 x545001 x547007).bind fun t550 => ((spec_l1Either.f k t549 t550).bind fun t551 => ((spec_l1Either.f k x5 t551).bind fun t552 => (spec_l11Sets.l0 k x1 t552 (wrap64 (x6 + 1)) x545000 x545001))))
def spec_l11Sets.f : Nat → List (S60) → List (S50) → List (S50) → Option (Int)
 | 0, _, _, _ => none
 | k + 1, l0_0, l0_1, l1 => spec_l11Sets.l0 k l1 0 0 l0_0 l0_1
end
def spec_l11Sets.T8 : Bool × List (List Nat × List Nat) := (true, [([], []), ([], []), ([], []), ([2], [2]), ([1, 3], [1, 3]), ([], []), ([], []), ([6], [6]), ([5, 7, 4], [5, 7]), ([4, 8, 8], [4, 8]), ([0, 9, 9], [0, 9]), ([10, 10, 0, 1, 2, 3, 4, 5, 6, 7, 8, 9, 10], [0, 10])])
def spec_l11Sets.B8 : List Nat := [0, 0, 0, 4, 14, 0, 0, 64, 254, 510, 1023, 2047]
theorem spec_l11Sets.tab8 : rtab .any (opsOf Try.f51 8) = spec_l11Sets.T8 := by kernel_rfl
theorem spec_l11Sets.bits8 : waitsOk spec_l11Sets.T8.2 spec_l11Sets.B8 = true := by kernel_rfl
theorem spec_l11Sets.calls (k : Nat) : ∀ (A0_0 : Option Addr) (c0_0 : Nat) (l0_0 : List (S60)) (A0_1 : Option Addr) (c0_1 : Nat) (l0_1 : List (S50)) (A1 : Option Addr) (c1 : Nat) (l1 : List (S50)) (r : Int) (w : World) (hr0_0 : Kd.C k60 w A0_0 l0_0.length l0_0) (hc0_0 : l0_0.length ≤ c0_0) (hr0_1 : Kd.C k50 w A0_1 l0_1.length l0_1) (hc0_1 : l0_1.length ≤ c0_1) (hr1 : Kd.C k50 w A1 l1.length l1) (hc1 : l1.length ≤ c1) (h : spec_l11Sets.f k l0_0 l0_1 l1 = some r),
  Calls Try.prog 51 #[.agg #[.slice A0_0 l0_0.length c0_0, .slice A0_1 l0_1.length c0_1], .slice A1 l1.length c1] w fun e w' => e = .returned (.int .i64 r) ∧ Below w.heap.size w w' := by
 induction k using Nat.strongRecOn with
 | _ k ih =>
 intro A0_0 c0_0 l0_0 A0_1 c0_1 l0_1 A1 c1 l1 r w hr0_0 hc0_0 hr0_1 hc0_1 hr1 hc1 h
 cases k with
 | zero => exact absurd h (by simp [spec_l11Sets.f])
 | succ k =>
 simp only [spec_l11Sets.f] at h
 have hu32 := Try.underlying32
 have hu50 := Try.underlying50
 have HR0_0 := AM hr0_0
 have HC0_0 := AM hc0_0
 clear hr0_0 hc0_0
 have HR0_1 := AM hr0_1
 have HC0_1 := AM hc0_1
 clear hr0_1 hc0_1
 have HR1 := AM hr1
 have HC1 := AM hc1
 clear hr1 hc1
 have HB := AM (Below.refl w.heap.size w)
 have H : (spec_l11Sets.l0 k l1 0 0 l0_0 l0_1) = some r := h
 clear h
 have H' := AM H
 clear H
 go_enter Try.func51, Try.ntmps51
 go_wp2_with (first | ((with_reducible refine gate_dst (N := 2) rfl ?_); refine ZX (N := 2) (cs := #[.slice A0_0 l0_0.length c0_0, .slice A0_1 l0_1.length c0_1]) (t := 32) ?_; intro gb544 hg w3 hbox hb; have BK544 := AM (hbox); have GW544 : Aside0 (w.heap.size ≤ gb544) := ZS hg; have GE544 : Aside0 (w.heap.size ≤ gb544) := ZS hg; replace HB := ZT HB hb; clear hb hbox hg))
 go_loopg [5, 6] k (fun kq v5 v6 w' => ∃ (x5_1 : Int) (x6_1 : Int), v5 = .int .i64 x5_1 ∧ v6 = .int .i64 x6_1 ∧ Aside0 (spec_l11Sets.l0 kq l1 x5_1 x6_1 l0_0 l0_1 = some r) ∧ Aside0 (kq ≤ k) ∧ Aside0 (w'.heap[gb544]? = some (.cells #[(.slice A0_0 l0_0.length c0_0), (.slice A0_1 l0_1.length c0_1)] 32 (0, 0))) ∧ Aside0 (Below w.heap.size w w'))
 case atStart => exact ⟨(0), (0), (by first | rfl | (simp; done) | (simp [*]; done)), (by first | rfl | (simp; done) | (simp [*]; done)), H', ⟨Nat.le_refl _⟩, ⟨ZK BK544.out⟩, ⟨ZB⟩⟩
 case round => (
 clear H'
 try clear c1
 try clear p2
 obtain ⟨x5_1, x6_1, rfl, rfl, HA, HK1, BK544, HB⟩ := hrel
 cases gk with
 | zero => exact absurd HA.out (by simp [spec_l11Sets.l0])
 | succ k1 =>
  have H := HA.out
  clear HA
  simp only [spec_l11Sets.l0] at H
  by_cases c4 : x6_1 < (l1.length : Int)
  ·(
  rw [if_pos c4] at H
  have c4b0 := decide_eq_true c4
  clear c4
  by_cases c5 : 0 ≤ x6_1
  ·(
  rw [if_pos c5] at H
  have c5b0 := decide_eq_true c5
  clear c5
  have HC6 := AM H
  clear H
  have p545 : 0 ≤ (x6_1 : Int) := ZD
  have q545 : x6_1 < (l1.length : Int) := ZD
  obtain ⟨ad545, A545_6, c545_6, A545_7, c545_7, e545, hx545_0, hx545_1, hx545_2, hx545_3, hx545_4, hx545_5, hx545_6, hx545_7, hl545_6, hi545_6, hl545_7, hi545_7⟩ := at_T50 HR1.out x6_1 p545 q545
  cases e545
  replace hx545_0 := ZHX HB hx545_0
  replace hx545_1 := ZHX HB hx545_1
  replace hx545_2 := ZHX HB hx545_2
  replace hx545_3 := ZHX HB hx545_3
  replace hx545_4 := ZHX HB hx545_4
  replace hx545_5 := ZHX HB hx545_5
  replace hx545_6 := ZHX HB hx545_6
  replace hx545_7 := ZHX HB hx545_7
  have HR545_6 := AM hi545_6
  have HC545_6 := AM hl545_6
  clear hi545_6 hl545_6
  have HR545_7 := AM hi545_7
  have HC545_7 := AM hl545_7
  clear hi545_7 hl545_7
  replace p545 := eq_true p545
  replace q545 := eq_true q545
  go_upto_if 20 with (first | ((with_reducible refine gate_dst (N := 7) rfl ?_); refine ZX (N := 7) (cs := #[.int .i64 0, .int .i64 0, .int .i64 0, .int .i64 0, .int .i64 0, .int .i64 0, .slice none 0 0, .slice none 0 0]) (t := 50) ?_; intro gb546 hg w7 hbox hb; have BK546 := AM (hbox); have GW546 : Aside0 (w.heap.size ≤ gb546) := ZS hg; have GE546 : Aside0 (w.heap.size ≤ gb546) := ZS hg; have NB544_546 : Aside0 (gb544 ≠ gb546) := ZN hg BK544; have NB546_544 : Aside0 (gb546 ≠ gb544) := ZM hg BK544; replace BK544 := ZW BK544 hb; replace HB := ZT HB hb; clear hb hbox hg; have hnb8 := NB546_544.out; have hnc8 := NB544_546.out; have hcz9 := ZC8 w7 BK546; have hfz9 := ZF8 BK546))
  (try simp only [Act.put, List.setIfInBounds_toArray, List.set_cons_zero, List.set_cons_succ])
  go_cut [5] (fun v5 wc => ∃ (kq : Nat) (x5_5 : Int), v5 = .int .i64 x5_5 ∧ Aside0 (spec_l11Sets.j1 kq l1 x5_5 x6_1 l0_0 l0_1 ((rd_T50 l1 x6_1).f0) ((rd_T50 l1 x6_1).f1) ((rd_T50 l1 x6_1).f2.f0) ((rd_T50 l1 x6_1).f2.f1) ((rd_T50 l1 x6_1).f2.f2) ((rd_T50 l1 x6_1).f3) ((rd_T50 l1 x6_1).f4) ((rd_T50 l1 x6_1).f5) = some r) ∧ Aside0 (kq ≤ k1) ∧ Aside0 (wc.heap[gb544]? = some (.cells #[(.slice A0_0 l0_0.length c0_0), (.slice A0_1 l0_1.length c0_1)] 32 (0, 0))) ∧ Aside0 (wc.heap[gb546]? = some (.cells #[.int .i64 ((rd_T50 l1 x6_1).f0), .int .i64 ((rd_T50 l1 x6_1).f1), .int .i64 ((rd_T50 l1 x6_1).f2.f0), .int .i64 ((rd_T50 l1 x6_1).f2.f1), .int .i64 ((rd_T50 l1 x6_1).f2.f2), .int .i64 ((rd_T50 l1 x6_1).f3), (.slice A545_6 ((rd_T50 l1 x6_1).f4).length c545_6), (.slice A545_7 ((rd_T50 l1 x6_1).f5).length c545_7)] 50 (0, 0))) ∧ Aside0 (Below w.heap.size w wc))
  case first => (
  have H := HC6.out
  clear HC6
  by_cases c10 : ((rd_T50 l1 x6_1).f0) = 1
  ·(
  rw [if_pos c10] at H
  have c10b0 := beq_iff_eq.mpr c10
  have c10b1 := bne_eq_false_iff_eq.mpr c10
  clear c10
  (first | rw [c10b0] | (simp only [i64_w, i32_w]; rw [c10b0]) | skip)
  by_cases c11 : 0 ≤ ((rd_T50 l1 x6_1).f1)
  ·(
  rw [if_pos c11] at H
  have c11b0 := decide_eq_true c11
  clear c11
  by_cases c12 : ((rd_T50 l1 x6_1).f1) < (l0_0.length : Int)
  ·(
  rw [if_pos c12] at H
  have c12b0 := decide_eq_true c12
  clear c12
  obtain ⟨t548, A13, H⟩ := ZOB H; try dsimp only at H
  have H' := AM H
  clear H
  have hnb14 := NB544_546.out
  have hnc14 := NB546_544.out
  have hcz15 := ZC2 w7 BK544
  have hfz15 := ZF2 BK544
  have hcz16 := ZC8 w7 BK546
  have hfz16 := ZF8 BK546
  have p547 : 0 ≤ (((rd_T50 l1 x6_1).f1) : Int) := ZD
  have q547 : ((rd_T50 l1 x6_1).f1) < (l0_0.length : Int) := ZD
  obtain ⟨ad547, e547, hx547_0, hx547_1⟩ := at_T60 HR0_0.out ((rd_T50 l1 x6_1).f1) p547 q547
  cases e547
  have hn547_0 : ad547.block ≠ gb546 := ZO hx547_0 GW546
  have hn547_1 : ad547.block ≠ gb546 := ZO hx547_0 GW546
  have hn547_2 : ad547.block ≠ gb546 := ZO hx547_0 GW546
  have hn547_3 : ad547.block ≠ gb546 := ZO hx547_0 GW546
  have hn547_4 : ad547.block ≠ gb546 := ZO hx547_0 GW546
  have hn547_5 : ad547.block ≠ gb546 := ZO hx547_0 GW546
  have hn547_6 : ad547.block ≠ gb546 := ZO hx547_0 GW546
  have hn547_7 : ad547.block ≠ gb546 := ZO hx547_0 GW546
  replace hx547_0 := ZHX HB hx547_0
  replace hx547_1 := ZHX HB hx547_1
  replace hx547_0 := (cell_far (p := ⟨gb546, 0, none⟩) (ZY hn547_0) (.int .i64 ((rd_T50 l1 x6_1).f0))).trans hx547_0
  replace hx547_1 := (cell_far (p := ⟨gb546, 0, none⟩) (ZY hn547_0) (.int .i64 ((rd_T50 l1 x6_1).f0))).trans hx547_1
  replace hx547_0 := (cell_far (p := ⟨gb546, 1, none⟩) (ZY hn547_1) (.int .i64 ((rd_T50 l1 x6_1).f1))).trans hx547_0
  replace hx547_1 := (cell_far (p := ⟨gb546, 1, none⟩) (ZY hn547_1) (.int .i64 ((rd_T50 l1 x6_1).f1))).trans hx547_1
  replace hx547_0 := (cell_far (p := ⟨gb546, 2, none⟩) (ZY hn547_2) (.int .i64 ((rd_T50 l1 x6_1).f2.f0))).trans hx547_0
  replace hx547_1 := (cell_far (p := ⟨gb546, 2, none⟩) (ZY hn547_2) (.int .i64 ((rd_T50 l1 x6_1).f2.f0))).trans hx547_1
  replace hx547_0 := (cell_far (p := ⟨gb546, 3, none⟩) (ZY hn547_3) (.int .i64 ((rd_T50 l1 x6_1).f2.f1))).trans hx547_0
  replace hx547_1 := (cell_far (p := ⟨gb546, 3, none⟩) (ZY hn547_3) (.int .i64 ((rd_T50 l1 x6_1).f2.f1))).trans hx547_1
  replace hx547_0 := (cell_far (p := ⟨gb546, 4, none⟩) (ZY hn547_4) (.int .i64 ((rd_T50 l1 x6_1).f2.f2))).trans hx547_0
  replace hx547_1 := (cell_far (p := ⟨gb546, 4, none⟩) (ZY hn547_4) (.int .i64 ((rd_T50 l1 x6_1).f2.f2))).trans hx547_1
  replace hx547_0 := (cell_far (p := ⟨gb546, 5, none⟩) (ZY hn547_5) (.int .i64 ((rd_T50 l1 x6_1).f3))).trans hx547_0
  replace hx547_1 := (cell_far (p := ⟨gb546, 5, none⟩) (ZY hn547_5) (.int .i64 ((rd_T50 l1 x6_1).f3))).trans hx547_1
  replace hx547_0 := (cell_far (p := ⟨gb546, 6, none⟩) (ZY hn547_6) (.slice A545_6 ((rd_T50 l1 x6_1).f4).length c545_6)).trans hx547_0
  replace hx547_1 := (cell_far (p := ⟨gb546, 6, none⟩) (ZY hn547_6) (.slice A545_6 ((rd_T50 l1 x6_1).f4).length c545_6)).trans hx547_1
  replace hx547_0 := (cell_far (p := ⟨gb546, 7, none⟩) (ZY hn547_7) (.slice A545_7 ((rd_T50 l1 x6_1).f5).length c545_7)).trans hx547_0
  replace hx547_1 := (cell_far (p := ⟨gb546, 7, none⟩) (ZY hn547_7) (.slice A545_7 ((rd_T50 l1 x6_1).f5).length c545_7)).trans hx547_1
  clear hn547_0 hn547_1 hn547_2 hn547_3 hn547_4 hn547_5 hn547_6 hn547_7
  replace p547 := eq_true p547
  replace q547 := eq_true q547
  go_wp2_with (first | ((with_reducible refine gate_callee (f := 76) rfl ?_); refine ZGL (some 29) Try.func76 #[.int .i64 x5_1, .int .i64 ((rd_T60 l0_0 ((rd_T50 l1 x6_1).f1)).f1)] ?_; (with_reducible refine (spec_l1Either.calls k1 x5_1 ((rd_T60 l0_0 ((rd_T50 l1 x6_1).f1)).f1) t548 _ A13.out).mono ?_); rintro e w' ⟨rfl, ⟨nd, rfl⟩⟩; refine ⟨_, rfl, ?_⟩))
  go_meet
  case rel => exact ⟨_, (t548), (by first | rfl | (simp; done) | (simp [*]; done)), H', ⟨by have := HK1.out; first | omega | exact Nat.le_refl _⟩, ⟨ZZ BK544.out⟩, ⟨ZZ BK546.out⟩, ⟨ZB⟩⟩)
  ·(
  rw [if_neg c12] at H
  exact absurd H (by simp)))
  ·(
  rw [if_neg c11] at H
  exact absurd H (by simp)))
  ·(
  rw [if_neg c10] at H
  have c10b0 := beq_eq_false_iff_ne.mpr c10
  have c10b1 := bne_iff_ne.mpr c10
  (first | rw [c10b0] | (simp only [i64_w, i32_w]; rw [c10b0]) | skip)
  have H' := AM H
  clear H
  go_wp2
  go_meet
  case rel => exact ⟨_, (x5_1), (by first | rfl | (simp; done) | (simp [*]; done)), H', ⟨by have := HK1.out; first | omega | exact Nat.le_refl _⟩, ⟨ZZ BK544.out⟩, ⟨ZZ BK546.out⟩, ⟨ZB⟩⟩))
  case rest => (
  clear HC6
  try clear c1
  try clear p2
  try clear c4
  try clear c4b0
  try clear c5
  try clear c5b0
  try clear p5
  try clear q5
  try clear hx5
  try clear c7
  try clear c8
  try clear c10
  try clear c10b0
  try clear c10b1
  try clear c11
  try clear c11b0
  try clear c12
  try clear c12b0
  try clear c14
  try clear hcz15
  try clear hcz16
  try clear hcz9
  try clear hfz15
  try clear hfz16
  try clear hfz9
  try clear hx545_0
  try clear hx545_1
  try clear hx545_2
  try clear hx545_3
  try clear hx545_4
  try clear hx545_5
  try clear hx545_6
  try clear hx545_7
  try clear hx547_0
  try clear hx547_1
  try clear p2
  try clear p545
  try clear p547
  try clear q545
  try clear q547
  obtain ⟨kq, x5_5, rfl, HA, HJ5, BK544, BK546, HB⟩ := hcut
  cases kq with
  | zero => exact absurd HA.out (by simp [spec_l11Sets.j1])
  | succ kj5 =>
   have H := HA.out
   clear HA
   simp only [spec_l11Sets.j1] at H
   obtain ⟨t549, A17, H⟩ := ZOB H; try dsimp only at H
   obtain ⟨t550, A18, H⟩ := ZOB H; try dsimp only at H
   obtain ⟨t551, A19, H⟩ := ZOB H; try dsimp only at H
   obtain ⟨t552, A20, H⟩ := ZOB H; try dsimp only at H
   have H' := AM H
   clear H
   try go_wp2
   replace BK544 := AM (blk_drew BK544.out)
   replace BK546 := AM (blk_drew BK546.out)
   replace HB := AM (below_drew1 HB.out)
   refine start_ (n := 12) (S := fun w' => w'.cell? ⟨gb544, 0, none⟩ = some (.slice A0_0 l0_0.length c0_0) ∧ w'.cell? ⟨gb544, 1, none⟩ = some (.slice A0_1 l0_1.length c0_1) ∧ w'.cell? ⟨gb546, 0, none⟩ = some (.int .i64 ((rd_T50 l1 x6_1).f0)) ∧ w'.cell? ⟨gb546, 1, none⟩ = some (.int .i64 ((rd_T50 l1 x6_1).f1)) ∧ w'.cell? ⟨gb546, 2, none⟩ = some (.int .i64 ((rd_T50 l1 x6_1).f2.f0)) ∧ w'.cell? ⟨gb546, 3, none⟩ = some (.int .i64 ((rd_T50 l1 x6_1).f2.f1)) ∧ w'.cell? ⟨gb546, 4, none⟩ = some (.int .i64 ((rd_T50 l1 x6_1).f2.f2)) ∧ w'.cell? ⟨gb546, 5, none⟩ = some (.int .i64 ((rd_T50 l1 x6_1).f3)) ∧ w'.cell? ⟨gb546, 6, none⟩ = some (.slice A545_6 ((rd_T50 l1 x6_1).f4).length c545_6) ∧ w'.cell? ⟨gb546, 7, none⟩ = some (.slice A545_7 ((rd_T50 l1 x6_1).f5).length c545_7)) (ds := []) #[F,F,F,F,F,F,F,F,F,F,F,F] (by kernel_rfl) rfl rfl ⟨ZA BK544 0, ZA BK544 1, ZA BK546 0, ZA BK546 1, ZA BK546 2, ZA BK546 3, ZA BK546 4, ZA BK546 5, ZA BK546 6, ZA BK546 7⟩ (fun hHeld => ?_); refine with_tabW spec_l11Sets.tab8 spec_l11Sets.bits8 (fun HT_ HW_ => ?_)
   generalize wc.drew = w21 at BK544 BK546 HB hHeld ⊢
   refine ZU 0 30 #[T,F,F,F,F,F,F,F,F,F,F,F] ?_
   refine ZU 2 32 #[T,F,T,F,F,F,F,F,F,F,F,F] ?_
   refine ZU 6 36 #[T,F,T,F,F,F,T,F,F,F,F,F] ?_
   refine ZTK 1 31 #[T,T,T,F,F,F,T,F,F,F,F,F] hHeld ?_
   refine ZTK 3 33 #[T,T,T,T,F,F,T,F,F,F,F,F] hHeld ?_
   refine ZTK 5 35 #[T,T,T,T,F,T,T,F,F,F,F,F] hHeld ?_
   refine ZTK 7 37 #[T,T,T,T,F,T,T,T,F,F,F,F] hHeld ?_
   refine one_ (i := 4) (N := some 34) #[T,T,T,T,T,T,T,T,F,F,F,F] rfl rfl (one_of HT_.out (by kernel_rfl)) (by decide) (fun K hK => ?_)
   refine ZGO Try.func51 #[.agg #[.slice A0_0 l0_0.length c0_0, .slice A0_1 l0_1.length c0_1], .slice A545_6 ((rd_T50 l1 x6_1).f4).length c545_6] ?_
   with_reducible refine (ih kj5 (by have := HK1.out; have := HJ5.out; omega) _ _ l0_0 _ _ l0_1 _ _ ((rd_T50 l1 x6_1).f4) t549 _ ?side1 ?side2 ?side3 ?side4 ?side5 ?side6 A17.out).mono ?_
   (case side1 => exact ZQ (Kd.C_below HR0_0.out HB.out))
   (case side2 => exact HC0_0.out)
   (case side3 => exact ZQ (Kd.C_below HR0_1.out HB.out))
   (case side4 => exact HC0_1.out)
   (case side5 => exact ZQ (Kd.C_below HR545_6.out HB.out))
   (case side6 => exact HC545_6.out)
   rintro e w22 ⟨rfl, hb⟩
   refine ⟨_, rfl, ?_⟩
   replace BK544 := ZW BK544 hb
   replace BK546 := ZW BK546 hb
   replace HB := ZT HB hb
   (try clear hb)
   (try clear hb2)
   (try clear hk)
   (try clear hi)
   refine hK.out _ _ ⟨ZA BK544 0, ZA BK544 1, ZA BK546 0, ZA BK546 1, ZA BK546 2, ZA BK546 3, ZA BK546 4, ZA BK546 5, ZA BK546 6, ZA BK546 7⟩ (fun hHeld => ?_)
   clear hK K
   refine ZNO 34 ?_
   refine one_ (i := 8) (N := some 38) #[T,T,T,T,T,T,T,T,T,F,F,F] rfl rfl (one_of HT_.out (by kernel_rfl)) (by decide) (fun K hK => ?_)
   refine ZGO Try.func51 #[.agg #[.slice A0_0 l0_0.length c0_0, .slice A0_1 l0_1.length c0_1], .slice A545_7 ((rd_T50 l1 x6_1).f5).length c545_7] ?_
   with_reducible refine (ih kj5 (by have := HK1.out; have := HJ5.out; omega) _ _ l0_0 _ _ l0_1 _ _ ((rd_T50 l1 x6_1).f5) t550 _ ?side1 ?side2 ?side3 ?side4 ?side5 ?side6 A18.out).mono ?_
   (case side1 => exact ZQ (Kd.C_below HR0_0.out HB.out))
   (case side2 => exact HC0_0.out)
   (case side3 => exact ZQ (Kd.C_below HR0_1.out HB.out))
   (case side4 => exact HC0_1.out)
   (case side5 => exact ZQ (Kd.C_below HR545_7.out HB.out))
   (case side6 => exact HC545_7.out)
   rintro e w23 ⟨rfl, hb⟩
   refine ⟨_, rfl, ?_⟩
   replace BK544 := ZW BK544 hb
   replace BK546 := ZW BK546 hb
   replace HB := ZT HB hb
   (try clear hb)
   (try clear hb2)
   (try clear hk)
   (try clear hi)
   refine hK.out _ _ ⟨ZA BK544 0, ZA BK544 1, ZA BK546 0, ZA BK546 1, ZA BK546 2, ZA BK546 3, ZA BK546 4, ZA BK546 5, ZA BK546 6, ZA BK546 7⟩ (fun hHeld => ?_)
   clear hK K
   refine ZNO 38 ?_
   refine one_ (i := 9) (N := some 39) #[T,T,T,T,T,T,T,T,T,T,F,F] rfl rfl (one_of HT_.out (by kernel_rfl)) (by decide) (fun K hK => ?_)
   refine ZGO Try.func76 #[.int .i64 t549, .int .i64 t550] ?_
   with_reducible refine (spec_l1Either.calls kj5 t549 t550 t551 _ A19.out).mono ?_
   rintro e w' ⟨rfl, ⟨nd, rfl⟩⟩
   refine ⟨_, rfl, ?_⟩
   refine hK.out _ _ ⟨ZA BK544 0, ZA BK544 1, ZA BK546 0, ZA BK546 1, ZA BK546 2, ZA BK546 3, ZA BK546 4, ZA BK546 5, ZA BK546 6, ZA BK546 7⟩ (fun hHeld => ?_)
   clear hK K
   refine ZNO 39 ?_
   refine one_ (i := 10) (N := some 40) #[T,T,T,T,T,T,T,T,T,T,T,F] rfl rfl (one_of HT_.out (by kernel_rfl)) (by decide) (fun K hK => ?_)
   refine ZGO Try.func76 #[.int .i64 x5_5, .int .i64 t551] ?_
   with_reducible refine (spec_l1Either.calls kj5 x5_5 t551 t552 _ A20.out).mono ?_
   rintro e w' ⟨rfl, ⟨nd, rfl⟩⟩
   refine ⟨_, rfl, ?_⟩
   refine hK.out _ _ ⟨ZA BK544 0, ZA BK544 1, ZA BK546 0, ZA BK546 1, ZA BK546 2, ZA BK546 3, ZA BK546 4, ZA BK546 5, ZA BK546 6, ZA BK546 7⟩ (fun hHeld => ?_)
   clear hK K
   refine ZNO 40 ?_
   refine ZU 11 5 #[T,T,T,T,T,T,T,T,T,T,T,T] ?_
   refine done_ (done_of HT_.out (by kernel_rfl)) ?_
   try go_wp2
   go_roundg kj5
   case measure => have := HK1.out; have := HJ5.out; omega
   case rel => exact ⟨(t552), (wrap64 (x6_1 + 1)), (by first | rfl | (simp; done) | (simp [*]; done)), (by first | rfl | (simp; done) | (simp [*]; done)), H', ⟨by have := HK1.out; have := HJ5.out; omega⟩, ⟨ZK BK544.out⟩, ⟨ZB⟩⟩))
  ·(
  rw [if_neg c5] at H
  exact absurd H (by simp)))
  ·(
  rw [if_neg c4] at H
  have c4b0 := decide_eq_false c4
  clear c4
  obtain rfl := Option.some.inj H
  go_wp2
  go_ret
  exact ⟨ZE, ZB⟩))

/-! ### spec_TypeSets: function 24 -/
def spec_TypeSets.l0 : Nat → List Int → List (S50) → Int → List (S60) → List (S50) → Option (List Int)
 | 0, _, _, _, _, _ => none
 | k + 1, x3, x4, x5, x554000, x554001 => if x5 < (x4.length : Int) then (if 0 ≤ x5 then (if x5 ≤ (wrap64 (x5 + 1)) then (if (wrap64 (x5 + 1)) ≤ (x4.length : Int) then ((spec_l11Sets.f k x554000 x554001 ((x4.take ((wrap64 (x5 + 1)) : Int).toNat).drop (x5 : Int).toNat)).bind fun t566 => (if x3.length < 17592186044416 then (spec_TypeSets.l0 k (x3 ++ [t566]) x4 (wrap64 (x5 + 1)) x554000 x554001) else (none))) else (none)) else (none)) else (none)) else (some x3)
def spec_TypeSets.f (k : Nat) (l0_0 : List (S60)) (l0_1 : List (S50)) : Option (List Int) := (some (([] : List Int) : List Int)).bind fun y554 => ((spec_ProgOk.f k l0_0 l0_1).bind fun t557 => (if t557 = true then ((spec_l2All.f k l0_1).bind fun t558 => (spec_TypeSets.l0 k y554 t558 0 l0_0 l0_1)) else (some y554)))
def spec_TypeSets.T8 : Bool × List (List Nat × List Nat) := (true, [([], []), ([], []), ([], []), ([], []), ([], []), ([4], [4]), ([2, 3, 5], [2, 3, 5]), ([1, 6], [1, 6]), ([7], [7]), ([0, 8, 7], [0, 8]), ([9, 9, 0, 1, 2, 3, 4, 5, 6, 7, 8, 9], [0, 9])])
def spec_TypeSets.B8 : List Nat := [0, 0, 0, 0, 0, 16, 60, 126, 254, 511, 1023]
theorem spec_TypeSets.tab8 : rtab .any (opsOf Try.f24 8) = spec_TypeSets.T8 := by kernel_rfl
theorem spec_TypeSets.bits8 : waitsOk spec_TypeSets.T8.2 spec_TypeSets.B8 = true := by kernel_rfl
theorem spec_TypeSets.calls (k : Nat) (A0_0 : Option Addr) (c0_0 : Nat) (l0_0 : List (S60)) (A0_1 : Option Addr) (c0_1 : Nat) (l0_1 : List (S50)) (r : List Int) (w : World) (hr0_0 : Kd.C k60 w A0_0 l0_0.length l0_0) (hc0_0 : l0_0.length ≤ c0_0) (hr0_1 : Kd.C k50 w A0_1 l0_1.length l0_1) (hc0_1 : l0_1.length ≤ c0_1) (h : spec_TypeSets.f k l0_0 l0_1 = some r) :
  Calls Try.prog 24 #[.agg #[.slice A0_0 l0_0.length c0_0, .slice A0_1 l0_1.length c0_1]] w fun e w' => ∃ v0_ : Value, e = .returned (v0_) ∧ Kd.R (Kd.int .i64) 3 w' w.heap.size (fun _ => True) v0_ r ∧ Below w.heap.size w w' := by
 have hu32 := Try.underlying32
 have HR0_0 := AM hr0_0
 have HC0_0 := AM hc0_0
 clear hr0_0 hc0_0
 have HR0_1 := AM hr0_1
 have HC0_1 := AM hc0_1
 clear hr0_1 hc0_1
 have HB := AM (Below.refl w.heap.size w)
 have H := h
 unfold spec_TypeSets.f at H
 clear h
 obtain ⟨y554, hy554⟩ : ∃ y_ : List Int, y_ = (([] : List Int)) := ⟨_, rfl⟩
 replace H : ((spec_ProgOk.f k l0_0 l0_1).bind fun t557 => (if t557 = true then ((spec_l2All.f k l0_1).bind fun t558 => (spec_TypeSets.l0 k y554 t558 0 l0_0 l0_1)) else (some y554))) = some r := by first | (rw [hy554]; with_reducible exact H) | (have H2_ := (Option.bind_some _ _).symm.trans H; rw [hy554]; with_reducible exact H2_) | (have H2_ := (Option.bind_some _ _).symm.trans H; with_reducible exact H2_) | with_reducible exact H | (rw [hy554]; exact H) | exact H
 have Ny554 := AM hy554
 clear hy554
 obtain ⟨t557, A2, H⟩ := ZOB H; try dsimp only at H
 by_cases c3 : t557 = true
 ·(
 subst c3
 have H1 := H; rw [if_pos rfl] at H1
 clear H
 have H := H1
 clear H1
 obtain ⟨t558, A4, H⟩ := ZOB H; try dsimp only at H
 have H' := AM H
 clear H
 go_enter Try.func24, Try.ntmps24
 go_wp2_with (first | ((with_reducible refine gate_dst (N := 1) rfl ?_); refine ZX (N := 1) (cs := #[.slice A0_0 l0_0.length c0_0, .slice A0_1 l0_1.length c0_1]) (t := 32) ?_; intro gb553 hg w5 hbox hb; have BK553 := AM (hbox); have GW553 : Aside0 (w.heap.size ≤ gb553) := ZS hg; have GE553 : Aside0 (w.heap.size ≤ gb553) := ZS hg; replace HB := ZT HB hb; clear hb hbox hg) | ((with_reducible refine gate_dst (N := 6) rfl ?_); refine Kd.R_lit (Kd.int .i64) _ 3 ?hg (N := 6) ?hd (xs := ([] : List Int)) (inner := []) (ok := fun _ => True) (okp := fun _ => True) ?hr ?hp (fun _ hk => hk) trivial (Below.refl _ _) (Nat.le_refl _) (by simp) ?_; (case hd => rfl); (case hg => rfl); (case hr => first | (go_simp; done) | (go_simp; rfl)); (case hp => exact (Reps.none _ _)); intro v555 w6 ho7 hb hg_ hnew_; clear hg_ hnew_; (first | rw [← Ny554.out] at ho7 | (simp only [Int.reduceToNat] at ho7; rw [← Ny554.out] at ho7)); have HO556 := AM (Kd.R_lower ho7 (below_size (ZB))); replace BK553 := ZW BK553 hb; replace HB := ZT HB hb; clear hb ho7; have hcz8 := ZC2 w6 BK553; have hfz8 := ZF2 BK553) | ((with_reducible refine gate_callee (f := 36) rfl ?_); refine ZGL (some 8) Try.func36 #[.agg #[.slice A0_0 l0_0.length c0_0, .slice A0_1 l0_1.length c0_1]] ?_; (with_reducible refine (spec_ProgOk.calls k _ _ l0_0 _ _ l0_1 true _ ?side1 ?side2 ?side3 ?side4 A2.out).mono ?_); (case side1 => exact ZQ (Kd.C_below HR0_0.out HB.out)); (case side2 => exact HC0_0.out); (case side3 => exact ZQ (Kd.C_below HR0_1.out HB.out)); (case side4 => exact HC0_1.out); rintro e w9 ⟨rfl, hb⟩; refine ⟨_, rfl, ?_⟩; replace HO556 := AM (Kd.R_below (ZR HO556.out) hb); replace BK553 := ZW BK553 hb; replace HB := ZT HB hb; clear hb; have hcz10 := ZC2 w9 BK553; have hfz10 := ZF2 BK553) | ((with_reducible refine gate_callee (f := 50) rfl ?_); refine ZGL (some 13) Try.func50 #[.slice A0_1 l0_1.length c0_1] ?_; (with_reducible refine (spec_l2All.calls k (fun k_ => k_ < w.heap.size) _ _ l0_1 t558 _ ?side1 A4.out).mono ?_); (case side1 => exact Kd.V_mk HC0_1.out (Kd.F_below (Kd.C_F k50_heap HR0_1.out) (ZB))); rintro e w11 ⟨v559, rfl, ho0, hb⟩; refine ⟨_, rfl, ?_⟩; have HO560 := AM (Kd.N_lower (Kd.N_mono (ok' := fun k_ => some k_ ≠ (v555 : Value).ownBlock ∧ k_ ≠ gb553) ho0 (fun k_ hk_ => ⟨Or.elim hk_ (fun hs_ => fun e_ => Nat.not_le.2 hs_ (Kd.R_base HO556.out k_ e_.symm)) (fun hn_ => (Kd.fresh' (Kd.R_lt (ZR HO556.out)) k_ hn_)), Or.elim hk_ (fun hs_ => fun e_ => Nat.not_le.2 hs_ (by rw [e_]; exact GW553.out)) (fun hn_ => (Kd.freshB (g := gb553) (o := .cells #[.slice A0_0 l0_0.length c0_0, .slice A0_1 l0_1.length c0_1] 32 (0, 0)) (ZK BK553.out) k_ hn_))⟩)) (below_size (ZB))); replace HO556 := AM (Kd.R_below (ZR HO556.out) hb); replace BK553 := ZW BK553 hb; replace HB := ZT HB hb; clear hb; (try clear ho0)))
 go_loopg [3, 5] k (fun kq v3 v5 w' => ∃ (x3_1 : List Int) (x5_1 : Int), v5 = .int .i64 x5_1 ∧ Aside0 (spec_TypeSets.l0 kq x3_1 t558 x5_1 l0_0 l0_1 = some r) ∧ Aside0 (kq ≤ k) ∧ Aside0 (Kd.R (Kd.int .i64) 3 w' w.heap.size (fun _ => True) v3 x3_1) ∧ Aside0 (Kd.N k50 50 w' w.heap.size (fun k_ => some k_ ≠ (v3 : Value).ownBlock ∧ k_ ≠ gb553) v559 t558) ∧ Aside0 (w'.heap[gb553]? = some (.cells #[(.slice A0_0 l0_0.length c0_0), (.slice A0_1 l0_1.length c0_1)] 32 (0, 0))) ∧ Aside0 (Below w.heap.size w w'))
 case atStart => exact ⟨(y554), (0), (by first | rfl | (simp; done) | (simp [*]; done)), H', ⟨Nat.le_refl _⟩, ⟨ZR HO556.out⟩, ⟨ZRN HO560.out⟩, ⟨ZK BK553.out⟩, ⟨ZB⟩⟩
 case round => (
 clear H'
 try clear c2
 try clear p2
 try clear c3
 try clear c5
 try clear hcz10
 try clear hcz8
 try clear hfz10
 try clear hfz8
 obtain ⟨x3_1, x5_1, rfl, HA, HK1, HO_3, HO_4, BK553, HB⟩ := hrel
 cases gk with
 | zero => exact absurd HA.out (by simp [spec_TypeSets.l0])
 | succ k1 =>
  have H := HA.out
  clear HA
  simp only [spec_TypeSets.l0] at H
  by_cases c12 : x5_1 < (t558.length : Int)
  ·(
  rw [if_pos c12] at H
  have c12b0 := decide_eq_true c12
  clear c12
  by_cases c13 : 0 ≤ x5_1
  ·(
  rw [if_pos c13] at H
  have c13b0 := eq_true c13
  have c13b1 := decide_eq_true c13
  clear c13
  by_cases c14 : x5_1 ≤ (wrap64 (x5_1 + 1))
  ·(
  rw [if_pos c14] at H
  have c14b0 := eq_true c14
  have c14b1 := decide_eq_true c14
  by_cases c15 : (wrap64 (x5_1 + 1)) ≤ (t558.length : Int)
  ·(
  rw [if_pos c15] at H
  have c15b0 := eq_true c15
  have c15b1 := decide_eq_true c15
  obtain ⟨y561, hy561⟩ : ∃ y_ : List (S50), y_ = ((t558.take ((wrap64 (x5_1 + 1)) : Int).toNat).drop (x5_1 : Int).toNat) := ⟨_, rfl⟩
  replace H : ((spec_l11Sets.f k1 l0_0 l0_1 y561).bind fun t566 => (if x3_1.length < 17592186044416 then (spec_TypeSets.l0 k1 (x3_1 ++ [t566]) t558 (wrap64 (x5_1 + 1)) l0_0 l0_1) else (none))) = some r := by first | (rw [hy561]; with_reducible exact H) | (have H2_ := (Option.bind_some _ _).symm.trans H; rw [hy561]; with_reducible exact H2_) | (have H2_ := (Option.bind_some _ _).symm.trans H; with_reducible exact H2_) | with_reducible exact H | (rw [hy561]; exact H) | exact H
  have Ny561 := AM hy561
  clear hy561
  obtain ⟨t566, A16, H⟩ := ZOB H; try dsimp only at H
  by_cases c17 : x3_1.length < 17592186044416
  ·(
  rw [if_pos c17] at H
  have LMc17 := AM c17
  clear c17
  obtain ⟨y567, hy567⟩ : ∃ y_ : List Int, y_ = (x3_1 ++ [t566]) := ⟨_, rfl⟩
  replace H : (spec_TypeSets.l0 k1 y567 t558 (wrap64 (x5_1 + 1)) l0_0 l0_1) = some r := by first | (rw [hy567]; with_reducible exact H) | (have H2_ := (Option.bind_some _ _).symm.trans H; rw [hy567]; with_reducible exact H2_) | (have H2_ := (Option.bind_some _ _).symm.trans H; with_reducible exact H2_) | with_reducible exact H | (rw [hy567]; exact H) | exact H
  have Ny567 := AM hy567
  clear hy567
  have H' := AM H
  clear H
  obtain ⟨Ao18, co18, eo18⟩ := Kd.N_slice HO_4.out
  subst eo18
  try go_wp2
  replace HO_3 := AM (Kd.R_drew HO_3.out)
  replace HO_4 := AM (Kd.N_drew HO_4.out)
  replace BK553 := AM (blk_drew BK553.out)
  replace HB := AM (below_drew1 HB.out)
  have q20 : ((wrap64 (x5_1 + 1)) : Int) ≤ ((t558.length : Int) : Int) := ZD
  obtain ⟨i020, hi020, _, hsz20, _⟩ := info_parts info50
  have hroom20 : t558.length ≤ co18 := (Kd.N_reads' HO_4.out).2.1
  have hC20 : Kd.F k50 _ _ Ao18 t558.length t558 := (Kd.V_at (base := w.heap.size) (Kd.N_V HO_4.out)).2.2
  have ql20 : (x5_1 : Int) ≤ ((wrap64 (x5_1 + 1)) : Int) := ZD
  have q020 : (0 : Int) ≤ (x5_1 : Int) := ZD
  have hcut20 := cut_mid (P := Try.prog) 30 50 .i64 .i64 Try.underlying30 hi020 8 hsz20 Ao18 t558.length co18 x5_1 (wrap64 (x5_1 + 1)) q020 ql20 q20 hroom20
  have hr20 := Kd.F_mid (lo := (x5_1 : Int).toNat) (hi := ((wrap64 (x5_1 + 1)) : Int).toNat) (c := co18) hC20 (by omega) (by omega) hroom20
  obtain ⟨A20, hA20⟩ : ∃ A1, A1 = (if co18 = (x5_1 : Int).toNat then Ao18 else (Ao18 : Option Addr).map (·.add ((x5_1 : Int).toNat * 8))) := ⟨_, rfl⟩
  obtain ⟨c20, hc20⟩ : ∃ c1, c1 = co18 - (x5_1 : Int).toNat := ⟨_, rfl⟩
  have hy20 : y561.length = ((wrap64 (x5_1 + 1)) : Int).toNat - (x5_1 : Int).toNat := (by rw [Ny561.out, List.length_drop, List.length_take] <;> omega)
  rw [show ((t558).take ((wrap64 (x5_1 + 1)) : Int).toNat).drop (x5_1 : Int).toNat = y561 from Ny561.out.symm] at hr20
  replace hr20 : Kd.F k50 _ _ A20 y561.length y561 := (by rw [hA20]; exact hr20)
  rw [← hy20, ← hA20, ← hc20] at hcut20
  have HO565 := AM (show Kd.V k50 50 _ w.heap.size _ (.slice A20 y561.length c20) y561 from Kd.V_mk (by rw [hy20, hc20]; exact Nat.sub_le_sub_right (Nat.le_trans (by omega) hroom20) _) hr20)
  have HC565 := AM (show y561.length ≤ c20 from by rw [hy20, hc20]; exact Nat.sub_le_sub_right (Nat.le_trans (by omega) hroom20) _)
  clear hr20 hC20 hroom20 hi020 hsz20 hc20
  have KY20 := AM hy20
  have KA20 := AM hA20
  clear hy20 hA20
  replace q20 := eq_true q20
  refine start_ (n := 11) (S := fun w' => w'.cell? ⟨gb553, 0, none⟩ = some (.slice A0_0 l0_0.length c0_0) ∧ w'.cell? ⟨gb553, 1, none⟩ = some (.slice A0_1 l0_1.length c0_1)) (ds := []) #[F,F,F,F,F,F,F,F,F,F,F] (by kernel_rfl) rfl rfl ⟨ZA BK553 0, ZA BK553 1⟩ (fun hHeld => ?_); refine with_tabW spec_TypeSets.tab8 spec_TypeSets.bits8 (fun HT_ HW_ => ?_)
  generalize wr.drew = w19 at HO_3 HO_4 BK553 HB HO565 hHeld ⊢
  refine ZU 0 20 #[T,F,F,F,F,F,F,F,F,F,F] ?_
  refine ZU 2 22 #[T,F,T,F,F,F,F,F,F,F,F] ?_
  refine ZU 3 23 #[T,F,T,T,F,F,F,F,F,F,F] ?_
  refine ZU 4 24 #[T,F,T,T,T,F,F,F,F,F,F] ?_
  refine ZU 5 25 #[T,F,T,T,T,T,F,F,F,F,F] ?_
  refine ZU 6 26 #[T,F,T,T,T,T,T,F,F,F,F] ?_
  refine ZTK 1 21 #[T,T,T,T,T,T,T,F,F,F,F] hHeld ?_
  refine one_ (i := 7) (N := some 27) #[T,T,T,T,T,T,T,T,F,F,F] rfl rfl (one_of HT_.out (by kernel_rfl)) (by decide) (fun K hK => ?_)
  refine ZGO Try.func51 #[.agg #[.slice A0_0 l0_0.length c0_0, .slice A0_1 l0_1.length c0_1], .slice A20 y561.length c20] ?_
  with_reducible refine (spec_l11Sets.calls k1 _ _ l0_0 _ _ l0_1 _ _ y561 t566 _ ?side1 ?side2 ?side3 ?side4 ?side5 ?side6 A16.out).mono ?_
  (case side1 => exact ZQ (Kd.C_below HR0_0.out HB.out))
  (case side2 => exact HC0_0.out)
  (case side3 => exact ZQ (Kd.C_below HR0_1.out HB.out))
  (case side4 => exact HC0_1.out)
  (case side5 => exact ZQ ((Kd.V_reads' HO565.out).2.2))
  (case side6 => exact (Kd.V_reads' HO565.out).2.1)
  rintro e w21 ⟨rfl, hb⟩
  refine ⟨_, rfl, ?_⟩
  replace HO_3 := AM (Kd.R_below (ZR HO_3.out) hb)
  replace HO_4 := AM (Kd.N_below (ZRN HO_4.out) hb)
  replace HO565 := AM (Kd.V_below (ZRV HO565.out) hb)
  replace BK553 := ZW BK553 hb
  replace HB := ZT HB hb
  (try clear hb)
  (try clear hb2)
  (try clear hk)
  (try clear hi)
  refine hK.out _ _ ⟨ZA BK553 0, ZA BK553 1⟩ (fun hHeld => ?_)
  clear hK K
  refine ZNO 27 ?_
  refine one_ (i := 8) (N := some 28) #[T,T,T,T,T,T,T,T,T,F,F] rfl rfl (one_of HT_.out (by kernel_rfl)) (by decide) (fun K hK => ?_)
  refine value_ (w1 := ?_) (v := ?_) (by rfl) rfl ?_ ?_
  rotate_left 2
  ·(
  go_simp
  constructor
  ·rfl
  ·rfl)
  refine hK.out _ _ ⟨(blk_cell (blk_alloc BK553.out _) 0).trans rfl, (blk_cell (blk_alloc BK553.out _) 1).trans rfl⟩ (fun hHeld => ?_)
  clear hK K
  refine ZNO 28 ?_
  refine one_ (i := 9) (N := some 29) #[T,T,T,T,T,T,T,T,T,T,F] rfl rfl (one_of HT_.out (by kernel_rfl)) (by decide) (fun K hK => ?_)
  refine Kd.R_append_step (Kd.int .i64) (w0 := w) w.heap.size (by rfl) (.tmp 20) (.tmp 28) 43 3 (.int .i64 0) 8 rfl Try.underlying43 info3 rfl (by decide) (by omega) u3 x3_1 t566 [.int .i64 t566] (fun _ => True) (fun _ => False) rfl rfl ?aP (fun _ hk => hk.elim) ?aF ?aO ?aB ?aS ?aL ?_
  (case aP => exact rfl)
  (case aB => exact (ZB))
  (case aF => exact (fun _ _ => trivial))
  (case aO => exact (ZR HO_3.out))
  (case aS => exact (below_size (ZB)))
  (case aL => have := LMc17.out; omega)
  intro v568 w22 ho hb hg hat
  rw [← Ny567.out] at ho
  have n0_ := AM (Kd.N_afterv (ok := (fun k_ => k_ ≠ gb553)) (by (with_reducible repeat (first | apply Kd.N_alloc | apply Kd.N_drewN | apply Kd.N_drew)); exact Kd.N_mono HO_4.out (fun _ hk => ⟨hk.2, hk.1⟩)) hg hat)
  have n1_ := AM (blk_grown (g := gb553) (o := .cells #[.slice A0_0 l0_0.length c0_0, .slice A0_1 l0_1.length c0_1] 32 (0, 0)) (ZK BK553.out) hg (Kd.R_ne HO_3.out BK553.out (by decide)))
  have n2_ := AM (Kd.V_afterv (ok := (fun k_ => k_ ≠ gb553)) (by (with_reducible repeat (first | apply Kd.V_alloc | apply Kd.V_drewN | apply Kd.V_drew)); exact Kd.V_mono HO565.out (fun _ hk => ⟨hk.2, hk.1⟩)) hg hat)
  have n3_ := AM (hb)
  have n4_ := AM (ho)
  clear HO_4 BK553 HO565 HB HO_3
  have HO_4 := n0_
  have BK553 := n1_
  have HO565 := n2_
  have HB := n3_
  have HO569 := n4_
  clear n0_ n1_ n2_ n3_ n4_ ho hb hg hat
  refine hK.out _ _ ⟨ZA BK553 0, ZA BK553 1⟩ (fun hHeld => ?_)
  clear hK K
  refine ZNO 29 ?_
  refine ZU 10 3 #[T,T,T,T,T,T,T,T,T,T,T] ?_
  refine done_ (done_of HT_.out (by kernel_rfl)) ?_
  try go_wp2
  go_roundg k1
  case measure => have := HK1.out; omega
  case rel => exact ⟨(y567), (wrap64 (x5_1 + 1)), (by first | rfl | (simp; done) | (simp [*]; done)), H', ⟨by have := HK1.out; omega⟩, ⟨ZR HO569.out⟩, ⟨by (with_reducible repeat (first | apply Kd.N_alloc | apply Kd.N_drewN | apply Kd.N_drew)); exact Kd.N_mono HO_4.out (fun _ hk => ⟨hk.2, hk.1⟩)⟩, ⟨ZK BK553.out⟩, ⟨ZB⟩⟩)
  ·(
  rw [if_neg c17] at H
  exact absurd H (by simp)))
  ·(
  rw [if_neg c15] at H
  exact absurd H (by simp)))
  ·(
  rw [if_neg c14] at H
  exact absurd H (by simp)))
  ·(
  rw [if_neg c13] at H
  exact absurd H (by simp)))
  ·(
  rw [if_neg c12] at H
  have c12b0 := decide_eq_false c12
  clear c12
  obtain rfl := Option.some.inj H
  obtain ⟨Ao23, co23, eo23⟩ := Kd.N_slice HO_4.out
  subst eo23
  go_wp2
  go_ret
  exact ⟨_, ZE, by (with_reducible repeat (first | apply Kd.R_alloc | apply Kd.R_drewN | apply Kd.R_drew)); exact HO_3.out, ZB⟩)))
 ·(
 replace c3 := Bool.eq_false_iff.mpr c3
 subst c3
 have H1 := H; rw [if_neg ZFT] at H1
 clear H
 have H := H1
 clear H1
 obtain rfl := Option.some.inj H
 go_enter Try.func24, Try.ntmps24
 go_wp2_with (first | ((with_reducible refine gate_dst (N := 1) rfl ?_); refine ZX (N := 1) (cs := #[.slice A0_0 l0_0.length c0_0, .slice A0_1 l0_1.length c0_1]) (t := 32) ?_; intro gb553 hg w24 hbox hb; have BK553 := AM (hbox); have GW553 : Aside0 (w.heap.size ≤ gb553) := ZS hg; have GE553 : Aside0 (w.heap.size ≤ gb553) := ZS hg; replace HB := ZT HB hb; clear hb hbox hg) | ((with_reducible refine gate_dst (N := 6) rfl ?_); refine Kd.R_lit (Kd.int .i64) _ 3 ?hg (N := 6) ?hd (xs := ([] : List Int)) (inner := []) (ok := fun _ => True) (okp := fun _ => True) ?hr ?hp (fun _ hk => hk) trivial (Below.refl _ _) (Nat.le_refl _) (by simp) ?_; (case hd => rfl); (case hg => rfl); (case hr => first | (go_simp; done) | (go_simp; rfl)); (case hp => exact (Reps.none _ _)); intro v555 w25 ho26 hb hg_ hnew_; clear hg_ hnew_; (first | rw [← Ny554.out] at ho26 | (simp only [Int.reduceToNat] at ho26; rw [← Ny554.out] at ho26)); have HO556 := AM (Kd.R_lower ho26 (below_size (ZB))); replace BK553 := ZW BK553 hb; replace HB := ZT HB hb; clear hb ho26; have hcz27 := ZC2 w25 BK553; have hfz27 := ZF2 BK553) | ((with_reducible refine gate_callee (f := 36) rfl ?_); refine ZGL (some 8) Try.func36 #[.agg #[.slice A0_0 l0_0.length c0_0, .slice A0_1 l0_1.length c0_1]] ?_; (with_reducible refine (spec_ProgOk.calls k _ _ l0_0 _ _ l0_1 false _ ?side1 ?side2 ?side3 ?side4 A2.out).mono ?_); (case side1 => exact ZQ (Kd.C_below HR0_0.out HB.out)); (case side2 => exact HC0_0.out); (case side3 => exact ZQ (Kd.C_below HR0_1.out HB.out)); (case side4 => exact HC0_1.out); rintro e w28 ⟨rfl, hb⟩; refine ⟨_, rfl, ?_⟩; replace HO556 := AM (Kd.R_below (ZR HO556.out) hb); replace BK553 := ZW BK553 hb; replace HB := ZT HB hb; clear hb))
 go_ret
 exact ⟨_, ZE, by (with_reducible repeat (first | apply Kd.R_alloc | apply Kd.R_drewN | apply Kd.R_drew)); exact HO556.out, ZB⟩)

end Go.Proofs.Ytaflodibibbakaa.A
