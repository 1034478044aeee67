/- By wip/tools/pr.py: Go functions as Lean functions, with contracts. -/
import Derived.Test.YtkkdeojbkfjlpaaAx0
import Derived.Test.YtkkdeojbkfjlpaaAx4
import Derived.Test.YtkkdeojbkfjlpaaAx9
import Derived.Test.YtkkdeojbkfjlpaaAx24
namespace Go.Proofs.Ytkkdeojbkfjlpaa.A
open Go.RowKit Go.Proofs.YtkkdeojbkfjlpaaW.PrintWords Go.Proofs.YtkkdeojbkfjlpaaW.PrintLast Go.Proofs.YtkkdeojbkfjlpaaW.PrintMore
attribute [local go_sem] max2_int min2_int max_two min_two max_three min_three max_four min_four
set_option linter.unusedVariables false
set_option linter.unusedSimpArgs false
set_option maxHeartbeats 8000000
set_option maxRecDepth 100000

/-! ### spec_l11Sets: function 29 -/
mutual
def spec_l11Sets.l0 : Nat → List (S40) → Int → Int → List (S35) → List (S40) → Option (Int)
 | 0, _, _, _, _, _ => none
 | k + 1, x1, x5, x6, x596000, x596001 => if x6 < (x1.length : Int) then (if 0 ≤ x6 then (if ((D40 x1 x6).f0) = 1 then (if 0 ≤ ((D40 x1 x6).f1) then (if ((D40 x1 x6).f1) < (x596000.length : Int) then ((spec_l1Either.f k x5 ((D35 x596000 ((D40 x1 x6).f1)).f1)).bind fun t599 => (spec_l11Sets.j1 k x1 t599 x6 x596000 x596001 ((D40 x1 x6).f0) ((D40 x1 x6).f1) ((D40 x1 x6).f2.f0) ((D40 x1 x6).f2.f1) ((D40 x1 x6).f2.f2) ((D40 x1 x6).f3) ((D40 x1 x6).f4) ((D40 x1 x6).f5))) else (none)) else (none)) else (spec_l11Sets.j1 k x1 x5 x6 x596000 x596001 ((D40 x1 x6).f0) ((D40 x1 x6).f1) ((D40 x1 x6).f2.f0) ((D40 x1 x6).f2.f1) ((D40 x1 x6).f2.f2) ((D40 x1 x6).f3) ((D40 x1 x6).f4) ((D40 x1 x6).f5))) else (none)) else (some x5)
def spec_l11Sets.j1 : Nat → List (S40) → Int → Int → List (S35) → List (S40) → Int → Int → Int → Int → Int → Int → List (S40) → List (S40) → Option (Int)
 | 0, _, _, _, _, _, _, _, _, _, _, _, _, _ => none
 | k + 1, x1, x5, x6, x596000, x596001, x598000, x598001, x598002, x598003, x598004, x598005, x598006, x598007 => (spec_l11Sets.f k x596000 x596001 x598006).bind fun t600 => ((spec_l11Sets.f k x596000 x596001 x598007).bind fun t601 => ((spec_l1Either.f k t600 t601).bind fun t602 => ((spec_l1Either.f k x5 t602).bind fun t603 => (spec_l11Sets.l0 k x1 t603 (wrap64 (x6 + 1)) x596000 x596001))))
def spec_l11Sets.f : Nat → List (S35) → List (S40) → List (S40) → Option (Int)
 | 0, _, _, _ => none
 | k + 1, l0_0, l0_1, l1 => spec_l11Sets.l0 k l1 0 0 l0_0 l0_1
end
def spec_l11Sets.T8 : Bool × List (List Nat × List Nat) := (true, [([], []), ([], []), ([], []), ([2], [2]), ([1, 3], [1, 3]), ([], []), ([], []), ([6], [6]), ([5, 7, 4], [5, 7]), ([4, 8, 8], [4, 8]), ([0, 9, 9], [0, 9]), ([10, 10, 0, 1, 2, 3, 4, 5, 6, 7, 8, 9, 10], [0, 10])])
def spec_l11Sets.B8 : List Nat := [0, 0, 0, 4, 14, 0, 0, 64, 254, 510, 1023, 2047]
theorem spec_l11Sets.tab8 : rtab .any (opsOf Try.f29 8) = spec_l11Sets.T8 := by kernel_rfl
theorem spec_l11Sets.bits8 : waitsOk spec_l11Sets.T8.2 spec_l11Sets.B8 = true := by kernel_rfl
theorem spec_l11Sets.calls (k : Nat) : ∀ (A0_0 : Option Addr) (c0_0 : Nat) (l0_0 : List (S35)) (A0_1 : Option Addr) (c0_1 : Nat) (l0_1 : List (S40)) (A1 : Option Addr) (c1 : Nat) (l1 : List (S40)) (r : Int) (w : World) (hr0_0 : Kd.C k35 w A0_0 l0_0.length l0_0) (hc0_0 : l0_0.length ≤ c0_0) (hr0_1 : Kd.C k40 w A0_1 l0_1.length l0_1) (hc0_1 : l0_1.length ≤ c0_1) (hr1 : Kd.C k40 w A1 l1.length l1) (hc1 : l1.length ≤ c1) (h : spec_l11Sets.f k l0_0 l0_1 l1 = some r),
  Calls Try.prog 29 #[.agg #[.slice A0_0 l0_0.length c0_0, .slice A0_1 l0_1.length c0_1], .slice A1 l1.length c1] w fun e w' => e = .returned (.int .i64 r) ∧ Below w.heap.size w w' := by
 induction k using Nat.strongRecOn with
 | _ k ih =>
 intro A0_0 c0_0 l0_0 A0_1 c0_1 l0_1 A1 c1 l1 r w hr0_0 hc0_0 hr0_1 hc0_1 hr1 hc1 h
 cases k with
 | zero => exact absurd h (by simp [spec_l11Sets.f])
 | succ k =>
 simp only [spec_l11Sets.f] at h
 have hu26 := Try.underlying26
 have hu40 := Try.underlying40
 have HR0_0 := AM hr0_0
 have HC0_0 := AM hc0_0
 clear hr0_0 hc0_0
 have HR0_1 := AM hr0_1
 have HC0_1 := AM hc0_1
 clear hr0_1 hc0_1
 have HR1 := AM hr1
 have HC1 := AM hc1
 clear hr1 hc1
 have HB := AM (Below.refl w.heap.size w)
 have H : (spec_l11Sets.l0 k l1 0 0 l0_0 l0_1) = some r := h
 clear h
 have H' := AM H
 clear H
 go_enter Try.func29, Try.ntmps29
 go_wp2_with (first | ((with_reducible refine gate_dst (N := 2) rfl ?_); refine ZX (N := 2) (cs := #[.slice A0_0 l0_0.length c0_0, .slice A0_1 l0_1.length c0_1]) (t := 26) ?_; intro gb595 hg w3 hbox hb; have BK595 := AM (hbox); have GW595 : Za (w.heap.size ≤ gb595) := ZS hg; have GE595 : Za (w.heap.size ≤ gb595) := ZS hg; replace HB := ZT HB hb; clear hb hbox hg))
 go_loopg [5, 6] k (fun kq v5 v6 w' => ∃ (x5_1 : Int) (x6_1 : Int), v5 = .int .i64 x5_1 ∧ v6 = .int .i64 x6_1 ∧ Za (spec_l11Sets.l0 kq l1 x5_1 x6_1 l0_0 l0_1 = some r) ∧ Za (kq ≤ k) ∧ Za (w'.heap[gb595]? = some (.cells #[(.slice A0_0 l0_0.length c0_0), (.slice A0_1 l0_1.length c0_1)] 26 (0, 0))) ∧ Za (Below w.heap.size w w'))
 case atStart => exact ⟨(0), (0), (by first | rfl | (simp; done) | (simp [*]; done)), (by first | rfl | (simp; done) | (simp [*]; done)), H', ⟨Nat.le_refl _⟩, ⟨ZK BK595.out⟩, ⟨ZB⟩⟩
 case round => (
 clear H'
 try clear c1
 try clear c2
 try clear p2
 obtain ⟨x5_1, x6_1, rfl, rfl, HA, HK1, BK595, HB⟩ := hrel
 cases gk with
 | zero => exact absurd HA.out (by simp [spec_l11Sets.l0])
 | succ k1 =>
  have H := HA.out
  clear HA
  simp only [spec_l11Sets.l0] at H
  by_cases c4 : x6_1 < (l1.length : Int)
  ·(
  rw [if_pos c4] at H
  have c4b0 := decide_eq_true c4
  clear c4
  by_cases c5 : 0 ≤ x6_1
  ·(
  rw [if_pos c5] at H
  have c5b0 := decide_eq_true c5
  clear c5
  have HC6 := AM H
  clear H
  have p596 : 0 ≤ (x6_1 : Int) := ZD
  have q596 : x6_1 < (l1.length : Int) := ZD
  obtain ⟨ad596, A596_6, c596_6, A596_7, c596_7, e596, hx596_0, hx596_1, hx596_2, hx596_3, hx596_4, hx596_5, hx596_6, hx596_7, hl596_6, hi596_6, hl596_7, hi596_7⟩ := at_T40 HR1.out x6_1 p596 q596
  cases e596
  replace hx596_0 := ZHX HB hx596_0
  replace hx596_1 := ZHX HB hx596_1
  replace hx596_2 := ZHX HB hx596_2
  replace hx596_3 := ZHX HB hx596_3
  replace hx596_4 := ZHX HB hx596_4
  replace hx596_5 := ZHX HB hx596_5
  replace hx596_6 := ZHX HB hx596_6
  replace hx596_7 := ZHX HB hx596_7
  have HR596_6 := AM hi596_6
  have HC596_6 := AM hl596_6
  clear hi596_6 hl596_6
  have HR596_7 := AM hi596_7
  have HC596_7 := AM hl596_7
  clear hi596_7 hl596_7
  replace p596 := eq_true p596
  replace q596 := eq_true q596
  go_upto_if 20 with (first | ((with_reducible refine gate_dst (N := 7) rfl ?_); refine ZX (N := 7) (cs := #[.int .i64 0, .int .i64 0, .int .i64 0, .int .i64 0, .int .i64 0, .int .i64 0, .slice none 0 0, .slice none 0 0]) (t := 40) ?_; intro gb597 hg w7 hbox hb; have BK597 := AM (hbox); have GW597 : Za (w.heap.size ≤ gb597) := ZS hg; have GE597 : Za (w.heap.size ≤ gb597) := ZS hg; have NB595_597 : Za (gb595 ≠ gb597) := ZN hg BK595; have NB597_595 : Za (gb597 ≠ gb595) := ZM hg BK595; replace BK595 := ZW BK595 hb; replace HB := ZT HB hb; clear hb hbox hg; have hnb8 := NB597_595.out; have hnc8 := NB595_597.out; have hcz9 := ZC8 w7 BK597; have hfz9 := ZF8 BK597))
  (try simp only [Act.put, List.setIfInBounds_toArray, List.set_cons_zero, List.set_cons_succ])
  go_cut [5] (fun v5 wc => ∃ (kq : Nat) (x5_5 : Int), v5 = .int .i64 x5_5 ∧ Za (spec_l11Sets.j1 kq l1 x5_5 x6_1 l0_0 l0_1 ((D40 l1 x6_1).f0) ((D40 l1 x6_1).f1) ((D40 l1 x6_1).f2.f0) ((D40 l1 x6_1).f2.f1) ((D40 l1 x6_1).f2.f2) ((D40 l1 x6_1).f3) ((D40 l1 x6_1).f4) ((D40 l1 x6_1).f5) = some r) ∧ Za (kq ≤ k1) ∧ Za (wc.heap[gb595]? = some (.cells #[(.slice A0_0 l0_0.length c0_0), (.slice A0_1 l0_1.length c0_1)] 26 (0, 0))) ∧ Za (wc.heap[gb597]? = some (.cells #[.int .i64 ((D40 l1 x6_1).f0), .int .i64 ((D40 l1 x6_1).f1), .int .i64 ((D40 l1 x6_1).f2.f0), .int .i64 ((D40 l1 x6_1).f2.f1), .int .i64 ((D40 l1 x6_1).f2.f2), .int .i64 ((D40 l1 x6_1).f3), (.slice A596_6 ((D40 l1 x6_1).f4).length c596_6), (.slice A596_7 ((D40 l1 x6_1).f5).length c596_7)] 40 (0, 0))) ∧ Za (Below w.heap.size w wc))
  case first => (
  have H := HC6.out
  clear HC6
  by_cases c10 : ((D40 l1 x6_1).f0) = 1
  ·(
  rw [if_pos c10] at H
  have c10b0 := beq_iff_eq.mpr c10
  have c10b1 := bne_eq_false_iff_eq.mpr c10
  clear c10
  (first | rw [c10b0] | (simp only [i64_w, i32_w]; rw [c10b0]) | skip)
  by_cases c11 : 0 ≤ ((D40 l1 x6_1).f1)
  ·(
  rw [if_pos c11] at H
  have c11b0 := decide_eq_true c11
  clear c11
  by_cases c12 : ((D40 l1 x6_1).f1) < (l0_0.length : Int)
  ·(
  rw [if_pos c12] at H
  have c12b0 := decide_eq_true c12
  clear c12
  obtain ⟨t599, A13, H⟩ := ZOB H; try dsimp only at H
  have H' := AM H
  clear H
  have hnb14 := NB595_597.out
  have hnc14 := NB597_595.out
  have hcz15 := ZC2 w7 BK595
  have hfz15 := ZF2 BK595
  have hcz16 := ZC8 w7 BK597
  have hfz16 := ZF8 BK597
  have p598 : 0 ≤ (((D40 l1 x6_1).f1) : Int) := ZD
  have q598 : ((D40 l1 x6_1).f1) < (l0_0.length : Int) := ZD
  obtain ⟨ad598, e598, hx598_0, hx598_1⟩ := at_T35 HR0_0.out ((D40 l1 x6_1).f1) p598 q598
  cases e598
  have hn598_0 : ad598.block ≠ gb597 := ZO hx598_0 GW597
  have hn598_1 : ad598.block ≠ gb597 := ZO hx598_0 GW597
  have hn598_2 : ad598.block ≠ gb597 := ZO hx598_0 GW597
  have hn598_3 : ad598.block ≠ gb597 := ZO hx598_0 GW597
  have hn598_4 : ad598.block ≠ gb597 := ZO hx598_0 GW597
  have hn598_5 : ad598.block ≠ gb597 := ZO hx598_0 GW597
  have hn598_6 : ad598.block ≠ gb597 := ZO hx598_0 GW597
  have hn598_7 : ad598.block ≠ gb597 := ZO hx598_0 GW597
  replace hx598_0 := ZHX HB hx598_0
  replace hx598_1 := ZHX HB hx598_1
  replace hx598_0 := (cell_far (p := ⟨gb597, 0, none⟩) (ZY hn598_0) (.int .i64 ((D40 l1 x6_1).f0))).trans hx598_0
  replace hx598_1 := (cell_far (p := ⟨gb597, 0, none⟩) (ZY hn598_0) (.int .i64 ((D40 l1 x6_1).f0))).trans hx598_1
  replace hx598_0 := (cell_far (p := ⟨gb597, 1, none⟩) (ZY hn598_1) (.int .i64 ((D40 l1 x6_1).f1))).trans hx598_0
  replace hx598_1 := (cell_far (p := ⟨gb597, 1, none⟩) (ZY hn598_1) (.int .i64 ((D40 l1 x6_1).f1))).trans hx598_1
  replace hx598_0 := (cell_far (p := ⟨gb597, 2, none⟩) (ZY hn598_2) (.int .i64 ((D40 l1 x6_1).f2.f0))).trans hx598_0
  replace hx598_1 := (cell_far (p := ⟨gb597, 2, none⟩) (ZY hn598_2) (.int .i64 ((D40 l1 x6_1).f2.f0))).trans hx598_1
  replace hx598_0 := (cell_far (p := ⟨gb597, 3, none⟩) (ZY hn598_3) (.int .i64 ((D40 l1 x6_1).f2.f1))).trans hx598_0
  replace hx598_1 := (cell_far (p := ⟨gb597, 3, none⟩) (ZY hn598_3) (.int .i64 ((D40 l1 x6_1).f2.f1))).trans hx598_1
  replace hx598_0 := (cell_far (p := ⟨gb597, 4, none⟩) (ZY hn598_4) (.int .i64 ((D40 l1 x6_1).f2.f2))).trans hx598_0
  replace hx598_1 := (cell_far (p := ⟨gb597, 4, none⟩) (ZY hn598_4) (.int .i64 ((D40 l1 x6_1).f2.f2))).trans hx598_1
  replace hx598_0 := (cell_far (p := ⟨gb597, 5, none⟩) (ZY hn598_5) (.int .i64 ((D40 l1 x6_1).f3))).trans hx598_0
  replace hx598_1 := (cell_far (p := ⟨gb597, 5, none⟩) (ZY hn598_5) (.int .i64 ((D40 l1 x6_1).f3))).trans hx598_1
  replace hx598_0 := (cell_far (p := ⟨gb597, 6, none⟩) (ZY hn598_6) (.slice A596_6 ((D40 l1 x6_1).f4).length c596_6)).trans hx598_0
  replace hx598_1 := (cell_far (p := ⟨gb597, 6, none⟩) (ZY hn598_6) (.slice A596_6 ((D40 l1 x6_1).f4).length c596_6)).trans hx598_1
  replace hx598_0 := (cell_far (p := ⟨gb597, 7, none⟩) (ZY hn598_7) (.slice A596_7 ((D40 l1 x6_1).f5).length c596_7)).trans hx598_0
  replace hx598_1 := (cell_far (p := ⟨gb597, 7, none⟩) (ZY hn598_7) (.slice A596_7 ((D40 l1 x6_1).f5).length c596_7)).trans hx598_1
  clear hn598_0 hn598_1 hn598_2 hn598_3 hn598_4 hn598_5 hn598_6 hn598_7
  replace p598 := eq_true p598
  replace q598 := eq_true q598
  go_wp2_with (first | ((with_reducible refine gate_callee (f := 51) rfl ?_); refine ZGL (some 29) Try.func51 #[.int .i64 x5_1, .int .i64 ((D35 l0_0 ((D40 l1 x6_1).f1)).f1)] ?_; (with_reducible refine (spec_l1Either.calls k1 x5_1 ((D35 l0_0 ((D40 l1 x6_1).f1)).f1) t599 _ A13.out).mono ?_); rintro e w' ⟨rfl, ⟨nd, rfl⟩⟩; refine ⟨_, rfl, ?_⟩))
  go_meet
  case rel => exact ⟨_, (t599), (by first | rfl | (simp; done) | (simp [*]; done)), H', ⟨by have := HK1.out; first | omega | exact Nat.le_refl _⟩, ⟨ZZ BK595.out⟩, ⟨ZZ BK597.out⟩, ⟨ZB⟩⟩)
  ·(
  rw [if_neg c12] at H
  exact absurd H (by simp)))
  ·(
  rw [if_neg c11] at H
  exact absurd H (by simp)))
  ·(
  rw [if_neg c10] at H
  have c10b0 := beq_eq_false_iff_ne.mpr c10
  have c10b1 := bne_iff_ne.mpr c10
  (first | rw [c10b0] | (simp only [i64_w, i32_w]; rw [c10b0]) | skip)
  have H' := AM H
  clear H
  go_wp2
  go_meet
  case rel => exact ⟨_, (x5_1), (by first | rfl | (simp; done) | (simp [*]; done)), H', ⟨by have := HK1.out; first | omega | exact Nat.le_refl _⟩, ⟨ZZ BK595.out⟩, ⟨ZZ BK597.out⟩, ⟨ZB⟩⟩))
  case rest => (
  clear HC6
  try clear c1
  try clear c2
  try clear p2
  try clear c4
  try clear c4b0
  try clear c5
  try clear c5b0
  try clear p5
  try clear q5
  try clear hx5
  try clear c8
  try clear c10
  try clear c10b0
  try clear c10b1
  try clear c11
  try clear c11b0
  try clear c12
  try clear c12b0
  try clear c14
  try clear hcz15
  try clear hcz16
  try clear hcz9
  try clear hfz15
  try clear hfz16
  try clear hfz9
  try clear hx596_0
  try clear hx596_1
  try clear hx596_2
  try clear hx596_3
  try clear hx596_4
  try clear hx596_5
  try clear hx596_6
  try clear hx596_7
  try clear hx598_0
  try clear hx598_1
  try clear p2
  try clear p596
  try clear p598
  try clear q596
  try clear q598
  obtain ⟨kq, x5_5, rfl, HA, HJ5, BK595, BK597, HB⟩ := hcut
  cases kq with
  | zero => exact absurd HA.out (by simp [spec_l11Sets.j1])
  | succ kj5 =>
   have H := HA.out
   clear HA
   simp only [spec_l11Sets.j1] at H
   obtain ⟨t600, A17, H⟩ := ZOB H; try dsimp only at H
   obtain ⟨t601, A18, H⟩ := ZOB H; try dsimp only at H
   obtain ⟨t602, A19, H⟩ := ZOB H; try dsimp only at H
   obtain ⟨t603, A20, H⟩ := ZOB H; try dsimp only at H
   have H' := AM H
   clear H
   try go_wp2
   replace BK595 := AM (blk_drew BK595.out)
   replace BK597 := AM (blk_drew BK597.out)
   replace HB := AM (below_drew1 HB.out)
   refine start_ (n := 12) (S := fun w' => w'.cell? ⟨gb595, 0, none⟩ = some (.slice A0_0 l0_0.length c0_0) ∧ w'.cell? ⟨gb595, 1, none⟩ = some (.slice A0_1 l0_1.length c0_1) ∧ w'.cell? ⟨gb597, 0, none⟩ = some (.int .i64 ((D40 l1 x6_1).f0)) ∧ w'.cell? ⟨gb597, 1, none⟩ = some (.int .i64 ((D40 l1 x6_1).f1)) ∧ w'.cell? ⟨gb597, 2, none⟩ = some (.int .i64 ((D40 l1 x6_1).f2.f0)) ∧ w'.cell? ⟨gb597, 3, none⟩ = some (.int .i64 ((D40 l1 x6_1).f2.f1)) ∧ w'.cell? ⟨gb597, 4, none⟩ = some (.int .i64 ((D40 l1 x6_1).f2.f2)) ∧ w'.cell? ⟨gb597, 5, none⟩ = some (.int .i64 ((D40 l1 x6_1).f3)) ∧ w'.cell? ⟨gb597, 6, none⟩ = some (.slice A596_6 ((D40 l1 x6_1).f4).length c596_6) ∧ w'.cell? ⟨gb597, 7, none⟩ = some (.slice A596_7 ((D40 l1 x6_1).f5).length c596_7)) (ds := []) #[F,F,F,F,F,F,F,F,F,F,F,F] (by kernel_rfl) rfl rfl ⟨ZA BK595 0, ZA BK595 1, ZA BK597 0, ZA BK597 1, ZA BK597 2, ZA BK597 3, ZA BK597 4, ZA BK597 5, ZA BK597 6, ZA BK597 7⟩ (fun hHeld => ?_); refine with_tabW spec_l11Sets.tab8 spec_l11Sets.bits8 (fun HT_ HW_ => ?_)
   generalize wc.drew = w21 at BK595 BK597 HB hHeld ⊢
   refine ZU 0 30 #[T,F,F,F,F,F,F,F,F,F,F,F] ?_
   refine ZU 2 32 #[T,F,T,F,F,F,F,F,F,F,F,F] ?_
   refine ZU 6 36 #[T,F,T,F,F,F,T,F,F,F,F,F] ?_
   refine ZTK 1 31 #[T,T,T,F,F,F,T,F,F,F,F,F] hHeld ?_
   refine ZTK 3 33 #[T,T,T,T,F,F,T,F,F,F,F,F] hHeld ?_
   refine ZTK 5 35 #[T,T,T,T,F,T,T,F,F,F,F,F] hHeld ?_
   refine ZTK 7 37 #[T,T,T,T,F,T,T,T,F,F,F,F] hHeld ?_
   refine one_ (i := 4) (N := some 34) #[T,T,T,T,T,T,T,T,F,F,F,F] rfl rfl (one_of HT_.out (by kernel_rfl)) (by decide) (fun K hK => ?_)
   refine ZGO Try.func29 #[.agg #[.slice A0_0 l0_0.length c0_0, .slice A0_1 l0_1.length c0_1], .slice A596_6 ((D40 l1 x6_1).f4).length c596_6] ?_
   with_reducible refine (ih kj5 (by have := HK1.out; have := HJ5.out; omega) _ _ l0_0 _ _ l0_1 _ _ ((D40 l1 x6_1).f4) t600 _ ?side1 ?side2 ?side3 ?side4 ?side5 ?side6 A17.out).mono ?_
   (case side1 => exact ZQ (Kd.C_below HR0_0.out HB.out))
   (case side2 => exact HC0_0.out)
   (case side3 => exact ZQ (Kd.C_below HR0_1.out HB.out))
   (case side4 => exact HC0_1.out)
   (case side5 => exact ZQ (Kd.C_below HR596_6.out HB.out))
   (case side6 => exact HC596_6.out)
   rintro e w22 ⟨rfl, hb⟩
   refine ⟨_, rfl, ?_⟩
   replace BK595 := ZW BK595 hb
   replace BK597 := ZW BK597 hb
   replace HB := ZT HB hb
   (try clear hb)
   (try clear hb2)
   (try clear hk)
   (try clear hi)
   refine hK.out _ _ ⟨ZA BK595 0, ZA BK595 1, ZA BK597 0, ZA BK597 1, ZA BK597 2, ZA BK597 3, ZA BK597 4, ZA BK597 5, ZA BK597 6, ZA BK597 7⟩ (fun hHeld => ?_)
   clear hK K
   refine ZNO 34 ?_
   refine one_ (i := 8) (N := some 38) #[T,T,T,T,T,T,T,T,T,F,F,F] rfl rfl (one_of HT_.out (by kernel_rfl)) (by decide) (fun K hK => ?_)
   refine ZGO Try.func29 #[.agg #[.slice A0_0 l0_0.length c0_0, .slice A0_1 l0_1.length c0_1], .slice A596_7 ((D40 l1 x6_1).f5).length c596_7] ?_
   with_reducible refine (ih kj5 (by have := HK1.out; have := HJ5.out; omega) _ _ l0_0 _ _ l0_1 _ _ ((D40 l1 x6_1).f5) t601 _ ?side1 ?side2 ?side3 ?side4 ?side5 ?side6 A18.out).mono ?_
   (case side1 => exact ZQ (Kd.C_below HR0_0.out HB.out))
   (case side2 => exact HC0_0.out)
   (case side3 => exact ZQ (Kd.C_below HR0_1.out HB.out))
   (case side4 => exact HC0_1.out)
   (case side5 => exact ZQ (Kd.C_below HR596_7.out HB.out))
   (case side6 => exact HC596_7.out)
   rintro e w23 ⟨rfl, hb⟩
   refine ⟨_, rfl, ?_⟩
   replace BK595 := ZW BK595 hb
   replace BK597 := ZW BK597 hb
   replace HB := ZT HB hb
   (try clear hb)
   (try clear hb2)
   (try clear hk)
   (try clear hi)
   refine hK.out _ _ ⟨ZA BK595 0, ZA BK595 1, ZA BK597 0, ZA BK597 1, ZA BK597 2, ZA BK597 3, ZA BK597 4, ZA BK597 5, ZA BK597 6, ZA BK597 7⟩ (fun hHeld => ?_)
   clear hK K
   refine ZNO 38 ?_
   refine one_ (i := 9) (N := some 39) #[T,T,T,T,T,T,T,T,T,T,F,F] rfl rfl (one_of HT_.out (by kernel_rfl)) (by decide) (fun K hK => ?_)
   refine ZGO Try.func51 #[.int .i64 t600, .int .i64 t601] ?_
   with_reducible refine (spec_l1Either.calls kj5 t600 t601 t602 _ A19.out).mono ?_
   rintro e w' ⟨rfl, ⟨nd, rfl⟩⟩
   refine ⟨_, rfl, ?_⟩
   refine hK.out _ _ ⟨ZA BK595 0, ZA BK595 1, ZA BK597 0, ZA BK597 1, ZA BK597 2, ZA BK597 3, ZA BK597 4, ZA BK597 5, ZA BK597 6, ZA BK597 7⟩ (fun hHeld => ?_)
   clear hK K
   refine ZNO 39 ?_
   refine one_ (i := 10) (N := some 40) #[T,T,T,T,T,T,T,T,T,T,T,F] rfl rfl (one_of HT_.out (by kernel_rfl)) (by decide) (fun K hK => ?_)
   refine ZGO Try.func51 #[.int .i64 x5_5, .int .i64 t602] ?_
   with_reducible refine (spec_l1Either.calls kj5 x5_5 t602 t603 _ A20.out).mono ?_
   rintro e w' ⟨rfl, ⟨nd, rfl⟩⟩
   refine ⟨_, rfl, ?_⟩
   refine hK.out _ _ ⟨ZA BK595 0, ZA BK595 1, ZA BK597 0, ZA BK597 1, ZA BK597 2, ZA BK597 3, ZA BK597 4, ZA BK597 5, ZA BK597 6, ZA BK597 7⟩ (fun hHeld => ?_)
   clear hK K
   refine ZNO 40 ?_
   refine ZU 11 5 #[T,T,T,T,T,T,T,T,T,T,T,T] ?_
   refine done_ (done_of HT_.out (by kernel_rfl)) ?_
   try go_wp2
   go_roundg kj5
   case measure => have := HK1.out; have := HJ5.out; omega
   case rel => exact ⟨(t603), (wrap64 (x6_1 + 1)), (by first | rfl | (simp; done) | (simp [*]; done)), (by first | rfl | (simp; done) | (simp [*]; done)), H', ⟨by have := HK1.out; have := HJ5.out; omega⟩, ⟨ZK BK595.out⟩, ⟨ZB⟩⟩))
  ·(
  rw [if_neg c5] at H
  exact absurd H (by simp)))
  ·(
  rw [if_neg c4] at H
  have c4b0 := decide_eq_false c4
  clear c4
  obtain rfl := Option.some.inj H
  go_wp2
  go_ret
  exact ⟨ZE, ZB⟩))

/-! ### spec_TypeSets: function 10 -/
def spec_TypeSets.l0 : Nat → List Int → List (S40) → Int → List (S35) → List (S40) → Option (List Int)
 | 0, _, _, _, _, _ => none
 | k + 1, x3, x4, x5, x605000, x605001 => if x5 < (x4.length : Int) then (if 0 ≤ x5 then (if x5 ≤ (wrap64 (x5 + 1)) then (if (wrap64 (x5 + 1)) ≤ (x4.length : Int) then ((spec_l11Sets.f k x605000 x605001 ((x4.take ((wrap64 (x5 + 1)) : Int).toNat).drop (x5 : Int).toNat)).bind fun t617 => (if x3.length < 17592186044416 then (spec_TypeSets.l0 k (x3 ++ [t617]) x4 (wrap64 (x5 + 1)) x605000 x605001) else (none))) else (none)) else (none)) else (none)) else (some x3)
def spec_TypeSets.f (k : Nat) (l0_0 : List (S35)) (l0_1 : List (S40)) : Option (List Int) := (some (([] : List Int) : List Int)).bind fun y605 => ((spec_ProgOk.f k l0_0 l0_1).bind fun t608 => (if t608 = true then ((spec_l2All.f k l0_1).bind fun t609 => (spec_TypeSets.l0 k y605 t609 0 l0_0 l0_1)) else (some y605)))
def spec_TypeSets.T8 : Bool × List (List Nat × List Nat) := (true, [([], []), ([], []), ([], []), ([], []), ([], []), ([4], [4]), ([2, 3, 5], [2, 3, 5]), ([1, 6], [1, 6]), ([7], [7]), ([0, 8, 7], [0, 8]), ([9, 9, 0, 1, 2, 3, 4, 5, 6, 7, 8, 9], [0, 9])])
def spec_TypeSets.B8 : List Nat := [0, 0, 0, 0, 0, 16, 60, 126, 254, 511, 1023]
theorem spec_TypeSets.tab8 : rtab .any (opsOf Try.f10 8) = spec_TypeSets.T8 := by kernel_rfl
theorem spec_TypeSets.bits8 : waitsOk spec_TypeSets.T8.2 spec_TypeSets.B8 = true := by kernel_rfl
theorem spec_TypeSets.calls (k : Nat) (A0_0 : Option Addr) (c0_0 : Nat) (l0_0 : List (S35)) (A0_1 : Option Addr) (c0_1 : Nat) (l0_1 : List (S40)) (r : List Int) (w : World) (hr0_0 : Kd.C k35 w A0_0 l0_0.length l0_0) (hc0_0 : l0_0.length ≤ c0_0) (hr0_1 : Kd.C k40 w A0_1 l0_1.length l0_1) (hc0_1 : l0_1.length ≤ c0_1) (h : spec_TypeSets.f k l0_0 l0_1 = some r) :
  Calls Try.prog 10 #[.agg #[.slice A0_0 l0_0.length c0_0, .slice A0_1 l0_1.length c0_1]] w fun e w' => ∃ v0_ : Value, e = .returned (v0_) ∧ Kd.R (Kd.int .i64) 3 w' w.heap.size (fun _ => True) v0_ r ∧ Below w.heap.size w w' := by
 have hu26 := Try.underlying26
 have HR0_0 := AM hr0_0
 have HC0_0 := AM hc0_0
 clear hr0_0 hc0_0
 have HR0_1 := AM hr0_1
 have HC0_1 := AM hc0_1
 clear hr0_1 hc0_1
 have HB := AM (Below.refl w.heap.size w)
 have H := h
 unfold spec_TypeSets.f at H
 clear h
 obtain ⟨y605, hy605⟩ : ∃ y_ : List Int, y_ = (([] : List Int)) := ⟨_, rfl⟩
 replace H : ((spec_ProgOk.f k l0_0 l0_1).bind fun t608 => (if t608 = true then ((spec_l2All.f k l0_1).bind fun t609 => (spec_TypeSets.l0 k y605 t609 0 l0_0 l0_1)) else (some y605))) = some r := by first | (rw [hy605]; with_reducible exact H) | (have H2_ := (Option.bind_some _ _).symm.trans H; rw [hy605]; with_reducible exact H2_) | (have H2_ := (Option.bind_some _ _).symm.trans H; with_reducible exact H2_) | with_reducible exact H | (rw [hy605]; exact H) | exact H
 have Ny605 := AM hy605
 clear hy605
 obtain ⟨t608, A2, H⟩ := ZOB H; try dsimp only at H
 by_cases c3 : t608 = true
 ·(
 subst c3
 have H1 := H; rw [if_pos rfl] at H1
 clear H
 have H := H1
 clear H1
 obtain ⟨t609, A4, H⟩ := ZOB H; try dsimp only at H
 have H' := AM H
 clear H
 go_enter Try.func10, Try.ntmps10
 go_wp2_with (first | ((with_reducible refine gate_dst (N := 1) rfl ?_); refine ZX (N := 1) (cs := #[.slice A0_0 l0_0.length c0_0, .slice A0_1 l0_1.length c0_1]) (t := 26) ?_; intro gb604 hg w5 hbox hb; have BK604 := AM (hbox); have GW604 : Za (w.heap.size ≤ gb604) := ZS hg; have GE604 : Za (w.heap.size ≤ gb604) := ZS hg; replace HB := ZT HB hb; clear hb hbox hg) | ((with_reducible refine gate_dst (N := 6) rfl ?_); refine Kd.R_lit (Kd.int .i64) _ 3 ?hg (N := 6) ?hd (xs := ([] : List Int)) (inner := []) (ok := fun _ => True) (okp := fun _ => True) ?hr ?hp (fun _ hk => hk) trivial (Below.refl _ _) (Nat.le_refl _) (by simp) ?_; (case hd => rfl); (case hg => rfl); (case hr => first | (go_simp; done) | (go_simp; rfl)); (case hp => exact (Reps.none _ _)); intro v606 w6 ho7 hb hg_ hnew_; clear hg_ hnew_; (first | rw [← Ny605.out] at ho7 | (simp only [Int.reduceToNat] at ho7; rw [← Ny605.out] at ho7)); have HO607 := AM (Kd.R_lower ho7 (below_size (ZB))); replace BK604 := ZW BK604 hb; replace HB := ZT HB hb; clear hb ho7; have hcz8 := ZC2 w6 BK604; have hfz8 := ZF2 BK604) | ((with_reducible refine gate_callee (f := 16) rfl ?_); refine ZGL (some 8) Try.func16 #[.agg #[.slice A0_0 l0_0.length c0_0, .slice A0_1 l0_1.length c0_1]] ?_; (with_reducible refine (spec_ProgOk.calls k _ _ l0_0 _ _ l0_1 true _ (ZQ (Kd.C_below HR0_0.out HB.out)) HC0_0.out (ZQ (Kd.C_below HR0_1.out HB.out)) HC0_1.out A2.out).mono ?_); rintro e w9 ⟨rfl, hb⟩; refine ⟨_, rfl, ?_⟩; replace HO607 := AM (Kd.R_below (ZR HO607.out) hb); replace BK604 := ZW BK604 hb; replace HB := ZT HB hb; clear hb; have hcz10 := ZC2 w9 BK604; have hfz10 := ZF2 BK604) | ((with_reducible refine gate_callee (f := 28) rfl ?_); refine ZGL (some 13) Try.func28 #[.slice A0_1 l0_1.length c0_1] ?_; (with_reducible refine (spec_l2All.calls k (fun k_ => k_ < w.heap.size) _ _ l0_1 t609 _ ?side1 A4.out).mono ?_); (case side1 => exact Kd.V_mk HC0_1.out (Kd.F_below (Kd.C_F k40_heap HR0_1.out) (ZB))); rintro e w11 ⟨v610, rfl, ho0, hb⟩; refine ⟨_, rfl, ?_⟩; have HO611 := AM (Kd.N_lower (Kd.N_mono (ok' := fun k_ => some k_ ≠ (v606 : Value).ownBlock ∧ k_ ≠ gb604) ho0 (fun k_ hk_ => ⟨Or.elim hk_ (fun hs_ => fun e_ => Nat.not_le.2 hs_ (Kd.R_base HO607.out k_ e_.symm)) (fun hn_ => (Kd.fresh' (Kd.R_lt (ZR HO607.out)) k_ hn_)), Or.elim hk_ (fun hs_ => fun e_ => Nat.not_le.2 hs_ (by rw [e_]; exact GW604.out)) (fun hn_ => (Kd.freshB (g := gb604) (o := .cells #[.slice A0_0 l0_0.length c0_0, .slice A0_1 l0_1.length c0_1] 26 (0, 0)) (ZK BK604.out) k_ hn_))⟩)) (below_size (ZB))); replace HO607 := AM (Kd.R_below (ZR HO607.out) hb); replace BK604 := ZW BK604 hb; replace HB := ZT HB hb; clear hb; (try clear ho0)))
 go_loopg [3, 5] k (fun kq v3 v5 w' => ∃ (x3_1 : List Int) (x5_1 : Int), v5 = .int .i64 x5_1 ∧ Za (spec_TypeSets.l0 kq x3_1 t609 x5_1 l0_0 l0_1 = some r) ∧ Za (kq ≤ k) ∧ Za (Kd.R (Kd.int .i64) 3 w' w.heap.size (fun _ => True) v3 x3_1) ∧ Za (Kd.N k40 40 w' w.heap.size (fun k_ => some k_ ≠ (v3 : Value).ownBlock ∧ k_ ≠ gb604) v610 t609) ∧ Za (w'.heap[gb604]? = some (.cells #[(.slice A0_0 l0_0.length c0_0), (.slice A0_1 l0_1.length c0_1)] 26 (0, 0))) ∧ Za (Below w.heap.size w w'))
 case atStart => exact ⟨(y605), (0), (by first | rfl | (simp; done) | (simp [*]; done)), H', ⟨Nat.le_refl _⟩, ⟨ZR HO607.out⟩, ⟨ZRN HO611.out⟩, ⟨ZK BK604.out⟩, ⟨ZB⟩⟩
 case round => (
 clear H'
 try clear c1
 try clear c2
 try clear p2
 try clear c3
 try clear c10
 try clear hcz10
 try clear hcz8
 try clear hfz10
 try clear hfz8
 obtain ⟨x3_1, x5_1, rfl, HA, HK1, HO_3, HO_4, BK604, HB⟩ := hrel
 cases gk with
 | zero => exact absurd HA.out (by simp [spec_TypeSets.l0])
 | succ k1 =>
  have H := HA.out
  clear HA
  simp only [spec_TypeSets.l0] at H
  by_cases c12 : x5_1 < (t609.length : Int)
  ·(
  rw [if_pos c12] at H
  have c12b0 := decide_eq_true c12
  clear c12
  by_cases c13 : 0 ≤ x5_1
  ·(
  rw [if_pos c13] at H
  have c13b0 := eq_true c13
  have c13b1 := decide_eq_true c13
  clear c13
  by_cases c14 : x5_1 ≤ (wrap64 (x5_1 + 1))
  ·(
  rw [if_pos c14] at H
  have c14b0 := eq_true c14
  have c14b1 := decide_eq_true c14
  by_cases c15 : (wrap64 (x5_1 + 1)) ≤ (t609.length : Int)
  ·(
  rw [if_pos c15] at H
  have c15b0 := eq_true c15
  have c15b1 := decide_eq_true c15
  obtain ⟨y612, hy612⟩ : ∃ y_ : List (S40), y_ = ((t609.take ((wrap64 (x5_1 + 1)) : Int).toNat).drop (x5_1 : Int).toNat) := ⟨_, rfl⟩
  replace H : ((spec_l11Sets.f k1 l0_0 l0_1 y612).bind fun t617 => (if x3_1.length < 17592186044416 then (spec_TypeSets.l0 k1 (x3_1 ++ [t617]) t609 (wrap64 (x5_1 + 1)) l0_0 l0_1) else (none))) = some r := by first | (rw [hy612]; with_reducible exact H) | (have H2_ := (Option.bind_some _ _).symm.trans H; rw [hy612]; with_reducible exact H2_) | (have H2_ := (Option.bind_some _ _).symm.trans H; with_reducible exact H2_) | with_reducible exact H | (rw [hy612]; exact H) | exact H
  have Ny612 := AM hy612
  clear hy612
  obtain ⟨t617, A16, H⟩ := ZOB H; try dsimp only at H
  by_cases c17 : x3_1.length < 17592186044416
  ·(
  rw [if_pos c17] at H
  have LMc17 := AM c17
  clear c17
  obtain ⟨y618, hy618⟩ : ∃ y_ : List Int, y_ = (x3_1 ++ [t617]) := ⟨_, rfl⟩
  replace H : (spec_TypeSets.l0 k1 y618 t609 (wrap64 (x5_1 + 1)) l0_0 l0_1) = some r := by first | (rw [hy618]; with_reducible exact H) | (have H2_ := (Option.bind_some _ _).symm.trans H; rw [hy618]; with_reducible exact H2_) | (have H2_ := (Option.bind_some _ _).symm.trans H; with_reducible exact H2_) | with_reducible exact H | (rw [hy618]; exact H) | exact H
  have Ny618 := AM hy618
  clear hy618
  have H' := AM H
  clear H
  obtain ⟨Ao18, co18, eo18⟩ := Kd.N_slice HO_4.out
  subst eo18
  try go_wp2
  replace HO_3 := AM (Kd.R_drew HO_3.out)
  replace HO_4 := AM (Kd.N_drew HO_4.out)
  replace BK604 := AM (blk_drew BK604.out)
  replace HB := AM (below_drew1 HB.out)
  have q20 : ((wrap64 (x5_1 + 1)) : Int) ≤ ((t609.length : Int) : Int) := ZD
  obtain ⟨i020, hi020, _, hsz20, _⟩ := info_parts info40
  have hroom20 : t609.length ≤ co18 := (Kd.N_reads' HO_4.out).2.1
  have hC20 : Kd.F k40 _ _ Ao18 t609.length t609 := (Kd.V_at (base := w.heap.size) (Kd.N_V HO_4.out)).2.2
  have ql20 : (x5_1 : Int) ≤ ((wrap64 (x5_1 + 1)) : Int) := ZD
  have q020 : (0 : Int) ≤ (x5_1 : Int) := ZD
  have hcut20 := cut_mid (P := Try.prog) 24 40 .i64 .i64 Try.underlying24 hi020 8 hsz20 Ao18 t609.length co18 x5_1 (wrap64 (x5_1 + 1)) q020 ql20 q20 hroom20
  have hr20 := Kd.F_mid (lo := (x5_1 : Int).toNat) (hi := ((wrap64 (x5_1 + 1)) : Int).toNat) (c := co18) hC20 (by omega) (by omega) hroom20
  obtain ⟨A20, hA20⟩ : ∃ A1, A1 = (if co18 = (x5_1 : Int).toNat then Ao18 else (Ao18 : Option Addr).map (·.add ((x5_1 : Int).toNat * 8))) := ⟨_, rfl⟩
  obtain ⟨c20, hc20⟩ : ∃ c1, c1 = co18 - (x5_1 : Int).toNat := ⟨_, rfl⟩
  have hy20 : y612.length = ((wrap64 (x5_1 + 1)) : Int).toNat - (x5_1 : Int).toNat := (by rw [Ny612.out, List.length_drop, List.length_take] <;> omega)
  rw [show ((t609).take ((wrap64 (x5_1 + 1)) : Int).toNat).drop (x5_1 : Int).toNat = y612 from Ny612.out.symm] at hr20
  replace hr20 : Kd.F k40 _ _ A20 y612.length y612 := (by rw [hA20]; exact hr20)
  rw [← hy20, ← hA20, ← hc20] at hcut20
  have HO616 := AM (show Kd.V k40 40 _ w.heap.size _ (.slice A20 y612.length c20) y612 from Kd.V_mk (by rw [hy20, hc20]; exact Nat.sub_le_sub_right (Nat.le_trans (by omega) hroom20) _) hr20)
  have HC616 := AM (show y612.length ≤ c20 from by rw [hy20, hc20]; exact Nat.sub_le_sub_right (Nat.le_trans (by omega) hroom20) _)
  clear hr20 hC20 hroom20 hi020 hsz20 hc20
  have KY20 := AM hy20
  have KA20 := AM hA20
  clear hy20 hA20
  replace q20 := eq_true q20
  refine start_ (n := 11) (S := fun w' => w'.cell? ⟨gb604, 0, none⟩ = some (.slice A0_0 l0_0.length c0_0) ∧ w'.cell? ⟨gb604, 1, none⟩ = some (.slice A0_1 l0_1.length c0_1)) (ds := []) #[F,F,F,F,F,F,F,F,F,F,F] (by kernel_rfl) rfl rfl ⟨ZA BK604 0, ZA BK604 1⟩ (fun hHeld => ?_); refine with_tabW spec_TypeSets.tab8 spec_TypeSets.bits8 (fun HT_ HW_ => ?_)
  generalize wr.drew = w19 at HO_3 HO_4 BK604 HB HO616 hHeld ⊢
  refine ZU 0 20 #[T,F,F,F,F,F,F,F,F,F,F] ?_
  refine ZU 2 22 #[T,F,T,F,F,F,F,F,F,F,F] ?_
  refine ZU 3 23 #[T,F,T,T,F,F,F,F,F,F,F] ?_
  refine ZU 4 24 #[T,F,T,T,T,F,F,F,F,F,F] ?_
  refine ZU 5 25 #[T,F,T,T,T,T,F,F,F,F,F] ?_
  refine ZU 6 26 #[T,F,T,T,T,T,T,F,F,F,F] ?_
  refine ZTK 1 21 #[T,T,T,T,T,T,T,F,F,F,F] hHeld ?_
  refine one_ (i := 7) (N := some 27) #[T,T,T,T,T,T,T,T,F,F,F] rfl rfl (one_of HT_.out (by kernel_rfl)) (by decide) (fun K hK => ?_)
  refine ZGO Try.func29 #[.agg #[.slice A0_0 l0_0.length c0_0, .slice A0_1 l0_1.length c0_1], .slice A20 y612.length c20] ?_
  with_reducible refine (spec_l11Sets.calls k1 _ _ l0_0 _ _ l0_1 _ _ y612 t617 _ ?side1 ?side2 ?side3 ?side4 ?side5 ?side6 A16.out).mono ?_
  (case side1 => exact ZQ (Kd.C_below HR0_0.out HB.out))
  (case side2 => exact HC0_0.out)
  (case side3 => exact ZQ (Kd.C_below HR0_1.out HB.out))
  (case side4 => exact HC0_1.out)
  (case side5 => exact ZQ ((Kd.V_reads' HO616.out).2.2))
  (case side6 => exact (Kd.V_reads' HO616.out).2.1)
  rintro e w21 ⟨rfl, hb⟩
  refine ⟨_, rfl, ?_⟩
  replace HO_3 := AM (Kd.R_below (ZR HO_3.out) hb)
  replace HO_4 := AM (Kd.N_below (ZRN HO_4.out) hb)
  replace HO616 := AM (Kd.V_below (ZRV HO616.out) hb)
  replace BK604 := ZW BK604 hb
  replace HB := ZT HB hb
  (try clear hb)
  (try clear hb2)
  (try clear hk)
  (try clear hi)
  refine hK.out _ _ ⟨ZA BK604 0, ZA BK604 1⟩ (fun hHeld => ?_)
  clear hK K
  refine ZNO 27 ?_
  refine one_ (i := 8) (N := some 28) #[T,T,T,T,T,T,T,T,T,F,F] rfl rfl (one_of HT_.out (by kernel_rfl)) (by decide) (fun K hK => ?_)
  refine value_ (w1 := ?_) (v := ?_) (by rfl) rfl ?_ ?_
  rotate_left 2
  ·(
  go_simp
  constructor
  ·rfl
  ·rfl)
  refine hK.out _ _ ⟨(blk_cell (blk_alloc BK604.out _) 0).trans rfl, (blk_cell (blk_alloc BK604.out _) 1).trans rfl⟩ (fun hHeld => ?_)
  clear hK K
  refine ZNO 28 ?_
  refine one_ (i := 9) (N := some 29) #[T,T,T,T,T,T,T,T,T,T,F] rfl rfl (one_of HT_.out (by kernel_rfl)) (by decide) (fun K hK => ?_)
  refine Kd.R_append_step (Kd.int .i64) (w0 := w) w.heap.size (by rfl) (.tmp 20) (.tmp 28) 28 3 (.int .i64 0) 8 rfl Try.underlying28 info3 rfl (by decide) (by omega) u3 x3_1 t617 [.int .i64 t617] (fun _ => True) (fun _ => False) rfl rfl ?aP (fun _ hk => hk.elim) ?aF ?aO ?aB ?aS ?aL ?_
  (case aP => exact rfl)
  (case aB => exact (ZB))
  (case aF => exact (fun _ _ => trivial))
  (case aO => exact (ZR HO_3.out))
  (case aS => exact (below_size (ZB)))
  (case aL => have := LMc17.out; omega)
  intro v619 w22 ho hb hg hat
  rw [← Ny618.out] at ho
  have n0_ := AM (Kd.N_afterv (ok := (fun k_ => k_ ≠ gb604)) (by (with_reducible repeat (first | apply Kd.N_alloc | apply Kd.N_drewN | apply Kd.N_drew)); exact Kd.N_mono HO_4.out (fun _ hk => ⟨hk.2, hk.1⟩)) hg hat)
  have n1_ := AM (blk_grown (g := gb604) (o := .cells #[.slice A0_0 l0_0.length c0_0, .slice A0_1 l0_1.length c0_1] 26 (0, 0)) (ZK BK604.out) hg (Kd.R_ne HO_3.out BK604.out (by decide)))
  have n2_ := AM (Kd.V_afterv (ok := (fun k_ => k_ ≠ gb604)) (by (with_reducible repeat (first | apply Kd.V_alloc | apply Kd.V_drewN | apply Kd.V_drew)); exact Kd.V_mono HO616.out (fun _ hk => ⟨hk.2, hk.1⟩)) hg hat)
  have n3_ := AM (hb)
  have n4_ := AM (ho)
  clear HO_4 BK604 HO616 HB HO_3
  have HO_4 := n0_
  have BK604 := n1_
  have HO616 := n2_
  have HB := n3_
  have HO620 := n4_
  clear n0_ n1_ n2_ n3_ n4_ ho hb hg hat
  refine hK.out _ _ ⟨ZA BK604 0, ZA BK604 1⟩ (fun hHeld => ?_)
  clear hK K
  refine ZNO 29 ?_
  refine ZU 10 3 #[T,T,T,T,T,T,T,T,T,T,T] ?_
  refine done_ (done_of HT_.out (by kernel_rfl)) ?_
  try go_wp2
  go_roundg k1
  case measure => have := HK1.out; omega
  case rel => exact ⟨(y618), (wrap64 (x5_1 + 1)), (by first | rfl | (simp; done) | (simp [*]; done)), H', ⟨by have := HK1.out; omega⟩, ⟨ZR HO620.out⟩, ⟨by (with_reducible repeat (first | apply Kd.N_alloc | apply Kd.N_drewN | apply Kd.N_drew)); exact Kd.N_mono HO_4.out (fun _ hk => ⟨hk.2, hk.1⟩)⟩, ⟨ZK BK604.out⟩, ⟨ZB⟩⟩)
  ·(
  rw [if_neg c17] at H
  exact absurd H (by simp)))
  ·(
  rw [if_neg c15] at H
  exact absurd H (by simp)))
  ·(
  rw [if_neg c14] at H
  exact absurd H (by simp)))
  ·(
  rw [if_neg c13] at H
  exact absurd H (by simp)))
  ·(
  rw [if_neg c12] at H
  have c12b0 := decide_eq_false c12
  clear c12
  obtain rfl := Option.some.inj H
  obtain ⟨Ao23, co23, eo23⟩ := Kd.N_slice HO_4.out
  subst eo23
  go_wp2
  go_ret
  exact ⟨_, ZE, by (with_reducible repeat (first | apply Kd.R_alloc | apply Kd.R_drewN | apply Kd.R_drew)); exact HO_3.out, ZB⟩)))
 ·(
 replace c3 := Bool.eq_false_iff.mpr c3
 subst c3
 have H1 := H; rw [if_neg ZFT] at H1
 clear H
 have H := H1
 clear H1
 obtain rfl := Option.some.inj H
 go_enter Try.func10, Try.ntmps10
 go_wp2_with (first | ((with_reducible refine gate_dst (N := 1) rfl ?_); refine ZX (N := 1) (cs := #[.slice A0_0 l0_0.length c0_0, .slice A0_1 l0_1.length c0_1]) (t := 26) ?_; intro gb604 hg w24 hbox hb; have BK604 := AM (hbox); have GW604 : Za (w.heap.size ≤ gb604) := ZS hg; have GE604 : Za (w.heap.size ≤ gb604) := ZS hg; replace HB := ZT HB hb; clear hb hbox hg) | ((with_reducible refine gate_dst (N := 6) rfl ?_); refine Kd.R_lit (Kd.int .i64) _ 3 ?hg (N := 6) ?hd (xs := ([] : List Int)) (inner := []) (ok := fun _ => True) (okp := fun _ => True) ?hr ?hp (fun _ hk => hk) trivial (Below.refl _ _) (Nat.le_refl _) (by simp) ?_; (case hd => rfl); (case hg => rfl); (case hr => first | (go_simp; done) | (go_simp; rfl)); (case hp => exact (Reps.none _ _)); intro v606 w25 ho26 hb hg_ hnew_; clear hg_ hnew_; (first | rw [← Ny605.out] at ho26 | (simp only [Int.reduceToNat] at ho26; rw [← Ny605.out] at ho26)); have HO607 := AM (Kd.R_lower ho26 (below_size (ZB))); replace BK604 := ZW BK604 hb; replace HB := ZT HB hb; clear hb ho26; have hcz27 := ZC2 w25 BK604; have hfz27 := ZF2 BK604) | ((with_reducible refine gate_callee (f := 16) rfl ?_); refine ZGL (some 8) Try.func16 #[.agg #[.slice A0_0 l0_0.length c0_0, .slice A0_1 l0_1.length c0_1]] ?_; (with_reducible refine (spec_ProgOk.calls k _ _ l0_0 _ _ l0_1 false _ (ZQ (Kd.C_below HR0_0.out HB.out)) HC0_0.out (ZQ (Kd.C_below HR0_1.out HB.out)) HC0_1.out A2.out).mono ?_); rintro e w28 ⟨rfl, hb⟩; refine ⟨_, rfl, ?_⟩; replace HO607 := AM (Kd.R_below (ZR HO607.out) hb); replace BK604 := ZW BK604 hb; replace HB := ZT HB hb; clear hb))
 go_ret
 exact ⟨_, ZE, by (with_reducible repeat (first | apply Kd.R_alloc | apply Kd.R_drewN | apply Kd.R_drew)); exact HO607.out, ZB⟩)

end Go.Proofs.Ytkkdeojbkfjlpaa.A
