/- Go functions as Lean functions, and for each its contract; written by wip/tools/pr.py over the kit's print. -/
import Derived.Test.YtaflodibibbakaaAx0
import Derived.Test.YtaflodibibbakaaAx2
import Derived.Test.YtaflodibibbakaaAx5
namespace Go.Proofs.Ytaflodibibbakaa.A
open Go.RowKit Go.Proofs.YtaflodibibbakaaW.PrintWords Go.Proofs.YtaflodibibbakaaW.PrintLast Go.Proofs.YtaflodibibbakaaW.PrintMore
attribute [local go_sem] max2_int min2_int max_two min_two max_three min_three max_four min_four
set_option linter.unusedVariables false
set_option linter.unusedSimpArgs false
set_option maxHeartbeats 8000000
set_option maxRecDepth 100000

/-! ### spec_l1Both: function 81 -/
def spec_l1Both.l0 : Nat → Int → Int → Int → Int → Option (Int)
 | 0, _, _, _, _ => none
 | k + 1, x0, x1, x5, x6 => if x6 < 3 then ((spec_l1Has.f x0 x6).bind fun t399 => (if t399 = true then ((spec_l1Has.f x1 x6).bind fun t400 => (if t400 = true then (if 0 ≤ x6 then (spec_l1Both.l0 k x0 x1 (wrap64 (x5 + (shl .i64 1 x6))) (wrap64 (x6 + 1))) else (none)) else (spec_l1Both.l0 k x0 x1 x5 (wrap64 (x6 + 1))))) else (spec_l1Both.l0 k x0 x1 x5 (wrap64 (x6 + 1))))) else (some x5)
def spec_l1Both.f (k : Nat) (a0 : Int) (a1 : Int) : Option (Int) := spec_l1Both.l0 k a0 a1 0 0
theorem spec_l1Both.mono_l : ∀ k, (∀ y0 y1 y2 y3, LeO (spec_l1Both.l0 k y0 y1 y2 y3) (spec_l1Both.l0 (k + 1) y0 y1 y2 y3))
 | 0 => fun _ _ _ _ r h => by simp [spec_l1Both.l0] at h
 | k + 1 => by
  have ih0 := spec_l1Both.mono_l k
  ·intro y0 y1 y2 y3
   unfold spec_l1Both.l0
   repeat' first
   | (with_reducible exact ih0 _ _ _ _)
   | (with_reducible exact LeO.refl _)
   | (with_reducible exact LeO.none _)
   | (with_reducible refine LeO.ite ?_ ?_)
   | (with_reducible refine LeO.bind ?_ (fun _ => ?_))
   | exact ih0 _ _ _ _
   | exact LeO.none _
   | refine LeO.ite ?_ ?_
   | refine LeO.bind ?_ (fun _ => ?_)
theorem spec_l1Both.mono : ∀ a0 a1 k, LeO (spec_l1Both.f k a0 a1) (spec_l1Both.f (k + 1) a0 a1) := by
 intro a0 a1 k
 have ih0 := spec_l1Both.mono_l k
 unfold spec_l1Both.f
 repeat' first
   | (with_reducible exact ih0 _ _ _ _)
   | (with_reducible exact LeO.refl _)
   | (with_reducible exact LeO.none _)
   | (with_reducible refine LeO.ite ?_ ?_)
   | (with_reducible refine LeO.bind ?_ (fun _ => ?_))
   | exact ih0 _ _ _ _
   | exact LeO.none _
   | refine LeO.ite ?_ ?_
   | refine LeO.bind ?_ (fun _ => ?_)
theorem spec_l1Both.calls (k : Nat) (a0 : Int) (a1 : Int) (r : Int) (w : World) (h : spec_l1Both.f k a0 a1 = some r) :
  Calls Try.prog 81 #[.int .i64 a0, .int .i64 a1] w fun e w' => e = .returned (.int .i64 r) ∧ Drawn0 w w' := by
 have H := h
 unfold spec_l1Both.f at H
 clear h
 have H' := AM H
 clear H
 go_enter Try.func81, Try.ntmps81
 go_wp2
 go_loopg [5, 6] k (fun kq v5 v6 w' => ∃ (x5_1 : Int) (x6_1 : Int), v5 = .int .i64 x5_1 ∧ v6 = .int .i64 x6_1 ∧ Aside0 (spec_l1Both.l0 kq a0 a1 x5_1 x6_1 = some r) ∧ Aside0 (kq ≤ k) ∧ Drawn0 w w')
 case atStart => exact ⟨(0), (0), (by first | rfl | (simp; done) | (simp [*]; done)), (by first | rfl | (simp; done) | (simp [*]; done)), H', ⟨Nat.le_refl _⟩, by repeat (first | exact Drawn0.refl _ | apply Drawn0.step)⟩
 case round => (
 clear H'
 try clear p2
 obtain ⟨x5_1, x6_1, rfl, rfl, HA, HK1, ⟨m1, rfl⟩⟩ := hrel
 cases gk with
 | zero => exact absurd HA.out (by simp [spec_l1Both.l0])
 | succ k1 =>
  have H := HA.out
  clear HA
  simp only [spec_l1Both.l0] at H
  by_cases c3 : x6_1 < 3
  ·(
  rw [if_pos c3] at H
  have c3b0 := decide_eq_true c3
  clear c3
  obtain ⟨t399, A4, H⟩ := ZOB H; try dsimp only at H
  by_cases c5 : t399 = true
  ·(
  subst c5
  have H1 := H; rw [if_pos rfl] at H1
  clear H
  have H := H1
  clear H1
  obtain ⟨t400, A6, H⟩ := ZOB H; try dsimp only at H
  by_cases c7 : t400 = true
  ·(
  subst c7
  have H1 := H; rw [if_pos rfl] at H1
  clear H
  have H := H1
  clear H1
  by_cases c8 : 0 ≤ x6_1
  ·(
  rw [if_pos c8] at H
  have c8b0 := eq_true c8
  have c8b1 := decide_eq_true c8
  clear c8
  obtain ⟨ji9, hji9⟩ : ∃ j_ : Int, (shl .i64 1 x6_1) = j_ := ⟨_, rfl⟩
  replace H : (spec_l1Both.l0 k1 a0 a1 (wrap64 (x5_1 + (ji9))) (wrap64 (x6_1 + 1))) = some r := by first | (rw [hji9] at H; exact H) | (simp only [hji9] at H ⊢; exact H)
  (try rw [hji9] at A4)
  (try rw [hji9] at A6)
  have hji9_ : (IntKind.i64.wrap (1 * 2 ^ min x6_1.toNat 64)) = ji9 := hji9
  have hji9z : x6_1 ≤ 64 → (IntKind.i64.wrap (1 * 2 ^ x6_1.toNat)) = ji9 := shl_small hji9
  have hji9u : (IntKind.i64.wrap (2 ^ min x6_1.toNat 64)) = ji9 := by have h_ := hji9_; rw [Int.one_mul] at h_; exact h_
  have hji9v : x6_1 ≤ 64 → (IntKind.i64.wrap (2 ^ x6_1.toNat)) = ji9 := fun hle_ => by have h_ := hji9z hle_; rw [Int.one_mul] at h_; exact h_
  have hji9y : (wrap64 (1 * 2 ^ min x6_1.toNat 64)) = ji9 := (i64_w _).symm.trans hji9_
  have hji9x : x6_1 ≤ 64 → (wrap64 (1 * 2 ^ x6_1.toNat)) = ji9 := fun h_ => (i64_w _).symm.trans (hji9z h_)
  have H' := AM H
  clear H
  go_wp2_with (first | ((with_reducible refine gate_callee (f := 37) rfl ?_); refine ZGL (some 13) Try.func37 #[.int .i64 a0, .int .i64 x6_1] ?_; (with_reducible refine (spec_l1Has.calls a0 x6_1 true _ A4.out).mono ?_); rintro e w' ⟨rfl, ⟨nd, rfl⟩⟩; refine ⟨_, rfl, ?_⟩) | (go_at_call 37; (with_reducible refine (spec_l1Has.calls a1 x6_1 true _ A6.out).mono ?_); rintro e w' ⟨rfl, ⟨nd, rfl⟩⟩))
  go_roundg k1
  case measure => have := HK1.out; omega
  case rel => exact ⟨(wrap64 (x5_1 + (ji9))), (wrap64 (x6_1 + 1)), (by first | rfl | (simp; done) | (simp only [← hji9] <;> (first | rfl | simp)) | (simp [*]; done)), (by first | rfl | (simp; done) | (simp [*]; done)), H', ⟨by have := HK1.out; omega⟩, by repeat (first | exact Drawn0.refl _ | apply Drawn0.step)⟩)
  ·(
  rw [if_neg c8] at H
  exact absurd H (by simp)))
  ·(
  replace c7 := Bool.eq_false_iff.mpr c7
  subst c7
  have H1 := H; rw [if_neg ZFT] at H1
  clear H
  have H := H1
  clear H1
  have H' := AM H
  clear H
  go_wp2_with (first | ((with_reducible refine gate_callee (f := 37) rfl ?_); refine ZGL (some 13) Try.func37 #[.int .i64 a0, .int .i64 x6_1] ?_; (with_reducible refine (spec_l1Has.calls a0 x6_1 true _ A4.out).mono ?_); rintro e w' ⟨rfl, ⟨nd, rfl⟩⟩; refine ⟨_, rfl, ?_⟩) | (go_at_call 37; (with_reducible refine (spec_l1Has.calls a1 x6_1 false _ A6.out).mono ?_); rintro e w' ⟨rfl, ⟨nd, rfl⟩⟩))
  go_roundg k1
  case measure => have := HK1.out; omega
  case rel => exact ⟨(x5_1), (wrap64 (x6_1 + 1)), (by first | rfl | (simp; done) | (simp [*]; done)), (by first | rfl | (simp; done) | (simp [*]; done)), H', ⟨by have := HK1.out; omega⟩, by repeat (first | exact Drawn0.refl _ | apply Drawn0.step)⟩))
  ·(
  replace c5 := Bool.eq_false_iff.mpr c5
  subst c5
  have H1 := H; rw [if_neg ZFT] at H1
  clear H
  have H := H1
  clear H1
  have H' := AM H
  clear H
  go_wp2_with (first | ((with_reducible refine gate_callee (f := 37) rfl ?_); refine ZGL (some 13) Try.func37 #[.int .i64 a0, .int .i64 x6_1] ?_; (with_reducible refine (spec_l1Has.calls a0 x6_1 false _ A4.out).mono ?_); rintro e w' ⟨rfl, ⟨nd, rfl⟩⟩; refine ⟨_, rfl, ?_⟩))
  go_roundg k1
  case measure => have := HK1.out; omega
  case rel => exact ⟨(x5_1), (wrap64 (x6_1 + 1)), (by first | rfl | (simp; done) | (simp [*]; done)), (by first | rfl | (simp; done) | (simp [*]; done)), H', ⟨by have := HK1.out; omega⟩, by repeat (first | exact Drawn0.refl _ | apply Drawn0.step)⟩))
  ·(
  rw [if_neg c3] at H
  have c3b0 := decide_eq_false c3
  clear c3
  obtain rfl := Option.some.inj H
  go_wp2
  go_ret
  exact ⟨by first | rfl | (simp; done) | (simp [*]; done), by repeat (first | exact Drawn0.refl _ | apply Drawn0.step)⟩))

/-! ### spec_LabelBoth: function 68 -/
def spec_LabelBoth.j0 : Nat → Bool → Int → Int → Int → Int → Option (Int × Int)
 | 0, _, _, _, _, _ => none
 | k + 1, x12, x402000, x402001, x403000, x403001 => if x12 = true then (some (0, 0)) else ((spec_l1Both.f k x402000 x403000).bind fun t406 => ((spec_l1Both.f k x402001 x403001).bind fun t407 => (some (t406, t407))))
def spec_LabelBoth.f (k : Nat) (a0_0 : Int) (a0_1 : Int) (a1_0 : Int) (a1_1 : Int) : Option (Int × Int) := (spec_LabelOk.f a0_0 a0_1).bind fun t404 => (if t404 = true then ((spec_LabelOk.f a1_0 a1_1).bind fun t405 => (spec_LabelBoth.j0 k (!t405) a0_0 a0_1 a1_0 a1_1)) else (spec_LabelBoth.j0 k true a0_0 a0_1 a1_0 a1_1))
def spec_LabelBoth.T3 : Bool × List (List Nat × List Nat) := (true, [([], []), ([0], [0]), ([], []), ([2], [2]), ([1, 3], [1, 3]), ([], []), ([5], [5]), ([], []), ([7], [7]), ([6, 8, 4], [6, 8]), ([4, 9], [4, 9]), ([10, 9, 0, 1, 2, 3, 4, 5, 6, 7, 8, 9, 10], [10])])
def spec_LabelBoth.B3 : List Nat := [0, 1, 0, 4, 15, 0, 32, 0, 128, 511, 1023, 2047]
theorem spec_LabelBoth.tab3 : rtab .any (opsOf Try.f68 3) = spec_LabelBoth.T3 := by kernel_rfl
theorem spec_LabelBoth.bits3 : waitsOk spec_LabelBoth.T3.2 spec_LabelBoth.B3 = true := by kernel_rfl
theorem spec_LabelBoth.calls (k : Nat) (a0_0 : Int) (a0_1 : Int) (a1_0 : Int) (a1_1 : Int) (r1 : Int) (r2 : Int) (w : World) (h : spec_LabelBoth.f k a0_0 a0_1 a1_0 a1_1 = some (r1, r2)) :
  Calls Try.prog 68 #[.agg #[.int .i64 a0_0, .int .i64 a0_1], .agg #[.int .i64 a1_0, .int .i64 a1_1]] w fun e w' => e = .returned (.agg #[.int .i64 r1, .int .i64 r2]) ∧ Below w.heap.size w w' := by
 have hu60 := Try.underlying60
 have HB := AM (Below.refl w.heap.size w)
 have H := h
 unfold spec_LabelBoth.f at H
 clear h
 have HC3 := AM H
 clear H
 go_enter Try.func68, Try.ntmps68
 go_upto_region 1 with (first | ((with_reducible refine gate_dst (N := 2) rfl ?_); refine ZX (N := 2) (cs := #[.int .i64 a0_0, .int .i64 a0_1]) (t := 60) ?_; intro gb401 hg w4 hbox hb; have BK401 := AM (hbox); have GW401 : Aside0 (w.heap.size ≤ gb401) := ZS hg; have GE401 : Aside0 (w.heap.size ≤ gb401) := ZS hg; replace HB := ZT HB hb; clear hb hbox hg) | ((with_reducible refine gate_dst (N := 3) rfl ?_); refine ZX (N := 3) (cs := #[.int .i64 a1_0, .int .i64 a1_1]) (t := 60) ?_; intro gb402 hg w5 hbox hb; have BK402 := AM (hbox); have GW402 : Aside0 (w.heap.size ≤ gb402) := ZS hg; have GE402 : Aside0 (w.heap.size ≤ gb402) := ZS hg; have NB401_402 : Aside0 (gb401 ≠ gb402) := ZN hg BK401; have NB402_401 : Aside0 (gb402 ≠ gb401) := ZM hg BK401; replace BK401 := ZW BK401 hb; replace HB := ZT HB hb; clear hb hbox hg) | ((with_reducible refine gate_dst (N := 4) rfl ?_); refine ZX (N := 4) (cs := #[.int .i64 0, .int .i64 0]) (t := 60) ?_; intro gb403 hg w6 hbox hb; have BK403 := AM (hbox); have GW403 : Aside0 (w.heap.size ≤ gb403) := ZS hg; have GE403 : Aside0 (w.heap.size ≤ gb403) := ZS hg; have NB401_403 : Aside0 (gb401 ≠ gb403) := ZN hg BK401; have NB403_401 : Aside0 (gb403 ≠ gb401) := ZM hg BK401; have NB402_403 : Aside0 (gb402 ≠ gb403) := ZN hg BK402; have NB403_402 : Aside0 (gb403 ≠ gb402) := ZM hg BK402; replace BK401 := ZW BK401 hb; replace BK402 := ZW BK402 hb; replace HB := ZT HB hb; clear hb hbox hg))
 (try simp only [Act.put, List.setIfInBounds_toArray, List.set_cons_zero, List.set_cons_succ])
 go_cut [12] (fun v12 wc => ∃ (kq : Nat) (x12_2 : Bool), v12 = .bool x12_2 ∧ Aside0 (spec_LabelBoth.j0 kq x12_2 a0_0 a0_1 a1_0 a1_1 = some (r1, r2)) ∧ Aside0 (kq ≤ k) ∧ Aside0 (wc.heap[gb401]? = some (.cells #[.int .i64 a0_0, .int .i64 a0_1] 60 (0, 0))) ∧ Aside0 (wc.heap[gb402]? = some (.cells #[.int .i64 a1_0, .int .i64 a1_1] 60 (0, 0))) ∧ Aside0 (wc.heap[gb403]? = some (.cells #[.int .i64 0, .int .i64 0] 60 (0, 0))) ∧ Aside0 (Below w.heap.size w wc))
 case first => (
 have H := HC3.out
 clear HC3
 obtain ⟨t404, A7, H⟩ := ZOB H; try dsimp only at H
 by_cases c8 : t404 = true
 ·(
 subst c8
 have H1 := H; rw [if_pos rfl] at H1
 clear H
 have H := H1
 clear H1
 obtain ⟨t405, A9, H⟩ := ZOB H; try dsimp only at H
 have H' := AM H
 clear H
 have hnb10 := NB401_402.out
 have hnc10 := NB402_401.out
 have hnb11 := NB401_403.out
 have hnc11 := NB403_401.out
 have hcz12 := ZC2 w6 BK401
 have hfz12 := ZF2 BK401
 go_wp2_with (first | ((with_reducible refine gate_callee (f := 63) rfl ?_); refine ZGL (some 6) Try.func63 #[.agg #[.int .i64 a0_0, .int .i64 a0_1]] ?_; (with_reducible refine (spec_LabelOk.calls a0_0 a0_1 true _ A7.out).mono ?_); rintro e w13 ⟨rfl, hb⟩; refine ⟨_, rfl, ?_⟩; replace BK401 := ZW BK401 hb; replace BK402 := ZW BK402 hb; replace BK403 := ZW BK403 hb; replace HB := ZT HB hb; clear hb; have hnb14 := NB402_403.out; have hnc14 := NB403_402.out; have hcz15 := ZC2 w13 BK402; have hfz15 := ZF2 BK402) | (go_at_call 63; (with_reducible refine (spec_LabelOk.calls a1_0 a1_1 t405 _ A9.out).mono ?_); rintro e w16 ⟨rfl, hb⟩; replace BK401 := ZW BK401 hb; replace BK402 := ZW BK402 hb; replace BK403 := ZW BK403 hb; replace HB := ZT HB hb; clear hb))
 go_meet
 case rel => exact ⟨_, (!t405), (by first | rfl | (simp; done) | (simp [*]; done)), H', ⟨by first | omega | exact Nat.le_refl _⟩, ⟨ZK BK401.out⟩, ⟨ZK BK402.out⟩, ⟨ZK BK403.out⟩, ⟨ZB⟩⟩)
 ·(
 replace c8 := Bool.eq_false_iff.mpr c8
 subst c8
 have H1 := H; rw [if_neg ZFT] at H1
 clear H
 have H := H1
 clear H1
 have H' := AM H
 clear H
 have hnb17 := NB401_402.out
 have hnc17 := NB402_401.out
 have hnb18 := NB401_403.out
 have hnc18 := NB403_401.out
 have hcz19 := ZC2 w6 BK401
 have hfz19 := ZF2 BK401
 go_wp2_with (first | ((with_reducible refine gate_callee (f := 63) rfl ?_); refine ZGL (some 6) Try.func63 #[.agg #[.int .i64 a0_0, .int .i64 a0_1]] ?_; (with_reducible refine (spec_LabelOk.calls a0_0 a0_1 false _ A7.out).mono ?_); rintro e w20 ⟨rfl, hb⟩; refine ⟨_, rfl, ?_⟩; replace BK401 := ZW BK401 hb; replace BK402 := ZW BK402 hb; replace BK403 := ZW BK403 hb; replace HB := ZT HB hb; clear hb))
 go_meet
 case rel => exact ⟨_, (true), (by first | rfl | (simp; done) | (simp [*]; done)), H', ⟨by first | omega | exact Nat.le_refl _⟩, ⟨ZK BK401.out⟩, ⟨ZK BK402.out⟩, ⟨ZK BK403.out⟩, ⟨ZB⟩⟩))
 case rest => (
 clear HC3
 try clear c1
 try clear p2
 try clear c6
 try clear c8
 try clear c10
 try clear c11
 try clear c14
 try clear c17
 try clear c18
 try clear hcz12
 try clear hcz15
 try clear hcz19
 try clear hfz12
 try clear hfz15
 try clear hfz19
 obtain ⟨kq, x12_2, rfl, HA, HJ2, BK401, BK402, BK403, HB⟩ := hcut
 cases kq with
 | zero => exact absurd HA.out (by simp [spec_LabelBoth.j0])
 | succ kj2 =>
  have H := HA.out
  clear HA
  simp only [spec_LabelBoth.j0] at H
  by_cases c21 : x12_2 = true
  ·(
  subst c21
  have H1 := H; rw [if_pos rfl] at H1
  clear H
  have H := H1
  clear H1
  simp only [Option.some.injEq, Prod.mk.injEq] at H
  obtain ⟨rfl, rfl⟩ := H
  have hnb22 := NB403_401.out
  have hnc22 := NB401_403.out
  have hnb23 := NB403_402.out
  have hnc23 := NB402_403.out
  have hcz24 := ZC2 wc BK403
  have hfz24 := ZF2 BK403
  go_wp2
  refine bodyPost_ret (results_cell_row rfl _ _ gb403 60 #[.int .i64 0, .int .i64 0] (0, 0) _ rfl (ZZ BK403.out) Try.underlying60 rfl (by kernel_rfl)) rfl ?_
  exact ⟨ZE, ZB⟩)
  ·(
  replace c21 := Bool.eq_false_iff.mpr c21
  subst c21
  have H1 := H; rw [if_neg ZFT] at H1
  clear H
  have H := H1
  clear H1
  obtain ⟨t406, A25, H⟩ := ZOB H; try dsimp only at H
  obtain ⟨t407, A26, H⟩ := ZOB H; try dsimp only at H
  simp only [Option.some.injEq, Prod.mk.injEq] at H
  obtain ⟨rfl, rfl⟩ := H
  try go_wp2
  replace BK401 := AM (blk_drew BK401.out)
  replace BK402 := AM (blk_drew BK402.out)
  replace BK403 := AM (blk_drew BK403.out)
  replace HB := AM (below_drew1 HB.out)
  refine start_ (n := 12) (S := fun w' => w'.cell? ⟨gb401, 0, none⟩ = some (.int .i64 a0_0) ∧ w'.cell? ⟨gb401, 1, none⟩ = some (.int .i64 a0_1) ∧ w'.cell? ⟨gb402, 0, none⟩ = some (.int .i64 a1_0) ∧ w'.cell? ⟨gb402, 1, none⟩ = some (.int .i64 a1_1)) (ds := []) #[F,F,F,F,F,F,F,F,F,F,F,F] (by kernel_rfl) rfl rfl ⟨ZA BK401 0, ZA BK401 1, ZA BK402 0, ZA BK402 1⟩ (fun hHeld => ?_); refine with_tabW spec_LabelBoth.tab3 spec_LabelBoth.bits3 (fun HT_ HW_ => ?_)
  generalize wc.drew = w27 at BK401 BK402 BK403 HB hHeld ⊢
  refine ZU 0 14 #[T,F,F,F,F,F,F,F,F,F,F,F] ?_
  refine ZU 2 16 #[T,F,T,F,F,F,F,F,F,F,F,F] ?_
  refine ZU 5 19 #[T,F,T,F,F,T,F,F,F,F,F,F] ?_
  refine ZU 7 21 #[T,F,T,F,F,T,F,T,F,F,F,F] ?_
  refine ZTK 1 15 #[T,T,T,F,F,T,F,T,F,F,F,F] hHeld ?_
  refine ZTK 3 17 #[T,T,T,T,F,T,F,T,F,F,F,F] hHeld ?_
  refine ZTK 6 20 #[T,T,T,T,F,T,T,T,F,F,F,F] hHeld ?_
  refine ZTK 8 22 #[T,T,T,T,F,T,T,T,T,F,F,F] hHeld ?_
  refine one_ (i := 4) (N := some 18) #[T,T,T,T,T,T,T,T,T,F,F,F] rfl rfl (one_of HT_.out (by kernel_rfl)) (by decide) (fun K hK => ?_)
  refine ZGO Try.func81 #[.int .i64 a0_0, .int .i64 a1_0] ?_
  with_reducible refine (spec_l1Both.calls kj2 a0_0 a1_0 t406 _ A25.out).mono ?_
  rintro e w' ⟨rfl, ⟨nd, rfl⟩⟩
  refine ⟨_, rfl, ?_⟩
  refine hK.out _ _ ⟨ZA BK401 0, ZA BK401 1, ZA BK402 0, ZA BK402 1⟩ (fun hHeld => ?_)
  clear hK K
  refine ZNO 18 ?_
  refine one_ (i := 9) (N := some 23) #[T,T,T,T,T,T,T,T,T,T,F,F] rfl rfl (one_of HT_.out (by kernel_rfl)) (by decide) (fun K hK => ?_)
  refine ZGO Try.func81 #[.int .i64 a0_1, .int .i64 a1_1] ?_
  with_reducible refine (spec_l1Both.calls kj2 a0_1 a1_1 t407 _ A26.out).mono ?_
  rintro e w' ⟨rfl, ⟨nd, rfl⟩⟩
  refine ⟨_, rfl, ?_⟩
  refine hK.out _ _ ⟨ZA BK401 0, ZA BK401 1, ZA BK402 0, ZA BK402 1⟩ (fun hHeld => ?_)
  clear hK K
  refine ZNO 23 ?_
  refine ZU 10 24 #[T,T,T,T,T,T,T,T,T,T,T,F] ?_
  refine one_ (i := 11) (N := none) #[T,T,T,T,T,T,T,T,T,T,T,T] rfl rfl (one_of HT_.out (by kernel_rfl)) (by decide) (fun K hK => ?_)
  have hs28 : w27.cell? ⟨gb403, 0, none⟩ = some (.int .i64 0) := ZA BK403 0
  have hfs28 := blk_frozen BK403.out 0
  have hns28_0 := NB401_403.out
  have hns28_1 := NB402_403.out
  have hms28_0 := NB403_401.out
  have hms28_1 := NB403_402.out
  have hs29 : w27.cell? ⟨gb403, 1, none⟩ = some (.int .i64 0) := ZA BK403 1
  have hfs29 := blk_frozen BK403.out 1
  have hns29_0 := NB401_403.out
  have hns29_1 := NB402_403.out
  have hms29_0 := NB403_401.out
  have hms29_1 := NB403_402.out
  refine skip_ (w1 := ?_) (by rfl) rfl ?_ ?_
  rotate_left
  ·(
  go_simp
  rfl)
  refine hK.out _ _ ⟨((cell_far (p := ⟨gb403, _, none⟩) NB401_403.out _).trans (((cell_far (p := ⟨gb403, _, none⟩) NB401_403.out _).trans (hHeld.1)))), ((cell_far (p := ⟨gb403, _, none⟩) NB401_403.out _).trans (((cell_far (p := ⟨gb403, _, none⟩) NB401_403.out _).trans (hHeld.2.1)))), ((cell_far (p := ⟨gb403, _, none⟩) NB402_403.out _).trans (((cell_far (p := ⟨gb403, _, none⟩) NB402_403.out _).trans (hHeld.2.2.1)))), ((cell_far (p := ⟨gb403, _, none⟩) NB402_403.out _).trans (((cell_far (p := ⟨gb403, _, none⟩) NB402_403.out _).trans (hHeld.2.2.2))))⟩ (fun hHeld => ?_)
  clear hK K
  refine done_ (done_of HT_.out (by kernel_rfl)) ?_
  try go_wp2
  refine bodyPost_ret (results_cell_row rfl _ _ gb403 60 #[.int .i64 t406, .int .i64 t407] (0, 0) _ rfl (ZZ BK403.out) Try.underlying60 rfl (by kernel_rfl)) rfl ?_
  exact ⟨ZE, ZB⟩))

end Go.Proofs.Ytaflodibibbakaa.A
