/- Go functions as Lean functions, and for each its contract; written by wip/tools/pr.py over the kit's print. -/
import Derived.Test.YtkkdeojbkfjlpaaAx0
namespace Go.Proofs.Ytkkdeojbkfjlpaa.A
open Go.RowKit Go.Proofs.YtkkdeojbkfjlpaaW.PrintWords Go.Proofs.YtkkdeojbkfjlpaaW.PrintLast Go.Proofs.YtkkdeojbkfjlpaaW.PrintMore
attribute [local go_sem] max2_int min2_int max_two min_two max_three min_three max_four min_four
set_option linter.unusedVariables false
set_option linter.unusedSimpArgs false
set_option maxHeartbeats 8000000
set_option maxRecDepth 100000

/-! ### impl_Prog_sets: function 27 -/
mutual
def impl_Prog_sets.l0 : Nat → Int → List (S40) → Int → Int → List (S35) → List (S40) → Option (Int)
 | 0, _, _, _, _, _, _ => none
 | k + 1, x5, x8, x9, x10, x156000, x156001 => if x10 < x9 then (if 0 ≤ x10 then (if x10 < (x8.length : Int) then (if ((D40 x8 x10).f0) = 1 then (if 0 ≤ ((D40 x8 x10).f1) then (if ((D40 x8 x10).f1) < (x156000.length : Int) then ((impl_Prog_sets.f k x156000 x156001 ((D40 x8 x10).f4)).bind fun t159 => ((impl_Prog_sets.f k x156000 x156001 ((D40 x8 x10).f5)).bind fun t160 => (impl_Prog_sets.l0 k (Go.bits .or .i64 (Go.bits .or .i64 x5 ((D35 x156000 ((D40 x8 x10).f1)).f1)) (Go.bits .or .i64 t159 t160)) x8 x9 (wrap64 (x10 + 1)) x156000 x156001))) else (none)) else (none)) else ((impl_Prog_sets.f k x156000 x156001 ((D40 x8 x10).f4)).bind fun t161 => ((impl_Prog_sets.f k x156000 x156001 ((D40 x8 x10).f5)).bind fun t162 => (impl_Prog_sets.l0 k (Go.bits .or .i64 x5 (Go.bits .or .i64 t161 t162)) x8 x9 (wrap64 (x10 + 1)) x156000 x156001)))) else (none)) else (none)) else (some x5)
def impl_Prog_sets.f : Nat → List (S35) → List (S40) → List (S40) → Option (Int)
 | 0, _, _, _ => none
 | k + 1, l0_0, l0_1, l1 => impl_Prog_sets.l0 k 0 l1 (l1.length : Int) 0 l0_0 l0_1
end
def impl_Prog_sets.T7 : Bool × List (List Nat × List Nat) := (true, [([], []), ([], []), ([], []), ([2], [2]), ([1, 3], [1, 3]), ([], []), ([], []), ([6], [6]), ([5, 7, 4], [5, 7]), ([4, 8], [4, 8]), ([0, 9], [0, 9]), ([10, 8, 0, 1, 2, 3, 4, 5, 6, 7, 8, 9, 10], [0, 10])])
def impl_Prog_sets.B7 : List Nat := [0, 0, 0, 4, 14, 0, 0, 64, 254, 510, 1023, 2047]
theorem impl_Prog_sets.tab7 : rtab .any (opsOf Try.f27 7) = impl_Prog_sets.T7 := by kernel_rfl
theorem impl_Prog_sets.bits7 : waitsOk impl_Prog_sets.T7.2 impl_Prog_sets.B7 = true := by kernel_rfl
theorem impl_Prog_sets.calls (k : Nat) : ∀ (A0_0 : Option Addr) (c0_0 : Nat) (l0_0 : List (S35)) (A0_1 : Option Addr) (c0_1 : Nat) (l0_1 : List (S40)) (A1 : Option Addr) (c1 : Nat) (l1 : List (S40)) (r : Int) (w : World) (hr0_0 : Kd.C k35 w A0_0 l0_0.length l0_0) (hc0_0 : l0_0.length ≤ c0_0) (hr0_1 : Kd.C k40 w A0_1 l0_1.length l0_1) (hc0_1 : l0_1.length ≤ c0_1) (hr1 : Kd.C k40 w A1 l1.length l1) (hc1 : l1.length ≤ c1) (h : impl_Prog_sets.f k l0_0 l0_1 l1 = some r),
  Calls Try.prog 27 #[.agg #[.slice A0_0 l0_0.length c0_0, .slice A0_1 l0_1.length c0_1], .slice A1 l1.length c1] w fun e w' => e = .returned (.int .i64 r) ∧ Below w.heap.size w w' := by
 induction k using Nat.strongRecOn with
 | _ k ih =>
 intro A0_0 c0_0 l0_0 A0_1 c0_1 l0_1 A1 c1 l1 r w hr0_0 hc0_0 hr0_1 hc0_1 hr1 hc1 h
 cases k with
 | zero => exact absurd h (by simp [impl_Prog_sets.f])
 | succ k =>
 simp only [impl_Prog_sets.f] at h
 have hu26 := Try.underlying26
 have hu40 := Try.underlying40
 have HR0_0 := AM hr0_0
 have HC0_0 := AM hc0_0
 clear hr0_0 hc0_0
 have HR0_1 := AM hr0_1
 have HC0_1 := AM hc0_1
 clear hr0_1 hc0_1
 have HR1 := AM hr1
 have HC1 := AM hc1
 clear hr1 hc1
 have HB := AM (Below.refl w.heap.size w)
 have H : (impl_Prog_sets.l0 k 0 l1 (l1.length : Int) 0 l0_0 l0_1) = some r := h
 clear h
 have H' := AM H
 clear H
 go_enter Try.func27, Try.ntmps27
 go_wp2_with (first | ((with_reducible refine gate_dst (N := 2) rfl ?_); refine ZXW w (N := 2) (cs := #[.slice A0_0 l0_0.length c0_0, .slice A0_1 l0_1.length c0_1]) (t := 26) ?_; intro gb155 hg w3 BK155 GW155 hb; replace HB := ZT HB hb; clear hb hg))
 go_loopg [5, 10] k (fun kq v5 v10 w' => ∃ (x5_1 : Int) (x10_1 : Int), v5 = .int .i64 x5_1 ∧ v10 = .int .i64 x10_1 ∧ Za (impl_Prog_sets.l0 kq x5_1 l1 (l1.length : Int) x10_1 l0_0 l0_1 = some r) ∧ Za (kq ≤ k) ∧ Za (w'.heap[gb155]? = some (.cells #[(.slice A0_0 l0_0.length c0_0), (.slice A0_1 l0_1.length c0_1)] 26 (0, 0))) ∧ Za (Below w.heap.size w w'))
 case atStart => exact ⟨(0), (0), ZSM, ZSM, H', ⟨Nat.le_refl _⟩, ⟨ZK BK155.out⟩, ⟨ZB⟩⟩
 case round => (
 clear H'
 try clear c1
 try clear c2
 try clear p2
 obtain ⟨x5_1, x10_1, rfl, rfl, HA, HK1, BK155, HB⟩ := hrel
 cases gk with
 | zero => exact absurd HA.out (by simp [impl_Prog_sets.l0])
 | succ k1 =>
  have H := HA.out
  clear HA
  simp only [impl_Prog_sets.l0] at H
  by_cases c4 : x10_1 < (l1.length : Int)
  ·(
  rw [if_pos c4] at H
  have c4b0 := decide_eq_true c4
  clear c4
  by_cases c5 : 0 ≤ x10_1
  ·(
  rw [if_pos c5] at H
  have c5b0 := decide_eq_true c5
  clear c5
  by_cases c6 : x10_1 < (l1.length : Int)
  ·(
  rw [if_pos c6] at H
  have c6b0 := decide_eq_true c6
  clear c6
  by_cases c7 : ((D40 l1 x10_1).f0) = 1
  ·(
  rw [if_pos c7] at H
  have c7b0 := beq_iff_eq.mpr c7
  have c7b1 := bne_eq_false_iff_eq.mpr c7
  clear c7
  by_cases c8 : 0 ≤ ((D40 l1 x10_1).f1)
  ·(
  rw [if_pos c8] at H
  have c8b0 := decide_eq_true c8
  clear c8
  by_cases c9 : ((D40 l1 x10_1).f1) < (l0_0.length : Int)
  ·(
  rw [if_pos c9] at H
  have c9b0 := decide_eq_true c9
  clear c9
  obtain ⟨t159, A10, H⟩ := ZOB H; try dsimp only at H
  obtain ⟨t160, A11, H⟩ := ZOB H; try dsimp only at H
  have H' := AM H
  clear H
  have p156 : 0 ≤ (x10_1 : Int) := ZD
  have q156 : x10_1 < (l1.length : Int) := ZD
  obtain ⟨ad156, A156_6, c156_6, A156_7, c156_7, e156, hx156_0, hx156_1, hx156_2, hx156_3, hx156_4, hx156_5, hx156_6, hx156_7, hl156_6, hi156_6, hl156_7, hi156_7⟩ := at_T40 HR1.out x10_1 p156 q156
  cases e156
  replace hx156_0 := ZHX HB hx156_0
  replace hx156_1 := ZHX HB hx156_1
  replace hx156_2 := ZHX HB hx156_2
  replace hx156_3 := ZHX HB hx156_3
  replace hx156_4 := ZHX HB hx156_4
  replace hx156_5 := ZHX HB hx156_5
  replace hx156_6 := ZHX HB hx156_6
  replace hx156_7 := ZHX HB hx156_7
  have HR156_6 := AM hi156_6
  have HC156_6 := AM hl156_6
  clear hi156_6 hl156_6
  have HR156_7 := AM hi156_7
  have HC156_7 := AM hl156_7
  clear hi156_7 hl156_7
  replace p156 := eq_true p156
  replace q156 := eq_true q156
  try go_wp2_with (first | ((with_reducible refine gate_dst (N := 7) rfl ?_); refine ZXW w (N := 7) (cs := #[.int .i64 0, .int .i64 0, .int .i64 0, .int .i64 0, .int .i64 0, .int .i64 0, .slice none 0 0, .slice none 0 0]) (t := 40) ?_; intro gb157 hg w12 BK157 GW157 hb; have NB155_157 : Za (gb155 ≠ gb157) := ZN hg BK155; have NB157_155 : Za (gb157 ≠ gb155) := ZM hg BK155; replace BK155 := ZW BK155 hb; replace HB := ZT HB hb; clear hb hg; have hnb13 := NB157_155.out; have hnc13 := NB155_157.out; have hcz14 := ZC8 w12 BK157; have hcz15 := ZC2 w12 BK155; have p158 : 0 ≤ (((D40 l1 x10_1).f1) : Int) := ZD; have q158 : ((D40 l1 x10_1).f1) < (l0_0.length : Int) := ZD; obtain ⟨ad158, e158, hx158_0, hx158_1⟩ := at_T35 HR0_0.out ((D40 l1 x10_1).f1) p158 q158; cases e158; have hn158_0 : ad158.block ≠ gb157 := ZO hx158_0 GW157; have hn158_1 : ad158.block ≠ gb157 := ZO hx158_0 GW157; have hn158_2 : ad158.block ≠ gb157 := ZO hx158_0 GW157; have hn158_3 : ad158.block ≠ gb157 := ZO hx158_0 GW157; have hn158_4 : ad158.block ≠ gb157 := ZO hx158_0 GW157; have hn158_5 : ad158.block ≠ gb157 := ZO hx158_0 GW157; have hn158_6 : ad158.block ≠ gb157 := ZO hx158_0 GW157; have hn158_7 : ad158.block ≠ gb157 := ZO hx158_0 GW157; replace hx158_0 := ZHX HB hx158_0; replace hx158_1 := ZHX HB hx158_1; replace hx158_0 := (cell_far (p := ⟨gb157, 0, none⟩) (ZY hn158_0) (.int .i64 ((D40 l1 x10_1).f0))).trans hx158_0; replace hx158_1 := (cell_far (p := ⟨gb157, 0, none⟩) (ZY hn158_0) (.int .i64 ((D40 l1 x10_1).f0))).trans hx158_1; replace hx158_0 := (cell_far (p := ⟨gb157, 1, none⟩) (ZY hn158_1) (.int .i64 ((D40 l1 x10_1).f1))).trans hx158_0; replace hx158_1 := (cell_far (p := ⟨gb157, 1, none⟩) (ZY hn158_1) (.int .i64 ((D40 l1 x10_1).f1))).trans hx158_1; replace hx158_0 := (cell_far (p := ⟨gb157, 2, none⟩) (ZY hn158_2) (.int .i64 ((D40 l1 x10_1).f2.f0))).trans hx158_0; replace hx158_1 := (cell_far (p := ⟨gb157, 2, none⟩) (ZY hn158_2) (.int .i64 ((D40 l1 x10_1).f2.f0))).trans hx158_1; replace hx158_0 := (cell_far (p := ⟨gb157, 3, none⟩) (ZY hn158_3) (.int .i64 ((D40 l1 x10_1).f2.f1))).trans hx158_0; replace hx158_1 := (cell_far (p := ⟨gb157, 3, none⟩) (ZY hn158_3) (.int .i64 ((D40 l1 x10_1).f2.f1))).trans hx158_1; replace hx158_0 := (cell_far (p := ⟨gb157, 4, none⟩) (ZY hn158_4) (.int .i64 ((D40 l1 x10_1).f2.f2))).trans hx158_0; replace hx158_1 := (cell_far (p := ⟨gb157, 4, none⟩) (ZY hn158_4) (.int .i64 ((D40 l1 x10_1).f2.f2))).trans hx158_1; replace hx158_0 := (cell_far (p := ⟨gb157, 5, none⟩) (ZY hn158_5) (.int .i64 ((D40 l1 x10_1).f3))).trans hx158_0; replace hx158_1 := (cell_far (p := ⟨gb157, 5, none⟩) (ZY hn158_5) (.int .i64 ((D40 l1 x10_1).f3))).trans hx158_1; replace hx158_0 := (cell_far (p := ⟨gb157, 6, none⟩) (ZY hn158_6) (.slice A156_6 ((D40 l1 x10_1).f4).length c156_6)).trans hx158_0; replace hx158_1 := (cell_far (p := ⟨gb157, 6, none⟩) (ZY hn158_6) (.slice A156_6 ((D40 l1 x10_1).f4).length c156_6)).trans hx158_1; replace hx158_0 := (cell_far (p := ⟨gb157, 7, none⟩) (ZY hn158_7) (.slice A156_7 ((D40 l1 x10_1).f5).length c156_7)).trans hx158_0; replace hx158_1 := (cell_far (p := ⟨gb157, 7, none⟩) (ZY hn158_7) (.slice A156_7 ((D40 l1 x10_1).f5).length c156_7)).trans hx158_1; clear hn158_0 hn158_1 hn158_2 hn158_3 hn158_4 hn158_5 hn158_6 hn158_7; replace p158 := eq_true p158; replace q158 := eq_true q158))
  have n0_ : Za (((((((((w12.setCell ⟨gb157, 0, none⟩ (.int .i64 ((D40 l1 x10_1).f0))).setCell ⟨gb157, 1, none⟩ (.int .i64 ((D40 l1 x10_1).f1))).setCell ⟨gb157, 2, none⟩ (.int .i64 ((D40 l1 x10_1).f2.f0))).setCell ⟨gb157, 3, none⟩ (.int .i64 ((D40 l1 x10_1).f2.f1))).setCell ⟨gb157, 4, none⟩ (.int .i64 ((D40 l1 x10_1).f2.f2))).setCell ⟨gb157, 5, none⟩ (.int .i64 ((D40 l1 x10_1).f3))).setCell ⟨gb157, 6, none⟩ (.slice A156_6 ((D40 l1 x10_1).f4).length c156_6)).setCell ⟨gb157, 7, none⟩ (.slice A156_7 ((D40 l1 x10_1).f5).length c156_7)).heap[gb155]? = some (.cells #[.slice (some ad158) l0_0.length c0_0, .slice A0_1 l0_1.length c0_1] 26 (0, 0))) := ⟨ZZ BK155.out⟩
  have n1_ : Za (((((((((w12.setCell ⟨gb157, 0, none⟩ (.int .i64 ((D40 l1 x10_1).f0))).setCell ⟨gb157, 1, none⟩ (.int .i64 ((D40 l1 x10_1).f1))).setCell ⟨gb157, 2, none⟩ (.int .i64 ((D40 l1 x10_1).f2.f0))).setCell ⟨gb157, 3, none⟩ (.int .i64 ((D40 l1 x10_1).f2.f1))).setCell ⟨gb157, 4, none⟩ (.int .i64 ((D40 l1 x10_1).f2.f2))).setCell ⟨gb157, 5, none⟩ (.int .i64 ((D40 l1 x10_1).f3))).setCell ⟨gb157, 6, none⟩ (.slice A156_6 ((D40 l1 x10_1).f4).length c156_6)).setCell ⟨gb157, 7, none⟩ (.slice A156_7 ((D40 l1 x10_1).f5).length c156_7)).heap[gb157]? = some (.cells #[.int .i64 ((D40 l1 x10_1).f0), .int .i64 ((D40 l1 x10_1).f1), .int .i64 ((D40 l1 x10_1).f2.f0), .int .i64 ((D40 l1 x10_1).f2.f1), .int .i64 ((D40 l1 x10_1).f2.f2), .int .i64 ((D40 l1 x10_1).f3), .slice A156_6 ((D40 l1 x10_1).f4).length c156_6, .slice A156_7 ((D40 l1 x10_1).f5).length c156_7] 40 (0, 0))) := ⟨ZZ BK157.out⟩
  have n2_ : Za (Below w.heap.size w ((((((((w12.setCell ⟨gb157, 0, none⟩ (.int .i64 ((D40 l1 x10_1).f0))).setCell ⟨gb157, 1, none⟩ (.int .i64 ((D40 l1 x10_1).f1))).setCell ⟨gb157, 2, none⟩ (.int .i64 ((D40 l1 x10_1).f2.f0))).setCell ⟨gb157, 3, none⟩ (.int .i64 ((D40 l1 x10_1).f2.f1))).setCell ⟨gb157, 4, none⟩ (.int .i64 ((D40 l1 x10_1).f2.f2))).setCell ⟨gb157, 5, none⟩ (.int .i64 ((D40 l1 x10_1).f3))).setCell ⟨gb157, 6, none⟩ (.slice A156_6 ((D40 l1 x10_1).f4).length c156_6)).setCell ⟨gb157, 7, none⟩ (.slice A156_7 ((D40 l1 x10_1).f5).length c156_7))) := ⟨ZB⟩
  (try clear BK155)
  (try clear BK157)
  (try clear HB)
  generalize ((((((((w12.setCell ⟨gb157, 0, none⟩ (.int .i64 ((D40 l1 x10_1).f0))).setCell ⟨gb157, 1, none⟩ (.int .i64 ((D40 l1 x10_1).f1))).setCell ⟨gb157, 2, none⟩ (.int .i64 ((D40 l1 x10_1).f2.f0))).setCell ⟨gb157, 3, none⟩ (.int .i64 ((D40 l1 x10_1).f2.f1))).setCell ⟨gb157, 4, none⟩ (.int .i64 ((D40 l1 x10_1).f2.f2))).setCell ⟨gb157, 5, none⟩ (.int .i64 ((D40 l1 x10_1).f3))).setCell ⟨gb157, 6, none⟩ (.slice A156_6 ((D40 l1 x10_1).f4).length c156_6)).setCell ⟨gb157, 7, none⟩ (.slice A156_7 ((D40 l1 x10_1).f5).length c156_7)) = w16 at n0_ n1_ n2_ ⊢
  have BK155 := n0_
  have BK157 := n1_
  have HB := n2_
  clear n0_ n1_ n2_
  replace BK155 := AM (blk_drew BK155.out)
  replace BK157 := AM (blk_drew BK157.out)
  replace HB := AM (below_drew1 HB.out)
  refine start_ (n := 12) (S := fun w' => w'.cell? ⟨gb155, 0, none⟩ = some (.slice (some ad158) l0_0.length c0_0) ∧ w'.cell? ⟨gb155, 1, none⟩ = some (.slice A0_1 l0_1.length c0_1) ∧ w'.cell? ⟨gb157, 0, none⟩ = some (.int .i64 ((D40 l1 x10_1).f0)) ∧ w'.cell? ⟨gb157, 1, none⟩ = some (.int .i64 ((D40 l1 x10_1).f1)) ∧ w'.cell? ⟨gb157, 2, none⟩ = some (.int .i64 ((D40 l1 x10_1).f2.f0)) ∧ w'.cell? ⟨gb157, 3, none⟩ = some (.int .i64 ((D40 l1 x10_1).f2.f1)) ∧ w'.cell? ⟨gb157, 4, none⟩ = some (.int .i64 ((D40 l1 x10_1).f2.f2)) ∧ w'.cell? ⟨gb157, 5, none⟩ = some (.int .i64 ((D40 l1 x10_1).f3)) ∧ w'.cell? ⟨gb157, 6, none⟩ = some (.slice A156_6 ((D40 l1 x10_1).f4).length c156_6) ∧ w'.cell? ⟨gb157, 7, none⟩ = some (.slice A156_7 ((D40 l1 x10_1).f5).length c156_7)) (ds := []) #[F,F,F,F,F,F,F,F,F,F,F,F] (by kernel_rfl) rfl rfl ⟨ZA BK155 0, ZA BK155 1, ZA BK157 0, ZA BK157 1, ZA BK157 2, ZA BK157 3, ZA BK157 4, ZA BK157 5, ZA BK157 6, ZA BK157 7⟩ (fun hHeld => ?_); refine with_tabW impl_Prog_sets.tab7 impl_Prog_sets.bits7 (fun HT_ HW_ => ?_)
  generalize w16.drew = w17 at BK155 BK157 HB hHeld ⊢
  refine ZU 0 26 #[T,F,F,F,F,F,F,F,F,F,F,F] ?_
  refine ZU 2 28 #[T,F,T,F,F,F,F,F,F,F,F,F] ?_
  refine ZU 6 32 #[T,F,T,F,F,F,T,F,F,F,F,F] ?_
  refine ZTK 1 27 #[T,T,T,F,F,F,T,F,F,F,F,F] hHeld ?_
  refine ZTK 3 29 #[T,T,T,T,F,F,T,F,F,F,F,F] hHeld ?_
  refine ZTK 5 31 #[T,T,T,T,F,T,T,F,F,F,F,F] hHeld ?_
  refine ZTK 7 33 #[T,T,T,T,F,T,T,T,F,F,F,F] hHeld ?_
  refine one_ (i := 4) (N := some 30) #[T,T,T,T,T,T,T,T,F,F,F,F] rfl rfl (one_of HT_.out (by kernel_rfl)) (by decide) (fun K hK => ?_)
  refine ZGO Try.func27 #[.agg #[.slice (some ad158) l0_0.length c0_0, .slice A0_1 l0_1.length c0_1], .slice A156_6 ((D40 l1 x10_1).f4).length c156_6] ?_
  with_reducible refine (ih k1 (by have := HK1.out; omega) _ _ l0_0 _ _ l0_1 _ _ ((D40 l1 x10_1).f4) t159 _ ?side1 ?side2 ?side3 ?side4 ?side5 ?side6 A10.out).mono ?_
  (case side1 => exact ZQ (Kd.C_below HR0_0.out HB.out))
  (case side2 => exact HC0_0.out)
  (case side3 => exact ZQ (Kd.C_below HR0_1.out HB.out))
  (case side4 => exact HC0_1.out)
  (case side5 => exact ZQ (Kd.C_below HR156_6.out HB.out))
  (case side6 => exact HC156_6.out)
  rintro e w18 ⟨rfl, hb⟩
  refine ZV1 ?_
  replace BK155 := ZW BK155 hb
  replace BK157 := ZW BK157 hb
  replace HB := ZT HB hb
  (try clear hb)
  (try clear hb2)
  (try clear hk)
  (try clear hi)
  refine hK.out _ _ ⟨ZA BK155 0, ZA BK155 1, ZA BK157 0, ZA BK157 1, ZA BK157 2, ZA BK157 3, ZA BK157 4, ZA BK157 5, ZA BK157 6, ZA BK157 7⟩ (fun hHeld => ?_)
  clear hK K
  refine ZNO 30 ?_
  refine one_ (i := 8) (N := some 34) #[T,T,T,T,T,T,T,T,T,F,F,F] rfl rfl (one_of HT_.out (by kernel_rfl)) (by decide) (fun K hK => ?_)
  refine ZGO Try.func27 #[.agg #[.slice (some ad158) l0_0.length c0_0, .slice A0_1 l0_1.length c0_1], .slice A156_7 ((D40 l1 x10_1).f5).length c156_7] ?_
  with_reducible refine (ih k1 (by have := HK1.out; omega) _ _ l0_0 _ _ l0_1 _ _ ((D40 l1 x10_1).f5) t160 _ ?side1 ?side2 ?side3 ?side4 ?side5 ?side6 A11.out).mono ?_
  (case side1 => exact ZQ (Kd.C_below HR0_0.out HB.out))
  (case side2 => exact HC0_0.out)
  (case side3 => exact ZQ (Kd.C_below HR0_1.out HB.out))
  (case side4 => exact HC0_1.out)
  (case side5 => exact ZQ (Kd.C_below HR156_7.out HB.out))
  (case side6 => exact HC156_7.out)
  rintro e w19 ⟨rfl, hb⟩
  refine ZV1 ?_
  replace BK155 := ZW BK155 hb
  replace BK157 := ZW BK157 hb
  replace HB := ZT HB hb
  (try clear hb)
  (try clear hb2)
  (try clear hk)
  (try clear hi)
  refine hK.out _ _ ⟨ZA BK155 0, ZA BK155 1, ZA BK157 0, ZA BK157 1, ZA BK157 2, ZA BK157 3, ZA BK157 4, ZA BK157 5, ZA BK157 6, ZA BK157 7⟩ (fun hHeld => ?_)
  clear hK K
  refine ZNO 34 ?_
  refine ZU 9 35 #[T,T,T,T,T,T,T,T,T,T,F,F] ?_
  refine ZU 10 36 #[T,T,T,T,T,T,T,T,T,T,T,F] ?_
  refine ZU 11 5 #[T,T,T,T,T,T,T,T,T,T,T,T] ?_
  refine done_ (done_of HT_.out (by kernel_rfl)) ?_
  try go_wp2
  go_roundg k1
  case measure => have := HK1.out; omega
  case rel => exact ⟨(Go.bits .or .i64 (Go.bits .or .i64 x5_1 ((D35 l0_0 ((D40 l1 x10_1).f1)).f1)) (Go.bits .or .i64 t159 t160)), (wrap64 (x10_1 + 1)), ZSM, ZSM, H', ⟨by have := HK1.out; omega⟩, ⟨ZK BK155.out⟩, ⟨ZB⟩⟩)
  ·(
  rw [if_neg c9] at H
  exact absurd H (by simp)))
  ·(
  rw [if_neg c8] at H
  exact absurd H (by simp)))
  ·(
  rw [if_neg c7] at H
  have c7b0 := beq_eq_false_iff_ne.mpr c7
  have c7b1 := bne_iff_ne.mpr c7
  obtain ⟨t161, A20, H⟩ := ZOB H; try dsimp only at H
  obtain ⟨t162, A21, H⟩ := ZOB H; try dsimp only at H
  have H' := AM H
  clear H
  have p156 : 0 ≤ (x10_1 : Int) := ZD
  have q156 : x10_1 < (l1.length : Int) := ZD
  obtain ⟨ad156, A156_6, c156_6, A156_7, c156_7, e156, hx156_0, hx156_1, hx156_2, hx156_3, hx156_4, hx156_5, hx156_6, hx156_7, hl156_6, hi156_6, hl156_7, hi156_7⟩ := at_T40 HR1.out x10_1 p156 q156
  cases e156
  replace hx156_0 := ZHX HB hx156_0
  replace hx156_1 := ZHX HB hx156_1
  replace hx156_2 := ZHX HB hx156_2
  replace hx156_3 := ZHX HB hx156_3
  replace hx156_4 := ZHX HB hx156_4
  replace hx156_5 := ZHX HB hx156_5
  replace hx156_6 := ZHX HB hx156_6
  replace hx156_7 := ZHX HB hx156_7
  have HR156_6 := AM hi156_6
  have HC156_6 := AM hl156_6
  clear hi156_6 hl156_6
  have HR156_7 := AM hi156_7
  have HC156_7 := AM hl156_7
  clear hi156_7 hl156_7
  replace p156 := eq_true p156
  replace q156 := eq_true q156
  try go_wp2_with (first | ((with_reducible refine gate_dst (N := 7) rfl ?_); refine ZXW w (N := 7) (cs := #[.int .i64 0, .int .i64 0, .int .i64 0, .int .i64 0, .int .i64 0, .int .i64 0, .slice none 0 0, .slice none 0 0]) (t := 40) ?_; intro gb157 hg w22 BK157 GW157 hb; have NB155_157 : Za (gb155 ≠ gb157) := ZN hg BK155; have NB157_155 : Za (gb157 ≠ gb155) := ZM hg BK155; replace BK155 := ZW BK155 hb; replace HB := ZT HB hb; clear hb hg; have hnb23 := NB157_155.out; have hnc23 := NB155_157.out; have hcz24 := ZC8 w22 BK157))
  have n0_ : Za (((((((((w22.setCell ⟨gb157, 0, none⟩ (.int .i64 ((D40 l1 x10_1).f0))).setCell ⟨gb157, 1, none⟩ (.int .i64 ((D40 l1 x10_1).f1))).setCell ⟨gb157, 2, none⟩ (.int .i64 ((D40 l1 x10_1).f2.f0))).setCell ⟨gb157, 3, none⟩ (.int .i64 ((D40 l1 x10_1).f2.f1))).setCell ⟨gb157, 4, none⟩ (.int .i64 ((D40 l1 x10_1).f2.f2))).setCell ⟨gb157, 5, none⟩ (.int .i64 ((D40 l1 x10_1).f3))).setCell ⟨gb157, 6, none⟩ (.slice A156_6 ((D40 l1 x10_1).f4).length c156_6)).setCell ⟨gb157, 7, none⟩ (.slice A156_7 ((D40 l1 x10_1).f5).length c156_7)).heap[gb155]? = some (.cells #[.slice A0_0 l0_0.length c0_0, .slice A0_1 l0_1.length c0_1] 26 (0, 0))) := ⟨ZZ BK155.out⟩
  have n1_ : Za (((((((((w22.setCell ⟨gb157, 0, none⟩ (.int .i64 ((D40 l1 x10_1).f0))).setCell ⟨gb157, 1, none⟩ (.int .i64 ((D40 l1 x10_1).f1))).setCell ⟨gb157, 2, none⟩ (.int .i64 ((D40 l1 x10_1).f2.f0))).setCell ⟨gb157, 3, none⟩ (.int .i64 ((D40 l1 x10_1).f2.f1))).setCell ⟨gb157, 4, none⟩ (.int .i64 ((D40 l1 x10_1).f2.f2))).setCell ⟨gb157, 5, none⟩ (.int .i64 ((D40 l1 x10_1).f3))).setCell ⟨gb157, 6, none⟩ (.slice A156_6 ((D40 l1 x10_1).f4).length c156_6)).setCell ⟨gb157, 7, none⟩ (.slice A156_7 ((D40 l1 x10_1).f5).length c156_7)).heap[gb157]? = some (.cells #[.int .i64 ((D40 l1 x10_1).f0), .int .i64 ((D40 l1 x10_1).f1), .int .i64 ((D40 l1 x10_1).f2.f0), .int .i64 ((D40 l1 x10_1).f2.f1), .int .i64 ((D40 l1 x10_1).f2.f2), .int .i64 ((D40 l1 x10_1).f3), .slice A156_6 ((D40 l1 x10_1).f4).length c156_6, .slice A156_7 ((D40 l1 x10_1).f5).length c156_7] 40 (0, 0))) := ⟨ZZ BK157.out⟩
  have n2_ : Za (Below w.heap.size w ((((((((w22.setCell ⟨gb157, 0, none⟩ (.int .i64 ((D40 l1 x10_1).f0))).setCell ⟨gb157, 1, none⟩ (.int .i64 ((D40 l1 x10_1).f1))).setCell ⟨gb157, 2, none⟩ (.int .i64 ((D40 l1 x10_1).f2.f0))).setCell ⟨gb157, 3, none⟩ (.int .i64 ((D40 l1 x10_1).f2.f1))).setCell ⟨gb157, 4, none⟩ (.int .i64 ((D40 l1 x10_1).f2.f2))).setCell ⟨gb157, 5, none⟩ (.int .i64 ((D40 l1 x10_1).f3))).setCell ⟨gb157, 6, none⟩ (.slice A156_6 ((D40 l1 x10_1).f4).length c156_6)).setCell ⟨gb157, 7, none⟩ (.slice A156_7 ((D40 l1 x10_1).f5).length c156_7))) := ⟨ZB⟩
  (try clear BK155)
  (try clear BK157)
  (try clear HB)
  generalize ((((((((w22.setCell ⟨gb157, 0, none⟩ (.int .i64 ((D40 l1 x10_1).f0))).setCell ⟨gb157, 1, none⟩ (.int .i64 ((D40 l1 x10_1).f1))).setCell ⟨gb157, 2, none⟩ (.int .i64 ((D40 l1 x10_1).f2.f0))).setCell ⟨gb157, 3, none⟩ (.int .i64 ((D40 l1 x10_1).f2.f1))).setCell ⟨gb157, 4, none⟩ (.int .i64 ((D40 l1 x10_1).f2.f2))).setCell ⟨gb157, 5, none⟩ (.int .i64 ((D40 l1 x10_1).f3))).setCell ⟨gb157, 6, none⟩ (.slice A156_6 ((D40 l1 x10_1).f4).length c156_6)).setCell ⟨gb157, 7, none⟩ (.slice A156_7 ((D40 l1 x10_1).f5).length c156_7)) = w25 at n0_ n1_ n2_ ⊢
  have BK155 := n0_
  have BK157 := n1_
  have HB := n2_
  clear n0_ n1_ n2_
  replace BK155 := AM (blk_drew BK155.out)
  replace BK157 := AM (blk_drew BK157.out)
  replace HB := AM (below_drew1 HB.out)
  refine start_ (n := 12) (S := fun w' => w'.cell? ⟨gb155, 0, none⟩ = some (.slice A0_0 l0_0.length c0_0) ∧ w'.cell? ⟨gb155, 1, none⟩ = some (.slice A0_1 l0_1.length c0_1) ∧ w'.cell? ⟨gb157, 0, none⟩ = some (.int .i64 ((D40 l1 x10_1).f0)) ∧ w'.cell? ⟨gb157, 1, none⟩ = some (.int .i64 ((D40 l1 x10_1).f1)) ∧ w'.cell? ⟨gb157, 2, none⟩ = some (.int .i64 ((D40 l1 x10_1).f2.f0)) ∧ w'.cell? ⟨gb157, 3, none⟩ = some (.int .i64 ((D40 l1 x10_1).f2.f1)) ∧ w'.cell? ⟨gb157, 4, none⟩ = some (.int .i64 ((D40 l1 x10_1).f2.f2)) ∧ w'.cell? ⟨gb157, 5, none⟩ = some (.int .i64 ((D40 l1 x10_1).f3)) ∧ w'.cell? ⟨gb157, 6, none⟩ = some (.slice A156_6 ((D40 l1 x10_1).f4).length c156_6) ∧ w'.cell? ⟨gb157, 7, none⟩ = some (.slice A156_7 ((D40 l1 x10_1).f5).length c156_7)) (ds := []) #[F,F,F,F,F,F,F,F,F,F,F,F] (by kernel_rfl) rfl rfl ⟨ZA BK155 0, ZA BK155 1, ZA BK157 0, ZA BK157 1, ZA BK157 2, ZA BK157 3, ZA BK157 4, ZA BK157 5, ZA BK157 6, ZA BK157 7⟩ (fun hHeld => ?_); refine with_tabW impl_Prog_sets.tab7 impl_Prog_sets.bits7 (fun HT_ HW_ => ?_)
  generalize w25.drew = w26 at BK155 BK157 HB hHeld ⊢
  refine ZU 0 26 #[T,F,F,F,F,F,F,F,F,F,F,F] ?_
  refine ZU 2 28 #[T,F,T,F,F,F,F,F,F,F,F,F] ?_
  refine ZU 6 32 #[T,F,T,F,F,F,T,F,F,F,F,F] ?_
  refine ZTK 1 27 #[T,T,T,F,F,F,T,F,F,F,F,F] hHeld ?_
  refine ZTK 3 29 #[T,T,T,T,F,F,T,F,F,F,F,F] hHeld ?_
  refine ZTK 5 31 #[T,T,T,T,F,T,T,F,F,F,F,F] hHeld ?_
  refine ZTK 7 33 #[T,T,T,T,F,T,T,T,F,F,F,F] hHeld ?_
  refine one_ (i := 4) (N := some 30) #[T,T,T,T,T,T,T,T,F,F,F,F] rfl rfl (one_of HT_.out (by kernel_rfl)) (by decide) (fun K hK => ?_)
  refine ZGO Try.func27 #[.agg #[.slice A0_0 l0_0.length c0_0, .slice A0_1 l0_1.length c0_1], .slice A156_6 ((D40 l1 x10_1).f4).length c156_6] ?_
  with_reducible refine (ih k1 (by have := HK1.out; omega) _ _ l0_0 _ _ l0_1 _ _ ((D40 l1 x10_1).f4) t161 _ ?side1 ?side2 ?side3 ?side4 ?side5 ?side6 A20.out).mono ?_
  (case side1 => exact ZQ (Kd.C_below HR0_0.out HB.out))
  (case side2 => exact HC0_0.out)
  (case side3 => exact ZQ (Kd.C_below HR0_1.out HB.out))
  (case side4 => exact HC0_1.out)
  (case side5 => exact ZQ (Kd.C_below HR156_6.out HB.out))
  (case side6 => exact HC156_6.out)
  rintro e w27 ⟨rfl, hb⟩
  refine ZV1 ?_
  replace BK155 := ZW BK155 hb
  replace BK157 := ZW BK157 hb
  replace HB := ZT HB hb
  (try clear hb)
  (try clear hb2)
  (try clear hk)
  (try clear hi)
  refine hK.out _ _ ⟨ZA BK155 0, ZA BK155 1, ZA BK157 0, ZA BK157 1, ZA BK157 2, ZA BK157 3, ZA BK157 4, ZA BK157 5, ZA BK157 6, ZA BK157 7⟩ (fun hHeld => ?_)
  clear hK K
  refine ZNO 30 ?_
  refine one_ (i := 8) (N := some 34) #[T,T,T,T,T,T,T,T,T,F,F,F] rfl rfl (one_of HT_.out (by kernel_rfl)) (by decide) (fun K hK => ?_)
  refine ZGO Try.func27 #[.agg #[.slice A0_0 l0_0.length c0_0, .slice A0_1 l0_1.length c0_1], .slice A156_7 ((D40 l1 x10_1).f5).length c156_7] ?_
  with_reducible refine (ih k1 (by have := HK1.out; omega) _ _ l0_0 _ _ l0_1 _ _ ((D40 l1 x10_1).f5) t162 _ ?side1 ?side2 ?side3 ?side4 ?side5 ?side6 A21.out).mono ?_
  (case side1 => exact ZQ (Kd.C_below HR0_0.out HB.out))
  (case side2 => exact HC0_0.out)
  (case side3 => exact ZQ (Kd.C_below HR0_1.out HB.out))
  (case side4 => exact HC0_1.out)
  (case side5 => exact ZQ (Kd.C_below HR156_7.out HB.out))
  (case side6 => exact HC156_7.out)
  rintro e w28 ⟨rfl, hb⟩
  refine ZV1 ?_
  replace BK155 := ZW BK155 hb
  replace BK157 := ZW BK157 hb
  replace HB := ZT HB hb
  (try clear hb)
  (try clear hb2)
  (try clear hk)
  (try clear hi)
  refine hK.out _ _ ⟨ZA BK155 0, ZA BK155 1, ZA BK157 0, ZA BK157 1, ZA BK157 2, ZA BK157 3, ZA BK157 4, ZA BK157 5, ZA BK157 6, ZA BK157 7⟩ (fun hHeld => ?_)
  clear hK K
  refine ZNO 34 ?_
  refine ZU 9 35 #[T,T,T,T,T,T,T,T,T,T,F,F] ?_
  refine ZU 10 36 #[T,T,T,T,T,T,T,T,T,T,T,F] ?_
  refine ZU 11 5 #[T,T,T,T,T,T,T,T,T,T,T,T] ?_
  refine done_ (done_of HT_.out (by kernel_rfl)) ?_
  try go_wp2
  go_roundg k1
  case measure => have := HK1.out; omega
  case rel => exact ⟨(Go.bits .or .i64 x5_1 (Go.bits .or .i64 t161 t162)), (wrap64 (x10_1 + 1)), ZSM, ZSM, H', ⟨by have := HK1.out; omega⟩, ⟨ZK BK155.out⟩, ⟨ZB⟩⟩))
  ·(
  rw [if_neg c6] at H
  exact absurd H (by simp)))
  ·(
  rw [if_neg c5] at H
  exact absurd H (by simp)))
  ·(
  rw [if_neg c4] at H
  have c4b0 := decide_eq_false c4
  clear c4
  obtain rfl := Option.some.inj H
  go_wp2
  go_ret
  exact ⟨ZE, ZB⟩))

end Go.Proofs.Ytkkdeojbkfjlpaa.A
