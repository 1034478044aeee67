/- Go functions as Lean functions, and for each its contract; written by wip/tools/pr.py over the kit's print. -/
import Derived.Test.YtaflodibibbakaaAx0
namespace Go.Proofs.Ytaflodibibbakaa.A
open Go.RowKit Go.Proofs.YtaflodibibbakaaW.PrintWords Go.Proofs.YtaflodibibbakaaW.PrintLast Go.Proofs.YtaflodibibbakaaW.PrintMore
attribute [local go_sem] max2_int min2_int max_two min_two max_three min_three max_four min_four
set_option linter.unusedVariables false
set_option linter.unusedSimpArgs false
set_option maxHeartbeats 8000000
set_option maxRecDepth 100000

/-! ### impl_Prog_sets: function 53 -/
mutual
def impl_Prog_sets.l0 : Nat → Int → List (S50) → Int → Int → List (S60) → List (S50) → Option (Int)
 | 0, _, _, _, _, _, _ => none
 | k + 1, x5, x8, x9, x10, x588000, x588001 => if x10 < x9 then (if 0 ≤ x10 then (if x10 < (x8.length : Int) then (if ((rd_T50 x8 x10).f0) = 1 then (if 0 ≤ ((rd_T50 x8 x10).f1) then (if ((rd_T50 x8 x10).f1) < (x588000.length : Int) then ((impl_Prog_sets.f k x588000 x588001 ((rd_T50 x8 x10).f4)).bind fun t591 => ((impl_Prog_sets.f k x588000 x588001 ((rd_T50 x8 x10).f5)).bind fun t592 => (impl_Prog_sets.l0 k (Go.bits .or .i64 (Go.bits .or .i64 x5 ((rd_T60 x588000 ((rd_T50 x8 x10).f1)).f1)) (Go.bits .or .i64 t591 t592)) x8 x9 (wrap64 (x10 + 1)) x588000 x588001))) else (none)) else (none)) else ((impl_Prog_sets.f k x588000 x588001 ((rd_T50 x8 x10).f4)).bind fun t593 => ((impl_Prog_sets.f k x588000 x588001 ((rd_T50 x8 x10).f5)).bind fun t594 => (impl_Prog_sets.l0 k (Go.bits .or .i64 x5 (Go.bits .or .i64 t593 t594)) x8 x9 (wrap64 (x10 + 1)) x588000 x588001)))) else (none)) else (none)) else (some x5)
def impl_Prog_sets.f : Nat → List (S60) → List (S50) → List (S50) → Option (Int)
 | 0, _, _, _ => none
 | k + 1, l0_0, l0_1, l1 => impl_Prog_sets.l0 k 0 l1 (l1.length : Int) 0 l0_0 l0_1
end
def impl_Prog_sets.T7 : Bool × List (List Nat × List Nat) := (true, [([], []), ([], []), ([], []), ([2], [2]), ([1, 3], [1, 3]), ([], []), ([], []), ([6], [6]), ([5, 7, 4], [5, 7]), ([4, 8], [4, 8]), ([0, 9], [0, 9]), ([10, 8, 0, 1, 2, 3, 4, 5, 6, 7, 8, 9, 10], [0, 10])])
def impl_Prog_sets.B7 : List Nat := [0, 0, 0, 4, 14, 0, 0, 64, 254, 510, 1023, 2047]
theorem impl_Prog_sets.tab7 : rtab .any (opsOf Try.f53 7) = impl_Prog_sets.T7 := by kernel_rfl
theorem impl_Prog_sets.bits7 : waitsOk impl_Prog_sets.T7.2 impl_Prog_sets.B7 = true := by kernel_rfl
theorem impl_Prog_sets.calls (k : Nat) : ∀ (A0_0 : Option Addr) (c0_0 : Nat) (l0_0 : List (S60)) (A0_1 : Option Addr) (c0_1 : Nat) (l0_1 : List (S50)) (A1 : Option Addr) (c1 : Nat) (l1 : List (S50)) (r : Int) (w : World) (hr0_0 : Kd.C k60 w A0_0 l0_0.length l0_0) (hc0_0 : l0_0.length ≤ c0_0) (hr0_1 : Kd.C k50 w A0_1 l0_1.length l0_1) (hc0_1 : l0_1.length ≤ c0_1) (hr1 : Kd.C k50 w A1 l1.length l1) (hc1 : l1.length ≤ c1) (h : impl_Prog_sets.f k l0_0 l0_1 l1 = some r),
  Calls Try.prog 53 #[.agg #[.slice A0_0 l0_0.length c0_0, .slice A0_1 l0_1.length c0_1], .slice A1 l1.length c1] w fun e w' => e = .returned (.int .i64 r) ∧ Below w.heap.size w w' := by
 induction k using Nat.strongRecOn with
 | _ k ih =>
 intro A0_0 c0_0 l0_0 A0_1 c0_1 l0_1 A1 c1 l1 r w hr0_0 hc0_0 hr0_1 hc0_1 hr1 hc1 h
 cases k with
 | zero => exact absurd h (by simp [impl_Prog_sets.f])
 | succ k =>
 simp only [impl_Prog_sets.f] at h
 have hu32 := Try.underlying32
 have hu50 := Try.underlying50
 have HR0_0 := AM hr0_0
 have HC0_0 := AM hc0_0
 clear hr0_0 hc0_0
 have HR0_1 := AM hr0_1
 have HC0_1 := AM hc0_1
 clear hr0_1 hc0_1
 have HR1 := AM hr1
 have HC1 := AM hc1
 clear hr1 hc1
 have HB := AM (Below.refl w.heap.size w)
 have H : (impl_Prog_sets.l0 k 0 l1 (l1.length : Int) 0 l0_0 l0_1) = some r := h
 clear h
 have H' := AM H
 clear H
 go_enter Try.func53, Try.ntmps53
 go_wp2_with (first | ((with_reducible refine gate_dst (N := 2) rfl ?_); refine ZX (N := 2) (cs := #[.slice A0_0 l0_0.length c0_0, .slice A0_1 l0_1.length c0_1]) (t := 32) ?_; intro gb587 hg w3 hbox hb; have BK587 := AM (hbox); have GW587 : Aside0 (w.heap.size ≤ gb587) := ZS hg; have GE587 : Aside0 (w.heap.size ≤ gb587) := ZS hg; replace HB := ZT HB hb; clear hb hbox hg))
 go_loopg [5, 10] k (fun kq v5 v10 w' => ∃ (x5_1 : Int) (x10_1 : Int), v5 = .int .i64 x5_1 ∧ v10 = .int .i64 x10_1 ∧ Aside0 (impl_Prog_sets.l0 kq x5_1 l1 (l1.length : Int) x10_1 l0_0 l0_1 = some r) ∧ Aside0 (kq ≤ k) ∧ Aside0 (w'.heap[gb587]? = some (.cells #[(.slice A0_0 l0_0.length c0_0), (.slice A0_1 l0_1.length c0_1)] 32 (0, 0))) ∧ Aside0 (Below w.heap.size w w'))
 case atStart => exact ⟨(0), (0), (by first | rfl | (simp; done) | (simp [*]; done)), (by first | rfl | (simp; done) | (simp [*]; done)), H', ⟨Nat.le_refl _⟩, ⟨ZK BK587.out⟩, ⟨ZB⟩⟩
 case round => (
 clear H'
 try clear c1
 try clear p2
 obtain ⟨x5_1, x10_1, rfl, rfl, HA, HK1, BK587, HB⟩ := hrel
 cases gk with
 | zero => exact absurd HA.out (by simp [impl_Prog_sets.l0])
 | succ k1 =>
  have H := HA.out
  clear HA
  simp only [impl_Prog_sets.l0] at H
  by_cases c4 : x10_1 < (l1.length : Int)
  ·(
  rw [if_pos c4] at H
  have c4b0 := decide_eq_true c4
  clear c4
  by_cases c5 : 0 ≤ x10_1
  ·(
  rw [if_pos c5] at H
  have c5b0 := decide_eq_true c5
  clear c5
  by_cases c6 : x10_1 < (l1.length : Int)
  ·(
  rw [if_pos c6] at H
  have c6b0 := decide_eq_true c6
  clear c6
  by_cases c7 : ((rd_T50 l1 x10_1).f0) = 1
  ·(
  rw [if_pos c7] at H
  have c7b0 := beq_iff_eq.mpr c7
  have c7b1 := bne_eq_false_iff_eq.mpr c7
  clear c7
  by_cases c8 : 0 ≤ ((rd_T50 l1 x10_1).f1)
  ·(
  rw [if_pos c8] at H
  have c8b0 := decide_eq_true c8
  clear c8
  by_cases c9 : ((rd_T50 l1 x10_1).f1) < (l0_0.length : Int)
  ·(
  rw [if_pos c9] at H
  have c9b0 := decide_eq_true c9
  clear c9
  obtain ⟨t591, A10, H⟩ := ZOB H; try dsimp only at H
  obtain ⟨t592, A11, H⟩ := ZOB H; try dsimp only at H
  have H' := AM H
  clear H
  have p588 : 0 ≤ (x10_1 : Int) := ZD
  have q588 : x10_1 < (l1.length : Int) := ZD
  obtain ⟨ad588, A588_6, c588_6, A588_7, c588_7, e588, hx588_0, hx588_1, hx588_2, hx588_3, hx588_4, hx588_5, hx588_6, hx588_7, hl588_6, hi588_6, hl588_7, hi588_7⟩ := at_T50 HR1.out x10_1 p588 q588
  cases e588
  replace hx588_0 := ZHX HB hx588_0
  replace hx588_1 := ZHX HB hx588_1
  replace hx588_2 := ZHX HB hx588_2
  replace hx588_3 := ZHX HB hx588_3
  replace hx588_4 := ZHX HB hx588_4
  replace hx588_5 := ZHX HB hx588_5
  replace hx588_6 := ZHX HB hx588_6
  replace hx588_7 := ZHX HB hx588_7
  have HR588_6 := AM hi588_6
  have HC588_6 := AM hl588_6
  clear hi588_6 hl588_6
  have HR588_7 := AM hi588_7
  have HC588_7 := AM hl588_7
  clear hi588_7 hl588_7
  replace p588 := eq_true p588
  replace q588 := eq_true q588
  try go_wp2_with (first | ((with_reducible refine gate_dst (N := 7) rfl ?_); refine ZX (N := 7) (cs := #[.int .i64 0, .int .i64 0, .int .i64 0, .int .i64 0, .int .i64 0, .int .i64 0, .slice none 0 0, .slice none 0 0]) (t := 50) ?_; intro gb589 hg w12 hbox hb; have BK589 := AM (hbox); have GW589 : Aside0 (w.heap.size ≤ gb589) := ZS hg; have GE589 : Aside0 (w.heap.size ≤ gb589) := ZS hg; have NB587_589 : Aside0 (gb587 ≠ gb589) := ZN hg BK587; have NB589_587 : Aside0 (gb589 ≠ gb587) := ZM hg BK587; replace BK587 := ZW BK587 hb; replace HB := ZT HB hb; clear hb hbox hg; have hnb13 := NB589_587.out; have hnc13 := NB587_589.out; have hcz14 := ZC8 w12 BK589; have hfz14 := ZF8 BK589; have hcz15 := ZC2 w12 BK587; have hfz15 := ZF2 BK587; have p590 : 0 ≤ (((rd_T50 l1 x10_1).f1) : Int) := ZD; have q590 : ((rd_T50 l1 x10_1).f1) < (l0_0.length : Int) := ZD; obtain ⟨ad590, e590, hx590_0, hx590_1⟩ := at_T60 HR0_0.out ((rd_T50 l1 x10_1).f1) p590 q590; cases e590; have hn590_0 : ad590.block ≠ gb589 := ZO hx590_0 GW589; have hn590_1 : ad590.block ≠ gb589 := ZO hx590_0 GW589; have hn590_2 : ad590.block ≠ gb589 := ZO hx590_0 GW589; have hn590_3 : ad590.block ≠ gb589 := ZO hx590_0 GW589; have hn590_4 : ad590.block ≠ gb589 := ZO hx590_0 GW589; have hn590_5 : ad590.block ≠ gb589 := ZO hx590_0 GW589; have hn590_6 : ad590.block ≠ gb589 := ZO hx590_0 GW589; have hn590_7 : ad590.block ≠ gb589 := ZO hx590_0 GW589; replace hx590_0 := ZHX HB hx590_0; replace hx590_1 := ZHX HB hx590_1; replace hx590_0 := (cell_far (p := ⟨gb589, 0, none⟩) (ZY hn590_0) (.int .i64 ((rd_T50 l1 x10_1).f0))).trans hx590_0; replace hx590_1 := (cell_far (p := ⟨gb589, 0, none⟩) (ZY hn590_0) (.int .i64 ((rd_T50 l1 x10_1).f0))).trans hx590_1; replace hx590_0 := (cell_far (p := ⟨gb589, 1, none⟩) (ZY hn590_1) (.int .i64 ((rd_T50 l1 x10_1).f1))).trans hx590_0; replace hx590_1 := (cell_far (p := ⟨gb589, 1, none⟩) (ZY hn590_1) (.int .i64 ((rd_T50 l1 x10_1).f1))).trans hx590_1; replace hx590_0 := (cell_far (p := ⟨gb589, 2, none⟩) (ZY hn590_2) (.int .i64 ((rd_T50 l1 x10_1).f2.f0))).trans hx590_0; replace hx590_1 := (cell_far (p := ⟨gb589, 2, none⟩) (ZY hn590_2) (.int .i64 ((rd_T50 l1 x10_1).f2.f0))).trans hx590_1; replace hx590_0 := (cell_far (p := ⟨gb589, 3, none⟩) (ZY hn590_3) (.int .i64 ((rd_T50 l1 x10_1).f2.f1))).trans hx590_0; replace hx590_1 := (cell_far (p := ⟨gb589, 3, none⟩) (ZY hn590_3) (.int .i64 ((rd_T50 l1 x10_1).f2.f1))).trans hx590_1; replace hx590_0 := (cell_far (p := ⟨gb589, 4, none⟩) (ZY hn590_4) (.int .i64 ((rd_T50 l1 x10_1).f2.f2))).trans hx590_0; replace hx590_1 := (cell_far (p := ⟨gb589, 4, none⟩) (ZY hn590_4) (.int .i64 ((rd_T50 l1 x10_1).f2.f2))).trans hx590_1; replace hx590_0 := (cell_far (p := ⟨gb589, 5, none⟩) (ZY hn590_5) (.int .i64 ((rd_T50 l1 x10_1).f3))).trans hx590_0; replace hx590_1 := (cell_far (p := ⟨gb589, 5, none⟩) (ZY hn590_5) (.int .i64 ((rd_T50 l1 x10_1).f3))).trans hx590_1; replace hx590_0 := (cell_far (p := ⟨gb589, 6, none⟩) (ZY hn590_6) (.slice A588_6 ((rd_T50 l1 x10_1).f4).length c588_6)).trans hx590_0; replace hx590_1 := (cell_far (p := ⟨gb589, 6, none⟩) (ZY hn590_6) (.slice A588_6 ((rd_T50 l1 x10_1).f4).length c588_6)).trans hx590_1; replace hx590_0 := (cell_far (p := ⟨gb589, 7, none⟩) (ZY hn590_7) (.slice A588_7 ((rd_T50 l1 x10_1).f5).length c588_7)).trans hx590_0; replace hx590_1 := (cell_far (p := ⟨gb589, 7, none⟩) (ZY hn590_7) (.slice A588_7 ((rd_T50 l1 x10_1).f5).length c588_7)).trans hx590_1; clear hn590_0 hn590_1 hn590_2 hn590_3 hn590_4 hn590_5 hn590_6 hn590_7; replace p590 := eq_true p590; replace q590 := eq_true q590))
  have n0_ : Aside0 (((((((((w12.setCell ⟨gb589, 0, none⟩ (.int .i64 ((rd_T50 l1 x10_1).f0))).setCell ⟨gb589, 1, none⟩ (.int .i64 ((rd_T50 l1 x10_1).f1))).setCell ⟨gb589, 2, none⟩ (.int .i64 ((rd_T50 l1 x10_1).f2.f0))).setCell ⟨gb589, 3, none⟩ (.int .i64 ((rd_T50 l1 x10_1).f2.f1))).setCell ⟨gb589, 4, none⟩ (.int .i64 ((rd_T50 l1 x10_1).f2.f2))).setCell ⟨gb589, 5, none⟩ (.int .i64 ((rd_T50 l1 x10_1).f3))).setCell ⟨gb589, 6, none⟩ (.slice A588_6 ((rd_T50 l1 x10_1).f4).length c588_6)).setCell ⟨gb589, 7, none⟩ (.slice A588_7 ((rd_T50 l1 x10_1).f5).length c588_7)).heap[gb587]? = some (.cells #[.slice (some ad590) l0_0.length c0_0, .slice A0_1 l0_1.length c0_1] 32 (0, 0))) := ⟨ZZ BK587.out⟩
  have n1_ : Aside0 (((((((((w12.setCell ⟨gb589, 0, none⟩ (.int .i64 ((rd_T50 l1 x10_1).f0))).setCell ⟨gb589, 1, none⟩ (.int .i64 ((rd_T50 l1 x10_1).f1))).setCell ⟨gb589, 2, none⟩ (.int .i64 ((rd_T50 l1 x10_1).f2.f0))).setCell ⟨gb589, 3, none⟩ (.int .i64 ((rd_T50 l1 x10_1).f2.f1))).setCell ⟨gb589, 4, none⟩ (.int .i64 ((rd_T50 l1 x10_1).f2.f2))).setCell ⟨gb589, 5, none⟩ (.int .i64 ((rd_T50 l1 x10_1).f3))).setCell ⟨gb589, 6, none⟩ (.slice A588_6 ((rd_T50 l1 x10_1).f4).length c588_6)).setCell ⟨gb589, 7, none⟩ (.slice A588_7 ((rd_T50 l1 x10_1).f5).length c588_7)).heap[gb589]? = some (.cells #[.int .i64 ((rd_T50 l1 x10_1).f0), .int .i64 ((rd_T50 l1 x10_1).f1), .int .i64 ((rd_T50 l1 x10_1).f2.f0), .int .i64 ((rd_T50 l1 x10_1).f2.f1), .int .i64 ((rd_T50 l1 x10_1).f2.f2), .int .i64 ((rd_T50 l1 x10_1).f3), .slice A588_6 ((rd_T50 l1 x10_1).f4).length c588_6, .slice A588_7 ((rd_T50 l1 x10_1).f5).length c588_7] 50 (0, 0))) := ⟨ZZ BK589.out⟩
  have n2_ : Aside0 (Below w.heap.size w ((((((((w12.setCell ⟨gb589, 0, none⟩ (.int .i64 ((rd_T50 l1 x10_1).f0))).setCell ⟨gb589, 1, none⟩ (.int .i64 ((rd_T50 l1 x10_1).f1))).setCell ⟨gb589, 2, none⟩ (.int .i64 ((rd_T50 l1 x10_1).f2.f0))).setCell ⟨gb589, 3, none⟩ (.int .i64 ((rd_T50 l1 x10_1).f2.f1))).setCell ⟨gb589, 4, none⟩ (.int .i64 ((rd_T50 l1 x10_1).f2.f2))).setCell ⟨gb589, 5, none⟩ (.int .i64 ((rd_T50 l1 x10_1).f3))).setCell ⟨gb589, 6, none⟩ (.slice A588_6 ((rd_T50 l1 x10_1).f4).length c588_6)).setCell ⟨gb589, 7, none⟩ (.slice A588_7 ((rd_T50 l1 x10_1).f5).length c588_7))) := ⟨ZB⟩
  (try clear BK587)
  (try clear BK589)
  (try clear HB)
  generalize ((((((((w12.setCell ⟨gb589, 0, none⟩ (.int .i64 ((rd_T50 l1 x10_1).f0))).setCell ⟨gb589, 1, none⟩ (.int .i64 ((rd_T50 l1 x10_1).f1))).setCell ⟨gb589, 2, none⟩ (.int .i64 ((rd_T50 l1 x10_1).f2.f0))).setCell ⟨gb589, 3, none⟩ (.int .i64 ((rd_T50 l1 x10_1).f2.f1))).setCell ⟨gb589, 4, none⟩ (.int .i64 ((rd_T50 l1 x10_1).f2.f2))).setCell ⟨gb589, 5, none⟩ (.int .i64 ((rd_T50 l1 x10_1).f3))).setCell ⟨gb589, 6, none⟩ (.slice A588_6 ((rd_T50 l1 x10_1).f4).length c588_6)).setCell ⟨gb589, 7, none⟩ (.slice A588_7 ((rd_T50 l1 x10_1).f5).length c588_7)) = w16 at n0_ n1_ n2_ ⊢
  have BK587 := n0_
  have BK589 := n1_
  have HB := n2_
  clear n0_ n1_ n2_
  replace BK587 := AM (blk_drew BK587.out)
  replace BK589 := AM (blk_drew BK589.out)
  replace HB := AM (below_drew1 HB.out)
  refine start_ (n := 12) (S := fun w' => w'.cell? ⟨gb587, 0, none⟩ = some (.slice (some ad590) l0_0.length c0_0) ∧ w'.cell? ⟨gb587, 1, none⟩ = some (.slice A0_1 l0_1.length c0_1) ∧ w'.cell? ⟨gb589, 0, none⟩ = some (.int .i64 ((rd_T50 l1 x10_1).f0)) ∧ w'.cell? ⟨gb589, 1, none⟩ = some (.int .i64 ((rd_T50 l1 x10_1).f1)) ∧ w'.cell? ⟨gb589, 2, none⟩ = some (.int .i64 ((rd_T50 l1 x10_1).f2.f0)) ∧ w'.cell? ⟨gb589, 3, none⟩ = some (.int .i64 ((rd_T50 l1 x10_1).f2.f1)) ∧ w'.cell? ⟨gb589, 4, none⟩ = some (.int .i64 ((rd_T50 l1 x10_1).f2.f2)) ∧ w'.cell? ⟨gb589, 5, none⟩ = some (.int .i64 ((rd_T50 l1 x10_1).f3)) ∧ w'.cell? ⟨gb589, 6, none⟩ = some (.slice A588_6 ((rd_T50 l1 x10_1).f4).length c588_6) ∧ w'.cell? ⟨gb589, 7, none⟩ = some (.slice A588_7 ((rd_T50 l1 x10_1).f5).length c588_7)) (ds := []) #[F,F,F,F,F,F,F,F,F,F,F,F] (by kernel_rfl) rfl rfl ⟨ZA BK587 0, ZA BK587 1, ZA BK589 0, ZA BK589 1, ZA BK589 2, ZA BK589 3, ZA BK589 4, ZA BK589 5, ZA BK589 6, ZA BK589 7⟩ (fun hHeld => ?_); refine with_tabW impl_Prog_sets.tab7 impl_Prog_sets.bits7 (fun HT_ HW_ => ?_)
  generalize w16.drew = w17 at BK587 BK589 HB hHeld ⊢
  refine ZU 0 26 #[T,F,F,F,F,F,F,F,F,F,F,F] ?_
  refine ZU 2 28 #[T,F,T,F,F,F,F,F,F,F,F,F] ?_
  refine ZU 6 32 #[T,F,T,F,F,F,T,F,F,F,F,F] ?_
  refine ZTK 1 27 #[T,T,T,F,F,F,T,F,F,F,F,F] hHeld ?_
  refine ZTK 3 29 #[T,T,T,T,F,F,T,F,F,F,F,F] hHeld ?_
  refine ZTK 5 31 #[T,T,T,T,F,T,T,F,F,F,F,F] hHeld ?_
  refine ZTK 7 33 #[T,T,T,T,F,T,T,T,F,F,F,F] hHeld ?_
  refine one_ (i := 4) (N := some 30) #[T,T,T,T,T,T,T,T,F,F,F,F] rfl rfl (one_of HT_.out (by kernel_rfl)) (by decide) (fun K hK => ?_)
  refine ZGO Try.func53 #[.agg #[.slice (some ad590) l0_0.length c0_0, .slice A0_1 l0_1.length c0_1], .slice A588_6 ((rd_T50 l1 x10_1).f4).length c588_6] ?_
  with_reducible refine (ih k1 (by have := HK1.out; omega) _ _ l0_0 _ _ l0_1 _ _ ((rd_T50 l1 x10_1).f4) t591 _ ?side1 ?side2 ?side3 ?side4 ?side5 ?side6 A10.out).mono ?_
  (case side1 => exact ZQ (Kd.C_below HR0_0.out HB.out))
  (case side2 => exact HC0_0.out)
  (case side3 => exact ZQ (Kd.C_below HR0_1.out HB.out))
  (case side4 => exact HC0_1.out)
  (case side5 => exact ZQ (Kd.C_below HR588_6.out HB.out))
  (case side6 => exact HC588_6.out)
  rintro e w18 ⟨rfl, hb⟩
  refine ⟨_, rfl, ?_⟩
  replace BK587 := ZW BK587 hb
  replace BK589 := ZW BK589 hb
  replace HB := ZT HB hb
  (try clear hb)
  (try clear hb2)
  (try clear hk)
  (try clear hi)
  refine hK.out _ _ ⟨ZA BK587 0, ZA BK587 1, ZA BK589 0, ZA BK589 1, ZA BK589 2, ZA BK589 3, ZA BK589 4, ZA BK589 5, ZA BK589 6, ZA BK589 7⟩ (fun hHeld => ?_)
  clear hK K
  refine ZNO 30 ?_
  refine one_ (i := 8) (N := some 34) #[T,T,T,T,T,T,T,T,T,F,F,F] rfl rfl (one_of HT_.out (by kernel_rfl)) (by decide) (fun K hK => ?_)
  refine ZGO Try.func53 #[.agg #[.slice (some ad590) l0_0.length c0_0, .slice A0_1 l0_1.length c0_1], .slice A588_7 ((rd_T50 l1 x10_1).f5).length c588_7] ?_
  with_reducible refine (ih k1 (by have := HK1.out; omega) _ _ l0_0 _ _ l0_1 _ _ ((rd_T50 l1 x10_1).f5) t592 _ ?side1 ?side2 ?side3 ?side4 ?side5 ?side6 A11.out).mono ?_
  (case side1 => exact ZQ (Kd.C_below HR0_0.out HB.out))
  (case side2 => exact HC0_0.out)
  (case side3 => exact ZQ (Kd.C_below HR0_1.out HB.out))
  (case side4 => exact HC0_1.out)
  (case side5 => exact ZQ (Kd.C_below HR588_7.out HB.out))
  (case side6 => exact HC588_7.out)
  rintro e w19 ⟨rfl, hb⟩
  refine ⟨_, rfl, ?_⟩
  replace BK587 := ZW BK587 hb
  replace BK589 := ZW BK589 hb
  replace HB := ZT HB hb
  (try clear hb)
  (try clear hb2)
  (try clear hk)
  (try clear hi)
  refine hK.out _ _ ⟨ZA BK587 0, ZA BK587 1, ZA BK589 0, ZA BK589 1, ZA BK589 2, ZA BK589 3, ZA BK589 4, ZA BK589 5, ZA BK589 6, ZA BK589 7⟩ (fun hHeld => ?_)
  clear hK K
  refine ZNO 34 ?_
  refine ZU 9 35 #[T,T,T,T,T,T,T,T,T,T,F,F] ?_
  refine ZU 10 36 #[T,T,T,T,T,T,T,T,T,T,T,F] ?_
  refine ZU 11 5 #[T,T,T,T,T,T,T,T,T,T,T,T] ?_
  refine done_ (done_of HT_.out (by kernel_rfl)) ?_
  try go_wp2
  go_roundg k1
  case measure => have := HK1.out; omega
  case rel => exact ⟨(Go.bits .or .i64 (Go.bits .or .i64 x5_1 ((rd_T60 l0_0 ((rd_T50 l1 x10_1).f1)).f1)) (Go.bits .or .i64 t591 t592)), (wrap64 (x10_1 + 1)), (by first | rfl | (simp; done) | (simp [*]; done)), (by first | rfl | (simp; done) | (simp [*]; done)), H', ⟨by have := HK1.out; omega⟩, ⟨ZK BK587.out⟩, ⟨ZB⟩⟩)
  ·(
  rw [if_neg c9] at H
  exact absurd H (by simp)))
  ·(
  rw [if_neg c8] at H
  exact absurd H (by simp)))
  ·(
  rw [if_neg c7] at H
  have c7b0 := beq_eq_false_iff_ne.mpr c7
  have c7b1 := bne_iff_ne.mpr c7
  obtain ⟨t593, A20, H⟩ := ZOB H; try dsimp only at H
  obtain ⟨t594, A21, H⟩ := ZOB H; try dsimp only at H
  have H' := AM H
  clear H
  have p588 : 0 ≤ (x10_1 : Int) := ZD
  have q588 : x10_1 < (l1.length : Int) := ZD
  obtain ⟨ad588, A588_6, c588_6, A588_7, c588_7, e588, hx588_0, hx588_1, hx588_2, hx588_3, hx588_4, hx588_5, hx588_6, hx588_7, hl588_6, hi588_6, hl588_7, hi588_7⟩ := at_T50 HR1.out x10_1 p588 q588
  cases e588
  replace hx588_0 := ZHX HB hx588_0
  replace hx588_1 := ZHX HB hx588_1
  replace hx588_2 := ZHX HB hx588_2
  replace hx588_3 := ZHX HB hx588_3
  replace hx588_4 := ZHX HB hx588_4
  replace hx588_5 := ZHX HB hx588_5
  replace hx588_6 := ZHX HB hx588_6
  replace hx588_7 := ZHX HB hx588_7
  have HR588_6 := AM hi588_6
  have HC588_6 := AM hl588_6
  clear hi588_6 hl588_6
  have HR588_7 := AM hi588_7
  have HC588_7 := AM hl588_7
  clear hi588_7 hl588_7
  replace p588 := eq_true p588
  replace q588 := eq_true q588
  try go_wp2_with (first | ((with_reducible refine gate_dst (N := 7) rfl ?_); refine ZX (N := 7) (cs := #[.int .i64 0, .int .i64 0, .int .i64 0, .int .i64 0, .int .i64 0, .int .i64 0, .slice none 0 0, .slice none 0 0]) (t := 50) ?_; intro gb589 hg w22 hbox hb; have BK589 := AM (hbox); have GW589 : Aside0 (w.heap.size ≤ gb589) := ZS hg; have GE589 : Aside0 (w.heap.size ≤ gb589) := ZS hg; have NB587_589 : Aside0 (gb587 ≠ gb589) := ZN hg BK587; have NB589_587 : Aside0 (gb589 ≠ gb587) := ZM hg BK587; replace BK587 := ZW BK587 hb; replace HB := ZT HB hb; clear hb hbox hg; have hnb23 := NB589_587.out; have hnc23 := NB587_589.out; have hcz24 := ZC8 w22 BK589; have hfz24 := ZF8 BK589))
  have n0_ : Aside0 (((((((((w22.setCell ⟨gb589, 0, none⟩ (.int .i64 ((rd_T50 l1 x10_1).f0))).setCell ⟨gb589, 1, none⟩ (.int .i64 ((rd_T50 l1 x10_1).f1))).setCell ⟨gb589, 2, none⟩ (.int .i64 ((rd_T50 l1 x10_1).f2.f0))).setCell ⟨gb589, 3, none⟩ (.int .i64 ((rd_T50 l1 x10_1).f2.f1))).setCell ⟨gb589, 4, none⟩ (.int .i64 ((rd_T50 l1 x10_1).f2.f2))).setCell ⟨gb589, 5, none⟩ (.int .i64 ((rd_T50 l1 x10_1).f3))).setCell ⟨gb589, 6, none⟩ (.slice A588_6 ((rd_T50 l1 x10_1).f4).length c588_6)).setCell ⟨gb589, 7, none⟩ (.slice A588_7 ((rd_T50 l1 x10_1).f5).length c588_7)).heap[gb587]? = some (.cells #[.slice A0_0 l0_0.length c0_0, .slice A0_1 l0_1.length c0_1] 32 (0, 0))) := ⟨ZZ BK587.out⟩
  have n1_ : Aside0 (((((((((w22.setCell ⟨gb589, 0, none⟩ (.int .i64 ((rd_T50 l1 x10_1).f0))).setCell ⟨gb589, 1, none⟩ (.int .i64 ((rd_T50 l1 x10_1).f1))).setCell ⟨gb589, 2, none⟩ (.int .i64 ((rd_T50 l1 x10_1).f2.f0))).setCell ⟨gb589, 3, none⟩ (.int .i64 ((rd_T50 l1 x10_1).f2.f1))).setCell ⟨gb589, 4, none⟩ (.int .i64 ((rd_T50 l1 x10_1).f2.f2))).setCell ⟨gb589, 5, none⟩ (.int .i64 ((rd_T50 l1 x10_1).f3))).setCell ⟨gb589, 6, none⟩ (.slice A588_6 ((rd_T50 l1 x10_1).f4).length c588_6)).setCell ⟨gb589, 7, none⟩ (.slice A588_7 ((rd_T50 l1 x10_1).f5).length c588_7)).heap[gb589]? = some (.cells #[.int .i64 ((rd_T50 l1 x10_1).f0), .int .i64 ((rd_T50 l1 x10_1).f1), .int .i64 ((rd_T50 l1 x10_1).f2.f0), .int .i64 ((rd_T50 l1 x10_1).f2.f1), .int .i64 ((rd_T50 l1 x10_1).f2.f2), .int .i64 ((rd_T50 l1 x10_1).f3), .slice A588_6 ((rd_T50 l1 x10_1).f4).length c588_6, .slice A588_7 ((rd_T50 l1 x10_1).f5).length c588_7] 50 (0, 0))) := ⟨ZZ BK589.out⟩
  have n2_ : Aside0 (Below w.heap.size w ((((((((w22.setCell ⟨gb589, 0, none⟩ (.int .i64 ((rd_T50 l1 x10_1).f0))).setCell ⟨gb589, 1, none⟩ (.int .i64 ((rd_T50 l1 x10_1).f1))).setCell ⟨gb589, 2, none⟩ (.int .i64 ((rd_T50 l1 x10_1).f2.f0))).setCell ⟨gb589, 3, none⟩ (.int .i64 ((rd_T50 l1 x10_1).f2.f1))).setCell ⟨gb589, 4, none⟩ (.int .i64 ((rd_T50 l1 x10_1).f2.f2))).setCell ⟨gb589, 5, none⟩ (.int .i64 ((rd_T50 l1 x10_1).f3))).setCell ⟨gb589, 6, none⟩ (.slice A588_6 ((rd_T50 l1 x10_1).f4).length c588_6)).setCell ⟨gb589, 7, none⟩ (.slice A588_7 ((rd_T50 l1 x10_1).f5).length c588_7))) := ⟨ZB⟩
  (try clear BK587)
  (try clear BK589)
  (try clear HB)
  generalize ((((((((w22.setCell ⟨gb589, 0, none⟩ (.int .i64 ((rd_T50 l1 x10_1).f0))).setCell ⟨gb589, 1, none⟩ (.int .i64 ((rd_T50 l1 x10_1).f1))).setCell ⟨gb589, 2, none⟩ (.int .i64 ((rd_T50 l1 x10_1).f2.f0))).setCell ⟨gb589, 3, none⟩ (.int .i64 ((rd_T50 l1 x10_1).f2.f1))).setCell ⟨gb589, 4, none⟩ (.int .i64 ((rd_T50 l1 x10_1).f2.f2))).setCell ⟨gb589, 5, none⟩ (.int .i64 ((rd_T50 l1 x10_1).f3))).setCell ⟨gb589, 6, none⟩ (.slice A588_6 ((rd_T50 l1 x10_1).f4).length c588_6)).setCell ⟨gb589, 7, none⟩ (.slice A588_7 ((rd_T50 l1 x10_1).f5).length c588_7)) = w25 at n0_ n1_ n2_ ⊢
  have BK587 := n0_
  have BK589 := n1_
  have HB := n2_
  clear n0_ n1_ n2_
  replace BK587 := AM (blk_drew BK587.out)
  replace BK589 := AM (blk_drew BK589.out)
  replace HB := AM (below_drew1 HB.out)
  refine start_ (n := 12) (S := fun w' => w'.cell? ⟨gb587, 0, none⟩ = some (.slice A0_0 l0_0.length c0_0) ∧ w'.cell? ⟨gb587, 1, none⟩ = some (.slice A0_1 l0_1.length c0_1) ∧ w'.cell? ⟨gb589, 0, none⟩ = some (.int .i64 ((rd_T50 l1 x10_1).f0)) ∧ w'.cell? ⟨gb589, 1, none⟩ = some (.int .i64 ((rd_T50 l1 x10_1).f1)) ∧ w'.cell? ⟨gb589, 2, none⟩ = some (.int .i64 ((rd_T50 l1 x10_1).f2.f0)) ∧ w'.cell? ⟨gb589, 3, none⟩ = some (.int .i64 ((rd_T50 l1 x10_1).f2.f1)) ∧ w'.cell? ⟨gb589, 4, none⟩ = some (.int .i64 ((rd_T50 l1 x10_1).f2.f2)) ∧ w'.cell? ⟨gb589, 5, none⟩ = some (.int .i64 ((rd_T50 l1 x10_1).f3)) ∧ w'.cell? ⟨gb589, 6, none⟩ = some (.slice A588_6 ((rd_T50 l1 x10_1).f4).length c588_6) ∧ w'.cell? ⟨gb589, 7, none⟩ = some (.slice A588_7 ((rd_T50 l1 x10_1).f5).length c588_7)) (ds := []) #[F,F,F,F,F,F,F,F,F,F,F,F] (by kernel_rfl) rfl rfl ⟨ZA BK587 0, ZA BK587 1, ZA BK589 0, ZA BK589 1, ZA BK589 2, ZA BK589 3, ZA BK589 4, ZA BK589 5, ZA BK589 6, ZA BK589 7⟩ (fun hHeld => ?_); refine with_tabW impl_Prog_sets.tab7 impl_Prog_sets.bits7 (fun HT_ HW_ => ?_)
  generalize w25.drew = w26 at BK587 BK589 HB hHeld ⊢
  refine ZU 0 26 #[T,F,F,F,F,F,F,F,F,F,F,F] ?_
  refine ZU 2 28 #[T,F,T,F,F,F,F,F,F,F,F,F] ?_
  refine ZU 6 32 #[T,F,T,F,F,F,T,F,F,F,F,F] ?_
  refine ZTK 1 27 #[T,T,T,F,F,F,T,F,F,F,F,F] hHeld ?_
  refine ZTK 3 29 #[T,T,T,T,F,F,T,F,F,F,F,F] hHeld ?_
  refine ZTK 5 31 #[T,T,T,T,F,T,T,F,F,F,F,F] hHeld ?_
  refine ZTK 7 33 #[T,T,T,T,F,T,T,T,F,F,F,F] hHeld ?_
  refine one_ (i := 4) (N := some 30) #[T,T,T,T,T,T,T,T,F,F,F,F] rfl rfl (one_of HT_.out (by kernel_rfl)) (by decide) (fun K hK => ?_)
  refine ZGO Try.func53 #[.agg #[.slice A0_0 l0_0.length c0_0, .slice A0_1 l0_1.length c0_1], .slice A588_6 ((rd_T50 l1 x10_1).f4).length c588_6] ?_
  with_reducible refine (ih k1 (by have := HK1.out; omega) _ _ l0_0 _ _ l0_1 _ _ ((rd_T50 l1 x10_1).f4) t593 _ ?side1 ?side2 ?side3 ?side4 ?side5 ?side6 A20.out).mono ?_
  (case side1 => exact ZQ (Kd.C_below HR0_0.out HB.out))
  (case side2 => exact HC0_0.out)
  (case side3 => exact ZQ (Kd.C_below HR0_1.out HB.out))
  (case side4 => exact HC0_1.out)
  (case side5 => exact ZQ (Kd.C_below HR588_6.out HB.out))
  (case side6 => exact HC588_6.out)
  rintro e w27 ⟨rfl, hb⟩
  refine ⟨_, rfl, ?_⟩
  replace BK587 := ZW BK587 hb
  replace BK589 := ZW BK589 hb
  replace HB := ZT HB hb
  (try clear hb)
  (try clear hb2)
  (try clear hk)
  (try clear hi)
  refine hK.out _ _ ⟨ZA BK587 0, ZA BK587 1, ZA BK589 0, ZA BK589 1, ZA BK589 2, ZA BK589 3, ZA BK589 4, ZA BK589 5, ZA BK589 6, ZA BK589 7⟩ (fun hHeld => ?_)
  clear hK K
  refine ZNO 30 ?_
  refine one_ (i := 8) (N := some 34) #[T,T,T,T,T,T,T,T,T,F,F,F] rfl rfl (one_of HT_.out (by kernel_rfl)) (by decide) (fun K hK => ?_)
  refine ZGO Try.func53 #[.agg #[.slice A0_0 l0_0.length c0_0, .slice A0_1 l0_1.length c0_1], .slice A588_7 ((rd_T50 l1 x10_1).f5).length c588_7] ?_
  with_reducible refine (ih k1 (by have := HK1.out; omega) _ _ l0_0 _ _ l0_1 _ _ ((rd_T50 l1 x10_1).f5) t594 _ ?side1 ?side2 ?side3 ?side4 ?side5 ?side6 A21.out).mono ?_
  (case side1 => exact ZQ (Kd.C_below HR0_0.out HB.out))
  (case side2 => exact HC0_0.out)
  (case side3 => exact ZQ (Kd.C_below HR0_1.out HB.out))
  (case side4 => exact HC0_1.out)
  (case side5 => exact ZQ (Kd.C_below HR588_7.out HB.out))
  (case side6 => exact HC588_7.out)
  rintro e w28 ⟨rfl, hb⟩
  refine ⟨_, rfl, ?_⟩
  replace BK587 := ZW BK587 hb
  replace BK589 := ZW BK589 hb
  replace HB := ZT HB hb
  (try clear hb)
  (try clear hb2)
  (try clear hk)
  (try clear hi)
  refine hK.out _ _ ⟨ZA BK587 0, ZA BK587 1, ZA BK589 0, ZA BK589 1, ZA BK589 2, ZA BK589 3, ZA BK589 4, ZA BK589 5, ZA BK589 6, ZA BK589 7⟩ (fun hHeld => ?_)
  clear hK K
  refine ZNO 34 ?_
  refine ZU 9 35 #[T,T,T,T,T,T,T,T,T,T,F,F] ?_
  refine ZU 10 36 #[T,T,T,T,T,T,T,T,T,T,T,F] ?_
  refine ZU 11 5 #[T,T,T,T,T,T,T,T,T,T,T,T] ?_
  refine done_ (done_of HT_.out (by kernel_rfl)) ?_
  try go_wp2
  go_roundg k1
  case measure => have := HK1.out; omega
  case rel => exact ⟨(Go.bits .or .i64 x5_1 (Go.bits .or .i64 t593 t594)), (wrap64 (x10_1 + 1)), (by first | rfl | (simp; done) | (simp [*]; done)), (by first | rfl | (simp; done) | (simp [*]; done)), H', ⟨by have := HK1.out; omega⟩, ⟨ZK BK587.out⟩, ⟨ZB⟩⟩))
  ·(
  rw [if_neg c6] at H
  exact absurd H (by simp)))
  ·(
  rw [if_neg c5] at H
  exact absurd H (by simp)))
  ·(
  rw [if_neg c4] at H
  have c4b0 := decide_eq_false c4
  clear c4
  obtain rfl := Option.some.inj H
  go_wp2
  go_ret
  exact ⟨ZE, ZB⟩))

end Go.Proofs.Ytaflodibibbakaa.A
