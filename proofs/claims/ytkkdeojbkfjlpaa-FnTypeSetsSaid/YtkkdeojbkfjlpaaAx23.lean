/- By wip/tools/pr.py: Go functions as Lean functions, with contracts. -/
import Derived.Test.YtkkdeojbkfjlpaaAx0
namespace Go.Proofs.Ytkkdeojbkfjlpaa.A
open Go.RowKit Go.Proofs.YtkkdeojbkfjlpaaW.PrintWords Go.Proofs.YtkkdeojbkfjlpaaW.PrintLast Go.Proofs.YtkkdeojbkfjlpaaW.PrintMore
attribute [local go_sem] max2_int min2_int max_two min_two max_three min_three max_four min_four
set_option linter.unusedVariables false
set_option linter.unusedSimpArgs false
set_option maxHeartbeats 8000000
set_option maxRecDepth 100000

/-! ### impl_Prog_sets: function 27 -/
mutual
def impl_Prog_sets.l0 : Nat → Int → List (S40) → Int → Int → List (S35) → List (S40) → Option (Int)
 | 0, _, _, _, _, _, _ => none
 | k + 1, x5, x8, x9, x10, x571000, x571001 => if x10 < x9 then (if 0 ≤ x10 then (if x10 < (x8.length : Int) then (if ((D40 x8 x10).f0) = 1 then (if 0 ≤ ((D40 x8 x10).f1) then (if ((D40 x8 x10).f1) < (x571000.length : Int) then ((impl_Prog_sets.f k x571000 x571001 ((D40 x8 x10).f4)).bind fun t574 => ((impl_Prog_sets.f k x571000 x571001 ((D40 x8 x10).f5)).bind fun t575 => (impl_Prog_sets.l0 k (Go.bits .or .i64 (Go.bits .or .i64 x5 ((D35 x571000 ((D40 x8 x10).f1)).f1)) (Go.bits .or .i64 t574 t575)) x8 x9 (wrap64 (x10 + 1)) x571000 x571001))) else (none)) else (none)) else ((impl_Prog_sets.f k x571000 x571001 ((D40 x8 x10).f4)).bind fun t576 => ((impl_Prog_sets.f k x571000 x571001 ((D40 x8 x10).f5)).bind fun t577 => (impl_Prog_sets.l0 k (Go.bits .or .i64 x5 (Go.bits .or .i64 t576 t577)) x8 x9 (wrap64 (x10 + 1)) x571000 x571001)))) else (none)) else (none)) else (some x5)
def impl_Prog_sets.f : Nat → List (S35) → List (S40) → List (S40) → Option (Int)
 | 0, _, _, _ => none
 | k + 1, l0_0, l0_1, l1 => impl_Prog_sets.l0 k 0 l1 (l1.length : Int) 0 l0_0 l0_1
end
def impl_Prog_sets.T7 : Bool × List (List Nat × List Nat) := (true, [([], []), ([], []), ([], []), ([2], [2]), ([1, 3], [1, 3]), ([], []), ([], []), ([6], [6]), ([5, 7, 4], [5, 7]), ([4, 8], [4, 8]), ([0, 9], [0, 9]), ([10, 8, 0, 1, 2, 3, 4, 5, 6, 7, 8, 9, 10], [0, 10])])
def impl_Prog_sets.B7 : List Nat := [0, 0, 0, 4, 14, 0, 0, 64, 254, 510, 1023, 2047]
theorem impl_Prog_sets.tab7 : rtab .any (opsOf Try.f27 7) = impl_Prog_sets.T7 := by kernel_rfl
theorem impl_Prog_sets.bits7 : waitsOk impl_Prog_sets.T7.2 impl_Prog_sets.B7 = true := by kernel_rfl
theorem impl_Prog_sets.calls (k : Nat) : ∀ (A0_0 : Option Addr) (c0_0 : Nat) (l0_0 : List (S35)) (A0_1 : Option Addr) (c0_1 : Nat) (l0_1 : List (S40)) (A1 : Option Addr) (c1 : Nat) (l1 : List (S40)) (r : Int) (w : World) (hr0_0 : Kd.C k35 w A0_0 l0_0.length l0_0) (hc0_0 : l0_0.length ≤ c0_0) (hr0_1 : Kd.C k40 w A0_1 l0_1.length l0_1) (hc0_1 : l0_1.length ≤ c0_1) (hr1 : Kd.C k40 w A1 l1.length l1) (hc1 : l1.length ≤ c1) (h : impl_Prog_sets.f k l0_0 l0_1 l1 = some r),
  Calls Try.prog 27 #[.agg #[.slice A0_0 l0_0.length c0_0, .slice A0_1 l0_1.length c0_1], .slice A1 l1.length c1] w fun e w' => e = .returned (.int .i64 r) ∧ Below w.heap.size w w' := by
 induction k using Nat.strongRecOn with
 | _ k ih =>
 intro A0_0 c0_0 l0_0 A0_1 c0_1 l0_1 A1 c1 l1 r w hr0_0 hc0_0 hr0_1 hc0_1 hr1 hc1 h
 cases k with
 | zero => exact absurd h (by simp [impl_Prog_sets.f])
 | succ k =>
 simp only [impl_Prog_sets.f] at h
 have hu26 := Try.underlying26
 have hu40 := Try.underlying40
 have HR0_0 := AM hr0_0
 have HC0_0 := AM hc0_0
 clear hr0_0 hc0_0
 have HR0_1 := AM hr0_1
 have HC0_1 := AM hc0_1
 clear hr0_1 hc0_1
 have HR1 := AM hr1
 have HC1 := AM hc1
 clear hr1 hc1
 have HB := AM (Below.refl w.heap.size w)
 have H : (impl_Prog_sets.l0 k 0 l1 (l1.length : Int) 0 l0_0 l0_1) = some r := h
 clear h
 have H' := AM H
 clear H
 go_enter Try.func27, Try.ntmps27
 go_wp2_with (first | ((with_reducible refine gate_dst (N := 2) rfl ?_); refine ZX (N := 2) (cs := #[.slice A0_0 l0_0.length c0_0, .slice A0_1 l0_1.length c0_1]) (t := 26) ?_; intro gb570 hg w3 hbox hb; have BK570 := AM (hbox); have GW570 : Za (w.heap.size ≤ gb570) := ZS hg; have GE570 : Za (w.heap.size ≤ gb570) := ZS hg; replace HB := ZT HB hb; clear hb hbox hg))
 go_loopg [5, 10] k (fun kq v5 v10 w' => ∃ (x5_1 : Int) (x10_1 : Int), v5 = .int .i64 x5_1 ∧ v10 = .int .i64 x10_1 ∧ Za (impl_Prog_sets.l0 kq x5_1 l1 (l1.length : Int) x10_1 l0_0 l0_1 = some r) ∧ Za (kq ≤ k) ∧ Za (w'.heap[gb570]? = some (.cells #[(.slice A0_0 l0_0.length c0_0), (.slice A0_1 l0_1.length c0_1)] 26 (0, 0))) ∧ Za (Below w.heap.size w w'))
 case atStart => exact ⟨(0), (0), (by first | rfl | (simp; done) | (simp [*]; done)), (by first | rfl | (simp; done) | (simp [*]; done)), H', ⟨Nat.le_refl _⟩, ⟨ZK BK570.out⟩, ⟨ZB⟩⟩
 case round => (
 clear H'
 try clear c1
 try clear c2
 try clear p2
 obtain ⟨x5_1, x10_1, rfl, rfl, HA, HK1, BK570, HB⟩ := hrel
 cases gk with
 | zero => exact absurd HA.out (by simp [impl_Prog_sets.l0])
 | succ k1 =>
  have H := HA.out
  clear HA
  simp only [impl_Prog_sets.l0] at H
  by_cases c4 : x10_1 < (l1.length : Int)
  ·(
  rw [if_pos c4] at H
  have c4b0 := decide_eq_true c4
  clear c4
  by_cases c5 : 0 ≤ x10_1
  ·(
  rw [if_pos c5] at H
  have c5b0 := decide_eq_true c5
  clear c5
  by_cases c6 : x10_1 < (l1.length : Int)
  ·(
  rw [if_pos c6] at H
  have c6b0 := decide_eq_true c6
  clear c6
  by_cases c7 : ((D40 l1 x10_1).f0) = 1
  ·(
  rw [if_pos c7] at H
  have c7b0 := beq_iff_eq.mpr c7
  have c7b1 := bne_eq_false_iff_eq.mpr c7
  clear c7
  by_cases c8 : 0 ≤ ((D40 l1 x10_1).f1)
  ·(
  rw [if_pos c8] at H
  have c8b0 := decide_eq_true c8
  clear c8
  by_cases c9 : ((D40 l1 x10_1).f1) < (l0_0.length : Int)
  ·(
  rw [if_pos c9] at H
  have c9b0 := decide_eq_true c9
  clear c9
  obtain ⟨t574, A10, H⟩ := ZOB H; try dsimp only at H
  obtain ⟨t575, A11, H⟩ := ZOB H; try dsimp only at H
  have H' := AM H
  clear H
  have p571 : 0 ≤ (x10_1 : Int) := ZD
  have q571 : x10_1 < (l1.length : Int) := ZD
  obtain ⟨ad571, A571_6, c571_6, A571_7, c571_7, e571, hx571_0, hx571_1, hx571_2, hx571_3, hx571_4, hx571_5, hx571_6, hx571_7, hl571_6, hi571_6, hl571_7, hi571_7⟩ := at_T40 HR1.out x10_1 p571 q571
  cases e571
  replace hx571_0 := ZHX HB hx571_0
  replace hx571_1 := ZHX HB hx571_1
  replace hx571_2 := ZHX HB hx571_2
  replace hx571_3 := ZHX HB hx571_3
  replace hx571_4 := ZHX HB hx571_4
  replace hx571_5 := ZHX HB hx571_5
  replace hx571_6 := ZHX HB hx571_6
  replace hx571_7 := ZHX HB hx571_7
  have HR571_6 := AM hi571_6
  have HC571_6 := AM hl571_6
  clear hi571_6 hl571_6
  have HR571_7 := AM hi571_7
  have HC571_7 := AM hl571_7
  clear hi571_7 hl571_7
  replace p571 := eq_true p571
  replace q571 := eq_true q571
  try go_wp2_with (first | ((with_reducible refine gate_dst (N := 7) rfl ?_); refine ZX (N := 7) (cs := #[.int .i64 0, .int .i64 0, .int .i64 0, .int .i64 0, .int .i64 0, .int .i64 0, .slice none 0 0, .slice none 0 0]) (t := 40) ?_; intro gb572 hg w12 hbox hb; have BK572 := AM (hbox); have GW572 : Za (w.heap.size ≤ gb572) := ZS hg; have GE572 : Za (w.heap.size ≤ gb572) := ZS hg; have NB570_572 : Za (gb570 ≠ gb572) := ZN hg BK570; have NB572_570 : Za (gb572 ≠ gb570) := ZM hg BK570; replace BK570 := ZW BK570 hb; replace HB := ZT HB hb; clear hb hbox hg; have hnb13 := NB572_570.out; have hnc13 := NB570_572.out; have hcz14 := ZC8 w12 BK572; have hfz14 := ZF8 BK572; have hcz15 := ZC2 w12 BK570; have hfz15 := ZF2 BK570; have p573 : 0 ≤ (((D40 l1 x10_1).f1) : Int) := ZD; have q573 : ((D40 l1 x10_1).f1) < (l0_0.length : Int) := ZD; obtain ⟨ad573, e573, hx573_0, hx573_1⟩ := at_T35 HR0_0.out ((D40 l1 x10_1).f1) p573 q573; cases e573; have hn573_0 : ad573.block ≠ gb572 := ZO hx573_0 GW572; have hn573_1 : ad573.block ≠ gb572 := ZO hx573_0 GW572; have hn573_2 : ad573.block ≠ gb572 := ZO hx573_0 GW572; have hn573_3 : ad573.block ≠ gb572 := ZO hx573_0 GW572; have hn573_4 : ad573.block ≠ gb572 := ZO hx573_0 GW572; have hn573_5 : ad573.block ≠ gb572 := ZO hx573_0 GW572; have hn573_6 : ad573.block ≠ gb572 := ZO hx573_0 GW572; have hn573_7 : ad573.block ≠ gb572 := ZO hx573_0 GW572; replace hx573_0 := ZHX HB hx573_0; replace hx573_1 := ZHX HB hx573_1; replace hx573_0 := (cell_far (p := ⟨gb572, 0, none⟩) (ZY hn573_0) (.int .i64 ((D40 l1 x10_1).f0))).trans hx573_0; replace hx573_1 := (cell_far (p := ⟨gb572, 0, none⟩) (ZY hn573_0) (.int .i64 ((D40 l1 x10_1).f0))).trans hx573_1; replace hx573_0 := (cell_far (p := ⟨gb572, 1, none⟩) (ZY hn573_1) (.int .i64 ((D40 l1 x10_1).f1))).trans hx573_0; replace hx573_1 := (cell_far (p := ⟨gb572, 1, none⟩) (ZY hn573_1) (.int .i64 ((D40 l1 x10_1).f1))).trans hx573_1; replace hx573_0 := (cell_far (p := ⟨gb572, 2, none⟩) (ZY hn573_2) (.int .i64 ((D40 l1 x10_1).f2.f0))).trans hx573_0; replace hx573_1 := (cell_far (p := ⟨gb572, 2, none⟩) (ZY hn573_2) (.int .i64 ((D40 l1 x10_1).f2.f0))).trans hx573_1; replace hx573_0 := (cell_far (p := ⟨gb572, 3, none⟩) (ZY hn573_3) (.int .i64 ((D40 l1 x10_1).f2.f1))).trans hx573_0; replace hx573_1 := (cell_far (p := ⟨gb572, 3, none⟩) (ZY hn573_3) (.int .i64 ((D40 l1 x10_1).f2.f1))).trans hx573_1; replace hx573_0 := (cell_far (p := ⟨gb572, 4, none⟩) (ZY hn573_4) (.int .i64 ((D40 l1 x10_1).f2.f2))).trans hx573_0; replace hx573_1 := (cell_far (p := ⟨gb572, 4, none⟩) (ZY hn573_4) (.int .i64 ((D40 l1 x10_1).f2.f2))).trans hx573_1; replace hx573_0 := (cell_far (p := ⟨gb572, 5, none⟩) (ZY hn573_5) (.int .i64 ((D40 l1 x10_1).f3))).trans hx573_0; replace hx573_1 := (cell_far (p := ⟨gb572, 5, none⟩) (ZY hn573_5) (.int .i64 ((D40 l1 x10_1).f3))).trans hx573_1; replace hx573_0 := (cell_far (p := ⟨gb572, 6, none⟩) (ZY hn573_6) (.slice A571_6 ((D40 l1 x10_1).f4).length c571_6)).trans hx573_0; replace hx573_1 := (cell_far (p := ⟨gb572, 6, none⟩) (ZY hn573_6) (.slice A571_6 ((D40 l1 x10_1).f4).length c571_6)).trans hx573_1; replace hx573_0 := (cell_far (p := ⟨gb572, 7, none⟩) (ZY hn573_7) (.slice A571_7 ((D40 l1 x10_1).f5).length c571_7)).trans hx573_0; replace hx573_1 := (cell_far (p := ⟨gb572, 7, none⟩) (ZY hn573_7) (.slice A571_7 ((D40 l1 x10_1).f5).length c571_7)).trans hx573_1; clear hn573_0 hn573_1 hn573_2 hn573_3 hn573_4 hn573_5 hn573_6 hn573_7; replace p573 := eq_true p573; replace q573 := eq_true q573))
  have n0_ : Za (((((((((w12.setCell ⟨gb572, 0, none⟩ (.int .i64 ((D40 l1 x10_1).f0))).setCell ⟨gb572, 1, none⟩ (.int .i64 ((D40 l1 x10_1).f1))).setCell ⟨gb572, 2, none⟩ (.int .i64 ((D40 l1 x10_1).f2.f0))).setCell ⟨gb572, 3, none⟩ (.int .i64 ((D40 l1 x10_1).f2.f1))).setCell ⟨gb572, 4, none⟩ (.int .i64 ((D40 l1 x10_1).f2.f2))).setCell ⟨gb572, 5, none⟩ (.int .i64 ((D40 l1 x10_1).f3))).setCell ⟨gb572, 6, none⟩ (.slice A571_6 ((D40 l1 x10_1).f4).length c571_6)).setCell ⟨gb572, 7, none⟩ (.slice A571_7 ((D40 l1 x10_1).f5).length c571_7)).heap[gb570]? = some (.cells #[.slice (some ad573) l0_0.length c0_0, .slice A0_1 l0_1.length c0_1] 26 (0, 0))) := ⟨ZZ BK570.out⟩
  have n1_ : Za (((((((((w12.setCell ⟨gb572, 0, none⟩ (.int .i64 ((D40 l1 x10_1).f0))).setCell ⟨gb572, 1, none⟩ (.int .i64 ((D40 l1 x10_1).f1))).setCell ⟨gb572, 2, none⟩ (.int .i64 ((D40 l1 x10_1).f2.f0))).setCell ⟨gb572, 3, none⟩ (.int .i64 ((D40 l1 x10_1).f2.f1))).setCell ⟨gb572, 4, none⟩ (.int .i64 ((D40 l1 x10_1).f2.f2))).setCell ⟨gb572, 5, none⟩ (.int .i64 ((D40 l1 x10_1).f3))).setCell ⟨gb572, 6, none⟩ (.slice A571_6 ((D40 l1 x10_1).f4).length c571_6)).setCell ⟨gb572, 7, none⟩ (.slice A571_7 ((D40 l1 x10_1).f5).length c571_7)).heap[gb572]? = some (.cells #[.int .i64 ((D40 l1 x10_1).f0), .int .i64 ((D40 l1 x10_1).f1), .int .i64 ((D40 l1 x10_1).f2.f0), .int .i64 ((D40 l1 x10_1).f2.f1), .int .i64 ((D40 l1 x10_1).f2.f2), .int .i64 ((D40 l1 x10_1).f3), .slice A571_6 ((D40 l1 x10_1).f4).length c571_6, .slice A571_7 ((D40 l1 x10_1).f5).length c571_7] 40 (0, 0))) := ⟨ZZ BK572.out⟩
  have n2_ : Za (Below w.heap.size w ((((((((w12.setCell ⟨gb572, 0, none⟩ (.int .i64 ((D40 l1 x10_1).f0))).setCell ⟨gb572, 1, none⟩ (.int .i64 ((D40 l1 x10_1).f1))).setCell ⟨gb572, 2, none⟩ (.int .i64 ((D40 l1 x10_1).f2.f0))).setCell ⟨gb572, 3, none⟩ (.int .i64 ((D40 l1 x10_1).f2.f1))).setCell ⟨gb572, 4, none⟩ (.int .i64 ((D40 l1 x10_1).f2.f2))).setCell ⟨gb572, 5, none⟩ (.int .i64 ((D40 l1 x10_1).f3))).setCell ⟨gb572, 6, none⟩ (.slice A571_6 ((D40 l1 x10_1).f4).length c571_6)).setCell ⟨gb572, 7, none⟩ (.slice A571_7 ((D40 l1 x10_1).f5).length c571_7))) := ⟨ZB⟩
  (try clear BK570)
  (try clear BK572)
  (try clear HB)
  generalize ((((((((w12.setCell ⟨gb572, 0, none⟩ (.int .i64 ((D40 l1 x10_1).f0))).setCell ⟨gb572, 1, none⟩ (.int .i64 ((D40 l1 x10_1).f1))).setCell ⟨gb572, 2, none⟩ (.int .i64 ((D40 l1 x10_1).f2.f0))).setCell ⟨gb572, 3, none⟩ (.int .i64 ((D40 l1 x10_1).f2.f1))).setCell ⟨gb572, 4, none⟩ (.int .i64 ((D40 l1 x10_1).f2.f2))).setCell ⟨gb572, 5, none⟩ (.int .i64 ((D40 l1 x10_1).f3))).setCell ⟨gb572, 6, none⟩ (.slice A571_6 ((D40 l1 x10_1).f4).length c571_6)).setCell ⟨gb572, 7, none⟩ (.slice A571_7 ((D40 l1 x10_1).f5).length c571_7)) = w16 at n0_ n1_ n2_ ⊢
  have BK570 := n0_
  have BK572 := n1_
  have HB := n2_
  clear n0_ n1_ n2_
  replace BK570 := AM (blk_drew BK570.out)
  replace BK572 := AM (blk_drew BK572.out)
  replace HB := AM (below_drew1 HB.out)
  refine start_ (n := 12) (S := fun w' => w'.cell? ⟨gb570, 0, none⟩ = some (.slice (some ad573) l0_0.length c0_0) ∧ w'.cell? ⟨gb570, 1, none⟩ = some (.slice A0_1 l0_1.length c0_1) ∧ w'.cell? ⟨gb572, 0, none⟩ = some (.int .i64 ((D40 l1 x10_1).f0)) ∧ w'.cell? ⟨gb572, 1, none⟩ = some (.int .i64 ((D40 l1 x10_1).f1)) ∧ w'.cell? ⟨gb572, 2, none⟩ = some (.int .i64 ((D40 l1 x10_1).f2.f0)) ∧ w'.cell? ⟨gb572, 3, none⟩ = some (.int .i64 ((D40 l1 x10_1).f2.f1)) ∧ w'.cell? ⟨gb572, 4, none⟩ = some (.int .i64 ((D40 l1 x10_1).f2.f2)) ∧ w'.cell? ⟨gb572, 5, none⟩ = some (.int .i64 ((D40 l1 x10_1).f3)) ∧ w'.cell? ⟨gb572, 6, none⟩ = some (.slice A571_6 ((D40 l1 x10_1).f4).length c571_6) ∧ w'.cell? ⟨gb572, 7, none⟩ = some (.slice A571_7 ((D40 l1 x10_1).f5).length c571_7)) (ds := []) #[F,F,F,F,F,F,F,F,F,F,F,F] (by kernel_rfl) rfl rfl ⟨ZA BK570 0, ZA BK570 1, ZA BK572 0, ZA BK572 1, ZA BK572 2, ZA BK572 3, ZA BK572 4, ZA BK572 5, ZA BK572 6, ZA BK572 7⟩ (fun hHeld => ?_); refine with_tabW impl_Prog_sets.tab7 impl_Prog_sets.bits7 (fun HT_ HW_ => ?_)
  generalize w16.drew = w17 at BK570 BK572 HB hHeld ⊢
  refine ZU 0 26 #[T,F,F,F,F,F,F,F,F,F,F,F] ?_
  refine ZU 2 28 #[T,F,T,F,F,F,F,F,F,F,F,F] ?_
  refine ZU 6 32 #[T,F,T,F,F,F,T,F,F,F,F,F] ?_
  refine ZTK 1 27 #[T,T,T,F,F,F,T,F,F,F,F,F] hHeld ?_
  refine ZTK 3 29 #[T,T,T,T,F,F,T,F,F,F,F,F] hHeld ?_
  refine ZTK 5 31 #[T,T,T,T,F,T,T,F,F,F,F,F] hHeld ?_
  refine ZTK 7 33 #[T,T,T,T,F,T,T,T,F,F,F,F] hHeld ?_
  refine one_ (i := 4) (N := some 30) #[T,T,T,T,T,T,T,T,F,F,F,F] rfl rfl (one_of HT_.out (by kernel_rfl)) (by decide) (fun K hK => ?_)
  refine ZGO Try.func27 #[.agg #[.slice (some ad573) l0_0.length c0_0, .slice A0_1 l0_1.length c0_1], .slice A571_6 ((D40 l1 x10_1).f4).length c571_6] ?_
  with_reducible refine (ih k1 (by have := HK1.out; omega) _ _ l0_0 _ _ l0_1 _ _ ((D40 l1 x10_1).f4) t574 _ ?side1 ?side2 ?side3 ?side4 ?side5 ?side6 A10.out).mono ?_
  (case side1 => exact ZQ (Kd.C_below HR0_0.out HB.out))
  (case side2 => exact HC0_0.out)
  (case side3 => exact ZQ (Kd.C_below HR0_1.out HB.out))
  (case side4 => exact HC0_1.out)
  (case side5 => exact ZQ (Kd.C_below HR571_6.out HB.out))
  (case side6 => exact HC571_6.out)
  rintro e w18 ⟨rfl, hb⟩
  refine ⟨_, rfl, ?_⟩
  replace BK570 := ZW BK570 hb
  replace BK572 := ZW BK572 hb
  replace HB := ZT HB hb
  (try clear hb)
  (try clear hb2)
  (try clear hk)
  (try clear hi)
  refine hK.out _ _ ⟨ZA BK570 0, ZA BK570 1, ZA BK572 0, ZA BK572 1, ZA BK572 2, ZA BK572 3, ZA BK572 4, ZA BK572 5, ZA BK572 6, ZA BK572 7⟩ (fun hHeld => ?_)
  clear hK K
  refine ZNO 30 ?_
  refine one_ (i := 8) (N := some 34) #[T,T,T,T,T,T,T,T,T,F,F,F] rfl rfl (one_of HT_.out (by kernel_rfl)) (by decide) (fun K hK => ?_)
  refine ZGO Try.func27 #[.agg #[.slice (some ad573) l0_0.length c0_0, .slice A0_1 l0_1.length c0_1], .slice A571_7 ((D40 l1 x10_1).f5).length c571_7] ?_
  with_reducible refine (ih k1 (by have := HK1.out; omega) _ _ l0_0 _ _ l0_1 _ _ ((D40 l1 x10_1).f5) t575 _ ?side1 ?side2 ?side3 ?side4 ?side5 ?side6 A11.out).mono ?_
  (case side1 => exact ZQ (Kd.C_below HR0_0.out HB.out))
  (case side2 => exact HC0_0.out)
  (case side3 => exact ZQ (Kd.C_below HR0_1.out HB.out))
  (case side4 => exact HC0_1.out)
  (case side5 => exact ZQ (Kd.C_below HR571_7.out HB.out))
  (case side6 => exact HC571_7.out)
  rintro e w19 ⟨rfl, hb⟩
  refine ⟨_, rfl, ?_⟩
  replace BK570 := ZW BK570 hb
  replace BK572 := ZW BK572 hb
  replace HB := ZT HB hb
  (try clear hb)
  (try clear hb2)
  (try clear hk)
  (try clear hi)
  refine hK.out _ _ ⟨ZA BK570 0, ZA BK570 1, ZA BK572 0, ZA BK572 1, ZA BK572 2, ZA BK572 3, ZA BK572 4, ZA BK572 5, ZA BK572 6, ZA BK572 7⟩ (fun hHeld => ?_)
  clear hK K
  refine ZNO 34 ?_
  refine ZU 9 35 #[T,T,T,T,T,T,T,T,T,T,F,F] ?_
  refine ZU 10 36 #[T,T,T,T,T,T,T,T,T,T,T,F] ?_
  refine ZU 11 5 #[T,T,T,T,T,T,T,T,T,T,T,T] ?_
  refine done_ (done_of HT_.out (by kernel_rfl)) ?_
  try go_wp2
  go_roundg k1
  case measure => have := HK1.out; omega
  case rel => exact ⟨(Go.bits .or .i64 (Go.bits .or .i64 x5_1 ((D35 l0_0 ((D40 l1 x10_1).f1)).f1)) (Go.bits .or .i64 t574 t575)), (wrap64 (x10_1 + 1)), (by first | rfl | (simp; done) | (simp [*]; done)), (by first | rfl | (simp; done) | (simp [*]; done)), H', ⟨by have := HK1.out; omega⟩, ⟨ZK BK570.out⟩, ⟨ZB⟩⟩)
  ·(
  rw [if_neg c9] at H
  exact absurd H (by simp)))
  ·(
  rw [if_neg c8] at H
  exact absurd H (by simp)))
  ·(
  rw [if_neg c7] at H
  have c7b0 := beq_eq_false_iff_ne.mpr c7
  have c7b1 := bne_iff_ne.mpr c7
  obtain ⟨t576, A20, H⟩ := ZOB H; try dsimp only at H
  obtain ⟨t577, A21, H⟩ := ZOB H; try dsimp only at H
  have H' := AM H
  clear H
  have p571 : 0 ≤ (x10_1 : Int) := ZD
  have q571 : x10_1 < (l1.length : Int) := ZD
  obtain ⟨ad571, A571_6, c571_6, A571_7, c571_7, e571, hx571_0, hx571_1, hx571_2, hx571_3, hx571_4, hx571_5, hx571_6, hx571_7, hl571_6, hi571_6, hl571_7, hi571_7⟩ := at_T40 HR1.out x10_1 p571 q571
  cases e571
  replace hx571_0 := ZHX HB hx571_0
  replace hx571_1 := ZHX HB hx571_1
  replace hx571_2 := ZHX HB hx571_2
  replace hx571_3 := ZHX HB hx571_3
  replace hx571_4 := ZHX HB hx571_4
  replace hx571_5 := ZHX HB hx571_5
  replace hx571_6 := ZHX HB hx571_6
  replace hx571_7 := ZHX HB hx571_7
  have HR571_6 := AM hi571_6
  have HC571_6 := AM hl571_6
  clear hi571_6 hl571_6
  have HR571_7 := AM hi571_7
  have HC571_7 := AM hl571_7
  clear hi571_7 hl571_7
  replace p571 := eq_true p571
  replace q571 := eq_true q571
  try go_wp2_with (first | ((with_reducible refine gate_dst (N := 7) rfl ?_); refine ZX (N := 7) (cs := #[.int .i64 0, .int .i64 0, .int .i64 0, .int .i64 0, .int .i64 0, .int .i64 0, .slice none 0 0, .slice none 0 0]) (t := 40) ?_; intro gb572 hg w22 hbox hb; have BK572 := AM (hbox); have GW572 : Za (w.heap.size ≤ gb572) := ZS hg; have GE572 : Za (w.heap.size ≤ gb572) := ZS hg; have NB570_572 : Za (gb570 ≠ gb572) := ZN hg BK570; have NB572_570 : Za (gb572 ≠ gb570) := ZM hg BK570; replace BK570 := ZW BK570 hb; replace HB := ZT HB hb; clear hb hbox hg; have hnb23 := NB572_570.out; have hnc23 := NB570_572.out; have hcz24 := ZC8 w22 BK572; have hfz24 := ZF8 BK572))
  have n0_ : Za (((((((((w22.setCell ⟨gb572, 0, none⟩ (.int .i64 ((D40 l1 x10_1).f0))).setCell ⟨gb572, 1, none⟩ (.int .i64 ((D40 l1 x10_1).f1))).setCell ⟨gb572, 2, none⟩ (.int .i64 ((D40 l1 x10_1).f2.f0))).setCell ⟨gb572, 3, none⟩ (.int .i64 ((D40 l1 x10_1).f2.f1))).setCell ⟨gb572, 4, none⟩ (.int .i64 ((D40 l1 x10_1).f2.f2))).setCell ⟨gb572, 5, none⟩ (.int .i64 ((D40 l1 x10_1).f3))).setCell ⟨gb572, 6, none⟩ (.slice A571_6 ((D40 l1 x10_1).f4).length c571_6)).setCell ⟨gb572, 7, none⟩ (.slice A571_7 ((D40 l1 x10_1).f5).length c571_7)).heap[gb570]? = some (.cells #[.slice A0_0 l0_0.length c0_0, .slice A0_1 l0_1.length c0_1] 26 (0, 0))) := ⟨ZZ BK570.out⟩
  have n1_ : Za (((((((((w22.setCell ⟨gb572, 0, none⟩ (.int .i64 ((D40 l1 x10_1).f0))).setCell ⟨gb572, 1, none⟩ (.int .i64 ((D40 l1 x10_1).f1))).setCell ⟨gb572, 2, none⟩ (.int .i64 ((D40 l1 x10_1).f2.f0))).setCell ⟨gb572, 3, none⟩ (.int .i64 ((D40 l1 x10_1).f2.f1))).setCell ⟨gb572, 4, none⟩ (.int .i64 ((D40 l1 x10_1).f2.f2))).setCell ⟨gb572, 5, none⟩ (.int .i64 ((D40 l1 x10_1).f3))).setCell ⟨gb572, 6, none⟩ (.slice A571_6 ((D40 l1 x10_1).f4).length c571_6)).setCell ⟨gb572, 7, none⟩ (.slice A571_7 ((D40 l1 x10_1).f5).length c571_7)).heap[gb572]? = some (.cells #[.int .i64 ((D40 l1 x10_1).f0), .int .i64 ((D40 l1 x10_1).f1), .int .i64 ((D40 l1 x10_1).f2.f0), .int .i64 ((D40 l1 x10_1).f2.f1), .int .i64 ((D40 l1 x10_1).f2.f2), .int .i64 ((D40 l1 x10_1).f3), .slice A571_6 ((D40 l1 x10_1).f4).length c571_6, .slice A571_7 ((D40 l1 x10_1).f5).length c571_7] 40 (0, 0))) := ⟨ZZ BK572.out⟩
  have n2_ : Za (Below w.heap.size w ((((((((w22.setCell ⟨gb572, 0, none⟩ (.int .i64 ((D40 l1 x10_1).f0))).setCell ⟨gb572, 1, none⟩ (.int .i64 ((D40 l1 x10_1).f1))).setCell ⟨gb572, 2, none⟩ (.int .i64 ((D40 l1 x10_1).f2.f0))).setCell ⟨gb572, 3, none⟩ (.int .i64 ((D40 l1 x10_1).f2.f1))).setCell ⟨gb572, 4, none⟩ (.int .i64 ((D40 l1 x10_1).f2.f2))).setCell ⟨gb572, 5, none⟩ (.int .i64 ((D40 l1 x10_1).f3))).setCell ⟨gb572, 6, none⟩ (.slice A571_6 ((D40 l1 x10_1).f4).length c571_6)).setCell ⟨gb572, 7, none⟩ (.slice A571_7 ((D40 l1 x10_1).f5).length c571_7))) := ⟨ZB⟩
  (try clear BK570)
  (try clear BK572)
  (try clear HB)
  generalize ((((((((w22.setCell ⟨gb572, 0, none⟩ (.int .i64 ((D40 l1 x10_1).f0))).setCell ⟨gb572, 1, none⟩ (.int .i64 ((D40 l1 x10_1).f1))).setCell ⟨gb572, 2, none⟩ (.int .i64 ((D40 l1 x10_1).f2.f0))).setCell ⟨gb572, 3, none⟩ (.int .i64 ((D40 l1 x10_1).f2.f1))).setCell ⟨gb572, 4, none⟩ (.int .i64 ((D40 l1 x10_1).f2.f2))).setCell ⟨gb572, 5, none⟩ (.int .i64 ((D40 l1 x10_1).f3))).setCell ⟨gb572, 6, none⟩ (.slice A571_6 ((D40 l1 x10_1).f4).length c571_6)).setCell ⟨gb572, 7, none⟩ (.slice A571_7 ((D40 l1 x10_1).f5).length c571_7)) = w25 at n0_ n1_ n2_ ⊢
  have BK570 := n0_
  have BK572 := n1_
  have HB := n2_
  clear n0_ n1_ n2_
  replace BK570 := AM (blk_drew BK570.out)
  replace BK572 := AM (blk_drew BK572.out)
  replace HB := AM (below_drew1 HB.out)
  refine start_ (n := 12) (S := fun w' => w'.cell? ⟨gb570, 0, none⟩ = some (.slice A0_0 l0_0.length c0_0) ∧ w'.cell? ⟨gb570, 1, none⟩ = some (.slice A0_1 l0_1.length c0_1) ∧ w'.cell? ⟨gb572, 0, none⟩ = some (.int .i64 ((D40 l1 x10_1).f0)) ∧ w'.cell? ⟨gb572, 1, none⟩ = some (.int .i64 ((D40 l1 x10_1).f1)) ∧ w'.cell? ⟨gb572, 2, none⟩ = some (.int .i64 ((D40 l1 x10_1).f2.f0)) ∧ w'.cell? ⟨gb572, 3, none⟩ = some (.int .i64 ((D40 l1 x10_1).f2.f1)) ∧ w'.cell? ⟨gb572, 4, none⟩ = some (.int .i64 ((D40 l1 x10_1).f2.f2)) ∧ w'.cell? ⟨gb572, 5, none⟩ = some (.int .i64 ((D40 l1 x10_1).f3)) ∧ w'.cell? ⟨gb572, 6, none⟩ = some (.slice A571_6 ((D40 l1 x10_1).f4).length c571_6) ∧ w'.cell? ⟨gb572, 7, none⟩ = some (.slice A571_7 ((D40 l1 x10_1).f5).length c571_7)) (ds := []) #[F,F,F,F,F,F,F,F,F,F,F,F] (by kernel_rfl) rfl rfl ⟨ZA BK570 0, ZA BK570 1, ZA BK572 0, ZA BK572 1, ZA BK572 2, ZA BK572 3, ZA BK572 4, ZA BK572 5, ZA BK572 6, ZA BK572 7⟩ (fun hHeld => ?_); refine with_tabW impl_Prog_sets.tab7 impl_Prog_sets.bits7 (fun HT_ HW_ => ?_)
  generalize w25.drew = w26 at BK570 BK572 HB hHeld ⊢
  refine ZU 0 26 #[T,F,F,F,F,F,F,F,F,F,F,F] ?_
  refine ZU 2 28 #[T,F,T,F,F,F,F,F,F,F,F,F] ?_
  refine ZU 6 32 #[T,F,T,F,F,F,T,F,F,F,F,F] ?_
  refine ZTK 1 27 #[T,T,T,F,F,F,T,F,F,F,F,F] hHeld ?_
  refine ZTK 3 29 #[T,T,T,T,F,F,T,F,F,F,F,F] hHeld ?_
  refine ZTK 5 31 #[T,T,T,T,F,T,T,F,F,F,F,F] hHeld ?_
  refine ZTK 7 33 #[T,T,T,T,F,T,T,T,F,F,F,F] hHeld ?_
  refine one_ (i := 4) (N := some 30) #[T,T,T,T,T,T,T,T,F,F,F,F] rfl rfl (one_of HT_.out (by kernel_rfl)) (by decide) (fun K hK => ?_)
  refine ZGO Try.func27 #[.agg #[.slice A0_0 l0_0.length c0_0, .slice A0_1 l0_1.length c0_1], .slice A571_6 ((D40 l1 x10_1).f4).length c571_6] ?_
  with_reducible refine (ih k1 (by have := HK1.out; omega) _ _ l0_0 _ _ l0_1 _ _ ((D40 l1 x10_1).f4) t576 _ ?side1 ?side2 ?side3 ?side4 ?side5 ?side6 A20.out).mono ?_
  (case side1 => exact ZQ (Kd.C_below HR0_0.out HB.out))
  (case side2 => exact HC0_0.out)
  (case side3 => exact ZQ (Kd.C_below HR0_1.out HB.out))
  (case side4 => exact HC0_1.out)
  (case side5 => exact ZQ (Kd.C_below HR571_6.out HB.out))
  (case side6 => exact HC571_6.out)
  rintro e w27 ⟨rfl, hb⟩
  refine ⟨_, rfl, ?_⟩
  replace BK570 := ZW BK570 hb
  replace BK572 := ZW BK572 hb
  replace HB := ZT HB hb
  (try clear hb)
  (try clear hb2)
  (try clear hk)
  (try clear hi)
  refine hK.out _ _ ⟨ZA BK570 0, ZA BK570 1, ZA BK572 0, ZA BK572 1, ZA BK572 2, ZA BK572 3, ZA BK572 4, ZA BK572 5, ZA BK572 6, ZA BK572 7⟩ (fun hHeld => ?_)
  clear hK K
  refine ZNO 30 ?_
  refine one_ (i := 8) (N := some 34) #[T,T,T,T,T,T,T,T,T,F,F,F] rfl rfl (one_of HT_.out (by kernel_rfl)) (by decide) (fun K hK => ?_)
  refine ZGO Try.func27 #[.agg #[.slice A0_0 l0_0.length c0_0, .slice A0_1 l0_1.length c0_1], .slice A571_7 ((D40 l1 x10_1).f5).length c571_7] ?_
  with_reducible refine (ih k1 (by have := HK1.out; omega) _ _ l0_0 _ _ l0_1 _ _ ((D40 l1 x10_1).f5) t577 _ ?side1 ?side2 ?side3 ?side4 ?side5 ?side6 A21.out).mono ?_
  (case side1 => exact ZQ (Kd.C_below HR0_0.out HB.out))
  (case side2 => exact HC0_0.out)
  (case side3 => exact ZQ (Kd.C_below HR0_1.out HB.out))
  (case side4 => exact HC0_1.out)
  (case side5 => exact ZQ (Kd.C_below HR571_7.out HB.out))
  (case side6 => exact HC571_7.out)
  rintro e w28 ⟨rfl, hb⟩
  refine ⟨_, rfl, ?_⟩
  replace BK570 := ZW BK570 hb
  replace BK572 := ZW BK572 hb
  replace HB := ZT HB hb
  (try clear hb)
  (try clear hb2)
  (try clear hk)
  (try clear hi)
  refine hK.out _ _ ⟨ZA BK570 0, ZA BK570 1, ZA BK572 0, ZA BK572 1, ZA BK572 2, ZA BK572 3, ZA BK572 4, ZA BK572 5, ZA BK572 6, ZA BK572 7⟩ (fun hHeld => ?_)
  clear hK K
  refine ZNO 34 ?_
  refine ZU 9 35 #[T,T,T,T,T,T,T,T,T,T,F,F] ?_
  refine ZU 10 36 #[T,T,T,T,T,T,T,T,T,T,T,F] ?_
  refine ZU 11 5 #[T,T,T,T,T,T,T,T,T,T,T,T] ?_
  refine done_ (done_of HT_.out (by kernel_rfl)) ?_
  try go_wp2
  go_roundg k1
  case measure => have := HK1.out; omega
  case rel => exact ⟨(Go.bits .or .i64 x5_1 (Go.bits .or .i64 t576 t577)), (wrap64 (x10_1 + 1)), (by first | rfl | (simp; done) | (simp [*]; done)), (by first | rfl | (simp; done) | (simp [*]; done)), H', ⟨by have := HK1.out; omega⟩, ⟨ZK BK570.out⟩, ⟨ZB⟩⟩))
  ·(
  rw [if_neg c6] at H
  exact absurd H (by simp)))
  ·(
  rw [if_neg c5] at H
  exact absurd H (by simp)))
  ·(
  rw [if_neg c4] at H
  have c4b0 := decide_eq_false c4
  clear c4
  obtain rfl := Option.some.inj H
  go_wp2
  go_ret
  exact ⟨ZE, ZB⟩))

end Go.Proofs.Ytkkdeojbkfjlpaa.A
