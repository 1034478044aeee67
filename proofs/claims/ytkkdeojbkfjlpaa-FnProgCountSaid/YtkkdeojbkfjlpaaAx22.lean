/- Go functions as Lean functions, and for each its contract; written by wip/tools/pr.py over the kit's print. -/
import Derived.Test.YtkkdeojbkfjlpaaAx0
import Derived.Test.YtkkdeojbkfjlpaaAx12
import Derived.Test.YtkkdeojbkfjlpaaAx17
import Derived.Test.YtkkdeojbkfjlpaaAx18
import Derived.Test.YtkkdeojbkfjlpaaAx20
import Derived.Test.YtkkdeojbkfjlpaaAx21
namespace Go.Proofs.Ytkkdeojbkfjlpaa.A
open Go.RowKit Go.Proofs.YtkkdeojbkfjlpaaW.PrintWords Go.Proofs.YtkkdeojbkfjlpaaW.PrintLast Go.Proofs.YtkkdeojbkfjlpaaW.PrintMore
attribute [local go_sem] max2_int min2_int max_two min_two max_three min_three max_four min_four
set_option linter.unusedVariables false
set_option linter.unusedSimpArgs false
set_option maxHeartbeats 8000000
set_option maxRecDepth 100000

/-! ### spec_l11Fine: function 53 -/
def spec_l11Fine.f (k : Nat) (l0_0 : List (S35)) (l0_1 : List (S40)) (a1_0 : Int) (a1_1 : Int) (a1_2 : Int) (a1_3 : Int) (a1_4 : Int) (a1_5 : Int) (l1_6 : List (S40)) (l1_7 : List (S40)) (a2_0 : Int) (a2_1 : Int) : Option (Bool) := if a1_0 = 1 then ((spec_l11Val.f k l0_0 l0_1 a1_2 a1_3 a1_4).bind fun bt450 => ((spec_LabelBoth.f k a2_0 a2_1 bt450.1 bt450.2).bind fun bt452 => (if 0 ≤ a1_1 then (if a1_1 < (l0_0.length : Int) then ((spec_LabelFlows.f k bt452.1 bt452.2 ((D35 l0_0 a1_1).f0) ((D35 l0_0 a1_1).f1)).bind fun t455 => (some t455)) else (none)) else (none)))) else (if a1_0 = 3 then (if 0 ≤ a1_1 then (if a1_1 < (l0_0.length : Int) then ((spec_l1Both.f k a2_0 ((D35 l0_0 a1_1).f0)).bind fun t457 => ((spec_l1Has.f t457 a1_5).bind fun t458 => (some t458))) else (none)) else (none)) else (some true))
def spec_l11Fine.T3 : Bool × List (List Nat × List Nat) := (true, [([], []), ([], []), ([], []), ([2], [2]), ([1, 3], [1, 3]), ([0, 4, 4], [0, 4]), ([], []), ([6], [6]), ([], []), ([8], [8]), ([7, 9], [7, 9]), ([10], [10]), ([5, 11, 5], [5, 11]), ([12, 12, 0, 1, 2, 3, 4, 5, 6, 7, 8, 9, 10, 11, 12], [12])])
def spec_l11Fine.B3 : List Nat := [0, 0, 0, 4, 14, 31, 0, 64, 0, 256, 960, 1984, 4095, 8191]
theorem spec_l11Fine.tab3 : rtab .any (opsOf Try.f53 3) = spec_l11Fine.T3 := by kernel_rfl
theorem spec_l11Fine.bits3 : waitsOk spec_l11Fine.T3.2 spec_l11Fine.B3 = true := by kernel_rfl
def spec_l11Fine.T5 : Bool × List (List Nat × List Nat) := (true, [([], []), ([0], [0]), ([], []), ([2], [2]), ([], []), ([4], [4]), ([3, 5], [3, 5]), ([6], [6]), ([7], [7]), ([1, 8], [1, 8]), ([], []), ([10], [10]), ([9, 11, 9], [9, 11]), ([12, 12, 0, 1, 2, 3, 4, 5, 6, 7, 8, 9, 10, 11, 12], [12])])
def spec_l11Fine.B5 : List Nat := [0, 1, 0, 4, 0, 16, 60, 124, 252, 511, 0, 1024, 4095, 8191]
theorem spec_l11Fine.tab5 : rtab .any (opsOf Try.f53 5) = spec_l11Fine.T5 := by kernel_rfl
theorem spec_l11Fine.bits5 : waitsOk spec_l11Fine.T5.2 spec_l11Fine.B5 = true := by kernel_rfl
theorem spec_l11Fine.calls (k : Nat) (A0_0 : Option Addr) (c0_0 : Nat) (l0_0 : List (S35)) (A0_1 : Option Addr) (c0_1 : Nat) (l0_1 : List (S40)) (a1_0 : Int) (a1_1 : Int) (a1_2 : Int) (a1_3 : Int) (a1_4 : Int) (a1_5 : Int) (A1_6 : Option Addr) (c1_6 : Nat) (l1_6 : List (S40)) (A1_7 : Option Addr) (c1_7 : Nat) (l1_7 : List (S40)) (a2_0 : Int) (a2_1 : Int) (r : Bool) (w : World) (hr0_0 : Kd.C k35 w A0_0 l0_0.length l0_0) (hc0_0 : l0_0.length ≤ c0_0) (hr0_1 : Kd.C k40 w A0_1 l0_1.length l0_1) (hc0_1 : l0_1.length ≤ c0_1) (hr1_6 : Kd.C k40 w A1_6 l1_6.length l1_6) (hc1_6 : l1_6.length ≤ c1_6) (hr1_7 : Kd.C k40 w A1_7 l1_7.length l1_7) (hc1_7 : l1_7.length ≤ c1_7) (h : spec_l11Fine.f k l0_0 l0_1 a1_0 a1_1 a1_2 a1_3 a1_4 a1_5 l1_6 l1_7 a2_0 a2_1 = some r) :
  Calls Try.prog 53 #[.agg #[.slice A0_0 l0_0.length c0_0, .slice A0_1 l0_1.length c0_1], .agg #[.int .i64 a1_0, .int .i64 a1_1, .int .i64 a1_2, .int .i64 a1_3, .int .i64 a1_4, .int .i64 a1_5, .slice A1_6 l1_6.length c1_6, .slice A1_7 l1_7.length c1_7], .agg #[.int .i64 a2_0, .int .i64 a2_1]] w fun e w' => e = .returned (.bool r) ∧ Below w.heap.size w w' := by
 have hu26 := Try.underlying26
 have hu40 := Try.underlying40
 have hu35 := Try.underlying35
 have hu38 := Try.underlying38
 have HR0_0 := AM hr0_0
 have HC0_0 := AM hc0_0
 clear hr0_0 hc0_0
 have HR0_1 := AM hr0_1
 have HC0_1 := AM hc0_1
 clear hr0_1 hc0_1
 have HR1_6 := AM hr1_6
 have HC1_6 := AM hc1_6
 clear hr1_6 hc1_6
 have HR1_7 := AM hr1_7
 have HC1_7 := AM hc1_7
 clear hr1_7 hc1_7
 have HB := AM (Below.refl w.heap.size w)
 have H := h
 unfold spec_l11Fine.f at H
 clear h
 by_cases c4 : a1_0 = 1
 ·(
 rw [if_pos c4] at H
 have c4b0 := beq_iff_eq.mpr c4
 have c4b1 := bne_eq_false_iff_eq.mpr c4
 clear c4
 obtain ⟨⟨t450, t451⟩, A5, H⟩ := ZOB H; try dsimp only at H
 obtain ⟨⟨t452, t453⟩, A6, H⟩ := ZOB H; try dsimp only at H
 by_cases c7 : 0 ≤ a1_1
 ·(
 rw [if_pos c7] at H
 have c7b0 := decide_eq_true c7
 clear c7
 by_cases c8 : a1_1 < (l0_0.length : Int)
 ·(
 rw [if_pos c8] at H
 have c8b0 := decide_eq_true c8
 clear c8
 obtain ⟨t455, A9, H⟩ := ZOB H; try dsimp only at H
 obtain rfl := Option.some.inj H
 go_enter Try.func53, Try.ntmps53
 try go_wp2_with (first | ((with_reducible refine gate_dst (N := 3) rfl ?_); refine ZXW w (N := 3) (cs := #[.slice A0_0 l0_0.length c0_0, .slice A0_1 l0_1.length c0_1]) (t := 26) ?_; intro gb447 hg w10 BK447 GW447 hb; replace HB := ZT HB hb; clear hb hg) | ((with_reducible refine gate_dst (N := 4) rfl ?_); refine ZXW w (N := 4) (cs := #[.int .i64 a1_0, .int .i64 a1_1, .int .i64 a1_2, .int .i64 a1_3, .int .i64 a1_4, .int .i64 a1_5, .slice A1_6 l1_6.length c1_6, .slice A1_7 l1_7.length c1_7]) (t := 40) ?_; intro gb448 hg w11 BK448 GW448 hb; have NB447_448 : Za (gb447 ≠ gb448) := ZN hg BK447; have NB448_447 : Za (gb448 ≠ gb447) := ZM hg BK447; replace BK447 := ZW BK447 hb; replace HB := ZT HB hb; clear hb hg) | ((with_reducible refine gate_dst (N := 5) rfl ?_); refine ZXW w (N := 5) (cs := #[.int .i64 a2_0, .int .i64 a2_1]) (t := 35) ?_; intro gb449 hg w12 BK449 GW449 hb; have NB447_449 : Za (gb447 ≠ gb449) := ZN hg BK447; have NB449_447 : Za (gb449 ≠ gb447) := ZM hg BK447; have NB448_449 : Za (gb448 ≠ gb449) := ZN hg BK448; have NB449_448 : Za (gb449 ≠ gb448) := ZM hg BK448; replace BK447 := ZW BK447 hb; replace BK448 := ZW BK448 hb; replace HB := ZT HB hb; clear hb hg; have hnb13 := NB448_447.out; have hnc13 := NB447_448.out; have hnb14 := NB448_449.out; have hnc14 := NB449_448.out; have hcz15 := ZC8 w12 BK448))
 replace BK447 := AM (blk_drew BK447.out)
 replace BK448 := AM (blk_drew BK448.out)
 replace BK449 := AM (blk_drew BK449.out)
 replace HB := AM (below_drew1 HB.out)
 have p454 : 0 ≤ (a1_1 : Int) := ZD
 have q454 : a1_1 < (l0_0.length : Int) := ZD
 obtain ⟨ad454, e454, hx454_0, hx454_1⟩ := at_T35 HR0_0.out a1_1 p454 q454
 have hw454_1 := hx454_1
 have hw454_0 := hx454_0
 cases e454
 replace hx454_0 := ZHX HB hx454_0
 replace hx454_1 := ZHX HB hx454_1
 replace p454 := eq_true p454
 replace q454 := eq_true q454
 refine start_ (n := 14) (S := fun w' => w'.cell? ⟨gb449, 0, none⟩ = some (.int .i64 a2_0) ∧ w'.cell? ⟨gb449, 1, none⟩ = some (.int .i64 a2_1) ∧ w'.cell? ⟨gb447, 0, none⟩ = some (.slice (some ad454) l0_0.length c0_0) ∧ w'.cell? ⟨gb447, 1, none⟩ = some (.slice A0_1 l0_1.length c0_1) ∧ w'.cell? ⟨gb448, 0, none⟩ = some (.int .i64 a1_0) ∧ w'.cell? ⟨gb448, 1, none⟩ = some (.int .i64 a1_1) ∧ w'.cell? ⟨gb448, 2, none⟩ = some (.int .i64 a1_2) ∧ w'.cell? ⟨gb448, 3, none⟩ = some (.int .i64 a1_3) ∧ w'.cell? ⟨gb448, 4, none⟩ = some (.int .i64 a1_4) ∧ w'.cell? ⟨gb448, 5, none⟩ = some (.int .i64 a1_5) ∧ w'.cell? ⟨gb448, 6, none⟩ = some (.slice A1_6 l1_6.length c1_6) ∧ w'.cell? ⟨gb448, 7, none⟩ = some (.slice A1_7 l1_7.length c1_7) ∧ w'.cell? (ad454.add ((a1_1).toNat * 2)) = some (.int .i64 ((D35 l0_0 a1_1).f0)) ∧ w'.cell? ⟨(ad454.add ((a1_1).toNat * 2)).block, (ad454.add ((a1_1).toNat * 2)).off + 1, none⟩ = some (.int .i64 ((D35 l0_0 a1_1).f1))) (ds := []) #[F,F,F,F,F,F,F,F,F,F,F,F,F,F] (by kernel_rfl) rfl rfl ⟨ZA BK449 0, ZA BK449 1, ZA BK447 0, ZA BK447 1, ZA BK448 0, ZA BK448 1, ZA BK448 2, ZA BK448 3, ZA BK448 4, ZA BK448 5, ZA BK448 6, ZA BK448 7, ((HB.out.cell (World.block_lt_of_cell? w _ hw454_0)).trans hw454_0), ((HB.out.cell (World.block_lt_of_cell? w _ hw454_1)).trans hw454_1)⟩ (fun hHeld => ?_); refine with_tabW spec_l11Fine.tab3 spec_l11Fine.bits3 (fun HT_ HW_ => ?_)
 generalize w12.drew = w16 at BK447 BK448 BK449 HB hx454_0 hx454_1 hHeld ⊢
 refine ZU 2 13 #[F,F,T,F,F,F,F,F,F,F,F,F,F,F] ?_
 refine ZU 6 17 #[F,F,T,F,F,F,T,F,F,F,F,F,F,F] ?_
 refine ZU 8 19 #[F,F,T,F,F,F,T,F,T,F,F,F,F,F] ?_
 refine ZTK 0 11 #[T,F,T,F,F,F,T,F,T,F,F,F,F,F] hHeld ?_
 refine ZTK 1 12 #[T,T,T,F,F,F,T,F,T,F,F,F,F,F] hHeld ?_
 refine ZTK 3 14 #[T,T,T,T,F,F,T,F,T,F,F,F,F,F] hHeld ?_
 refine ZTK 7 18 #[T,T,T,T,F,F,T,T,T,F,F,F,F,F] hHeld ?_
 refine ZTK 9 20 #[T,T,T,T,F,F,T,T,T,T,F,F,F,F] hHeld ?_
 refine ZU 10 21 #[T,T,T,T,F,F,T,T,T,T,T,F,F,F] ?_
 refine ZTK 11 22 #[T,T,T,T,F,F,T,T,T,T,T,T,F,F] hHeld ?_
 refine one_ (i := 4) (N := some 15) #[T,T,T,T,T,F,T,T,T,T,T,T,F,F] rfl rfl (one_of HT_.out (by kernel_rfl)) (by decide) (fun K hK => ?_)
 refine ZGO Try.func74 #[.agg #[.slice (some ad454) l0_0.length c0_0, .slice A0_1 l0_1.length c0_1], .agg #[.int .i64 a1_2, .int .i64 a1_3, .int .i64 a1_4]] ?_
 with_reducible refine (spec_l11Val.calls k _ _ l0_0 _ _ l0_1 a1_2 a1_3 a1_4 t450 t451 _ ?side1 ?side2 ?side3 ?side4 A5.out).mono ?_
 (case side1 => exact ZQ (Kd.C_below HR0_0.out HB.out))
 (case side2 => exact HC0_0.out)
 (case side3 => exact ZQ (Kd.C_below HR0_1.out HB.out))
 (case side4 => exact HC0_1.out)
 rintro e w17 ⟨rfl, hb⟩
 refine ZV1 ?_
 replace BK447 := ZW BK447 hb
 replace BK448 := ZW BK448 hb
 replace BK449 := ZW BK449 hb
 replace HB := ZT HB hb
 (try clear hb)
 (try clear hb2)
 (try clear hk)
 (try clear hi)
 refine hK.out _ _ ⟨ZA BK449 0, ZA BK449 1, ZA BK447 0, ZA BK447 1, ZA BK448 0, ZA BK448 1, ZA BK448 2, ZA BK448 3, ZA BK448 4, ZA BK448 5, ZA BK448 6, ZA BK448 7, ((HB.out.cell (World.block_lt_of_cell? w _ hw454_0)).trans hw454_0), ((HB.out.cell (World.block_lt_of_cell? w _ hw454_1)).trans hw454_1)⟩ (fun hHeld => ?_)
 clear hK K
 refine ZNO 15 ?_
 refine one_ (i := 5) (N := some 16) #[T,T,T,T,T,T,T,T,T,T,T,T,F,F] rfl rfl (one_of HT_.out (by kernel_rfl)) (by decide) (fun K hK => ?_)
 refine ZGO Try.func73 #[.agg #[.int .i64 a2_0, .int .i64 a2_1], .agg #[.int .i64 t450, .int .i64 t451]] ?_
 with_reducible refine (spec_LabelBoth.calls k a2_0 a2_1 t450 t451 t452 t453 _ A6.out).mono ?_
 rintro e w18 ⟨rfl, hb⟩
 refine ZV1 ?_
 replace BK447 := ZW BK447 hb
 replace BK448 := ZW BK448 hb
 replace BK449 := ZW BK449 hb
 replace HB := ZT HB hb
 (try clear hb)
 (try clear hb2)
 (try clear hk)
 (try clear hi)
 refine hK.out _ _ ⟨ZA BK449 0, ZA BK449 1, ZA BK447 0, ZA BK447 1, ZA BK448 0, ZA BK448 1, ZA BK448 2, ZA BK448 3, ZA BK448 4, ZA BK448 5, ZA BK448 6, ZA BK448 7, ((HB.out.cell (World.block_lt_of_cell? w _ hw454_0)).trans hw454_0), ((HB.out.cell (World.block_lt_of_cell? w _ hw454_1)).trans hw454_1)⟩ (fun hHeld => ?_)
 clear hK K
 refine ZNO 16 ?_
 refine one_ (i := 12) (N := some 23) #[T,T,T,T,T,T,T,T,T,T,T,T,T,F] rfl rfl (one_of HT_.out (by kernel_rfl)) (by decide) (fun K hK => ?_)
 refine ZGO Try.func72 #[.agg #[.int .i64 t452, .int .i64 t453], .agg #[.int .i64 ((D35 l0_0 a1_1).f0), .int .i64 ((D35 l0_0 a1_1).f1)]] ?_
 with_reducible refine (spec_LabelFlows.calls k t452 t453 ((D35 l0_0 a1_1).f0) ((D35 l0_0 a1_1).f1) t455 _ A9.out).mono ?_
 rintro e w19 ⟨rfl, hb⟩
 refine ZV1 ?_
 replace BK447 := ZW BK447 hb
 replace BK448 := ZW BK448 hb
 replace BK449 := ZW BK449 hb
 replace HB := ZT HB hb
 (try clear hb)
 (try clear hb2)
 (try clear hk)
 (try clear hi)
 refine hK.out _ _ ⟨ZA BK449 0, ZA BK449 1, ZA BK447 0, ZA BK447 1, ZA BK448 0, ZA BK448 1, ZA BK448 2, ZA BK448 3, ZA BK448 4, ZA BK448 5, ZA BK448 6, ZA BK448 7, ((HB.out.cell (World.block_lt_of_cell? w _ hw454_0)).trans hw454_0), ((HB.out.cell (World.block_lt_of_cell? w _ hw454_1)).trans hw454_1)⟩ (fun hHeld => ?_)
 clear hK K
 refine ZNO 23 ?_
 refine ZU 13 6 #[T,T,T,T,T,T,T,T,T,T,T,T,T,T] ?_
 refine done_ (done_of HT_.out (by kernel_rfl)) ?_
 try go_wp2
 go_ret
 exact ⟨ZE, ZB⟩)
 ·(
 rw [if_neg c8] at H
 exact absurd H (by simp)))
 ·(
 rw [if_neg c7] at H
 exact absurd H (by simp)))
 ·(
 rw [if_neg c4] at H
 have c4b0 := beq_eq_false_iff_ne.mpr c4
 have c4b1 := bne_iff_ne.mpr c4
 by_cases c20 : a1_0 = 3
 ·(
 rw [if_pos c20] at H
 have c20b0 := beq_iff_eq.mpr c20
 have c20b1 := bne_eq_false_iff_eq.mpr c20
 clear c20
 by_cases c21 : 0 ≤ a1_1
 ·(
 rw [if_pos c21] at H
 have c21b0 := decide_eq_true c21
 clear c21
 by_cases c22 : a1_1 < (l0_0.length : Int)
 ·(
 rw [if_pos c22] at H
 have c22b0 := decide_eq_true c22
 clear c22
 obtain ⟨t457, A23, H⟩ := ZOB H; try dsimp only at H
 obtain ⟨t458, A24, H⟩ := ZOB H; try dsimp only at H
 obtain rfl := Option.some.inj H
 go_enter Try.func53, Try.ntmps53
 try go_wp2_with (first | ((with_reducible refine gate_dst (N := 3) rfl ?_); refine ZXW w (N := 3) (cs := #[.slice A0_0 l0_0.length c0_0, .slice A0_1 l0_1.length c0_1]) (t := 26) ?_; intro gb447 hg w25 BK447 GW447 hb; replace HB := ZT HB hb; clear hb hg) | ((with_reducible refine gate_dst (N := 4) rfl ?_); refine ZXW w (N := 4) (cs := #[.int .i64 a1_0, .int .i64 a1_1, .int .i64 a1_2, .int .i64 a1_3, .int .i64 a1_4, .int .i64 a1_5, .slice A1_6 l1_6.length c1_6, .slice A1_7 l1_7.length c1_7]) (t := 40) ?_; intro gb448 hg w26 BK448 GW448 hb; have NB447_448 : Za (gb447 ≠ gb448) := ZN hg BK447; have NB448_447 : Za (gb448 ≠ gb447) := ZM hg BK447; replace BK447 := ZW BK447 hb; replace HB := ZT HB hb; clear hb hg) | ((with_reducible refine gate_dst (N := 5) rfl ?_); refine ZXW w (N := 5) (cs := #[.int .i64 a2_0, .int .i64 a2_1]) (t := 35) ?_; intro gb449 hg w27 BK449 GW449 hb; have NB447_449 : Za (gb447 ≠ gb449) := ZN hg BK447; have NB449_447 : Za (gb449 ≠ gb447) := ZM hg BK447; have NB448_449 : Za (gb448 ≠ gb449) := ZN hg BK448; have NB449_448 : Za (gb449 ≠ gb448) := ZM hg BK448; replace BK447 := ZW BK447 hb; replace BK448 := ZW BK448 hb; replace HB := ZT HB hb; clear hb hg; have hnb28 := NB448_447.out; have hnc28 := NB447_448.out; have hnb29 := NB448_449.out; have hnc29 := NB449_448.out; have hcz30 := ZC8 w27 BK448))
 replace BK447 := AM (blk_drew BK447.out)
 replace BK448 := AM (blk_drew BK448.out)
 replace BK449 := AM (blk_drew BK449.out)
 replace HB := AM (below_drew1 HB.out)
 have p456 : 0 ≤ (a1_1 : Int) := ZD
 have q456 : a1_1 < (l0_0.length : Int) := ZD
 obtain ⟨ad456, e456, hx456_0, hx456_1⟩ := at_T35 HR0_0.out a1_1 p456 q456
 have hw456_1 := hx456_1
 have hw456_0 := hx456_0
 cases e456
 replace hx456_0 := ZHX HB hx456_0
 replace hx456_1 := ZHX HB hx456_1
 replace p456 := eq_true p456
 replace q456 := eq_true q456
 refine start_ (n := 14) (S := fun w' => w'.cell? ⟨gb449, 0, none⟩ = some (.int .i64 a2_0) ∧ w'.cell? ⟨gb449, 1, none⟩ = some (.int .i64 a2_1) ∧ w'.cell? ⟨gb447, 0, none⟩ = some (.slice (some ad456) l0_0.length c0_0) ∧ w'.cell? ⟨gb447, 1, none⟩ = some (.slice A0_1 l0_1.length c0_1) ∧ w'.cell? ⟨gb448, 0, none⟩ = some (.int .i64 a1_0) ∧ w'.cell? ⟨gb448, 1, none⟩ = some (.int .i64 a1_1) ∧ w'.cell? ⟨gb448, 2, none⟩ = some (.int .i64 a1_2) ∧ w'.cell? ⟨gb448, 3, none⟩ = some (.int .i64 a1_3) ∧ w'.cell? ⟨gb448, 4, none⟩ = some (.int .i64 a1_4) ∧ w'.cell? ⟨gb448, 5, none⟩ = some (.int .i64 a1_5) ∧ w'.cell? ⟨gb448, 6, none⟩ = some (.slice A1_6 l1_6.length c1_6) ∧ w'.cell? ⟨gb448, 7, none⟩ = some (.slice A1_7 l1_7.length c1_7) ∧ w'.cell? (ad456.add ((a1_1).toNat * 2)) = some (.int .i64 ((D35 l0_0 a1_1).f0)) ∧ w'.cell? ⟨(ad456.add ((a1_1).toNat * 2)).block, (ad456.add ((a1_1).toNat * 2)).off + 1, none⟩ = some (.int .i64 ((D35 l0_0 a1_1).f1))) (ds := []) #[F,F,F,F,F,F,F,F,F,F,F,F,F,F] (by kernel_rfl) rfl rfl ⟨ZA BK449 0, ZA BK449 1, ZA BK447 0, ZA BK447 1, ZA BK448 0, ZA BK448 1, ZA BK448 2, ZA BK448 3, ZA BK448 4, ZA BK448 5, ZA BK448 6, ZA BK448 7, ((HB.out.cell (World.block_lt_of_cell? w _ hw456_0)).trans hw456_0), ((HB.out.cell (World.block_lt_of_cell? w _ hw456_1)).trans hw456_1)⟩ (fun hHeld => ?_); refine with_tabW spec_l11Fine.tab5 spec_l11Fine.bits5 (fun HT_ HW_ => ?_)
 generalize w27.drew = w31 at BK447 BK448 BK449 HB hx456_0 hx456_1 hHeld ⊢
 refine ZU 0 26 #[T,F,F,F,F,F,F,F,F,F,F,F,F,F] ?_
 refine ZU 2 28 #[T,F,T,F,F,F,F,F,F,F,F,F,F,F] ?_
 refine ZU 4 30 #[T,F,T,F,T,F,F,F,F,F,F,F,F,F] ?_
 refine ZU 10 36 #[T,F,T,F,T,F,F,F,F,F,T,F,F,F] ?_
 refine ZTK 1 27 #[T,T,T,F,T,F,F,F,F,F,T,F,F,F] hHeld ?_
 refine ZTK 3 29 #[T,T,T,T,T,F,F,F,F,F,T,F,F,F] hHeld ?_
 refine ZTK 5 31 #[T,T,T,T,T,T,F,F,F,F,T,F,F,F] hHeld ?_
 refine ZU 6 32 #[T,T,T,T,T,T,T,F,F,F,T,F,F,F] ?_
 refine ZU 7 33 #[T,T,T,T,T,T,T,T,F,F,T,F,F,F] ?_
 refine ZTK 8 34 #[T,T,T,T,T,T,T,T,T,F,T,F,F,F] hHeld ?_
 refine ZTK 11 37 #[T,T,T,T,T,T,T,T,T,F,T,T,F,F] hHeld ?_
 refine one_ (i := 9) (N := some 35) #[T,T,T,T,T,T,T,T,T,T,T,T,F,F] rfl rfl (one_of HT_.out (by kernel_rfl)) (by decide) (fun K hK => ?_)
 refine ZGO Try.func69 #[.int .i64 a2_0, .int .i64 ((D35 l0_0 a1_1).f0)] ?_
 with_reducible refine (spec_l1Both.calls k a2_0 ((D35 l0_0 a1_1).f0) t457 _ A23.out).mono ?_
 rintro e w' ⟨rfl, ⟨nd, rfl⟩⟩
 refine ZV1 ?_
 refine hK.out _ _ ⟨ZA BK449 0, ZA BK449 1, ZA BK447 0, ZA BK447 1, ZA BK448 0, ZA BK448 1, ZA BK448 2, ZA BK448 3, ZA BK448 4, ZA BK448 5, ZA BK448 6, ZA BK448 7, ((HB.out.cell (World.block_lt_of_cell? w _ hw456_0)).trans hw456_0), ((HB.out.cell (World.block_lt_of_cell? w _ hw456_1)).trans hw456_1)⟩ (fun hHeld => ?_)
 clear hK K
 refine ZNO 35 ?_
 refine one_ (i := 12) (N := some 38) #[T,T,T,T,T,T,T,T,T,T,T,T,T,F] rfl rfl (one_of HT_.out (by kernel_rfl)) (by decide) (fun K hK => ?_)
 refine ZGO Try.func75 #[.int .i64 t457, .int .i64 a1_5] ?_
 with_reducible refine (spec_l1Has.calls t457 a1_5 t458 _ A24.out).mono ?_
 rintro e w' ⟨rfl, ⟨nd, rfl⟩⟩
 refine ZV1 ?_
 refine hK.out _ _ ⟨ZA BK449 0, ZA BK449 1, ZA BK447 0, ZA BK447 1, ZA BK448 0, ZA BK448 1, ZA BK448 2, ZA BK448 3, ZA BK448 4, ZA BK448 5, ZA BK448 6, ZA BK448 7, ((HB.out.cell (World.block_lt_of_cell? w _ hw456_0)).trans hw456_0), ((HB.out.cell (World.block_lt_of_cell? w _ hw456_1)).trans hw456_1)⟩ (fun hHeld => ?_)
 clear hK K
 refine ZNO 38 ?_
 refine ZU 13 6 #[T,T,T,T,T,T,T,T,T,T,T,T,T,T] ?_
 refine done_ (done_of HT_.out (by kernel_rfl)) ?_
 try go_wp2
 go_ret
 exact ⟨ZE, ZB⟩)
 ·(
 rw [if_neg c22] at H
 exact absurd H (by simp)))
 ·(
 rw [if_neg c21] at H
 exact absurd H (by simp)))
 ·(
 rw [if_neg c20] at H
 have c20b0 := beq_eq_false_iff_ne.mpr c20
 have c20b1 := bne_iff_ne.mpr c20
 obtain rfl := Option.some.inj H
 go_enter Try.func53, Try.ntmps53
 go_wp2_with (first | ((with_reducible refine gate_dst (N := 3) rfl ?_); refine ZXW w (N := 3) (cs := #[.slice A0_0 l0_0.length c0_0, .slice A0_1 l0_1.length c0_1]) (t := 26) ?_; intro gb447 hg w32 BK447 GW447 hb; replace HB := ZT HB hb; clear hb hg) | ((with_reducible refine gate_dst (N := 4) rfl ?_); refine ZXW w (N := 4) (cs := #[.int .i64 a1_0, .int .i64 a1_1, .int .i64 a1_2, .int .i64 a1_3, .int .i64 a1_4, .int .i64 a1_5, .slice A1_6 l1_6.length c1_6, .slice A1_7 l1_7.length c1_7]) (t := 40) ?_; intro gb448 hg w33 BK448 GW448 hb; have NB447_448 : Za (gb447 ≠ gb448) := ZN hg BK447; have NB448_447 : Za (gb448 ≠ gb447) := ZM hg BK447; replace BK447 := ZW BK447 hb; replace HB := ZT HB hb; clear hb hg) | ((with_reducible refine gate_dst (N := 5) rfl ?_); refine ZXW w (N := 5) (cs := #[.int .i64 a2_0, .int .i64 a2_1]) (t := 35) ?_; intro gb449 hg w34 BK449 GW449 hb; have NB447_449 : Za (gb447 ≠ gb449) := ZN hg BK447; have NB449_447 : Za (gb449 ≠ gb447) := ZM hg BK447; have NB448_449 : Za (gb448 ≠ gb449) := ZN hg BK448; have NB449_448 : Za (gb449 ≠ gb448) := ZM hg BK448; replace BK447 := ZW BK447 hb; replace BK448 := ZW BK448 hb; replace HB := ZT HB hb; clear hb hg; have hnb35 := NB448_447.out; have hnc35 := NB447_448.out; have hnb36 := NB448_449.out; have hnc36 := NB449_448.out; have hcz37 := ZC8 w34 BK448))
 go_ret
 exact ⟨ZE, ZB⟩))

/-! ### spec_TypeWhy: function 30 -/
def spec_TypeWhy.l0 : Nat → List (S40) → List (S35) → Int → List (S35) → List (S40) → Option (Int × Bool)
 | 0, _, _, _, _, _ => none
 | k + 1, x4, x5, x6, x460000, x460001 => if x6 < (x4.length : Int) then (if 0 ≤ x6 then (if x6 < (x5.length : Int) then ((spec_l11Fine.f k x460000 x460001 ((D40 x4 x6).f0) ((D40 x4 x6).f1) ((D40 x4 x6).f2.f0) ((D40 x4 x6).f2.f1) ((D40 x4 x6).f2.f2) ((D40 x4 x6).f3) ((D40 x4 x6).f4) ((D40 x4 x6).f5) ((D35 x5 x6).f0) ((D35 x5 x6).f1)).bind fun t469 => (if t469 = true then (spec_TypeWhy.l0 k x4 x5 (wrap64 (x6 + 1)) x460000 x460001) else (some (x6, true)))) else (none)) else (none)) else (some (0, false))
def spec_TypeWhy.f (k : Nat) (l0_0 : List (S35)) (l0_1 : List (S40)) : Option (Int × Bool) := (spec_ProgOk.f k l0_0 l0_1).bind fun t460 => (if t460 = true then ((spec_l2All.f k l0_1).bind fun t461 => ((spec_TypeAt.f k l0_0 l0_1).bind fun t464 => (spec_TypeWhy.l0 k t461 t464 0 l0_0 l0_1))) else (some (0, false)))
def spec_TypeWhy.T8 : Bool × List (List Nat × List Nat) := (true, [([], []), ([], []), ([], []), ([1, 2], [1, 2]), ([3], [3]), ([], []), ([], []), ([5, 6], [5, 6]), ([7], [7]), ([0, 4, 8], [0, 4, 8]), ([9], [9])])
def spec_TypeWhy.B8 : List Nat := [0, 0, 0, 6, 14, 0, 0, 96, 224, 511, 1023]
theorem spec_TypeWhy.tab8 : rtab .any (opsOf Try.f30 8) = spec_TypeWhy.T8 := by kernel_rfl
theorem spec_TypeWhy.bits8 : waitsOk spec_TypeWhy.T8.2 spec_TypeWhy.B8 = true := by kernel_rfl
theorem spec_TypeWhy.calls (k : Nat) (A0_0 : Option Addr) (c0_0 : Nat) (l0_0 : List (S35)) (A0_1 : Option Addr) (c0_1 : Nat) (l0_1 : List (S40)) (r1 : Int) (r2 : Bool) (w : World) (hr0_0 : Kd.C k35 w A0_0 l0_0.length l0_0) (hc0_0 : l0_0.length ≤ c0_0) (hr0_1 : Kd.C k40 w A0_1 l0_1.length l0_1) (hc0_1 : l0_1.length ≤ c0_1) (h : spec_TypeWhy.f k l0_0 l0_1 = some (r1, r2)) :
  Calls Try.prog 30 #[.agg #[.slice A0_0 l0_0.length c0_0, .slice A0_1 l0_1.length c0_1]] w fun e w' => e = .returned (.tuple #[.int .i64 r1, .bool r2]) ∧ Below w.heap.size w w' := by
 have hu26 := Try.underlying26
 have hu40 := Try.underlying40
 have hu35 := Try.underlying35
 have HR0_0 := AM hr0_0
 have HC0_0 := AM hc0_0
 clear hr0_0 hc0_0
 have HR0_1 := AM hr0_1
 have HC0_1 := AM hc0_1
 clear hr0_1 hc0_1
 have HB := AM (Below.refl w.heap.size w)
 have H := h
 unfold spec_TypeWhy.f at H
 clear h
 obtain ⟨t460, A2, H⟩ := ZOB H; try dsimp only at H
 by_cases c3 : t460 = true
 ·(
 subst c3
 have H1 := H; rw [if_pos rfl] at H1
 clear H
 have H := H1
 clear H1
 obtain ⟨t461, A4, H⟩ := ZOB H; try dsimp only at H
 obtain ⟨t464, A5, H⟩ := ZOB H; try dsimp only at H
 have H' := AM H
 clear H
 go_enter Try.func30, Try.ntmps30
 go_wp2_with (first | ((with_reducible refine gate_dst (N := 1) rfl ?_); refine ZXW w (N := 1) (cs := #[.slice A0_0 l0_0.length c0_0, .slice A0_1 l0_1.length c0_1]) (t := 26) ?_; intro gb459 hg w6 BK459 GW459 hb; replace HB := ZT HB hb; clear hb hg; have hcz7 := ZC2 w6 BK459) | ((with_reducible refine gate_callee (f := 16) rfl ?_); refine ZGL (some 8) Try.func16 #[.agg #[.slice A0_0 l0_0.length c0_0, .slice A0_1 l0_1.length c0_1]] ?_; (with_reducible refine (spec_ProgOk.calls k _ _ l0_0 _ _ l0_1 true _ (ZQ (Kd.C_below HR0_0.out HB.out)) HC0_0.out (ZQ (Kd.C_below HR0_1.out HB.out)) HC0_1.out A2.out).mono ?_); rintro e w8 ⟨rfl, hb⟩; refine ZV1 ?_; replace BK459 := ZW BK459 hb; replace HB := ZT HB hb; clear hb; have hcz9 := ZC2 w8 BK459) | ((with_reducible refine gate_callee (f := 28) rfl ?_); refine ZGL (some 12) Try.func28 #[.slice A0_1 l0_1.length c0_1] ?_; (with_reducible refine (spec_l2All.calls k (fun k_ => k_ < w.heap.size) _ _ l0_1 t461 _ ?side1 A4.out).mono ?_); (case side1 => exact Kd.V_mk HC0_1.out (Kd.F_below (Kd.C_F k40_heap HR0_1.out) (ZB))); rintro e w10 ⟨v462, rfl, ho0, hb⟩; refine ZV1 ?_; have HO463 := AM (Kd.N_lower (Kd.N_mono (ok' := fun k_ => k_ ≠ gb459) ho0 (fun k_ hk_ => Or.elim hk_ (fun hs_ => fun e_ => Nat.not_le.2 hs_ (by rw [e_]; exact GW459.out)) (fun hn_ => (Kd.freshB (g := gb459) (o := .cells #[.slice A0_0 l0_0.length c0_0, .slice A0_1 l0_1.length c0_1] 26 (0, 0)) (ZK BK459.out) k_ hn_)))) (below_size (ZB))); replace BK459 := ZW BK459 hb; replace HB := ZT HB hb; clear hb; (try clear ho0); have hcz11 := ZC2 w10 BK459) | ((with_reducible refine gate_callee (f := 52) rfl ?_); refine ZGL (some 14) Try.func52 #[.agg #[.slice A0_0 l0_0.length c0_0, .slice A0_1 l0_1.length c0_1]] ?_; (with_reducible refine (spec_TypeAt.calls k _ _ l0_0 _ _ l0_1 t464 _ (ZQ (Kd.C_below HR0_0.out HB.out)) HC0_0.out (ZQ (Kd.C_below HR0_1.out HB.out)) HC0_1.out A5.out).mono ?_); rintro e w12 ⟨v465, rfl, ho0, hb⟩; refine ZV1 ?_; have HO466 := AM (Kd.R_lower ho0 (below_size (ZB))); replace HO463 := AM (Kd.N_elder' (ZRN HO463.out) (Kd.R_base ho0) hb); replace BK459 := ZW BK459 hb; replace HB := ZT HB hb; clear hb; (try clear ho0)))
 go_loopg [6] k (fun kq v6 w' => ∃ (x6_1 : Int), v6 = .int .i64 x6_1 ∧ Za (spec_TypeWhy.l0 kq t461 t464 x6_1 l0_0 l0_1 = some (r1, r2)) ∧ Za (kq ≤ k) ∧ Za (Kd.N k40 40 w' w.heap.size (fun k_ => some k_ ≠ (v465 : Value).ownBlock ∧ k_ ≠ gb459) v462 t461) ∧ Za (Kd.R k35 35 w' w.heap.size (fun _ => True) v465 t464) ∧ Za (w'.heap[gb459]? = some (.cells #[(.slice A0_0 l0_0.length c0_0), (.slice A0_1 l0_1.length c0_1)] 26 (0, 0))) ∧ Za (Below w.heap.size w w'))
 case atStart => exact ⟨(0), ZSM, H', ⟨Nat.le_refl _⟩, ⟨ZNm HO463.out (fun _ hk => ⟨hk.2, hk.1⟩)⟩, ⟨ZR HO466.out⟩, ⟨ZK BK459.out⟩, ⟨ZB⟩⟩
 case round => (
 clear H'
 try clear c1
 try clear c2
 try clear p2
 try clear c3
 try clear c5
 try clear hcz11
 try clear hcz7
 try clear hcz9
 obtain ⟨x6_1, rfl, HA, HK1, HO_4, HO_5, BK459, HB⟩ := hrel
 cases gk with
 | zero => exact absurd HA.out (by simp [spec_TypeWhy.l0])
 | succ k1 =>
  have H := HA.out
  clear HA
  simp only [spec_TypeWhy.l0] at H
  by_cases c13 : x6_1 < (t461.length : Int)
  focus (
  rw [if_pos c13] at H
  have c13b0 := decide_eq_true c13
  clear c13
  by_cases c14 : 0 ≤ x6_1
  focus (
  rw [if_pos c14] at H
  have c14b0 := decide_eq_true c14
  clear c14
  by_cases c15 : x6_1 < (t464.length : Int)
  focus (
  rw [if_pos c15] at H
  have c15b0 := decide_eq_true c15
  clear c15
  obtain ⟨t469, A16, H⟩ := ZOB H; try dsimp only at H
  by_cases c17 : t469 = true
  focus (
  subst c17
  have H1 := H; rw [if_pos rfl] at H1
  clear H
  have H := H1
  clear H1
  have H' := AM H
  clear H
  obtain ⟨Ao18, co18, eo18⟩ := Kd.N_slice HO_4.out
  subst eo18
  have tag0_ : Za True := ⟨trivial⟩)
  rotate_left
  focus (
  replace c17 := Bool.eq_false_iff.mpr c17
  subst c17
  have H1 := H; rw [if_neg ZFT] at H1
  clear H
  have H := H1
  clear H1
  simp only [Option.some.injEq, Prod.mk.injEq] at H
  obtain ⟨rfl, rfl⟩ := H
  obtain ⟨Ao22, co22, eo22⟩ := Kd.N_slice HO_4.out
  subst eo22
  have tag1_ : Za True := ⟨trivial⟩)
  rotate_left)
  rotate_left 2
  focus (
  exact ZNE H c15))
  rotate_left 2
  focus (
  exact ZNE H c14))
  rotate_left 2
  focus (
  rw [if_neg c13] at H
  have c13b0 := decide_eq_false c13
  clear c13
  simp only [Option.some.injEq, Prod.mk.injEq] at H
  obtain ⟨rfl, rfl⟩ := H
  obtain ⟨Ao26, co26, eo26⟩ := Kd.N_slice HO_4.out
  subst eo26
  have tag2_ : Za True := ⟨trivial⟩)
  rotate_left
  all_goals (
  first
  | (
  (first | (have z_ := tag0_; clear z_) | (have z_ := tag1_; clear z_))
  try go_wp2
  replace HO_4 := AM (Kd.N_drew HO_4.out)
  replace HO_5 := AM (Kd.R_drew HO_5.out)
  replace BK459 := AM (blk_drew BK459.out)
  replace HB := AM (below_drew1 HB.out)
  have pq0 : 0 ≤ (x6_1 : Int) := ZD
  have qq0 : x6_1 < (t461.length : Int) := ZD
  obtain ⟨adq0, Aq0_6, cq0_6, Aq0_7, cq0_7, eq0, hxq0_0, hxq0_1, hxq0_2, hxq0_3, hxq0_4, hxq0_5, hxq0_6, hxq0_7, hlq0_6, hiq0_6, hlq0_7, hiq0_7⟩ := at_T40 (Kd.N_reads' HO_4.out).2.2 x6_1 pq0 qq0
  cases eq0
  obtain ⟨ceq0, hceq0, hMeq0, hccq0⟩ := Kd.N_get HO_4.out z40 x6_1 pq0 (by first | exact qq0 | exact ZD | (have e_ := (Kd.N_reads' HO_4.out).1; omega))
  obtain ⟨uaq0_6, ucq0_6, uaq0_7, ucq0_7, rfl, ulq0_6, geq0_6, ulq0_7, geq0_7⟩ := k40_openF hMeq0
  have hvq0_6 := hccq0 6 _ rfl
  rw [add_field _ _ 6 (by omega)] at hvq0_6
  replace hvq0_6 := Option.some.inj (hvq0_6.symm.trans hxq0_6)
  injection hvq0_6 with hva_ hvn_ hvc_
  rw [hva_] at geq0_6
  rw [hvc_] at ulq0_6
  have HLq0_6 := AM (show Kd.V k40 40 _ w.heap.size _ _ ((D40 t461 x6_1).f4) from Kd.V_mk ulq0_6 geq0_6)
  clear hva_ hvn_ hvc_ geq0_6 ulq0_6
  have hvq0_7 := hccq0 7 _ rfl
  rw [add_field _ _ 7 (by omega)] at hvq0_7
  replace hvq0_7 := Option.some.inj (hvq0_7.symm.trans hxq0_7)
  injection hvq0_7 with hva_ hvn_ hvc_
  rw [hva_] at geq0_7
  rw [hvc_] at ulq0_7
  have HLq0_7 := AM (show Kd.V k40 40 _ w.heap.size _ _ ((D40 t461 x6_1).f5) from Kd.V_mk ulq0_7 geq0_7)
  clear hva_ hvn_ hvc_ geq0_7 ulq0_7 hccq0 hceq0
  have HRq0_6 := AM hiq0_6
  have HCq0_6 := AM hlq0_6
  clear hiq0_6 hlq0_6
  have HRq0_7 := AM hiq0_7
  have HCq0_7 := AM hlq0_7
  clear hiq0_7 hlq0_7
  replace pq0 := eq_true pq0
  replace qq0 := eq_true qq0
  obtain ⟨Aoq0, coq0, eoq0⟩ := Kd.R_slice HO_5.out
  (first | subst eoq0 | (injection eoq0 with f1_ f2_ f3_; have fq0_ := f1_.symm; have fq1_ := f3_.symm; clear f1_ f2_ f3_; subst fq0_; subst fq1_))
  have pq1 : 0 ≤ (x6_1 : Int) := ZD
  have qq1 : x6_1 < (t464.length : Int) := ZD
  obtain ⟨adq1, eq1, hxq1_0, hxq1_1⟩ := at_T35 (Kd.R_reads' HO_5.out).2.2 x6_1 pq1 qq1
  cases eq1
  replace pq1 := eq_true pq1
  replace qq1 := eq_true qq1
  refine start_ (n := 11) (S := fun w' => w'.cell? ⟨gb459, 0, none⟩ = some (.slice A0_0 l0_0.length c0_0) ∧ w'.cell? ⟨gb459, 1, none⟩ = some (.slice A0_1 l0_1.length c0_1) ∧ w'.cell? (adq0.add ((x6_1).toNat * 8)) = some (.int .i64 ((D40 t461 x6_1).f0)) ∧ w'.cell? ⟨(adq0.add ((x6_1).toNat * 8)).block, (adq0.add ((x6_1).toNat * 8)).off + 1, none⟩ = some (.int .i64 ((D40 t461 x6_1).f1)) ∧ w'.cell? ⟨(adq0.add ((x6_1).toNat * 8)).block, (adq0.add ((x6_1).toNat * 8)).off + 2, none⟩ = some (.int .i64 ((D40 t461 x6_1).f2.f0)) ∧ w'.cell? ⟨(adq0.add ((x6_1).toNat * 8)).block, (adq0.add ((x6_1).toNat * 8)).off + 3, none⟩ = some (.int .i64 ((D40 t461 x6_1).f2.f1)) ∧ w'.cell? ⟨(adq0.add ((x6_1).toNat * 8)).block, (adq0.add ((x6_1).toNat * 8)).off + 4, none⟩ = some (.int .i64 ((D40 t461 x6_1).f2.f2)) ∧ w'.cell? ⟨(adq0.add ((x6_1).toNat * 8)).block, (adq0.add ((x6_1).toNat * 8)).off + 5, none⟩ = some (.int .i64 ((D40 t461 x6_1).f3)) ∧ w'.cell? ⟨(adq0.add ((x6_1).toNat * 8)).block, (adq0.add ((x6_1).toNat * 8)).off + 6, none⟩ = some (.slice Aq0_6 ((D40 t461 x6_1).f4).length cq0_6) ∧ w'.cell? ⟨(adq0.add ((x6_1).toNat * 8)).block, (adq0.add ((x6_1).toNat * 8)).off + 7, none⟩ = some (.slice Aq0_7 ((D40 t461 x6_1).f5).length cq0_7) ∧ w'.cell? (adq1.add ((x6_1).toNat * 2)) = some (.int .i64 ((D35 t464 x6_1).f0)) ∧ w'.cell? ⟨(adq1.add ((x6_1).toNat * 2)).block, (adq1.add ((x6_1).toNat * 2)).off + 1, none⟩ = some (.int .i64 ((D35 t464 x6_1).f1))) (ds := []) #[F,F,F,F,F,F,F,F,F,F,F] (by kernel_rfl) rfl rfl ⟨ZA BK459 0, ZA BK459 1, hxq0_0, hxq0_1, hxq0_2, hxq0_3, hxq0_4, hxq0_5, hxq0_6, hxq0_7, hxq1_0, hxq1_1⟩ (fun hHeld => ?_); refine with_tabW spec_TypeWhy.tab8 spec_TypeWhy.bits8 (fun HT_ HW_ => ?_)
  generalize wr.drew = wq0 at HO_4 HO_5 BK459 HB HLq0_6 HLq0_7 HRq0_6 HRq0_7 hxq0_0 hxq0_1 hxq0_2 hxq0_3 hxq0_4 hxq0_5 hxq0_6 hxq0_7 hxq1_0 hxq1_1 hHeld ⊢
  refine ZU 1 22 #[F,T,F,F,F,F,F,F,F,F,F] ?_
  refine ZU 2 23 #[F,T,T,F,F,F,F,F,F,F,F] ?_
  refine ZU 3 24 #[F,T,T,T,F,F,F,F,F,F,F] ?_
  refine ZU 5 26 #[F,T,T,T,F,T,F,F,F,F,F] ?_
  refine ZU 6 27 #[F,T,T,T,F,T,T,F,F,F,F] ?_
  refine ZU 7 28 #[F,T,T,T,F,T,T,T,F,F,F] ?_
  refine ZTK 0 21 #[T,T,T,T,F,T,T,T,F,F,F] hHeld ?_
  refine ZTK 4 25 #[T,T,T,T,T,T,T,T,F,F,F] hHeld ?_
  refine ZTK 8 29 #[T,T,T,T,T,T,T,T,T,F,F] hHeld ?_
  refine one_ (i := 9) (N := some 30) #[T,T,T,T,T,T,T,T,T,T,F] rfl rfl (one_of HT_.out (by kernel_rfl)) (by decide) (fun K hK => ?_)
  refine ZGO Try.func53 #[.agg #[.slice A0_0 l0_0.length c0_0, .slice A0_1 l0_1.length c0_1], .agg #[.int .i64 ((D40 t461 x6_1).f0), .int .i64 ((D40 t461 x6_1).f1), .int .i64 ((D40 t461 x6_1).f2.f0), .int .i64 ((D40 t461 x6_1).f2.f1), .int .i64 ((D40 t461 x6_1).f2.f2), .int .i64 ((D40 t461 x6_1).f3), .slice Aq0_6 ((D40 t461 x6_1).f4).length cq0_6, .slice Aq0_7 ((D40 t461 x6_1).f5).length cq0_7], .agg #[.int .i64 ((D35 t464 x6_1).f0), .int .i64 ((D35 t464 x6_1).f1)]] ?_
  first
  | (
  (have z_ := tag0_; clear z_)
  with_reducible refine (spec_l11Fine.calls k1 _ _ l0_0 _ _ l0_1 ((D40 t461 x6_1).f0) ((D40 t461 x6_1).f1) ((D40 t461 x6_1).f2.f0) ((D40 t461 x6_1).f2.f1) ((D40 t461 x6_1).f2.f2) ((D40 t461 x6_1).f3) _ _ ((D40 t461 x6_1).f4) _ _ ((D40 t461 x6_1).f5) ((D35 t464 x6_1).f0) ((D35 t464 x6_1).f1) true _ ?side1 ?side2 ?side3 ?side4 ?side5 ?side6 ?side7 ?side8 A16.out).mono ?_
  (case side1 => exact ZQ (Kd.C_below HR0_0.out HB.out))
  (case side2 => exact HC0_0.out)
  (case side3 => exact ZQ (Kd.C_below HR0_1.out HB.out))
  (case side4 => exact HC0_1.out)
  (case side5 => repeat (first | exact (ZQ HRq0_6.out) | (with_reducible refine Kd.C_alloc ?_ _) | (with_reducible refine Kd.C_drewN ?_ _) | (with_reducible refine Kd.C_drew ?_)))
  (case side6 => exact HCq0_6.out)
  (case side7 => repeat (first | exact (ZQ HRq0_7.out) | (with_reducible refine Kd.C_alloc ?_ _) | (with_reducible refine Kd.C_drewN ?_ _) | (with_reducible refine Kd.C_drew ?_)))
  (case side8 => exact HCq0_7.out)
  rintro e wq1 ⟨rfl, hb⟩
  have HSq0_ := (hb.cell (World.block_lt_of_cell? _ _ (hHeld.2.2.1))).trans (hHeld.2.2.1)
  have HSq1_ := (hb.cell (World.block_lt_of_cell? _ _ (hHeld.2.2.2.1))).trans (hHeld.2.2.2.1)
  have HSq2_ := (hb.cell (World.block_lt_of_cell? _ _ (hHeld.2.2.2.2.1))).trans (hHeld.2.2.2.2.1)
  have HSq3_ := (hb.cell (World.block_lt_of_cell? _ _ (hHeld.2.2.2.2.2.1))).trans (hHeld.2.2.2.2.2.1)
  have HSq4_ := (hb.cell (World.block_lt_of_cell? _ _ (hHeld.2.2.2.2.2.2.1))).trans (hHeld.2.2.2.2.2.2.1)
  have HSq5_ := (hb.cell (World.block_lt_of_cell? _ _ (hHeld.2.2.2.2.2.2.2.1))).trans (hHeld.2.2.2.2.2.2.2.1)
  have HSq6_ := (hb.cell (World.block_lt_of_cell? _ _ (hHeld.2.2.2.2.2.2.2.2.1))).trans (hHeld.2.2.2.2.2.2.2.2.1)
  have HSq7_ := (hb.cell (World.block_lt_of_cell? _ _ (hHeld.2.2.2.2.2.2.2.2.2.1))).trans (hHeld.2.2.2.2.2.2.2.2.2.1)
  have HSq8_ := (hb.cell (World.block_lt_of_cell? _ _ (hHeld.2.2.2.2.2.2.2.2.2.2.1))).trans (hHeld.2.2.2.2.2.2.2.2.2.2.1)
  have HSq9_ := (hb.cell (World.block_lt_of_cell? _ _ (hHeld.2.2.2.2.2.2.2.2.2.2.2))).trans (hHeld.2.2.2.2.2.2.2.2.2.2.2)
  refine ZV1 ?_
  have n0_ := AM (Kd.N_below (ZRN HO_4.out) hb)
  have n1_ := AM (Kd.R_below (ZR HO_5.out) hb)
  have n2_ := AM (Kd.V_below (ZRV HLq0_6.out) hb)
  have n3_ := AM (Kd.V_below (ZRV HLq0_7.out) hb)
  have nq0_ := ZW BK459 hb
  have nq1_ := AM (Kd.C_below (ZQ HRq0_6.out) hb)
  have nq2_ := AM (Kd.C_below (ZQ HRq0_7.out) hb)
  have nq3_ := ZT HB hb
  clear HO_4 HO_5 HLq0_6 HLq0_7 BK459 HRq0_6 HRq0_7 HB
  have HO_4 := n0_
  have HO_5 := n1_
  have HLq0_6 := n2_
  have HLq0_7 := n3_
  have BK459 := nq0_
  have HRq0_6 := nq1_
  have HRq0_7 := nq2_
  have HB := nq3_
  clear n0_ n1_ n2_ n3_ nq0_ nq1_ nq2_ nq3_
  (try clear hb)
  (try clear hb2)
  (try clear hk)
  (try clear hi)
  refine hK.out _ _ ⟨ZA BK459 0, ZA BK459 1, HSq0_, HSq1_, HSq2_, HSq3_, HSq4_, HSq5_, HSq6_, HSq7_, HSq8_, HSq9_⟩ (fun hHeld => ?_)
  clear hK K
  refine ZNO 30 ?_
  refine ZU 10 31 #[T,T,T,T,T,T,T,T,T,T,T] ?_
  refine done_ (done_of HT_.out (by kernel_rfl)) ?_
  try go_wp2
  go_roundg k1
  case measure => have := HK1.out; omega
  case rel => exact ⟨(wrap64 (x6_1 + 1)), ZSM, H', ⟨by have := HK1.out; omega⟩, ⟨ZRN HO_4.out⟩, ⟨ZR HO_5.out⟩, ⟨ZK BK459.out⟩, ⟨ZB⟩⟩)
  | (
  (have z_ := tag1_; clear z_)
  with_reducible refine (spec_l11Fine.calls k1 _ _ l0_0 _ _ l0_1 ((D40 t461 x6_1).f0) ((D40 t461 x6_1).f1) ((D40 t461 x6_1).f2.f0) ((D40 t461 x6_1).f2.f1) ((D40 t461 x6_1).f2.f2) ((D40 t461 x6_1).f3) _ _ ((D40 t461 x6_1).f4) _ _ ((D40 t461 x6_1).f5) ((D35 t464 x6_1).f0) ((D35 t464 x6_1).f1) false _ ?side1 ?side2 ?side3 ?side4 ?side5 ?side6 ?side7 ?side8 A16.out).mono ?_
  (case side1 => exact ZQ (Kd.C_below HR0_0.out HB.out))
  (case side2 => exact HC0_0.out)
  (case side3 => exact ZQ (Kd.C_below HR0_1.out HB.out))
  (case side4 => exact HC0_1.out)
  (case side5 => repeat (first | exact (ZQ HRq0_6.out) | (with_reducible refine Kd.C_alloc ?_ _) | (with_reducible refine Kd.C_drewN ?_ _) | (with_reducible refine Kd.C_drew ?_)))
  (case side6 => exact HCq0_6.out)
  (case side7 => repeat (first | exact (ZQ HRq0_7.out) | (with_reducible refine Kd.C_alloc ?_ _) | (with_reducible refine Kd.C_drewN ?_ _) | (with_reducible refine Kd.C_drew ?_)))
  (case side8 => exact HCq0_7.out)
  rintro e wq1 ⟨rfl, hb⟩
  have HSq0_ := (hb.cell (World.block_lt_of_cell? _ _ (hHeld.2.2.1))).trans (hHeld.2.2.1)
  have HSq1_ := (hb.cell (World.block_lt_of_cell? _ _ (hHeld.2.2.2.1))).trans (hHeld.2.2.2.1)
  have HSq2_ := (hb.cell (World.block_lt_of_cell? _ _ (hHeld.2.2.2.2.1))).trans (hHeld.2.2.2.2.1)
  have HSq3_ := (hb.cell (World.block_lt_of_cell? _ _ (hHeld.2.2.2.2.2.1))).trans (hHeld.2.2.2.2.2.1)
  have HSq4_ := (hb.cell (World.block_lt_of_cell? _ _ (hHeld.2.2.2.2.2.2.1))).trans (hHeld.2.2.2.2.2.2.1)
  have HSq5_ := (hb.cell (World.block_lt_of_cell? _ _ (hHeld.2.2.2.2.2.2.2.1))).trans (hHeld.2.2.2.2.2.2.2.1)
  have HSq6_ := (hb.cell (World.block_lt_of_cell? _ _ (hHeld.2.2.2.2.2.2.2.2.1))).trans (hHeld.2.2.2.2.2.2.2.2.1)
  have HSq7_ := (hb.cell (World.block_lt_of_cell? _ _ (hHeld.2.2.2.2.2.2.2.2.2.1))).trans (hHeld.2.2.2.2.2.2.2.2.2.1)
  have HSq8_ := (hb.cell (World.block_lt_of_cell? _ _ (hHeld.2.2.2.2.2.2.2.2.2.2.1))).trans (hHeld.2.2.2.2.2.2.2.2.2.2.1)
  have HSq9_ := (hb.cell (World.block_lt_of_cell? _ _ (hHeld.2.2.2.2.2.2.2.2.2.2.2))).trans (hHeld.2.2.2.2.2.2.2.2.2.2.2)
  refine ZV1 ?_
  have n0_ := AM (Kd.N_below (ZRN HO_4.out) hb)
  have n1_ := AM (Kd.R_below (ZR HO_5.out) hb)
  have n2_ := AM (Kd.V_below (ZRV HLq0_6.out) hb)
  have n3_ := AM (Kd.V_below (ZRV HLq0_7.out) hb)
  have nq0_ := ZW BK459 hb
  have nq1_ := AM (Kd.C_below (ZQ HRq0_6.out) hb)
  have nq2_ := AM (Kd.C_below (ZQ HRq0_7.out) hb)
  have nq3_ := ZT HB hb
  clear HO_4 HO_5 HLq0_6 HLq0_7 BK459 HRq0_6 HRq0_7 HB
  have HO_4 := n0_
  have HO_5 := n1_
  have HLq0_6 := n2_
  have HLq0_7 := n3_
  have BK459 := nq0_
  have HRq0_6 := nq1_
  have HRq0_7 := nq2_
  have HB := nq3_
  clear n0_ n1_ n2_ n3_ nq0_ nq1_ nq2_ nq3_
  (try clear hb)
  (try clear hb2)
  (try clear hk)
  (try clear hi)
  refine hK.out _ _ ⟨ZA BK459 0, ZA BK459 1, HSq0_, HSq1_, HSq2_, HSq3_, HSq4_, HSq5_, HSq6_, HSq7_, HSq8_, HSq9_⟩ (fun hHeld => ?_)
  clear hK K
  refine ZNO 30 ?_
  refine ZU 10 31 #[T,T,T,T,T,T,T,T,T,T,T] ?_
  refine done_ (done_of HT_.out (by kernel_rfl)) ?_
  try go_wp2
  go_ret2
  exact ⟨ZE, ZB⟩))
  | (
  (have z_ := tag2_; clear z_)
  go_wp2
  go_ret2
  exact ⟨ZE, ZB⟩))))
 ·(
 replace c3 := Bool.eq_false_iff.mpr c3
 subst c3
 have H1 := H; rw [if_neg ZFT] at H1
 clear H
 have H := H1
 clear H1
 simp only [Option.some.injEq, Prod.mk.injEq] at H
 obtain ⟨rfl, rfl⟩ := H
 go_enter Try.func30, Try.ntmps30
 go_wp2_with (first | ((with_reducible refine gate_dst (N := 1) rfl ?_); refine ZXW w (N := 1) (cs := #[.slice A0_0 l0_0.length c0_0, .slice A0_1 l0_1.length c0_1]) (t := 26) ?_; intro gb459 hg w27 BK459 GW459 hb; replace HB := ZT HB hb; clear hb hg; have hcz28 := ZC2 w27 BK459) | ((with_reducible refine gate_callee (f := 16) rfl ?_); refine ZGL (some 8) Try.func16 #[.agg #[.slice A0_0 l0_0.length c0_0, .slice A0_1 l0_1.length c0_1]] ?_; (with_reducible refine (spec_ProgOk.calls k _ _ l0_0 _ _ l0_1 false _ (ZQ (Kd.C_below HR0_0.out HB.out)) HC0_0.out (ZQ (Kd.C_below HR0_1.out HB.out)) HC0_1.out A2.out).mono ?_); rintro e w29 ⟨rfl, hb⟩; refine ZV1 ?_; replace BK459 := ZW BK459 hb; replace HB := ZT HB hb; clear hb))
 go_ret2
 exact ⟨ZE, ZB⟩)

end Go.Proofs.Ytkkdeojbkfjlpaa.A
