/- Go functions as Lean functions, and for each its contract; written by wip/tools/pr.py over the kit's print. -/
import Derived.Test.YtfcmckomagaiiaaDoorAx0
import Derived.Test.YtfcmckomagaiiaaDoorAx5
import Derived.Test.YtfcmckomagaiiaaDoorAx18
import Derived.Test.YtfcmckomagaiiaaDoorAx19
import Derived.Test.YtfcmckomagaiiaaDoorAx21
import Derived.Test.YtfcmckomagaiiaaDoorAx22
namespace Go.Proofs.YtfcmckomagaiiaaDoor.A
open Go.RowKit Go.Proofs.YtfcmckomagaiiaaDoorW.PrintWords Go.Proofs.YtfcmckomagaiiaaDoorW.PrintLast Go.Proofs.YtfcmckomagaiiaaDoorW.PrintMore
attribute [local go_sem] max2_int min2_int max_two min_two max_three min_three max_four min_four
set_option linter.unusedVariables false
set_option linter.unusedSimpArgs false
set_option maxHeartbeats 8000000
set_option maxRecDepth 100000

/-! ### spec_l11Fine: function 83 -/
def spec_l11Fine.f (k : Nat) (l0_0 : List (S43)) (l0_1 : List (S71)) (a1_0 : Int) (a1_1 : Int) (a1_2 : Int) (a1_3 : Int) (a1_4 : Int) (a1_5 : Int) (l1_6 : List (S71)) (l1_7 : List (S71)) (a2_0 : Int) (a2_1 : Int) : Option (Bool) := if a1_0 = 1 then ((spec_l11Val.f k l0_0 l0_1 a1_2 a1_3 a1_4).bind fun bt440 => ((spec_LabelBoth.f k a2_0 a2_1 bt440.1 bt440.2).bind fun bt442 => (if 0 ≤ a1_1 then (if a1_1 < (l0_0.length : Int) then ((spec_LabelFlows.f k bt442.1 bt442.2 ((D43 l0_0 a1_1).f0) ((D43 l0_0 a1_1).f1)).bind fun t445 => (some t445)) else (none)) else (none)))) else (if a1_0 = 3 then (if 0 ≤ a1_1 then (if a1_1 < (l0_0.length : Int) then ((spec_l1Both.f k a2_0 ((D43 l0_0 a1_1).f0)).bind fun t447 => ((spec_l1Has.f t447 a1_5).bind fun t448 => (some t448))) else (none)) else (none)) else (some true))
def spec_l11Fine.T3 : Bool × List (List Nat × List Nat) := (true, [([], []), ([], []), ([], []), ([2], [2]), ([1, 3], [1, 3]), ([0, 4, 4], [0, 4]), ([], []), ([6], [6]), ([], []), ([8], [8]), ([7, 9], [7, 9]), ([10], [10]), ([5, 11, 5], [5, 11]), ([12, 12, 0, 1, 2, 3, 4, 5, 6, 7, 8, 9, 10, 11, 12], [12])])
def spec_l11Fine.B3 : List Nat := [0, 0, 0, 4, 14, 31, 0, 64, 0, 256, 960, 1984, 4095, 8191]
theorem spec_l11Fine.tab3 : rtab .any (opsOf Tryd.f83 3) = spec_l11Fine.T3 := by kernel_rfl
theorem spec_l11Fine.bits3 : waitsOk spec_l11Fine.T3.2 spec_l11Fine.B3 = true := by kernel_rfl
def spec_l11Fine.T5 : Bool × List (List Nat × List Nat) := (true, [([], []), ([0], [0]), ([], []), ([2], [2]), ([], []), ([4], [4]), ([3, 5], [3, 5]), ([6], [6]), ([7], [7]), ([1, 8], [1, 8]), ([], []), ([10], [10]), ([9, 11, 9], [9, 11]), ([12, 12, 0, 1, 2, 3, 4, 5, 6, 7, 8, 9, 10, 11, 12], [12])])
def spec_l11Fine.B5 : List Nat := [0, 1, 0, 4, 0, 16, 60, 124, 252, 511, 0, 1024, 4095, 8191]
theorem spec_l11Fine.tab5 : rtab .any (opsOf Tryd.f83 5) = spec_l11Fine.T5 := by kernel_rfl
theorem spec_l11Fine.bits5 : waitsOk spec_l11Fine.T5.2 spec_l11Fine.B5 = true := by kernel_rfl
theorem spec_l11Fine.calls (k : Nat) (A0_0 : Option Addr) (c0_0 : Nat) (l0_0 : List (S43)) (A0_1 : Option Addr) (c0_1 : Nat) (l0_1 : List (S71)) (a1_0 : Int) (a1_1 : Int) (a1_2 : Int) (a1_3 : Int) (a1_4 : Int) (a1_5 : Int) (A1_6 : Option Addr) (c1_6 : Nat) (l1_6 : List (S71)) (A1_7 : Option Addr) (c1_7 : Nat) (l1_7 : List (S71)) (a2_0 : Int) (a2_1 : Int) (r : Bool) (w : World) (hr0_0 : Kd.C k43 w A0_0 l0_0.length l0_0) (hc0_0 : l0_0.length ≤ c0_0) (hr0_1 : Kd.C k71 w A0_1 l0_1.length l0_1) (hc0_1 : l0_1.length ≤ c0_1) (hr1_6 : Kd.C k71 w A1_6 l1_6.length l1_6) (hc1_6 : l1_6.length ≤ c1_6) (hr1_7 : Kd.C k71 w A1_7 l1_7.length l1_7) (hc1_7 : l1_7.length ≤ c1_7) (h : spec_l11Fine.f k l0_0 l0_1 a1_0 a1_1 a1_2 a1_3 a1_4 a1_5 l1_6 l1_7 a2_0 a2_1 = some r) :
  Calls Tryd.prog 83 #[.agg #[.slice A0_0 l0_0.length c0_0, .slice A0_1 l0_1.length c0_1], .agg #[.int .i64 a1_0, .int .i64 a1_1, .int .i64 a1_2, .int .i64 a1_3, .int .i64 a1_4, .int .i64 a1_5, .slice A1_6 l1_6.length c1_6, .slice A1_7 l1_7.length c1_7], .agg #[.int .i64 a2_0, .int .i64 a2_1]] w fun e w' => e = .returned (.bool r) ∧ Below w.heap.size w w' := by
 have hu31 := Tryd.underlying31
 have hu71 := Tryd.underlying71
 have hu43 := Tryd.underlying43
 have hu69 := Tryd.underlying69
 have HR0_0 := AM hr0_0
 have HC0_0 := AM hc0_0
 clear hr0_0 hc0_0
 have HR0_1 := AM hr0_1
 have HC0_1 := AM hc0_1
 clear hr0_1 hc0_1
 have HR1_6 := AM hr1_6
 have HC1_6 := AM hc1_6
 clear hr1_6 hc1_6
 have HR1_7 := AM hr1_7
 have HC1_7 := AM hc1_7
 clear hr1_7 hc1_7
 have HB := AM (Below.refl w.heap.size w)
 have H := h
 unfold spec_l11Fine.f at H
 clear h
 by_cases c4 : a1_0 = 1
 ·(
 rw [if_pos c4] at H
 have c4b0 := beq_iff_eq.mpr c4
 have c4b1 := bne_eq_false_iff_eq.mpr c4
 clear c4
 obtain ⟨⟨t440, t441⟩, A5, H⟩ := ZOB H; try dsimp only at H
 obtain ⟨⟨t442, t443⟩, A6, H⟩ := ZOB H; try dsimp only at H
 by_cases c7 : 0 ≤ a1_1
 ·(
 rw [if_pos c7] at H
 have c7b0 := decide_eq_true c7
 clear c7
 by_cases c8 : a1_1 < (l0_0.length : Int)
 ·(
 rw [if_pos c8] at H
 have c8b0 := decide_eq_true c8
 clear c8
 obtain ⟨t445, A9, H⟩ := ZOB H; try dsimp only at H
 obtain rfl := Option.some.inj H
 go_enter Tryd.func83, Tryd.ntmps83
 try go_wp2_with (first | ((with_reducible refine gate_dst (N := 3) rfl ?_); refine ZXW w (N := 3) (cs := #[.slice A0_0 l0_0.length c0_0, .slice A0_1 l0_1.length c0_1]) (t := 31) ?_; intro gb437 hg w10 BK437 GW437 hb; replace HB := ZT HB hb; clear hb hg) | ((with_reducible refine gate_dst (N := 4) rfl ?_); refine ZXW w (N := 4) (cs := #[.int .i64 a1_0, .int .i64 a1_1, .int .i64 a1_2, .int .i64 a1_3, .int .i64 a1_4, .int .i64 a1_5, .slice A1_6 l1_6.length c1_6, .slice A1_7 l1_7.length c1_7]) (t := 71) ?_; intro gb438 hg w11 BK438 GW438 hb; have NB437_438 : Za (gb437 ≠ gb438) := ZN hg BK437; have NB438_437 : Za (gb438 ≠ gb437) := ZM hg BK437; replace BK437 := ZW BK437 hb; replace HB := ZT HB hb; clear hb hg) | ((with_reducible refine gate_dst (N := 5) rfl ?_); refine ZXW w (N := 5) (cs := #[.int .i64 a2_0, .int .i64 a2_1]) (t := 43) ?_; intro gb439 hg w12 BK439 GW439 hb; have NB437_439 : Za (gb437 ≠ gb439) := ZN hg BK437; have NB439_437 : Za (gb439 ≠ gb437) := ZM hg BK437; have NB438_439 : Za (gb438 ≠ gb439) := ZN hg BK438; have NB439_438 : Za (gb439 ≠ gb438) := ZM hg BK438; replace BK437 := ZW BK437 hb; replace BK438 := ZW BK438 hb; replace HB := ZT HB hb; clear hb hg; have hnb13 := NB438_437.out; have hnc13 := NB437_438.out; have hnb14 := NB438_439.out; have hnc14 := NB439_438.out; have hcz15 := ZC8 w12 BK438))
 replace BK437 := AM (blk_drew BK437.out)
 replace BK438 := AM (blk_drew BK438.out)
 replace BK439 := AM (blk_drew BK439.out)
 replace HB := AM (below_drew1 HB.out)
 have p444 : 0 ≤ (a1_1 : Int) := ZD
 have q444 : a1_1 < (l0_0.length : Int) := ZD
 obtain ⟨ad444, e444, hx444_0, hx444_1⟩ := at_T43 HR0_0.out a1_1 p444 q444
 have hw444_1 := hx444_1
 have hw444_0 := hx444_0
 cases e444
 replace hx444_0 := ZHX HB hx444_0
 replace hx444_1 := ZHX HB hx444_1
 replace p444 := eq_true p444
 replace q444 := eq_true q444
 refine start_ (n := 14) (S := fun w' => w'.cell? ⟨gb439, 0, none⟩ = some (.int .i64 a2_0) ∧ w'.cell? ⟨gb439, 1, none⟩ = some (.int .i64 a2_1) ∧ w'.cell? ⟨gb437, 0, none⟩ = some (.slice (some ad444) l0_0.length c0_0) ∧ w'.cell? ⟨gb437, 1, none⟩ = some (.slice A0_1 l0_1.length c0_1) ∧ w'.cell? ⟨gb438, 0, none⟩ = some (.int .i64 a1_0) ∧ w'.cell? ⟨gb438, 1, none⟩ = some (.int .i64 a1_1) ∧ w'.cell? ⟨gb438, 2, none⟩ = some (.int .i64 a1_2) ∧ w'.cell? ⟨gb438, 3, none⟩ = some (.int .i64 a1_3) ∧ w'.cell? ⟨gb438, 4, none⟩ = some (.int .i64 a1_4) ∧ w'.cell? ⟨gb438, 5, none⟩ = some (.int .i64 a1_5) ∧ w'.cell? ⟨gb438, 6, none⟩ = some (.slice A1_6 l1_6.length c1_6) ∧ w'.cell? ⟨gb438, 7, none⟩ = some (.slice A1_7 l1_7.length c1_7) ∧ w'.cell? (ad444.add ((a1_1).toNat * 2)) = some (.int .i64 ((D43 l0_0 a1_1).f0)) ∧ w'.cell? ⟨(ad444.add ((a1_1).toNat * 2)).block, (ad444.add ((a1_1).toNat * 2)).off + 1, none⟩ = some (.int .i64 ((D43 l0_0 a1_1).f1))) (ds := []) #[F,F,F,F,F,F,F,F,F,F,F,F,F,F] (by kernel_rfl) rfl rfl ⟨ZA BK439 0, ZA BK439 1, ZA BK437 0, ZA BK437 1, ZA BK438 0, ZA BK438 1, ZA BK438 2, ZA BK438 3, ZA BK438 4, ZA BK438 5, ZA BK438 6, ZA BK438 7, ((HB.out.cell (World.block_lt_of_cell? w _ hw444_0)).trans hw444_0), ((HB.out.cell (World.block_lt_of_cell? w _ hw444_1)).trans hw444_1)⟩ (fun hHeld => ?_); refine with_tabW spec_l11Fine.tab3 spec_l11Fine.bits3 (fun HT_ HW_ => ?_)
 generalize w12.drew = w16 at BK437 BK438 BK439 HB hx444_0 hx444_1 hHeld ⊢
 refine ZU 2 13 #[F,F,T,F,F,F,F,F,F,F,F,F,F,F] ?_
 refine ZU 6 17 #[F,F,T,F,F,F,T,F,F,F,F,F,F,F] ?_
 refine ZU 8 19 #[F,F,T,F,F,F,T,F,T,F,F,F,F,F] ?_
 refine ZTK 0 11 #[T,F,T,F,F,F,T,F,T,F,F,F,F,F] hHeld ?_
 refine ZTK 1 12 #[T,T,T,F,F,F,T,F,T,F,F,F,F,F] hHeld ?_
 refine ZTK 3 14 #[T,T,T,T,F,F,T,F,T,F,F,F,F,F] hHeld ?_
 refine ZTK 7 18 #[T,T,T,T,F,F,T,T,T,F,F,F,F,F] hHeld ?_
 refine ZTK 9 20 #[T,T,T,T,F,F,T,T,T,T,F,F,F,F] hHeld ?_
 refine ZU 10 21 #[T,T,T,T,F,F,T,T,T,T,T,F,F,F] ?_
 refine ZTK 11 22 #[T,T,T,T,F,F,T,T,T,T,T,T,F,F] hHeld ?_
 refine one_ (i := 4) (N := some 15) #[T,T,T,T,T,F,T,T,T,T,T,T,F,F] rfl rfl (one_of HT_.out (by kernel_rfl)) (by decide) (fun K hK => ?_)
 refine ZGO Tryd.func92 #[.agg #[.slice (some ad444) l0_0.length c0_0, .slice A0_1 l0_1.length c0_1], .agg #[.int .i64 a1_2, .int .i64 a1_3, .int .i64 a1_4]] ?_
 with_reducible refine (spec_l11Val.calls k _ _ l0_0 _ _ l0_1 a1_2 a1_3 a1_4 t440 t441 _ ?side1 ?side2 ?side3 ?side4 A5.out).mono ?_
 (case side1 => exact ZQ (Kd.C_below HR0_0.out HB.out))
 (case side2 => exact HC0_0.out)
 (case side3 => exact ZQ (Kd.C_below HR0_1.out HB.out))
 (case side4 => exact HC0_1.out)
 rintro e w17 ⟨rfl, hb⟩
 refine ZV1 ?_
 replace BK437 := ZW BK437 hb
 replace BK438 := ZW BK438 hb
 replace BK439 := ZW BK439 hb
 replace HB := ZT HB hb
 (try clear hb)
 (try clear hb2)
 (try clear hk)
 (try clear hi)
 refine hK.out _ _ ⟨ZA BK439 0, ZA BK439 1, ZA BK437 0, ZA BK437 1, ZA BK438 0, ZA BK438 1, ZA BK438 2, ZA BK438 3, ZA BK438 4, ZA BK438 5, ZA BK438 6, ZA BK438 7, ((HB.out.cell (World.block_lt_of_cell? w _ hw444_0)).trans hw444_0), ((HB.out.cell (World.block_lt_of_cell? w _ hw444_1)).trans hw444_1)⟩ (fun hHeld => ?_)
 clear hK K
 refine ZNO 15 ?_
 refine one_ (i := 5) (N := some 16) #[T,T,T,T,T,T,T,T,T,T,T,T,F,F] rfl rfl (one_of HT_.out (by kernel_rfl)) (by decide) (fun K hK => ?_)
 refine ZGO Tryd.func91 #[.agg #[.int .i64 a2_0, .int .i64 a2_1], .agg #[.int .i64 t440, .int .i64 t441]] ?_
 with_reducible refine (spec_LabelBoth.calls k a2_0 a2_1 t440 t441 t442 t443 _ A6.out).mono ?_
 rintro e w18 ⟨rfl, hb⟩
 refine ZV1 ?_
 replace BK437 := ZW BK437 hb
 replace BK438 := ZW BK438 hb
 replace BK439 := ZW BK439 hb
 replace HB := ZT HB hb
 (try clear hb)
 (try clear hb2)
 (try clear hk)
 (try clear hi)
 refine hK.out _ _ ⟨ZA BK439 0, ZA BK439 1, ZA BK437 0, ZA BK437 1, ZA BK438 0, ZA BK438 1, ZA BK438 2, ZA BK438 3, ZA BK438 4, ZA BK438 5, ZA BK438 6, ZA BK438 7, ((HB.out.cell (World.block_lt_of_cell? w _ hw444_0)).trans hw444_0), ((HB.out.cell (World.block_lt_of_cell? w _ hw444_1)).trans hw444_1)⟩ (fun hHeld => ?_)
 clear hK K
 refine ZNO 16 ?_
 refine one_ (i := 12) (N := some 23) #[T,T,T,T,T,T,T,T,T,T,T,T,T,F] rfl rfl (one_of HT_.out (by kernel_rfl)) (by decide) (fun K hK => ?_)
 refine ZGO Tryd.func90 #[.agg #[.int .i64 t442, .int .i64 t443], .agg #[.int .i64 ((D43 l0_0 a1_1).f0), .int .i64 ((D43 l0_0 a1_1).f1)]] ?_
 with_reducible refine (spec_LabelFlows.calls k t442 t443 ((D43 l0_0 a1_1).f0) ((D43 l0_0 a1_1).f1) t445 _ A9.out).mono ?_
 rintro e w19 ⟨rfl, hb⟩
 refine ZV1 ?_
 replace BK437 := ZW BK437 hb
 replace BK438 := ZW BK438 hb
 replace BK439 := ZW BK439 hb
 replace HB := ZT HB hb
 (try clear hb)
 (try clear hb2)
 (try clear hk)
 (try clear hi)
 refine hK.out _ _ ⟨ZA BK439 0, ZA BK439 1, ZA BK437 0, ZA BK437 1, ZA BK438 0, ZA BK438 1, ZA BK438 2, ZA BK438 3, ZA BK438 4, ZA BK438 5, ZA BK438 6, ZA BK438 7, ((HB.out.cell (World.block_lt_of_cell? w _ hw444_0)).trans hw444_0), ((HB.out.cell (World.block_lt_of_cell? w _ hw444_1)).trans hw444_1)⟩ (fun hHeld => ?_)
 clear hK K
 refine ZNO 23 ?_
 refine ZU 13 6 #[T,T,T,T,T,T,T,T,T,T,T,T,T,T] ?_
 refine done_ (done_of HT_.out (by kernel_rfl)) ?_
 try go_wp2
 go_ret
 exact ⟨ZE, ZB⟩)
 ·(
 rw [if_neg c8] at H
 exact absurd H (by simp)))
 ·(
 rw [if_neg c7] at H
 exact absurd H (by simp)))
 ·(
 rw [if_neg c4] at H
 have c4b0 := beq_eq_false_iff_ne.mpr c4
 have c4b1 := bne_iff_ne.mpr c4
 by_cases c20 : a1_0 = 3
 ·(
 rw [if_pos c20] at H
 have c20b0 := beq_iff_eq.mpr c20
 have c20b1 := bne_eq_false_iff_eq.mpr c20
 clear c20
 by_cases c21 : 0 ≤ a1_1
 ·(
 rw [if_pos c21] at H
 have c21b0 := decide_eq_true c21
 clear c21
 by_cases c22 : a1_1 < (l0_0.length : Int)
 ·(
 rw [if_pos c22] at H
 have c22b0 := decide_eq_true c22
 clear c22
 obtain ⟨t447, A23, H⟩ := ZOB H; try dsimp only at H
 obtain ⟨t448, A24, H⟩ := ZOB H; try dsimp only at H
 obtain rfl := Option.some.inj H
 go_enter Tryd.func83, Tryd.ntmps83
 try go_wp2_with (first | ((with_reducible refine gate_dst (N := 3) rfl ?_); refine ZXW w (N := 3) (cs := #[.slice A0_0 l0_0.length c0_0, .slice A0_1 l0_1.length c0_1]) (t := 31) ?_; intro gb437 hg w25 BK437 GW437 hb; replace HB := ZT HB hb; clear hb hg) | ((with_reducible refine gate_dst (N := 4) rfl ?_); refine ZXW w (N := 4) (cs := #[.int .i64 a1_0, .int .i64 a1_1, .int .i64 a1_2, .int .i64 a1_3, .int .i64 a1_4, .int .i64 a1_5, .slice A1_6 l1_6.length c1_6, .slice A1_7 l1_7.length c1_7]) (t := 71) ?_; intro gb438 hg w26 BK438 GW438 hb; have NB437_438 : Za (gb437 ≠ gb438) := ZN hg BK437; have NB438_437 : Za (gb438 ≠ gb437) := ZM hg BK437; replace BK437 := ZW BK437 hb; replace HB := ZT HB hb; clear hb hg) | ((with_reducible refine gate_dst (N := 5) rfl ?_); refine ZXW w (N := 5) (cs := #[.int .i64 a2_0, .int .i64 a2_1]) (t := 43) ?_; intro gb439 hg w27 BK439 GW439 hb; have NB437_439 : Za (gb437 ≠ gb439) := ZN hg BK437; have NB439_437 : Za (gb439 ≠ gb437) := ZM hg BK437; have NB438_439 : Za (gb438 ≠ gb439) := ZN hg BK438; have NB439_438 : Za (gb439 ≠ gb438) := ZM hg BK438; replace BK437 := ZW BK437 hb; replace BK438 := ZW BK438 hb; replace HB := ZT HB hb; clear hb hg; have hnb28 := NB438_437.out; have hnc28 := NB437_438.out; have hnb29 := NB438_439.out; have hnc29 := NB439_438.out; have hcz30 := ZC8 w27 BK438))
 replace BK437 := AM (blk_drew BK437.out)
 replace BK438 := AM (blk_drew BK438.out)
 replace BK439 := AM (blk_drew BK439.out)
 replace HB := AM (below_drew1 HB.out)
 have p446 : 0 ≤ (a1_1 : Int) := ZD
 have q446 : a1_1 < (l0_0.length : Int) := ZD
 obtain ⟨ad446, e446, hx446_0, hx446_1⟩ := at_T43 HR0_0.out a1_1 p446 q446
 have hw446_1 := hx446_1
 have hw446_0 := hx446_0
 cases e446
 replace hx446_0 := ZHX HB hx446_0
 replace hx446_1 := ZHX HB hx446_1
 replace p446 := eq_true p446
 replace q446 := eq_true q446
 refine start_ (n := 14) (S := fun w' => w'.cell? ⟨gb439, 0, none⟩ = some (.int .i64 a2_0) ∧ w'.cell? ⟨gb439, 1, none⟩ = some (.int .i64 a2_1) ∧ w'.cell? ⟨gb437, 0, none⟩ = some (.slice (some ad446) l0_0.length c0_0) ∧ w'.cell? ⟨gb437, 1, none⟩ = some (.slice A0_1 l0_1.length c0_1) ∧ w'.cell? ⟨gb438, 0, none⟩ = some (.int .i64 a1_0) ∧ w'.cell? ⟨gb438, 1, none⟩ = some (.int .i64 a1_1) ∧ w'.cell? ⟨gb438, 2, none⟩ = some (.int .i64 a1_2) ∧ w'.cell? ⟨gb438, 3, none⟩ = some (.int .i64 a1_3) ∧ w'.cell? ⟨gb438, 4, none⟩ = some (.int .i64 a1_4) ∧ w'.cell? ⟨gb438, 5, none⟩ = some (.int .i64 a1_5) ∧ w'.cell? ⟨gb438, 6, none⟩ = some (.slice A1_6 l1_6.length c1_6) ∧ w'.cell? ⟨gb438, 7, none⟩ = some (.slice A1_7 l1_7.length c1_7) ∧ w'.cell? (ad446.add ((a1_1).toNat * 2)) = some (.int .i64 ((D43 l0_0 a1_1).f0)) ∧ w'.cell? ⟨(ad446.add ((a1_1).toNat * 2)).block, (ad446.add ((a1_1).toNat * 2)).off + 1, none⟩ = some (.int .i64 ((D43 l0_0 a1_1).f1))) (ds := []) #[F,F,F,F,F,F,F,F,F,F,F,F,F,F] (by kernel_rfl) rfl rfl ⟨ZA BK439 0, ZA BK439 1, ZA BK437 0, ZA BK437 1, ZA BK438 0, ZA BK438 1, ZA BK438 2, ZA BK438 3, ZA BK438 4, ZA BK438 5, ZA BK438 6, ZA BK438 7, ((HB.out.cell (World.block_lt_of_cell? w _ hw446_0)).trans hw446_0), ((HB.out.cell (World.block_lt_of_cell? w _ hw446_1)).trans hw446_1)⟩ (fun hHeld => ?_); refine with_tabW spec_l11Fine.tab5 spec_l11Fine.bits5 (fun HT_ HW_ => ?_)
 generalize w27.drew = w31 at BK437 BK438 BK439 HB hx446_0 hx446_1 hHeld ⊢
 refine ZU 0 26 #[T,F,F,F,F,F,F,F,F,F,F,F,F,F] ?_
 refine ZU 2 28 #[T,F,T,F,F,F,F,F,F,F,F,F,F,F] ?_
 refine ZU 4 30 #[T,F,T,F,T,F,F,F,F,F,F,F,F,F] ?_
 refine ZU 10 36 #[T,F,T,F,T,F,F,F,F,F,T,F,F,F] ?_
 refine ZTK 1 27 #[T,T,T,F,T,F,F,F,F,F,T,F,F,F] hHeld ?_
 refine ZTK 3 29 #[T,T,T,T,T,F,F,F,F,F,T,F,F,F] hHeld ?_
 refine ZTK 5 31 #[T,T,T,T,T,T,F,F,F,F,T,F,F,F] hHeld ?_
 refine ZU 6 32 #[T,T,T,T,T,T,T,F,F,F,T,F,F,F] ?_
 refine ZU 7 33 #[T,T,T,T,T,T,T,T,F,F,T,F,F,F] ?_
 refine ZTK 8 34 #[T,T,T,T,T,T,T,T,T,F,T,F,F,F] hHeld ?_
 refine ZTK 11 37 #[T,T,T,T,T,T,T,T,T,F,T,T,F,F] hHeld ?_
 refine one_ (i := 9) (N := some 35) #[T,T,T,T,T,T,T,T,T,T,T,T,F,F] rfl rfl (one_of HT_.out (by kernel_rfl)) (by decide) (fun K hK => ?_)
 refine ZGO Tryd.func93 #[.int .i64 a2_0, .int .i64 ((D43 l0_0 a1_1).f0)] ?_
 with_reducible refine (spec_l1Both.calls k a2_0 ((D43 l0_0 a1_1).f0) t447 _ A23.out).mono ?_
 rintro e w' ⟨rfl, ⟨nd, rfl⟩⟩
 refine ZV1 ?_
 refine hK.out _ _ ⟨ZA BK439 0, ZA BK439 1, ZA BK437 0, ZA BK437 1, ZA BK438 0, ZA BK438 1, ZA BK438 2, ZA BK438 3, ZA BK438 4, ZA BK438 5, ZA BK438 6, ZA BK438 7, ((HB.out.cell (World.block_lt_of_cell? w _ hw446_0)).trans hw446_0), ((HB.out.cell (World.block_lt_of_cell? w _ hw446_1)).trans hw446_1)⟩ (fun hHeld => ?_)
 clear hK K
 refine ZNO 35 ?_
 refine one_ (i := 12) (N := some 38) #[T,T,T,T,T,T,T,T,T,T,T,T,T,F] rfl rfl (one_of HT_.out (by kernel_rfl)) (by decide) (fun K hK => ?_)
 refine ZGO Tryd.func57 #[.int .i64 t447, .int .i64 a1_5] ?_
 with_reducible refine (spec_l1Has.calls t447 a1_5 t448 _ A24.out).mono ?_
 rintro e w' ⟨rfl, ⟨nd, rfl⟩⟩
 refine ZV1 ?_
 refine hK.out _ _ ⟨ZA BK439 0, ZA BK439 1, ZA BK437 0, ZA BK437 1, ZA BK438 0, ZA BK438 1, ZA BK438 2, ZA BK438 3, ZA BK438 4, ZA BK438 5, ZA BK438 6, ZA BK438 7, ((HB.out.cell (World.block_lt_of_cell? w _ hw446_0)).trans hw446_0), ((HB.out.cell (World.block_lt_of_cell? w _ hw446_1)).trans hw446_1)⟩ (fun hHeld => ?_)
 clear hK K
 refine ZNO 38 ?_
 refine ZU 13 6 #[T,T,T,T,T,T,T,T,T,T,T,T,T,T] ?_
 refine done_ (done_of HT_.out (by kernel_rfl)) ?_
 try go_wp2
 go_ret
 exact ⟨ZE, ZB⟩)
 ·(
 rw [if_neg c22] at H
 exact absurd H (by simp)))
 ·(
 rw [if_neg c21] at H
 exact absurd H (by simp)))
 ·(
 rw [if_neg c20] at H
 have c20b0 := beq_eq_false_iff_ne.mpr c20
 have c20b1 := bne_iff_ne.mpr c20
 obtain rfl := Option.some.inj H
 go_enter Tryd.func83, Tryd.ntmps83
 go_wp2_with (first | ((with_reducible refine gate_dst (N := 3) rfl ?_); refine ZXW w (N := 3) (cs := #[.slice A0_0 l0_0.length c0_0, .slice A0_1 l0_1.length c0_1]) (t := 31) ?_; intro gb437 hg w32 BK437 GW437 hb; replace HB := ZT HB hb; clear hb hg) | ((with_reducible refine gate_dst (N := 4) rfl ?_); refine ZXW w (N := 4) (cs := #[.int .i64 a1_0, .int .i64 a1_1, .int .i64 a1_2, .int .i64 a1_3, .int .i64 a1_4, .int .i64 a1_5, .slice A1_6 l1_6.length c1_6, .slice A1_7 l1_7.length c1_7]) (t := 71) ?_; intro gb438 hg w33 BK438 GW438 hb; have NB437_438 : Za (gb437 ≠ gb438) := ZN hg BK437; have NB438_437 : Za (gb438 ≠ gb437) := ZM hg BK437; replace BK437 := ZW BK437 hb; replace HB := ZT HB hb; clear hb hg) | ((with_reducible refine gate_dst (N := 5) rfl ?_); refine ZXW w (N := 5) (cs := #[.int .i64 a2_0, .int .i64 a2_1]) (t := 43) ?_; intro gb439 hg w34 BK439 GW439 hb; have NB437_439 : Za (gb437 ≠ gb439) := ZN hg BK437; have NB439_437 : Za (gb439 ≠ gb437) := ZM hg BK437; have NB438_439 : Za (gb438 ≠ gb439) := ZN hg BK438; have NB439_438 : Za (gb439 ≠ gb438) := ZM hg BK438; replace BK437 := ZW BK437 hb; replace BK438 := ZW BK438 hb; replace HB := ZT HB hb; clear hb hg; have hnb35 := NB438_437.out; have hnc35 := NB437_438.out; have hnb36 := NB438_439.out; have hnc36 := NB439_438.out; have hcz37 := ZC8 w34 BK438))
 go_ret
 exact ⟨ZE, ZB⟩))

end Go.Proofs.YtfcmckomagaiiaaDoor.A
