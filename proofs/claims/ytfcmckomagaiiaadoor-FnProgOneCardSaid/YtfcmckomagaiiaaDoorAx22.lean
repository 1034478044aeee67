/- Go functions as Lean functions, and for each its contract; written by wip/tools/pr.py over the kit's print. -/
import Derived.Test.YtfcmckomagaiiaaDoorAx0
import Derived.Test.YtfcmckomagaiiaaDoorAx19
import Derived.Test.YtfcmckomagaiiaaDoorAx21
namespace Go.Proofs.YtfcmckomagaiiaaDoor.A
open Go.RowKit Go.Proofs.YtfcmckomagaiiaaDoorW.PrintWords Go.Proofs.YtfcmckomagaiiaaDoorW.PrintLast Go.Proofs.YtfcmckomagaiiaaDoorW.PrintMore
attribute [local go_sem] max2_int min2_int max_two min_two max_three min_three max_four min_four
set_option linter.unusedVariables false
set_option linter.unusedSimpArgs false
set_option maxHeartbeats 8000000
set_option maxRecDepth 100000

/-! ### spec_l11Val: function 92 -/
def spec_l11Val.f (k : Nat) (l0_0 : List (S43)) (l0_1 : List (S71)) (a1_0 : Int) (a1_1 : Int) (a1_2 : Int) : Option (Int × Int) := (spec_l11Any.f).bind fun bt419 => (if a1_0 = 1 then (if a1_0 = 3 then (if 0 ≤ a1_2 then (if a1_2 < (l0_0.length : Int) then ((spec_LabelBoth.f k bt419.1 bt419.2 ((D43 l0_0 a1_2).f0) ((D43 l0_0 a1_2).f1)).bind fun bt423 => (some (bt423.1, bt423.2))) else (none)) else (none)) else (if a1_0 = 4 then (if 0 ≤ a1_2 then (if a1_2 < (l0_0.length : Int) then ((spec_LabelBoth.f k bt419.1 bt419.2 ((D43 l0_0 a1_2).f0) ((D43 l0_0 a1_2).f1)).bind fun bt426 => (some (bt426.1, bt426.2))) else (none)) else (none)) else (some (bt419.1, bt419.2)))) else (if 0 ≤ a1_1 then (if a1_1 < (l0_0.length : Int) then ((spec_LabelBoth.f k bt419.1 bt419.2 ((D43 l0_0 a1_1).f0) ((D43 l0_0 a1_1).f1)).bind fun bt429 => (if a1_0 = 3 then (if 0 ≤ a1_2 then (if a1_2 < (l0_0.length : Int) then ((spec_LabelBoth.f k bt429.1 bt429.2 ((D43 l0_0 a1_2).f0) ((D43 l0_0 a1_2).f1)).bind fun bt432 => (some (bt432.1, bt432.2))) else (none)) else (none)) else (if a1_0 = 4 then (if 0 ≤ a1_2 then (if a1_2 < (l0_0.length : Int) then ((spec_LabelBoth.f k bt429.1 bt429.2 ((D43 l0_0 a1_2).f0) ((D43 l0_0 a1_2).f1)).bind fun bt435 => (some (bt435.1, bt435.2))) else (none)) else (none)) else (some (bt429.1, bt429.2))))) else (none)) else (none)))
def spec_l11Val.T3 : Bool × List (List Nat × List Nat) := (true, [([], []), ([], []), ([1], [1]), ([], []), ([3], [3]), ([2, 4], [2, 4]), ([5], [5]), ([0, 6], [0, 6]), ([7, 7, 0, 1, 2, 3, 4, 5, 6, 7], [7])])
def spec_l11Val.B3 : List Nat := [0, 0, 2, 0, 8, 30, 62, 127, 255]
theorem spec_l11Val.tab3 : rtab .any (opsOf Tryd.f92 3) = spec_l11Val.T3 := by kernel_rfl
theorem spec_l11Val.bits3 : waitsOk spec_l11Val.T3.2 spec_l11Val.B3 = true := by kernel_rfl
def spec_l11Val.T5 : Bool × List (List Nat × List Nat) := (true, [([], []), ([], []), ([1], [1]), ([], []), ([3], [3]), ([2, 4], [2, 4]), ([5], [5]), ([0, 6], [0, 6]), ([7, 7, 0, 1, 2, 3, 4, 5, 6, 7], [7])])
def spec_l11Val.B5 : List Nat := [0, 0, 2, 0, 8, 30, 62, 127, 255]
theorem spec_l11Val.tab5 : rtab .any (opsOf Tryd.f92 5) = spec_l11Val.T5 := by kernel_rfl
theorem spec_l11Val.bits5 : waitsOk spec_l11Val.T5.2 spec_l11Val.B5 = true := by kernel_rfl
theorem spec_l11Val.calls (k : Nat) (A0_0 : Option Addr) (c0_0 : Nat) (l0_0 : List (S43)) (A0_1 : Option Addr) (c0_1 : Nat) (l0_1 : List (S71)) (a1_0 : Int) (a1_1 : Int) (a1_2 : Int) (r1 : Int) (r2 : Int) (w : World) (hr0_0 : Kd.C k43 w A0_0 l0_0.length l0_0) (hc0_0 : l0_0.length ≤ c0_0) (hr0_1 : Kd.C k71 w A0_1 l0_1.length l0_1) (hc0_1 : l0_1.length ≤ c0_1) (h : spec_l11Val.f k l0_0 l0_1 a1_0 a1_1 a1_2 = some (r1, r2)) :
  Calls Tryd.prog 92 #[.agg #[.slice A0_0 l0_0.length c0_0, .slice A0_1 l0_1.length c0_1], .agg #[.int .i64 a1_0, .int .i64 a1_1, .int .i64 a1_2]] w fun e w' => e = .returned (.agg #[.int .i64 r1, .int .i64 r2]) ∧ Below w.heap.size w w' := by
 have hu31 := Tryd.underlying31
 have hu69 := Tryd.underlying69
 have hu43 := Tryd.underlying43
 have HR0_0 := AM hr0_0
 have HC0_0 := AM hc0_0
 clear hr0_0 hc0_0
 have HR0_1 := AM hr0_1
 have HC0_1 := AM hc0_1
 clear hr0_1 hc0_1
 have HB := AM (Below.refl w.heap.size w)
 have H := h
 unfold spec_l11Val.f at H
 clear h
 obtain ⟨⟨t419, t420⟩, A3, H⟩ := ZOB H; try dsimp only at H
 by_cases c4 : a1_0 = 1
 focus (
 rw [if_pos c4] at H
 have c4b0 := beq_iff_eq.mpr c4
 have c4b1 := bne_eq_false_iff_eq.mpr c4
 clear c4
 by_cases c5 : a1_0 = 3
 focus (
 rw [if_pos c5] at H
 have c5b0 := beq_iff_eq.mpr c5
 have c5b1 := bne_eq_false_iff_eq.mpr c5
 clear c5
 by_cases c6 : 0 ≤ a1_2
 focus (
 rw [if_pos c6] at H
 have c6b0 := decide_eq_true c6
 clear c6
 by_cases c7 : a1_2 < (l0_0.length : Int)
 focus (
 rw [if_pos c7] at H
 have c7b0 := decide_eq_true c7
 clear c7
 obtain ⟨⟨t423, t424⟩, A8, H⟩ := ZOB H; try dsimp only at H
 simp only [Option.some.injEq, Prod.mk.injEq] at H
 obtain ⟨rfl, rfl⟩ := H
 have tag0_ : Za True := ⟨trivial⟩)
 rotate_left
 focus (
 exact ZNE H c7))
 rotate_left
 focus (
 exact ZNE H c6))
 rotate_left
 focus (
 rw [if_neg c5] at H
 have c5b0 := beq_eq_false_iff_ne.mpr c5
 have c5b1 := bne_iff_ne.mpr c5
 by_cases c29 : a1_0 = 4
 focus (
 rw [if_pos c29] at H
 have c29b0 := beq_iff_eq.mpr c29
 have c29b1 := bne_eq_false_iff_eq.mpr c29
 clear c29
 by_cases c30 : 0 ≤ a1_2
 focus (
 rw [if_pos c30] at H
 have c30b0 := decide_eq_true c30
 clear c30
 by_cases c31 : a1_2 < (l0_0.length : Int)
 focus (
 rw [if_pos c31] at H
 have c31b0 := decide_eq_true c31
 clear c31
 obtain ⟨⟨t426, t427⟩, A32, H⟩ := ZOB H; try dsimp only at H
 simp only [Option.some.injEq, Prod.mk.injEq] at H
 obtain ⟨rfl, rfl⟩ := H
 have tag1_ : Za True := ⟨trivial⟩)
 rotate_left
 focus (
 exact ZNE H c31))
 rotate_left
 focus (
 exact ZNE H c30))
 rotate_left
 focus (
 rw [if_neg c29] at H
 have c29b0 := beq_eq_false_iff_ne.mpr c29
 have c29b1 := bne_iff_ne.mpr c29
 simp only [Option.some.injEq, Prod.mk.injEq] at H
 obtain ⟨rfl, rfl⟩ := H
 have tag2_ : Za True := ⟨trivial⟩)
 rotate_left)
 rotate_left 2)
 rotate_left 3
 focus (
 rw [if_neg c4] at H
 have c4b0 := beq_eq_false_iff_ne.mpr c4
 have c4b1 := bne_iff_ne.mpr c4
 by_cases c67 : 0 ≤ a1_1
 focus (
 rw [if_pos c67] at H
 have c67b0 := decide_eq_true c67
 clear c67
 by_cases c68 : a1_1 < (l0_0.length : Int)
 focus (
 rw [if_pos c68] at H
 have c68b0 := decide_eq_true c68
 clear c68
 obtain ⟨⟨t429, t430⟩, A69, H⟩ := ZOB H; try dsimp only at H
 by_cases c70 : a1_0 = 3
 focus (
 rw [if_pos c70] at H
 have c70b0 := beq_iff_eq.mpr c70
 have c70b1 := bne_eq_false_iff_eq.mpr c70
 clear c70
 by_cases c71 : 0 ≤ a1_2
 focus (
 rw [if_pos c71] at H
 have c71b0 := decide_eq_true c71
 clear c71
 by_cases c72 : a1_2 < (l0_0.length : Int)
 focus (
 rw [if_pos c72] at H
 have c72b0 := decide_eq_true c72
 clear c72
 obtain ⟨⟨t432, t433⟩, A73, H⟩ := ZOB H; try dsimp only at H
 simp only [Option.some.injEq, Prod.mk.injEq] at H
 obtain ⟨rfl, rfl⟩ := H
 have tag3_ : Za True := ⟨trivial⟩)
 rotate_left
 focus (
 exact ZNE H c72))
 rotate_left
 focus (
 exact ZNE H c71))
 rotate_left
 focus (
 rw [if_neg c70] at H
 have c70b0 := beq_eq_false_iff_ne.mpr c70
 have c70b1 := bne_iff_ne.mpr c70
 by_cases c100 : a1_0 = 4
 focus (
 rw [if_pos c100] at H
 have c100b0 := beq_iff_eq.mpr c100
 have c100b1 := bne_eq_false_iff_eq.mpr c100
 clear c100
 by_cases c101 : 0 ≤ a1_2
 focus (
 rw [if_pos c101] at H
 have c101b0 := decide_eq_true c101
 clear c101
 by_cases c102 : a1_2 < (l0_0.length : Int)
 focus (
 rw [if_pos c102] at H
 have c102b0 := decide_eq_true c102
 clear c102
 obtain ⟨⟨t435, t436⟩, A103, H⟩ := ZOB H; try dsimp only at H
 simp only [Option.some.injEq, Prod.mk.injEq] at H
 obtain ⟨rfl, rfl⟩ := H
 have tag4_ : Za True := ⟨trivial⟩)
 rotate_left
 focus (
 exact ZNE H c102))
 rotate_left
 focus (
 exact ZNE H c101))
 rotate_left
 focus (
 rw [if_neg c100] at H
 have c100b0 := beq_eq_false_iff_ne.mpr c100
 have c100b1 := bne_iff_ne.mpr c100
 simp only [Option.some.injEq, Prod.mk.injEq] at H
 obtain ⟨rfl, rfl⟩ := H
 have tag5_ : Za True := ⟨trivial⟩)
 rotate_left)
 rotate_left 2)
 rotate_left 3
 focus (
 exact ZNE H c68))
 rotate_left 3
 focus (
 exact ZNE H c67))
 rotate_left 3
 all_goals (
 go_enter Tryd.func92, Tryd.ntmps92
 first
 | (
 (first | (have z_ := tag0_; clear z_) | (have z_ := tag1_; clear z_) | (have z_ := tag3_; clear z_) | (have z_ := tag4_; clear z_) | (have z_ := tag5_; clear z_))
 try go_wp2_with (first | ((with_reducible refine gate_dst (N := 2) rfl ?_); refine ZXW w (N := 2) (cs := #[.slice A0_0 l0_0.length c0_0, .slice A0_1 l0_1.length c0_1]) (t := 31) ?_; intro gbq0 hg wq0 BKq0 GWq0 hb; replace HB := ZT HB hb; clear hb hg) | ((with_reducible refine gate_dst (N := 3) rfl ?_); refine ZXW w (N := 3) (cs := #[.int .i64 a1_0, .int .i64 a1_1, .int .i64 a1_2]) (t := 69) ?_; intro gbq1 hg wq1 BKq1 GWq1 hb; have NBq0_417 : Za (gbq0 ≠ gbq1) := ZN hg BKq0; have NBq1_416 : Za (gbq1 ≠ gbq0) := ZM hg BKq0; replace BKq0 := ZW BKq0 hb; replace HB := ZT HB hb; clear hb hg) | ((with_reducible refine gate_dst (N := 4) rfl ?_); refine ZXW w (N := 4) (cs := #[.int .i64 0, .int .i64 0]) (t := 43) ?_; intro gbq2 hg wq2 BKq2 GWq2 hb; have NBq0_418 : Za (gbq0 ≠ gbq2) := ZN hg BKq0; have NBq2_416 : Za (gbq2 ≠ gbq0) := ZM hg BKq0; have NBq1_418 : Za (gbq1 ≠ gbq2) := ZN hg BKq1; have NBq2_417 : Za (gbq2 ≠ gbq1) := ZM hg BKq1; replace BKq0 := ZW BKq0 hb; replace BKq1 := ZW BKq1 hb; replace HB := ZT HB hb; clear hb hg) | ((with_reducible refine gate_callee (f := 89) rfl ?_); refine ZGL (some 6) Tryd.func89 #[] ?_; (with_reducible refine (spec_l11Any.calls  t419 t420 _ A3.out).mono ?_); rintro e wq3 ⟨rfl, hb⟩; refine ZV1 ?_; replace BKq0 := ZW BKq0 hb; replace BKq1 := ZW BKq1 hb; replace BKq2 := ZW BKq2 hb; replace HB := ZT HB hb; clear hb) | ((with_reducible refine gate_dst (N := 5) rfl ?_); refine ZXW w (N := 5) (cs := #[.int .i64 0, .int .i64 0]) (t := 43) ?_; intro gbq3 hg wq4 BKq3 GWq3 hb; have NBq0_421 : Za (gbq0 ≠ gbq3) := ZN hg BKq0; have NBq3_416 : Za (gbq3 ≠ gbq0) := ZM hg BKq0; have NBq1_421 : Za (gbq1 ≠ gbq3) := ZN hg BKq1; have NBq3_417 : Za (gbq3 ≠ gbq1) := ZM hg BKq1; have NBq2_421 : Za (gbq2 ≠ gbq3) := ZN hg BKq2; have NBq3_418 : Za (gbq3 ≠ gbq2) := ZM hg BKq2; replace BKq0 := ZW BKq0 hb; replace BKq1 := ZW BKq1 hb; replace BKq2 := ZW BKq2 hb; replace HB := ZT HB hb; clear hb hg; have hnbq0 := NBq3_416.out; have hncq0 := NBq0_421.out; have hnbq1 := NBq3_417.out; have hncq1 := NBq1_421.out; have hnbq2 := NBq3_418.out; have hncq2 := NBq2_421.out; have hczq0 := ZC2 wq4 BKq3; have hnbq3 := NBq1_416.out; have hncq3 := NBq0_417.out; have hnbq4 := NBq1_418.out; have hncq4 := NBq2_417.out; have hczq1 := ZC3 wq4 BKq1))
 have nq0_ : Za (((wq4.setCell ⟨gbq3, 0, none⟩ (.int .i64 t419)).setCell ⟨gbq3, 1, none⟩ (.int .i64 t420)).heap[gbq0]? = some (.cells #[.slice A0_0 l0_0.length c0_0, .slice A0_1 l0_1.length c0_1] 31 (0, 0))) := ⟨ZZ BKq0.out⟩
 have nq1_ : Za (((wq4.setCell ⟨gbq3, 0, none⟩ (.int .i64 t419)).setCell ⟨gbq3, 1, none⟩ (.int .i64 t420)).heap[gbq1]? = some (.cells #[.int .i64 a1_0, .int .i64 a1_1, .int .i64 a1_2] 69 (0, 0))) := ⟨ZZ BKq1.out⟩
 have nq2_ : Za (((wq4.setCell ⟨gbq3, 0, none⟩ (.int .i64 t419)).setCell ⟨gbq3, 1, none⟩ (.int .i64 t420)).heap[gbq2]? = some (.cells #[.int .i64 0, .int .i64 0] 43 (0, 0))) := ⟨ZZ BKq2.out⟩
 have nq3_ : Za (((wq4.setCell ⟨gbq3, 0, none⟩ (.int .i64 t419)).setCell ⟨gbq3, 1, none⟩ (.int .i64 t420)).heap[gbq3]? = some (.cells #[.int .i64 t419, .int .i64 t420] 43 (0, 0))) := ⟨ZZ BKq3.out⟩
 have nq4_ : Za (Below w.heap.size w ((wq4.setCell ⟨gbq3, 0, none⟩ (.int .i64 t419)).setCell ⟨gbq3, 1, none⟩ (.int .i64 t420))) := ⟨ZB⟩
 (try clear BKq0)
 (try clear BKq1)
 (try clear BKq2)
 (try clear BKq3)
 (try clear HB)
 generalize ((wq4.setCell ⟨gbq3, 0, none⟩ (.int .i64 t419)).setCell ⟨gbq3, 1, none⟩ (.int .i64 t420)) = wq5 at nq0_ nq1_ nq2_ nq3_ nq4_ ⊢
 have BKq0 := nq0_
 have BKq1 := nq1_
 have BKq2 := nq2_
 have BKq3 := nq3_
 have HB := nq4_
 clear nq0_ nq1_ nq2_ nq3_ nq4_
 replace BKq0 := AM (blk_drew BKq0.out)
 replace BKq1 := AM (blk_drew BKq1.out)
 replace BKq2 := AM (blk_drew BKq2.out)
 replace BKq3 := AM (blk_drew BKq3.out)
 replace HB := AM (below_drew1 HB.out)
 first
 | (
 (first | (have z_ := tag0_; clear z_) | (have z_ := tag1_; clear z_))
 have pq0 : 0 ≤ (a1_2 : Int) := ZD
 have qq0 : a1_2 < (l0_0.length : Int) := ZD
 obtain ⟨adq0, eq0, hxq0_0, hxq0_1⟩ := at_T43 HR0_0.out a1_2 pq0 qq0
 have hwq0_1 := hxq0_1
 have hwq0_0 := hxq0_0
 cases eq0
 replace hxq0_0 := ZHX HB hxq0_0
 replace hxq0_1 := ZHX HB hxq0_1
 replace pq0 := eq_true pq0
 replace qq0 := eq_true qq0
 refine start_ (n := 9) (S := fun w' => w'.cell? ⟨gbq3, 0, none⟩ = some (.int .i64 t419) ∧ w'.cell? ⟨gbq3, 1, none⟩ = some (.int .i64 t420) ∧ w'.cell? ⟨gbq0, 0, none⟩ = some (.slice (some adq0) l0_0.length c0_0) ∧ w'.cell? ⟨gbq0, 1, none⟩ = some (.slice A0_1 l0_1.length c0_1) ∧ w'.cell? ⟨gbq1, 0, none⟩ = some (.int .i64 a1_0) ∧ w'.cell? ⟨gbq1, 1, none⟩ = some (.int .i64 a1_1) ∧ w'.cell? ⟨gbq1, 2, none⟩ = some (.int .i64 a1_2) ∧ w'.cell? (adq0.add ((a1_2).toNat * 2)) = some (.int .i64 ((D43 l0_0 a1_2).f0)) ∧ w'.cell? ⟨(adq0.add ((a1_2).toNat * 2)).block, (adq0.add ((a1_2).toNat * 2)).off + 1, none⟩ = some (.int .i64 ((D43 l0_0 a1_2).f1))) (ds := [8]) #[F,F,F,F,F,F,F,F,F] (by kernel_rfl) rfl rfl ⟨ZA BKq3 0, ZA BKq3 1, ZA BKq0 0, ZA BKq0 1, ZA BKq1 0, ZA BKq1 1, ZA BKq1 2, ((HB.out.cell (World.block_lt_of_cell? w _ hwq0_0)).trans hwq0_0), ((HB.out.cell (World.block_lt_of_cell? w _ hwq0_1)).trans hwq0_1)⟩ (fun hHeld => ?_); refine with_tabW spec_l11Val.tab5 spec_l11Val.bits5 (fun HT_ HW_ => ?_)
 generalize wq5.drew = wq6 at BKq0 BKq1 BKq2 BKq3 HB hxq0_0 hxq0_1 hHeld ⊢
 refine ZU 1 27 #[F,T,F,F,F,F,F,F,F] ?_
 refine ZU 3 29 #[F,T,F,T,F,F,F,F,F] ?_
 refine ZTK 0 26 #[T,T,F,T,F,F,F,F,F] hHeld ?_
 refine ZTK 2 28 #[T,T,T,T,F,F,F,F,F] hHeld ?_
 refine ZTK 4 30 #[T,T,T,T,T,F,F,F,F] hHeld ?_
 refine ZU 5 31 #[T,T,T,T,T,T,F,F,F] ?_
 refine ZTK 6 32 #[T,T,T,T,T,T,T,F,F] hHeld ?_
 refine one_ (i := 7) (N := some 33) #[T,T,T,T,T,T,T,T,F] rfl rfl (one_of HT_.out (by kernel_rfl)) (by decide) (fun K hK => ?_)
 refine ZGO Tryd.func91 #[.agg #[.int .i64 t419, .int .i64 t420], .agg #[.int .i64 ((D43 l0_0 a1_2).f0), .int .i64 ((D43 l0_0 a1_2).f1)]] ?_
 first
 | (
 (have z_ := tag0_; clear z_)
 with_reducible refine (spec_LabelBoth.calls k t419 t420 ((D43 l0_0 a1_2).f0) ((D43 l0_0 a1_2).f1) t423 t424 _ A8.out).mono ?_
 rintro e wq7 ⟨rfl, hb⟩
 refine ZV1 ?_
 replace BKq0 := ZW BKq0 hb
 replace BKq1 := ZW BKq1 hb
 replace BKq2 := ZW BKq2 hb
 replace BKq3 := ZW BKq3 hb
 replace HB := ZT HB hb
 (try clear hb)
 (try clear hb2)
 (try clear hk)
 (try clear hi)
 refine hK.out _ _ ⟨ZA BKq3 0, ZA BKq3 1, ZA BKq0 0, ZA BKq0 1, ZA BKq1 0, ZA BKq1 1, ZA BKq1 2, ((HB.out.cell (World.block_lt_of_cell? w _ hwq0_0)).trans hwq0_0), ((HB.out.cell (World.block_lt_of_cell? w _ hwq0_1)).trans hwq0_1)⟩ (fun hHeld => ?_)
 clear hK K
 refine ZNO 33 ?_
 refine last_ (i := 8) (N := none) #[T,T,T,T,T,T,T,T,T] rfl rfl (one_of HT_.out (by kernel_rfl)) (by decide) (fun K hK => ?_)
 have hsq0 : wq7.cell? ⟨gbq3, 0, none⟩ = some (.int .i64 t419) := ZA BKq3 0
 have hfsq0 := blk_frozen BKq3.out 0
 have hnsq0_0 := NBq0_421.out
 have hnsq0_1 := NBq1_421.out
 have hnsq0_2 := NBq2_421.out
 have hmsq0_0 := NBq3_416.out
 have hmsq0_1 := NBq3_417.out
 have hmsq0_2 := NBq3_418.out
 have hsq1 : wq7.cell? ⟨gbq3, 1, none⟩ = some (.int .i64 t420) := ZA BKq3 1
 have hfsq1 := blk_frozen BKq3.out 1
 have hnsq1_0 := NBq0_421.out
 have hnsq1_1 := NBq1_421.out
 have hnsq1_2 := NBq2_421.out
 have hmsq1_0 := NBq3_416.out
 have hmsq1_1 := NBq3_417.out
 have hmsq1_2 := NBq3_418.out
 refine skip_ (w1 := ?_) (by rfl) rfl ?_ ?_
 rotate_left
 ·(
 go_simp
 rfl)
 refine hK.out _ _ ?_
 clear hK K
 refine done_ (done_of HT_.out (by kernel_rfl)) ?_
 have hczq2 := ZC2 wq7 BKq3
 have hnbq5 := NBq2_416.out
 have hncq5 := NBq0_418.out
 have hczq3 := ZC2 wq7 BKq2
 try go_wp2
 refine bodyPost_ret (results_cell_row rfl _ _ gbq2 43 #[.int .i64 t423, .int .i64 t424] (0, 0) _ rfl (ZZ BKq2.out) Tryd.underlying43 rfl (by kernel_rfl)) rfl ?_
 exact ⟨ZE, ZB⟩)
 | (
 (have z_ := tag1_; clear z_)
 with_reducible refine (spec_LabelBoth.calls k t419 t420 ((D43 l0_0 a1_2).f0) ((D43 l0_0 a1_2).f1) t426 t427 _ A32.out).mono ?_
 rintro e wq7 ⟨rfl, hb⟩
 refine ZV1 ?_
 replace BKq0 := ZW BKq0 hb
 replace BKq1 := ZW BKq1 hb
 replace BKq2 := ZW BKq2 hb
 replace BKq3 := ZW BKq3 hb
 replace HB := ZT HB hb
 (try clear hb)
 (try clear hb2)
 (try clear hk)
 (try clear hi)
 refine hK.out _ _ ⟨ZA BKq3 0, ZA BKq3 1, ZA BKq0 0, ZA BKq0 1, ZA BKq1 0, ZA BKq1 1, ZA BKq1 2, ((HB.out.cell (World.block_lt_of_cell? w _ hwq0_0)).trans hwq0_0), ((HB.out.cell (World.block_lt_of_cell? w _ hwq0_1)).trans hwq0_1)⟩ (fun hHeld => ?_)
 clear hK K
 refine ZNO 33 ?_
 refine last_ (i := 8) (N := none) #[T,T,T,T,T,T,T,T,T] rfl rfl (one_of HT_.out (by kernel_rfl)) (by decide) (fun K hK => ?_)
 have hsq0 : wq7.cell? ⟨gbq3, 0, none⟩ = some (.int .i64 t419) := ZA BKq3 0
 have hfsq0 := blk_frozen BKq3.out 0
 have hnsq0_0 := NBq0_421.out
 have hnsq0_1 := NBq1_421.out
 have hnsq0_2 := NBq2_421.out
 have hmsq0_0 := NBq3_416.out
 have hmsq0_1 := NBq3_417.out
 have hmsq0_2 := NBq3_418.out
 have hsq1 : wq7.cell? ⟨gbq3, 1, none⟩ = some (.int .i64 t420) := ZA BKq3 1
 have hfsq1 := blk_frozen BKq3.out 1
 have hnsq1_0 := NBq0_421.out
 have hnsq1_1 := NBq1_421.out
 have hnsq1_2 := NBq2_421.out
 have hmsq1_0 := NBq3_416.out
 have hmsq1_1 := NBq3_417.out
 have hmsq1_2 := NBq3_418.out
 refine skip_ (w1 := ?_) (by rfl) rfl ?_ ?_
 rotate_left
 ·(
 go_simp
 rfl)
 refine hK.out _ _ ?_
 clear hK K
 refine done_ (done_of HT_.out (by kernel_rfl)) ?_
 have hczq2 := ZC2 wq7 BKq3
 have hnbq5 := NBq2_416.out
 have hncq5 := NBq0_418.out
 have hczq3 := ZC2 wq7 BKq2
 try go_wp2
 refine bodyPost_ret (results_cell_row rfl _ _ gbq2 43 #[.int .i64 t426, .int .i64 t427] (0, 0) _ rfl (ZZ BKq2.out) Tryd.underlying43 rfl (by kernel_rfl)) rfl ?_
 exact ⟨ZE, ZB⟩))
 | (
 (first | (have z_ := tag3_; clear z_) | (have z_ := tag4_; clear z_) | (have z_ := tag5_; clear z_))
 have pq0 : 0 ≤ (a1_1 : Int) := ZD
 have qq0 : a1_1 < (l0_0.length : Int) := ZD
 obtain ⟨adq0, eq0, hxq0_0, hxq0_1⟩ := at_T43 HR0_0.out a1_1 pq0 qq0
 have hwq0_1 := hxq0_1
 have hwq0_0 := hxq0_0
 cases eq0
 replace hxq0_0 := ZHX HB hxq0_0
 replace hxq0_1 := ZHX HB hxq0_1
 replace pq0 := eq_true pq0
 replace qq0 := eq_true qq0
 refine start_ (n := 9) (S := fun w' => w'.cell? ⟨gbq3, 0, none⟩ = some (.int .i64 t419) ∧ w'.cell? ⟨gbq3, 1, none⟩ = some (.int .i64 t420) ∧ w'.cell? ⟨gbq0, 0, none⟩ = some (.slice (some adq0) l0_0.length c0_0) ∧ w'.cell? ⟨gbq0, 1, none⟩ = some (.slice A0_1 l0_1.length c0_1) ∧ w'.cell? ⟨gbq1, 0, none⟩ = some (.int .i64 a1_0) ∧ w'.cell? ⟨gbq1, 1, none⟩ = some (.int .i64 a1_1) ∧ w'.cell? ⟨gbq1, 2, none⟩ = some (.int .i64 a1_2) ∧ w'.cell? (adq0.add ((a1_1).toNat * 2)) = some (.int .i64 ((D43 l0_0 a1_1).f0)) ∧ w'.cell? ⟨(adq0.add ((a1_1).toNat * 2)).block, (adq0.add ((a1_1).toNat * 2)).off + 1, none⟩ = some (.int .i64 ((D43 l0_0 a1_1).f1))) (ds := [8]) #[F,F,F,F,F,F,F,F,F] (by kernel_rfl) rfl rfl ⟨ZA BKq3 0, ZA BKq3 1, ZA BKq0 0, ZA BKq0 1, ZA BKq1 0, ZA BKq1 1, ZA BKq1 2, ((HB.out.cell (World.block_lt_of_cell? w _ hwq0_0)).trans hwq0_0), ((HB.out.cell (World.block_lt_of_cell? w _ hwq0_1)).trans hwq0_1)⟩ (fun hHeld => ?_); refine with_tabW spec_l11Val.tab3 spec_l11Val.bits3 (fun HT_ HW_ => ?_)
 generalize wq5.drew = wq6 at BKq0 BKq1 BKq2 BKq3 HB hxq0_0 hxq0_1 hHeld ⊢
 refine ZU 1 11 #[F,T,F,F,F,F,F,F,F] ?_
 refine ZU 3 13 #[F,T,F,T,F,F,F,F,F] ?_
 refine ZTK 0 10 #[T,T,F,T,F,F,F,F,F] hHeld ?_
 refine ZTK 2 12 #[T,T,T,T,F,F,F,F,F] hHeld ?_
 refine ZTK 4 14 #[T,T,T,T,T,F,F,F,F] hHeld ?_
 refine ZU 5 15 #[T,T,T,T,T,T,F,F,F] ?_
 refine ZTK 6 16 #[T,T,T,T,T,T,T,F,F] hHeld ?_
 refine one_ (i := 7) (N := some 17) #[T,T,T,T,T,T,T,T,F] rfl rfl (one_of HT_.out (by kernel_rfl)) (by decide) (fun K hK => ?_)
 refine ZGO Tryd.func91 #[.agg #[.int .i64 t419, .int .i64 t420], .agg #[.int .i64 ((D43 l0_0 a1_1).f0), .int .i64 ((D43 l0_0 a1_1).f1)]] ?_
 with_reducible refine (spec_LabelBoth.calls k t419 t420 ((D43 l0_0 a1_1).f0) ((D43 l0_0 a1_1).f1) t429 t430 _ A69.out).mono ?_
 rintro e wq7 ⟨rfl, hb⟩
 refine ZV1 ?_
 replace BKq0 := ZW BKq0 hb
 replace BKq1 := ZW BKq1 hb
 replace BKq2 := ZW BKq2 hb
 replace BKq3 := ZW BKq3 hb
 replace HB := ZT HB hb
 (try clear hb)
 (try clear hb2)
 (try clear hk)
 (try clear hi)
 refine hK.out _ _ ⟨ZA BKq3 0, ZA BKq3 1, ZA BKq0 0, ZA BKq0 1, ZA BKq1 0, ZA BKq1 1, ZA BKq1 2, ((HB.out.cell (World.block_lt_of_cell? w _ hwq0_0)).trans hwq0_0), ((HB.out.cell (World.block_lt_of_cell? w _ hwq0_1)).trans hwq0_1)⟩ (fun hHeld => ?_)
 clear hK K
 refine ZNO 17 ?_
 refine last_ (i := 8) (N := none) #[T,T,T,T,T,T,T,T,T] rfl rfl (one_of HT_.out (by kernel_rfl)) (by decide) (fun K hK => ?_)
 have hsq0 : wq7.cell? ⟨gbq3, 0, none⟩ = some (.int .i64 t419) := ZA BKq3 0
 have hfsq0 := blk_frozen BKq3.out 0
 have hnsq0_0 := NBq0_421.out
 have hnsq0_1 := NBq1_421.out
 have hnsq0_2 := NBq2_421.out
 have hmsq0_0 := NBq3_416.out
 have hmsq0_1 := NBq3_417.out
 have hmsq0_2 := NBq3_418.out
 have hsq1 : wq7.cell? ⟨gbq3, 1, none⟩ = some (.int .i64 t420) := ZA BKq3 1
 have hfsq1 := blk_frozen BKq3.out 1
 have hnsq1_0 := NBq0_421.out
 have hnsq1_1 := NBq1_421.out
 have hnsq1_2 := NBq2_421.out
 have hmsq1_0 := NBq3_416.out
 have hmsq1_1 := NBq3_417.out
 have hmsq1_2 := NBq3_418.out
 refine skip_ (w1 := ?_) (by rfl) rfl ?_ ?_
 rotate_left
 ·(
 go_simp
 rfl)
 refine hK.out _ _ ?_
 clear hK K
 refine done_ (done_of HT_.out (by kernel_rfl)) ?_
 have hczq2 := ZC3 wq7 BKq1
 first
 | (
 (first | (have z_ := tag3_; clear z_) | (have z_ := tag4_; clear z_))
 try go_wp2
 have nq0_ : Za (((wq7.setCell ⟨gbq3, 0, none⟩ (.int .i64 t429)).setCell ⟨gbq3, 1, none⟩ (.int .i64 t430)).heap[gbq0]? = some (.cells #[.slice (some adq0) l0_0.length c0_0, .slice A0_1 l0_1.length c0_1] 31 (0, 0))) := ⟨ZZ BKq0.out⟩
 have nq1_ : Za (((wq7.setCell ⟨gbq3, 0, none⟩ (.int .i64 t429)).setCell ⟨gbq3, 1, none⟩ (.int .i64 t430)).heap[gbq1]? = some (.cells #[.int .i64 a1_0, .int .i64 a1_1, .int .i64 a1_2] 69 (0, 0))) := ⟨ZZ BKq1.out⟩
 have nq2_ : Za (((wq7.setCell ⟨gbq3, 0, none⟩ (.int .i64 t429)).setCell ⟨gbq3, 1, none⟩ (.int .i64 t430)).heap[gbq2]? = some (.cells #[.int .i64 0, .int .i64 0] 43 (0, 0))) := ⟨ZZ BKq2.out⟩
 have nq3_ : Za (((wq7.setCell ⟨gbq3, 0, none⟩ (.int .i64 t429)).setCell ⟨gbq3, 1, none⟩ (.int .i64 t430)).heap[gbq3]? = some (.cells #[.int .i64 t429, .int .i64 t430] 43 (0, 0))) := ⟨ZZ BKq3.out⟩
 have nq4_ : Za (Below w.heap.size w ((wq7.setCell ⟨gbq3, 0, none⟩ (.int .i64 t429)).setCell ⟨gbq3, 1, none⟩ (.int .i64 t430))) := ⟨ZB⟩
 (try clear BKq0)
 (try clear BKq1)
 (try clear BKq2)
 (try clear BKq3)
 (try clear HB)
 generalize ((wq7.setCell ⟨gbq3, 0, none⟩ (.int .i64 t429)).setCell ⟨gbq3, 1, none⟩ (.int .i64 t430)) = wq8 at nq0_ nq1_ nq2_ nq3_ nq4_ ⊢
 have BKq0 := nq0_
 have BKq1 := nq1_
 have BKq2 := nq2_
 have BKq3 := nq3_
 have HB := nq4_
 clear nq0_ nq1_ nq2_ nq3_ nq4_
 replace BKq0 := AM (blk_drew BKq0.out)
 replace BKq1 := AM (blk_drew BKq1.out)
 replace BKq2 := AM (blk_drew BKq2.out)
 replace BKq3 := AM (blk_drew BKq3.out)
 replace HB := AM (below_drew1 HB.out)
 have pq1 : 0 ≤ (a1_2 : Int) := ZD
 have qq1 : a1_2 < (l0_0.length : Int) := ZD
 obtain ⟨adq1, eq1, hxq1_0, hxq1_1⟩ := at_T43 HR0_0.out a1_2 pq1 qq1
 have hwq1_1 := hxq1_1
 have hwq1_0 := hxq1_0
 obtain rfl : adq0 = adq1 := (by injection eq1)
 replace hxq1_0 := ZHX HB hxq1_0
 replace hxq1_1 := ZHX HB hxq1_1
 replace pq1 := eq_true pq1
 replace qq1 := eq_true qq1
 refine start_ (n := 9) (S := fun w' => w'.cell? ⟨gbq3, 0, none⟩ = some (.int .i64 t429) ∧ w'.cell? ⟨gbq3, 1, none⟩ = some (.int .i64 t430) ∧ w'.cell? ⟨gbq0, 0, none⟩ = some (.slice (some adq0) l0_0.length c0_0) ∧ w'.cell? ⟨gbq0, 1, none⟩ = some (.slice A0_1 l0_1.length c0_1) ∧ w'.cell? ⟨gbq1, 0, none⟩ = some (.int .i64 a1_0) ∧ w'.cell? ⟨gbq1, 1, none⟩ = some (.int .i64 a1_1) ∧ w'.cell? ⟨gbq1, 2, none⟩ = some (.int .i64 a1_2) ∧ w'.cell? (adq0.add ((a1_2).toNat * 2)) = some (.int .i64 ((D43 l0_0 a1_2).f0)) ∧ w'.cell? ⟨(adq0.add ((a1_2).toNat * 2)).block, (adq0.add ((a1_2).toNat * 2)).off + 1, none⟩ = some (.int .i64 ((D43 l0_0 a1_2).f1))) (ds := [8]) #[F,F,F,F,F,F,F,F,F] (by kernel_rfl) rfl rfl ⟨ZA BKq3 0, ZA BKq3 1, ZA BKq0 0, ZA BKq0 1, ZA BKq1 0, ZA BKq1 1, ZA BKq1 2, ((HB.out.cell (World.block_lt_of_cell? w _ hwq1_0)).trans hwq1_0), ((HB.out.cell (World.block_lt_of_cell? w _ hwq1_1)).trans hwq1_1)⟩ (fun hHeld => ?_); refine with_tabW spec_l11Val.tab5 spec_l11Val.bits5 (fun HT_ HW_ => ?_)
 generalize wq8.drew = wq9 at BKq0 BKq1 BKq2 BKq3 HB hxq1_0 hxq1_1 hHeld ⊢
 refine ZU 1 27 #[F,T,F,F,F,F,F,F,F] ?_
 refine ZU 3 29 #[F,T,F,T,F,F,F,F,F] ?_
 refine ZTK 0 26 #[T,T,F,T,F,F,F,F,F] hHeld ?_
 refine ZTK 2 28 #[T,T,T,T,F,F,F,F,F] hHeld ?_
 refine ZTK 4 30 #[T,T,T,T,T,F,F,F,F] hHeld ?_
 refine ZU 5 31 #[T,T,T,T,T,T,F,F,F] ?_
 refine ZTK 6 32 #[T,T,T,T,T,T,T,F,F] hHeld ?_
 refine one_ (i := 7) (N := some 33) #[T,T,T,T,T,T,T,T,F] rfl rfl (one_of HT_.out (by kernel_rfl)) (by decide) (fun K hK => ?_)
 refine ZGO Tryd.func91 #[.agg #[.int .i64 t429, .int .i64 t430], .agg #[.int .i64 ((D43 l0_0 a1_2).f0), .int .i64 ((D43 l0_0 a1_2).f1)]] ?_
 first
 | (
 (have z_ := tag3_; clear z_)
 with_reducible refine (spec_LabelBoth.calls k t429 t430 ((D43 l0_0 a1_2).f0) ((D43 l0_0 a1_2).f1) t432 t433 _ A73.out).mono ?_
 rintro e wq10 ⟨rfl, hb⟩
 refine ZV1 ?_
 replace BKq0 := ZW BKq0 hb
 replace BKq1 := ZW BKq1 hb
 replace BKq2 := ZW BKq2 hb
 replace BKq3 := ZW BKq3 hb
 replace HB := ZT HB hb
 (try clear hb)
 (try clear hb2)
 (try clear hk)
 (try clear hi)
 refine hK.out _ _ ⟨ZA BKq3 0, ZA BKq3 1, ZA BKq0 0, ZA BKq0 1, ZA BKq1 0, ZA BKq1 1, ZA BKq1 2, ((HB.out.cell (World.block_lt_of_cell? w _ hwq1_0)).trans hwq1_0), ((HB.out.cell (World.block_lt_of_cell? w _ hwq1_1)).trans hwq1_1)⟩ (fun hHeld => ?_)
 clear hK K
 refine ZNO 33 ?_
 refine last_ (i := 8) (N := none) #[T,T,T,T,T,T,T,T,T] rfl rfl (one_of HT_.out (by kernel_rfl)) (by decide) (fun K hK => ?_)
 have hsq2 : wq10.cell? ⟨gbq3, 0, none⟩ = some (.int .i64 t429) := ZA BKq3 0
 have hfsq2 := blk_frozen BKq3.out 0
 have hnsq2_0 := NBq0_421.out
 have hnsq2_1 := NBq1_421.out
 have hnsq2_2 := NBq2_421.out
 have hmsq2_0 := NBq3_416.out
 have hmsq2_1 := NBq3_417.out
 have hmsq2_2 := NBq3_418.out
 have hsq3 : wq10.cell? ⟨gbq3, 1, none⟩ = some (.int .i64 t430) := ZA BKq3 1
 have hfsq3 := blk_frozen BKq3.out 1
 have hnsq3_0 := NBq0_421.out
 have hnsq3_1 := NBq1_421.out
 have hnsq3_2 := NBq2_421.out
 have hmsq3_0 := NBq3_416.out
 have hmsq3_1 := NBq3_417.out
 have hmsq3_2 := NBq3_418.out
 refine skip_ (w1 := ?_) (by rfl) rfl ?_ ?_
 rotate_left
 ·(
 go_simp
 rfl)
 refine hK.out _ _ ?_
 clear hK K
 refine done_ (done_of HT_.out (by kernel_rfl)) ?_
 have hczq3 := ZC2 wq10 BKq3
 have hnbq5 := NBq2_416.out
 have hncq5 := NBq0_418.out
 have hczq4 := ZC2 wq10 BKq2
 try go_wp2
 refine bodyPost_ret (results_cell_row rfl _ _ gbq2 43 #[.int .i64 t432, .int .i64 t433] (0, 0) _ rfl (ZZ BKq2.out) Tryd.underlying43 rfl (by kernel_rfl)) rfl ?_
 exact ⟨ZE, ZB⟩)
 | (
 (have z_ := tag4_; clear z_)
 with_reducible refine (spec_LabelBoth.calls k t429 t430 ((D43 l0_0 a1_2).f0) ((D43 l0_0 a1_2).f1) t435 t436 _ A103.out).mono ?_
 rintro e wq10 ⟨rfl, hb⟩
 refine ZV1 ?_
 replace BKq0 := ZW BKq0 hb
 replace BKq1 := ZW BKq1 hb
 replace BKq2 := ZW BKq2 hb
 replace BKq3 := ZW BKq3 hb
 replace HB := ZT HB hb
 (try clear hb)
 (try clear hb2)
 (try clear hk)
 (try clear hi)
 refine hK.out _ _ ⟨ZA BKq3 0, ZA BKq3 1, ZA BKq0 0, ZA BKq0 1, ZA BKq1 0, ZA BKq1 1, ZA BKq1 2, ((HB.out.cell (World.block_lt_of_cell? w _ hwq1_0)).trans hwq1_0), ((HB.out.cell (World.block_lt_of_cell? w _ hwq1_1)).trans hwq1_1)⟩ (fun hHeld => ?_)
 clear hK K
 refine ZNO 33 ?_
 refine last_ (i := 8) (N := none) #[T,T,T,T,T,T,T,T,T] rfl rfl (one_of HT_.out (by kernel_rfl)) (by decide) (fun K hK => ?_)
 have hsq2 : wq10.cell? ⟨gbq3, 0, none⟩ = some (.int .i64 t429) := ZA BKq3 0
 have hfsq2 := blk_frozen BKq3.out 0
 have hnsq2_0 := NBq0_421.out
 have hnsq2_1 := NBq1_421.out
 have hnsq2_2 := NBq2_421.out
 have hmsq2_0 := NBq3_416.out
 have hmsq2_1 := NBq3_417.out
 have hmsq2_2 := NBq3_418.out
 have hsq3 : wq10.cell? ⟨gbq3, 1, none⟩ = some (.int .i64 t430) := ZA BKq3 1
 have hfsq3 := blk_frozen BKq3.out 1
 have hnsq3_0 := NBq0_421.out
 have hnsq3_1 := NBq1_421.out
 have hnsq3_2 := NBq2_421.out
 have hmsq3_0 := NBq3_416.out
 have hmsq3_1 := NBq3_417.out
 have hmsq3_2 := NBq3_418.out
 refine skip_ (w1 := ?_) (by rfl) rfl ?_ ?_
 rotate_left
 ·(
 go_simp
 rfl)
 refine hK.out _ _ ?_
 clear hK K
 refine done_ (done_of HT_.out (by kernel_rfl)) ?_
 have hczq3 := ZC2 wq10 BKq3
 have hnbq5 := NBq2_416.out
 have hncq5 := NBq0_418.out
 have hczq4 := ZC2 wq10 BKq2
 try go_wp2
 refine bodyPost_ret (results_cell_row rfl _ _ gbq2 43 #[.int .i64 t435, .int .i64 t436] (0, 0) _ rfl (ZZ BKq2.out) Tryd.underlying43 rfl (by kernel_rfl)) rfl ?_
 exact ⟨ZE, ZB⟩))
 | (
 (have z_ := tag5_; clear z_)
 have hczq3 := ZC2 wq7 BKq3
 have hnbq5 := NBq2_416.out
 have hncq5 := NBq0_418.out
 have hczq4 := ZC2 wq7 BKq2
 try go_wp2
 refine bodyPost_ret (results_cell_row rfl _ _ gbq2 43 #[.int .i64 t429, .int .i64 t430] (0, 0) _ rfl (ZZ BKq2.out) Tryd.underlying43 rfl (by kernel_rfl)) rfl ?_
 exact ⟨ZE, ZB⟩)))
 | (
 (have z_ := tag2_; clear z_)
 go_wp2_with (first | ((with_reducible refine gate_dst (N := 2) rfl ?_); refine ZXW w (N := 2) (cs := #[.slice A0_0 l0_0.length c0_0, .slice A0_1 l0_1.length c0_1]) (t := 31) ?_; intro gbq0 hg wq0 BKq0 GWq0 hb; replace HB := ZT HB hb; clear hb hg) | ((with_reducible refine gate_dst (N := 3) rfl ?_); refine ZXW w (N := 3) (cs := #[.int .i64 a1_0, .int .i64 a1_1, .int .i64 a1_2]) (t := 69) ?_; intro gbq1 hg wq1 BKq1 GWq1 hb; have NBq0_417 : Za (gbq0 ≠ gbq1) := ZN hg BKq0; have NBq1_416 : Za (gbq1 ≠ gbq0) := ZM hg BKq0; replace BKq0 := ZW BKq0 hb; replace HB := ZT HB hb; clear hb hg) | ((with_reducible refine gate_dst (N := 4) rfl ?_); refine ZXW w (N := 4) (cs := #[.int .i64 0, .int .i64 0]) (t := 43) ?_; intro gbq2 hg wq2 BKq2 GWq2 hb; have NBq0_418 : Za (gbq0 ≠ gbq2) := ZN hg BKq0; have NBq2_416 : Za (gbq2 ≠ gbq0) := ZM hg BKq0; have NBq1_418 : Za (gbq1 ≠ gbq2) := ZN hg BKq1; have NBq2_417 : Za (gbq2 ≠ gbq1) := ZM hg BKq1; replace BKq0 := ZW BKq0 hb; replace BKq1 := ZW BKq1 hb; replace HB := ZT HB hb; clear hb hg) | ((with_reducible refine gate_callee (f := 89) rfl ?_); refine ZGL (some 6) Tryd.func89 #[] ?_; (with_reducible refine (spec_l11Any.calls  t419 t420 _ A3.out).mono ?_); rintro e wq3 ⟨rfl, hb⟩; refine ZV1 ?_; replace BKq0 := ZW BKq0 hb; replace BKq1 := ZW BKq1 hb; replace BKq2 := ZW BKq2 hb; replace HB := ZT HB hb; clear hb) | ((with_reducible refine gate_dst (N := 5) rfl ?_); refine ZXW w (N := 5) (cs := #[.int .i64 0, .int .i64 0]) (t := 43) ?_; intro gbq3 hg wq4 BKq3 GWq3 hb; have NBq0_421 : Za (gbq0 ≠ gbq3) := ZN hg BKq0; have NBq3_416 : Za (gbq3 ≠ gbq0) := ZM hg BKq0; have NBq1_421 : Za (gbq1 ≠ gbq3) := ZN hg BKq1; have NBq3_417 : Za (gbq3 ≠ gbq1) := ZM hg BKq1; have NBq2_421 : Za (gbq2 ≠ gbq3) := ZN hg BKq2; have NBq3_418 : Za (gbq3 ≠ gbq2) := ZM hg BKq2; replace BKq0 := ZW BKq0 hb; replace BKq1 := ZW BKq1 hb; replace BKq2 := ZW BKq2 hb; replace HB := ZT HB hb; clear hb hg; have hnbq0 := NBq3_416.out; have hncq0 := NBq0_421.out; have hnbq1 := NBq3_417.out; have hncq1 := NBq1_421.out; have hnbq2 := NBq3_418.out; have hncq2 := NBq2_421.out; have hczq0 := ZC2 wq4 BKq3; have hnbq3 := NBq1_416.out; have hncq3 := NBq0_417.out; have hnbq4 := NBq1_418.out; have hncq4 := NBq2_417.out; have hczq1 := ZC3 wq4 BKq1; have hnbq5 := NBq2_416.out; have hncq5 := NBq0_418.out; have hczq2 := ZC2 wq4 BKq2))
 refine bodyPost_ret (results_cell_row rfl _ _ gbq2 43 #[.int .i64 t419, .int .i64 t420] (0, 0) _ rfl (ZZ BKq2.out) Tryd.underlying43 rfl (by kernel_rfl)) rfl ?_
 exact ⟨ZE, ZB⟩))

end Go.Proofs.YtfcmckomagaiiaaDoor.A
