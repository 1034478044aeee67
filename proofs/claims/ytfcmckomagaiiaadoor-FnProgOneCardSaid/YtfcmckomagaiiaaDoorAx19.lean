/- Go functions as Lean functions, and for each its contract; written by wip/tools/pr.py over the kit's print. -/
import Derived.Test.YtfcmckomagaiiaaDoorAx0
import Derived.Test.YtfcmckomagaiiaaDoorAx3
import Derived.Test.YtfcmckomagaiiaaDoorAx18
namespace Go.Proofs.YtfcmckomagaiiaaDoor.A
open Go.RowKit Go.Proofs.YtfcmckomagaiiaaDoorW.PrintWords Go.Proofs.YtfcmckomagaiiaaDoorW.PrintLast Go.Proofs.YtfcmckomagaiiaaDoorW.PrintMore
attribute [local go_sem] max2_int min2_int max_two min_two max_three min_three max_four min_four
set_option linter.unusedVariables false
set_option linter.unusedSimpArgs false
set_option maxHeartbeats 8000000
set_option maxRecDepth 100000

/-! ### spec_LabelBoth: function 91 -/
def spec_LabelBoth.j0 : Nat → Bool → Int → Int → Int → Int → Option (Int × Int)
 | 0, _, _, _, _, _ => none
 | k + 1, x12, x368000, x368001, x369000, x369001 => if x12 = true then (some (0, 0)) else ((spec_l1Both.f k x368000 x369000).bind fun t372 => ((spec_l1Both.f k x368001 x369001).bind fun t373 => (some (t372, t373))))
def spec_LabelBoth.f (k : Nat) (a0_0 : Int) (a0_1 : Int) (a1_0 : Int) (a1_1 : Int) : Option (Int × Int) := (spec_LabelOk.f a0_0 a0_1).bind fun t370 => (if t370 = true then ((spec_LabelOk.f a1_0 a1_1).bind fun t371 => (spec_LabelBoth.j0 k (!t371) a0_0 a0_1 a1_0 a1_1)) else (spec_LabelBoth.j0 k true a0_0 a0_1 a1_0 a1_1))
def spec_LabelBoth.T3 : Bool × List (List Nat × List Nat) := (true, [([], []), ([0], [0]), ([], []), ([2], [2]), ([1, 3], [1, 3]), ([], []), ([5], [5]), ([], []), ([7], [7]), ([6, 8, 4], [6, 8]), ([4, 9], [4, 9]), ([10, 9, 0, 1, 2, 3, 4, 5, 6, 7, 8, 9, 10], [10])])
def spec_LabelBoth.B3 : List Nat := [0, 1, 0, 4, 15, 0, 32, 0, 128, 511, 1023, 2047]
theorem spec_LabelBoth.tab3 : rtab .any (opsOf Tryd.f91 3) = spec_LabelBoth.T3 := by kernel_rfl
theorem spec_LabelBoth.bits3 : waitsOk spec_LabelBoth.T3.2 spec_LabelBoth.B3 = true := by kernel_rfl
theorem spec_LabelBoth.calls (k : Nat) (a0_0 : Int) (a0_1 : Int) (a1_0 : Int) (a1_1 : Int) (r1 : Int) (r2 : Int) (w : World) (h : spec_LabelBoth.f k a0_0 a0_1 a1_0 a1_1 = some (r1, r2)) :
  Calls Tryd.prog 91 #[.agg #[.int .i64 a0_0, .int .i64 a0_1], .agg #[.int .i64 a1_0, .int .i64 a1_1]] w fun e w' => e = .returned (.agg #[.int .i64 r1, .int .i64 r2]) ∧ Below w.heap.size w w' := by
 have hu43 := Tryd.underlying43
 have HB := AM (Below.refl w.heap.size w)
 have H := h
 unfold spec_LabelBoth.f at H
 clear h
 have HC3 := AM H
 clear H
 go_enter Tryd.func91, Tryd.ntmps91
 go_upto_region 1 with (first | ((with_reducible refine gate_dst (N := 2) rfl ?_); refine ZXW w (N := 2) (cs := #[.int .i64 a0_0, .int .i64 a0_1]) (t := 43) ?_; intro gb367 hg w4 BK367 GW367 hb; replace HB := ZT HB hb; clear hb hg) | ((with_reducible refine gate_dst (N := 3) rfl ?_); refine ZXW w (N := 3) (cs := #[.int .i64 a1_0, .int .i64 a1_1]) (t := 43) ?_; intro gb368 hg w5 BK368 GW368 hb; have NB367_368 : Za (gb367 ≠ gb368) := ZN hg BK367; have NB368_367 : Za (gb368 ≠ gb367) := ZM hg BK367; replace BK367 := ZW BK367 hb; replace HB := ZT HB hb; clear hb hg) | ((with_reducible refine gate_dst (N := 4) rfl ?_); refine ZXW w (N := 4) (cs := #[.int .i64 0, .int .i64 0]) (t := 43) ?_; intro gb369 hg w6 BK369 GW369 hb; have NB367_369 : Za (gb367 ≠ gb369) := ZN hg BK367; have NB369_367 : Za (gb369 ≠ gb367) := ZM hg BK367; have NB368_369 : Za (gb368 ≠ gb369) := ZN hg BK368; have NB369_368 : Za (gb369 ≠ gb368) := ZM hg BK368; replace BK367 := ZW BK367 hb; replace BK368 := ZW BK368 hb; replace HB := ZT HB hb; clear hb hg))
 (try simp only [Act.put, List.setIfInBounds_toArray, List.set_cons_zero, List.set_cons_succ])
 go_cut [12] (fun v12 wc => ∃ (kq : Nat) (x12_2 : Bool), v12 = .bool x12_2 ∧ Za (spec_LabelBoth.j0 kq x12_2 a0_0 a0_1 a1_0 a1_1 = some (r1, r2)) ∧ Za (kq ≤ k) ∧ Za (wc.heap[gb367]? = some (.cells #[.int .i64 a0_0, .int .i64 a0_1] 43 (0, 0))) ∧ Za (wc.heap[gb368]? = some (.cells #[.int .i64 a1_0, .int .i64 a1_1] 43 (0, 0))) ∧ Za (wc.heap[gb369]? = some (.cells #[.int .i64 0, .int .i64 0] 43 (0, 0))) ∧ Za (Below w.heap.size w wc))
 case first => (
 have H := HC3.out
 clear HC3
 obtain ⟨t370, A7, H⟩ := ZOB H; try dsimp only at H
 by_cases c8 : t370 = true
 ·(
 subst c8
 have H1 := H; rw [if_pos rfl] at H1
 clear H
 have H := H1
 clear H1
 obtain ⟨t371, A9, H⟩ := ZOB H; try dsimp only at H
 have H' := AM H
 clear H
 have hnb10 := NB367_368.out
 have hnc10 := NB368_367.out
 have hnb11 := NB367_369.out
 have hnc11 := NB369_367.out
 have hcz12 := ZC2 w6 BK367
 go_wp2_with (first | ((with_reducible refine gate_callee (f := 28) rfl ?_); refine ZGL (some 6) Tryd.func28 #[.agg #[.int .i64 a0_0, .int .i64 a0_1]] ?_; (with_reducible refine (spec_LabelOk.calls a0_0 a0_1 true _ A7.out).mono ?_); rintro e w13 ⟨rfl, hb⟩; refine ZV1 ?_; replace BK367 := ZW BK367 hb; replace BK368 := ZW BK368 hb; replace BK369 := ZW BK369 hb; replace HB := ZT HB hb; clear hb; have hnb14 := NB368_369.out; have hnc14 := NB369_368.out; have hcz15 := ZC2 w13 BK368) | (go_at_call 28; (with_reducible refine (spec_LabelOk.calls a1_0 a1_1 t371 _ A9.out).mono ?_); rintro e w16 ⟨rfl, hb⟩; replace BK367 := ZW BK367 hb; replace BK368 := ZW BK368 hb; replace BK369 := ZW BK369 hb; replace HB := ZT HB hb; clear hb))
 go_meet
 case rel => exact ⟨_, (!t371), ZSM, H', ⟨by first | omega | exact Nat.le_refl _⟩, ⟨ZK BK367.out⟩, ⟨ZK BK368.out⟩, ⟨ZK BK369.out⟩, ⟨ZB⟩⟩)
 ·(
 replace c8 := Bool.eq_false_iff.mpr c8
 subst c8
 have H1 := H; rw [if_neg ZFT] at H1
 clear H
 have H := H1
 clear H1
 have H' := AM H
 clear H
 have hnb17 := NB367_368.out
 have hnc17 := NB368_367.out
 have hnb18 := NB367_369.out
 have hnc18 := NB369_367.out
 have hcz19 := ZC2 w6 BK367
 go_wp2_with (first | ((with_reducible refine gate_callee (f := 28) rfl ?_); refine ZGL (some 6) Tryd.func28 #[.agg #[.int .i64 a0_0, .int .i64 a0_1]] ?_; (with_reducible refine (spec_LabelOk.calls a0_0 a0_1 false _ A7.out).mono ?_); rintro e w20 ⟨rfl, hb⟩; refine ZV1 ?_; replace BK367 := ZW BK367 hb; replace BK368 := ZW BK368 hb; replace BK369 := ZW BK369 hb; replace HB := ZT HB hb; clear hb))
 go_meet
 case rel => exact ⟨_, (true), ZSM, H', ⟨by first | omega | exact Nat.le_refl _⟩, ⟨ZK BK367.out⟩, ⟨ZK BK368.out⟩, ⟨ZK BK369.out⟩, ⟨ZB⟩⟩))
 case rest => (
 clear HC3
 try clear c1
 try clear c2
 try clear p2
 try clear c8
 try clear c9
 try clear c10
 try clear c11
 try clear c14
 try clear c17
 try clear c18
 try clear hcz12
 try clear hcz15
 try clear hcz19
 obtain ⟨kq, x12_2, rfl, HA, HJ2, BK367, BK368, BK369, HB⟩ := hcut
 cases kq with
 | zero => exact absurd HA.out (by simp [spec_LabelBoth.j0])
 | succ kj2 =>
  have H := HA.out
  clear HA
  simp only [spec_LabelBoth.j0] at H
  by_cases c21 : x12_2 = true
  ·(
  subst c21
  have H1 := H; rw [if_pos rfl] at H1
  clear H
  have H := H1
  clear H1
  simp only [Option.some.injEq, Prod.mk.injEq] at H
  obtain ⟨rfl, rfl⟩ := H
  have hnb22 := NB369_367.out
  have hnc22 := NB367_369.out
  have hnb23 := NB369_368.out
  have hnc23 := NB368_369.out
  have hcz24 := ZC2 wc BK369
  go_wp2
  refine bodyPost_ret (results_cell_row rfl _ _ gb369 43 #[.int .i64 0, .int .i64 0] (0, 0) _ rfl (ZZ BK369.out) Tryd.underlying43 rfl (by kernel_rfl)) rfl ?_
  exact ⟨ZE, ZB⟩)
  ·(
  replace c21 := Bool.eq_false_iff.mpr c21
  subst c21
  have H1 := H; rw [if_neg ZFT] at H1
  clear H
  have H := H1
  clear H1
  obtain ⟨t372, A25, H⟩ := ZOB H; try dsimp only at H
  obtain ⟨t373, A26, H⟩ := ZOB H; try dsimp only at H
  simp only [Option.some.injEq, Prod.mk.injEq] at H
  obtain ⟨rfl, rfl⟩ := H
  try go_wp2
  replace BK367 := AM (blk_drew BK367.out)
  replace BK368 := AM (blk_drew BK368.out)
  replace BK369 := AM (blk_drew BK369.out)
  replace HB := AM (below_drew1 HB.out)
  refine start_ (n := 12) (S := fun w' => w'.cell? ⟨gb367, 0, none⟩ = some (.int .i64 a0_0) ∧ w'.cell? ⟨gb367, 1, none⟩ = some (.int .i64 a0_1) ∧ w'.cell? ⟨gb368, 0, none⟩ = some (.int .i64 a1_0) ∧ w'.cell? ⟨gb368, 1, none⟩ = some (.int .i64 a1_1)) (ds := []) #[F,F,F,F,F,F,F,F,F,F,F,F] (by kernel_rfl) rfl rfl ⟨ZA BK367 0, ZA BK367 1, ZA BK368 0, ZA BK368 1⟩ (fun hHeld => ?_); refine with_tabW spec_LabelBoth.tab3 spec_LabelBoth.bits3 (fun HT_ HW_ => ?_)
  generalize wc.drew = w27 at BK367 BK368 BK369 HB hHeld ⊢
  refine ZU 0 14 #[T,F,F,F,F,F,F,F,F,F,F,F] ?_
  refine ZU 2 16 #[T,F,T,F,F,F,F,F,F,F,F,F] ?_
  refine ZU 5 19 #[T,F,T,F,F,T,F,F,F,F,F,F] ?_
  refine ZU 7 21 #[T,F,T,F,F,T,F,T,F,F,F,F] ?_
  refine ZTK 1 15 #[T,T,T,F,F,T,F,T,F,F,F,F] hHeld ?_
  refine ZTK 3 17 #[T,T,T,T,F,T,F,T,F,F,F,F] hHeld ?_
  refine ZTK 6 20 #[T,T,T,T,F,T,T,T,F,F,F,F] hHeld ?_
  refine ZTK 8 22 #[T,T,T,T,F,T,T,T,T,F,F,F] hHeld ?_
  refine one_ (i := 4) (N := some 18) #[T,T,T,T,T,T,T,T,T,F,F,F] rfl rfl (one_of HT_.out (by kernel_rfl)) (by decide) (fun K hK => ?_)
  refine ZGO Tryd.func93 #[.int .i64 a0_0, .int .i64 a1_0] ?_
  with_reducible refine (spec_l1Both.calls kj2 a0_0 a1_0 t372 _ A25.out).mono ?_
  rintro e w' ⟨rfl, ⟨nd, rfl⟩⟩
  refine ZV1 ?_
  refine hK.out _ _ ⟨ZA BK367 0, ZA BK367 1, ZA BK368 0, ZA BK368 1⟩ (fun hHeld => ?_)
  clear hK K
  refine ZNO 18 ?_
  refine one_ (i := 9) (N := some 23) #[T,T,T,T,T,T,T,T,T,T,F,F] rfl rfl (one_of HT_.out (by kernel_rfl)) (by decide) (fun K hK => ?_)
  refine ZGO Tryd.func93 #[.int .i64 a0_1, .int .i64 a1_1] ?_
  with_reducible refine (spec_l1Both.calls kj2 a0_1 a1_1 t373 _ A26.out).mono ?_
  rintro e w' ⟨rfl, ⟨nd, rfl⟩⟩
  refine ZV1 ?_
  refine hK.out _ _ ⟨ZA BK367 0, ZA BK367 1, ZA BK368 0, ZA BK368 1⟩ (fun hHeld => ?_)
  clear hK K
  refine ZNO 23 ?_
  refine ZU 10 24 #[T,T,T,T,T,T,T,T,T,T,T,F] ?_
  refine one_ (i := 11) (N := none) #[T,T,T,T,T,T,T,T,T,T,T,T] rfl rfl (one_of HT_.out (by kernel_rfl)) (by decide) (fun K hK => ?_)
  have hs28 : w27.cell? ⟨gb369, 0, none⟩ = some (.int .i64 0) := ZA BK369 0
  have hfs28 := blk_frozen BK369.out 0
  have hns28_0 := NB367_369.out
  have hns28_1 := NB368_369.out
  have hms28_0 := NB369_367.out
  have hms28_1 := NB369_368.out
  have hs29 : w27.cell? ⟨gb369, 1, none⟩ = some (.int .i64 0) := ZA BK369 1
  have hfs29 := blk_frozen BK369.out 1
  have hns29_0 := NB367_369.out
  have hns29_1 := NB368_369.out
  have hms29_0 := NB369_367.out
  have hms29_1 := NB369_368.out
  refine skip_ (w1 := ?_) (by rfl) rfl ?_ ?_
  rotate_left
  ·(
  go_simp
  rfl)
  refine hK.out _ _ ⟨((cell_far (p := ⟨gb369, _, none⟩) NB367_369.out _).trans (((cell_far (p := ⟨gb369, _, none⟩) NB367_369.out _).trans (hHeld.1)))), ((cell_far (p := ⟨gb369, _, none⟩) NB367_369.out _).trans (((cell_far (p := ⟨gb369, _, none⟩) NB367_369.out _).trans (hHeld.2.1)))), ((cell_far (p := ⟨gb369, _, none⟩) NB368_369.out _).trans (((cell_far (p := ⟨gb369, _, none⟩) NB368_369.out _).trans (hHeld.2.2.1)))), ((cell_far (p := ⟨gb369, _, none⟩) NB368_369.out _).trans (((cell_far (p := ⟨gb369, _, none⟩) NB368_369.out _).trans (hHeld.2.2.2))))⟩ (fun hHeld => ?_)
  clear hK K
  refine done_ (done_of HT_.out (by kernel_rfl)) ?_
  try go_wp2
  refine bodyPost_ret (results_cell_row rfl _ _ gb369 43 #[.int .i64 t372, .int .i64 t373] (0, 0) _ rfl (ZZ BK369.out) Tryd.underlying43 rfl (by kernel_rfl)) rfl ?_
  exact ⟨ZE, ZB⟩))

end Go.Proofs.YtfcmckomagaiiaaDoor.A
