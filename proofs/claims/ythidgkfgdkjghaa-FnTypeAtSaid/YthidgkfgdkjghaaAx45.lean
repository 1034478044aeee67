/- By wip/tools/pr.py: Go functions as Lean functions, with contracts. -/
import Derived.Test.YthidgkfgdkjghaaAx0
import Derived.Test.YthidgkfgdkjghaaAx2
import Derived.Test.YthidgkfgdkjghaaAx5
import Derived.Test.YthidgkfgdkjghaaAx11
import Derived.Test.YthidgkfgdkjghaaAx20
import Derived.Test.YthidgkfgdkjghaaAx38
import Derived.Test.YthidgkfgdkjghaaAx44
namespace Go.Proofs.Ythidgkfgdkjghaa.A
open Go.RowKit Go.Proofs.YthidgkfgdkjghaaW.PrintWords Go.Proofs.YthidgkfgdkjghaaW.PrintLast Go.Proofs.YthidgkfgdkjghaaW.PrintMore
attribute [local go_sem] max2_int min2_int max_two min_two max_three min_three max_four min_four
set_option linter.unusedVariables false
set_option linter.unusedSimpArgs false
set_option maxHeartbeats 8000000
set_option maxRecDepth 100000

attribute [local go_sem high] eqA39
/-! ### laws_FnTypeAt: function 12 -/
def laws_FnTypeAt.l0 : Nat → List (S39) → List (S39) → Int → List (S39) → List (S32) → Option (Bool)
 | 0, _, _, _, _, _ => none
 | k + 1, x4, x5, x6, x971000, x971001 => if x6 < (x4.length : Int) then (if 0 ≤ x6 then (if x6 < (x5.length : Int) then (if (!(((D39 x4 x6).f0) == ((D39 x5 x6).f0)) || (!(((D39 x4 x6).f1) == ((D39 x5 x6).f1)))) = true then (some false) else (if 0 < (x4.length : Int) then ((impl_LabelFlows.f ((D39 x4 0).f0) ((D39 x4 0).f1) ((D39 x4 x6).f0) ((D39 x4 x6).f1)).bind fun t981 => (if t981 = true then (laws_FnTypeAt.l0 k x4 x5 (wrap64 (x6 + 1)) x971000 x971001) else (some false))) else (none))) else (none)) else (none)) else ((spec_ProgOk.f k x971000 x971001).bind fun t982 => (if t982 = true then ((impl_ProgSize.f k x971000 x971001).bind fun t983 => (if (x4.length : Int) = t983 then (if (x4.length : Int) = 0 then (some true) else (if 0 < (x4.length : Int) then (some (((D39 x4 0).f0) == 7 && (((D39 x4 0).f1) == 7))) else (none))) else (some false))) else (some true)))
def laws_FnTypeAt.f (k : Nat) (l0 : List Int) : Option (Bool) := if (l0.length : Int) > 1048576 then (some true) else ((spec_DrawTypeAt.f k l0).bind fun bt964 => ((impl_TypeAt.f k bt964.1 bt964.2).bind fun t971 => ((spec_TypeAt.f k bt964.1 bt964.2).bind fun t974 => (if (t971.length : Int) = (t974.length : Int) then (laws_FnTypeAt.l0 k t971 t974 0 bt964.1 bt964.2) else (some false)))))
def laws_FnTypeAt.T11 : Bool × List (List Nat × List Nat) := (true, [([], []), ([], []), ([0, 1], [0, 1]), ([2], [2]), ([], []), ([], []), ([4, 5], [4, 5]), ([6], [6]), ([3, 7], [3, 7]), ([8], [8]), ([9], [9]), ([10, 9], [9, 10]), ([11, 9], [9, 11]), ([9], [9]), ([9], [9]), ([13, 14, 9], [9, 13, 14]), ([15, 9], [9, 15]), ([12, 16, 9, 9], [9, 12, 16]), ([17, 9], [9, 17]), ([9, 18], [9, 18])])
def laws_FnTypeAt.B11 : List Nat := [0, 0, 3, 7, 0, 0, 48, 112, 255, 511, 1023, 2047, 4095, 1023, 1023, 25599, 58367, 131071, 262143, 524287]
theorem laws_FnTypeAt.tab11 : rtab .any (opsOf Try.f12 11) = laws_FnTypeAt.T11 := by kernel_rfl
theorem laws_FnTypeAt.bits11 : waitsOk laws_FnTypeAt.T11.2 laws_FnTypeAt.B11 = true := by kernel_rfl
theorem laws_FnTypeAt.calls (k : Nat) (A0 : Option Addr) (c0 : Nat) (l0 : List Int) (r : Bool) (w : World) (hr0 : Kd.C (Kd.int .u8) w A0 l0.length l0) (hc0 : l0.length ≤ c0) (h : laws_FnTypeAt.f k l0 = some r) :
  Calls Try.prog 12 #[.slice A0 l0.length c0] w fun e w' => e = .returned (.bool r) ∧ Below w.heap.size w w' := by
 have hu26 := Try.underlying26
 have hu39 := Try.underlying39
 have HR0 := AM hr0
 have HC0 := AM hc0
 clear hr0 hc0
 have HB := AM (Below.refl w.heap.size w)
 have H := h
 unfold laws_FnTypeAt.f at H
 clear h
 by_cases c2 : (l0.length : Int) > 1048576
 focus (
 rw [if_pos c2] at H
 have c2b0 := decide_eq_true c2
 have c2b1 : decide (1048576 < l0.length) = true := decide_eq_true (by omega)
 clear c2
 obtain rfl := Option.some.inj H
 have tag0_ : Za True := ⟨trivial⟩)
 rotate_left
 focus (
 rw [if_neg c2] at H
 have c2b0 := decide_eq_false c2
 have c2b1 : decide (1048576 < l0.length) = false := decide_eq_false (by omega)
 clear c2
 obtain ⟨⟨t964, t967⟩, A3, H⟩ := ZOB H; try dsimp only at H
 obtain ⟨t971, A4, H⟩ := ZOB H; try dsimp only at H
 obtain ⟨t974, A5, H⟩ := ZOB H; try dsimp only at H
 by_cases c6 : (t971.length : Int) = (t974.length : Int)
 focus (
 rw [if_pos c6] at H
 have c6b0 := beq_iff_eq.mpr c6
 have c6b1 := bne_eq_false_iff_eq.mpr c6
 have c6b2 : (t971.length == t974.length) = true := by first | simpa using c6 | (simp at c6 ⊢; omega)
 clear c6
 have H' := AM H
 clear H
 have tag1_ : Za True := ⟨trivial⟩)
 rotate_left
 focus (
 rw [if_neg c6] at H
 have c6b0 := beq_eq_false_iff_ne.mpr c6
 have c6b1 := bne_iff_ne.mpr c6
 have c6b2 : (t971.length == t974.length) = false := by first | simpa using c6 | (simp at c6 ⊢; omega)
 obtain rfl := Option.some.inj H
 have tag2_ : Za True := ⟨trivial⟩)
 rotate_left)
 rotate_left 2
 all_goals (
 go_enter Try.func12, Try.ntmps12
 first
 | (
 (have z_ := tag0_; clear z_)
 go_wp2
 go_ret
 exact ⟨ZE, ZB⟩)
 | (
 (first | (have z_ := tag1_; clear z_) | (have z_ := tag2_; clear z_))
 go_wp2_with (first | ((with_reducible refine gate_callee (f := 31) rfl ?_); refine ZGL (some 11) Try.func31 #[.slice A0 l0.length c0] ?_; (with_reducible refine (spec_DrawTypeAt.calls k _ _ l0 t964 t967 _ ?side1 HC0.out A3.out).mono ?_); (case side1 => exact ZQ HR0.out); rintro e wq0 ⟨vq0, vq1, rfl, hoq0, hoq1, hb⟩; refine ⟨_, rfl, ?_⟩; have HOq0 := AM (Kd.R_lower (Kd.R_mono (ok' := fun k_ => True) hoq0 (fun _ hk_ => trivial)) (below_size (ZB))); have HOq1 := AM (Kd.N_lower (Kd.N_mono (ok' := fun k_ => some k_ ≠ (vq0 : Value).ownBlock) hoq1 (fun k_ hk_ => hk_.2)) (below_size (ZB))); replace HB := ZT HB hb; clear hb; (try clear hoq0); (try clear hoq1)) | ((with_reducible refine gate_dst (N := 3) rfl ?_); refine ZX (N := 3) (cs := #[.slice none 0 0, .slice none 0 0]) (t := 26) ?_; intro gbq0 hg wq1 hbox hb; have BKq0 := AM (hbox); have GWq0 : Za (w.heap.size ≤ gbq0) := ZS hg; replace HOq0 := AM (Kd.R_below (ZR HOq0.out) hb); replace HOq1 := AM (Kd.N_below (Kd.N_elderB (ZRN HOq1.out) gbq0 (Nat.le_of_eq hg.symm)) hb); replace HB := ZT HB hb; clear hb hbox hg; obtain ⟨Aoq0, coq0, eoq0⟩ := Kd.R_slice HOq0.out; subst eoq0; have hczq0 := ZC2 wq1 BKq0; have hfzq0 := ZF2 BKq0; obtain ⟨Aoq1, coq1, eoq1⟩ := Kd.N_slice HOq1.out; subst eoq1) | ((with_reducible refine gate_callee (f := 32) rfl ?_); refine ZGL (some 13) Try.func32 #[.agg #[.slice Aoq0 t964.length coq0, .slice Aoq1 t967.length coq1]] ?_; (with_reducible refine (impl_TypeAt.calls k _ _ t964 _ _ t967 t971 _ ?side1 ?side2 ?side3 ?side4 A4.out).mono ?_); (case side1 => refine (Kd.R_reads' (e := 39) (base := w.heap.size) (ok := fun k_ => True) (n := t964.length) (c := coq0) ?_).2.2; exact (ZR ((Kd.R_mono (Kd.R_far (p := ⟨gbq0, 1, none⟩) (Kd.R_far (p := ⟨gbq0, 0, none⟩) (Kd.R_types HOq0.out BKq0.out (by decide)) (fun _ hk => hk.2) (.slice Aoq0 t964.length coq0)) (fun _ hk => hk.2) (.slice Aoq1 t967.length coq1)) (fun _ h_ => h_.1))))); (case side2 => exact (Kd.R_reads' HOq0.out).2.1); (case side3 => refine (Kd.N_reads' (e := 32) (base := w.heap.size) (ok := fun k_ => (some k_ ≠ (.slice Aoq0 t964.length coq0 : Value).ownBlock ∧ k_ ≠ gbq0)) (n := t967.length) (c := coq1) ?_).2.2; exact (by (with_reducible repeat (first | apply Kd.N_alloc | apply Kd.N_drewN | apply Kd.N_drew)); exact (Kd.N_mono (Kd.N_far (p := ⟨gbq0, 1, none⟩) (Kd.N_far (p := ⟨gbq0, 0, none⟩) (Kd.N_mono HOq1.out (fun k_ hk => (⟨hk, hk.2⟩ : _ ∧ k_ ≠ gbq0))) (fun _ hk => hk.2) (.slice Aoq0 t964.length coq0)) (fun _ hk => hk.2) (.slice Aoq1 t967.length coq1)) (fun _ h_ => h_.1)))); (case side4 => exact (Kd.N_reads' HOq1.out).2.1); rintro e wq2 ⟨vq2, rfl, hoq0, hb⟩; refine ⟨_, rfl, ?_⟩; have HOq2 := AM (Kd.R_lower (Kd.R_new' hoq0 (Kd.R_lt (ZR ((Kd.R_mono (Kd.R_far (p := ⟨gbq0, 1, none⟩) (Kd.R_far (p := ⟨gbq0, 0, none⟩) (Kd.R_types HOq0.out BKq0.out (by decide)) (fun _ hk => hk.2) (.slice Aoq0 t964.length coq0)) (fun _ hk => hk.2) (.slice Aoq1 t967.length coq1)) (fun _ h_ => h_.1)))))) (below_size (ZB))); replace HOq0 := AM (Kd.R_elder' (ZR ((Kd.R_mono (Kd.R_far (p := ⟨gbq0, 1, none⟩) (Kd.R_far (p := ⟨gbq0, 0, none⟩) (Kd.R_types HOq0.out BKq0.out (by decide)) (fun _ hk => hk.2) (.slice Aoq0 t964.length coq0)) (fun _ hk => hk.2) (.slice Aoq1 t967.length coq1)) (fun _ h_ => h_.1)))) (Kd.R_base hoq0) hb); replace HOq1 := AM (Kd.N_elder' (by (with_reducible repeat (first | apply Kd.N_alloc | apply Kd.N_drewN | apply Kd.N_drew)); exact (Kd.N_mono (Kd.N_far (p := ⟨gbq0, 1, none⟩) (Kd.N_far (p := ⟨gbq0, 0, none⟩) (Kd.N_mono HOq1.out (fun k_ hk => (⟨hk, hk.2⟩ : _ ∧ k_ ≠ gbq0))) (fun _ hk => hk.2) (.slice Aoq0 t964.length coq0)) (fun _ hk => hk.2) (.slice Aoq1 t967.length coq1)) (fun _ h_ => h_.1))) (Kd.R_base hoq0) hb); replace BKq0 := ZV #[.slice Aoq0 t964.length coq0, .slice Aoq1 t967.length coq1] BKq0 hb; replace HB := ZT HB hb; clear hb; (try clear hoq0); have hczq1 := ZC2 wq2 BKq0; have hfzq1 := ZF2 BKq0) | ((with_reducible refine gate_callee (f := 33) rfl ?_); refine ZGL (some 15) Try.func33 #[.agg #[.slice Aoq0 t964.length coq0, .slice Aoq1 t967.length coq1]] ?_; (with_reducible refine (spec_TypeAt.calls k _ _ t964 _ _ t967 t974 _ ?side1 ?side2 ?side3 ?side4 A5.out).mono ?_); (case side1 => exact ZQ ((Kd.R_reads' HOq0.out).2.2)); (case side2 => exact (Kd.R_reads' HOq0.out).2.1); (case side3 => exact ZQ ((Kd.N_reads' HOq1.out).2.2)); (case side4 => exact (Kd.N_reads' HOq1.out).2.1); rintro e wq3 ⟨vq3, rfl, hoq0, hb⟩; refine ⟨_, rfl, ?_⟩; have HOq3 := AM (Kd.R_lower (Kd.R_new' (Kd.R_new' hoq0 (Kd.R_lt (ZR HOq0.out))) (Kd.R_lt (ZR HOq2.out))) (below_size (ZB))); replace HOq0 := AM (Kd.R_elder' (ZR HOq0.out) (Kd.R_base hoq0) hb); replace HOq1 := AM (Kd.N_elder' (ZRN HOq1.out) (Kd.R_base hoq0) hb); replace HOq2 := AM (Kd.R_elder' (ZR HOq2.out) (Kd.R_base hoq0) hb); replace BKq0 := ZW BKq0 hb; replace HB := ZT HB hb; clear hb; (try clear hoq0); obtain ⟨Aoq2, coq2, eoq2⟩ := Kd.R_slice HOq2.out; subst eoq2; obtain ⟨Aoq3, coq3, eoq3⟩ := Kd.R_slice HOq3.out; subst eoq3))
 first
 | (
 (have z_ := tag1_; clear z_)
 go_loopg [6] k (fun kq v6 w' => ∃ (xq0_1 : Int), v6 = .int .i64 xq0_1 ∧ Za (laws_FnTypeAt.l0 kq t971 t974 xq0_1 t964 t967 = some r) ∧ Za (kq ≤ k) ∧ Za (Kd.R k39 39 w' w.heap.size (fun k_ => some k_ ≠ ((.slice Aoq3 t974.length coq3) : Value).ownBlock ∧ some k_ ≠ ((.slice Aoq0 t964.length coq0) : Value).ownBlock) (.slice Aoq2 t971.length coq2) t971) ∧ Za (Kd.R k39 39 w' w.heap.size (fun k_ => some k_ ≠ ((.slice Aoq2 t971.length coq2) : Value).ownBlock ∧ some k_ ≠ ((.slice Aoq0 t964.length coq0) : Value).ownBlock) (.slice Aoq3 t974.length coq3) t974) ∧ Za (Kd.R k39 39 w' w.heap.size (fun k_ => some k_ ≠ ((.slice Aoq2 t971.length coq2) : Value).ownBlock ∧ some k_ ≠ ((.slice Aoq3 t974.length coq3) : Value).ownBlock) (.slice Aoq0 t964.length coq0) t964) ∧ Za (Kd.N k32 32 w' w.heap.size (fun k_ => some k_ ≠ ((.slice Aoq2 t971.length coq2) : Value).ownBlock ∧ some k_ ≠ ((.slice Aoq3 t974.length coq3) : Value).ownBlock ∧ some k_ ≠ ((.slice Aoq0 t964.length coq0) : Value).ownBlock ∧ k_ ≠ gbq0) (.slice Aoq1 t967.length coq1) t967) ∧ Za (w'.heap[gbq0]? = some (.cells #[(.slice Aoq0 t964.length coq0), (.slice Aoq1 t967.length coq1)] 26 (0, 0))) ∧ Za (Below w.heap.size w w'))
 case atStart => exact ⟨(0), (by first | rfl | (simp; done) | (simp [*]; done)), H', ⟨Nat.le_refl _⟩, ⟨by (with_reducible repeat (first | apply Kd.R_alloc | apply Kd.R_drewN | apply Kd.R_drew)); exact Kd.R_mono HOq2.out (fun _ hk => ⟨hk.2, hk.1.2⟩)⟩, ⟨by (with_reducible repeat (first | apply Kd.R_alloc | apply Kd.R_drewN | apply Kd.R_drew)); exact Kd.R_mono HOq3.out (fun _ hk => ⟨hk.2, hk.1.2⟩)⟩, ⟨by (with_reducible repeat (first | apply Kd.R_alloc | apply Kd.R_drewN | apply Kd.R_drew)); exact Kd.R_mono HOq0.out (fun _ hk => ⟨hk.1.2, hk.2⟩)⟩, ⟨by (with_reducible repeat (first | apply Kd.N_alloc | apply Kd.N_drewN | apply Kd.N_drew)); exact Kd.N_mono HOq1.out (fun _ hk => ⟨hk.1.2, ⟨hk.2, ⟨hk.1.1.1, hk.1.1.2⟩⟩⟩)⟩, ⟨ZK BKq0.out⟩, ⟨ZB⟩⟩
 case round => (
 clear H'
 try clear c1
 try clear c2
 try clear c2b0
 try clear c2b1
 try clear p2
 try clear c3
 try clear c6
 try clear c6b0
 try clear c6b1
 try clear c6b2
 try clear c12
 try clear hczq0
 try clear hczq1
 try clear hfzq0
 try clear hfzq1
 obtain ⟨xq0_1, rfl, HA, HKq0, HO_q0, HO_q1, HO_q2, HO_q3, BKq0, HB⟩ := hrel
 cases gk with
 | zero => exact absurd HA.out (by simp [laws_FnTypeAt.l0])
 | succ k1 =>
  have H := HA.out
  clear HA
  simp only [laws_FnTypeAt.l0] at H
  by_cases c17 : xq0_1 < (t971.length : Int)
  focus (
  rw [if_pos c17] at H
  have cq0b0 : decide (xq0_1 < (t971.length : Int)) = true := decide_eq_true c17
  clear c17
  by_cases c18 : 0 ≤ xq0_1
  focus (
  rw [if_pos c18] at H
  have cq1b0 : decide (0 ≤ xq0_1) = true := decide_eq_true c18
  clear c18
  by_cases c19 : xq0_1 < (t974.length : Int)
  focus (
  rw [if_pos c19] at H
  have cq2b0 : decide (xq0_1 < (t974.length : Int)) = true := decide_eq_true c19
  clear c19
  by_cases c20 : (!(((D39 t971 xq0_1).f0) == ((D39 t974 xq0_1).f0)) || (!(((D39 t971 xq0_1).f1) == ((D39 t974 xq0_1).f1)))) = true
  focus (
  rw [if_pos c20] at H
  have cq3b0 : (!(((D39 t971 xq0_1).f0) == ((D39 t974 xq0_1).f0)) || (!(((D39 t971 xq0_1).f1) == ((D39 t974 xq0_1).f1)))) = true := c20
  clear c20
  obtain rfl := Option.some.inj H
  have tagq0_ : Za True := ⟨trivial⟩)
  rotate_left
  focus (
  rw [if_neg c20] at H
  have cq3b0 : (!(((D39 t971 xq0_1).f0) == ((D39 t974 xq0_1).f0)) || (!(((D39 t971 xq0_1).f1) == ((D39 t974 xq0_1).f1)))) = false := by simpa using c20
  clear c20
  by_cases c22 : 0 < (t971.length : Int)
  focus (
  rw [if_pos c22] at H
  have cq4b0 : decide (0 < (t971.length : Int)) = true := decide_eq_true c22
  have cq4b1 : decide (0 < t971.length) = true := decide_eq_true (by omega)
  clear c22
  replace H := Option.bind_eq_some_iff.mp H
  obtain ⟨tq0, Aq0, H⟩ := H
  replace H : (if tq0 = true then (laws_FnTypeAt.l0 k1 t971 t974 (wrap64 (xq0_1 + 1)) t964 t967) else (some false)) = some r := H
  have Aq1 := AM Aq0
  clear Aq0
  by_cases cq5 : tq0 = true
  focus (
  subst cq5
  have Hq0 : (laws_FnTypeAt.l0 k1 t971 t974 (wrap64 (xq0_1 + 1)) t964 t967) = some r := by rw [if_pos rfl] at H; exact H
  clear H
  have H := Hq0
  clear Hq0
  have H' := AM H
  clear H
  have tagq1_ : Za True := ⟨trivial⟩)
  rotate_left
  focus (
  replace cq5 := Bool.eq_false_iff.mpr cq5
  subst cq5
  have Hq0 : (some false) = some r := by rw [if_neg ZFT] at H; exact H
  clear H
  have H := Hq0
  clear Hq0
  obtain rfl := Option.some.inj H
  have tagq2_ : Za True := ⟨trivial⟩)
  rotate_left)
  rotate_left 2
  focus (
  exact ZNE H c22))
  rotate_left 2)
  rotate_left 3
  focus (
  exact ZNE H c19))
  rotate_left 3
  focus (
  exact ZNE H c18))
  rotate_left 3
  focus (
  rw [if_neg c17] at H
  have cq0b0 : decide (xq0_1 < (t971.length : Int)) = false := decide_eq_false c17
  clear c17
  replace H := Option.bind_eq_some_iff.mp H
  obtain ⟨tq1, Aq2, H⟩ := H
  replace H : (if tq1 = true then ((impl_ProgSize.f k1 t964 t967).bind fun tq2 => (if (t971.length : Int) = tq2 then (if (t971.length : Int) = 0 then (some true) else (if 0 < (t971.length : Int) then (some (((D39 t971 0).f0) == 7 && (((D39 t971 0).f1) == 7))) else (none))) else (some false))) else (some true)) = some r := H
  have Aq3 := AM Aq2
  clear Aq2
  by_cases cq6 : tq1 = true
  focus (
  subst cq6
  have Hq0 : ((impl_ProgSize.f k1 t964 t967).bind fun tq2 => (if (t971.length : Int) = tq2 then (if (t971.length : Int) = 0 then (some true) else (if 0 < (t971.length : Int) then (some (((D39 t971 0).f0) == 7 && (((D39 t971 0).f1) == 7))) else (none))) else (some false))) = some r := by rw [if_pos rfl] at H; exact H
  clear H
  have H := Hq0
  clear Hq0
  replace H := Option.bind_eq_some_iff.mp H
  obtain ⟨tq2, Aq4, H⟩ := H
  replace H : (if (t971.length : Int) = tq2 then (if (t971.length : Int) = 0 then (some true) else (if 0 < (t971.length : Int) then (some (((D39 t971 0).f0) == 7 && (((D39 t971 0).f1) == 7))) else (none))) else (some false)) = some r := H
  have Aq5 := AM Aq4
  clear Aq4
  by_cases c32 : (t971.length : Int) = tq2
  focus (
  rw [if_pos c32] at H
  have cq7b0 : ((t971.length : Int) == tq2) = true := beq_iff_eq.mpr c32
  have cq7b1 : ((t971.length : Int) != tq2) = false := bne_eq_false_iff_eq.mpr c32
  clear c32
  by_cases c33 : (t971.length : Int) = 0
  focus (
  rw [if_pos c33] at H
  have cq8b0 : ((t971.length : Int) == 0) = true := beq_iff_eq.mpr c33
  have cq8b1 : ((t971.length : Int) != 0) = false := bne_eq_false_iff_eq.mpr c33
  clear c33
  obtain rfl := Option.some.inj H
  have hczq2 := ZC2 wr BKq0
  have hfzq2 := ZF2 BKq0
  have tagq3_ : Za True := ⟨trivial⟩)
  rotate_left
  focus (
  rw [if_neg c33] at H
  have cq8b0 : ((t971.length : Int) == 0) = false := beq_eq_false_iff_ne.mpr c33
  have cq8b1 : ((t971.length : Int) != 0) = true := bne_iff_ne.mpr c33
  have cq8b2 : ¬ (t971 = []) := fun h_ => c33 (by rw [h_]; rfl)
  by_cases c38 : 0 < (t971.length : Int)
  focus (
  rw [if_pos c38] at H
  have cq9b0 : decide (0 < (t971.length : Int)) = true := decide_eq_true c38
  have cq9b1 : decide (0 < t971.length) = true := decide_eq_true (by omega)
  clear c38
  obtain rfl := Option.some.inj H
  have hczq3 := ZC2 wr BKq0
  have hfzq3 := ZF2 BKq0
  have tagq4_ : Za True := ⟨trivial⟩)
  rotate_left
  focus (
  exact ZNE H c38))
  rotate_left)
  rotate_left 2
  focus (
  rw [if_neg c32] at H
  have cq7b0 : ((t971.length : Int) == tq2) = false := beq_eq_false_iff_ne.mpr c32
  have cq7b1 : ((t971.length : Int) != tq2) = true := bne_iff_ne.mpr c32
  obtain rfl := Option.some.inj H
  have hczq4 := ZC2 wr BKq0
  have hfzq4 := ZF2 BKq0
  have tagq5_ : Za True := ⟨trivial⟩)
  rotate_left)
  rotate_left 3
  focus (
  replace cq6 := Bool.eq_false_iff.mpr cq6
  subst cq6
  have Hq0 : (some true) = some r := by rw [if_neg ZFT] at H; exact H
  clear H
  have H := Hq0
  clear Hq0
  obtain rfl := Option.some.inj H
  have hczq5 := ZC2 wr BKq0
  have hfzq5 := ZF2 BKq0
  have tagq6_ : Za True := ⟨trivial⟩)
  rotate_left)
  rotate_left 4
  all_goals (
  first
  | (
  (first | (have z_ := tagq0_; clear z_) | (have z_ := tagq1_; clear z_) | (have z_ := tagq2_; clear z_))
  try go_wp2
  replace HO_q0 := AM (Kd.R_drew HO_q0.out)
  replace HO_q1 := AM (Kd.R_drew HO_q1.out)
  replace HO_q2 := AM (Kd.R_drew HO_q2.out)
  replace HO_q3 := AM (Kd.N_drew HO_q3.out)
  replace BKq0 := AM (blk_drew BKq0.out)
  replace HB := AM (below_drew1 HB.out)
  have pqq0 : 0 ≤ (xq0_1 : Int) := ZD
  have qqq0 : xq0_1 < (t971.length : Int) := ZD
  obtain ⟨adqq0, eqq0, hxqq0_0, hxqq0_1⟩ := at_T39 (Kd.R_reads' HO_q0.out).2.2 xq0_1 pqq0 qqq0
  cases eqq0
  replace pqq0 := eq_true pqq0
  replace qqq0 := eq_true qqq0
  have pqq1 : 0 ≤ (xq0_1 : Int) := ZD
  have qqq1 : xq0_1 < (t974.length : Int) := ZD
  obtain ⟨adqq1, eqq1, hxqq1_0, hxqq1_1⟩ := at_T39 (Kd.R_reads' HO_q1.out).2.2 xq0_1 pqq1 qqq1
  cases eqq1
  replace pqq1 := eq_true pqq1
  replace qqq1 := eq_true qqq1
  first
  | (
  (have z_ := tagq0_; clear z_)
  refine start_ (n := 20) (S := fun w' => w'.cell? (adqq0.add ((xq0_1).toNat * 2)) = some (.int .i64 ((D39 t971 xq0_1).f0)) ∧ w'.cell? ⟨(adqq0.add ((xq0_1).toNat * 2)).block, (adqq0.add ((xq0_1).toNat * 2)).off + 1, none⟩ = some (.int .i64 ((D39 t971 xq0_1).f1)) ∧ w'.cell? (adqq1.add ((xq0_1).toNat * 2)) = some (.int .i64 ((D39 t974 xq0_1).f0)) ∧ w'.cell? ⟨(adqq1.add ((xq0_1).toNat * 2)).block, (adqq1.add ((xq0_1).toNat * 2)).off + 1, none⟩ = some (.int .i64 ((D39 t974 xq0_1).f1))) (ds := []) #[F,F,F,F,F,F,F,F,F,F,F,F,F,F,F,F,F,F,F,F] (by kernel_rfl) rfl rfl ⟨hxqq0_0, hxqq0_1, hxqq1_0, hxqq1_1⟩ (fun hHeld => ?_); refine with_tabW laws_FnTypeAt.tab11 laws_FnTypeAt.bits11 (fun HT_ HW_ => ?_)
  generalize wr.drew = wqq0 at HO_q0 HO_q1 HO_q2 HO_q3 BKq0 HB hxqq0_0 hxqq0_1 hxqq1_0 hxqq1_1 hHeld ⊢
  refine ZU 0 27 #[T,F,F,F,F,F,F,F,F,F,F,F,F,F,F,F,F,F,F,F] ?_
  refine ZU 1 28 #[T,T,F,F,F,F,F,F,F,F,F,F,F,F,F,F,F,F,F,F] ?_
  refine ZU 2 29 #[T,T,T,F,F,F,F,F,F,F,F,F,F,F,F,F,F,F,F,F] ?_
  refine ZU 4 31 #[T,T,T,F,T,F,F,F,F,F,F,F,F,F,F,F,F,F,F,F] ?_
  refine ZU 5 32 #[T,T,T,F,T,T,F,F,F,F,F,F,F,F,F,F,F,F,F,F] ?_
  refine ZU 6 33 #[T,T,T,F,T,T,T,F,F,F,F,F,F,F,F,F,F,F,F,F] ?_
  refine ZTK 3 30 #[T,T,T,T,T,T,T,F,F,F,F,F,F,F,F,F,F,F,F,F] hHeld ?_
  refine ZTK 7 34 #[T,T,T,T,T,T,T,T,F,F,F,F,F,F,F,F,F,F,F,F] hHeld ?_
  refine ZU 8 35 #[T,T,T,T,T,T,T,T,T,F,F,F,F,F,F,F,F,F,F,F] ?_
  refine ZU 9 36 #[T,T,T,T,T,T,T,T,T,T,F,F,F,F,F,F,F,F,F,F] ?_
  refine ZUU 10 37 #[T,T,T,T,T,T,T,T,T,T,T,F,F,F,F,F,F,F,F,F] ?_
  refine ZUU 11 38 #[T,T,T,T,T,T,T,T,T,T,T,T,F,F,F,F,F,F,F,F] ?_
  refine ZUU 12 39 #[T,T,T,T,T,T,T,T,T,T,T,T,T,F,F,F,F,F,F,F] ?_
  refine ZUU 13 40 #[T,T,T,T,T,T,T,T,T,T,T,T,T,T,F,F,F,F,F,F] ?_
  refine ZUU 14 41 #[T,T,T,T,T,T,T,T,T,T,T,T,T,T,T,F,F,F,F,F] ?_
  refine ZUU 15 42 #[T,T,T,T,T,T,T,T,T,T,T,T,T,T,T,T,F,F,F,F] ?_
  refine ZUU 16 43 #[T,T,T,T,T,T,T,T,T,T,T,T,T,T,T,T,T,F,F,F] ?_
  refine ZUU 17 44 #[T,T,T,T,T,T,T,T,T,T,T,T,T,T,T,T,T,T,F,F] ?_
  refine ZUU 18 45 #[T,T,T,T,T,T,T,T,T,T,T,T,T,T,T,T,T,T,T,F] ?_
  refine ZU 19 46 #[T,T,T,T,T,T,T,T,T,T,T,T,T,T,T,T,T,T,T,T] ?_
  refine done_ (done_of HT_.out (by kernel_rfl)) ?_
  try go_wp2
  go_ret
  exact ⟨ZE, ZB⟩)
  | (
  (first | (have z_ := tagq1_; clear z_) | (have z_ := tagq2_; clear z_))
  have pqq2 : 0 ≤ (0 : Int) := (by omega)
  have qqq2 : 0 < (t971.length : Int) := ZD
  obtain ⟨adqq2, eqq2, hxqq2_0, hxqq2_1⟩ := at_T39 (Kd.R_reads' HO_q0.out).2.2 0 pqq2 qqq2
  obtain rfl : adqq0 = adqq2 := (by injection eqq2)
  have qiqq0 : (0 < t971.length) = True := eq_true (by omega)
  (try rw [show ((0 : Int)).toNat = 0 from rfl] at hxqq2_0)
  (try rw [show 0 * 2 = 0 from rfl] at hxqq2_0)
  (try rw [Addr.add_zero'] at hxqq2_0)
  (try rw [show ((0 : Int)).toNat = 0 from rfl] at hxqq2_1)
  (try rw [show 0 * 2 = 0 from rfl] at hxqq2_1)
  (try rw [Addr.add_zero'] at hxqq2_1)
  replace pqq2 := eq_true pqq2
  replace qqq2 := eq_true qqq2
  have pqq3 : 0 ≤ (xq0_1 : Int) := ZD
  have qqq3 : xq0_1 < (t971.length : Int) := ZD
  obtain ⟨adqq3, eqq3, hxqq3_0, hxqq3_1⟩ := at_T39 (Kd.R_reads' HO_q0.out).2.2 xq0_1 pqq3 qqq3
  obtain rfl : adqq0 = adqq3 := (by injection eqq3)
  replace pqq3 := eq_true pqq3
  replace qqq3 := eq_true qqq3
  refine start_ (n := 20) (S := fun w' => w'.cell? (adqq0.add ((xq0_1).toNat * 2)) = some (.int .i64 ((D39 t971 xq0_1).f0)) ∧ w'.cell? ⟨(adqq0.add ((xq0_1).toNat * 2)).block, (adqq0.add ((xq0_1).toNat * 2)).off + 1, none⟩ = some (.int .i64 ((D39 t971 xq0_1).f1)) ∧ w'.cell? (adqq1.add ((xq0_1).toNat * 2)) = some (.int .i64 ((D39 t974 xq0_1).f0)) ∧ w'.cell? ⟨(adqq1.add ((xq0_1).toNat * 2)).block, (adqq1.add ((xq0_1).toNat * 2)).off + 1, none⟩ = some (.int .i64 ((D39 t974 xq0_1).f1)) ∧ w'.cell? adqq0 = some (.int .i64 ((D39 t971 0).f0)) ∧ w'.cell? ⟨adqq0.block, adqq0.off + 1, none⟩ = some (.int .i64 ((D39 t971 0).f1)) ∧ w'.cell? (adqq0.add ((xq0_1).toNat * 2)) = some (.int .i64 ((D39 t971 xq0_1).f0)) ∧ w'.cell? ⟨(adqq0.add ((xq0_1).toNat * 2)).block, (adqq0.add ((xq0_1).toNat * 2)).off + 1, none⟩ = some (.int .i64 ((D39 t971 xq0_1).f1))) (ds := []) #[F,F,F,F,F,F,F,F,F,F,F,F,F,F,F,F,F,F,F,F] (by kernel_rfl) rfl rfl ⟨hxqq0_0, hxqq0_1, hxqq1_0, hxqq1_1, hxqq2_0, hxqq2_1, hxqq3_0, hxqq3_1⟩ (fun hHeld => ?_); refine with_tabW laws_FnTypeAt.tab11 laws_FnTypeAt.bits11 (fun HT_ HW_ => ?_)
  generalize wr.drew = wqq0 at HO_q0 HO_q1 HO_q2 HO_q3 BKq0 HB hxqq0_0 hxqq0_1 hxqq1_0 hxqq1_1 hxqq2_0 hxqq2_1 hxqq3_0 hxqq3_1 hHeld ⊢
  refine ZU 0 27 #[T,F,F,F,F,F,F,F,F,F,F,F,F,F,F,F,F,F,F,F] ?_
  refine ZU 1 28 #[T,T,F,F,F,F,F,F,F,F,F,F,F,F,F,F,F,F,F,F] ?_
  refine ZU 2 29 #[T,T,T,F,F,F,F,F,F,F,F,F,F,F,F,F,F,F,F,F] ?_
  refine ZU 4 31 #[T,T,T,F,T,F,F,F,F,F,F,F,F,F,F,F,F,F,F,F] ?_
  refine ZU 5 32 #[T,T,T,F,T,T,F,F,F,F,F,F,F,F,F,F,F,F,F,F] ?_
  refine ZU 6 33 #[T,T,T,F,T,T,T,F,F,F,F,F,F,F,F,F,F,F,F,F] ?_
  refine ZTK 3 30 #[T,T,T,T,T,T,T,F,F,F,F,F,F,F,F,F,F,F,F,F] hHeld ?_
  refine ZTK 7 34 #[T,T,T,T,T,T,T,T,F,F,F,F,F,F,F,F,F,F,F,F] hHeld ?_
  refine ZU 8 35 #[T,T,T,T,T,T,T,T,T,F,F,F,F,F,F,F,F,F,F,F] ?_
  refine ZU 9 36 #[T,T,T,T,T,T,T,T,T,T,F,F,F,F,F,F,F,F,F,F] ?_
  refine ZU 10 37 #[T,T,T,T,T,T,T,T,T,T,T,F,F,F,F,F,F,F,F,F] ?_
  refine ZU 11 38 #[T,T,T,T,T,T,T,T,T,T,T,T,F,F,F,F,F,F,F,F] ?_
  refine ZU 13 40 #[T,T,T,T,T,T,T,T,T,T,T,T,F,T,F,F,F,F,F,F] ?_
  refine ZU 14 41 #[T,T,T,T,T,T,T,T,T,T,T,T,F,T,T,F,F,F,F,F] ?_
  refine ZU 15 42 #[T,T,T,T,T,T,T,T,T,T,T,T,F,T,T,T,F,F,F,F] ?_
  refine ZTK 12 39 #[T,T,T,T,T,T,T,T,T,T,T,T,T,T,T,T,F,F,F,F] hHeld ?_
  refine ZTK 16 43 #[T,T,T,T,T,T,T,T,T,T,T,T,T,T,T,T,T,F,F,F] hHeld ?_
  refine one_ (i := 17) (N := some 44) #[T,T,T,T,T,T,T,T,T,T,T,T,T,T,T,T,T,T,F,F] rfl rfl (one_of HT_.out (by kernel_rfl)) (by decide) (fun K hK => ?_)
  refine ZGO Try.func24 #[.agg #[.int .i64 ((D39 t971 0).f0), .int .i64 ((D39 t971 0).f1)], .agg #[.int .i64 ((D39 t971 xq0_1).f0), .int .i64 ((D39 t971 xq0_1).f1)]] ?_
  first
  | (
  (have z_ := tagq1_; clear z_)
  with_reducible refine (impl_LabelFlows.calls ((D39 t971 0).f0) ((D39 t971 0).f1) ((D39 t971 xq0_1).f0) ((D39 t971 xq0_1).f1) true _ Aq1.out).mono ?_
  rintro e wqq1 ⟨rfl, hb⟩
  have HSqq0_ := (hb.cell (World.block_lt_of_cell? _ _ (hHeld.1))).trans (hHeld.1)
  have HSqq1_ := (hb.cell (World.block_lt_of_cell? _ _ (hHeld.2.1))).trans (hHeld.2.1)
  have HSqq2_ := (hb.cell (World.block_lt_of_cell? _ _ (hHeld.2.2.1))).trans (hHeld.2.2.1)
  have HSqq3_ := (hb.cell (World.block_lt_of_cell? _ _ (hHeld.2.2.2.1))).trans (hHeld.2.2.2.1)
  have HSqq4_ := (hb.cell (World.block_lt_of_cell? _ _ (hHeld.2.2.2.2.1))).trans (hHeld.2.2.2.2.1)
  have HSqq5_ := (hb.cell (World.block_lt_of_cell? _ _ (hHeld.2.2.2.2.2.1))).trans (hHeld.2.2.2.2.2.1)
  have HSqq6_ := (hb.cell (World.block_lt_of_cell? _ _ (hHeld.2.2.2.2.2.2.1))).trans (hHeld.2.2.2.2.2.2.1)
  have HSqq7_ := (hb.cell (World.block_lt_of_cell? _ _ (hHeld.2.2.2.2.2.2.2))).trans (hHeld.2.2.2.2.2.2.2)
  refine ⟨_, rfl, ?_⟩
  replace HO_q0 := AM (Kd.R_below (ZR HO_q0.out) hb)
  replace HO_q1 := AM (Kd.R_below (ZR HO_q1.out) hb)
  replace HO_q2 := AM (Kd.R_below (ZR HO_q2.out) hb)
  replace HO_q3 := AM (Kd.N_below (ZRN HO_q3.out) hb)
  replace BKq0 := ZW BKq0 hb
  replace HB := ZT HB hb
  (try clear hb)
  (try clear hb2)
  (try clear hk)
  (try clear hi)
  refine hK.out _ _ ⟨HSqq0_, HSqq1_, HSqq2_, HSqq3_, HSqq4_, HSqq5_, HSqq6_, HSqq7_⟩ (fun hHeld => ?_)
  clear hK K
  refine ZNO 44 ?_
  refine ZU 18 45 #[T,T,T,T,T,T,T,T,T,T,T,T,T,T,T,T,T,T,T,F] ?_
  refine ZU 19 46 #[T,T,T,T,T,T,T,T,T,T,T,T,T,T,T,T,T,T,T,T] ?_
  refine done_ (done_of HT_.out (by kernel_rfl)) ?_
  try go_wp2
  go_roundg k1
  case measure => have := HKq0.out; omega
  case rel => exact ⟨(wrap64 (xq0_1 + 1)), (by first | rfl | (simp; done) | (simp [*]; done)), H', ⟨by have := HKq0.out; omega⟩, ⟨ZR HO_q0.out⟩, ⟨ZR HO_q1.out⟩, ⟨ZR HO_q2.out⟩, ⟨ZRN HO_q3.out⟩, ⟨ZK BKq0.out⟩, ⟨ZB⟩⟩)
  | (
  (have z_ := tagq2_; clear z_)
  with_reducible refine (impl_LabelFlows.calls ((D39 t971 0).f0) ((D39 t971 0).f1) ((D39 t971 xq0_1).f0) ((D39 t971 xq0_1).f1) false _ Aq1.out).mono ?_
  rintro e wqq1 ⟨rfl, hb⟩
  have HSqq0_ := (hb.cell (World.block_lt_of_cell? _ _ (hHeld.1))).trans (hHeld.1)
  have HSqq1_ := (hb.cell (World.block_lt_of_cell? _ _ (hHeld.2.1))).trans (hHeld.2.1)
  have HSqq2_ := (hb.cell (World.block_lt_of_cell? _ _ (hHeld.2.2.1))).trans (hHeld.2.2.1)
  have HSqq3_ := (hb.cell (World.block_lt_of_cell? _ _ (hHeld.2.2.2.1))).trans (hHeld.2.2.2.1)
  have HSqq4_ := (hb.cell (World.block_lt_of_cell? _ _ (hHeld.2.2.2.2.1))).trans (hHeld.2.2.2.2.1)
  have HSqq5_ := (hb.cell (World.block_lt_of_cell? _ _ (hHeld.2.2.2.2.2.1))).trans (hHeld.2.2.2.2.2.1)
  have HSqq6_ := (hb.cell (World.block_lt_of_cell? _ _ (hHeld.2.2.2.2.2.2.1))).trans (hHeld.2.2.2.2.2.2.1)
  have HSqq7_ := (hb.cell (World.block_lt_of_cell? _ _ (hHeld.2.2.2.2.2.2.2))).trans (hHeld.2.2.2.2.2.2.2)
  refine ⟨_, rfl, ?_⟩
  replace HO_q0 := AM (Kd.R_below (ZR HO_q0.out) hb)
  replace HO_q1 := AM (Kd.R_below (ZR HO_q1.out) hb)
  replace HO_q2 := AM (Kd.R_below (ZR HO_q2.out) hb)
  replace HO_q3 := AM (Kd.N_below (ZRN HO_q3.out) hb)
  replace BKq0 := ZW BKq0 hb
  replace HB := ZT HB hb
  (try clear hb)
  (try clear hb2)
  (try clear hk)
  (try clear hi)
  refine hK.out _ _ ⟨HSqq0_, HSqq1_, HSqq2_, HSqq3_, HSqq4_, HSqq5_, HSqq6_, HSqq7_⟩ (fun hHeld => ?_)
  clear hK K
  refine ZNO 44 ?_
  refine ZU 18 45 #[T,T,T,T,T,T,T,T,T,T,T,T,T,T,T,T,T,T,T,F] ?_
  refine ZU 19 46 #[T,T,T,T,T,T,T,T,T,T,T,T,T,T,T,T,T,T,T,T] ?_
  refine done_ (done_of HT_.out (by kernel_rfl)) ?_
  try go_wp2
  go_ret
  exact ⟨ZE, ZB⟩)))
  | (
  (first | (have z_ := tagq3_; clear z_) | (have z_ := tagq5_; clear z_))
  go_wp2_with (first | ((with_reducible refine gate_callee (f := 19) rfl ?_); refine ZGL (some 48) Try.func19 #[.agg #[.slice Aoq0 t964.length coq0, .slice Aoq1 t967.length coq1]] ?_; (with_reducible refine (spec_ProgOk.calls k1 _ _ t964 _ _ t967 true _ ?side1 ?side2 ?side3 ?side4 Aq3.out).mono ?_); (case side1 => exact ZQ ((Kd.R_reads' HO_q2.out).2.2)); (case side2 => exact (Kd.R_reads' HO_q2.out).2.1); (case side3 => exact ZQ ((Kd.N_reads' HO_q3.out).2.2)); (case side4 => exact (Kd.N_reads' HO_q3.out).2.1); rintro e wqq0 ⟨rfl, hb⟩; refine ⟨_, rfl, ?_⟩; replace HO_q0 := AM (Kd.R_below (ZR HO_q0.out) hb); replace HO_q1 := AM (Kd.R_below (ZR HO_q1.out) hb); replace HO_q2 := AM (Kd.R_below (ZR HO_q2.out) hb); replace HO_q3 := AM (Kd.N_below (ZRN HO_q3.out) hb); replace BKq0 := ZW BKq0 hb; replace HB := ZT HB hb; clear hb; have hczqq0_0 : wqq0.cell? ⟨gbq0, 0, none⟩ = some (.slice Aoq0 t964.length coq0) := ZA BKq0 0; have hczqq0_1 : wqq0.cell? ⟨gbq0, 1, none⟩ = some (.slice Aoq1 t967.length coq1) := ZA BKq0 1; have hfzqq0_0 := blk_frozen BKq0.out 0; have hfzqq0_1 := blk_frozen BKq0.out 1) | (go_at_call 14; (with_reducible refine (impl_ProgSize.calls k1 _ _ t964 _ _ t967 tq2 _ ?side1 ?side2 ?side3 ?side4 Aq5.out).mono ?_); (case side1 => exact ZQ ((Kd.R_reads' HO_q2.out).2.2)); (case side2 => exact (Kd.R_reads' HO_q2.out).2.1); (case side3 => exact ZQ ((Kd.N_reads' HO_q3.out).2.2)); (case side4 => exact (Kd.N_reads' HO_q3.out).2.1); rintro e wqq1 ⟨rfl, hb⟩; replace HO_q0 := AM (Kd.R_below (ZR HO_q0.out) hb); replace HO_q1 := AM (Kd.R_below (ZR HO_q1.out) hb); replace HO_q2 := AM (Kd.R_below (ZR HO_q2.out) hb); replace HO_q3 := AM (Kd.N_below (ZRN HO_q3.out) hb); replace BKq0 := ZW BKq0 hb; replace HB := ZT HB hb; clear hb))
  go_ret
  exact ⟨ZE, ZB⟩)
  | (
  (have z_ := tagq4_; clear z_)
  go_wp2_with (first | ((with_reducible refine gate_callee (f := 19) rfl ?_); refine ZGL (some 48) Try.func19 #[.agg #[.slice Aoq0 t964.length coq0, .slice Aoq1 t967.length coq1]] ?_; (with_reducible refine (spec_ProgOk.calls k1 _ _ t964 _ _ t967 true _ ?side1 ?side2 ?side3 ?side4 Aq3.out).mono ?_); (case side1 => exact ZQ ((Kd.R_reads' HO_q2.out).2.2)); (case side2 => exact (Kd.R_reads' HO_q2.out).2.1); (case side3 => exact ZQ ((Kd.N_reads' HO_q3.out).2.2)); (case side4 => exact (Kd.N_reads' HO_q3.out).2.1); rintro e wqq0 ⟨rfl, hb⟩; refine ⟨_, rfl, ?_⟩; replace HO_q0 := AM (Kd.R_below (ZR HO_q0.out) hb); replace HO_q1 := AM (Kd.R_below (ZR HO_q1.out) hb); replace HO_q2 := AM (Kd.R_below (ZR HO_q2.out) hb); replace HO_q3 := AM (Kd.N_below (ZRN HO_q3.out) hb); replace BKq0 := ZW BKq0 hb; replace HB := ZT HB hb; clear hb; have hczqq0_0 : wqq0.cell? ⟨gbq0, 0, none⟩ = some (.slice Aoq0 t964.length coq0) := ZA BKq0 0; have hczqq0_1 : wqq0.cell? ⟨gbq0, 1, none⟩ = some (.slice Aoq1 t967.length coq1) := ZA BKq0 1; have hfzqq0_0 := blk_frozen BKq0.out 0; have hfzqq0_1 := blk_frozen BKq0.out 1) | (go_at_call 14; (with_reducible refine (impl_ProgSize.calls k1 _ _ t964 _ _ t967 tq2 _ ?side1 ?side2 ?side3 ?side4 Aq5.out).mono ?_); (case side1 => exact ZQ ((Kd.R_reads' HO_q2.out).2.2)); (case side2 => exact (Kd.R_reads' HO_q2.out).2.1); (case side3 => exact ZQ ((Kd.N_reads' HO_q3.out).2.2)); (case side4 => exact (Kd.N_reads' HO_q3.out).2.1); rintro e wqq1 ⟨rfl, hb⟩; replace HO_q0 := AM (Kd.R_below (ZR HO_q0.out) hb); replace HO_q1 := AM (Kd.R_below (ZR HO_q1.out) hb); replace HO_q2 := AM (Kd.R_below (ZR HO_q2.out) hb); replace HO_q3 := AM (Kd.N_below (ZRN HO_q3.out) hb); replace BKq0 := ZW BKq0 hb; replace HB := ZT HB hb; clear hb; have pqq0 : 0 ≤ (0 : Int) := (by omega); have qqq0 : 0 < (t971.length : Int) := ZD; obtain ⟨adqq0, eqq0, hxqq0_0, hxqq0_1⟩ := at_T39 (Kd.R_reads' HO_q0.out).2.2 0 pqq0 qqq0; cases eqq0; have qiqq0 : (0 < t971.length) = True := eq_true (by omega); (try rw [show ((0 : Int)).toNat = 0 from rfl] at hxqq0_0); (try rw [show 0 * 2 = 0 from rfl] at hxqq0_0); (try rw [Addr.add_zero'] at hxqq0_0); (try rw [show ((0 : Int)).toNat = 0 from rfl] at hxqq0_1); (try rw [show 0 * 2 = 0 from rfl] at hxqq0_1); (try rw [Addr.add_zero'] at hxqq0_1); replace pqq0 := eq_true pqq0; replace qqq0 := eq_true qqq0))
  go_ret
  exact ⟨ZE, ZB⟩)
  | (
  (have z_ := tagq6_; clear z_)
  go_wp2_with (first | ((with_reducible refine gate_callee (f := 19) rfl ?_); refine ZGL (some 48) Try.func19 #[.agg #[.slice Aoq0 t964.length coq0, .slice Aoq1 t967.length coq1]] ?_; (with_reducible refine (spec_ProgOk.calls k1 _ _ t964 _ _ t967 false _ ?side1 ?side2 ?side3 ?side4 Aq3.out).mono ?_); (case side1 => exact ZQ ((Kd.R_reads' HO_q2.out).2.2)); (case side2 => exact (Kd.R_reads' HO_q2.out).2.1); (case side3 => exact ZQ ((Kd.N_reads' HO_q3.out).2.2)); (case side4 => exact (Kd.N_reads' HO_q3.out).2.1); rintro e wqq0 ⟨rfl, hb⟩; refine ⟨_, rfl, ?_⟩; replace HO_q0 := AM (Kd.R_below (ZR HO_q0.out) hb); replace HO_q1 := AM (Kd.R_below (ZR HO_q1.out) hb); replace HO_q2 := AM (Kd.R_below (ZR HO_q2.out) hb); replace HO_q3 := AM (Kd.N_below (ZRN HO_q3.out) hb); replace BKq0 := ZW BKq0 hb; replace HB := ZT HB hb; clear hb))
  go_ret
  exact ⟨ZE, ZB⟩))))
 | (
 (have z_ := tag2_; clear z_)
 go_ret
 exact ⟨ZE, ZB⟩)))

end Go.Proofs.Ythidgkfgdkjghaa.A
