/- Go functions as Lean functions, and for each its contract; written by wip/tools/pr.py over the kit's print. -/
import Derived.Test.YthidgkfgdkjghaaAx0
import Derived.Test.YthidgkfgdkjghaaAx21
import Derived.Test.YthidgkfgdkjghaaAx25
namespace Go.Proofs.Ythidgkfgdkjghaa.A
open Go.RowKit Go.Proofs.YthidgkfgdkjghaaW.PrintWords Go.Proofs.YthidgkfgdkjghaaW.PrintLast Go.Proofs.YthidgkfgdkjghaaW.PrintMore
attribute [local go_sem] max2_int min2_int max_two min_two max_three min_three max_four min_four
set_option linter.unusedVariables false
set_option linter.unusedSimpArgs false
set_option maxHeartbeats 8000000
set_option maxRecDepth 100000

/-! ### impl_Val_vars: function 84 -/
def impl_Val_vars.f (a0_0 : Int) (a0_1 : Int) (a0_2 : Int) : Option (List Int) := if a0_0 = 2 then (some (([a0_1] : List Int))) else (if a0_0 = 3 then (some (([a0_1, a0_2] : List Int))) else (if a0_0 = 4 then (some (([a0_1, a0_2] : List Int))) else (some ([] : List Int))))
theorem impl_Val_vars.calls (a0_0 : Int) (a0_1 : Int) (a0_2 : Int) (r : List Int) (w : World) (h : impl_Val_vars.f a0_0 a0_1 a0_2 = some r) :
  Calls Try.prog 84 #[.agg #[.int .i64 a0_0, .int .i64 a0_1, .int .i64 a0_2]] w fun e w' => ∃ v0_ : Value, e = .returned (v0_) ∧ Kd.R (Kd.int .i64) 3 w' w.heap.size (fun _ => True) v0_ r ∧ Below w.heap.size w w' := by
 have hu30 := Try.underlying30
 have HB := AM (Below.refl w.heap.size w)
 have H := h
 unfold impl_Val_vars.f at H
 clear h
 by_cases c2 : a0_0 = 2
 ·(
 rw [if_pos c2] at H
 have c2b0 := beq_iff_eq.mpr c2
 have c2b1 := bne_eq_false_iff_eq.mpr c2
 clear c2
 obtain ⟨y642, hy642⟩ : ∃ y_ : List Int, y_ = (([a0_1] : List Int)) := ⟨_, rfl⟩
 replace H : (some y642) = some r := by first | (rw [hy642]; with_reducible exact H) | (have H2_ := (Option.bind_some _ _).symm.trans H; rw [hy642]; with_reducible exact H2_) | (have H2_ := (Option.bind_some _ _).symm.trans H; with_reducible exact H2_) | with_reducible exact H | (rw [hy642]; exact H) | exact H
 have Ny642 := AM hy642
 clear hy642
 obtain rfl := Option.some.inj H
 go_enter Try.func84, Try.ntmps84
 go_wp2_with (first | ((with_reducible refine gate_dst (N := 1) rfl ?_); refine ZX (N := 1) (cs := #[.int .i64 a0_0, .int .i64 a0_1, .int .i64 a0_2]) (t := 30) ?_; intro gb641 hg w3 hbox hb; have BK641 := AM (hbox); have GW641 : Aside0 (w.heap.size ≤ gb641) := ZS hg; have GE641 : Aside0 (w.heap.size ≤ gb641) := ZS hg; replace HB := ZT HB hb; clear hb hbox hg; have hcz4 := ZC3 w3 BK641; have hfz4 := ZF3 BK641) | ((with_reducible refine gate_dst (N := 9) rfl ?_); refine Kd.R_lit (Kd.int .i64) _ 3 ?hg (N := 9) ?hd (xs := ([a0_1] : List Int)) (inner := [.int .i64 a0_1]) (ok := fun _ => True) (okp := fun _ => True) ?hr ?hp (fun _ hk => hk) trivial (Below.refl _ _) (Nat.le_refl _) (by simp) ?_; (case hd => rfl); (case hg => rfl); (case hr => first | (go_simp; done) | (go_simp; rfl)); (case hp => exact (Reps.one (show Kd.M (Kd.int .i64) _ _ _ a0_1 [.int .i64 a0_1] from rfl) (Reps.none _ _))); intro v643 w5 ho6 hb hg_ hnew_; clear hg_ hnew_; (first | rw [← Ny642.out] at ho6 | (simp only [Int.reduceToNat] at ho6; rw [← Ny642.out] at ho6)); have HO644 := AM (Kd.R_lower ho6 (below_size (ZB))); replace BK641 := ZW BK641 hb; replace HB := ZT HB hb; clear hb ho6))
 go_ret
 exact ⟨_, ZE, by (with_reducible repeat (first | apply Kd.R_alloc | apply Kd.R_drewN | apply Kd.R_drew)); exact HO644.out, ZB⟩)
 ·(
 rw [if_neg c2] at H
 have c2b0 := beq_eq_false_iff_ne.mpr c2
 have c2b1 := bne_iff_ne.mpr c2
 by_cases c7 : a0_0 = 3
 ·(
 rw [if_pos c7] at H
 have c7b0 := beq_iff_eq.mpr c7
 have c7b1 := bne_eq_false_iff_eq.mpr c7
 clear c7
 obtain ⟨y645, hy645⟩ : ∃ y_ : List Int, y_ = (([a0_1, a0_2] : List Int)) := ⟨_, rfl⟩
 replace H : (some y645) = some r := by first | (rw [hy645]; with_reducible exact H) | (have H2_ := (Option.bind_some _ _).symm.trans H; rw [hy645]; with_reducible exact H2_) | (have H2_ := (Option.bind_some _ _).symm.trans H; with_reducible exact H2_) | with_reducible exact H | (rw [hy645]; exact H) | exact H
 have Ny645 := AM hy645
 clear hy645
 obtain rfl := Option.some.inj H
 go_enter Try.func84, Try.ntmps84
 go_wp2_with (first | ((with_reducible refine gate_dst (N := 1) rfl ?_); refine ZX (N := 1) (cs := #[.int .i64 a0_0, .int .i64 a0_1, .int .i64 a0_2]) (t := 30) ?_; intro gb641 hg w8 hbox hb; have BK641 := AM (hbox); have GW641 : Aside0 (w.heap.size ≤ gb641) := ZS hg; have GE641 : Aside0 (w.heap.size ≤ gb641) := ZS hg; replace HB := ZT HB hb; clear hb hbox hg; have hcz9 := ZC3 w8 BK641; have hfz9 := ZF3 BK641) | ((with_reducible refine gate_dst (N := 17) rfl ?_); refine Kd.R_lit (Kd.int .i64) _ 3 ?hg (N := 17) ?hd (xs := ([a0_1, a0_2] : List Int)) (inner := [.int .i64 a0_1, .int .i64 a0_2]) (ok := fun _ => True) (okp := fun _ => True) ?hr ?hp (fun _ hk => hk) trivial (Below.refl _ _) (Nat.le_refl _) (by simp) ?_; (case hd => rfl); (case hg => rfl); (case hr => first | (go_simp; done) | (go_simp; rfl)); (case hp => exact (Reps.one (show Kd.M (Kd.int .i64) _ _ _ a0_1 [.int .i64 a0_1] from rfl) (Reps.one (show Kd.M (Kd.int .i64) _ _ _ a0_2 [.int .i64 a0_2] from rfl) (Reps.none _ _)))); intro v646 w10 ho11 hb hg_ hnew_; clear hg_ hnew_; (first | rw [← Ny645.out] at ho11 | (simp only [Int.reduceToNat] at ho11; rw [← Ny645.out] at ho11)); have HO647 := AM (Kd.R_lower ho11 (below_size (ZB))); replace BK641 := ZW BK641 hb; replace HB := ZT HB hb; clear hb ho11))
 go_ret
 exact ⟨_, ZE, by (with_reducible repeat (first | apply Kd.R_alloc | apply Kd.R_drewN | apply Kd.R_drew)); exact HO647.out, ZB⟩)
 ·(
 rw [if_neg c7] at H
 have c7b0 := beq_eq_false_iff_ne.mpr c7
 have c7b1 := bne_iff_ne.mpr c7
 by_cases c12 : a0_0 = 4
 ·(
 rw [if_pos c12] at H
 have c12b0 := beq_iff_eq.mpr c12
 have c12b1 := bne_eq_false_iff_eq.mpr c12
 clear c12
 obtain ⟨y648, hy648⟩ : ∃ y_ : List Int, y_ = (([a0_1, a0_2] : List Int)) := ⟨_, rfl⟩
 replace H : (some y648) = some r := by first | (rw [hy648]; with_reducible exact H) | (have H2_ := (Option.bind_some _ _).symm.trans H; rw [hy648]; with_reducible exact H2_) | (have H2_ := (Option.bind_some _ _).symm.trans H; with_reducible exact H2_) | with_reducible exact H | (rw [hy648]; exact H) | exact H
 have Ny648 := AM hy648
 clear hy648
 obtain rfl := Option.some.inj H
 go_enter Try.func84, Try.ntmps84
 go_wp2_with (first | ((with_reducible refine gate_dst (N := 1) rfl ?_); refine ZX (N := 1) (cs := #[.int .i64 a0_0, .int .i64 a0_1, .int .i64 a0_2]) (t := 30) ?_; intro gb641 hg w13 hbox hb; have BK641 := AM (hbox); have GW641 : Aside0 (w.heap.size ≤ gb641) := ZS hg; have GE641 : Aside0 (w.heap.size ≤ gb641) := ZS hg; replace HB := ZT HB hb; clear hb hbox hg; have hcz14 := ZC3 w13 BK641; have hfz14 := ZF3 BK641) | ((with_reducible refine gate_dst (N := 17) rfl ?_); refine Kd.R_lit (Kd.int .i64) _ 3 ?hg (N := 17) ?hd (xs := ([a0_1, a0_2] : List Int)) (inner := [.int .i64 a0_1, .int .i64 a0_2]) (ok := fun _ => True) (okp := fun _ => True) ?hr ?hp (fun _ hk => hk) trivial (Below.refl _ _) (Nat.le_refl _) (by simp) ?_; (case hd => rfl); (case hg => rfl); (case hr => first | (go_simp; done) | (go_simp; rfl)); (case hp => exact (Reps.one (show Kd.M (Kd.int .i64) _ _ _ a0_1 [.int .i64 a0_1] from rfl) (Reps.one (show Kd.M (Kd.int .i64) _ _ _ a0_2 [.int .i64 a0_2] from rfl) (Reps.none _ _)))); intro v649 w15 ho16 hb hg_ hnew_; clear hg_ hnew_; (first | rw [← Ny648.out] at ho16 | (simp only [Int.reduceToNat] at ho16; rw [← Ny648.out] at ho16)); have HO650 := AM (Kd.R_lower ho16 (below_size (ZB))); replace BK641 := ZW BK641 hb; replace HB := ZT HB hb; clear hb ho16))
 go_ret
 exact ⟨_, ZE, by (with_reducible repeat (first | apply Kd.R_alloc | apply Kd.R_drewN | apply Kd.R_drew)); exact HO650.out, ZB⟩)
 ·(
 rw [if_neg c12] at H
 have c12b0 := beq_eq_false_iff_ne.mpr c12
 have c12b1 := bne_iff_ne.mpr c12
 obtain rfl := Option.some.inj H
 go_enter Try.func84, Try.ntmps84
 go_wp2_with (first | ((with_reducible refine gate_dst (N := 1) rfl ?_); refine ZX (N := 1) (cs := #[.int .i64 a0_0, .int .i64 a0_1, .int .i64 a0_2]) (t := 30) ?_; intro gb641 hg w17 hbox hb; have BK641 := AM (hbox); have GW641 : Aside0 (w.heap.size ≤ gb641) := ZS hg; have GE641 : Aside0 (w.heap.size ≤ gb641) := ZS hg; replace HB := ZT HB hb; clear hb hbox hg; have hcz18 := ZC3 w17 BK641; have hfz18 := ZF3 BK641))
 go_ret
 exact ⟨_, ZE, by first | exact Kd.R_nil _ _ _ _ _ | exact Kd.N_nil _ _ _ _ _ | exact Kd.V_nil _ _ _ _ _ | exact Kd.Q_nil _ _ _ _ _ | exact Kd.S_nil _ _ _ _ _, ZB⟩)))

/-! ### impl_Prog_source: function 67 -/
def impl_Prog_source.l0 : Nat → List Int → Int → Int → List (S39) → List (S32) → Int → Int → Option (Int × Int)
 | 0, _, _, _, _, _, _, _ => none
 | k + 1, x11, x12, x13, x652000, x652001, x654000, x654001 => if x13 < x12 then (if 0 ≤ x13 then (if x13 < (x11.length : Int) then (if 0 ≤ (rd x11 x13) then (if (rd x11 x13) < (x652000.length : Int) then ((impl_Label_both.f x654000 x654001 ((rd_T39 x652000 (rd x11 x13)).f0) ((rd_T39 x652000 (rd x11 x13)).f1)).bind fun bt660 => (impl_Prog_source.l0 k x11 x12 (wrap64 (x13 + 1)) x652000 x652001 bt660.1 bt660.2)) else (none)) else (none)) else (none)) else (none)) else (some (x654000, x654001))
def impl_Prog_source.f (k : Nat) (l0_0 : List (S39)) (l0_1 : List (S32)) (a1_0 : Int) (a1_1 : Int) (a1_2 : Int) (a1_3 : Int) (a1_4 : Int) (a1_5 : Int) (l1_6 : List (S32)) (l1_7 : List (S32)) (a2_0 : Int) (a2_1 : Int) : Option (Int × Int) := (impl_Val_vars.f a1_2 a1_3 a1_4).bind fun t655 => (impl_Prog_source.l0 k t655 (t655.length : Int) 0 l0_0 l0_1 a2_0 a2_1)
def impl_Prog_source.T4 : Bool × List (List Nat × List Nat) := (true, [([], []), ([], []), ([1], [1]), ([], []), ([2, 3], [2, 3]), ([4], [4]), ([0, 5], [0, 5]), ([6, 6, 0, 1, 2, 3, 4, 5, 6], [6])])
def impl_Prog_source.B4 : List Nat := [0, 0, 2, 0, 14, 30, 63, 127]
theorem impl_Prog_source.tab4 : rtab .any (opsOf Try.f67 4) = impl_Prog_source.T4 := by kernel_rfl
theorem impl_Prog_source.bits4 : waitsOk impl_Prog_source.T4.2 impl_Prog_source.B4 = true := by kernel_rfl
theorem impl_Prog_source.calls (k : Nat) (A0_0 : Option Addr) (c0_0 : Nat) (l0_0 : List (S39)) (A0_1 : Option Addr) (c0_1 : Nat) (l0_1 : List (S32)) (a1_0 : Int) (a1_1 : Int) (a1_2 : Int) (a1_3 : Int) (a1_4 : Int) (a1_5 : Int) (A1_6 : Option Addr) (c1_6 : Nat) (l1_6 : List (S32)) (A1_7 : Option Addr) (c1_7 : Nat) (l1_7 : List (S32)) (a2_0 : Int) (a2_1 : Int) (r1 : Int) (r2 : Int) (w : World) (hr0_0 : Kd.C k39 w A0_0 l0_0.length l0_0) (hc0_0 : l0_0.length ≤ c0_0) (hr0_1 : Kd.C k32 w A0_1 l0_1.length l0_1) (hc0_1 : l0_1.length ≤ c0_1) (hr1_6 : Kd.C k32 w A1_6 l1_6.length l1_6) (hc1_6 : l1_6.length ≤ c1_6) (hr1_7 : Kd.C k32 w A1_7 l1_7.length l1_7) (hc1_7 : l1_7.length ≤ c1_7) (h : impl_Prog_source.f k l0_0 l0_1 a1_0 a1_1 a1_2 a1_3 a1_4 a1_5 l1_6 l1_7 a2_0 a2_1 = some (r1, r2)) :
  Calls Try.prog 67 #[.agg #[.slice A0_0 l0_0.length c0_0, .slice A0_1 l0_1.length c0_1], .agg #[.int .i64 a1_0, .int .i64 a1_1, .int .i64 a1_2, .int .i64 a1_3, .int .i64 a1_4, .int .i64 a1_5, .slice A1_6 l1_6.length c1_6, .slice A1_7 l1_7.length c1_7], .agg #[.int .i64 a2_0, .int .i64 a2_1]] w fun e w' => e = .returned (.agg #[.int .i64 r1, .int .i64 r2]) ∧ Below w.heap.size w w' := by
 have hu26 := Try.underlying26
 have hu32 := Try.underlying32
 have hu39 := Try.underlying39
 have hu30 := Try.underlying30
 have HR0_0 := AM hr0_0
 have HC0_0 := AM hc0_0
 clear hr0_0 hc0_0
 have HR0_1 := AM hr0_1
 have HC0_1 := AM hc0_1
 clear hr0_1 hc0_1
 have HR1_6 := AM hr1_6
 have HC1_6 := AM hc1_6
 clear hr1_6 hc1_6
 have HR1_7 := AM hr1_7
 have HC1_7 := AM hc1_7
 clear hr1_7 hc1_7
 have HB := AM (Below.refl w.heap.size w)
 have H := h
 unfold impl_Prog_source.f at H
 clear h
 obtain ⟨t655, A4, H⟩ := ZOB H; try dsimp only at H
 have H' := AM H
 clear H
 go_enter Try.func67, Try.ntmps67
 go_wp2_with (first | ((with_reducible refine gate_dst (N := 3) rfl ?_); refine ZX (N := 3) (cs := #[.slice A0_0 l0_0.length c0_0, .slice A0_1 l0_1.length c0_1]) (t := 26) ?_; intro gb651 hg w5 hbox hb; have BK651 := AM (hbox); have GW651 : Aside0 (w.heap.size ≤ gb651) := ZS hg; have GE651 : Aside0 (w.heap.size ≤ gb651) := ZS hg; replace HB := ZT HB hb; clear hb hbox hg) | ((with_reducible refine gate_dst (N := 4) rfl ?_); refine ZX (N := 4) (cs := #[.int .i64 a1_0, .int .i64 a1_1, .int .i64 a1_2, .int .i64 a1_3, .int .i64 a1_4, .int .i64 a1_5, .slice A1_6 l1_6.length c1_6, .slice A1_7 l1_7.length c1_7]) (t := 32) ?_; intro gb652 hg w6 hbox hb; have BK652 := AM (hbox); have GW652 : Aside0 (w.heap.size ≤ gb652) := ZS hg; have GE652 : Aside0 (w.heap.size ≤ gb652) := ZS hg; have NB651_652 : Aside0 (gb651 ≠ gb652) := ZN hg BK651; have NB652_651 : Aside0 (gb652 ≠ gb651) := ZM hg BK651; replace BK651 := ZW BK651 hb; replace HB := ZT HB hb; clear hb hbox hg) | ((with_reducible refine gate_dst (N := 5) rfl ?_); refine ZX (N := 5) (cs := #[.int .i64 a2_0, .int .i64 a2_1]) (t := 39) ?_; intro gb653 hg w7 hbox hb; have BK653 := AM (hbox); have GW653 : Aside0 (w.heap.size ≤ gb653) := ZS hg; have GE653 : Aside0 (w.heap.size ≤ gb653) := ZS hg; have NB651_653 : Aside0 (gb651 ≠ gb653) := ZN hg BK651; have NB653_651 : Aside0 (gb653 ≠ gb651) := ZM hg BK651; have NB652_653 : Aside0 (gb652 ≠ gb653) := ZN hg BK652; have NB653_652 : Aside0 (gb653 ≠ gb652) := ZM hg BK652; replace BK651 := ZW BK651 hb; replace BK652 := ZW BK652 hb; replace HB := ZT HB hb; clear hb hbox hg) | ((with_reducible refine gate_dst (N := 6) rfl ?_); refine ZX (N := 6) (cs := #[.int .i64 0, .int .i64 0]) (t := 39) ?_; intro gb654 hg w8 hbox hb; have BK654 := AM (hbox); have GW654 : Aside0 (w.heap.size ≤ gb654) := ZS hg; have GE654 : Aside0 (w.heap.size ≤ gb654) := ZS hg; have NB651_654 : Aside0 (gb651 ≠ gb654) := ZN hg BK651; have NB654_651 : Aside0 (gb654 ≠ gb651) := ZM hg BK651; have NB652_654 : Aside0 (gb652 ≠ gb654) := ZN hg BK652; have NB654_652 : Aside0 (gb654 ≠ gb652) := ZM hg BK652; have NB653_654 : Aside0 (gb653 ≠ gb654) := ZN hg BK653; have NB654_653 : Aside0 (gb654 ≠ gb653) := ZM hg BK653; replace BK651 := ZW BK651 hb; replace BK652 := ZW BK652 hb; replace BK653 := ZW BK653 hb; replace HB := ZT HB hb; clear hb hbox hg; have hnb9 := NB652_651.out; have hnc9 := NB651_652.out; have hnb10 := NB652_653.out; have hnc10 := NB653_652.out; have hnb11 := NB652_654.out; have hnc11 := NB654_652.out; have hcz12 := ZC8 w8 BK652; have hfz12 := ZF8 BK652) | ((with_reducible refine gate_callee (f := 84) rfl ?_); refine ZGL (some 11) Try.func84 #[.agg #[.int .i64 a1_2, .int .i64 a1_3, .int .i64 a1_4]] ?_; (with_reducible refine (impl_Val_vars.calls a1_2 a1_3 a1_4 t655 _ A4.out).mono ?_); rintro e w13 ⟨v656, rfl, ho0, hb⟩; refine ⟨_, rfl, ?_⟩; have HO657 := AM (Kd.R_lower ho0 (below_size (ZB))); replace BK651 := ZW BK651 hb; replace BK652 := ZW BK652 hb; replace BK653 := ZW BK653 hb; replace BK654 := ZW BK654 hb; replace HB := ZT HB hb; clear hb; (try clear ho0); obtain ⟨Ao14, co14, eo14⟩ := Kd.R_slice HO657.out; subst eo14))
 go_loopg [13] k (fun kq v13 w' => ∃ (x13_1 : Int) (x654000_1 : Int) (x654001_1 : Int), v13 = .int .i64 x13_1 ∧ Aside0 (impl_Prog_source.l0 kq t655 (t655.length : Int) x13_1 l0_0 l0_1 x654000_1 x654001_1 = some (r1, r2)) ∧ Aside0 (kq ≤ k) ∧ Aside0 (Kd.R (Kd.int .i64) 3 w' w.heap.size (fun _ => True) (.slice Ao14 t655.length co14) t655) ∧ Aside0 (w'.heap[gb651]? = some (.cells #[(.slice A0_0 l0_0.length c0_0), (.slice A0_1 l0_1.length c0_1)] 26 (0, 0))) ∧ Aside0 (w'.heap[gb652]? = some (.cells #[.int .i64 a1_0, .int .i64 a1_1, .int .i64 a1_2, .int .i64 a1_3, .int .i64 a1_4, .int .i64 a1_5, (.slice A1_6 l1_6.length c1_6), (.slice A1_7 l1_7.length c1_7)] 32 (0, 0))) ∧ Aside0 (w'.heap[gb653]? = some (.cells #[.int .i64 x654000_1, .int .i64 x654001_1] 39 (0, 0))) ∧ Aside0 (w'.heap[gb654]? = some (.cells #[.int .i64 0, .int .i64 0] 39 (0, 0))) ∧ Aside0 (Below w.heap.size w w'))
 case atStart => exact ⟨(0), (a2_0), (a2_1), (by first | rfl | (simp; done) | (simp [*]; done)), H', ⟨Nat.le_refl _⟩, ⟨ZR HO657.out⟩, ⟨ZK BK651.out⟩, ⟨ZK BK652.out⟩, ⟨ZK BK653.out⟩, ⟨ZK BK654.out⟩, ⟨ZB⟩⟩
 case round => (
 clear H'
 try clear c1
 try clear p2
 try clear c6
 try clear c8
 try clear c9
 try clear c10
 try clear c11
 try clear hcz12
 try clear hfz12
 obtain ⟨x13_1, x654000_1, x654001_1, rfl, HA, HK1, HO_11, BK651, BK652, BK653, BK654, HB⟩ := hrel
 cases gk with
 | zero => exact absurd HA.out (by simp [impl_Prog_source.l0])
 | succ k1 =>
  have H := HA.out
  clear HA
  simp only [impl_Prog_source.l0] at H
  by_cases c15 : x13_1 < (t655.length : Int)
  ·(
  rw [if_pos c15] at H
  have c15b0 := decide_eq_true c15
  clear c15
  by_cases c16 : 0 ≤ x13_1
  ·(
  rw [if_pos c16] at H
  have c16b0 := decide_eq_true c16
  clear c16
  by_cases c17 : x13_1 < (t655.length : Int)
  ·(
  rw [if_pos c17] at H
  have c17b0 := decide_eq_true c17
  clear c17
  by_cases c18 : 0 ≤ (rd t655 x13_1)
  ·(
  rw [if_pos c18] at H
  have c18b0 := decide_eq_true c18
  clear c18
  by_cases c19 : (rd t655 x13_1) < (l0_0.length : Int)
  ·(
  rw [if_pos c19] at H
  have c19b0 := decide_eq_true c19
  clear c19
  obtain ⟨⟨t660, t661⟩, A20, H⟩ := ZOB H; try dsimp only at H
  have H' := AM H
  clear H
  have p658 : 0 ≤ (x13_1 : Int) := ZD
  have q658 : x13_1 < (t655.length : Int) := ZD
  obtain ⟨ad658, e658, hx658_0⟩ := Kd.at_int (Kd.R_reads' HO_11.out).2.2 x13_1 p658 q658
  cases e658
  replace p658 := eq_true p658
  replace q658 := eq_true q658
  try go_wp2
  replace HO_11 := AM (Kd.R_drew HO_11.out)
  replace BK651 := AM (blk_drew BK651.out)
  replace BK652 := AM (blk_drew BK652.out)
  replace BK653 := AM (blk_drew BK653.out)
  replace BK654 := AM (blk_drew BK654.out)
  replace HB := AM (below_drew1 HB.out)
  have p659 : 0 ≤ ((rd t655 x13_1) : Int) := ZD
  have q659 : (rd t655 x13_1) < (l0_0.length : Int) := ZD
  obtain ⟨ad659, e659, hx659_0, hx659_1⟩ := at_T39 HR0_0.out (rd t655 x13_1) p659 q659
  have hw659_1 := hx659_1
  have hw659_0 := hx659_0
  cases e659
  replace hx659_0 := ZHX HB hx659_0
  replace hx659_1 := ZHX HB hx659_1
  replace p659 := eq_true p659
  replace q659 := eq_true q659
  refine start_ (n := 8) (S := fun w' => w'.cell? ⟨gb653, 0, none⟩ = some (.int .i64 x654000_1) ∧ w'.cell? ⟨gb653, 1, none⟩ = some (.int .i64 x654001_1) ∧ w'.cell? ⟨gb651, 0, none⟩ = some (.slice (some ad659) l0_0.length c0_0) ∧ w'.cell? ⟨gb651, 1, none⟩ = some (.slice A0_1 l0_1.length c0_1) ∧ w'.cell? (ad659.add (((rd t655 x13_1)).toNat * 2)) = some (.int .i64 ((rd_T39 l0_0 (rd t655 x13_1)).f0)) ∧ w'.cell? ⟨(ad659.add (((rd t655 x13_1)).toNat * 2)).block, (ad659.add (((rd t655 x13_1)).toNat * 2)).off + 1, none⟩ = some (.int .i64 ((rd_T39 l0_0 (rd t655 x13_1)).f1))) (ds := [7]) #[F,F,F,F,F,F,F,F] (by kernel_rfl) rfl rfl ⟨ZA BK653 0, ZA BK653 1, ZA BK651 0, ZA BK651 1, ((HB.out.cell (World.block_lt_of_cell? w _ hw659_0)).trans hw659_0), ((HB.out.cell (World.block_lt_of_cell? w _ hw659_1)).trans hw659_1)⟩ (fun hHeld => ?_); refine with_tabW impl_Prog_source.tab4 impl_Prog_source.bits4 (fun HT_ HW_ => ?_)
  generalize wr.drew = w21 at HO_11 BK651 BK652 BK653 BK654 HB hx659_0 hx659_1 hHeld ⊢
  refine ZU 1 18 #[F,T,F,F,F,F,F,F] ?_
  refine ZU 3 20 #[F,T,F,T,F,F,F,F] ?_
  refine ZTK 0 17 #[T,T,F,T,F,F,F,F] hHeld ?_
  refine ZTK 2 19 #[T,T,T,T,F,F,F,F] hHeld ?_
  refine ZU 4 21 #[T,T,T,T,T,F,F,F] ?_
  refine ZTK 5 22 #[T,T,T,T,T,T,F,F] hHeld ?_
  refine one_ (i := 6) (N := some 23) #[T,T,T,T,T,T,T,F] rfl rfl (one_of HT_.out (by kernel_rfl)) (by decide) (fun K hK => ?_)
  refine ZGO Try.func85 #[.agg #[.int .i64 x654000_1, .int .i64 x654001_1], .agg #[.int .i64 ((rd_T39 l0_0 (rd t655 x13_1)).f0), .int .i64 ((rd_T39 l0_0 (rd t655 x13_1)).f1)]] ?_
  with_reducible refine (impl_Label_both.calls x654000_1 x654001_1 ((rd_T39 l0_0 (rd t655 x13_1)).f0) ((rd_T39 l0_0 (rd t655 x13_1)).f1) t660 t661 _ A20.out).mono ?_
  rintro e w22 ⟨rfl, hb⟩
  refine ⟨_, rfl, ?_⟩
  replace HO_11 := AM (Kd.R_below (ZR HO_11.out) hb)
  replace BK651 := ZW BK651 hb
  replace BK652 := ZW BK652 hb
  replace BK653 := ZW BK653 hb
  replace BK654 := ZW BK654 hb
  replace HB := ZT HB hb
  (try clear hb)
  (try clear hb2)
  (try clear hk)
  (try clear hi)
  refine hK.out _ _ ⟨ZA BK653 0, ZA BK653 1, ZA BK651 0, ZA BK651 1, ((HB.out.cell (World.block_lt_of_cell? w _ hw659_0)).trans hw659_0), ((HB.out.cell (World.block_lt_of_cell? w _ hw659_1)).trans hw659_1)⟩ (fun hHeld => ?_)
  clear hK K
  refine ZNO 23 ?_
  refine last_ (i := 7) (N := none) #[T,T,T,T,T,T,T,T] rfl rfl (one_of HT_.out (by kernel_rfl)) (by decide) (fun K hK => ?_)
  have hs23 : w22.cell? ⟨gb653, 0, none⟩ = some (.int .i64 x654000_1) := ZA BK653 0
  have hfs23 := blk_frozen BK653.out 0
  have hns23_0 := NB651_653.out
  have hns23_1 := NB652_653.out
  have hns23_3 := NB654_653.out
  have hms23_0 := NB653_651.out
  have hms23_1 := NB653_652.out
  have hms23_3 := NB653_654.out
  have hs24 : w22.cell? ⟨gb653, 1, none⟩ = some (.int .i64 x654001_1) := ZA BK653 1
  have hfs24 := blk_frozen BK653.out 1
  have hns24_0 := NB651_653.out
  have hns24_1 := NB652_653.out
  have hns24_3 := NB654_653.out
  have hms24_0 := NB653_651.out
  have hms24_1 := NB653_652.out
  have hms24_3 := NB653_654.out
  refine skip_ (w1 := ?_) (by rfl) rfl ?_ ?_
  rotate_left
  ·(
  go_simp
  rfl)
  refine hK.out _ _ ?_
  clear hK K
  refine done_ (done_of HT_.out (by kernel_rfl)) ?_
  try go_wp2
  go_roundg k1
  case measure => have := HK1.out; omega
  case rel => exact ⟨(wrap64 (x13_1 + 1)), (t660), (t661), (by first | rfl | (simp; done) | (simp [*]; done)), H', ⟨by have := HK1.out; omega⟩, ⟨ZR (Kd.R_mono (Kd.R_far (p := ⟨gb653, 1, none⟩) (Kd.R_far (p := ⟨gb653, 0, none⟩) (Kd.R_types HO_11.out BK653.out (by decide)) (fun _ hk => hk.2) (.int .i64 t660)) (fun _ hk => hk.2) (.int .i64 t661)) (fun _ hk => trivial))⟩, ⟨ZZ BK651.out⟩, ⟨ZZ BK652.out⟩, ⟨ZZ BK653.out⟩, ⟨ZZ BK654.out⟩, ⟨ZB⟩⟩)
  ·(
  rw [if_neg c19] at H
  exact absurd H (by simp)))
  ·(
  rw [if_neg c18] at H
  exact absurd H (by simp)))
  ·(
  rw [if_neg c17] at H
  exact absurd H (by simp)))
  ·(
  rw [if_neg c16] at H
  exact absurd H (by simp)))
  ·(
  rw [if_neg c15] at H
  have c15b0 := decide_eq_false c15
  clear c15
  simp only [Option.some.injEq, Prod.mk.injEq] at H
  obtain ⟨rfl, rfl⟩ := H
  have hnb25 := NB653_651.out
  have hnc25 := NB651_653.out
  have hnb26 := NB653_652.out
  have hnc26 := NB652_653.out
  have hnb27 := NB653_654.out
  have hnc27 := NB654_653.out
  have hcz28 := ZC2 wr BK653
  have hfz28 := ZF2 BK653
  have hnb29 := NB654_651.out
  have hnc29 := NB651_654.out
  have hnb30 := NB654_652.out
  have hnc30 := NB652_654.out
  have hcz31 := ZC2 wr BK654
  have hfz31 := ZF2 BK654
  go_wp2
  refine bodyPost_ret (results_cell_row rfl _ _ gb654 39 #[.int .i64 x654000_1, .int .i64 x654001_1] (0, 0) _ rfl (ZZ BK654.out) Try.underlying39 rfl (by kernel_rfl)) rfl ?_
  exact ⟨ZE, ZB⟩))

/-! ### impl_has: function 68 -/
def impl_has.f (a0 : Int) (a1 : Int) : Option (Bool) := (impl_isHost.f a1).bind fun t662 => (if t662 = true then (if 0 ≤ a1 then (some ((Go.bits .and .i64 (shr .i64 a0 a1) 1) == 1)) else (none)) else (some false))
theorem impl_has.calls (a0 : Int) (a1 : Int) (r : Bool) (w : World) (h : impl_has.f a0 a1 = some r) :
  Calls Try.prog 68 #[.int .i64 a0, .int .i64 a1] w fun e w' => e = .returned (.bool r) ∧ Drawn0 w w' := by
 have H := h
 unfold impl_has.f at H
 clear h
 obtain ⟨t662, A3, H⟩ := ZOB H; try dsimp only at H
 by_cases c4 : t662 = true
 ·(
 subst c4
 have H1 := H; rw [if_pos rfl] at H1
 clear H
 have H := H1
 clear H1
 by_cases c5 : 0 ≤ a1
 ·(
 rw [if_pos c5] at H
 have c5b0 := eq_true c5
 have c5b1 := decide_eq_true c5
 clear c5
 obtain ⟨ji6, hji6⟩ : ∃ j_ : Int, (shr .i64 a0 a1) = j_ := ⟨_, rfl⟩
 replace H : (some ((Go.bits .and .i64 (ji6) 1) == 1)) = some r := by first | (rw [hji6] at H; exact H) | (simp only [hji6] at H ⊢; exact H)
 (try rw [hji6] at A3)
 have hji6_ : (a0 / 2 ^ min a1.toNat 64) = ji6 := hji6
 have hji6z : a1 ≤ 64 → (a0 / 2 ^ a1.toNat) = ji6 := shr_small hji6
 obtain rfl := Option.some.inj H
 go_enter Try.func68, Try.ntmps68
 go_wp2_with (first | ((with_reducible refine gate_callee (f := 81) rfl ?_); refine ZGL (some 6) Try.func81 #[.int .i64 a1] ?_; (with_reducible refine (impl_isHost.calls a1 true _ A3.out).mono ?_); rintro e w' ⟨rfl, ⟨nd, rfl⟩⟩; refine ⟨_, rfl, ?_⟩))
 go_ret
 exact ⟨by first | rfl | (simp; done) | (simp only [← hji6] <;> (first | rfl | simp)) | (simp [*]; done), by repeat (first | exact Drawn0.refl _ | apply Drawn0.step)⟩)
 ·(
 rw [if_neg c5] at H
 exact absurd H (by simp)))
 ·(
 replace c4 := Bool.eq_false_iff.mpr c4
 subst c4
 have H1 := H; rw [if_neg ZFT] at H1
 clear H
 have H := H1
 clear H1
 obtain rfl := Option.some.inj H
 go_enter Try.func68, Try.ntmps68
 go_wp2_with (first | ((with_reducible refine gate_callee (f := 81) rfl ?_); refine ZGL (some 6) Try.func81 #[.int .i64 a1] ?_; (with_reducible refine (impl_isHost.calls a1 false _ A3.out).mono ?_); rintro e w' ⟨rfl, ⟨nd, rfl⟩⟩; refine ⟨_, rfl, ?_⟩))
 go_ret
 exact ⟨by first | rfl | (simp; done) | (simp [*]; done), by repeat (first | exact Drawn0.refl _ | apply Drawn0.step)⟩)

end Go.Proofs.Ythidgkfgdkjghaa.A
