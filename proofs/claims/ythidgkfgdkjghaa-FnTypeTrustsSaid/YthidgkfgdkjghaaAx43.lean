/- Go functions as Lean functions, and for each its contract; written by wip/tools/pr.py over the kit's print. -/
import Derived.Test.YthidgkfgdkjghaaAx0
import Derived.Test.YthidgkfgdkjghaaAx36
import Derived.Test.YthidgkfgdkjghaaAx42
namespace Go.Proofs.Ythidgkfgdkjghaa.A
open Go.RowKit Go.Proofs.YthidgkfgdkjghaaW.PrintWords Go.Proofs.YthidgkfgdkjghaaW.PrintLast Go.Proofs.YthidgkfgdkjghaaW.PrintMore
attribute [local go_sem] max2_int min2_int max_two min_two max_three min_three max_four min_four
set_option linter.unusedVariables false
set_option linter.unusedSimpArgs false
set_option maxHeartbeats 8000000
set_option maxRecDepth 100000

/-! ### laws_FnTypeTrusts: function 11 -/
def laws_FnTypeTrusts.l0 : Nat → Int → List Bool → List Bool → Int → List (S39) → List (S32) → Option (Bool)
 | 0, _, _, _, _, _, _ => none
 | k + 1, x4, x5, x6, x7, x931000, x931001 => if x7 < (x5.length : Int) then (if x4 ≥ 0 then (if x4 < 3 then (if 0 ≤ x7 then (if x7 < (x931000.length : Int) then ((laws_lcHas.f ((rd_T39 x931000 x7).f1) x4).bind fun t938 => (if x7 < (x6.length : Int) then (if ((rdOf false x5 x7) != (rdOf false x6 x7)) = true then (some false) else (if ((rdOf false x5 x7) != t938) = true then (some false) else (laws_FnTypeTrusts.l0 k x4 x5 x6 (wrap64 (x7 + 1)) x931000 x931001))) else (none))) else (none)) else (none)) else (if 0 ≤ x7 then (if x7 < (x6.length : Int) then (if ((rdOf false x5 x7) != (rdOf false x6 x7)) = true then (some false) else (if ((rdOf false x5 x7) != false) = true then (some false) else (laws_FnTypeTrusts.l0 k x4 x5 x6 (wrap64 (x7 + 1)) x931000 x931001))) else (none)) else (none))) else (if 0 ≤ x7 then (if x7 < (x6.length : Int) then (if ((rdOf false x5 x7) != (rdOf false x6 x7)) = true then (some false) else (if ((rdOf false x5 x7) != false) = true then (some false) else (laws_FnTypeTrusts.l0 k x4 x5 x6 (wrap64 (x7 + 1)) x931000 x931001))) else (none)) else (none))) else (some true)
def laws_FnTypeTrusts.f (k : Nat) (l0 : List Int) : Option (Bool) := if (l0.length : Int) > 1048576 then (some true) else ((spec_DrawTypeTrusts.f k l0).bind fun bt923 => ((impl_TypeTrusts.f k bt923.1 bt923.2.1 bt923.2.2).bind fun t931 => ((spec_TypeTrusts.f k bt923.1 bt923.2.1 bt923.2.2).bind fun t934 => (if (t931.length : Int) = (t934.length : Int) then (laws_FnTypeTrusts.l0 k bt923.2.2 t931 t934 0 bt923.1 bt923.2.1) else (some false)))))
theorem laws_FnTypeTrusts.calls (k : Nat) (A0 : Option Addr) (c0 : Nat) (l0 : List Int) (r : Bool) (w : World) (hr0 : Kd.C (Kd.int .u8) w A0 l0.length l0) (hc0 : l0.length ≤ c0) (h : laws_FnTypeTrusts.f k l0 = some r) :
  Calls Try.prog 11 #[.slice A0 l0.length c0] w fun e w' => e = .returned (.bool r) ∧ Below w.heap.size w w' := by
 have hu26 := Try.underlying26
 have HR0 := AM hr0
 have HC0 := AM hc0
 clear hr0 hc0
 have HB := AM (Below.refl w.heap.size w)
 have H := h
 unfold laws_FnTypeTrusts.f at H
 clear h
 by_cases c2 : (l0.length : Int) > 1048576
 focus (
 rw [if_pos c2] at H
 have c2b0 := decide_eq_true c2
 have c2b1 : decide (1048576 < l0.length) = true := decide_eq_true (by omega)
 clear c2
 obtain rfl := Option.some.inj H
 have tag0_ : Aside0 True := ⟨trivial⟩)
 rotate_left
 focus (
 rw [if_neg c2] at H
 have c2b0 := decide_eq_false c2
 have c2b1 : decide (1048576 < l0.length) = false := decide_eq_false (by omega)
 clear c2
 obtain ⟨⟨t923, t926, t929⟩, A3, H⟩ := ZOB H; try dsimp only at H
 obtain ⟨t931, A4, H⟩ := ZOB H; try dsimp only at H
 obtain ⟨t934, A5, H⟩ := ZOB H; try dsimp only at H
 by_cases c6 : (t931.length : Int) = (t934.length : Int)
 focus (
 rw [if_pos c6] at H
 have c6b0 := beq_iff_eq.mpr c6
 have c6b1 := bne_eq_false_iff_eq.mpr c6
 have c6b2 : (t931.length == t934.length) = true := by first | simpa using c6 | (simp at c6 ⊢; omega)
 clear c6
 have H' := AM H
 clear H
 have tag1_ : Aside0 True := ⟨trivial⟩)
 rotate_left
 focus (
 rw [if_neg c6] at H
 have c6b0 := beq_eq_false_iff_ne.mpr c6
 have c6b1 := bne_iff_ne.mpr c6
 have c6b2 : (t931.length == t934.length) = false := by first | simpa using c6 | (simp at c6 ⊢; omega)
 obtain rfl := Option.some.inj H
 have tag2_ : Aside0 True := ⟨trivial⟩)
 rotate_left)
 rotate_left 2
 all_goals (
 go_enter Try.func11, Try.ntmps11
 first
 | (
 (have z_ := tag0_; clear z_)
 go_wp2
 repeat (go_quiet (fail); try go_wp2)
 go_ret
 exact ⟨ZE, ZB⟩)
 | (
 (first | (have z_ := tag1_; clear z_) | (have z_ := tag2_; clear z_))
 go_wp2_with (first | (go_at_call 28; (with_reducible refine (spec_DrawTypeTrusts.calls k _ _ l0 t923 t926 t929 _ ?side1 ?side2 A3.out).mono ?_); (case side1 => exact ZQ HR0.out); (case side2 => exact HC0.out); rintro e wq0 ⟨vq0, vq1, rfl, hoq0, hoq1, hb⟩; have HOq0 := AM (Kd.R_lower (Kd.R_mono (ok' := fun k_ => True) hoq0 (fun _ hk_ => trivial)) (below_size (ZB))); have HOq1 := AM (Kd.N_lower (Kd.N_mono (ok' := fun k_ => some k_ ≠ (vq0 : Value).ownBlock) hoq1 (fun k_ hk_ => hk_.2)) (below_size (ZB))); replace HB := ZT HB hb; clear hb; (try clear hoq0); (try clear hoq1)) | ((with_reducible refine gate_dst (N := 3) rfl ?_); refine ZX (N := 3) (cs := #[.slice none 0 0, .slice none 0 0]) (t := 26) ?_; intro gbq0 hg wq1 hbox hb; have BKq0 := AM (hbox); have GWq0 : Aside0 (w.heap.size ≤ gbq0) := ZS hg; have GEq0 : Aside0 (w.heap.size ≤ gbq0) := ZS hg; replace HOq0 := AM (Kd.R_below (ZR HOq0.out) hb); replace HOq1 := AM (Kd.N_below (Kd.N_elderB (ZRN HOq1.out) gbq0 (Nat.le_of_eq hg.symm)) hb); replace HB := ZT HB hb; clear hb hbox hg; obtain ⟨Aoq0, coq0, eoq0⟩ := Kd.R_slice HOq0.out; subst eoq0; have hczq0 := ZC2 wq1 BKq0; have hfzq0 := ZF2 BKq0; obtain ⟨Aoq1, coq1, eoq1⟩ := Kd.N_slice HOq1.out; subst eoq1) | (go_at_call 29; (with_reducible refine (impl_TypeTrusts.calls k _ _ t923 _ _ t926 t929 t931 _ ?side1 ?side2 ?side3 ?side4 A4.out).mono ?_); (case side1 => refine (Kd.R_reads' (e := 39) (base := w.heap.size) (ok := fun k_ => True) (n := t923.length) (c := coq0) ?_).2.2; exact (ZR ((Kd.R_mono (Kd.R_far (p := ⟨gbq0, 1, none⟩) (Kd.R_far (p := ⟨gbq0, 0, none⟩) (Kd.R_types HOq0.out BKq0.out (by decide)) (fun _ hk => hk.2) (.slice Aoq0 t923.length coq0)) (fun _ hk => hk.2) (.slice Aoq1 t926.length coq1)) (fun _ h_ => h_.1))))); (case side2 => exact (Kd.R_reads' HOq0.out).2.1); (case side3 => refine (Kd.N_reads' (e := 32) (base := w.heap.size) (ok := fun k_ => (some k_ ≠ (.slice Aoq0 t923.length coq0 : Value).ownBlock ∧ k_ ≠ gbq0)) (n := t926.length) (c := coq1) ?_).2.2; exact (by (with_reducible repeat (first | apply Kd.N_alloc | apply Kd.N_drewN | apply Kd.N_drew)); exact (Kd.N_mono (Kd.N_far (p := ⟨gbq0, 1, none⟩) (Kd.N_far (p := ⟨gbq0, 0, none⟩) (Kd.N_mono HOq1.out (fun k_ hk => (⟨hk, hk.2⟩ : _ ∧ k_ ≠ gbq0))) (fun _ hk => hk.2) (.slice Aoq0 t923.length coq0)) (fun _ hk => hk.2) (.slice Aoq1 t926.length coq1)) (fun _ h_ => h_.1)))); (case side4 => exact (Kd.N_reads' HOq1.out).2.1); rintro e wq2 ⟨vq2, rfl, hoq0, hb⟩; have HOq2 := AM (Kd.R_lower hoq0 (below_size (ZB))); replace HOq0 := AM (Kd.R_below (ZR ((Kd.R_mono (Kd.R_far (p := ⟨gbq0, 1, none⟩) (Kd.R_far (p := ⟨gbq0, 0, none⟩) (Kd.R_types HOq0.out BKq0.out (by decide)) (fun _ hk => hk.2) (.slice Aoq0 t923.length coq0)) (fun _ hk => hk.2) (.slice Aoq1 t926.length coq1)) (fun _ h_ => h_.1)))) hb); replace HOq1 := AM (Kd.N_elder' (by (with_reducible repeat (first | apply Kd.N_alloc | apply Kd.N_drewN | apply Kd.N_drew)); exact (Kd.N_mono (Kd.N_far (p := ⟨gbq0, 1, none⟩) (Kd.N_far (p := ⟨gbq0, 0, none⟩) (Kd.N_mono HOq1.out (fun k_ hk => (⟨hk, hk.2⟩ : _ ∧ k_ ≠ gbq0))) (fun _ hk => hk.2) (.slice Aoq0 t923.length coq0)) (fun _ hk => hk.2) (.slice Aoq1 t926.length coq1)) (fun _ h_ => h_.1))) (Kd.R_base hoq0) hb); replace BKq0 := ZV #[.slice Aoq0 t923.length coq0, .slice Aoq1 t926.length coq1] BKq0 hb; replace HB := ZT HB hb; clear hb; (try clear hoq0); have hczq1 := ZC2 wq2 BKq0; have hfzq1 := ZF2 BKq0) | (go_at_call 30; (with_reducible refine (spec_TypeTrusts.calls k _ _ t923 _ _ t926 t929 t934 _ ?side1 ?side2 ?side3 ?side4 A5.out).mono ?_); (case side1 => exact ZQ ((Kd.R_reads' HOq0.out).2.2)); (case side2 => exact (Kd.R_reads' HOq0.out).2.1); (case side3 => exact ZQ ((Kd.N_reads' HOq1.out).2.2)); (case side4 => exact (Kd.N_reads' HOq1.out).2.1); rintro e wq3 ⟨vq3, rfl, hoq0, hb⟩; have HOq3 := AM (Kd.R_lower (Kd.R_new' hoq0 (Kd.R_lt (ZR HOq2.out))) (below_size (ZB))); replace HOq0 := AM (Kd.R_below (ZR HOq0.out) hb); replace HOq1 := AM (Kd.N_elder' (ZRN HOq1.out) (Kd.R_base hoq0) hb); replace HOq2 := AM (Kd.R_elder' (ZR HOq2.out) (Kd.R_base hoq0) hb); replace BKq0 := ZW BKq0 hb; replace HB := ZT HB hb; clear hb; (try clear hoq0); obtain ⟨Aoq2, coq2, eoq2⟩ := Kd.R_slice HOq2.out; subst eoq2; obtain ⟨Aoq3, coq3, eoq3⟩ := Kd.R_slice HOq3.out; subst eoq3))
 repeat (go_quiet (first | (go_at_call 28; (with_reducible refine (spec_DrawTypeTrusts.calls k _ _ l0 t923 t926 t929 _ ?side1 ?side2 A3.out).mono ?_); (case side1 => exact ZQ HR0.out); (case side2 => exact HC0.out); rintro e wq0 ⟨vq0, vq1, rfl, hoq0, hoq1, hb⟩; have HOq0 := AM (Kd.R_lower (Kd.R_mono (ok' := fun k_ => True) hoq0 (fun _ hk_ => trivial)) (below_size (ZB))); have HOq1 := AM (Kd.N_lower (Kd.N_mono (ok' := fun k_ => some k_ ≠ (vq0 : Value).ownBlock) hoq1 (fun k_ hk_ => hk_.2)) (below_size (ZB))); replace HB := ZT HB hb; clear hb; (try clear hoq0); (try clear hoq1)) | ((with_reducible refine gate_dst (N := 3) rfl ?_); refine ZX (N := 3) (cs := #[.slice none 0 0, .slice none 0 0]) (t := 26) ?_; intro gbq0 hg wq1 hbox hb; have BKq0 := AM (hbox); have GWq0 : Aside0 (w.heap.size ≤ gbq0) := ZS hg; have GEq0 : Aside0 (w.heap.size ≤ gbq0) := ZS hg; replace HOq0 := AM (Kd.R_below (ZR HOq0.out) hb); replace HOq1 := AM (Kd.N_below (Kd.N_elderB (ZRN HOq1.out) gbq0 (Nat.le_of_eq hg.symm)) hb); replace HB := ZT HB hb; clear hb hbox hg; obtain ⟨Aoq0, coq0, eoq0⟩ := Kd.R_slice HOq0.out; subst eoq0; have hczq0 := ZC2 wq1 BKq0; have hfzq0 := ZF2 BKq0; obtain ⟨Aoq1, coq1, eoq1⟩ := Kd.N_slice HOq1.out; subst eoq1) | (go_at_call 29; (with_reducible refine (impl_TypeTrusts.calls k _ _ t923 _ _ t926 t929 t931 _ ?side1 ?side2 ?side3 ?side4 A4.out).mono ?_); (case side1 => refine (Kd.R_reads' (e := 39) (base := w.heap.size) (ok := fun k_ => True) (n := t923.length) (c := coq0) ?_).2.2; exact (ZR ((Kd.R_mono (Kd.R_far (p := ⟨gbq0, 1, none⟩) (Kd.R_far (p := ⟨gbq0, 0, none⟩) (Kd.R_types HOq0.out BKq0.out (by decide)) (fun _ hk => hk.2) (.slice Aoq0 t923.length coq0)) (fun _ hk => hk.2) (.slice Aoq1 t926.length coq1)) (fun _ h_ => h_.1))))); (case side2 => exact (Kd.R_reads' HOq0.out).2.1); (case side3 => refine (Kd.N_reads' (e := 32) (base := w.heap.size) (ok := fun k_ => (some k_ ≠ (.slice Aoq0 t923.length coq0 : Value).ownBlock ∧ k_ ≠ gbq0)) (n := t926.length) (c := coq1) ?_).2.2; exact (by (with_reducible repeat (first | apply Kd.N_alloc | apply Kd.N_drewN | apply Kd.N_drew)); exact (Kd.N_mono (Kd.N_far (p := ⟨gbq0, 1, none⟩) (Kd.N_far (p := ⟨gbq0, 0, none⟩) (Kd.N_mono HOq1.out (fun k_ hk => (⟨hk, hk.2⟩ : _ ∧ k_ ≠ gbq0))) (fun _ hk => hk.2) (.slice Aoq0 t923.length coq0)) (fun _ hk => hk.2) (.slice Aoq1 t926.length coq1)) (fun _ h_ => h_.1)))); (case side4 => exact (Kd.N_reads' HOq1.out).2.1); rintro e wq2 ⟨vq2, rfl, hoq0, hb⟩; have HOq2 := AM (Kd.R_lower hoq0 (below_size (ZB))); replace HOq0 := AM (Kd.R_below (ZR ((Kd.R_mono (Kd.R_far (p := ⟨gbq0, 1, none⟩) (Kd.R_far (p := ⟨gbq0, 0, none⟩) (Kd.R_types HOq0.out BKq0.out (by decide)) (fun _ hk => hk.2) (.slice Aoq0 t923.length coq0)) (fun _ hk => hk.2) (.slice Aoq1 t926.length coq1)) (fun _ h_ => h_.1)))) hb); replace HOq1 := AM (Kd.N_elder' (by (with_reducible repeat (first | apply Kd.N_alloc | apply Kd.N_drewN | apply Kd.N_drew)); exact (Kd.N_mono (Kd.N_far (p := ⟨gbq0, 1, none⟩) (Kd.N_far (p := ⟨gbq0, 0, none⟩) (Kd.N_mono HOq1.out (fun k_ hk => (⟨hk, hk.2⟩ : _ ∧ k_ ≠ gbq0))) (fun _ hk => hk.2) (.slice Aoq0 t923.length coq0)) (fun _ hk => hk.2) (.slice Aoq1 t926.length coq1)) (fun _ h_ => h_.1))) (Kd.R_base hoq0) hb); replace BKq0 := ZV #[.slice Aoq0 t923.length coq0, .slice Aoq1 t926.length coq1] BKq0 hb; replace HB := ZT HB hb; clear hb; (try clear hoq0); have hczq1 := ZC2 wq2 BKq0; have hfzq1 := ZF2 BKq0) | (go_at_call 30; (with_reducible refine (spec_TypeTrusts.calls k _ _ t923 _ _ t926 t929 t934 _ ?side1 ?side2 ?side3 ?side4 A5.out).mono ?_); (case side1 => exact ZQ ((Kd.R_reads' HOq0.out).2.2)); (case side2 => exact (Kd.R_reads' HOq0.out).2.1); (case side3 => exact ZQ ((Kd.N_reads' HOq1.out).2.2)); (case side4 => exact (Kd.N_reads' HOq1.out).2.1); rintro e wq3 ⟨vq3, rfl, hoq0, hb⟩; have HOq3 := AM (Kd.R_lower (Kd.R_new' hoq0 (Kd.R_lt (ZR HOq2.out))) (below_size (ZB))); replace HOq0 := AM (Kd.R_below (ZR HOq0.out) hb); replace HOq1 := AM (Kd.N_elder' (ZRN HOq1.out) (Kd.R_base hoq0) hb); replace HOq2 := AM (Kd.R_elder' (ZR HOq2.out) (Kd.R_base hoq0) hb); replace BKq0 := ZW BKq0 hb; replace HB := ZT HB hb; clear hb; (try clear hoq0); obtain ⟨Aoq2, coq2, eoq2⟩ := Kd.R_slice HOq2.out; subst eoq2; obtain ⟨Aoq3, coq3, eoq3⟩ := Kd.R_slice HOq3.out; subst eoq3)); try go_wp2_with (first | (go_at_call 28; (with_reducible refine (spec_DrawTypeTrusts.calls k _ _ l0 t923 t926 t929 _ ?side1 ?side2 A3.out).mono ?_); (case side1 => exact ZQ HR0.out); (case side2 => exact HC0.out); rintro e wq0 ⟨vq0, vq1, rfl, hoq0, hoq1, hb⟩; have HOq0 := AM (Kd.R_lower (Kd.R_mono (ok' := fun k_ => True) hoq0 (fun _ hk_ => trivial)) (below_size (ZB))); have HOq1 := AM (Kd.N_lower (Kd.N_mono (ok' := fun k_ => some k_ ≠ (vq0 : Value).ownBlock) hoq1 (fun k_ hk_ => hk_.2)) (below_size (ZB))); replace HB := ZT HB hb; clear hb; (try clear hoq0); (try clear hoq1)) | ((with_reducible refine gate_dst (N := 3) rfl ?_); refine ZX (N := 3) (cs := #[.slice none 0 0, .slice none 0 0]) (t := 26) ?_; intro gbq0 hg wq1 hbox hb; have BKq0 := AM (hbox); have GWq0 : Aside0 (w.heap.size ≤ gbq0) := ZS hg; have GEq0 : Aside0 (w.heap.size ≤ gbq0) := ZS hg; replace HOq0 := AM (Kd.R_below (ZR HOq0.out) hb); replace HOq1 := AM (Kd.N_below (Kd.N_elderB (ZRN HOq1.out) gbq0 (Nat.le_of_eq hg.symm)) hb); replace HB := ZT HB hb; clear hb hbox hg; obtain ⟨Aoq0, coq0, eoq0⟩ := Kd.R_slice HOq0.out; subst eoq0; have hczq0 := ZC2 wq1 BKq0; have hfzq0 := ZF2 BKq0; obtain ⟨Aoq1, coq1, eoq1⟩ := Kd.N_slice HOq1.out; subst eoq1) | (go_at_call 29; (with_reducible refine (impl_TypeTrusts.calls k _ _ t923 _ _ t926 t929 t931 _ ?side1 ?side2 ?side3 ?side4 A4.out).mono ?_); (case side1 => refine (Kd.R_reads' (e := 39) (base := w.heap.size) (ok := fun k_ => True) (n := t923.length) (c := coq0) ?_).2.2; exact (ZR ((Kd.R_mono (Kd.R_far (p := ⟨gbq0, 1, none⟩) (Kd.R_far (p := ⟨gbq0, 0, none⟩) (Kd.R_types HOq0.out BKq0.out (by decide)) (fun _ hk => hk.2) (.slice Aoq0 t923.length coq0)) (fun _ hk => hk.2) (.slice Aoq1 t926.length coq1)) (fun _ h_ => h_.1))))); (case side2 => exact (Kd.R_reads' HOq0.out).2.1); (case side3 => refine (Kd.N_reads' (e := 32) (base := w.heap.size) (ok := fun k_ => (some k_ ≠ (.slice Aoq0 t923.length coq0 : Value).ownBlock ∧ k_ ≠ gbq0)) (n := t926.length) (c := coq1) ?_).2.2; exact (by (with_reducible repeat (first | apply Kd.N_alloc | apply Kd.N_drewN | apply Kd.N_drew)); exact (Kd.N_mono (Kd.N_far (p := ⟨gbq0, 1, none⟩) (Kd.N_far (p := ⟨gbq0, 0, none⟩) (Kd.N_mono HOq1.out (fun k_ hk => (⟨hk, hk.2⟩ : _ ∧ k_ ≠ gbq0))) (fun _ hk => hk.2) (.slice Aoq0 t923.length coq0)) (fun _ hk => hk.2) (.slice Aoq1 t926.length coq1)) (fun _ h_ => h_.1)))); (case side4 => exact (Kd.N_reads' HOq1.out).2.1); rintro e wq2 ⟨vq2, rfl, hoq0, hb⟩; have HOq2 := AM (Kd.R_lower hoq0 (below_size (ZB))); replace HOq0 := AM (Kd.R_below (ZR ((Kd.R_mono (Kd.R_far (p := ⟨gbq0, 1, none⟩) (Kd.R_far (p := ⟨gbq0, 0, none⟩) (Kd.R_types HOq0.out BKq0.out (by decide)) (fun _ hk => hk.2) (.slice Aoq0 t923.length coq0)) (fun _ hk => hk.2) (.slice Aoq1 t926.length coq1)) (fun _ h_ => h_.1)))) hb); replace HOq1 := AM (Kd.N_elder' (by (with_reducible repeat (first | apply Kd.N_alloc | apply Kd.N_drewN | apply Kd.N_drew)); exact (Kd.N_mono (Kd.N_far (p := ⟨gbq0, 1, none⟩) (Kd.N_far (p := ⟨gbq0, 0, none⟩) (Kd.N_mono HOq1.out (fun k_ hk => (⟨hk, hk.2⟩ : _ ∧ k_ ≠ gbq0))) (fun _ hk => hk.2) (.slice Aoq0 t923.length coq0)) (fun _ hk => hk.2) (.slice Aoq1 t926.length coq1)) (fun _ h_ => h_.1))) (Kd.R_base hoq0) hb); replace BKq0 := ZV #[.slice Aoq0 t923.length coq0, .slice Aoq1 t926.length coq1] BKq0 hb; replace HB := ZT HB hb; clear hb; (try clear hoq0); have hczq1 := ZC2 wq2 BKq0; have hfzq1 := ZF2 BKq0) | (go_at_call 30; (with_reducible refine (spec_TypeTrusts.calls k _ _ t923 _ _ t926 t929 t934 _ ?side1 ?side2 ?side3 ?side4 A5.out).mono ?_); (case side1 => exact ZQ ((Kd.R_reads' HOq0.out).2.2)); (case side2 => exact (Kd.R_reads' HOq0.out).2.1); (case side3 => exact ZQ ((Kd.N_reads' HOq1.out).2.2)); (case side4 => exact (Kd.N_reads' HOq1.out).2.1); rintro e wq3 ⟨vq3, rfl, hoq0, hb⟩; have HOq3 := AM (Kd.R_lower (Kd.R_new' hoq0 (Kd.R_lt (ZR HOq2.out))) (below_size (ZB))); replace HOq0 := AM (Kd.R_below (ZR HOq0.out) hb); replace HOq1 := AM (Kd.N_elder' (ZRN HOq1.out) (Kd.R_base hoq0) hb); replace HOq2 := AM (Kd.R_elder' (ZR HOq2.out) (Kd.R_base hoq0) hb); replace BKq0 := ZW BKq0 hb; replace HB := ZT HB hb; clear hb; (try clear hoq0); obtain ⟨Aoq2, coq2, eoq2⟩ := Kd.R_slice HOq2.out; subst eoq2; obtain ⟨Aoq3, coq3, eoq3⟩ := Kd.R_slice HOq3.out; subst eoq3)))
 first
 | (
 (have z_ := tag1_; clear z_)
 go_loopg [7] k (fun kq v7 w' => ∃ (xq0_1 : Int), v7 = .int .i64 xq0_1 ∧ Aside0 (laws_FnTypeTrusts.l0 kq t929 t931 t934 xq0_1 t923 t926 = some r) ∧ Aside0 (kq ≤ k) ∧ Aside0 (Kd.R Kd.bool 4 w' w.heap.size (fun k_ => some k_ ≠ ((.slice Aoq3 t934.length coq3) : Value).ownBlock) (.slice Aoq2 t931.length coq2) t931) ∧ Aside0 (Kd.R Kd.bool 4 w' w.heap.size (fun k_ => some k_ ≠ ((.slice Aoq2 t931.length coq2) : Value).ownBlock) (.slice Aoq3 t934.length coq3) t934) ∧ Aside0 (Kd.R k39 39 w' w.heap.size (fun _ => True) (.slice Aoq0 t923.length coq0) t923) ∧ Aside0 (Kd.N k32 32 w' w.heap.size (fun k_ => some k_ ≠ ((.slice Aoq2 t931.length coq2) : Value).ownBlock ∧ some k_ ≠ ((.slice Aoq3 t934.length coq3) : Value).ownBlock ∧ some k_ ≠ ((.slice Aoq0 t923.length coq0) : Value).ownBlock ∧ k_ ≠ gbq0) (.slice Aoq1 t926.length coq1) t926) ∧ Aside0 (w'.heap[gbq0]? = some (.cells #[(.slice Aoq0 t923.length coq0), (.slice Aoq1 t926.length coq1)] 26 (0, 0))) ∧ Aside0 (Below w.heap.size w w'))
 case atStart => exact ⟨(0), (by first | rfl | (simp; done) | (simp [*]; done)), H', ⟨Nat.le_refl _⟩, ⟨ZR (Kd.R_mono HOq2.out (fun _ hk => hk.2))⟩, ⟨ZR (Kd.R_mono HOq3.out (fun _ hk => hk.2))⟩, ⟨ZR HOq0.out⟩, ⟨by (with_reducible repeat (first | apply Kd.N_alloc | apply Kd.N_drewN | apply Kd.N_drew)); exact Kd.N_mono HOq1.out (fun _ hk => ⟨hk.1.2, ⟨hk.2, ⟨hk.1.1.1, hk.1.1.2⟩⟩⟩)⟩, ⟨ZK BKq0.out⟩, ⟨ZB⟩⟩
 case round => (
 clear H'
 try clear c1
 try clear c2
 try clear c2b0
 try clear c2b1
 try clear p2
 try clear c6
 try clear c6b0
 try clear c6b1
 try clear c6b2
 try clear c11
 try clear hczq0
 try clear hczq1
 try clear hfzq0
 try clear hfzq1
 obtain ⟨xq0_1, rfl, HA, HKq0, HO_q0, HO_q1, HO_q2, HO_q3, BKq0, HB⟩ := hrel
 cases gk with
 | zero => exact absurd HA.out (by simp [laws_FnTypeTrusts.l0])
 | succ k1 =>
  have H := HA.out
  clear HA
  simp only [laws_FnTypeTrusts.l0] at H
  by_cases c17 : xq0_1 < (t931.length : Int)
  focus (
  rw [if_pos c17] at H
  have cq0b0 : decide (xq0_1 < (t931.length : Int)) = true := decide_eq_true c17
  clear c17
  by_cases c18 : t929 ≥ 0
  focus (
  rw [if_pos c18] at H
  have cq1b0 : decide (0 ≤ t929) = true := decide_eq_true c18
  clear c18
  by_cases c19 : t929 < 3
  focus (
  rw [if_pos c19] at H
  have cq2b0 : decide (t929 < 3) = true := decide_eq_true c19
  clear c19
  by_cases c20 : 0 ≤ xq0_1
  focus (
  rw [if_pos c20] at H
  have cq3b0 : decide (0 ≤ xq0_1) = true := decide_eq_true c20
  clear c20
  by_cases c21 : xq0_1 < (t923.length : Int)
  focus (
  rw [if_pos c21] at H
  have cq4b0 : decide (xq0_1 < (t923.length : Int)) = true := decide_eq_true c21
  clear c21
  replace H := Option.bind_eq_some_iff.mp H
  obtain ⟨tq0, Aq0, H⟩ := H
  replace H : (if xq0_1 < (t934.length : Int) then (if ((rdOf false t931 xq0_1) != (rdOf false t934 xq0_1)) = true then (some false) else (if ((rdOf false t931 xq0_1) != tq0) = true then (some false) else (laws_FnTypeTrusts.l0 k1 t929 t931 t934 (wrap64 (xq0_1 + 1)) t923 t926))) else (none)) = some r := H
  have Aq1 := AM Aq0
  clear Aq0
  by_cases c23 : xq0_1 < (t934.length : Int)
  focus (
  rw [if_pos c23] at H
  have cq5b0 : decide (xq0_1 < (t934.length : Int)) = true := decide_eq_true c23
  clear c23
  by_cases c24 : ((rdOf false t931 xq0_1) != (rdOf false t934 xq0_1)) = true
  focus (
  rw [if_pos c24] at H
  have cq6b0 : ((rdOf false t931 xq0_1) != (rdOf false t934 xq0_1)) = true := c24
  (try (have cq6b1 : decide ((rdOf false t931 xq0_1) = (rdOf false t934 xq0_1)) = false := by simpa using c24))
  (try (have cq6b2 : ((rdOf false t931 xq0_1) == (rdOf false t934 xq0_1)) = false := by simpa using c24))
  (try (have cq6b3 : ¬ ((rdOf false t931 xq0_1) = (rdOf false t934 xq0_1)) := by simpa using c24))
  clear c24
  obtain rfl := Option.some.inj H
  have hczq2 := ZC2 wr BKq0
  have hfzq2 := ZF2 BKq0
  have tagq0_ : Aside0 True := ⟨trivial⟩)
  rotate_left
  focus (
  rw [if_neg c24] at H
  have cq6b0 : ((rdOf false t931 xq0_1) != (rdOf false t934 xq0_1)) = false := by simpa using c24
  (try (have cq6b9 : (rdOf false t934 xq0_1) = (rdOf false t931 xq0_1) := by have h_ := cq6b0; simp only [bne_eq_false_iff_eq] at h_; exact h_.symm))
  (try (have cq6b1 : decide ((rdOf false t931 xq0_1) = (rdOf false t934 xq0_1)) = true := by simpa using c24))
  (try (have cq6b2 : ((rdOf false t931 xq0_1) == (rdOf false t934 xq0_1)) = true := by simpa using c24))
  clear c24
  by_cases c26 : ((rdOf false t931 xq0_1) != tq0) = true
  focus (
  rw [if_pos c26] at H
  have cq7b0 : ((rdOf false t931 xq0_1) != tq0) = true := c26
  (try (have cq7b1 : decide ((rdOf false t931 xq0_1) = tq0) = false := by simpa using c26))
  (try (have cq7b2 : ((rdOf false t931 xq0_1) == tq0) = false := by simpa using c26))
  (try (have cq7b3 : ¬ ((rdOf false t931 xq0_1) = tq0) := by simpa using c26))
  clear c26
  obtain rfl := Option.some.inj H
  have hczq3 := ZC2 wr BKq0
  have hfzq3 := ZF2 BKq0
  have tagq1_ : Aside0 True := ⟨trivial⟩)
  rotate_left
  focus (
  rw [if_neg c26] at H
  have cq7b0 : ((rdOf false t931 xq0_1) != tq0) = false := by simpa using c26
  (try (have cq7b1 : decide ((rdOf false t931 xq0_1) = tq0) = true := by simpa using c26))
  (try (have cq7b2 : ((rdOf false t931 xq0_1) == tq0) = true := by simpa using c26))
  clear c26
  have H' := AM H
  clear H
  have hczq4 := ZC2 wr BKq0
  have hfzq4 := ZF2 BKq0
  have tagq2_ : Aside0 True := ⟨trivial⟩)
  rotate_left)
  rotate_left 2)
  rotate_left 3
  focus (
  exact ZNE H c23))
  rotate_left 3
  focus (
  exact ZNE H c21))
  rotate_left 3
  focus (
  exact ZNE H c20))
  rotate_left 3
  focus (
  rw [if_neg c19] at H
  have cq2b0 : decide (t929 < 3) = false := decide_eq_false c19
  clear c19
  by_cases c29 : 0 ≤ xq0_1
  focus (
  rw [if_pos c29] at H
  have cq8b0 : decide (0 ≤ xq0_1) = true := decide_eq_true c29
  clear c29
  by_cases c30 : xq0_1 < (t934.length : Int)
  focus (
  rw [if_pos c30] at H
  have cq9b0 : decide (xq0_1 < (t934.length : Int)) = true := decide_eq_true c30
  clear c30
  by_cases c31 : ((rdOf false t931 xq0_1) != (rdOf false t934 xq0_1)) = true
  focus (
  rw [if_pos c31] at H
  have cq10b0 : ((rdOf false t931 xq0_1) != (rdOf false t934 xq0_1)) = true := c31
  (try (have cq10b1 : decide ((rdOf false t931 xq0_1) = (rdOf false t934 xq0_1)) = false := by simpa using c31))
  (try (have cq10b2 : ((rdOf false t931 xq0_1) == (rdOf false t934 xq0_1)) = false := by simpa using c31))
  (try (have cq10b3 : ¬ ((rdOf false t931 xq0_1) = (rdOf false t934 xq0_1)) := by simpa using c31))
  clear c31
  obtain rfl := Option.some.inj H
  have tagq3_ : Aside0 True := ⟨trivial⟩)
  rotate_left
  focus (
  rw [if_neg c31] at H
  have cq10b0 : ((rdOf false t931 xq0_1) != (rdOf false t934 xq0_1)) = false := by simpa using c31
  (try (have cq10b9 : (rdOf false t934 xq0_1) = (rdOf false t931 xq0_1) := by have h_ := cq10b0; simp only [bne_eq_false_iff_eq] at h_; exact h_.symm))
  (try (have cq10b1 : decide ((rdOf false t931 xq0_1) = (rdOf false t934 xq0_1)) = true := by simpa using c31))
  (try (have cq10b2 : ((rdOf false t931 xq0_1) == (rdOf false t934 xq0_1)) = true := by simpa using c31))
  clear c31
  by_cases c32 : ((rdOf false t931 xq0_1) != false) = true
  focus (
  rw [if_pos c32] at H
  have cq11b0 : ((rdOf false t931 xq0_1) != false) = true := c32
  (try (have cq11b7 : (rdOf false t931 xq0_1) = true := by simpa using cq11b0))
  (try (have cq11b1 : decide ((rdOf false t931 xq0_1) = false) = false := by simpa using c32))
  (try (have cq11b2 : ((rdOf false t931 xq0_1) == false) = false := by simpa using c32))
  (try (have cq11b3 : ¬ ((rdOf false t931 xq0_1) = false) := by simpa using c32))
  clear c32
  obtain rfl := Option.some.inj H
  have tagq4_ : Aside0 True := ⟨trivial⟩)
  rotate_left
  focus (
  rw [if_neg c32] at H
  have cq11b0 : ((rdOf false t931 xq0_1) != false) = false := by simpa using c32
  (try (have cq11b7 : (rdOf false t931 xq0_1) = false := by simpa using cq11b0))
  (try (have cq11b1 : decide ((rdOf false t931 xq0_1) = false) = true := by simpa using c32))
  (try (have cq11b2 : ((rdOf false t931 xq0_1) == false) = true := by simpa using c32))
  clear c32
  have H' := AM H
  clear H
  have tagq5_ : Aside0 True := ⟨trivial⟩)
  rotate_left)
  rotate_left 2)
  rotate_left 3
  focus (
  exact ZNE H c30))
  rotate_left 3
  focus (
  exact ZNE H c29))
  rotate_left 3)
  rotate_left 6
  focus (
  rw [if_neg c18] at H
  have cq1b0 : decide (0 ≤ t929) = false := decide_eq_false c18
  clear c18
  by_cases c33 : 0 ≤ xq0_1
  focus (
  rw [if_pos c33] at H
  have cq12b0 : decide (0 ≤ xq0_1) = true := decide_eq_true c33
  clear c33
  by_cases c34 : xq0_1 < (t934.length : Int)
  focus (
  rw [if_pos c34] at H
  have cq13b0 : decide (xq0_1 < (t934.length : Int)) = true := decide_eq_true c34
  clear c34
  by_cases c35 : ((rdOf false t931 xq0_1) != (rdOf false t934 xq0_1)) = true
  focus (
  rw [if_pos c35] at H
  have cq14b0 : ((rdOf false t931 xq0_1) != (rdOf false t934 xq0_1)) = true := c35
  (try (have cq14b1 : decide ((rdOf false t931 xq0_1) = (rdOf false t934 xq0_1)) = false := by simpa using c35))
  (try (have cq14b2 : ((rdOf false t931 xq0_1) == (rdOf false t934 xq0_1)) = false := by simpa using c35))
  (try (have cq14b3 : ¬ ((rdOf false t931 xq0_1) = (rdOf false t934 xq0_1)) := by simpa using c35))
  clear c35
  obtain rfl := Option.some.inj H
  have tagq6_ : Aside0 True := ⟨trivial⟩)
  rotate_left
  focus (
  rw [if_neg c35] at H
  have cq14b0 : ((rdOf false t931 xq0_1) != (rdOf false t934 xq0_1)) = false := by simpa using c35
  (try (have cq14b9 : (rdOf false t934 xq0_1) = (rdOf false t931 xq0_1) := by have h_ := cq14b0; simp only [bne_eq_false_iff_eq] at h_; exact h_.symm))
  (try (have cq14b1 : decide ((rdOf false t931 xq0_1) = (rdOf false t934 xq0_1)) = true := by simpa using c35))
  (try (have cq14b2 : ((rdOf false t931 xq0_1) == (rdOf false t934 xq0_1)) = true := by simpa using c35))
  clear c35
  by_cases c36 : ((rdOf false t931 xq0_1) != false) = true
  focus (
  rw [if_pos c36] at H
  have cq15b0 : ((rdOf false t931 xq0_1) != false) = true := c36
  (try (have cq15b7 : (rdOf false t931 xq0_1) = true := by simpa using cq15b0))
  (try (have cq15b1 : decide ((rdOf false t931 xq0_1) = false) = false := by simpa using c36))
  (try (have cq15b2 : ((rdOf false t931 xq0_1) == false) = false := by simpa using c36))
  (try (have cq15b3 : ¬ ((rdOf false t931 xq0_1) = false) := by simpa using c36))
  clear c36
  obtain rfl := Option.some.inj H
  have tagq7_ : Aside0 True := ⟨trivial⟩)
  rotate_left
  focus (
  rw [if_neg c36] at H
  have cq15b0 : ((rdOf false t931 xq0_1) != false) = false := by simpa using c36
  (try (have cq15b7 : (rdOf false t931 xq0_1) = false := by simpa using cq15b0))
  (try (have cq15b1 : decide ((rdOf false t931 xq0_1) = false) = true := by simpa using c36))
  (try (have cq15b2 : ((rdOf false t931 xq0_1) == false) = true := by simpa using c36))
  clear c36
  have H' := AM H
  clear H
  have tagq8_ : Aside0 True := ⟨trivial⟩)
  rotate_left)
  rotate_left 2)
  rotate_left 3
  focus (
  exact ZNE H c34))
  rotate_left 3
  focus (
  exact ZNE H c33))
  rotate_left 3)
  rotate_left 9
  focus (
  rw [if_neg c17] at H
  have cq0b0 : decide (xq0_1 < (t931.length : Int)) = false := decide_eq_false c17
  clear c17
  obtain rfl := Option.some.inj H
  have tagq9_ : Aside0 True := ⟨trivial⟩)
  rotate_left
  all_goals (
  first
  | (
  (first | (have z_ := tagq0_; clear z_) | (have z_ := tagq1_; clear z_) | (have z_ := tagq2_; clear z_) | (have z_ := tagq3_; clear z_) | (have z_ := tagq4_; clear z_) | (have z_ := tagq5_; clear z_) | (have z_ := tagq6_; clear z_) | (have z_ := tagq7_; clear z_) | (have z_ := tagq8_; clear z_))
  have pqq0 : 0 ≤ (xq0_1 : Int) := ZD
  first
  | (
  (first | (have z_ := tagq0_; clear z_) | (have z_ := tagq1_; clear z_) | (have z_ := tagq2_; clear z_))
  have qqq0 : xq0_1 < (t923.length : Int) := ZD
  obtain ⟨adqq0, eqq0, hxqq0_0, hxqq0_1⟩ := at_T39 (Kd.R_reads' HO_q2.out).2.2 xq0_1 pqq0 qqq0
  cases eqq0
  replace pqq0 := eq_true pqq0
  replace qqq0 := eq_true qqq0
  first
  | (
  (have z_ := tagq0_; clear z_)
  go_wp2_with (first | (go_at_call 23; (with_reducible refine (laws_lcHas.calls ((rd_T39 t923 xq0_1).f1) t929 tq0 _ Aq1.out).mono ?_); rintro e w' ⟨rfl, ⟨nd, rfl⟩⟩; (try first | exact ⟨rfl, _, World.drewN_drewN _ _ _⟩ | exact ⟨rfl, _, Eq.trans (World.drewN_drewN _ _ _) (congrArg (World.drewN _) (Nat.add_assoc _ _ _))⟩); have pqq1 : 0 ≤ (xq0_1 : Int) := ZD; have qqq1 : xq0_1 < (t931.length : Int) := ZD; obtain ⟨adqq1, eqq1, hxqq1_0⟩ := Kd.at_bool (Kd.R_reads' HO_q0.out).2.2 xq0_1 pqq1 qqq1; cases eqq1; replace pqq1 := eq_true pqq1; replace qqq1 := eq_true qqq1; have pqq2 : 0 ≤ (xq0_1 : Int) := ZD; have qqq2 : xq0_1 < (t934.length : Int) := ZD; obtain ⟨adqq2, eqq2, hxqq2_0⟩ := Kd.at_bool (Kd.R_reads' HO_q1.out).2.2 xq0_1 pqq2 qqq2; cases eqq2; replace pqq2 := eq_true pqq2; replace qqq2 := eq_true qqq2))
  repeat (go_quiet (first | (go_at_call 23; (with_reducible refine (laws_lcHas.calls ((rd_T39 t923 xq0_1).f1) t929 tq0 _ Aq1.out).mono ?_); rintro e w' ⟨rfl, ⟨nd, rfl⟩⟩; (try first | exact ⟨rfl, _, World.drewN_drewN _ _ _⟩ | exact ⟨rfl, _, Eq.trans (World.drewN_drewN _ _ _) (congrArg (World.drewN _) (Nat.add_assoc _ _ _))⟩); have pqq1 : 0 ≤ (xq0_1 : Int) := ZD; have qqq1 : xq0_1 < (t931.length : Int) := ZD; obtain ⟨adqq1, eqq1, hxqq1_0⟩ := Kd.at_bool (Kd.R_reads' HO_q0.out).2.2 xq0_1 pqq1 qqq1; cases eqq1; replace pqq1 := eq_true pqq1; replace qqq1 := eq_true qqq1; have pqq2 : 0 ≤ (xq0_1 : Int) := ZD; have qqq2 : xq0_1 < (t934.length : Int) := ZD; obtain ⟨adqq2, eqq2, hxqq2_0⟩ := Kd.at_bool (Kd.R_reads' HO_q1.out).2.2 xq0_1 pqq2 qqq2; cases eqq2; replace pqq2 := eq_true pqq2; replace qqq2 := eq_true qqq2)); try go_wp2_with (first | (go_at_call 23; (with_reducible refine (laws_lcHas.calls ((rd_T39 t923 xq0_1).f1) t929 tq0 _ Aq1.out).mono ?_); rintro e w' ⟨rfl, ⟨nd, rfl⟩⟩; (try first | exact ⟨rfl, _, World.drewN_drewN _ _ _⟩ | exact ⟨rfl, _, Eq.trans (World.drewN_drewN _ _ _) (congrArg (World.drewN _) (Nat.add_assoc _ _ _))⟩); have pqq1 : 0 ≤ (xq0_1 : Int) := ZD; have qqq1 : xq0_1 < (t931.length : Int) := ZD; obtain ⟨adqq1, eqq1, hxqq1_0⟩ := Kd.at_bool (Kd.R_reads' HO_q0.out).2.2 xq0_1 pqq1 qqq1; cases eqq1; replace pqq1 := eq_true pqq1; replace qqq1 := eq_true qqq1; have pqq2 : 0 ≤ (xq0_1 : Int) := ZD; have qqq2 : xq0_1 < (t934.length : Int) := ZD; obtain ⟨adqq2, eqq2, hxqq2_0⟩ := Kd.at_bool (Kd.R_reads' HO_q1.out).2.2 xq0_1 pqq2 qqq2; cases eqq2; replace pqq2 := eq_true pqq2; replace qqq2 := eq_true qqq2)))
  go_ret
  exact ⟨ZE, ZB⟩)
  | (
  (first | (have z_ := tagq1_; clear z_) | (have z_ := tagq2_; clear z_))
  go_wp2_with (first | (go_at_call 23; (with_reducible refine (laws_lcHas.calls ((rd_T39 t923 xq0_1).f1) t929 tq0 _ Aq1.out).mono ?_); rintro e w' ⟨rfl, ⟨nd, rfl⟩⟩; (try first | exact ⟨rfl, _, World.drewN_drewN _ _ _⟩ | exact ⟨rfl, _, Eq.trans (World.drewN_drewN _ _ _) (congrArg (World.drewN _) (Nat.add_assoc _ _ _))⟩); have pqq1 : 0 ≤ (xq0_1 : Int) := ZD; have qqq1 : xq0_1 < (t931.length : Int) := ZD; obtain ⟨adqq1, eqq1, hxqq1_0⟩ := Kd.at_bool (Kd.R_reads' HO_q0.out).2.2 xq0_1 pqq1 qqq1; cases eqq1; replace pqq1 := eq_true pqq1; replace qqq1 := eq_true qqq1; have pqq2 : 0 ≤ (xq0_1 : Int) := ZD; have qqq2 : xq0_1 < (t934.length : Int) := ZD; obtain ⟨adqq2, eqq2, hxqq2_0⟩ := Kd.at_bool (Kd.R_reads' HO_q1.out).2.2 xq0_1 pqq2 qqq2; cases eqq2; replace pqq2 := eq_true pqq2; replace qqq2 := eq_true qqq2; have pqq3 : 0 ≤ (xq0_1 : Int) := ZD; have qqq3 : xq0_1 < (t931.length : Int) := ZD; obtain ⟨adqq3, eqq3, hxqq3_0⟩ := Kd.at_bool (Kd.R_reads' HO_q0.out).2.2 xq0_1 pqq3 qqq3; obtain rfl : adqq1 = adqq3 := (by injection eqq3); replace pqq3 := eq_true pqq3; replace qqq3 := eq_true qqq3))
  repeat (go_quiet (first | (go_at_call 23; (with_reducible refine (laws_lcHas.calls ((rd_T39 t923 xq0_1).f1) t929 tq0 _ Aq1.out).mono ?_); rintro e w' ⟨rfl, ⟨nd, rfl⟩⟩; (try first | exact ⟨rfl, _, World.drewN_drewN _ _ _⟩ | exact ⟨rfl, _, Eq.trans (World.drewN_drewN _ _ _) (congrArg (World.drewN _) (Nat.add_assoc _ _ _))⟩); have pqq1 : 0 ≤ (xq0_1 : Int) := ZD; have qqq1 : xq0_1 < (t931.length : Int) := ZD; obtain ⟨adqq1, eqq1, hxqq1_0⟩ := Kd.at_bool (Kd.R_reads' HO_q0.out).2.2 xq0_1 pqq1 qqq1; cases eqq1; replace pqq1 := eq_true pqq1; replace qqq1 := eq_true qqq1; have pqq2 : 0 ≤ (xq0_1 : Int) := ZD; have qqq2 : xq0_1 < (t934.length : Int) := ZD; obtain ⟨adqq2, eqq2, hxqq2_0⟩ := Kd.at_bool (Kd.R_reads' HO_q1.out).2.2 xq0_1 pqq2 qqq2; cases eqq2; replace pqq2 := eq_true pqq2; replace qqq2 := eq_true qqq2; have pqq3 : 0 ≤ (xq0_1 : Int) := ZD; have qqq3 : xq0_1 < (t931.length : Int) := ZD; obtain ⟨adqq3, eqq3, hxqq3_0⟩ := Kd.at_bool (Kd.R_reads' HO_q0.out).2.2 xq0_1 pqq3 qqq3; obtain rfl : adqq1 = adqq3 := (by injection eqq3); replace pqq3 := eq_true pqq3; replace qqq3 := eq_true qqq3)); try go_wp2_with (first | (go_at_call 23; (with_reducible refine (laws_lcHas.calls ((rd_T39 t923 xq0_1).f1) t929 tq0 _ Aq1.out).mono ?_); rintro e w' ⟨rfl, ⟨nd, rfl⟩⟩; (try first | exact ⟨rfl, _, World.drewN_drewN _ _ _⟩ | exact ⟨rfl, _, Eq.trans (World.drewN_drewN _ _ _) (congrArg (World.drewN _) (Nat.add_assoc _ _ _))⟩); have pqq1 : 0 ≤ (xq0_1 : Int) := ZD; have qqq1 : xq0_1 < (t931.length : Int) := ZD; obtain ⟨adqq1, eqq1, hxqq1_0⟩ := Kd.at_bool (Kd.R_reads' HO_q0.out).2.2 xq0_1 pqq1 qqq1; cases eqq1; replace pqq1 := eq_true pqq1; replace qqq1 := eq_true qqq1; have pqq2 : 0 ≤ (xq0_1 : Int) := ZD; have qqq2 : xq0_1 < (t934.length : Int) := ZD; obtain ⟨adqq2, eqq2, hxqq2_0⟩ := Kd.at_bool (Kd.R_reads' HO_q1.out).2.2 xq0_1 pqq2 qqq2; cases eqq2; replace pqq2 := eq_true pqq2; replace qqq2 := eq_true qqq2; have pqq3 : 0 ≤ (xq0_1 : Int) := ZD; have qqq3 : xq0_1 < (t931.length : Int) := ZD; obtain ⟨adqq3, eqq3, hxqq3_0⟩ := Kd.at_bool (Kd.R_reads' HO_q0.out).2.2 xq0_1 pqq3 qqq3; obtain rfl : adqq1 = adqq3 := (by injection eqq3); replace pqq3 := eq_true pqq3; replace qqq3 := eq_true qqq3)))
  first
  | (
  (have z_ := tagq1_; clear z_)
  go_ret
  exact ⟨ZE, ZB⟩)
  | (
  (have z_ := tagq2_; clear z_)
  go_roundg k1
  case measure => have := HKq0.out; omega
  case rel => exact ⟨(wrap64 (xq0_1 + 1)), (by first | rfl | (simp; done) | (simp [*]; done)), H', ⟨by have := HKq0.out; omega⟩, ⟨ZR HO_q0.out⟩, ⟨ZR HO_q1.out⟩, ⟨ZR HO_q2.out⟩, ⟨ZRN HO_q3.out⟩, ⟨ZK BKq0.out⟩, ⟨ZB⟩⟩)))
  | (
  (first | (have z_ := tagq3_; clear z_) | (have z_ := tagq4_; clear z_) | (have z_ := tagq5_; clear z_) | (have z_ := tagq6_; clear z_) | (have z_ := tagq7_; clear z_) | (have z_ := tagq8_; clear z_))
  have qqq0 : xq0_1 < (t931.length : Int) := ZD
  obtain ⟨adqq0, eqq0, hxqq0_0⟩ := Kd.at_bool (Kd.R_reads' HO_q0.out).2.2 xq0_1 pqq0 qqq0
  cases eqq0
  replace pqq0 := eq_true pqq0
  replace qqq0 := eq_true qqq0
  have pqq1 : 0 ≤ (xq0_1 : Int) := ZD
  have qqq1 : xq0_1 < (t934.length : Int) := ZD
  obtain ⟨adqq1, eqq1, hxqq1_0⟩ := Kd.at_bool (Kd.R_reads' HO_q1.out).2.2 xq0_1 pqq1 qqq1
  cases eqq1
  replace pqq1 := eq_true pqq1
  replace qqq1 := eq_true qqq1
  first
  | (
  (first | (have z_ := tagq3_; clear z_) | (have z_ := tagq6_; clear z_))
  go_wp2
  repeat (go_quiet (fail); try go_wp2)
  go_ret
  exact ⟨ZE, ZB⟩)
  | (
  (first | (have z_ := tagq4_; clear z_) | (have z_ := tagq5_; clear z_) | (have z_ := tagq7_; clear z_) | (have z_ := tagq8_; clear z_))
  have pqq2 : 0 ≤ (xq0_1 : Int) := ZD
  have qqq2 : xq0_1 < (t931.length : Int) := ZD
  obtain ⟨adqq2, eqq2, hxqq2_0⟩ := Kd.at_bool (Kd.R_reads' HO_q0.out).2.2 xq0_1 pqq2 qqq2
  obtain rfl : adqq0 = adqq2 := (by injection eqq2)
  replace pqq2 := eq_true pqq2
  replace qqq2 := eq_true qqq2
  go_wp2
  repeat (go_quiet (fail); try go_wp2)
  first
  | (
  (first | (have z_ := tagq4_; clear z_) | (have z_ := tagq7_; clear z_))
  go_ret
  exact ⟨ZE, ZB⟩)
  | (
  (first | (have z_ := tagq5_; clear z_) | (have z_ := tagq8_; clear z_))
  go_roundg k1
  case measure => have := HKq0.out; omega
  case rel => exact ⟨(wrap64 (xq0_1 + 1)), (by first | rfl | (simp; done) | (simp [*]; done)), H', ⟨by have := HKq0.out; omega⟩, ⟨ZR HO_q0.out⟩, ⟨ZR HO_q1.out⟩, ⟨ZR HO_q2.out⟩, ⟨ZRN HO_q3.out⟩, ⟨ZK BKq0.out⟩, ⟨ZB⟩⟩))))
  | (
  (have z_ := tagq9_; clear z_)
  go_wp2
  repeat (go_quiet (fail); try go_wp2)
  go_ret
  exact ⟨ZE, ZB⟩))))
 | (
 (have z_ := tag2_; clear z_)
 go_ret
 exact ⟨ZE, ZB⟩)))

end Go.Proofs.Ythidgkfgdkjghaa.A
