/- Go functions as Lean functions, and for each its contract; written by wip/tools/pr.py over the kit's print. -/
import Derived.Test.YtaflodibibbakaaAx0
import Derived.Test.YtaflodibibbakaaAx2
import Derived.Test.YtaflodibibbakaaAx6
import Derived.Test.YtaflodibibbakaaAx13
import Derived.Test.YtaflodibibbakaaAx14
import Derived.Test.YtaflodibibbakaaAx26
import Derived.Test.YtaflodibibbakaaAx29
import Derived.Test.YtaflodibibbakaaAx30
namespace Go.Proofs.Ytaflodibibbakaa.A
open Go.RowKit Go.Proofs.YtaflodibibbakaaW.PrintWords Go.Proofs.YtaflodibibbakaaW.PrintLast Go.Proofs.YtaflodibibbakaaW.PrintMore
attribute [local go_sem] max2_int min2_int max_two min_two max_three min_three max_four min_four
set_option linter.unusedVariables false
set_option linter.unusedSimpArgs false
set_option maxHeartbeats 8000000
set_option maxRecDepth 100000

/-! ### laws_FnExactTypeSets: function 6 -/
def laws_FnExactTypeSets.j0 : Nat → List Int → List Int → Bool → List (S83) → List (S79) → Option (Bool)
 | 0, _, _, _, _, _ => none
 | k + 1, x4, x6, x42, x614000, x614001 => if x42 = true then (some false) else ((laws_markIntS.f k x6 1).bind fun bt645 => ((laws_heldIntS.f k bt645.2 1).bind fun t647 => (if t647 < 0 then (some false) else (if t647 = bt645.1 then ((laws_toProg.f k x614000 x614001).bind fun bt648 => ((impl_TypeSets.f k bt648.1 bt648.2).bind fun t654 => ((laws_eqIntS.f k t654 x4).bind fun t657 => (if t657 = true then ((laws_heldIntS.f k bt645.2 1).bind fun t658 => (if t658 < 0 then (some false) else (if t658 = bt645.1 then (some true) else (some false)))) else (some false))))) else (some false)))))
def laws_FnExactTypeSets.f (k : Nat) (l0_0 : List (S83)) (l0_1 : List (S79)) : Option (Bool) := (laws_szProg.f k l0_0 l0_1 1048576).bind fun t614 => (if t614 < 0 then (some true) else ((laws_toProg.f k l0_0 l0_1).bind fun bt615 => ((spec_TypeSets.f k bt615.1 bt615.2).bind fun t621 => ((laws_toProg.f k l0_0 l0_1).bind fun bt624 => ((impl_TypeSets.f k bt624.1 bt624.2).bind fun t631 => ((laws_eqIntS.f k t631 t621).bind fun t634 => (if t634 = true then ((laws_toProg.f k l0_0 l0_1).bind fun bt635 => ((laws_eqProg.f k bt624.1 bt624.2 bt635.1 bt635.2).bind fun t641 => (if t641 = true then ((laws_markProg.f k bt624.1 bt624.2 1).bind fun bt642 => (if bt642.1 < 0 then (laws_FnExactTypeSets.j0 k t621 t631 true l0_0 l0_1) else ((laws_eqIntS.f k t631 t621).bind fun t644 => (laws_FnExactTypeSets.j0 k t621 t631 (!t644) l0_0 l0_1)))) else (some false)))) else (some false))))))))
theorem laws_FnExactTypeSets.calls (k : Nat) (A0_0 : Option Addr) (c0_0 : Nat) (l0_0 : List (S83)) (A0_1 : Option Addr) (c0_1 : Nat) (l0_1 : List (S79)) (r : Bool) (w : World) (hr0_0 : Kd.C k83 w A0_0 l0_0.length l0_0) (hc0_0 : l0_0.length ≤ c0_0) (hr0_1 : Kd.C k79 w A0_1 l0_1.length l0_1) (hc0_1 : l0_1.length ≤ c0_1) (h : laws_FnExactTypeSets.f k l0_0 l0_1 = some r) :
  Calls Try.prog 6 #[.agg #[.slice A0_0 l0_0.length c0_0, .slice A0_1 l0_1.length c0_1]] w fun e w' => e = .returned (.bool r) ∧ Below w.heap.size w w' := by
 have hu25 := Try.underlying25
 have hu32 := Try.underlying32
 have HR0_0 := AM hr0_0
 have HC0_0 := AM hc0_0
 clear hr0_0 hc0_0
 have HR0_1 := AM hr0_1
 have HC0_1 := AM hc0_1
 clear hr0_1 hc0_1
 have HB := AM (Below.refl w.heap.size w)
 have H := h
 unfold laws_FnExactTypeSets.f at H
 clear h
 obtain ⟨t614, A2, H⟩ := ZOB H; try dsimp only at H
 by_cases c3 : t614 < 0
 focus (
 rw [if_pos c3] at H
 have c3b0 := decide_eq_true c3
 clear c3
 obtain rfl := Option.some.inj H
 have tag0_ : Aside0 True := ⟨trivial⟩)
 rotate_left
 focus (
 rw [if_neg c3] at H
 have c3b0 := decide_eq_false c3
 clear c3
 obtain ⟨⟨t615, t618⟩, A7, H⟩ := ZOB H; try dsimp only at H
 obtain ⟨t621, A8, H⟩ := ZOB H; try dsimp only at H
 obtain ⟨⟨t624, t627⟩, A9, H⟩ := ZOB H; try dsimp only at H
 obtain ⟨t631, A10, H⟩ := ZOB H; try dsimp only at H
 obtain ⟨t634, A11, H⟩ := ZOB H; try dsimp only at H
 by_cases c12 : t634 = true
 focus (
 subst c12
 have H1 := H; rw [if_pos rfl] at H1
 clear H
 have H := H1
 clear H1
 obtain ⟨⟨t635, t638⟩, A13, H⟩ := ZOB H; try dsimp only at H
 obtain ⟨t641, A14, H⟩ := ZOB H; try dsimp only at H
 by_cases c15 : t641 = true
 focus (
 subst c15
 have H1 := H; rw [if_pos rfl] at H1
 clear H
 have H := H1
 clear H1
 obtain ⟨⟨t642, t643⟩, A16, H⟩ := ZOB H; try dsimp only at H
 have HC17 := AM H
 clear H
 have tag1_ : Aside0 True := ⟨trivial⟩)
 rotate_left
 focus (
 replace c15 := Bool.eq_false_iff.mpr c15
 subst c15
 have H1 := H; rw [if_neg ZFT] at H1
 clear H
 have H := H1
 clear H1
 obtain rfl := Option.some.inj H
 have tag2_ : Aside0 True := ⟨trivial⟩)
 rotate_left)
 rotate_left 2
 focus (
 replace c12 := Bool.eq_false_iff.mpr c12
 subst c12
 have H1 := H; rw [if_neg ZFT] at H1
 clear H
 have H := H1
 clear H1
 obtain rfl := Option.some.inj H
 have tag3_ : Aside0 True := ⟨trivial⟩)
 rotate_left)
 rotate_left 3
 all_goals (
 go_enter Try.func6, Try.ntmps6
 first
 | (
 (have z_ := tag0_; clear z_)
 go_wp2_with (first | ((with_reducible refine gate_dst (N := 1) rfl ?_); refine ZX (N := 1) (cs := #[.slice A0_0 l0_0.length c0_0, .slice A0_1 l0_1.length c0_1]) (t := 25) ?_; intro gbq0 hg wq0 hbox hb; have BKq0 := AM (hbox); have GWq0 : Aside0 (w.heap.size ≤ gbq0) := ZS hg; have GEq0 : Aside0 (w.heap.size ≤ gbq0) := ZS hg; replace HB := ZT HB hb; clear hb hbox hg; have hczq0 := ZC2 wq0 BKq0; have hfzq0 := ZF2 BKq0) | ((with_reducible refine gate_callee (f := 8) rfl ?_); refine ZGL (some 13) Try.func8 #[.agg #[.slice A0_0 l0_0.length c0_0, .slice A0_1 l0_1.length c0_1], .int .i64 1048576] ?_; (with_reducible refine (laws_szProg.calls k _ _ l0_0 _ _ l0_1 1048576 t614 _ ?side1 ?side2 ?side3 ?side4 A2.out).mono ?_); (case side1 => exact ZQ (Kd.C_below HR0_0.out HB.out)); (case side2 => exact HC0_0.out); (case side3 => exact ZQ (Kd.C_below HR0_1.out HB.out)); (case side4 => exact HC0_1.out); rintro e wq1 ⟨rfl, hb⟩; refine ⟨_, rfl, ?_⟩; replace BKq0 := ZW BKq0 hb; replace HB := ZT HB hb; clear hb))
 go_ret
 exact ⟨ZE, ZB⟩)
 | (
 (first | (have z_ := tag1_; clear z_) | (have z_ := tag2_; clear z_))
 try go_wp2_with (first | ((with_reducible refine gate_dst (N := 1) rfl ?_); refine ZX (N := 1) (cs := #[.slice A0_0 l0_0.length c0_0, .slice A0_1 l0_1.length c0_1]) (t := 25) ?_; intro gbq0 hg wq0 hbox hb; have BKq0 := AM (hbox); have GWq0 : Aside0 (w.heap.size ≤ gbq0) := ZS hg; have GEq0 : Aside0 (w.heap.size ≤ gbq0) := ZS hg; replace HB := ZT HB hb; clear hb hbox hg; have hczq0 := ZC2 wq0 BKq0; have hfzq0 := ZF2 BKq0) | ((with_reducible refine gate_callee (f := 8) rfl ?_); refine ZGL (some 13) Try.func8 #[.agg #[.slice A0_0 l0_0.length c0_0, .slice A0_1 l0_1.length c0_1], .int .i64 1048576] ?_; (with_reducible refine (laws_szProg.calls k _ _ l0_0 _ _ l0_1 1048576 t614 _ ?side1 ?side2 ?side3 ?side4 A2.out).mono ?_); (case side1 => exact ZQ (Kd.C_below HR0_0.out HB.out)); (case side2 => exact HC0_0.out); (case side3 => exact ZQ (Kd.C_below HR0_1.out HB.out)); (case side4 => exact HC0_1.out); rintro e wq1 ⟨rfl, hb⟩; refine ⟨_, rfl, ?_⟩; replace BKq0 := ZW BKq0 hb; replace HB := ZT HB hb; clear hb; have hczq1 := ZC2 wq1 BKq0; have hfzq1 := ZF2 BKq0) | ((with_reducible refine gate_callee (f := 10) rfl ?_); refine ZGL (some 17) Try.func10 #[.agg #[.slice A0_0 l0_0.length c0_0, .slice A0_1 l0_1.length c0_1]] ?_; (with_reducible refine (laws_toProg.calls k _ _ l0_0 _ _ l0_1 t615 t618 _ ?side1 ?side2 ?side3 ?side4 A7.out).mono ?_); (case side1 => exact ZQ (Kd.C_below HR0_0.out HB.out)); (case side2 => exact HC0_0.out); (case side3 => exact ZQ (Kd.C_below HR0_1.out HB.out)); (case side4 => exact HC0_1.out); rintro e wq2 ⟨vq0, vq1, rfl, hoq0, hoq1, hb⟩; refine ⟨_, rfl, ?_⟩; have HOq0 := AM (Kd.R_lower hoq0 (below_size (ZB))); have HOq1 := AM (Kd.R_lower hoq1 (below_size (ZB))); replace BKq0 := ZW BKq0 hb; replace HB := ZT HB hb; clear hb; (try clear hoq0); (try clear hoq1); obtain ⟨Aoq0, coq0, eoq0⟩ := Kd.R_slice HOq0.out; subst eoq0; obtain ⟨Aoq1, coq1, eoq1⟩ := Kd.R_slice HOq1.out; subst eoq1) | ((with_reducible refine gate_callee (f := 24) rfl ?_); refine ZGL (some 18) Try.func24 #[.agg #[.slice Aoq0 t615.length coq0, .slice Aoq1 t618.length coq1]] ?_; (with_reducible refine (spec_TypeSets.calls k _ _ t615 _ _ t618 t621 _ ?side1 ?side2 ?side3 ?side4 A8.out).mono ?_); (case side1 => exact ZQ ((Kd.R_reads' HOq0.out).2.2)); (case side2 => exact (Kd.R_reads' HOq0.out).2.1); (case side3 => exact ZQ ((Kd.R_reads' HOq1.out).2.2)); (case side4 => exact (Kd.R_reads' HOq1.out).2.1); rintro e wq3 ⟨vq2, rfl, hoq0, hb⟩; refine ⟨_, rfl, ?_⟩; have HOq2 := AM (Kd.R_lower hoq0 (below_size (ZB))); replace HOq0 := AM (Kd.R_below (ZR HOq0.out) hb); replace HOq1 := AM (Kd.R_below (ZR HOq1.out) hb); replace BKq0 := ZW BKq0 hb; replace HB := ZT HB hb; clear hb; (try clear hoq0); have hczq2 := ZC2 wq3 BKq0; have hfzq2 := ZF2 BKq0) | ((with_reducible refine gate_callee (f := 10) rfl ?_); refine ZGL (some 20) Try.func10 #[.agg #[.slice A0_0 l0_0.length c0_0, .slice A0_1 l0_1.length c0_1]] ?_; (with_reducible refine (laws_toProg.calls k _ _ l0_0 _ _ l0_1 t624 t627 _ ?side1 ?side2 ?side3 ?side4 A9.out).mono ?_); (case side1 => exact ZQ (Kd.C_below HR0_0.out HB.out)); (case side2 => exact HC0_0.out); (case side3 => exact ZQ (Kd.C_below HR0_1.out HB.out)); (case side4 => exact HC0_1.out); rintro e wq4 ⟨vq3, vq4, rfl, hoq0, hoq1, hb⟩; refine ⟨_, rfl, ?_⟩; have HOq3 := AM (Kd.R_lower (Kd.R_new' hoq0 (Kd.R_lt (ZR HOq0.out))) (below_size (ZB))); have HOq4 := AM (Kd.R_lower (Kd.R_new' hoq1 (Kd.R_lt (ZR HOq1.out))) (below_size (ZB))); replace HOq0 := AM (Kd.R_elder' (ZR HOq0.out) (Kd.R_base hoq0) hb); replace HOq1 := AM (Kd.R_elder' (ZR HOq1.out) (Kd.R_base hoq1) hb); replace HOq2 := AM (Kd.R_below (ZR HOq2.out) hb); replace BKq0 := ZW BKq0 hb; replace HB := ZT HB hb; clear hb; (try clear hoq0); (try clear hoq1)) | ((with_reducible refine gate_dst (N := 5) rfl ?_); refine ZX (N := 5) (cs := #[.slice none 0 0, .slice none 0 0]) (t := 32) ?_; intro gbq1 hg wq5 hbox hb; have BKq1 := AM (hbox); have GWq1 : Aside0 (w.heap.size ≤ gbq1) := ZS hg; have GEq1 : Aside0 (w.heap.size ≤ gbq1) := ZS hg; have NBq0_630 : Aside0 (gbq0 ≠ gbq1) := ZN hg BKq0; have NBq1_613 : Aside0 (gbq1 ≠ gbq0) := ZM hg BKq0; replace HOq0 := AM (Kd.R_below (ZR HOq0.out) hb); replace HOq1 := AM (Kd.R_below (ZR HOq1.out) hb); replace HOq2 := AM (Kd.R_below (ZR HOq2.out) hb); replace HOq3 := AM (Kd.R_below (ZR HOq3.out) hb); replace HOq4 := AM (Kd.R_below (ZR HOq4.out) hb); replace BKq0 := ZW BKq0 hb; replace HB := ZT HB hb; clear hb hbox hg; obtain ⟨Aoq2, coq2, eoq2⟩ := Kd.R_slice HOq3.out; subst eoq2; have hnbq0 := NBq1_613.out; have hncq0 := NBq0_630.out; have hczq3 := ZC2 wq5 BKq1; have hfzq3 := ZF2 BKq1; obtain ⟨Aoq3, coq3, eoq3⟩ := Kd.R_slice HOq4.out; subst eoq3) | ((with_reducible refine gate_callee (f := 25) rfl ?_); refine ZGL (some 22) Try.func25 #[.agg #[.slice Aoq2 t624.length coq2, .slice Aoq3 t627.length coq3]] ?_; (with_reducible refine (impl_TypeSets.calls k _ _ t624 _ _ t627 t631 _ ?side1 ?side2 ?side3 ?side4 A10.out).mono ?_); (case side1 => refine (Kd.R_reads' (e := 60) (base := w.heap.size) (ok := fun k_ => (True ∧ some k_ ≠ (.slice Aoq0 t615.length coq0 : Value).ownBlock)) (n := t624.length) (c := coq2) ?_).2.2; exact (by (with_reducible repeat (first | apply Kd.R_alloc | apply Kd.R_drewN | apply Kd.R_drew)); exact (Kd.R_mono (Kd.R_far (p := ⟨gbq1, 1, none⟩) (Kd.R_far (p := ⟨gbq1, 0, none⟩) (Kd.R_types HOq3.out BKq1.out (by decide)) (fun _ hk => by first | exact hk.2 | simp [hk]) (.slice Aoq2 t624.length coq2)) (fun _ hk => by first | exact hk.2 | simp [hk]) (.slice Aoq3 t627.length coq3)) (fun _ h_ => h_.1)))); (case side2 => exact (Kd.R_reads' HOq3.out).2.1); (case side3 => refine (Kd.R_reads' (e := 50) (base := w.heap.size) (ok := fun k_ => (True ∧ some k_ ≠ (.slice Aoq1 t618.length coq1 : Value).ownBlock)) (n := t627.length) (c := coq3) ?_).2.2; exact (by (with_reducible repeat (first | apply Kd.R_alloc | apply Kd.R_drewN | apply Kd.R_drew)); exact (Kd.R_mono (Kd.R_far (p := ⟨gbq1, 1, none⟩) (Kd.R_far (p := ⟨gbq1, 0, none⟩) (Kd.R_types HOq4.out BKq1.out (by decide)) (fun _ hk => by first | exact hk.2 | simp [hk]) (.slice Aoq2 t624.length coq2)) (fun _ hk => by first | exact hk.2 | simp [hk]) (.slice Aoq3 t627.length coq3)) (fun _ h_ => h_.1)))); (case side4 => exact (Kd.R_reads' HOq4.out).2.1); rintro e wq6 ⟨vq5, rfl, hoq0, hb⟩; refine ⟨_, rfl, ?_⟩; have HOq5 := AM (Kd.R_lower (Kd.R_new' hoq0 (Kd.R_lt (by (with_reducible repeat (first | apply Kd.R_alloc | apply Kd.R_drewN | apply Kd.R_drew)); exact (Kd.R_mono (Kd.R_far (p := ⟨gbq1, 1, none⟩) (Kd.R_far (p := ⟨gbq1, 0, none⟩) (Kd.R_types HOq2.out BKq1.out (by decide)) (fun _ hk => by first | exact hk.2 | simp [hk]) (.slice Aoq2 t624.length coq2)) (fun _ hk => by first | exact hk.2 | simp [hk]) (.slice Aoq3 t627.length coq3)) (fun _ h_ => h_.1))))) (below_size (ZB))); replace HOq0 := AM (Kd.R_below (by (with_reducible repeat (first | apply Kd.R_alloc | apply Kd.R_drewN | apply Kd.R_drew)); exact (Kd.R_mono (Kd.R_far (p := ⟨gbq1, 1, none⟩) (Kd.R_far (p := ⟨gbq1, 0, none⟩) (Kd.R_types HOq0.out BKq1.out (by decide)) (fun _ hk => by first | exact hk.2 | simp [hk]) (.slice Aoq2 t624.length coq2)) (fun _ hk => by first | exact hk.2 | simp [hk]) (.slice Aoq3 t627.length coq3)) (fun _ h_ => h_.1))) hb); replace HOq1 := AM (Kd.R_below (by (with_reducible repeat (first | apply Kd.R_alloc | apply Kd.R_drewN | apply Kd.R_drew)); exact (Kd.R_mono (Kd.R_far (p := ⟨gbq1, 1, none⟩) (Kd.R_far (p := ⟨gbq1, 0, none⟩) (Kd.R_types HOq1.out BKq1.out (by decide)) (fun _ hk => by first | exact hk.2 | simp [hk]) (.slice Aoq2 t624.length coq2)) (fun _ hk => by first | exact hk.2 | simp [hk]) (.slice Aoq3 t627.length coq3)) (fun _ h_ => h_.1))) hb); replace HOq2 := AM (Kd.R_elder' (by (with_reducible repeat (first | apply Kd.R_alloc | apply Kd.R_drewN | apply Kd.R_drew)); exact (Kd.R_mono (Kd.R_far (p := ⟨gbq1, 1, none⟩) (Kd.R_far (p := ⟨gbq1, 0, none⟩) (Kd.R_types HOq2.out BKq1.out (by decide)) (fun _ hk => by first | exact hk.2 | simp [hk]) (.slice Aoq2 t624.length coq2)) (fun _ hk => by first | exact hk.2 | simp [hk]) (.slice Aoq3 t627.length coq3)) (fun _ h_ => h_.1))) (Kd.R_base hoq0) hb); replace HOq3 := AM (Kd.R_below (by (with_reducible repeat (first | apply Kd.R_alloc | apply Kd.R_drewN | apply Kd.R_drew)); exact (Kd.R_mono (Kd.R_far (p := ⟨gbq1, 1, none⟩) (Kd.R_far (p := ⟨gbq1, 0, none⟩) (Kd.R_types HOq3.out BKq1.out (by decide)) (fun _ hk => by first | exact hk.2 | simp [hk]) (.slice Aoq2 t624.length coq2)) (fun _ hk => by first | exact hk.2 | simp [hk]) (.slice Aoq3 t627.length coq3)) (fun _ h_ => h_.1))) hb); replace HOq4 := AM (Kd.R_below (by (with_reducible repeat (first | apply Kd.R_alloc | apply Kd.R_drewN | apply Kd.R_drew)); exact (Kd.R_mono (Kd.R_far (p := ⟨gbq1, 1, none⟩) (Kd.R_far (p := ⟨gbq1, 0, none⟩) (Kd.R_types HOq4.out BKq1.out (by decide)) (fun _ hk => by first | exact hk.2 | simp [hk]) (.slice Aoq2 t624.length coq2)) (fun _ hk => by first | exact hk.2 | simp [hk]) (.slice Aoq3 t627.length coq3)) (fun _ h_ => h_.1))) hb); replace BKq0 := ZV #[.slice A0_0 l0_0.length c0_0, .slice A0_1 l0_1.length c0_1] BKq0 hb; replace BKq1 := ZV #[.slice Aoq2 t624.length coq2, .slice Aoq3 t627.length coq3] BKq1 hb; replace HB := ZT HB hb; clear hb; (try clear hoq0); obtain ⟨Aoq4, coq4, eoq4⟩ := Kd.R_slice HOq5.out; subst eoq4; obtain ⟨Aoq5, coq5, eoq5⟩ := Kd.R_slice HOq2.out; subst eoq5) | ((with_reducible refine gate_callee (f := 26) rfl ?_); refine ZGL (some 25) Try.func26 #[.slice Aoq4 t631.length coq4, .slice Aoq5 t621.length coq5] ?_; (with_reducible refine (laws_eqIntS.calls k _ _ t631 _ _ t621 true _ ?side1 ?side2 ?side3 ?side4 A11.out).mono ?_); (case side1 => exact ZQ ((Kd.R_reads' HOq5.out).2.2)); (case side2 => exact (Kd.R_reads' HOq5.out).2.1); (case side3 => exact ZQ ((Kd.R_reads' HOq2.out).2.2)); (case side4 => exact (Kd.R_reads' HOq2.out).2.1); rintro e w' ⟨rfl, ⟨nd, rfl⟩⟩; refine ⟨_, rfl, ?_⟩))
 (try (rw [drewN_self wq6]; generalize hq_ : World.drewN wq6 _ = wq6; have nq0_ : Aside0 (Kd.R k60 60 wq6 w.heap.size (fun k_ => some k_ ≠ (.slice Aoq2 t624.length coq2 : Value).ownBlock) (.slice Aoq0 t615.length coq0) t615) := ⟨by rw [← hq_]; exact (by (with_reducible repeat (first | apply Kd.R_alloc | apply Kd.R_drewN | apply Kd.R_drew)); exact Kd.R_mono HOq0.out (fun _ hk => by first | exact hk.2 | simp [hk]))⟩; have nq1_ : Aside0 (Kd.R k50 50 wq6 w.heap.size (fun k_ => some k_ ≠ (.slice Aoq3 t627.length coq3 : Value).ownBlock) (.slice Aoq1 t618.length coq1) t618) := ⟨by rw [← hq_]; exact (by (with_reducible repeat (first | apply Kd.R_alloc | apply Kd.R_drewN | apply Kd.R_drew)); exact Kd.R_mono HOq1.out (fun _ hk => by first | exact hk.2 | simp [hk]))⟩; have nq2_ : Aside0 (Kd.R (Kd.int .i64) 3 wq6 w.heap.size (fun k_ => some k_ ≠ (.slice Aoq4 t631.length coq4 : Value).ownBlock) (.slice Aoq5 t621.length coq5) t621) := ⟨by rw [← hq_]; exact (by (with_reducible repeat (first | apply Kd.R_alloc | apply Kd.R_drewN | apply Kd.R_drew)); exact Kd.R_mono HOq2.out (fun _ hk => by first | exact hk.2 | simp [hk]))⟩; have nq3_ : Aside0 (Kd.R k60 60 wq6 w.heap.size (fun k_ => some k_ ≠ (.slice Aoq0 t615.length coq0 : Value).ownBlock) (.slice Aoq2 t624.length coq2) t624) := ⟨by rw [← hq_]; exact (by (with_reducible repeat (first | apply Kd.R_alloc | apply Kd.R_drewN | apply Kd.R_drew)); exact Kd.R_mono HOq3.out (fun _ hk => by first | exact hk.2 | simp [hk]))⟩; have nq4_ : Aside0 (Kd.R k50 50 wq6 w.heap.size (fun k_ => some k_ ≠ (.slice Aoq1 t618.length coq1 : Value).ownBlock) (.slice Aoq3 t627.length coq3) t627) := ⟨by rw [← hq_]; exact (by (with_reducible repeat (first | apply Kd.R_alloc | apply Kd.R_drewN | apply Kd.R_drew)); exact Kd.R_mono HOq4.out (fun _ hk => by first | exact hk.2 | simp [hk]))⟩; have nq5_ : Aside0 (Kd.R (Kd.int .i64) 3 wq6 w.heap.size (fun k_ => some k_ ≠ (.slice Aoq5 t621.length coq5 : Value).ownBlock) (.slice Aoq4 t631.length coq4) t631) := ⟨by rw [← hq_]; exact (by (with_reducible repeat (first | apply Kd.R_alloc | apply Kd.R_drewN | apply Kd.R_drew)); exact Kd.R_mono HOq5.out (fun _ hk => by first | exact hk.2 | simp [hk]))⟩; have nq6_ : Aside0 (wq6.heap[gbq0]? = some (.cells #[.slice A0_0 l0_0.length c0_0, .slice A0_1 l0_1.length c0_1] 25 (0, 0))) := ⟨by rw [← hq_]; exact (ZK BKq0.out)⟩; have nq7_ : Aside0 (wq6.heap[gbq1]? = some (.cells #[.slice Aoq2 t624.length coq2, .slice Aoq3 t627.length coq3] 32 (0, 0))) := ⟨by rw [← hq_]; exact (ZK BKq1.out)⟩; have nq8_ : Aside0 (Below w.heap.size w wq6) := ⟨by rw [← hq_]; exact (ZB)⟩; clear HOq0 HOq1 HOq2 HOq3 HOq4 HOq5 BKq0 BKq1 HB hq_; have HOq0 := nq0_; have HOq1 := nq1_; have HOq2 := nq2_; have HOq3 := nq3_; have HOq4 := nq4_; have HOq5 := nq5_; have BKq0 := nq6_; have BKq1 := nq7_; have HB := nq8_; clear nq0_ nq1_ nq2_ nq3_ nq4_ nq5_ nq6_ nq7_ nq8_))
 replace HOq0 := AM (Kd.R_drew HOq0.out)
 replace HOq1 := AM (Kd.R_drew HOq1.out)
 replace HOq2 := AM (Kd.R_drew HOq2.out)
 replace HOq3 := AM (Kd.R_drew HOq3.out)
 replace HOq4 := AM (Kd.R_drew HOq4.out)
 replace HOq5 := AM (Kd.R_drew HOq5.out)
 replace BKq0 := AM (blk_drew BKq0.out)
 replace BKq1 := AM (blk_drew BKq1.out)
 replace HB := AM (below_drew1 HB.out)
 refine start_ (n := 5) (S := fun w' => w'.cell? ⟨gbq1, 0, none⟩ = some (.slice Aoq2 t624.length coq2) ∧ w'.cell? ⟨gbq1, 1, none⟩ = some (.slice Aoq3 t627.length coq3) ∧ w'.cell? ⟨gbq0, 0, none⟩ = some (.slice A0_0 l0_0.length c0_0) ∧ w'.cell? ⟨gbq0, 1, none⟩ = some (.slice A0_1 l0_1.length c0_1)) (ds := []) #[F,F,F,F,F] (by kernel_rfl) rfl rfl ⟨ZA BKq1 0, ZA BKq1 1, ZA BKq0 0, ZA BKq0 1⟩ (fun hHeld => ?_)
 generalize wq6.drew = wq7 at HOq0 HOq1 HOq2 HOq3 HOq4 HOq5 BKq0 BKq1 HB hHeld ⊢
 refine take_ (i := 0) (N := some 27) (v := ?_) (a' := ?_) #[T,F,F,F,F] rfl rfl (by kernel_rfl) (fun _ _ _ h => h) (Or.inl ⟨by rfl, ?_⟩) hHeld ?_ ?_
 rotate_left
 ·(
 rintro w' ⟨sq0, sq1, sq2, sq3⟩
 go_simp
 with_reducible rfl)
 rotate_left
 ·(
 simp only [Act.put, List.setIfInBounds_toArray, List.set_cons_zero, List.set_cons_succ, i64_w, i32_w]
 rfl)
 refine take_ (i := 1) (N := some 28) (v := ?_) (a' := ?_) #[T,T,F,F,F] rfl rfl (by kernel_rfl) (fun _ _ _ h => h) (Or.inl ⟨by rfl, ?_⟩) hHeld ?_ ?_
 rotate_left
 ·(
 rintro w' ⟨sq0, sq1, sq2, sq3⟩
 go_simp
 with_reducible rfl)
 rotate_left
 ·(
 simp only [Act.put, List.setIfInBounds_toArray, List.set_cons_zero, List.set_cons_succ, i64_w, i32_w]
 rfl)
 refine one_ (i := 2) (N := some 29) #[T,T,T,F,F] rfl rfl (by kernel_rfl) (by decide) (fun K hK => ?_)
 refine ZGO Try.func10 #[.agg #[.slice A0_0 l0_0.length c0_0, .slice A0_1 l0_1.length c0_1]] ?_
 with_reducible refine (laws_toProg.calls k _ _ l0_0 _ _ l0_1 t635 t638 _ ?side1 ?side2 ?side3 ?side4 A13.out).mono ?_
 (case side1 => exact ZQ (Kd.C_below HR0_0.out HB.out))
 (case side2 => exact HC0_0.out)
 (case side3 => exact ZQ (Kd.C_below HR0_1.out HB.out))
 (case side4 => exact HC0_1.out)
 rintro e wq8 ⟨vq6, vq7, rfl, hoq0, hoq1, hb⟩
 refine ⟨_, rfl, ?_⟩
 have HOq6 := AM (Kd.R_lower (Kd.R_new' (Kd.R_new' hoq0 (Kd.R_lt (ZR HOq0.out))) (Kd.R_lt (ZR HOq3.out))) (below_size (ZB)))
 have HOq7 := AM (Kd.R_lower (Kd.R_new' (Kd.R_new' hoq1 (Kd.R_lt (ZR HOq1.out))) (Kd.R_lt (ZR HOq4.out))) (below_size (ZB)))
 replace HOq0 := AM (Kd.R_elder' (ZR HOq0.out) (Kd.R_base hoq0) hb)
 replace HOq1 := AM (Kd.R_elder' (ZR HOq1.out) (Kd.R_base hoq1) hb)
 replace HOq2 := AM (Kd.R_below (ZR HOq2.out) hb)
 replace HOq3 := AM (Kd.R_elder' (ZR HOq3.out) (Kd.R_base hoq0) hb)
 replace HOq4 := AM (Kd.R_elder' (ZR HOq4.out) (Kd.R_base hoq1) hb)
 replace HOq5 := AM (Kd.R_below (ZR HOq5.out) hb)
 replace BKq0 := ZW BKq0 hb
 replace BKq1 := ZW BKq1 hb
 replace HB := ZT HB hb
 (try clear hb)
 (try clear hb2)
 (try clear hk)
 (try clear hi)
 (try clear hoq0)
 (try clear hoq1)
 obtain ⟨Aoq6, coq6, eoq6⟩ := Kd.R_slice HOq6.out
 (first | subst eoq6 | (injection eoq6 with f1_ f2_ f3_; have fq0_ := f1_.symm; have fq1_ := f3_.symm; clear f1_ f2_ f3_; subst fq0_; subst fq1_))
 obtain ⟨Aoq7, coq7, eoq7⟩ := Kd.R_slice HOq7.out
 (first | subst eoq7 | (injection eoq7 with f1_ f2_ f3_; have fq0_ := f1_.symm; have fq1_ := f3_.symm; clear f1_ f2_ f3_; subst fq0_; subst fq1_))
 refine hK.out _ _ ⟨ZA BKq1 0, ZA BKq1 1, ZA BKq0 0, ZA BKq0 1⟩ (fun hHeld => ?_)
 clear hK K
 refine ZNO 29 ?_
 refine one_ (i := 3) (N := some 30) #[T,T,T,T,F] rfl rfl (by kernel_rfl) (by decide) (fun K hK => ?_)
 refine ZGO Try.func13 #[.agg #[.slice Aoq2 t624.length coq2, .slice Aoq3 t627.length coq3], .agg #[.slice Aoq6 t635.length coq6, .slice Aoq7 t638.length coq7]] ?_
 first
 | (
 (have z_ := tag1_; clear z_)
 with_reducible refine (laws_eqProg.calls k _ _ t624 _ _ t627 _ _ t635 _ _ t638 true _ ?side1 ?side2 ?side3 ?side4 ?side5 ?side6 ?side7 ?side8 A14.out).mono ?_
 (case side1 => exact ZQ ((Kd.R_reads' HOq3.out).2.2))
 (case side2 => exact (Kd.R_reads' HOq3.out).2.1)
 (case side3 => exact ZQ ((Kd.R_reads' HOq4.out).2.2))
 (case side4 => exact (Kd.R_reads' HOq4.out).2.1)
 (case side5 => exact ZQ ((Kd.R_reads' HOq6.out).2.2))
 (case side6 => exact (Kd.R_reads' HOq6.out).2.1)
 (case side7 => exact ZQ ((Kd.R_reads' HOq7.out).2.2))
 (case side8 => exact (Kd.R_reads' HOq7.out).2.1)
 rintro e wq9 ⟨rfl, hb⟩
 refine ⟨_, rfl, ?_⟩
 replace HOq0 := AM (Kd.R_below (ZR HOq0.out) hb)
 replace HOq1 := AM (Kd.R_below (ZR HOq1.out) hb)
 replace HOq2 := AM (Kd.R_below (ZR HOq2.out) hb)
 replace HOq3 := AM (Kd.R_below (ZR HOq3.out) hb)
 replace HOq4 := AM (Kd.R_below (ZR HOq4.out) hb)
 replace HOq5 := AM (Kd.R_below (ZR HOq5.out) hb)
 replace HOq6 := AM (Kd.R_below (ZR HOq6.out) hb)
 replace HOq7 := AM (Kd.R_below (ZR HOq7.out) hb)
 replace BKq0 := ZW BKq0 hb
 replace BKq1 := ZW BKq1 hb
 replace HB := ZT HB hb
 (try clear hb)
 (try clear hb2)
 (try clear hk)
 (try clear hi)
 refine hK.out _ _ ⟨ZA BKq1 0, ZA BKq1 1, ZA BKq0 0, ZA BKq0 1⟩ (fun hHeld => ?_)
 clear hK K
 refine ZNO 30 ?_
 refine pure_ (i := 4) (N := some 31) (v := ?_) (a' := ?_) #[T,T,T,T,T] rfl rfl (by kernel_rfl) (fun _ _ _ h => h) (Or.inl ⟨by rfl, ?_⟩) ?_ ?_
 rotate_left
 ·(
 intro w'
 go_simp
 with_reducible rfl)
 rotate_left
 ·(
 simp only [Act.put, List.setIfInBounds_toArray, List.set_cons_zero, List.set_cons_succ, i64_w, i32_w]
 rfl)
 refine done_ (by kernel_rfl) ?_
 have hczq4 := ZC2 wq9 BKq1
 have hfzq4 := ZF2 BKq1
 go_upto_region 14 with (first | ((with_reducible refine gate_callee (f := 14) rfl ?_); refine ZGL (some 34) Try.func14 #[.agg #[.slice Aoq2 t624.length coq2, .slice Aoq3 t627.length coq3], .int .i64 1] ?_; (with_reducible refine (laws_markProg.calls k (fun k_ => some k_ = (.slice Aoq2 t624.length coq2 : Value).ownBlock) (.slice Aoq2 t624.length coq2) t624 ?P1_ (.slice Aoq3 t627.length coq3) t627 1 t642 t643 w _ ?side1 ?side2 ?side3 A16.out).mono ?_); (case side1 => repeat (first | (with_reducible first | exact HB.out | apply below_alloc | apply pw_below_drewN | apply below_drew1 | refine below_set ?_ GEq0.out | refine below_set ?_ GEq1.out) | exact HB.out)); (case side2 => exact Kd.R_tight rfl HOq3.out); (case side3 => exact (Kd.R_types (Kd.R_apart' (Kd.R_apart' HOq4.out (Kd.R_typed HOq2.out) (by decide)) (Kd.R_typed HOq5.out) (by decide)) BKq0.out (by decide))); rintro e wq10 ⟨rfl, hyq0, hb, hkp⟩; refine ⟨_, rfl, ?_⟩; have nq0_ := AM (blk_kept (ZK BKq0.out) hkp (fun hs_ => Or.elim hs_ (fun e_ => (fun e_ => (Kd.R_ne HOq3.out BKq0.out (by decide)) e_) e_) (fun e_ => e_.2 rfl))); have nq3_ := AM (Kd.R_mono (ok' := fun k_ => some k_ ≠ (.slice Aoq4 t631.length coq4 : Value).ownBlock) (Kd.R_keptB (laws_markStepS.R_flat rfl ((Kd.R_apart' (Kd.R_apart' HOq2.out (Kd.R_typed HOq3.out) (by decide)) (Kd.R_typed HOq4.out) (by decide)))) hkp (fun k_ hk_ hs_ => Or.elim hs_ (fun e_ => by replace hk_ := hk_.1; exact (fun e_ => absurd e_ (by first | exact hk_.1.2 | simp [hk_])) e_) (fun e_ => absurd hk_.2 (e_.1.1.2)))) (fun k_ hk_ => by replace hk_ := And.intro hk_.1.1 hk_.2; first | exact hk_.1.1.1.2 | exact hk_.1.1.1 | simp [hk_])); have nq4_ := AM (Kd.R_reok rfl hyq0 (fun k_ e_ => HOq3.out.1 k_ e_)); have nq6_ := AM (Kd.R_mono (ok' := fun k_ => some k_ ≠ (.slice Aoq5 t621.length coq5 : Value).ownBlock) (Kd.R_keptB (laws_markStepS.R_flat rfl ((Kd.R_apart' (Kd.R_apart' HOq5.out (Kd.R_typed HOq3.out) (by decide)) (Kd.R_typed HOq4.out) (by decide)))) hkp (fun k_ hk_ hs_ => Or.elim hs_ (fun e_ => by replace hk_ := hk_.1; exact (fun e_ => absurd e_ (by first | exact hk_.1.2 | simp [hk_])) e_) (fun e_ => absurd hk_.2 (e_.1.2)))) (fun k_ hk_ => by replace hk_ := And.intro hk_.1.1 hk_.2; first | exact hk_.1.1.1.2 | exact hk_.1.1.1 | simp [hk_])); have nq9_ := AM (hb); clear BKq0 HOq0 HOq1 HOq2 HOq3 BKq1 HOq5 HOq6 HOq7 HB HOq4; have BKq0 := nq0_; have HOq2 := nq3_; have HOq3 := nq4_; have HOq5 := nq6_; have HB := nq9_; clear nq0_ nq3_ nq4_ nq6_ nq9_; (try clear hb); (try clear hkp); (try clear hyq0)))
 (try simp only [Act.put, List.setIfInBounds_toArray, List.set_cons_zero, List.set_cons_succ])
 go_cut [42] (fun v42 wc => ∃ (kq : Nat) (xq0_16 : Bool), v42 = .bool xq0_16 ∧ Aside0 (laws_FnExactTypeSets.j0 kq t621 t631 xq0_16 l0_0 l0_1 = some r) ∧ Aside0 (kq ≤ k) ∧ Aside0 (Kd.R (Kd.int .i64) 3 wc w.heap.size (fun k_ => some k_ ≠ ((.slice Aoq4 t631.length coq4) : Value).ownBlock) (.slice Aoq5 t621.length coq5) t621) ∧ Aside0 (Kd.R (Kd.int .i64) 3 wc w.heap.size (fun k_ => some k_ ≠ ((.slice Aoq5 t621.length coq5) : Value).ownBlock) (.slice Aoq4 t631.length coq4) t631) ∧ Aside0 (wc.heap[gbq0]? = some (.cells #[(.slice A0_0 l0_0.length c0_0), (.slice A0_1 l0_1.length c0_1)] 25 (0, 0))) ∧ Aside0 (Below w.heap.size w wc))
 case first => (
 have H := HC17.out
 clear HC17
 by_cases c43 : t642 < 0
 ·(
 rw [if_pos c43] at H
 have cq0b0 : decide (t642 < 0) = true := decide_eq_true c43
 clear c43
 (first | rw [cq0b0] | (simp only [i64_w, i32_w]; rw [cq0b0]) | skip)
 have H' := AM H
 clear H
 go_wp2
 go_meet
 case rel => exact ⟨_, (true), (by first | rfl | (simp; done) | (simp [*]; done)), H', ⟨by first | omega | exact Nat.le_refl _⟩, ⟨ZR HOq2.out⟩, ⟨ZR HOq5.out⟩, ⟨ZK BKq0.out⟩, ⟨ZB⟩⟩)
 ·(
 rw [if_neg c43] at H
 have cq0b0 : decide (t642 < 0) = false := decide_eq_false c43
 clear c43
 (first | rw [cq0b0] | (simp only [i64_w, i32_w]; rw [cq0b0]) | skip)
 replace H := Option.bind_eq_some_iff.mp H
 obtain ⟨t644, Aq0, H⟩ := H
 replace H : (laws_FnExactTypeSets.j0 k t621 t631 (!t644) l0_0 l0_1) = some r := H
 have Aq1 := AM Aq0
 clear Aq0
 have H' := AM H
 clear H
 go_wp2_with (first | (go_at_call 26; (with_reducible refine (laws_eqIntS.calls k _ _ t631 _ _ t621 t644 _ ?side1 ?side2 ?side3 ?side4 Aq1.out).mono ?_); (case side1 => exact ZQ ((Kd.R_reads' HOq5.out).2.2)); (case side2 => exact (Kd.R_reads' HOq5.out).2.1); (case side3 => exact ZQ ((Kd.R_reads' HOq2.out).2.2)); (case side4 => exact (Kd.R_reads' HOq2.out).2.1); rintro e w' ⟨rfl, ⟨nd, rfl⟩⟩))
 go_meet
 case rel => exact ⟨_, (!t644), (by first | rfl | (simp; done) | (simp [*]; done)), H', ⟨by first | omega | exact Nat.le_refl _⟩, ⟨ZR HOq2.out⟩, ⟨ZR HOq5.out⟩, ⟨ZK BKq0.out⟩, ⟨ZB⟩⟩))
 case rest => (
 clear HC17
 try clear c1
 try clear c2
 try clear p2
 try clear c3
 try clear c3b0
 try clear c4
 try clear c6
 try clear c8
 try clear c10
 try clear c12
 try clear c13
 try clear c14
 try clear c15
 try clear c24
 try clear c25
 try clear c26
 try clear c30
 try clear c43
 try clear cq0b0
 try clear hczq0
 try clear hczq1
 try clear hczq2
 try clear hczq3
 try clear hczq4
 try clear hcz5
 try clear hfzq0
 try clear hfzq1
 try clear hfzq2
 try clear hfzq3
 try clear hfzq4
 try clear hfz5
 obtain ⟨kq, xq0_16, rfl, HA, HJq0, HO_q0, HO_q1, BKq0, HB⟩ := hcut
 cases kq with
 | zero => exact absurd HA.out (by simp [laws_FnExactTypeSets.j0])
 | succ kj16 =>
  have H := HA.out
  clear HA
  simp only [laws_FnExactTypeSets.j0] at H
  by_cases cq1 : xq0_16 = true
  ·(
  subst cq1
  have H1 := H; rw [if_pos rfl] at H1
  clear H
  have H := H1
  clear H1
  obtain rfl := Option.some.inj H
  go_wp2
  go_ret
  exact ⟨ZE, ZB⟩)
  ·(
  replace cq1 := Bool.eq_false_iff.mpr cq1
  subst cq1
  have H1 := H; rw [if_neg ZFT] at H1
  clear H
  have H := H1
  clear H1
  replace H := Option.bind_eq_some_iff.mp H
  obtain ⟨⟨tq4, tq5⟩, Aq2, H⟩ := H
  replace H : ((laws_heldIntS.f kj16 tq5 1).bind fun tq0 => (if tq0 < 0 then (some false) else (if tq0 = tq4 then ((laws_toProg.f kj16 l0_0 l0_1).bind fun bt648 => ((impl_TypeSets.f kj16 bt648.1 bt648.2).bind fun tq1 => ((laws_eqIntS.f kj16 tq1 t621).bind fun tq2 => (if tq2 = true then ((laws_heldIntS.f kj16 tq5 1).bind fun tq3 => (if tq3 < 0 then (some false) else (if tq3 = tq4 then (some true) else (some false)))) else (some false))))) else (some false)))) = some r := H
  have Aq3 := AM Aq2
  clear Aq2
  replace H := Option.bind_eq_some_iff.mp H
  obtain ⟨tq0, Aq4, H⟩ := H
  replace H : (if tq0 < 0 then (some false) else (if tq0 = tq4 then ((laws_toProg.f kj16 l0_0 l0_1).bind fun bt648 => ((impl_TypeSets.f kj16 bt648.1 bt648.2).bind fun tq1 => ((laws_eqIntS.f kj16 tq1 t621).bind fun tq2 => (if tq2 = true then ((laws_heldIntS.f kj16 tq5 1).bind fun tq3 => (if tq3 < 0 then (some false) else (if tq3 = tq4 then (some true) else (some false)))) else (some false))))) else (some false))) = some r := H
  have Aq5 := AM Aq4
  clear Aq4
  by_cases c48 : tq0 < 0
  ·(
  rw [if_pos c48] at H
  have cq2b0 : decide (tq0 < 0) = true := decide_eq_true c48
  clear c48
  obtain rfl := Option.some.inj H
  go_wp2_with (first | ((with_reducible refine gate_callee (f := 27) rfl ?_); refine ZGL (some 45) Try.func27 #[.slice Aoq4 t631.length coq4, .int .i64 1] ?_; (with_reducible refine (laws_markIntS.calls kj16 (fun k_ => some k_ = (.slice Aoq4 t631.length coq4 : Value).ownBlock) (.slice Aoq4 t631.length coq4) t631 1 tq4 tq5 w _ ?side1 ?side2 Aq3.out).mono ?_); (case side1 => repeat (first | (with_reducible first | exact HB.out | apply below_alloc | apply pw_below_drewN | apply below_drew1 | refine below_set ?_ GEq0.out) | exact HB.out)); (case side2 => exact Kd.R_tight rfl HO_q1.out); rintro e wq11 ⟨rfl, hyq0, hb, hkp⟩; refine ⟨_, rfl, ?_⟩; replace HO_q0 := AM (Kd.R_mono (ok' := fun k_ => some k_ ≠ (.slice Aoq4 t631.length coq4 : Value).ownBlock) (Kd.R_keptB (HO_q0.out) hkp (fun k_ hk_ hs_ => (hk_) hs_)) (fun k_ hk_ => hk_.1)); replace BKq0 := AM (blk_kept (ZK BKq0.out) hkp (fun hs_ => (fun e_ => (Kd.R_ne HO_q1.out BKq0.out (by decide)) e_) hs_)); replace HO_q1 := AM (Kd.R_reok rfl hyq0 (fun k_ e_ => HO_q1.out.1 k_ e_)); replace HB := AM (hb); (try clear hb); (try clear hkp); (try clear hyq0)) | ((with_reducible refine gate_callee (f := 28) rfl ?_); refine goesL_ (some 48) rfl rfl Try.func28 (by kernel_rfl) rfl #[.slice Aoq4 tq5.length coq4, .int .i64 1] rfl (by (try simp only [List.map_toArray, List.map_cons, List.map_nil]); first | done | (rw [show tq5.length = t631.length from (Kd.R_reads' HO_q1.out).1.symm] <;> rfl) | rfl | (simp only [List.length_drop, List.length_take]; rfl)) ?_; (with_reducible refine (laws_heldIntS.calls kj16 _ _ tq5 1 tq0 _ ?side1 ?side2 Aq5.out).mono ?_); (case side1 => exact ZQ ((Kd.R_reads' HO_q1.out).2.2)); (case side2 => rw [show tq5.length = t631.length from (Kd.R_reads' HO_q1.out).1.symm]; exact (Kd.R_reads' HO_q1.out).2.1); rintro e w' ⟨rfl, ⟨nd, rfl⟩⟩; refine ⟨_, rfl, ?_⟩))
  go_ret
  exact ⟨ZE, ZB⟩)
  ·(
  rw [if_neg c48] at H
  have cq2b0 : decide (tq0 < 0) = false := decide_eq_false c48
  clear c48
  by_cases c50 : tq0 = tq4
  ·(
  rw [if_pos c50] at H
  have cq3b0 : (tq0 == tq4) = true := beq_iff_eq.mpr c50
  have cq3b1 : (tq0 != tq4) = false := bne_eq_false_iff_eq.mpr c50
  clear c50
  replace H := Option.bind_eq_some_iff.mp H
  obtain ⟨⟨tq6, tq7⟩, Aq6, H⟩ := H
  replace H : ((impl_TypeSets.f kj16 tq6 tq7).bind fun tq1 => ((laws_eqIntS.f kj16 tq1 t621).bind fun tq2 => (if tq2 = true then ((laws_heldIntS.f kj16 tq5 1).bind fun tq3 => (if tq3 < 0 then (some false) else (if tq3 = tq4 then (some true) else (some false)))) else (some false)))) = some r := H
  have Aq7 := AM Aq6
  clear Aq6
  replace H := Option.bind_eq_some_iff.mp H
  obtain ⟨tq1, Aq8, H⟩ := H
  replace H : ((laws_eqIntS.f kj16 tq1 t621).bind fun tq2 => (if tq2 = true then ((laws_heldIntS.f kj16 tq5 1).bind fun tq3 => (if tq3 < 0 then (some false) else (if tq3 = tq4 then (some true) else (some false)))) else (some false))) = some r := H
  have Aq9 := AM Aq8
  clear Aq8
  replace H := Option.bind_eq_some_iff.mp H
  obtain ⟨tq2, Aq10, H⟩ := H
  replace H : (if tq2 = true then ((laws_heldIntS.f kj16 tq5 1).bind fun tq3 => (if tq3 < 0 then (some false) else (if tq3 = tq4 then (some true) else (some false)))) else (some false)) = some r := H
  have Aq11 := AM Aq10
  clear Aq10
  by_cases cq4 : tq2 = true
  ·(
  subst cq4
  have H1 := H; rw [if_pos rfl] at H1
  clear H
  have H := H1
  clear H1
  replace H := Option.bind_eq_some_iff.mp H
  obtain ⟨tq3, Aq12, H⟩ := H
  replace H : (if tq3 < 0 then (some false) else (if tq3 = tq4 then (some true) else (some false))) = some r := H
  have Aq13 := AM Aq12
  clear Aq12
  by_cases c56 : tq3 < 0
  ·(
  rw [if_pos c56] at H
  have cq5b0 : decide (tq3 < 0) = true := decide_eq_true c56
  clear c56
  obtain rfl := Option.some.inj H
  go_wp2_with (first | ((with_reducible refine gate_callee (f := 27) rfl ?_); refine ZGL (some 45) Try.func27 #[.slice Aoq4 t631.length coq4, .int .i64 1] ?_; (with_reducible refine (laws_markIntS.calls kj16 (fun k_ => some k_ = (.slice Aoq4 t631.length coq4 : Value).ownBlock) (.slice Aoq4 t631.length coq4) t631 1 tq4 tq5 w _ ?side1 ?side2 Aq3.out).mono ?_); (case side1 => repeat (first | (with_reducible first | exact HB.out | apply below_alloc | apply pw_below_drewN | apply below_drew1 | refine below_set ?_ GEq0.out) | exact HB.out)); (case side2 => exact Kd.R_tight rfl HO_q1.out); rintro e wq12 ⟨rfl, hyq0, hb, hkp⟩; refine ⟨_, rfl, ?_⟩; replace HO_q0 := AM (Kd.R_mono (ok' := fun k_ => some k_ ≠ (.slice Aoq4 t631.length coq4 : Value).ownBlock) (Kd.R_keptB (HO_q0.out) hkp (fun k_ hk_ hs_ => (hk_) hs_)) (fun k_ hk_ => hk_.1)); replace BKq0 := AM (blk_kept (ZK BKq0.out) hkp (fun hs_ => (fun e_ => (Kd.R_ne HO_q1.out BKq0.out (by decide)) e_) hs_)); replace HO_q1 := AM (Kd.R_reok rfl hyq0 (fun k_ e_ => HO_q1.out.1 k_ e_)); replace HB := AM (hb); (try clear hb); (try clear hkp); (try clear hyq0)) | ((with_reducible refine gate_callee (f := 28) rfl ?_); refine goesL_ (some 48) rfl rfl Try.func28 (by kernel_rfl) rfl #[.slice Aoq4 tq5.length coq4, .int .i64 1] rfl (by (try simp only [List.map_toArray, List.map_cons, List.map_nil]); first | done | (rw [show tq5.length = t631.length from (Kd.R_reads' HO_q1.out).1.symm] <;> rfl) | rfl | (simp only [List.length_drop, List.length_take]; rfl)) ?_; (with_reducible refine (laws_heldIntS.calls kj16 _ _ tq5 1 tq0 _ ?side1 ?side2 Aq5.out).mono ?_); (case side1 => exact ZQ ((Kd.R_reads' HO_q1.out).2.2)); (case side2 => rw [show tq5.length = t631.length from (Kd.R_reads' HO_q1.out).1.symm]; exact (Kd.R_reads' HO_q1.out).2.1); rintro e w' ⟨rfl, ⟨nd, rfl⟩⟩; refine ⟨_, rfl, ?_⟩; have hczq5 := ZC2 wq12 BKq0; have hfzq5 := ZF2 BKq0) | ((with_reducible refine gate_callee (f := 10) rfl ?_); refine ZGL (some 55) Try.func10 #[.agg #[.slice A0_0 l0_0.length c0_0, .slice A0_1 l0_1.length c0_1]] ?_; (with_reducible refine (laws_toProg.calls kj16 _ _ l0_0 _ _ l0_1 tq6 tq7 _ ?side1 ?side2 ?side3 ?side4 Aq7.out).mono ?_); (case side1 => repeat (first | exact (Kd.C_below HR0_0.out (ZB)) | (with_reducible refine Kd.C_alloc ?_ _) | (with_reducible refine Kd.C_drewN ?_ _) | (with_reducible refine Kd.C_drew ?_))); (case side2 => exact HC0_0.out); (case side3 => repeat (first | exact (Kd.C_below HR0_1.out (ZB)) | (with_reducible refine Kd.C_alloc ?_ _) | (with_reducible refine Kd.C_drewN ?_ _) | (with_reducible refine Kd.C_drew ?_))); (case side4 => exact HC0_1.out); rintro e wq13 ⟨vq8, vq9, rfl, hoq0, hoq1, hb⟩; refine ⟨_, rfl, ?_⟩; have HOq8 := AM (Kd.R_lower hoq0 (below_size (ZB))); have HOq9 := AM (Kd.R_lower hoq1 (below_size (ZB))); replace HO_q0 := AM (Kd.R_below (ZR HO_q0.out) hb); replace HO_q1 := AM (Kd.R_below (ZR HO_q1.out) hb); replace BKq0 := ZW BKq0 hb; replace HB := ZT HB hb; clear hb; (try clear hoq0); (try clear hoq1); obtain ⟨Aoq8, coq8, eoq8⟩ := Kd.R_slice HOq8.out; subst eoq8; obtain ⟨Aoq9, coq9, eoq9⟩ := Kd.R_slice HOq9.out; subst eoq9) | ((with_reducible refine gate_callee (f := 25) rfl ?_); refine ZGL (some 56) Try.func25 #[.agg #[.slice Aoq8 tq6.length coq8, .slice Aoq9 tq7.length coq9]] ?_; (with_reducible refine (impl_TypeSets.calls kj16 _ _ tq6 _ _ tq7 tq1 _ ?side1 ?side2 ?side3 ?side4 Aq9.out).mono ?_); (case side1 => exact ZQ ((Kd.R_reads' HOq8.out).2.2)); (case side2 => exact (Kd.R_reads' HOq8.out).2.1); (case side3 => exact ZQ ((Kd.R_reads' HOq9.out).2.2)); (case side4 => exact (Kd.R_reads' HOq9.out).2.1); rintro e wq14 ⟨vq10, rfl, hoq0, hb⟩; refine ⟨_, rfl, ?_⟩; have HOq10 := AM (Kd.R_lower (Kd.R_new' (Kd.R_new' hoq0 (Kd.R_lt (ZR HO_q0.out))) (Kd.R_lt (ZR HO_q1.out))) (below_size (ZB))); replace HO_q0 := AM (Kd.R_elder' (ZR HO_q0.out) (Kd.R_base hoq0) hb); replace HO_q1 := AM (Kd.R_elder' (ZR HO_q1.out) (Kd.R_base hoq0) hb); replace HOq8 := AM (Kd.R_below (ZR HOq8.out) hb); replace HOq9 := AM (Kd.R_below (ZR HOq9.out) hb); replace BKq0 := ZW BKq0 hb; replace HB := ZT HB hb; clear hb; (try clear hoq0); obtain ⟨Aoq10, coq10, eoq10⟩ := Kd.R_slice HOq10.out; subst eoq10) | ((with_reducible refine gate_callee (f := 26) rfl ?_); refine ZGL (some 59) Try.func26 #[.slice Aoq10 tq1.length coq10, .slice Aoq5 t621.length coq5] ?_; (with_reducible refine (laws_eqIntS.calls kj16 _ _ tq1 _ _ t621 true _ ?side1 ?side2 ?side3 ?side4 Aq11.out).mono ?_); (case side1 => exact ZQ ((Kd.R_reads' HOq10.out).2.2)); (case side2 => exact (Kd.R_reads' HOq10.out).2.1); (case side3 => exact ZQ ((Kd.R_reads' HO_q0.out).2.2)); (case side4 => exact (Kd.R_reads' HO_q0.out).2.1); rintro e w' ⟨rfl, ⟨nd, rfl⟩⟩; refine ⟨_, rfl, ?_⟩) | ((with_reducible refine gate_callee (f := 28) rfl ?_); refine goesL_ (some 63) rfl rfl Try.func28 (by kernel_rfl) rfl #[.slice Aoq4 tq5.length coq4, .int .i64 1] rfl (by (try simp only [List.map_toArray, List.map_cons, List.map_nil]); first | done | (rw [show tq5.length = t631.length from (Kd.R_reads' HO_q1.out).1.symm] <;> rfl) | rfl | (simp only [List.length_drop, List.length_take]; rfl)) ?_; (with_reducible refine (laws_heldIntS.calls kj16 _ _ tq5 1 tq3 _ ?side1 ?side2 Aq13.out).mono ?_); (case side1 => exact ZQ ((Kd.R_reads' HO_q1.out).2.2)); (case side2 => rw [show tq5.length = t631.length from (Kd.R_reads' HO_q1.out).1.symm]; exact (Kd.R_reads' HO_q1.out).2.1); rintro e w' ⟨rfl, ⟨nd, rfl⟩⟩; refine ⟨_, rfl, ?_⟩))
  go_ret
  exact ⟨ZE, ZB⟩)
  ·(
  rw [if_neg c56] at H
  have cq5b0 : decide (tq3 < 0) = false := decide_eq_false c56
  clear c56
  by_cases c64 : tq3 = tq4
  ·(
  rw [if_pos c64] at H
  have cq6b0 : (tq3 == tq4) = true := beq_iff_eq.mpr c64
  have cq6b1 : (tq3 != tq4) = false := bne_eq_false_iff_eq.mpr c64
  clear c64
  obtain rfl := Option.some.inj H
  go_wp2_with (first | ((with_reducible refine gate_callee (f := 27) rfl ?_); refine ZGL (some 45) Try.func27 #[.slice Aoq4 t631.length coq4, .int .i64 1] ?_; (with_reducible refine (laws_markIntS.calls kj16 (fun k_ => some k_ = (.slice Aoq4 t631.length coq4 : Value).ownBlock) (.slice Aoq4 t631.length coq4) t631 1 tq4 tq5 w _ ?side1 ?side2 Aq3.out).mono ?_); (case side1 => repeat (first | (with_reducible first | exact HB.out | apply below_alloc | apply pw_below_drewN | apply below_drew1 | refine below_set ?_ GEq0.out) | exact HB.out)); (case side2 => exact Kd.R_tight rfl HO_q1.out); rintro e wq15 ⟨rfl, hyq0, hb, hkp⟩; refine ⟨_, rfl, ?_⟩; replace HO_q0 := AM (Kd.R_mono (ok' := fun k_ => some k_ ≠ (.slice Aoq4 t631.length coq4 : Value).ownBlock) (Kd.R_keptB (HO_q0.out) hkp (fun k_ hk_ hs_ => (hk_) hs_)) (fun k_ hk_ => hk_.1)); replace BKq0 := AM (blk_kept (ZK BKq0.out) hkp (fun hs_ => (fun e_ => (Kd.R_ne HO_q1.out BKq0.out (by decide)) e_) hs_)); replace HO_q1 := AM (Kd.R_reok rfl hyq0 (fun k_ e_ => HO_q1.out.1 k_ e_)); replace HB := AM (hb); (try clear hb); (try clear hkp); (try clear hyq0)) | ((with_reducible refine gate_callee (f := 28) rfl ?_); refine goesL_ (some 48) rfl rfl Try.func28 (by kernel_rfl) rfl #[.slice Aoq4 tq5.length coq4, .int .i64 1] rfl (by (try simp only [List.map_toArray, List.map_cons, List.map_nil]); first | done | (rw [show tq5.length = t631.length from (Kd.R_reads' HO_q1.out).1.symm] <;> rfl) | rfl | (simp only [List.length_drop, List.length_take]; rfl)) ?_; (with_reducible refine (laws_heldIntS.calls kj16 _ _ tq5 1 tq0 _ ?side1 ?side2 Aq5.out).mono ?_); (case side1 => exact ZQ ((Kd.R_reads' HO_q1.out).2.2)); (case side2 => rw [show tq5.length = t631.length from (Kd.R_reads' HO_q1.out).1.symm]; exact (Kd.R_reads' HO_q1.out).2.1); rintro e w' ⟨rfl, ⟨nd, rfl⟩⟩; refine ⟨_, rfl, ?_⟩; have hczq6 := ZC2 wq15 BKq0; have hfzq6 := ZF2 BKq0) | ((with_reducible refine gate_callee (f := 10) rfl ?_); refine ZGL (some 55) Try.func10 #[.agg #[.slice A0_0 l0_0.length c0_0, .slice A0_1 l0_1.length c0_1]] ?_; (with_reducible refine (laws_toProg.calls kj16 _ _ l0_0 _ _ l0_1 tq6 tq7 _ ?side1 ?side2 ?side3 ?side4 Aq7.out).mono ?_); (case side1 => repeat (first | exact (Kd.C_below HR0_0.out (ZB)) | (with_reducible refine Kd.C_alloc ?_ _) | (with_reducible refine Kd.C_drewN ?_ _) | (with_reducible refine Kd.C_drew ?_))); (case side2 => exact HC0_0.out); (case side3 => repeat (first | exact (Kd.C_below HR0_1.out (ZB)) | (with_reducible refine Kd.C_alloc ?_ _) | (with_reducible refine Kd.C_drewN ?_ _) | (with_reducible refine Kd.C_drew ?_))); (case side4 => exact HC0_1.out); rintro e wq16 ⟨vq8, vq9, rfl, hoq0, hoq1, hb⟩; refine ⟨_, rfl, ?_⟩; have HOq8 := AM (Kd.R_lower hoq0 (below_size (ZB))); have HOq9 := AM (Kd.R_lower hoq1 (below_size (ZB))); replace HO_q0 := AM (Kd.R_below (ZR HO_q0.out) hb); replace HO_q1 := AM (Kd.R_below (ZR HO_q1.out) hb); replace BKq0 := ZW BKq0 hb; replace HB := ZT HB hb; clear hb; (try clear hoq0); (try clear hoq1); obtain ⟨Aoq11, coq11, eoq11⟩ := Kd.R_slice HOq8.out; subst eoq11; obtain ⟨Aoq12, coq12, eoq12⟩ := Kd.R_slice HOq9.out; subst eoq12) | ((with_reducible refine gate_callee (f := 25) rfl ?_); refine ZGL (some 56) Try.func25 #[.agg #[.slice Aoq11 tq6.length coq11, .slice Aoq12 tq7.length coq12]] ?_; (with_reducible refine (impl_TypeSets.calls kj16 _ _ tq6 _ _ tq7 tq1 _ ?side1 ?side2 ?side3 ?side4 Aq9.out).mono ?_); (case side1 => exact ZQ ((Kd.R_reads' HOq8.out).2.2)); (case side2 => exact (Kd.R_reads' HOq8.out).2.1); (case side3 => exact ZQ ((Kd.R_reads' HOq9.out).2.2)); (case side4 => exact (Kd.R_reads' HOq9.out).2.1); rintro e wq17 ⟨vq10, rfl, hoq0, hb⟩; refine ⟨_, rfl, ?_⟩; have HOq10 := AM (Kd.R_lower (Kd.R_new' (Kd.R_new' hoq0 (Kd.R_lt (ZR HO_q0.out))) (Kd.R_lt (ZR HO_q1.out))) (below_size (ZB))); replace HO_q0 := AM (Kd.R_elder' (ZR HO_q0.out) (Kd.R_base hoq0) hb); replace HO_q1 := AM (Kd.R_elder' (ZR HO_q1.out) (Kd.R_base hoq0) hb); replace HOq8 := AM (Kd.R_below (ZR HOq8.out) hb); replace HOq9 := AM (Kd.R_below (ZR HOq9.out) hb); replace BKq0 := ZW BKq0 hb; replace HB := ZT HB hb; clear hb; (try clear hoq0); obtain ⟨Aoq13, coq13, eoq13⟩ := Kd.R_slice HOq10.out; subst eoq13) | ((with_reducible refine gate_callee (f := 26) rfl ?_); refine ZGL (some 59) Try.func26 #[.slice Aoq13 tq1.length coq13, .slice Aoq5 t621.length coq5] ?_; (with_reducible refine (laws_eqIntS.calls kj16 _ _ tq1 _ _ t621 true _ ?side1 ?side2 ?side3 ?side4 Aq11.out).mono ?_); (case side1 => exact ZQ ((Kd.R_reads' HOq10.out).2.2)); (case side2 => exact (Kd.R_reads' HOq10.out).2.1); (case side3 => exact ZQ ((Kd.R_reads' HO_q0.out).2.2)); (case side4 => exact (Kd.R_reads' HO_q0.out).2.1); rintro e w' ⟨rfl, ⟨nd, rfl⟩⟩; refine ⟨_, rfl, ?_⟩) | ((with_reducible refine gate_callee (f := 28) rfl ?_); refine goesL_ (some 63) rfl rfl Try.func28 (by kernel_rfl) rfl #[.slice Aoq4 tq5.length coq4, .int .i64 1] rfl (by (try simp only [List.map_toArray, List.map_cons, List.map_nil]); first | done | (rw [show tq5.length = t631.length from (Kd.R_reads' HO_q1.out).1.symm] <;> rfl) | rfl | (simp only [List.length_drop, List.length_take]; rfl)) ?_; (with_reducible refine (laws_heldIntS.calls kj16 _ _ tq5 1 tq3 _ ?side1 ?side2 Aq13.out).mono ?_); (case side1 => exact ZQ ((Kd.R_reads' HO_q1.out).2.2)); (case side2 => rw [show tq5.length = t631.length from (Kd.R_reads' HO_q1.out).1.symm]; exact (Kd.R_reads' HO_q1.out).2.1); rintro e w' ⟨rfl, ⟨nd, rfl⟩⟩; refine ⟨_, rfl, ?_⟩))
  go_ret
  exact ⟨ZE, ZB⟩)
  ·(
  rw [if_neg c64] at H
  have cq6b0 : (tq3 == tq4) = false := beq_eq_false_iff_ne.mpr c64
  have cq6b1 : (tq3 != tq4) = true := bne_iff_ne.mpr c64
  obtain rfl := Option.some.inj H
  go_wp2_with (first | ((with_reducible refine gate_callee (f := 27) rfl ?_); refine ZGL (some 45) Try.func27 #[.slice Aoq4 t631.length coq4, .int .i64 1] ?_; (with_reducible refine (laws_markIntS.calls kj16 (fun k_ => some k_ = (.slice Aoq4 t631.length coq4 : Value).ownBlock) (.slice Aoq4 t631.length coq4) t631 1 tq4 tq5 w _ ?side1 ?side2 Aq3.out).mono ?_); (case side1 => repeat (first | (with_reducible first | exact HB.out | apply below_alloc | apply pw_below_drewN | apply below_drew1 | refine below_set ?_ GEq0.out) | exact HB.out)); (case side2 => exact Kd.R_tight rfl HO_q1.out); rintro e wq18 ⟨rfl, hyq0, hb, hkp⟩; refine ⟨_, rfl, ?_⟩; replace HO_q0 := AM (Kd.R_mono (ok' := fun k_ => some k_ ≠ (.slice Aoq4 t631.length coq4 : Value).ownBlock) (Kd.R_keptB (HO_q0.out) hkp (fun k_ hk_ hs_ => (hk_) hs_)) (fun k_ hk_ => hk_.1)); replace BKq0 := AM (blk_kept (ZK BKq0.out) hkp (fun hs_ => (fun e_ => (Kd.R_ne HO_q1.out BKq0.out (by decide)) e_) hs_)); replace HO_q1 := AM (Kd.R_reok rfl hyq0 (fun k_ e_ => HO_q1.out.1 k_ e_)); replace HB := AM (hb); (try clear hb); (try clear hkp); (try clear hyq0)) | ((with_reducible refine gate_callee (f := 28) rfl ?_); refine goesL_ (some 48) rfl rfl Try.func28 (by kernel_rfl) rfl #[.slice Aoq4 tq5.length coq4, .int .i64 1] rfl (by (try simp only [List.map_toArray, List.map_cons, List.map_nil]); first | done | (rw [show tq5.length = t631.length from (Kd.R_reads' HO_q1.out).1.symm] <;> rfl) | rfl | (simp only [List.length_drop, List.length_take]; rfl)) ?_; (with_reducible refine (laws_heldIntS.calls kj16 _ _ tq5 1 tq0 _ ?side1 ?side2 Aq5.out).mono ?_); (case side1 => exact ZQ ((Kd.R_reads' HO_q1.out).2.2)); (case side2 => rw [show tq5.length = t631.length from (Kd.R_reads' HO_q1.out).1.symm]; exact (Kd.R_reads' HO_q1.out).2.1); rintro e w' ⟨rfl, ⟨nd, rfl⟩⟩; refine ⟨_, rfl, ?_⟩; have hczq7 := ZC2 wq18 BKq0; have hfzq7 := ZF2 BKq0) | ((with_reducible refine gate_callee (f := 10) rfl ?_); refine ZGL (some 55) Try.func10 #[.agg #[.slice A0_0 l0_0.length c0_0, .slice A0_1 l0_1.length c0_1]] ?_; (with_reducible refine (laws_toProg.calls kj16 _ _ l0_0 _ _ l0_1 tq6 tq7 _ ?side1 ?side2 ?side3 ?side4 Aq7.out).mono ?_); (case side1 => repeat (first | exact (Kd.C_below HR0_0.out (ZB)) | (with_reducible refine Kd.C_alloc ?_ _) | (with_reducible refine Kd.C_drewN ?_ _) | (with_reducible refine Kd.C_drew ?_))); (case side2 => exact HC0_0.out); (case side3 => repeat (first | exact (Kd.C_below HR0_1.out (ZB)) | (with_reducible refine Kd.C_alloc ?_ _) | (with_reducible refine Kd.C_drewN ?_ _) | (with_reducible refine Kd.C_drew ?_))); (case side4 => exact HC0_1.out); rintro e wq19 ⟨vq8, vq9, rfl, hoq0, hoq1, hb⟩; refine ⟨_, rfl, ?_⟩; have HOq8 := AM (Kd.R_lower hoq0 (below_size (ZB))); have HOq9 := AM (Kd.R_lower hoq1 (below_size (ZB))); replace HO_q0 := AM (Kd.R_below (ZR HO_q0.out) hb); replace HO_q1 := AM (Kd.R_below (ZR HO_q1.out) hb); replace BKq0 := ZW BKq0 hb; replace HB := ZT HB hb; clear hb; (try clear hoq0); (try clear hoq1); obtain ⟨Aoq14, coq14, eoq14⟩ := Kd.R_slice HOq8.out; subst eoq14; obtain ⟨Aoq15, coq15, eoq15⟩ := Kd.R_slice HOq9.out; subst eoq15) | ((with_reducible refine gate_callee (f := 25) rfl ?_); refine ZGL (some 56) Try.func25 #[.agg #[.slice Aoq14 tq6.length coq14, .slice Aoq15 tq7.length coq15]] ?_; (with_reducible refine (impl_TypeSets.calls kj16 _ _ tq6 _ _ tq7 tq1 _ ?side1 ?side2 ?side3 ?side4 Aq9.out).mono ?_); (case side1 => exact ZQ ((Kd.R_reads' HOq8.out).2.2)); (case side2 => exact (Kd.R_reads' HOq8.out).2.1); (case side3 => exact ZQ ((Kd.R_reads' HOq9.out).2.2)); (case side4 => exact (Kd.R_reads' HOq9.out).2.1); rintro e wq20 ⟨vq10, rfl, hoq0, hb⟩; refine ⟨_, rfl, ?_⟩; have HOq10 := AM (Kd.R_lower (Kd.R_new' (Kd.R_new' hoq0 (Kd.R_lt (ZR HO_q0.out))) (Kd.R_lt (ZR HO_q1.out))) (below_size (ZB))); replace HO_q0 := AM (Kd.R_elder' (ZR HO_q0.out) (Kd.R_base hoq0) hb); replace HO_q1 := AM (Kd.R_elder' (ZR HO_q1.out) (Kd.R_base hoq0) hb); replace HOq8 := AM (Kd.R_below (ZR HOq8.out) hb); replace HOq9 := AM (Kd.R_below (ZR HOq9.out) hb); replace BKq0 := ZW BKq0 hb; replace HB := ZT HB hb; clear hb; (try clear hoq0); obtain ⟨Aoq16, coq16, eoq16⟩ := Kd.R_slice HOq10.out; subst eoq16) | ((with_reducible refine gate_callee (f := 26) rfl ?_); refine ZGL (some 59) Try.func26 #[.slice Aoq16 tq1.length coq16, .slice Aoq5 t621.length coq5] ?_; (with_reducible refine (laws_eqIntS.calls kj16 _ _ tq1 _ _ t621 true _ ?side1 ?side2 ?side3 ?side4 Aq11.out).mono ?_); (case side1 => exact ZQ ((Kd.R_reads' HOq10.out).2.2)); (case side2 => exact (Kd.R_reads' HOq10.out).2.1); (case side3 => exact ZQ ((Kd.R_reads' HO_q0.out).2.2)); (case side4 => exact (Kd.R_reads' HO_q0.out).2.1); rintro e w' ⟨rfl, ⟨nd, rfl⟩⟩; refine ⟨_, rfl, ?_⟩) | ((with_reducible refine gate_callee (f := 28) rfl ?_); refine goesL_ (some 63) rfl rfl Try.func28 (by kernel_rfl) rfl #[.slice Aoq4 tq5.length coq4, .int .i64 1] rfl (by (try simp only [List.map_toArray, List.map_cons, List.map_nil]); first | done | (rw [show tq5.length = t631.length from (Kd.R_reads' HO_q1.out).1.symm] <;> rfl) | rfl | (simp only [List.length_drop, List.length_take]; rfl)) ?_; (with_reducible refine (laws_heldIntS.calls kj16 _ _ tq5 1 tq3 _ ?side1 ?side2 Aq13.out).mono ?_); (case side1 => exact ZQ ((Kd.R_reads' HO_q1.out).2.2)); (case side2 => rw [show tq5.length = t631.length from (Kd.R_reads' HO_q1.out).1.symm]; exact (Kd.R_reads' HO_q1.out).2.1); rintro e w' ⟨rfl, ⟨nd, rfl⟩⟩; refine ⟨_, rfl, ?_⟩))
  go_ret
  exact ⟨ZE, ZB⟩)))
  ·(
  replace cq4 := Bool.eq_false_iff.mpr cq4
  subst cq4
  have H1 := H; rw [if_neg ZFT] at H1
  clear H
  have H := H1
  clear H1
  obtain rfl := Option.some.inj H
  go_wp2_with (first | ((with_reducible refine gate_callee (f := 27) rfl ?_); refine ZGL (some 45) Try.func27 #[.slice Aoq4 t631.length coq4, .int .i64 1] ?_; (with_reducible refine (laws_markIntS.calls kj16 (fun k_ => some k_ = (.slice Aoq4 t631.length coq4 : Value).ownBlock) (.slice Aoq4 t631.length coq4) t631 1 tq4 tq5 w _ ?side1 ?side2 Aq3.out).mono ?_); (case side1 => repeat (first | (with_reducible first | exact HB.out | apply below_alloc | apply pw_below_drewN | apply below_drew1 | refine below_set ?_ GEq0.out) | exact HB.out)); (case side2 => exact Kd.R_tight rfl HO_q1.out); rintro e wq21 ⟨rfl, hyq0, hb, hkp⟩; refine ⟨_, rfl, ?_⟩; replace HO_q0 := AM (Kd.R_mono (ok' := fun k_ => some k_ ≠ (.slice Aoq4 t631.length coq4 : Value).ownBlock) (Kd.R_keptB (HO_q0.out) hkp (fun k_ hk_ hs_ => (hk_) hs_)) (fun k_ hk_ => hk_.1)); replace BKq0 := AM (blk_kept (ZK BKq0.out) hkp (fun hs_ => (fun e_ => (Kd.R_ne HO_q1.out BKq0.out (by decide)) e_) hs_)); replace HO_q1 := AM (Kd.R_reok rfl hyq0 (fun k_ e_ => HO_q1.out.1 k_ e_)); replace HB := AM (hb); (try clear hb); (try clear hkp); (try clear hyq0)) | ((with_reducible refine gate_callee (f := 28) rfl ?_); refine goesL_ (some 48) rfl rfl Try.func28 (by kernel_rfl) rfl #[.slice Aoq4 tq5.length coq4, .int .i64 1] rfl (by (try simp only [List.map_toArray, List.map_cons, List.map_nil]); first | done | (rw [show tq5.length = t631.length from (Kd.R_reads' HO_q1.out).1.symm] <;> rfl) | rfl | (simp only [List.length_drop, List.length_take]; rfl)) ?_; (with_reducible refine (laws_heldIntS.calls kj16 _ _ tq5 1 tq0 _ ?side1 ?side2 Aq5.out).mono ?_); (case side1 => exact ZQ ((Kd.R_reads' HO_q1.out).2.2)); (case side2 => rw [show tq5.length = t631.length from (Kd.R_reads' HO_q1.out).1.symm]; exact (Kd.R_reads' HO_q1.out).2.1); rintro e w' ⟨rfl, ⟨nd, rfl⟩⟩; refine ⟨_, rfl, ?_⟩; have hczq8 := ZC2 wq21 BKq0; have hfzq8 := ZF2 BKq0) | ((with_reducible refine gate_callee (f := 10) rfl ?_); refine ZGL (some 55) Try.func10 #[.agg #[.slice A0_0 l0_0.length c0_0, .slice A0_1 l0_1.length c0_1]] ?_; (with_reducible refine (laws_toProg.calls kj16 _ _ l0_0 _ _ l0_1 tq6 tq7 _ ?side1 ?side2 ?side3 ?side4 Aq7.out).mono ?_); (case side1 => repeat (first | exact (Kd.C_below HR0_0.out (ZB)) | (with_reducible refine Kd.C_alloc ?_ _) | (with_reducible refine Kd.C_drewN ?_ _) | (with_reducible refine Kd.C_drew ?_))); (case side2 => exact HC0_0.out); (case side3 => repeat (first | exact (Kd.C_below HR0_1.out (ZB)) | (with_reducible refine Kd.C_alloc ?_ _) | (with_reducible refine Kd.C_drewN ?_ _) | (with_reducible refine Kd.C_drew ?_))); (case side4 => exact HC0_1.out); rintro e wq22 ⟨vq8, vq9, rfl, hoq0, hoq1, hb⟩; refine ⟨_, rfl, ?_⟩; have HOq8 := AM (Kd.R_lower hoq0 (below_size (ZB))); have HOq9 := AM (Kd.R_lower hoq1 (below_size (ZB))); replace HO_q0 := AM (Kd.R_below (ZR HO_q0.out) hb); replace HO_q1 := AM (Kd.R_below (ZR HO_q1.out) hb); replace BKq0 := ZW BKq0 hb; replace HB := ZT HB hb; clear hb; (try clear hoq0); (try clear hoq1); obtain ⟨Aoq17, coq17, eoq17⟩ := Kd.R_slice HOq8.out; subst eoq17; obtain ⟨Aoq18, coq18, eoq18⟩ := Kd.R_slice HOq9.out; subst eoq18) | ((with_reducible refine gate_callee (f := 25) rfl ?_); refine ZGL (some 56) Try.func25 #[.agg #[.slice Aoq17 tq6.length coq17, .slice Aoq18 tq7.length coq18]] ?_; (with_reducible refine (impl_TypeSets.calls kj16 _ _ tq6 _ _ tq7 tq1 _ ?side1 ?side2 ?side3 ?side4 Aq9.out).mono ?_); (case side1 => exact ZQ ((Kd.R_reads' HOq8.out).2.2)); (case side2 => exact (Kd.R_reads' HOq8.out).2.1); (case side3 => exact ZQ ((Kd.R_reads' HOq9.out).2.2)); (case side4 => exact (Kd.R_reads' HOq9.out).2.1); rintro e wq23 ⟨vq10, rfl, hoq0, hb⟩; refine ⟨_, rfl, ?_⟩; have HOq10 := AM (Kd.R_lower (Kd.R_new' (Kd.R_new' hoq0 (Kd.R_lt (ZR HO_q0.out))) (Kd.R_lt (ZR HO_q1.out))) (below_size (ZB))); replace HO_q0 := AM (Kd.R_elder' (ZR HO_q0.out) (Kd.R_base hoq0) hb); replace HO_q1 := AM (Kd.R_elder' (ZR HO_q1.out) (Kd.R_base hoq0) hb); replace HOq8 := AM (Kd.R_below (ZR HOq8.out) hb); replace HOq9 := AM (Kd.R_below (ZR HOq9.out) hb); replace BKq0 := ZW BKq0 hb; replace HB := ZT HB hb; clear hb; (try clear hoq0); obtain ⟨Aoq19, coq19, eoq19⟩ := Kd.R_slice HOq10.out; subst eoq19) | ((with_reducible refine gate_callee (f := 26) rfl ?_); refine ZGL (some 59) Try.func26 #[.slice Aoq19 tq1.length coq19, .slice Aoq5 t621.length coq5] ?_; (with_reducible refine (laws_eqIntS.calls kj16 _ _ tq1 _ _ t621 false _ ?side1 ?side2 ?side3 ?side4 Aq11.out).mono ?_); (case side1 => exact ZQ ((Kd.R_reads' HOq10.out).2.2)); (case side2 => exact (Kd.R_reads' HOq10.out).2.1); (case side3 => exact ZQ ((Kd.R_reads' HO_q0.out).2.2)); (case side4 => exact (Kd.R_reads' HO_q0.out).2.1); rintro e w' ⟨rfl, ⟨nd, rfl⟩⟩; refine ⟨_, rfl, ?_⟩))
  go_ret
  exact ⟨ZE, ZB⟩))
  ·(
  rw [if_neg c50] at H
  have cq3b0 : (tq0 == tq4) = false := beq_eq_false_iff_ne.mpr c50
  have cq3b1 : (tq0 != tq4) = true := bne_iff_ne.mpr c50
  obtain rfl := Option.some.inj H
  go_wp2_with (first | ((with_reducible refine gate_callee (f := 27) rfl ?_); refine ZGL (some 45) Try.func27 #[.slice Aoq4 t631.length coq4, .int .i64 1] ?_; (with_reducible refine (laws_markIntS.calls kj16 (fun k_ => some k_ = (.slice Aoq4 t631.length coq4 : Value).ownBlock) (.slice Aoq4 t631.length coq4) t631 1 tq4 tq5 w _ ?side1 ?side2 Aq3.out).mono ?_); (case side1 => repeat (first | (with_reducible first | exact HB.out | apply below_alloc | apply pw_below_drewN | apply below_drew1 | refine below_set ?_ GEq0.out) | exact HB.out)); (case side2 => exact Kd.R_tight rfl HO_q1.out); rintro e wq24 ⟨rfl, hyq0, hb, hkp⟩; refine ⟨_, rfl, ?_⟩; replace HO_q0 := AM (Kd.R_mono (ok' := fun k_ => some k_ ≠ (.slice Aoq4 t631.length coq4 : Value).ownBlock) (Kd.R_keptB (HO_q0.out) hkp (fun k_ hk_ hs_ => (hk_) hs_)) (fun k_ hk_ => hk_.1)); replace BKq0 := AM (blk_kept (ZK BKq0.out) hkp (fun hs_ => (fun e_ => (Kd.R_ne HO_q1.out BKq0.out (by decide)) e_) hs_)); replace HO_q1 := AM (Kd.R_reok rfl hyq0 (fun k_ e_ => HO_q1.out.1 k_ e_)); replace HB := AM (hb); (try clear hb); (try clear hkp); (try clear hyq0)) | ((with_reducible refine gate_callee (f := 28) rfl ?_); refine goesL_ (some 48) rfl rfl Try.func28 (by kernel_rfl) rfl #[.slice Aoq4 tq5.length coq4, .int .i64 1] rfl (by (try simp only [List.map_toArray, List.map_cons, List.map_nil]); first | done | (rw [show tq5.length = t631.length from (Kd.R_reads' HO_q1.out).1.symm] <;> rfl) | rfl | (simp only [List.length_drop, List.length_take]; rfl)) ?_; (with_reducible refine (laws_heldIntS.calls kj16 _ _ tq5 1 tq0 _ ?side1 ?side2 Aq5.out).mono ?_); (case side1 => exact ZQ ((Kd.R_reads' HO_q1.out).2.2)); (case side2 => rw [show tq5.length = t631.length from (Kd.R_reads' HO_q1.out).1.symm]; exact (Kd.R_reads' HO_q1.out).2.1); rintro e w' ⟨rfl, ⟨nd, rfl⟩⟩; refine ⟨_, rfl, ?_⟩))
  go_ret
  exact ⟨ZE, ZB⟩)))))
 | (
 (have z_ := tag2_; clear z_)
 with_reducible refine (laws_eqProg.calls k _ _ t624 _ _ t627 _ _ t635 _ _ t638 false _ ?side1 ?side2 ?side3 ?side4 ?side5 ?side6 ?side7 ?side8 A14.out).mono ?_
 (case side1 => exact ZQ ((Kd.R_reads' HOq3.out).2.2))
 (case side2 => exact (Kd.R_reads' HOq3.out).2.1)
 (case side3 => exact ZQ ((Kd.R_reads' HOq4.out).2.2))
 (case side4 => exact (Kd.R_reads' HOq4.out).2.1)
 (case side5 => exact ZQ ((Kd.R_reads' HOq6.out).2.2))
 (case side6 => exact (Kd.R_reads' HOq6.out).2.1)
 (case side7 => exact ZQ ((Kd.R_reads' HOq7.out).2.2))
 (case side8 => exact (Kd.R_reads' HOq7.out).2.1)
 rintro e wq9 ⟨rfl, hb⟩
 refine ⟨_, rfl, ?_⟩
 replace HOq0 := AM (Kd.R_below (ZR HOq0.out) hb)
 replace HOq1 := AM (Kd.R_below (ZR HOq1.out) hb)
 replace HOq2 := AM (Kd.R_below (ZR HOq2.out) hb)
 replace HOq3 := AM (Kd.R_below (ZR HOq3.out) hb)
 replace HOq4 := AM (Kd.R_below (ZR HOq4.out) hb)
 replace HOq5 := AM (Kd.R_below (ZR HOq5.out) hb)
 replace HOq6 := AM (Kd.R_below (ZR HOq6.out) hb)
 replace HOq7 := AM (Kd.R_below (ZR HOq7.out) hb)
 replace BKq0 := ZW BKq0 hb
 replace BKq1 := ZW BKq1 hb
 replace HB := ZT HB hb
 (try clear hb)
 (try clear hb2)
 (try clear hk)
 (try clear hi)
 refine hK.out _ _ ⟨ZA BKq1 0, ZA BKq1 1, ZA BKq0 0, ZA BKq0 1⟩ (fun hHeld => ?_)
 clear hK K
 refine ZNO 30 ?_
 refine pure_ (i := 4) (N := some 31) (v := ?_) (a' := ?_) #[T,T,T,T,T] rfl rfl (by kernel_rfl) (fun _ _ _ h => h) (Or.inl ⟨by rfl, ?_⟩) ?_ ?_
 rotate_left
 ·(
 intro w'
 go_simp
 with_reducible rfl)
 rotate_left
 ·(
 simp only [Act.put, List.setIfInBounds_toArray, List.set_cons_zero, List.set_cons_succ, i64_w, i32_w]
 rfl)
 refine done_ (by kernel_rfl) ?_
 try go_wp2
 go_ret
 exact ⟨ZE, ZB⟩))
 | (
 (have z_ := tag3_; clear z_)
 go_wp2_with (first | ((with_reducible refine gate_dst (N := 1) rfl ?_); refine ZX (N := 1) (cs := #[.slice A0_0 l0_0.length c0_0, .slice A0_1 l0_1.length c0_1]) (t := 25) ?_; intro gbq0 hg wq0 hbox hb; have BKq0 := AM (hbox); have GWq0 : Aside0 (w.heap.size ≤ gbq0) := ZS hg; have GEq0 : Aside0 (w.heap.size ≤ gbq0) := ZS hg; replace HB := ZT HB hb; clear hb hbox hg; have hczq0 := ZC2 wq0 BKq0; have hfzq0 := ZF2 BKq0) | ((with_reducible refine gate_callee (f := 8) rfl ?_); refine ZGL (some 13) Try.func8 #[.agg #[.slice A0_0 l0_0.length c0_0, .slice A0_1 l0_1.length c0_1], .int .i64 1048576] ?_; (with_reducible refine (laws_szProg.calls k _ _ l0_0 _ _ l0_1 1048576 t614 _ ?side1 ?side2 ?side3 ?side4 A2.out).mono ?_); (case side1 => exact ZQ (Kd.C_below HR0_0.out HB.out)); (case side2 => exact HC0_0.out); (case side3 => exact ZQ (Kd.C_below HR0_1.out HB.out)); (case side4 => exact HC0_1.out); rintro e wq1 ⟨rfl, hb⟩; refine ⟨_, rfl, ?_⟩; replace BKq0 := ZW BKq0 hb; replace HB := ZT HB hb; clear hb; have hczq1 := ZC2 wq1 BKq0; have hfzq1 := ZF2 BKq0) | ((with_reducible refine gate_callee (f := 10) rfl ?_); refine ZGL (some 17) Try.func10 #[.agg #[.slice A0_0 l0_0.length c0_0, .slice A0_1 l0_1.length c0_1]] ?_; (with_reducible refine (laws_toProg.calls k _ _ l0_0 _ _ l0_1 t615 t618 _ ?side1 ?side2 ?side3 ?side4 A7.out).mono ?_); (case side1 => exact ZQ (Kd.C_below HR0_0.out HB.out)); (case side2 => exact HC0_0.out); (case side3 => exact ZQ (Kd.C_below HR0_1.out HB.out)); (case side4 => exact HC0_1.out); rintro e wq2 ⟨vq0, vq1, rfl, hoq0, hoq1, hb⟩; refine ⟨_, rfl, ?_⟩; have HOq0 := AM (Kd.R_lower hoq0 (below_size (ZB))); have HOq1 := AM (Kd.R_lower hoq1 (below_size (ZB))); replace BKq0 := ZW BKq0 hb; replace HB := ZT HB hb; clear hb; (try clear hoq0); (try clear hoq1); obtain ⟨Aoq0, coq0, eoq0⟩ := Kd.R_slice HOq0.out; subst eoq0; obtain ⟨Aoq1, coq1, eoq1⟩ := Kd.R_slice HOq1.out; subst eoq1) | ((with_reducible refine gate_callee (f := 24) rfl ?_); refine ZGL (some 18) Try.func24 #[.agg #[.slice Aoq0 t615.length coq0, .slice Aoq1 t618.length coq1]] ?_; (with_reducible refine (spec_TypeSets.calls k _ _ t615 _ _ t618 t621 _ ?side1 ?side2 ?side3 ?side4 A8.out).mono ?_); (case side1 => exact ZQ ((Kd.R_reads' HOq0.out).2.2)); (case side2 => exact (Kd.R_reads' HOq0.out).2.1); (case side3 => exact ZQ ((Kd.R_reads' HOq1.out).2.2)); (case side4 => exact (Kd.R_reads' HOq1.out).2.1); rintro e wq3 ⟨vq2, rfl, hoq0, hb⟩; refine ⟨_, rfl, ?_⟩; have HOq2 := AM (Kd.R_lower hoq0 (below_size (ZB))); replace HOq0 := AM (Kd.R_below (ZR HOq0.out) hb); replace HOq1 := AM (Kd.R_below (ZR HOq1.out) hb); replace BKq0 := ZW BKq0 hb; replace HB := ZT HB hb; clear hb; (try clear hoq0); have hczq2 := ZC2 wq3 BKq0; have hfzq2 := ZF2 BKq0) | ((with_reducible refine gate_callee (f := 10) rfl ?_); refine ZGL (some 20) Try.func10 #[.agg #[.slice A0_0 l0_0.length c0_0, .slice A0_1 l0_1.length c0_1]] ?_; (with_reducible refine (laws_toProg.calls k _ _ l0_0 _ _ l0_1 t624 t627 _ ?side1 ?side2 ?side3 ?side4 A9.out).mono ?_); (case side1 => exact ZQ (Kd.C_below HR0_0.out HB.out)); (case side2 => exact HC0_0.out); (case side3 => exact ZQ (Kd.C_below HR0_1.out HB.out)); (case side4 => exact HC0_1.out); rintro e wq4 ⟨vq3, vq4, rfl, hoq0, hoq1, hb⟩; refine ⟨_, rfl, ?_⟩; have HOq3 := AM (Kd.R_lower (Kd.R_new' hoq0 (Kd.R_lt (ZR HOq0.out))) (below_size (ZB))); have HOq4 := AM (Kd.R_lower (Kd.R_new' hoq1 (Kd.R_lt (ZR HOq1.out))) (below_size (ZB))); replace HOq0 := AM (Kd.R_elder' (ZR HOq0.out) (Kd.R_base hoq0) hb); replace HOq1 := AM (Kd.R_elder' (ZR HOq1.out) (Kd.R_base hoq1) hb); replace HOq2 := AM (Kd.R_below (ZR HOq2.out) hb); replace BKq0 := ZW BKq0 hb; replace HB := ZT HB hb; clear hb; (try clear hoq0); (try clear hoq1)) | ((with_reducible refine gate_dst (N := 5) rfl ?_); refine ZX (N := 5) (cs := #[.slice none 0 0, .slice none 0 0]) (t := 32) ?_; intro gbq1 hg wq5 hbox hb; have BKq1 := AM (hbox); have GWq1 : Aside0 (w.heap.size ≤ gbq1) := ZS hg; have GEq1 : Aside0 (w.heap.size ≤ gbq1) := ZS hg; have NBq0_630 : Aside0 (gbq0 ≠ gbq1) := ZN hg BKq0; have NBq1_613 : Aside0 (gbq1 ≠ gbq0) := ZM hg BKq0; replace HOq0 := AM (Kd.R_below (ZR HOq0.out) hb); replace HOq1 := AM (Kd.R_below (ZR HOq1.out) hb); replace HOq2 := AM (Kd.R_below (ZR HOq2.out) hb); replace HOq3 := AM (Kd.R_below (ZR HOq3.out) hb); replace HOq4 := AM (Kd.R_below (ZR HOq4.out) hb); replace BKq0 := ZW BKq0 hb; replace HB := ZT HB hb; clear hb hbox hg; obtain ⟨Aoq2, coq2, eoq2⟩ := Kd.R_slice HOq3.out; subst eoq2; have hnbq0 := NBq1_613.out; have hncq0 := NBq0_630.out; have hczq3 := ZC2 wq5 BKq1; have hfzq3 := ZF2 BKq1; obtain ⟨Aoq3, coq3, eoq3⟩ := Kd.R_slice HOq4.out; subst eoq3) | ((with_reducible refine gate_callee (f := 25) rfl ?_); refine ZGL (some 22) Try.func25 #[.agg #[.slice Aoq2 t624.length coq2, .slice Aoq3 t627.length coq3]] ?_; (with_reducible refine (impl_TypeSets.calls k _ _ t624 _ _ t627 t631 _ ?side1 ?side2 ?side3 ?side4 A10.out).mono ?_); (case side1 => refine (Kd.R_reads' (e := 60) (base := w.heap.size) (ok := fun k_ => (True ∧ some k_ ≠ (.slice Aoq0 t615.length coq0 : Value).ownBlock)) (n := t624.length) (c := coq2) ?_).2.2; exact (by (with_reducible repeat (first | apply Kd.R_alloc | apply Kd.R_drewN | apply Kd.R_drew)); exact (Kd.R_mono (Kd.R_far (p := ⟨gbq1, 1, none⟩) (Kd.R_far (p := ⟨gbq1, 0, none⟩) (Kd.R_types HOq3.out BKq1.out (by decide)) (fun _ hk => by first | exact hk.2 | simp [hk]) (.slice Aoq2 t624.length coq2)) (fun _ hk => by first | exact hk.2 | simp [hk]) (.slice Aoq3 t627.length coq3)) (fun _ h_ => h_.1)))); (case side2 => exact (Kd.R_reads' HOq3.out).2.1); (case side3 => refine (Kd.R_reads' (e := 50) (base := w.heap.size) (ok := fun k_ => (True ∧ some k_ ≠ (.slice Aoq1 t618.length coq1 : Value).ownBlock)) (n := t627.length) (c := coq3) ?_).2.2; exact (by (with_reducible repeat (first | apply Kd.R_alloc | apply Kd.R_drewN | apply Kd.R_drew)); exact (Kd.R_mono (Kd.R_far (p := ⟨gbq1, 1, none⟩) (Kd.R_far (p := ⟨gbq1, 0, none⟩) (Kd.R_types HOq4.out BKq1.out (by decide)) (fun _ hk => by first | exact hk.2 | simp [hk]) (.slice Aoq2 t624.length coq2)) (fun _ hk => by first | exact hk.2 | simp [hk]) (.slice Aoq3 t627.length coq3)) (fun _ h_ => h_.1)))); (case side4 => exact (Kd.R_reads' HOq4.out).2.1); rintro e wq6 ⟨vq5, rfl, hoq0, hb⟩; refine ⟨_, rfl, ?_⟩; have HOq5 := AM (Kd.R_lower (Kd.R_new' hoq0 (Kd.R_lt (by (with_reducible repeat (first | apply Kd.R_alloc | apply Kd.R_drewN | apply Kd.R_drew)); exact (Kd.R_mono (Kd.R_far (p := ⟨gbq1, 1, none⟩) (Kd.R_far (p := ⟨gbq1, 0, none⟩) (Kd.R_types HOq2.out BKq1.out (by decide)) (fun _ hk => by first | exact hk.2 | simp [hk]) (.slice Aoq2 t624.length coq2)) (fun _ hk => by first | exact hk.2 | simp [hk]) (.slice Aoq3 t627.length coq3)) (fun _ h_ => h_.1))))) (below_size (ZB))); replace HOq0 := AM (Kd.R_below (by (with_reducible repeat (first | apply Kd.R_alloc | apply Kd.R_drewN | apply Kd.R_drew)); exact (Kd.R_mono (Kd.R_far (p := ⟨gbq1, 1, none⟩) (Kd.R_far (p := ⟨gbq1, 0, none⟩) (Kd.R_types HOq0.out BKq1.out (by decide)) (fun _ hk => by first | exact hk.2 | simp [hk]) (.slice Aoq2 t624.length coq2)) (fun _ hk => by first | exact hk.2 | simp [hk]) (.slice Aoq3 t627.length coq3)) (fun _ h_ => h_.1))) hb); replace HOq1 := AM (Kd.R_below (by (with_reducible repeat (first | apply Kd.R_alloc | apply Kd.R_drewN | apply Kd.R_drew)); exact (Kd.R_mono (Kd.R_far (p := ⟨gbq1, 1, none⟩) (Kd.R_far (p := ⟨gbq1, 0, none⟩) (Kd.R_types HOq1.out BKq1.out (by decide)) (fun _ hk => by first | exact hk.2 | simp [hk]) (.slice Aoq2 t624.length coq2)) (fun _ hk => by first | exact hk.2 | simp [hk]) (.slice Aoq3 t627.length coq3)) (fun _ h_ => h_.1))) hb); replace HOq2 := AM (Kd.R_elder' (by (with_reducible repeat (first | apply Kd.R_alloc | apply Kd.R_drewN | apply Kd.R_drew)); exact (Kd.R_mono (Kd.R_far (p := ⟨gbq1, 1, none⟩) (Kd.R_far (p := ⟨gbq1, 0, none⟩) (Kd.R_types HOq2.out BKq1.out (by decide)) (fun _ hk => by first | exact hk.2 | simp [hk]) (.slice Aoq2 t624.length coq2)) (fun _ hk => by first | exact hk.2 | simp [hk]) (.slice Aoq3 t627.length coq3)) (fun _ h_ => h_.1))) (Kd.R_base hoq0) hb); replace HOq3 := AM (Kd.R_below (by (with_reducible repeat (first | apply Kd.R_alloc | apply Kd.R_drewN | apply Kd.R_drew)); exact (Kd.R_mono (Kd.R_far (p := ⟨gbq1, 1, none⟩) (Kd.R_far (p := ⟨gbq1, 0, none⟩) (Kd.R_types HOq3.out BKq1.out (by decide)) (fun _ hk => by first | exact hk.2 | simp [hk]) (.slice Aoq2 t624.length coq2)) (fun _ hk => by first | exact hk.2 | simp [hk]) (.slice Aoq3 t627.length coq3)) (fun _ h_ => h_.1))) hb); replace HOq4 := AM (Kd.R_below (by (with_reducible repeat (first | apply Kd.R_alloc | apply Kd.R_drewN | apply Kd.R_drew)); exact (Kd.R_mono (Kd.R_far (p := ⟨gbq1, 1, none⟩) (Kd.R_far (p := ⟨gbq1, 0, none⟩) (Kd.R_types HOq4.out BKq1.out (by decide)) (fun _ hk => by first | exact hk.2 | simp [hk]) (.slice Aoq2 t624.length coq2)) (fun _ hk => by first | exact hk.2 | simp [hk]) (.slice Aoq3 t627.length coq3)) (fun _ h_ => h_.1))) hb); replace BKq0 := ZV #[.slice A0_0 l0_0.length c0_0, .slice A0_1 l0_1.length c0_1] BKq0 hb; replace BKq1 := ZV #[.slice Aoq2 t624.length coq2, .slice Aoq3 t627.length coq3] BKq1 hb; replace HB := ZT HB hb; clear hb; (try clear hoq0); obtain ⟨Aoq4, coq4, eoq4⟩ := Kd.R_slice HOq5.out; subst eoq4; obtain ⟨Aoq5, coq5, eoq5⟩ := Kd.R_slice HOq2.out; subst eoq5) | ((with_reducible refine gate_callee (f := 26) rfl ?_); refine ZGL (some 25) Try.func26 #[.slice Aoq4 t631.length coq4, .slice Aoq5 t621.length coq5] ?_; (with_reducible refine (laws_eqIntS.calls k _ _ t631 _ _ t621 false _ ?side1 ?side2 ?side3 ?side4 A11.out).mono ?_); (case side1 => exact ZQ ((Kd.R_reads' HOq5.out).2.2)); (case side2 => exact (Kd.R_reads' HOq5.out).2.1); (case side3 => exact ZQ ((Kd.R_reads' HOq2.out).2.2)); (case side4 => exact (Kd.R_reads' HOq2.out).2.1); rintro e w' ⟨rfl, ⟨nd, rfl⟩⟩; refine ⟨_, rfl, ?_⟩))
 go_ret
 exact ⟨ZE, ZB⟩))

end Go.Proofs.Ytaflodibibbakaa.A
