/- What Go functions compute, as Lean functions, and for each its contract: for every input at which the Lean function answers the call returns that; written by wip/tools/pr.py over the kit's print. -/
import Derived.Test.YtcffnnedghgmaaaAx0
import Derived.Test.YtcffnnedghgmaaaAx10
import Derived.Test.YtcffnnedghgmaaaAx13
import Derived.Test.YtcffnnedghgmaaaAx16
import Derived.Test.YtcffnnedghgmaaaAx32
import Derived.Test.YtcffnnedghgmaaaAx39
namespace Go.Proofs.Ytcffnnedghgmaaa.A
open Go.RowKit Go.Proofs.YtcffnnedghgmaaaW.PrintWords Go.Proofs.YtcffnnedghgmaaaW.PrintLast Go.Proofs.YtcffnnedghgmaaaW.PrintMore
attribute [local go_sem] max2_int min2_int max_two min_two max_three min_three max_four min_four   -- for this text's walks alone
set_option linter.unusedVariables false
set_option linter.unusedSimpArgs false

/-! ### laws_FnExactTypeOk: function 24 -/
def laws_FnExactTypeOk.f (k : Nat) (l0_0 : List (S114)) (l0_1 : List (S112)) : Option (Bool) := (laws_szProg.f k l0_0 l0_1 1048576).bind fun t564 => (if t564 < 0 then (some true) else ((laws_toProg.f k l0_0 l0_1).bind fun bt565 => ((spec_TypeOk.f k bt565.1 bt565.2).bind fun t571 => ((laws_toProg.f k l0_0 l0_1).bind fun bt572 => ((impl_TypeOk.f k bt572.1 bt572.2).bind fun t579 => (if (t579 != t571) = true then (some false) else ((laws_toProg.f k l0_0 l0_1).bind fun bt580 => ((laws_eqProg.f k bt572.1 bt572.2 bt580.1 bt580.2).bind fun t586 => (if t586 = true then (some true) else (some false))))))))))
set_option maxHeartbeats 8000000 in
set_option maxRecDepth 100000 in
theorem laws_FnExactTypeOk.calls (k : Nat) (A0_0 : Option Addr) (c0_0 : Nat) (l0_0 : List (S114)) (A0_1 : Option Addr) (c0_1 : Nat) (l0_1 : List (S112)) (r : Bool) (w : World) (hr0_0 : Kd.C k114 w A0_0 l0_0.length l0_0) (hc0_0 : l0_0.length ≤ c0_0) (hr0_1 : Kd.C k112 w A0_1 l0_1.length l0_1) (hc0_1 : l0_1.length ≤ c0_1) (h : laws_FnExactTypeOk.f k l0_0 l0_1 = some r) :
  Calls Try.prog 24 #[.agg #[.slice A0_0 l0_0.length c0_0, .slice A0_1 l0_1.length c0_1]] w fun e w' => e = .returned (.bool r) ∧ Below w.heap.size w w' := by
 have hu41 := Try.underlying41
 have hu26 := Try.underlying26
 have HR0_0 := Aside0.mk hr0_0
 have HC0_0 := Aside0.mk hc0_0
 clear hr0_0 hc0_0
 have HR0_1 := Aside0.mk hr0_1
 have HC0_1 := Aside0.mk hc0_1
 clear hr0_1 hc0_1
 have HB := Aside0.mk (Below.refl w.heap.size w)
 have H : ((laws_szProg.f k l0_0 l0_1 1048576).bind fun t564 => (if t564 < 0 then (some true) else ((laws_toProg.f k l0_0 l0_1).bind fun bt565 => ((spec_TypeOk.f k bt565.1 bt565.2).bind fun t571 => ((laws_toProg.f k l0_0 l0_1).bind fun bt572 => ((impl_TypeOk.f k bt572.1 bt572.2).bind fun t579 => (if (t579 != t571) = true then (some false) else ((laws_toProg.f k l0_0 l0_1).bind fun bt580 => ((laws_eqProg.f k bt572.1 bt572.2 bt580.1 bt580.2).bind fun t586 => (if t586 = true then (some true) else (some false))))))))))) = some r := h
 clear h
 replace H := Option.bind_eq_some_iff.mp H
 obtain ⟨t564, A20, H⟩ := H
 replace H : (if t564 < 0 then (some true) else ((laws_toProg.f k l0_0 l0_1).bind fun bt565 => ((spec_TypeOk.f k bt565.1 bt565.2).bind fun t571 => ((laws_toProg.f k l0_0 l0_1).bind fun bt572 => ((impl_TypeOk.f k bt572.1 bt572.2).bind fun t579 => (if (t579 != t571) = true then (some false) else ((laws_toProg.f k l0_0 l0_1).bind fun bt580 => ((laws_eqProg.f k bt572.1 bt572.2 bt580.1 bt580.2).bind fun t586 => (if t586 = true then (some true) else (some false)))))))))) = some r := H
 have A2 := Aside0.mk A20
 clear A20
 by_cases c3 : t564 < 0
 focus
  rw [if_pos c3] at H
  have c3b0 : decide (t564 < 0) = true := decide_eq_true c3
  clear c3
  obtain rfl := Option.some.inj H
  have tag0_ : Aside0 True := ⟨trivial⟩
 rotate_left
 focus
  rw [if_neg c3] at H
  have c3b0 : decide (t564 < 0) = false := decide_eq_false c3
  clear c3
  replace H := Option.bind_eq_some_iff.mp H
  obtain ⟨⟨t565, t568⟩, A70, H⟩ := H
  replace H : ((spec_TypeOk.f k t565 t568).bind fun t571 => ((laws_toProg.f k l0_0 l0_1).bind fun bt572 => ((impl_TypeOk.f k bt572.1 bt572.2).bind fun t579 => (if (t579 != t571) = true then (some false) else ((laws_toProg.f k l0_0 l0_1).bind fun bt580 => ((laws_eqProg.f k bt572.1 bt572.2 bt580.1 bt580.2).bind fun t586 => (if t586 = true then (some true) else (some false)))))))) = some r := H
  have A7 := Aside0.mk A70
  clear A70
  replace H := Option.bind_eq_some_iff.mp H
  obtain ⟨t571, A80, H⟩ := H
  replace H : ((laws_toProg.f k l0_0 l0_1).bind fun bt572 => ((impl_TypeOk.f k bt572.1 bt572.2).bind fun t579 => (if (t579 != t571) = true then (some false) else ((laws_toProg.f k l0_0 l0_1).bind fun bt580 => ((laws_eqProg.f k bt572.1 bt572.2 bt580.1 bt580.2).bind fun t586 => (if t586 = true then (some true) else (some false))))))) = some r := H
  have A8 := Aside0.mk A80
  clear A80
  replace H := Option.bind_eq_some_iff.mp H
  obtain ⟨⟨t572, t575⟩, A90, H⟩ := H
  replace H : ((impl_TypeOk.f k t572 t575).bind fun t579 => (if (t579 != t571) = true then (some false) else ((laws_toProg.f k l0_0 l0_1).bind fun bt580 => ((laws_eqProg.f k t572 t575 bt580.1 bt580.2).bind fun t586 => (if t586 = true then (some true) else (some false)))))) = some r := H
  have A9 := Aside0.mk A90
  clear A90
  replace H := Option.bind_eq_some_iff.mp H
  obtain ⟨t579, A100, H⟩ := H
  replace H : (if (t579 != t571) = true then (some false) else ((laws_toProg.f k l0_0 l0_1).bind fun bt580 => ((laws_eqProg.f k t572 t575 bt580.1 bt580.2).bind fun t586 => (if t586 = true then (some true) else (some false))))) = some r := H
  have A10 := Aside0.mk A100
  clear A100
  by_cases c11 : (t579 != t571) = true
  focus
   rw [if_pos c11] at H
   have c11b0 : (t579 != t571) = true := c11
   (try (have c11b1 : decide (t579 = t571) = false := by simpa using c11))
   (try (have c11b2 : (t579 == t571) = false := by simpa using c11))
   (try (have c11b3 : ¬ (t579 = t571) := by simpa using c11))
   clear c11
   obtain rfl := Option.some.inj H
   have tag1_ : Aside0 True := ⟨trivial⟩
  rotate_left
  focus
   rw [if_neg c11] at H
   have c11b0 : (t579 != t571) = false := by simpa using c11
   (try (have c11b1 : decide (t579 = t571) = true := by simpa using c11))
   (try (have c11b2 : (t579 == t571) = true := by simpa using c11))
   clear c11
   replace H := Option.bind_eq_some_iff.mp H
   obtain ⟨⟨t580, t583⟩, A280, H⟩ := H
   replace H : ((laws_eqProg.f k t572 t575 t580 t583).bind fun t586 => (if t586 = true then (some true) else (some false))) = some r := H
   have A28 := Aside0.mk A280
   clear A280
   replace H := Option.bind_eq_some_iff.mp H
   obtain ⟨t586, A290, H⟩ := H
   replace H : (if t586 = true then (some true) else (some false)) = some r := H
   have A29 := Aside0.mk A290
   clear A290
   by_cases c30 : t586 = true
   focus
    subst c30
    have H1 : (some true) = some r := by rw [if_pos rfl] at H; exact H
    clear H
    have H := H1
    clear H1
    obtain rfl := Option.some.inj H
    have tag2_ : Aside0 True := ⟨trivial⟩
   rotate_left
   focus
    replace c30 := Bool.eq_false_iff.mpr c30
    subst c30
    have H1 : (some false) = some r := by rw [if_neg (show ¬ (false = true) by decide)] at H; exact H
    clear H
    have H := H1
    clear H1
    obtain rfl := Option.some.inj H
    have tag3_ : Aside0 True := ⟨trivial⟩
   rotate_left
  rotate_left 2
 rotate_left 3
 all_goals
  go_enter Try.func24, Try.ntmps24
  first
  | (
    (have z_ := tag0_; clear z_)
    go_wp2_with (first | ((with_reducible refine gate_dst (N := 1) rfl ?_); refine ZX (N := 1) (cs := #[.slice A0_0 l0_0.length c0_0, .slice A0_1 l0_1.length c0_1]) (t := 41) ?_; intro gbq0 hg wq0 hbox hb; have BKq0 := Aside0.mk (hbox); have GWq0 : Aside0 (w.heap.size ≤ gbq0) := ZS hg; have GEq0 : Aside0 (w.heap.size ≤ gbq0) := ZS hg; replace HB := ZT hb; clear hb hbox hg; obtain ⟨hczq0_0, hczq0_1⟩ := ZC2 wq0 BKq0; obtain ⟨hfzq0_0, hfzq0_1⟩ := ZF2 BKq0) | ((with_reducible refine gate_callee (f := 37) rfl ?_); refine goesL_ (some 9) rfl rfl Try.func37 (by kernel_rfl) rfl #[.agg #[.slice A0_0 l0_0.length c0_0, .slice A0_1 l0_1.length c0_1], .int .i64 1048576] rfl ZG ?_; (with_reducible refine (laws_szProg.calls k _ _ l0_0 _ _ l0_1 1048576 t564 _ ?side1 ?side2 ?side3 ?side4 A2.out).mono ?_); (case side1 => exact ZQ (Kd.C_below HR0_0.out HB.out)); (case side2 => exact HC0_0.out); (case side3 => exact ZQ (Kd.C_below HR0_1.out HB.out)); (case side4 => exact HC0_1.out); rintro e wq1 ⟨rfl, hb⟩; refine ⟨_, rfl, ?_⟩; replace BKq0 := ZW BKq0 hb; replace HB := ZT hb; (try clear hb); (try clear hb2); (try clear hk); (try clear hi)))
    go_ret
    exact ⟨ZE, ZB⟩)
  | (
    (have z_ := tag1_; clear z_)
    go_wp2_with (first | ((with_reducible refine gate_dst (N := 1) rfl ?_); refine ZX (N := 1) (cs := #[.slice A0_0 l0_0.length c0_0, .slice A0_1 l0_1.length c0_1]) (t := 41) ?_; intro gbq0 hg wq0 hbox hb; have BKq0 := Aside0.mk (hbox); have GWq0 : Aside0 (w.heap.size ≤ gbq0) := ZS hg; have GEq0 : Aside0 (w.heap.size ≤ gbq0) := ZS hg; replace HB := ZT hb; clear hb hbox hg; obtain ⟨hczq0_0, hczq0_1⟩ := ZC2 wq0 BKq0; obtain ⟨hfzq0_0, hfzq0_1⟩ := ZF2 BKq0) | ((with_reducible refine gate_callee (f := 37) rfl ?_); refine goesL_ (some 9) rfl rfl Try.func37 (by kernel_rfl) rfl #[.agg #[.slice A0_0 l0_0.length c0_0, .slice A0_1 l0_1.length c0_1], .int .i64 1048576] rfl ZG ?_; (with_reducible refine (laws_szProg.calls k _ _ l0_0 _ _ l0_1 1048576 t564 _ ?side1 ?side2 ?side3 ?side4 A2.out).mono ?_); (case side1 => exact ZQ (Kd.C_below HR0_0.out HB.out)); (case side2 => exact HC0_0.out); (case side3 => exact ZQ (Kd.C_below HR0_1.out HB.out)); (case side4 => exact HC0_1.out); rintro e wq1 ⟨rfl, hb⟩; refine ⟨_, rfl, ?_⟩; replace BKq0 := ZW BKq0 hb; replace HB := ZT hb; (try clear hb); (try clear hb2); (try clear hk); (try clear hi); obtain ⟨hczq1_0, hczq1_1⟩ := ZC2 wq1 BKq0; obtain ⟨hfzq1_0, hfzq1_1⟩ := ZF2 BKq0) | ((with_reducible refine gate_callee (f := 38) rfl ?_); refine goesL_ (some 13) rfl rfl Try.func38 (by kernel_rfl) rfl #[.agg #[.slice A0_0 l0_0.length c0_0, .slice A0_1 l0_1.length c0_1]] rfl ZG ?_; (with_reducible refine (laws_toProg.calls k _ _ l0_0 _ _ l0_1 t565 t568 _ ?side1 ?side2 ?side3 ?side4 A7.out).mono ?_); (case side1 => exact ZQ (Kd.C_below HR0_0.out HB.out)); (case side2 => exact HC0_0.out); (case side3 => exact ZQ (Kd.C_below HR0_1.out HB.out)); (case side4 => exact HC0_1.out); rintro e wq2 ⟨vq0, vq1, rfl, hoq0, hoq1, hb⟩; refine ⟨_, rfl, ?_⟩; have HOq0 := Aside0.mk (Kd.R_lower hoq0 (below_size (ZB))); have HOq1 := Aside0.mk (Kd.R_lower hoq1 (below_size (ZB))); replace BKq0 := ZW BKq0 hb; replace HB := ZT hb; (try clear hb); (try clear hb2); (try clear hk); (try clear hi); (try clear hoq0); (try clear hoq1); obtain ⟨Aoq0, coq0, eoq0⟩ := Kd.R_slice HOq0.out; subst eoq0; obtain ⟨Aoq1, coq1, eoq1⟩ := Kd.R_slice HOq1.out; subst eoq1) | ((with_reducible refine gate_callee (f := 31) rfl ?_); refine goesL_ (some 14) rfl rfl Try.func31 (by kernel_rfl) rfl #[.agg #[.slice Aoq0 t565.length coq0, .slice Aoq1 t568.length coq1]] rfl ZG ?_; (with_reducible refine (spec_TypeOk.calls k _ _ t565 _ _ t568 t571 _ ?side1 ?side2 ?side3 ?side4 A8.out).mono ?_); (case side1 => exact ZQ ((Kd.R_reads' HOq0.out).2.2)); (case side2 => exact (Kd.R_reads' HOq0.out).2.1); (case side3 => exact ZQ ((Kd.R_reads' HOq1.out).2.2)); (case side4 => exact (Kd.R_reads' HOq1.out).2.1); rintro e wq3 ⟨rfl, hb⟩; refine ⟨_, rfl, ?_⟩; replace HOq0 := Aside0.mk (Kd.R_below (ZR HOq0.out) hb); replace HOq1 := Aside0.mk (Kd.R_below (ZR HOq1.out) hb); replace BKq0 := ZW BKq0 hb; replace HB := ZT hb; (try clear hb); (try clear hb2); (try clear hk); (try clear hi); obtain ⟨hczq2_0, hczq2_1⟩ := ZC2 wq3 BKq0; obtain ⟨hfzq2_0, hfzq2_1⟩ := ZF2 BKq0) | ((with_reducible refine gate_callee (f := 38) rfl ?_); refine goesL_ (some 16) rfl rfl Try.func38 (by kernel_rfl) rfl #[.agg #[.slice A0_0 l0_0.length c0_0, .slice A0_1 l0_1.length c0_1]] rfl ZG ?_; (with_reducible refine (laws_toProg.calls k _ _ l0_0 _ _ l0_1 t572 t575 _ ?side1 ?side2 ?side3 ?side4 A9.out).mono ?_); (case side1 => exact ZQ (Kd.C_below HR0_0.out HB.out)); (case side2 => exact HC0_0.out); (case side3 => exact ZQ (Kd.C_below HR0_1.out HB.out)); (case side4 => exact HC0_1.out); rintro e wq4 ⟨vq2, vq3, rfl, hoq0, hoq1, hb⟩; refine ⟨_, rfl, ?_⟩; have HOq2 := Aside0.mk (Kd.R_lower (Kd.R_new' hoq0 (Kd.R_lt (ZR HOq0.out))) (below_size (ZB))); have HOq3 := Aside0.mk (Kd.R_lower (Kd.R_new' hoq1 (Kd.R_lt (ZR HOq1.out))) (below_size (ZB))); replace HOq0 := Aside0.mk (Kd.R_elder' (ZR HOq0.out) (Kd.R_base hoq0) hb); replace HOq1 := Aside0.mk (Kd.R_elder' (ZR HOq1.out) (Kd.R_base hoq1) hb); replace BKq0 := ZW BKq0 hb; replace HB := ZT hb; (try clear hb); (try clear hb2); (try clear hk); (try clear hi); (try clear hoq0); (try clear hoq1)) | ((with_reducible refine gate_dst (N := 5) rfl ?_); refine ZX (N := 5) (cs := #[.slice none 0 0, .slice none 0 0]) (t := 26) ?_; intro gbq1 hg wq5 hbox hb; have BKq1 := Aside0.mk (hbox); have GWq1 : Aside0 (w.heap.size ≤ gbq1) := ZS hg; have GEq1 : Aside0 (w.heap.size ≤ gbq1) := ZS hg; have NBq0_578 : Aside0 (gbq0 ≠ gbq1) := ZN hg BKq0; have NBq1_563 : Aside0 (gbq1 ≠ gbq0) := ZM hg BKq0; replace HOq0 := Aside0.mk (Kd.R_below (ZR HOq0.out) hb); replace HOq1 := Aside0.mk (Kd.R_below (ZR HOq1.out) hb); replace HOq2 := Aside0.mk (Kd.R_below (ZR HOq2.out) hb); replace HOq3 := Aside0.mk (Kd.R_below (ZR HOq3.out) hb); replace BKq0 := ZW BKq0 hb; replace HB := ZT hb; clear hb hbox hg; obtain ⟨Aoq2, coq2, eoq2⟩ := Kd.R_slice HOq2.out; subst eoq2; have hnbq0 := NBq1_563.out; have hncq0 := NBq0_578.out; obtain ⟨hczq3_0, hczq3_1⟩ := ZC2 wq5 BKq1; obtain ⟨hfzq3_0, hfzq3_1⟩ := ZF2 BKq1; obtain ⟨Aoq3, coq3, eoq3⟩ := Kd.R_slice HOq3.out; subst eoq3) | ((with_reducible refine gate_callee (f := 73) rfl ?_); refine goesL_ (some 18) rfl rfl Try.func73 (by kernel_rfl) rfl #[.agg #[.slice Aoq2 t572.length coq2, .slice Aoq3 t575.length coq3]] rfl ZG ?_; (with_reducible refine (impl_TypeOk.calls k _ _ t572 _ _ t575 t579 _ ?side1 ?side2 ?side3 ?side4 A10.out).mono ?_); (case side1 => refine (Kd.R_reads' (e := 35) (base := w.heap.size) (ok := fun k_ => (True ∧ some k_ ≠ (.slice Aoq0 t565.length coq0 : Value).ownBlock)) (n := t572.length) (c := coq2) ?_).2.2; exact (ZR ((Kd.R_mono (Kd.R_far (p := ⟨gbq1, 1, none⟩) (Kd.R_far (p := ⟨gbq1, 0, none⟩) (Kd.R_types HOq2.out BKq1.out (by decide)) (fun _ hk => hk.2) (.slice Aoq2 t572.length coq2)) (fun _ hk => hk.2) (.slice Aoq3 t575.length coq3)) (fun _ h_ => h_.1))))); (case side2 => exact (Kd.R_reads' HOq2.out).2.1); (case side3 => refine (Kd.R_reads' (e := 59) (base := w.heap.size) (ok := fun k_ => (True ∧ some k_ ≠ (.slice Aoq1 t568.length coq1 : Value).ownBlock)) (n := t575.length) (c := coq3) ?_).2.2; exact (ZR ((Kd.R_mono (Kd.R_far (p := ⟨gbq1, 1, none⟩) (Kd.R_far (p := ⟨gbq1, 0, none⟩) (Kd.R_types HOq3.out BKq1.out (by decide)) (fun _ hk => hk.2) (.slice Aoq2 t572.length coq2)) (fun _ hk => hk.2) (.slice Aoq3 t575.length coq3)) (fun _ h_ => h_.1))))); (case side4 => exact (Kd.R_reads' HOq3.out).2.1); rintro e wq6 ⟨rfl, hb⟩; refine ⟨_, rfl, ?_⟩; replace HOq0 := Aside0.mk (Kd.R_below (ZR ((Kd.R_mono (Kd.R_far (p := ⟨gbq1, 1, none⟩) (Kd.R_far (p := ⟨gbq1, 0, none⟩) (Kd.R_types HOq0.out BKq1.out (by decide)) (fun _ hk => hk.2) (.slice Aoq2 t572.length coq2)) (fun _ hk => hk.2) (.slice Aoq3 t575.length coq3)) (fun _ h_ => h_.1)))) hb); replace HOq1 := Aside0.mk (Kd.R_below (ZR ((Kd.R_mono (Kd.R_far (p := ⟨gbq1, 1, none⟩) (Kd.R_far (p := ⟨gbq1, 0, none⟩) (Kd.R_types HOq1.out BKq1.out (by decide)) (fun _ hk => hk.2) (.slice Aoq2 t572.length coq2)) (fun _ hk => hk.2) (.slice Aoq3 t575.length coq3)) (fun _ h_ => h_.1)))) hb); replace HOq2 := Aside0.mk (Kd.R_below (ZR ((Kd.R_mono (Kd.R_far (p := ⟨gbq1, 1, none⟩) (Kd.R_far (p := ⟨gbq1, 0, none⟩) (Kd.R_types HOq2.out BKq1.out (by decide)) (fun _ hk => hk.2) (.slice Aoq2 t572.length coq2)) (fun _ hk => hk.2) (.slice Aoq3 t575.length coq3)) (fun _ h_ => h_.1)))) hb); replace HOq3 := Aside0.mk (Kd.R_below (ZR ((Kd.R_mono (Kd.R_far (p := ⟨gbq1, 1, none⟩) (Kd.R_far (p := ⟨gbq1, 0, none⟩) (Kd.R_types HOq3.out BKq1.out (by decide)) (fun _ hk => hk.2) (.slice Aoq2 t572.length coq2)) (fun _ hk => hk.2) (.slice Aoq3 t575.length coq3)) (fun _ h_ => h_.1)))) hb); replace BKq0 := ZV #[.slice A0_0 l0_0.length c0_0, .slice A0_1 l0_1.length c0_1] BKq0 hb; replace BKq1 := ZV #[.slice Aoq2 t572.length coq2, .slice Aoq3 t575.length coq3] BKq1 hb; replace HB := ZT hb; (try clear hb); (try clear hb2); (try clear hk); (try clear hi)))
    go_ret
    exact ⟨ZE, ZB⟩)
  | (
    (first | (have z_ := tag2_; clear z_) | (have z_ := tag3_; clear z_))
    try go_wp2_with (first | ((with_reducible refine gate_dst (N := 1) rfl ?_); refine ZX (N := 1) (cs := #[.slice A0_0 l0_0.length c0_0, .slice A0_1 l0_1.length c0_1]) (t := 41) ?_; intro gbq0 hg wq0 hbox hb; have BKq0 := Aside0.mk (hbox); have GWq0 : Aside0 (w.heap.size ≤ gbq0) := ZS hg; have GEq0 : Aside0 (w.heap.size ≤ gbq0) := ZS hg; replace HB := ZT hb; clear hb hbox hg; obtain ⟨hczq0_0, hczq0_1⟩ := ZC2 wq0 BKq0; obtain ⟨hfzq0_0, hfzq0_1⟩ := ZF2 BKq0) | ((with_reducible refine gate_callee (f := 37) rfl ?_); refine goesL_ (some 9) rfl rfl Try.func37 (by kernel_rfl) rfl #[.agg #[.slice A0_0 l0_0.length c0_0, .slice A0_1 l0_1.length c0_1], .int .i64 1048576] rfl ZG ?_; (with_reducible refine (laws_szProg.calls k _ _ l0_0 _ _ l0_1 1048576 t564 _ ?side1 ?side2 ?side3 ?side4 A2.out).mono ?_); (case side1 => exact ZQ (Kd.C_below HR0_0.out HB.out)); (case side2 => exact HC0_0.out); (case side3 => exact ZQ (Kd.C_below HR0_1.out HB.out)); (case side4 => exact HC0_1.out); rintro e wq1 ⟨rfl, hb⟩; refine ⟨_, rfl, ?_⟩; replace BKq0 := ZW BKq0 hb; replace HB := ZT hb; (try clear hb); (try clear hb2); (try clear hk); (try clear hi); obtain ⟨hczq1_0, hczq1_1⟩ := ZC2 wq1 BKq0; obtain ⟨hfzq1_0, hfzq1_1⟩ := ZF2 BKq0) | ((with_reducible refine gate_callee (f := 38) rfl ?_); refine goesL_ (some 13) rfl rfl Try.func38 (by kernel_rfl) rfl #[.agg #[.slice A0_0 l0_0.length c0_0, .slice A0_1 l0_1.length c0_1]] rfl ZG ?_; (with_reducible refine (laws_toProg.calls k _ _ l0_0 _ _ l0_1 t565 t568 _ ?side1 ?side2 ?side3 ?side4 A7.out).mono ?_); (case side1 => exact ZQ (Kd.C_below HR0_0.out HB.out)); (case side2 => exact HC0_0.out); (case side3 => exact ZQ (Kd.C_below HR0_1.out HB.out)); (case side4 => exact HC0_1.out); rintro e wq2 ⟨vq0, vq1, rfl, hoq0, hoq1, hb⟩; refine ⟨_, rfl, ?_⟩; have HOq0 := Aside0.mk (Kd.R_lower hoq0 (below_size (ZB))); have HOq1 := Aside0.mk (Kd.R_lower hoq1 (below_size (ZB))); replace BKq0 := ZW BKq0 hb; replace HB := ZT hb; (try clear hb); (try clear hb2); (try clear hk); (try clear hi); (try clear hoq0); (try clear hoq1); obtain ⟨Aoq0, coq0, eoq0⟩ := Kd.R_slice HOq0.out; subst eoq0; obtain ⟨Aoq1, coq1, eoq1⟩ := Kd.R_slice HOq1.out; subst eoq1) | ((with_reducible refine gate_callee (f := 31) rfl ?_); refine goesL_ (some 14) rfl rfl Try.func31 (by kernel_rfl) rfl #[.agg #[.slice Aoq0 t565.length coq0, .slice Aoq1 t568.length coq1]] rfl ZG ?_; (with_reducible refine (spec_TypeOk.calls k _ _ t565 _ _ t568 t571 _ ?side1 ?side2 ?side3 ?side4 A8.out).mono ?_); (case side1 => exact ZQ ((Kd.R_reads' HOq0.out).2.2)); (case side2 => exact (Kd.R_reads' HOq0.out).2.1); (case side3 => exact ZQ ((Kd.R_reads' HOq1.out).2.2)); (case side4 => exact (Kd.R_reads' HOq1.out).2.1); rintro e wq3 ⟨rfl, hb⟩; refine ⟨_, rfl, ?_⟩; replace HOq0 := Aside0.mk (Kd.R_below (ZR HOq0.out) hb); replace HOq1 := Aside0.mk (Kd.R_below (ZR HOq1.out) hb); replace BKq0 := ZW BKq0 hb; replace HB := ZT hb; (try clear hb); (try clear hb2); (try clear hk); (try clear hi); obtain ⟨hczq2_0, hczq2_1⟩ := ZC2 wq3 BKq0; obtain ⟨hfzq2_0, hfzq2_1⟩ := ZF2 BKq0) | ((with_reducible refine gate_callee (f := 38) rfl ?_); refine goesL_ (some 16) rfl rfl Try.func38 (by kernel_rfl) rfl #[.agg #[.slice A0_0 l0_0.length c0_0, .slice A0_1 l0_1.length c0_1]] rfl ZG ?_; (with_reducible refine (laws_toProg.calls k _ _ l0_0 _ _ l0_1 t572 t575 _ ?side1 ?side2 ?side3 ?side4 A9.out).mono ?_); (case side1 => exact ZQ (Kd.C_below HR0_0.out HB.out)); (case side2 => exact HC0_0.out); (case side3 => exact ZQ (Kd.C_below HR0_1.out HB.out)); (case side4 => exact HC0_1.out); rintro e wq4 ⟨vq2, vq3, rfl, hoq0, hoq1, hb⟩; refine ⟨_, rfl, ?_⟩; have HOq2 := Aside0.mk (Kd.R_lower (Kd.R_new' hoq0 (Kd.R_lt (ZR HOq0.out))) (below_size (ZB))); have HOq3 := Aside0.mk (Kd.R_lower (Kd.R_new' hoq1 (Kd.R_lt (ZR HOq1.out))) (below_size (ZB))); replace HOq0 := Aside0.mk (Kd.R_elder' (ZR HOq0.out) (Kd.R_base hoq0) hb); replace HOq1 := Aside0.mk (Kd.R_elder' (ZR HOq1.out) (Kd.R_base hoq1) hb); replace BKq0 := ZW BKq0 hb; replace HB := ZT hb; (try clear hb); (try clear hb2); (try clear hk); (try clear hi); (try clear hoq0); (try clear hoq1)) | ((with_reducible refine gate_dst (N := 5) rfl ?_); refine ZX (N := 5) (cs := #[.slice none 0 0, .slice none 0 0]) (t := 26) ?_; intro gbq1 hg wq5 hbox hb; have BKq1 := Aside0.mk (hbox); have GWq1 : Aside0 (w.heap.size ≤ gbq1) := ZS hg; have GEq1 : Aside0 (w.heap.size ≤ gbq1) := ZS hg; have NBq0_578 : Aside0 (gbq0 ≠ gbq1) := ZN hg BKq0; have NBq1_563 : Aside0 (gbq1 ≠ gbq0) := ZM hg BKq0; replace HOq0 := Aside0.mk (Kd.R_below (ZR HOq0.out) hb); replace HOq1 := Aside0.mk (Kd.R_below (ZR HOq1.out) hb); replace HOq2 := Aside0.mk (Kd.R_below (ZR HOq2.out) hb); replace HOq3 := Aside0.mk (Kd.R_below (ZR HOq3.out) hb); replace BKq0 := ZW BKq0 hb; replace HB := ZT hb; clear hb hbox hg; obtain ⟨Aoq2, coq2, eoq2⟩ := Kd.R_slice HOq2.out; subst eoq2; have hnbq0 := NBq1_563.out; have hncq0 := NBq0_578.out; obtain ⟨hczq3_0, hczq3_1⟩ := ZC2 wq5 BKq1; obtain ⟨hfzq3_0, hfzq3_1⟩ := ZF2 BKq1; obtain ⟨Aoq3, coq3, eoq3⟩ := Kd.R_slice HOq3.out; subst eoq3) | ((with_reducible refine gate_callee (f := 73) rfl ?_); refine goesL_ (some 18) rfl rfl Try.func73 (by kernel_rfl) rfl #[.agg #[.slice Aoq2 t572.length coq2, .slice Aoq3 t575.length coq3]] rfl ZG ?_; (with_reducible refine (impl_TypeOk.calls k _ _ t572 _ _ t575 t579 _ ?side1 ?side2 ?side3 ?side4 A10.out).mono ?_); (case side1 => refine (Kd.R_reads' (e := 35) (base := w.heap.size) (ok := fun k_ => (True ∧ some k_ ≠ (.slice Aoq0 t565.length coq0 : Value).ownBlock)) (n := t572.length) (c := coq2) ?_).2.2; exact (ZR ((Kd.R_mono (Kd.R_far (p := ⟨gbq1, 1, none⟩) (Kd.R_far (p := ⟨gbq1, 0, none⟩) (Kd.R_types HOq2.out BKq1.out (by decide)) (fun _ hk => hk.2) (.slice Aoq2 t572.length coq2)) (fun _ hk => hk.2) (.slice Aoq3 t575.length coq3)) (fun _ h_ => h_.1))))); (case side2 => exact (Kd.R_reads' HOq2.out).2.1); (case side3 => refine (Kd.R_reads' (e := 59) (base := w.heap.size) (ok := fun k_ => (True ∧ some k_ ≠ (.slice Aoq1 t568.length coq1 : Value).ownBlock)) (n := t575.length) (c := coq3) ?_).2.2; exact (ZR ((Kd.R_mono (Kd.R_far (p := ⟨gbq1, 1, none⟩) (Kd.R_far (p := ⟨gbq1, 0, none⟩) (Kd.R_types HOq3.out BKq1.out (by decide)) (fun _ hk => hk.2) (.slice Aoq2 t572.length coq2)) (fun _ hk => hk.2) (.slice Aoq3 t575.length coq3)) (fun _ h_ => h_.1))))); (case side4 => exact (Kd.R_reads' HOq3.out).2.1); rintro e wq6 ⟨rfl, hb⟩; refine ⟨_, rfl, ?_⟩; replace HOq0 := Aside0.mk (Kd.R_below (ZR ((Kd.R_mono (Kd.R_far (p := ⟨gbq1, 1, none⟩) (Kd.R_far (p := ⟨gbq1, 0, none⟩) (Kd.R_types HOq0.out BKq1.out (by decide)) (fun _ hk => hk.2) (.slice Aoq2 t572.length coq2)) (fun _ hk => hk.2) (.slice Aoq3 t575.length coq3)) (fun _ h_ => h_.1)))) hb); replace HOq1 := Aside0.mk (Kd.R_below (ZR ((Kd.R_mono (Kd.R_far (p := ⟨gbq1, 1, none⟩) (Kd.R_far (p := ⟨gbq1, 0, none⟩) (Kd.R_types HOq1.out BKq1.out (by decide)) (fun _ hk => hk.2) (.slice Aoq2 t572.length coq2)) (fun _ hk => hk.2) (.slice Aoq3 t575.length coq3)) (fun _ h_ => h_.1)))) hb); replace HOq2 := Aside0.mk (Kd.R_below (ZR ((Kd.R_mono (Kd.R_far (p := ⟨gbq1, 1, none⟩) (Kd.R_far (p := ⟨gbq1, 0, none⟩) (Kd.R_types HOq2.out BKq1.out (by decide)) (fun _ hk => hk.2) (.slice Aoq2 t572.length coq2)) (fun _ hk => hk.2) (.slice Aoq3 t575.length coq3)) (fun _ h_ => h_.1)))) hb); replace HOq3 := Aside0.mk (Kd.R_below (ZR ((Kd.R_mono (Kd.R_far (p := ⟨gbq1, 1, none⟩) (Kd.R_far (p := ⟨gbq1, 0, none⟩) (Kd.R_types HOq3.out BKq1.out (by decide)) (fun _ hk => hk.2) (.slice Aoq2 t572.length coq2)) (fun _ hk => hk.2) (.slice Aoq3 t575.length coq3)) (fun _ h_ => h_.1)))) hb); replace BKq0 := ZV #[.slice A0_0 l0_0.length c0_0, .slice A0_1 l0_1.length c0_1] BKq0 hb; replace BKq1 := ZV #[.slice Aoq2 t572.length coq2, .slice Aoq3 t575.length coq3] BKq1 hb; replace HB := ZT hb; (try clear hb); (try clear hb2); (try clear hk); (try clear hi)))
    have nq0_ := Aside0.mk (Kd.R_drew HOq0.out)
    have nq1_ := Aside0.mk (Kd.R_drew HOq1.out)
    have nq2_ := Aside0.mk (Kd.R_drew HOq2.out)
    have nq3_ := Aside0.mk (Kd.R_drew HOq3.out)
    have nq4_ := Aside0.mk (blk_drew BKq0.out)
    have nq5_ := Aside0.mk (blk_drew BKq1.out)
    have nq6_ := Aside0.mk (below_drew1 HB.out)
    clear HOq0
    clear HOq1
    clear HOq2
    clear HOq3
    clear BKq0
    clear BKq1
    clear HB
    have HOq0 := nq0_
    have HOq1 := nq1_
    have HOq2 := nq2_
    have HOq3 := nq3_
    have BKq0 := nq4_
    have BKq1 := nq5_
    have HB := nq6_
    clear nq0_ nq1_ nq2_ nq3_ nq4_ nq5_ nq6_
    refine start_ (n := 5) (S := fun w' => w'.cell? ⟨gbq1, 0, none⟩ = some (.slice Aoq2 t572.length coq2) ∧ w'.cell? ⟨gbq1, 1, none⟩ = some (.slice Aoq3 t575.length coq3) ∧ w'.cell? ⟨gbq0, 0, none⟩ = some (.slice A0_0 l0_0.length c0_0) ∧ w'.cell? ⟨gbq0, 1, none⟩ = some (.slice A0_1 l0_1.length c0_1)) (ds := []) #[false, false, false, false, false] (by kernel_rfl) rfl rfl ⟨(blk_cell BKq1.out 0).trans rfl, (blk_cell BKq1.out 1).trans rfl, (blk_cell BKq0.out 0).trans rfl, (blk_cell BKq0.out 1).trans rfl⟩ (fun hHeld => ?_)
    generalize wq6.drew = wq7 at HOq0 HOq1 HOq2 HOq3 BKq0 BKq1 HB hHeld ⊢
    refine take_ (i := 0) (N := some 22) (v := ?_) (a' := ?_) #[true, false, false, false, false] rfl rfl (by kernel_rfl) (fun _ _ _ h => h) (Or.inl ⟨by rfl, ?_⟩) hHeld ?_ ?_
    rotate_left
    ·rintro w' ⟨sq0, sq1, sq2, sq3⟩
     go_simp
     with_reducible rfl
    rotate_left
    ·simp only [Act.put, List.setIfInBounds_toArray, List.set_cons_zero, List.set_cons_succ, i64_w, i32_w]
     rfl
    refine take_ (i := 1) (N := some 23) (v := ?_) (a' := ?_) #[true, true, false, false, false] rfl rfl (by kernel_rfl) (fun _ _ _ h => h) (Or.inl ⟨by rfl, ?_⟩) hHeld ?_ ?_
    rotate_left
    ·rintro w' ⟨sq0, sq1, sq2, sq3⟩
     go_simp
     with_reducible rfl
    rotate_left
    ·simp only [Act.put, List.setIfInBounds_toArray, List.set_cons_zero, List.set_cons_succ, i64_w, i32_w]
     rfl
    refine one_ (i := 2) (N := some 24) #[true, true, true, false, false] rfl rfl (by kernel_rfl) (by decide) (fun K hK => ?_)
    refine goes_ Try.func38 (by kernel_rfl) rfl #[.agg #[.slice A0_0 l0_0.length c0_0, .slice A0_1 l0_1.length c0_1]] (by rfl) rfl rfl ZG ?_
    with_reducible refine (laws_toProg.calls k _ _ l0_0 _ _ l0_1 t580 t583 _ ?side1 ?side2 ?side3 ?side4 A28.out).mono ?_
    (case side1 => exact ZQ (Kd.C_below HR0_0.out HB.out))
    (case side2 => exact HC0_0.out)
    (case side3 => exact ZQ (Kd.C_below HR0_1.out HB.out))
    (case side4 => exact HC0_1.out)
    rintro e wq8 ⟨vq4, vq5, rfl, hoq0, hoq1, hb⟩
    refine ⟨_, rfl, ?_⟩
    have nq0_ := Aside0.mk (Kd.R_elder' (ZR HOq0.out) (Kd.R_base hoq0) hb)
    have nq1_ := Aside0.mk (Kd.R_elder' (ZR HOq1.out) (Kd.R_base hoq1) hb)
    have nq2_ := Aside0.mk (Kd.R_elder' (ZR HOq2.out) (Kd.R_base hoq0) hb)
    have nq3_ := Aside0.mk (Kd.R_elder' (ZR HOq3.out) (Kd.R_base hoq1) hb)
    have nq4_ := Aside0.mk (Kd.R_lower (Kd.R_new' (Kd.R_new' hoq0 (Kd.R_lt (ZR HOq0.out))) (Kd.R_lt (ZR HOq2.out))) (below_size (ZB)))
    have nq5_ := Aside0.mk (Kd.R_lower (Kd.R_new' (Kd.R_new' hoq1 (Kd.R_lt (ZR HOq1.out))) (Kd.R_lt (ZR HOq3.out))) (below_size (ZB)))
    have nq6_ := ZW BKq0 hb
    have nq7_ := ZW BKq1 hb
    have nq8_ := ZT hb
    clear HOq0
    clear HOq1
    clear HOq2
    clear HOq3
    clear BKq0
    clear BKq1
    clear HB
    have HOq0 := nq0_
    have HOq1 := nq1_
    have HOq2 := nq2_
    have HOq3 := nq3_
    have HOq4 := nq4_
    have HOq5 := nq5_
    have BKq0 := nq6_
    have BKq1 := nq7_
    have HB := nq8_
    clear nq0_ nq1_ nq2_ nq3_ nq4_ nq5_ nq6_ nq7_ nq8_
    (try clear hb)
    (try clear hb2)
    (try clear hk)
    (try clear hi)
    (try clear hoq0)
    (try clear hoq1)
    obtain ⟨Aoq4, coq4, eoq4⟩ := Kd.R_slice HOq4.out
    (first | subst eoq4 | (injection eoq4 with f1_ f2_ f3_; have fq0_ := f1_.symm; have fq1_ := f3_.symm; clear f1_ f2_ f3_; subst fq0_; subst fq1_))
    obtain ⟨Aoq5, coq5, eoq5⟩ := Kd.R_slice HOq5.out
    (first | subst eoq5 | (injection eoq5 with f1_ f2_ f3_; have fq0_ := f1_.symm; have fq1_ := f3_.symm; clear f1_ f2_ f3_; subst fq0_; subst fq1_))
    refine hK.out _ _ ⟨(blk_cell BKq1.out 0).trans rfl, (blk_cell BKq1.out 1).trans rfl, (blk_cell BKq0.out 0).trans rfl, (blk_cell BKq0.out 1).trans rfl⟩ (fun hHeld => ?_)
    clear hK K
    refine ZNO 24 ?_
    refine one_ (i := 3) (N := some 25) #[true, true, true, true, false] rfl rfl (by kernel_rfl) (by decide) (fun K hK => ?_)
    refine goes_ Try.func39 (by kernel_rfl) rfl #[.agg #[.slice Aoq2 t572.length coq2, .slice Aoq3 t575.length coq3], .agg #[.slice Aoq4 t580.length coq4, .slice Aoq5 t583.length coq5]] (by rfl) rfl rfl ZG ?_
    first
    | (
      (have z_ := tag2_; clear z_)
      with_reducible refine (laws_eqProg.calls k _ _ t572 _ _ t575 _ _ t580 _ _ t583 true _ ?side1 ?side2 ?side3 ?side4 ?side5 ?side6 ?side7 ?side8 A29.out).mono ?_
      (case side1 => exact ZQ ((Kd.R_reads' HOq2.out).2.2))
      (case side2 => exact (Kd.R_reads' HOq2.out).2.1)
      (case side3 => exact ZQ ((Kd.R_reads' HOq3.out).2.2))
      (case side4 => exact (Kd.R_reads' HOq3.out).2.1)
      (case side5 => exact ZQ ((Kd.R_reads' HOq4.out).2.2))
      (case side6 => exact (Kd.R_reads' HOq4.out).2.1)
      (case side7 => exact ZQ ((Kd.R_reads' HOq5.out).2.2))
      (case side8 => exact (Kd.R_reads' HOq5.out).2.1)
      rintro e wq9 ⟨rfl, hb⟩
      refine ⟨_, rfl, ?_⟩
      have nq0_ := Aside0.mk (Kd.R_below (ZR HOq0.out) hb)
      have nq1_ := Aside0.mk (Kd.R_below (ZR HOq1.out) hb)
      have nq2_ := Aside0.mk (Kd.R_below (ZR HOq2.out) hb)
      have nq3_ := Aside0.mk (Kd.R_below (ZR HOq3.out) hb)
      have nq4_ := Aside0.mk (Kd.R_below (ZR HOq4.out) hb)
      have nq5_ := Aside0.mk (Kd.R_below (ZR HOq5.out) hb)
      have nq6_ := ZW BKq0 hb
      have nq7_ := ZW BKq1 hb
      have nq8_ := ZT hb
      clear HOq0
      clear HOq1
      clear HOq2
      clear HOq3
      clear HOq4
      clear HOq5
      clear BKq0
      clear BKq1
      clear HB
      have HOq0 := nq0_
      have HOq1 := nq1_
      have HOq2 := nq2_
      have HOq3 := nq3_
      have HOq4 := nq4_
      have HOq5 := nq5_
      have BKq0 := nq6_
      have BKq1 := nq7_
      have HB := nq8_
      clear nq0_ nq1_ nq2_ nq3_ nq4_ nq5_ nq6_ nq7_ nq8_
      (try clear hb)
      (try clear hb2)
      (try clear hk)
      (try clear hi)
      refine hK.out _ _ ⟨(blk_cell BKq1.out 0).trans rfl, (blk_cell BKq1.out 1).trans rfl, (blk_cell BKq0.out 0).trans rfl, (blk_cell BKq0.out 1).trans rfl⟩ (fun hHeld => ?_)
      clear hK K
      refine ZNO 25 ?_
      refine pure_ (i := 4) (N := some 26) (v := ?_) (a' := ?_) #[true, true, true, true, true] rfl rfl (by kernel_rfl) (fun _ _ _ h => h) (Or.inl ⟨by rfl, ?_⟩) ?_ ?_
      rotate_left
      ·intro w'
       go_simp
       with_reducible rfl
      rotate_left
      ·simp only [Act.put, List.setIfInBounds_toArray, List.set_cons_zero, List.set_cons_succ, i64_w, i32_w]
       rfl
      refine done_ (by kernel_rfl) ?_
      try go_wp2
      go_ret
      exact ⟨ZE, ZB⟩)
    | (
      (have z_ := tag3_; clear z_)
      with_reducible refine (laws_eqProg.calls k _ _ t572 _ _ t575 _ _ t580 _ _ t583 false _ ?side1 ?side2 ?side3 ?side4 ?side5 ?side6 ?side7 ?side8 A29.out).mono ?_
      (case side1 => exact ZQ ((Kd.R_reads' HOq2.out).2.2))
      (case side2 => exact (Kd.R_reads' HOq2.out).2.1)
      (case side3 => exact ZQ ((Kd.R_reads' HOq3.out).2.2))
      (case side4 => exact (Kd.R_reads' HOq3.out).2.1)
      (case side5 => exact ZQ ((Kd.R_reads' HOq4.out).2.2))
      (case side6 => exact (Kd.R_reads' HOq4.out).2.1)
      (case side7 => exact ZQ ((Kd.R_reads' HOq5.out).2.2))
      (case side8 => exact (Kd.R_reads' HOq5.out).2.1)
      rintro e wq9 ⟨rfl, hb⟩
      refine ⟨_, rfl, ?_⟩
      have nq0_ := Aside0.mk (Kd.R_below (ZR HOq0.out) hb)
      have nq1_ := Aside0.mk (Kd.R_below (ZR HOq1.out) hb)
      have nq2_ := Aside0.mk (Kd.R_below (ZR HOq2.out) hb)
      have nq3_ := Aside0.mk (Kd.R_below (ZR HOq3.out) hb)
      have nq4_ := Aside0.mk (Kd.R_below (ZR HOq4.out) hb)
      have nq5_ := Aside0.mk (Kd.R_below (ZR HOq5.out) hb)
      have nq6_ := ZW BKq0 hb
      have nq7_ := ZW BKq1 hb
      have nq8_ := ZT hb
      clear HOq0
      clear HOq1
      clear HOq2
      clear HOq3
      clear HOq4
      clear HOq5
      clear BKq0
      clear BKq1
      clear HB
      have HOq0 := nq0_
      have HOq1 := nq1_
      have HOq2 := nq2_
      have HOq3 := nq3_
      have HOq4 := nq4_
      have HOq5 := nq5_
      have BKq0 := nq6_
      have BKq1 := nq7_
      have HB := nq8_
      clear nq0_ nq1_ nq2_ nq3_ nq4_ nq5_ nq6_ nq7_ nq8_
      (try clear hb)
      (try clear hb2)
      (try clear hk)
      (try clear hi)
      refine hK.out _ _ ⟨(blk_cell BKq1.out 0).trans rfl, (blk_cell BKq1.out 1).trans rfl, (blk_cell BKq0.out 0).trans rfl, (blk_cell BKq0.out 1).trans rfl⟩ (fun hHeld => ?_)
      clear hK K
      refine ZNO 25 ?_
      refine pure_ (i := 4) (N := some 26) (v := ?_) (a' := ?_) #[true, true, true, true, true] rfl rfl (by kernel_rfl) (fun _ _ _ h => h) (Or.inl ⟨by rfl, ?_⟩) ?_ ?_
      rotate_left
      ·intro w'
       go_simp
       with_reducible rfl
      rotate_left
      ·simp only [Act.put, List.setIfInBounds_toArray, List.set_cons_zero, List.set_cons_succ, i64_w, i32_w]
       rfl
      refine done_ (by kernel_rfl) ?_
      try go_wp2
      go_ret
      exact ⟨ZE, ZB⟩))

end Go.Proofs.Ytcffnnedghgmaaa.A
