/- Go functions as Lean functions, and for each its contract; written by wip/tools/pr.py over the kit's print. -/
import Derived.Test.YtfcmckomagaiiaaDoorAx0
import Derived.Test.YtfcmckomagaiiaaDoorAx3
import Derived.Test.YtfcmckomagaiiaaDoorAx7
import Derived.Test.YtfcmckomagaiiaaDoorAx9
import Derived.Test.YtfcmckomagaiiaaDoorAx15
import Derived.Test.YtfcmckomagaiiaaDoorAx17
namespace Go.Proofs.YtfcmckomagaiiaaDoor.A
open Go.RowKit Go.Proofs.YtfcmckomagaiiaaDoorW.PrintWords Go.Proofs.YtfcmckomagaiiaaDoorW.PrintLast Go.Proofs.YtfcmckomagaiiaaDoorW.PrintMore
attribute [local go_sem] max2_int min2_int max_two min_two max_three min_three max_four min_four
set_option linter.unusedVariables false
set_option linter.unusedSimpArgs false
set_option maxHeartbeats 8000000
set_option maxRecDepth 100000

/-! ### laws_FnExactProgText: function 3 -/
def laws_FnExactProgText.f (k : Nat) (l0_0 : List (S74)) (l0_1 : List (S67)) : Option (Bool) := (laws_szProg.f k l0_0 l0_1 1048576).bind fun t310 => (if t310 < 0 then (some true) else ((laws_toProg.f k l0_0 l0_1).bind fun bt311 => ((spec_ProgText.f k bt311.1 bt311.2).bind fun t317 => ((laws_toProg.f k l0_0 l0_1).bind fun bt318 => ((impl_ProgText.f k bt318.1 bt318.2).bind fun t325 => (if t325.toList = t317.toList then ((laws_toProg.f k l0_0 l0_1).bind fun bt326 => ((laws_eqProg.f k bt318.1 bt318.2 bt326.1 bt326.2).bind fun t332 => (if t332 = true then (some true) else (some false)))) else (some false)))))))
theorem laws_FnExactProgText.calls (k : Nat) (A0_0 : Option Addr) (c0_0 : Nat) (l0_0 : List (S74)) (A0_1 : Option Addr) (c0_1 : Nat) (l0_1 : List (S67)) (r : Bool) (w : World) (hr0_0 : Kd.C k74 w A0_0 l0_0.length l0_0) (hc0_0 : l0_0.length ≤ c0_0) (hr0_1 : Kd.C k67 w A0_1 l0_1.length l0_1) (hc0_1 : l0_1.length ≤ c0_1) (h : laws_FnExactProgText.f k l0_0 l0_1 = some r) :
  Calls Tryd.prog 3 #[.agg #[.slice A0_0 l0_0.length c0_0, .slice A0_1 l0_1.length c0_1]] w fun e w' => e = .returned (.bool r) ∧ Below w.heap.size w w' := by
 have hu25 := Tryd.underlying25
 have hu31 := Tryd.underlying31
 have HR0_0 := AM hr0_0
 have HC0_0 := AM hc0_0
 clear hr0_0 hc0_0
 have HR0_1 := AM hr0_1
 have HC0_1 := AM hc0_1
 clear hr0_1 hc0_1
 have HB := AM (Below.refl w.heap.size w)
 have H := h
 unfold laws_FnExactProgText.f at H
 clear h
 obtain ⟨t310, A2, H⟩ := ZOB H; try dsimp only at H
 by_cases c3 : t310 < 0
 focus (
 rw [if_pos c3] at H
 have c3b0 := decide_eq_true c3
 clear c3
 obtain rfl := Option.some.inj H
 have tag0_ : Aside0 True := ⟨trivial⟩)
 rotate_left
 focus (
 rw [if_neg c3] at H
 have c3b0 := decide_eq_false c3
 clear c3
 obtain ⟨⟨t311, t314⟩, A7, H⟩ := ZOB H; try dsimp only at H
 obtain ⟨t317, A8, H⟩ := ZOB H; try dsimp only at H
 obtain ⟨⟨t318, t321⟩, A9, H⟩ := ZOB H; try dsimp only at H
 obtain ⟨t325, A10, H⟩ := ZOB H; try dsimp only at H
 by_cases c11 : t325.toList = t317.toList
 focus (
 rw [if_pos c11] at H
 have c11b0 := beq_iff_eq.mpr c11
 have c11b1 := bne_eq_false_iff_eq.mpr c11
 clear c11
 obtain ⟨⟨t326, t329⟩, A12, H⟩ := ZOB H; try dsimp only at H
 obtain ⟨t332, A13, H⟩ := ZOB H; try dsimp only at H
 by_cases c14 : t332 = true
 focus (
 subst c14
 have H1 := H; rw [if_pos rfl] at H1
 clear H
 have H := H1
 clear H1
 obtain rfl := Option.some.inj H
 have tag1_ : Aside0 True := ⟨trivial⟩)
 rotate_left
 focus (
 replace c14 := Bool.eq_false_iff.mpr c14
 subst c14
 have H1 := H; rw [if_neg ZFT] at H1
 clear H
 have H := H1
 clear H1
 obtain rfl := Option.some.inj H
 have tag2_ : Aside0 True := ⟨trivial⟩)
 rotate_left)
 rotate_left 2
 focus (
 rw [if_neg c11] at H
 have c11b0 := beq_eq_false_iff_ne.mpr c11
 have c11b1 := bne_iff_ne.mpr c11
 obtain rfl := Option.some.inj H
 have tag3_ : Aside0 True := ⟨trivial⟩)
 rotate_left)
 rotate_left 3
 all_goals (
 go_enter Tryd.func3, Tryd.ntmps3
 first
 | (
 (have z_ := tag0_; clear z_)
 go_wp2_with (first | ((with_reducible refine gate_dst (N := 1) rfl ?_); refine ZX (N := 1) (cs := #[.slice A0_0 l0_0.length c0_0, .slice A0_1 l0_1.length c0_1]) (t := 25) ?_; intro gbq0 hg wq0 hbox hb; have BKq0 := AM (hbox); have GWq0 : Aside0 (w.heap.size ≤ gbq0) := ZS hg; have GEq0 : Aside0 (w.heap.size ≤ gbq0) := ZS hg; replace HB := ZT HB hb; clear hb hbox hg; have hczq0 := ZC2 wq0 BKq0; have hfzq0 := ZF2 BKq0) | ((with_reducible refine gate_callee (f := 5) rfl ?_); refine ZGL (some 9) Tryd.func5 #[.agg #[.slice A0_0 l0_0.length c0_0, .slice A0_1 l0_1.length c0_1], .int .i64 1048576] ?_; (with_reducible refine (laws_szProg.calls k _ _ l0_0 _ _ l0_1 1048576 t310 _ ?side1 ?side2 ?side3 ?side4 A2.out).mono ?_); (case side1 => exact ZQ (Kd.C_below HR0_0.out HB.out)); (case side2 => exact HC0_0.out); (case side3 => exact ZQ (Kd.C_below HR0_1.out HB.out)); (case side4 => exact HC0_1.out); rintro e wq1 ⟨rfl, hb⟩; refine ⟨_, rfl, ?_⟩; replace BKq0 := ZW BKq0 hb; replace HB := ZT HB hb; clear hb))
 go_ret
 exact ⟨ZE, ZB⟩)
 | (
 (first | (have z_ := tag1_; clear z_) | (have z_ := tag2_; clear z_))
 try go_wp2_with (first | ((with_reducible refine gate_dst (N := 1) rfl ?_); refine ZX (N := 1) (cs := #[.slice A0_0 l0_0.length c0_0, .slice A0_1 l0_1.length c0_1]) (t := 25) ?_; intro gbq0 hg wq0 hbox hb; have BKq0 := AM (hbox); have GWq0 : Aside0 (w.heap.size ≤ gbq0) := ZS hg; have GEq0 : Aside0 (w.heap.size ≤ gbq0) := ZS hg; replace HB := ZT HB hb; clear hb hbox hg; have hczq0 := ZC2 wq0 BKq0; have hfzq0 := ZF2 BKq0) | ((with_reducible refine gate_callee (f := 5) rfl ?_); refine ZGL (some 9) Tryd.func5 #[.agg #[.slice A0_0 l0_0.length c0_0, .slice A0_1 l0_1.length c0_1], .int .i64 1048576] ?_; (with_reducible refine (laws_szProg.calls k _ _ l0_0 _ _ l0_1 1048576 t310 _ ?side1 ?side2 ?side3 ?side4 A2.out).mono ?_); (case side1 => exact ZQ (Kd.C_below HR0_0.out HB.out)); (case side2 => exact HC0_0.out); (case side3 => exact ZQ (Kd.C_below HR0_1.out HB.out)); (case side4 => exact HC0_1.out); rintro e wq1 ⟨rfl, hb⟩; refine ⟨_, rfl, ?_⟩; replace BKq0 := ZW BKq0 hb; replace HB := ZT HB hb; clear hb; have hczq1 := ZC2 wq1 BKq0; have hfzq1 := ZF2 BKq0) | ((with_reducible refine gate_callee (f := 7) rfl ?_); refine ZGL (some 13) Tryd.func7 #[.agg #[.slice A0_0 l0_0.length c0_0, .slice A0_1 l0_1.length c0_1]] ?_; (with_reducible refine (laws_toProg.calls k _ _ l0_0 _ _ l0_1 t311 t314 _ ?side1 ?side2 ?side3 ?side4 A7.out).mono ?_); (case side1 => exact ZQ (Kd.C_below HR0_0.out HB.out)); (case side2 => exact HC0_0.out); (case side3 => exact ZQ (Kd.C_below HR0_1.out HB.out)); (case side4 => exact HC0_1.out); rintro e wq2 ⟨vq0, vq1, rfl, hoq0, hoq1, hb⟩; refine ⟨_, rfl, ?_⟩; have HOq0 := AM (Kd.R_lower hoq0 (below_size (ZB))); have HOq1 := AM (Kd.R_lower hoq1 (below_size (ZB))); replace BKq0 := ZW BKq0 hb; replace HB := ZT HB hb; clear hb; (try clear hoq0); (try clear hoq1); obtain ⟨Aoq0, coq0, eoq0⟩ := Kd.R_slice HOq0.out; subst eoq0; obtain ⟨Aoq1, coq1, eoq1⟩ := Kd.R_slice HOq1.out; subst eoq1) | ((with_reducible refine gate_callee (f := 6) rfl ?_); refine ZGL (some 14) Tryd.func6 #[.agg #[.slice Aoq0 t311.length coq0, .slice Aoq1 t314.length coq1]] ?_; (with_reducible refine (spec_ProgText.calls k _ _ t311 _ _ t314 t317 _ ?side1 ?side2 ?side3 ?side4 A8.out).mono ?_); (case side1 => exact ZQ ((Kd.R_reads' HOq0.out).2.2)); (case side2 => exact (Kd.R_reads' HOq0.out).2.1); (case side3 => exact ZQ ((Kd.R_reads' HOq1.out).2.2)); (case side4 => exact (Kd.R_reads' HOq1.out).2.1); rintro e wq3 ⟨rfl, hb⟩; refine ⟨_, rfl, ?_⟩; replace HOq0 := AM (Kd.R_below (ZR HOq0.out) hb); replace HOq1 := AM (Kd.R_below (ZR HOq1.out) hb); replace BKq0 := ZW BKq0 hb; replace HB := ZT HB hb; clear hb; have hczq2 := ZC2 wq3 BKq0; have hfzq2 := ZF2 BKq0) | ((with_reducible refine gate_callee (f := 7) rfl ?_); refine ZGL (some 16) Tryd.func7 #[.agg #[.slice A0_0 l0_0.length c0_0, .slice A0_1 l0_1.length c0_1]] ?_; (with_reducible refine (laws_toProg.calls k _ _ l0_0 _ _ l0_1 t318 t321 _ ?side1 ?side2 ?side3 ?side4 A9.out).mono ?_); (case side1 => exact ZQ (Kd.C_below HR0_0.out HB.out)); (case side2 => exact HC0_0.out); (case side3 => exact ZQ (Kd.C_below HR0_1.out HB.out)); (case side4 => exact HC0_1.out); rintro e wq4 ⟨vq2, vq3, rfl, hoq0, hoq1, hb⟩; refine ⟨_, rfl, ?_⟩; have HOq2 := AM (Kd.R_lower (Kd.R_new' hoq0 (Kd.R_lt (ZR HOq0.out))) (below_size (ZB))); have HOq3 := AM (Kd.R_lower (Kd.R_new' hoq1 (Kd.R_lt (ZR HOq1.out))) (below_size (ZB))); replace HOq0 := AM (Kd.R_elder' (ZR HOq0.out) (Kd.R_base hoq0) hb); replace HOq1 := AM (Kd.R_elder' (ZR HOq1.out) (Kd.R_base hoq1) hb); replace BKq0 := ZW BKq0 hb; replace HB := ZT HB hb; clear hb; (try clear hoq0); (try clear hoq1)) | ((with_reducible refine gate_dst (N := 5) rfl ?_); refine ZX (N := 5) (cs := #[.slice none 0 0, .slice none 0 0]) (t := 31) ?_; intro gbq1 hg wq5 hbox hb; have BKq1 := AM (hbox); have GWq1 : Aside0 (w.heap.size ≤ gbq1) := ZS hg; have GEq1 : Aside0 (w.heap.size ≤ gbq1) := ZS hg; have NBq0_324 : Aside0 (gbq0 ≠ gbq1) := ZN hg BKq0; have NBq1_309 : Aside0 (gbq1 ≠ gbq0) := ZM hg BKq0; replace HOq0 := AM (Kd.R_below (ZR HOq0.out) hb); replace HOq1 := AM (Kd.R_below (ZR HOq1.out) hb); replace HOq2 := AM (Kd.R_below (ZR HOq2.out) hb); replace HOq3 := AM (Kd.R_below (ZR HOq3.out) hb); replace BKq0 := ZW BKq0 hb; replace HB := ZT HB hb; clear hb hbox hg; obtain ⟨Aoq2, coq2, eoq2⟩ := Kd.R_slice HOq2.out; subst eoq2; have hnbq0 := NBq1_309.out; have hncq0 := NBq0_324.out; have hczq3 := ZC2 wq5 BKq1; have hfzq3 := ZF2 BKq1; obtain ⟨Aoq3, coq3, eoq3⟩ := Kd.R_slice HOq3.out; subst eoq3) | ((with_reducible refine gate_callee (f := 8) rfl ?_); refine ZGL (some 18) Tryd.func8 #[.agg #[.slice Aoq2 t318.length coq2, .slice Aoq3 t321.length coq3]] ?_; (with_reducible refine (impl_ProgText.calls k _ _ t318 _ _ t321 t325 _ ?side1 ?side2 ?side3 ?side4 A10.out).mono ?_); (case side1 => refine (Kd.R_reads' (e := 43) (base := w.heap.size) (ok := fun k_ => (True ∧ some k_ ≠ (.slice Aoq0 t311.length coq0 : Value).ownBlock)) (n := t318.length) (c := coq2) ?_).2.2; exact (ZR ((Kd.R_mono (Kd.R_far (p := ⟨gbq1, 1, none⟩) (Kd.R_far (p := ⟨gbq1, 0, none⟩) (Kd.R_types HOq2.out BKq1.out (by decide)) (fun _ hk => hk.2) (.slice Aoq2 t318.length coq2)) (fun _ hk => hk.2) (.slice Aoq3 t321.length coq3)) (fun _ h_ => h_.1))))); (case side2 => exact (Kd.R_reads' HOq2.out).2.1); (case side3 => refine (Kd.R_reads' (e := 71) (base := w.heap.size) (ok := fun k_ => (True ∧ some k_ ≠ (.slice Aoq1 t314.length coq1 : Value).ownBlock)) (n := t321.length) (c := coq3) ?_).2.2; exact (ZR ((Kd.R_mono (Kd.R_far (p := ⟨gbq1, 1, none⟩) (Kd.R_far (p := ⟨gbq1, 0, none⟩) (Kd.R_types HOq3.out BKq1.out (by decide)) (fun _ hk => hk.2) (.slice Aoq2 t318.length coq2)) (fun _ hk => hk.2) (.slice Aoq3 t321.length coq3)) (fun _ h_ => h_.1))))); (case side4 => exact (Kd.R_reads' HOq3.out).2.1); rintro e wq6 ⟨rfl, hb⟩; refine ⟨_, rfl, ?_⟩; replace HOq0 := AM (Kd.R_below (ZR ((Kd.R_mono (Kd.R_far (p := ⟨gbq1, 1, none⟩) (Kd.R_far (p := ⟨gbq1, 0, none⟩) (Kd.R_types HOq0.out BKq1.out (by decide)) (fun _ hk => hk.2) (.slice Aoq2 t318.length coq2)) (fun _ hk => hk.2) (.slice Aoq3 t321.length coq3)) (fun _ h_ => h_.1)))) hb); replace HOq1 := AM (Kd.R_below (ZR ((Kd.R_mono (Kd.R_far (p := ⟨gbq1, 1, none⟩) (Kd.R_far (p := ⟨gbq1, 0, none⟩) (Kd.R_types HOq1.out BKq1.out (by decide)) (fun _ hk => hk.2) (.slice Aoq2 t318.length coq2)) (fun _ hk => hk.2) (.slice Aoq3 t321.length coq3)) (fun _ h_ => h_.1)))) hb); replace HOq2 := AM (Kd.R_below (ZR ((Kd.R_mono (Kd.R_far (p := ⟨gbq1, 1, none⟩) (Kd.R_far (p := ⟨gbq1, 0, none⟩) (Kd.R_types HOq2.out BKq1.out (by decide)) (fun _ hk => hk.2) (.slice Aoq2 t318.length coq2)) (fun _ hk => hk.2) (.slice Aoq3 t321.length coq3)) (fun _ h_ => h_.1)))) hb); replace HOq3 := AM (Kd.R_below (ZR ((Kd.R_mono (Kd.R_far (p := ⟨gbq1, 1, none⟩) (Kd.R_far (p := ⟨gbq1, 0, none⟩) (Kd.R_types HOq3.out BKq1.out (by decide)) (fun _ hk => hk.2) (.slice Aoq2 t318.length coq2)) (fun _ hk => hk.2) (.slice Aoq3 t321.length coq3)) (fun _ h_ => h_.1)))) hb); replace BKq0 := ZV #[.slice A0_0 l0_0.length c0_0, .slice A0_1 l0_1.length c0_1] BKq0 hb; replace BKq1 := ZV #[.slice Aoq2 t318.length coq2, .slice Aoq3 t321.length coq3] BKq1 hb; replace HB := ZT HB hb; clear hb))
 replace HOq0 := AM (Kd.R_drew HOq0.out)
 replace HOq1 := AM (Kd.R_drew HOq1.out)
 replace HOq2 := AM (Kd.R_drew HOq2.out)
 replace HOq3 := AM (Kd.R_drew HOq3.out)
 replace BKq0 := AM (blk_drew BKq0.out)
 replace BKq1 := AM (blk_drew BKq1.out)
 replace HB := AM (below_drew1 HB.out)
 refine start_ (n := 5) (S := fun w' => w'.cell? ⟨gbq1, 0, none⟩ = some (.slice Aoq2 t318.length coq2) ∧ w'.cell? ⟨gbq1, 1, none⟩ = some (.slice Aoq3 t321.length coq3) ∧ w'.cell? ⟨gbq0, 0, none⟩ = some (.slice A0_0 l0_0.length c0_0) ∧ w'.cell? ⟨gbq0, 1, none⟩ = some (.slice A0_1 l0_1.length c0_1)) (ds := []) #[F,F,F,F,F] (by kernel_rfl) rfl rfl ⟨ZA BKq1 0, ZA BKq1 1, ZA BKq0 0, ZA BKq0 1⟩ (fun hHeld => ?_)
 generalize wq6.drew = wq7 at HOq0 HOq1 HOq2 HOq3 BKq0 BKq1 HB hHeld ⊢
 refine take_ (i := 0) (N := some 22) (v := ?_) (a' := ?_) #[T,F,F,F,F] rfl rfl (by kernel_rfl) (fun _ _ _ h => h) (Or.inl ⟨by rfl, ?_⟩) hHeld ?_ ?_
 rotate_left
 ·(
 rintro w' ⟨sq0, sq1, sq2, sq3⟩
 go_simp
 with_reducible rfl)
 rotate_left
 ·(
 simp only [Act.put, List.setIfInBounds_toArray, List.set_cons_zero, List.set_cons_succ, i64_w, i32_w]
 rfl)
 refine take_ (i := 1) (N := some 23) (v := ?_) (a' := ?_) #[T,T,F,F,F] rfl rfl (by kernel_rfl) (fun _ _ _ h => h) (Or.inl ⟨by rfl, ?_⟩) hHeld ?_ ?_
 rotate_left
 ·(
 rintro w' ⟨sq0, sq1, sq2, sq3⟩
 go_simp
 with_reducible rfl)
 rotate_left
 ·(
 simp only [Act.put, List.setIfInBounds_toArray, List.set_cons_zero, List.set_cons_succ, i64_w, i32_w]
 rfl)
 refine one_ (i := 2) (N := some 24) #[T,T,T,F,F] rfl rfl (by kernel_rfl) (by decide) (fun K hK => ?_)
 refine ZGO Tryd.func7 #[.agg #[.slice A0_0 l0_0.length c0_0, .slice A0_1 l0_1.length c0_1]] ?_
 with_reducible refine (laws_toProg.calls k _ _ l0_0 _ _ l0_1 t326 t329 _ ?side1 ?side2 ?side3 ?side4 A12.out).mono ?_
 (case side1 => exact ZQ (Kd.C_below HR0_0.out HB.out))
 (case side2 => exact HC0_0.out)
 (case side3 => exact ZQ (Kd.C_below HR0_1.out HB.out))
 (case side4 => exact HC0_1.out)
 rintro e wq8 ⟨vq4, vq5, rfl, hoq0, hoq1, hb⟩
 refine ⟨_, rfl, ?_⟩
 have HOq4 := AM (Kd.R_lower (Kd.R_new' (Kd.R_new' hoq0 (Kd.R_lt (ZR HOq0.out))) (Kd.R_lt (ZR HOq2.out))) (below_size (ZB)))
 have HOq5 := AM (Kd.R_lower (Kd.R_new' (Kd.R_new' hoq1 (Kd.R_lt (ZR HOq1.out))) (Kd.R_lt (ZR HOq3.out))) (below_size (ZB)))
 replace HOq0 := AM (Kd.R_elder' (ZR HOq0.out) (Kd.R_base hoq0) hb)
 replace HOq1 := AM (Kd.R_elder' (ZR HOq1.out) (Kd.R_base hoq1) hb)
 replace HOq2 := AM (Kd.R_elder' (ZR HOq2.out) (Kd.R_base hoq0) hb)
 replace HOq3 := AM (Kd.R_elder' (ZR HOq3.out) (Kd.R_base hoq1) hb)
 replace BKq0 := ZW BKq0 hb
 replace BKq1 := ZW BKq1 hb
 replace HB := ZT HB hb
 (try clear hb)
 (try clear hb2)
 (try clear hk)
 (try clear hi)
 (try clear hoq0)
 (try clear hoq1)
 obtain ⟨Aoq4, coq4, eoq4⟩ := Kd.R_slice HOq4.out
 (first | subst eoq4 | (injection eoq4 with f1_ f2_ f3_; have fq0_ := f1_.symm; have fq1_ := f3_.symm; clear f1_ f2_ f3_; subst fq0_; subst fq1_))
 obtain ⟨Aoq5, coq5, eoq5⟩ := Kd.R_slice HOq5.out
 (first | subst eoq5 | (injection eoq5 with f1_ f2_ f3_; have fq0_ := f1_.symm; have fq1_ := f3_.symm; clear f1_ f2_ f3_; subst fq0_; subst fq1_))
 refine hK.out _ _ ⟨ZA BKq1 0, ZA BKq1 1, ZA BKq0 0, ZA BKq0 1⟩ (fun hHeld => ?_)
 clear hK K
 refine ZNO 24 ?_
 refine one_ (i := 3) (N := some 25) #[T,T,T,T,F] rfl rfl (by kernel_rfl) (by decide) (fun K hK => ?_)
 refine ZGO Tryd.func9 #[.agg #[.slice Aoq2 t318.length coq2, .slice Aoq3 t321.length coq3], .agg #[.slice Aoq4 t326.length coq4, .slice Aoq5 t329.length coq5]] ?_
 first
 | (
 (have z_ := tag1_; clear z_)
 with_reducible refine (laws_eqProg.calls k _ _ t318 _ _ t321 _ _ t326 _ _ t329 true _ ?side1 ?side2 ?side3 ?side4 ?side5 ?side6 ?side7 ?side8 A13.out).mono ?_
 (case side1 => exact ZQ ((Kd.R_reads' HOq2.out).2.2))
 (case side2 => exact (Kd.R_reads' HOq2.out).2.1)
 (case side3 => exact ZQ ((Kd.R_reads' HOq3.out).2.2))
 (case side4 => exact (Kd.R_reads' HOq3.out).2.1)
 (case side5 => exact ZQ ((Kd.R_reads' HOq4.out).2.2))
 (case side6 => exact (Kd.R_reads' HOq4.out).2.1)
 (case side7 => exact ZQ ((Kd.R_reads' HOq5.out).2.2))
 (case side8 => exact (Kd.R_reads' HOq5.out).2.1)
 rintro e wq9 ⟨rfl, hb⟩
 refine ⟨_, rfl, ?_⟩
 replace HOq0 := AM (Kd.R_below (ZR HOq0.out) hb)
 replace HOq1 := AM (Kd.R_below (ZR HOq1.out) hb)
 replace HOq2 := AM (Kd.R_below (ZR HOq2.out) hb)
 replace HOq3 := AM (Kd.R_below (ZR HOq3.out) hb)
 replace HOq4 := AM (Kd.R_below (ZR HOq4.out) hb)
 replace HOq5 := AM (Kd.R_below (ZR HOq5.out) hb)
 replace BKq0 := ZW BKq0 hb
 replace BKq1 := ZW BKq1 hb
 replace HB := ZT HB hb
 (try clear hb)
 (try clear hb2)
 (try clear hk)
 (try clear hi)
 refine hK.out _ _ ⟨ZA BKq1 0, ZA BKq1 1, ZA BKq0 0, ZA BKq0 1⟩ (fun hHeld => ?_)
 clear hK K
 refine ZNO 25 ?_
 refine pure_ (i := 4) (N := some 26) (v := ?_) (a' := ?_) #[T,T,T,T,T] rfl rfl (by kernel_rfl) (fun _ _ _ h => h) (Or.inl ⟨by rfl, ?_⟩) ?_ ?_
 rotate_left
 ·(
 intro w'
 go_simp
 with_reducible rfl)
 rotate_left
 ·(
 simp only [Act.put, List.setIfInBounds_toArray, List.set_cons_zero, List.set_cons_succ, i64_w, i32_w]
 rfl)
 refine done_ (by kernel_rfl) ?_
 try go_wp2
 go_ret
 exact ⟨ZE, ZB⟩)
 | (
 (have z_ := tag2_; clear z_)
 with_reducible refine (laws_eqProg.calls k _ _ t318 _ _ t321 _ _ t326 _ _ t329 false _ ?side1 ?side2 ?side3 ?side4 ?side5 ?side6 ?side7 ?side8 A13.out).mono ?_
 (case side1 => exact ZQ ((Kd.R_reads' HOq2.out).2.2))
 (case side2 => exact (Kd.R_reads' HOq2.out).2.1)
 (case side3 => exact ZQ ((Kd.R_reads' HOq3.out).2.2))
 (case side4 => exact (Kd.R_reads' HOq3.out).2.1)
 (case side5 => exact ZQ ((Kd.R_reads' HOq4.out).2.2))
 (case side6 => exact (Kd.R_reads' HOq4.out).2.1)
 (case side7 => exact ZQ ((Kd.R_reads' HOq5.out).2.2))
 (case side8 => exact (Kd.R_reads' HOq5.out).2.1)
 rintro e wq9 ⟨rfl, hb⟩
 refine ⟨_, rfl, ?_⟩
 replace HOq0 := AM (Kd.R_below (ZR HOq0.out) hb)
 replace HOq1 := AM (Kd.R_below (ZR HOq1.out) hb)
 replace HOq2 := AM (Kd.R_below (ZR HOq2.out) hb)
 replace HOq3 := AM (Kd.R_below (ZR HOq3.out) hb)
 replace HOq4 := AM (Kd.R_below (ZR HOq4.out) hb)
 replace HOq5 := AM (Kd.R_below (ZR HOq5.out) hb)
 replace BKq0 := ZW BKq0 hb
 replace BKq1 := ZW BKq1 hb
 replace HB := ZT HB hb
 (try clear hb)
 (try clear hb2)
 (try clear hk)
 (try clear hi)
 refine hK.out _ _ ⟨ZA BKq1 0, ZA BKq1 1, ZA BKq0 0, ZA BKq0 1⟩ (fun hHeld => ?_)
 clear hK K
 refine ZNO 25 ?_
 refine pure_ (i := 4) (N := some 26) (v := ?_) (a' := ?_) #[T,T,T,T,T] rfl rfl (by kernel_rfl) (fun _ _ _ h => h) (Or.inl ⟨by rfl, ?_⟩) ?_ ?_
 rotate_left
 ·(
 intro w'
 go_simp
 with_reducible rfl)
 rotate_left
 ·(
 simp only [Act.put, List.setIfInBounds_toArray, List.set_cons_zero, List.set_cons_succ, i64_w, i32_w]
 rfl)
 refine done_ (by kernel_rfl) ?_
 try go_wp2
 go_ret
 exact ⟨ZE, ZB⟩))
 | (
 (have z_ := tag3_; clear z_)
 go_wp2_with (first | ((with_reducible refine gate_dst (N := 1) rfl ?_); refine ZX (N := 1) (cs := #[.slice A0_0 l0_0.length c0_0, .slice A0_1 l0_1.length c0_1]) (t := 25) ?_; intro gbq0 hg wq0 hbox hb; have BKq0 := AM (hbox); have GWq0 : Aside0 (w.heap.size ≤ gbq0) := ZS hg; have GEq0 : Aside0 (w.heap.size ≤ gbq0) := ZS hg; replace HB := ZT HB hb; clear hb hbox hg; have hczq0 := ZC2 wq0 BKq0; have hfzq0 := ZF2 BKq0) | ((with_reducible refine gate_callee (f := 5) rfl ?_); refine ZGL (some 9) Tryd.func5 #[.agg #[.slice A0_0 l0_0.length c0_0, .slice A0_1 l0_1.length c0_1], .int .i64 1048576] ?_; (with_reducible refine (laws_szProg.calls k _ _ l0_0 _ _ l0_1 1048576 t310 _ ?side1 ?side2 ?side3 ?side4 A2.out).mono ?_); (case side1 => exact ZQ (Kd.C_below HR0_0.out HB.out)); (case side2 => exact HC0_0.out); (case side3 => exact ZQ (Kd.C_below HR0_1.out HB.out)); (case side4 => exact HC0_1.out); rintro e wq1 ⟨rfl, hb⟩; refine ⟨_, rfl, ?_⟩; replace BKq0 := ZW BKq0 hb; replace HB := ZT HB hb; clear hb; have hczq1 := ZC2 wq1 BKq0; have hfzq1 := ZF2 BKq0) | ((with_reducible refine gate_callee (f := 7) rfl ?_); refine ZGL (some 13) Tryd.func7 #[.agg #[.slice A0_0 l0_0.length c0_0, .slice A0_1 l0_1.length c0_1]] ?_; (with_reducible refine (laws_toProg.calls k _ _ l0_0 _ _ l0_1 t311 t314 _ ?side1 ?side2 ?side3 ?side4 A7.out).mono ?_); (case side1 => exact ZQ (Kd.C_below HR0_0.out HB.out)); (case side2 => exact HC0_0.out); (case side3 => exact ZQ (Kd.C_below HR0_1.out HB.out)); (case side4 => exact HC0_1.out); rintro e wq2 ⟨vq0, vq1, rfl, hoq0, hoq1, hb⟩; refine ⟨_, rfl, ?_⟩; have HOq0 := AM (Kd.R_lower hoq0 (below_size (ZB))); have HOq1 := AM (Kd.R_lower hoq1 (below_size (ZB))); replace BKq0 := ZW BKq0 hb; replace HB := ZT HB hb; clear hb; (try clear hoq0); (try clear hoq1); obtain ⟨Aoq0, coq0, eoq0⟩ := Kd.R_slice HOq0.out; subst eoq0; obtain ⟨Aoq1, coq1, eoq1⟩ := Kd.R_slice HOq1.out; subst eoq1) | ((with_reducible refine gate_callee (f := 6) rfl ?_); refine ZGL (some 14) Tryd.func6 #[.agg #[.slice Aoq0 t311.length coq0, .slice Aoq1 t314.length coq1]] ?_; (with_reducible refine (spec_ProgText.calls k _ _ t311 _ _ t314 t317 _ ?side1 ?side2 ?side3 ?side4 A8.out).mono ?_); (case side1 => exact ZQ ((Kd.R_reads' HOq0.out).2.2)); (case side2 => exact (Kd.R_reads' HOq0.out).2.1); (case side3 => exact ZQ ((Kd.R_reads' HOq1.out).2.2)); (case side4 => exact (Kd.R_reads' HOq1.out).2.1); rintro e wq3 ⟨rfl, hb⟩; refine ⟨_, rfl, ?_⟩; replace HOq0 := AM (Kd.R_below (ZR HOq0.out) hb); replace HOq1 := AM (Kd.R_below (ZR HOq1.out) hb); replace BKq0 := ZW BKq0 hb; replace HB := ZT HB hb; clear hb; have hczq2 := ZC2 wq3 BKq0; have hfzq2 := ZF2 BKq0) | ((with_reducible refine gate_callee (f := 7) rfl ?_); refine ZGL (some 16) Tryd.func7 #[.agg #[.slice A0_0 l0_0.length c0_0, .slice A0_1 l0_1.length c0_1]] ?_; (with_reducible refine (laws_toProg.calls k _ _ l0_0 _ _ l0_1 t318 t321 _ ?side1 ?side2 ?side3 ?side4 A9.out).mono ?_); (case side1 => exact ZQ (Kd.C_below HR0_0.out HB.out)); (case side2 => exact HC0_0.out); (case side3 => exact ZQ (Kd.C_below HR0_1.out HB.out)); (case side4 => exact HC0_1.out); rintro e wq4 ⟨vq2, vq3, rfl, hoq0, hoq1, hb⟩; refine ⟨_, rfl, ?_⟩; have HOq2 := AM (Kd.R_lower (Kd.R_new' hoq0 (Kd.R_lt (ZR HOq0.out))) (below_size (ZB))); have HOq3 := AM (Kd.R_lower (Kd.R_new' hoq1 (Kd.R_lt (ZR HOq1.out))) (below_size (ZB))); replace HOq0 := AM (Kd.R_elder' (ZR HOq0.out) (Kd.R_base hoq0) hb); replace HOq1 := AM (Kd.R_elder' (ZR HOq1.out) (Kd.R_base hoq1) hb); replace BKq0 := ZW BKq0 hb; replace HB := ZT HB hb; clear hb; (try clear hoq0); (try clear hoq1)) | ((with_reducible refine gate_dst (N := 5) rfl ?_); refine ZX (N := 5) (cs := #[.slice none 0 0, .slice none 0 0]) (t := 31) ?_; intro gbq1 hg wq5 hbox hb; have BKq1 := AM (hbox); have GWq1 : Aside0 (w.heap.size ≤ gbq1) := ZS hg; have GEq1 : Aside0 (w.heap.size ≤ gbq1) := ZS hg; have NBq0_324 : Aside0 (gbq0 ≠ gbq1) := ZN hg BKq0; have NBq1_309 : Aside0 (gbq1 ≠ gbq0) := ZM hg BKq0; replace HOq0 := AM (Kd.R_below (ZR HOq0.out) hb); replace HOq1 := AM (Kd.R_below (ZR HOq1.out) hb); replace HOq2 := AM (Kd.R_below (ZR HOq2.out) hb); replace HOq3 := AM (Kd.R_below (ZR HOq3.out) hb); replace BKq0 := ZW BKq0 hb; replace HB := ZT HB hb; clear hb hbox hg; obtain ⟨Aoq2, coq2, eoq2⟩ := Kd.R_slice HOq2.out; subst eoq2; have hnbq0 := NBq1_309.out; have hncq0 := NBq0_324.out; have hczq3 := ZC2 wq5 BKq1; have hfzq3 := ZF2 BKq1; obtain ⟨Aoq3, coq3, eoq3⟩ := Kd.R_slice HOq3.out; subst eoq3) | ((with_reducible refine gate_callee (f := 8) rfl ?_); refine ZGL (some 18) Tryd.func8 #[.agg #[.slice Aoq2 t318.length coq2, .slice Aoq3 t321.length coq3]] ?_; (with_reducible refine (impl_ProgText.calls k _ _ t318 _ _ t321 t325 _ ?side1 ?side2 ?side3 ?side4 A10.out).mono ?_); (case side1 => refine (Kd.R_reads' (e := 43) (base := w.heap.size) (ok := fun k_ => (True ∧ some k_ ≠ (.slice Aoq0 t311.length coq0 : Value).ownBlock)) (n := t318.length) (c := coq2) ?_).2.2; exact (ZR ((Kd.R_mono (Kd.R_far (p := ⟨gbq1, 1, none⟩) (Kd.R_far (p := ⟨gbq1, 0, none⟩) (Kd.R_types HOq2.out BKq1.out (by decide)) (fun _ hk => hk.2) (.slice Aoq2 t318.length coq2)) (fun _ hk => hk.2) (.slice Aoq3 t321.length coq3)) (fun _ h_ => h_.1))))); (case side2 => exact (Kd.R_reads' HOq2.out).2.1); (case side3 => refine (Kd.R_reads' (e := 71) (base := w.heap.size) (ok := fun k_ => (True ∧ some k_ ≠ (.slice Aoq1 t314.length coq1 : Value).ownBlock)) (n := t321.length) (c := coq3) ?_).2.2; exact (ZR ((Kd.R_mono (Kd.R_far (p := ⟨gbq1, 1, none⟩) (Kd.R_far (p := ⟨gbq1, 0, none⟩) (Kd.R_types HOq3.out BKq1.out (by decide)) (fun _ hk => hk.2) (.slice Aoq2 t318.length coq2)) (fun _ hk => hk.2) (.slice Aoq3 t321.length coq3)) (fun _ h_ => h_.1))))); (case side4 => exact (Kd.R_reads' HOq3.out).2.1); rintro e wq6 ⟨rfl, hb⟩; refine ⟨_, rfl, ?_⟩; replace HOq0 := AM (Kd.R_below (ZR ((Kd.R_mono (Kd.R_far (p := ⟨gbq1, 1, none⟩) (Kd.R_far (p := ⟨gbq1, 0, none⟩) (Kd.R_types HOq0.out BKq1.out (by decide)) (fun _ hk => hk.2) (.slice Aoq2 t318.length coq2)) (fun _ hk => hk.2) (.slice Aoq3 t321.length coq3)) (fun _ h_ => h_.1)))) hb); replace HOq1 := AM (Kd.R_below (ZR ((Kd.R_mono (Kd.R_far (p := ⟨gbq1, 1, none⟩) (Kd.R_far (p := ⟨gbq1, 0, none⟩) (Kd.R_types HOq1.out BKq1.out (by decide)) (fun _ hk => hk.2) (.slice Aoq2 t318.length coq2)) (fun _ hk => hk.2) (.slice Aoq3 t321.length coq3)) (fun _ h_ => h_.1)))) hb); replace HOq2 := AM (Kd.R_below (ZR ((Kd.R_mono (Kd.R_far (p := ⟨gbq1, 1, none⟩) (Kd.R_far (p := ⟨gbq1, 0, none⟩) (Kd.R_types HOq2.out BKq1.out (by decide)) (fun _ hk => hk.2) (.slice Aoq2 t318.length coq2)) (fun _ hk => hk.2) (.slice Aoq3 t321.length coq3)) (fun _ h_ => h_.1)))) hb); replace HOq3 := AM (Kd.R_below (ZR ((Kd.R_mono (Kd.R_far (p := ⟨gbq1, 1, none⟩) (Kd.R_far (p := ⟨gbq1, 0, none⟩) (Kd.R_types HOq3.out BKq1.out (by decide)) (fun _ hk => hk.2) (.slice Aoq2 t318.length coq2)) (fun _ hk => hk.2) (.slice Aoq3 t321.length coq3)) (fun _ h_ => h_.1)))) hb); replace BKq0 := ZV #[.slice A0_0 l0_0.length c0_0, .slice A0_1 l0_1.length c0_1] BKq0 hb; replace BKq1 := ZV #[.slice Aoq2 t318.length coq2, .slice Aoq3 t321.length coq3] BKq1 hb; replace HB := ZT HB hb; clear hb))
 go_ret
 exact ⟨ZE, ZB⟩))

end Go.Proofs.YtfcmckomagaiiaaDoor.A
