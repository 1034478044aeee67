/- What Go functions compute, as Lean functions, and for each its contract: for every input at which the Lean function answers the call returns that; written by wip/tools/pr.py over the kit's print. -/
import Derived.Test.YtdmejmdifnicmaaAx0
import Derived.Test.YtdmejmdifnicmaaAx17
import Derived.Test.YtdmejmdifnicmaaAx18
namespace Go.Proofs.Ytdmejmdifnicmaa.A
open Go.RowKit Go.Proofs.YtdmejmdifnicmaaW.PrintWords Go.Proofs.YtdmejmdifnicmaaW.PrintLast Go.Proofs.YtdmejmdifnicmaaW.PrintMore
attribute [local go_sem] max2_int min2_int max_two min_two max_three min_three max_four min_four   -- for this text's walks alone
set_option linter.unusedVariables false
set_option linter.unusedSimpArgs false

/-! ### laws_FnRunTo: function 3 -/
def laws_FnRunTo.l0 : Nat → Int → Int → List Int → List (S52) → List (S50) → Option (Bool)
 | 0, _, _, _, _, _ => none
 | k + 1, x6, x7, x400000, x400001, x400002 => if x7 < 3 then ((impl_RunTo.f k x400000 x400001 x400002 x7).bind fun t407 => (laws_FnRunTo.l0 k (wrap64 (x6 + (t407.length : Int))) (wrap64 (x7 + 1)) x400000 x400001 x400002)) else (some (x6 == (x400002.length : Int)))
def laws_FnRunTo.f (k : Nat) (l0 : List Int) : Option (Bool) := if (l0.length : Int) > 1048576 then (some true) else ((spec_DrawRunTo.f k l0).bind fun bt389 => ((impl_RunTo.f k bt389.1 bt389.2.1 bt389.2.2.1 bt389.2.2.2).bind fun t400 => ((spec_RunTo.f k bt389.1 bt389.2.1 bt389.2.2.1 bt389.2.2.2).bind fun t403 => ((laws_lcInts.f k t400 t403).bind fun t406 => (if t406 = true then (laws_FnRunTo.l0 k 0 0 bt389.1 bt389.2.1 bt389.2.2.1) else (some false))))))
set_option maxHeartbeats 8000000 in
set_option maxRecDepth 100000 in
theorem laws_FnRunTo.calls (k : Nat) (A0 : Option Addr) (c0 : Nat) (l0 : List Int) (r : Bool) (w : World) (hr0 : Kd.C (Kd.int .u8) w A0 l0.length l0) (hc0 : l0.length ≤ c0) (h : laws_FnRunTo.f k l0 = some r) :
  Calls Try.prog 3 #[.slice A0 l0.length c0] w fun e w' => e = .returned (.bool r) ∧ Below w.heap.size w w' := by
 have hu27 := Try.underlying27
 have HR0 := Aside0.mk hr0
 have HC0 := Aside0.mk hc0
 clear hr0 hc0
 have HB := Aside0.mk (Below.refl w.heap.size w)
 have H : (if (l0.length : Int) > 1048576 then (some true) else ((spec_DrawRunTo.f k l0).bind fun bt389 => ((impl_RunTo.f k bt389.1 bt389.2.1 bt389.2.2.1 bt389.2.2.2).bind fun t400 => ((spec_RunTo.f k bt389.1 bt389.2.1 bt389.2.2.1 bt389.2.2.2).bind fun t403 => ((laws_lcInts.f k t400 t403).bind fun t406 => (if t406 = true then (laws_FnRunTo.l0 k 0 0 bt389.1 bt389.2.1 bt389.2.2.1) else (some false))))))) = some r := h
 clear h
 by_cases c2 : (l0.length : Int) > 1048576
 ·rw [if_pos c2] at H
  have c2b0 : decide (1048576 < (l0.length : Int)) = true := decide_eq_true c2
  have c2b1 : decide (1048576 < l0.length) = true := decide_eq_true (by omega)
  clear c2
  obtain rfl := Option.some.inj H
  go_enter Try.func3, Try.ntmps3
  go_wp2
  go_ret
  exact ⟨ZE, ZB⟩
 ·rw [if_neg c2] at H
  have c2b0 : decide (1048576 < (l0.length : Int)) = false := decide_eq_false c2
  have c2b1 : decide (1048576 < l0.length) = false := decide_eq_false (by omega)
  clear c2
  replace H := Option.bind_eq_some_iff.mp H
  obtain ⟨⟨t389, t392, t395, t398⟩, A30, H⟩ := H
  replace H : ((impl_RunTo.f k t389 t392 t395 t398).bind fun t400 => ((spec_RunTo.f k t389 t392 t395 t398).bind fun t403 => ((laws_lcInts.f k t400 t403).bind fun t406 => (if t406 = true then (laws_FnRunTo.l0 k 0 0 t389 t392 t395) else (some false))))) = some r := H
  have A3 := Aside0.mk A30
  clear A30
  replace H := Option.bind_eq_some_iff.mp H
  obtain ⟨t400, A40, H⟩ := H
  replace H : ((spec_RunTo.f k t389 t392 t395 t398).bind fun t403 => ((laws_lcInts.f k t400 t403).bind fun t406 => (if t406 = true then (laws_FnRunTo.l0 k 0 0 t389 t392 t395) else (some false)))) = some r := H
  have A4 := Aside0.mk A40
  clear A40
  replace H := Option.bind_eq_some_iff.mp H
  obtain ⟨t403, A50, H⟩ := H
  replace H : ((laws_lcInts.f k t400 t403).bind fun t406 => (if t406 = true then (laws_FnRunTo.l0 k 0 0 t389 t392 t395) else (some false))) = some r := H
  have A5 := Aside0.mk A50
  clear A50
  replace H := Option.bind_eq_some_iff.mp H
  obtain ⟨t406, A60, H⟩ := H
  replace H : (if t406 = true then (laws_FnRunTo.l0 k 0 0 t389 t392 t395) else (some false)) = some r := H
  have A6 := Aside0.mk A60
  clear A60
  by_cases c7 : t406 = true
  ·subst c7
   have H1 : (laws_FnRunTo.l0 k 0 0 t389 t392 t395) = some r := by rw [if_pos rfl] at H; exact H
   clear H
   have H := H1
   clear H1
   have H' := Aside0.mk H
   clear H
   go_enter Try.func3, Try.ntmps3
   go_wp2_with (first | ((with_reducible refine gate_callee (f := 5) rfl ?_); refine goesL_ (some 13) rfl rfl Try.func5 (by kernel_rfl) rfl #[.slice A0 l0.length c0] rfl ZG ?_; (with_reducible refine (spec_DrawRunTo.calls k _ _ l0 t389 t392 t395 t398 _ ?side1 ?side2 A3.out).mono ?_); (case side1 => exact ZQ HR0.out); (case side2 => exact HC0.out); rintro e w8 ⟨v390, v393, v396, rfl, ho0, ho1, ho2, hb⟩; refine ⟨_, rfl, ?_⟩; have HO391 := Aside0.mk (Kd.R_lower ho0 (below_size (ZB))); have HO394 := Aside0.mk (Kd.R_lower ho1 (below_size (ZB))); have HO397 := Aside0.mk (Kd.R_lower ho2 (below_size (ZB))); replace HB := ZT HB hb; (try clear hb); (try clear hb2); (try clear hk); (try clear hi); (try clear ho0); (try clear ho1); (try clear ho2)) | ((with_reducible refine gate_dst (N := 3) rfl ?_); refine ZX (N := 3) (cs := #[.slice none 0 0, .slice none 0 0, .slice none 0 0]) (t := 27) ?_; intro gb399 hg w9 hbox hb; have BK399 := Aside0.mk (hbox); have GW399 : Aside0 (w.heap.size ≤ gb399) := ZS hg; have GE399 : Aside0 (w.heap.size ≤ gb399) := ZS hg; replace HO391 := Aside0.mk (Kd.R_below (ZR HO391.out) hb); replace HO394 := Aside0.mk (Kd.R_below (ZR HO394.out) hb); replace HO397 := Aside0.mk (Kd.R_below (ZR HO397.out) hb); replace HB := ZT HB hb; clear hb hbox hg; obtain ⟨Ao10, co10, eo10⟩ := Kd.R_slice HO391.out; subst eo10; obtain ⟨hcz11_0, hcz11_1, hcz11_2⟩ := ZC3 w9 BK399; obtain ⟨hfz11_0, hfz11_1, hfz11_2⟩ := ZF3 BK399; obtain ⟨Ao12, co12, eo12⟩ := Kd.R_slice HO394.out; subst eo12; obtain ⟨Ao13, co13, eo13⟩ := Kd.R_slice HO397.out; subst eo13) | ((with_reducible refine gate_callee (f := 6) rfl ?_); refine goesL_ (some 18) rfl rfl Try.func6 (by kernel_rfl) rfl #[.agg #[.slice Ao10 t389.length co10, .slice Ao12 t392.length co12, .slice Ao13 t395.length co13], .int .i64 t398] rfl ZG ?_; (with_reducible refine (impl_RunTo.calls k _ _ t389 _ _ t392 _ _ t395 t398 t400 _ ?side1 ?side2 ?side3 ?side4 ?side5 ?side6 A4.out).mono ?_); (case side1 => refine (Kd.R_reads' (e := 3) (base := w.heap.size) (ok := fun k_ => True) (n := t389.length) (c := co10) ?_).2.2; exact (ZR ((Kd.R_mono (Kd.R_far (p := ⟨gb399, 2, none⟩) (Kd.R_far (p := ⟨gb399, 1, none⟩) (Kd.R_far (p := ⟨gb399, 0, none⟩) (Kd.R_types HO391.out BK399.out (by decide)) (fun _ hk => hk.2) (.slice Ao10 t389.length co10)) (fun _ hk => hk.2) (.slice Ao12 t392.length co12)) (fun _ hk => hk.2) (.slice Ao13 t395.length co13)) (fun _ h_ => h_.1))))); (case side2 => exact (Kd.R_reads' HO391.out).2.1); (case side3 => refine (Kd.R_reads' (e := 52) (base := w.heap.size) (ok := fun k_ => True) (n := t392.length) (c := co12) ?_).2.2; exact (ZR ((Kd.R_mono (Kd.R_far (p := ⟨gb399, 2, none⟩) (Kd.R_far (p := ⟨gb399, 1, none⟩) (Kd.R_far (p := ⟨gb399, 0, none⟩) (Kd.R_types HO394.out BK399.out (by decide)) (fun _ hk => hk.2) (.slice Ao10 t389.length co10)) (fun _ hk => hk.2) (.slice Ao12 t392.length co12)) (fun _ hk => hk.2) (.slice Ao13 t395.length co13)) (fun _ h_ => h_.1))))); (case side4 => exact (Kd.R_reads' HO394.out).2.1); (case side5 => refine (Kd.R_reads' (e := 50) (base := w.heap.size) (ok := fun k_ => True) (n := t395.length) (c := co13) ?_).2.2; exact (ZR ((Kd.R_mono (Kd.R_far (p := ⟨gb399, 2, none⟩) (Kd.R_far (p := ⟨gb399, 1, none⟩) (Kd.R_far (p := ⟨gb399, 0, none⟩) (Kd.R_types HO397.out BK399.out (by decide)) (fun _ hk => hk.2) (.slice Ao10 t389.length co10)) (fun _ hk => hk.2) (.slice Ao12 t392.length co12)) (fun _ hk => hk.2) (.slice Ao13 t395.length co13)) (fun _ h_ => h_.1))))); (case side6 => exact (Kd.R_reads' HO397.out).2.1); rintro e w14 ⟨v401, rfl, ho0, hb⟩; refine ⟨_, rfl, ?_⟩; have HO402 := Aside0.mk (Kd.R_lower (Kd.R_new' ho0 (Kd.R_lt (ZR ((Kd.R_mono (Kd.R_far (p := ⟨gb399, 2, none⟩) (Kd.R_far (p := ⟨gb399, 1, none⟩) (Kd.R_far (p := ⟨gb399, 0, none⟩) (Kd.R_types HO391.out BK399.out (by decide)) (fun _ hk => hk.2) (.slice Ao10 t389.length co10)) (fun _ hk => hk.2) (.slice Ao12 t392.length co12)) (fun _ hk => hk.2) (.slice Ao13 t395.length co13)) (fun _ h_ => h_.1)))))) (below_size (ZB))); replace HO391 := Aside0.mk (Kd.R_elder' (ZR ((Kd.R_mono (Kd.R_far (p := ⟨gb399, 2, none⟩) (Kd.R_far (p := ⟨gb399, 1, none⟩) (Kd.R_far (p := ⟨gb399, 0, none⟩) (Kd.R_types HO391.out BK399.out (by decide)) (fun _ hk => hk.2) (.slice Ao10 t389.length co10)) (fun _ hk => hk.2) (.slice Ao12 t392.length co12)) (fun _ hk => hk.2) (.slice Ao13 t395.length co13)) (fun _ h_ => h_.1)))) (Kd.R_base ho0) hb); replace HO394 := Aside0.mk (Kd.R_below (ZR ((Kd.R_mono (Kd.R_far (p := ⟨gb399, 2, none⟩) (Kd.R_far (p := ⟨gb399, 1, none⟩) (Kd.R_far (p := ⟨gb399, 0, none⟩) (Kd.R_types HO394.out BK399.out (by decide)) (fun _ hk => hk.2) (.slice Ao10 t389.length co10)) (fun _ hk => hk.2) (.slice Ao12 t392.length co12)) (fun _ hk => hk.2) (.slice Ao13 t395.length co13)) (fun _ h_ => h_.1)))) hb); replace HO397 := Aside0.mk (Kd.R_below (ZR ((Kd.R_mono (Kd.R_far (p := ⟨gb399, 2, none⟩) (Kd.R_far (p := ⟨gb399, 1, none⟩) (Kd.R_far (p := ⟨gb399, 0, none⟩) (Kd.R_types HO397.out BK399.out (by decide)) (fun _ hk => hk.2) (.slice Ao10 t389.length co10)) (fun _ hk => hk.2) (.slice Ao12 t392.length co12)) (fun _ hk => hk.2) (.slice Ao13 t395.length co13)) (fun _ h_ => h_.1)))) hb); replace BK399 := ZV #[.slice Ao10 t389.length co10, .slice Ao12 t392.length co12, .slice Ao13 t395.length co13] BK399 hb; replace HB := ZT HB hb; (try clear hb); (try clear hb2); (try clear hk); (try clear hi); (try clear ho0); obtain ⟨hcz15_0, hcz15_1, hcz15_2⟩ := ZC3 w14 BK399; obtain ⟨hfz15_0, hfz15_1, hfz15_2⟩ := ZF3 BK399) | ((with_reducible refine gate_callee (f := 8) rfl ?_); refine goesL_ (some 22) rfl rfl Try.func8 (by kernel_rfl) rfl #[.agg #[.slice Ao10 t389.length co10, .slice Ao12 t392.length co12, .slice Ao13 t395.length co13], .int .i64 t398] rfl ZG ?_; (with_reducible refine (spec_RunTo.calls k _ _ t389 _ _ t392 _ _ t395 t398 t403 _ ?side1 ?side2 ?side3 ?side4 ?side5 ?side6 A5.out).mono ?_); (case side1 => exact ZQ ((Kd.R_reads' HO391.out).2.2)); (case side2 => exact (Kd.R_reads' HO391.out).2.1); (case side3 => exact ZQ ((Kd.R_reads' HO394.out).2.2)); (case side4 => exact (Kd.R_reads' HO394.out).2.1); (case side5 => exact ZQ ((Kd.R_reads' HO397.out).2.2)); (case side6 => exact (Kd.R_reads' HO397.out).2.1); rintro e w16 ⟨v404, rfl, ho0, hb⟩; refine ⟨_, rfl, ?_⟩; have HO405 := Aside0.mk (Kd.R_lower (Kd.R_new' (Kd.R_new' ho0 (Kd.R_lt (ZR HO391.out))) (Kd.R_lt (ZR HO402.out))) (below_size (ZB))); replace HO391 := Aside0.mk (Kd.R_elder' (ZR HO391.out) (Kd.R_base ho0) hb); replace HO394 := Aside0.mk (Kd.R_below (ZR HO394.out) hb); replace HO397 := Aside0.mk (Kd.R_below (ZR HO397.out) hb); replace HO402 := Aside0.mk (Kd.R_elder' (ZR HO402.out) (Kd.R_base ho0) hb); replace BK399 := ZW BK399 hb; replace HB := ZT HB hb; (try clear hb); (try clear hb2); (try clear hk); (try clear hi); (try clear ho0); obtain ⟨Ao17, co17, eo17⟩ := Kd.R_slice HO402.out; subst eo17; obtain ⟨Ao18, co18, eo18⟩ := Kd.R_slice HO405.out; subst eo18) | ((with_reducible refine gate_callee (f := 7) rfl ?_); refine goesL_ (some 23) rfl rfl Try.func7 (by kernel_rfl) rfl #[.slice Ao17 t400.length co17, .slice Ao18 t403.length co18] rfl ZG ?_; (with_reducible refine (laws_lcInts.calls k _ _ t400 _ _ t403 true _ ?side1 ?side2 ?side3 ?side4 A6.out).mono ?_); (case side1 => exact ZQ ((Kd.R_reads' HO402.out).2.2)); (case side2 => exact (Kd.R_reads' HO402.out).2.1); (case side3 => exact ZQ ((Kd.R_reads' HO405.out).2.2)); (case side4 => exact (Kd.R_reads' HO405.out).2.1); rintro e w' ⟨rfl, ⟨nd, rfl⟩⟩; refine ⟨_, rfl, ?_⟩))
   go_loopg [6, 7] k (fun kq v6 v7 w' => ∃ (x6_1 : Int) (x7_1 : Int), v6 = .int .i64 x6_1 ∧ v7 = .int .i64 x7_1 ∧ Aside0 (laws_FnRunTo.l0 kq x6_1 x7_1 t389 t392 t395 = some r) ∧ Aside0 (kq ≤ k) ∧ Aside0 (Kd.R (Kd.int .i64) 3 w' w.heap.size (fun _ => True) (.slice Ao10 t389.length co10) t389) ∧ Aside0 (Kd.R k52 52 w' w.heap.size (fun _ => True) (.slice Ao12 t392.length co12) t392) ∧ Aside0 (Kd.R k50 50 w' w.heap.size (fun _ => True) (.slice Ao13 t395.length co13) t395) ∧ Aside0 (w'.heap[gb399]? = some (.cells #[(.slice Ao10 t389.length co10), (.slice Ao12 t392.length co12), (.slice Ao13 t395.length co13)] 27 (0, 0))) ∧ Aside0 (Below w.heap.size w w'))
   case atStart => exact ⟨(0), (0), (by first | rfl | (simp; done) | (simp [*]; done)), (by first | rfl | (simp; done) | (simp [*]; done)), H', ⟨Nat.le_refl _⟩, ⟨ZR (Kd.R_mono HO391.out (fun _ hk => trivial))⟩, ⟨ZR HO394.out⟩, ⟨ZR HO397.out⟩, ⟨ZK BK399.out⟩, ⟨ZB⟩⟩
   case round =>
    clear H'
    try clear c2
    try clear c2b0
    try clear c2b1
    try clear p2
    try clear c3
    try clear c5
    try clear c6
    try clear c7
    try clear c8
    try clear hcz11_0
    try clear hcz11_1
    try clear hcz11_2
    try clear hcz15_0
    try clear hcz15_1
    try clear hcz15_2
    try clear hfz11_0
    try clear hfz11_1
    try clear hfz11_2
    try clear hfz15_0
    try clear hfz15_1
    try clear hfz15_2
    obtain ⟨x6_1, x7_1, rfl, rfl, HA, HK1, HO_400000, HO_400001, HO_400002, BK399, HB⟩ := hrel
    cases gk with
    | zero => exact absurd HA.out (by simp [laws_FnRunTo.l0])
    | succ k1 =>
     have H := HA.out
     clear HA
     simp only [laws_FnRunTo.l0] at H
     by_cases c19 : x7_1 < 3
     ·rw [if_pos c19] at H
      have c19b0 : decide (x7_1 < 3) = true := decide_eq_true c19
      clear c19
      replace H := Option.bind_eq_some_iff.mp H
      obtain ⟨t407, A200, H⟩ := H
      replace H : (laws_FnRunTo.l0 k1 (wrap64 (x6_1 + (t407.length : Int))) (wrap64 (x7_1 + 1)) t389 t392 t395) = some r := H
      have A20 := Aside0.mk A200
      clear A200
      have H' := Aside0.mk H
      clear H
      obtain ⟨hcz21_0, hcz21_1, hcz21_2⟩ := ZC3 wr BK399
      obtain ⟨hfz21_0, hfz21_1, hfz21_2⟩ := ZF3 BK399
      go_wp2_with (first | ((with_reducible refine gate_callee (f := 6) rfl ?_); refine goesL_ (some 32) rfl rfl Try.func6 (by kernel_rfl) rfl #[.agg #[.slice Ao10 t389.length co10, .slice Ao12 t392.length co12, .slice Ao13 t395.length co13], .int .i64 x7_1] rfl ZG ?_; (with_reducible refine (impl_RunTo.calls k1 _ _ t389 _ _ t392 _ _ t395 x7_1 t407 _ ?side1 ?side2 ?side3 ?side4 ?side5 ?side6 A20.out).mono ?_); (case side1 => exact ZQ ((Kd.R_reads' HO_400000.out).2.2)); (case side2 => exact (Kd.R_reads' HO_400000.out).2.1); (case side3 => exact ZQ ((Kd.R_reads' HO_400001.out).2.2)); (case side4 => exact (Kd.R_reads' HO_400001.out).2.1); (case side5 => exact ZQ ((Kd.R_reads' HO_400002.out).2.2)); (case side6 => exact (Kd.R_reads' HO_400002.out).2.1); rintro e w22 ⟨v408, rfl, ho0, hb⟩; refine ⟨_, rfl, ?_⟩; have HO409 := Aside0.mk (Kd.R_lower (Kd.R_new' ho0 (Kd.R_lt (ZR HO_400000.out))) (below_size (ZB))); replace HO_400000 := Aside0.mk (Kd.R_elder' (ZR HO_400000.out) (Kd.R_base ho0) hb); replace HO_400001 := Aside0.mk (Kd.R_below (ZR HO_400001.out) hb); replace HO_400002 := Aside0.mk (Kd.R_below (ZR HO_400002.out) hb); replace BK399 := ZW BK399 hb; replace HB := ZT HB hb; (try clear hb); (try clear hb2); (try clear hk); (try clear hi); (try clear ho0); obtain ⟨Ao23, co23, eo23⟩ := Kd.R_slice HO409.out; subst eo23))
      go_roundg k1
      case measure => have := HK1.out; omega
      case rel => exact ⟨(wrap64 (x6_1 + (t407.length : Int))), (wrap64 (x7_1 + 1)), (by first | rfl | (simp; done) | (simp [*]; done)), (by first | rfl | (simp; done) | (simp [*]; done)), H', ⟨by have := HK1.out; omega⟩, ⟨ZR (Kd.R_mono HO_400000.out (fun _ hk => trivial))⟩, ⟨ZR HO_400001.out⟩, ⟨ZR HO_400002.out⟩, ⟨ZK BK399.out⟩, ⟨ZB⟩⟩
     ·rw [if_neg c19] at H
      have c19b0 : decide (x7_1 < 3) = false := decide_eq_false c19
      clear c19
      obtain rfl := Option.some.inj H
      obtain ⟨hcz24_0, hcz24_1, hcz24_2⟩ := ZC3 wr BK399
      obtain ⟨hfz24_0, hfz24_1, hfz24_2⟩ := ZF3 BK399
      go_wp2
      go_ret
      exact ⟨ZE, ZB⟩
  ·replace c7 := Bool.eq_false_iff.mpr c7
   subst c7
   have H1 : (some false) = some r := by rw [if_neg (show ¬ (false = true) by decide)] at H; exact H
   clear H
   have H := H1
   clear H1
   obtain rfl := Option.some.inj H
   go_enter Try.func3, Try.ntmps3
   go_wp2_with (first | ((with_reducible refine gate_callee (f := 5) rfl ?_); refine goesL_ (some 13) rfl rfl Try.func5 (by kernel_rfl) rfl #[.slice A0 l0.length c0] rfl ZG ?_; (with_reducible refine (spec_DrawRunTo.calls k _ _ l0 t389 t392 t395 t398 _ ?side1 ?side2 A3.out).mono ?_); (case side1 => exact ZQ HR0.out); (case side2 => exact HC0.out); rintro e w25 ⟨v390, v393, v396, rfl, ho0, ho1, ho2, hb⟩; refine ⟨_, rfl, ?_⟩; have HO391 := Aside0.mk (Kd.R_lower ho0 (below_size (ZB))); have HO394 := Aside0.mk (Kd.R_lower ho1 (below_size (ZB))); have HO397 := Aside0.mk (Kd.R_lower ho2 (below_size (ZB))); replace HB := ZT HB hb; (try clear hb); (try clear hb2); (try clear hk); (try clear hi); (try clear ho0); (try clear ho1); (try clear ho2)) | ((with_reducible refine gate_dst (N := 3) rfl ?_); refine ZX (N := 3) (cs := #[.slice none 0 0, .slice none 0 0, .slice none 0 0]) (t := 27) ?_; intro gb399 hg w26 hbox hb; have BK399 := Aside0.mk (hbox); have GW399 : Aside0 (w.heap.size ≤ gb399) := ZS hg; have GE399 : Aside0 (w.heap.size ≤ gb399) := ZS hg; replace HO391 := Aside0.mk (Kd.R_below (ZR HO391.out) hb); replace HO394 := Aside0.mk (Kd.R_below (ZR HO394.out) hb); replace HO397 := Aside0.mk (Kd.R_below (ZR HO397.out) hb); replace HB := ZT HB hb; clear hb hbox hg; obtain ⟨Ao27, co27, eo27⟩ := Kd.R_slice HO391.out; subst eo27; obtain ⟨hcz28_0, hcz28_1, hcz28_2⟩ := ZC3 w26 BK399; obtain ⟨hfz28_0, hfz28_1, hfz28_2⟩ := ZF3 BK399; obtain ⟨Ao29, co29, eo29⟩ := Kd.R_slice HO394.out; subst eo29; obtain ⟨Ao30, co30, eo30⟩ := Kd.R_slice HO397.out; subst eo30) | ((with_reducible refine gate_callee (f := 6) rfl ?_); refine goesL_ (some 18) rfl rfl Try.func6 (by kernel_rfl) rfl #[.agg #[.slice Ao27 t389.length co27, .slice Ao29 t392.length co29, .slice Ao30 t395.length co30], .int .i64 t398] rfl ZG ?_; (with_reducible refine (impl_RunTo.calls k _ _ t389 _ _ t392 _ _ t395 t398 t400 _ ?side1 ?side2 ?side3 ?side4 ?side5 ?side6 A4.out).mono ?_); (case side1 => refine (Kd.R_reads' (e := 3) (base := w.heap.size) (ok := fun k_ => True) (n := t389.length) (c := co27) ?_).2.2; exact (ZR ((Kd.R_mono (Kd.R_far (p := ⟨gb399, 2, none⟩) (Kd.R_far (p := ⟨gb399, 1, none⟩) (Kd.R_far (p := ⟨gb399, 0, none⟩) (Kd.R_types HO391.out BK399.out (by decide)) (fun _ hk => hk.2) (.slice Ao27 t389.length co27)) (fun _ hk => hk.2) (.slice Ao29 t392.length co29)) (fun _ hk => hk.2) (.slice Ao30 t395.length co30)) (fun _ h_ => h_.1))))); (case side2 => exact (Kd.R_reads' HO391.out).2.1); (case side3 => refine (Kd.R_reads' (e := 52) (base := w.heap.size) (ok := fun k_ => True) (n := t392.length) (c := co29) ?_).2.2; exact (ZR ((Kd.R_mono (Kd.R_far (p := ⟨gb399, 2, none⟩) (Kd.R_far (p := ⟨gb399, 1, none⟩) (Kd.R_far (p := ⟨gb399, 0, none⟩) (Kd.R_types HO394.out BK399.out (by decide)) (fun _ hk => hk.2) (.slice Ao27 t389.length co27)) (fun _ hk => hk.2) (.slice Ao29 t392.length co29)) (fun _ hk => hk.2) (.slice Ao30 t395.length co30)) (fun _ h_ => h_.1))))); (case side4 => exact (Kd.R_reads' HO394.out).2.1); (case side5 => refine (Kd.R_reads' (e := 50) (base := w.heap.size) (ok := fun k_ => True) (n := t395.length) (c := co30) ?_).2.2; exact (ZR ((Kd.R_mono (Kd.R_far (p := ⟨gb399, 2, none⟩) (Kd.R_far (p := ⟨gb399, 1, none⟩) (Kd.R_far (p := ⟨gb399, 0, none⟩) (Kd.R_types HO397.out BK399.out (by decide)) (fun _ hk => hk.2) (.slice Ao27 t389.length co27)) (fun _ hk => hk.2) (.slice Ao29 t392.length co29)) (fun _ hk => hk.2) (.slice Ao30 t395.length co30)) (fun _ h_ => h_.1))))); (case side6 => exact (Kd.R_reads' HO397.out).2.1); rintro e w31 ⟨v401, rfl, ho0, hb⟩; refine ⟨_, rfl, ?_⟩; have HO402 := Aside0.mk (Kd.R_lower (Kd.R_new' ho0 (Kd.R_lt (ZR ((Kd.R_mono (Kd.R_far (p := ⟨gb399, 2, none⟩) (Kd.R_far (p := ⟨gb399, 1, none⟩) (Kd.R_far (p := ⟨gb399, 0, none⟩) (Kd.R_types HO391.out BK399.out (by decide)) (fun _ hk => hk.2) (.slice Ao27 t389.length co27)) (fun _ hk => hk.2) (.slice Ao29 t392.length co29)) (fun _ hk => hk.2) (.slice Ao30 t395.length co30)) (fun _ h_ => h_.1)))))) (below_size (ZB))); replace HO391 := Aside0.mk (Kd.R_elder' (ZR ((Kd.R_mono (Kd.R_far (p := ⟨gb399, 2, none⟩) (Kd.R_far (p := ⟨gb399, 1, none⟩) (Kd.R_far (p := ⟨gb399, 0, none⟩) (Kd.R_types HO391.out BK399.out (by decide)) (fun _ hk => hk.2) (.slice Ao27 t389.length co27)) (fun _ hk => hk.2) (.slice Ao29 t392.length co29)) (fun _ hk => hk.2) (.slice Ao30 t395.length co30)) (fun _ h_ => h_.1)))) (Kd.R_base ho0) hb); replace HO394 := Aside0.mk (Kd.R_below (ZR ((Kd.R_mono (Kd.R_far (p := ⟨gb399, 2, none⟩) (Kd.R_far (p := ⟨gb399, 1, none⟩) (Kd.R_far (p := ⟨gb399, 0, none⟩) (Kd.R_types HO394.out BK399.out (by decide)) (fun _ hk => hk.2) (.slice Ao27 t389.length co27)) (fun _ hk => hk.2) (.slice Ao29 t392.length co29)) (fun _ hk => hk.2) (.slice Ao30 t395.length co30)) (fun _ h_ => h_.1)))) hb); replace HO397 := Aside0.mk (Kd.R_below (ZR ((Kd.R_mono (Kd.R_far (p := ⟨gb399, 2, none⟩) (Kd.R_far (p := ⟨gb399, 1, none⟩) (Kd.R_far (p := ⟨gb399, 0, none⟩) (Kd.R_types HO397.out BK399.out (by decide)) (fun _ hk => hk.2) (.slice Ao27 t389.length co27)) (fun _ hk => hk.2) (.slice Ao29 t392.length co29)) (fun _ hk => hk.2) (.slice Ao30 t395.length co30)) (fun _ h_ => h_.1)))) hb); replace BK399 := ZV #[.slice Ao27 t389.length co27, .slice Ao29 t392.length co29, .slice Ao30 t395.length co30] BK399 hb; replace HB := ZT HB hb; (try clear hb); (try clear hb2); (try clear hk); (try clear hi); (try clear ho0); obtain ⟨hcz32_0, hcz32_1, hcz32_2⟩ := ZC3 w31 BK399; obtain ⟨hfz32_0, hfz32_1, hfz32_2⟩ := ZF3 BK399) | ((with_reducible refine gate_callee (f := 8) rfl ?_); refine goesL_ (some 22) rfl rfl Try.func8 (by kernel_rfl) rfl #[.agg #[.slice Ao27 t389.length co27, .slice Ao29 t392.length co29, .slice Ao30 t395.length co30], .int .i64 t398] rfl ZG ?_; (with_reducible refine (spec_RunTo.calls k _ _ t389 _ _ t392 _ _ t395 t398 t403 _ ?side1 ?side2 ?side3 ?side4 ?side5 ?side6 A5.out).mono ?_); (case side1 => exact ZQ ((Kd.R_reads' HO391.out).2.2)); (case side2 => exact (Kd.R_reads' HO391.out).2.1); (case side3 => exact ZQ ((Kd.R_reads' HO394.out).2.2)); (case side4 => exact (Kd.R_reads' HO394.out).2.1); (case side5 => exact ZQ ((Kd.R_reads' HO397.out).2.2)); (case side6 => exact (Kd.R_reads' HO397.out).2.1); rintro e w33 ⟨v404, rfl, ho0, hb⟩; refine ⟨_, rfl, ?_⟩; have HO405 := Aside0.mk (Kd.R_lower (Kd.R_new' (Kd.R_new' ho0 (Kd.R_lt (ZR HO391.out))) (Kd.R_lt (ZR HO402.out))) (below_size (ZB))); replace HO391 := Aside0.mk (Kd.R_elder' (ZR HO391.out) (Kd.R_base ho0) hb); replace HO394 := Aside0.mk (Kd.R_below (ZR HO394.out) hb); replace HO397 := Aside0.mk (Kd.R_below (ZR HO397.out) hb); replace HO402 := Aside0.mk (Kd.R_elder' (ZR HO402.out) (Kd.R_base ho0) hb); replace BK399 := ZW BK399 hb; replace HB := ZT HB hb; (try clear hb); (try clear hb2); (try clear hk); (try clear hi); (try clear ho0); obtain ⟨Ao34, co34, eo34⟩ := Kd.R_slice HO402.out; subst eo34; obtain ⟨Ao35, co35, eo35⟩ := Kd.R_slice HO405.out; subst eo35) | ((with_reducible refine gate_callee (f := 7) rfl ?_); refine goesL_ (some 23) rfl rfl Try.func7 (by kernel_rfl) rfl #[.slice Ao34 t400.length co34, .slice Ao35 t403.length co35] rfl ZG ?_; (with_reducible refine (laws_lcInts.calls k _ _ t400 _ _ t403 false _ ?side1 ?side2 ?side3 ?side4 A6.out).mono ?_); (case side1 => exact ZQ ((Kd.R_reads' HO402.out).2.2)); (case side2 => exact (Kd.R_reads' HO402.out).2.1); (case side3 => exact ZQ ((Kd.R_reads' HO405.out).2.2)); (case side4 => exact (Kd.R_reads' HO405.out).2.1); rintro e w' ⟨rfl, ⟨nd, rfl⟩⟩; refine ⟨_, rfl, ?_⟩))
   go_ret
   exact ⟨ZE, ZB⟩

end Go.Proofs.Ytdmejmdifnicmaa.A
