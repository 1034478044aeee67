/- What Go functions compute, as Lean functions, and for each its contract: for every input at which the Lean function answers the call returns that; written by wip/tools/pr.py over the kit's print. -/
import Derived.Test.YtdmejmdifnicmaaAx0
import Derived.Test.YtdmejmdifnicmaaAx20
import Derived.Test.YtdmejmdifnicmaaAx21
import Derived.Test.YtdmejmdifnicmaaAx22
namespace Go.Proofs.Ytdmejmdifnicmaa.A
open Go.RowKit Go.Proofs.YtdmejmdifnicmaaW.PrintWords Go.Proofs.YtdmejmdifnicmaaW.PrintLast Go.Proofs.YtdmejmdifnicmaaW.PrintMore
attribute [local go_sem] max2_int min2_int max_two min_two max_three min_three max_four min_four   -- for this text's walks alone
set_option linter.unusedVariables false
set_option linter.unusedSimpArgs false

/-! ### laws_FnRunSets: function 4 -/
def laws_FnRunSets.l0 : Nat → List Bool → List (S52) → List Bool → Int → List Int → List (S52) → List (S50) → Option (Bool)
 | 0, _, _, _, _, _, _, _ => none
 | k + 1, x4, x5, x6, x7, x479000, x479001, x479002 => if x7 < (x4.length : Int) then (if 0 ≤ x7 then (if x6.length < 140737488355328 then (laws_FnRunSets.l0 k x4 x5 (x6 ++ [!(rdOf false x4 x7)]) (wrap64 (x7 + 1)) x479000 x479001 x479002) else (none)) else (none)) else ((impl_RunSets.f k x479000 x479001 x479002 x6).bind fun t493 => (if (wrap64 ((x5.length : Int) + (t493.length : Int))) = (x479001.length : Int) then ((impl_RunSets.f k x479000 x479001 x479002 ([] : List Bool)).bind fun t496 => (some ((t496.length : Int) == 0))) else (some false)))
def laws_FnRunSets.f (k : Nat) (l0 : List Int) : Option (Bool) := if (l0.length : Int) > 1048576 then (some true) else ((spec_DrawRunSets.f k l0).bind fun bt466 => ((impl_RunSets.f k bt466.1 bt466.2.1 bt466.2.2.1 bt466.2.2.2).bind fun t479 => ((spec_RunSets.f k bt466.1 bt466.2.1 bt466.2.2.1 bt466.2.2.2).bind fun t482 => ((laws_lcWrites.f k t479 t482).bind fun t485 => (if t485 = true then (laws_FnRunSets.l0 k bt466.2.2.2 t479 (([] : List Bool)) 0 bt466.1 bt466.2.1 bt466.2.2.1) else (some false))))))
def laws_FnRunSets.T12 : Bool × List (List Nat × List Nat) := (true, [([], []), ([0], [0]), ([], []), ([], []), ([2, 3], [2, 3]), ([4], [4]), ([1, 5], [1, 5]), ([], []), ([7], [7]), ([8], [8]), ([6, 9], [6, 9]), ([10, 4], [10]), ([11], [11]), ([12, 11, 11], [11, 12]), ([13, 11], [11, 13]), ([14, 11], [11, 14]), ([11, 15], [11, 15]), ([16, 13, 0, 1, 2, 3, 4, 5, 6, 7, 8, 9, 10, 11, 12, 13, 14, 15, 16], [16])])
def laws_FnRunSets.B12 : List Nat := [0, 1, 0, 0, 12, 28, 63, 0, 128, 384, 1023, 2047, 4095, 8191, 16383, 32767, 65535, 131071]
theorem laws_FnRunSets.tab12 : rtab .any (opsOf Try.f4 12) = laws_FnRunSets.T12 := by kernel_rfl
theorem laws_FnRunSets.bits12 : waitsOk laws_FnRunSets.T12.2 laws_FnRunSets.B12 = true := by kernel_rfl
set_option maxHeartbeats 8000000 in
set_option maxRecDepth 100000 in
theorem laws_FnRunSets.calls (k : Nat) (A0 : Option Addr) (c0 : Nat) (l0 : List Int) (r : Bool) (w : World) (hr0 : Kd.C (Kd.int .u8) w A0 l0.length l0) (hc0 : l0.length ≤ c0) (h : laws_FnRunSets.f k l0 = some r) :
  Calls Try.prog 4 #[.slice A0 l0.length c0] w fun e w' => e = .returned (.bool r) ∧ Below w.heap.size w w' := by
 have hu27 := Try.underlying27
 have HR0 := Aside0.mk hr0
 have HC0 := Aside0.mk hc0
 clear hr0 hc0
 have HB := Aside0.mk (Below.refl w.heap.size w)
 have H : (if (l0.length : Int) > 1048576 then (some true) else ((spec_DrawRunSets.f k l0).bind fun bt466 => ((impl_RunSets.f k bt466.1 bt466.2.1 bt466.2.2.1 bt466.2.2.2).bind fun t479 => ((spec_RunSets.f k bt466.1 bt466.2.1 bt466.2.2.1 bt466.2.2.2).bind fun t482 => ((laws_lcWrites.f k t479 t482).bind fun t485 => (if t485 = true then (laws_FnRunSets.l0 k bt466.2.2.2 t479 (([] : List Bool)) 0 bt466.1 bt466.2.1 bt466.2.2.1) else (some false))))))) = some r := h
 clear h
 by_cases c2 : (l0.length : Int) > 1048576
 ·rw [if_pos c2] at H
  have c2b0 : decide (1048576 < (l0.length : Int)) = true := decide_eq_true c2
  have c2b1 : decide (1048576 < l0.length) = true := decide_eq_true (by omega)
  clear c2
  obtain rfl := Option.some.inj H
  go_enter Try.func4, Try.ntmps4
  go_wp2
  go_ret
  exact ⟨ZE, ZB⟩
 ·rw [if_neg c2] at H
  have c2b0 : decide (1048576 < (l0.length : Int)) = false := decide_eq_false c2
  have c2b1 : decide (1048576 < l0.length) = false := decide_eq_false (by omega)
  clear c2
  replace H := Option.bind_eq_some_iff.mp H
  obtain ⟨⟨t466, t469, t472, t475⟩, A30, H⟩ := H
  replace H : ((impl_RunSets.f k t466 t469 t472 t475).bind fun t479 => ((spec_RunSets.f k t466 t469 t472 t475).bind fun t482 => ((laws_lcWrites.f k t479 t482).bind fun t485 => (if t485 = true then (laws_FnRunSets.l0 k t475 t479 (([] : List Bool)) 0 t466 t469 t472) else (some false))))) = some r := H
  have A3 := Aside0.mk A30
  clear A30
  replace H := Option.bind_eq_some_iff.mp H
  obtain ⟨t479, A40, H⟩ := H
  replace H : ((spec_RunSets.f k t466 t469 t472 t475).bind fun t482 => ((laws_lcWrites.f k t479 t482).bind fun t485 => (if t485 = true then (laws_FnRunSets.l0 k t475 t479 (([] : List Bool)) 0 t466 t469 t472) else (some false)))) = some r := H
  have A4 := Aside0.mk A40
  clear A40
  replace H := Option.bind_eq_some_iff.mp H
  obtain ⟨t482, A50, H⟩ := H
  replace H : ((laws_lcWrites.f k t479 t482).bind fun t485 => (if t485 = true then (laws_FnRunSets.l0 k t475 t479 (([] : List Bool)) 0 t466 t469 t472) else (some false))) = some r := H
  have A5 := Aside0.mk A50
  clear A50
  replace H := Option.bind_eq_some_iff.mp H
  obtain ⟨t485, A60, H⟩ := H
  replace H : (if t485 = true then (laws_FnRunSets.l0 k t475 t479 (([] : List Bool)) 0 t466 t469 t472) else (some false)) = some r := H
  have A6 := Aside0.mk A60
  clear A60
  by_cases c7 : t485 = true
  ·subst c7
   have H1 : (laws_FnRunSets.l0 k t475 t479 (([] : List Bool)) 0 t466 t469 t472) = some r := by rw [if_pos rfl] at H; exact H
   clear H
   have H := H1
   clear H1
   obtain ⟨y486, hy486⟩ : ∃ y_ : List Bool, y_ = (([] : List Bool)) := ⟨_, rfl⟩
   replace H : (laws_FnRunSets.l0 k t475 t479 y486 0 t466 t469 t472) = some r := by first | (rw [hy486]; with_reducible exact H) | (have H2_ := (Option.bind_some _ _).symm.trans H; rw [hy486]; with_reducible exact H2_) | (have H2_ := (Option.bind_some _ _).symm.trans H; with_reducible exact H2_) | with_reducible exact H | (rw [hy486]; exact H) | exact H
   have Ny486 := Aside0.mk hy486
   clear hy486
   have H' := Aside0.mk H
   clear H
   go_enter Try.func4, Try.ntmps4
   go_wp2_with (first | ((with_reducible refine gate_callee (f := 9) rfl ?_); refine goesL_ (some 13) rfl rfl Try.func9 (by kernel_rfl) rfl #[.slice A0 l0.length c0] rfl ZG ?_; (with_reducible refine (spec_DrawRunSets.calls k _ _ l0 t466 t469 t472 t475 _ ?side1 ?side2 A3.out).mono ?_); (case side1 => exact ZQ HR0.out); (case side2 => exact HC0.out); rintro e w8 ⟨v467, v470, v473, v476, rfl, ho0, ho1, ho2, ho3, hb⟩; refine ⟨_, rfl, ?_⟩; have HO468 := Aside0.mk (Kd.R_lower ho0 (below_size (ZB))); have HO471 := Aside0.mk (Kd.R_lower ho1 (below_size (ZB))); have HO474 := Aside0.mk (Kd.R_lower ho2 (below_size (ZB))); have HO477 := Aside0.mk (Kd.R_lower ho3 (below_size (ZB))); replace HB := ZT HB hb; (try clear hb); (try clear hb2); (try clear hk); (try clear hi); (try clear ho0); (try clear ho1); (try clear ho2); (try clear ho3)) | ((with_reducible refine gate_dst (N := 3) rfl ?_); refine ZX (N := 3) (cs := #[.slice none 0 0, .slice none 0 0, .slice none 0 0]) (t := 27) ?_; intro gb478 hg w9 hbox hb; have BK478 := Aside0.mk (hbox); have GW478 : Aside0 (w.heap.size ≤ gb478) := ZS hg; have GE478 : Aside0 (w.heap.size ≤ gb478) := ZS hg; replace HO468 := Aside0.mk (Kd.R_below (ZR HO468.out) hb); replace HO471 := Aside0.mk (Kd.R_below (ZR HO471.out) hb); replace HO474 := Aside0.mk (Kd.R_below (ZR HO474.out) hb); replace HO477 := Aside0.mk (Kd.R_below (ZR HO477.out) hb); replace HB := ZT HB hb; clear hb hbox hg; obtain ⟨Ao10, co10, eo10⟩ := Kd.R_slice HO468.out; subst eo10; obtain ⟨hcz11_0, hcz11_1, hcz11_2⟩ := ZC3 w9 BK478; obtain ⟨hfz11_0, hfz11_1, hfz11_2⟩ := ZF3 BK478; obtain ⟨Ao12, co12, eo12⟩ := Kd.R_slice HO471.out; subst eo12; obtain ⟨Ao13, co13, eo13⟩ := Kd.R_slice HO474.out; subst eo13; obtain ⟨Ao14, co14, eo14⟩ := Kd.R_slice HO477.out; subst eo14) | ((with_reducible refine gate_callee (f := 10) rfl ?_); refine goesL_ (some 18) rfl rfl Try.func10 (by kernel_rfl) rfl #[.agg #[.slice Ao10 t466.length co10, .slice Ao12 t469.length co12, .slice Ao13 t472.length co13], .slice Ao14 t475.length co14] rfl ZG ?_; (with_reducible refine (impl_RunSets.calls k _ _ t466 _ _ t469 _ _ t472 _ _ t475 t479 _ ?side1 ?side2 ?side3 ?side4 ?side5 ?side6 ?side7 ?side8 A4.out).mono ?_); (case side1 => refine (Kd.R_reads' (e := 3) (base := w.heap.size) (ok := fun k_ => True) (n := t466.length) (c := co10) ?_).2.2; exact (ZR ((Kd.R_mono (Kd.R_far (p := ⟨gb478, 2, none⟩) (Kd.R_far (p := ⟨gb478, 1, none⟩) (Kd.R_far (p := ⟨gb478, 0, none⟩) (Kd.R_types HO468.out BK478.out (by decide)) (fun _ hk => hk.2) (.slice Ao10 t466.length co10)) (fun _ hk => hk.2) (.slice Ao12 t469.length co12)) (fun _ hk => hk.2) (.slice Ao13 t472.length co13)) (fun _ h_ => h_.1))))); (case side2 => exact (Kd.R_reads' HO468.out).2.1); (case side3 => refine (Kd.R_reads' (e := 52) (base := w.heap.size) (ok := fun k_ => True) (n := t469.length) (c := co12) ?_).2.2; exact (ZR ((Kd.R_mono (Kd.R_far (p := ⟨gb478, 2, none⟩) (Kd.R_far (p := ⟨gb478, 1, none⟩) (Kd.R_far (p := ⟨gb478, 0, none⟩) (Kd.R_types HO471.out BK478.out (by decide)) (fun _ hk => hk.2) (.slice Ao10 t466.length co10)) (fun _ hk => hk.2) (.slice Ao12 t469.length co12)) (fun _ hk => hk.2) (.slice Ao13 t472.length co13)) (fun _ h_ => h_.1))))); (case side4 => exact (Kd.R_reads' HO471.out).2.1); (case side5 => refine (Kd.R_reads' (e := 50) (base := w.heap.size) (ok := fun k_ => True) (n := t472.length) (c := co13) ?_).2.2; exact (ZR ((Kd.R_mono (Kd.R_far (p := ⟨gb478, 2, none⟩) (Kd.R_far (p := ⟨gb478, 1, none⟩) (Kd.R_far (p := ⟨gb478, 0, none⟩) (Kd.R_types HO474.out BK478.out (by decide)) (fun _ hk => hk.2) (.slice Ao10 t466.length co10)) (fun _ hk => hk.2) (.slice Ao12 t469.length co12)) (fun _ hk => hk.2) (.slice Ao13 t472.length co13)) (fun _ h_ => h_.1))))); (case side6 => exact (Kd.R_reads' HO474.out).2.1); (case side7 => refine (Kd.R_reads' (e := 4) (base := w.heap.size) (ok := fun k_ => True) (n := t475.length) (c := co14) ?_).2.2; exact (ZR ((Kd.R_mono (Kd.R_far (p := ⟨gb478, 2, none⟩) (Kd.R_far (p := ⟨gb478, 1, none⟩) (Kd.R_far (p := ⟨gb478, 0, none⟩) (Kd.R_types HO477.out BK478.out (by decide)) (fun _ hk => hk.2) (.slice Ao10 t466.length co10)) (fun _ hk => hk.2) (.slice Ao12 t469.length co12)) (fun _ hk => hk.2) (.slice Ao13 t472.length co13)) (fun _ h_ => h_.1))))); (case side8 => exact (Kd.R_reads' HO477.out).2.1); rintro e w15 ⟨v480, rfl, ho0, hb⟩; refine ⟨_, rfl, ?_⟩; have HO481 := Aside0.mk (Kd.R_lower (Kd.R_new' ho0 (Kd.R_lt (ZR ((Kd.R_mono (Kd.R_far (p := ⟨gb478, 2, none⟩) (Kd.R_far (p := ⟨gb478, 1, none⟩) (Kd.R_far (p := ⟨gb478, 0, none⟩) (Kd.R_types HO471.out BK478.out (by decide)) (fun _ hk => hk.2) (.slice Ao10 t466.length co10)) (fun _ hk => hk.2) (.slice Ao12 t469.length co12)) (fun _ hk => hk.2) (.slice Ao13 t472.length co13)) (fun _ h_ => h_.1)))))) (below_size (ZB))); replace HO468 := Aside0.mk (Kd.R_below (ZR ((Kd.R_mono (Kd.R_far (p := ⟨gb478, 2, none⟩) (Kd.R_far (p := ⟨gb478, 1, none⟩) (Kd.R_far (p := ⟨gb478, 0, none⟩) (Kd.R_types HO468.out BK478.out (by decide)) (fun _ hk => hk.2) (.slice Ao10 t466.length co10)) (fun _ hk => hk.2) (.slice Ao12 t469.length co12)) (fun _ hk => hk.2) (.slice Ao13 t472.length co13)) (fun _ h_ => h_.1)))) hb); replace HO471 := Aside0.mk (Kd.R_elder' (ZR ((Kd.R_mono (Kd.R_far (p := ⟨gb478, 2, none⟩) (Kd.R_far (p := ⟨gb478, 1, none⟩) (Kd.R_far (p := ⟨gb478, 0, none⟩) (Kd.R_types HO471.out BK478.out (by decide)) (fun _ hk => hk.2) (.slice Ao10 t466.length co10)) (fun _ hk => hk.2) (.slice Ao12 t469.length co12)) (fun _ hk => hk.2) (.slice Ao13 t472.length co13)) (fun _ h_ => h_.1)))) (Kd.R_base ho0) hb); replace HO474 := Aside0.mk (Kd.R_below (ZR ((Kd.R_mono (Kd.R_far (p := ⟨gb478, 2, none⟩) (Kd.R_far (p := ⟨gb478, 1, none⟩) (Kd.R_far (p := ⟨gb478, 0, none⟩) (Kd.R_types HO474.out BK478.out (by decide)) (fun _ hk => hk.2) (.slice Ao10 t466.length co10)) (fun _ hk => hk.2) (.slice Ao12 t469.length co12)) (fun _ hk => hk.2) (.slice Ao13 t472.length co13)) (fun _ h_ => h_.1)))) hb); replace HO477 := Aside0.mk (Kd.R_below (ZR ((Kd.R_mono (Kd.R_far (p := ⟨gb478, 2, none⟩) (Kd.R_far (p := ⟨gb478, 1, none⟩) (Kd.R_far (p := ⟨gb478, 0, none⟩) (Kd.R_types HO477.out BK478.out (by decide)) (fun _ hk => hk.2) (.slice Ao10 t466.length co10)) (fun _ hk => hk.2) (.slice Ao12 t469.length co12)) (fun _ hk => hk.2) (.slice Ao13 t472.length co13)) (fun _ h_ => h_.1)))) hb); replace BK478 := ZV #[.slice Ao10 t466.length co10, .slice Ao12 t469.length co12, .slice Ao13 t472.length co13] BK478 hb; replace HB := ZT HB hb; (try clear hb); (try clear hb2); (try clear hk); (try clear hi); (try clear ho0); obtain ⟨hcz16_0, hcz16_1, hcz16_2⟩ := ZC3 w15 BK478; obtain ⟨hfz16_0, hfz16_1, hfz16_2⟩ := ZF3 BK478) | ((with_reducible refine gate_callee (f := 12) rfl ?_); refine goesL_ (some 22) rfl rfl Try.func12 (by kernel_rfl) rfl #[.agg #[.slice Ao10 t466.length co10, .slice Ao12 t469.length co12, .slice Ao13 t472.length co13], .slice Ao14 t475.length co14] rfl ZG ?_; (with_reducible refine (spec_RunSets.calls k _ _ t466 _ _ t469 _ _ t472 _ _ t475 t482 _ ?side1 ?side2 ?side3 ?side4 ?side5 ?side6 ?side7 ?side8 A5.out).mono ?_); (case side1 => exact ZQ ((Kd.R_reads' HO468.out).2.2)); (case side2 => exact (Kd.R_reads' HO468.out).2.1); (case side3 => exact ZQ ((Kd.R_reads' HO471.out).2.2)); (case side4 => exact (Kd.R_reads' HO471.out).2.1); (case side5 => exact ZQ ((Kd.R_reads' HO474.out).2.2)); (case side6 => exact (Kd.R_reads' HO474.out).2.1); (case side7 => exact ZQ ((Kd.R_reads' HO477.out).2.2)); (case side8 => exact (Kd.R_reads' HO477.out).2.1); rintro e w17 ⟨v483, rfl, ho0, hb⟩; refine ⟨_, rfl, ?_⟩; have HO484 := Aside0.mk (Kd.R_lower (Kd.R_new' (Kd.R_new' ho0 (Kd.R_lt (ZR HO471.out))) (Kd.R_lt (ZR HO481.out))) (below_size (ZB))); replace HO468 := Aside0.mk (Kd.R_below (ZR HO468.out) hb); replace HO471 := Aside0.mk (Kd.R_elder' (ZR HO471.out) (Kd.R_base ho0) hb); replace HO474 := Aside0.mk (Kd.R_below (ZR HO474.out) hb); replace HO477 := Aside0.mk (Kd.R_below (ZR HO477.out) hb); replace HO481 := Aside0.mk (Kd.R_elder' (ZR HO481.out) (Kd.R_base ho0) hb); replace BK478 := ZW BK478 hb; replace HB := ZT HB hb; (try clear hb); (try clear hb2); (try clear hk); (try clear hi); (try clear ho0); obtain ⟨Ao18, co18, eo18⟩ := Kd.R_slice HO481.out; subst eo18; obtain ⟨Ao19, co19, eo19⟩ := Kd.R_slice HO484.out; subst eo19) | ((with_reducible refine gate_callee (f := 11) rfl ?_); refine goesL_ (some 23) rfl rfl Try.func11 (by kernel_rfl) rfl #[.slice Ao18 t479.length co18, .slice Ao19 t482.length co19] rfl ZG ?_; (with_reducible refine (laws_lcWrites.calls k _ _ t479 _ _ t482 true _ ?side1 ?side2 ?side3 ?side4 A6.out).mono ?_); (case side1 => exact ZQ ((Kd.R_reads' HO481.out).2.2)); (case side2 => exact (Kd.R_reads' HO481.out).2.1); (case side3 => exact ZQ ((Kd.R_reads' HO484.out).2.2)); (case side4 => exact (Kd.R_reads' HO484.out).2.1); rintro e w' ⟨rfl, ⟨nd, rfl⟩⟩; refine ⟨_, rfl, ?_⟩) | ((with_reducible refine gate_dst (N := 25) rfl ?_); refine Kd.R_lit Kd.bool _ 4 ?hg (N := 25) ?hd (xs := ([] : List Bool)) (inner := []) (ok := fun _ => True) (okp := fun _ => True) ?hr ?hp (fun _ hk => hk) trivial (Below.refl _ _) (Nat.le_refl _) (by simp) ?_; (case hd => rfl); (case hg => rfl); (case hr => first | (go_simp; done) | (go_simp; rfl)); (case hp => exact (Reps.none _ _)); intro v487 w20 ho21 hb hg_ hnew_; clear hg_ hnew_; (first | rw [← Ny486.out] at ho21 | (simp only [Int.reduceToNat] at ho21; rw [← Ny486.out] at ho21)); have HO488 := Aside0.mk (Kd.R_lower (Kd.R_new' ho21 (Kd.R_lt (ZR HO477.out))) (below_size (ZB))); replace HO468 := Aside0.mk (Kd.R_below (ZR HO468.out) hb); replace HO471 := Aside0.mk (Kd.R_below (ZR HO471.out) hb); replace HO474 := Aside0.mk (Kd.R_below (ZR HO474.out) hb); replace HO477 := Aside0.mk (Kd.R_elder' (ZR HO477.out) (Kd.R_base ho21) hb); replace HO481 := Aside0.mk (Kd.R_below (ZR HO481.out) hb); replace HO484 := Aside0.mk (Kd.R_below (ZR HO484.out) hb); replace BK478 := ZW BK478 hb; replace HB := ZT HB hb; clear hb ho21))
   go_loopg [6, 7] k (fun kq v6 v7 w' => ∃ (x6_1 : List Bool) (x7_1 : Int), v7 = .int .i64 x7_1 ∧ Aside0 (laws_FnRunSets.l0 kq t475 t479 x6_1 x7_1 t466 t469 t472 = some r) ∧ Aside0 (kq ≤ k) ∧ Aside0 (Kd.R Kd.bool 4 w' w.heap.size (fun k_ => some k_ ≠ (v6 : Value).ownBlock) (.slice Ao14 t475.length co14) t475) ∧ Aside0 (Kd.R k52 52 w' w.heap.size (fun k_ => some k_ ≠ ((.slice Ao12 t469.length co12) : Value).ownBlock) (.slice Ao18 t479.length co18) t479) ∧ Aside0 (Kd.R Kd.bool 4 w' w.heap.size (fun k_ => some k_ ≠ ((.slice Ao14 t475.length co14) : Value).ownBlock) v6 x6_1) ∧ Aside0 (Kd.R (Kd.int .i64) 3 w' w.heap.size (fun _ => True) (.slice Ao10 t466.length co10) t466) ∧ Aside0 (Kd.R k52 52 w' w.heap.size (fun k_ => some k_ ≠ ((.slice Ao18 t479.length co18) : Value).ownBlock) (.slice Ao12 t469.length co12) t469) ∧ Aside0 (Kd.R k50 50 w' w.heap.size (fun _ => True) (.slice Ao13 t472.length co13) t472) ∧ Aside0 (w'.heap[gb478]? = some (.cells #[(.slice Ao10 t466.length co10), (.slice Ao12 t469.length co12), (.slice Ao13 t472.length co13)] 27 (0, 0))) ∧ Aside0 (Below w.heap.size w w'))
   case atStart => exact ⟨(y486), (0), (by first | rfl | (simp; done) | (simp [*]; done)), H', ⟨Nat.le_refl _⟩, ⟨ZR (Kd.R_mono HO477.out (fun _ hk => hk.2))⟩, ⟨ZR (Kd.R_mono HO481.out (fun _ hk => hk.1.2))⟩, ⟨ZR (Kd.R_mono HO488.out (fun _ hk => hk.2))⟩, ⟨ZR HO468.out⟩, ⟨ZR (Kd.R_mono HO471.out (fun _ hk => hk.1.2))⟩, ⟨ZR HO474.out⟩, ⟨ZK BK478.out⟩, ⟨ZB⟩⟩
   case round =>
    clear H'
    try clear c1
    try clear c2
    try clear c2b0
    try clear c2b1
    try clear p2
    try clear c4
    try clear c7
    try clear c9
    try clear c10
    try clear c11
    try clear c12
    try clear hcz11_0
    try clear hcz11_1
    try clear hcz11_2
    try clear hcz16_0
    try clear hcz16_1
    try clear hcz16_2
    try clear hfz11_0
    try clear hfz11_1
    try clear hfz11_2
    try clear hfz16_0
    try clear hfz16_1
    try clear hfz16_2
    obtain ⟨x6_1, x7_1, rfl, HA, HK1, HO_4, HO_5, HO_6, HO_479000, HO_479001, HO_479002, BK478, HB⟩ := hrel
    cases gk with
    | zero => exact absurd HA.out (by simp [laws_FnRunSets.l0])
    | succ k1 =>
     have H := HA.out
     clear HA
     simp only [laws_FnRunSets.l0] at H
     by_cases c22 : x7_1 < (t475.length : Int)
     ·rw [if_pos c22] at H
      have c22b0 : decide (x7_1 < (t475.length : Int)) = true := decide_eq_true c22
      clear c22
      by_cases c23 : 0 ≤ x7_1
      ·rw [if_pos c23] at H
       have c23b0 : decide (0 ≤ x7_1) = true := decide_eq_true c23
       clear c23
       by_cases c24 : x6_1.length < 140737488355328
       ·rw [if_pos c24] at H
        have LMc24 := Aside0.mk c24
        clear c24
        obtain ⟨y490, hy490⟩ : ∃ y_ : List Bool, y_ = (x6_1 ++ [!(rdOf false t475 x7_1)]) := ⟨_, rfl⟩
        replace H : (laws_FnRunSets.l0 k1 t475 t479 y490 (wrap64 (x7_1 + 1)) t466 t469 t472) = some r := by first | (rw [hy490]; with_reducible exact H) | (have H2_ := (Option.bind_some _ _).symm.trans H; rw [hy490]; with_reducible exact H2_) | (have H2_ := (Option.bind_some _ _).symm.trans H; with_reducible exact H2_) | with_reducible exact H | (rw [hy490]; exact H) | exact H
        have Ny490 := Aside0.mk hy490
        clear hy490
        have H' := Aside0.mk H
        clear H
        have p489 : 0 ≤ (x7_1 : Int) := ZD
        have q489 : x7_1 < (t475.length : Int) := ZD
        obtain ⟨ad489, e489, hx489_0⟩ := Kd.at_bool (Kd.R_reads' HO_4.out).2.2 x7_1 p489 q489
        cases e489
        replace p489 := eq_true p489
        replace q489 := eq_true q489
        go_wp2_with (first | ((with_reducible refine gate_builtin (b := .append) (xs := #[.tmp 32, .tmp 38]) rfl ?_); at_builtin; refine Kd.R_append Kd.bool (w0 := w) w.heap.size rfl (.tmp 32) (.tmp 38) 33 4 (.bool false) 1 rfl Try.underlying33 info4 rfl (by decide) (by omega) u6 x6_1 (!(rdOf false t475 x7_1)) [.bool (!(rdOf false t475 x7_1))] (fun k_ => some k_ ≠ (.slice (some ad489) t475.length co14 : Value).ownBlock) (fun _ => False) rfl rfl ?aP (fun _ hk => hk.elim) ?aF ?aO ?aB ?aS ?aL ?_; (case aP => exact rfl); (case aB => exact (ZB)); (case aF => exact (fun k_ hk => Kd.fresh' (Kd.R_lt (ZR HO_4.out)) k_ hk)); (case aO => exact (ZR HO_6.out)); (case aS => exact (below_size (ZB))); (case aL => have := LMc24.out; omega); intro v491 w25 ho hb hg hat; rw [← Ny490.out] at ho; have n0_ := Aside0.mk (Kd.R_after (ok := (fun _ => True)) (by (with_reducible repeat (first | apply Kd.R_alloc | apply Kd.R_drewN | apply Kd.R_drew)); exact Kd.R_mono HO_4.out (fun _ hk => ⟨trivial, hk⟩)) hg hat); have n1_ := Aside0.mk (Kd.R_over' (ZR HO_5.out) (Kd.R_typed (ZR HO_6.out)) (by decide) hg); have n2_ := Aside0.mk (Kd.R_over' (ZR HO_479000.out) (Kd.R_typed (ZR HO_6.out)) (by decide) hg); have n3_ := Aside0.mk (Kd.R_over' (ZR HO_479001.out) (Kd.R_typed (ZR HO_6.out)) (by decide) hg); have n4_ := Aside0.mk (Kd.R_over' (ZR HO_479002.out) (Kd.R_typed (ZR HO_6.out)) (by decide) hg); have n5_ := Aside0.mk (blk_grown (g := gb478) (o := .cells #[.slice Ao10 t466.length co10, .slice Ao12 t469.length co12, .slice Ao13 t472.length co13] 27 (0, 0)) (ZK BK478.out) hg (Kd.R_ne HO_6.out BK478.out (by decide))); have n6_ := Aside0.mk (hb); have n7_ := Aside0.mk (ho); clear HO_4; clear HO_5; clear HO_479000; clear HO_479001; clear HO_479002; clear BK478; clear HB; clear HO_6; have HO_4 := n0_; have HO_5 := n1_; have HO_479000 := n2_; have HO_479001 := n3_; have HO_479002 := n4_; have BK478 := n5_; have HB := n6_; have HO492 := n7_; clear n0_ n1_ n2_ n3_ n4_ n5_ n6_ n7_; clear ho hb hg hat))
        go_roundg k1
        case measure => have := HK1.out; omega
        case rel => exact ⟨(y490), (wrap64 (x7_1 + 1)), (by first | rfl | (simp; done) | (simp [*]; done)), H', ⟨by have := HK1.out; omega⟩, ⟨ZR (Kd.R_mono HO_4.out (fun _ hk => hk.2))⟩, ⟨ZR HO_5.out⟩, ⟨ZR HO492.out⟩, ⟨ZR HO_479000.out⟩, ⟨ZR HO_479001.out⟩, ⟨ZR HO_479002.out⟩, ⟨ZK BK478.out⟩, ⟨ZB⟩⟩
       ·rw [if_neg c24] at H
        exact absurd H (by simp)
      ·rw [if_neg c23] at H
       exact absurd H (by simp)
     ·rw [if_neg c22] at H
      have c22b0 : decide (x7_1 < (t475.length : Int)) = false := decide_eq_false c22
      clear c22
      replace H := Option.bind_eq_some_iff.mp H
      obtain ⟨t493, A260, H⟩ := H
      replace H : (if (wrap64 ((t479.length : Int) + (t493.length : Int))) = (t469.length : Int) then ((impl_RunSets.f k1 t466 t469 t472 ([] : List Bool)).bind fun t496 => (some ((t496.length : Int) == 0))) else (some false)) = some r := H
      have A26 := Aside0.mk A260
      clear A260
      by_cases c27 : (wrap64 ((t479.length : Int) + (t493.length : Int))) = (t469.length : Int)
      ·rw [if_pos c27] at H
       have c27b0 : ((wrap64 ((t479.length : Int) + (t493.length : Int))) == (t469.length : Int)) = true := beq_iff_eq.mpr c27
       have c27b1 : ((wrap64 ((t479.length : Int) + (t493.length : Int))) != (t469.length : Int)) = false := bne_eq_false_iff_eq.mpr c27
       clear c27
       replace H := Option.bind_eq_some_iff.mp H
       obtain ⟨t496, A280, H⟩ := H
       replace H : (some ((t496.length : Int) == 0)) = some r := H
       have A28 := Aside0.mk A280
       clear A280
       obtain rfl := Option.some.inj H
       try go_wp2
       have n0_ := Aside0.mk (Kd.R_drew HO_4.out)
       have n1_ := Aside0.mk (Kd.R_drew HO_5.out)
       have n2_ := Aside0.mk (Kd.R_drew HO_6.out)
       have n3_ := Aside0.mk (Kd.R_drew HO_479000.out)
       have n4_ := Aside0.mk (Kd.R_drew HO_479001.out)
       have n5_ := Aside0.mk (Kd.R_drew HO_479002.out)
       have n6_ := Aside0.mk (blk_drew BK478.out)
       have n7_ := Aside0.mk (below_drew1 HB.out)
       clear HO_4
       clear HO_5
       clear HO_6
       clear HO_479000
       clear HO_479001
       clear HO_479002
       clear BK478
       clear HB
       have HO_4 := n0_
       have HO_5 := n1_
       have HO_6 := n2_
       have HO_479000 := n3_
       have HO_479001 := n4_
       have HO_479002 := n5_
       have BK478 := n6_
       have HB := n7_
       clear n0_ n1_ n2_ n3_ n4_ n5_ n6_ n7_
       obtain ⟨Ao30, co30, eo30⟩ := Kd.R_slice HO_6.out
       (first | subst eo30 | (injection eo30 with f1_ f2_ f3_; have f4_ := f1_.symm; have f5_ := f3_.symm; clear f1_ f2_ f3_; subst f4_; subst f5_))
       refine start_ (n := 18) (S := fun w' => w'.cell? ⟨gb478, 0, none⟩ = some (.slice Ao10 t466.length co10) ∧ w'.cell? ⟨gb478, 1, none⟩ = some (.slice Ao12 t469.length co12) ∧ w'.cell? ⟨gb478, 2, none⟩ = some (.slice Ao13 t472.length co13)) (ds := []) #[false, false, false, false, false, false, false, false, false, false, false, false, false, false, false, false, false, false] (by kernel_rfl) rfl rfl ⟨(blk_cell BK478.out 0).trans rfl, (blk_cell BK478.out 1).trans rfl, (blk_cell BK478.out 2).trans rfl⟩ (fun hHeld => ?_); refine with_tabW laws_FnRunSets.tab12 laws_FnRunSets.bits12 (fun HT_ HW_ => ?_)
       generalize wr.drew = w29 at HO_4 HO_5 HO_6 HO_479000 HO_479001 HO_479002 BK478 HB hHeld ⊢
       refine pure_ (i := 0) (N := some 40) (v := ?_) (a' := ?_) #[true, false, false, false, false, false, false, false, false, false, false, false, false, false, false, false, false, false] rfl rfl (any_of HT_.out (by kernel_rfl)) (fun _ _ _ h => h) (Or.inl ⟨by rfl, ?_⟩) ?_ ?_
       rotate_left
       ·intro w'
        go_simp
        with_reducible rfl
       rotate_left
       ·simp only [Act.put, List.setIfInBounds_toArray, List.set_cons_zero, List.set_cons_succ, i64_w, i32_w]
        rfl
       refine pure_ (i := 1) (N := some 41) (v := ?_) (a' := ?_) #[true, true, false, false, false, false, false, false, false, false, false, false, false, false, false, false, false, false] rfl rfl (any_of HT_.out (by kernel_rfl)) (fun _ _ _ h => h) (Or.inl ⟨by rfl, ?_⟩) ?_ ?_
       rotate_left
       ·intro w'
        go_simp
        with_reducible rfl
       rotate_left
       ·simp only [Act.put, List.setIfInBounds_toArray, List.set_cons_zero, List.set_cons_succ, i64_w, i32_w]
        rfl
       refine pure_ (i := 3) (N := some 43) (v := ?_) (a' := ?_) #[true, true, false, true, false, false, false, false, false, false, false, false, false, false, false, false, false, false] rfl rfl (any_of HT_.out (by kernel_rfl)) (fun _ _ _ h => h) (Or.inl ⟨by rfl, ?_⟩) ?_ ?_
       rotate_left
       ·intro w'
        go_simp
        with_reducible rfl
       rotate_left
       ·simp only [Act.put, List.setIfInBounds_toArray, List.set_cons_zero, List.set_cons_succ, i64_w, i32_w]
        rfl
       refine pure_ (i := 7) (N := some 47) (v := ?_) (a' := ?_) #[true, true, false, true, false, false, false, true, false, false, false, false, false, false, false, false, false, false] rfl rfl (any_of HT_.out (by kernel_rfl)) (fun _ _ _ h => h) (Or.inl ⟨by rfl, ?_⟩) ?_ ?_
       rotate_left
       ·intro w'
        go_simp
        with_reducible rfl
       rotate_left
       ·simp only [Act.put, List.setIfInBounds_toArray, List.set_cons_zero, List.set_cons_succ, i64_w, i32_w]
        rfl
       refine take_ (i := 2) (N := some 42) (v := ?_) (a' := ?_) #[true, true, true, true, false, false, false, true, false, false, false, false, false, false, false, false, false, false] rfl rfl (take_ofW HT_.out HW_.out (by kernel_rfl)) (fun _ _ _ h => h) (Or.inl ⟨by rfl, ?_⟩) hHeld ?_ ?_
       rotate_left
       ·rintro w' ⟨s0, s1, s2⟩
        go_simp
        with_reducible rfl
       rotate_left
       ·simp only [Act.put, List.setIfInBounds_toArray, List.set_cons_zero, List.set_cons_succ, i64_w, i32_w]
        rfl
       refine take_ (i := 8) (N := some 48) (v := ?_) (a' := ?_) #[true, true, true, true, false, false, false, true, true, false, false, false, false, false, false, false, false, false] rfl rfl (take_ofW HT_.out HW_.out (by kernel_rfl)) (fun _ _ _ h => h) (Or.inl ⟨by rfl, ?_⟩) hHeld ?_ ?_
       rotate_left
       ·rintro w' ⟨s0, s1, s2⟩
        go_simp
        with_reducible rfl
       rotate_left
       ·simp only [Act.put, List.setIfInBounds_toArray, List.set_cons_zero, List.set_cons_succ, i64_w, i32_w]
        rfl
       refine pure_ (i := 9) (N := some 49) (v := ?_) (a' := ?_) #[true, true, true, true, false, false, false, true, true, true, false, false, false, false, false, false, false, false] rfl rfl (any_of HT_.out (by kernel_rfl)) (fun _ _ _ h => h) (Or.inl ⟨by rfl, ?_⟩) ?_ ?_
       rotate_left
       ·intro w'
        go_simp
        with_reducible rfl
       rotate_left
       ·simp only [Act.put, List.setIfInBounds_toArray, List.set_cons_zero, List.set_cons_succ, i64_w, i32_w]
        rfl
       refine one_ (i := 4) (N := some 44) #[true, true, true, true, true, false, false, true, true, true, false, false, false, false, false, false, false, false] rfl rfl (one_of HT_.out (by kernel_rfl)) (by decide) (fun K hK => ?_)
       refine goes_ Try.func10 (by kernel_rfl) rfl #[.agg #[.slice Ao10 t466.length co10, .slice Ao12 t469.length co12, .slice Ao13 t472.length co13], .slice Ao30 x6_1.length co30] (by rfl) rfl rfl ZG ?_
       with_reducible refine (impl_RunSets.calls k1 _ _ t466 _ _ t469 _ _ t472 _ _ x6_1 t493 _ ?side1 ?side2 ?side3 ?side4 ?side5 ?side6 ?side7 ?side8 A26.out).mono ?_
       (case side1 => exact ZQ ((Kd.R_reads' HO_479000.out).2.2))
       (case side2 => exact (Kd.R_reads' HO_479000.out).2.1)
       (case side3 => exact ZQ ((Kd.R_reads' HO_479001.out).2.2))
       (case side4 => exact (Kd.R_reads' HO_479001.out).2.1)
       (case side5 => exact ZQ ((Kd.R_reads' HO_479002.out).2.2))
       (case side6 => exact (Kd.R_reads' HO_479002.out).2.1)
       (case side7 => exact ZQ ((Kd.R_reads' HO_6.out).2.2))
       (case side8 => exact (Kd.R_reads' HO_6.out).2.1)
       rintro e w31 ⟨v494, rfl, ho0, hb⟩
       refine ⟨_, rfl, ?_⟩
       have n0_ := Aside0.mk (Kd.R_below (ZR HO_4.out) hb)
       have n1_ := Aside0.mk (Kd.R_elder' (ZR HO_5.out) (Kd.R_base ho0) hb)
       have n2_ := Aside0.mk (Kd.R_below (ZR HO_6.out) hb)
       have n3_ := Aside0.mk (Kd.R_below (ZR HO_479000.out) hb)
       have n4_ := Aside0.mk (Kd.R_elder' (ZR HO_479001.out) (Kd.R_base ho0) hb)
       have n5_ := Aside0.mk (Kd.R_below (ZR HO_479002.out) hb)
       have n6_ := Aside0.mk (Kd.R_lower (Kd.R_new' (Kd.R_new' ho0 (Kd.R_lt (ZR HO_5.out))) (Kd.R_lt (ZR HO_479001.out))) (below_size (ZB)))
       have n7_ := ZW BK478 hb
       have n8_ := ZT HB hb
       clear HO_4
       clear HO_5
       clear HO_6
       clear HO_479000
       clear HO_479001
       clear HO_479002
       clear BK478
       clear HB
       have HO_4 := n0_
       have HO_5 := n1_
       have HO_6 := n2_
       have HO_479000 := n3_
       have HO_479001 := n4_
       have HO_479002 := n5_
       have HO495 := n6_
       have BK478 := n7_
       have HB := n8_
       clear n0_ n1_ n2_ n3_ n4_ n5_ n6_ n7_ n8_
       (try clear hb)
       (try clear hb2)
       (try clear hk)
       (try clear hi)
       (try clear ho0)
       obtain ⟨Ao32, co32, eo32⟩ := Kd.R_slice HO495.out
       (first | subst eo32 | (injection eo32 with f1_ f2_ f3_; have f4_ := f1_.symm; have f5_ := f3_.symm; clear f1_ f2_ f3_; subst f4_; subst f5_))
       refine hK.out _ _ ⟨(blk_cell BK478.out 0).trans rfl, (blk_cell BK478.out 1).trans rfl, (blk_cell BK478.out 2).trans rfl⟩ (fun hHeld => ?_)
       clear hK K
       refine ZNO 44 ?_
       refine pure_ (i := 5) (N := some 45) (v := ?_) (a' := ?_) #[true, true, true, true, true, true, false, true, true, true, false, false, false, false, false, false, false, false] rfl rfl (any_of HT_.out (by kernel_rfl)) (fun _ _ _ h => h) (Or.inl ⟨by rfl, ?_⟩) ?_ ?_
       rotate_left
       ·intro w'
        go_simp
        with_reducible rfl
       rotate_left
       ·simp only [Act.put, List.setIfInBounds_toArray, List.set_cons_zero, List.set_cons_succ, i64_w, i32_w]
        rfl
       refine pure_ (i := 6) (N := some 46) (v := ?_) (a' := ?_) #[true, true, true, true, true, true, true, true, true, true, false, false, false, false, false, false, false, false] rfl rfl (any_of HT_.out (by kernel_rfl)) (fun _ _ _ h => h) (Or.inl ⟨by rfl, ?_⟩) ?_ ?_
       rotate_left
       ·intro w'
        go_simp
        with_reducible rfl
       rotate_left
       ·simp only [Act.put, List.setIfInBounds_toArray, List.set_cons_zero, List.set_cons_succ, i64_w, i32_w]
        rfl
       refine pure_ (i := 10) (N := some 50) (v := ?_) (a' := ?_) #[true, true, true, true, true, true, true, true, true, true, true, false, false, false, false, false, false, false] rfl rfl (any_of HT_.out (by kernel_rfl)) (fun _ _ _ h => h) (Or.inl ⟨by rfl, ?_⟩) ?_ ?_
       rotate_left
       ·intro w'
        go_simp
        with_reducible rfl
       rotate_left
       ·simp only [Act.put, List.setIfInBounds_toArray, List.set_cons_zero, List.set_cons_succ, i64_w, i32_w]
        rfl
       refine pure_ (i := 11) (N := some 51) (v := ?_) (a' := ?_) #[true, true, true, true, true, true, true, true, true, true, true, true, false, false, false, false, false, false] rfl rfl (any_of HT_.out (by kernel_rfl)) (fun _ _ _ h => h) (Or.inl ⟨by rfl, ?_⟩) ?_ ?_
       rotate_left
       ·intro w'
        go_simp
        with_reducible rfl
       rotate_left
       ·simp only [Act.put, List.setIfInBounds_toArray, List.set_cons_zero, List.set_cons_succ, i64_w, i32_w]
        rfl
       refine take_ (i := 12) (N := some 52) (v := ?_) (a' := ?_) #[true, true, true, true, true, true, true, true, true, true, true, true, true, false, false, false, false, false] rfl rfl (take_ofW HT_.out HW_.out (by kernel_rfl)) (fun _ _ _ h => h) (Or.inl ⟨by rfl, ?_⟩) hHeld ?_ ?_
       rotate_left
       ·rintro w' ⟨s0, s1, s2⟩
        go_simp
        with_reducible rfl
       rotate_left
       ·simp only [Act.put, List.setIfInBounds_toArray, List.set_cons_zero, List.set_cons_succ, i64_w, i32_w]
        rfl
       refine one_ (i := 13) (N := some 53) #[true, true, true, true, true, true, true, true, true, true, true, true, true, true, false, false, false, false] rfl rfl (one_of HT_.out (by kernel_rfl)) (by decide) (fun K hK => ?_)
       refine goes_ Try.func10 (by kernel_rfl) rfl #[.agg #[.slice Ao10 t466.length co10, .slice Ao12 t469.length co12, .slice Ao13 t472.length co13], .slice none 0 0] (by rfl) rfl rfl ZG ?_
       refine (impl_RunSets.calls k1 _ _ t466 _ _ t469 _ _ t472 _ _ ([] : List Bool) t496 _ ?side1 ?side2 ?side3 ?side4 ?side5 ?side6 ?side7 ?side8 A28.out).mono ?_
       (case side1 => exact ZQ ((Kd.R_reads' HO_479000.out).2.2))
       (case side2 => exact (Kd.R_reads' HO_479000.out).2.1)
       (case side3 => exact ZQ ((Kd.R_reads' HO_479001.out).2.2))
       (case side4 => exact (Kd.R_reads' HO_479001.out).2.1)
       (case side5 => exact ZQ ((Kd.R_reads' HO_479002.out).2.2))
       (case side6 => exact (Kd.R_reads' HO_479002.out).2.1)
       (case side7 => exact Kd.C_nil _ _)
       (case side8 => exact Nat.le_refl _)
       rintro e w33 ⟨v497, rfl, ho0, hb⟩
       refine ⟨_, rfl, ?_⟩
       have n0_ := Aside0.mk (Kd.R_below (ZR HO_4.out) hb)
       have n1_ := Aside0.mk (Kd.R_elder' (ZR HO_5.out) (Kd.R_base ho0) hb)
       have n2_ := Aside0.mk (Kd.R_below (ZR HO_6.out) hb)
       have n3_ := Aside0.mk (Kd.R_below (ZR HO_479000.out) hb)
       have n4_ := Aside0.mk (Kd.R_elder' (ZR HO_479001.out) (Kd.R_base ho0) hb)
       have n5_ := Aside0.mk (Kd.R_below (ZR HO_479002.out) hb)
       have n6_ := Aside0.mk (Kd.R_elder' (ZR HO495.out) (Kd.R_base ho0) hb)
       have n7_ := Aside0.mk (Kd.R_lower (Kd.R_new' (Kd.R_new' (Kd.R_new' ho0 (Kd.R_lt (ZR HO_5.out))) (Kd.R_lt (ZR HO_479001.out))) (Kd.R_lt (ZR HO495.out))) (below_size (ZB)))
       have n8_ := ZW BK478 hb
       have n9_ := ZT HB hb
       clear HO_4
       clear HO_5
       clear HO_6
       clear HO_479000
       clear HO_479001
       clear HO_479002
       clear HO495
       clear BK478
       clear HB
       have HO_4 := n0_
       have HO_5 := n1_
       have HO_6 := n2_
       have HO_479000 := n3_
       have HO_479001 := n4_
       have HO_479002 := n5_
       have HO495 := n6_
       have HO498 := n7_
       have BK478 := n8_
       have HB := n9_
       clear n0_ n1_ n2_ n3_ n4_ n5_ n6_ n7_ n8_ n9_
       (try clear hb)
       (try clear hb2)
       (try clear hk)
       (try clear hi)
       (try clear ho0)
       obtain ⟨Ao34, co34, eo34⟩ := Kd.R_slice HO498.out
       (first | subst eo34 | (injection eo34 with f1_ f2_ f3_; have f4_ := f1_.symm; have f5_ := f3_.symm; clear f1_ f2_ f3_; subst f4_; subst f5_))
       refine hK.out _ _ ⟨(blk_cell BK478.out 0).trans rfl, (blk_cell BK478.out 1).trans rfl, (blk_cell BK478.out 2).trans rfl⟩ (fun hHeld => ?_)
       clear hK K
       refine ZNO 53 ?_
       refine pure_ (i := 14) (N := some 54) (v := ?_) (a' := ?_) #[true, true, true, true, true, true, true, true, true, true, true, true, true, true, true, false, false, false] rfl rfl (any_of HT_.out (by kernel_rfl)) (fun _ _ _ h => h) (Or.inl ⟨by rfl, ?_⟩) ?_ ?_
       rotate_left
       ·intro w'
        go_simp
        with_reducible rfl
       rotate_left
       ·simp only [Act.put, List.setIfInBounds_toArray, List.set_cons_zero, List.set_cons_succ, i64_w, i32_w]
        rfl
       refine pure_ (i := 15) (N := some 55) (v := ?_) (a' := ?_) #[true, true, true, true, true, true, true, true, true, true, true, true, true, true, true, true, false, false] rfl rfl (any_of HT_.out (by kernel_rfl)) (fun _ _ _ h => h) (Or.inl ⟨by rfl, ?_⟩) ?_ ?_
       rotate_left
       ·intro w'
        go_simp
        with_reducible rfl
       rotate_left
       ·simp only [Act.put, List.setIfInBounds_toArray, List.set_cons_zero, List.set_cons_succ, i64_w, i32_w]
        rfl
       refine pure_ (i := 16) (N := some 56) (v := ?_) (a' := ?_) #[true, true, true, true, true, true, true, true, true, true, true, true, true, true, true, true, true, false] rfl rfl (any_of HT_.out (by kernel_rfl)) (fun _ _ _ h => h) (Or.inl ⟨by rfl, ?_⟩) ?_ ?_
       rotate_left
       ·intro w'
        go_simp
        with_reducible rfl
       rotate_left
       ·simp only [Act.put, List.setIfInBounds_toArray, List.set_cons_zero, List.set_cons_succ, i64_w, i32_w]
        rfl
       refine pure_ (i := 17) (N := some 2) (v := ?_) (a' := ?_) #[true, true, true, true, true, true, true, true, true, true, true, true, true, true, true, true, true, true] rfl rfl (any_of HT_.out (by kernel_rfl)) (fun _ _ _ h => h) (Or.inl ⟨by rfl, ?_⟩) ?_ ?_
       rotate_left
       ·intro w'
        go_simp
        with_reducible rfl
       rotate_left
       ·simp only [Act.put, List.setIfInBounds_toArray, List.set_cons_zero, List.set_cons_succ, i64_w, i32_w]
        rfl
       refine done_ (done_of HT_.out (by kernel_rfl)) ?_
       try go_wp2
       go_ret
       exact ⟨ZE, ZB⟩
      ·rw [if_neg c27] at H
       have c27b0 : ((wrap64 ((t479.length : Int) + (t493.length : Int))) == (t469.length : Int)) = false := beq_eq_false_iff_ne.mpr c27
       have c27b1 : ((wrap64 ((t479.length : Int) + (t493.length : Int))) != (t469.length : Int)) = true := bne_iff_ne.mpr c27
       obtain rfl := Option.some.inj H
       try go_wp2
       have n0_ := Aside0.mk (Kd.R_drew HO_4.out)
       have n1_ := Aside0.mk (Kd.R_drew HO_5.out)
       have n2_ := Aside0.mk (Kd.R_drew HO_6.out)
       have n3_ := Aside0.mk (Kd.R_drew HO_479000.out)
       have n4_ := Aside0.mk (Kd.R_drew HO_479001.out)
       have n5_ := Aside0.mk (Kd.R_drew HO_479002.out)
       have n6_ := Aside0.mk (blk_drew BK478.out)
       have n7_ := Aside0.mk (below_drew1 HB.out)
       clear HO_4
       clear HO_5
       clear HO_6
       clear HO_479000
       clear HO_479001
       clear HO_479002
       clear BK478
       clear HB
       have HO_4 := n0_
       have HO_5 := n1_
       have HO_6 := n2_
       have HO_479000 := n3_
       have HO_479001 := n4_
       have HO_479002 := n5_
       have BK478 := n6_
       have HB := n7_
       clear n0_ n1_ n2_ n3_ n4_ n5_ n6_ n7_
       obtain ⟨Ao36, co36, eo36⟩ := Kd.R_slice HO_6.out
       (first | subst eo36 | (injection eo36 with f1_ f2_ f3_; have f4_ := f1_.symm; have f5_ := f3_.symm; clear f1_ f2_ f3_; subst f4_; subst f5_))
       refine start_ (n := 18) (S := fun w' => w'.cell? ⟨gb478, 0, none⟩ = some (.slice Ao10 t466.length co10) ∧ w'.cell? ⟨gb478, 1, none⟩ = some (.slice Ao12 t469.length co12) ∧ w'.cell? ⟨gb478, 2, none⟩ = some (.slice Ao13 t472.length co13)) (ds := []) #[false, false, false, false, false, false, false, false, false, false, false, false, false, false, false, false, false, false] (by kernel_rfl) rfl rfl ⟨(blk_cell BK478.out 0).trans rfl, (blk_cell BK478.out 1).trans rfl, (blk_cell BK478.out 2).trans rfl⟩ (fun hHeld => ?_); refine with_tabW laws_FnRunSets.tab12 laws_FnRunSets.bits12 (fun HT_ HW_ => ?_)
       generalize wr.drew = w35 at HO_4 HO_5 HO_6 HO_479000 HO_479001 HO_479002 BK478 HB hHeld ⊢
       refine pure_ (i := 0) (N := some 40) (v := ?_) (a' := ?_) #[true, false, false, false, false, false, false, false, false, false, false, false, false, false, false, false, false, false] rfl rfl (any_of HT_.out (by kernel_rfl)) (fun _ _ _ h => h) (Or.inl ⟨by rfl, ?_⟩) ?_ ?_
       rotate_left
       ·intro w'
        go_simp
        with_reducible rfl
       rotate_left
       ·simp only [Act.put, List.setIfInBounds_toArray, List.set_cons_zero, List.set_cons_succ, i64_w, i32_w]
        rfl
       refine pure_ (i := 1) (N := some 41) (v := ?_) (a' := ?_) #[true, true, false, false, false, false, false, false, false, false, false, false, false, false, false, false, false, false] rfl rfl (any_of HT_.out (by kernel_rfl)) (fun _ _ _ h => h) (Or.inl ⟨by rfl, ?_⟩) ?_ ?_
       rotate_left
       ·intro w'
        go_simp
        with_reducible rfl
       rotate_left
       ·simp only [Act.put, List.setIfInBounds_toArray, List.set_cons_zero, List.set_cons_succ, i64_w, i32_w]
        rfl
       refine pure_ (i := 3) (N := some 43) (v := ?_) (a' := ?_) #[true, true, false, true, false, false, false, false, false, false, false, false, false, false, false, false, false, false] rfl rfl (any_of HT_.out (by kernel_rfl)) (fun _ _ _ h => h) (Or.inl ⟨by rfl, ?_⟩) ?_ ?_
       rotate_left
       ·intro w'
        go_simp
        with_reducible rfl
       rotate_left
       ·simp only [Act.put, List.setIfInBounds_toArray, List.set_cons_zero, List.set_cons_succ, i64_w, i32_w]
        rfl
       refine pure_ (i := 7) (N := some 47) (v := ?_) (a' := ?_) #[true, true, false, true, false, false, false, true, false, false, false, false, false, false, false, false, false, false] rfl rfl (any_of HT_.out (by kernel_rfl)) (fun _ _ _ h => h) (Or.inl ⟨by rfl, ?_⟩) ?_ ?_
       rotate_left
       ·intro w'
        go_simp
        with_reducible rfl
       rotate_left
       ·simp only [Act.put, List.setIfInBounds_toArray, List.set_cons_zero, List.set_cons_succ, i64_w, i32_w]
        rfl
       refine take_ (i := 2) (N := some 42) (v := ?_) (a' := ?_) #[true, true, true, true, false, false, false, true, false, false, false, false, false, false, false, false, false, false] rfl rfl (take_ofW HT_.out HW_.out (by kernel_rfl)) (fun _ _ _ h => h) (Or.inl ⟨by rfl, ?_⟩) hHeld ?_ ?_
       rotate_left
       ·rintro w' ⟨s0, s1, s2⟩
        go_simp
        with_reducible rfl
       rotate_left
       ·simp only [Act.put, List.setIfInBounds_toArray, List.set_cons_zero, List.set_cons_succ, i64_w, i32_w]
        rfl
       refine take_ (i := 8) (N := some 48) (v := ?_) (a' := ?_) #[true, true, true, true, false, false, false, true, true, false, false, false, false, false, false, false, false, false] rfl rfl (take_ofW HT_.out HW_.out (by kernel_rfl)) (fun _ _ _ h => h) (Or.inl ⟨by rfl, ?_⟩) hHeld ?_ ?_
       rotate_left
       ·rintro w' ⟨s0, s1, s2⟩
        go_simp
        with_reducible rfl
       rotate_left
       ·simp only [Act.put, List.setIfInBounds_toArray, List.set_cons_zero, List.set_cons_succ, i64_w, i32_w]
        rfl
       refine pure_ (i := 9) (N := some 49) (v := ?_) (a' := ?_) #[true, true, true, true, false, false, false, true, true, true, false, false, false, false, false, false, false, false] rfl rfl (any_of HT_.out (by kernel_rfl)) (fun _ _ _ h => h) (Or.inl ⟨by rfl, ?_⟩) ?_ ?_
       rotate_left
       ·intro w'
        go_simp
        with_reducible rfl
       rotate_left
       ·simp only [Act.put, List.setIfInBounds_toArray, List.set_cons_zero, List.set_cons_succ, i64_w, i32_w]
        rfl
       refine one_ (i := 4) (N := some 44) #[true, true, true, true, true, false, false, true, true, true, false, false, false, false, false, false, false, false] rfl rfl (one_of HT_.out (by kernel_rfl)) (by decide) (fun K hK => ?_)
       refine goes_ Try.func10 (by kernel_rfl) rfl #[.agg #[.slice Ao10 t466.length co10, .slice Ao12 t469.length co12, .slice Ao13 t472.length co13], .slice Ao36 x6_1.length co36] (by rfl) rfl rfl ZG ?_
       with_reducible refine (impl_RunSets.calls k1 _ _ t466 _ _ t469 _ _ t472 _ _ x6_1 t493 _ ?side1 ?side2 ?side3 ?side4 ?side5 ?side6 ?side7 ?side8 A26.out).mono ?_
       (case side1 => exact ZQ ((Kd.R_reads' HO_479000.out).2.2))
       (case side2 => exact (Kd.R_reads' HO_479000.out).2.1)
       (case side3 => exact ZQ ((Kd.R_reads' HO_479001.out).2.2))
       (case side4 => exact (Kd.R_reads' HO_479001.out).2.1)
       (case side5 => exact ZQ ((Kd.R_reads' HO_479002.out).2.2))
       (case side6 => exact (Kd.R_reads' HO_479002.out).2.1)
       (case side7 => exact ZQ ((Kd.R_reads' HO_6.out).2.2))
       (case side8 => exact (Kd.R_reads' HO_6.out).2.1)
       rintro e w37 ⟨v494, rfl, ho0, hb⟩
       refine ⟨_, rfl, ?_⟩
       have n0_ := Aside0.mk (Kd.R_below (ZR HO_4.out) hb)
       have n1_ := Aside0.mk (Kd.R_elder' (ZR HO_5.out) (Kd.R_base ho0) hb)
       have n2_ := Aside0.mk (Kd.R_below (ZR HO_6.out) hb)
       have n3_ := Aside0.mk (Kd.R_below (ZR HO_479000.out) hb)
       have n4_ := Aside0.mk (Kd.R_elder' (ZR HO_479001.out) (Kd.R_base ho0) hb)
       have n5_ := Aside0.mk (Kd.R_below (ZR HO_479002.out) hb)
       have n6_ := Aside0.mk (Kd.R_lower (Kd.R_new' (Kd.R_new' ho0 (Kd.R_lt (ZR HO_5.out))) (Kd.R_lt (ZR HO_479001.out))) (below_size (ZB)))
       have n7_ := ZW BK478 hb
       have n8_ := ZT HB hb
       clear HO_4
       clear HO_5
       clear HO_6
       clear HO_479000
       clear HO_479001
       clear HO_479002
       clear BK478
       clear HB
       have HO_4 := n0_
       have HO_5 := n1_
       have HO_6 := n2_
       have HO_479000 := n3_
       have HO_479001 := n4_
       have HO_479002 := n5_
       have HO495 := n6_
       have BK478 := n7_
       have HB := n8_
       clear n0_ n1_ n2_ n3_ n4_ n5_ n6_ n7_ n8_
       (try clear hb)
       (try clear hb2)
       (try clear hk)
       (try clear hi)
       (try clear ho0)
       obtain ⟨Ao38, co38, eo38⟩ := Kd.R_slice HO495.out
       (first | subst eo38 | (injection eo38 with f1_ f2_ f3_; have f4_ := f1_.symm; have f5_ := f3_.symm; clear f1_ f2_ f3_; subst f4_; subst f5_))
       refine hK.out _ _ ⟨(blk_cell BK478.out 0).trans rfl, (blk_cell BK478.out 1).trans rfl, (blk_cell BK478.out 2).trans rfl⟩ (fun hHeld => ?_)
       clear hK K
       refine ZNO 44 ?_
       refine pure_ (i := 5) (N := some 45) (v := ?_) (a' := ?_) #[true, true, true, true, true, true, false, true, true, true, false, false, false, false, false, false, false, false] rfl rfl (any_of HT_.out (by kernel_rfl)) (fun _ _ _ h => h) (Or.inl ⟨by rfl, ?_⟩) ?_ ?_
       rotate_left
       ·intro w'
        go_simp
        with_reducible rfl
       rotate_left
       ·simp only [Act.put, List.setIfInBounds_toArray, List.set_cons_zero, List.set_cons_succ, i64_w, i32_w]
        rfl
       refine pure_ (i := 6) (N := some 46) (v := ?_) (a' := ?_) #[true, true, true, true, true, true, true, true, true, true, false, false, false, false, false, false, false, false] rfl rfl (any_of HT_.out (by kernel_rfl)) (fun _ _ _ h => h) (Or.inl ⟨by rfl, ?_⟩) ?_ ?_
       rotate_left
       ·intro w'
        go_simp
        with_reducible rfl
       rotate_left
       ·simp only [Act.put, List.setIfInBounds_toArray, List.set_cons_zero, List.set_cons_succ, i64_w, i32_w]
        rfl
       refine pure_ (i := 10) (N := some 50) (v := ?_) (a' := ?_) #[true, true, true, true, true, true, true, true, true, true, true, false, false, false, false, false, false, false] rfl rfl (any_of HT_.out (by kernel_rfl)) (fun _ _ _ h => h) (Or.inl ⟨by rfl, ?_⟩) ?_ ?_
       rotate_left
       ·intro w'
        go_simp
        with_reducible rfl
       rotate_left
       ·simp only [Act.put, List.setIfInBounds_toArray, List.set_cons_zero, List.set_cons_succ, i64_w, i32_w]
        rfl
       refine pure_ (i := 11) (N := some 51) (v := ?_) (a' := ?_) #[true, true, true, true, true, true, true, true, true, true, true, true, false, false, false, false, false, false] rfl rfl (any_of HT_.out (by kernel_rfl)) (fun _ _ _ h => h) (Or.inl ⟨by rfl, ?_⟩) ?_ ?_
       rotate_left
       ·intro w'
        go_simp
        with_reducible rfl
       rotate_left
       ·simp only [Act.put, List.setIfInBounds_toArray, List.set_cons_zero, List.set_cons_succ, i64_w, i32_w]
        rfl
       refine pure_ (i := 12) (N := some 52) (v := undef) (a' := ?_) #[true, true, true, true, true, true, true, true, true, true, true, true, true, false, false, false, false, false] rfl rfl (any_of HT_.out (by kernel_rfl)) (fun _ _ _ h => h) (Or.inr ⟨by rfl, rfl⟩) ?_ ?_
       rotate_left
       ·simp only [Act.put, List.setIfInBounds_toArray, List.set_cons_zero, List.set_cons_succ, i64_w, i32_w]
        rfl
       refine pure_ (i := 13) (N := some 53) (v := undef) (a' := ?_) #[true, true, true, true, true, true, true, true, true, true, true, true, true, true, false, false, false, false] rfl rfl (any_of HT_.out (by kernel_rfl)) (fun _ _ _ h => h) (Or.inr ⟨by rfl, rfl⟩) ?_ ?_
       rotate_left
       ·simp only [Act.put, List.setIfInBounds_toArray, List.set_cons_zero, List.set_cons_succ, i64_w, i32_w]
        rfl
       refine pure_ (i := 14) (N := some 54) (v := undef) (a' := ?_) #[true, true, true, true, true, true, true, true, true, true, true, true, true, true, true, false, false, false] rfl rfl (any_of HT_.out (by kernel_rfl)) (fun _ _ _ h => h) (Or.inr ⟨by rfl, rfl⟩) ?_ ?_
       rotate_left
       ·simp only [Act.put, List.setIfInBounds_toArray, List.set_cons_zero, List.set_cons_succ, i64_w, i32_w]
        rfl
       refine pure_ (i := 15) (N := some 55) (v := undef) (a' := ?_) #[true, true, true, true, true, true, true, true, true, true, true, true, true, true, true, true, false, false] rfl rfl (any_of HT_.out (by kernel_rfl)) (fun _ _ _ h => h) (Or.inr ⟨by rfl, rfl⟩) ?_ ?_
       rotate_left
       ·simp only [Act.put, List.setIfInBounds_toArray, List.set_cons_zero, List.set_cons_succ, i64_w, i32_w]
        rfl
       refine pure_ (i := 16) (N := some 56) (v := ?_) (a' := ?_) #[true, true, true, true, true, true, true, true, true, true, true, true, true, true, true, true, true, false] rfl rfl (any_of HT_.out (by kernel_rfl)) (fun _ _ _ h => h) (Or.inl ⟨by rfl, ?_⟩) ?_ ?_
       rotate_left
       ·intro w'
        go_simp
        with_reducible rfl
       rotate_left
       ·simp only [Act.put, List.setIfInBounds_toArray, List.set_cons_zero, List.set_cons_succ, i64_w, i32_w]
        rfl
       refine pure_ (i := 17) (N := some 2) (v := ?_) (a' := ?_) #[true, true, true, true, true, true, true, true, true, true, true, true, true, true, true, true, true, true] rfl rfl (any_of HT_.out (by kernel_rfl)) (fun _ _ _ h => h) (Or.inl ⟨by rfl, ?_⟩) ?_ ?_
       rotate_left
       ·intro w'
        go_simp
        with_reducible rfl
       rotate_left
       ·simp only [Act.put, List.setIfInBounds_toArray, List.set_cons_zero, List.set_cons_succ, i64_w, i32_w]
        rfl
       refine done_ (done_of HT_.out (by kernel_rfl)) ?_
       try go_wp2
       go_ret
       exact ⟨ZE, ZB⟩
  ·replace c7 := Bool.eq_false_iff.mpr c7
   subst c7
   have H1 : (some false) = some r := by rw [if_neg (show ¬ (false = true) by decide)] at H; exact H
   clear H
   have H := H1
   clear H1
   obtain rfl := Option.some.inj H
   go_enter Try.func4, Try.ntmps4
   go_wp2_with (first | ((with_reducible refine gate_callee (f := 9) rfl ?_); refine goesL_ (some 13) rfl rfl Try.func9 (by kernel_rfl) rfl #[.slice A0 l0.length c0] rfl ZG ?_; (with_reducible refine (spec_DrawRunSets.calls k _ _ l0 t466 t469 t472 t475 _ ?side1 ?side2 A3.out).mono ?_); (case side1 => exact ZQ HR0.out); (case side2 => exact HC0.out); rintro e w39 ⟨v467, v470, v473, v476, rfl, ho0, ho1, ho2, ho3, hb⟩; refine ⟨_, rfl, ?_⟩; have HO468 := Aside0.mk (Kd.R_lower ho0 (below_size (ZB))); have HO471 := Aside0.mk (Kd.R_lower ho1 (below_size (ZB))); have HO474 := Aside0.mk (Kd.R_lower ho2 (below_size (ZB))); have HO477 := Aside0.mk (Kd.R_lower ho3 (below_size (ZB))); replace HB := ZT HB hb; (try clear hb); (try clear hb2); (try clear hk); (try clear hi); (try clear ho0); (try clear ho1); (try clear ho2); (try clear ho3)) | ((with_reducible refine gate_dst (N := 3) rfl ?_); refine ZX (N := 3) (cs := #[.slice none 0 0, .slice none 0 0, .slice none 0 0]) (t := 27) ?_; intro gb478 hg w40 hbox hb; have BK478 := Aside0.mk (hbox); have GW478 : Aside0 (w.heap.size ≤ gb478) := ZS hg; have GE478 : Aside0 (w.heap.size ≤ gb478) := ZS hg; replace HO468 := Aside0.mk (Kd.R_below (ZR HO468.out) hb); replace HO471 := Aside0.mk (Kd.R_below (ZR HO471.out) hb); replace HO474 := Aside0.mk (Kd.R_below (ZR HO474.out) hb); replace HO477 := Aside0.mk (Kd.R_below (ZR HO477.out) hb); replace HB := ZT HB hb; clear hb hbox hg; obtain ⟨Ao41, co41, eo41⟩ := Kd.R_slice HO468.out; subst eo41; obtain ⟨hcz42_0, hcz42_1, hcz42_2⟩ := ZC3 w40 BK478; obtain ⟨hfz42_0, hfz42_1, hfz42_2⟩ := ZF3 BK478; obtain ⟨Ao43, co43, eo43⟩ := Kd.R_slice HO471.out; subst eo43; obtain ⟨Ao44, co44, eo44⟩ := Kd.R_slice HO474.out; subst eo44; obtain ⟨Ao45, co45, eo45⟩ := Kd.R_slice HO477.out; subst eo45) | ((with_reducible refine gate_callee (f := 10) rfl ?_); refine goesL_ (some 18) rfl rfl Try.func10 (by kernel_rfl) rfl #[.agg #[.slice Ao41 t466.length co41, .slice Ao43 t469.length co43, .slice Ao44 t472.length co44], .slice Ao45 t475.length co45] rfl ZG ?_; (with_reducible refine (impl_RunSets.calls k _ _ t466 _ _ t469 _ _ t472 _ _ t475 t479 _ ?side1 ?side2 ?side3 ?side4 ?side5 ?side6 ?side7 ?side8 A4.out).mono ?_); (case side1 => refine (Kd.R_reads' (e := 3) (base := w.heap.size) (ok := fun k_ => True) (n := t466.length) (c := co41) ?_).2.2; exact (ZR ((Kd.R_mono (Kd.R_far (p := ⟨gb478, 2, none⟩) (Kd.R_far (p := ⟨gb478, 1, none⟩) (Kd.R_far (p := ⟨gb478, 0, none⟩) (Kd.R_types HO468.out BK478.out (by decide)) (fun _ hk => hk.2) (.slice Ao41 t466.length co41)) (fun _ hk => hk.2) (.slice Ao43 t469.length co43)) (fun _ hk => hk.2) (.slice Ao44 t472.length co44)) (fun _ h_ => h_.1))))); (case side2 => exact (Kd.R_reads' HO468.out).2.1); (case side3 => refine (Kd.R_reads' (e := 52) (base := w.heap.size) (ok := fun k_ => True) (n := t469.length) (c := co43) ?_).2.2; exact (ZR ((Kd.R_mono (Kd.R_far (p := ⟨gb478, 2, none⟩) (Kd.R_far (p := ⟨gb478, 1, none⟩) (Kd.R_far (p := ⟨gb478, 0, none⟩) (Kd.R_types HO471.out BK478.out (by decide)) (fun _ hk => hk.2) (.slice Ao41 t466.length co41)) (fun _ hk => hk.2) (.slice Ao43 t469.length co43)) (fun _ hk => hk.2) (.slice Ao44 t472.length co44)) (fun _ h_ => h_.1))))); (case side4 => exact (Kd.R_reads' HO471.out).2.1); (case side5 => refine (Kd.R_reads' (e := 50) (base := w.heap.size) (ok := fun k_ => True) (n := t472.length) (c := co44) ?_).2.2; exact (ZR ((Kd.R_mono (Kd.R_far (p := ⟨gb478, 2, none⟩) (Kd.R_far (p := ⟨gb478, 1, none⟩) (Kd.R_far (p := ⟨gb478, 0, none⟩) (Kd.R_types HO474.out BK478.out (by decide)) (fun _ hk => hk.2) (.slice Ao41 t466.length co41)) (fun _ hk => hk.2) (.slice Ao43 t469.length co43)) (fun _ hk => hk.2) (.slice Ao44 t472.length co44)) (fun _ h_ => h_.1))))); (case side6 => exact (Kd.R_reads' HO474.out).2.1); (case side7 => refine (Kd.R_reads' (e := 4) (base := w.heap.size) (ok := fun k_ => True) (n := t475.length) (c := co45) ?_).2.2; exact (ZR ((Kd.R_mono (Kd.R_far (p := ⟨gb478, 2, none⟩) (Kd.R_far (p := ⟨gb478, 1, none⟩) (Kd.R_far (p := ⟨gb478, 0, none⟩) (Kd.R_types HO477.out BK478.out (by decide)) (fun _ hk => hk.2) (.slice Ao41 t466.length co41)) (fun _ hk => hk.2) (.slice Ao43 t469.length co43)) (fun _ hk => hk.2) (.slice Ao44 t472.length co44)) (fun _ h_ => h_.1))))); (case side8 => exact (Kd.R_reads' HO477.out).2.1); rintro e w46 ⟨v480, rfl, ho0, hb⟩; refine ⟨_, rfl, ?_⟩; have HO481 := Aside0.mk (Kd.R_lower (Kd.R_new' ho0 (Kd.R_lt (ZR ((Kd.R_mono (Kd.R_far (p := ⟨gb478, 2, none⟩) (Kd.R_far (p := ⟨gb478, 1, none⟩) (Kd.R_far (p := ⟨gb478, 0, none⟩) (Kd.R_types HO471.out BK478.out (by decide)) (fun _ hk => hk.2) (.slice Ao41 t466.length co41)) (fun _ hk => hk.2) (.slice Ao43 t469.length co43)) (fun _ hk => hk.2) (.slice Ao44 t472.length co44)) (fun _ h_ => h_.1)))))) (below_size (ZB))); replace HO468 := Aside0.mk (Kd.R_below (ZR ((Kd.R_mono (Kd.R_far (p := ⟨gb478, 2, none⟩) (Kd.R_far (p := ⟨gb478, 1, none⟩) (Kd.R_far (p := ⟨gb478, 0, none⟩) (Kd.R_types HO468.out BK478.out (by decide)) (fun _ hk => hk.2) (.slice Ao41 t466.length co41)) (fun _ hk => hk.2) (.slice Ao43 t469.length co43)) (fun _ hk => hk.2) (.slice Ao44 t472.length co44)) (fun _ h_ => h_.1)))) hb); replace HO471 := Aside0.mk (Kd.R_elder' (ZR ((Kd.R_mono (Kd.R_far (p := ⟨gb478, 2, none⟩) (Kd.R_far (p := ⟨gb478, 1, none⟩) (Kd.R_far (p := ⟨gb478, 0, none⟩) (Kd.R_types HO471.out BK478.out (by decide)) (fun _ hk => hk.2) (.slice Ao41 t466.length co41)) (fun _ hk => hk.2) (.slice Ao43 t469.length co43)) (fun _ hk => hk.2) (.slice Ao44 t472.length co44)) (fun _ h_ => h_.1)))) (Kd.R_base ho0) hb); replace HO474 := Aside0.mk (Kd.R_below (ZR ((Kd.R_mono (Kd.R_far (p := ⟨gb478, 2, none⟩) (Kd.R_far (p := ⟨gb478, 1, none⟩) (Kd.R_far (p := ⟨gb478, 0, none⟩) (Kd.R_types HO474.out BK478.out (by decide)) (fun _ hk => hk.2) (.slice Ao41 t466.length co41)) (fun _ hk => hk.2) (.slice Ao43 t469.length co43)) (fun _ hk => hk.2) (.slice Ao44 t472.length co44)) (fun _ h_ => h_.1)))) hb); replace HO477 := Aside0.mk (Kd.R_below (ZR ((Kd.R_mono (Kd.R_far (p := ⟨gb478, 2, none⟩) (Kd.R_far (p := ⟨gb478, 1, none⟩) (Kd.R_far (p := ⟨gb478, 0, none⟩) (Kd.R_types HO477.out BK478.out (by decide)) (fun _ hk => hk.2) (.slice Ao41 t466.length co41)) (fun _ hk => hk.2) (.slice Ao43 t469.length co43)) (fun _ hk => hk.2) (.slice Ao44 t472.length co44)) (fun _ h_ => h_.1)))) hb); replace BK478 := ZV #[.slice Ao41 t466.length co41, .slice Ao43 t469.length co43, .slice Ao44 t472.length co44] BK478 hb; replace HB := ZT HB hb; (try clear hb); (try clear hb2); (try clear hk); (try clear hi); (try clear ho0); obtain ⟨hcz47_0, hcz47_1, hcz47_2⟩ := ZC3 w46 BK478; obtain ⟨hfz47_0, hfz47_1, hfz47_2⟩ := ZF3 BK478) | ((with_reducible refine gate_callee (f := 12) rfl ?_); refine goesL_ (some 22) rfl rfl Try.func12 (by kernel_rfl) rfl #[.agg #[.slice Ao41 t466.length co41, .slice Ao43 t469.length co43, .slice Ao44 t472.length co44], .slice Ao45 t475.length co45] rfl ZG ?_; (with_reducible refine (spec_RunSets.calls k _ _ t466 _ _ t469 _ _ t472 _ _ t475 t482 _ ?side1 ?side2 ?side3 ?side4 ?side5 ?side6 ?side7 ?side8 A5.out).mono ?_); (case side1 => exact ZQ ((Kd.R_reads' HO468.out).2.2)); (case side2 => exact (Kd.R_reads' HO468.out).2.1); (case side3 => exact ZQ ((Kd.R_reads' HO471.out).2.2)); (case side4 => exact (Kd.R_reads' HO471.out).2.1); (case side5 => exact ZQ ((Kd.R_reads' HO474.out).2.2)); (case side6 => exact (Kd.R_reads' HO474.out).2.1); (case side7 => exact ZQ ((Kd.R_reads' HO477.out).2.2)); (case side8 => exact (Kd.R_reads' HO477.out).2.1); rintro e w48 ⟨v483, rfl, ho0, hb⟩; refine ⟨_, rfl, ?_⟩; have HO484 := Aside0.mk (Kd.R_lower (Kd.R_new' (Kd.R_new' ho0 (Kd.R_lt (ZR HO471.out))) (Kd.R_lt (ZR HO481.out))) (below_size (ZB))); replace HO468 := Aside0.mk (Kd.R_below (ZR HO468.out) hb); replace HO471 := Aside0.mk (Kd.R_elder' (ZR HO471.out) (Kd.R_base ho0) hb); replace HO474 := Aside0.mk (Kd.R_below (ZR HO474.out) hb); replace HO477 := Aside0.mk (Kd.R_below (ZR HO477.out) hb); replace HO481 := Aside0.mk (Kd.R_elder' (ZR HO481.out) (Kd.R_base ho0) hb); replace BK478 := ZW BK478 hb; replace HB := ZT HB hb; (try clear hb); (try clear hb2); (try clear hk); (try clear hi); (try clear ho0); obtain ⟨Ao49, co49, eo49⟩ := Kd.R_slice HO481.out; subst eo49; obtain ⟨Ao50, co50, eo50⟩ := Kd.R_slice HO484.out; subst eo50) | ((with_reducible refine gate_callee (f := 11) rfl ?_); refine goesL_ (some 23) rfl rfl Try.func11 (by kernel_rfl) rfl #[.slice Ao49 t479.length co49, .slice Ao50 t482.length co50] rfl ZG ?_; (with_reducible refine (laws_lcWrites.calls k _ _ t479 _ _ t482 false _ ?side1 ?side2 ?side3 ?side4 A6.out).mono ?_); (case side1 => exact ZQ ((Kd.R_reads' HO481.out).2.2)); (case side2 => exact (Kd.R_reads' HO481.out).2.1); (case side3 => exact ZQ ((Kd.R_reads' HO484.out).2.2)); (case side4 => exact (Kd.R_reads' HO484.out).2.1); rintro e w' ⟨rfl, ⟨nd, rfl⟩⟩; refine ⟨_, rfl, ?_⟩))
   go_ret
   exact ⟨ZE, ZB⟩

end Go.Proofs.Ytdmejmdifnicmaa.A
