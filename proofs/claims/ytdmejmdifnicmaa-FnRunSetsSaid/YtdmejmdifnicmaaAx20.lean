/- What Go functions compute, as Lean functions, and for each its contract: for every input at which the Lean function answers the call returns that; written by wip/tools/pr.py over the kit's print. -/
import Derived.Test.YtdmejmdifnicmaaAx0
import Derived.Test.YtdmejmdifnicmaaAx3
import Derived.Test.YtdmejmdifnicmaaAx12
import Derived.Test.YtdmejmdifnicmaaAx15
import Derived.Test.YtdmejmdifnicmaaAx16
namespace Go.Proofs.Ytdmejmdifnicmaa.A
open Go.RowKit Go.Proofs.YtdmejmdifnicmaaW.PrintWords Go.Proofs.YtdmejmdifnicmaaW.PrintLast Go.Proofs.YtdmejmdifnicmaaW.PrintMore
attribute [local go_sem] max2_int min2_int max_two min_two max_three min_three max_four min_four   -- for this text's walks alone
set_option linter.unusedVariables false
set_option linter.unusedSimpArgs false

/-! ### spec_DrawRunSets: function 9 -/
def spec_DrawRunSets.l0 : Nat → List Bool → Int → List Int → Int → List (S57) → List (S66) → List Int → List (S52) → List (S50) → Option (List Int × (List (S52)) × (List (S50)) × List Bool)
 | 0, _, _, _, _, _, _, _, _, _ => none
 | k + 1, x8, x9, x414000, x414001, x422000, x422001, x437000, x437001, x437002 => if x9 < (x422000.length : Int) then ((spec_l6Rd_pick.f k x414000 x414001 2).bind fun bt440 => (if x8.length < 140737488355328 then (spec_DrawRunSets.l0 k (x8 ++ [(bt440.1 == 0)]) (wrap64 (x9 + 1)) x414000 bt440.2 x422000 x422001 x437000 x437001 x437002) else (none))) else (some (x437000, x437001, x437002, x8))
def spec_DrawRunSets.f (k : Nat) (l0 : List Int) : Option (List Int × (List (S52)) × (List (S50)) × List Bool) := (spec_l6Open.f l0).bind fun bt411 => ((spec_l71Prog.f k bt411.1 bt411.2).bind fun bt414 => ((spec_l71Nums.f k bt411.1 bt414.2.2 bt414.1 bt414.2.1).bind fun bt422 => ((spec_RunOf.f k bt414.1 bt414.2.1 bt422.1).bind fun bt426 => (spec_DrawRunSets.l0 k (([] : List Bool)) 0 bt411.1 bt422.2 bt414.1 bt414.2.1 bt426.1 bt426.2.1 bt426.2.2.1))))
def spec_DrawRunSets.T3 : Bool × List (List Nat × List Nat) := (true, [([], []), ([], []), ([], []), ([1, 2], [1, 2]), ([0, 3, 3], [0, 3]), ([4], [4]), ([5], [5]), ([5], [5]), ([], []), ([8, 6, 4, 0, 1, 2, 3, 4, 5, 6, 8], [6, 8]), ([7, 9, 0, 1, 2, 3, 4, 5, 6, 7, 8, 9], [7])])
def spec_DrawRunSets.B3 : List Nat := [0, 0, 0, 6, 15, 31, 63, 63, 0, 383, 1023]
theorem spec_DrawRunSets.tab3 : rtab .any (opsOf Try.f9 3) = spec_DrawRunSets.T3 := by kernel_rfl
theorem spec_DrawRunSets.bits3 : waitsOk spec_DrawRunSets.T3.2 spec_DrawRunSets.B3 = true := by kernel_rfl
set_option maxHeartbeats 8000000 in
set_option maxRecDepth 100000 in
theorem spec_DrawRunSets.calls (k : Nat) (A0 : Option Addr) (c0 : Nat) (l0 : List Int) (r1 : List Int) (r2 : List (S52)) (r3 : List (S50)) (r4 : List Bool) (w : World) (hr0 : Kd.C (Kd.int .u8) w A0 l0.length l0) (hc0 : l0.length ≤ c0) (h : spec_DrawRunSets.f k l0 = some (r1, r2, r3, r4)) :
  Calls Try.prog 9 #[.slice A0 l0.length c0] w fun e w' => ∃ v0_ v1_ v2_ v3_ : Value, e = .returned (.tuple #[.agg #[v0_, v1_, v2_], v3_]) ∧ Kd.R (Kd.int .i64) 3 w' w.heap.size (fun _ => True) v0_ r1 ∧ Kd.R k52 52 w' w.heap.size (fun _ => True) v1_ r2 ∧ Kd.R k50 50 w' w.heap.size (fun _ => True) v2_ r3 ∧ Kd.R Kd.bool 4 w' w.heap.size (fun _ => True) v3_ r4 ∧ Below w.heap.size w w' := by
 have hu27 := Try.underlying27
 have hu43 := Try.underlying43
 have HR0 := Aside0.mk hr0
 have HC0 := Aside0.mk hc0
 clear hr0 hc0
 have HB := Aside0.mk (Below.refl w.heap.size w)
 have H : ((spec_l6Open.f l0).bind fun bt411 => ((spec_l71Prog.f k bt411.1 bt411.2).bind fun bt414 => ((spec_l71Nums.f k bt411.1 bt414.2.2 bt414.1 bt414.2.1).bind fun bt422 => ((spec_RunOf.f k bt414.1 bt414.2.1 bt422.1).bind fun bt426 => (spec_DrawRunSets.l0 k (([] : List Bool)) 0 bt411.1 bt422.2 bt414.1 bt414.2.1 bt426.1 bt426.2.1 bt426.2.2.1))))) = some (r1, r2, r3, r4) := h
 clear h
 replace H := Option.bind_eq_some_iff.mp H
 obtain ⟨⟨t411, t412⟩, A20, H⟩ := H
 replace H : ((spec_l71Prog.f k t411 t412).bind fun bt414 => ((spec_l71Nums.f k t411 bt414.2.2 bt414.1 bt414.2.1).bind fun bt422 => ((spec_RunOf.f k bt414.1 bt414.2.1 bt422.1).bind fun bt426 => (spec_DrawRunSets.l0 k (([] : List Bool)) 0 t411 bt422.2 bt414.1 bt414.2.1 bt426.1 bt426.2.1 bt426.2.2.1)))) = some (r1, r2, r3, r4) := H
 have A2 := Aside0.mk A20
 clear A20
 replace H := Option.bind_eq_some_iff.mp H
 obtain ⟨⟨t414, t417, t420⟩, A30, H⟩ := H
 replace H : ((spec_l71Nums.f k t411 t420 t414 t417).bind fun bt422 => ((spec_RunOf.f k t414 t417 bt422.1).bind fun bt426 => (spec_DrawRunSets.l0 k (([] : List Bool)) 0 t411 bt422.2 t414 t417 bt426.1 bt426.2.1 bt426.2.2.1))) = some (r1, r2, r3, r4) := H
 have A3 := Aside0.mk A30
 clear A30
 replace H := Option.bind_eq_some_iff.mp H
 obtain ⟨⟨t422, t425⟩, A40, H⟩ := H
 replace H : ((spec_RunOf.f k t414 t417 t422).bind fun bt426 => (spec_DrawRunSets.l0 k (([] : List Bool)) 0 t411 t425 t414 t417 bt426.1 bt426.2.1 bt426.2.2.1)) = some (r1, r2, r3, r4) := H
 have A4 := Aside0.mk A40
 clear A40
 replace H := Option.bind_eq_some_iff.mp H
 obtain ⟨⟨t426, t429, t432, t435⟩, A50, H⟩ := H
 replace H : (spec_DrawRunSets.l0 k (([] : List Bool)) 0 t411 t425 t414 t417 t426 t429 t432) = some (r1, r2, r3, r4) := H
 have A5 := Aside0.mk A50
 clear A50
 obtain ⟨y437, hy437⟩ : ∃ y_ : List Bool, y_ = (([] : List Bool)) := ⟨_, rfl⟩
 replace H : (spec_DrawRunSets.l0 k y437 0 t411 t425 t414 t417 t426 t429 t432) = some (r1, r2, r3, r4) := by first | (rw [hy437]; with_reducible exact H) | (have H2_ := (Option.bind_some _ _).symm.trans H; rw [hy437]; with_reducible exact H2_) | (have H2_ := (Option.bind_some _ _).symm.trans H; with_reducible exact H2_) | with_reducible exact H | (rw [hy437]; exact H) | exact H
 have Ny437 := Aside0.mk hy437
 clear hy437
 have H' := Aside0.mk H
 clear H
 go_enter Try.func9, Try.ntmps9
 try go_wp2_with (first | ((with_reducible refine gate_dst (N := 2) rfl ?_); refine ZX (N := 2) (cs := #[.slice none 0 0, .slice none 0 0, .slice none 0 0]) (t := 27) ?_; intro gb410 hg w6 hbox hb; have BK410 := Aside0.mk (hbox); have GW410 : Aside0 (w.heap.size ≤ gb410) := ZS hg; have GE410 : Aside0 (w.heap.size ≤ gb410) := ZS hg; replace HB := ZT HB hb; clear hb hbox hg) | ((with_reducible refine gate_callee (f := 13) rfl ?_); refine goesL_ (some 11) rfl rfl Try.func13 (by kernel_rfl) rfl #[.slice A0 l0.length c0] rfl ZG ?_; (with_reducible refine (spec_l6Open.calls _ _ l0 t411 t412 w _ ?side1 ?side2 ?side3 A2.out).mono ?_); (case side1 => repeat (first | (with_reducible first | exact HB.out | apply below_alloc | apply pw_below_drewN | apply below_drew1 | refine below_set ?_ GE410.out) | exact HB.out)); (case side2 => exact HR0.out); (case side3 => exact HC0.out); rintro e w7 ⟨g413, rfl, hi, hb, hb2⟩; refine ⟨_, rfl, ?_⟩; have HI413 := Aside0.mk (hi); have NB413_410 := Aside0.mk (IsS55.ne_blk hi (blk_below (g := gb410) (o := .cells #[.slice none 0 0, .slice none 0 0, .slice none 0 0] 27 (0, 0)) (ZK BK410.out) hb2) (by decide)); have NB410_413 := Aside0.mk (Ne.symm (IsS55.ne_blk hi (blk_below (g := gb410) (o := .cells #[.slice none 0 0, .slice none 0 0, .slice none 0 0] 27 (0, 0)) (ZK BK410.out) hb2) (by decide))); replace BK410 := Aside0.mk (blk_below (g := gb410) (o := .cells #[.slice none 0 0, .slice none 0 0, .slice none 0 0] 27 (0, 0)) (ZK BK410.out) hb2); replace HB := Aside0.mk (hb); (try clear hb); (try clear hb2); (try clear hk); (try clear hi)) | ((with_reducible refine gate_callee (f := 14) rfl ?_); refine goesL_ (some 13) rfl rfl Try.func14 (by kernel_rfl) rfl #[.pointer (some ⟨g413, 0, none⟩)] rfl ZG ?_; (with_reducible refine (spec_l71Prog.calls k g413 t411 t412 t414 t417 t420 w _ ?side1 ?side2 A3.out).mono ?_); (case side1 => repeat (first | (with_reducible first | exact HI413.out | apply IsS55.alloc | apply IsS55.drewN | apply IsS55.drew | apply IsS55.set_1 | refine IsS55.far ?_ NB413_410.out _) | exact HI413.out)); (case side2 => repeat (first | (with_reducible first | exact HB.out | apply below_alloc | apply pw_below_drewN | apply below_drew1 | refine below_set ?_ (IsS55.ge HI413.out) | refine below_set ?_ GE410.out) | exact HB.out)); rintro e w8 ⟨v415, v418, rfl, ho0, ho1, hi, hb, hk⟩; refine ⟨_, rfl, ?_⟩; have HO416 := Aside0.mk (Kd.R_lower ho0 (below_size (by repeat (first | (with_reducible first | exact HB.out | apply below_alloc | apply pw_below_drewN | apply below_drew1 | refine below_set ?_ (IsS55.ge HI413.out) | refine below_set ?_ GE410.out) | exact HB.out)))); have HO419 := Aside0.mk (Kd.R_lower ho1 (below_size (by repeat (first | (with_reducible first | exact HB.out | apply below_alloc | apply pw_below_drewN | apply below_drew1 | refine below_set ?_ (IsS55.ge HI413.out) | refine below_set ?_ GE410.out) | exact HB.out)))); replace BK410 := ZL hk BK410 NB410_413; replace HB := Aside0.mk (hb); replace HI413 := Aside0.mk (hi); (try clear hb); (try clear hb2); (try clear hk); (try clear hi); (try clear ho0); (try clear ho1)) | ((with_reducible refine gate_dst (N := 5) rfl ?_); refine ZX (N := 5) (cs := #[.slice none 0 0, .slice none 0 0]) (t := 43) ?_; intro gb421 hg w9 hbox hb; have BK421 := Aside0.mk (hbox); have GW421 := Aside0.mk ((by rw [hg]; exact (below_size (by repeat (first | (with_reducible first | exact HB.out | apply below_alloc | apply pw_below_drewN | apply below_drew1 | refine below_set ?_ (IsS55.ge HI413.out) | refine below_set ?_ GE410.out) | exact HB.out))) : w.heap.size ≤ gb421)); have GE421 := Aside0.mk ((by rw [hg]; exact (below_size (by repeat (first | (with_reducible first | exact HB.out | apply below_alloc | apply pw_below_drewN | apply below_drew1 | refine below_set ?_ (IsS55.ge HI413.out) | refine below_set ?_ GE410.out) | exact HB.out))) : w.heap.size ≤ gb421)); have NB410_421 : Aside0 (gb410 ≠ gb421) := ZN hg BK410; have NB421_410 : Aside0 (gb421 ≠ gb410) := ZM hg BK410; have NB413_421 := Aside0.mk ((by rw [hg]; exact Nat.ne_of_lt (IsS55.lt (show IsS55 w _ g413 t411 t420 from by repeat (first | (with_reducible first | exact HI413.out | apply IsS55.alloc | apply IsS55.drewN | apply IsS55.drew | apply IsS55.set_1 | refine IsS55.far ?_ NB413_410.out _) | exact HI413.out))) : g413 ≠ gb421)); have NB421_413 := Aside0.mk ((by rw [hg]; exact Nat.ne_of_gt (IsS55.lt (show IsS55 w _ g413 t411 t420 from by repeat (first | (with_reducible first | exact HI413.out | apply IsS55.alloc | apply IsS55.drewN | apply IsS55.drew | apply IsS55.set_1 | refine IsS55.far ?_ NB413_410.out _) | exact HI413.out))) : gb421 ≠ g413)); replace HO416 := Aside0.mk (Kd.R_below (ZR HO416.out) hb); replace HO419 := Aside0.mk (Kd.R_below (ZR HO419.out) hb); replace BK410 := ZW BK410 hb; replace HB := Aside0.mk (below_step (by repeat (first | (with_reducible first | exact HB.out | apply below_alloc | apply pw_below_drewN | apply below_drew1 | refine below_set ?_ (IsS55.ge HI413.out) | refine below_set ?_ GE410.out) | exact HB.out)) hb); replace HI413 := Aside0.mk (IsS55.below (by repeat (first | (with_reducible first | exact HI413.out | apply IsS55.alloc | apply IsS55.drewN | apply IsS55.drew | apply IsS55.set_1 | refine IsS55.far ?_ NB413_410.out _) | exact HI413.out)) hb); clear hb hbox hg; obtain ⟨Ao10, co10, eo10⟩ := Kd.R_slice HO416.out; subst eo10; have hnb11 := NB421_410.out; have hnc11 := NB410_421.out; have hnb12 := NB421_413.out; have hnc12 := NB413_421.out; obtain ⟨hcz13_0, hcz13_1⟩ := ZC2 w9 BK421; obtain ⟨hfz13_0, hfz13_1⟩ := ZF2 BK421; obtain ⟨Ao14, co14, eo14⟩ := Kd.R_slice HO419.out; subst eo14))
 have n0_ : Aside0 (Kd.R k57 57 ((w9.setCell ⟨gb421, 0, none⟩ (.slice Ao10 t414.length co10)).setCell ⟨gb421, 1, none⟩ (.slice Ao14 t417.length co14)) w.heap.size (fun _ => True) (.slice Ao10 t414.length co10) t414) := ⟨ZR (Kd.R_mono (Kd.R_far (p := ⟨gb421, 1, none⟩) (Kd.R_far (p := ⟨gb421, 0, none⟩) (Kd.R_types HO416.out BK421.out (by decide)) (fun _ hk => hk.2) (.slice Ao10 t414.length co10)) (fun _ hk => hk.2) (.slice Ao14 t417.length co14)) (fun _ hk => trivial))⟩
 have n1_ : Aside0 (Kd.R k66 66 ((w9.setCell ⟨gb421, 0, none⟩ (.slice Ao10 t414.length co10)).setCell ⟨gb421, 1, none⟩ (.slice Ao14 t417.length co14)) w.heap.size (fun _ => True) (.slice Ao14 t417.length co14) t417) := ⟨ZR (Kd.R_mono (Kd.R_far (p := ⟨gb421, 1, none⟩) (Kd.R_far (p := ⟨gb421, 0, none⟩) (Kd.R_types HO419.out BK421.out (by decide)) (fun _ hk => hk.2) (.slice Ao10 t414.length co10)) (fun _ hk => hk.2) (.slice Ao14 t417.length co14)) (fun _ hk => trivial))⟩
 have n2_ : Aside0 (((w9.setCell ⟨gb421, 0, none⟩ (.slice Ao10 t414.length co10)).setCell ⟨gb421, 1, none⟩ (.slice Ao14 t417.length co14)).heap[gb410]? = some (.cells #[.slice none 0 0, .slice none 0 0, .slice none 0 0] 27 (0, 0))) := ⟨ZZ BK410.out⟩
 have n3_ : Aside0 (((w9.setCell ⟨gb421, 0, none⟩ (.slice Ao10 t414.length co10)).setCell ⟨gb421, 1, none⟩ (.slice Ao14 t417.length co14)).heap[gb421]? = some (.cells #[.slice Ao10 t414.length co10, .slice Ao14 t417.length co14] 43 (0, 0))) := ⟨ZZ BK421.out⟩
 have n4_ : Aside0 (IsS55 w ((w9.setCell ⟨gb421, 0, none⟩ (.slice Ao10 t414.length co10)).setCell ⟨gb421, 1, none⟩ (.slice Ao14 t417.length co14)) g413 t411 t420) := ⟨by repeat (first | (with_reducible first | exact HI413.out | apply IsS55.alloc | apply IsS55.drewN | apply IsS55.drew | apply IsS55.set_1 | refine IsS55.far ?_ NB413_410.out _ | refine IsS55.far ?_ NB413_421.out _) | exact HI413.out)⟩
 have n5_ : Aside0 (Below w.heap.size w ((w9.setCell ⟨gb421, 0, none⟩ (.slice Ao10 t414.length co10)).setCell ⟨gb421, 1, none⟩ (.slice Ao14 t417.length co14))) := ⟨by repeat (first | (with_reducible first | exact HB.out | apply below_alloc | apply pw_below_drewN | apply below_drew1 | refine below_set ?_ (IsS55.ge HI413.out) | refine below_set ?_ GE410.out | refine below_set ?_ GE421.out) | exact HB.out)⟩
 (try clear HO416)
 (try clear HO419)
 (try clear BK410)
 (try clear BK421)
 (try clear HI413)
 (try clear HB)
 generalize ((w9.setCell ⟨gb421, 0, none⟩ (.slice Ao10 t414.length co10)).setCell ⟨gb421, 1, none⟩ (.slice Ao14 t417.length co14)) = w15 at n0_ n1_ n2_ n3_ n4_ n5_ ⊢
 have HO416 := n0_
 have HO419 := n1_
 have BK410 := n2_
 have BK421 := n3_
 have HI413 := n4_
 have HB := n5_
 clear n0_ n1_ n2_ n3_ n4_ n5_
 have n0_ := Aside0.mk (Kd.R_drew HO416.out)
 have n1_ := Aside0.mk (Kd.R_drew HO419.out)
 have n2_ := Aside0.mk (blk_drew BK410.out)
 have n3_ := Aside0.mk (blk_drew BK421.out)
 have n4_ := Aside0.mk (IsS55.drew HI413.out)
 have n5_ := Aside0.mk (below_drew1 HB.out)
 clear HO416
 clear HO419
 clear BK410
 clear BK421
 clear HI413
 clear HB
 have HO416 := n0_
 have HO419 := n1_
 have BK410 := n2_
 have BK421 := n3_
 have HI413 := n4_
 have HB := n5_
 clear n0_ n1_ n2_ n3_ n4_ n5_
 refine start_ (n := 11) (S := fun w' => w'.cell? ⟨gb421, 0, none⟩ = some (.slice Ao10 t414.length co10) ∧ w'.cell? ⟨gb421, 1, none⟩ = some (.slice Ao14 t417.length co14)) (ds := []) #[false, false, false, false, false, false, false, false, false, false, false] (by kernel_rfl) rfl rfl ⟨(blk_cell BK421.out 0).trans rfl, (blk_cell BK421.out 1).trans rfl⟩ (fun hHeld => ?_); refine with_tabW spec_DrawRunSets.tab3 spec_DrawRunSets.bits3 (fun HT_ HW_ => ?_)
 generalize w15.drew = w16 at HO416 HO419 BK410 BK421 HI413 HB hHeld ⊢
 refine pure_ (i := 1) (N := some 16) (v := ?_) (a' := ?_) #[false, true, false, false, false, false, false, false, false, false, false] rfl rfl (any_of HT_.out (by kernel_rfl)) (fun _ _ _ h => h) (Or.inl ⟨by rfl, ?_⟩) ?_ ?_
 rotate_left
 ·intro w'
  go_simp
  with_reducible rfl
 rotate_left
 ·simp only [Act.put, List.setIfInBounds_toArray, List.set_cons_zero, List.set_cons_succ, i64_w, i32_w]
  rfl
 refine take_ (i := 0) (N := some 15) (v := ?_) (a' := ?_) #[true, true, false, false, false, false, false, false, false, false, false] rfl rfl (take_ofW HT_.out HW_.out (by kernel_rfl)) (fun _ _ _ h => h) (Or.inl ⟨by rfl, ?_⟩) hHeld ?_ ?_
 rotate_left
 ·rintro w' ⟨s0, s1⟩
  go_simp
  with_reducible rfl
 rotate_left
 ·simp only [Act.put, List.setIfInBounds_toArray, List.set_cons_zero, List.set_cons_succ, i64_w, i32_w]
  rfl
 refine take_ (i := 2) (N := some 17) (v := ?_) (a' := ?_) #[true, true, true, false, false, false, false, false, false, false, false] rfl rfl (take_ofW HT_.out HW_.out (by kernel_rfl)) (fun _ _ _ h => h) (Or.inl ⟨by rfl, ?_⟩) hHeld ?_ ?_
 rotate_left
 ·rintro w' ⟨s0, s1⟩
  go_simp
  with_reducible rfl
 rotate_left
 ·simp only [Act.put, List.setIfInBounds_toArray, List.set_cons_zero, List.set_cons_succ, i64_w, i32_w]
  rfl
 refine join_ (σ := Value × Value × Value × Value × Nat) 2 #[true, true, true, true, true, true, true, true, true, false, false] (fun s_ => [(18, s_.1), (19, .tuple #[.agg #[s_.2.1, s_.2.2.1, s_.2.2.2.1], .bool t435]), (6, .pointer (some ⟨s_.2.2.2.2, 0, none⟩)), (14, .tuple #[.agg #[s_.2.1, s_.2.2.1, s_.2.2.2.1], .bool t435]), (20, .agg #[s_.2.1, s_.2.2.1, s_.2.2.2.1]), (21, .bool t435)]) (fun s_ w' => (w'.cell? ⟨gb421, 0, none⟩ = some (.slice Ao10 t414.length co10) ∧ w'.cell? ⟨gb421, 1, none⟩ = some (.slice Ao14 t417.length co14)) ∧ (Kd.R k57 57 w' w.heap.size (fun _ => True) (.slice Ao10 t414.length co10) t414) ∧ (Kd.R k66 66 w' w.heap.size (fun _ => True) (.slice Ao14 t417.length co14) t417) ∧ (Kd.R (Kd.int .i64) 3 w' w.heap.size (fun k_ => some k_ ≠ (s_.2.1 : Value).ownBlock) s_.1 t422) ∧ (Kd.R (Kd.int .i64) 3 w' w.heap.size (fun k_ => some k_ ≠ (s_.1 : Value).ownBlock) s_.2.1 t426) ∧ (Kd.R k52 52 w' w.heap.size (fun _ => True) s_.2.2.1 t429) ∧ (Kd.R k50 50 w' w.heap.size (fun _ => True) s_.2.2.2.1 t432) ∧ (w'.heap[gb410]? = some (.cells #[.slice none 0 0, .slice none 0 0, .slice none 0 0] 27 (0, 0))) ∧ (w'.heap[gb421]? = some (.cells #[.slice Ao10 t414.length co10, .slice Ao14 t417.length co14] 43 (0, 0))) ∧ (w'.heap[s_.2.2.2.2]? = some (.cells #[.slice none 0 0, .slice none 0 0, .slice none 0 0] 27 (0, 0))) ∧ (w.heap.size ≤ s_.2.2.2.2) ∧ (w.heap.size ≤ s_.2.2.2.2) ∧ (g413 ≠ s_.2.2.2.2) ∧ (s_.2.2.2.2 ≠ g413) ∧ (gb410 ≠ s_.2.2.2.2) ∧ (s_.2.2.2.2 ≠ gb410) ∧ (gb421 ≠ s_.2.2.2.2) ∧ (s_.2.2.2.2 ≠ gb421) ∧ (IsS55 w w' g413 t411 t425) ∧ (Below w.heap.size w w')) ?_ ?_
 rotate_left
 ·intro hCont
  refine two_ (i := 3) (j := 8) (Ni := some 18) (Nj := some 6) #[true, true, true, true, false, false, false, false, false, false, false] #[true, true, true, false, false, false, false, false, true, false, false] rfl rfl rfl rfl (two_of HT_.out (by kernel_rfl)) (by decide) (by decide) (fun K hK => ?_) (fun K hK => ?_)
  ·skip
   refine goes_ Try.func16 (by kernel_rfl) rfl #[.pointer (some ⟨g413, 0, none⟩), .agg #[.slice Ao10 t414.length co10, .slice Ao14 t417.length co14]] (by rfl) rfl rfl ZG ?_
   with_reducible refine (spec_l71Nums.calls k g413 t411 t420 _ _ t414 _ _ t417 t422 t425 w _ ?side1 ?side2 ?side3 ?side4 ?side5 ?side6 A4.out).mono ?_
   (case side1 => repeat (first | (with_reducible first | exact HI413.out | apply IsS55.alloc | apply IsS55.drewN | apply IsS55.drew | apply IsS55.set_1 | refine IsS55.far ?_ NB413_410.out _ | refine IsS55.far ?_ NB413_421.out _) | exact HI413.out))
   (case side2 => repeat (first | (with_reducible first | exact HB.out | apply below_alloc | apply pw_below_drewN | apply below_drew1 | refine below_set ?_ (IsS55.ge HI413.out) | refine below_set ?_ GE410.out | refine below_set ?_ GE421.out) | exact HB.out))
   (case side3 => exact Kd.C_foot_own (IsS55.apart (show IsS55 w _ g413 t411 t420 from by repeat (first | (with_reducible first | exact HI413.out | apply IsS55.alloc | apply IsS55.drewN | apply IsS55.drew | apply IsS55.set_1 | refine IsS55.far ?_ NB413_410.out _ | refine IsS55.far ?_ NB413_421.out _) | exact HI413.out)) (ZR HO416.out) (by decide)) (fun _ h_ => h_.2))
   (case side4 => exact (Kd.R_reads' HO416.out).2.1)
   (case side5 => exact Kd.C_foot_own (IsS55.apart (show IsS55 w _ g413 t411 t420 from by repeat (first | (with_reducible first | exact HI413.out | apply IsS55.alloc | apply IsS55.drewN | apply IsS55.drew | apply IsS55.set_1 | refine IsS55.far ?_ NB413_410.out _ | refine IsS55.far ?_ NB413_421.out _) | exact HI413.out)) (ZR HO419.out) (by decide)) (fun _ h_ => h_.2))
   (case side6 => exact (Kd.R_reads' HO419.out).2.1)
   rintro e w17 ⟨v423, rfl, ho0, hi, hb, hk⟩
   refine ⟨_, rfl, ?_⟩
   have n0_ := ZL hk BK410 NB410_413
   have n1_ := Aside0.mk (Kd.R_mono (Kd.R_keep (IsS55.apart (show IsS55 w _ g413 t411 t420 from by repeat (first | (with_reducible first | exact HI413.out | apply IsS55.alloc | apply IsS55.drewN | apply IsS55.drew | apply IsS55.set_1 | refine IsS55.far ?_ NB413_410.out _ | refine IsS55.far ?_ NB413_421.out _) | exact HI413.out)) (ZR HO416.out) (by decide)) hk (fun _ h => h.2)) (fun _ h => h.1))
   have n2_ := Aside0.mk (Kd.R_mono (Kd.R_keep (IsS55.apart (show IsS55 w _ g413 t411 t420 from by repeat (first | (with_reducible first | exact HI413.out | apply IsS55.alloc | apply IsS55.drewN | apply IsS55.drew | apply IsS55.set_1 | refine IsS55.far ?_ NB413_410.out _ | refine IsS55.far ?_ NB413_421.out _) | exact HI413.out)) (ZR HO419.out) (by decide)) hk (fun _ h => h.2)) (fun _ h => h.1))
   have n3_ := ZL hk BK421 NB421_413
   have n4_ := Aside0.mk (Kd.R_lower ho0 (below_size (by repeat (first | (with_reducible first | exact HB.out | apply below_alloc | apply pw_below_drewN | apply below_drew1 | refine below_set ?_ (IsS55.ge HI413.out) | refine below_set ?_ GE410.out | refine below_set ?_ GE421.out) | exact HB.out))))
   have n5_ := Aside0.mk (hb)
   have n6_ := Aside0.mk (hi)
   clear BK410
   clear HO416
   clear HO419
   clear BK421
   clear HB
   clear HI413
   have BK410 := n0_
   have HO416 := n1_
   have HO419 := n2_
   have BK421 := n3_
   have HO424 := n4_
   have HB := n5_
   have HI413 := n6_
   clear n0_ n1_ n2_ n3_ n4_ n5_ n6_
   (try clear hb)
   (try clear hb2)
   (try clear hk)
   (try clear hi)
   (try clear ho0)
   obtain ⟨Ao18, co18, eo18⟩ := Kd.R_slice HO424.out
   (first | subst eo18 | (injection eo18 with f1_ f2_ f3_; have f4_ := f1_.symm; have f5_ := f3_.symm; clear f1_ f2_ f3_; subst f4_; subst f5_))
   refine hK.out _ _ ⟨(blk_cell BK421.out 0).trans rfl, (blk_cell BK421.out 1).trans rfl⟩ (fun hHeld => ?_)
   clear hK K
   refine ZNO 18 ?_
   refine two_ (i := 4) (j := 8) (Ni := some 19) (Nj := some 6) #[true, true, true, true, true, false, false, false, false, false, false] #[true, true, true, true, false, false, false, false, true, false, false] rfl rfl rfl rfl (two_of HT_.out (by kernel_rfl)) (by decide) (by decide) (fun K hK => ?_) (fun K hK => ?_)
   ·skip
    refine goes_ Try.func15 (by kernel_rfl) rfl #[.agg #[.slice Ao10 t414.length co10, .slice Ao14 t417.length co14], .slice Ao18 t422.length co18] (by rfl) rfl rfl ZG ?_
    with_reducible refine (spec_RunOf.calls k _ _ t414 _ _ t417 _ _ t422 t426 t429 t432 t435 _ ?side1 ?side2 ?side3 ?side4 ?side5 ?side6 A5.out).mono ?_
    (case side1 => exact ZQ ((Kd.R_reads' HO416.out).2.2))
    (case side2 => exact (Kd.R_reads' HO416.out).2.1)
    (case side3 => exact ZQ ((Kd.R_reads' HO419.out).2.2))
    (case side4 => exact (Kd.R_reads' HO419.out).2.1)
    (case side5 => exact ZQ ((Kd.R_reads' HO424.out).2.2))
    (case side6 => exact (Kd.R_reads' HO424.out).2.1)
    rintro e w19 ⟨v427, v430, v433, rfl, ho0, ho1, ho2, hb⟩
    refine ⟨_, rfl, ?_⟩
    have n0_ := Aside0.mk (Kd.R_below (ZR HO416.out) hb)
    have n1_ := Aside0.mk (Kd.R_below (ZR HO419.out) hb)
    have n2_ := Aside0.mk (Kd.R_elder' (ZR HO424.out) (Kd.R_base ho0) hb)
    have n3_ := Aside0.mk (Kd.R_lower (Kd.R_new' ho0 (Kd.R_lt (ZR HO424.out))) (below_size (by repeat (first | (with_reducible first | exact HB.out | apply below_alloc | apply pw_below_drewN | apply below_drew1 | refine below_set ?_ (IsS55.ge HI413.out) | refine below_set ?_ GE410.out | refine below_set ?_ GE421.out) | exact HB.out))))
    have n4_ := Aside0.mk (Kd.R_lower ho1 (below_size (by repeat (first | (with_reducible first | exact HB.out | apply below_alloc | apply pw_below_drewN | apply below_drew1 | refine below_set ?_ (IsS55.ge HI413.out) | refine below_set ?_ GE410.out | refine below_set ?_ GE421.out) | exact HB.out))))
    have n5_ := Aside0.mk (Kd.R_lower ho2 (below_size (by repeat (first | (with_reducible first | exact HB.out | apply below_alloc | apply pw_below_drewN | apply below_drew1 | refine below_set ?_ (IsS55.ge HI413.out) | refine below_set ?_ GE410.out | refine below_set ?_ GE421.out) | exact HB.out))))
    have n6_ := ZW BK410 hb
    have n7_ := Aside0.mk (IsS55.below (by repeat (first | (with_reducible first | exact HI413.out | apply IsS55.alloc | apply IsS55.drewN | apply IsS55.drew | apply IsS55.set_1 | refine IsS55.far ?_ NB413_410.out _ | refine IsS55.far ?_ NB413_421.out _) | exact HI413.out)) hb)
    have n8_ := ZW BK421 hb
    have n9_ := Aside0.mk (below_step (by repeat (first | (with_reducible first | exact HB.out | apply below_alloc | apply pw_below_drewN | apply below_drew1 | refine below_set ?_ (IsS55.ge HI413.out) | refine below_set ?_ GE410.out | refine below_set ?_ GE421.out) | exact HB.out)) hb)
    clear HO416
    clear HO419
    clear HO424
    clear BK410
    clear HI413
    clear BK421
    clear HB
    have HO416 := n0_
    have HO419 := n1_
    have HO424 := n2_
    have HO428 := n3_
    have HO431 := n4_
    have HO434 := n5_
    have BK410 := n6_
    have HI413 := n7_
    have BK421 := n8_
    have HB := n9_
    clear n0_ n1_ n2_ n3_ n4_ n5_ n6_ n7_ n8_ n9_
    (try clear hb)
    (try clear hb2)
    (try clear hk)
    (try clear hi)
    (try clear ho0)
    (try clear ho1)
    (try clear ho2)
    refine hK.out _ _ ⟨(blk_cell BK421.out 0).trans rfl, (blk_cell BK421.out 1).trans rfl⟩ (fun hHeld => ?_)
    clear hK K
    refine ZNO 19 ?_
    refine pure_ (i := 5) (N := some 14) (v := ?_) (a' := ?_) #[true, true, true, true, true, true, false, false, false, false, false] rfl rfl (any_of HT_.out (by kernel_rfl)) (fun _ _ _ h => h) (Or.inl ⟨by rfl, ?_⟩) ?_ ?_
    rotate_left
    ·intro w'
     go_simp
     with_reducible rfl
    rotate_left
    ·simp only [Act.put, List.setIfInBounds_toArray, List.set_cons_zero, List.set_cons_succ, i64_w, i32_w]
     rfl
    refine pure_ (i := 6) (N := some 20) (v := ?_) (a' := ?_) #[true, true, true, true, true, true, true, false, false, false, false] rfl rfl (any_of HT_.out (by kernel_rfl)) (fun _ _ _ h => h) (Or.inl ⟨by rfl, ?_⟩) ?_ ?_
    rotate_left
    ·intro w'
     go_simp
     with_reducible rfl
    rotate_left
    ·simp only [Act.put, List.setIfInBounds_toArray, List.set_cons_zero, List.set_cons_succ, i64_w, i32_w]
     rfl
    refine pure_ (i := 7) (N := some 21) (v := ?_) (a' := ?_) #[true, true, true, true, true, true, true, true, false, false, false] rfl rfl (any_of HT_.out (by kernel_rfl)) (fun _ _ _ h => h) (Or.inl ⟨by rfl, ?_⟩) ?_ ?_
    rotate_left
    ·intro w'
     go_simp
     with_reducible rfl
    rotate_left
    ·simp only [Act.put, List.setIfInBounds_toArray, List.set_cons_zero, List.set_cons_succ, i64_w, i32_w]
     rfl
    refine one_ (i := 8) (N := some 6) #[true, true, true, true, true, true, true, true, true, false, false] rfl rfl (one_of HT_.out (by kernel_rfl)) (by decide) (fun K hK => ?_)
    refine box_step ?hg (N := 6) ?hd (cs := #[.slice none 0 0, .slice none 0 0, .slice none 0 0]) (t := 27) ?hr ?_; (case hd => rfl); (case hg => rfl); (case hr => first | (go_simp; done) | (go_simp; rfl))
    intro gb436 hg w20 hbox hb
    have n0_ := Aside0.mk (Kd.R_below (ZR HO416.out) hb)
    have n1_ := Aside0.mk (Kd.R_below (ZR HO419.out) hb)
    have n2_ := Aside0.mk (Kd.R_below (ZR HO424.out) hb)
    have n3_ := Aside0.mk (Kd.R_below (ZR HO428.out) hb)
    have n4_ := Aside0.mk (Kd.R_below (ZR HO431.out) hb)
    have n5_ := Aside0.mk (Kd.R_below (ZR HO434.out) hb)
    have n6_ := ZW BK410 hb
    have n7_ := Aside0.mk (IsS55.below (by repeat (first | (with_reducible first | exact HI413.out | apply IsS55.alloc | apply IsS55.drewN | apply IsS55.drew | apply IsS55.set_1 | refine IsS55.far ?_ NB413_410.out _ | refine IsS55.far ?_ NB413_421.out _) | exact HI413.out)) hb)
    have n8_ := ZW BK421 hb
    have n9_ := Aside0.mk (below_step (by repeat (first | (with_reducible first | exact HB.out | apply below_alloc | apply pw_below_drewN | apply below_drew1 | refine below_set ?_ (IsS55.ge HI413.out) | refine below_set ?_ GE410.out | refine below_set ?_ GE421.out) | exact HB.out)) hb)
    have n10_ := Aside0.mk (hbox)
    have n11_ := Aside0.mk ((by rw [hg]; exact (below_size (by repeat (first | (with_reducible first | exact HB.out | apply below_alloc | apply pw_below_drewN | apply below_drew1 | refine below_set ?_ (IsS55.ge HI413.out) | refine below_set ?_ GE410.out | refine below_set ?_ GE421.out) | exact HB.out))) : w.heap.size ≤ gb436))
    have n12_ := Aside0.mk ((by rw [hg]; exact (below_size (by repeat (first | (with_reducible first | exact HB.out | apply below_alloc | apply pw_below_drewN | apply below_drew1 | refine below_set ?_ (IsS55.ge HI413.out) | refine below_set ?_ GE410.out | refine below_set ?_ GE421.out) | exact HB.out))) : w.heap.size ≤ gb436))
    have n13_ : Aside0 (gb410 ≠ gb436) := ZN hg BK410
    have n14_ : Aside0 (gb436 ≠ gb410) := ZM hg BK410
    have n15_ : Aside0 (gb421 ≠ gb436) := ZN hg BK421
    have n16_ : Aside0 (gb436 ≠ gb421) := ZM hg BK421
    have n17_ := Aside0.mk ((by rw [hg]; exact Nat.ne_of_lt (IsS55.lt (show IsS55 w _ g413 t411 t425 from by repeat (first | (with_reducible first | exact HI413.out | apply IsS55.alloc | apply IsS55.drewN | apply IsS55.drew | apply IsS55.set_1 | refine IsS55.far ?_ NB413_410.out _ | refine IsS55.far ?_ NB413_421.out _) | exact HI413.out))) : g413 ≠ gb436))
    have n18_ := Aside0.mk ((by rw [hg]; exact Nat.ne_of_gt (IsS55.lt (show IsS55 w _ g413 t411 t425 from by repeat (first | (with_reducible first | exact HI413.out | apply IsS55.alloc | apply IsS55.drewN | apply IsS55.drew | apply IsS55.set_1 | refine IsS55.far ?_ NB413_410.out _ | refine IsS55.far ?_ NB413_421.out _) | exact HI413.out))) : gb436 ≠ g413))
    clear HO416
    clear HO419
    clear HO424
    clear HO428
    clear HO431
    clear HO434
    clear BK410
    clear HI413
    clear BK421
    clear HB
    have HO416 := n0_
    have HO419 := n1_
    have HO424 := n2_
    have HO428 := n3_
    have HO431 := n4_
    have HO434 := n5_
    have BK410 := n6_
    have HI413 := n7_
    have BK421 := n8_
    have HB := n9_
    have BK436 := n10_
    have GW436 := n11_
    have GE436 := n12_
    have NB410_436 := n13_
    have NB436_410 := n14_
    have NB421_436 := n15_
    have NB436_421 := n16_
    have NB413_436 := n17_
    have NB436_413 := n18_
    clear n0_ n1_ n2_ n3_ n4_ n5_ n6_ n7_ n8_ n9_ n10_ n11_ n12_ n13_ n14_ n15_ n16_ n17_ n18_
    clear hb hbox hg
    refine hK.out _ _ ⟨(blk_cell BK421.out 0).trans rfl, (blk_cell BK421.out 1).trans rfl⟩ (fun hHeld => ?_)
    clear hK K
    refine ZNO 6 ?_
    exact norm_ (by simp only [putAll, Act.put, List.setIfInBounds_toArray, List.set_cons_zero, List.set_cons_succ]) (hCont (.slice Ao18 t422.length co18, v427, v430, v433, gb436) _ ⟨hHeld, (ZR HO416.out), (ZR HO419.out), (ZR (Kd.R_mono HO424.out (fun _ hk => hk.2))), (ZR (Kd.R_mono HO428.out (fun _ hk => hk.2))), (ZR HO431.out), (ZR HO434.out), (ZK BK410.out), (ZK BK421.out), (ZK BK436.out), GW436.out, GE436.out, NB413_436.out, NB436_413.out, NB410_436.out, NB436_410.out, NB421_436.out, NB436_421.out, (by repeat (first | (with_reducible first | exact HI413.out | apply IsS55.alloc | apply IsS55.drewN | apply IsS55.drew | apply IsS55.set_1 | refine IsS55.far ?_ NB413_410.out _ | refine IsS55.far ?_ NB413_421.out _ | refine IsS55.far ?_ NB413_436.out _) | exact HI413.out)), (by repeat (first | (with_reducible first | exact HB.out | apply below_alloc | apply pw_below_drewN | apply below_drew1 | refine below_set ?_ (IsS55.ge HI413.out) | refine below_set ?_ GE410.out | refine below_set ?_ GE421.out | refine below_set ?_ GE436.out) | exact HB.out))⟩)
   ·skip
    refine box_step ?hg (N := 6) ?hd (cs := #[.slice none 0 0, .slice none 0 0, .slice none 0 0]) (t := 27) ?hr ?_; (case hd => rfl); (case hg => rfl); (case hr => first | (go_simp; done) | (go_simp; rfl))
    intro gb436 hg w18 hbox hb
    have n0_ := Aside0.mk (Kd.R_below (ZR HO416.out) hb)
    have n1_ := Aside0.mk (Kd.R_below (ZR HO419.out) hb)
    have n2_ := Aside0.mk (Kd.R_below (ZR HO424.out) hb)
    have n3_ := ZW BK410 hb
    have n4_ := Aside0.mk (IsS55.below (by repeat (first | (with_reducible first | exact HI413.out | apply IsS55.alloc | apply IsS55.drewN | apply IsS55.drew | apply IsS55.set_1 | refine IsS55.far ?_ NB413_410.out _ | refine IsS55.far ?_ NB413_421.out _) | exact HI413.out)) hb)
    have n5_ := ZW BK421 hb
    have n6_ := Aside0.mk (below_step (by repeat (first | (with_reducible first | exact HB.out | apply below_alloc | apply pw_below_drewN | apply below_drew1 | refine below_set ?_ (IsS55.ge HI413.out) | refine below_set ?_ GE410.out | refine below_set ?_ GE421.out) | exact HB.out)) hb)
    have n7_ := Aside0.mk (hbox)
    have n8_ := Aside0.mk ((by rw [hg]; exact (below_size (by repeat (first | (with_reducible first | exact HB.out | apply below_alloc | apply pw_below_drewN | apply below_drew1 | refine below_set ?_ (IsS55.ge HI413.out) | refine below_set ?_ GE410.out | refine below_set ?_ GE421.out) | exact HB.out))) : w.heap.size ≤ gb436))
    have n9_ := Aside0.mk ((by rw [hg]; exact (below_size (by repeat (first | (with_reducible first | exact HB.out | apply below_alloc | apply pw_below_drewN | apply below_drew1 | refine below_set ?_ (IsS55.ge HI413.out) | refine below_set ?_ GE410.out | refine below_set ?_ GE421.out) | exact HB.out))) : w.heap.size ≤ gb436))
    have n10_ : Aside0 (gb410 ≠ gb436) := ZN hg BK410
    have n11_ : Aside0 (gb436 ≠ gb410) := ZM hg BK410
    have n12_ : Aside0 (gb421 ≠ gb436) := ZN hg BK421
    have n13_ : Aside0 (gb436 ≠ gb421) := ZM hg BK421
    have n14_ := Aside0.mk ((by rw [hg]; exact Nat.ne_of_lt (IsS55.lt (show IsS55 w _ g413 t411 t425 from by repeat (first | (with_reducible first | exact HI413.out | apply IsS55.alloc | apply IsS55.drewN | apply IsS55.drew | apply IsS55.set_1 | refine IsS55.far ?_ NB413_410.out _ | refine IsS55.far ?_ NB413_421.out _) | exact HI413.out))) : g413 ≠ gb436))
    have n15_ := Aside0.mk ((by rw [hg]; exact Nat.ne_of_gt (IsS55.lt (show IsS55 w _ g413 t411 t425 from by repeat (first | (with_reducible first | exact HI413.out | apply IsS55.alloc | apply IsS55.drewN | apply IsS55.drew | apply IsS55.set_1 | refine IsS55.far ?_ NB413_410.out _ | refine IsS55.far ?_ NB413_421.out _) | exact HI413.out))) : gb436 ≠ g413))
    clear HO416
    clear HO419
    clear HO424
    clear BK410
    clear HI413
    clear BK421
    clear HB
    have HO416 := n0_
    have HO419 := n1_
    have HO424 := n2_
    have BK410 := n3_
    have HI413 := n4_
    have BK421 := n5_
    have HB := n6_
    have BK436 := n7_
    have GW436 := n8_
    have GE436 := n9_
    have NB410_436 := n10_
    have NB436_410 := n11_
    have NB421_436 := n12_
    have NB436_421 := n13_
    have NB413_436 := n14_
    have NB436_413 := n15_
    clear n0_ n1_ n2_ n3_ n4_ n5_ n6_ n7_ n8_ n9_ n10_ n11_ n12_ n13_ n14_ n15_
    clear hb hbox hg
    obtain ⟨Ao19, co19, eo19⟩ := Kd.R_slice HO424.out
    (first | subst eo19 | (injection eo19 with f1_ f2_ f3_; have f4_ := f1_.symm; have f5_ := f3_.symm; clear f1_ f2_ f3_; subst f4_; subst f5_))
    refine hK.out _ _ ⟨(blk_cell BK421.out 0).trans rfl, (blk_cell BK421.out 1).trans rfl⟩ (fun hHeld => ?_)
    clear hK K
    refine ZNO 6 ?_
    refine one_ (i := 4) (N := some 19) #[true, true, true, true, true, false, false, false, true, false, false] rfl rfl (one_of HT_.out (by kernel_rfl)) (by decide) (fun K hK => ?_)
    refine goes_ Try.func15 (by kernel_rfl) rfl #[.agg #[.slice Ao10 t414.length co10, .slice Ao14 t417.length co14], .slice Ao19 t422.length co19] (by rfl) rfl rfl ZG ?_
    with_reducible refine (spec_RunOf.calls k _ _ t414 _ _ t417 _ _ t422 t426 t429 t432 t435 _ ?side1 ?side2 ?side3 ?side4 ?side5 ?side6 A5.out).mono ?_
    (case side1 => exact ZQ ((Kd.R_reads' HO416.out).2.2))
    (case side2 => exact (Kd.R_reads' HO416.out).2.1)
    (case side3 => exact ZQ ((Kd.R_reads' HO419.out).2.2))
    (case side4 => exact (Kd.R_reads' HO419.out).2.1)
    (case side5 => exact ZQ ((Kd.R_reads' HO424.out).2.2))
    (case side6 => exact (Kd.R_reads' HO424.out).2.1)
    rintro e w20 ⟨v427, v430, v433, rfl, ho0, ho1, ho2, hb⟩
    refine ⟨_, rfl, ?_⟩
    have n0_ := Aside0.mk (Kd.R_below (ZR HO416.out) hb)
    have n1_ := Aside0.mk (Kd.R_below (ZR HO419.out) hb)
    have n2_ := Aside0.mk (Kd.R_elder' (ZR HO424.out) (Kd.R_base ho0) hb)
    have n3_ := Aside0.mk (Kd.R_lower (Kd.R_new' ho0 (Kd.R_lt (ZR HO424.out))) (below_size (by repeat (first | (with_reducible first | exact HB.out | apply below_alloc | apply pw_below_drewN | apply below_drew1 | refine below_set ?_ (IsS55.ge HI413.out) | refine below_set ?_ GE410.out | refine below_set ?_ GE421.out | refine below_set ?_ GE436.out) | exact HB.out))))
    have n4_ := Aside0.mk (Kd.R_lower ho1 (below_size (by repeat (first | (with_reducible first | exact HB.out | apply below_alloc | apply pw_below_drewN | apply below_drew1 | refine below_set ?_ (IsS55.ge HI413.out) | refine below_set ?_ GE410.out | refine below_set ?_ GE421.out | refine below_set ?_ GE436.out) | exact HB.out))))
    have n5_ := Aside0.mk (Kd.R_lower ho2 (below_size (by repeat (first | (with_reducible first | exact HB.out | apply below_alloc | apply pw_below_drewN | apply below_drew1 | refine below_set ?_ (IsS55.ge HI413.out) | refine below_set ?_ GE410.out | refine below_set ?_ GE421.out | refine below_set ?_ GE436.out) | exact HB.out))))
    have n6_ := ZW BK410 hb
    have n7_ := Aside0.mk (IsS55.below (by repeat (first | (with_reducible first | exact HI413.out | apply IsS55.alloc | apply IsS55.drewN | apply IsS55.drew | apply IsS55.set_1 | refine IsS55.far ?_ NB413_410.out _ | refine IsS55.far ?_ NB413_421.out _ | refine IsS55.far ?_ NB413_436.out _) | exact HI413.out)) hb)
    have n8_ := ZW BK421 hb
    have n9_ := ZW BK436 hb
    have n10_ := Aside0.mk (below_step (by repeat (first | (with_reducible first | exact HB.out | apply below_alloc | apply pw_below_drewN | apply below_drew1 | refine below_set ?_ (IsS55.ge HI413.out) | refine below_set ?_ GE410.out | refine below_set ?_ GE421.out | refine below_set ?_ GE436.out) | exact HB.out)) hb)
    clear HO416
    clear HO419
    clear HO424
    clear BK410
    clear HI413
    clear BK421
    clear BK436
    clear HB
    have HO416 := n0_
    have HO419 := n1_
    have HO424 := n2_
    have HO428 := n3_
    have HO431 := n4_
    have HO434 := n5_
    have BK410 := n6_
    have HI413 := n7_
    have BK421 := n8_
    have BK436 := n9_
    have HB := n10_
    clear n0_ n1_ n2_ n3_ n4_ n5_ n6_ n7_ n8_ n9_ n10_
    (try clear hb)
    (try clear hb2)
    (try clear hk)
    (try clear hi)
    (try clear ho0)
    (try clear ho1)
    (try clear ho2)
    refine hK.out _ _ ⟨(blk_cell BK421.out 0).trans rfl, (blk_cell BK421.out 1).trans rfl⟩ (fun hHeld => ?_)
    clear hK K
    refine ZNO 19 ?_
    refine pure_ (i := 5) (N := some 14) (v := ?_) (a' := ?_) #[true, true, true, true, true, true, false, false, true, false, false] rfl rfl (any_of HT_.out (by kernel_rfl)) (fun _ _ _ h => h) (Or.inl ⟨by rfl, ?_⟩) ?_ ?_
    rotate_left
    ·intro w'
     go_simp
     with_reducible rfl
    rotate_left
    ·simp only [Act.put, List.setIfInBounds_toArray, List.set_cons_zero, List.set_cons_succ, i64_w, i32_w]
     rfl
    refine pure_ (i := 6) (N := some 20) (v := ?_) (a' := ?_) #[true, true, true, true, true, true, true, false, true, false, false] rfl rfl (any_of HT_.out (by kernel_rfl)) (fun _ _ _ h => h) (Or.inl ⟨by rfl, ?_⟩) ?_ ?_
    rotate_left
    ·intro w'
     go_simp
     with_reducible rfl
    rotate_left
    ·simp only [Act.put, List.setIfInBounds_toArray, List.set_cons_zero, List.set_cons_succ, i64_w, i32_w]
     rfl
    refine pure_ (i := 7) (N := some 21) (v := ?_) (a' := ?_) #[true, true, true, true, true, true, true, true, true, false, false] rfl rfl (any_of HT_.out (by kernel_rfl)) (fun _ _ _ h => h) (Or.inl ⟨by rfl, ?_⟩) ?_ ?_
    rotate_left
    ·intro w'
     go_simp
     with_reducible rfl
    rotate_left
    ·simp only [Act.put, List.setIfInBounds_toArray, List.set_cons_zero, List.set_cons_succ, i64_w, i32_w]
     rfl
    exact norm_ (by simp only [putAll, Act.put, List.setIfInBounds_toArray, List.set_cons_zero, List.set_cons_succ]) (hCont (.slice Ao19 t422.length co19, v427, v430, v433, gb436) _ ⟨hHeld, (ZR HO416.out), (ZR HO419.out), (ZR (Kd.R_mono HO424.out (fun _ hk => hk.2))), (ZR (Kd.R_mono HO428.out (fun _ hk => hk.2))), (ZR HO431.out), (ZR HO434.out), (ZK BK410.out), (ZK BK421.out), (ZK BK436.out), GW436.out, GE436.out, NB413_436.out, NB436_413.out, NB410_436.out, NB436_410.out, NB421_436.out, NB436_421.out, (by repeat (first | (with_reducible first | exact HI413.out | apply IsS55.alloc | apply IsS55.drewN | apply IsS55.drew | apply IsS55.set_1 | refine IsS55.far ?_ NB413_410.out _ | refine IsS55.far ?_ NB413_421.out _ | refine IsS55.far ?_ NB413_436.out _) | exact HI413.out)), (by repeat (first | (with_reducible first | exact HB.out | apply below_alloc | apply pw_below_drewN | apply below_drew1 | refine below_set ?_ (IsS55.ge HI413.out) | refine below_set ?_ GE410.out | refine below_set ?_ GE421.out | refine below_set ?_ GE436.out) | exact HB.out))⟩)
  ·skip
   refine box_step ?hg (N := 6) ?hd (cs := #[.slice none 0 0, .slice none 0 0, .slice none 0 0]) (t := 27) ?hr ?_; (case hd => rfl); (case hg => rfl); (case hr => first | (go_simp; done) | (go_simp; rfl))
   intro gb436 hg w17 hbox hb
   have n0_ := Aside0.mk (Kd.R_below (ZR HO416.out) hb)
   have n1_ := Aside0.mk (Kd.R_below (ZR HO419.out) hb)
   have n2_ := ZW BK410 hb
   have n3_ := Aside0.mk (IsS55.below (by repeat (first | (with_reducible first | exact HI413.out | apply IsS55.alloc | apply IsS55.drewN | apply IsS55.drew | apply IsS55.set_1 | refine IsS55.far ?_ NB413_410.out _ | refine IsS55.far ?_ NB413_421.out _) | exact HI413.out)) hb)
   have n4_ := ZW BK421 hb
   have n5_ := Aside0.mk (below_step (by repeat (first | (with_reducible first | exact HB.out | apply below_alloc | apply pw_below_drewN | apply below_drew1 | refine below_set ?_ (IsS55.ge HI413.out) | refine below_set ?_ GE410.out | refine below_set ?_ GE421.out) | exact HB.out)) hb)
   have n6_ := Aside0.mk (hbox)
   have n7_ := Aside0.mk ((by rw [hg]; exact (below_size (by repeat (first | (with_reducible first | exact HB.out | apply below_alloc | apply pw_below_drewN | apply below_drew1 | refine below_set ?_ (IsS55.ge HI413.out) | refine below_set ?_ GE410.out | refine below_set ?_ GE421.out) | exact HB.out))) : w.heap.size ≤ gb436))
   have n8_ := Aside0.mk ((by rw [hg]; exact (below_size (by repeat (first | (with_reducible first | exact HB.out | apply below_alloc | apply pw_below_drewN | apply below_drew1 | refine below_set ?_ (IsS55.ge HI413.out) | refine below_set ?_ GE410.out | refine below_set ?_ GE421.out) | exact HB.out))) : w.heap.size ≤ gb436))
   have n9_ : Aside0 (gb410 ≠ gb436) := ZN hg BK410
   have n10_ : Aside0 (gb436 ≠ gb410) := ZM hg BK410
   have n11_ : Aside0 (gb421 ≠ gb436) := ZN hg BK421
   have n12_ : Aside0 (gb436 ≠ gb421) := ZM hg BK421
   have n13_ := Aside0.mk ((by rw [hg]; exact Nat.ne_of_lt (IsS55.lt (show IsS55 w _ g413 t411 t420 from by repeat (first | (with_reducible first | exact HI413.out | apply IsS55.alloc | apply IsS55.drewN | apply IsS55.drew | apply IsS55.set_1 | refine IsS55.far ?_ NB413_410.out _ | refine IsS55.far ?_ NB413_421.out _) | exact HI413.out))) : g413 ≠ gb436))
   have n14_ := Aside0.mk ((by rw [hg]; exact Nat.ne_of_gt (IsS55.lt (show IsS55 w _ g413 t411 t420 from by repeat (first | (with_reducible first | exact HI413.out | apply IsS55.alloc | apply IsS55.drewN | apply IsS55.drew | apply IsS55.set_1 | refine IsS55.far ?_ NB413_410.out _ | refine IsS55.far ?_ NB413_421.out _) | exact HI413.out))) : gb436 ≠ g413))
   clear HO416
   clear HO419
   clear BK410
   clear HI413
   clear BK421
   clear HB
   have HO416 := n0_
   have HO419 := n1_
   have BK410 := n2_
   have HI413 := n3_
   have BK421 := n4_
   have HB := n5_
   have BK436 := n6_
   have GW436 := n7_
   have GE436 := n8_
   have NB410_436 := n9_
   have NB436_410 := n10_
   have NB421_436 := n11_
   have NB436_421 := n12_
   have NB413_436 := n13_
   have NB436_413 := n14_
   clear n0_ n1_ n2_ n3_ n4_ n5_ n6_ n7_ n8_ n9_ n10_ n11_ n12_ n13_ n14_
   clear hb hbox hg
   refine hK.out _ _ ⟨(blk_cell BK421.out 0).trans rfl, (blk_cell BK421.out 1).trans rfl⟩ (fun hHeld => ?_)
   clear hK K
   refine ZNO 6 ?_
   refine one_ (i := 3) (N := some 18) #[true, true, true, true, false, false, false, false, true, false, false] rfl rfl (one_of HT_.out (by kernel_rfl)) (by decide) (fun K hK => ?_)
   refine goes_ Try.func16 (by kernel_rfl) rfl #[.pointer (some ⟨g413, 0, none⟩), .agg #[.slice Ao10 t414.length co10, .slice Ao14 t417.length co14]] (by rfl) rfl rfl ZG ?_
   with_reducible refine (spec_l71Nums.calls k g413 t411 t420 _ _ t414 _ _ t417 t422 t425 w _ ?side1 ?side2 ?side3 ?side4 ?side5 ?side6 A4.out).mono ?_
   (case side1 => repeat (first | (with_reducible first | exact HI413.out | apply IsS55.alloc | apply IsS55.drewN | apply IsS55.drew | apply IsS55.set_1 | refine IsS55.far ?_ NB413_410.out _ | refine IsS55.far ?_ NB413_421.out _ | refine IsS55.far ?_ NB413_436.out _) | exact HI413.out))
   (case side2 => repeat (first | (with_reducible first | exact HB.out | apply below_alloc | apply pw_below_drewN | apply below_drew1 | refine below_set ?_ (IsS55.ge HI413.out) | refine below_set ?_ GE410.out | refine below_set ?_ GE421.out | refine below_set ?_ GE436.out) | exact HB.out))
   (case side3 => exact Kd.C_foot_own (IsS55.apart (show IsS55 w _ g413 t411 t420 from by repeat (first | (with_reducible first | exact HI413.out | apply IsS55.alloc | apply IsS55.drewN | apply IsS55.drew | apply IsS55.set_1 | refine IsS55.far ?_ NB413_410.out _ | refine IsS55.far ?_ NB413_421.out _ | refine IsS55.far ?_ NB413_436.out _) | exact HI413.out)) (ZR HO416.out) (by decide)) (fun _ h_ => h_.2))
   (case side4 => exact (Kd.R_reads' HO416.out).2.1)
   (case side5 => exact Kd.C_foot_own (IsS55.apart (show IsS55 w _ g413 t411 t420 from by repeat (first | (with_reducible first | exact HI413.out | apply IsS55.alloc | apply IsS55.drewN | apply IsS55.drew | apply IsS55.set_1 | refine IsS55.far ?_ NB413_410.out _ | refine IsS55.far ?_ NB413_421.out _ | refine IsS55.far ?_ NB413_436.out _) | exact HI413.out)) (ZR HO419.out) (by decide)) (fun _ h_ => h_.2))
   (case side6 => exact (Kd.R_reads' HO419.out).2.1)
   rintro e w18 ⟨v423, rfl, ho0, hi, hb, hk⟩
   refine ⟨_, rfl, ?_⟩
   have n0_ := ZL hk BK410 NB410_413
   have n1_ := Aside0.mk (Kd.R_mono (Kd.R_keep (IsS55.apart (show IsS55 w _ g413 t411 t420 from by repeat (first | (with_reducible first | exact HI413.out | apply IsS55.alloc | apply IsS55.drewN | apply IsS55.drew | apply IsS55.set_1 | refine IsS55.far ?_ NB413_410.out _ | refine IsS55.far ?_ NB413_421.out _ | refine IsS55.far ?_ NB413_436.out _) | exact HI413.out)) (ZR HO416.out) (by decide)) hk (fun _ h => h.2)) (fun _ h => h.1))
   have n2_ := Aside0.mk (Kd.R_mono (Kd.R_keep (IsS55.apart (show IsS55 w _ g413 t411 t420 from by repeat (first | (with_reducible first | exact HI413.out | apply IsS55.alloc | apply IsS55.drewN | apply IsS55.drew | apply IsS55.set_1 | refine IsS55.far ?_ NB413_410.out _ | refine IsS55.far ?_ NB413_421.out _ | refine IsS55.far ?_ NB413_436.out _) | exact HI413.out)) (ZR HO419.out) (by decide)) hk (fun _ h => h.2)) (fun _ h => h.1))
   have n3_ := ZL hk BK421 NB421_413
   have n4_ := ZL hk BK436 NB436_413
   have n5_ := Aside0.mk (Kd.R_lower ho0 (below_size (by repeat (first | (with_reducible first | exact HB.out | apply below_alloc | apply pw_below_drewN | apply below_drew1 | refine below_set ?_ (IsS55.ge HI413.out) | refine below_set ?_ GE410.out | refine below_set ?_ GE421.out | refine below_set ?_ GE436.out) | exact HB.out))))
   have n6_ := Aside0.mk (hb)
   have n7_ := Aside0.mk (hi)
   clear BK410
   clear HO416
   clear HO419
   clear BK421
   clear BK436
   clear HB
   clear HI413
   have BK410 := n0_
   have HO416 := n1_
   have HO419 := n2_
   have BK421 := n3_
   have BK436 := n4_
   have HO424 := n5_
   have HB := n6_
   have HI413 := n7_
   clear n0_ n1_ n2_ n3_ n4_ n5_ n6_ n7_
   (try clear hb)
   (try clear hb2)
   (try clear hk)
   (try clear hi)
   (try clear ho0)
   obtain ⟨Ao19, co19, eo19⟩ := Kd.R_slice HO424.out
   (first | subst eo19 | (injection eo19 with f1_ f2_ f3_; have f4_ := f1_.symm; have f5_ := f3_.symm; clear f1_ f2_ f3_; subst f4_; subst f5_))
   refine hK.out _ _ ⟨(blk_cell BK421.out 0).trans rfl, (blk_cell BK421.out 1).trans rfl⟩ (fun hHeld => ?_)
   clear hK K
   refine ZNO 18 ?_
   refine one_ (i := 4) (N := some 19) #[true, true, true, true, true, false, false, false, true, false, false] rfl rfl (one_of HT_.out (by kernel_rfl)) (by decide) (fun K hK => ?_)
   refine goes_ Try.func15 (by kernel_rfl) rfl #[.agg #[.slice Ao10 t414.length co10, .slice Ao14 t417.length co14], .slice Ao19 t422.length co19] (by rfl) rfl rfl ZG ?_
   with_reducible refine (spec_RunOf.calls k _ _ t414 _ _ t417 _ _ t422 t426 t429 t432 t435 _ ?side1 ?side2 ?side3 ?side4 ?side5 ?side6 A5.out).mono ?_
   (case side1 => exact ZQ ((Kd.R_reads' HO416.out).2.2))
   (case side2 => exact (Kd.R_reads' HO416.out).2.1)
   (case side3 => exact ZQ ((Kd.R_reads' HO419.out).2.2))
   (case side4 => exact (Kd.R_reads' HO419.out).2.1)
   (case side5 => exact ZQ ((Kd.R_reads' HO424.out).2.2))
   (case side6 => exact (Kd.R_reads' HO424.out).2.1)
   rintro e w20 ⟨v427, v430, v433, rfl, ho0, ho1, ho2, hb⟩
   refine ⟨_, rfl, ?_⟩
   have n0_ := Aside0.mk (Kd.R_below (ZR HO416.out) hb)
   have n1_ := Aside0.mk (Kd.R_below (ZR HO419.out) hb)
   have n2_ := Aside0.mk (Kd.R_elder' (ZR HO424.out) (Kd.R_base ho0) hb)
   have n3_ := Aside0.mk (Kd.R_lower (Kd.R_new' ho0 (Kd.R_lt (ZR HO424.out))) (below_size (by repeat (first | (with_reducible first | exact HB.out | apply below_alloc | apply pw_below_drewN | apply below_drew1 | refine below_set ?_ (IsS55.ge HI413.out) | refine below_set ?_ GE410.out | refine below_set ?_ GE421.out | refine below_set ?_ GE436.out) | exact HB.out))))
   have n4_ := Aside0.mk (Kd.R_lower ho1 (below_size (by repeat (first | (with_reducible first | exact HB.out | apply below_alloc | apply pw_below_drewN | apply below_drew1 | refine below_set ?_ (IsS55.ge HI413.out) | refine below_set ?_ GE410.out | refine below_set ?_ GE421.out | refine below_set ?_ GE436.out) | exact HB.out))))
   have n5_ := Aside0.mk (Kd.R_lower ho2 (below_size (by repeat (first | (with_reducible first | exact HB.out | apply below_alloc | apply pw_below_drewN | apply below_drew1 | refine below_set ?_ (IsS55.ge HI413.out) | refine below_set ?_ GE410.out | refine below_set ?_ GE421.out | refine below_set ?_ GE436.out) | exact HB.out))))
   have n6_ := ZW BK410 hb
   have n7_ := Aside0.mk (IsS55.below (by repeat (first | (with_reducible first | exact HI413.out | apply IsS55.alloc | apply IsS55.drewN | apply IsS55.drew | apply IsS55.set_1 | refine IsS55.far ?_ NB413_410.out _ | refine IsS55.far ?_ NB413_421.out _ | refine IsS55.far ?_ NB413_436.out _) | exact HI413.out)) hb)
   have n8_ := ZW BK421 hb
   have n9_ := ZW BK436 hb
   have n10_ := Aside0.mk (below_step (by repeat (first | (with_reducible first | exact HB.out | apply below_alloc | apply pw_below_drewN | apply below_drew1 | refine below_set ?_ (IsS55.ge HI413.out) | refine below_set ?_ GE410.out | refine below_set ?_ GE421.out | refine below_set ?_ GE436.out) | exact HB.out)) hb)
   clear HO416
   clear HO419
   clear HO424
   clear BK410
   clear HI413
   clear BK421
   clear BK436
   clear HB
   have HO416 := n0_
   have HO419 := n1_
   have HO424 := n2_
   have HO428 := n3_
   have HO431 := n4_
   have HO434 := n5_
   have BK410 := n6_
   have HI413 := n7_
   have BK421 := n8_
   have BK436 := n9_
   have HB := n10_
   clear n0_ n1_ n2_ n3_ n4_ n5_ n6_ n7_ n8_ n9_ n10_
   (try clear hb)
   (try clear hb2)
   (try clear hk)
   (try clear hi)
   (try clear ho0)
   (try clear ho1)
   (try clear ho2)
   refine hK.out _ _ ⟨(blk_cell BK421.out 0).trans rfl, (blk_cell BK421.out 1).trans rfl⟩ (fun hHeld => ?_)
   clear hK K
   refine ZNO 19 ?_
   refine pure_ (i := 5) (N := some 14) (v := ?_) (a' := ?_) #[true, true, true, true, true, true, false, false, true, false, false] rfl rfl (any_of HT_.out (by kernel_rfl)) (fun _ _ _ h => h) (Or.inl ⟨by rfl, ?_⟩) ?_ ?_
   rotate_left
   ·intro w'
    go_simp
    with_reducible rfl
   rotate_left
   ·simp only [Act.put, List.setIfInBounds_toArray, List.set_cons_zero, List.set_cons_succ, i64_w, i32_w]
    rfl
   refine pure_ (i := 6) (N := some 20) (v := ?_) (a' := ?_) #[true, true, true, true, true, true, true, false, true, false, false] rfl rfl (any_of HT_.out (by kernel_rfl)) (fun _ _ _ h => h) (Or.inl ⟨by rfl, ?_⟩) ?_ ?_
   rotate_left
   ·intro w'
    go_simp
    with_reducible rfl
   rotate_left
   ·simp only [Act.put, List.setIfInBounds_toArray, List.set_cons_zero, List.set_cons_succ, i64_w, i32_w]
    rfl
   refine pure_ (i := 7) (N := some 21) (v := ?_) (a' := ?_) #[true, true, true, true, true, true, true, true, true, false, false] rfl rfl (any_of HT_.out (by kernel_rfl)) (fun _ _ _ h => h) (Or.inl ⟨by rfl, ?_⟩) ?_ ?_
   rotate_left
   ·intro w'
    go_simp
    with_reducible rfl
   rotate_left
   ·simp only [Act.put, List.setIfInBounds_toArray, List.set_cons_zero, List.set_cons_succ, i64_w, i32_w]
    rfl
   exact norm_ (by simp only [putAll, Act.put, List.setIfInBounds_toArray, List.set_cons_zero, List.set_cons_succ]) (hCont (.slice Ao19 t422.length co19, v427, v430, v433, gb436) _ ⟨hHeld, (ZR HO416.out), (ZR HO419.out), (ZR (Kd.R_mono HO424.out (fun _ hk => hk.2))), (ZR (Kd.R_mono HO428.out (fun _ hk => hk.2))), (ZR HO431.out), (ZR HO434.out), (ZK BK410.out), (ZK BK421.out), (ZK BK436.out), GW436.out, GE436.out, NB413_436.out, NB436_413.out, NB410_436.out, NB436_410.out, NB421_436.out, NB436_421.out, (by repeat (first | (with_reducible first | exact HI413.out | apply IsS55.alloc | apply IsS55.drewN | apply IsS55.drew | apply IsS55.set_1 | refine IsS55.far ?_ NB413_410.out _ | refine IsS55.far ?_ NB413_421.out _ | refine IsS55.far ?_ NB413_436.out _) | exact HI413.out)), (by repeat (first | (with_reducible first | exact HB.out | apply below_alloc | apply pw_below_drewN | apply below_drew1 | refine below_set ?_ (IsS55.ge HI413.out) | refine below_set ?_ GE410.out | refine below_set ?_ GE421.out | refine below_set ?_ GE436.out) | exact HB.out))⟩)
 rintro ⟨v423, v427, v430, v433, gb436⟩ w21 ⟨hS_, h0_, h1_, h2_, h3_, h4_, h5_, h6_, h7_, h8_, h9_, h10_, h11_, h12_, h13_, h14_, h15_, h16_, h17_, h18_⟩
 have n0_ : Aside0 (Kd.R k57 57 w21 w.heap.size (fun _ => True) (.slice Ao10 t414.length co10) t414) := ⟨h0_⟩
 have n1_ : Aside0 (Kd.R k66 66 w21 w.heap.size (fun _ => True) (.slice Ao14 t417.length co14) t417) := ⟨h1_⟩
 have n2_ : Aside0 (Kd.R (Kd.int .i64) 3 w21 w.heap.size (fun k_ => some k_ ≠ (v427 : Value).ownBlock) v423 t422) := ⟨h2_⟩
 have n3_ : Aside0 (Kd.R (Kd.int .i64) 3 w21 w.heap.size (fun k_ => some k_ ≠ (v423 : Value).ownBlock) v427 t426) := ⟨h3_⟩
 have n4_ : Aside0 (Kd.R k52 52 w21 w.heap.size (fun _ => True) v430 t429) := ⟨h4_⟩
 have n5_ : Aside0 (Kd.R k50 50 w21 w.heap.size (fun _ => True) v433 t432) := ⟨h5_⟩
 have n6_ : Aside0 (w21.heap[gb410]? = some (.cells #[.slice none 0 0, .slice none 0 0, .slice none 0 0] 27 (0, 0))) := ⟨h6_⟩
 have n7_ : Aside0 (w21.heap[gb421]? = some (.cells #[.slice Ao10 t414.length co10, .slice Ao14 t417.length co14] 43 (0, 0))) := ⟨h7_⟩
 have n8_ : Aside0 (w21.heap[gb436]? = some (.cells #[.slice none 0 0, .slice none 0 0, .slice none 0 0] 27 (0, 0))) := ⟨h8_⟩
 have n9_ : Aside0 (w.heap.size ≤ gb436) := ⟨h9_⟩
 have n10_ : Aside0 (w.heap.size ≤ gb436) := ⟨h10_⟩
 have n11_ : Aside0 (g413 ≠ gb436) := ⟨h11_⟩
 have n12_ : Aside0 (gb436 ≠ g413) := ⟨h12_⟩
 have n13_ : Aside0 (gb410 ≠ gb436) := ⟨h13_⟩
 have n14_ : Aside0 (gb436 ≠ gb410) := ⟨h14_⟩
 have n15_ : Aside0 (gb421 ≠ gb436) := ⟨h15_⟩
 have n16_ : Aside0 (gb436 ≠ gb421) := ⟨h16_⟩
 have n17_ : Aside0 (IsS55 w w21 g413 t411 t425) := ⟨h17_⟩
 have n18_ : Aside0 (Below w.heap.size w w21) := ⟨h18_⟩
 clear HO416
 clear HO419
 clear BK410
 clear BK421
 clear HI413
 clear HB
 clear h0_ h1_ h2_ h3_ h4_ h5_ h6_ h7_ h8_ h9_ h10_ h11_ h12_ h13_ h14_ h15_ h16_ h17_ h18_
 have HO416 := n0_
 have HO419 := n1_
 have HO424 := n2_
 have HO428 := n3_
 have HO431 := n4_
 have HO434 := n5_
 have BK410 := n6_
 have BK421 := n7_
 have BK436 := n8_
 have GW436 := n9_
 have GE436 := n10_
 have NB413_436 := n11_
 have NB436_413 := n12_
 have NB410_436 := n13_
 have NB436_410 := n14_
 have NB421_436 := n15_
 have NB436_421 := n16_
 have HI413 := n17_
 have HB := n18_
 clear n0_ n1_ n2_ n3_ n4_ n5_ n6_ n7_ n8_ n9_ n10_ n11_ n12_ n13_ n14_ n15_ n16_ n17_ n18_
 have hHeld : w21.cell? ⟨gb421, 0, none⟩ = some (.slice Ao10 t414.length co10) ∧ w21.cell? ⟨gb421, 1, none⟩ = some (.slice Ao14 t417.length co14) := hS_
 obtain ⟨Ao22, co22, eo22⟩ := Kd.R_slice HO428.out
 (first | subst eo22 | (injection eo22 with f1_ f2_ f3_; have f4_ := f1_.symm; have f5_ := f3_.symm; clear f1_ f2_ f3_; subst f4_; subst f5_))
 obtain ⟨Ao24, co24, eo24⟩ := Kd.R_slice HO431.out
 (first | subst eo24 | (injection eo24 with f1_ f2_ f3_; have f4_ := f1_.symm; have f5_ := f3_.symm; clear f1_ f2_ f3_; subst f4_; subst f5_))
 obtain ⟨Ao26, co26, eo26⟩ := Kd.R_slice HO434.out
 (first | subst eo26 | (injection eo26 with f1_ f2_ f3_; have f4_ := f1_.symm; have f5_ := f3_.symm; clear f1_ f2_ f3_; subst f4_; subst f5_))
 refine norm_ (a' := ?_) ?_ ?_
 rotate_left
 ·simp only [putAll, Act.put, List.setIfInBounds_toArray, List.set_cons_zero, List.set_cons_succ]
  rfl
 refine one_ (i := 9) (N := none) #[true, true, true, true, true, true, true, true, true, true, false] rfl rfl (one_of HT_.out (by kernel_rfl)) (by decide) (fun K hK => ?_)
 have hs23 : w21.cell? ⟨gb436, 0, none⟩ = some (.slice none 0 0) := (blk_cell BK436.out 0).trans rfl
 have hfs23 := blk_frozen BK436.out 0
 have hns23_0 := NB410_436.out
 have hns23_1 := NB421_436.out
 have hms23_0 := NB436_410.out
 have hms23_1 := NB436_421.out
 have hs25 : w21.cell? ⟨gb436, 1, none⟩ = some (.slice none 0 0) := (blk_cell BK436.out 1).trans rfl
 have hfs25 := blk_frozen BK436.out 1
 have hns25_0 := NB410_436.out
 have hns25_1 := NB421_436.out
 have hms25_0 := NB436_410.out
 have hms25_1 := NB436_421.out
 have hs27 : w21.cell? ⟨gb436, 2, none⟩ = some (.slice none 0 0) := (blk_cell BK436.out 2).trans rfl
 have hfs27 := blk_frozen BK436.out 2
 have hns27_0 := NB410_436.out
 have hns27_1 := NB421_436.out
 have hms27_0 := NB436_410.out
 have hms27_1 := NB436_421.out
 refine skip_ (w1 := ?_) (by rfl) rfl ?_ ?_
 rotate_left
 ·go_simp
  rfl
 refine hK.out _ _ ⟨((cell_far (p := ⟨gb436, _, none⟩) NB421_436.out _).trans (((cell_far (p := ⟨gb436, _, none⟩) NB421_436.out _).trans (((cell_far (p := ⟨gb436, _, none⟩) NB421_436.out _).trans (hHeld.1)))))), ((cell_far (p := ⟨gb436, _, none⟩) NB421_436.out _).trans (((cell_far (p := ⟨gb436, _, none⟩) NB421_436.out _).trans (((cell_far (p := ⟨gb436, _, none⟩) NB421_436.out _).trans (hHeld.2))))))⟩ (fun hHeld => ?_)
 clear hK K
 refine pure_ (i := 10) (N := some 7) (v := ?_) (a' := ?_) #[true, true, true, true, true, true, true, true, true, true, true] rfl rfl (any_of HT_.out (by kernel_rfl)) (fun _ _ _ h => h) (Or.inl ⟨by rfl, ?_⟩) ?_ ?_
 rotate_left
 ·intro w'
  go_simp
  with_reducible rfl
 rotate_left
 ·simp only [Act.put, List.setIfInBounds_toArray, List.set_cons_zero, List.set_cons_succ, i64_w, i32_w]
  rfl
 refine done_ (done_of HT_.out (by kernel_rfl)) ?_
 try go_wp2_with (first | ((with_reducible refine gate_dst (N := 22) rfl ?_); refine Kd.R_lit Kd.bool _ 4 ?hg (N := 22) ?hd (xs := ([] : List Bool)) (inner := []) (ok := fun _ => True) (okp := fun _ => True) ?hr ?hp (fun _ hk => hk) trivial (Below.refl _ _) (Nat.le_refl _) (by simp) ?_; (case hd => rfl); (case hg => rfl); (case hr => first | (go_simp; done) | (go_simp; rfl)); (case hp => exact (Reps.none _ _)); intro v438 w28 ho29 hb hg_ hnew_; clear hg_ hnew_; (first | rw [← Ny437.out] at ho29 | (simp only [Int.reduceToNat] at ho29; rw [← Ny437.out] at ho29)); have HO439 := Aside0.mk (Kd.R_lower ho29 (below_size (by repeat (first | (with_reducible first | exact HB.out | apply below_alloc | apply pw_below_drewN | apply below_drew1 | refine below_set ?_ (IsS55.ge HI413.out) | refine below_set ?_ GE410.out | refine below_set ?_ GE421.out | refine below_set ?_ GE436.out) | exact HB.out)))); replace HO416 := Aside0.mk (Kd.R_below (ZR ((Kd.R_mono (Kd.R_far (p := ⟨gb436, 2, none⟩) (Kd.R_far (p := ⟨gb436, 1, none⟩) (Kd.R_far (p := ⟨gb436, 0, none⟩) (Kd.R_types HO416.out BK436.out (by decide)) (fun _ hk => hk.2) (.slice Ao22 t426.length co22)) (fun _ hk => hk.2) (.slice Ao24 t429.length co24)) (fun _ hk => hk.2) (.slice Ao26 t432.length co26)) (fun _ h_ => h_.1)))) hb); replace HO419 := Aside0.mk (Kd.R_below (ZR ((Kd.R_mono (Kd.R_far (p := ⟨gb436, 2, none⟩) (Kd.R_far (p := ⟨gb436, 1, none⟩) (Kd.R_far (p := ⟨gb436, 0, none⟩) (Kd.R_types HO419.out BK436.out (by decide)) (fun _ hk => hk.2) (.slice Ao22 t426.length co22)) (fun _ hk => hk.2) (.slice Ao24 t429.length co24)) (fun _ hk => hk.2) (.slice Ao26 t432.length co26)) (fun _ h_ => h_.1)))) hb); replace HO424 := Aside0.mk (Kd.R_below (ZR ((Kd.R_mono (Kd.R_far (p := ⟨gb436, 2, none⟩) (Kd.R_far (p := ⟨gb436, 1, none⟩) (Kd.R_far (p := ⟨gb436, 0, none⟩) (Kd.R_types HO424.out BK436.out (by decide)) (fun _ hk => hk.2) (.slice Ao22 t426.length co22)) (fun _ hk => hk.2) (.slice Ao24 t429.length co24)) (fun _ hk => hk.2) (.slice Ao26 t432.length co26)) (fun _ h_ => h_.1)))) hb); replace HO428 := Aside0.mk (Kd.R_below (ZR ((Kd.R_mono (Kd.R_far (p := ⟨gb436, 2, none⟩) (Kd.R_far (p := ⟨gb436, 1, none⟩) (Kd.R_far (p := ⟨gb436, 0, none⟩) (Kd.R_types HO428.out BK436.out (by decide)) (fun _ hk => hk.2) (.slice Ao22 t426.length co22)) (fun _ hk => hk.2) (.slice Ao24 t429.length co24)) (fun _ hk => hk.2) (.slice Ao26 t432.length co26)) (fun _ h_ => h_.1)))) hb); replace HO431 := Aside0.mk (Kd.R_below (ZR ((Kd.R_mono (Kd.R_far (p := ⟨gb436, 2, none⟩) (Kd.R_far (p := ⟨gb436, 1, none⟩) (Kd.R_far (p := ⟨gb436, 0, none⟩) (Kd.R_types HO431.out BK436.out (by decide)) (fun _ hk => hk.2) (.slice Ao22 t426.length co22)) (fun _ hk => hk.2) (.slice Ao24 t429.length co24)) (fun _ hk => hk.2) (.slice Ao26 t432.length co26)) (fun _ h_ => h_.1)))) hb); replace HO434 := Aside0.mk (Kd.R_below (ZR ((Kd.R_mono (Kd.R_far (p := ⟨gb436, 2, none⟩) (Kd.R_far (p := ⟨gb436, 1, none⟩) (Kd.R_far (p := ⟨gb436, 0, none⟩) (Kd.R_types HO434.out BK436.out (by decide)) (fun _ hk => hk.2) (.slice Ao22 t426.length co22)) (fun _ hk => hk.2) (.slice Ao24 t429.length co24)) (fun _ hk => hk.2) (.slice Ao26 t432.length co26)) (fun _ h_ => h_.1)))) hb); replace BK410 := ZV #[.slice none 0 0, .slice none 0 0, .slice none 0 0] BK410 hb; replace BK421 := ZV #[.slice Ao10 t414.length co10, .slice Ao14 t417.length co14] BK421 hb; replace BK436 := ZV #[.slice Ao22 t426.length co22, .slice Ao24 t429.length co24, .slice Ao26 t432.length co26] BK436 hb; replace HB := Aside0.mk (below_step (by repeat (first | (with_reducible first | exact HB.out | apply below_alloc | apply pw_below_drewN | apply below_drew1 | refine below_set ?_ (IsS55.ge HI413.out) | refine below_set ?_ GE410.out | refine below_set ?_ GE421.out | refine below_set ?_ GE436.out) | exact HB.out)) hb); replace HI413 := Aside0.mk (IsS55.below (show IsS55 w (((w21.setCell ⟨gb436, 0, none⟩ (.slice Ao22 t426.length co22)).setCell ⟨gb436, 1, none⟩ (.slice Ao24 t429.length co24)).setCell ⟨gb436, 2, none⟩ (.slice Ao26 t432.length co26)) g413 t411 t425 from by repeat (first | (with_reducible first | exact HI413.out | apply IsS55.alloc | apply IsS55.drewN | apply IsS55.drew | apply IsS55.set_1 | refine IsS55.far ?_ NB413_410.out _ | refine IsS55.far ?_ NB413_421.out _ | refine IsS55.far ?_ NB413_436.out _) | exact HI413.out)) hb); clear hb ho29))
 go_loopg [8, 9] k (fun kq v8 v9 w' => ∃ (x8_1 : List Bool) (x9_1 : Int) (x414001_1 : Int), v9 = .int .i64 x9_1 ∧ Aside0 (spec_DrawRunSets.l0 kq x8_1 x9_1 t411 x414001_1 t414 t417 t426 t429 t432 = some (r1, r2, r3, r4)) ∧ Aside0 (kq ≤ k) ∧ Aside0 (Kd.R Kd.bool 4 w' w.heap.size (fun _ => True) v8 x8_1) ∧ Aside0 (Kd.R k57 57 w' w.heap.size (fun _ => True) (.slice Ao10 t414.length co10) t414) ∧ Aside0 (Kd.R k66 66 w' w.heap.size (fun _ => True) (.slice Ao14 t417.length co14) t417) ∧ Aside0 (Kd.R (Kd.int .i64) 3 w' w.heap.size (fun _ => True) (.slice Ao22 t426.length co22) t426) ∧ Aside0 (Kd.R k52 52 w' w.heap.size (fun _ => True) (.slice Ao24 t429.length co24) t429) ∧ Aside0 (Kd.R k50 50 w' w.heap.size (fun _ => True) (.slice Ao26 t432.length co26) t432) ∧ Aside0 (w'.heap[gb410]? = some (.cells #[(.slice none 0 0), (.slice none 0 0), (.slice none 0 0)] 27 (0, 0))) ∧ Aside0 (w'.heap[gb421]? = some (.cells #[(.slice Ao10 t414.length co10), (.slice Ao14 t417.length co14)] 43 (0, 0))) ∧ Aside0 (w'.heap[gb436]? = some (.cells #[(.slice Ao22 t426.length co22), (.slice Ao24 t429.length co24), (.slice Ao26 t432.length co26)] 27 (0, 0))) ∧ Aside0 (IsS55 w w' g413 t411 x414001_1) ∧ Aside0 (Below w.heap.size w w'))
 case atStart => exact ⟨(y437), (0), (t425), (by first | rfl | (simp; done) | (simp [*]; done)), H', ⟨Nat.le_refl _⟩, ⟨ZR HO439.out⟩, ⟨ZR HO416.out⟩, ⟨ZR HO419.out⟩, ⟨ZR (Kd.R_mono HO428.out (fun _ hk => trivial))⟩, ⟨ZR HO431.out⟩, ⟨ZR HO434.out⟩, ⟨ZK BK410.out⟩, ⟨ZK BK421.out⟩, ⟨ZK BK436.out⟩, ⟨by repeat (first | (with_reducible first | exact HI413.out | apply IsS55.alloc | apply IsS55.drewN | apply IsS55.drew | apply IsS55.set_1 | refine IsS55.far ?_ NB413_410.out _ | refine IsS55.far ?_ NB413_421.out _ | refine IsS55.far ?_ NB413_436.out _) | exact HI413.out)⟩, ⟨by repeat (first | (with_reducible first | exact HB.out | apply below_alloc | apply pw_below_drewN | apply below_drew1 | refine below_set ?_ (IsS55.ge HI413.out) | refine below_set ?_ GE410.out | refine below_set ?_ GE421.out | refine below_set ?_ GE436.out) | exact HB.out)⟩⟩
 case round =>
  clear H'
  try clear c1
  try clear p2
  try clear c15
  try clear c16
  obtain ⟨x8_1, x9_1, x414001_1, rfl, HA, HK1, HO_8, HO_422000, HO_422001, HO_437000, HO_437001, HO_437002, BK410, BK421, BK436, HI413, HB⟩ := hrel
  cases gk with
  | zero => exact absurd HA.out (by simp [spec_DrawRunSets.l0])
  | succ k1 =>
   have H := HA.out
   clear HA
   simp only [spec_DrawRunSets.l0] at H
   by_cases c30 : x9_1 < (t414.length : Int)
   ·rw [if_pos c30] at H
    have c30b0 : decide (x9_1 < (t414.length : Int)) = true := decide_eq_true c30
    clear c30
    replace H := Option.bind_eq_some_iff.mp H
    obtain ⟨⟨t440, t441⟩, A310, H⟩ := H
    replace H : (if x8_1.length < 140737488355328 then (spec_DrawRunSets.l0 k1 (x8_1 ++ [(t440 == 0)]) (wrap64 (x9_1 + 1)) t411 t441 t414 t417 t426 t429 t432) else (none)) = some (r1, r2, r3, r4) := H
    have A31 := Aside0.mk A310
    clear A310
    by_cases c32 : x8_1.length < 140737488355328
    ·rw [if_pos c32] at H
     have LMc32 := Aside0.mk c32
     clear c32
     obtain ⟨y442, hy442⟩ : ∃ y_ : List Bool, y_ = (x8_1 ++ [(t440 == 0)]) := ⟨_, rfl⟩
     replace H : (spec_DrawRunSets.l0 k1 y442 (wrap64 (x9_1 + 1)) t411 t441 t414 t417 t426 t429 t432) = some (r1, r2, r3, r4) := by first | (rw [hy442]; with_reducible exact H) | (have H2_ := (Option.bind_some _ _).symm.trans H; rw [hy442]; with_reducible exact H2_) | (have H2_ := (Option.bind_some _ _).symm.trans H; with_reducible exact H2_) | with_reducible exact H | (rw [hy442]; exact H) | exact H
     have Ny442 := Aside0.mk hy442
     clear hy442
     have H' := Aside0.mk H
     clear H
     have hnb33 := NB421_410.out
     have hnc33 := NB410_421.out
     have hnb34 := NB421_436.out
     have hnc34 := NB436_421.out
     have hnb35 := NB421_413.out
     have hnc35 := NB413_421.out
     obtain ⟨hcz36_0, hcz36_1⟩ := ZC2 wr BK421
     obtain ⟨hfz36_0, hfz36_1⟩ := ZF2 BK421
     go_wp2_with (first | ((with_reducible refine gate_callee (f := 17) rfl ?_); refine goesL_ (some 32) rfl rfl Try.func17 (by kernel_rfl) rfl #[.pointer (some ⟨g413, 0, none⟩), .int .i64 2] rfl ZG ?_; (with_reducible refine (spec_l6Rd_pick.calls k1 g413 t411 x414001_1 2 t440 t441 w _ ?side1 ?side2 A31.out).mono ?_); (case side1 => repeat (first | (with_reducible first | exact HI413.out | apply IsS55.alloc | apply IsS55.drewN | apply IsS55.drew | apply IsS55.set_1 | refine IsS55.far ?_ NB413_410.out _ | refine IsS55.far ?_ NB413_421.out _ | refine IsS55.far ?_ NB413_436.out _) | exact HI413.out)); (case side2 => repeat (first | (with_reducible first | exact HB.out | apply below_alloc | apply pw_below_drewN | apply below_drew1 | refine below_set ?_ (IsS55.ge HI413.out) | refine below_set ?_ GE410.out | refine below_set ?_ GE421.out | refine below_set ?_ GE436.out) | exact HB.out)); rintro e w37 ⟨rfl, hi, hb, hk⟩; refine ⟨_, rfl, ?_⟩; replace HO_8 := Aside0.mk (Kd.R_mono (Kd.R_keep (IsS55.apart (show IsS55 w _ g413 t411 x414001_1 from by repeat (first | (with_reducible first | exact HI413.out | apply IsS55.alloc | apply IsS55.drewN | apply IsS55.drew | apply IsS55.set_1 | refine IsS55.far ?_ NB413_410.out _ | refine IsS55.far ?_ NB413_421.out _ | refine IsS55.far ?_ NB413_436.out _) | exact HI413.out)) (ZR HO_8.out) (by decide)) hk (fun _ h => h.2)) (fun _ h => h.1)); replace HO_422000 := Aside0.mk (Kd.R_mono (Kd.R_keep (IsS55.apart (show IsS55 w _ g413 t411 x414001_1 from by repeat (first | (with_reducible first | exact HI413.out | apply IsS55.alloc | apply IsS55.drewN | apply IsS55.drew | apply IsS55.set_1 | refine IsS55.far ?_ NB413_410.out _ | refine IsS55.far ?_ NB413_421.out _ | refine IsS55.far ?_ NB413_436.out _) | exact HI413.out)) (ZR HO_422000.out) (by decide)) hk (fun _ h => h.2)) (fun _ h => h.1)); replace HO_422001 := Aside0.mk (Kd.R_mono (Kd.R_keep (IsS55.apart (show IsS55 w _ g413 t411 x414001_1 from by repeat (first | (with_reducible first | exact HI413.out | apply IsS55.alloc | apply IsS55.drewN | apply IsS55.drew | apply IsS55.set_1 | refine IsS55.far ?_ NB413_410.out _ | refine IsS55.far ?_ NB413_421.out _ | refine IsS55.far ?_ NB413_436.out _) | exact HI413.out)) (ZR HO_422001.out) (by decide)) hk (fun _ h => h.2)) (fun _ h => h.1)); replace HO_437000 := Aside0.mk (Kd.R_mono (Kd.R_keep (IsS55.apart (show IsS55 w _ g413 t411 x414001_1 from by repeat (first | (with_reducible first | exact HI413.out | apply IsS55.alloc | apply IsS55.drewN | apply IsS55.drew | apply IsS55.set_1 | refine IsS55.far ?_ NB413_410.out _ | refine IsS55.far ?_ NB413_421.out _ | refine IsS55.far ?_ NB413_436.out _) | exact HI413.out)) (ZR HO_437000.out) (by decide)) hk (fun _ h => h.2)) (fun _ h => h.1)); replace HO_437001 := Aside0.mk (Kd.R_mono (Kd.R_keep (IsS55.apart (show IsS55 w _ g413 t411 x414001_1 from by repeat (first | (with_reducible first | exact HI413.out | apply IsS55.alloc | apply IsS55.drewN | apply IsS55.drew | apply IsS55.set_1 | refine IsS55.far ?_ NB413_410.out _ | refine IsS55.far ?_ NB413_421.out _ | refine IsS55.far ?_ NB413_436.out _) | exact HI413.out)) (ZR HO_437001.out) (by decide)) hk (fun _ h => h.2)) (fun _ h => h.1)); replace HO_437002 := Aside0.mk (Kd.R_mono (Kd.R_keep (IsS55.apart (show IsS55 w _ g413 t411 x414001_1 from by repeat (first | (with_reducible first | exact HI413.out | apply IsS55.alloc | apply IsS55.drewN | apply IsS55.drew | apply IsS55.set_1 | refine IsS55.far ?_ NB413_410.out _ | refine IsS55.far ?_ NB413_421.out _ | refine IsS55.far ?_ NB413_436.out _) | exact HI413.out)) (ZR HO_437002.out) (by decide)) hk (fun _ h => h.2)) (fun _ h => h.1)); replace BK410 := ZL hk BK410 NB410_413; replace BK421 := ZL hk BK421 NB421_413; replace BK436 := ZL hk BK436 NB436_413; replace HB := Aside0.mk (hb); replace HI413 := Aside0.mk (hi); (try clear hb); (try clear hb2); (try clear hk); (try clear hi)) | ((with_reducible refine gate_builtin (b := .append) (xs := #[.tmp 30, .tmp 34]) rfl ?_); at_builtin; refine Kd.R_append Kd.bool (w0 := w) w.heap.size rfl (.tmp 30) (.tmp 34) 33 4 (.bool false) 1 rfl Try.underlying33 info4 rfl (by decide) (by omega) u8 x8_1 (t440 == 0) [.bool (t440 == 0)] (fun _ => True) (fun _ => False) rfl rfl ?aP (fun _ hk => hk.elim) ?aF ?aO ?aB ?aS ?aL ?_; (case aP => exact rfl); (case aB => exact (by repeat (first | (with_reducible first | exact HB.out | apply below_alloc | apply pw_below_drewN | apply below_drew1 | refine below_set ?_ (IsS55.ge HI413.out) | refine below_set ?_ GE410.out | refine below_set ?_ GE421.out | refine below_set ?_ GE436.out) | exact HB.out))); (case aF => exact (fun _ _ => trivial)); (case aO => exact (ZR HO_8.out)); (case aS => exact (below_size (by repeat (first | (with_reducible first | exact HB.out | apply below_alloc | apply pw_below_drewN | apply below_drew1 | refine below_set ?_ (IsS55.ge HI413.out) | refine below_set ?_ GE410.out | refine below_set ?_ GE421.out | refine below_set ?_ GE436.out) | exact HB.out)))); (case aL => have := LMc32.out; omega); intro v443 w38 ho hb hg hat; rw [← Ny442.out] at ho; have n0_ := Aside0.mk (Kd.R_over' (ZR HO_422000.out) (Kd.R_typed (ZR HO_8.out)) (by decide) hg); have n1_ := Aside0.mk (Kd.R_over' (ZR HO_422001.out) (Kd.R_typed (ZR HO_8.out)) (by decide) hg); have n2_ := Aside0.mk (Kd.R_over' (ZR HO_437000.out) (Kd.R_typed (ZR HO_8.out)) (by decide) hg); have n3_ := Aside0.mk (Kd.R_over' (ZR HO_437001.out) (Kd.R_typed (ZR HO_8.out)) (by decide) hg); have n4_ := Aside0.mk (Kd.R_over' (ZR HO_437002.out) (Kd.R_typed (ZR HO_8.out)) (by decide) hg); have n5_ := Aside0.mk (blk_grown (g := gb410) (o := .cells #[.slice none 0 0, .slice none 0 0, .slice none 0 0] 27 (0, 0)) (ZK BK410.out) hg (Kd.R_ne HO_8.out BK410.out (by decide))); have n6_ := Aside0.mk (blk_grown (g := gb421) (o := .cells #[.slice Ao10 t414.length co10, .slice Ao14 t417.length co14] 43 (0, 0)) (ZK BK421.out) hg (Kd.R_ne HO_8.out BK421.out (by decide))); have n7_ := Aside0.mk (blk_grown (g := gb436) (o := .cells #[.slice Ao22 t426.length co22, .slice Ao24 t429.length co24, .slice Ao26 t432.length co26] 27 (0, 0)) (ZK BK436.out) hg (Kd.R_ne HO_8.out BK436.out (by decide))); have n8_ := Aside0.mk (IsS55.grown (by repeat (first | (with_reducible first | exact HI413.out | apply IsS55.alloc | apply IsS55.drewN | apply IsS55.drew | apply IsS55.set_1 | refine IsS55.far ?_ NB413_410.out _ | refine IsS55.far ?_ NB413_421.out _ | refine IsS55.far ?_ NB413_436.out _) | exact HI413.out)) hg (IsS55.own_ne HI413.out HO_8.out (by decide))); have n9_ := Aside0.mk (hb); have n10_ := Aside0.mk (ho); clear HO_422000; clear HO_422001; clear HO_437000; clear HO_437001; clear HO_437002; clear BK410; clear BK421; clear BK436; clear HI413; clear HB; clear HO_8; have HO_422000 := n0_; have HO_422001 := n1_; have HO_437000 := n2_; have HO_437001 := n3_; have HO_437002 := n4_; have BK410 := n5_; have BK421 := n6_; have BK436 := n7_; have HI413 := n8_; have HB := n9_; have HO444 := n10_; clear n0_ n1_ n2_ n3_ n4_ n5_ n6_ n7_ n8_ n9_ n10_; clear ho hb hg hat))
     go_roundg k1
     case measure => have := HK1.out; omega
     case rel => exact ⟨(y442), (wrap64 (x9_1 + 1)), (t441), (by first | rfl | (simp; done) | (simp [*]; done)), H', ⟨by have := HK1.out; omega⟩, ⟨ZR HO444.out⟩, ⟨ZR HO_422000.out⟩, ⟨ZR HO_422001.out⟩, ⟨ZR HO_437000.out⟩, ⟨ZR HO_437001.out⟩, ⟨ZR HO_437002.out⟩, ⟨ZK BK410.out⟩, ⟨ZK BK421.out⟩, ⟨ZK BK436.out⟩, ⟨by repeat (first | (with_reducible first | exact HI413.out | apply IsS55.alloc | apply IsS55.drewN | apply IsS55.drew | apply IsS55.set_1 | refine IsS55.far ?_ NB413_410.out _ | refine IsS55.far ?_ NB413_421.out _ | refine IsS55.far ?_ NB413_436.out _) | exact HI413.out)⟩, ⟨by repeat (first | (with_reducible first | exact HB.out | apply below_alloc | apply pw_below_drewN | apply below_drew1 | refine below_set ?_ (IsS55.ge HI413.out) | refine below_set ?_ GE410.out | refine below_set ?_ GE421.out | refine below_set ?_ GE436.out) | exact HB.out)⟩⟩
    ·rw [if_neg c32] at H
     exact absurd H (by simp)
   ·rw [if_neg c30] at H
    have c30b0 : decide (x9_1 < (t414.length : Int)) = false := decide_eq_false c30
    clear c30
    simp only [Option.some.injEq, Prod.mk.injEq] at H
    obtain ⟨rfl, rfl, rfl, rfl⟩ := H
    have hnb39 := NB421_410.out
    have hnc39 := NB410_421.out
    have hnb40 := NB421_436.out
    have hnc40 := NB436_421.out
    have hnb41 := NB421_413.out
    have hnc41 := NB413_421.out
    obtain ⟨hcz42_0, hcz42_1⟩ := ZC2 wr BK421
    obtain ⟨hfz42_0, hfz42_1⟩ := ZF2 BK421
    have hnb43 := NB436_410.out
    have hnc43 := NB410_436.out
    have hnb44 := NB436_413.out
    have hnc44 := NB413_436.out
    obtain ⟨hcz45_0, hcz45_1, hcz45_2⟩ := ZC3 wr BK436
    obtain ⟨hfz45_0, hfz45_1, hfz45_2⟩ := ZF3 BK436
    have hnb46 := NB410_413.out
    have hnc46 := NB413_410.out
    obtain ⟨hcz47_0, hcz47_1, hcz47_2⟩ := ZC3 wr BK410
    obtain ⟨hfz47_0, hfz47_1, hfz47_2⟩ := ZF3 BK410
    go_wp2
    refine bodyPost_ret (results_ct rfl _ _ gb410 27 #[.slice Ao22 t426.length co22, .slice Ao24 t429.length co24, .slice Ao26 t432.length co26] (0, 0) _ rfl (ZZ BK410.out) Try.underlying27 rfl (by kernel_rfl)) rfl ?_
    exact ⟨_, _, _, _, ZE, by (with_reducible repeat (first | apply Kd.R_alloc | apply Kd.R_drewN | apply Kd.R_drew)); exact Kd.R_mono (Kd.R_far (p := ⟨gb410, 2, none⟩) (Kd.R_far (p := ⟨gb410, 1, none⟩) (Kd.R_far (p := ⟨gb410, 0, none⟩) (Kd.R_types HO_437000.out BK410.out (by decide)) (fun _ hk => hk.2) (.slice Ao22 t426.length co22)) (fun _ hk => hk.2) (.slice Ao24 t429.length co24)) (fun _ hk => hk.2) (.slice Ao26 t432.length co26)) (fun _ hk => trivial), by (with_reducible repeat (first | apply Kd.R_alloc | apply Kd.R_drewN | apply Kd.R_drew)); exact Kd.R_mono (Kd.R_far (p := ⟨gb410, 2, none⟩) (Kd.R_far (p := ⟨gb410, 1, none⟩) (Kd.R_far (p := ⟨gb410, 0, none⟩) (Kd.R_types HO_437001.out BK410.out (by decide)) (fun _ hk => hk.2) (.slice Ao22 t426.length co22)) (fun _ hk => hk.2) (.slice Ao24 t429.length co24)) (fun _ hk => hk.2) (.slice Ao26 t432.length co26)) (fun _ hk => trivial), by (with_reducible repeat (first | apply Kd.R_alloc | apply Kd.R_drewN | apply Kd.R_drew)); exact Kd.R_mono (Kd.R_far (p := ⟨gb410, 2, none⟩) (Kd.R_far (p := ⟨gb410, 1, none⟩) (Kd.R_far (p := ⟨gb410, 0, none⟩) (Kd.R_types HO_437002.out BK410.out (by decide)) (fun _ hk => hk.2) (.slice Ao22 t426.length co22)) (fun _ hk => hk.2) (.slice Ao24 t429.length co24)) (fun _ hk => hk.2) (.slice Ao26 t432.length co26)) (fun _ hk => trivial), by (with_reducible repeat (first | apply Kd.R_alloc | apply Kd.R_drewN | apply Kd.R_drew)); exact Kd.R_mono (Kd.R_far (p := ⟨gb410, 2, none⟩) (Kd.R_far (p := ⟨gb410, 1, none⟩) (Kd.R_far (p := ⟨gb410, 0, none⟩) (Kd.R_types HO_8.out BK410.out (by decide)) (fun _ hk => hk.2) (.slice Ao22 t426.length co22)) (fun _ hk => hk.2) (.slice Ao24 t429.length co24)) (fun _ hk => hk.2) (.slice Ao26 t432.length co26)) (fun _ hk => trivial), by repeat (first | (with_reducible first | exact HB.out | apply below_alloc | apply pw_below_drewN | apply below_drew1 | refine below_set ?_ (IsS55.ge HI413.out) | refine below_set ?_ GE410.out | refine below_set ?_ GE421.out | refine below_set ?_ GE436.out) | exact HB.out)⟩

end Go.Proofs.Ytdmejmdifnicmaa.A
