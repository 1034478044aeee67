/- What Go functions compute, as Lean functions, and for each its contract: for every input at which the Lean function answers the call returns that; written by wip/tools/pr.py over the kit's print. -/
import Derived.Test.YtdmejmdifnicmaaAx0
import Derived.Test.YtdmejmdifnicmaaAx3
import Derived.Test.YtdmejmdifnicmaaAx12
import Derived.Test.YtdmejmdifnicmaaAx15
import Derived.Test.YtdmejmdifnicmaaAx16
namespace Go.Proofs.Ytdmejmdifnicmaa.A
open Go.RowKit Go.Proofs.YtdmejmdifnicmaaW.PrintWords Go.Proofs.YtdmejmdifnicmaaW.PrintLast Go.Proofs.YtdmejmdifnicmaaW.PrintMore
attribute [local go_sem] max2_int min2_int max_two min_two max_three min_three max_four min_four   -- for this text's walks alone
set_option linter.unusedVariables false
set_option linter.unusedSimpArgs false

/-! ### spec_DrawRunTo: function 5 -/
def spec_DrawRunTo.l0 : Nat → Int → List Int → Int → List Int → List (S52) → List (S50) → Option (List Int × (List (S52)) × (List (S50)) × Int)
 | 0, _, _, _, _, _, _ => none
 | k + 1, x8, x338000, x338001, x361000, x361001, x361002 => if x8 > 0 then ((spec_l6Rd_pick.f k x338000 x338001 3).bind fun bt363 => ((spec_l6Rd_pick.f k x338000 bt363.2 10).bind fun bt365 => (if x361002.length < 8796093022208 then (spec_DrawRunTo.l0 k (wrap64 (x8 - 1)) x338000 bt365.2 x361000 x361001 (x361002 ++ [(⟨bt363.1, bt365.1⟩ : S50)])) else (none)))) else ((spec_l6Rd_pick.f k x338000 x338001 5).bind fun bt370 => (some (x361000, x361001, x361002, wrap64 (bt370.1 - 1))))
def spec_DrawRunTo.f (k : Nat) (l0 : List Int) : Option (List Int × (List (S52)) × (List (S50)) × Int) := (spec_l6Open.f l0).bind fun bt335 => ((spec_l71Prog.f k bt335.1 bt335.2).bind fun bt338 => ((spec_l71Nums.f k bt335.1 bt338.2.2 bt338.1 bt338.2.1).bind fun bt346 => ((spec_RunOf.f k bt338.1 bt338.2.1 bt346.1).bind fun bt350 => ((spec_l6Rd_pick.f k bt335.1 bt346.2 4).bind fun bt361 => (spec_DrawRunTo.l0 k bt361.1 bt335.1 bt361.2 bt350.1 bt350.2.1 bt350.2.2.1)))))
def spec_DrawRunTo.T3 : Bool × List (List Nat × List Nat) := (true, [([], []), ([], []), ([], []), ([1, 2], [1, 2]), ([0, 3, 3], [0, 3]), ([4], [4]), ([5], [5]), ([5], [5]), ([], []), ([8, 6, 4, 0, 1, 2, 3, 4, 5, 6, 8], [6, 8]), ([7, 9, 0, 1, 2, 3, 4, 5, 6, 7, 8, 9], [7])])
def spec_DrawRunTo.B3 : List Nat := [0, 0, 0, 6, 15, 31, 63, 63, 0, 383, 1023]
theorem spec_DrawRunTo.tab3 : rtab .any (opsOf Try.f5 3) = spec_DrawRunTo.T3 := by kernel_rfl
theorem spec_DrawRunTo.bits3 : waitsOk spec_DrawRunTo.T3.2 spec_DrawRunTo.B3 = true := by kernel_rfl
def spec_DrawRunTo.T7 : Bool × List (List Nat × List Nat) := (true, [([], []), ([0], [0]), ([], []), ([2], [2]), ([], []), ([4, 3], [4]), ([3, 5], [3, 5]), ([6], [6]), ([1, 7, 5], [1, 7]), ([0, 1, 2, 3, 4, 5, 6, 7, 8], []), ([9, 8, 8, 0, 1, 2, 3, 4, 5, 6, 7, 8], [8, 9])])
def spec_DrawRunTo.B7 : List Nat := [0, 1, 0, 4, 0, 28, 60, 124, 255, 511, 1023]
theorem spec_DrawRunTo.tab7 : rtab .any (opsOf Try.f5 7) = spec_DrawRunTo.T7 := by kernel_rfl
theorem spec_DrawRunTo.bits7 : waitsOk spec_DrawRunTo.T7.2 spec_DrawRunTo.B7 = true := by kernel_rfl
set_option maxHeartbeats 8000000 in
set_option maxRecDepth 100000 in
theorem spec_DrawRunTo.calls (k : Nat) (A0 : Option Addr) (c0 : Nat) (l0 : List Int) (r1 : List Int) (r2 : List (S52)) (r3 : List (S50)) (r4 : Int) (w : World) (hr0 : Kd.C (Kd.int .u8) w A0 l0.length l0) (hc0 : l0.length ≤ c0) (h : spec_DrawRunTo.f k l0 = some (r1, r2, r3, r4)) :
  Calls Try.prog 5 #[.slice A0 l0.length c0] w fun e w' => ∃ v0_ v1_ v2_ : Value, e = .returned (.tuple #[.agg #[v0_, v1_, v2_], .int .i64 r4]) ∧ Kd.R (Kd.int .i64) 3 w' w.heap.size (fun _ => True) v0_ r1 ∧ Kd.R k52 52 w' w.heap.size (fun _ => True) v1_ r2 ∧ Kd.R k50 50 w' w.heap.size (fun _ => True) v2_ r3 ∧ Below w.heap.size w w' := by
 have hu27 := Try.underlying27
 have hu43 := Try.underlying43
 have hu50 := Try.underlying50
 have HR0 := Aside0.mk hr0
 have HC0 := Aside0.mk hc0
 clear hr0 hc0
 have HB := Aside0.mk (Below.refl w.heap.size w)
 have H : ((spec_l6Open.f l0).bind fun bt335 => ((spec_l71Prog.f k bt335.1 bt335.2).bind fun bt338 => ((spec_l71Nums.f k bt335.1 bt338.2.2 bt338.1 bt338.2.1).bind fun bt346 => ((spec_RunOf.f k bt338.1 bt338.2.1 bt346.1).bind fun bt350 => ((spec_l6Rd_pick.f k bt335.1 bt346.2 4).bind fun bt361 => (spec_DrawRunTo.l0 k bt361.1 bt335.1 bt361.2 bt350.1 bt350.2.1 bt350.2.2.1)))))) = some (r1, r2, r3, r4) := h
 clear h
 replace H := Option.bind_eq_some_iff.mp H
 obtain ⟨⟨t335, t336⟩, A20, H⟩ := H
 replace H : ((spec_l71Prog.f k t335 t336).bind fun bt338 => ((spec_l71Nums.f k t335 bt338.2.2 bt338.1 bt338.2.1).bind fun bt346 => ((spec_RunOf.f k bt338.1 bt338.2.1 bt346.1).bind fun bt350 => ((spec_l6Rd_pick.f k t335 bt346.2 4).bind fun bt361 => (spec_DrawRunTo.l0 k bt361.1 t335 bt361.2 bt350.1 bt350.2.1 bt350.2.2.1))))) = some (r1, r2, r3, r4) := H
 have A2 := Aside0.mk A20
 clear A20
 replace H := Option.bind_eq_some_iff.mp H
 obtain ⟨⟨t338, t341, t344⟩, A30, H⟩ := H
 replace H : ((spec_l71Nums.f k t335 t344 t338 t341).bind fun bt346 => ((spec_RunOf.f k t338 t341 bt346.1).bind fun bt350 => ((spec_l6Rd_pick.f k t335 bt346.2 4).bind fun bt361 => (spec_DrawRunTo.l0 k bt361.1 t335 bt361.2 bt350.1 bt350.2.1 bt350.2.2.1)))) = some (r1, r2, r3, r4) := H
 have A3 := Aside0.mk A30
 clear A30
 replace H := Option.bind_eq_some_iff.mp H
 obtain ⟨⟨t346, t349⟩, A40, H⟩ := H
 replace H : ((spec_RunOf.f k t338 t341 t346).bind fun bt350 => ((spec_l6Rd_pick.f k t335 t349 4).bind fun bt361 => (spec_DrawRunTo.l0 k bt361.1 t335 bt361.2 bt350.1 bt350.2.1 bt350.2.2.1))) = some (r1, r2, r3, r4) := H
 have A4 := Aside0.mk A40
 clear A40
 replace H := Option.bind_eq_some_iff.mp H
 obtain ⟨⟨t350, t353, t356, t359⟩, A50, H⟩ := H
 replace H : ((spec_l6Rd_pick.f k t335 t349 4).bind fun bt361 => (spec_DrawRunTo.l0 k bt361.1 t335 bt361.2 t350 t353 t356)) = some (r1, r2, r3, r4) := H
 have A5 := Aside0.mk A50
 clear A50
 replace H := Option.bind_eq_some_iff.mp H
 obtain ⟨⟨t361, t362⟩, A60, H⟩ := H
 replace H : (spec_DrawRunTo.l0 k t361 t335 t362 t350 t353 t356) = some (r1, r2, r3, r4) := H
 have A6 := Aside0.mk A60
 clear A60
 have H' := Aside0.mk H
 clear H
 go_enter Try.func5, Try.ntmps5
 try go_wp2_with (first | ((with_reducible refine gate_dst (N := 2) rfl ?_); refine ZX (N := 2) (cs := #[.slice none 0 0, .slice none 0 0, .slice none 0 0]) (t := 27) ?_; intro gb334 hg w7 hbox hb; have BK334 := Aside0.mk (hbox); have GW334 : Aside0 (w.heap.size ≤ gb334) := ZS hg; have GE334 : Aside0 (w.heap.size ≤ gb334) := ZS hg; replace HB := ZT HB hb; clear hb hbox hg) | ((with_reducible refine gate_callee (f := 13) rfl ?_); refine goesL_ (some 10) rfl rfl Try.func13 (by kernel_rfl) rfl #[.slice A0 l0.length c0] rfl ZG ?_; (with_reducible refine (spec_l6Open.calls _ _ l0 t335 t336 w _ ?side1 ?side2 ?side3 A2.out).mono ?_); (case side1 => repeat (first | (with_reducible first | exact HB.out | apply below_alloc | apply pw_below_drewN | apply below_drew1 | refine below_set ?_ GE334.out) | exact HB.out)); (case side2 => exact HR0.out); (case side3 => exact HC0.out); rintro e w8 ⟨g337, rfl, hi, hb, hb2⟩; refine ⟨_, rfl, ?_⟩; have HI337 := Aside0.mk (hi); have NB337_334 := Aside0.mk (IsS55.ne_blk hi (blk_below (g := gb334) (o := .cells #[.slice none 0 0, .slice none 0 0, .slice none 0 0] 27 (0, 0)) (ZK BK334.out) hb2) (by decide)); have NB334_337 := Aside0.mk (Ne.symm (IsS55.ne_blk hi (blk_below (g := gb334) (o := .cells #[.slice none 0 0, .slice none 0 0, .slice none 0 0] 27 (0, 0)) (ZK BK334.out) hb2) (by decide))); replace BK334 := Aside0.mk (blk_below (g := gb334) (o := .cells #[.slice none 0 0, .slice none 0 0, .slice none 0 0] 27 (0, 0)) (ZK BK334.out) hb2); replace HB := Aside0.mk (hb); (try clear hb); (try clear hb2); (try clear hk); (try clear hi)) | ((with_reducible refine gate_callee (f := 14) rfl ?_); refine goesL_ (some 12) rfl rfl Try.func14 (by kernel_rfl) rfl #[.pointer (some ⟨g337, 0, none⟩)] rfl ZG ?_; (with_reducible refine (spec_l71Prog.calls k g337 t335 t336 t338 t341 t344 w _ ?side1 ?side2 A3.out).mono ?_); (case side1 => repeat (first | (with_reducible first | exact HI337.out | apply IsS55.alloc | apply IsS55.drewN | apply IsS55.drew | apply IsS55.set_1 | refine IsS55.far ?_ NB337_334.out _) | exact HI337.out)); (case side2 => repeat (first | (with_reducible first | exact HB.out | apply below_alloc | apply pw_below_drewN | apply below_drew1 | refine below_set ?_ (IsS55.ge HI337.out) | refine below_set ?_ GE334.out) | exact HB.out)); rintro e w9 ⟨v339, v342, rfl, ho0, ho1, hi, hb, hk⟩; refine ⟨_, rfl, ?_⟩; have HO340 := Aside0.mk (Kd.R_lower ho0 (below_size (by repeat (first | (with_reducible first | exact HB.out | apply below_alloc | apply pw_below_drewN | apply below_drew1 | refine below_set ?_ (IsS55.ge HI337.out) | refine below_set ?_ GE334.out) | exact HB.out)))); have HO343 := Aside0.mk (Kd.R_lower ho1 (below_size (by repeat (first | (with_reducible first | exact HB.out | apply below_alloc | apply pw_below_drewN | apply below_drew1 | refine below_set ?_ (IsS55.ge HI337.out) | refine below_set ?_ GE334.out) | exact HB.out)))); replace BK334 := ZL hk BK334 NB334_337; replace HB := Aside0.mk (hb); replace HI337 := Aside0.mk (hi); (try clear hb); (try clear hb2); (try clear hk); (try clear hi); (try clear ho0); (try clear ho1)) | ((with_reducible refine gate_dst (N := 5) rfl ?_); refine ZX (N := 5) (cs := #[.slice none 0 0, .slice none 0 0]) (t := 43) ?_; intro gb345 hg w10 hbox hb; have BK345 := Aside0.mk (hbox); have GW345 := Aside0.mk ((by rw [hg]; exact (below_size (by repeat (first | (with_reducible first | exact HB.out | apply below_alloc | apply pw_below_drewN | apply below_drew1 | refine below_set ?_ (IsS55.ge HI337.out) | refine below_set ?_ GE334.out) | exact HB.out))) : w.heap.size ≤ gb345)); have GE345 := Aside0.mk ((by rw [hg]; exact (below_size (by repeat (first | (with_reducible first | exact HB.out | apply below_alloc | apply pw_below_drewN | apply below_drew1 | refine below_set ?_ (IsS55.ge HI337.out) | refine below_set ?_ GE334.out) | exact HB.out))) : w.heap.size ≤ gb345)); have NB334_345 : Aside0 (gb334 ≠ gb345) := ZN hg BK334; have NB345_334 : Aside0 (gb345 ≠ gb334) := ZM hg BK334; have NB337_345 := Aside0.mk ((by rw [hg]; exact Nat.ne_of_lt (IsS55.lt (show IsS55 w _ g337 t335 t344 from by repeat (first | (with_reducible first | exact HI337.out | apply IsS55.alloc | apply IsS55.drewN | apply IsS55.drew | apply IsS55.set_1 | refine IsS55.far ?_ NB337_334.out _) | exact HI337.out))) : g337 ≠ gb345)); have NB345_337 := Aside0.mk ((by rw [hg]; exact Nat.ne_of_gt (IsS55.lt (show IsS55 w _ g337 t335 t344 from by repeat (first | (with_reducible first | exact HI337.out | apply IsS55.alloc | apply IsS55.drewN | apply IsS55.drew | apply IsS55.set_1 | refine IsS55.far ?_ NB337_334.out _) | exact HI337.out))) : gb345 ≠ g337)); replace HO340 := Aside0.mk (Kd.R_below (ZR HO340.out) hb); replace HO343 := Aside0.mk (Kd.R_below (ZR HO343.out) hb); replace BK334 := ZW BK334 hb; replace HB := Aside0.mk (below_step (by repeat (first | (with_reducible first | exact HB.out | apply below_alloc | apply pw_below_drewN | apply below_drew1 | refine below_set ?_ (IsS55.ge HI337.out) | refine below_set ?_ GE334.out) | exact HB.out)) hb); replace HI337 := Aside0.mk (IsS55.below (by repeat (first | (with_reducible first | exact HI337.out | apply IsS55.alloc | apply IsS55.drewN | apply IsS55.drew | apply IsS55.set_1 | refine IsS55.far ?_ NB337_334.out _) | exact HI337.out)) hb); clear hb hbox hg; obtain ⟨Ao11, co11, eo11⟩ := Kd.R_slice HO340.out; subst eo11; have hnb12 := NB345_334.out; have hnc12 := NB334_345.out; have hnb13 := NB345_337.out; have hnc13 := NB337_345.out; obtain ⟨hcz14_0, hcz14_1⟩ := ZC2 w10 BK345; obtain ⟨hfz14_0, hfz14_1⟩ := ZF2 BK345; obtain ⟨Ao15, co15, eo15⟩ := Kd.R_slice HO343.out; subst eo15))
 have n0_ : Aside0 (Kd.R k57 57 ((w10.setCell ⟨gb345, 0, none⟩ (.slice Ao11 t338.length co11)).setCell ⟨gb345, 1, none⟩ (.slice Ao15 t341.length co15)) w.heap.size (fun _ => True) (.slice Ao11 t338.length co11) t338) := ⟨ZR (Kd.R_mono (Kd.R_far (p := ⟨gb345, 1, none⟩) (Kd.R_far (p := ⟨gb345, 0, none⟩) (Kd.R_types HO340.out BK345.out (by decide)) (fun _ hk => hk.2) (.slice Ao11 t338.length co11)) (fun _ hk => hk.2) (.slice Ao15 t341.length co15)) (fun _ hk => trivial))⟩
 have n1_ : Aside0 (Kd.R k66 66 ((w10.setCell ⟨gb345, 0, none⟩ (.slice Ao11 t338.length co11)).setCell ⟨gb345, 1, none⟩ (.slice Ao15 t341.length co15)) w.heap.size (fun _ => True) (.slice Ao15 t341.length co15) t341) := ⟨ZR (Kd.R_mono (Kd.R_far (p := ⟨gb345, 1, none⟩) (Kd.R_far (p := ⟨gb345, 0, none⟩) (Kd.R_types HO343.out BK345.out (by decide)) (fun _ hk => hk.2) (.slice Ao11 t338.length co11)) (fun _ hk => hk.2) (.slice Ao15 t341.length co15)) (fun _ hk => trivial))⟩
 have n2_ : Aside0 (((w10.setCell ⟨gb345, 0, none⟩ (.slice Ao11 t338.length co11)).setCell ⟨gb345, 1, none⟩ (.slice Ao15 t341.length co15)).heap[gb334]? = some (.cells #[.slice none 0 0, .slice none 0 0, .slice none 0 0] 27 (0, 0))) := ⟨ZZ BK334.out⟩
 have n3_ : Aside0 (((w10.setCell ⟨gb345, 0, none⟩ (.slice Ao11 t338.length co11)).setCell ⟨gb345, 1, none⟩ (.slice Ao15 t341.length co15)).heap[gb345]? = some (.cells #[.slice Ao11 t338.length co11, .slice Ao15 t341.length co15] 43 (0, 0))) := ⟨ZZ BK345.out⟩
 have n4_ : Aside0 (IsS55 w ((w10.setCell ⟨gb345, 0, none⟩ (.slice Ao11 t338.length co11)).setCell ⟨gb345, 1, none⟩ (.slice Ao15 t341.length co15)) g337 t335 t344) := ⟨by repeat (first | (with_reducible first | exact HI337.out | apply IsS55.alloc | apply IsS55.drewN | apply IsS55.drew | apply IsS55.set_1 | refine IsS55.far ?_ NB337_334.out _ | refine IsS55.far ?_ NB337_345.out _) | exact HI337.out)⟩
 have n5_ : Aside0 (Below w.heap.size w ((w10.setCell ⟨gb345, 0, none⟩ (.slice Ao11 t338.length co11)).setCell ⟨gb345, 1, none⟩ (.slice Ao15 t341.length co15))) := ⟨by repeat (first | (with_reducible first | exact HB.out | apply below_alloc | apply pw_below_drewN | apply below_drew1 | refine below_set ?_ (IsS55.ge HI337.out) | refine below_set ?_ GE334.out | refine below_set ?_ GE345.out) | exact HB.out)⟩
 (try clear HO340)
 (try clear HO343)
 (try clear BK334)
 (try clear BK345)
 (try clear HI337)
 (try clear HB)
 generalize ((w10.setCell ⟨gb345, 0, none⟩ (.slice Ao11 t338.length co11)).setCell ⟨gb345, 1, none⟩ (.slice Ao15 t341.length co15)) = w16 at n0_ n1_ n2_ n3_ n4_ n5_ ⊢
 have HO340 := n0_
 have HO343 := n1_
 have BK334 := n2_
 have BK345 := n3_
 have HI337 := n4_
 have HB := n5_
 clear n0_ n1_ n2_ n3_ n4_ n5_
 have n0_ := Aside0.mk (Kd.R_drew HO340.out)
 have n1_ := Aside0.mk (Kd.R_drew HO343.out)
 have n2_ := Aside0.mk (blk_drew BK334.out)
 have n3_ := Aside0.mk (blk_drew BK345.out)
 have n4_ := Aside0.mk (IsS55.drew HI337.out)
 have n5_ := Aside0.mk (below_drew1 HB.out)
 clear HO340
 clear HO343
 clear BK334
 clear BK345
 clear HI337
 clear HB
 have HO340 := n0_
 have HO343 := n1_
 have BK334 := n2_
 have BK345 := n3_
 have HI337 := n4_
 have HB := n5_
 clear n0_ n1_ n2_ n3_ n4_ n5_
 refine start_ (n := 11) (S := fun w' => w'.cell? ⟨gb345, 0, none⟩ = some (.slice Ao11 t338.length co11) ∧ w'.cell? ⟨gb345, 1, none⟩ = some (.slice Ao15 t341.length co15)) (ds := []) #[false, false, false, false, false, false, false, false, false, false, false] (by kernel_rfl) rfl rfl ⟨(blk_cell BK345.out 0).trans rfl, (blk_cell BK345.out 1).trans rfl⟩ (fun hHeld => ?_); refine with_tabW spec_DrawRunTo.tab3 spec_DrawRunTo.bits3 (fun HT_ HW_ => ?_)
 generalize w16.drew = w17 at HO340 HO343 BK334 BK345 HI337 HB hHeld ⊢
 refine pure_ (i := 1) (N := some 15) (v := ?_) (a' := ?_) #[false, true, false, false, false, false, false, false, false, false, false] rfl rfl (any_of HT_.out (by kernel_rfl)) (fun _ _ _ h => h) (Or.inl ⟨by rfl, ?_⟩) ?_ ?_
 rotate_left
 ·intro w'
  go_simp
  with_reducible rfl
 rotate_left
 ·simp only [Act.put, List.setIfInBounds_toArray, List.set_cons_zero, List.set_cons_succ, i64_w, i32_w]
  rfl
 refine take_ (i := 0) (N := some 14) (v := ?_) (a' := ?_) #[true, true, false, false, false, false, false, false, false, false, false] rfl rfl (take_ofW HT_.out HW_.out (by kernel_rfl)) (fun _ _ _ h => h) (Or.inl ⟨by rfl, ?_⟩) hHeld ?_ ?_
 rotate_left
 ·rintro w' ⟨s0, s1⟩
  go_simp
  with_reducible rfl
 rotate_left
 ·simp only [Act.put, List.setIfInBounds_toArray, List.set_cons_zero, List.set_cons_succ, i64_w, i32_w]
  rfl
 refine take_ (i := 2) (N := some 16) (v := ?_) (a' := ?_) #[true, true, true, false, false, false, false, false, false, false, false] rfl rfl (take_ofW HT_.out HW_.out (by kernel_rfl)) (fun _ _ _ h => h) (Or.inl ⟨by rfl, ?_⟩) hHeld ?_ ?_
 rotate_left
 ·rintro w' ⟨s0, s1⟩
  go_simp
  with_reducible rfl
 rotate_left
 ·simp only [Act.put, List.setIfInBounds_toArray, List.set_cons_zero, List.set_cons_succ, i64_w, i32_w]
  rfl
 refine join_ (σ := Value × Value × Value × Value × Nat) 2 #[true, true, true, true, true, true, true, true, true, false, false] (fun s_ => [(17, s_.1), (18, .tuple #[.agg #[s_.2.1, s_.2.2.1, s_.2.2.2.1], .bool t359]), (6, .pointer (some ⟨s_.2.2.2.2, 0, none⟩)), (13, .tuple #[.agg #[s_.2.1, s_.2.2.1, s_.2.2.2.1], .bool t359]), (19, .agg #[s_.2.1, s_.2.2.1, s_.2.2.2.1]), (20, .bool t359)]) (fun s_ w' => (w'.cell? ⟨gb345, 0, none⟩ = some (.slice Ao11 t338.length co11) ∧ w'.cell? ⟨gb345, 1, none⟩ = some (.slice Ao15 t341.length co15)) ∧ (Kd.R k57 57 w' w.heap.size (fun _ => True) (.slice Ao11 t338.length co11) t338) ∧ (Kd.R k66 66 w' w.heap.size (fun _ => True) (.slice Ao15 t341.length co15) t341) ∧ (Kd.R (Kd.int .i64) 3 w' w.heap.size (fun k_ => some k_ ≠ (s_.2.1 : Value).ownBlock) s_.1 t346) ∧ (Kd.R (Kd.int .i64) 3 w' w.heap.size (fun k_ => some k_ ≠ (s_.1 : Value).ownBlock) s_.2.1 t350) ∧ (Kd.R k52 52 w' w.heap.size (fun _ => True) s_.2.2.1 t353) ∧ (Kd.R k50 50 w' w.heap.size (fun _ => True) s_.2.2.2.1 t356) ∧ (w'.heap[gb334]? = some (.cells #[.slice none 0 0, .slice none 0 0, .slice none 0 0] 27 (0, 0))) ∧ (w'.heap[gb345]? = some (.cells #[.slice Ao11 t338.length co11, .slice Ao15 t341.length co15] 43 (0, 0))) ∧ (w'.heap[s_.2.2.2.2]? = some (.cells #[.slice none 0 0, .slice none 0 0, .slice none 0 0] 27 (0, 0))) ∧ (w.heap.size ≤ s_.2.2.2.2) ∧ (w.heap.size ≤ s_.2.2.2.2) ∧ (g337 ≠ s_.2.2.2.2) ∧ (s_.2.2.2.2 ≠ g337) ∧ (gb334 ≠ s_.2.2.2.2) ∧ (s_.2.2.2.2 ≠ gb334) ∧ (gb345 ≠ s_.2.2.2.2) ∧ (s_.2.2.2.2 ≠ gb345) ∧ (IsS55 w w' g337 t335 t349) ∧ (Below w.heap.size w w')) ?_ ?_
 rotate_left
 ·intro hCont
  refine two_ (i := 3) (j := 8) (Ni := some 17) (Nj := some 6) #[true, true, true, true, false, false, false, false, false, false, false] #[true, true, true, false, false, false, false, false, true, false, false] rfl rfl rfl rfl (two_of HT_.out (by kernel_rfl)) (by decide) (by decide) (fun K hK => ?_) (fun K hK => ?_)
  ·skip
   refine goes_ Try.func16 (by kernel_rfl) rfl #[.pointer (some ⟨g337, 0, none⟩), .agg #[.slice Ao11 t338.length co11, .slice Ao15 t341.length co15]] (by rfl) rfl rfl ZG ?_
   with_reducible refine (spec_l71Nums.calls k g337 t335 t344 _ _ t338 _ _ t341 t346 t349 w _ ?side1 ?side2 ?side3 ?side4 ?side5 ?side6 A4.out).mono ?_
   (case side1 => repeat (first | (with_reducible first | exact HI337.out | apply IsS55.alloc | apply IsS55.drewN | apply IsS55.drew | apply IsS55.set_1 | refine IsS55.far ?_ NB337_334.out _ | refine IsS55.far ?_ NB337_345.out _) | exact HI337.out))
   (case side2 => repeat (first | (with_reducible first | exact HB.out | apply below_alloc | apply pw_below_drewN | apply below_drew1 | refine below_set ?_ (IsS55.ge HI337.out) | refine below_set ?_ GE334.out | refine below_set ?_ GE345.out) | exact HB.out))
   (case side3 => exact Kd.C_foot_own (IsS55.apart (show IsS55 w _ g337 t335 t344 from by repeat (first | (with_reducible first | exact HI337.out | apply IsS55.alloc | apply IsS55.drewN | apply IsS55.drew | apply IsS55.set_1 | refine IsS55.far ?_ NB337_334.out _ | refine IsS55.far ?_ NB337_345.out _) | exact HI337.out)) (ZR HO340.out) (by decide)) (fun _ h_ => h_.2))
   (case side4 => exact (Kd.R_reads' HO340.out).2.1)
   (case side5 => exact Kd.C_foot_own (IsS55.apart (show IsS55 w _ g337 t335 t344 from by repeat (first | (with_reducible first | exact HI337.out | apply IsS55.alloc | apply IsS55.drewN | apply IsS55.drew | apply IsS55.set_1 | refine IsS55.far ?_ NB337_334.out _ | refine IsS55.far ?_ NB337_345.out _) | exact HI337.out)) (ZR HO343.out) (by decide)) (fun _ h_ => h_.2))
   (case side6 => exact (Kd.R_reads' HO343.out).2.1)
   rintro e w18 ⟨v347, rfl, ho0, hi, hb, hk⟩
   refine ⟨_, rfl, ?_⟩
   have n0_ := ZL hk BK334 NB334_337
   have n1_ := Aside0.mk (Kd.R_mono (Kd.R_keep (IsS55.apart (show IsS55 w _ g337 t335 t344 from by repeat (first | (with_reducible first | exact HI337.out | apply IsS55.alloc | apply IsS55.drewN | apply IsS55.drew | apply IsS55.set_1 | refine IsS55.far ?_ NB337_334.out _ | refine IsS55.far ?_ NB337_345.out _) | exact HI337.out)) (ZR HO340.out) (by decide)) hk (fun _ h => h.2)) (fun _ h => h.1))
   have n2_ := Aside0.mk (Kd.R_mono (Kd.R_keep (IsS55.apart (show IsS55 w _ g337 t335 t344 from by repeat (first | (with_reducible first | exact HI337.out | apply IsS55.alloc | apply IsS55.drewN | apply IsS55.drew | apply IsS55.set_1 | refine IsS55.far ?_ NB337_334.out _ | refine IsS55.far ?_ NB337_345.out _) | exact HI337.out)) (ZR HO343.out) (by decide)) hk (fun _ h => h.2)) (fun _ h => h.1))
   have n3_ := ZL hk BK345 NB345_337
   have n4_ := Aside0.mk (Kd.R_lower ho0 (below_size (by repeat (first | (with_reducible first | exact HB.out | apply below_alloc | apply pw_below_drewN | apply below_drew1 | refine below_set ?_ (IsS55.ge HI337.out) | refine below_set ?_ GE334.out | refine below_set ?_ GE345.out) | exact HB.out))))
   have n5_ := Aside0.mk (hb)
   have n6_ := Aside0.mk (hi)
   clear BK334
   clear HO340
   clear HO343
   clear BK345
   clear HB
   clear HI337
   have BK334 := n0_
   have HO340 := n1_
   have HO343 := n2_
   have BK345 := n3_
   have HO348 := n4_
   have HB := n5_
   have HI337 := n6_
   clear n0_ n1_ n2_ n3_ n4_ n5_ n6_
   (try clear hb)
   (try clear hb2)
   (try clear hk)
   (try clear hi)
   (try clear ho0)
   obtain ⟨Ao19, co19, eo19⟩ := Kd.R_slice HO348.out
   (first | subst eo19 | (injection eo19 with f1_ f2_ f3_; have f4_ := f1_.symm; have f5_ := f3_.symm; clear f1_ f2_ f3_; subst f4_; subst f5_))
   refine hK.out _ _ ⟨(blk_cell BK345.out 0).trans rfl, (blk_cell BK345.out 1).trans rfl⟩ (fun hHeld => ?_)
   clear hK K
   refine ZNO 17 ?_
   refine two_ (i := 4) (j := 8) (Ni := some 18) (Nj := some 6) #[true, true, true, true, true, false, false, false, false, false, false] #[true, true, true, true, false, false, false, false, true, false, false] rfl rfl rfl rfl (two_of HT_.out (by kernel_rfl)) (by decide) (by decide) (fun K hK => ?_) (fun K hK => ?_)
   ·skip
    refine goes_ Try.func15 (by kernel_rfl) rfl #[.agg #[.slice Ao11 t338.length co11, .slice Ao15 t341.length co15], .slice Ao19 t346.length co19] (by rfl) rfl rfl ZG ?_
    with_reducible refine (spec_RunOf.calls k _ _ t338 _ _ t341 _ _ t346 t350 t353 t356 t359 _ ?side1 ?side2 ?side3 ?side4 ?side5 ?side6 A5.out).mono ?_
    (case side1 => exact ZQ ((Kd.R_reads' HO340.out).2.2))
    (case side2 => exact (Kd.R_reads' HO340.out).2.1)
    (case side3 => exact ZQ ((Kd.R_reads' HO343.out).2.2))
    (case side4 => exact (Kd.R_reads' HO343.out).2.1)
    (case side5 => exact ZQ ((Kd.R_reads' HO348.out).2.2))
    (case side6 => exact (Kd.R_reads' HO348.out).2.1)
    rintro e w20 ⟨v351, v354, v357, rfl, ho0, ho1, ho2, hb⟩
    refine ⟨_, rfl, ?_⟩
    have n0_ := Aside0.mk (Kd.R_below (ZR HO340.out) hb)
    have n1_ := Aside0.mk (Kd.R_below (ZR HO343.out) hb)
    have n2_ := Aside0.mk (Kd.R_elder' (ZR HO348.out) (Kd.R_base ho0) hb)
    have n3_ := Aside0.mk (Kd.R_lower (Kd.R_new' ho0 (Kd.R_lt (ZR HO348.out))) (below_size (by repeat (first | (with_reducible first | exact HB.out | apply below_alloc | apply pw_below_drewN | apply below_drew1 | refine below_set ?_ (IsS55.ge HI337.out) | refine below_set ?_ GE334.out | refine below_set ?_ GE345.out) | exact HB.out))))
    have n4_ := Aside0.mk (Kd.R_lower ho1 (below_size (by repeat (first | (with_reducible first | exact HB.out | apply below_alloc | apply pw_below_drewN | apply below_drew1 | refine below_set ?_ (IsS55.ge HI337.out) | refine below_set ?_ GE334.out | refine below_set ?_ GE345.out) | exact HB.out))))
    have n5_ := Aside0.mk (Kd.R_lower ho2 (below_size (by repeat (first | (with_reducible first | exact HB.out | apply below_alloc | apply pw_below_drewN | apply below_drew1 | refine below_set ?_ (IsS55.ge HI337.out) | refine below_set ?_ GE334.out | refine below_set ?_ GE345.out) | exact HB.out))))
    have n6_ := ZW BK334 hb
    have n7_ := Aside0.mk (IsS55.below (by repeat (first | (with_reducible first | exact HI337.out | apply IsS55.alloc | apply IsS55.drewN | apply IsS55.drew | apply IsS55.set_1 | refine IsS55.far ?_ NB337_334.out _ | refine IsS55.far ?_ NB337_345.out _) | exact HI337.out)) hb)
    have n8_ := ZW BK345 hb
    have n9_ := Aside0.mk (below_step (by repeat (first | (with_reducible first | exact HB.out | apply below_alloc | apply pw_below_drewN | apply below_drew1 | refine below_set ?_ (IsS55.ge HI337.out) | refine below_set ?_ GE334.out | refine below_set ?_ GE345.out) | exact HB.out)) hb)
    clear HO340
    clear HO343
    clear HO348
    clear BK334
    clear HI337
    clear BK345
    clear HB
    have HO340 := n0_
    have HO343 := n1_
    have HO348 := n2_
    have HO352 := n3_
    have HO355 := n4_
    have HO358 := n5_
    have BK334 := n6_
    have HI337 := n7_
    have BK345 := n8_
    have HB := n9_
    clear n0_ n1_ n2_ n3_ n4_ n5_ n6_ n7_ n8_ n9_
    (try clear hb)
    (try clear hb2)
    (try clear hk)
    (try clear hi)
    (try clear ho0)
    (try clear ho1)
    (try clear ho2)
    refine hK.out _ _ ⟨(blk_cell BK345.out 0).trans rfl, (blk_cell BK345.out 1).trans rfl⟩ (fun hHeld => ?_)
    clear hK K
    refine ZNO 18 ?_
    refine pure_ (i := 5) (N := some 13) (v := ?_) (a' := ?_) #[true, true, true, true, true, true, false, false, false, false, false] rfl rfl (any_of HT_.out (by kernel_rfl)) (fun _ _ _ h => h) (Or.inl ⟨by rfl, ?_⟩) ?_ ?_
    rotate_left
    ·intro w'
     go_simp
     with_reducible rfl
    rotate_left
    ·simp only [Act.put, List.setIfInBounds_toArray, List.set_cons_zero, List.set_cons_succ, i64_w, i32_w]
     rfl
    refine pure_ (i := 6) (N := some 19) (v := ?_) (a' := ?_) #[true, true, true, true, true, true, true, false, false, false, false] rfl rfl (any_of HT_.out (by kernel_rfl)) (fun _ _ _ h => h) (Or.inl ⟨by rfl, ?_⟩) ?_ ?_
    rotate_left
    ·intro w'
     go_simp
     with_reducible rfl
    rotate_left
    ·simp only [Act.put, List.setIfInBounds_toArray, List.set_cons_zero, List.set_cons_succ, i64_w, i32_w]
     rfl
    refine pure_ (i := 7) (N := some 20) (v := ?_) (a' := ?_) #[true, true, true, true, true, true, true, true, false, false, false] rfl rfl (any_of HT_.out (by kernel_rfl)) (fun _ _ _ h => h) (Or.inl ⟨by rfl, ?_⟩) ?_ ?_
    rotate_left
    ·intro w'
     go_simp
     with_reducible rfl
    rotate_left
    ·simp only [Act.put, List.setIfInBounds_toArray, List.set_cons_zero, List.set_cons_succ, i64_w, i32_w]
     rfl
    refine one_ (i := 8) (N := some 6) #[true, true, true, true, true, true, true, true, true, false, false] rfl rfl (one_of HT_.out (by kernel_rfl)) (by decide) (fun K hK => ?_)
    refine box_step ?hg (N := 6) ?hd (cs := #[.slice none 0 0, .slice none 0 0, .slice none 0 0]) (t := 27) ?hr ?_; (case hd => rfl); (case hg => rfl); (case hr => first | (go_simp; done) | (go_simp; rfl))
    intro gb360 hg w21 hbox hb
    have n0_ := Aside0.mk (Kd.R_below (ZR HO340.out) hb)
    have n1_ := Aside0.mk (Kd.R_below (ZR HO343.out) hb)
    have n2_ := Aside0.mk (Kd.R_below (ZR HO348.out) hb)
    have n3_ := Aside0.mk (Kd.R_below (ZR HO352.out) hb)
    have n4_ := Aside0.mk (Kd.R_below (ZR HO355.out) hb)
    have n5_ := Aside0.mk (Kd.R_below (ZR HO358.out) hb)
    have n6_ := ZW BK334 hb
    have n7_ := Aside0.mk (IsS55.below (by repeat (first | (with_reducible first | exact HI337.out | apply IsS55.alloc | apply IsS55.drewN | apply IsS55.drew | apply IsS55.set_1 | refine IsS55.far ?_ NB337_334.out _ | refine IsS55.far ?_ NB337_345.out _) | exact HI337.out)) hb)
    have n8_ := ZW BK345 hb
    have n9_ := Aside0.mk (below_step (by repeat (first | (with_reducible first | exact HB.out | apply below_alloc | apply pw_below_drewN | apply below_drew1 | refine below_set ?_ (IsS55.ge HI337.out) | refine below_set ?_ GE334.out | refine below_set ?_ GE345.out) | exact HB.out)) hb)
    have n10_ := Aside0.mk (hbox)
    have n11_ := Aside0.mk ((by rw [hg]; exact (below_size (by repeat (first | (with_reducible first | exact HB.out | apply below_alloc | apply pw_below_drewN | apply below_drew1 | refine below_set ?_ (IsS55.ge HI337.out) | refine below_set ?_ GE334.out | refine below_set ?_ GE345.out) | exact HB.out))) : w.heap.size ≤ gb360))
    have n12_ := Aside0.mk ((by rw [hg]; exact (below_size (by repeat (first | (with_reducible first | exact HB.out | apply below_alloc | apply pw_below_drewN | apply below_drew1 | refine below_set ?_ (IsS55.ge HI337.out) | refine below_set ?_ GE334.out | refine below_set ?_ GE345.out) | exact HB.out))) : w.heap.size ≤ gb360))
    have n13_ : Aside0 (gb334 ≠ gb360) := ZN hg BK334
    have n14_ : Aside0 (gb360 ≠ gb334) := ZM hg BK334
    have n15_ : Aside0 (gb345 ≠ gb360) := ZN hg BK345
    have n16_ : Aside0 (gb360 ≠ gb345) := ZM hg BK345
    have n17_ := Aside0.mk ((by rw [hg]; exact Nat.ne_of_lt (IsS55.lt (show IsS55 w _ g337 t335 t349 from by repeat (first | (with_reducible first | exact HI337.out | apply IsS55.alloc | apply IsS55.drewN | apply IsS55.drew | apply IsS55.set_1 | refine IsS55.far ?_ NB337_334.out _ | refine IsS55.far ?_ NB337_345.out _) | exact HI337.out))) : g337 ≠ gb360))
    have n18_ := Aside0.mk ((by rw [hg]; exact Nat.ne_of_gt (IsS55.lt (show IsS55 w _ g337 t335 t349 from by repeat (first | (with_reducible first | exact HI337.out | apply IsS55.alloc | apply IsS55.drewN | apply IsS55.drew | apply IsS55.set_1 | refine IsS55.far ?_ NB337_334.out _ | refine IsS55.far ?_ NB337_345.out _) | exact HI337.out))) : gb360 ≠ g337))
    clear HO340
    clear HO343
    clear HO348
    clear HO352
    clear HO355
    clear HO358
    clear BK334
    clear HI337
    clear BK345
    clear HB
    have HO340 := n0_
    have HO343 := n1_
    have HO348 := n2_
    have HO352 := n3_
    have HO355 := n4_
    have HO358 := n5_
    have BK334 := n6_
    have HI337 := n7_
    have BK345 := n8_
    have HB := n9_
    have BK360 := n10_
    have GW360 := n11_
    have GE360 := n12_
    have NB334_360 := n13_
    have NB360_334 := n14_
    have NB345_360 := n15_
    have NB360_345 := n16_
    have NB337_360 := n17_
    have NB360_337 := n18_
    clear n0_ n1_ n2_ n3_ n4_ n5_ n6_ n7_ n8_ n9_ n10_ n11_ n12_ n13_ n14_ n15_ n16_ n17_ n18_
    clear hb hbox hg
    refine hK.out _ _ ⟨(blk_cell BK345.out 0).trans rfl, (blk_cell BK345.out 1).trans rfl⟩ (fun hHeld => ?_)
    clear hK K
    refine ZNO 6 ?_
    exact norm_ (by simp only [putAll, Act.put, List.setIfInBounds_toArray, List.set_cons_zero, List.set_cons_succ]) (hCont (.slice Ao19 t346.length co19, v351, v354, v357, gb360) _ ⟨hHeld, (ZR HO340.out), (ZR HO343.out), (ZR (Kd.R_mono HO348.out (fun _ hk => hk.2))), (ZR (Kd.R_mono HO352.out (fun _ hk => hk.2))), (ZR HO355.out), (ZR HO358.out), (ZK BK334.out), (ZK BK345.out), (ZK BK360.out), GW360.out, GE360.out, NB337_360.out, NB360_337.out, NB334_360.out, NB360_334.out, NB345_360.out, NB360_345.out, (by repeat (first | (with_reducible first | exact HI337.out | apply IsS55.alloc | apply IsS55.drewN | apply IsS55.drew | apply IsS55.set_1 | refine IsS55.far ?_ NB337_334.out _ | refine IsS55.far ?_ NB337_345.out _ | refine IsS55.far ?_ NB337_360.out _) | exact HI337.out)), (by repeat (first | (with_reducible first | exact HB.out | apply below_alloc | apply pw_below_drewN | apply below_drew1 | refine below_set ?_ (IsS55.ge HI337.out) | refine below_set ?_ GE334.out | refine below_set ?_ GE345.out | refine below_set ?_ GE360.out) | exact HB.out))⟩)
   ·skip
    refine box_step ?hg (N := 6) ?hd (cs := #[.slice none 0 0, .slice none 0 0, .slice none 0 0]) (t := 27) ?hr ?_; (case hd => rfl); (case hg => rfl); (case hr => first | (go_simp; done) | (go_simp; rfl))
    intro gb360 hg w19 hbox hb
    have n0_ := Aside0.mk (Kd.R_below (ZR HO340.out) hb)
    have n1_ := Aside0.mk (Kd.R_below (ZR HO343.out) hb)
    have n2_ := Aside0.mk (Kd.R_below (ZR HO348.out) hb)
    have n3_ := ZW BK334 hb
    have n4_ := Aside0.mk (IsS55.below (by repeat (first | (with_reducible first | exact HI337.out | apply IsS55.alloc | apply IsS55.drewN | apply IsS55.drew | apply IsS55.set_1 | refine IsS55.far ?_ NB337_334.out _ | refine IsS55.far ?_ NB337_345.out _) | exact HI337.out)) hb)
    have n5_ := ZW BK345 hb
    have n6_ := Aside0.mk (below_step (by repeat (first | (with_reducible first | exact HB.out | apply below_alloc | apply pw_below_drewN | apply below_drew1 | refine below_set ?_ (IsS55.ge HI337.out) | refine below_set ?_ GE334.out | refine below_set ?_ GE345.out) | exact HB.out)) hb)
    have n7_ := Aside0.mk (hbox)
    have n8_ := Aside0.mk ((by rw [hg]; exact (below_size (by repeat (first | (with_reducible first | exact HB.out | apply below_alloc | apply pw_below_drewN | apply below_drew1 | refine below_set ?_ (IsS55.ge HI337.out) | refine below_set ?_ GE334.out | refine below_set ?_ GE345.out) | exact HB.out))) : w.heap.size ≤ gb360))
    have n9_ := Aside0.mk ((by rw [hg]; exact (below_size (by repeat (first | (with_reducible first | exact HB.out | apply below_alloc | apply pw_below_drewN | apply below_drew1 | refine below_set ?_ (IsS55.ge HI337.out) | refine below_set ?_ GE334.out | refine below_set ?_ GE345.out) | exact HB.out))) : w.heap.size ≤ gb360))
    have n10_ : Aside0 (gb334 ≠ gb360) := ZN hg BK334
    have n11_ : Aside0 (gb360 ≠ gb334) := ZM hg BK334
    have n12_ : Aside0 (gb345 ≠ gb360) := ZN hg BK345
    have n13_ : Aside0 (gb360 ≠ gb345) := ZM hg BK345
    have n14_ := Aside0.mk ((by rw [hg]; exact Nat.ne_of_lt (IsS55.lt (show IsS55 w _ g337 t335 t349 from by repeat (first | (with_reducible first | exact HI337.out | apply IsS55.alloc | apply IsS55.drewN | apply IsS55.drew | apply IsS55.set_1 | refine IsS55.far ?_ NB337_334.out _ | refine IsS55.far ?_ NB337_345.out _) | exact HI337.out))) : g337 ≠ gb360))
    have n15_ := Aside0.mk ((by rw [hg]; exact Nat.ne_of_gt (IsS55.lt (show IsS55 w _ g337 t335 t349 from by repeat (first | (with_reducible first | exact HI337.out | apply IsS55.alloc | apply IsS55.drewN | apply IsS55.drew | apply IsS55.set_1 | refine IsS55.far ?_ NB337_334.out _ | refine IsS55.far ?_ NB337_345.out _) | exact HI337.out))) : gb360 ≠ g337))
    clear HO340
    clear HO343
    clear HO348
    clear BK334
    clear HI337
    clear BK345
    clear HB
    have HO340 := n0_
    have HO343 := n1_
    have HO348 := n2_
    have BK334 := n3_
    have HI337 := n4_
    have BK345 := n5_
    have HB := n6_
    have BK360 := n7_
    have GW360 := n8_
    have GE360 := n9_
    have NB334_360 := n10_
    have NB360_334 := n11_
    have NB345_360 := n12_
    have NB360_345 := n13_
    have NB337_360 := n14_
    have NB360_337 := n15_
    clear n0_ n1_ n2_ n3_ n4_ n5_ n6_ n7_ n8_ n9_ n10_ n11_ n12_ n13_ n14_ n15_
    clear hb hbox hg
    obtain ⟨Ao20, co20, eo20⟩ := Kd.R_slice HO348.out
    (first | subst eo20 | (injection eo20 with f1_ f2_ f3_; have f4_ := f1_.symm; have f5_ := f3_.symm; clear f1_ f2_ f3_; subst f4_; subst f5_))
    refine hK.out _ _ ⟨(blk_cell BK345.out 0).trans rfl, (blk_cell BK345.out 1).trans rfl⟩ (fun hHeld => ?_)
    clear hK K
    refine ZNO 6 ?_
    refine one_ (i := 4) (N := some 18) #[true, true, true, true, true, false, false, false, true, false, false] rfl rfl (one_of HT_.out (by kernel_rfl)) (by decide) (fun K hK => ?_)
    refine goes_ Try.func15 (by kernel_rfl) rfl #[.agg #[.slice Ao11 t338.length co11, .slice Ao15 t341.length co15], .slice Ao20 t346.length co20] (by rfl) rfl rfl ZG ?_
    with_reducible refine (spec_RunOf.calls k _ _ t338 _ _ t341 _ _ t346 t350 t353 t356 t359 _ ?side1 ?side2 ?side3 ?side4 ?side5 ?side6 A5.out).mono ?_
    (case side1 => exact ZQ ((Kd.R_reads' HO340.out).2.2))
    (case side2 => exact (Kd.R_reads' HO340.out).2.1)
    (case side3 => exact ZQ ((Kd.R_reads' HO343.out).2.2))
    (case side4 => exact (Kd.R_reads' HO343.out).2.1)
    (case side5 => exact ZQ ((Kd.R_reads' HO348.out).2.2))
    (case side6 => exact (Kd.R_reads' HO348.out).2.1)
    rintro e w21 ⟨v351, v354, v357, rfl, ho0, ho1, ho2, hb⟩
    refine ⟨_, rfl, ?_⟩
    have n0_ := Aside0.mk (Kd.R_below (ZR HO340.out) hb)
    have n1_ := Aside0.mk (Kd.R_below (ZR HO343.out) hb)
    have n2_ := Aside0.mk (Kd.R_elder' (ZR HO348.out) (Kd.R_base ho0) hb)
    have n3_ := Aside0.mk (Kd.R_lower (Kd.R_new' ho0 (Kd.R_lt (ZR HO348.out))) (below_size (by repeat (first | (with_reducible first | exact HB.out | apply below_alloc | apply pw_below_drewN | apply below_drew1 | refine below_set ?_ (IsS55.ge HI337.out) | refine below_set ?_ GE334.out | refine below_set ?_ GE345.out | refine below_set ?_ GE360.out) | exact HB.out))))
    have n4_ := Aside0.mk (Kd.R_lower ho1 (below_size (by repeat (first | (with_reducible first | exact HB.out | apply below_alloc | apply pw_below_drewN | apply below_drew1 | refine below_set ?_ (IsS55.ge HI337.out) | refine below_set ?_ GE334.out | refine below_set ?_ GE345.out | refine below_set ?_ GE360.out) | exact HB.out))))
    have n5_ := Aside0.mk (Kd.R_lower ho2 (below_size (by repeat (first | (with_reducible first | exact HB.out | apply below_alloc | apply pw_below_drewN | apply below_drew1 | refine below_set ?_ (IsS55.ge HI337.out) | refine below_set ?_ GE334.out | refine below_set ?_ GE345.out | refine below_set ?_ GE360.out) | exact HB.out))))
    have n6_ := ZW BK334 hb
    have n7_ := Aside0.mk (IsS55.below (by repeat (first | (with_reducible first | exact HI337.out | apply IsS55.alloc | apply IsS55.drewN | apply IsS55.drew | apply IsS55.set_1 | refine IsS55.far ?_ NB337_334.out _ | refine IsS55.far ?_ NB337_345.out _ | refine IsS55.far ?_ NB337_360.out _) | exact HI337.out)) hb)
    have n8_ := ZW BK345 hb
    have n9_ := ZW BK360 hb
    have n10_ := Aside0.mk (below_step (by repeat (first | (with_reducible first | exact HB.out | apply below_alloc | apply pw_below_drewN | apply below_drew1 | refine below_set ?_ (IsS55.ge HI337.out) | refine below_set ?_ GE334.out | refine below_set ?_ GE345.out | refine below_set ?_ GE360.out) | exact HB.out)) hb)
    clear HO340
    clear HO343
    clear HO348
    clear BK334
    clear HI337
    clear BK345
    clear BK360
    clear HB
    have HO340 := n0_
    have HO343 := n1_
    have HO348 := n2_
    have HO352 := n3_
    have HO355 := n4_
    have HO358 := n5_
    have BK334 := n6_
    have HI337 := n7_
    have BK345 := n8_
    have BK360 := n9_
    have HB := n10_
    clear n0_ n1_ n2_ n3_ n4_ n5_ n6_ n7_ n8_ n9_ n10_
    (try clear hb)
    (try clear hb2)
    (try clear hk)
    (try clear hi)
    (try clear ho0)
    (try clear ho1)
    (try clear ho2)
    refine hK.out _ _ ⟨(blk_cell BK345.out 0).trans rfl, (blk_cell BK345.out 1).trans rfl⟩ (fun hHeld => ?_)
    clear hK K
    refine ZNO 18 ?_
    refine pure_ (i := 5) (N := some 13) (v := ?_) (a' := ?_) #[true, true, true, true, true, true, false, false, true, false, false] rfl rfl (any_of HT_.out (by kernel_rfl)) (fun _ _ _ h => h) (Or.inl ⟨by rfl, ?_⟩) ?_ ?_
    rotate_left
    ·intro w'
     go_simp
     with_reducible rfl
    rotate_left
    ·simp only [Act.put, List.setIfInBounds_toArray, List.set_cons_zero, List.set_cons_succ, i64_w, i32_w]
     rfl
    refine pure_ (i := 6) (N := some 19) (v := ?_) (a' := ?_) #[true, true, true, true, true, true, true, false, true, false, false] rfl rfl (any_of HT_.out (by kernel_rfl)) (fun _ _ _ h => h) (Or.inl ⟨by rfl, ?_⟩) ?_ ?_
    rotate_left
    ·intro w'
     go_simp
     with_reducible rfl
    rotate_left
    ·simp only [Act.put, List.setIfInBounds_toArray, List.set_cons_zero, List.set_cons_succ, i64_w, i32_w]
     rfl
    refine pure_ (i := 7) (N := some 20) (v := ?_) (a' := ?_) #[true, true, true, true, true, true, true, true, true, false, false] rfl rfl (any_of HT_.out (by kernel_rfl)) (fun _ _ _ h => h) (Or.inl ⟨by rfl, ?_⟩) ?_ ?_
    rotate_left
    ·intro w'
     go_simp
     with_reducible rfl
    rotate_left
    ·simp only [Act.put, List.setIfInBounds_toArray, List.set_cons_zero, List.set_cons_succ, i64_w, i32_w]
     rfl
    exact norm_ (by simp only [putAll, Act.put, List.setIfInBounds_toArray, List.set_cons_zero, List.set_cons_succ]) (hCont (.slice Ao20 t346.length co20, v351, v354, v357, gb360) _ ⟨hHeld, (ZR HO340.out), (ZR HO343.out), (ZR (Kd.R_mono HO348.out (fun _ hk => hk.2))), (ZR (Kd.R_mono HO352.out (fun _ hk => hk.2))), (ZR HO355.out), (ZR HO358.out), (ZK BK334.out), (ZK BK345.out), (ZK BK360.out), GW360.out, GE360.out, NB337_360.out, NB360_337.out, NB334_360.out, NB360_334.out, NB345_360.out, NB360_345.out, (by repeat (first | (with_reducible first | exact HI337.out | apply IsS55.alloc | apply IsS55.drewN | apply IsS55.drew | apply IsS55.set_1 | refine IsS55.far ?_ NB337_334.out _ | refine IsS55.far ?_ NB337_345.out _ | refine IsS55.far ?_ NB337_360.out _) | exact HI337.out)), (by repeat (first | (with_reducible first | exact HB.out | apply below_alloc | apply pw_below_drewN | apply below_drew1 | refine below_set ?_ (IsS55.ge HI337.out) | refine below_set ?_ GE334.out | refine below_set ?_ GE345.out | refine below_set ?_ GE360.out) | exact HB.out))⟩)
  ·skip
   refine box_step ?hg (N := 6) ?hd (cs := #[.slice none 0 0, .slice none 0 0, .slice none 0 0]) (t := 27) ?hr ?_; (case hd => rfl); (case hg => rfl); (case hr => first | (go_simp; done) | (go_simp; rfl))
   intro gb360 hg w18 hbox hb
   have n0_ := Aside0.mk (Kd.R_below (ZR HO340.out) hb)
   have n1_ := Aside0.mk (Kd.R_below (ZR HO343.out) hb)
   have n2_ := ZW BK334 hb
   have n3_ := Aside0.mk (IsS55.below (by repeat (first | (with_reducible first | exact HI337.out | apply IsS55.alloc | apply IsS55.drewN | apply IsS55.drew | apply IsS55.set_1 | refine IsS55.far ?_ NB337_334.out _ | refine IsS55.far ?_ NB337_345.out _) | exact HI337.out)) hb)
   have n4_ := ZW BK345 hb
   have n5_ := Aside0.mk (below_step (by repeat (first | (with_reducible first | exact HB.out | apply below_alloc | apply pw_below_drewN | apply below_drew1 | refine below_set ?_ (IsS55.ge HI337.out) | refine below_set ?_ GE334.out | refine below_set ?_ GE345.out) | exact HB.out)) hb)
   have n6_ := Aside0.mk (hbox)
   have n7_ := Aside0.mk ((by rw [hg]; exact (below_size (by repeat (first | (with_reducible first | exact HB.out | apply below_alloc | apply pw_below_drewN | apply below_drew1 | refine below_set ?_ (IsS55.ge HI337.out) | refine below_set ?_ GE334.out | refine below_set ?_ GE345.out) | exact HB.out))) : w.heap.size ≤ gb360))
   have n8_ := Aside0.mk ((by rw [hg]; exact (below_size (by repeat (first | (with_reducible first | exact HB.out | apply below_alloc | apply pw_below_drewN | apply below_drew1 | refine below_set ?_ (IsS55.ge HI337.out) | refine below_set ?_ GE334.out | refine below_set ?_ GE345.out) | exact HB.out))) : w.heap.size ≤ gb360))
   have n9_ : Aside0 (gb334 ≠ gb360) := ZN hg BK334
   have n10_ : Aside0 (gb360 ≠ gb334) := ZM hg BK334
   have n11_ : Aside0 (gb345 ≠ gb360) := ZN hg BK345
   have n12_ : Aside0 (gb360 ≠ gb345) := ZM hg BK345
   have n13_ := Aside0.mk ((by rw [hg]; exact Nat.ne_of_lt (IsS55.lt (show IsS55 w _ g337 t335 t344 from by repeat (first | (with_reducible first | exact HI337.out | apply IsS55.alloc | apply IsS55.drewN | apply IsS55.drew | apply IsS55.set_1 | refine IsS55.far ?_ NB337_334.out _ | refine IsS55.far ?_ NB337_345.out _) | exact HI337.out))) : g337 ≠ gb360))
   have n14_ := Aside0.mk ((by rw [hg]; exact Nat.ne_of_gt (IsS55.lt (show IsS55 w _ g337 t335 t344 from by repeat (first | (with_reducible first | exact HI337.out | apply IsS55.alloc | apply IsS55.drewN | apply IsS55.drew | apply IsS55.set_1 | refine IsS55.far ?_ NB337_334.out _ | refine IsS55.far ?_ NB337_345.out _) | exact HI337.out))) : gb360 ≠ g337))
   clear HO340
   clear HO343
   clear BK334
   clear HI337
   clear BK345
   clear HB
   have HO340 := n0_
   have HO343 := n1_
   have BK334 := n2_
   have HI337 := n3_
   have BK345 := n4_
   have HB := n5_
   have BK360 := n6_
   have GW360 := n7_
   have GE360 := n8_
   have NB334_360 := n9_
   have NB360_334 := n10_
   have NB345_360 := n11_
   have NB360_345 := n12_
   have NB337_360 := n13_
   have NB360_337 := n14_
   clear n0_ n1_ n2_ n3_ n4_ n5_ n6_ n7_ n8_ n9_ n10_ n11_ n12_ n13_ n14_
   clear hb hbox hg
   refine hK.out _ _ ⟨(blk_cell BK345.out 0).trans rfl, (blk_cell BK345.out 1).trans rfl⟩ (fun hHeld => ?_)
   clear hK K
   refine ZNO 6 ?_
   refine one_ (i := 3) (N := some 17) #[true, true, true, true, false, false, false, false, true, false, false] rfl rfl (one_of HT_.out (by kernel_rfl)) (by decide) (fun K hK => ?_)
   refine goes_ Try.func16 (by kernel_rfl) rfl #[.pointer (some ⟨g337, 0, none⟩), .agg #[.slice Ao11 t338.length co11, .slice Ao15 t341.length co15]] (by rfl) rfl rfl ZG ?_
   with_reducible refine (spec_l71Nums.calls k g337 t335 t344 _ _ t338 _ _ t341 t346 t349 w _ ?side1 ?side2 ?side3 ?side4 ?side5 ?side6 A4.out).mono ?_
   (case side1 => repeat (first | (with_reducible first | exact HI337.out | apply IsS55.alloc | apply IsS55.drewN | apply IsS55.drew | apply IsS55.set_1 | refine IsS55.far ?_ NB337_334.out _ | refine IsS55.far ?_ NB337_345.out _ | refine IsS55.far ?_ NB337_360.out _) | exact HI337.out))
   (case side2 => repeat (first | (with_reducible first | exact HB.out | apply below_alloc | apply pw_below_drewN | apply below_drew1 | refine below_set ?_ (IsS55.ge HI337.out) | refine below_set ?_ GE334.out | refine below_set ?_ GE345.out | refine below_set ?_ GE360.out) | exact HB.out))
   (case side3 => exact Kd.C_foot_own (IsS55.apart (show IsS55 w _ g337 t335 t344 from by repeat (first | (with_reducible first | exact HI337.out | apply IsS55.alloc | apply IsS55.drewN | apply IsS55.drew | apply IsS55.set_1 | refine IsS55.far ?_ NB337_334.out _ | refine IsS55.far ?_ NB337_345.out _ | refine IsS55.far ?_ NB337_360.out _) | exact HI337.out)) (ZR HO340.out) (by decide)) (fun _ h_ => h_.2))
   (case side4 => exact (Kd.R_reads' HO340.out).2.1)
   (case side5 => exact Kd.C_foot_own (IsS55.apart (show IsS55 w _ g337 t335 t344 from by repeat (first | (with_reducible first | exact HI337.out | apply IsS55.alloc | apply IsS55.drewN | apply IsS55.drew | apply IsS55.set_1 | refine IsS55.far ?_ NB337_334.out _ | refine IsS55.far ?_ NB337_345.out _ | refine IsS55.far ?_ NB337_360.out _) | exact HI337.out)) (ZR HO343.out) (by decide)) (fun _ h_ => h_.2))
   (case side6 => exact (Kd.R_reads' HO343.out).2.1)
   rintro e w19 ⟨v347, rfl, ho0, hi, hb, hk⟩
   refine ⟨_, rfl, ?_⟩
   have n0_ := ZL hk BK334 NB334_337
   have n1_ := Aside0.mk (Kd.R_mono (Kd.R_keep (IsS55.apart (show IsS55 w _ g337 t335 t344 from by repeat (first | (with_reducible first | exact HI337.out | apply IsS55.alloc | apply IsS55.drewN | apply IsS55.drew | apply IsS55.set_1 | refine IsS55.far ?_ NB337_334.out _ | refine IsS55.far ?_ NB337_345.out _ | refine IsS55.far ?_ NB337_360.out _) | exact HI337.out)) (ZR HO340.out) (by decide)) hk (fun _ h => h.2)) (fun _ h => h.1))
   have n2_ := Aside0.mk (Kd.R_mono (Kd.R_keep (IsS55.apart (show IsS55 w _ g337 t335 t344 from by repeat (first | (with_reducible first | exact HI337.out | apply IsS55.alloc | apply IsS55.drewN | apply IsS55.drew | apply IsS55.set_1 | refine IsS55.far ?_ NB337_334.out _ | refine IsS55.far ?_ NB337_345.out _ | refine IsS55.far ?_ NB337_360.out _) | exact HI337.out)) (ZR HO343.out) (by decide)) hk (fun _ h => h.2)) (fun _ h => h.1))
   have n3_ := ZL hk BK345 NB345_337
   have n4_ := ZL hk BK360 NB360_337
   have n5_ := Aside0.mk (Kd.R_lower ho0 (below_size (by repeat (first | (with_reducible first | exact HB.out | apply below_alloc | apply pw_below_drewN | apply below_drew1 | refine below_set ?_ (IsS55.ge HI337.out) | refine below_set ?_ GE334.out | refine below_set ?_ GE345.out | refine below_set ?_ GE360.out) | exact HB.out))))
   have n6_ := Aside0.mk (hb)
   have n7_ := Aside0.mk (hi)
   clear BK334
   clear HO340
   clear HO343
   clear BK345
   clear BK360
   clear HB
   clear HI337
   have BK334 := n0_
   have HO340 := n1_
   have HO343 := n2_
   have BK345 := n3_
   have BK360 := n4_
   have HO348 := n5_
   have HB := n6_
   have HI337 := n7_
   clear n0_ n1_ n2_ n3_ n4_ n5_ n6_ n7_
   (try clear hb)
   (try clear hb2)
   (try clear hk)
   (try clear hi)
   (try clear ho0)
   obtain ⟨Ao20, co20, eo20⟩ := Kd.R_slice HO348.out
   (first | subst eo20 | (injection eo20 with f1_ f2_ f3_; have f4_ := f1_.symm; have f5_ := f3_.symm; clear f1_ f2_ f3_; subst f4_; subst f5_))
   refine hK.out _ _ ⟨(blk_cell BK345.out 0).trans rfl, (blk_cell BK345.out 1).trans rfl⟩ (fun hHeld => ?_)
   clear hK K
   refine ZNO 17 ?_
   refine one_ (i := 4) (N := some 18) #[true, true, true, true, true, false, false, false, true, false, false] rfl rfl (one_of HT_.out (by kernel_rfl)) (by decide) (fun K hK => ?_)
   refine goes_ Try.func15 (by kernel_rfl) rfl #[.agg #[.slice Ao11 t338.length co11, .slice Ao15 t341.length co15], .slice Ao20 t346.length co20] (by rfl) rfl rfl ZG ?_
   with_reducible refine (spec_RunOf.calls k _ _ t338 _ _ t341 _ _ t346 t350 t353 t356 t359 _ ?side1 ?side2 ?side3 ?side4 ?side5 ?side6 A5.out).mono ?_
   (case side1 => exact ZQ ((Kd.R_reads' HO340.out).2.2))
   (case side2 => exact (Kd.R_reads' HO340.out).2.1)
   (case side3 => exact ZQ ((Kd.R_reads' HO343.out).2.2))
   (case side4 => exact (Kd.R_reads' HO343.out).2.1)
   (case side5 => exact ZQ ((Kd.R_reads' HO348.out).2.2))
   (case side6 => exact (Kd.R_reads' HO348.out).2.1)
   rintro e w21 ⟨v351, v354, v357, rfl, ho0, ho1, ho2, hb⟩
   refine ⟨_, rfl, ?_⟩
   have n0_ := Aside0.mk (Kd.R_below (ZR HO340.out) hb)
   have n1_ := Aside0.mk (Kd.R_below (ZR HO343.out) hb)
   have n2_ := Aside0.mk (Kd.R_elder' (ZR HO348.out) (Kd.R_base ho0) hb)
   have n3_ := Aside0.mk (Kd.R_lower (Kd.R_new' ho0 (Kd.R_lt (ZR HO348.out))) (below_size (by repeat (first | (with_reducible first | exact HB.out | apply below_alloc | apply pw_below_drewN | apply below_drew1 | refine below_set ?_ (IsS55.ge HI337.out) | refine below_set ?_ GE334.out | refine below_set ?_ GE345.out | refine below_set ?_ GE360.out) | exact HB.out))))
   have n4_ := Aside0.mk (Kd.R_lower ho1 (below_size (by repeat (first | (with_reducible first | exact HB.out | apply below_alloc | apply pw_below_drewN | apply below_drew1 | refine below_set ?_ (IsS55.ge HI337.out) | refine below_set ?_ GE334.out | refine below_set ?_ GE345.out | refine below_set ?_ GE360.out) | exact HB.out))))
   have n5_ := Aside0.mk (Kd.R_lower ho2 (below_size (by repeat (first | (with_reducible first | exact HB.out | apply below_alloc | apply pw_below_drewN | apply below_drew1 | refine below_set ?_ (IsS55.ge HI337.out) | refine below_set ?_ GE334.out | refine below_set ?_ GE345.out | refine below_set ?_ GE360.out) | exact HB.out))))
   have n6_ := ZW BK334 hb
   have n7_ := Aside0.mk (IsS55.below (by repeat (first | (with_reducible first | exact HI337.out | apply IsS55.alloc | apply IsS55.drewN | apply IsS55.drew | apply IsS55.set_1 | refine IsS55.far ?_ NB337_334.out _ | refine IsS55.far ?_ NB337_345.out _ | refine IsS55.far ?_ NB337_360.out _) | exact HI337.out)) hb)
   have n8_ := ZW BK345 hb
   have n9_ := ZW BK360 hb
   have n10_ := Aside0.mk (below_step (by repeat (first | (with_reducible first | exact HB.out | apply below_alloc | apply pw_below_drewN | apply below_drew1 | refine below_set ?_ (IsS55.ge HI337.out) | refine below_set ?_ GE334.out | refine below_set ?_ GE345.out | refine below_set ?_ GE360.out) | exact HB.out)) hb)
   clear HO340
   clear HO343
   clear HO348
   clear BK334
   clear HI337
   clear BK345
   clear BK360
   clear HB
   have HO340 := n0_
   have HO343 := n1_
   have HO348 := n2_
   have HO352 := n3_
   have HO355 := n4_
   have HO358 := n5_
   have BK334 := n6_
   have HI337 := n7_
   have BK345 := n8_
   have BK360 := n9_
   have HB := n10_
   clear n0_ n1_ n2_ n3_ n4_ n5_ n6_ n7_ n8_ n9_ n10_
   (try clear hb)
   (try clear hb2)
   (try clear hk)
   (try clear hi)
   (try clear ho0)
   (try clear ho1)
   (try clear ho2)
   refine hK.out _ _ ⟨(blk_cell BK345.out 0).trans rfl, (blk_cell BK345.out 1).trans rfl⟩ (fun hHeld => ?_)
   clear hK K
   refine ZNO 18 ?_
   refine pure_ (i := 5) (N := some 13) (v := ?_) (a' := ?_) #[true, true, true, true, true, true, false, false, true, false, false] rfl rfl (any_of HT_.out (by kernel_rfl)) (fun _ _ _ h => h) (Or.inl ⟨by rfl, ?_⟩) ?_ ?_
   rotate_left
   ·intro w'
    go_simp
    with_reducible rfl
   rotate_left
   ·simp only [Act.put, List.setIfInBounds_toArray, List.set_cons_zero, List.set_cons_succ, i64_w, i32_w]
    rfl
   refine pure_ (i := 6) (N := some 19) (v := ?_) (a' := ?_) #[true, true, true, true, true, true, true, false, true, false, false] rfl rfl (any_of HT_.out (by kernel_rfl)) (fun _ _ _ h => h) (Or.inl ⟨by rfl, ?_⟩) ?_ ?_
   rotate_left
   ·intro w'
    go_simp
    with_reducible rfl
   rotate_left
   ·simp only [Act.put, List.setIfInBounds_toArray, List.set_cons_zero, List.set_cons_succ, i64_w, i32_w]
    rfl
   refine pure_ (i := 7) (N := some 20) (v := ?_) (a' := ?_) #[true, true, true, true, true, true, true, true, true, false, false] rfl rfl (any_of HT_.out (by kernel_rfl)) (fun _ _ _ h => h) (Or.inl ⟨by rfl, ?_⟩) ?_ ?_
   rotate_left
   ·intro w'
    go_simp
    with_reducible rfl
   rotate_left
   ·simp only [Act.put, List.setIfInBounds_toArray, List.set_cons_zero, List.set_cons_succ, i64_w, i32_w]
    rfl
   exact norm_ (by simp only [putAll, Act.put, List.setIfInBounds_toArray, List.set_cons_zero, List.set_cons_succ]) (hCont (.slice Ao20 t346.length co20, v351, v354, v357, gb360) _ ⟨hHeld, (ZR HO340.out), (ZR HO343.out), (ZR (Kd.R_mono HO348.out (fun _ hk => hk.2))), (ZR (Kd.R_mono HO352.out (fun _ hk => hk.2))), (ZR HO355.out), (ZR HO358.out), (ZK BK334.out), (ZK BK345.out), (ZK BK360.out), GW360.out, GE360.out, NB337_360.out, NB360_337.out, NB334_360.out, NB360_334.out, NB345_360.out, NB360_345.out, (by repeat (first | (with_reducible first | exact HI337.out | apply IsS55.alloc | apply IsS55.drewN | apply IsS55.drew | apply IsS55.set_1 | refine IsS55.far ?_ NB337_334.out _ | refine IsS55.far ?_ NB337_345.out _ | refine IsS55.far ?_ NB337_360.out _) | exact HI337.out)), (by repeat (first | (with_reducible first | exact HB.out | apply below_alloc | apply pw_below_drewN | apply below_drew1 | refine below_set ?_ (IsS55.ge HI337.out) | refine below_set ?_ GE334.out | refine below_set ?_ GE345.out | refine below_set ?_ GE360.out) | exact HB.out))⟩)
 rintro ⟨v347, v351, v354, v357, gb360⟩ w22 ⟨hS_, h0_, h1_, h2_, h3_, h4_, h5_, h6_, h7_, h8_, h9_, h10_, h11_, h12_, h13_, h14_, h15_, h16_, h17_, h18_⟩
 have n0_ : Aside0 (Kd.R k57 57 w22 w.heap.size (fun _ => True) (.slice Ao11 t338.length co11) t338) := ⟨h0_⟩
 have n1_ : Aside0 (Kd.R k66 66 w22 w.heap.size (fun _ => True) (.slice Ao15 t341.length co15) t341) := ⟨h1_⟩
 have n2_ : Aside0 (Kd.R (Kd.int .i64) 3 w22 w.heap.size (fun k_ => some k_ ≠ (v351 : Value).ownBlock) v347 t346) := ⟨h2_⟩
 have n3_ : Aside0 (Kd.R (Kd.int .i64) 3 w22 w.heap.size (fun k_ => some k_ ≠ (v347 : Value).ownBlock) v351 t350) := ⟨h3_⟩
 have n4_ : Aside0 (Kd.R k52 52 w22 w.heap.size (fun _ => True) v354 t353) := ⟨h4_⟩
 have n5_ : Aside0 (Kd.R k50 50 w22 w.heap.size (fun _ => True) v357 t356) := ⟨h5_⟩
 have n6_ : Aside0 (w22.heap[gb334]? = some (.cells #[.slice none 0 0, .slice none 0 0, .slice none 0 0] 27 (0, 0))) := ⟨h6_⟩
 have n7_ : Aside0 (w22.heap[gb345]? = some (.cells #[.slice Ao11 t338.length co11, .slice Ao15 t341.length co15] 43 (0, 0))) := ⟨h7_⟩
 have n8_ : Aside0 (w22.heap[gb360]? = some (.cells #[.slice none 0 0, .slice none 0 0, .slice none 0 0] 27 (0, 0))) := ⟨h8_⟩
 have n9_ : Aside0 (w.heap.size ≤ gb360) := ⟨h9_⟩
 have n10_ : Aside0 (w.heap.size ≤ gb360) := ⟨h10_⟩
 have n11_ : Aside0 (g337 ≠ gb360) := ⟨h11_⟩
 have n12_ : Aside0 (gb360 ≠ g337) := ⟨h12_⟩
 have n13_ : Aside0 (gb334 ≠ gb360) := ⟨h13_⟩
 have n14_ : Aside0 (gb360 ≠ gb334) := ⟨h14_⟩
 have n15_ : Aside0 (gb345 ≠ gb360) := ⟨h15_⟩
 have n16_ : Aside0 (gb360 ≠ gb345) := ⟨h16_⟩
 have n17_ : Aside0 (IsS55 w w22 g337 t335 t349) := ⟨h17_⟩
 have n18_ : Aside0 (Below w.heap.size w w22) := ⟨h18_⟩
 clear HO340
 clear HO343
 clear BK334
 clear BK345
 clear HI337
 clear HB
 clear h0_ h1_ h2_ h3_ h4_ h5_ h6_ h7_ h8_ h9_ h10_ h11_ h12_ h13_ h14_ h15_ h16_ h17_ h18_
 have HO340 := n0_
 have HO343 := n1_
 have HO348 := n2_
 have HO352 := n3_
 have HO355 := n4_
 have HO358 := n5_
 have BK334 := n6_
 have BK345 := n7_
 have BK360 := n8_
 have GW360 := n9_
 have GE360 := n10_
 have NB337_360 := n11_
 have NB360_337 := n12_
 have NB334_360 := n13_
 have NB360_334 := n14_
 have NB345_360 := n15_
 have NB360_345 := n16_
 have HI337 := n17_
 have HB := n18_
 clear n0_ n1_ n2_ n3_ n4_ n5_ n6_ n7_ n8_ n9_ n10_ n11_ n12_ n13_ n14_ n15_ n16_ n17_ n18_
 have hHeld : w22.cell? ⟨gb345, 0, none⟩ = some (.slice Ao11 t338.length co11) ∧ w22.cell? ⟨gb345, 1, none⟩ = some (.slice Ao15 t341.length co15) := hS_
 obtain ⟨Ao23, co23, eo23⟩ := Kd.R_slice HO352.out
 (first | subst eo23 | (injection eo23 with f1_ f2_ f3_; have f4_ := f1_.symm; have f5_ := f3_.symm; clear f1_ f2_ f3_; subst f4_; subst f5_))
 obtain ⟨Ao25, co25, eo25⟩ := Kd.R_slice HO355.out
 (first | subst eo25 | (injection eo25 with f1_ f2_ f3_; have f4_ := f1_.symm; have f5_ := f3_.symm; clear f1_ f2_ f3_; subst f4_; subst f5_))
 obtain ⟨Ao27, co27, eo27⟩ := Kd.R_slice HO358.out
 (first | subst eo27 | (injection eo27 with f1_ f2_ f3_; have f4_ := f1_.symm; have f5_ := f3_.symm; clear f1_ f2_ f3_; subst f4_; subst f5_))
 refine norm_ (a' := ?_) ?_ ?_
 rotate_left
 ·simp only [putAll, Act.put, List.setIfInBounds_toArray, List.set_cons_zero, List.set_cons_succ]
  rfl
 refine one_ (i := 9) (N := none) #[true, true, true, true, true, true, true, true, true, true, false] rfl rfl (one_of HT_.out (by kernel_rfl)) (by decide) (fun K hK => ?_)
 have hs24 : w22.cell? ⟨gb360, 0, none⟩ = some (.slice none 0 0) := (blk_cell BK360.out 0).trans rfl
 have hfs24 := blk_frozen BK360.out 0
 have hns24_0 := NB334_360.out
 have hns24_1 := NB345_360.out
 have hms24_0 := NB360_334.out
 have hms24_1 := NB360_345.out
 have hs26 : w22.cell? ⟨gb360, 1, none⟩ = some (.slice none 0 0) := (blk_cell BK360.out 1).trans rfl
 have hfs26 := blk_frozen BK360.out 1
 have hns26_0 := NB334_360.out
 have hns26_1 := NB345_360.out
 have hms26_0 := NB360_334.out
 have hms26_1 := NB360_345.out
 have hs28 : w22.cell? ⟨gb360, 2, none⟩ = some (.slice none 0 0) := (blk_cell BK360.out 2).trans rfl
 have hfs28 := blk_frozen BK360.out 2
 have hns28_0 := NB334_360.out
 have hns28_1 := NB345_360.out
 have hms28_0 := NB360_334.out
 have hms28_1 := NB360_345.out
 refine skip_ (w1 := ?_) (by rfl) rfl ?_ ?_
 rotate_left
 ·go_simp
  rfl
 refine hK.out _ _ ⟨((cell_far (p := ⟨gb360, _, none⟩) NB345_360.out _).trans (((cell_far (p := ⟨gb360, _, none⟩) NB345_360.out _).trans (((cell_far (p := ⟨gb360, _, none⟩) NB345_360.out _).trans (hHeld.1)))))), ((cell_far (p := ⟨gb360, _, none⟩) NB345_360.out _).trans (((cell_far (p := ⟨gb360, _, none⟩) NB345_360.out _).trans (((cell_far (p := ⟨gb360, _, none⟩) NB345_360.out _).trans (hHeld.2))))))⟩ (fun hHeld => ?_)
 clear hK K
 refine pure_ (i := 10) (N := some 7) (v := ?_) (a' := ?_) #[true, true, true, true, true, true, true, true, true, true, true] rfl rfl (any_of HT_.out (by kernel_rfl)) (fun _ _ _ h => h) (Or.inl ⟨by rfl, ?_⟩) ?_ ?_
 rotate_left
 ·intro w'
  go_simp
  with_reducible rfl
 rotate_left
 ·simp only [Act.put, List.setIfInBounds_toArray, List.set_cons_zero, List.set_cons_succ, i64_w, i32_w]
  rfl
 refine done_ (done_of HT_.out (by kernel_rfl)) ?_
 try go_wp2_with (first | ((with_reducible refine gate_callee (f := 17) rfl ?_); refine goesL_ (some 22) rfl rfl Try.func17 (by kernel_rfl) rfl #[.pointer (some ⟨g337, 0, none⟩), .int .i64 4] rfl ZG ?_; (with_reducible refine (spec_l6Rd_pick.calls k g337 t335 t349 4 t361 t362 w _ ?side1 ?side2 A6.out).mono ?_); (case side1 => repeat (first | (with_reducible first | exact HI337.out | apply IsS55.alloc | apply IsS55.drewN | apply IsS55.drew | apply IsS55.set_1 | refine IsS55.far ?_ NB337_334.out _ | refine IsS55.far ?_ NB337_345.out _ | refine IsS55.far ?_ NB337_360.out _) | exact HI337.out)); (case side2 => repeat (first | (with_reducible first | exact HB.out | apply below_alloc | apply pw_below_drewN | apply below_drew1 | refine below_set ?_ (IsS55.ge HI337.out) | refine below_set ?_ GE334.out | refine below_set ?_ GE345.out | refine below_set ?_ GE360.out) | exact HB.out)); rintro e w29 ⟨rfl, hi, hb, hk⟩; refine ⟨_, rfl, ?_⟩; replace BK334 := ZLV #[.slice none 0 0, .slice none 0 0, .slice none 0 0] hk BK334 NB334_337; replace HO340 := Aside0.mk (Kd.R_mono (Kd.R_keep (IsS55.apart (show IsS55 w _ g337 t335 t349 from by repeat (first | (with_reducible first | exact HI337.out | apply IsS55.alloc | apply IsS55.drewN | apply IsS55.drew | apply IsS55.set_1 | refine IsS55.far ?_ NB337_334.out _ | refine IsS55.far ?_ NB337_345.out _ | refine IsS55.far ?_ NB337_360.out _) | exact HI337.out)) (ZR ((Kd.R_mono (Kd.R_far (p := ⟨gb360, 2, none⟩) (Kd.R_far (p := ⟨gb360, 1, none⟩) (Kd.R_far (p := ⟨gb360, 0, none⟩) (Kd.R_types HO340.out BK360.out (by decide)) (fun _ hk => hk.2) (.slice Ao23 t350.length co23)) (fun _ hk => hk.2) (.slice Ao25 t353.length co25)) (fun _ hk => hk.2) (.slice Ao27 t356.length co27)) (fun _ h_ => h_.1)))) (by decide)) hk (fun _ h => h.2)) (fun _ h => h.1)); replace HO343 := Aside0.mk (Kd.R_mono (Kd.R_keep (IsS55.apart (show IsS55 w _ g337 t335 t349 from by repeat (first | (with_reducible first | exact HI337.out | apply IsS55.alloc | apply IsS55.drewN | apply IsS55.drew | apply IsS55.set_1 | refine IsS55.far ?_ NB337_334.out _ | refine IsS55.far ?_ NB337_345.out _ | refine IsS55.far ?_ NB337_360.out _) | exact HI337.out)) (ZR ((Kd.R_mono (Kd.R_far (p := ⟨gb360, 2, none⟩) (Kd.R_far (p := ⟨gb360, 1, none⟩) (Kd.R_far (p := ⟨gb360, 0, none⟩) (Kd.R_types HO343.out BK360.out (by decide)) (fun _ hk => hk.2) (.slice Ao23 t350.length co23)) (fun _ hk => hk.2) (.slice Ao25 t353.length co25)) (fun _ hk => hk.2) (.slice Ao27 t356.length co27)) (fun _ h_ => h_.1)))) (by decide)) hk (fun _ h => h.2)) (fun _ h => h.1)); replace BK345 := ZLV #[.slice Ao11 t338.length co11, .slice Ao15 t341.length co15] hk BK345 NB345_337; replace HO348 := Aside0.mk (Kd.R_mono (Kd.R_keep (IsS55.apart (show IsS55 w _ g337 t335 t349 from by repeat (first | (with_reducible first | exact HI337.out | apply IsS55.alloc | apply IsS55.drewN | apply IsS55.drew | apply IsS55.set_1 | refine IsS55.far ?_ NB337_334.out _ | refine IsS55.far ?_ NB337_345.out _ | refine IsS55.far ?_ NB337_360.out _) | exact HI337.out)) (ZR ((Kd.R_mono (Kd.R_far (p := ⟨gb360, 2, none⟩) (Kd.R_far (p := ⟨gb360, 1, none⟩) (Kd.R_far (p := ⟨gb360, 0, none⟩) (Kd.R_types HO348.out BK360.out (by decide)) (fun _ hk => hk.2) (.slice Ao23 t350.length co23)) (fun _ hk => hk.2) (.slice Ao25 t353.length co25)) (fun _ hk => hk.2) (.slice Ao27 t356.length co27)) (fun _ h_ => h_.1)))) (by decide)) hk (fun _ h => h.2)) (fun _ h => h.1)); replace HO352 := Aside0.mk (Kd.R_mono (Kd.R_keep (IsS55.apart (show IsS55 w _ g337 t335 t349 from by repeat (first | (with_reducible first | exact HI337.out | apply IsS55.alloc | apply IsS55.drewN | apply IsS55.drew | apply IsS55.set_1 | refine IsS55.far ?_ NB337_334.out _ | refine IsS55.far ?_ NB337_345.out _ | refine IsS55.far ?_ NB337_360.out _) | exact HI337.out)) (ZR ((Kd.R_mono (Kd.R_far (p := ⟨gb360, 2, none⟩) (Kd.R_far (p := ⟨gb360, 1, none⟩) (Kd.R_far (p := ⟨gb360, 0, none⟩) (Kd.R_types HO352.out BK360.out (by decide)) (fun _ hk => hk.2) (.slice Ao23 t350.length co23)) (fun _ hk => hk.2) (.slice Ao25 t353.length co25)) (fun _ hk => hk.2) (.slice Ao27 t356.length co27)) (fun _ h_ => h_.1)))) (by decide)) hk (fun _ h => h.2)) (fun _ h => h.1)); replace HO355 := Aside0.mk (Kd.R_mono (Kd.R_keep (IsS55.apart (show IsS55 w _ g337 t335 t349 from by repeat (first | (with_reducible first | exact HI337.out | apply IsS55.alloc | apply IsS55.drewN | apply IsS55.drew | apply IsS55.set_1 | refine IsS55.far ?_ NB337_334.out _ | refine IsS55.far ?_ NB337_345.out _ | refine IsS55.far ?_ NB337_360.out _) | exact HI337.out)) (ZR ((Kd.R_mono (Kd.R_far (p := ⟨gb360, 2, none⟩) (Kd.R_far (p := ⟨gb360, 1, none⟩) (Kd.R_far (p := ⟨gb360, 0, none⟩) (Kd.R_types HO355.out BK360.out (by decide)) (fun _ hk => hk.2) (.slice Ao23 t350.length co23)) (fun _ hk => hk.2) (.slice Ao25 t353.length co25)) (fun _ hk => hk.2) (.slice Ao27 t356.length co27)) (fun _ h_ => h_.1)))) (by decide)) hk (fun _ h => h.2)) (fun _ h => h.1)); replace HO358 := Aside0.mk (Kd.R_mono (Kd.R_keep (IsS55.apart (show IsS55 w _ g337 t335 t349 from by repeat (first | (with_reducible first | exact HI337.out | apply IsS55.alloc | apply IsS55.drewN | apply IsS55.drew | apply IsS55.set_1 | refine IsS55.far ?_ NB337_334.out _ | refine IsS55.far ?_ NB337_345.out _ | refine IsS55.far ?_ NB337_360.out _) | exact HI337.out)) (ZR ((Kd.R_mono (Kd.R_far (p := ⟨gb360, 2, none⟩) (Kd.R_far (p := ⟨gb360, 1, none⟩) (Kd.R_far (p := ⟨gb360, 0, none⟩) (Kd.R_types HO358.out BK360.out (by decide)) (fun _ hk => hk.2) (.slice Ao23 t350.length co23)) (fun _ hk => hk.2) (.slice Ao25 t353.length co25)) (fun _ hk => hk.2) (.slice Ao27 t356.length co27)) (fun _ h_ => h_.1)))) (by decide)) hk (fun _ h => h.2)) (fun _ h => h.1)); replace BK360 := ZLV #[.slice Ao23 t350.length co23, .slice Ao25 t353.length co25, .slice Ao27 t356.length co27] hk BK360 NB360_337; replace HB := Aside0.mk (hb); replace HI337 := Aside0.mk (hi); (try clear hb); (try clear hb2); (try clear hk); (try clear hi)))
 go_loopg [8] k (fun kq v8 w' => ∃ (x8_1 : Int) (x338001_1 : Int) (x361002_1 : List (S50)) (u361002 : Value), v8 = .int .i64 x8_1 ∧ Aside0 (spec_DrawRunTo.l0 kq x8_1 t335 x338001_1 t350 t353 x361002_1 = some (r1, r2, r3, r4)) ∧ Aside0 (kq ≤ k) ∧ Aside0 (Kd.R k57 57 w' w.heap.size (fun _ => True) (.slice Ao11 t338.length co11) t338) ∧ Aside0 (Kd.R k66 66 w' w.heap.size (fun _ => True) (.slice Ao15 t341.length co15) t341) ∧ Aside0 (Kd.R (Kd.int .i64) 3 w' w.heap.size (fun _ => True) (.slice Ao23 t350.length co23) t350) ∧ Aside0 (Kd.R k52 52 w' w.heap.size (fun _ => True) (.slice Ao25 t353.length co25) t353) ∧ Aside0 (Kd.R k50 50 w' w.heap.size (fun _ => True) u361002 x361002_1) ∧ Aside0 (w'.heap[gb334]? = some (.cells #[(.slice none 0 0), (.slice none 0 0), (.slice none 0 0)] 27 (0, 0))) ∧ Aside0 (w'.heap[gb345]? = some (.cells #[(.slice Ao11 t338.length co11), (.slice Ao15 t341.length co15)] 43 (0, 0))) ∧ Aside0 (w'.heap[gb360]? = some (.cells #[(.slice Ao23 t350.length co23), (.slice Ao25 t353.length co25), u361002] 27 (0, 0))) ∧ Aside0 (IsS55 w w' g337 t335 x338001_1) ∧ Aside0 (Below w.heap.size w w'))
 case atStart => exact ⟨(t361), (t362), (t356), (.slice Ao27 t356.length co27), (by first | rfl | (simp; done) | (simp [*]; done)), H', ⟨Nat.le_refl _⟩, ⟨ZR HO340.out⟩, ⟨ZR HO343.out⟩, ⟨ZR (Kd.R_mono HO352.out (fun _ hk => trivial))⟩, ⟨ZR HO355.out⟩, ⟨ZR HO358.out⟩, ⟨ZK BK334.out⟩, ⟨ZK BK345.out⟩, ⟨ZK BK360.out⟩, ⟨by repeat (first | (with_reducible first | exact HI337.out | apply IsS55.alloc | apply IsS55.drewN | apply IsS55.drew | apply IsS55.set_1 | refine IsS55.far ?_ NB337_334.out _ | refine IsS55.far ?_ NB337_345.out _ | refine IsS55.far ?_ NB337_360.out _) | exact HI337.out)⟩, ⟨by repeat (first | (with_reducible first | exact HB.out | apply below_alloc | apply pw_below_drewN | apply below_drew1 | refine below_set ?_ (IsS55.ge HI337.out) | refine below_set ?_ GE334.out | refine below_set ?_ GE345.out | refine below_set ?_ GE360.out) | exact HB.out)⟩⟩
 case round =>
  clear H'
  try clear c1
  try clear p2
  try clear c15
  try clear c16
  try clear c17
  obtain ⟨x8_1, x338001_1, x361002_1, u361002, rfl, HA, HK1, HO_346000, HO_346001, HO_361000, HO_361001, HO_361002, BK334, BK345, BK360, HI337, HB⟩ := hrel
  cases gk with
  | zero => exact absurd HA.out (by simp [spec_DrawRunTo.l0])
  | succ k1 =>
   have H := HA.out
   clear HA
   simp only [spec_DrawRunTo.l0] at H
   by_cases c30 : x8_1 > 0
   ·rw [if_pos c30] at H
    have c30b0 : decide (0 < x8_1) = true := decide_eq_true c30
    clear c30
    replace H := Option.bind_eq_some_iff.mp H
    obtain ⟨⟨t363, t364⟩, A310, H⟩ := H
    replace H : ((spec_l6Rd_pick.f k1 t335 t364 10).bind fun bt365 => (if x361002_1.length < 8796093022208 then (spec_DrawRunTo.l0 k1 (wrap64 (x8_1 - 1)) t335 bt365.2 t350 t353 (x361002_1 ++ [(⟨t363, bt365.1⟩ : S50)])) else (none))) = some (r1, r2, r3, r4) := H
    have A31 := Aside0.mk A310
    clear A310
    replace H := Option.bind_eq_some_iff.mp H
    obtain ⟨⟨t365, t366⟩, A320, H⟩ := H
    replace H : (if x361002_1.length < 8796093022208 then (spec_DrawRunTo.l0 k1 (wrap64 (x8_1 - 1)) t335 t366 t350 t353 (x361002_1 ++ [(⟨t363, t365⟩ : S50)])) else (none)) = some (r1, r2, r3, r4) := H
    have A32 := Aside0.mk A320
    clear A320
    by_cases c33 : x361002_1.length < 8796093022208
    ·rw [if_pos c33] at H
     have LMc33 := Aside0.mk c33
     clear c33
     obtain ⟨y367, hy367⟩ : ∃ y_ : List (S50), y_ = (x361002_1 ++ [(⟨t363, t365⟩ : S50)]) := ⟨_, rfl⟩
     replace H : (spec_DrawRunTo.l0 k1 (wrap64 (x8_1 - 1)) t335 t366 t350 t353 y367) = some (r1, r2, r3, r4) := by first | (rw [hy367]; with_reducible exact H) | (have H2_ := (Option.bind_some _ _).symm.trans H; rw [hy367]; with_reducible exact H2_) | (have H2_ := (Option.bind_some _ _).symm.trans H; with_reducible exact H2_) | with_reducible exact H | (rw [hy367]; exact H) | exact H
     have Ny367 := Aside0.mk hy367
     clear hy367
     have H' := Aside0.mk H
     clear H
     try go_wp2
     have n0_ := Aside0.mk (Kd.R_drew HO_346000.out)
     have n1_ := Aside0.mk (Kd.R_drew HO_346001.out)
     have n2_ := Aside0.mk (Kd.R_drew HO_361000.out)
     have n3_ := Aside0.mk (Kd.R_drew HO_361001.out)
     have n4_ := Aside0.mk (Kd.R_drew HO_361002.out)
     have n5_ := Aside0.mk (blk_drew BK334.out)
     have n6_ := Aside0.mk (blk_drew BK345.out)
     have n7_ := Aside0.mk (blk_drew BK360.out)
     have n8_ := Aside0.mk (IsS55.drew HI337.out)
     have n9_ := Aside0.mk (below_drew1 HB.out)
     clear HO_346000
     clear HO_346001
     clear HO_361000
     clear HO_361001
     clear HO_361002
     clear BK334
     clear BK345
     clear BK360
     clear HI337
     clear HB
     have HO_346000 := n0_
     have HO_346001 := n1_
     have HO_361000 := n2_
     have HO_361001 := n3_
     have HO_361002 := n4_
     have BK334 := n5_
     have BK345 := n6_
     have BK360 := n7_
     have HI337 := n8_
     have HB := n9_
     clear n0_ n1_ n2_ n3_ n4_ n5_ n6_ n7_ n8_ n9_
     refine start_ (n := 11) (S := fun w' => w'.cell? ⟨gb360, 0, none⟩ = some (.slice Ao23 t350.length co23) ∧ w'.cell? ⟨gb360, 1, none⟩ = some (.slice Ao25 t353.length co25) ∧ w'.cell? ⟨gb360, 2, none⟩ = some (u361002)) (ds := [10]) #[false, false, false, false, false, false, false, false, false, false, false] (by kernel_rfl) rfl rfl ⟨(blk_cell BK360.out 0).trans rfl, (blk_cell BK360.out 1).trans rfl, (blk_cell BK360.out 2).trans rfl⟩ (fun hHeld => ?_); refine with_tabW spec_DrawRunTo.tab7 spec_DrawRunTo.bits7 (fun HT_ HW_ => ?_)
     generalize wr.drew = w34 at HO_346000 HO_346001 HO_361000 HO_361001 HO_361002 BK334 BK345 BK360 HI337 HB hHeld ⊢
     refine pure_ (i := 0) (N := some 27) (v := ?_) (a' := ?_) #[true, false, false, false, false, false, false, false, false, false, false] rfl rfl (any_of HT_.out (by kernel_rfl)) (fun _ _ _ h => h) (Or.inl ⟨by rfl, ?_⟩) ?_ ?_
     rotate_left
     ·intro w'
      go_simp
      with_reducible rfl
     rotate_left
     ·simp only [Act.put, List.setIfInBounds_toArray, List.set_cons_zero, List.set_cons_succ, i64_w, i32_w]
      rfl
     refine pure_ (i := 2) (N := some 29) (v := ?_) (a' := ?_) #[true, false, true, false, false, false, false, false, false, false, false] rfl rfl (any_of HT_.out (by kernel_rfl)) (fun _ _ _ h => h) (Or.inl ⟨by rfl, ?_⟩) ?_ ?_
     rotate_left
     ·intro w'
      go_simp
      with_reducible rfl
     rotate_left
     ·simp only [Act.put, List.setIfInBounds_toArray, List.set_cons_zero, List.set_cons_succ, i64_w, i32_w]
      rfl
     refine pure_ (i := 4) (N := some 31) (v := ?_) (a' := ?_) #[true, false, true, false, true, false, false, false, false, false, false] rfl rfl (any_of HT_.out (by kernel_rfl)) (fun _ _ _ h => h) (Or.inl ⟨by rfl, ?_⟩) ?_ ?_
     rotate_left
     ·intro w'
      go_simp
      with_reducible rfl
     rotate_left
     ·simp only [Act.put, List.setIfInBounds_toArray, List.set_cons_zero, List.set_cons_succ, i64_w, i32_w]
      rfl
     refine take_ (i := 1) (N := some 28) (v := ?_) (a' := ?_) #[true, true, true, false, true, false, false, false, false, false, false] rfl rfl (take_ofW HT_.out HW_.out (by kernel_rfl)) (fun _ _ _ h => h) (Or.inl ⟨by rfl, ?_⟩) hHeld ?_ ?_
     rotate_left
     ·rintro w' ⟨s0, s1, s2⟩
      go_simp
      with_reducible rfl
     rotate_left
     ·simp only [Act.put, List.setIfInBounds_toArray, List.set_cons_zero, List.set_cons_succ, i64_w, i32_w]
      rfl
     refine one_ (i := 3) (N := some 30) #[true, true, true, true, true, false, false, false, false, false, false] rfl rfl (one_of HT_.out (by kernel_rfl)) (by decide) (fun K hK => ?_)
     refine goes_ Try.func17 (by kernel_rfl) rfl #[.pointer (some ⟨g337, 0, none⟩), .int .i64 3] (by rfl) rfl rfl ZG ?_
     with_reducible refine (spec_l6Rd_pick.calls k1 g337 t335 x338001_1 3 t363 t364 w _ ?side1 ?side2 A31.out).mono ?_
     (case side1 => repeat (first | (with_reducible first | exact HI337.out | apply IsS55.alloc | apply IsS55.drewN | apply IsS55.drew | apply IsS55.set_1 | refine IsS55.far ?_ NB337_334.out _ | refine IsS55.far ?_ NB337_345.out _ | refine IsS55.far ?_ NB337_360.out _) | exact HI337.out))
     (case side2 => repeat (first | (with_reducible first | exact HB.out | apply below_alloc | apply pw_below_drewN | apply below_drew1 | refine below_set ?_ (IsS55.ge HI337.out) | refine below_set ?_ GE334.out | refine below_set ?_ GE345.out | refine below_set ?_ GE360.out) | exact HB.out))
     rintro e w35 ⟨rfl, hi, hb, hk⟩
     refine ⟨_, rfl, ?_⟩
     have n0_ := Aside0.mk (Kd.R_mono (Kd.R_keep (IsS55.apart (show IsS55 w _ g337 t335 x338001_1 from by repeat (first | (with_reducible first | exact HI337.out | apply IsS55.alloc | apply IsS55.drewN | apply IsS55.drew | apply IsS55.set_1 | refine IsS55.far ?_ NB337_334.out _ | refine IsS55.far ?_ NB337_345.out _ | refine IsS55.far ?_ NB337_360.out _) | exact HI337.out)) (ZR HO_346000.out) (by decide)) hk (fun _ h => h.2)) (fun _ h => h.1))
     have n1_ := Aside0.mk (Kd.R_mono (Kd.R_keep (IsS55.apart (show IsS55 w _ g337 t335 x338001_1 from by repeat (first | (with_reducible first | exact HI337.out | apply IsS55.alloc | apply IsS55.drewN | apply IsS55.drew | apply IsS55.set_1 | refine IsS55.far ?_ NB337_334.out _ | refine IsS55.far ?_ NB337_345.out _ | refine IsS55.far ?_ NB337_360.out _) | exact HI337.out)) (ZR HO_346001.out) (by decide)) hk (fun _ h => h.2)) (fun _ h => h.1))
     have n2_ := Aside0.mk (Kd.R_mono (Kd.R_keep (IsS55.apart (show IsS55 w _ g337 t335 x338001_1 from by repeat (first | (with_reducible first | exact HI337.out | apply IsS55.alloc | apply IsS55.drewN | apply IsS55.drew | apply IsS55.set_1 | refine IsS55.far ?_ NB337_334.out _ | refine IsS55.far ?_ NB337_345.out _ | refine IsS55.far ?_ NB337_360.out _) | exact HI337.out)) (ZR HO_361000.out) (by decide)) hk (fun _ h => h.2)) (fun _ h => h.1))
     have n3_ := Aside0.mk (Kd.R_mono (Kd.R_keep (IsS55.apart (show IsS55 w _ g337 t335 x338001_1 from by repeat (first | (with_reducible first | exact HI337.out | apply IsS55.alloc | apply IsS55.drewN | apply IsS55.drew | apply IsS55.set_1 | refine IsS55.far ?_ NB337_334.out _ | refine IsS55.far ?_ NB337_345.out _ | refine IsS55.far ?_ NB337_360.out _) | exact HI337.out)) (ZR HO_361001.out) (by decide)) hk (fun _ h => h.2)) (fun _ h => h.1))
     have n4_ := Aside0.mk (Kd.R_mono (Kd.R_keep (IsS55.apart (show IsS55 w _ g337 t335 x338001_1 from by repeat (first | (with_reducible first | exact HI337.out | apply IsS55.alloc | apply IsS55.drewN | apply IsS55.drew | apply IsS55.set_1 | refine IsS55.far ?_ NB337_334.out _ | refine IsS55.far ?_ NB337_345.out _ | refine IsS55.far ?_ NB337_360.out _) | exact HI337.out)) (ZR HO_361002.out) (by decide)) hk (fun _ h => h.2)) (fun _ h => h.1))
     have n5_ := ZL hk BK334 NB334_337
     have n6_ := ZL hk BK345 NB345_337
     have n7_ := ZL hk BK360 NB360_337
     have n8_ := Aside0.mk (hb)
     have n9_ := Aside0.mk (hi)
     clear HO_346000
     clear HO_346001
     clear HO_361000
     clear HO_361001
     clear HO_361002
     clear BK334
     clear BK345
     clear BK360
     clear HB
     clear HI337
     have HO_346000 := n0_
     have HO_346001 := n1_
     have HO_361000 := n2_
     have HO_361001 := n3_
     have HO_361002 := n4_
     have BK334 := n5_
     have BK345 := n6_
     have BK360 := n7_
     have HB := n8_
     have HI337 := n9_
     clear n0_ n1_ n2_ n3_ n4_ n5_ n6_ n7_ n8_ n9_
     (try clear hb)
     (try clear hb2)
     (try clear hk)
     (try clear hi)
     refine hK.out _ _ ⟨(blk_cell BK360.out 0).trans rfl, (blk_cell BK360.out 1).trans rfl, (blk_cell BK360.out 2).trans rfl⟩ (fun hHeld => ?_)
     clear hK K
     refine ZNO 30 ?_
     refine one_ (i := 5) (N := some 32) #[true, true, true, true, true, true, false, false, false, false, false] rfl rfl (one_of HT_.out (by kernel_rfl)) (by decide) (fun K hK => ?_)
     refine goes_ Try.func17 (by kernel_rfl) rfl #[.pointer (some ⟨g337, 0, none⟩), .int .i64 10] (by rfl) rfl rfl ZG ?_
     with_reducible refine (spec_l6Rd_pick.calls k1 g337 t335 t364 10 t365 t366 w _ ?side1 ?side2 A32.out).mono ?_
     (case side1 => repeat (first | (with_reducible first | exact HI337.out | apply IsS55.alloc | apply IsS55.drewN | apply IsS55.drew | apply IsS55.set_1 | refine IsS55.far ?_ NB337_334.out _ | refine IsS55.far ?_ NB337_345.out _ | refine IsS55.far ?_ NB337_360.out _) | exact HI337.out))
     (case side2 => repeat (first | (with_reducible first | exact HB.out | apply below_alloc | apply pw_below_drewN | apply below_drew1 | refine below_set ?_ (IsS55.ge HI337.out) | refine below_set ?_ GE334.out | refine below_set ?_ GE345.out | refine below_set ?_ GE360.out) | exact HB.out))
     rintro e w36 ⟨rfl, hi, hb, hk⟩
     refine ⟨_, rfl, ?_⟩
     have n0_ := Aside0.mk (Kd.R_mono (Kd.R_keep (IsS55.apart (show IsS55 w _ g337 t335 t364 from by repeat (first | (with_reducible first | exact HI337.out | apply IsS55.alloc | apply IsS55.drewN | apply IsS55.drew | apply IsS55.set_1 | refine IsS55.far ?_ NB337_334.out _ | refine IsS55.far ?_ NB337_345.out _ | refine IsS55.far ?_ NB337_360.out _) | exact HI337.out)) (ZR HO_346000.out) (by decide)) hk (fun _ h => h.2)) (fun _ h => h.1))
     have n1_ := Aside0.mk (Kd.R_mono (Kd.R_keep (IsS55.apart (show IsS55 w _ g337 t335 t364 from by repeat (first | (with_reducible first | exact HI337.out | apply IsS55.alloc | apply IsS55.drewN | apply IsS55.drew | apply IsS55.set_1 | refine IsS55.far ?_ NB337_334.out _ | refine IsS55.far ?_ NB337_345.out _ | refine IsS55.far ?_ NB337_360.out _) | exact HI337.out)) (ZR HO_346001.out) (by decide)) hk (fun _ h => h.2)) (fun _ h => h.1))
     have n2_ := Aside0.mk (Kd.R_mono (Kd.R_keep (IsS55.apart (show IsS55 w _ g337 t335 t364 from by repeat (first | (with_reducible first | exact HI337.out | apply IsS55.alloc | apply IsS55.drewN | apply IsS55.drew | apply IsS55.set_1 | refine IsS55.far ?_ NB337_334.out _ | refine IsS55.far ?_ NB337_345.out _ | refine IsS55.far ?_ NB337_360.out _) | exact HI337.out)) (ZR HO_361000.out) (by decide)) hk (fun _ h => h.2)) (fun _ h => h.1))
     have n3_ := Aside0.mk (Kd.R_mono (Kd.R_keep (IsS55.apart (show IsS55 w _ g337 t335 t364 from by repeat (first | (with_reducible first | exact HI337.out | apply IsS55.alloc | apply IsS55.drewN | apply IsS55.drew | apply IsS55.set_1 | refine IsS55.far ?_ NB337_334.out _ | refine IsS55.far ?_ NB337_345.out _ | refine IsS55.far ?_ NB337_360.out _) | exact HI337.out)) (ZR HO_361001.out) (by decide)) hk (fun _ h => h.2)) (fun _ h => h.1))
     have n4_ := Aside0.mk (Kd.R_mono (Kd.R_keep (IsS55.apart (show IsS55 w _ g337 t335 t364 from by repeat (first | (with_reducible first | exact HI337.out | apply IsS55.alloc | apply IsS55.drewN | apply IsS55.drew | apply IsS55.set_1 | refine IsS55.far ?_ NB337_334.out _ | refine IsS55.far ?_ NB337_345.out _ | refine IsS55.far ?_ NB337_360.out _) | exact HI337.out)) (ZR HO_361002.out) (by decide)) hk (fun _ h => h.2)) (fun _ h => h.1))
     have n5_ := ZL hk BK334 NB334_337
     have n6_ := ZL hk BK345 NB345_337
     have n7_ := ZL hk BK360 NB360_337
     have n8_ := Aside0.mk (hb)
     have n9_ := Aside0.mk (hi)
     clear HO_346000
     clear HO_346001
     clear HO_361000
     clear HO_361001
     clear HO_361002
     clear BK334
     clear BK345
     clear BK360
     clear HB
     clear HI337
     have HO_346000 := n0_
     have HO_346001 := n1_
     have HO_361000 := n2_
     have HO_361001 := n3_
     have HO_361002 := n4_
     have BK334 := n5_
     have BK345 := n6_
     have BK360 := n7_
     have HB := n8_
     have HI337 := n9_
     clear n0_ n1_ n2_ n3_ n4_ n5_ n6_ n7_ n8_ n9_
     (try clear hb)
     (try clear hb2)
     (try clear hk)
     (try clear hi)
     refine hK.out _ _ ⟨(blk_cell BK360.out 0).trans rfl, (blk_cell BK360.out 1).trans rfl, (blk_cell BK360.out 2).trans rfl⟩ (fun hHeld => ?_)
     clear hK K
     refine ZNO 32 ?_
     refine pure_ (i := 6) (N := some 33) (v := ?_) (a' := ?_) #[true, true, true, true, true, true, true, false, false, false, false] rfl rfl (any_of HT_.out (by kernel_rfl)) (fun _ _ _ h => h) (Or.inl ⟨by rfl, ?_⟩) ?_ ?_
     rotate_left
     ·intro w'
      go_simp
      with_reducible rfl
     rotate_left
     ·simp only [Act.put, List.setIfInBounds_toArray, List.set_cons_zero, List.set_cons_succ, i64_w, i32_w]
      rfl
     refine one_ (i := 7) (N := some 34) #[true, true, true, true, true, true, true, true, false, false, false] rfl rfl (one_of HT_.out (by kernel_rfl)) (by decide) (fun K hK => ?_)
     refine value_ (w1 := ?_) (v := ?_) (by rfl) rfl ?_ ?_
     rotate_left 2
     ·go_simp
      constructor
      ·rfl
      ·rfl
     refine hK.out _ _ ⟨(blk_cell (blk_alloc BK360.out _) 0).trans rfl, (blk_cell (blk_alloc BK360.out _) 1).trans rfl, (blk_cell (blk_alloc BK360.out _) 2).trans rfl⟩ (fun hHeld => ?_)
     clear hK K
     refine ZNO 34 ?_
     refine one_ (i := 8) (N := some 35) #[true, true, true, true, true, true, true, true, true, false, false] rfl rfl (one_of HT_.out (by kernel_rfl)) (by decide) (fun K hK => ?_)
     refine Kd.R_append_step k50 (w0 := w) w.heap.size (by rfl) (.tmp 28) (.tmp 34) 25 50 (.agg #[(.int .i64 0), (.int .i64 0)]) 16 rfl Try.underlying25 info50 rfl (by decide) (by omega) u361002 x361002_1 (⟨t363, t365⟩ : S50) [.int .i64 t363, .int .i64 t365] (fun _ => True) (fun _ => False) rfl rfl ?aP (fun _ hk => hk.elim) ?aF ?aO ?aB ?aS ?aL ?_
     (case aP => exact k50_mkM _ _ _ (⟨t363, t365⟩ : S50))
     (case aB => exact (by repeat (first | (with_reducible first | exact HB.out | apply below_alloc | apply pw_below_drewN | apply below_drew1 | refine below_set ?_ (IsS55.ge HI337.out) | refine below_set ?_ GE334.out | refine below_set ?_ GE345.out | refine below_set ?_ GE360.out) | exact HB.out)))
     (case aF => exact (fun _ _ => trivial))
     (case aO => exact (ZR HO_361002.out))
     (case aS => exact (below_size (by repeat (first | (with_reducible first | exact HB.out | apply below_alloc | apply pw_below_drewN | apply below_drew1 | refine below_set ?_ (IsS55.ge HI337.out) | refine below_set ?_ GE334.out | refine below_set ?_ GE345.out | refine below_set ?_ GE360.out) | exact HB.out))))
     (case aL => have := LMc33.out; omega)
     intro v368 w37 ho hb hg hat
     rw [← Ny367.out] at ho
     have n0_ := Aside0.mk (Kd.R_over' (ZR HO_346000.out) (Kd.R_typed (ZR HO_361002.out)) (by decide) hg)
     have n1_ := Aside0.mk (Kd.R_over' (ZR HO_346001.out) (Kd.R_typed (ZR HO_361002.out)) (by decide) hg)
     have n2_ := Aside0.mk (Kd.R_over' (ZR HO_361000.out) (Kd.R_typed (ZR HO_361002.out)) (by decide) hg)
     have n3_ := Aside0.mk (Kd.R_over' (ZR HO_361001.out) (Kd.R_typed (ZR HO_361002.out)) (by decide) hg)
     have n4_ := Aside0.mk (blk_grown (g := gb334) (o := .cells #[.slice none 0 0, .slice none 0 0, .slice none 0 0] 27 (0, 0)) (ZK BK334.out) hg (Kd.R_ne HO_361002.out BK334.out (by decide)))
     have n5_ := Aside0.mk (blk_grown (g := gb345) (o := .cells #[.slice Ao11 t338.length co11, .slice Ao15 t341.length co15] 43 (0, 0)) (ZK BK345.out) hg (Kd.R_ne HO_361002.out BK345.out (by decide)))
     have n6_ := Aside0.mk (blk_grown (g := gb360) (o := .cells #[.slice Ao23 t350.length co23, .slice Ao25 t353.length co25, u361002] 27 (0, 0)) (ZK BK360.out) hg (Kd.R_ne HO_361002.out BK360.out (by decide)))
     have n7_ := Aside0.mk (IsS55.grown (by repeat (first | (with_reducible first | exact HI337.out | apply IsS55.alloc | apply IsS55.drewN | apply IsS55.drew | apply IsS55.set_1 | refine IsS55.far ?_ NB337_334.out _ | refine IsS55.far ?_ NB337_345.out _ | refine IsS55.far ?_ NB337_360.out _) | exact HI337.out)) hg (IsS55.own_ne HI337.out HO_361002.out (by decide)))
     have n8_ := Aside0.mk (hb)
     have n9_ := Aside0.mk (ho)
     clear HO_346000
     clear HO_346001
     clear HO_361000
     clear HO_361001
     clear BK334
     clear BK345
     clear BK360
     clear HI337
     clear HB
     clear HO_361002
     have HO_346000 := n0_
     have HO_346001 := n1_
     have HO_361000 := n2_
     have HO_361001 := n3_
     have BK334 := n4_
     have BK345 := n5_
     have BK360 := n6_
     have HI337 := n7_
     have HB := n8_
     have HO369 := n9_
     clear n0_ n1_ n2_ n3_ n4_ n5_ n6_ n7_ n8_ n9_
     clear ho hb hg hat
     obtain ⟨Ao38, co38, eo38⟩ := Kd.R_slice HO369.out
     (first | subst eo38 | (injection eo38 with f1_ f2_ f3_; have f4_ := f1_.symm; have f5_ := f3_.symm; clear f1_ f2_ f3_; subst f4_; subst f5_))
     refine hK.out _ _ ⟨(blk_cell BK360.out 0).trans rfl, (blk_cell BK360.out 1).trans rfl, (blk_cell BK360.out 2).trans rfl⟩ (fun hHeld => ?_)
     clear hK K
     refine ZNO 35 ?_
     refine pure_ (i := 9) (N := some 36) (v := ?_) (a' := ?_) #[true, true, true, true, true, true, true, true, true, true, false] rfl rfl (any_of HT_.out (by kernel_rfl)) (fun _ _ _ h => h) (Or.inl ⟨by rfl, ?_⟩) ?_ ?_
     rotate_left
     ·intro w'
      go_simp
      with_reducible rfl
     rotate_left
     ·simp only [Act.put, List.setIfInBounds_toArray, List.set_cons_zero, List.set_cons_succ, i64_w, i32_w]
      rfl
     refine last_ (i := 10) (N := none) #[true, true, true, true, true, true, true, true, true, true, true] rfl rfl (one_of HT_.out (by kernel_rfl)) (by decide) (fun K hK => ?_)
     have hs39 : w37.cell? ⟨gb360, 2, none⟩ = some (u361002) := (blk_cell BK360.out 2).trans rfl
     have hfs39 := blk_frozen BK360.out 2
     have hns39_0 := NB334_360.out
     have hns39_1 := NB345_360.out
     have hms39_0 := NB360_334.out
     have hms39_1 := NB360_345.out
     refine skip_ (w1 := ?_) (by rfl) rfl ?_ ?_
     rotate_left
     ·go_simp
      rfl
     refine hK.out _ _ ?_
     clear hK K
     refine done_ (done_of HT_.out (by kernel_rfl)) ?_
     try go_wp2
     go_roundg k1
     case measure => have := HK1.out; omega
     case rel => exact ⟨(wrap64 (x8_1 - 1)), (t366), (y367), (.slice Ao38 y367.length co38), (by first | rfl | (simp; done) | (simp [*]; done)), H', ⟨by have := HK1.out; omega⟩, ⟨ZR (Kd.R_mono (Kd.R_far (p := ⟨gb360, 2, none⟩) (Kd.R_types HO_346000.out BK360.out (by decide)) (fun _ hk => hk.2) (.slice Ao38 y367.length co38)) (fun _ hk => trivial))⟩, ⟨ZR (Kd.R_mono (Kd.R_far (p := ⟨gb360, 2, none⟩) (Kd.R_types HO_346001.out BK360.out (by decide)) (fun _ hk => hk.2) (.slice Ao38 y367.length co38)) (fun _ hk => trivial))⟩, ⟨ZR (Kd.R_mono (Kd.R_far (p := ⟨gb360, 2, none⟩) (Kd.R_types HO_361000.out BK360.out (by decide)) (fun _ hk => hk.2) (.slice Ao38 y367.length co38)) (fun _ hk => trivial))⟩, ⟨ZR (Kd.R_mono (Kd.R_far (p := ⟨gb360, 2, none⟩) (Kd.R_types HO_361001.out BK360.out (by decide)) (fun _ hk => hk.2) (.slice Ao38 y367.length co38)) (fun _ hk => trivial))⟩, ⟨ZR (Kd.R_mono (Kd.R_far (p := ⟨gb360, 2, none⟩) (Kd.R_types HO369.out BK360.out (by decide)) (fun _ hk => hk.2) (.slice Ao38 y367.length co38)) (fun _ hk => trivial))⟩, ⟨ZZ BK334.out⟩, ⟨ZZ BK345.out⟩, ⟨ZZ BK360.out⟩, ⟨by repeat (first | (with_reducible first | exact HI337.out | apply IsS55.alloc | apply IsS55.drewN | apply IsS55.drew | apply IsS55.set_1 | refine IsS55.far ?_ NB337_334.out _ | refine IsS55.far ?_ NB337_345.out _ | refine IsS55.far ?_ NB337_360.out _) | exact HI337.out)⟩, ⟨by repeat (first | (with_reducible first | exact HB.out | apply below_alloc | apply pw_below_drewN | apply below_drew1 | refine below_set ?_ (IsS55.ge HI337.out) | refine below_set ?_ GE334.out | refine below_set ?_ GE345.out | refine below_set ?_ GE360.out) | exact HB.out)⟩⟩
    ·rw [if_neg c33] at H
     exact absurd H (by simp)
   ·rw [if_neg c30] at H
    have c30b0 : decide (0 < x8_1) = false := decide_eq_false c30
    clear c30
    replace H := Option.bind_eq_some_iff.mp H
    obtain ⟨⟨t370, t371⟩, A400, H⟩ := H
    replace H : (some (t350, t353, x361002_1, wrap64 (t370 - 1))) = some (r1, r2, r3, r4) := H
    have A40 := Aside0.mk A400
    clear A400
    simp only [Option.some.injEq, Prod.mk.injEq] at H
    obtain ⟨rfl, rfl, rfl, rfl⟩ := H
    try go_wp2
    have n0_ := Aside0.mk (Kd.R_drew HO_346000.out)
    have n1_ := Aside0.mk (Kd.R_drew HO_346001.out)
    have n2_ := Aside0.mk (Kd.R_drew HO_361000.out)
    have n3_ := Aside0.mk (Kd.R_drew HO_361001.out)
    have n4_ := Aside0.mk (Kd.R_drew HO_361002.out)
    have n5_ := Aside0.mk (blk_drew BK334.out)
    have n6_ := Aside0.mk (blk_drew BK345.out)
    have n7_ := Aside0.mk (blk_drew BK360.out)
    have n8_ := Aside0.mk (IsS55.drew HI337.out)
    have n9_ := Aside0.mk (below_drew1 HB.out)
    clear HO_346000
    clear HO_346001
    clear HO_361000
    clear HO_361001
    clear HO_361002
    clear BK334
    clear BK345
    clear BK360
    clear HI337
    clear HB
    have HO_346000 := n0_
    have HO_346001 := n1_
    have HO_361000 := n2_
    have HO_361001 := n3_
    have HO_361002 := n4_
    have BK334 := n5_
    have BK345 := n6_
    have BK360 := n7_
    have HI337 := n8_
    have HB := n9_
    clear n0_ n1_ n2_ n3_ n4_ n5_ n6_ n7_ n8_ n9_
    refine start_ (n := 6) (S := fun w' => w'.cell? ⟨gb360, 0, none⟩ = some (.slice Ao23 t350.length co23) ∧ w'.cell? ⟨gb360, 1, none⟩ = some (.slice Ao25 t353.length co25) ∧ w'.cell? ⟨gb360, 2, none⟩ = some (u361002)) (ds := []) #[false, false, false, false, false, false] (by kernel_rfl) rfl rfl ⟨(blk_cell BK360.out 0).trans rfl, (blk_cell BK360.out 1).trans rfl, (blk_cell BK360.out 2).trans rfl⟩ (fun hHeld => ?_)
    generalize wr.drew = w41 at HO_346000 HO_346001 HO_361000 HO_361001 HO_361002 BK334 BK345 BK360 HI337 HB hHeld ⊢
    refine pure_ (i := 1) (N := some 38) (v := ?_) (a' := ?_) #[false, true, false, false, false, false] rfl rfl (by kernel_rfl) (fun _ _ _ h => h) (Or.inl ⟨by rfl, ?_⟩) ?_ ?_
    rotate_left
    ·intro w'
     go_simp
     with_reducible rfl
    rotate_left
    ·simp only [Act.put, List.setIfInBounds_toArray, List.set_cons_zero, List.set_cons_succ, i64_w, i32_w]
     rfl
    refine take_ (i := 0) (N := some 37) (v := ?_) (a' := ?_) #[true, true, false, false, false, false] rfl rfl (by kernel_rfl) (fun _ _ _ h => h) (Or.inl ⟨by rfl, ?_⟩) hHeld ?_ ?_
    rotate_left
    ·rintro w' ⟨s0, s1, s2⟩
     go_simp
     with_reducible rfl
    rotate_left
    ·simp only [Act.put, List.setIfInBounds_toArray, List.set_cons_zero, List.set_cons_succ, i64_w, i32_w]
     rfl
    refine one_ (i := 2) (N := some 39) #[true, true, true, false, false, false] rfl rfl (by kernel_rfl) (by decide) (fun K hK => ?_)
    refine goes_ Try.func17 (by kernel_rfl) rfl #[.pointer (some ⟨g337, 0, none⟩), .int .i64 5] (by rfl) rfl rfl ZG ?_
    with_reducible refine (spec_l6Rd_pick.calls k1 g337 t335 x338001_1 5 t370 t371 w _ ?side1 ?side2 A40.out).mono ?_
    (case side1 => repeat (first | (with_reducible first | exact HI337.out | apply IsS55.alloc | apply IsS55.drewN | apply IsS55.drew | apply IsS55.set_1 | refine IsS55.far ?_ NB337_334.out _ | refine IsS55.far ?_ NB337_345.out _ | refine IsS55.far ?_ NB337_360.out _) | exact HI337.out))
    (case side2 => repeat (first | (with_reducible first | exact HB.out | apply below_alloc | apply pw_below_drewN | apply below_drew1 | refine below_set ?_ (IsS55.ge HI337.out) | refine below_set ?_ GE334.out | refine below_set ?_ GE345.out | refine below_set ?_ GE360.out) | exact HB.out))
    rintro e w42 ⟨rfl, hi, hb, hk⟩
    refine ⟨_, rfl, ?_⟩
    have n0_ := Aside0.mk (Kd.R_mono (Kd.R_keep (IsS55.apart (show IsS55 w _ g337 t335 x338001_1 from by repeat (first | (with_reducible first | exact HI337.out | apply IsS55.alloc | apply IsS55.drewN | apply IsS55.drew | apply IsS55.set_1 | refine IsS55.far ?_ NB337_334.out _ | refine IsS55.far ?_ NB337_345.out _ | refine IsS55.far ?_ NB337_360.out _) | exact HI337.out)) (ZR HO_346000.out) (by decide)) hk (fun _ h => h.2)) (fun _ h => h.1))
    have n1_ := Aside0.mk (Kd.R_mono (Kd.R_keep (IsS55.apart (show IsS55 w _ g337 t335 x338001_1 from by repeat (first | (with_reducible first | exact HI337.out | apply IsS55.alloc | apply IsS55.drewN | apply IsS55.drew | apply IsS55.set_1 | refine IsS55.far ?_ NB337_334.out _ | refine IsS55.far ?_ NB337_345.out _ | refine IsS55.far ?_ NB337_360.out _) | exact HI337.out)) (ZR HO_346001.out) (by decide)) hk (fun _ h => h.2)) (fun _ h => h.1))
    have n2_ := Aside0.mk (Kd.R_mono (Kd.R_keep (IsS55.apart (show IsS55 w _ g337 t335 x338001_1 from by repeat (first | (with_reducible first | exact HI337.out | apply IsS55.alloc | apply IsS55.drewN | apply IsS55.drew | apply IsS55.set_1 | refine IsS55.far ?_ NB337_334.out _ | refine IsS55.far ?_ NB337_345.out _ | refine IsS55.far ?_ NB337_360.out _) | exact HI337.out)) (ZR HO_361000.out) (by decide)) hk (fun _ h => h.2)) (fun _ h => h.1))
    have n3_ := Aside0.mk (Kd.R_mono (Kd.R_keep (IsS55.apart (show IsS55 w _ g337 t335 x338001_1 from by repeat (first | (with_reducible first | exact HI337.out | apply IsS55.alloc | apply IsS55.drewN | apply IsS55.drew | apply IsS55.set_1 | refine IsS55.far ?_ NB337_334.out _ | refine IsS55.far ?_ NB337_345.out _ | refine IsS55.far ?_ NB337_360.out _) | exact HI337.out)) (ZR HO_361001.out) (by decide)) hk (fun _ h => h.2)) (fun _ h => h.1))
    have n4_ := Aside0.mk (Kd.R_mono (Kd.R_keep (IsS55.apart (show IsS55 w _ g337 t335 x338001_1 from by repeat (first | (with_reducible first | exact HI337.out | apply IsS55.alloc | apply IsS55.drewN | apply IsS55.drew | apply IsS55.set_1 | refine IsS55.far ?_ NB337_334.out _ | refine IsS55.far ?_ NB337_345.out _ | refine IsS55.far ?_ NB337_360.out _) | exact HI337.out)) (ZR HO_361002.out) (by decide)) hk (fun _ h => h.2)) (fun _ h => h.1))
    have n5_ := ZL hk BK334 NB334_337
    have n6_ := ZL hk BK345 NB345_337
    have n7_ := ZL hk BK360 NB360_337
    have n8_ := Aside0.mk (hb)
    have n9_ := Aside0.mk (hi)
    clear HO_346000
    clear HO_346001
    clear HO_361000
    clear HO_361001
    clear HO_361002
    clear BK334
    clear BK345
    clear BK360
    clear HB
    clear HI337
    have HO_346000 := n0_
    have HO_346001 := n1_
    have HO_361000 := n2_
    have HO_361001 := n3_
    have HO_361002 := n4_
    have BK334 := n5_
    have BK345 := n6_
    have BK360 := n7_
    have HB := n8_
    have HI337 := n9_
    clear n0_ n1_ n2_ n3_ n4_ n5_ n6_ n7_ n8_ n9_
    (try clear hb)
    (try clear hb2)
    (try clear hk)
    (try clear hi)
    obtain ⟨Ao45, co45, eo45⟩ := Kd.R_slice HO_361002.out
    (first | subst eo45 | (injection eo45 with f1_ f2_ f3_; have f4_ := f1_.symm; have f5_ := f3_.symm; clear f1_ f2_ f3_; subst f4_; subst f5_))
    refine hK.out _ _ ⟨(blk_cell BK360.out 0).trans rfl, (blk_cell BK360.out 1).trans rfl, (blk_cell BK360.out 2).trans rfl⟩ (fun hHeld => ?_)
    clear hK K
    refine ZNO 39 ?_
    refine pure_ (i := 3) (N := some 40) (v := ?_) (a' := ?_) #[true, true, true, true, false, false] rfl rfl (by kernel_rfl) (fun _ _ _ h => h) (Or.inl ⟨by rfl, ?_⟩) ?_ ?_
    rotate_left
    ·intro w'
     go_simp
     with_reducible rfl
    rotate_left
    ·simp only [Act.put, List.setIfInBounds_toArray, List.set_cons_zero, List.set_cons_succ, i64_w, i32_w]
     rfl
    refine one_ (i := 4) (N := none) #[true, true, true, true, true, false] rfl rfl (by kernel_rfl) (by decide) (fun K hK => ?_)
    have hs43 : w42.cell? ⟨gb334, 0, none⟩ = some (.slice none 0 0) := (blk_cell BK334.out 0).trans rfl
    have hfs43 := blk_frozen BK334.out 0
    have hns43_1 := NB345_334.out
    have hns43_2 := NB360_334.out
    have hms43_1 := NB334_345.out
    have hms43_2 := NB334_360.out
    have hs44 : w42.cell? ⟨gb334, 1, none⟩ = some (.slice none 0 0) := (blk_cell BK334.out 1).trans rfl
    have hfs44 := blk_frozen BK334.out 1
    have hns44_1 := NB345_334.out
    have hns44_2 := NB360_334.out
    have hms44_1 := NB334_345.out
    have hms44_2 := NB334_360.out
    have hs46 : w42.cell? ⟨gb334, 2, none⟩ = some (.slice none 0 0) := (blk_cell BK334.out 2).trans rfl
    have hfs46 := blk_frozen BK334.out 2
    have hns46_1 := NB345_334.out
    have hns46_2 := NB360_334.out
    have hms46_1 := NB334_345.out
    have hms46_2 := NB334_360.out
    refine skip_ (w1 := ?_) (by rfl) rfl ?_ ?_
    rotate_left
    ·go_simp
     rfl
    refine hK.out _ _ ⟨((cell_far (p := ⟨gb334, _, none⟩) NB360_334.out _).trans (((cell_far (p := ⟨gb334, _, none⟩) NB360_334.out _).trans (((cell_far (p := ⟨gb334, _, none⟩) NB360_334.out _).trans (hHeld.1)))))), ((cell_far (p := ⟨gb334, _, none⟩) NB360_334.out _).trans (((cell_far (p := ⟨gb334, _, none⟩) NB360_334.out _).trans (((cell_far (p := ⟨gb334, _, none⟩) NB360_334.out _).trans (hHeld.2.1)))))), ((cell_far (p := ⟨gb334, _, none⟩) NB360_334.out _).trans (((cell_far (p := ⟨gb334, _, none⟩) NB360_334.out _).trans (((cell_far (p := ⟨gb334, _, none⟩) NB360_334.out _).trans (hHeld.2.2))))))⟩ (fun hHeld => ?_)
    clear hK K
    refine pure_ (i := 5) (N := some 3) (v := ?_) (a' := ?_) #[true, true, true, true, true, true] rfl rfl (by kernel_rfl) (fun _ _ _ h => h) (Or.inl ⟨by rfl, ?_⟩) ?_ ?_
    rotate_left
    ·intro w'
     go_simp
     with_reducible rfl
    rotate_left
    ·simp only [Act.put, List.setIfInBounds_toArray, List.set_cons_zero, List.set_cons_succ, i64_w, i32_w]
     rfl
    refine done_ (by kernel_rfl) ?_
    try go_wp2
    refine bodyPost_ret (results_ct rfl _ _ gb334 27 #[.slice Ao23 t350.length co23, .slice Ao25 t353.length co25, .slice Ao45 x361002_1.length co45] (0, 0) _ rfl (ZZ BK334.out) Try.underlying27 rfl (by kernel_rfl)) rfl ?_
    exact ⟨_, _, _, ZE, by (with_reducible repeat (first | apply Kd.R_alloc | apply Kd.R_drewN | apply Kd.R_drew)); exact Kd.R_mono (Kd.R_far (p := ⟨gb334, 2, none⟩) (Kd.R_far (p := ⟨gb334, 1, none⟩) (Kd.R_far (p := ⟨gb334, 0, none⟩) (Kd.R_types HO_361000.out BK334.out (by decide)) (fun _ hk => hk.2) (.slice Ao23 t350.length co23)) (fun _ hk => hk.2) (.slice Ao25 t353.length co25)) (fun _ hk => hk.2) (.slice Ao45 x361002_1.length co45)) (fun _ hk => trivial), by (with_reducible repeat (first | apply Kd.R_alloc | apply Kd.R_drewN | apply Kd.R_drew)); exact Kd.R_mono (Kd.R_far (p := ⟨gb334, 2, none⟩) (Kd.R_far (p := ⟨gb334, 1, none⟩) (Kd.R_far (p := ⟨gb334, 0, none⟩) (Kd.R_types HO_361001.out BK334.out (by decide)) (fun _ hk => hk.2) (.slice Ao23 t350.length co23)) (fun _ hk => hk.2) (.slice Ao25 t353.length co25)) (fun _ hk => hk.2) (.slice Ao45 x361002_1.length co45)) (fun _ hk => trivial), by (with_reducible repeat (first | apply Kd.R_alloc | apply Kd.R_drewN | apply Kd.R_drew)); exact Kd.R_mono (Kd.R_far (p := ⟨gb334, 2, none⟩) (Kd.R_far (p := ⟨gb334, 1, none⟩) (Kd.R_far (p := ⟨gb334, 0, none⟩) (Kd.R_types HO_361002.out BK334.out (by decide)) (fun _ hk => hk.2) (.slice Ao23 t350.length co23)) (fun _ hk => hk.2) (.slice Ao25 t353.length co25)) (fun _ hk => hk.2) (.slice Ao45 x361002_1.length co45)) (fun _ hk => trivial), by repeat (first | (with_reducible first | exact HB.out | apply below_alloc | apply pw_below_drewN | apply below_drew1 | refine below_set ?_ (IsS55.ge HI337.out) | refine below_set ?_ GE334.out | refine below_set ?_ GE345.out | refine below_set ?_ GE360.out) | exact HB.out)⟩

end Go.Proofs.Ytdmejmdifnicmaa.A
