/- What Go functions compute, as Lean functions, and for each its contract: for every input at which the Lean function answers the call returns that; written by wip/tools/pr.py over the kit's print. -/
import Derived.Test.YtdmejmdifnicmaaAx0
import Derived.Test.YtdmejmdifnicmaaAx13
import Derived.Test.YtdmejmdifnicmaaAx14
namespace Go.Proofs.Ytdmejmdifnicmaa.A
open Go.RowKit Go.Proofs.YtdmejmdifnicmaaW.PrintWords Go.Proofs.YtdmejmdifnicmaaW.PrintLast Go.Proofs.YtdmejmdifnicmaaW.PrintMore
attribute [local go_sem] max2_int min2_int max_two min_two max_three min_three max_four min_four   -- for this text's walks alone
set_option linter.unusedVariables false
set_option linter.unusedSimpArgs false

/-! ### spec_RunOf: function 15 -/
def spec_RunOf.f (k : Nat) (l0_0 : List (S57)) (l0_1 : List (S66)) (l1 : List Int) : Option (List Int × (List (S52)) × (List (S50)) × Bool) := (spec_NumsOk.f k l0_0 l0_1 l1).bind fun t293 => (if t293 = true then ((some (([] : List Int) : List Int)).bind fun y294 => (if y294.length + l1.length < 17592186044416 then ((spec_l3Do.f k l0_1 (y294 ++ l1) ([] : List (S52)) ([] : List (S50))).bind fun bt300 => (some (bt300.1, bt300.2.1, bt300.2.2, true))) else (none))) else (some (([] : List Int), ([] : List (S52)), ([] : List (S50)), false)))
def spec_RunOf.T3 : Bool × List (List Nat × List Nat) := (true, [([], []), ([0], [0]), ([], []), ([], []), ([2, 3], [2, 3]), ([4], [4]), ([1, 5, 4], [1, 5]), ([6, 6, 0, 1, 2, 3, 4, 5, 6], [6]), ([7, 0, 1, 2, 3, 4, 5, 6, 7], [])])
def spec_RunOf.B3 : List Nat := [0, 1, 0, 0, 12, 28, 63, 127, 255]
theorem spec_RunOf.tab3 : rtab .any (opsOf Try.f15 3) = spec_RunOf.T3 := by kernel_rfl
theorem spec_RunOf.bits3 : waitsOk spec_RunOf.T3.2 spec_RunOf.B3 = true := by kernel_rfl
set_option maxHeartbeats 8000000 in
set_option maxRecDepth 100000 in
theorem spec_RunOf.calls (k : Nat) (A0_0 : Option Addr) (c0_0 : Nat) (l0_0 : List (S57)) (A0_1 : Option Addr) (c0_1 : Nat) (l0_1 : List (S66)) (A1 : Option Addr) (c1 : Nat) (l1 : List Int) (r1 : List Int) (r2 : List (S52)) (r3 : List (S50)) (r4 : Bool) (w : World) (hr0_0 : Kd.C k57 w A0_0 l0_0.length l0_0) (hc0_0 : l0_0.length ≤ c0_0) (hr0_1 : Kd.C k66 w A0_1 l0_1.length l0_1) (hc0_1 : l0_1.length ≤ c0_1) (hr1 : Kd.C (Kd.int .i64) w A1 l1.length l1) (hc1 : l1.length ≤ c1) (h : spec_RunOf.f k l0_0 l0_1 l1 = some (r1, r2, r3, r4)) :
  Calls Try.prog 15 #[.agg #[.slice A0_0 l0_0.length c0_0, .slice A0_1 l0_1.length c0_1], .slice A1 l1.length c1] w fun e w' => ∃ v0_ v1_ v2_ : Value, e = .returned (.tuple #[.agg #[v0_, v1_, v2_], .bool r4]) ∧ Kd.R (Kd.int .i64) 3 w' w.heap.size (fun _ => True) v0_ r1 ∧ Kd.R k52 52 w' w.heap.size (fun _ => True) v1_ r2 ∧ Kd.R k50 50 w' w.heap.size (fun _ => True) v2_ r3 ∧ Below w.heap.size w w' := by
 have hu43 := Try.underlying43
 have hu27 := Try.underlying27
 have HR0_0 := Aside0.mk hr0_0
 have HC0_0 := Aside0.mk hc0_0
 clear hr0_0 hc0_0
 have HR0_1 := Aside0.mk hr0_1
 have HC0_1 := Aside0.mk hc0_1
 clear hr0_1 hc0_1
 have HR1 := Aside0.mk hr1
 have HC1 := Aside0.mk hc1
 clear hr1 hc1
 have HB := Aside0.mk (Below.refl w.heap.size w)
 have H : ((spec_NumsOk.f k l0_0 l0_1 l1).bind fun t293 => (if t293 = true then ((some (([] : List Int) : List Int)).bind fun y294 => (if y294.length + l1.length < 17592186044416 then ((spec_l3Do.f k l0_1 (y294 ++ l1) ([] : List (S52)) ([] : List (S50))).bind fun bt300 => (some (bt300.1, bt300.2.1, bt300.2.2, true))) else (none))) else (some (([] : List Int), ([] : List (S52)), ([] : List (S50)), false)))) = some (r1, r2, r3, r4) := h
 clear h
 replace H := Option.bind_eq_some_iff.mp H
 obtain ⟨t293, A30, H⟩ := H
 replace H : (if t293 = true then ((some (([] : List Int) : List Int)).bind fun y294 => (if y294.length + l1.length < 17592186044416 then ((spec_l3Do.f k l0_1 (y294 ++ l1) ([] : List (S52)) ([] : List (S50))).bind fun bt300 => (some (bt300.1, bt300.2.1, bt300.2.2, true))) else (none))) else (some (([] : List Int), ([] : List (S52)), ([] : List (S50)), false))) = some (r1, r2, r3, r4) := H
 have A3 := Aside0.mk A30
 clear A30
 by_cases c4 : t293 = true
 ·subst c4
  have H1 : ((some (([] : List Int) : List Int)).bind fun y294 => (if y294.length + l1.length < 17592186044416 then ((spec_l3Do.f k l0_1 (y294 ++ l1) ([] : List (S52)) ([] : List (S50))).bind fun bt300 => (some (bt300.1, bt300.2.1, bt300.2.2, true))) else (none))) = some (r1, r2, r3, r4) := by rw [if_pos rfl] at H; exact H
  clear H
  have H := H1
  clear H1
  obtain ⟨y294, hy294⟩ : ∃ y_ : List Int, y_ = (([] : List Int)) := ⟨_, rfl⟩
  replace H : (if y294.length + l1.length < 17592186044416 then ((spec_l3Do.f k l0_1 (y294 ++ l1) ([] : List (S52)) ([] : List (S50))).bind fun bt300 => (some (bt300.1, bt300.2.1, bt300.2.2, true))) else (none)) = some (r1, r2, r3, r4) := by first | (rw [hy294]; with_reducible exact H) | (have H2_ := (Option.bind_some _ _).symm.trans H; rw [hy294]; with_reducible exact H2_) | (have H2_ := (Option.bind_some _ _).symm.trans H; with_reducible exact H2_) | with_reducible exact H | (rw [hy294]; exact H) | exact H
  have Ny294 := Aside0.mk hy294
  clear hy294
  by_cases c5 : y294.length + l1.length < 17592186044416
  ·rw [if_pos c5] at H
   have LMc5 := Aside0.mk c5
   clear c5
   obtain ⟨y297, hy297⟩ : ∃ y_ : List Int, y_ = (y294 ++ l1) := ⟨_, rfl⟩
   replace H : ((spec_l3Do.f k l0_1 y297 ([] : List (S52)) ([] : List (S50))).bind fun bt300 => (some (bt300.1, bt300.2.1, bt300.2.2, true))) = some (r1, r2, r3, r4) := by first | (rw [hy297]; with_reducible exact H) | (have H2_ := (Option.bind_some _ _).symm.trans H; rw [hy297]; with_reducible exact H2_) | (have H2_ := (Option.bind_some _ _).symm.trans H; with_reducible exact H2_) | with_reducible exact H | (rw [hy297]; exact H) | exact H
   have Ny297 := Aside0.mk hy297
   clear hy297
   replace H := Option.bind_eq_some_iff.mp H
   obtain ⟨⟨t300, t303, t306⟩, A60, H⟩ := H
   replace H : (some (t300, t303, t306, true)) = some (r1, r2, r3, r4) := H
   have A6 := Aside0.mk A60
   clear A60
   simp only [Option.some.injEq, Prod.mk.injEq] at H
   obtain ⟨rfl, rfl, rfl, rfl⟩ := H
   go_enter Try.func15, Try.ntmps15
   try go_wp2_with (first | ((with_reducible refine gate_dst (N := 2) rfl ?_); refine ZX (N := 2) (cs := #[.slice A0_0 l0_0.length c0_0, .slice A0_1 l0_1.length c0_1]) (t := 43) ?_; intro gb291 hg w7 hbox hb; have BK291 := Aside0.mk (hbox); have GW291 : Aside0 (w.heap.size ≤ gb291) := ZS hg; have GE291 : Aside0 (w.heap.size ≤ gb291) := ZS hg; replace HB := ZT HB hb; clear hb hbox hg) | ((with_reducible refine gate_dst (N := 4) rfl ?_); refine ZX (N := 4) (cs := #[.slice none 0 0, .slice none 0 0, .slice none 0 0]) (t := 27) ?_; intro gb292 hg w8 hbox hb; have BK292 := Aside0.mk (hbox); have GW292 : Aside0 (w.heap.size ≤ gb292) := ZS hg; have GE292 : Aside0 (w.heap.size ≤ gb292) := ZS hg; have NB291_292 : Aside0 (gb291 ≠ gb292) := ZN hg BK291; have NB292_291 : Aside0 (gb292 ≠ gb291) := ZM hg BK291; replace BK291 := ZW BK291 hb; replace HB := ZT HB hb; clear hb hbox hg; have hnb9 := NB291_292.out; have hnc9 := NB292_291.out; obtain ⟨hcz10_0, hcz10_1⟩ := ZC2 w8 BK291; obtain ⟨hfz10_0, hfz10_1⟩ := ZF2 BK291) | ((with_reducible refine gate_callee (f := 23) rfl ?_); refine goesL_ (some 8) rfl rfl Try.func23 (by kernel_rfl) rfl #[.agg #[.slice A0_0 l0_0.length c0_0, .slice A0_1 l0_1.length c0_1], .slice A1 l1.length c1] rfl ZG ?_; (with_reducible refine (spec_NumsOk.calls k _ _ l0_0 _ _ l0_1 _ _ l1 true _ ?side1 ?side2 ?side3 ?side4 ?side5 ?side6 A3.out).mono ?_); (case side1 => exact ZQ (Kd.C_below HR0_0.out HB.out)); (case side2 => exact HC0_0.out); (case side3 => exact ZQ (Kd.C_below HR0_1.out HB.out)); (case side4 => exact HC0_1.out); (case side5 => exact ZQ (Kd.C_below HR1.out HB.out)); (case side6 => exact HC1.out); rintro e w11 ⟨rfl, hb⟩; refine ⟨_, rfl, ?_⟩; replace BK291 := ZW BK291 hb; replace BK292 := ZW BK292 hb; replace HB := ZT HB hb; (try clear hb); (try clear hb2); (try clear hk); (try clear hi)))
   have n0_ := Aside0.mk (blk_drew BK291.out)
   have n1_ := Aside0.mk (blk_drew BK292.out)
   have n2_ := Aside0.mk (below_drew1 HB.out)
   clear BK291
   clear BK292
   clear HB
   have BK291 := n0_
   have BK292 := n1_
   have HB := n2_
   clear n0_ n1_ n2_
   refine start_ (n := 9) (S := fun w' => w'.cell? ⟨gb291, 0, none⟩ = some (.slice A0_0 l0_0.length c0_0) ∧ w'.cell? ⟨gb291, 1, none⟩ = some (.slice A0_1 l0_1.length c0_1)) (ds := []) #[false, false, false, false, false, false, false, false, false] (by kernel_rfl) rfl rfl ⟨(blk_cell BK291.out 0).trans rfl, (blk_cell BK291.out 1).trans rfl⟩ (fun hHeld => ?_); refine with_tabW spec_RunOf.tab3 spec_RunOf.bits3 (fun HT_ HW_ => ?_)
   generalize w11.drew = w12 at BK291 BK292 HB hHeld ⊢
   refine pure_ (i := 0) (N := some 11) (v := ?_) (a' := ?_) #[true, false, false, false, false, false, false, false, false] rfl rfl (any_of HT_.out (by kernel_rfl)) (fun _ _ _ h => h) (Or.inl ⟨by rfl, ?_⟩) ?_ ?_
   rotate_left
   ·intro w'
    go_simp
    with_reducible rfl
   rotate_left
   ·simp only [Act.put, List.setIfInBounds_toArray, List.set_cons_zero, List.set_cons_succ, i64_w, i32_w]
    rfl
   refine pure_ (i := 3) (N := some 14) (v := ?_) (a' := ?_) #[true, false, false, true, false, false, false, false, false] rfl rfl (any_of HT_.out (by kernel_rfl)) (fun _ _ _ h => h) (Or.inl ⟨by rfl, ?_⟩) ?_ ?_
   rotate_left
   ·intro w'
    go_simp
    with_reducible rfl
   rotate_left
   ·simp only [Act.put, List.setIfInBounds_toArray, List.set_cons_zero, List.set_cons_succ, i64_w, i32_w]
    rfl
   refine take_ (i := 1) (N := some 12) (v := ?_) (a' := ?_) #[true, true, false, true, false, false, false, false, false] rfl rfl (take_ofW HT_.out HW_.out (by kernel_rfl)) (fun _ _ _ h => h) (Or.inl ⟨by rfl, ?_⟩) hHeld ?_ ?_
   rotate_left
   ·rintro w' ⟨s0, s1⟩
    go_simp
    with_reducible rfl
   rotate_left
   ·simp only [Act.put, List.setIfInBounds_toArray, List.set_cons_zero, List.set_cons_succ, i64_w, i32_w]
    rfl
   refine one_ (i := 2) (N := some 13) #[true, true, true, true, false, false, false, false, false] rfl rfl (one_of HT_.out (by kernel_rfl)) (by decide) (fun K hK => ?_)
   refine Kd.R_lit_step (Kd.int .i64) _ 3 ?hg (N := 13) ?hd (xs := ([] : List Int)) (inner := []) (ok := fun _ => True) (okp := fun _ => True) ?hr ?hp (fun _ hk => hk) trivial (Below.refl _ _) (Nat.le_refl _) (by simp) ?_; (case hd => rfl); (case hg => rfl); (case hr => first | (go_simp; done) | (go_simp; rfl)); (case hp => exact (Reps.none _ _))
   intro v295 w13 ho14 hb hg_ hnew_
   clear hg_ hnew_
   (first | rw [← Ny294.out] at ho14 | (simp only [Int.reduceToNat] at ho14; rw [← Ny294.out] at ho14))
   have n0_ := Aside0.mk (Kd.R_lower ho14 (below_size (ZB)))
   have n1_ := ZW BK291 hb
   have n2_ := ZW BK292 hb
   have n3_ := ZT HB hb
   clear BK291
   clear BK292
   clear HB
   have HO296 := n0_
   have BK291 := n1_
   have BK292 := n2_
   have HB := n3_
   clear n0_ n1_ n2_ n3_
   clear hb ho14
   refine hK.out _ _ ⟨(blk_cell BK291.out 0).trans rfl, (blk_cell BK291.out 1).trans rfl⟩ (fun hHeld => ?_)
   clear hK K
   refine ZNO 13 ?_
   refine one_ (i := 4) (N := some 15) #[true, true, true, true, true, false, false, false, false] rfl rfl (one_of HT_.out (by kernel_rfl)) (by decide) (fun K hK => ?_)
   refine Kd.R_append_rows_step (Kd.int .i64) (w0 := w) w.heap.size (by rfl) (.tmp 13) (.tmp 14) 23 3 (.int .i64 0) 8 rfl Try.underlying23 info3 rfl (by decide) (by omega) v295 y294 l1 _ _ _ (fun _ => True) (fun _ => False) rfl rfl ?aO ?aR (fun _ _ h => h) (fun _ h => h.elim) ?aF ?aB ?aS ?aL ?_
   (case aR => exact ZQ (Kd.C_below HR1.out HB.out))
   (case aB => exact (ZB))
   (case aF => exact (fun _ _ => trivial))
   (case aO => exact (ZR HO296.out))
   (case aS => exact (below_size (ZB)))
   (case aL => have := LMc5.out; omega)
   intro v298 w15 ho hb hg hat
   rw [← Ny297.out] at ho
   have n0_ := Aside0.mk (blk_grown (g := gb291) (o := .cells #[.slice A0_0 l0_0.length c0_0, .slice A0_1 l0_1.length c0_1] 43 (0, 0)) (ZK BK291.out) hg (Kd.R_ne HO296.out BK291.out (by decide)))
   have n1_ := Aside0.mk (blk_grown (g := gb292) (o := .cells #[.slice none 0 0, .slice none 0 0, .slice none 0 0] 27 (0, 0)) (ZK BK292.out) hg (Kd.R_ne HO296.out BK292.out (by decide)))
   have n2_ := Aside0.mk (hb)
   have n3_ := Aside0.mk (ho)
   clear BK291
   clear BK292
   clear HB
   clear HO296
   have BK291 := n0_
   have BK292 := n1_
   have HB := n2_
   have HO299 := n3_
   clear n0_ n1_ n2_ n3_
   clear ho hb hg hat
   obtain ⟨Ao16, co16, eo16⟩ := Kd.R_slice HO299.out
   (first | subst eo16 | (injection eo16 with f1_ f2_ f3_; have f4_ := f1_.symm; have f5_ := f3_.symm; clear f1_ f2_ f3_; subst f4_; subst f5_))
   refine hK.out _ _ ⟨(blk_cell BK291.out 0).trans rfl, (blk_cell BK291.out 1).trans rfl⟩ (fun hHeld => ?_)
   clear hK K
   refine ZNO 15 ?_
   refine pure_ (i := 5) (N := some 16) (v := ?_) (a' := ?_) #[true, true, true, true, true, true, false, false, false] rfl rfl (any_of HT_.out (by kernel_rfl)) (fun _ _ _ h => h) (Or.inl ⟨by rfl, ?_⟩) ?_ ?_
   rotate_left
   ·intro w'
    go_simp
    with_reducible rfl
   rotate_left
   ·simp only [Act.put, List.setIfInBounds_toArray, List.set_cons_zero, List.set_cons_succ, i64_w, i32_w]
    rfl
   refine one_ (i := 6) (N := some 17) #[true, true, true, true, true, true, true, false, false] rfl rfl (one_of HT_.out (by kernel_rfl)) (by decide) (fun K hK => ?_)
   refine goes_ Try.func24 (by kernel_rfl) rfl #[.slice A0_1 l0_1.length c0_1, .agg #[.slice Ao16 y297.length co16, .slice none 0 0, .slice none 0 0]] (by rfl) rfl rfl ZG ?_
   refine (spec_l3Do.calls k _ _ l0_1 (fun k_ => some k_ = (.slice Ao16 y297.length co16 : Value).ownBlock) (.slice Ao16 y297.length co16) y297 (fun k_ => some k_ = (.slice none 0 0 : Value).ownBlock) (.slice none 0 0) ([] : List (S52)) (fun k_ => some k_ = (.slice none 0 0 : Value).ownBlock) (.slice none 0 0) ([] : List (S50)) t300 t303 t306 w _ ?side1 ?side2 ?side3 ?side4 ?side5 ?side6 A6.out).mono ?_
   (case side1 => repeat (first | (with_reducible first | exact HB.out | apply below_alloc | apply pw_below_drewN | apply below_drew1 | refine below_set ?_ GE291.out | refine below_set ?_ GE292.out) | exact HB.out))
   (case side2 => exact Kd.C_kept_came k66_heap HR0_1.out (ZB) (fun k_ hs_ => Or.elim hs_ (fun e_ => (fun e_ => Kd.R_base HO299.out k_ e_.symm) e_) (fun e_ => Or.elim e_ (fun e_ => (fun e_ => by simp [Value.ownBlock] at e_) e_) (fun e_ => (fun e_ => by simp [Value.ownBlock] at e_) e_))))
   (case side3 => exact HC0_1.out)
   (case side4 => exact Kd.R_tight rfl HO299.out)
   (case side5 => exact Kd.R_nil _ _ _ _ _)
   (case side6 => exact Kd.R_nil _ _ _ _ _)
   rintro e w17 ⟨v301, v304, v307, rfl, ho0, ho1, ho2, hb, hkp⟩
   refine ⟨_, rfl, ?_⟩
   have n0_ := Aside0.mk (blk_kept (ZK BK291.out) hkp (fun hs_ => Or.elim hs_ (fun e_ => (fun e_ => (Kd.R_ne HO299.out BK291.out (by decide)) e_) e_) (fun e_ => Or.elim e_ (fun e_ => (fun e_ => by simp [Value.ownBlock] at e_) e_) (fun e_ => (fun e_ => by simp [Value.ownBlock] at e_) e_))))
   have n1_ := Aside0.mk (blk_kept (ZK BK292.out) hkp (fun hs_ => Or.elim hs_ (fun e_ => (fun e_ => (Kd.R_ne HO299.out BK292.out (by decide)) e_) e_) (fun e_ => Or.elim e_ (fun e_ => (fun e_ => by simp [Value.ownBlock] at e_) e_) (fun e_ => (fun e_ => by simp [Value.ownBlock] at e_) e_))))
   have n2_ := Aside0.mk (Kd.R_mono (ok' := fun k_ => True) ho0 (fun k_ hk_ => trivial))
   have n3_ := Aside0.mk (Kd.R_mono (ok' := fun k_ => True) ho1 (fun k_ hk_ => trivial))
   have n4_ := Aside0.mk (Kd.R_mono (ok' := fun k_ => True) ho2 (fun k_ hk_ => trivial))
   have n5_ := Aside0.mk (hb)
   clear BK291
   clear BK292
   clear HB
   clear HO299
   have BK291 := n0_
   have BK292 := n1_
   have HO302 := n2_
   have HO305 := n3_
   have HO308 := n4_
   have HB := n5_
   clear n0_ n1_ n2_ n3_ n4_ n5_
   (try clear hb)
   (try clear hkp)
   (try clear ho0)
   (try clear ho1)
   (try clear ho2)
   obtain ⟨Ao18, co18, eo18⟩ := Kd.R_slice HO302.out
   (first | subst eo18 | (injection eo18 with f1_ f2_ f3_; have f4_ := f1_.symm; have f5_ := f3_.symm; clear f1_ f2_ f3_; subst f4_; subst f5_))
   obtain ⟨Ao20, co20, eo20⟩ := Kd.R_slice HO305.out
   (first | subst eo20 | (injection eo20 with f1_ f2_ f3_; have f4_ := f1_.symm; have f5_ := f3_.symm; clear f1_ f2_ f3_; subst f4_; subst f5_))
   obtain ⟨Ao22, co22, eo22⟩ := Kd.R_slice HO308.out
   (first | subst eo22 | (injection eo22 with f1_ f2_ f3_; have f4_ := f1_.symm; have f5_ := f3_.symm; clear f1_ f2_ f3_; subst f4_; subst f5_))
   refine hK.out _ _ ⟨(blk_cell BK291.out 0).trans rfl, (blk_cell BK291.out 1).trans rfl⟩ (fun hHeld => ?_)
   clear hK K
   refine ZNO 17 ?_
   refine one_ (i := 7) (N := none) #[true, true, true, true, true, true, true, true, false] rfl rfl (one_of HT_.out (by kernel_rfl)) (by decide) (fun K hK => ?_)
   have hs19 : w17.cell? ⟨gb292, 0, none⟩ = some (.slice none 0 0) := (blk_cell BK292.out 0).trans rfl
   have hfs19 := blk_frozen BK292.out 0
   have hns19_0 := NB291_292.out
   have hms19_0 := NB292_291.out
   have hs21 : w17.cell? ⟨gb292, 1, none⟩ = some (.slice none 0 0) := (blk_cell BK292.out 1).trans rfl
   have hfs21 := blk_frozen BK292.out 1
   have hns21_0 := NB291_292.out
   have hms21_0 := NB292_291.out
   have hs23 : w17.cell? ⟨gb292, 2, none⟩ = some (.slice none 0 0) := (blk_cell BK292.out 2).trans rfl
   have hfs23 := blk_frozen BK292.out 2
   have hns23_0 := NB291_292.out
   have hms23_0 := NB292_291.out
   refine skip_ (w1 := ?_) (by rfl) rfl ?_ ?_
   rotate_left
   ·go_simp
    rfl
   refine hK.out _ _ ⟨((cell_far (p := ⟨gb292, _, none⟩) NB291_292.out _).trans (((cell_far (p := ⟨gb292, _, none⟩) NB291_292.out _).trans (((cell_far (p := ⟨gb292, _, none⟩) NB291_292.out _).trans (hHeld.1)))))), ((cell_far (p := ⟨gb292, _, none⟩) NB291_292.out _).trans (((cell_far (p := ⟨gb292, _, none⟩) NB291_292.out _).trans (((cell_far (p := ⟨gb292, _, none⟩) NB291_292.out _).trans (hHeld.2))))))⟩ (fun hHeld => ?_)
   clear hK K
   refine pure_ (i := 8) (N := some 5) (v := ?_) (a' := ?_) #[true, true, true, true, true, true, true, true, true] rfl rfl (any_of HT_.out (by kernel_rfl)) (fun _ _ _ h => h) (Or.inl ⟨by rfl, ?_⟩) ?_ ?_
   rotate_left
   ·intro w'
    go_simp
    with_reducible rfl
   rotate_left
   ·simp only [Act.put, List.setIfInBounds_toArray, List.set_cons_zero, List.set_cons_succ, i64_w, i32_w]
    rfl
   refine done_ (done_of HT_.out (by kernel_rfl)) ?_
   try go_wp2
   refine bodyPost_ret (results_ct rfl _ _ gb292 27 #[.slice Ao18 t300.length co18, .slice Ao20 t303.length co20, .slice Ao22 t306.length co22] (0, 0) _ rfl (ZZ BK292.out) Try.underlying27 rfl (by kernel_rfl)) rfl ?_
   exact ⟨_, _, _, ZE, by (with_reducible repeat (first | apply Kd.R_alloc | apply Kd.R_drewN | apply Kd.R_drew)); exact Kd.R_mono (Kd.R_far (p := ⟨gb292, 2, none⟩) (Kd.R_far (p := ⟨gb292, 1, none⟩) (Kd.R_far (p := ⟨gb292, 0, none⟩) (Kd.R_types HO302.out BK292.out (by decide)) (fun _ hk => hk.2) (.slice Ao18 t300.length co18)) (fun _ hk => hk.2) (.slice Ao20 t303.length co20)) (fun _ hk => hk.2) (.slice Ao22 t306.length co22)) (fun _ hk => trivial), by (with_reducible repeat (first | apply Kd.R_alloc | apply Kd.R_drewN | apply Kd.R_drew)); exact Kd.R_mono (Kd.R_far (p := ⟨gb292, 2, none⟩) (Kd.R_far (p := ⟨gb292, 1, none⟩) (Kd.R_far (p := ⟨gb292, 0, none⟩) (Kd.R_types HO305.out BK292.out (by decide)) (fun _ hk => hk.2) (.slice Ao18 t300.length co18)) (fun _ hk => hk.2) (.slice Ao20 t303.length co20)) (fun _ hk => hk.2) (.slice Ao22 t306.length co22)) (fun _ hk => trivial), by (with_reducible repeat (first | apply Kd.R_alloc | apply Kd.R_drewN | apply Kd.R_drew)); exact Kd.R_mono (Kd.R_far (p := ⟨gb292, 2, none⟩) (Kd.R_far (p := ⟨gb292, 1, none⟩) (Kd.R_far (p := ⟨gb292, 0, none⟩) (Kd.R_types HO308.out BK292.out (by decide)) (fun _ hk => hk.2) (.slice Ao18 t300.length co18)) (fun _ hk => hk.2) (.slice Ao20 t303.length co20)) (fun _ hk => hk.2) (.slice Ao22 t306.length co22)) (fun _ hk => trivial), ZB⟩
  ·rw [if_neg c5] at H
   exact absurd H (by simp)
 ·replace c4 := Bool.eq_false_iff.mpr c4
  subst c4
  have H1 : (some (([] : List Int), ([] : List (S52)), ([] : List (S50)), false)) = some (r1, r2, r3, r4) := by rw [if_neg (show ¬ (false = true) by decide)] at H; exact H
  clear H
  have H := H1
  clear H1
  simp only [Option.some.injEq, Prod.mk.injEq] at H
  obtain ⟨rfl, rfl, rfl, rfl⟩ := H
  go_enter Try.func15, Try.ntmps15
  go_wp2_with (first | ((with_reducible refine gate_dst (N := 2) rfl ?_); refine ZX (N := 2) (cs := #[.slice A0_0 l0_0.length c0_0, .slice A0_1 l0_1.length c0_1]) (t := 43) ?_; intro gb291 hg w24 hbox hb; have BK291 := Aside0.mk (hbox); have GW291 : Aside0 (w.heap.size ≤ gb291) := ZS hg; have GE291 : Aside0 (w.heap.size ≤ gb291) := ZS hg; replace HB := ZT HB hb; clear hb hbox hg) | ((with_reducible refine gate_dst (N := 4) rfl ?_); refine ZX (N := 4) (cs := #[.slice none 0 0, .slice none 0 0, .slice none 0 0]) (t := 27) ?_; intro gb292 hg w25 hbox hb; have BK292 := Aside0.mk (hbox); have GW292 : Aside0 (w.heap.size ≤ gb292) := ZS hg; have GE292 : Aside0 (w.heap.size ≤ gb292) := ZS hg; have NB291_292 : Aside0 (gb291 ≠ gb292) := ZN hg BK291; have NB292_291 : Aside0 (gb292 ≠ gb291) := ZM hg BK291; replace BK291 := ZW BK291 hb; replace HB := ZT HB hb; clear hb hbox hg; have hnb26 := NB291_292.out; have hnc26 := NB292_291.out; obtain ⟨hcz27_0, hcz27_1⟩ := ZC2 w25 BK291; obtain ⟨hfz27_0, hfz27_1⟩ := ZF2 BK291) | ((with_reducible refine gate_callee (f := 23) rfl ?_); refine goesL_ (some 8) rfl rfl Try.func23 (by kernel_rfl) rfl #[.agg #[.slice A0_0 l0_0.length c0_0, .slice A0_1 l0_1.length c0_1], .slice A1 l1.length c1] rfl ZG ?_; (with_reducible refine (spec_NumsOk.calls k _ _ l0_0 _ _ l0_1 _ _ l1 false _ ?side1 ?side2 ?side3 ?side4 ?side5 ?side6 A3.out).mono ?_); (case side1 => exact ZQ (Kd.C_below HR0_0.out HB.out)); (case side2 => exact HC0_0.out); (case side3 => exact ZQ (Kd.C_below HR0_1.out HB.out)); (case side4 => exact HC0_1.out); (case side5 => exact ZQ (Kd.C_below HR1.out HB.out)); (case side6 => exact HC1.out); rintro e w28 ⟨rfl, hb⟩; refine ⟨_, rfl, ?_⟩; replace BK291 := ZW BK291 hb; replace BK292 := ZW BK292 hb; replace HB := ZT HB hb; (try clear hb); (try clear hb2); (try clear hk); (try clear hi); obtain ⟨hcz29_0, hcz29_1, hcz29_2⟩ := ZC3 w28 BK292; obtain ⟨hfz29_0, hfz29_1, hfz29_2⟩ := ZF3 BK292))
  refine bodyPost_ret (results_ct rfl _ _ gb292 27 #[.slice none 0 0, .slice none 0 0, .slice none 0 0] (0, 0) _ rfl (ZZ BK292.out) Try.underlying27 rfl (by kernel_rfl)) rfl ?_
  exact ⟨_, _, _, ZE, by first | exact Kd.R_nil _ _ _ _ _ | exact Kd.N_nil _ _ _ _ _ | exact Kd.V_nil _ _ _ _ _ | exact Kd.Q_nil _ _ _ _ _ | exact Kd.S_nil _ _ _ _ _, by first | exact Kd.R_nil _ _ _ _ _ | exact Kd.N_nil _ _ _ _ _ | exact Kd.V_nil _ _ _ _ _ | exact Kd.Q_nil _ _ _ _ _ | exact Kd.S_nil _ _ _ _ _, by first | exact Kd.R_nil _ _ _ _ _ | exact Kd.N_nil _ _ _ _ _ | exact Kd.V_nil _ _ _ _ _ | exact Kd.Q_nil _ _ _ _ _ | exact Kd.S_nil _ _ _ _ _, ZB⟩

end Go.Proofs.Ytdmejmdifnicmaa.A
