/- What Go functions compute, as Lean functions, and for each its contract: for every input at which the Lean function answers the call returns that; written by wip/tools/pr.py over the kit's print. -/
import Derived.Test.YtcffnnedghgmaaaAx0
import Derived.Test.YtcffnnedghgmaaaAx5
import Derived.Test.YtcffnnedghgmaaaAx9
import Derived.Test.YtcffnnedghgmaaaAx25
namespace Go.Proofs.Ytcffnnedghgmaaa.A
open Go.RowKit Go.Proofs.YtcffnnedghgmaaaW.PrintWords Go.Proofs.YtcffnnedghgmaaaW.PrintLast Go.Proofs.YtcffnnedghgmaaaW.PrintMore
attribute [local go_sem] max2_int min2_int max_two min_two max_three min_three max_four min_four   -- for this text's walks alone
set_option linter.unusedVariables false
set_option linter.unusedSimpArgs false

/-! ### spec_l11Any: function 108 -/
def spec_l11Any.f  : Option (Int × Int) := (spec_l1All.f).bind fun t379 => ((spec_l1All.f).bind fun t380 => (some (t379, t380)))
set_option maxHeartbeats 8000000 in
set_option maxRecDepth 100000 in
theorem spec_l11Any.calls  (r1 : Int) (r2 : Int) (w : World) (h : spec_l11Any.f  = some (r1, r2)) :
  Calls Try.prog 108 #[] w fun e w' => e = .returned (.agg #[.int .i64 r1, .int .i64 r2]) ∧ Below w.heap.size w w' := by
 have hu35 := Try.underlying35
 have HB := Aside0.mk (Below.refl w.heap.size w)
 have H : ((spec_l1All.f).bind fun t379 => ((spec_l1All.f).bind fun t380 => (some (t379, t380)))) = some (r1, r2) := h
 clear h
 replace H := Option.bind_eq_some_iff.mp H
 obtain ⟨t379, A10, H⟩ := H
 replace H : ((spec_l1All.f).bind fun t380 => (some (t379, t380))) = some (r1, r2) := H
 have A1 := Aside0.mk A10
 clear A10
 replace H := Option.bind_eq_some_iff.mp H
 obtain ⟨t380, A20, H⟩ := H
 replace H : (some (t379, t380)) = some (r1, r2) := H
 have A2 := Aside0.mk A20
 clear A20
 simp only [Option.some.injEq, Prod.mk.injEq] at H
 obtain ⟨rfl, rfl⟩ := H
 go_enter Try.func108, Try.ntmps108
 go_wp2_with (first | ((with_reducible refine gate_dst (N := 0) rfl ?_); refine ZX (N := 0) (cs := #[.int .i64 0, .int .i64 0]) (t := 35) ?_; intro gb378 hg w3 hbox hb; have BK378 := Aside0.mk (hbox); have GW378 : Aside0 (w.heap.size ≤ gb378) := ZS hg; have GE378 : Aside0 (w.heap.size ≤ gb378) := ZS hg; replace HB := ZT hb; clear hb hbox hg) | ((with_reducible refine gate_callee (f := 136) rfl ?_); refine goesL_ (some 1) rfl rfl Try.func136 (by kernel_rfl) rfl #[] rfl ZG ?_; (with_reducible refine (spec_l1All.calls  t379 _ A1.out).mono ?_); rintro e w' ⟨rfl, ⟨nd, rfl⟩⟩; refine ⟨_, rfl, ?_⟩; (try (rw [drewN_self w3]; generalize hq_ : World.drewN w3 _ = w3; have n0_ : Aside0 (w3.heap[gb378]? = some (.cells #[.int .i64 0, .int .i64 0] 35 (0, 0))) := ⟨by rw [← hq_]; exact (ZK BK378.out)⟩; have n1_ : Aside0 (Below w.heap.size w w3) := ⟨by rw [← hq_]; exact (ZB)⟩; clear BK378 HB hq_; have BK378 := n0_; have HB := n1_; clear n0_ n1_))) | ((with_reducible refine gate_callee (f := 136) rfl ?_); refine goesL_ (some 2) rfl rfl Try.func136 (by kernel_rfl) rfl #[] rfl ZG ?_; (with_reducible refine (spec_l1All.calls  t380 _ A2.out).mono ?_); rintro e w' ⟨rfl, ⟨nd, rfl⟩⟩; refine ⟨_, rfl, ?_⟩; (try (rw [drewN_self w3]; generalize hq_ : World.drewN w3 _ = w3; have n0_ : Aside0 (w3.heap[gb378]? = some (.cells #[.int .i64 0, .int .i64 0] 35 (0, 0))) := ⟨by rw [← hq_]; exact (ZK BK378.out)⟩; have n1_ : Aside0 (Below w.heap.size w w3) := ⟨by rw [← hq_]; exact (ZB)⟩; clear BK378 HB hq_; have BK378 := n0_; have HB := n1_; clear n0_ n1_)); obtain ⟨hcz4_0, hcz4_1⟩ := ZC2 w3 BK378; obtain ⟨hfz4_0, hfz4_1⟩ := ZF2 BK378))
 refine bodyPost_ret (results_cell_row rfl _ _ gb378 35 #[.int .i64 t379, .int .i64 t380] (0, 0) _ rfl (ZZ BK378.out) Try.underlying35 rfl (by kernel_rfl)) rfl ?_
 exact ⟨ZE, ZB⟩

/-! ### spec_TypeAt: function 55 -/
def spec_TypeAt.f (k : Nat) (l0_0 : List (S35)) (l0_1 : List (S59)) : Option ((List (S35))) := (spec_ProgOk.f k l0_0 l0_1).bind fun t382 => (if t382 = true then ((spec_l11Any.f).bind fun bt383 => ((spec_l11At.f k l0_0 l0_1 l0_1 bt383.1 bt383.2 (([] : List (S35)))).bind fun t388 => (some t388))) else (some (([] : List (S35)))))
set_option maxHeartbeats 8000000 in
set_option maxRecDepth 100000 in
theorem spec_TypeAt.calls (k : Nat) (A0_0 : Option Addr) (c0_0 : Nat) (l0_0 : List (S35)) (A0_1 : Option Addr) (c0_1 : Nat) (l0_1 : List (S59)) (r : List (S35)) (w : World) (hr0_0 : Kd.C k35 w A0_0 l0_0.length l0_0) (hc0_0 : l0_0.length ≤ c0_0) (hr0_1 : Kd.C k59 w A0_1 l0_1.length l0_1) (hc0_1 : l0_1.length ≤ c0_1) (h : spec_TypeAt.f k l0_0 l0_1 = some r) :
  Calls Try.prog 55 #[.agg #[.slice A0_0 l0_0.length c0_0, .slice A0_1 l0_1.length c0_1]] w fun e w' => ∃ v0_ : Value, e = .returned (v0_) ∧ Kd.R k35 35 w' w.heap.size (fun _ => True) v0_ r ∧ Below w.heap.size w w' := by
 have hu26 := Try.underlying26
 have HR0_0 := Aside0.mk hr0_0
 have HC0_0 := Aside0.mk hc0_0
 clear hr0_0 hc0_0
 have HR0_1 := Aside0.mk hr0_1
 have HC0_1 := Aside0.mk hc0_1
 clear hr0_1 hc0_1
 have HB := Aside0.mk (Below.refl w.heap.size w)
 have H : ((spec_ProgOk.f k l0_0 l0_1).bind fun t382 => (if t382 = true then ((spec_l11Any.f).bind fun bt383 => ((spec_l11At.f k l0_0 l0_1 l0_1 bt383.1 bt383.2 (([] : List (S35)))).bind fun t388 => (some t388))) else (some (([] : List (S35)))))) = some r := h
 clear h
 replace H := Option.bind_eq_some_iff.mp H
 obtain ⟨t382, A20, H⟩ := H
 replace H : (if t382 = true then ((spec_l11Any.f).bind fun bt383 => ((spec_l11At.f k l0_0 l0_1 l0_1 bt383.1 bt383.2 (([] : List (S35)))).bind fun t388 => (some t388))) else (some (([] : List (S35))))) = some r := H
 have A2 := Aside0.mk A20
 clear A20
 by_cases c3 : t382 = true
 ·subst c3
  have H1 : ((spec_l11Any.f).bind fun bt383 => ((spec_l11At.f k l0_0 l0_1 l0_1 bt383.1 bt383.2 (([] : List (S35)))).bind fun t388 => (some t388))) = some r := by rw [if_pos rfl] at H; exact H
  clear H
  have H := H1
  clear H1
  replace H := Option.bind_eq_some_iff.mp H
  obtain ⟨⟨t383, t384⟩, A40, H⟩ := H
  replace H : ((spec_l11At.f k l0_0 l0_1 l0_1 t383 t384 (([] : List (S35)))).bind fun t388 => (some t388)) = some r := H
  have A4 := Aside0.mk A40
  clear A40
  obtain ⟨y385, hy385⟩ : ∃ y_ : List (S35), y_ = (([] : List (S35))) := ⟨_, rfl⟩
  replace H : ((spec_l11At.f k l0_0 l0_1 l0_1 t383 t384 y385).bind fun t388 => (some t388)) = some r := by first | (rw [hy385]; with_reducible exact H) | (have H2_ := (Option.bind_some _ _).symm.trans H; rw [hy385]; with_reducible exact H2_) | (have H2_ := (Option.bind_some _ _).symm.trans H; with_reducible exact H2_) | with_reducible exact H | (rw [hy385]; exact H) | exact H
  have Ny385 := Aside0.mk hy385
  clear hy385
  replace H := Option.bind_eq_some_iff.mp H
  obtain ⟨t388, A50, H⟩ := H
  replace H : (some t388) = some r := H
  have A5 := Aside0.mk A50
  clear A50
  obtain rfl := Option.some.inj H
  go_enter Try.func55, Try.ntmps55
  try go_wp2_with (first | ((with_reducible refine gate_dst (N := 1) rfl ?_); refine ZX (N := 1) (cs := #[.slice A0_0 l0_0.length c0_0, .slice A0_1 l0_1.length c0_1]) (t := 26) ?_; intro gb381 hg w6 hbox hb; have BK381 := Aside0.mk (hbox); have GW381 : Aside0 (w.heap.size ≤ gb381) := ZS hg; have GE381 : Aside0 (w.heap.size ≤ gb381) := ZS hg; replace HB := ZT hb; clear hb hbox hg; obtain ⟨hcz7_0, hcz7_1⟩ := ZC2 w6 BK381; obtain ⟨hfz7_0, hfz7_1⟩ := ZF2 BK381) | ((with_reducible refine gate_callee (f := 36) rfl ?_); refine goesL_ (some 4) rfl rfl Try.func36 (by kernel_rfl) rfl #[.agg #[.slice A0_0 l0_0.length c0_0, .slice A0_1 l0_1.length c0_1]] rfl ZG ?_; (with_reducible refine (spec_ProgOk.calls k _ _ l0_0 _ _ l0_1 true _ ?side1 ?side2 ?side3 ?side4 A2.out).mono ?_); (case side1 => exact ZQ (Kd.C_below HR0_0.out HB.out)); (case side2 => exact HC0_0.out); (case side3 => exact ZQ (Kd.C_below HR0_1.out HB.out)); (case side4 => exact HC0_1.out); rintro e w8 ⟨rfl, hb⟩; refine ⟨_, rfl, ?_⟩; replace BK381 := ZW BK381 hb; replace HB := ZT hb; (try clear hb); (try clear hb2); (try clear hk); (try clear hi)))
  have n0_ := Aside0.mk (blk_drew BK381.out)
  have n1_ := Aside0.mk (below_drew1 HB.out)
  clear BK381
  clear HB
  have BK381 := n0_
  have HB := n1_
  clear n0_ n1_
  refine start_ (n := 7) (S := fun w' => w'.cell? ⟨gb381, 0, none⟩ = some (.slice A0_0 l0_0.length c0_0) ∧ w'.cell? ⟨gb381, 1, none⟩ = some (.slice A0_1 l0_1.length c0_1)) (ds := []) #[false, false, false, false, false, false, false] (by kernel_rfl) rfl rfl ⟨(blk_cell BK381.out 0).trans rfl, (blk_cell BK381.out 1).trans rfl⟩ (fun hHeld => ?_)
  generalize w8.drew = w9 at BK381 HB hHeld ⊢
  refine pure_ (i := 1) (N := some 8) (v := ?_) (a' := ?_) #[false, true, false, false, false, false, false] rfl rfl (by kernel_rfl) (fun _ _ _ h => h) (Or.inl ⟨by rfl, ?_⟩) ?_ ?_
  rotate_left
  ·intro w'
   go_simp
   with_reducible rfl
  rotate_left
  ·simp only [Act.put, List.setIfInBounds_toArray, List.set_cons_zero, List.set_cons_succ, i64_w, i32_w]
   rfl
  refine take_ (i := 0) (N := some 7) (v := ?_) (a' := ?_) #[true, true, false, false, false, false, false] rfl rfl (by kernel_rfl) (fun _ _ _ h => h) (Or.inl ⟨by rfl, ?_⟩) hHeld ?_ ?_
  rotate_left
  ·rintro w' ⟨s0, s1⟩
   go_simp
   with_reducible rfl
  rotate_left
  ·simp only [Act.put, List.setIfInBounds_toArray, List.set_cons_zero, List.set_cons_succ, i64_w, i32_w]
   rfl
  refine take_ (i := 2) (N := some 9) (v := ?_) (a' := ?_) #[true, true, true, false, false, false, false] rfl rfl (by kernel_rfl) (fun _ _ _ h => h) (Or.inl ⟨by rfl, ?_⟩) hHeld ?_ ?_
  rotate_left
  ·rintro w' ⟨s0, s1⟩
   go_simp
   with_reducible rfl
  rotate_left
  ·simp only [Act.put, List.setIfInBounds_toArray, List.set_cons_zero, List.set_cons_succ, i64_w, i32_w]
   rfl
  refine join_ (σ := Value) 2 #[true, true, true, true, true, false, false] (fun s_ => [(10, .agg #[.int .i64 t383, .int .i64 t384]), (11, s_)]) (fun s_ w' => (w'.cell? ⟨gb381, 0, none⟩ = some (.slice A0_0 l0_0.length c0_0) ∧ w'.cell? ⟨gb381, 1, none⟩ = some (.slice A0_1 l0_1.length c0_1)) ∧ (Kd.R k35 35 w' w.heap.size (fun _ => True) s_ y385) ∧ (w'.heap[gb381]? = some (.cells #[.slice A0_0 l0_0.length c0_0, .slice A0_1 l0_1.length c0_1] 26 (0, 0))) ∧ (Below w.heap.size w w')) ?_ ?_
  rotate_left
  ·intro hCont
   refine two_ (i := 3) (j := 4) (Ni := some 10) (Nj := some 11) #[true, true, true, true, false, false, false] #[true, true, true, false, true, false, false] rfl rfl rfl rfl (by kernel_rfl) (by decide) (by decide) (fun K hK => ?_) (fun K hK => ?_)
   ·skip
    refine goes_ Try.func108 (by kernel_rfl) rfl #[] (by rfl) rfl rfl ZG ?_
    with_reducible refine (spec_l11Any.calls  t383 t384 _ A4.out).mono ?_
    rintro e w10 ⟨rfl, hb⟩
    refine ⟨_, rfl, ?_⟩
    have n0_ := ZW BK381 hb
    have n1_ := ZT hb
    clear BK381
    clear HB
    have BK381 := n0_
    have HB := n1_
    clear n0_ n1_
    (try clear hb)
    (try clear hb2)
    (try clear hk)
    (try clear hi)
    refine hK.out _ _ ⟨(blk_cell BK381.out 0).trans rfl, (blk_cell BK381.out 1).trans rfl⟩ (fun hHeld => ?_)
    clear hK K
    refine ZNO 10 ?_
    refine one_ (i := 4) (N := some 11) #[true, true, true, true, true, false, false] rfl rfl (by kernel_rfl) (by decide) (fun K hK => ?_)
    refine Kd.R_lit_step k35 _ 35 ?hg (N := 11) ?hd (xs := ([] : List (S35))) (inner := []) (ok := fun _ => True) (okp := fun _ => True) ?hr ?hp (fun _ hk => hk) trivial (Below.refl _ _) (Nat.le_refl _) (by simp) ?_; (case hd => rfl); (case hg => rfl); (case hr => first | (go_simp; done) | (go_simp; rfl)); (case hp => exact (Reps.none _ _))
    intro v386 w11 ho12 hb hg_ hnew_
    clear hg_ hnew_
    (first | rw [← Ny385.out] at ho12 | (simp only [Int.reduceToNat] at ho12; rw [← Ny385.out] at ho12))
    have n0_ := Aside0.mk (Kd.R_lower ho12 (below_size (ZB)))
    have n1_ := ZW BK381 hb
    have n2_ := ZT hb
    clear BK381
    clear HB
    have HO387 := n0_
    have BK381 := n1_
    have HB := n2_
    clear n0_ n1_ n2_
    clear hb ho12
    refine hK.out _ _ ⟨(blk_cell BK381.out 0).trans rfl, (blk_cell BK381.out 1).trans rfl⟩ (fun hHeld => ?_)
    clear hK K
    refine ZNO 11 ?_
    exact norm_ (by simp only [putAll, Act.put, List.setIfInBounds_toArray, List.set_cons_zero, List.set_cons_succ]) (hCont (v386) _ ⟨hHeld, (ZR HO387.out), (ZK BK381.out), (ZB)⟩)
   ·skip
    refine Kd.R_lit_step k35 _ 35 ?hg (N := 11) ?hd (xs := ([] : List (S35))) (inner := []) (ok := fun _ => True) (okp := fun _ => True) ?hr ?hp (fun _ hk => hk) trivial (Below.refl _ _) (Nat.le_refl _) (by simp) ?_; (case hd => rfl); (case hg => rfl); (case hr => first | (go_simp; done) | (go_simp; rfl)); (case hp => exact (Reps.none _ _))
    intro v386 w10 ho11 hb hg_ hnew_
    clear hg_ hnew_
    (first | rw [← Ny385.out] at ho11 | (simp only [Int.reduceToNat] at ho11; rw [← Ny385.out] at ho11))
    have n0_ := Aside0.mk (Kd.R_lower ho11 (below_size (ZB)))
    have n1_ := ZW BK381 hb
    have n2_ := ZT hb
    clear BK381
    clear HB
    have HO387 := n0_
    have BK381 := n1_
    have HB := n2_
    clear n0_ n1_ n2_
    clear hb ho11
    refine hK.out _ _ ⟨(blk_cell BK381.out 0).trans rfl, (blk_cell BK381.out 1).trans rfl⟩ (fun hHeld => ?_)
    clear hK K
    refine ZNO 11 ?_
    refine one_ (i := 3) (N := some 10) #[true, true, true, true, true, false, false] rfl rfl (by kernel_rfl) (by decide) (fun K hK => ?_)
    refine goes_ Try.func108 (by kernel_rfl) rfl #[] (by rfl) rfl rfl ZG ?_
    with_reducible refine (spec_l11Any.calls  t383 t384 _ A4.out).mono ?_
    rintro e w12 ⟨rfl, hb⟩
    refine ⟨_, rfl, ?_⟩
    have n0_ := Aside0.mk (Kd.R_below (ZR HO387.out) hb)
    have n1_ := ZW BK381 hb
    have n2_ := ZT hb
    clear HO387
    clear BK381
    clear HB
    have HO387 := n0_
    have BK381 := n1_
    have HB := n2_
    clear n0_ n1_ n2_
    (try clear hb)
    (try clear hb2)
    (try clear hk)
    (try clear hi)
    refine hK.out _ _ ⟨(blk_cell BK381.out 0).trans rfl, (blk_cell BK381.out 1).trans rfl⟩ (fun hHeld => ?_)
    clear hK K
    refine ZNO 10 ?_
    exact norm_ (by simp only [putAll, Act.put, List.setIfInBounds_toArray, List.set_cons_zero, List.set_cons_succ]) (hCont (v386) _ ⟨hHeld, (ZR HO387.out), (ZK BK381.out), (ZB)⟩)
  rintro v386 w13 ⟨hS_, h0_, h1_, h2_⟩
  have n0_ : Aside0 (Kd.R k35 35 w13 w.heap.size (fun _ => True) v386 y385) := ⟨h0_⟩
  have n1_ : Aside0 (w13.heap[gb381]? = some (.cells #[.slice A0_0 l0_0.length c0_0, .slice A0_1 l0_1.length c0_1] 26 (0, 0))) := ⟨h1_⟩
  have n2_ : Aside0 (Below w.heap.size w w13) := ⟨h2_⟩
  clear BK381
  clear HB
  clear h0_ h1_ h2_
  have HO387 := n0_
  have BK381 := n1_
  have HB := n2_
  clear n0_ n1_ n2_
  have hHeld : w13.cell? ⟨gb381, 0, none⟩ = some (.slice A0_0 l0_0.length c0_0) ∧ w13.cell? ⟨gb381, 1, none⟩ = some (.slice A0_1 l0_1.length c0_1) := hS_
  obtain ⟨Ao14, co14, eo14⟩ := Kd.R_slice HO387.out
  (first | subst eo14 | (injection eo14 with f1_ f2_ f3_; have f4_ := f1_.symm; have f5_ := f3_.symm; clear f1_ f2_ f3_; subst f4_; subst f5_))
  refine norm_ (a' := ?_) ?_ ?_
  rotate_left
  ·simp only [putAll, Act.put, List.setIfInBounds_toArray, List.set_cons_zero, List.set_cons_succ]
   rfl
  refine one_ (i := 5) (N := some 12) #[true, true, true, true, true, true, false] rfl rfl (by kernel_rfl) (by decide) (fun K hK => ?_)
  refine goes_ Try.func107 (by kernel_rfl) rfl #[.agg #[.slice A0_0 l0_0.length c0_0, .slice A0_1 l0_1.length c0_1], .slice A0_1 l0_1.length c0_1, .agg #[.int .i64 t383, .int .i64 t384], .slice Ao14 y385.length co14] (by rfl) rfl rfl ZG ?_
  with_reducible refine (spec_l11At.calls k _ _ l0_0 _ _ l0_1 _ _ l0_1 t383 t384 (fun k_ => some k_ = (.slice Ao14 y385.length co14 : Value).ownBlock) (.slice Ao14 y385.length co14) y385 t388 w _ ?side1 ?side2 ?side3 ?side4 ?side5 ?side6 ?side7 ?side8 A5.out).mono ?_
  (case side1 => repeat (first | (with_reducible first | exact HB.out | apply below_alloc | apply pw_below_drewN | apply below_drew1 | refine below_set ?_ GE381.out) | exact HB.out))
  (case side2 => exact Kd.C_kept_came k35_heap HR0_0.out (ZB) (fun k_ hs_ => (fun e_ => Kd.R_base HO387.out k_ e_.symm) hs_))
  (case side3 => exact HC0_0.out)
  (case side4 => exact Kd.C_kept_came k59_heap HR0_1.out (ZB) (fun k_ hs_ => (fun e_ => Kd.R_base HO387.out k_ e_.symm) hs_))
  (case side5 => exact HC0_1.out)
  (case side6 => exact Kd.C_kept_came k59_heap HR0_1.out (ZB) (fun k_ hs_ => (fun e_ => Kd.R_base HO387.out k_ e_.symm) hs_))
  (case side7 => exact HC0_1.out)
  (case side8 => exact Kd.R_tight rfl HO387.out)
  rintro e w15 ⟨v389, rfl, ho0, hb, hkp⟩
  refine ⟨_, rfl, ?_⟩
  have n0_ := Aside0.mk (blk_kept (ZK BK381.out) hkp (fun hs_ => (fun e_ => (Kd.R_ne HO387.out BK381.out (by decide)) e_) hs_))
  have n1_ := Aside0.mk (Kd.R_mono (ok' := fun k_ => True) ho0 (fun k_ hk_ => trivial))
  have n2_ := Aside0.mk (hb)
  clear BK381
  clear HB
  clear HO387
  have BK381 := n0_
  have HO390 := n1_
  have HB := n2_
  clear n0_ n1_ n2_
  (try clear hb)
  (try clear hkp)
  (try clear ho0)
  refine hK.out _ _ ⟨(blk_cell BK381.out 0).trans rfl, (blk_cell BK381.out 1).trans rfl⟩ (fun hHeld => ?_)
  clear hK K
  refine ZNO 12 ?_
  refine pure_ (i := 6) (N := some 2) (v := ?_) (a' := ?_) #[true, true, true, true, true, true, true] rfl rfl (by kernel_rfl) (fun _ _ _ h => h) (Or.inl ⟨by rfl, ?_⟩) ?_ ?_
  rotate_left
  ·intro w'
   go_simp
   with_reducible rfl
  rotate_left
  ·simp only [Act.put, List.setIfInBounds_toArray, List.set_cons_zero, List.set_cons_succ, i64_w, i32_w]
   rfl
  refine done_ (by kernel_rfl) ?_
  try go_wp2
  go_ret
  exact ⟨_, ZE, by (with_reducible repeat (first | apply Kd.R_alloc | apply Kd.R_drewN | apply Kd.R_drew)); exact HO390.out, ZB⟩
 ·replace c3 := Bool.eq_false_iff.mpr c3
  subst c3
  have H1 : (some (([] : List (S35)))) = some r := by rw [if_neg (show ¬ (false = true) by decide)] at H; exact H
  clear H
  have H := H1
  clear H1
  obtain ⟨y391, hy391⟩ : ∃ y_ : List (S35), y_ = (([] : List (S35))) := ⟨_, rfl⟩
  replace H : (some y391) = some r := by first | (rw [hy391]; with_reducible exact H) | (have H2_ := (Option.bind_some _ _).symm.trans H; rw [hy391]; with_reducible exact H2_) | (have H2_ := (Option.bind_some _ _).symm.trans H; with_reducible exact H2_) | with_reducible exact H | (rw [hy391]; exact H) | exact H
  have Ny391 := Aside0.mk hy391
  clear hy391
  obtain rfl := Option.some.inj H
  go_enter Try.func55, Try.ntmps55
  go_wp2_with (first | ((with_reducible refine gate_dst (N := 1) rfl ?_); refine ZX (N := 1) (cs := #[.slice A0_0 l0_0.length c0_0, .slice A0_1 l0_1.length c0_1]) (t := 26) ?_; intro gb381 hg w16 hbox hb; have BK381 := Aside0.mk (hbox); have GW381 : Aside0 (w.heap.size ≤ gb381) := ZS hg; have GE381 : Aside0 (w.heap.size ≤ gb381) := ZS hg; replace HB := ZT hb; clear hb hbox hg; obtain ⟨hcz17_0, hcz17_1⟩ := ZC2 w16 BK381; obtain ⟨hfz17_0, hfz17_1⟩ := ZF2 BK381) | ((with_reducible refine gate_callee (f := 36) rfl ?_); refine goesL_ (some 4) rfl rfl Try.func36 (by kernel_rfl) rfl #[.agg #[.slice A0_0 l0_0.length c0_0, .slice A0_1 l0_1.length c0_1]] rfl ZG ?_; (with_reducible refine (spec_ProgOk.calls k _ _ l0_0 _ _ l0_1 false _ ?side1 ?side2 ?side3 ?side4 A2.out).mono ?_); (case side1 => exact ZQ (Kd.C_below HR0_0.out HB.out)); (case side2 => exact HC0_0.out); (case side3 => exact ZQ (Kd.C_below HR0_1.out HB.out)); (case side4 => exact HC0_1.out); rintro e w18 ⟨rfl, hb⟩; refine ⟨_, rfl, ?_⟩; replace BK381 := ZW BK381 hb; replace HB := ZT hb; (try clear hb); (try clear hb2); (try clear hk); (try clear hi)) | ((with_reducible refine gate_dst (N := 6) rfl ?_); refine Kd.R_lit k35 _ 35 ?hg (N := 6) ?hd (xs := ([] : List (S35))) (inner := []) (ok := fun _ => True) (okp := fun _ => True) ?hr ?hp (fun _ hk => hk) trivial (Below.refl _ _) (Nat.le_refl _) (by simp) ?_; (case hd => rfl); (case hg => rfl); (case hr => first | (go_simp; done) | (go_simp; rfl)); (case hp => exact (Reps.none _ _)); intro v392 w19 ho20 hb hg_ hnew_; clear hg_ hnew_; (first | rw [← Ny391.out] at ho20 | (simp only [Int.reduceToNat] at ho20; rw [← Ny391.out] at ho20)); have HO393 := Aside0.mk (Kd.R_lower ho20 (below_size (ZB))); replace BK381 := ZW BK381 hb; replace HB := ZT hb; clear hb ho20))
  go_ret
  exact ⟨_, ZE, by (with_reducible repeat (first | apply Kd.R_alloc | apply Kd.R_drewN | apply Kd.R_drew)); exact HO393.out, ZB⟩

end Go.Proofs.Ytcffnnedghgmaaa.A
