/- Go functions as Lean functions, and for each its contract; written by wip/tools/pr.py over the kit's print. -/
import Derived.Test.YthidgkfgdkjghaaAx0
import Derived.Test.YthidgkfgdkjghaaAx3
import Derived.Test.YthidgkfgdkjghaaAx6
import Derived.Test.YthidgkfgdkjghaaAx11
namespace Go.Proofs.Ythidgkfgdkjghaa.A
open Go.RowKit Go.Proofs.YthidgkfgdkjghaaW.PrintWords Go.Proofs.YthidgkfgdkjghaaW.PrintLast Go.Proofs.YthidgkfgdkjghaaW.PrintMore
attribute [local go_sem] max2_int min2_int max_two min_two max_three min_three max_four min_four
set_option linter.unusedVariables false
set_option linter.unusedSimpArgs false
set_option maxHeartbeats 8000000
set_option maxRecDepth 100000

/-! ### spec_l11Any: function 54 -/
def spec_l11Any.f  : Option (Int × Int) := (spec_l1All.f).bind fun t274 => ((spec_l1All.f).bind fun t275 => (some (t274, t275)))
theorem spec_l11Any.calls  (r1 : Int) (r2 : Int) (w : World) (h : spec_l11Any.f  = some (r1, r2)) :
  Calls Try.prog 54 #[] w fun e w' => e = .returned (.agg #[.int .i64 r1, .int .i64 r2]) ∧ Below w.heap.size w w' := by
 have hu39 := Try.underlying39
 have HB := AM (Below.refl w.heap.size w)
 have H := h
 unfold spec_l11Any.f at H
 clear h
 obtain ⟨t274, A1, H⟩ := ZOB H; try dsimp only at H
 obtain ⟨t275, A2, H⟩ := ZOB H; try dsimp only at H
 simp only [Option.some.injEq, Prod.mk.injEq] at H
 obtain ⟨rfl, rfl⟩ := H
 go_enter Try.func54, Try.ntmps54
 go_wp2_with (first | ((with_reducible refine gate_dst (N := 0) rfl ?_); refine ZX (N := 0) (cs := #[.int .i64 0, .int .i64 0]) (t := 39) ?_; intro gb273 hg w3 hbox hb; have BK273 := AM (hbox); have GW273 : Aside0 (w.heap.size ≤ gb273) := ZS hg; have GE273 : Aside0 (w.heap.size ≤ gb273) := ZS hg; replace HB := ZT HB hb; clear hb hbox hg) | ((with_reducible refine gate_callee (f := 75) rfl ?_); refine ZGL (some 1) Try.func75 #[] ?_; (with_reducible refine (spec_l1All.calls  t274 _ A1.out).mono ?_); rintro e w' ⟨rfl, ⟨nd, rfl⟩⟩; refine ⟨_, rfl, ?_⟩; (try (rw [drewN_self w3]; generalize hq_ : World.drewN w3 _ = w3; have n0_ : Aside0 (w3.heap[gb273]? = some (.cells #[.int .i64 0, .int .i64 0] 39 (0, 0))) := ⟨by rw [← hq_]; exact (ZK BK273.out)⟩; have n1_ : Aside0 (Below w.heap.size w w3) := ⟨by rw [← hq_]; exact (ZB)⟩; clear BK273 HB hq_; have BK273 := n0_; have HB := n1_; clear n0_ n1_))) | ((with_reducible refine gate_callee (f := 75) rfl ?_); refine ZGL (some 2) Try.func75 #[] ?_; (with_reducible refine (spec_l1All.calls  t275 _ A2.out).mono ?_); rintro e w' ⟨rfl, ⟨nd, rfl⟩⟩; refine ⟨_, rfl, ?_⟩; (try (rw [drewN_self w3]; generalize hq_ : World.drewN w3 _ = w3; have n0_ : Aside0 (w3.heap[gb273]? = some (.cells #[.int .i64 0, .int .i64 0] 39 (0, 0))) := ⟨by rw [← hq_]; exact (ZK BK273.out)⟩; have n1_ : Aside0 (Below w.heap.size w w3) := ⟨by rw [← hq_]; exact (ZB)⟩; clear BK273 HB hq_; have BK273 := n0_; have HB := n1_; clear n0_ n1_)); have hcz4 := ZC2 w3 BK273; have hfz4 := ZF2 BK273))
 refine bodyPost_ret (results_cell_row rfl _ _ gb273 39 #[.int .i64 t274, .int .i64 t275] (0, 0) _ rfl (ZZ BK273.out) Try.underlying39 rfl (by kernel_rfl)) rfl ?_
 exact ⟨ZE, ZB⟩

/-! ### spec_TypeAt: function 33 -/
def spec_TypeAt.f (k : Nat) (l0_0 : List (S39)) (l0_1 : List (S32)) : Option ((List (S39))) := (spec_ProgOk.f k l0_0 l0_1).bind fun t277 => (if t277 = true then ((spec_l11Any.f).bind fun bt278 => ((spec_l11At.f k l0_0 l0_1 l0_1 bt278.1 bt278.2 (([] : List (S39)))).bind fun t283 => (some t283))) else (some (([] : List (S39)))))
theorem spec_TypeAt.calls (k : Nat) (A0_0 : Option Addr) (c0_0 : Nat) (l0_0 : List (S39)) (A0_1 : Option Addr) (c0_1 : Nat) (l0_1 : List (S32)) (r : List (S39)) (w : World) (hr0_0 : Kd.C k39 w A0_0 l0_0.length l0_0) (hc0_0 : l0_0.length ≤ c0_0) (hr0_1 : Kd.C k32 w A0_1 l0_1.length l0_1) (hc0_1 : l0_1.length ≤ c0_1) (h : spec_TypeAt.f k l0_0 l0_1 = some r) :
  Calls Try.prog 33 #[.agg #[.slice A0_0 l0_0.length c0_0, .slice A0_1 l0_1.length c0_1]] w fun e w' => ∃ v0_ : Value, e = .returned (v0_) ∧ Kd.R k39 39 w' w.heap.size (fun _ => True) v0_ r ∧ Below w.heap.size w w' := by
 have hu26 := Try.underlying26
 have HR0_0 := AM hr0_0
 have HC0_0 := AM hc0_0
 clear hr0_0 hc0_0
 have HR0_1 := AM hr0_1
 have HC0_1 := AM hc0_1
 clear hr0_1 hc0_1
 have HB := AM (Below.refl w.heap.size w)
 have H := h
 unfold spec_TypeAt.f at H
 clear h
 obtain ⟨t277, A2, H⟩ := ZOB H; try dsimp only at H
 by_cases c3 : t277 = true
 ·(
 subst c3
 have H1 := H; rw [if_pos rfl] at H1
 clear H
 have H := H1
 clear H1
 obtain ⟨⟨t278, t279⟩, A4, H⟩ := ZOB H; try dsimp only at H
 obtain ⟨y280, hy280⟩ : ∃ y_ : List (S39), y_ = (([] : List (S39))) := ⟨_, rfl⟩
 replace H : ((spec_l11At.f k l0_0 l0_1 l0_1 t278 t279 y280).bind fun t283 => (some t283)) = some r := by first | (rw [hy280]; with_reducible exact H) | (have H2_ := (Option.bind_some _ _).symm.trans H; rw [hy280]; with_reducible exact H2_) | (have H2_ := (Option.bind_some _ _).symm.trans H; with_reducible exact H2_) | with_reducible exact H | (rw [hy280]; exact H) | exact H
 have Ny280 := AM hy280
 clear hy280
 obtain ⟨t283, A5, H⟩ := ZOB H; try dsimp only at H
 obtain rfl := Option.some.inj H
 go_enter Try.func33, Try.ntmps33
 try go_wp2_with (first | ((with_reducible refine gate_dst (N := 1) rfl ?_); refine ZX (N := 1) (cs := #[.slice A0_0 l0_0.length c0_0, .slice A0_1 l0_1.length c0_1]) (t := 26) ?_; intro gb276 hg w6 hbox hb; have BK276 := AM (hbox); have GW276 : Aside0 (w.heap.size ≤ gb276) := ZS hg; have GE276 : Aside0 (w.heap.size ≤ gb276) := ZS hg; replace HB := ZT HB hb; clear hb hbox hg; have hcz7 := ZC2 w6 BK276; have hfz7 := ZF2 BK276) | ((with_reducible refine gate_callee (f := 19) rfl ?_); refine ZGL (some 4) Try.func19 #[.agg #[.slice A0_0 l0_0.length c0_0, .slice A0_1 l0_1.length c0_1]] ?_; (with_reducible refine (spec_ProgOk.calls k _ _ l0_0 _ _ l0_1 true _ ?side1 ?side2 ?side3 ?side4 A2.out).mono ?_); (case side1 => exact ZQ (Kd.C_below HR0_0.out HB.out)); (case side2 => exact HC0_0.out); (case side3 => exact ZQ (Kd.C_below HR0_1.out HB.out)); (case side4 => exact HC0_1.out); rintro e w8 ⟨rfl, hb⟩; refine ⟨_, rfl, ?_⟩; replace BK276 := ZW BK276 hb; replace HB := ZT HB hb; clear hb))
 replace BK276 := AM (blk_drew BK276.out)
 replace HB := AM (below_drew1 HB.out)
 refine start_ (n := 7) (S := fun w' => w'.cell? ⟨gb276, 0, none⟩ = some (.slice A0_0 l0_0.length c0_0) ∧ w'.cell? ⟨gb276, 1, none⟩ = some (.slice A0_1 l0_1.length c0_1)) (ds := []) #[F,F,F,F,F,F,F] (by kernel_rfl) rfl rfl ⟨ZA BK276 0, ZA BK276 1⟩ (fun hHeld => ?_)
 generalize w8.drew = w9 at BK276 HB hHeld ⊢
 refine pure_ (i := 1) (N := some 8) (v := ?_) (a' := ?_) #[F,T,F,F,F,F,F] rfl rfl (by kernel_rfl) (fun _ _ _ h => h) (Or.inl ⟨by rfl, ?_⟩) ?_ ?_
 rotate_left
 ·(
 intro w'
 go_simp
 with_reducible rfl)
 rotate_left
 ·(
 simp only [Act.put, List.setIfInBounds_toArray, List.set_cons_zero, List.set_cons_succ, i64_w, i32_w]
 rfl)
 refine take_ (i := 0) (N := some 7) (v := ?_) (a' := ?_) #[T,T,F,F,F,F,F] rfl rfl (by kernel_rfl) (fun _ _ _ h => h) (Or.inl ⟨by rfl, ?_⟩) hHeld ?_ ?_
 rotate_left
 ·(
 rintro w' ⟨s0, s1⟩
 go_simp
 with_reducible rfl)
 rotate_left
 ·(
 simp only [Act.put, List.setIfInBounds_toArray, List.set_cons_zero, List.set_cons_succ, i64_w, i32_w]
 rfl)
 refine take_ (i := 2) (N := some 9) (v := ?_) (a' := ?_) #[T,T,T,F,F,F,F] rfl rfl (by kernel_rfl) (fun _ _ _ h => h) (Or.inl ⟨by rfl, ?_⟩) hHeld ?_ ?_
 rotate_left
 ·(
 rintro w' ⟨s0, s1⟩
 go_simp
 with_reducible rfl)
 rotate_left
 ·(
 simp only [Act.put, List.setIfInBounds_toArray, List.set_cons_zero, List.set_cons_succ, i64_w, i32_w]
 rfl)
 refine join_ (σ := Value) 2 #[T,T,T,T,T,F,F] (fun s_ => [(10, .agg #[.int .i64 t278, .int .i64 t279]), (11, s_)]) (fun s_ w' => (w'.cell? ⟨gb276, 0, none⟩ = some (.slice A0_0 l0_0.length c0_0) ∧ w'.cell? ⟨gb276, 1, none⟩ = some (.slice A0_1 l0_1.length c0_1)) ∧ (Kd.R k39 39 w' w.heap.size (fun _ => True) s_ y280) ∧ (w'.heap[gb276]? = some (.cells #[.slice A0_0 l0_0.length c0_0, .slice A0_1 l0_1.length c0_1] 26 (0, 0))) ∧ (Below w.heap.size w w')) ?_ ?_
 rotate_left
 ·(
 intro hCont
 refine two_ (i := 3) (j := 4) (Ni := some 10) (Nj := some 11) #[T,T,T,T,F,F,F] #[T,T,T,F,T,F,F] rfl rfl rfl rfl (by kernel_rfl) (by decide) (by decide) (fun K hK => ?_) (fun K hK => ?_)
 ·(
 skip
 refine ZGO Try.func54 #[] ?_
 with_reducible refine (spec_l11Any.calls  t278 t279 _ A4.out).mono ?_
 rintro e w10 ⟨rfl, hb⟩
 refine ⟨_, rfl, ?_⟩
 replace BK276 := ZW BK276 hb
 replace HB := ZT HB hb
 (try clear hb)
 (try clear hb2)
 (try clear hk)
 (try clear hi)
 refine hK.out _ _ ⟨ZA BK276 0, ZA BK276 1⟩ (fun hHeld => ?_)
 clear hK K
 refine ZNO 10 ?_
 refine one_ (i := 4) (N := some 11) #[T,T,T,T,T,F,F] rfl rfl (by kernel_rfl) (by decide) (fun K hK => ?_)
 refine Kd.R_lit_step k39 _ 39 ?hg (N := 11) ?hd (xs := ([] : List (S39))) (inner := []) (ok := fun _ => True) (okp := fun _ => True) ?hr ?hp (fun _ hk => hk) trivial (Below.refl _ _) (Nat.le_refl _) (by simp) ?_; (case hd => rfl); (case hg => rfl); (case hr => first | (go_simp; done) | (go_simp; rfl)); (case hp => exact (Reps.none _ _))
 intro v281 w11 ho12 hb hg_ hnew_
 clear hg_ hnew_
 (first | rw [← Ny280.out] at ho12 | (simp only [Int.reduceToNat] at ho12; rw [← Ny280.out] at ho12))
 have HO282 := AM (Kd.R_lower ho12 (below_size (ZB)))
 replace BK276 := ZW BK276 hb
 replace HB := ZT HB hb
 clear hb ho12
 refine hK.out _ _ ⟨ZA BK276 0, ZA BK276 1⟩ (fun hHeld => ?_)
 clear hK K
 refine ZNO 11 ?_
 exact norm_ (by simp only [putAll, Act.put, List.setIfInBounds_toArray, List.set_cons_zero, List.set_cons_succ]) (hCont (v281) _ ⟨hHeld, (ZR HO282.out), (ZK BK276.out), (ZB)⟩))
 ·(
 skip
 refine Kd.R_lit_step k39 _ 39 ?hg (N := 11) ?hd (xs := ([] : List (S39))) (inner := []) (ok := fun _ => True) (okp := fun _ => True) ?hr ?hp (fun _ hk => hk) trivial (Below.refl _ _) (Nat.le_refl _) (by simp) ?_; (case hd => rfl); (case hg => rfl); (case hr => first | (go_simp; done) | (go_simp; rfl)); (case hp => exact (Reps.none _ _))
 intro v281 w10 ho11 hb hg_ hnew_
 clear hg_ hnew_
 (first | rw [← Ny280.out] at ho11 | (simp only [Int.reduceToNat] at ho11; rw [← Ny280.out] at ho11))
 have HO282 := AM (Kd.R_lower ho11 (below_size (ZB)))
 replace BK276 := ZW BK276 hb
 replace HB := ZT HB hb
 clear hb ho11
 refine hK.out _ _ ⟨ZA BK276 0, ZA BK276 1⟩ (fun hHeld => ?_)
 clear hK K
 refine ZNO 11 ?_
 refine one_ (i := 3) (N := some 10) #[T,T,T,T,T,F,F] rfl rfl (by kernel_rfl) (by decide) (fun K hK => ?_)
 refine ZGO Try.func54 #[] ?_
 with_reducible refine (spec_l11Any.calls  t278 t279 _ A4.out).mono ?_
 rintro e w12 ⟨rfl, hb⟩
 refine ⟨_, rfl, ?_⟩
 replace HO282 := AM (Kd.R_below (ZR HO282.out) hb)
 replace BK276 := ZW BK276 hb
 replace HB := ZT HB hb
 (try clear hb)
 (try clear hb2)
 (try clear hk)
 (try clear hi)
 refine hK.out _ _ ⟨ZA BK276 0, ZA BK276 1⟩ (fun hHeld => ?_)
 clear hK K
 refine ZNO 10 ?_
 exact norm_ (by simp only [putAll, Act.put, List.setIfInBounds_toArray, List.set_cons_zero, List.set_cons_succ]) (hCont (v281) _ ⟨hHeld, (ZR HO282.out), (ZK BK276.out), (ZB)⟩)))
 rintro v281 w13 ⟨hS_, h0_, h1_, h2_⟩
 try dsimp only at h0_ h1_ h2_
 have n0_ := AM h0_
 have n1_ := AM h1_
 have n2_ := AM h2_
 clear BK276 HB h0_ h1_ h2_
 have HO282 := n0_
 have BK276 := n1_
 have HB := n2_
 clear n0_ n1_ n2_
 try dsimp only at hS_
 have hHeld := hS_
 obtain ⟨Ao14, co14, eo14⟩ := Kd.R_slice HO282.out
 (first | subst eo14 | (injection eo14 with f1_ f2_ f3_; have f4_ := f1_.symm; have f5_ := f3_.symm; clear f1_ f2_ f3_; subst f4_; subst f5_))
 refine ZNP ?_
 refine one_ (i := 5) (N := some 12) #[T,T,T,T,T,T,F] rfl rfl (by kernel_rfl) (by decide) (fun K hK => ?_)
 refine ZGO Try.func53 #[.agg #[.slice A0_0 l0_0.length c0_0, .slice A0_1 l0_1.length c0_1], .slice A0_1 l0_1.length c0_1, .agg #[.int .i64 t278, .int .i64 t279], .slice Ao14 y280.length co14] ?_
 with_reducible refine (spec_l11At.calls k _ _ l0_0 _ _ l0_1 _ _ l0_1 t278 t279 (fun k_ => some k_ = (.slice Ao14 y280.length co14 : Value).ownBlock) (.slice Ao14 y280.length co14) y280 t283 w _ ?side1 ?side2 ?side3 ?side4 ?side5 ?side6 ?side7 ?side8 A5.out).mono ?_
 (case side1 => repeat (first | (with_reducible first | exact HB.out | apply below_alloc | apply pw_below_drewN | apply below_drew1 | refine below_set ?_ GE276.out) | exact HB.out))
 (case side2 => exact Kd.C_kept_came k39_heap HR0_0.out (ZB) (fun k_ hs_ => (fun e_ => Kd.R_base HO282.out k_ e_.symm) hs_))
 (case side3 => exact HC0_0.out)
 (case side4 => exact Kd.C_kept_came k32_heap HR0_1.out (ZB) (fun k_ hs_ => (fun e_ => Kd.R_base HO282.out k_ e_.symm) hs_))
 (case side5 => exact HC0_1.out)
 (case side6 => exact Kd.C_kept_came k32_heap HR0_1.out (ZB) (fun k_ hs_ => (fun e_ => Kd.R_base HO282.out k_ e_.symm) hs_))
 (case side7 => exact HC0_1.out)
 (case side8 => exact Kd.R_tight rfl HO282.out)
 rintro e w15 ⟨v284, rfl, ho0, hb, hkp⟩
 refine ⟨_, rfl, ?_⟩
 have n0_ := AM (blk_kept (ZK BK276.out) hkp (fun hs_ => (fun e_ => (Kd.R_ne HO282.out BK276.out (by decide)) e_) hs_))
 have n1_ := AM (Kd.R_mono (ok' := fun k_ => True) ho0 (fun k_ hk_ => trivial))
 have n2_ := AM (hb)
 clear BK276 HB HO282
 have BK276 := n0_
 have HO285 := n1_
 have HB := n2_
 clear n0_ n1_ n2_
 (try clear hb)
 (try clear hkp)
 (try clear ho0)
 refine hK.out _ _ ⟨ZA BK276 0, ZA BK276 1⟩ (fun hHeld => ?_)
 clear hK K
 refine ZNO 12 ?_
 refine pure_ (i := 6) (N := some 2) (v := ?_) (a' := ?_) #[T,T,T,T,T,T,T] rfl rfl (by kernel_rfl) (fun _ _ _ h => h) (Or.inl ⟨by rfl, ?_⟩) ?_ ?_
 rotate_left
 ·(
 intro w'
 go_simp
 with_reducible rfl)
 rotate_left
 ·(
 simp only [Act.put, List.setIfInBounds_toArray, List.set_cons_zero, List.set_cons_succ, i64_w, i32_w]
 rfl)
 refine done_ (by kernel_rfl) ?_
 try go_wp2
 go_ret
 exact ⟨_, ZE, by (with_reducible repeat (first | apply Kd.R_alloc | apply Kd.R_drewN | apply Kd.R_drew)); exact HO285.out, ZB⟩)
 ·(
 replace c3 := Bool.eq_false_iff.mpr c3
 subst c3
 have H1 := H; rw [if_neg ZFT] at H1
 clear H
 have H := H1
 clear H1
 obtain ⟨y286, hy286⟩ : ∃ y_ : List (S39), y_ = (([] : List (S39))) := ⟨_, rfl⟩
 replace H : (some y286) = some r := by first | (rw [hy286]; with_reducible exact H) | (have H2_ := (Option.bind_some _ _).symm.trans H; rw [hy286]; with_reducible exact H2_) | (have H2_ := (Option.bind_some _ _).symm.trans H; with_reducible exact H2_) | with_reducible exact H | (rw [hy286]; exact H) | exact H
 have Ny286 := AM hy286
 clear hy286
 obtain rfl := Option.some.inj H
 go_enter Try.func33, Try.ntmps33
 go_wp2_with (first | ((with_reducible refine gate_dst (N := 1) rfl ?_); refine ZX (N := 1) (cs := #[.slice A0_0 l0_0.length c0_0, .slice A0_1 l0_1.length c0_1]) (t := 26) ?_; intro gb276 hg w16 hbox hb; have BK276 := AM (hbox); have GW276 : Aside0 (w.heap.size ≤ gb276) := ZS hg; have GE276 : Aside0 (w.heap.size ≤ gb276) := ZS hg; replace HB := ZT HB hb; clear hb hbox hg; have hcz17 := ZC2 w16 BK276; have hfz17 := ZF2 BK276) | ((with_reducible refine gate_callee (f := 19) rfl ?_); refine ZGL (some 4) Try.func19 #[.agg #[.slice A0_0 l0_0.length c0_0, .slice A0_1 l0_1.length c0_1]] ?_; (with_reducible refine (spec_ProgOk.calls k _ _ l0_0 _ _ l0_1 false _ ?side1 ?side2 ?side3 ?side4 A2.out).mono ?_); (case side1 => exact ZQ (Kd.C_below HR0_0.out HB.out)); (case side2 => exact HC0_0.out); (case side3 => exact ZQ (Kd.C_below HR0_1.out HB.out)); (case side4 => exact HC0_1.out); rintro e w18 ⟨rfl, hb⟩; refine ⟨_, rfl, ?_⟩; replace BK276 := ZW BK276 hb; replace HB := ZT HB hb; clear hb) | ((with_reducible refine gate_dst (N := 6) rfl ?_); refine Kd.R_lit k39 _ 39 ?hg (N := 6) ?hd (xs := ([] : List (S39))) (inner := []) (ok := fun _ => True) (okp := fun _ => True) ?hr ?hp (fun _ hk => hk) trivial (Below.refl _ _) (Nat.le_refl _) (by simp) ?_; (case hd => rfl); (case hg => rfl); (case hr => first | (go_simp; done) | (go_simp; rfl)); (case hp => exact (Reps.none _ _)); intro v287 w19 ho20 hb hg_ hnew_; clear hg_ hnew_; (first | rw [← Ny286.out] at ho20 | (simp only [Int.reduceToNat] at ho20; rw [← Ny286.out] at ho20)); have HO288 := AM (Kd.R_lower ho20 (below_size (ZB))); replace BK276 := ZW BK276 hb; replace HB := ZT HB hb; clear hb ho20))
 go_ret
 exact ⟨_, ZE, by (with_reducible repeat (first | apply Kd.R_alloc | apply Kd.R_drewN | apply Kd.R_drew)); exact HO288.out, ZB⟩)

end Go.Proofs.Ythidgkfgdkjghaa.A
