/- Go functions as Lean functions, and for each its contract; written by wip/tools/pr.py over the kit's print. -/
import Derived.Test.YtaflodibibbakaaAx0
import Derived.Test.YtaflodibibbakaaAx2
import Derived.Test.YtaflodibibbakaaAx5
import Derived.Test.YtaflodibibbakaaAx20
namespace Go.Proofs.Ytaflodibibbakaa.A
open Go.RowKit Go.Proofs.YtaflodibibbakaaW.PrintWords Go.Proofs.YtaflodibibbakaaW.PrintLast Go.Proofs.YtaflodibibbakaaW.PrintMore
attribute [local go_sem] max2_int min2_int max_two min_two max_three min_three max_four min_four
set_option linter.unusedVariables false
set_option linter.unusedSimpArgs false
set_option maxHeartbeats 8000000
set_option maxRecDepth 100000

/-! ### spec_l11Any: function 46 -/
def spec_l11Any.f  : Option (Int × Int) := (spec_l1All.f).bind fun t427 => ((spec_l1All.f).bind fun t428 => (some (t427, t428)))
theorem spec_l11Any.calls  (r1 : Int) (r2 : Int) (w : World) (h : spec_l11Any.f  = some (r1, r2)) :
  Calls Try.prog 46 #[] w fun e w' => e = .returned (.agg #[.int .i64 r1, .int .i64 r2]) ∧ Below w.heap.size w w' := by
 have hu60 := Try.underlying60
 have HB := AM (Below.refl w.heap.size w)
 have H := h
 unfold spec_l11Any.f at H
 clear h
 obtain ⟨t427, A1, H⟩ := ZOB H; try dsimp only at H
 obtain ⟨t428, A2, H⟩ := ZOB H; try dsimp only at H
 simp only [Option.some.injEq, Prod.mk.injEq] at H
 obtain ⟨rfl, rfl⟩ := H
 go_enter Try.func46, Try.ntmps46
 go_wp2_with (first | ((with_reducible refine gate_dst (N := 0) rfl ?_); refine ZX (N := 0) (cs := #[.int .i64 0, .int .i64 0]) (t := 60) ?_; intro gb426 hg w3 hbox hb; have BK426 := AM (hbox); have GW426 : Aside0 (w.heap.size ≤ gb426) := ZS hg; have GE426 : Aside0 (w.heap.size ≤ gb426) := ZS hg; replace HB := ZT HB hb; clear hb hbox hg) | ((with_reducible refine gate_callee (f := 69) rfl ?_); refine ZGL (some 1) Try.func69 #[] ?_; (with_reducible refine (spec_l1All.calls  t427 _ A1.out).mono ?_); rintro e w' ⟨rfl, ⟨nd, rfl⟩⟩; refine ⟨_, rfl, ?_⟩; (try (rw [drewN_self w3]; generalize hq_ : World.drewN w3 _ = w3; have n0_ : Aside0 (w3.heap[gb426]? = some (.cells #[.int .i64 0, .int .i64 0] 60 (0, 0))) := ⟨by rw [← hq_]; exact (ZK BK426.out)⟩; have n1_ : Aside0 (Below w.heap.size w w3) := ⟨by rw [← hq_]; exact (ZB)⟩; clear BK426 HB hq_; have BK426 := n0_; have HB := n1_; clear n0_ n1_))) | ((with_reducible refine gate_callee (f := 69) rfl ?_); refine ZGL (some 2) Try.func69 #[] ?_; (with_reducible refine (spec_l1All.calls  t428 _ A2.out).mono ?_); rintro e w' ⟨rfl, ⟨nd, rfl⟩⟩; refine ⟨_, rfl, ?_⟩; (try (rw [drewN_self w3]; generalize hq_ : World.drewN w3 _ = w3; have n0_ : Aside0 (w3.heap[gb426]? = some (.cells #[.int .i64 0, .int .i64 0] 60 (0, 0))) := ⟨by rw [← hq_]; exact (ZK BK426.out)⟩; have n1_ : Aside0 (Below w.heap.size w w3) := ⟨by rw [← hq_]; exact (ZB)⟩; clear BK426 HB hq_; have BK426 := n0_; have HB := n1_; clear n0_ n1_)); have hcz4 := ZC2 w3 BK426; have hfz4 := ZF2 BK426))
 refine bodyPost_ret (results_cell_row rfl _ _ gb426 60 #[.int .i64 t427, .int .i64 t428] (0, 0) _ rfl (ZZ BK426.out) Try.underlying60 rfl (by kernel_rfl)) rfl ?_
 exact ⟨ZE, ZB⟩

/-! ### spec_TypeAt: function 19 -/
def spec_TypeAt.f (k : Nat) (l0_0 : List (S60)) (l0_1 : List (S50)) : Option ((List (S60))) := (spec_ProgOk.f k l0_0 l0_1).bind fun t430 => (if t430 = true then ((spec_l11Any.f).bind fun bt431 => ((spec_l11At.f k l0_0 l0_1 l0_1 bt431.1 bt431.2 (([] : List (S60)))).bind fun t436 => (some t436))) else (some (([] : List (S60)))))
theorem spec_TypeAt.calls (k : Nat) (A0_0 : Option Addr) (c0_0 : Nat) (l0_0 : List (S60)) (A0_1 : Option Addr) (c0_1 : Nat) (l0_1 : List (S50)) (r : List (S60)) (w : World) (hr0_0 : Kd.C k60 w A0_0 l0_0.length l0_0) (hc0_0 : l0_0.length ≤ c0_0) (hr0_1 : Kd.C k50 w A0_1 l0_1.length l0_1) (hc0_1 : l0_1.length ≤ c0_1) (h : spec_TypeAt.f k l0_0 l0_1 = some r) :
  Calls Try.prog 19 #[.agg #[.slice A0_0 l0_0.length c0_0, .slice A0_1 l0_1.length c0_1]] w fun e w' => ∃ v0_ : Value, e = .returned (v0_) ∧ Kd.R k60 60 w' w.heap.size (fun _ => True) v0_ r ∧ Below w.heap.size w w' := by
 have hu32 := Try.underlying32
 have HR0_0 := AM hr0_0
 have HC0_0 := AM hc0_0
 clear hr0_0 hc0_0
 have HR0_1 := AM hr0_1
 have HC0_1 := AM hc0_1
 clear hr0_1 hc0_1
 have HB := AM (Below.refl w.heap.size w)
 have H := h
 unfold spec_TypeAt.f at H
 clear h
 obtain ⟨t430, A2, H⟩ := ZOB H; try dsimp only at H
 by_cases c3 : t430 = true
 ·(
 subst c3
 have H1 := H; rw [if_pos rfl] at H1
 clear H
 have H := H1
 clear H1
 obtain ⟨⟨t431, t432⟩, A4, H⟩ := ZOB H; try dsimp only at H
 obtain ⟨y433, hy433⟩ : ∃ y_ : List (S60), y_ = (([] : List (S60))) := ⟨_, rfl⟩
 replace H : ((spec_l11At.f k l0_0 l0_1 l0_1 t431 t432 y433).bind fun t436 => (some t436)) = some r := by first | (rw [hy433]; with_reducible exact H) | (have H2_ := (Option.bind_some _ _).symm.trans H; rw [hy433]; with_reducible exact H2_) | (have H2_ := (Option.bind_some _ _).symm.trans H; with_reducible exact H2_) | with_reducible exact H | (rw [hy433]; exact H) | exact H
 have Ny433 := AM hy433
 clear hy433
 obtain ⟨t436, A5, H⟩ := ZOB H; try dsimp only at H
 obtain rfl := Option.some.inj H
 go_enter Try.func19, Try.ntmps19
 try go_wp2_with (first | ((with_reducible refine gate_dst (N := 1) rfl ?_); refine ZX (N := 1) (cs := #[.slice A0_0 l0_0.length c0_0, .slice A0_1 l0_1.length c0_1]) (t := 32) ?_; intro gb429 hg w6 hbox hb; have BK429 := AM (hbox); have GW429 : Aside0 (w.heap.size ≤ gb429) := ZS hg; have GE429 : Aside0 (w.heap.size ≤ gb429) := ZS hg; replace HB := ZT HB hb; clear hb hbox hg; have hcz7 := ZC2 w6 BK429; have hfz7 := ZF2 BK429) | ((with_reducible refine gate_callee (f := 36) rfl ?_); refine ZGL (some 4) Try.func36 #[.agg #[.slice A0_0 l0_0.length c0_0, .slice A0_1 l0_1.length c0_1]] ?_; (with_reducible refine (spec_ProgOk.calls k _ _ l0_0 _ _ l0_1 true _ ?side1 ?side2 ?side3 ?side4 A2.out).mono ?_); (case side1 => exact ZQ (Kd.C_below HR0_0.out HB.out)); (case side2 => exact HC0_0.out); (case side3 => exact ZQ (Kd.C_below HR0_1.out HB.out)); (case side4 => exact HC0_1.out); rintro e w8 ⟨rfl, hb⟩; refine ⟨_, rfl, ?_⟩; replace BK429 := ZW BK429 hb; replace HB := ZT HB hb; clear hb))
 replace BK429 := AM (blk_drew BK429.out)
 replace HB := AM (below_drew1 HB.out)
 refine start_ (n := 7) (S := fun w' => w'.cell? ⟨gb429, 0, none⟩ = some (.slice A0_0 l0_0.length c0_0) ∧ w'.cell? ⟨gb429, 1, none⟩ = some (.slice A0_1 l0_1.length c0_1)) (ds := []) #[F,F,F,F,F,F,F] (by kernel_rfl) rfl rfl ⟨ZA BK429 0, ZA BK429 1⟩ (fun hHeld => ?_)
 generalize w8.drew = w9 at BK429 HB hHeld ⊢
 refine pure_ (i := 1) (N := some 8) (v := ?_) (a' := ?_) #[F,T,F,F,F,F,F] rfl rfl (by kernel_rfl) (fun _ _ _ h => h) (Or.inl ⟨by rfl, ?_⟩) ?_ ?_
 rotate_left
 ·(
 intro w'
 go_simp
 with_reducible rfl)
 rotate_left
 ·(
 simp only [Act.put, List.setIfInBounds_toArray, List.set_cons_zero, List.set_cons_succ, i64_w, i32_w]
 rfl)
 refine take_ (i := 0) (N := some 7) (v := ?_) (a' := ?_) #[T,T,F,F,F,F,F] rfl rfl (by kernel_rfl) (fun _ _ _ h => h) (Or.inl ⟨by rfl, ?_⟩) hHeld ?_ ?_
 rotate_left
 ·(
 rintro w' ⟨s0, s1⟩
 go_simp
 with_reducible rfl)
 rotate_left
 ·(
 simp only [Act.put, List.setIfInBounds_toArray, List.set_cons_zero, List.set_cons_succ, i64_w, i32_w]
 rfl)
 refine take_ (i := 2) (N := some 9) (v := ?_) (a' := ?_) #[T,T,T,F,F,F,F] rfl rfl (by kernel_rfl) (fun _ _ _ h => h) (Or.inl ⟨by rfl, ?_⟩) hHeld ?_ ?_
 rotate_left
 ·(
 rintro w' ⟨s0, s1⟩
 go_simp
 with_reducible rfl)
 rotate_left
 ·(
 simp only [Act.put, List.setIfInBounds_toArray, List.set_cons_zero, List.set_cons_succ, i64_w, i32_w]
 rfl)
 refine join_ (σ := Value) 2 #[T,T,T,T,T,F,F] (fun s_ => [(10, .agg #[.int .i64 t431, .int .i64 t432]), (11, s_)]) (fun s_ w' => (w'.cell? ⟨gb429, 0, none⟩ = some (.slice A0_0 l0_0.length c0_0) ∧ w'.cell? ⟨gb429, 1, none⟩ = some (.slice A0_1 l0_1.length c0_1)) ∧ (Kd.R k60 60 w' w.heap.size (fun _ => True) s_ y433) ∧ (w'.heap[gb429]? = some (.cells #[.slice A0_0 l0_0.length c0_0, .slice A0_1 l0_1.length c0_1] 32 (0, 0))) ∧ (Below w.heap.size w w')) ?_ ?_
 rotate_left
 ·(
 intro hCont
 refine two_ (i := 3) (j := 4) (Ni := some 10) (Nj := some 11) #[T,T,T,T,F,F,F] #[T,T,T,F,T,F,F] rfl rfl rfl rfl (by kernel_rfl) (by decide) (by decide) (fun K hK => ?_) (fun K hK => ?_)
 ·(
 skip
 refine ZGO Try.func46 #[] ?_
 with_reducible refine (spec_l11Any.calls  t431 t432 _ A4.out).mono ?_
 rintro e w10 ⟨rfl, hb⟩
 refine ⟨_, rfl, ?_⟩
 replace BK429 := ZW BK429 hb
 replace HB := ZT HB hb
 (try clear hb)
 (try clear hb2)
 (try clear hk)
 (try clear hi)
 refine hK.out _ _ ⟨ZA BK429 0, ZA BK429 1⟩ (fun hHeld => ?_)
 clear hK K
 refine ZNO 10 ?_
 refine one_ (i := 4) (N := some 11) #[T,T,T,T,T,F,F] rfl rfl (by kernel_rfl) (by decide) (fun K hK => ?_)
 refine Kd.R_lit_step k60 _ 60 ?hg (N := 11) ?hd (xs := ([] : List (S60))) (inner := []) (ok := fun _ => True) (okp := fun _ => True) ?hr ?hp (fun _ hk => hk) trivial (Below.refl _ _) (Nat.le_refl _) (by simp) ?_; (case hd => rfl); (case hg => rfl); (case hr => first | (go_simp; done) | (go_simp; rfl)); (case hp => exact (Reps.none _ _))
 intro v434 w11 ho12 hb hg_ hnew_
 clear hg_ hnew_
 (first | rw [← Ny433.out] at ho12 | (simp only [Int.reduceToNat] at ho12; rw [← Ny433.out] at ho12))
 have HO435 := AM (Kd.R_lower ho12 (below_size (ZB)))
 replace BK429 := ZW BK429 hb
 replace HB := ZT HB hb
 clear hb ho12
 refine hK.out _ _ ⟨ZA BK429 0, ZA BK429 1⟩ (fun hHeld => ?_)
 clear hK K
 refine ZNO 11 ?_
 exact norm_ (by simp only [putAll, Act.put, List.setIfInBounds_toArray, List.set_cons_zero, List.set_cons_succ]) (hCont (v434) _ ⟨hHeld, (ZR HO435.out), (ZK BK429.out), (ZB)⟩))
 ·(
 skip
 refine Kd.R_lit_step k60 _ 60 ?hg (N := 11) ?hd (xs := ([] : List (S60))) (inner := []) (ok := fun _ => True) (okp := fun _ => True) ?hr ?hp (fun _ hk => hk) trivial (Below.refl _ _) (Nat.le_refl _) (by simp) ?_; (case hd => rfl); (case hg => rfl); (case hr => first | (go_simp; done) | (go_simp; rfl)); (case hp => exact (Reps.none _ _))
 intro v434 w10 ho11 hb hg_ hnew_
 clear hg_ hnew_
 (first | rw [← Ny433.out] at ho11 | (simp only [Int.reduceToNat] at ho11; rw [← Ny433.out] at ho11))
 have HO435 := AM (Kd.R_lower ho11 (below_size (ZB)))
 replace BK429 := ZW BK429 hb
 replace HB := ZT HB hb
 clear hb ho11
 refine hK.out _ _ ⟨ZA BK429 0, ZA BK429 1⟩ (fun hHeld => ?_)
 clear hK K
 refine ZNO 11 ?_
 refine one_ (i := 3) (N := some 10) #[T,T,T,T,T,F,F] rfl rfl (by kernel_rfl) (by decide) (fun K hK => ?_)
 refine ZGO Try.func46 #[] ?_
 with_reducible refine (spec_l11Any.calls  t431 t432 _ A4.out).mono ?_
 rintro e w12 ⟨rfl, hb⟩
 refine ⟨_, rfl, ?_⟩
 replace HO435 := AM (Kd.R_below (ZR HO435.out) hb)
 replace BK429 := ZW BK429 hb
 replace HB := ZT HB hb
 (try clear hb)
 (try clear hb2)
 (try clear hk)
 (try clear hi)
 refine hK.out _ _ ⟨ZA BK429 0, ZA BK429 1⟩ (fun hHeld => ?_)
 clear hK K
 refine ZNO 10 ?_
 exact norm_ (by simp only [putAll, Act.put, List.setIfInBounds_toArray, List.set_cons_zero, List.set_cons_succ]) (hCont (v434) _ ⟨hHeld, (ZR HO435.out), (ZK BK429.out), (ZB)⟩)))
 rintro v434 w13 ⟨hS_, h0_, h1_, h2_⟩
 try dsimp only at h0_ h1_ h2_
 have n0_ := AM h0_
 have n1_ := AM h1_
 have n2_ := AM h2_
 clear BK429 HB h0_ h1_ h2_
 have HO435 := n0_
 have BK429 := n1_
 have HB := n2_
 clear n0_ n1_ n2_
 try dsimp only at hS_
 have hHeld := hS_
 obtain ⟨Ao14, co14, eo14⟩ := Kd.R_slice HO435.out
 (first | subst eo14 | (injection eo14 with f1_ f2_ f3_; have f4_ := f1_.symm; have f5_ := f3_.symm; clear f1_ f2_ f3_; subst f4_; subst f5_))
 refine ZNP ?_
 refine one_ (i := 5) (N := some 12) #[T,T,T,T,T,T,F] rfl rfl (by kernel_rfl) (by decide) (fun K hK => ?_)
 refine ZGO Try.func45 #[.agg #[.slice A0_0 l0_0.length c0_0, .slice A0_1 l0_1.length c0_1], .slice A0_1 l0_1.length c0_1, .agg #[.int .i64 t431, .int .i64 t432], .slice Ao14 y433.length co14] ?_
 with_reducible refine (spec_l11At.calls k _ _ l0_0 _ _ l0_1 _ _ l0_1 t431 t432 (fun k_ => some k_ = (.slice Ao14 y433.length co14 : Value).ownBlock) (.slice Ao14 y433.length co14) y433 t436 w _ ?side1 ?side2 ?side3 ?side4 ?side5 ?side6 ?side7 ?side8 A5.out).mono ?_
 (case side1 => repeat (first | (with_reducible first | exact HB.out | apply below_alloc | apply pw_below_drewN | apply below_drew1 | refine below_set ?_ GE429.out) | exact HB.out))
 (case side2 => exact Kd.C_kept_came k60_heap HR0_0.out (ZB) (fun k_ hs_ => (fun e_ => Kd.R_base HO435.out k_ e_.symm) hs_))
 (case side3 => exact HC0_0.out)
 (case side4 => exact Kd.C_kept_came k50_heap HR0_1.out (ZB) (fun k_ hs_ => (fun e_ => Kd.R_base HO435.out k_ e_.symm) hs_))
 (case side5 => exact HC0_1.out)
 (case side6 => exact Kd.C_kept_came k50_heap HR0_1.out (ZB) (fun k_ hs_ => (fun e_ => Kd.R_base HO435.out k_ e_.symm) hs_))
 (case side7 => exact HC0_1.out)
 (case side8 => exact Kd.R_tight rfl HO435.out)
 rintro e w15 ⟨v437, rfl, ho0, hb, hkp⟩
 refine ⟨_, rfl, ?_⟩
 have n0_ := AM (blk_kept (ZK BK429.out) hkp (fun hs_ => (fun e_ => (Kd.R_ne HO435.out BK429.out (by decide)) e_) hs_))
 have n1_ := AM (Kd.R_mono (ok' := fun k_ => True) ho0 (fun k_ hk_ => trivial))
 have n2_ := AM (hb)
 clear BK429 HB HO435
 have BK429 := n0_
 have HO438 := n1_
 have HB := n2_
 clear n0_ n1_ n2_
 (try clear hb)
 (try clear hkp)
 (try clear ho0)
 refine hK.out _ _ ⟨ZA BK429 0, ZA BK429 1⟩ (fun hHeld => ?_)
 clear hK K
 refine ZNO 12 ?_
 refine pure_ (i := 6) (N := some 2) (v := ?_) (a' := ?_) #[T,T,T,T,T,T,T] rfl rfl (by kernel_rfl) (fun _ _ _ h => h) (Or.inl ⟨by rfl, ?_⟩) ?_ ?_
 rotate_left
 ·(
 intro w'
 go_simp
 with_reducible rfl)
 rotate_left
 ·(
 simp only [Act.put, List.setIfInBounds_toArray, List.set_cons_zero, List.set_cons_succ, i64_w, i32_w]
 rfl)
 refine done_ (by kernel_rfl) ?_
 try go_wp2
 go_ret
 exact ⟨_, ZE, by (with_reducible repeat (first | apply Kd.R_alloc | apply Kd.R_drewN | apply Kd.R_drew)); exact HO438.out, ZB⟩)
 ·(
 replace c3 := Bool.eq_false_iff.mpr c3
 subst c3
 have H1 := H; rw [if_neg ZFT] at H1
 clear H
 have H := H1
 clear H1
 obtain ⟨y439, hy439⟩ : ∃ y_ : List (S60), y_ = (([] : List (S60))) := ⟨_, rfl⟩
 replace H : (some y439) = some r := by first | (rw [hy439]; with_reducible exact H) | (have H2_ := (Option.bind_some _ _).symm.trans H; rw [hy439]; with_reducible exact H2_) | (have H2_ := (Option.bind_some _ _).symm.trans H; with_reducible exact H2_) | with_reducible exact H | (rw [hy439]; exact H) | exact H
 have Ny439 := AM hy439
 clear hy439
 obtain rfl := Option.some.inj H
 go_enter Try.func19, Try.ntmps19
 go_wp2_with (first | ((with_reducible refine gate_dst (N := 1) rfl ?_); refine ZX (N := 1) (cs := #[.slice A0_0 l0_0.length c0_0, .slice A0_1 l0_1.length c0_1]) (t := 32) ?_; intro gb429 hg w16 hbox hb; have BK429 := AM (hbox); have GW429 : Aside0 (w.heap.size ≤ gb429) := ZS hg; have GE429 : Aside0 (w.heap.size ≤ gb429) := ZS hg; replace HB := ZT HB hb; clear hb hbox hg; have hcz17 := ZC2 w16 BK429; have hfz17 := ZF2 BK429) | ((with_reducible refine gate_callee (f := 36) rfl ?_); refine ZGL (some 4) Try.func36 #[.agg #[.slice A0_0 l0_0.length c0_0, .slice A0_1 l0_1.length c0_1]] ?_; (with_reducible refine (spec_ProgOk.calls k _ _ l0_0 _ _ l0_1 false _ ?side1 ?side2 ?side3 ?side4 A2.out).mono ?_); (case side1 => exact ZQ (Kd.C_below HR0_0.out HB.out)); (case side2 => exact HC0_0.out); (case side3 => exact ZQ (Kd.C_below HR0_1.out HB.out)); (case side4 => exact HC0_1.out); rintro e w18 ⟨rfl, hb⟩; refine ⟨_, rfl, ?_⟩; replace BK429 := ZW BK429 hb; replace HB := ZT HB hb; clear hb) | ((with_reducible refine gate_dst (N := 6) rfl ?_); refine Kd.R_lit k60 _ 60 ?hg (N := 6) ?hd (xs := ([] : List (S60))) (inner := []) (ok := fun _ => True) (okp := fun _ => True) ?hr ?hp (fun _ hk => hk) trivial (Below.refl _ _) (Nat.le_refl _) (by simp) ?_; (case hd => rfl); (case hg => rfl); (case hr => first | (go_simp; done) | (go_simp; rfl)); (case hp => exact (Reps.none _ _)); intro v440 w19 ho20 hb hg_ hnew_; clear hg_ hnew_; (first | rw [← Ny439.out] at ho20 | (simp only [Int.reduceToNat] at ho20; rw [← Ny439.out] at ho20)); have HO441 := AM (Kd.R_lower ho20 (below_size (ZB))); replace BK429 := ZW BK429 hb; replace HB := ZT HB hb; clear hb ho20))
 go_ret
 exact ⟨_, ZE, by (with_reducible repeat (first | apply Kd.R_alloc | apply Kd.R_drewN | apply Kd.R_drew)); exact HO441.out, ZB⟩)

/-! ### impl_Label_both: function 86 -/
def impl_Label_both.f (a0_0 : Int) (a0_1 : Int) (a1_0 : Int) (a1_1 : Int) : Option (Int × Int) := some (Go.bits .and .i64 a0_0 a1_0, Go.bits .and .i64 a0_1 a1_1)
theorem impl_Label_both.calls (a0_0 : Int) (a0_1 : Int) (a1_0 : Int) (a1_1 : Int) (r1 : Int) (r2 : Int) (w : World) (h : impl_Label_both.f a0_0 a0_1 a1_0 a1_1 = some (r1, r2)) :
  Calls Try.prog 86 #[.agg #[.int .i64 a0_0, .int .i64 a0_1], .agg #[.int .i64 a1_0, .int .i64 a1_1]] w fun e w' => e = .returned (.agg #[.int .i64 r1, .int .i64 r2]) ∧ Below w.heap.size w w' := by
 have hu60 := Try.underlying60
 have HB := AM (Below.refl w.heap.size w)
 have H := h
 unfold impl_Label_both.f at H
 clear h
 simp only [Option.some.injEq, Prod.mk.injEq] at H
 obtain ⟨rfl, rfl⟩ := H
 go_enter Try.func86, Try.ntmps86
 go_wp2_with (first | ((with_reducible refine gate_dst (N := 2) rfl ?_); refine ZX (N := 2) (cs := #[.int .i64 a0_0, .int .i64 a0_1]) (t := 60) ?_; intro gb442 hg w3 hbox hb; have BK442 := AM (hbox); have GW442 : Aside0 (w.heap.size ≤ gb442) := ZS hg; have GE442 : Aside0 (w.heap.size ≤ gb442) := ZS hg; replace HB := ZT HB hb; clear hb hbox hg) | ((with_reducible refine gate_dst (N := 3) rfl ?_); refine ZX (N := 3) (cs := #[.int .i64 a1_0, .int .i64 a1_1]) (t := 60) ?_; intro gb443 hg w4 hbox hb; have BK443 := AM (hbox); have GW443 : Aside0 (w.heap.size ≤ gb443) := ZS hg; have GE443 : Aside0 (w.heap.size ≤ gb443) := ZS hg; have NB442_443 : Aside0 (gb442 ≠ gb443) := ZN hg BK442; have NB443_442 : Aside0 (gb443 ≠ gb442) := ZM hg BK442; replace BK442 := ZW BK442 hb; replace HB := ZT HB hb; clear hb hbox hg) | ((with_reducible refine gate_dst (N := 4) rfl ?_); refine ZX (N := 4) (cs := #[.int .i64 0, .int .i64 0]) (t := 60) ?_; intro gb444 hg w5 hbox hb; have BK444 := AM (hbox); have GW444 : Aside0 (w.heap.size ≤ gb444) := ZS hg; have GE444 : Aside0 (w.heap.size ≤ gb444) := ZS hg; have NB442_444 : Aside0 (gb442 ≠ gb444) := ZN hg BK442; have NB444_442 : Aside0 (gb444 ≠ gb442) := ZM hg BK442; have NB443_444 : Aside0 (gb443 ≠ gb444) := ZN hg BK443; have NB444_443 : Aside0 (gb444 ≠ gb443) := ZM hg BK443; replace BK442 := ZW BK442 hb; replace BK443 := ZW BK443 hb; replace HB := ZT HB hb; clear hb hbox hg; have hnb6 := NB442_443.out; have hnc6 := NB443_442.out; have hnb7 := NB442_444.out; have hnc7 := NB444_442.out; have hcz8 := ZC2 w5 BK442; have hfz8 := ZF2 BK442; have hnb9 := NB443_444.out; have hnc9 := NB444_443.out; have hcz10 := ZC2 w5 BK443; have hfz10 := ZF2 BK443; have hcz11 := ZC2 w5 BK444; have hfz11 := ZF2 BK444))
 refine bodyPost_ret (results_cell_row rfl _ _ gb444 60 #[.int .i64 (Go.bits .and .i64 a0_0 a1_0), .int .i64 (Go.bits .and .i64 a0_1 a1_1)] (0, 0) _ rfl (ZZ BK444.out) Try.underlying60 rfl (by kernel_rfl)) rfl ?_
 exact ⟨ZE, ZB⟩

end Go.Proofs.Ytaflodibibbakaa.A
