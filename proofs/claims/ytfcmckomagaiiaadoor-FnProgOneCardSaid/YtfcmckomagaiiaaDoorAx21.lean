/- Go functions as Lean functions, and for each its contract; written by wip/tools/pr.py over the kit's print. -/
import Derived.Test.YtfcmckomagaiiaaDoorAx0
import Derived.Test.YtfcmckomagaiiaaDoorAx3
import Derived.Test.YtfcmckomagaiiaaDoorAx5
import Derived.Test.YtfcmckomagaiiaaDoorAx20
namespace Go.Proofs.YtfcmckomagaiiaaDoor.A
open Go.RowKit Go.Proofs.YtfcmckomagaiiaaDoorW.PrintWords Go.Proofs.YtfcmckomagaiiaaDoorW.PrintLast Go.Proofs.YtfcmckomagaiiaaDoorW.PrintMore
attribute [local go_sem] max2_int min2_int max_two min_two max_three min_three max_four min_four
set_option linter.unusedVariables false
set_option linter.unusedSimpArgs false
set_option maxHeartbeats 8000000
set_option maxRecDepth 100000

/-! ### spec_l11Any: function 89 -/
def spec_l11Any.f  : Option (Int × Int) := (spec_l1All.f).bind fun t393 => ((spec_l1All.f).bind fun t394 => (some (t393, t394)))
theorem spec_l11Any.calls  (r1 : Int) (r2 : Int) (w : World) (h : spec_l11Any.f  = some (r1, r2)) :
  Calls Tryd.prog 89 #[] w fun e w' => e = .returned (.agg #[.int .i64 r1, .int .i64 r2]) ∧ Below w.heap.size w w' := by
 have hu43 := Tryd.underlying43
 have HB := AM (Below.refl w.heap.size w)
 have H := h
 unfold spec_l11Any.f at H
 clear h
 obtain ⟨t393, A1, H⟩ := ZOB H; try dsimp only at H
 obtain ⟨t394, A2, H⟩ := ZOB H; try dsimp only at H
 simp only [Option.some.injEq, Prod.mk.injEq] at H
 obtain ⟨rfl, rfl⟩ := H
 go_enter Tryd.func89, Tryd.ntmps89
 go_wp2_with (first | ((with_reducible refine gate_dst (N := 0) rfl ?_); refine ZXW w (N := 0) (cs := #[.int .i64 0, .int .i64 0]) (t := 43) ?_; intro gb392 hg w3 BK392 GW392 hb; replace HB := ZT HB hb; clear hb hg) | ((with_reducible refine gate_callee (f := 74) rfl ?_); refine ZGL (some 1) Tryd.func74 #[] ?_; (with_reducible refine (spec_l1All.calls  t393 _ A1.out).mono ?_); rintro e w' ⟨rfl, ⟨nd, rfl⟩⟩; refine ZV1 ?_; (try (rw [drewN_self w3]; generalize hq_ : World.drewN w3 _ = w3; have n0_ : Za (w3.heap[gb392]? = some (.cells #[.int .i64 0, .int .i64 0] 43 (0, 0))) := ⟨by rw [← hq_]; exact (ZK BK392.out)⟩; have n1_ : Za (Below w.heap.size w w3) := ⟨by rw [← hq_]; exact (ZB)⟩; clear BK392 HB hq_; have BK392 := n0_; have HB := n1_; clear n0_ n1_))) | ((with_reducible refine gate_callee (f := 74) rfl ?_); refine ZGL (some 2) Tryd.func74 #[] ?_; (with_reducible refine (spec_l1All.calls  t394 _ A2.out).mono ?_); rintro e w' ⟨rfl, ⟨nd, rfl⟩⟩; refine ZV1 ?_; (try (rw [drewN_self w3]; generalize hq_ : World.drewN w3 _ = w3; have n0_ : Za (w3.heap[gb392]? = some (.cells #[.int .i64 0, .int .i64 0] 43 (0, 0))) := ⟨by rw [← hq_]; exact (ZK BK392.out)⟩; have n1_ : Za (Below w.heap.size w w3) := ⟨by rw [← hq_]; exact (ZB)⟩; clear BK392 HB hq_; have BK392 := n0_; have HB := n1_; clear n0_ n1_)); have hcz4 := ZC2 w3 BK392))
 refine bodyPost_ret (results_cell_row rfl _ _ gb392 43 #[.int .i64 t393, .int .i64 t394] (0, 0) _ rfl (ZZ BK392.out) Tryd.underlying43 rfl (by kernel_rfl)) rfl ?_
 exact ⟨ZE, ZB⟩

/-! ### spec_TypeAt: function 82 -/
def spec_TypeAt.f (k : Nat) (l0_0 : List (S43)) (l0_1 : List (S71)) : Option ((List (S43))) := (spec_ProgOk.f k l0_0 l0_1).bind fun t396 => (if t396 = true then ((spec_l11Any.f).bind fun bt397 => ((spec_l11At.f k l0_0 l0_1 l0_1 bt397.1 bt397.2 (([] : List (S43)))).bind fun t402 => (some t402))) else (some (([] : List (S43)))))
theorem spec_TypeAt.calls (k : Nat) (A0_0 : Option Addr) (c0_0 : Nat) (l0_0 : List (S43)) (A0_1 : Option Addr) (c0_1 : Nat) (l0_1 : List (S71)) (r : List (S43)) (w : World) (hr0_0 : Kd.C k43 w A0_0 l0_0.length l0_0) (hc0_0 : l0_0.length ≤ c0_0) (hr0_1 : Kd.C k71 w A0_1 l0_1.length l0_1) (hc0_1 : l0_1.length ≤ c0_1) (h : spec_TypeAt.f k l0_0 l0_1 = some r) :
  Calls Tryd.prog 82 #[.agg #[.slice A0_0 l0_0.length c0_0, .slice A0_1 l0_1.length c0_1]] w fun e w' => ∃ v0_ : Value, e = .returned (v0_) ∧ Kd.R k43 43 w' w.heap.size (fun _ => True) v0_ r ∧ Below w.heap.size w w' := by
 have hu31 := Tryd.underlying31
 have HR0_0 := AM hr0_0
 have HC0_0 := AM hc0_0
 clear hr0_0 hc0_0
 have HR0_1 := AM hr0_1
 have HC0_1 := AM hc0_1
 clear hr0_1 hc0_1
 have HB := AM (Below.refl w.heap.size w)
 have H := h
 unfold spec_TypeAt.f at H
 clear h
 obtain ⟨t396, A2, H⟩ := ZOB H; try dsimp only at H
 by_cases c3 : t396 = true
 ·(
 subst c3
 have H1 := H; rw [if_pos rfl] at H1
 clear H
 have H := H1
 clear H1
 obtain ⟨⟨t397, t398⟩, A4, H⟩ := ZOB H; try dsimp only at H
 obtain ⟨y399, hy399⟩ : ∃ y_ : List (S43), y_ = (([] : List (S43))) := ⟨_, rfl⟩
 replace H : ((spec_l11At.f k l0_0 l0_1 l0_1 t397 t398 y399).bind fun t402 => (some t402)) = some r := by rw [hy399]; exact H
 have Ny399 := AM hy399
 clear hy399
 obtain ⟨t402, A5, H⟩ := ZOB H; try dsimp only at H
 obtain rfl := Option.some.inj H
 go_enter Tryd.func82, Tryd.ntmps82
 try go_wp2_with (first | ((with_reducible refine gate_dst (N := 1) rfl ?_); refine ZXW w (N := 1) (cs := #[.slice A0_0 l0_0.length c0_0, .slice A0_1 l0_1.length c0_1]) (t := 31) ?_; intro gb395 hg w6 BK395 GW395 hb; replace HB := ZT HB hb; clear hb hg; have hcz7 := ZC2 w6 BK395) | ((with_reducible refine gate_callee (f := 11) rfl ?_); refine ZGL (some 4) Tryd.func11 #[.agg #[.slice A0_0 l0_0.length c0_0, .slice A0_1 l0_1.length c0_1]] ?_; (with_reducible refine (spec_ProgOk.calls k _ _ l0_0 _ _ l0_1 true _ (ZQ (Kd.C_below HR0_0.out HB.out)) HC0_0.out (ZQ (Kd.C_below HR0_1.out HB.out)) HC0_1.out A2.out).mono ?_); rintro e w8 ⟨rfl, hb⟩; refine ZV1 ?_; replace BK395 := ZW BK395 hb; replace HB := ZT HB hb; clear hb))
 replace BK395 := AM (blk_drew BK395.out)
 replace HB := AM (below_drew1 HB.out)
 refine start_ (n := 7) (S := fun w' => w'.cell? ⟨gb395, 0, none⟩ = some (.slice A0_0 l0_0.length c0_0) ∧ w'.cell? ⟨gb395, 1, none⟩ = some (.slice A0_1 l0_1.length c0_1)) (ds := []) #[F,F,F,F,F,F,F] (by kernel_rfl) rfl rfl ⟨ZA BK395 0, ZA BK395 1⟩ (fun hHeld => ?_)
 generalize w8.drew = w9 at BK395 HB hHeld ⊢
 refine pure_ (i := 1) (N := some 8) (v := ?_) (a' := ?_) #[F,T,F,F,F,F,F] rfl rfl (by kernel_rfl) (fun _ _ _ h => h) (Or.inl ⟨by rfl, ?_⟩) ?_ ?_
 rotate_left
 ·(
 intro w'
 go_simp
 with_reducible rfl)
 rotate_left
 ·(
 simp only [Act.put, List.setIfInBounds_toArray, List.set_cons_zero, List.set_cons_succ, i64_w, i32_w]
 rfl)
 refine take_ (i := 0) (N := some 7) (v := ?_) (a' := ?_) #[T,T,F,F,F,F,F] rfl rfl (by kernel_rfl) (fun _ _ _ h => h) (Or.inl ⟨by rfl, ?_⟩) hHeld ?_ ?_
 rotate_left
 ·(
 rintro w' ⟨s0, s1⟩
 go_simp
 with_reducible rfl)
 rotate_left
 ·(
 simp only [Act.put, List.setIfInBounds_toArray, List.set_cons_zero, List.set_cons_succ, i64_w, i32_w]
 rfl)
 refine take_ (i := 2) (N := some 9) (v := ?_) (a' := ?_) #[T,T,T,F,F,F,F] rfl rfl (by kernel_rfl) (fun _ _ _ h => h) (Or.inl ⟨by rfl, ?_⟩) hHeld ?_ ?_
 rotate_left
 ·(
 rintro w' ⟨s0, s1⟩
 go_simp
 with_reducible rfl)
 rotate_left
 ·(
 simp only [Act.put, List.setIfInBounds_toArray, List.set_cons_zero, List.set_cons_succ, i64_w, i32_w]
 rfl)
 refine join_ (σ := Value) 2 #[T,T,T,T,T,F,F] (fun s_ => [(10, .agg #[.int .i64 t397, .int .i64 t398]), (11, s_)]) (fun s_ w' => (w'.cell? ⟨gb395, 0, none⟩ = some (.slice A0_0 l0_0.length c0_0) ∧ w'.cell? ⟨gb395, 1, none⟩ = some (.slice A0_1 l0_1.length c0_1)) ∧ (Kd.R k43 43 w' w.heap.size (fun _ => True) s_ y399) ∧ (w'.heap[gb395]? = some (.cells #[.slice A0_0 l0_0.length c0_0, .slice A0_1 l0_1.length c0_1] 31 (0, 0))) ∧ (Below w.heap.size w w')) ?_ ?_
 rotate_left
 ·(
 intro hCont
 refine two_ (i := 3) (j := 4) (Ni := some 10) (Nj := some 11) #[T,T,T,T,F,F,F] #[T,T,T,F,T,F,F] rfl rfl rfl rfl (by kernel_rfl) (by decide) (by decide) (fun K hK => ?_) (fun K hK => ?_)
 ·(
 skip
 refine ZGO Tryd.func89 #[] ?_
 with_reducible refine (spec_l11Any.calls  t397 t398 _ A4.out).mono ?_
 rintro e w10 ⟨rfl, hb⟩
 refine ZV1 ?_
 replace BK395 := ZW BK395 hb
 replace HB := ZT HB hb
 (try clear hb)
 (try clear hb2)
 (try clear hk)
 (try clear hi)
 refine hK.out _ _ ⟨ZA BK395 0, ZA BK395 1⟩ (fun hHeld => ?_)
 clear hK K
 refine ZNO 10 ?_
 refine one_ (i := 4) (N := some 11) #[T,T,T,T,T,F,F] rfl rfl (by kernel_rfl) (by decide) (fun K hK => ?_)
 refine Kd.R_lit_step k43 _ 43 ?hg (N := 11) ?hd (xs := ([] : List (S43))) (inner := []) (ok := fun _ => True) (okp := fun _ => True) ?hr ?hp (fun _ hk => hk) trivial (Below.refl _ _) (Nat.le_refl _) (by simp) ?_; (case hd => rfl); (case hg => rfl); (case hr => first | (go_simp; done) | (go_simp; rfl)); (case hp => exact (Reps.none _ _))
 intro v400 w11 ho12 hb hg_ hnew_
 clear hg_ hnew_
 (first | rw [← Ny399.out] at ho12 | (simp only [Int.reduceToNat] at ho12; rw [← Ny399.out] at ho12))
 have HO401 := AM (Kd.R_lower ho12 (below_size (ZB)))
 replace BK395 := ZW BK395 hb
 replace HB := ZT HB hb
 clear hb ho12
 refine hK.out _ _ ⟨ZA BK395 0, ZA BK395 1⟩ (fun hHeld => ?_)
 clear hK K
 refine ZNO 11 ?_
 exact norm_ (by simp only [putAll, Act.put, List.setIfInBounds_toArray, List.set_cons_zero, List.set_cons_succ]) (hCont (v400) _ ⟨hHeld, (ZR HO401.out), (ZK BK395.out), (ZB)⟩))
 ·(
 skip
 refine Kd.R_lit_step k43 _ 43 ?hg (N := 11) ?hd (xs := ([] : List (S43))) (inner := []) (ok := fun _ => True) (okp := fun _ => True) ?hr ?hp (fun _ hk => hk) trivial (Below.refl _ _) (Nat.le_refl _) (by simp) ?_; (case hd => rfl); (case hg => rfl); (case hr => first | (go_simp; done) | (go_simp; rfl)); (case hp => exact (Reps.none _ _))
 intro v400 w10 ho11 hb hg_ hnew_
 clear hg_ hnew_
 (first | rw [← Ny399.out] at ho11 | (simp only [Int.reduceToNat] at ho11; rw [← Ny399.out] at ho11))
 have HO401 := AM (Kd.R_lower ho11 (below_size (ZB)))
 replace BK395 := ZW BK395 hb
 replace HB := ZT HB hb
 clear hb ho11
 refine hK.out _ _ ⟨ZA BK395 0, ZA BK395 1⟩ (fun hHeld => ?_)
 clear hK K
 refine ZNO 11 ?_
 refine one_ (i := 3) (N := some 10) #[T,T,T,T,T,F,F] rfl rfl (by kernel_rfl) (by decide) (fun K hK => ?_)
 refine ZGO Tryd.func89 #[] ?_
 with_reducible refine (spec_l11Any.calls  t397 t398 _ A4.out).mono ?_
 rintro e w12 ⟨rfl, hb⟩
 refine ZV1 ?_
 replace HO401 := AM (Kd.R_below (ZR HO401.out) hb)
 replace BK395 := ZW BK395 hb
 replace HB := ZT HB hb
 (try clear hb)
 (try clear hb2)
 (try clear hk)
 (try clear hi)
 refine hK.out _ _ ⟨ZA BK395 0, ZA BK395 1⟩ (fun hHeld => ?_)
 clear hK K
 refine ZNO 10 ?_
 exact norm_ (by simp only [putAll, Act.put, List.setIfInBounds_toArray, List.set_cons_zero, List.set_cons_succ]) (hCont (v400) _ ⟨hHeld, (ZR HO401.out), (ZK BK395.out), (ZB)⟩)))
 rintro v400 w13 ⟨hS_, h0_, h1_, h2_⟩
 try dsimp only at h0_ h1_ h2_
 have n0_ := AM h0_
 have n1_ := AM h1_
 have n2_ := AM h2_
 clear BK395 HB h0_ h1_ h2_
 have HO401 := n0_
 have BK395 := n1_
 have HB := n2_
 clear n0_ n1_ n2_
 try dsimp only at hS_
 have hHeld := hS_
 obtain ⟨Ao14, co14, eo14⟩ := Kd.R_slice HO401.out
 (first | subst eo14 | (injection eo14 with f1_ f2_ f3_; have f4_ := f1_.symm; have f5_ := f3_.symm; clear f1_ f2_ f3_; subst f4_; subst f5_))
 refine ZNP ?_
 refine one_ (i := 5) (N := some 12) #[T,T,T,T,T,T,F] rfl rfl (by kernel_rfl) (by decide) (fun K hK => ?_)
 refine ZGO Tryd.func88 #[.agg #[.slice A0_0 l0_0.length c0_0, .slice A0_1 l0_1.length c0_1], .slice A0_1 l0_1.length c0_1, .agg #[.int .i64 t397, .int .i64 t398], .slice Ao14 y399.length co14] ?_
 with_reducible refine (spec_l11At.calls k _ _ l0_0 _ _ l0_1 _ _ l0_1 t397 t398 (fun k_ => some k_ = (.slice Ao14 y399.length co14 : Value).ownBlock) (.slice Ao14 y399.length co14) y399 t402 w _ ?side1 ?side2 ?side3 ?side4 ?side5 ?side6 ?side7 ?side8 A5.out).mono ?_
 (case side1 => repeat (first | (with_reducible first | exact HB.out | apply below_alloc | apply pw_below_drewN | apply below_drew1 | refine below_set ?_ GW395.out) | exact HB.out))
 (case side2 => exact Kd.C_kept_came k43_heap HR0_0.out (ZB) (fun k_ hs_ => (fun e_ => Kd.R_base HO401.out k_ e_.symm) hs_))
 (case side3 => exact HC0_0.out)
 (case side4 => exact Kd.C_kept_came k71_heap HR0_1.out (ZB) (fun k_ hs_ => (fun e_ => Kd.R_base HO401.out k_ e_.symm) hs_))
 (case side5 => exact HC0_1.out)
 (case side6 => exact Kd.C_kept_came k71_heap HR0_1.out (ZB) (fun k_ hs_ => (fun e_ => Kd.R_base HO401.out k_ e_.symm) hs_))
 (case side7 => exact HC0_1.out)
 (case side8 => exact Kd.R_tight rfl HO401.out)
 rintro e w15 ⟨v403, rfl, ho0, hb, hkp⟩
 refine ZV1 ?_
 have n0_ := AM (blk_kept (ZK BK395.out) hkp (fun hs_ => (fun e_ => (Kd.R_ne HO401.out BK395.out (by decide)) e_) hs_))
 have n1_ := AM (Kd.R_mono (ok' := fun k_ => True) ho0 (fun k_ hk_ => trivial))
 have n2_ := AM (hb)
 clear BK395 HB HO401
 have BK395 := n0_
 have HO404 := n1_
 have HB := n2_
 clear n0_ n1_ n2_
 (try clear hb)
 (try clear hkp)
 (try clear ho0)
 refine hK.out _ _ ⟨ZA BK395 0, ZA BK395 1⟩ (fun hHeld => ?_)
 clear hK K
 refine ZNO 12 ?_
 refine pure_ (i := 6) (N := some 2) (v := ?_) (a' := ?_) #[T,T,T,T,T,T,T] rfl rfl (by kernel_rfl) (fun _ _ _ h => h) (Or.inl ⟨by rfl, ?_⟩) ?_ ?_
 rotate_left
 ·(
 intro w'
 go_simp
 with_reducible rfl)
 rotate_left
 ·(
 simp only [Act.put, List.setIfInBounds_toArray, List.set_cons_zero, List.set_cons_succ, i64_w, i32_w]
 rfl)
 refine done_ (by kernel_rfl) ?_
 try go_wp2
 go_ret
 exact ⟨_, ZE, by (with_reducible repeat (first | apply Kd.R_alloc | apply Kd.R_drewN | apply Kd.R_drew)); exact HO404.out, ZB⟩)
 ·(
 replace c3 := Bool.eq_false_iff.mpr c3
 subst c3
 have H1 := H; rw [if_neg ZFT] at H1
 clear H
 have H := H1
 clear H1
 obtain ⟨y405, hy405⟩ : ∃ y_ : List (S43), y_ = (([] : List (S43))) := ⟨_, rfl⟩
 replace H : (some y405) = some r := by rw [hy405]; exact H
 have Ny405 := AM hy405
 clear hy405
 obtain rfl := Option.some.inj H
 go_enter Tryd.func82, Tryd.ntmps82
 go_wp2_with (first | ((with_reducible refine gate_dst (N := 1) rfl ?_); refine ZXW w (N := 1) (cs := #[.slice A0_0 l0_0.length c0_0, .slice A0_1 l0_1.length c0_1]) (t := 31) ?_; intro gb395 hg w16 BK395 GW395 hb; replace HB := ZT HB hb; clear hb hg; have hcz17 := ZC2 w16 BK395) | ((with_reducible refine gate_callee (f := 11) rfl ?_); refine ZGL (some 4) Tryd.func11 #[.agg #[.slice A0_0 l0_0.length c0_0, .slice A0_1 l0_1.length c0_1]] ?_; (with_reducible refine (spec_ProgOk.calls k _ _ l0_0 _ _ l0_1 false _ (ZQ (Kd.C_below HR0_0.out HB.out)) HC0_0.out (ZQ (Kd.C_below HR0_1.out HB.out)) HC0_1.out A2.out).mono ?_); rintro e w18 ⟨rfl, hb⟩; refine ZV1 ?_; replace BK395 := ZW BK395 hb; replace HB := ZT HB hb; clear hb) | ((with_reducible refine gate_dst (N := 6) rfl ?_); refine Kd.R_lit k43 _ 43 ?hg (N := 6) ?hd (xs := ([] : List (S43))) (inner := []) (ok := fun _ => True) (okp := fun _ => True) ?hr ?hp (fun _ hk => hk) trivial (Below.refl _ _) (Nat.le_refl _) (by simp) ?_; (case hd => rfl); (case hg => rfl); (case hr => first | (go_simp; done) | (go_simp; rfl)); (case hp => exact (Reps.none _ _)); intro v406 w19 ho20 hb hg_ hnew_; clear hg_ hnew_; (first | rw [← Ny405.out] at ho20 | (simp only [Int.reduceToNat] at ho20; rw [← Ny405.out] at ho20)); have HO407 := AM (Kd.R_lower ho20 (below_size (ZB))); replace BK395 := ZW BK395 hb; replace HB := ZT HB hb; clear hb ho20))
 go_ret
 exact ⟨_, ZE, by (with_reducible repeat (first | apply Kd.R_alloc | apply Kd.R_drewN | apply Kd.R_drew)); exact HO407.out, ZB⟩)

/-! ### spec_l1Within: function 99 -/
def spec_l1Within.l0 : Nat → Int → Int → Int → Option (Bool)
 | 0, _, _, _ => none
 | k + 1, x0, x1, x5 => if x5 < 3 then ((spec_l1Has.f x0 x5).bind fun t408 => (if t408 = true then ((spec_l1Has.f x1 x5).bind fun t409 => (if t409 = true then (spec_l1Within.l0 k x0 x1 (wrap64 (x5 + 1))) else (some false))) else (spec_l1Within.l0 k x0 x1 (wrap64 (x5 + 1))))) else (some true)
def spec_l1Within.f (k : Nat) (a0 : Int) (a1 : Int) : Option (Bool) := spec_l1Within.l0 k a0 a1 0
theorem spec_l1Within.mono_l : ∀ k, (∀ y0 y1 y2, LeO (spec_l1Within.l0 k y0 y1 y2) (spec_l1Within.l0 (k + 1) y0 y1 y2))
 | 0 => fun _ _ _ r h => by simp [spec_l1Within.l0] at h
 | k + 1 => by
  have ih0 := spec_l1Within.mono_l k
  ·intro y0 y1 y2
   unfold spec_l1Within.l0
   repeat' first
   | (with_reducible exact ih0 _ _ _)
   | (with_reducible exact LeO.refl _)
   | (with_reducible exact LeO.none _)
   | (with_reducible refine LeO.ite ?_ ?_)
   | (with_reducible refine LeO.bind ?_ (fun _ => ?_))
   | exact ih0 _ _ _
   | exact LeO.none _
   | refine LeO.ite ?_ ?_
   | refine LeO.bind ?_ (fun _ => ?_)
theorem spec_l1Within.mono : ∀ a0 a1 k, LeO (spec_l1Within.f k a0 a1) (spec_l1Within.f (k + 1) a0 a1) := by
 intro a0 a1 k
 have ih0 := spec_l1Within.mono_l k
 unfold spec_l1Within.f
 repeat' first
   | (with_reducible exact ih0 _ _ _)
   | (with_reducible exact LeO.refl _)
   | (with_reducible exact LeO.none _)
   | (with_reducible refine LeO.ite ?_ ?_)
   | (with_reducible refine LeO.bind ?_ (fun _ => ?_))
   | exact ih0 _ _ _
   | exact LeO.none _
   | refine LeO.ite ?_ ?_
   | refine LeO.bind ?_ (fun _ => ?_)
theorem spec_l1Within.calls (k : Nat) (a0 : Int) (a1 : Int) (r : Bool) (w : World) (h : spec_l1Within.f k a0 a1 = some r) :
  Calls Tryd.prog 99 #[.int .i64 a0, .int .i64 a1] w fun e w' => e = .returned (.bool r) ∧ Drawn0 w w' := by
 have H := h
 unfold spec_l1Within.f at H
 clear h
 have H' := AM H
 clear H
 go_enter Tryd.func99, Tryd.ntmps99
 go_wp2
 go_loopg [5] k (fun kq v5 w' => ∃ (x5_1 : Int), v5 = .int .i64 x5_1 ∧ Za (spec_l1Within.l0 kq a0 a1 x5_1 = some r) ∧ Za (kq ≤ k) ∧ Drawn0 w w')
 case atStart => exact ⟨(0), ZSM, H', ⟨Nat.le_refl _⟩, by repeat (first | exact Drawn0.refl _ | apply Drawn0.step)⟩
 case round => (
 clear H'
 try clear p2
 obtain ⟨x5_1, rfl, HA, HK1, ⟨m1, rfl⟩⟩ := hrel
 cases gk with
 | zero => exact absurd HA.out (by simp [spec_l1Within.l0])
 | succ k1 =>
  have H := HA.out
  clear HA
  simp only [spec_l1Within.l0] at H
  by_cases c3 : x5_1 < 3
  ·(
  rw [if_pos c3] at H
  have c3b0 := decide_eq_true c3
  clear c3
  obtain ⟨t408, A4, H⟩ := ZOB H; try dsimp only at H
  by_cases c5 : t408 = true
  ·(
  subst c5
  have H1 := H; rw [if_pos rfl] at H1
  clear H
  have H := H1
  clear H1
  obtain ⟨t409, A6, H⟩ := ZOB H; try dsimp only at H
  by_cases c7 : t409 = true
  ·(
  subst c7
  have H1 := H; rw [if_pos rfl] at H1
  clear H
  have H := H1
  clear H1
  have H' := AM H
  clear H
  go_wp2_with (first | ((with_reducible refine gate_callee (f := 57) rfl ?_); refine ZGL (some 12) Tryd.func57 #[.int .i64 a0, .int .i64 x5_1] ?_; (with_reducible refine (spec_l1Has.calls a0 x5_1 true _ A4.out).mono ?_); rintro e w' ⟨rfl, ⟨nd, rfl⟩⟩; refine ZV1 ?_) | (go_at_call 57; (with_reducible refine (spec_l1Has.calls a1 x5_1 true _ A6.out).mono ?_); rintro e w' ⟨rfl, ⟨nd, rfl⟩⟩))
  go_roundg k1
  case measure => have := HK1.out; omega
  case rel => exact ⟨(wrap64 (x5_1 + 1)), ZSM, H', ⟨by have := HK1.out; omega⟩, by repeat (first | exact Drawn0.refl _ | apply Drawn0.step)⟩)
  ·(
  replace c7 := Bool.eq_false_iff.mpr c7
  subst c7
  have H1 := H; rw [if_neg ZFT] at H1
  clear H
  have H := H1
  clear H1
  obtain rfl := Option.some.inj H
  go_wp2_with (first | ((with_reducible refine gate_callee (f := 57) rfl ?_); refine ZGL (some 12) Tryd.func57 #[.int .i64 a0, .int .i64 x5_1] ?_; (with_reducible refine (spec_l1Has.calls a0 x5_1 true _ A4.out).mono ?_); rintro e w' ⟨rfl, ⟨nd, rfl⟩⟩; refine ZV1 ?_) | (go_at_call 57; (with_reducible refine (spec_l1Has.calls a1 x5_1 false _ A6.out).mono ?_); rintro e w' ⟨rfl, ⟨nd, rfl⟩⟩))
  go_ret
  exact ⟨by first | rfl | (simp; done) | (simp [*]; done), by repeat (first | exact Drawn0.refl _ | apply Drawn0.step)⟩))
  ·(
  replace c5 := Bool.eq_false_iff.mpr c5
  subst c5
  have H1 := H; rw [if_neg ZFT] at H1
  clear H
  have H := H1
  clear H1
  have H' := AM H
  clear H
  go_wp2_with (first | ((with_reducible refine gate_callee (f := 57) rfl ?_); refine ZGL (some 12) Tryd.func57 #[.int .i64 a0, .int .i64 x5_1] ?_; (with_reducible refine (spec_l1Has.calls a0 x5_1 false _ A4.out).mono ?_); rintro e w' ⟨rfl, ⟨nd, rfl⟩⟩; refine ZV1 ?_))
  go_roundg k1
  case measure => have := HK1.out; omega
  case rel => exact ⟨(wrap64 (x5_1 + 1)), ZSM, H', ⟨by have := HK1.out; omega⟩, by repeat (first | exact Drawn0.refl _ | apply Drawn0.step)⟩))
  ·(
  rw [if_neg c3] at H
  have c3b0 := decide_eq_false c3
  clear c3
  obtain rfl := Option.some.inj H
  go_wp2
  go_ret
  exact ⟨by first | rfl | (simp; done) | (simp [*]; done), by repeat (first | exact Drawn0.refl _ | apply Drawn0.step)⟩))

/-! ### spec_LabelFlows: function 90 -/
def spec_LabelFlows.f (k : Nat) (a0_0 : Int) (a0_1 : Int) (a1_0 : Int) (a1_1 : Int) : Option (Bool) := (spec_LabelOk.f a0_0 a0_1).bind fun t412 => (if t412 = true then ((spec_LabelOk.f a1_0 a1_1).bind fun t413 => (if t413 = true then ((spec_l1Within.f k a1_0 a0_0).bind fun t414 => (if t414 = true then ((spec_l1Within.f k a1_1 a0_1).bind fun t415 => (some t415)) else (some false))) else (some false))) else (some false))
theorem spec_LabelFlows.calls (k : Nat) (a0_0 : Int) (a0_1 : Int) (a1_0 : Int) (a1_1 : Int) (r : Bool) (w : World) (h : spec_LabelFlows.f k a0_0 a0_1 a1_0 a1_1 = some r) :
  Calls Tryd.prog 90 #[.agg #[.int .i64 a0_0, .int .i64 a0_1], .agg #[.int .i64 a1_0, .int .i64 a1_1]] w fun e w' => e = .returned (.bool r) ∧ Below w.heap.size w w' := by
 have hu43 := Tryd.underlying43
 have HB := AM (Below.refl w.heap.size w)
 have H := h
 unfold spec_LabelFlows.f at H
 clear h
 obtain ⟨t412, A3, H⟩ := ZOB H; try dsimp only at H
 by_cases c4 : t412 = true
 ·(
 subst c4
 have H1 := H; rw [if_pos rfl] at H1
 clear H
 have H := H1
 clear H1
 obtain ⟨t413, A5, H⟩ := ZOB H; try dsimp only at H
 by_cases c6 : t413 = true
 ·(
 subst c6
 have H1 := H; rw [if_pos rfl] at H1
 clear H
 have H := H1
 clear H1
 obtain ⟨t414, A7, H⟩ := ZOB H; try dsimp only at H
 by_cases c8 : t414 = true
 ·(
 subst c8
 have H1 := H; rw [if_pos rfl] at H1
 clear H
 have H := H1
 clear H1
 obtain ⟨t415, A9, H⟩ := ZOB H; try dsimp only at H
 obtain rfl := Option.some.inj H
 go_enter Tryd.func90, Tryd.ntmps90
 go_wp2_with (first | ((with_reducible refine gate_dst (N := 2) rfl ?_); refine ZXW w (N := 2) (cs := #[.int .i64 a0_0, .int .i64 a0_1]) (t := 43) ?_; intro gb410 hg w10 BK410 GW410 hb; replace HB := ZT HB hb; clear hb hg) | ((with_reducible refine gate_dst (N := 3) rfl ?_); refine ZXW w (N := 3) (cs := #[.int .i64 a1_0, .int .i64 a1_1]) (t := 43) ?_; intro gb411 hg w11 BK411 GW411 hb; have NB410_411 : Za (gb410 ≠ gb411) := ZN hg BK410; have NB411_410 : Za (gb411 ≠ gb410) := ZM hg BK410; replace BK410 := ZW BK410 hb; replace HB := ZT HB hb; clear hb hg; have hnb12 := NB410_411.out; have hnc12 := NB411_410.out; have hcz13 := ZC2 w11 BK410) | ((with_reducible refine gate_callee (f := 28) rfl ?_); refine ZGL (some 6) Tryd.func28 #[.agg #[.int .i64 a0_0, .int .i64 a0_1]] ?_; (with_reducible refine (spec_LabelOk.calls a0_0 a0_1 true _ A3.out).mono ?_); rintro e w14 ⟨rfl, hb⟩; refine ZV1 ?_; replace BK410 := ZW BK410 hb; replace BK411 := ZW BK411 hb; replace HB := ZT HB hb; clear hb; have hcz15 := ZC2 w14 BK411) | (go_at_call 28; (with_reducible refine (spec_LabelOk.calls a1_0 a1_1 true _ A5.out).mono ?_); rintro e w16 ⟨rfl, hb⟩; replace BK410 := ZW BK410 hb; replace BK411 := ZW BK411 hb; replace HB := ZT HB hb; clear hb; have hcz17 := ZC2 w16 BK411; have hcz18 := ZC2 w16 BK410) | (go_at_call 99; (with_reducible refine (spec_l1Within.calls k a1_0 a0_0 true _ A7.out).mono ?_); rintro e w' ⟨rfl, ⟨nd, rfl⟩⟩) | (go_at_call 99; (with_reducible refine (spec_l1Within.calls k a1_1 a0_1 t415 _ A9.out).mono ?_); rintro e w' ⟨rfl, ⟨nd, rfl⟩⟩))
 go_ret
 exact ⟨ZE, ZB⟩)
 ·(
 replace c8 := Bool.eq_false_iff.mpr c8
 subst c8
 have H1 := H; rw [if_neg ZFT] at H1
 clear H
 have H := H1
 clear H1
 obtain rfl := Option.some.inj H
 go_enter Tryd.func90, Tryd.ntmps90
 go_wp2_with (first | ((with_reducible refine gate_dst (N := 2) rfl ?_); refine ZXW w (N := 2) (cs := #[.int .i64 a0_0, .int .i64 a0_1]) (t := 43) ?_; intro gb410 hg w19 BK410 GW410 hb; replace HB := ZT HB hb; clear hb hg) | ((with_reducible refine gate_dst (N := 3) rfl ?_); refine ZXW w (N := 3) (cs := #[.int .i64 a1_0, .int .i64 a1_1]) (t := 43) ?_; intro gb411 hg w20 BK411 GW411 hb; have NB410_411 : Za (gb410 ≠ gb411) := ZN hg BK410; have NB411_410 : Za (gb411 ≠ gb410) := ZM hg BK410; replace BK410 := ZW BK410 hb; replace HB := ZT HB hb; clear hb hg; have hnb21 := NB410_411.out; have hnc21 := NB411_410.out; have hcz22 := ZC2 w20 BK410) | ((with_reducible refine gate_callee (f := 28) rfl ?_); refine ZGL (some 6) Tryd.func28 #[.agg #[.int .i64 a0_0, .int .i64 a0_1]] ?_; (with_reducible refine (spec_LabelOk.calls a0_0 a0_1 true _ A3.out).mono ?_); rintro e w23 ⟨rfl, hb⟩; refine ZV1 ?_; replace BK410 := ZW BK410 hb; replace BK411 := ZW BK411 hb; replace HB := ZT HB hb; clear hb; have hcz24 := ZC2 w23 BK411) | (go_at_call 28; (with_reducible refine (spec_LabelOk.calls a1_0 a1_1 true _ A5.out).mono ?_); rintro e w25 ⟨rfl, hb⟩; replace BK410 := ZW BK410 hb; replace BK411 := ZW BK411 hb; replace HB := ZT HB hb; clear hb; have hcz26 := ZC2 w25 BK411; have hcz27 := ZC2 w25 BK410) | (go_at_call 99; (with_reducible refine (spec_l1Within.calls k a1_0 a0_0 false _ A7.out).mono ?_); rintro e w' ⟨rfl, ⟨nd, rfl⟩⟩))
 go_ret
 exact ⟨ZE, ZB⟩))
 ·(
 replace c6 := Bool.eq_false_iff.mpr c6
 subst c6
 have H1 := H; rw [if_neg ZFT] at H1
 clear H
 have H := H1
 clear H1
 obtain rfl := Option.some.inj H
 go_enter Tryd.func90, Tryd.ntmps90
 go_wp2_with (first | ((with_reducible refine gate_dst (N := 2) rfl ?_); refine ZXW w (N := 2) (cs := #[.int .i64 a0_0, .int .i64 a0_1]) (t := 43) ?_; intro gb410 hg w28 BK410 GW410 hb; replace HB := ZT HB hb; clear hb hg) | ((with_reducible refine gate_dst (N := 3) rfl ?_); refine ZXW w (N := 3) (cs := #[.int .i64 a1_0, .int .i64 a1_1]) (t := 43) ?_; intro gb411 hg w29 BK411 GW411 hb; have NB410_411 : Za (gb410 ≠ gb411) := ZN hg BK410; have NB411_410 : Za (gb411 ≠ gb410) := ZM hg BK410; replace BK410 := ZW BK410 hb; replace HB := ZT HB hb; clear hb hg; have hnb30 := NB410_411.out; have hnc30 := NB411_410.out; have hcz31 := ZC2 w29 BK410) | ((with_reducible refine gate_callee (f := 28) rfl ?_); refine ZGL (some 6) Tryd.func28 #[.agg #[.int .i64 a0_0, .int .i64 a0_1]] ?_; (with_reducible refine (spec_LabelOk.calls a0_0 a0_1 true _ A3.out).mono ?_); rintro e w32 ⟨rfl, hb⟩; refine ZV1 ?_; replace BK410 := ZW BK410 hb; replace BK411 := ZW BK411 hb; replace HB := ZT HB hb; clear hb; have hcz33 := ZC2 w32 BK411) | (go_at_call 28; (with_reducible refine (spec_LabelOk.calls a1_0 a1_1 false _ A5.out).mono ?_); rintro e w34 ⟨rfl, hb⟩; replace BK410 := ZW BK410 hb; replace BK411 := ZW BK411 hb; replace HB := ZT HB hb; clear hb))
 go_ret
 exact ⟨ZE, ZB⟩))
 ·(
 replace c4 := Bool.eq_false_iff.mpr c4
 subst c4
 have H1 := H; rw [if_neg ZFT] at H1
 clear H
 have H := H1
 clear H1
 obtain rfl := Option.some.inj H
 go_enter Tryd.func90, Tryd.ntmps90
 go_wp2_with (first | ((with_reducible refine gate_dst (N := 2) rfl ?_); refine ZXW w (N := 2) (cs := #[.int .i64 a0_0, .int .i64 a0_1]) (t := 43) ?_; intro gb410 hg w35 BK410 GW410 hb; replace HB := ZT HB hb; clear hb hg) | ((with_reducible refine gate_dst (N := 3) rfl ?_); refine ZXW w (N := 3) (cs := #[.int .i64 a1_0, .int .i64 a1_1]) (t := 43) ?_; intro gb411 hg w36 BK411 GW411 hb; have NB410_411 : Za (gb410 ≠ gb411) := ZN hg BK410; have NB411_410 : Za (gb411 ≠ gb410) := ZM hg BK410; replace BK410 := ZW BK410 hb; replace HB := ZT HB hb; clear hb hg; have hnb37 := NB410_411.out; have hnc37 := NB411_410.out; have hcz38 := ZC2 w36 BK410) | ((with_reducible refine gate_callee (f := 28) rfl ?_); refine ZGL (some 6) Tryd.func28 #[.agg #[.int .i64 a0_0, .int .i64 a0_1]] ?_; (with_reducible refine (spec_LabelOk.calls a0_0 a0_1 false _ A3.out).mono ?_); rintro e w39 ⟨rfl, hb⟩; refine ZV1 ?_; replace BK410 := ZW BK410 hb; replace BK411 := ZW BK411 hb; replace HB := ZT HB hb; clear hb))
 go_ret
 exact ⟨ZE, ZB⟩)

end Go.Proofs.YtfcmckomagaiiaaDoor.A
