/- Go functions as Lean functions, and for each its contract; written by wip/tools/pr.py over the kit's print. -/
import Derived.Test.YtkkdeojbkfjlpaaAx0
import Derived.Test.YtkkdeojbkfjlpaaAx9
import Derived.Test.YtkkdeojbkfjlpaaAx12
import Derived.Test.YtkkdeojbkfjlpaaAx17
import Derived.Test.YtkkdeojbkfjlpaaAx19
namespace Go.Proofs.Ytkkdeojbkfjlpaa.A
open Go.RowKit Go.Proofs.YtkkdeojbkfjlpaaW.PrintWords Go.Proofs.YtkkdeojbkfjlpaaW.PrintLast Go.Proofs.YtkkdeojbkfjlpaaW.PrintMore
attribute [local go_sem] max2_int min2_int max_two min_two max_three min_three max_four min_four
set_option linter.unusedVariables false
set_option linter.unusedSimpArgs false
set_option maxHeartbeats 8000000
set_option maxRecDepth 100000

/-! ### spec_l11Any: function 71 -/
def spec_l11Any.f  : Option (Int × Int) := (spec_l1All.f).bind fun t403 => ((spec_l1All.f).bind fun t404 => (some (t403, t404)))
theorem spec_l11Any.calls  (r1 : Int) (r2 : Int) (w : World) (h : spec_l11Any.f  = some (r1, r2)) :
  Calls Try.prog 71 #[] w fun e w' => e = .returned (.agg #[.int .i64 r1, .int .i64 r2]) ∧ Below w.heap.size w w' := by
 have hu35 := Try.underlying35
 have HB := AM (Below.refl w.heap.size w)
 have H := h
 unfold spec_l11Any.f at H
 clear h
 obtain ⟨t403, A1, H⟩ := ZOB H; try dsimp only at H
 obtain ⟨t404, A2, H⟩ := ZOB H; try dsimp only at H
 simp only [Option.some.injEq, Prod.mk.injEq] at H
 obtain ⟨rfl, rfl⟩ := H
 go_enter Try.func71, Try.ntmps71
 go_wp2_with (first | ((with_reducible refine gate_dst (N := 0) rfl ?_); refine ZXW w (N := 0) (cs := #[.int .i64 0, .int .i64 0]) (t := 35) ?_; intro gb402 hg w3 BK402 GW402 hb; replace HB := ZT HB hb; clear hb hg) | ((with_reducible refine gate_callee (f := 78) rfl ?_); refine ZGL (some 1) Try.func78 #[] ?_; (with_reducible refine (spec_l1All.calls  t403 _ A1.out).mono ?_); rintro e w' ⟨rfl, ⟨nd, rfl⟩⟩; refine ZV1 ?_; (try (rw [drewN_self w3]; generalize hq_ : World.drewN w3 _ = w3; have n0_ : Za (w3.heap[gb402]? = some (.cells #[.int .i64 0, .int .i64 0] 35 (0, 0))) := ⟨by rw [← hq_]; exact (ZK BK402.out)⟩; have n1_ : Za (Below w.heap.size w w3) := ⟨by rw [← hq_]; exact (ZB)⟩; clear BK402 HB hq_; have BK402 := n0_; have HB := n1_; clear n0_ n1_))) | ((with_reducible refine gate_callee (f := 78) rfl ?_); refine ZGL (some 2) Try.func78 #[] ?_; (with_reducible refine (spec_l1All.calls  t404 _ A2.out).mono ?_); rintro e w' ⟨rfl, ⟨nd, rfl⟩⟩; refine ZV1 ?_; (try (rw [drewN_self w3]; generalize hq_ : World.drewN w3 _ = w3; have n0_ : Za (w3.heap[gb402]? = some (.cells #[.int .i64 0, .int .i64 0] 35 (0, 0))) := ⟨by rw [← hq_]; exact (ZK BK402.out)⟩; have n1_ : Za (Below w.heap.size w w3) := ⟨by rw [← hq_]; exact (ZB)⟩; clear BK402 HB hq_; have BK402 := n0_; have HB := n1_; clear n0_ n1_)); have hcz4 := ZC2 w3 BK402))
 refine bodyPost_ret (results_cell_row rfl _ _ gb402 35 #[.int .i64 t403, .int .i64 t404] (0, 0) _ rfl (ZZ BK402.out) Try.underlying35 rfl (by kernel_rfl)) rfl ?_
 exact ⟨ZE, ZB⟩

/-! ### spec_TypeAt: function 52 -/
def spec_TypeAt.f (k : Nat) (l0_0 : List (S35)) (l0_1 : List (S40)) : Option ((List (S35))) := (spec_ProgOk.f k l0_0 l0_1).bind fun t406 => (if t406 = true then ((spec_l11Any.f).bind fun bt407 => ((spec_l11At.f k l0_0 l0_1 l0_1 bt407.1 bt407.2 (([] : List (S35)))).bind fun t412 => (some t412))) else (some (([] : List (S35)))))
theorem spec_TypeAt.calls (k : Nat) (A0_0 : Option Addr) (c0_0 : Nat) (l0_0 : List (S35)) (A0_1 : Option Addr) (c0_1 : Nat) (l0_1 : List (S40)) (r : List (S35)) (w : World) (hr0_0 : Kd.C k35 w A0_0 l0_0.length l0_0) (hc0_0 : l0_0.length ≤ c0_0) (hr0_1 : Kd.C k40 w A0_1 l0_1.length l0_1) (hc0_1 : l0_1.length ≤ c0_1) (h : spec_TypeAt.f k l0_0 l0_1 = some r) :
  Calls Try.prog 52 #[.agg #[.slice A0_0 l0_0.length c0_0, .slice A0_1 l0_1.length c0_1]] w fun e w' => ∃ v0_ : Value, e = .returned (v0_) ∧ Kd.R k35 35 w' w.heap.size (fun _ => True) v0_ r ∧ Below w.heap.size w w' := by
 have hu26 := Try.underlying26
 have HR0_0 := AM hr0_0
 have HC0_0 := AM hc0_0
 clear hr0_0 hc0_0
 have HR0_1 := AM hr0_1
 have HC0_1 := AM hc0_1
 clear hr0_1 hc0_1
 have HB := AM (Below.refl w.heap.size w)
 have H := h
 unfold spec_TypeAt.f at H
 clear h
 obtain ⟨t406, A2, H⟩ := ZOB H; try dsimp only at H
 by_cases c3 : t406 = true
 ·(
 subst c3
 have H1 := H; rw [if_pos rfl] at H1
 clear H
 have H := H1
 clear H1
 obtain ⟨⟨t407, t408⟩, A4, H⟩ := ZOB H; try dsimp only at H
 obtain ⟨y409, hy409⟩ : ∃ y_ : List (S35), y_ = (([] : List (S35))) := ⟨_, rfl⟩
 replace H : ((spec_l11At.f k l0_0 l0_1 l0_1 t407 t408 y409).bind fun t412 => (some t412)) = some r := by rw [hy409]; exact H
 have Ny409 := AM hy409
 clear hy409
 obtain ⟨t412, A5, H⟩ := ZOB H; try dsimp only at H
 obtain rfl := Option.some.inj H
 go_enter Try.func52, Try.ntmps52
 try go_wp2_with (first | ((with_reducible refine gate_dst (N := 1) rfl ?_); refine ZXW w (N := 1) (cs := #[.slice A0_0 l0_0.length c0_0, .slice A0_1 l0_1.length c0_1]) (t := 26) ?_; intro gb405 hg w6 BK405 GW405 hb; replace HB := ZT HB hb; clear hb hg; have hcz7 := ZC2 w6 BK405) | ((with_reducible refine gate_callee (f := 16) rfl ?_); refine ZGL (some 4) Try.func16 #[.agg #[.slice A0_0 l0_0.length c0_0, .slice A0_1 l0_1.length c0_1]] ?_; (with_reducible refine (spec_ProgOk.calls k _ _ l0_0 _ _ l0_1 true _ (ZQ (Kd.C_below HR0_0.out HB.out)) HC0_0.out (ZQ (Kd.C_below HR0_1.out HB.out)) HC0_1.out A2.out).mono ?_); rintro e w8 ⟨rfl, hb⟩; refine ZV1 ?_; replace BK405 := ZW BK405 hb; replace HB := ZT HB hb; clear hb))
 replace BK405 := AM (blk_drew BK405.out)
 replace HB := AM (below_drew1 HB.out)
 refine start_ (n := 7) (S := fun w' => w'.cell? ⟨gb405, 0, none⟩ = some (.slice A0_0 l0_0.length c0_0) ∧ w'.cell? ⟨gb405, 1, none⟩ = some (.slice A0_1 l0_1.length c0_1)) (ds := []) #[F,F,F,F,F,F,F] (by kernel_rfl) rfl rfl ⟨ZA BK405 0, ZA BK405 1⟩ (fun hHeld => ?_)
 generalize w8.drew = w9 at BK405 HB hHeld ⊢
 refine pure_ (i := 1) (N := some 8) (v := ?_) (a' := ?_) #[F,T,F,F,F,F,F] rfl rfl (by kernel_rfl) (fun _ _ _ h => h) (Or.inl ⟨by rfl, ?_⟩) ?_ ?_
 rotate_left
 ·(
 intro w'
 go_simp
 with_reducible rfl)
 rotate_left
 ·(
 simp only [Act.put, List.setIfInBounds_toArray, List.set_cons_zero, List.set_cons_succ, i64_w, i32_w]
 rfl)
 refine take_ (i := 0) (N := some 7) (v := ?_) (a' := ?_) #[T,T,F,F,F,F,F] rfl rfl (by kernel_rfl) (fun _ _ _ h => h) (Or.inl ⟨by rfl, ?_⟩) hHeld ?_ ?_
 rotate_left
 ·(
 rintro w' ⟨s0, s1⟩
 go_simp
 with_reducible rfl)
 rotate_left
 ·(
 simp only [Act.put, List.setIfInBounds_toArray, List.set_cons_zero, List.set_cons_succ, i64_w, i32_w]
 rfl)
 refine take_ (i := 2) (N := some 9) (v := ?_) (a' := ?_) #[T,T,T,F,F,F,F] rfl rfl (by kernel_rfl) (fun _ _ _ h => h) (Or.inl ⟨by rfl, ?_⟩) hHeld ?_ ?_
 rotate_left
 ·(
 rintro w' ⟨s0, s1⟩
 go_simp
 with_reducible rfl)
 rotate_left
 ·(
 simp only [Act.put, List.setIfInBounds_toArray, List.set_cons_zero, List.set_cons_succ, i64_w, i32_w]
 rfl)
 refine join_ (σ := Value) 2 #[T,T,T,T,T,F,F] (fun s_ => [(10, .agg #[.int .i64 t407, .int .i64 t408]), (11, s_)]) (fun s_ w' => (w'.cell? ⟨gb405, 0, none⟩ = some (.slice A0_0 l0_0.length c0_0) ∧ w'.cell? ⟨gb405, 1, none⟩ = some (.slice A0_1 l0_1.length c0_1)) ∧ (Kd.R k35 35 w' w.heap.size (fun _ => True) s_ y409) ∧ (w'.heap[gb405]? = some (.cells #[.slice A0_0 l0_0.length c0_0, .slice A0_1 l0_1.length c0_1] 26 (0, 0))) ∧ (Below w.heap.size w w')) ?_ ?_
 rotate_left
 ·(
 intro hCont
 refine two_ (i := 3) (j := 4) (Ni := some 10) (Nj := some 11) #[T,T,T,T,F,F,F] #[T,T,T,F,T,F,F] rfl rfl rfl rfl (by kernel_rfl) (by decide) (by decide) (fun K hK => ?_) (fun K hK => ?_)
 ·(
 skip
 refine ZGO Try.func71 #[] ?_
 with_reducible refine (spec_l11Any.calls  t407 t408 _ A4.out).mono ?_
 rintro e w10 ⟨rfl, hb⟩
 refine ZV1 ?_
 replace BK405 := ZW BK405 hb
 replace HB := ZT HB hb
 (try clear hb)
 (try clear hb2)
 (try clear hk)
 (try clear hi)
 refine hK.out _ _ ⟨ZA BK405 0, ZA BK405 1⟩ (fun hHeld => ?_)
 clear hK K
 refine ZNO 10 ?_
 refine one_ (i := 4) (N := some 11) #[T,T,T,T,T,F,F] rfl rfl (by kernel_rfl) (by decide) (fun K hK => ?_)
 refine Kd.R_lit_step k35 _ 35 ?hg (N := 11) ?hd (xs := ([] : List (S35))) (inner := []) (ok := fun _ => True) (okp := fun _ => True) ?hr ?hp (fun _ hk => hk) trivial (Below.refl _ _) (Nat.le_refl _) (by simp) ?_; (case hd => rfl); (case hg => rfl); (case hr => first | (go_simp; done) | (go_simp; rfl)); (case hp => exact (Reps.none _ _))
 intro v410 w11 ho12 hb hg_ hnew_
 clear hg_ hnew_
 (first | rw [← Ny409.out] at ho12 | (simp only [Int.reduceToNat] at ho12; rw [← Ny409.out] at ho12))
 have HO411 := AM (Kd.R_lower ho12 (below_size (ZB)))
 replace BK405 := ZW BK405 hb
 replace HB := ZT HB hb
 clear hb ho12
 refine hK.out _ _ ⟨ZA BK405 0, ZA BK405 1⟩ (fun hHeld => ?_)
 clear hK K
 refine ZNO 11 ?_
 exact norm_ (by simp only [putAll, Act.put, List.setIfInBounds_toArray, List.set_cons_zero, List.set_cons_succ]) (hCont (v410) _ ⟨hHeld, (ZR HO411.out), (ZK BK405.out), (ZB)⟩))
 ·(
 skip
 refine Kd.R_lit_step k35 _ 35 ?hg (N := 11) ?hd (xs := ([] : List (S35))) (inner := []) (ok := fun _ => True) (okp := fun _ => True) ?hr ?hp (fun _ hk => hk) trivial (Below.refl _ _) (Nat.le_refl _) (by simp) ?_; (case hd => rfl); (case hg => rfl); (case hr => first | (go_simp; done) | (go_simp; rfl)); (case hp => exact (Reps.none _ _))
 intro v410 w10 ho11 hb hg_ hnew_
 clear hg_ hnew_
 (first | rw [← Ny409.out] at ho11 | (simp only [Int.reduceToNat] at ho11; rw [← Ny409.out] at ho11))
 have HO411 := AM (Kd.R_lower ho11 (below_size (ZB)))
 replace BK405 := ZW BK405 hb
 replace HB := ZT HB hb
 clear hb ho11
 refine hK.out _ _ ⟨ZA BK405 0, ZA BK405 1⟩ (fun hHeld => ?_)
 clear hK K
 refine ZNO 11 ?_
 refine one_ (i := 3) (N := some 10) #[T,T,T,T,T,F,F] rfl rfl (by kernel_rfl) (by decide) (fun K hK => ?_)
 refine ZGO Try.func71 #[] ?_
 with_reducible refine (spec_l11Any.calls  t407 t408 _ A4.out).mono ?_
 rintro e w12 ⟨rfl, hb⟩
 refine ZV1 ?_
 replace HO411 := AM (Kd.R_below (ZR HO411.out) hb)
 replace BK405 := ZW BK405 hb
 replace HB := ZT HB hb
 (try clear hb)
 (try clear hb2)
 (try clear hk)
 (try clear hi)
 refine hK.out _ _ ⟨ZA BK405 0, ZA BK405 1⟩ (fun hHeld => ?_)
 clear hK K
 refine ZNO 10 ?_
 exact norm_ (by simp only [putAll, Act.put, List.setIfInBounds_toArray, List.set_cons_zero, List.set_cons_succ]) (hCont (v410) _ ⟨hHeld, (ZR HO411.out), (ZK BK405.out), (ZB)⟩)))
 rintro v410 w13 ⟨hS_, h0_, h1_, h2_⟩
 try dsimp only at h0_ h1_ h2_
 have n0_ := AM h0_
 have n1_ := AM h1_
 have n2_ := AM h2_
 clear BK405 HB h0_ h1_ h2_
 have HO411 := n0_
 have BK405 := n1_
 have HB := n2_
 clear n0_ n1_ n2_
 try dsimp only at hS_
 have hHeld := hS_
 obtain ⟨Ao14, co14, eo14⟩ := Kd.R_slice HO411.out
 (first | subst eo14 | (injection eo14 with f1_ f2_ f3_; have f4_ := f1_.symm; have f5_ := f3_.symm; clear f1_ f2_ f3_; subst f4_; subst f5_))
 refine ZNP ?_
 refine one_ (i := 5) (N := some 12) #[T,T,T,T,T,T,F] rfl rfl (by kernel_rfl) (by decide) (fun K hK => ?_)
 refine ZGO Try.func70 #[.agg #[.slice A0_0 l0_0.length c0_0, .slice A0_1 l0_1.length c0_1], .slice A0_1 l0_1.length c0_1, .agg #[.int .i64 t407, .int .i64 t408], .slice Ao14 y409.length co14] ?_
 with_reducible refine (spec_l11At.calls k _ _ l0_0 _ _ l0_1 _ _ l0_1 t407 t408 (fun k_ => some k_ = (.slice Ao14 y409.length co14 : Value).ownBlock) (.slice Ao14 y409.length co14) y409 t412 w _ ?side1 ?side2 ?side3 ?side4 ?side5 ?side6 ?side7 ?side8 A5.out).mono ?_
 (case side1 => repeat (first | (with_reducible first | exact HB.out | apply below_alloc | apply pw_below_drewN | apply below_drew1 | refine below_set ?_ GW405.out) | exact HB.out))
 (case side2 => exact Kd.C_kept_came k35_heap HR0_0.out (ZB) (fun k_ hs_ => (fun e_ => Kd.R_base HO411.out k_ e_.symm) hs_))
 (case side3 => exact HC0_0.out)
 (case side4 => exact Kd.C_kept_came k40_heap HR0_1.out (ZB) (fun k_ hs_ => (fun e_ => Kd.R_base HO411.out k_ e_.symm) hs_))
 (case side5 => exact HC0_1.out)
 (case side6 => exact Kd.C_kept_came k40_heap HR0_1.out (ZB) (fun k_ hs_ => (fun e_ => Kd.R_base HO411.out k_ e_.symm) hs_))
 (case side7 => exact HC0_1.out)
 (case side8 => exact Kd.R_tight rfl HO411.out)
 rintro e w15 ⟨v413, rfl, ho0, hb, hkp⟩
 refine ZV1 ?_
 have n0_ := AM (blk_kept (ZK BK405.out) hkp (fun hs_ => (fun e_ => (Kd.R_ne HO411.out BK405.out (by decide)) e_) hs_))
 have n1_ := AM (Kd.R_mono (ok' := fun k_ => True) ho0 (fun k_ hk_ => trivial))
 have n2_ := AM (hb)
 clear BK405 HB HO411
 have BK405 := n0_
 have HO414 := n1_
 have HB := n2_
 clear n0_ n1_ n2_
 (try clear hb)
 (try clear hkp)
 (try clear ho0)
 refine hK.out _ _ ⟨ZA BK405 0, ZA BK405 1⟩ (fun hHeld => ?_)
 clear hK K
 refine ZNO 12 ?_
 refine pure_ (i := 6) (N := some 2) (v := ?_) (a' := ?_) #[T,T,T,T,T,T,T] rfl rfl (by kernel_rfl) (fun _ _ _ h => h) (Or.inl ⟨by rfl, ?_⟩) ?_ ?_
 rotate_left
 ·(
 intro w'
 go_simp
 with_reducible rfl)
 rotate_left
 ·(
 simp only [Act.put, List.setIfInBounds_toArray, List.set_cons_zero, List.set_cons_succ, i64_w, i32_w]
 rfl)
 refine done_ (by kernel_rfl) ?_
 try go_wp2
 go_ret
 exact ⟨_, ZE, by (with_reducible repeat (first | apply Kd.R_alloc | apply Kd.R_drewN | apply Kd.R_drew)); exact HO414.out, ZB⟩)
 ·(
 replace c3 := Bool.eq_false_iff.mpr c3
 subst c3
 have H1 := H; rw [if_neg ZFT] at H1
 clear H
 have H := H1
 clear H1
 obtain ⟨y415, hy415⟩ : ∃ y_ : List (S35), y_ = (([] : List (S35))) := ⟨_, rfl⟩
 replace H : (some y415) = some r := by rw [hy415]; exact H
 have Ny415 := AM hy415
 clear hy415
 obtain rfl := Option.some.inj H
 go_enter Try.func52, Try.ntmps52
 go_wp2_with (first | ((with_reducible refine gate_dst (N := 1) rfl ?_); refine ZXW w (N := 1) (cs := #[.slice A0_0 l0_0.length c0_0, .slice A0_1 l0_1.length c0_1]) (t := 26) ?_; intro gb405 hg w16 BK405 GW405 hb; replace HB := ZT HB hb; clear hb hg; have hcz17 := ZC2 w16 BK405) | ((with_reducible refine gate_callee (f := 16) rfl ?_); refine ZGL (some 4) Try.func16 #[.agg #[.slice A0_0 l0_0.length c0_0, .slice A0_1 l0_1.length c0_1]] ?_; (with_reducible refine (spec_ProgOk.calls k _ _ l0_0 _ _ l0_1 false _ (ZQ (Kd.C_below HR0_0.out HB.out)) HC0_0.out (ZQ (Kd.C_below HR0_1.out HB.out)) HC0_1.out A2.out).mono ?_); rintro e w18 ⟨rfl, hb⟩; refine ZV1 ?_; replace BK405 := ZW BK405 hb; replace HB := ZT HB hb; clear hb) | ((with_reducible refine gate_dst (N := 6) rfl ?_); refine Kd.R_lit k35 _ 35 ?hg (N := 6) ?hd (xs := ([] : List (S35))) (inner := []) (ok := fun _ => True) (okp := fun _ => True) ?hr ?hp (fun _ hk => hk) trivial (Below.refl _ _) (Nat.le_refl _) (by simp) ?_; (case hd => rfl); (case hg => rfl); (case hr => first | (go_simp; done) | (go_simp; rfl)); (case hp => exact (Reps.none _ _)); intro v416 w19 ho20 hb hg_ hnew_; clear hg_ hnew_; (first | rw [← Ny415.out] at ho20 | (simp only [Int.reduceToNat] at ho20; rw [← Ny415.out] at ho20)); have HO417 := AM (Kd.R_lower ho20 (below_size (ZB))); replace BK405 := ZW BK405 hb; replace HB := ZT HB hb; clear hb ho20))
 go_ret
 exact ⟨_, ZE, by (with_reducible repeat (first | apply Kd.R_alloc | apply Kd.R_drewN | apply Kd.R_drew)); exact HO417.out, ZB⟩)

/-! ### spec_l1Within: function 83 -/
def spec_l1Within.l0 : Nat → Int → Int → Int → Option (Bool)
 | 0, _, _, _ => none
 | k + 1, x0, x1, x5 => if x5 < 3 then ((spec_l1Has.f x0 x5).bind fun t418 => (if t418 = true then ((spec_l1Has.f x1 x5).bind fun t419 => (if t419 = true then (spec_l1Within.l0 k x0 x1 (wrap64 (x5 + 1))) else (some false))) else (spec_l1Within.l0 k x0 x1 (wrap64 (x5 + 1))))) else (some true)
def spec_l1Within.f (k : Nat) (a0 : Int) (a1 : Int) : Option (Bool) := spec_l1Within.l0 k a0 a1 0
theorem spec_l1Within.mono_l : ∀ k, (∀ y0 y1 y2, LeO (spec_l1Within.l0 k y0 y1 y2) (spec_l1Within.l0 (k + 1) y0 y1 y2))
 | 0 => fun _ _ _ r h => by simp [spec_l1Within.l0] at h
 | k + 1 => by
  have ih0 := spec_l1Within.mono_l k
  ·intro y0 y1 y2
   unfold spec_l1Within.l0
   repeat' first
   | (with_reducible exact ih0 _ _ _)
   | (with_reducible exact LeO.refl _)
   | (with_reducible exact LeO.none _)
   | (with_reducible refine LeO.ite ?_ ?_)
   | (with_reducible refine LeO.bind ?_ (fun _ => ?_))
   | exact ih0 _ _ _
   | exact LeO.none _
   | refine LeO.ite ?_ ?_
   | refine LeO.bind ?_ (fun _ => ?_)
theorem spec_l1Within.mono : ∀ a0 a1 k, LeO (spec_l1Within.f k a0 a1) (spec_l1Within.f (k + 1) a0 a1) := by
 intro a0 a1 k
 have ih0 := spec_l1Within.mono_l k
 unfold spec_l1Within.f
 repeat' first
   | (with_reducible exact ih0 _ _ _)
   | (with_reducible exact LeO.refl _)
   | (with_reducible exact LeO.none _)
   | (with_reducible refine LeO.ite ?_ ?_)
   | (with_reducible refine LeO.bind ?_ (fun _ => ?_))
   | exact ih0 _ _ _
   | exact LeO.none _
   | refine LeO.ite ?_ ?_
   | refine LeO.bind ?_ (fun _ => ?_)
theorem spec_l1Within.calls (k : Nat) (a0 : Int) (a1 : Int) (r : Bool) (w : World) (h : spec_l1Within.f k a0 a1 = some r) :
  Calls Try.prog 83 #[.int .i64 a0, .int .i64 a1] w fun e w' => e = .returned (.bool r) ∧ Drawn0 w w' := by
 have H := h
 unfold spec_l1Within.f at H
 clear h
 have H' := AM H
 clear H
 go_enter Try.func83, Try.ntmps83
 go_wp2
 go_loopg [5] k (fun kq v5 w' => ∃ (x5_1 : Int), v5 = .int .i64 x5_1 ∧ Za (spec_l1Within.l0 kq a0 a1 x5_1 = some r) ∧ Za (kq ≤ k) ∧ Drawn0 w w')
 case atStart => exact ⟨(0), ZSM, H', ⟨Nat.le_refl _⟩, by repeat (first | exact Drawn0.refl _ | apply Drawn0.step)⟩
 case round => (
 clear H'
 try clear p2
 obtain ⟨x5_1, rfl, HA, HK1, ⟨m1, rfl⟩⟩ := hrel
 cases gk with
 | zero => exact absurd HA.out (by simp [spec_l1Within.l0])
 | succ k1 =>
  have H := HA.out
  clear HA
  simp only [spec_l1Within.l0] at H
  by_cases c3 : x5_1 < 3
  ·(
  rw [if_pos c3] at H
  have c3b0 := decide_eq_true c3
  clear c3
  obtain ⟨t418, A4, H⟩ := ZOB H; try dsimp only at H
  by_cases c5 : t418 = true
  ·(
  subst c5
  have H1 := H; rw [if_pos rfl] at H1
  clear H
  have H := H1
  clear H1
  obtain ⟨t419, A6, H⟩ := ZOB H; try dsimp only at H
  by_cases c7 : t419 = true
  ·(
  subst c7
  have H1 := H; rw [if_pos rfl] at H1
  clear H
  have H := H1
  clear H1
  have H' := AM H
  clear H
  go_wp2_with (first | ((with_reducible refine gate_callee (f := 75) rfl ?_); refine ZGL (some 12) Try.func75 #[.int .i64 a0, .int .i64 x5_1] ?_; (with_reducible refine (spec_l1Has.calls a0 x5_1 true _ A4.out).mono ?_); rintro e w' ⟨rfl, ⟨nd, rfl⟩⟩; refine ZV1 ?_) | (go_at_call 75; (with_reducible refine (spec_l1Has.calls a1 x5_1 true _ A6.out).mono ?_); rintro e w' ⟨rfl, ⟨nd, rfl⟩⟩))
  go_roundg k1
  case measure => have := HK1.out; omega
  case rel => exact ⟨(wrap64 (x5_1 + 1)), ZSM, H', ⟨by have := HK1.out; omega⟩, by repeat (first | exact Drawn0.refl _ | apply Drawn0.step)⟩)
  ·(
  replace c7 := Bool.eq_false_iff.mpr c7
  subst c7
  have H1 := H; rw [if_neg ZFT] at H1
  clear H
  have H := H1
  clear H1
  obtain rfl := Option.some.inj H
  go_wp2_with (first | ((with_reducible refine gate_callee (f := 75) rfl ?_); refine ZGL (some 12) Try.func75 #[.int .i64 a0, .int .i64 x5_1] ?_; (with_reducible refine (spec_l1Has.calls a0 x5_1 true _ A4.out).mono ?_); rintro e w' ⟨rfl, ⟨nd, rfl⟩⟩; refine ZV1 ?_) | (go_at_call 75; (with_reducible refine (spec_l1Has.calls a1 x5_1 false _ A6.out).mono ?_); rintro e w' ⟨rfl, ⟨nd, rfl⟩⟩))
  go_ret
  exact ⟨by first | rfl | (simp; done) | (simp [*]; done), by repeat (first | exact Drawn0.refl _ | apply Drawn0.step)⟩))
  ·(
  replace c5 := Bool.eq_false_iff.mpr c5
  subst c5
  have H1 := H; rw [if_neg ZFT] at H1
  clear H
  have H := H1
  clear H1
  have H' := AM H
  clear H
  go_wp2_with (first | ((with_reducible refine gate_callee (f := 75) rfl ?_); refine ZGL (some 12) Try.func75 #[.int .i64 a0, .int .i64 x5_1] ?_; (with_reducible refine (spec_l1Has.calls a0 x5_1 false _ A4.out).mono ?_); rintro e w' ⟨rfl, ⟨nd, rfl⟩⟩; refine ZV1 ?_))
  go_roundg k1
  case measure => have := HK1.out; omega
  case rel => exact ⟨(wrap64 (x5_1 + 1)), ZSM, H', ⟨by have := HK1.out; omega⟩, by repeat (first | exact Drawn0.refl _ | apply Drawn0.step)⟩))
  ·(
  rw [if_neg c3] at H
  have c3b0 := decide_eq_false c3
  clear c3
  obtain rfl := Option.some.inj H
  go_wp2
  go_ret
  exact ⟨by first | rfl | (simp; done) | (simp [*]; done), by repeat (first | exact Drawn0.refl _ | apply Drawn0.step)⟩))

/-! ### spec_LabelFlows: function 72 -/
def spec_LabelFlows.f (k : Nat) (a0_0 : Int) (a0_1 : Int) (a1_0 : Int) (a1_1 : Int) : Option (Bool) := (spec_LabelOk.f a0_0 a0_1).bind fun t422 => (if t422 = true then ((spec_LabelOk.f a1_0 a1_1).bind fun t423 => (if t423 = true then ((spec_l1Within.f k a1_0 a0_0).bind fun t424 => (if t424 = true then ((spec_l1Within.f k a1_1 a0_1).bind fun t425 => (some t425)) else (some false))) else (some false))) else (some false))
theorem spec_LabelFlows.calls (k : Nat) (a0_0 : Int) (a0_1 : Int) (a1_0 : Int) (a1_1 : Int) (r : Bool) (w : World) (h : spec_LabelFlows.f k a0_0 a0_1 a1_0 a1_1 = some r) :
  Calls Try.prog 72 #[.agg #[.int .i64 a0_0, .int .i64 a0_1], .agg #[.int .i64 a1_0, .int .i64 a1_1]] w fun e w' => e = .returned (.bool r) ∧ Below w.heap.size w w' := by
 have hu35 := Try.underlying35
 have HB := AM (Below.refl w.heap.size w)
 have H := h
 unfold spec_LabelFlows.f at H
 clear h
 obtain ⟨t422, A3, H⟩ := ZOB H; try dsimp only at H
 by_cases c4 : t422 = true
 ·(
 subst c4
 have H1 := H; rw [if_pos rfl] at H1
 clear H
 have H := H1
 clear H1
 obtain ⟨t423, A5, H⟩ := ZOB H; try dsimp only at H
 by_cases c6 : t423 = true
 ·(
 subst c6
 have H1 := H; rw [if_pos rfl] at H1
 clear H
 have H := H1
 clear H1
 obtain ⟨t424, A7, H⟩ := ZOB H; try dsimp only at H
 by_cases c8 : t424 = true
 ·(
 subst c8
 have H1 := H; rw [if_pos rfl] at H1
 clear H
 have H := H1
 clear H1
 obtain ⟨t425, A9, H⟩ := ZOB H; try dsimp only at H
 obtain rfl := Option.some.inj H
 go_enter Try.func72, Try.ntmps72
 go_wp2_with (first | ((with_reducible refine gate_dst (N := 2) rfl ?_); refine ZXW w (N := 2) (cs := #[.int .i64 a0_0, .int .i64 a0_1]) (t := 35) ?_; intro gb420 hg w10 BK420 GW420 hb; replace HB := ZT HB hb; clear hb hg) | ((with_reducible refine gate_dst (N := 3) rfl ?_); refine ZXW w (N := 3) (cs := #[.int .i64 a1_0, .int .i64 a1_1]) (t := 35) ?_; intro gb421 hg w11 BK421 GW421 hb; have NB420_421 : Za (gb420 ≠ gb421) := ZN hg BK420; have NB421_420 : Za (gb421 ≠ gb420) := ZM hg BK420; replace BK420 := ZW BK420 hb; replace HB := ZT HB hb; clear hb hg; have hnb12 := NB420_421.out; have hnc12 := NB421_420.out; have hcz13 := ZC2 w11 BK420) | ((with_reducible refine gate_callee (f := 33) rfl ?_); refine ZGL (some 6) Try.func33 #[.agg #[.int .i64 a0_0, .int .i64 a0_1]] ?_; (with_reducible refine (spec_LabelOk.calls a0_0 a0_1 true _ A3.out).mono ?_); rintro e w14 ⟨rfl, hb⟩; refine ZV1 ?_; replace BK420 := ZW BK420 hb; replace BK421 := ZW BK421 hb; replace HB := ZT HB hb; clear hb; have hcz15 := ZC2 w14 BK421) | (go_at_call 33; (with_reducible refine (spec_LabelOk.calls a1_0 a1_1 true _ A5.out).mono ?_); rintro e w16 ⟨rfl, hb⟩; replace BK420 := ZW BK420 hb; replace BK421 := ZW BK421 hb; replace HB := ZT HB hb; clear hb; have hcz17 := ZC2 w16 BK421; have hcz18 := ZC2 w16 BK420) | (go_at_call 83; (with_reducible refine (spec_l1Within.calls k a1_0 a0_0 true _ A7.out).mono ?_); rintro e w' ⟨rfl, ⟨nd, rfl⟩⟩) | (go_at_call 83; (with_reducible refine (spec_l1Within.calls k a1_1 a0_1 t425 _ A9.out).mono ?_); rintro e w' ⟨rfl, ⟨nd, rfl⟩⟩))
 go_ret
 exact ⟨ZE, ZB⟩)
 ·(
 replace c8 := Bool.eq_false_iff.mpr c8
 subst c8
 have H1 := H; rw [if_neg ZFT] at H1
 clear H
 have H := H1
 clear H1
 obtain rfl := Option.some.inj H
 go_enter Try.func72, Try.ntmps72
 go_wp2_with (first | ((with_reducible refine gate_dst (N := 2) rfl ?_); refine ZXW w (N := 2) (cs := #[.int .i64 a0_0, .int .i64 a0_1]) (t := 35) ?_; intro gb420 hg w19 BK420 GW420 hb; replace HB := ZT HB hb; clear hb hg) | ((with_reducible refine gate_dst (N := 3) rfl ?_); refine ZXW w (N := 3) (cs := #[.int .i64 a1_0, .int .i64 a1_1]) (t := 35) ?_; intro gb421 hg w20 BK421 GW421 hb; have NB420_421 : Za (gb420 ≠ gb421) := ZN hg BK420; have NB421_420 : Za (gb421 ≠ gb420) := ZM hg BK420; replace BK420 := ZW BK420 hb; replace HB := ZT HB hb; clear hb hg; have hnb21 := NB420_421.out; have hnc21 := NB421_420.out; have hcz22 := ZC2 w20 BK420) | ((with_reducible refine gate_callee (f := 33) rfl ?_); refine ZGL (some 6) Try.func33 #[.agg #[.int .i64 a0_0, .int .i64 a0_1]] ?_; (with_reducible refine (spec_LabelOk.calls a0_0 a0_1 true _ A3.out).mono ?_); rintro e w23 ⟨rfl, hb⟩; refine ZV1 ?_; replace BK420 := ZW BK420 hb; replace BK421 := ZW BK421 hb; replace HB := ZT HB hb; clear hb; have hcz24 := ZC2 w23 BK421) | (go_at_call 33; (with_reducible refine (spec_LabelOk.calls a1_0 a1_1 true _ A5.out).mono ?_); rintro e w25 ⟨rfl, hb⟩; replace BK420 := ZW BK420 hb; replace BK421 := ZW BK421 hb; replace HB := ZT HB hb; clear hb; have hcz26 := ZC2 w25 BK421; have hcz27 := ZC2 w25 BK420) | (go_at_call 83; (with_reducible refine (spec_l1Within.calls k a1_0 a0_0 false _ A7.out).mono ?_); rintro e w' ⟨rfl, ⟨nd, rfl⟩⟩))
 go_ret
 exact ⟨ZE, ZB⟩))
 ·(
 replace c6 := Bool.eq_false_iff.mpr c6
 subst c6
 have H1 := H; rw [if_neg ZFT] at H1
 clear H
 have H := H1
 clear H1
 obtain rfl := Option.some.inj H
 go_enter Try.func72, Try.ntmps72
 go_wp2_with (first | ((with_reducible refine gate_dst (N := 2) rfl ?_); refine ZXW w (N := 2) (cs := #[.int .i64 a0_0, .int .i64 a0_1]) (t := 35) ?_; intro gb420 hg w28 BK420 GW420 hb; replace HB := ZT HB hb; clear hb hg) | ((with_reducible refine gate_dst (N := 3) rfl ?_); refine ZXW w (N := 3) (cs := #[.int .i64 a1_0, .int .i64 a1_1]) (t := 35) ?_; intro gb421 hg w29 BK421 GW421 hb; have NB420_421 : Za (gb420 ≠ gb421) := ZN hg BK420; have NB421_420 : Za (gb421 ≠ gb420) := ZM hg BK420; replace BK420 := ZW BK420 hb; replace HB := ZT HB hb; clear hb hg; have hnb30 := NB420_421.out; have hnc30 := NB421_420.out; have hcz31 := ZC2 w29 BK420) | ((with_reducible refine gate_callee (f := 33) rfl ?_); refine ZGL (some 6) Try.func33 #[.agg #[.int .i64 a0_0, .int .i64 a0_1]] ?_; (with_reducible refine (spec_LabelOk.calls a0_0 a0_1 true _ A3.out).mono ?_); rintro e w32 ⟨rfl, hb⟩; refine ZV1 ?_; replace BK420 := ZW BK420 hb; replace BK421 := ZW BK421 hb; replace HB := ZT HB hb; clear hb; have hcz33 := ZC2 w32 BK421) | (go_at_call 33; (with_reducible refine (spec_LabelOk.calls a1_0 a1_1 false _ A5.out).mono ?_); rintro e w34 ⟨rfl, hb⟩; replace BK420 := ZW BK420 hb; replace BK421 := ZW BK421 hb; replace HB := ZT HB hb; clear hb))
 go_ret
 exact ⟨ZE, ZB⟩))
 ·(
 replace c4 := Bool.eq_false_iff.mpr c4
 subst c4
 have H1 := H; rw [if_neg ZFT] at H1
 clear H
 have H := H1
 clear H1
 obtain rfl := Option.some.inj H
 go_enter Try.func72, Try.ntmps72
 go_wp2_with (first | ((with_reducible refine gate_dst (N := 2) rfl ?_); refine ZXW w (N := 2) (cs := #[.int .i64 a0_0, .int .i64 a0_1]) (t := 35) ?_; intro gb420 hg w35 BK420 GW420 hb; replace HB := ZT HB hb; clear hb hg) | ((with_reducible refine gate_dst (N := 3) rfl ?_); refine ZXW w (N := 3) (cs := #[.int .i64 a1_0, .int .i64 a1_1]) (t := 35) ?_; intro gb421 hg w36 BK421 GW421 hb; have NB420_421 : Za (gb420 ≠ gb421) := ZN hg BK420; have NB421_420 : Za (gb421 ≠ gb420) := ZM hg BK420; replace BK420 := ZW BK420 hb; replace HB := ZT HB hb; clear hb hg; have hnb37 := NB420_421.out; have hnc37 := NB421_420.out; have hcz38 := ZC2 w36 BK420) | ((with_reducible refine gate_callee (f := 33) rfl ?_); refine ZGL (some 6) Try.func33 #[.agg #[.int .i64 a0_0, .int .i64 a0_1]] ?_; (with_reducible refine (spec_LabelOk.calls a0_0 a0_1 false _ A3.out).mono ?_); rintro e w39 ⟨rfl, hb⟩; refine ZV1 ?_; replace BK420 := ZW BK420 hb; replace BK421 := ZW BK421 hb; replace HB := ZT HB hb; clear hb))
 go_ret
 exact ⟨ZE, ZB⟩)

end Go.Proofs.Ytkkdeojbkfjlpaa.A
