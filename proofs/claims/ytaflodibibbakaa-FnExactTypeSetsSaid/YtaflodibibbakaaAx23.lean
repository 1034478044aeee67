/- Go functions as Lean functions, and for each its contract; written by wip/tools/pr.py over the kit's print. -/
import Derived.Test.YtaflodibibbakaaAx0
import Derived.Test.YtaflodibibbakaaAx10
import Derived.Test.YtaflodibibbakaaAx22
namespace Go.Proofs.Ytaflodibibbakaa.A
open Go.RowKit Go.Proofs.YtaflodibibbakaaW.PrintWords Go.Proofs.YtaflodibibbakaaW.PrintLast Go.Proofs.YtaflodibibbakaaW.PrintMore
attribute [local go_sem] max2_int min2_int max_two min_two max_three min_three max_four min_four
set_option linter.unusedVariables false
set_option linter.unusedSimpArgs false
set_option maxHeartbeats 8000000
set_option maxRecDepth 100000

/-! ### impl_everybody: function 75 -/
def impl_everybody.f  : Option (Int × Int) := some (7, 7)
theorem impl_everybody.calls  (r1 : Int) (r2 : Int) (w : World) (h : impl_everybody.f  = some (r1, r2)) :
  Calls Try.prog 75 #[] w fun e w' => e = .returned (.agg #[.int .i64 r1, .int .i64 r2]) ∧ Below w.heap.size w w' := by
 have hu60 := Try.underlying60
 have HB := AM (Below.refl w.heap.size w)
 have H := h
 unfold impl_everybody.f at H
 clear h
 simp only [Option.some.injEq, Prod.mk.injEq] at H
 obtain ⟨rfl, rfl⟩ := H
 go_enter Try.func75, Try.ntmps75
 go_wp2_with (first | ((with_reducible refine gate_dst (N := 0) rfl ?_); refine ZX (N := 0) (cs := #[.int .i64 0, .int .i64 0]) (t := 60) ?_; intro gb462 hg w1 hbox hb; have BK462 := AM (hbox); have GW462 : Aside0 (w.heap.size ≤ gb462) := ZS hg; have GE462 : Aside0 (w.heap.size ≤ gb462) := ZS hg; replace HB := ZT HB hb; clear hb hbox hg; have hcz2 := ZC2 w1 BK462; have hfz2 := ZF2 BK462))
 refine bodyPost_ret (results_cell_row rfl _ _ gb462 60 #[.int .i64 7, .int .i64 7] (0, 0) _ rfl (ZZ BK462.out) Try.underlying60 rfl (by kernel_rfl)) rfl ?_
 exact ⟨ZE, ZB⟩

/-! ### impl_Prog_at: function 48 -/
def impl_Prog_at.f (k : Nat) (l0_0 : List (S60)) (l0_1 : List (S50)) : Option ((List (S60))) := (impl_everybody.f).bind fun bt464 => ((impl_Prog_labels.f k l0_0 l0_1 l0_1 bt464.1 bt464.2 ([] : List (S60))).bind fun t466 => (some t466))
theorem impl_Prog_at.calls (k : Nat) (A0_0 : Option Addr) (c0_0 : Nat) (l0_0 : List (S60)) (A0_1 : Option Addr) (c0_1 : Nat) (l0_1 : List (S50)) (r : List (S60)) (w : World) (hr0_0 : Kd.C k60 w A0_0 l0_0.length l0_0) (hc0_0 : l0_0.length ≤ c0_0) (hr0_1 : Kd.C k50 w A0_1 l0_1.length l0_1) (hc0_1 : l0_1.length ≤ c0_1) (h : impl_Prog_at.f k l0_0 l0_1 = some r) :
  Calls Try.prog 48 #[.agg #[.slice A0_0 l0_0.length c0_0, .slice A0_1 l0_1.length c0_1]] w fun e w' => ∃ v0_ : Value, e = .returned (v0_) ∧ Kd.R k60 60 w' w.heap.size (fun _ => True) v0_ r ∧ Below w.heap.size w w' := by
 have hu32 := Try.underlying32
 have HR0_0 := AM hr0_0
 have HC0_0 := AM hc0_0
 clear hr0_0 hc0_0
 have HR0_1 := AM hr0_1
 have HC0_1 := AM hc0_1
 clear hr0_1 hc0_1
 have HB := AM (Below.refl w.heap.size w)
 have H := h
 unfold impl_Prog_at.f at H
 clear h
 obtain ⟨⟨t464, t465⟩, A2, H⟩ := ZOB H; try dsimp only at H
 obtain ⟨t466, A3, H⟩ := ZOB H; try dsimp only at H
 obtain rfl := Option.some.inj H
 go_enter Try.func48, Try.ntmps48
 try go_wp2_with (first | ((with_reducible refine gate_dst (N := 1) rfl ?_); refine ZX (N := 1) (cs := #[.slice A0_0 l0_0.length c0_0, .slice A0_1 l0_1.length c0_1]) (t := 32) ?_; intro gb463 hg w4 hbox hb; have BK463 := AM (hbox); have GW463 : Aside0 (w.heap.size ≤ gb463) := ZS hg; have GE463 : Aside0 (w.heap.size ≤ gb463) := ZS hg; replace HB := ZT HB hb; clear hb hbox hg))
 replace BK463 := AM (blk_drew BK463.out)
 replace HB := AM (below_drew1 HB.out)
 refine start_ (n := 6) (S := fun w' => w'.cell? ⟨gb463, 0, none⟩ = some (.slice A0_0 l0_0.length c0_0) ∧ w'.cell? ⟨gb463, 1, none⟩ = some (.slice A0_1 l0_1.length c0_1)) (ds := []) #[F,F,F,F,F,F] (by kernel_rfl) rfl rfl ⟨ZA BK463 0, ZA BK463 1⟩ (fun hHeld => ?_)
 generalize w4.drew = w5 at BK463 HB hHeld ⊢
 refine pure_ (i := 1) (N := some 4) (v := ?_) (a' := ?_) #[F,T,F,F,F,F] rfl rfl (by kernel_rfl) (fun _ _ _ h => h) (Or.inl ⟨by rfl, ?_⟩) ?_ ?_
 rotate_left
 ·(
 intro w'
 go_simp
 with_reducible rfl)
 rotate_left
 ·(
 simp only [Act.put, List.setIfInBounds_toArray, List.set_cons_zero, List.set_cons_succ, i64_w, i32_w]
 rfl)
 refine take_ (i := 0) (N := some 3) (v := ?_) (a' := ?_) #[T,T,F,F,F,F] rfl rfl (by kernel_rfl) (fun _ _ _ h => h) (Or.inl ⟨by rfl, ?_⟩) hHeld ?_ ?_
 rotate_left
 ·(
 rintro w' ⟨s0, s1⟩
 go_simp
 with_reducible rfl)
 rotate_left
 ·(
 simp only [Act.put, List.setIfInBounds_toArray, List.set_cons_zero, List.set_cons_succ, i64_w, i32_w]
 rfl)
 refine take_ (i := 2) (N := some 5) (v := ?_) (a' := ?_) #[T,T,T,F,F,F] rfl rfl (by kernel_rfl) (fun _ _ _ h => h) (Or.inl ⟨by rfl, ?_⟩) hHeld ?_ ?_
 rotate_left
 ·(
 rintro w' ⟨s0, s1⟩
 go_simp
 with_reducible rfl)
 rotate_left
 ·(
 simp only [Act.put, List.setIfInBounds_toArray, List.set_cons_zero, List.set_cons_succ, i64_w, i32_w]
 rfl)
 refine one_ (i := 3) (N := some 6) #[T,T,T,T,F,F] rfl rfl (by kernel_rfl) (by decide) (fun K hK => ?_)
 refine ZGO Try.func75 #[] ?_
 with_reducible refine (impl_everybody.calls  t464 t465 _ A2.out).mono ?_
 rintro e w6 ⟨rfl, hb⟩
 refine ⟨_, rfl, ?_⟩
 replace BK463 := ZW BK463 hb
 replace HB := ZT HB hb
 (try clear hb)
 (try clear hb2)
 (try clear hk)
 (try clear hi)
 refine hK.out _ _ ⟨ZA BK463 0, ZA BK463 1⟩ (fun hHeld => ?_)
 clear hK K
 refine ZNO 6 ?_
 refine one_ (i := 4) (N := some 7) #[T,T,T,T,T,F] rfl rfl (by kernel_rfl) (by decide) (fun K hK => ?_)
 refine ZGO Try.func74 #[.agg #[.slice A0_0 l0_0.length c0_0, .slice A0_1 l0_1.length c0_1], .slice A0_1 l0_1.length c0_1, .agg #[.int .i64 t464, .int .i64 t465], .slice none 0 0] ?_
 refine (impl_Prog_labels.calls k _ _ l0_0 _ _ l0_1 _ _ l0_1 t464 t465 (fun k_ => some k_ = (.slice none 0 0 : Value).ownBlock) (.slice none 0 0) ([] : List (S60)) t466 w _ ?side1 ?side2 ?side3 ?side4 ?side5 ?side6 ?side7 ?side8 A3.out).mono ?_
 (case side1 => repeat (first | (with_reducible first | exact HB.out | apply below_alloc | apply pw_below_drewN | apply below_drew1 | refine below_set ?_ GE463.out) | exact HB.out))
 (case side2 => exact Kd.C_kept_came k60_heap HR0_0.out (ZB) (fun k_ hs_ => (fun e_ => by simp [Value.ownBlock] at e_) hs_))
 (case side3 => exact HC0_0.out)
 (case side4 => exact Kd.C_kept_came k50_heap HR0_1.out (ZB) (fun k_ hs_ => (fun e_ => by simp [Value.ownBlock] at e_) hs_))
 (case side5 => exact HC0_1.out)
 (case side6 => exact Kd.C_kept_came k50_heap HR0_1.out (ZB) (fun k_ hs_ => (fun e_ => by simp [Value.ownBlock] at e_) hs_))
 (case side7 => exact HC0_1.out)
 (case side8 => exact Kd.R_nil _ _ _ _ _)
 rintro e w7 ⟨v467, rfl, ho0, hb, hkp⟩
 refine ⟨_, rfl, ?_⟩
 have HO468 := AM (Kd.R_mono (ok' := fun k_ => True) ho0 (fun k_ hk_ => trivial))
 replace BK463 := AM (blk_kept (ZK BK463.out) hkp (fun hs_ => (fun e_ => by simp [Value.ownBlock] at e_) hs_))
 replace HB := AM (hb)
 (try clear hb)
 (try clear hkp)
 (try clear ho0)
 refine hK.out _ _ ⟨ZA BK463 0, ZA BK463 1⟩ (fun hHeld => ?_)
 clear hK K
 refine ZNO 7 ?_
 refine pure_ (i := 5) (N := some 2) (v := ?_) (a' := ?_) #[T,T,T,T,T,T] rfl rfl (by kernel_rfl) (fun _ _ _ h => h) (Or.inl ⟨by rfl, ?_⟩) ?_ ?_
 rotate_left
 ·(
 intro w'
 go_simp
 with_reducible rfl)
 rotate_left
 ·(
 simp only [Act.put, List.setIfInBounds_toArray, List.set_cons_zero, List.set_cons_succ, i64_w, i32_w]
 rfl)
 refine done_ (by kernel_rfl) ?_
 try go_wp2
 go_ret
 exact ⟨_, ZE, by (with_reducible repeat (first | apply Kd.R_alloc | apply Kd.R_drewN | apply Kd.R_drew)); exact HO468.out, ZB⟩

/-! ### impl_TypeAt: function 20 -/
def impl_TypeAt.f (k : Nat) (l0_0 : List (S60)) (l0_1 : List (S50)) : Option ((List (S60))) := (impl_ProgOk.f k l0_0 l0_1).bind fun t470 => (if t470 = true then ((impl_Prog_at.f k l0_0 l0_1).bind fun t471 => (some t471)) else (some ([] : List (S60))))
theorem impl_TypeAt.calls (k : Nat) (A0_0 : Option Addr) (c0_0 : Nat) (l0_0 : List (S60)) (A0_1 : Option Addr) (c0_1 : Nat) (l0_1 : List (S50)) (r : List (S60)) (w : World) (hr0_0 : Kd.C k60 w A0_0 l0_0.length l0_0) (hc0_0 : l0_0.length ≤ c0_0) (hr0_1 : Kd.C k50 w A0_1 l0_1.length l0_1) (hc0_1 : l0_1.length ≤ c0_1) (h : impl_TypeAt.f k l0_0 l0_1 = some r) :
  Calls Try.prog 20 #[.agg #[.slice A0_0 l0_0.length c0_0, .slice A0_1 l0_1.length c0_1]] w fun e w' => ∃ v0_ : Value, e = .returned (v0_) ∧ Kd.R k60 60 w' w.heap.size (fun _ => True) v0_ r ∧ Below w.heap.size w w' := by
 have hu32 := Try.underlying32
 have HR0_0 := AM hr0_0
 have HC0_0 := AM hc0_0
 clear hr0_0 hc0_0
 have HR0_1 := AM hr0_1
 have HC0_1 := AM hc0_1
 clear hr0_1 hc0_1
 have HB := AM (Below.refl w.heap.size w)
 have H := h
 unfold impl_TypeAt.f at H
 clear h
 obtain ⟨t470, A2, H⟩ := ZOB H; try dsimp only at H
 by_cases c3 : t470 = true
 ·(
 subst c3
 have H1 := H; rw [if_pos rfl] at H1
 clear H
 have H := H1
 clear H1
 obtain ⟨t471, A4, H⟩ := ZOB H; try dsimp only at H
 obtain rfl := Option.some.inj H
 go_enter Try.func20, Try.ntmps20
 go_wp2_with (first | ((with_reducible refine gate_dst (N := 1) rfl ?_); refine ZX (N := 1) (cs := #[.slice A0_0 l0_0.length c0_0, .slice A0_1 l0_1.length c0_1]) (t := 32) ?_; intro gb469 hg w5 hbox hb; have BK469 := AM (hbox); have GW469 : Aside0 (w.heap.size ≤ gb469) := ZS hg; have GE469 : Aside0 (w.heap.size ≤ gb469) := ZS hg; replace HB := ZT HB hb; clear hb hbox hg; have hcz6 := ZC2 w5 BK469; have hfz6 := ZF2 BK469) | ((with_reducible refine gate_callee (f := 47) rfl ?_); refine ZGL (some 4) Try.func47 #[.agg #[.slice A0_0 l0_0.length c0_0, .slice A0_1 l0_1.length c0_1]] ?_; (with_reducible refine (impl_ProgOk.calls k _ _ l0_0 _ _ l0_1 true _ ?side1 ?side2 ?side3 ?side4 A2.out).mono ?_); (case side1 => exact ZQ (Kd.C_below HR0_0.out HB.out)); (case side2 => exact HC0_0.out); (case side3 => exact ZQ (Kd.C_below HR0_1.out HB.out)); (case side4 => exact HC0_1.out); rintro e w7 ⟨rfl, hb⟩; refine ⟨_, rfl, ?_⟩; replace BK469 := ZW BK469 hb; replace HB := ZT HB hb; clear hb; have hcz8 := ZC2 w7 BK469; have hfz8 := ZF2 BK469) | ((with_reducible refine gate_callee (f := 48) rfl ?_); refine ZGL (some 7) Try.func48 #[.agg #[.slice A0_0 l0_0.length c0_0, .slice A0_1 l0_1.length c0_1]] ?_; (with_reducible refine (impl_Prog_at.calls k _ _ l0_0 _ _ l0_1 t471 _ ?side1 ?side2 ?side3 ?side4 A4.out).mono ?_); (case side1 => exact ZQ (Kd.C_below HR0_0.out HB.out)); (case side2 => exact HC0_0.out); (case side3 => exact ZQ (Kd.C_below HR0_1.out HB.out)); (case side4 => exact HC0_1.out); rintro e w9 ⟨v472, rfl, ho0, hb⟩; refine ⟨_, rfl, ?_⟩; have HO473 := AM (Kd.R_lower ho0 (below_size (ZB))); replace BK469 := ZW BK469 hb; replace HB := ZT HB hb; clear hb; (try clear ho0)))
 go_ret
 exact ⟨_, ZE, by (with_reducible repeat (first | apply Kd.R_alloc | apply Kd.R_drewN | apply Kd.R_drew)); exact HO473.out, ZB⟩)
 ·(
 replace c3 := Bool.eq_false_iff.mpr c3
 subst c3
 have H1 := H; rw [if_neg ZFT] at H1
 clear H
 have H := H1
 clear H1
 obtain rfl := Option.some.inj H
 go_enter Try.func20, Try.ntmps20
 go_wp2_with (first | ((with_reducible refine gate_dst (N := 1) rfl ?_); refine ZX (N := 1) (cs := #[.slice A0_0 l0_0.length c0_0, .slice A0_1 l0_1.length c0_1]) (t := 32) ?_; intro gb469 hg w10 hbox hb; have BK469 := AM (hbox); have GW469 : Aside0 (w.heap.size ≤ gb469) := ZS hg; have GE469 : Aside0 (w.heap.size ≤ gb469) := ZS hg; replace HB := ZT HB hb; clear hb hbox hg; have hcz11 := ZC2 w10 BK469; have hfz11 := ZF2 BK469) | ((with_reducible refine gate_callee (f := 47) rfl ?_); refine ZGL (some 4) Try.func47 #[.agg #[.slice A0_0 l0_0.length c0_0, .slice A0_1 l0_1.length c0_1]] ?_; (with_reducible refine (impl_ProgOk.calls k _ _ l0_0 _ _ l0_1 false _ ?side1 ?side2 ?side3 ?side4 A2.out).mono ?_); (case side1 => exact ZQ (Kd.C_below HR0_0.out HB.out)); (case side2 => exact HC0_0.out); (case side3 => exact ZQ (Kd.C_below HR0_1.out HB.out)); (case side4 => exact HC0_1.out); rintro e w12 ⟨rfl, hb⟩; refine ⟨_, rfl, ?_⟩; replace BK469 := ZW BK469 hb; replace HB := ZT HB hb; clear hb))
 go_ret
 exact ⟨_, ZE, by first | exact Kd.R_nil _ _ _ _ _ | exact Kd.N_nil _ _ _ _ _ | exact Kd.V_nil _ _ _ _ _ | exact Kd.Q_nil _ _ _ _ _ | exact Kd.S_nil _ _ _ _ _, ZB⟩)

/-! ### laws_heldLabelS: function 23 -/
def laws_heldLabelS.l0 : Nat → List (S60) → Int → Int → Option (Int)
 | 0, _, _, _ => none
 | k + 1, x0, x1, x5 => if x5 < (x0.length : Int) then (if 0 ≤ x5 then (if ((rd_T60 x0 x5).f0) = x1 then (if ((rd_T60 x0 x5).f1) = (wrap64 (x1 + 1)) then (laws_heldLabelS.l0 k x0 (wrap64 ((wrap64 (x1 + 1)) + 1)) (wrap64 (x5 + 1))) else (some (-1))) else (some (-1))) else (none)) else (some x1)
def laws_heldLabelS.f (k : Nat) (l0 : List (S60)) (a1 : Int) : Option (Int) := laws_heldLabelS.l0 k l0 a1 0
theorem laws_heldLabelS.calls (k : Nat) (A0 : Option Addr) (c0 : Nat) (l0 : List (S60)) (a1 : Int) (r : Int) (w : World) (hr0 : Kd.C k60 w A0 l0.length l0) (hc0 : l0.length ≤ c0) (h : laws_heldLabelS.f k l0 a1 = some r) :
  Calls Try.prog 23 #[.slice A0 l0.length c0, .int .i64 a1] w fun e w' => e = .returned (.int .i64 r) ∧ Drawn0 w w' := by
 have HR0 := AM hr0
 have HC0 := AM hc0
 clear hr0 hc0
 have H := h
 unfold laws_heldLabelS.f at H
 clear h
 have H' := AM H
 clear H
 go_enter Try.func23, Try.ntmps23
 go_wp2
 go_loopg [1, 5] k (fun kq v1 v5 w' => ∃ (x1_1 : Int) (x5_1 : Int), v1 = .int .i64 x1_1 ∧ v5 = .int .i64 x5_1 ∧ Aside0 (laws_heldLabelS.l0 kq l0 x1_1 x5_1 = some r) ∧ Aside0 (kq ≤ k) ∧ Drawn0 w w')
 case atStart => exact ⟨(a1), (0), (by first | rfl | (simp; done) | (simp [*]; done)), (by first | rfl | (simp; done) | (simp [*]; done)), H', ⟨Nat.le_refl _⟩, by repeat (first | exact Drawn0.refl _ | apply Drawn0.step)⟩
 case round => (
 clear H'
 try clear c2
 try clear p2
 obtain ⟨x1_1, x5_1, rfl, rfl, HA, HK1, ⟨m1, rfl⟩⟩ := hrel
 cases gk with
 | zero => exact absurd HA.out (by simp [laws_heldLabelS.l0])
 | succ k1 =>
  have H := HA.out
  clear HA
  simp only [laws_heldLabelS.l0] at H
  by_cases c3 : x5_1 < (l0.length : Int)
  ·(
  rw [if_pos c3] at H
  have c3b0 := decide_eq_true c3
  clear c3
  by_cases c4 : 0 ≤ x5_1
  ·(
  rw [if_pos c4] at H
  have c4b0 := decide_eq_true c4
  clear c4
  by_cases c5 : ((rd_T60 l0 x5_1).f0) = x1_1
  ·(
  rw [if_pos c5] at H
  have c5b0 := beq_iff_eq.mpr c5
  have c5b1 := bne_eq_false_iff_eq.mpr c5
  clear c5
  by_cases c6 : ((rd_T60 l0 x5_1).f1) = (wrap64 (x1_1 + 1))
  ·(
  rw [if_pos c6] at H
  have c6b0 := beq_iff_eq.mpr c6
  have c6b1 := bne_eq_false_iff_eq.mpr c6
  clear c6
  have H' := AM H
  clear H
  have p474 : 0 ≤ (x5_1 : Int) := ZD
  have q474 : x5_1 < (l0.length : Int) := ZD
  obtain ⟨ad474, e474, hx474_0, hx474_1⟩ := at_T60 HR0.out x5_1 p474 q474
  cases e474
  replace p474 := eq_true p474
  replace q474 := eq_true q474
  have p475 : 0 ≤ (x5_1 : Int) := ZD
  have q475 : x5_1 < (l0.length : Int) := ZD
  obtain ⟨ad475, e475, hx475_0, hx475_1⟩ := at_T60 HR0.out x5_1 p475 q475
  obtain rfl : ad474 = ad475 := (by injection e475)
  replace p475 := eq_true p475
  replace q475 := eq_true q475
  go_wp2
  go_roundg k1
  case measure => have := HK1.out; omega
  case rel => exact ⟨(wrap64 ((wrap64 (x1_1 + 1)) + 1)), (wrap64 (x5_1 + 1)), (by first | rfl | (simp; done) | (simp [*]; done)), (by first | rfl | (simp; done) | (simp [*]; done)), H', ⟨by have := HK1.out; omega⟩, by repeat (first | exact Drawn0.refl _ | apply Drawn0.step)⟩)
  ·(
  rw [if_neg c6] at H
  have c6b0 := beq_eq_false_iff_ne.mpr c6
  have c6b1 := bne_iff_ne.mpr c6
  obtain rfl := Option.some.inj H
  have p474 : 0 ≤ (x5_1 : Int) := ZD
  have q474 : x5_1 < (l0.length : Int) := ZD
  obtain ⟨ad474, e474, hx474_0, hx474_1⟩ := at_T60 HR0.out x5_1 p474 q474
  cases e474
  replace p474 := eq_true p474
  replace q474 := eq_true q474
  have p475 : 0 ≤ (x5_1 : Int) := ZD
  have q475 : x5_1 < (l0.length : Int) := ZD
  obtain ⟨ad475, e475, hx475_0, hx475_1⟩ := at_T60 HR0.out x5_1 p475 q475
  obtain rfl : ad474 = ad475 := (by injection e475)
  replace p475 := eq_true p475
  replace q475 := eq_true q475
  go_wp2
  go_ret
  exact ⟨by first | rfl | (simp; done) | (simp [*]; done), by repeat (first | exact Drawn0.refl _ | apply Drawn0.step)⟩))
  ·(
  rw [if_neg c5] at H
  have c5b0 := beq_eq_false_iff_ne.mpr c5
  have c5b1 := bne_iff_ne.mpr c5
  obtain rfl := Option.some.inj H
  have p474 : 0 ≤ (x5_1 : Int) := ZD
  have q474 : x5_1 < (l0.length : Int) := ZD
  obtain ⟨ad474, e474, hx474_0, hx474_1⟩ := at_T60 HR0.out x5_1 p474 q474
  cases e474
  replace p474 := eq_true p474
  replace q474 := eq_true q474
  go_wp2
  go_ret
  exact ⟨by first | rfl | (simp; done) | (simp [*]; done), by repeat (first | exact Drawn0.refl _ | apply Drawn0.step)⟩))
  ·(
  rw [if_neg c4] at H
  exact absurd H (by simp)))
  ·(
  rw [if_neg c3] at H
  have c3b0 := decide_eq_false c3
  clear c3
  obtain rfl := Option.some.inj H
  go_wp2
  go_ret
  exact ⟨by first | rfl | (simp; done) | (simp [*]; done), by repeat (first | exact Drawn0.refl _ | apply Drawn0.step)⟩))

end Go.Proofs.Ytaflodibibbakaa.A
