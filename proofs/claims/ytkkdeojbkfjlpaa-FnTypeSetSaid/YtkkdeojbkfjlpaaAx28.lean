/- By wip/tools/pr.py: Go functions as Lean functions, with contracts. -/
import Derived.Test.YtkkdeojbkfjlpaaAx0
import Derived.Test.YtkkdeojbkfjlpaaAx22
import Derived.Test.YtkkdeojbkfjlpaaAx27
namespace Go.Proofs.Ytkkdeojbkfjlpaa.A
open Go.RowKit Go.Proofs.YtkkdeojbkfjlpaaW.PrintWords Go.Proofs.YtkkdeojbkfjlpaaW.PrintLast Go.Proofs.YtkkdeojbkfjlpaaW.PrintMore
attribute [local go_sem] max2_int min2_int max_two min_two max_three min_three max_four min_four
set_option linter.unusedVariables false
set_option linter.unusedSimpArgs false
set_option maxHeartbeats 8000000
set_option maxRecDepth 100000

/-! ### impl_everybody: function 55 -/
def impl_everybody.f  : Option (Int × Int) := some (7, 7)
theorem impl_everybody.calls  (r1 : Int) (r2 : Int) (w : World) (h : impl_everybody.f  = some (r1, r2)) :
  Calls Try.prog 55 #[] w fun e w' => e = .returned (.agg #[.int .i64 r1, .int .i64 r2]) ∧ Below w.heap.size w w' := by
 have hu35 := Try.underlying35
 have HB := AM (Below.refl w.heap.size w)
 have H := h
 unfold impl_everybody.f at H
 clear h
 simp only [Option.some.injEq, Prod.mk.injEq] at H
 obtain ⟨rfl, rfl⟩ := H
 go_enter Try.func55, Try.ntmps55
 go_wp2_with (first | ((with_reducible refine gate_dst (N := 0) rfl ?_); refine ZX (N := 0) (cs := #[.int .i64 0, .int .i64 0]) (t := 35) ?_; intro gb645 hg w1 hbox hb; have BK645 := AM (hbox); have GW645 : Za (w.heap.size ≤ gb645) := ZS hg; have GE645 : Za (w.heap.size ≤ gb645) := ZS hg; replace HB := ZT HB hb; clear hb hbox hg; have hcz2 := ZC2 w1 BK645; have hfz2 := ZF2 BK645))
 refine bodyPost_ret (results_cell_row rfl _ _ gb645 35 #[.int .i64 7, .int .i64 7] (0, 0) _ rfl (ZZ BK645.out) Try.underlying35 rfl (by kernel_rfl)) rfl ?_
 exact ⟨ZE, ZB⟩

/-! ### impl_Prog_at: function 31 -/
def impl_Prog_at.f (k : Nat) (l0_0 : List (S35)) (l0_1 : List (S40)) : Option ((List (S35))) := (impl_everybody.f).bind fun bt647 => ((impl_Prog_labels.f k l0_0 l0_1 l0_1 bt647.1 bt647.2 ([] : List (S35))).bind fun t649 => (some t649))
theorem impl_Prog_at.calls (k : Nat) (A0_0 : Option Addr) (c0_0 : Nat) (l0_0 : List (S35)) (A0_1 : Option Addr) (c0_1 : Nat) (l0_1 : List (S40)) (r : List (S35)) (w : World) (hr0_0 : Kd.C k35 w A0_0 l0_0.length l0_0) (hc0_0 : l0_0.length ≤ c0_0) (hr0_1 : Kd.C k40 w A0_1 l0_1.length l0_1) (hc0_1 : l0_1.length ≤ c0_1) (h : impl_Prog_at.f k l0_0 l0_1 = some r) :
  Calls Try.prog 31 #[.agg #[.slice A0_0 l0_0.length c0_0, .slice A0_1 l0_1.length c0_1]] w fun e w' => ∃ v0_ : Value, e = .returned (v0_) ∧ Kd.R k35 35 w' w.heap.size (fun _ => True) v0_ r ∧ Below w.heap.size w w' := by
 have hu26 := Try.underlying26
 have HR0_0 := AM hr0_0
 have HC0_0 := AM hc0_0
 clear hr0_0 hc0_0
 have HR0_1 := AM hr0_1
 have HC0_1 := AM hc0_1
 clear hr0_1 hc0_1
 have HB := AM (Below.refl w.heap.size w)
 have H := h
 unfold impl_Prog_at.f at H
 clear h
 obtain ⟨⟨t647, t648⟩, A2, H⟩ := ZOB H; try dsimp only at H
 obtain ⟨t649, A3, H⟩ := ZOB H; try dsimp only at H
 obtain rfl := Option.some.inj H
 go_enter Try.func31, Try.ntmps31
 try go_wp2_with (first | ((with_reducible refine gate_dst (N := 1) rfl ?_); refine ZX (N := 1) (cs := #[.slice A0_0 l0_0.length c0_0, .slice A0_1 l0_1.length c0_1]) (t := 26) ?_; intro gb646 hg w4 hbox hb; have BK646 := AM (hbox); have GW646 : Za (w.heap.size ≤ gb646) := ZS hg; have GE646 : Za (w.heap.size ≤ gb646) := ZS hg; replace HB := ZT HB hb; clear hb hbox hg))
 replace BK646 := AM (blk_drew BK646.out)
 replace HB := AM (below_drew1 HB.out)
 refine start_ (n := 6) (S := fun w' => w'.cell? ⟨gb646, 0, none⟩ = some (.slice A0_0 l0_0.length c0_0) ∧ w'.cell? ⟨gb646, 1, none⟩ = some (.slice A0_1 l0_1.length c0_1)) (ds := []) #[F,F,F,F,F,F] (by kernel_rfl) rfl rfl ⟨ZA BK646 0, ZA BK646 1⟩ (fun hHeld => ?_)
 generalize w4.drew = w5 at BK646 HB hHeld ⊢
 refine pure_ (i := 1) (N := some 4) (v := ?_) (a' := ?_) #[F,T,F,F,F,F] rfl rfl (by kernel_rfl) (fun _ _ _ h => h) (Or.inl ⟨by rfl, ?_⟩) ?_ ?_
 rotate_left
 ·(
 intro w'
 go_simp
 with_reducible rfl)
 rotate_left
 ·(
 simp only [Act.put, List.setIfInBounds_toArray, List.set_cons_zero, List.set_cons_succ, i64_w, i32_w]
 rfl)
 refine take_ (i := 0) (N := some 3) (v := ?_) (a' := ?_) #[T,T,F,F,F,F] rfl rfl (by kernel_rfl) (fun _ _ _ h => h) (Or.inl ⟨by rfl, ?_⟩) hHeld ?_ ?_
 rotate_left
 ·(
 rintro w' ⟨s0, s1⟩
 go_simp
 with_reducible rfl)
 rotate_left
 ·(
 simp only [Act.put, List.setIfInBounds_toArray, List.set_cons_zero, List.set_cons_succ, i64_w, i32_w]
 rfl)
 refine take_ (i := 2) (N := some 5) (v := ?_) (a' := ?_) #[T,T,T,F,F,F] rfl rfl (by kernel_rfl) (fun _ _ _ h => h) (Or.inl ⟨by rfl, ?_⟩) hHeld ?_ ?_
 rotate_left
 ·(
 rintro w' ⟨s0, s1⟩
 go_simp
 with_reducible rfl)
 rotate_left
 ·(
 simp only [Act.put, List.setIfInBounds_toArray, List.set_cons_zero, List.set_cons_succ, i64_w, i32_w]
 rfl)
 refine one_ (i := 3) (N := some 6) #[T,T,T,T,F,F] rfl rfl (by kernel_rfl) (by decide) (fun K hK => ?_)
 refine ZGO Try.func55 #[] ?_
 with_reducible refine (impl_everybody.calls  t647 t648 _ A2.out).mono ?_
 rintro e w6 ⟨rfl, hb⟩
 refine ⟨_, rfl, ?_⟩
 replace BK646 := ZW BK646 hb
 replace HB := ZT HB hb
 (try clear hb)
 (try clear hb2)
 (try clear hk)
 (try clear hi)
 refine hK.out _ _ ⟨ZA BK646 0, ZA BK646 1⟩ (fun hHeld => ?_)
 clear hK K
 refine ZNO 6 ?_
 refine one_ (i := 4) (N := some 7) #[T,T,T,T,T,F] rfl rfl (by kernel_rfl) (by decide) (fun K hK => ?_)
 refine ZGO Try.func54 #[.agg #[.slice A0_0 l0_0.length c0_0, .slice A0_1 l0_1.length c0_1], .slice A0_1 l0_1.length c0_1, .agg #[.int .i64 t647, .int .i64 t648], .slice none 0 0] ?_
 refine (impl_Prog_labels.calls k _ _ l0_0 _ _ l0_1 _ _ l0_1 t647 t648 (fun k_ => some k_ = (.slice none 0 0 : Value).ownBlock) (.slice none 0 0) ([] : List (S35)) t649 w _ ?side1 ?side2 ?side3 ?side4 ?side5 ?side6 ?side7 ?side8 A3.out).mono ?_
 (case side1 => repeat (first | (with_reducible first | exact HB.out | apply below_alloc | apply pw_below_drewN | apply below_drew1 | refine below_set ?_ GE646.out) | exact HB.out))
 (case side2 => exact Kd.C_kept_came k35_heap HR0_0.out (ZB) (fun k_ hs_ => (fun e_ => by simp [Value.ownBlock] at e_) hs_))
 (case side3 => exact HC0_0.out)
 (case side4 => exact Kd.C_kept_came k40_heap HR0_1.out (ZB) (fun k_ hs_ => (fun e_ => by simp [Value.ownBlock] at e_) hs_))
 (case side5 => exact HC0_1.out)
 (case side6 => exact Kd.C_kept_came k40_heap HR0_1.out (ZB) (fun k_ hs_ => (fun e_ => by simp [Value.ownBlock] at e_) hs_))
 (case side7 => exact HC0_1.out)
 (case side8 => exact Kd.R_nil _ _ _ _ _)
 rintro e w7 ⟨v650, rfl, ho0, hb, hkp⟩
 refine ⟨_, rfl, ?_⟩
 have HO651 := AM (Kd.R_mono (ok' := fun k_ => True) ho0 (fun k_ hk_ => trivial))
 replace BK646 := AM (blk_kept (ZK BK646.out) hkp (fun hs_ => (fun e_ => by simp [Value.ownBlock] at e_) hs_))
 replace HB := AM (hb)
 (try clear hb)
 (try clear hkp)
 (try clear ho0)
 refine hK.out _ _ ⟨ZA BK646 0, ZA BK646 1⟩ (fun hHeld => ?_)
 clear hK K
 refine ZNO 7 ?_
 refine pure_ (i := 5) (N := some 2) (v := ?_) (a' := ?_) #[T,T,T,T,T,T] rfl rfl (by kernel_rfl) (fun _ _ _ h => h) (Or.inl ⟨by rfl, ?_⟩) ?_ ?_
 rotate_left
 ·(
 intro w'
 go_simp
 with_reducible rfl)
 rotate_left
 ·(
 simp only [Act.put, List.setIfInBounds_toArray, List.set_cons_zero, List.set_cons_succ, i64_w, i32_w]
 rfl)
 refine done_ (by kernel_rfl) ?_
 try go_wp2
 go_ret
 exact ⟨_, ZE, by (with_reducible repeat (first | apply Kd.R_alloc | apply Kd.R_drewN | apply Kd.R_drew)); exact HO651.out, ZB⟩

/-! ### impl_TypeAt: function 12 -/
def impl_TypeAt.f (k : Nat) (l0_0 : List (S35)) (l0_1 : List (S40)) : Option ((List (S35))) := (impl_ProgOk.f k l0_0 l0_1).bind fun t653 => (if t653 = true then ((impl_Prog_at.f k l0_0 l0_1).bind fun t654 => (some t654)) else (some ([] : List (S35))))
theorem impl_TypeAt.calls (k : Nat) (A0_0 : Option Addr) (c0_0 : Nat) (l0_0 : List (S35)) (A0_1 : Option Addr) (c0_1 : Nat) (l0_1 : List (S40)) (r : List (S35)) (w : World) (hr0_0 : Kd.C k35 w A0_0 l0_0.length l0_0) (hc0_0 : l0_0.length ≤ c0_0) (hr0_1 : Kd.C k40 w A0_1 l0_1.length l0_1) (hc0_1 : l0_1.length ≤ c0_1) (h : impl_TypeAt.f k l0_0 l0_1 = some r) :
  Calls Try.prog 12 #[.agg #[.slice A0_0 l0_0.length c0_0, .slice A0_1 l0_1.length c0_1]] w fun e w' => ∃ v0_ : Value, e = .returned (v0_) ∧ Kd.R k35 35 w' w.heap.size (fun _ => True) v0_ r ∧ Below w.heap.size w w' := by
 have hu26 := Try.underlying26
 have HR0_0 := AM hr0_0
 have HC0_0 := AM hc0_0
 clear hr0_0 hc0_0
 have HR0_1 := AM hr0_1
 have HC0_1 := AM hc0_1
 clear hr0_1 hc0_1
 have HB := AM (Below.refl w.heap.size w)
 have H := h
 unfold impl_TypeAt.f at H
 clear h
 obtain ⟨t653, A2, H⟩ := ZOB H; try dsimp only at H
 by_cases c3 : t653 = true
 ·(
 subst c3
 have H1 := H; rw [if_pos rfl] at H1
 clear H
 have H := H1
 clear H1
 obtain ⟨t654, A4, H⟩ := ZOB H; try dsimp only at H
 obtain rfl := Option.some.inj H
 go_enter Try.func12, Try.ntmps12
 go_wp2_with (first | ((with_reducible refine gate_dst (N := 1) rfl ?_); refine ZX (N := 1) (cs := #[.slice A0_0 l0_0.length c0_0, .slice A0_1 l0_1.length c0_1]) (t := 26) ?_; intro gb652 hg w5 hbox hb; have BK652 := AM (hbox); have GW652 : Za (w.heap.size ≤ gb652) := ZS hg; have GE652 : Za (w.heap.size ≤ gb652) := ZS hg; replace HB := ZT HB hb; clear hb hbox hg; have hcz6 := ZC2 w5 BK652; have hfz6 := ZF2 BK652) | ((with_reducible refine gate_callee (f := 25) rfl ?_); refine ZGL (some 4) Try.func25 #[.agg #[.slice A0_0 l0_0.length c0_0, .slice A0_1 l0_1.length c0_1]] ?_; (with_reducible refine (impl_ProgOk.calls k _ _ l0_0 _ _ l0_1 true _ (ZQ (Kd.C_below HR0_0.out HB.out)) HC0_0.out (ZQ (Kd.C_below HR0_1.out HB.out)) HC0_1.out A2.out).mono ?_); rintro e w7 ⟨rfl, hb⟩; refine ⟨_, rfl, ?_⟩; replace BK652 := ZW BK652 hb; replace HB := ZT HB hb; clear hb; have hcz8 := ZC2 w7 BK652; have hfz8 := ZF2 BK652) | ((with_reducible refine gate_callee (f := 31) rfl ?_); refine ZGL (some 7) Try.func31 #[.agg #[.slice A0_0 l0_0.length c0_0, .slice A0_1 l0_1.length c0_1]] ?_; (with_reducible refine (impl_Prog_at.calls k _ _ l0_0 _ _ l0_1 t654 _ (ZQ (Kd.C_below HR0_0.out HB.out)) HC0_0.out (ZQ (Kd.C_below HR0_1.out HB.out)) HC0_1.out A4.out).mono ?_); rintro e w9 ⟨v655, rfl, ho0, hb⟩; refine ⟨_, rfl, ?_⟩; have HO656 := AM (Kd.R_lower ho0 (below_size (ZB))); replace BK652 := ZW BK652 hb; replace HB := ZT HB hb; clear hb; (try clear ho0)))
 go_ret
 exact ⟨_, ZE, by (with_reducible repeat (first | apply Kd.R_alloc | apply Kd.R_drewN | apply Kd.R_drew)); exact HO656.out, ZB⟩)
 ·(
 replace c3 := Bool.eq_false_iff.mpr c3
 subst c3
 have H1 := H; rw [if_neg ZFT] at H1
 clear H
 have H := H1
 clear H1
 obtain rfl := Option.some.inj H
 go_enter Try.func12, Try.ntmps12
 go_wp2_with (first | ((with_reducible refine gate_dst (N := 1) rfl ?_); refine ZX (N := 1) (cs := #[.slice A0_0 l0_0.length c0_0, .slice A0_1 l0_1.length c0_1]) (t := 26) ?_; intro gb652 hg w10 hbox hb; have BK652 := AM (hbox); have GW652 : Za (w.heap.size ≤ gb652) := ZS hg; have GE652 : Za (w.heap.size ≤ gb652) := ZS hg; replace HB := ZT HB hb; clear hb hbox hg; have hcz11 := ZC2 w10 BK652; have hfz11 := ZF2 BK652) | ((with_reducible refine gate_callee (f := 25) rfl ?_); refine ZGL (some 4) Try.func25 #[.agg #[.slice A0_0 l0_0.length c0_0, .slice A0_1 l0_1.length c0_1]] ?_; (with_reducible refine (impl_ProgOk.calls k _ _ l0_0 _ _ l0_1 false _ (ZQ (Kd.C_below HR0_0.out HB.out)) HC0_0.out (ZQ (Kd.C_below HR0_1.out HB.out)) HC0_1.out A2.out).mono ?_); rintro e w12 ⟨rfl, hb⟩; refine ⟨_, rfl, ?_⟩; replace BK652 := ZW BK652 hb; replace HB := ZT HB hb; clear hb))
 go_ret
 exact ⟨_, ZE, by first | exact Kd.R_nil _ _ _ _ _ | exact Kd.N_nil _ _ _ _ _ | exact Kd.V_nil _ _ _ _ _ | exact Kd.Q_nil _ _ _ _ _ | exact Kd.S_nil _ _ _ _ _, ZB⟩)

/-! ### laws_lcHas: function 13 -/
def laws_lcHas.f (a0 : Int) (a1 : Int) : Option (Bool) := if 0 ≤ a1 then (some ((Int.tmod (shr .i64 a0 a1) 2) == 1)) else (none)
theorem laws_lcHas.calls (a0 : Int) (a1 : Int) (r : Bool) (w : World) (h : laws_lcHas.f a0 a1 = some r) :
  Calls Try.prog 13 #[.int .i64 a0, .int .i64 a1] w fun e w' => e = .returned (.bool r) ∧ Drawn0 w w' := by
 have H := h
 unfold laws_lcHas.f at H
 clear h
 by_cases c3 : 0 ≤ a1
 ·(
 rw [if_pos c3] at H
 have c3b0 := eq_true c3
 have c3b1 := decide_eq_true c3
 clear c3
 obtain ⟨ji4, hji4⟩ : ∃ j_ : Int, (shr .i64 a0 a1) = j_ := ⟨_, rfl⟩
 replace H : (some ((Int.tmod (ji4) 2) == 1)) = some r := by first | (rw [hji4] at H; exact H) | (simp only [hji4] at H ⊢; exact H)
 have hji4_ : (a0 / 2 ^ min a1.toNat 64) = ji4 := hji4
 have hji4z : a1 ≤ 64 → (a0 / 2 ^ a1.toNat) = ji4 := shr_small hji4
 obtain rfl := Option.some.inj H
 go_enter Try.func13, Try.ntmps13
 go_wp2
 go_ret
 exact ⟨by first | rfl | (simp; done) | (simp only [← hji4] <;> (first | rfl | simp)) | (simp [*]; done), by repeat (first | exact Drawn0.refl _ | apply Drawn0.step)⟩)
 ·(
 rw [if_neg c3] at H
 exact absurd H (by simp))

end Go.Proofs.Ytkkdeojbkfjlpaa.A
