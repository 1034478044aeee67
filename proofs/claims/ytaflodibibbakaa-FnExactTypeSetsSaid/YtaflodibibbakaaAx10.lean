/- Go functions as Lean functions, and for each its contract; written by wip/tools/pr.py over the kit's print. -/
import Derived.Test.YtaflodibibbakaaAx0
import Derived.Test.YtaflodibibbakaaAx7
import Derived.Test.YtaflodibibbakaaAx9
namespace Go.Proofs.Ytaflodibibbakaa.A
open Go.RowKit Go.Proofs.YtaflodibibbakaaW.PrintWords Go.Proofs.YtaflodibibbakaaW.PrintLast Go.Proofs.YtaflodibibbakaaW.PrintMore
attribute [local go_sem] max2_int min2_int max_two min_two max_three min_three max_four min_four
set_option linter.unusedVariables false
set_option linter.unusedSimpArgs false
set_option maxHeartbeats 8000000
set_option maxRecDepth 100000

/-! ### impl_ProgOk: function 47 -/
def impl_ProgOk.f (k : Nat) (l0_0 : List (S60)) (l0_1 : List (S50)) : Option (Bool) := if (l0_0.length : Int) ≤ 4 then ((impl_Label_70.f k l0_0).bind fun t236 => (if t236 = true then (some false) else ((impl_Prog_stepsOk.f k l0_0 l0_1 l0_1 3).bind fun t237 => (if t237 = true then ((impl_size.f k l0_1).bind fun t238 => (some (decide (t238 ≤ 8)))) else (some false))))) else (some false)
theorem impl_ProgOk.calls (k : Nat) (A0_0 : Option Addr) (c0_0 : Nat) (l0_0 : List (S60)) (A0_1 : Option Addr) (c0_1 : Nat) (l0_1 : List (S50)) (r : Bool) (w : World) (hr0_0 : Kd.C k60 w A0_0 l0_0.length l0_0) (hc0_0 : l0_0.length ≤ c0_0) (hr0_1 : Kd.C k50 w A0_1 l0_1.length l0_1) (hc0_1 : l0_1.length ≤ c0_1) (h : impl_ProgOk.f k l0_0 l0_1 = some r) :
  Calls Try.prog 47 #[.agg #[.slice A0_0 l0_0.length c0_0, .slice A0_1 l0_1.length c0_1]] w fun e w' => e = .returned (.bool r) ∧ Below w.heap.size w w' := by
 have hu32 := Try.underlying32
 have HR0_0 := AM hr0_0
 have HC0_0 := AM hc0_0
 clear hr0_0 hc0_0
 have HR0_1 := AM hr0_1
 have HC0_1 := AM hc0_1
 clear hr0_1 hc0_1
 have HB := AM (Below.refl w.heap.size w)
 have H := h
 unfold impl_ProgOk.f at H
 clear h
 by_cases c2 : (l0_0.length : Int) ≤ 4
 ·(
 rw [if_pos c2] at H
 have c2b0 := decide_eq_true c2
 have c2b1 : decide (l0_0.length ≤ 4) = true := decide_eq_true (by omega)
 clear c2
 obtain ⟨t236, A3, H⟩ := ZOB H; try dsimp only at H
 by_cases c4 : t236 = true
 ·(
 subst c4
 have H1 := H; rw [if_pos rfl] at H1
 clear H
 have H := H1
 clear H1
 obtain rfl := Option.some.inj H
 go_enter Try.func47, Try.ntmps47
 go_wp2_with (first | ((with_reducible refine gate_dst (N := 1) rfl ?_); refine ZX (N := 1) (cs := #[.slice A0_0 l0_0.length c0_0, .slice A0_1 l0_1.length c0_1]) (t := 32) ?_; intro gb235 hg w5 hbox hb; have BK235 := AM (hbox); have GW235 : Aside0 (w.heap.size ≤ gb235) := ZS hg; have GE235 : Aside0 (w.heap.size ≤ gb235) := ZS hg; replace HB := ZT HB hb; clear hb hbox hg; have hcz6 := ZC2 w5 BK235; have hfz6 := ZF2 BK235) | (go_at_call 70; (with_reducible refine (impl_Label_70.calls k _ _ l0_0  true _ ?side1 ?side2 A3.out).mono ?_); (case side1 => exact ZQ (Kd.C_below HR0_0.out HB.out)); (case side2 => exact HC0_0.out); rintro e w7 ⟨rfl, hb⟩; replace BK235 := ZW BK235 hb; replace HB := ZT HB hb; clear hb))
 go_ret
 exact ⟨ZE, ZB⟩)
 ·(
 replace c4 := Bool.eq_false_iff.mpr c4
 subst c4
 have H1 := H; rw [if_neg ZFT] at H1
 clear H
 have H := H1
 clear H1
 obtain ⟨t237, A8, H⟩ := ZOB H; try dsimp only at H
 by_cases c9 : t237 = true
 ·(
 subst c9
 have H1 := H; rw [if_pos rfl] at H1
 clear H
 have H := H1
 clear H1
 obtain ⟨t238, A10, H⟩ := ZOB H; try dsimp only at H
 obtain rfl := Option.some.inj H
 go_enter Try.func47, Try.ntmps47
 go_wp2_with (first | ((with_reducible refine gate_dst (N := 1) rfl ?_); refine ZX (N := 1) (cs := #[.slice A0_0 l0_0.length c0_0, .slice A0_1 l0_1.length c0_1]) (t := 32) ?_; intro gb235 hg w11 hbox hb; have BK235 := AM (hbox); have GW235 : Aside0 (w.heap.size ≤ gb235) := ZS hg; have GE235 : Aside0 (w.heap.size ≤ gb235) := ZS hg; replace HB := ZT HB hb; clear hb hbox hg; have hcz12 := ZC2 w11 BK235; have hfz12 := ZF2 BK235) | (go_at_call 70; (with_reducible refine (impl_Label_70.calls k _ _ l0_0  false _ ?side1 ?side2 A3.out).mono ?_); (case side1 => exact ZQ (Kd.C_below HR0_0.out HB.out)); (case side2 => exact HC0_0.out); rintro e w13 ⟨rfl, hb⟩; replace BK235 := ZW BK235 hb; replace HB := ZT HB hb; clear hb; have hcz14 := ZC2 w13 BK235; have hfz14 := ZF2 BK235) | (go_at_call 73; (with_reducible refine (impl_Prog_stepsOk.calls k _ _ l0_0 _ _ l0_1 _ _ l0_1 3 true _ ?side1 ?side2 ?side3 ?side4 ?side5 ?side6 A8.out).mono ?_); (case side1 => exact ZQ (Kd.C_below HR0_0.out HB.out)); (case side2 => exact HC0_0.out); (case side3 => exact ZQ (Kd.C_below HR0_1.out HB.out)); (case side4 => exact HC0_1.out); (case side5 => exact ZQ (Kd.C_below HR0_1.out HB.out)); (case side6 => exact HC0_1.out); rintro e w15 ⟨rfl, hb⟩; replace BK235 := ZW BK235 hb; replace HB := ZT HB hb; clear hb; have hcz16 := ZC2 w15 BK235; have hfz16 := ZF2 BK235) | (go_at_call 58; (with_reducible refine (impl_size.calls k _ _ l0_1 t238 _ ?side1 ?side2 A10.out).mono ?_); (case side1 => exact ZQ (Kd.C_below HR0_1.out HB.out)); (case side2 => exact HC0_1.out); rintro e w17 ⟨rfl, hb⟩; replace BK235 := ZW BK235 hb; replace HB := ZT HB hb; clear hb))
 go_ret
 exact ⟨ZE, ZB⟩)
 ·(
 replace c9 := Bool.eq_false_iff.mpr c9
 subst c9
 have H1 := H; rw [if_neg ZFT] at H1
 clear H
 have H := H1
 clear H1
 obtain rfl := Option.some.inj H
 go_enter Try.func47, Try.ntmps47
 go_wp2_with (first | ((with_reducible refine gate_dst (N := 1) rfl ?_); refine ZX (N := 1) (cs := #[.slice A0_0 l0_0.length c0_0, .slice A0_1 l0_1.length c0_1]) (t := 32) ?_; intro gb235 hg w18 hbox hb; have BK235 := AM (hbox); have GW235 : Aside0 (w.heap.size ≤ gb235) := ZS hg; have GE235 : Aside0 (w.heap.size ≤ gb235) := ZS hg; replace HB := ZT HB hb; clear hb hbox hg; have hcz19 := ZC2 w18 BK235; have hfz19 := ZF2 BK235) | (go_at_call 70; (with_reducible refine (impl_Label_70.calls k _ _ l0_0  false _ ?side1 ?side2 A3.out).mono ?_); (case side1 => exact ZQ (Kd.C_below HR0_0.out HB.out)); (case side2 => exact HC0_0.out); rintro e w20 ⟨rfl, hb⟩; replace BK235 := ZW BK235 hb; replace HB := ZT HB hb; clear hb; have hcz21 := ZC2 w20 BK235; have hfz21 := ZF2 BK235) | (go_at_call 73; (with_reducible refine (impl_Prog_stepsOk.calls k _ _ l0_0 _ _ l0_1 _ _ l0_1 3 false _ ?side1 ?side2 ?side3 ?side4 ?side5 ?side6 A8.out).mono ?_); (case side1 => exact ZQ (Kd.C_below HR0_0.out HB.out)); (case side2 => exact HC0_0.out); (case side3 => exact ZQ (Kd.C_below HR0_1.out HB.out)); (case side4 => exact HC0_1.out); (case side5 => exact ZQ (Kd.C_below HR0_1.out HB.out)); (case side6 => exact HC0_1.out); rintro e w22 ⟨rfl, hb⟩; replace BK235 := ZW BK235 hb; replace HB := ZT HB hb; clear hb))
 go_ret
 exact ⟨ZE, ZB⟩)))
 ·(
 rw [if_neg c2] at H
 have c2b0 := decide_eq_false c2
 have c2b1 : decide (l0_0.length ≤ 4) = false := decide_eq_false (by omega)
 clear c2
 obtain rfl := Option.some.inj H
 go_enter Try.func47, Try.ntmps47
 go_wp2_with (first | ((with_reducible refine gate_dst (N := 1) rfl ?_); refine ZX (N := 1) (cs := #[.slice A0_0 l0_0.length c0_0, .slice A0_1 l0_1.length c0_1]) (t := 32) ?_; intro gb235 hg w23 hbox hb; have BK235 := AM (hbox); have GW235 : Aside0 (w.heap.size ≤ gb235) := ZS hg; have GE235 : Aside0 (w.heap.size ≤ gb235) := ZS hg; replace HB := ZT HB hb; clear hb hbox hg; have hcz24 := ZC2 w23 BK235; have hfz24 := ZF2 BK235))
 go_ret
 exact ⟨ZE, ZB⟩)

/-! ### impl_has: function 67 -/
def impl_has.f (a0 : Int) (a1 : Int) : Option (Bool) := (impl_isHost.f a1).bind fun t239 => (if t239 = true then (if 0 ≤ a1 then (some ((Go.bits .and .i64 (shr .i64 a0 a1) 1) == 1)) else (none)) else (some false))
theorem impl_has.calls (a0 : Int) (a1 : Int) (r : Bool) (w : World) (h : impl_has.f a0 a1 = some r) :
  Calls Try.prog 67 #[.int .i64 a0, .int .i64 a1] w fun e w' => e = .returned (.bool r) ∧ Drawn0 w w' := by
 have H := h
 unfold impl_has.f at H
 clear h
 obtain ⟨t239, A3, H⟩ := ZOB H; try dsimp only at H
 by_cases c4 : t239 = true
 ·(
 subst c4
 have H1 := H; rw [if_pos rfl] at H1
 clear H
 have H := H1
 clear H1
 by_cases c5 : 0 ≤ a1
 ·(
 rw [if_pos c5] at H
 have c5b0 := eq_true c5
 have c5b1 := decide_eq_true c5
 clear c5
 obtain ⟨ji6, hji6⟩ : ∃ j_ : Int, (shr .i64 a0 a1) = j_ := ⟨_, rfl⟩
 replace H : (some ((Go.bits .and .i64 (ji6) 1) == 1)) = some r := by first | (rw [hji6] at H; exact H) | (simp only [hji6] at H ⊢; exact H)
 (try rw [hji6] at A3)
 have hji6_ : (a0 / 2 ^ min a1.toNat 64) = ji6 := hji6
 have hji6z : a1 ≤ 64 → (a0 / 2 ^ a1.toNat) = ji6 := shr_small hji6
 obtain rfl := Option.some.inj H
 go_enter Try.func67, Try.ntmps67
 go_wp2_with (first | ((with_reducible refine gate_callee (f := 80) rfl ?_); refine ZGL (some 6) Try.func80 #[.int .i64 a1] ?_; (with_reducible refine (impl_isHost.calls a1 true _ A3.out).mono ?_); rintro e w' ⟨rfl, ⟨nd, rfl⟩⟩; refine ⟨_, rfl, ?_⟩))
 go_ret
 exact ⟨by first | rfl | (simp; done) | (simp only [← hji6] <;> (first | rfl | simp)) | (simp [*]; done), by repeat (first | exact Drawn0.refl _ | apply Drawn0.step)⟩)
 ·(
 rw [if_neg c5] at H
 exact absurd H (by simp)))
 ·(
 replace c4 := Bool.eq_false_iff.mpr c4
 subst c4
 have H1 := H; rw [if_neg ZFT] at H1
 clear H
 have H := H1
 clear H1
 obtain rfl := Option.some.inj H
 go_enter Try.func67, Try.ntmps67
 go_wp2_with (first | ((with_reducible refine gate_callee (f := 80) rfl ?_); refine ZGL (some 6) Try.func80 #[.int .i64 a1] ?_; (with_reducible refine (impl_isHost.calls a1 false _ A3.out).mono ?_); rintro e w' ⟨rfl, ⟨nd, rfl⟩⟩; refine ⟨_, rfl, ?_⟩))
 go_ret
 exact ⟨by first | rfl | (simp; done) | (simp [*]; done), by repeat (first | exact Drawn0.refl _ | apply Drawn0.step)⟩)

/-! ### impl_TypeKnows_1: function 41 -/
def impl_TypeKnows_1.f (a0_0 : Int) (a0_1 : Int) : Option (Int) := some a0_0
theorem impl_TypeKnows_1.calls (a0_0 : Int) (a0_1 : Int) (r : Int) (w : World) (h : impl_TypeKnows_1.f a0_0 a0_1 = some r) :
  Calls Try.prog 41 #[.agg #[.int .i64 a0_0, .int .i64 a0_1]] w fun e w' => e = .returned (.int .i64 r) ∧ Below w.heap.size w w' := by
 have hu60 := Try.underlying60
 have HB := AM (Below.refl w.heap.size w)
 have H := h
 unfold impl_TypeKnows_1.f at H
 clear h
 obtain rfl := Option.some.inj H
 go_enter Try.func41, Try.ntmps41
 go_wp2_with (first | ((with_reducible refine gate_dst (N := 1) rfl ?_); refine ZX (N := 1) (cs := #[.int .i64 a0_0, .int .i64 a0_1]) (t := 60) ?_; intro gb240 hg w2 hbox hb; have BK240 := AM (hbox); have GW240 : Aside0 (w.heap.size ≤ gb240) := ZS hg; have GE240 : Aside0 (w.heap.size ≤ gb240) := ZS hg; replace HB := ZT HB hb; clear hb hbox hg; have hcz3 := ZC2 w2 BK240; have hfz3 := ZF2 BK240))
 go_ret
 exact ⟨ZE, ZB⟩

/-! ### impl_Prog_each_41: function 40 -/
def impl_Prog_each_41.l0 : Nat → Int → List Bool → List (S60) → Int → Int → Option (List Bool)
 | 0, _, _, _, _, _ => none
 | k + 1, x1, x7, x14, x15, x16 => if x16 < x15 then (if 0 ≤ x16 then (if x16 < (x14.length : Int) then ((impl_TypeKnows_1.f ((rd_T60 x14 x16).f0) ((rd_T60 x14 x16).f1)).bind fun t245 => ((impl_has.f t245 x1).bind fun t246 => (if x7.length < 140737488355328 then (impl_Prog_each_41.l0 k x1 (x7 ++ [t246]) x14 x15 (wrap64 (x16 + 1))) else (none)))) else (none)) else (none)) else (some x7)
def impl_Prog_each_41.f (k : Nat) (l0_0 : List (S60)) (l0_1 : List (S50)) (a1 : Int)  : Option (List Bool) := (impl_ProgOk.f k l0_0 l0_1).bind fun t242 => (if t242 = true then (impl_Prog_each_41.l0 k a1 ([] : List Bool) l0_0 (l0_0.length : Int) 0) else (some ([] : List Bool)))
theorem impl_Prog_each_41.calls (k : Nat) (A0_0 : Option Addr) (c0_0 : Nat) (l0_0 : List (S60)) (A0_1 : Option Addr) (c0_1 : Nat) (l0_1 : List (S50)) (a1 : Int)  (r : List Bool) (w : World) (hr0_0 : Kd.C k60 w A0_0 l0_0.length l0_0) (hc0_0 : l0_0.length ≤ c0_0) (hr0_1 : Kd.C k50 w A0_1 l0_1.length l0_1) (hc0_1 : l0_1.length ≤ c0_1) (h : impl_Prog_each_41.f k l0_0 l0_1 a1 = some r) :
  Calls Try.prog 40 #[.agg #[.slice A0_0 l0_0.length c0_0, .slice A0_1 l0_1.length c0_1], .int .i64 a1, .func (.func 41) #[] #[]] w fun e w' => ∃ v0_ : Value, e = .returned (v0_) ∧ Kd.R Kd.bool 4 w' w.heap.size (fun _ => True) v0_ r ∧ Below w.heap.size w w' := by
 have hu32 := Try.underlying32
 have hu60 := Try.underlying60
 have HR0_0 := AM hr0_0
 have HC0_0 := AM hc0_0
 clear hr0_0 hc0_0
 have HR0_1 := AM hr0_1
 have HC0_1 := AM hc0_1
 clear hr0_1 hc0_1
 have HB := AM (Below.refl w.heap.size w)
 have H := h
 unfold impl_Prog_each_41.f at H
 clear h
 obtain ⟨t242, A4, H⟩ := ZOB H; try dsimp only at H
 by_cases c5 : t242 = true
 ·(
 subst c5
 have H1 := H; rw [if_pos rfl] at H1
 clear H
 have H := H1
 clear H1
 have H' := AM H
 clear H
 go_enter Try.func40, Try.ntmps40
 go_wp2_with (first | ((with_reducible refine gate_dst (N := 3) rfl ?_); refine ZX (N := 3) (cs := #[.slice A0_0 l0_0.length c0_0, .slice A0_1 l0_1.length c0_1]) (t := 32) ?_; intro gb241 hg w6 hbox hb; have BK241 := AM (hbox); have GW241 : Aside0 (w.heap.size ≤ gb241) := ZS hg; have GE241 : Aside0 (w.heap.size ≤ gb241) := ZS hg; replace HB := ZT HB hb; clear hb hbox hg; have hcz7 := ZC2 w6 BK241; have hfz7 := ZF2 BK241) | ((with_reducible refine gate_callee (f := 47) rfl ?_); refine ZGL (some 11) Try.func47 #[.agg #[.slice A0_0 l0_0.length c0_0, .slice A0_1 l0_1.length c0_1]] ?_; (with_reducible refine (impl_ProgOk.calls k _ _ l0_0 _ _ l0_1 true _ ?side1 ?side2 ?side3 ?side4 A4.out).mono ?_); (case side1 => exact ZQ (Kd.C_below HR0_0.out HB.out)); (case side2 => exact HC0_0.out); (case side3 => exact ZQ (Kd.C_below HR0_1.out HB.out)); (case side4 => exact HC0_1.out); rintro e w8 ⟨rfl, hb⟩; refine ⟨_, rfl, ?_⟩; replace BK241 := ZW BK241 hb; replace HB := ZT HB hb; clear hb; have hcz9 := ZC2 w8 BK241; have hfz9 := ZF2 BK241))
 go_loopg [7, 16] k (fun kq v7 v16 w' => ∃ (x7_1 : List Bool) (x16_1 : Int), v16 = .int .i64 x16_1 ∧ Aside0 (impl_Prog_each_41.l0 kq a1 x7_1 l0_0 (l0_0.length : Int) x16_1 = some r) ∧ Aside0 (kq ≤ k) ∧ Aside0 (Kd.R Kd.bool 4 w' w.heap.size (fun _ => True) v7 x7_1) ∧ Aside0 (w'.heap[gb241]? = some (.cells #[(.slice A0_0 l0_0.length c0_0), (.slice A0_1 l0_1.length c0_1)] 32 (0, 0))) ∧ Aside0 (Below w.heap.size w w'))
 case atStart => exact ⟨(([] : List Bool)), (0), (by first | rfl | (simp; done) | (simp [*]; done)), H', ⟨Nat.le_refl _⟩, ⟨by first | exact Kd.R_nil _ _ _ _ _ | exact Kd.N_nil _ _ _ _ _ | exact Kd.V_nil _ _ _ _ _ | exact Kd.Q_nil _ _ _ _ _ | exact Kd.S_nil _ _ _ _ _⟩, ⟨ZK BK241.out⟩, ⟨ZB⟩⟩
 case round => (
 clear H'
 try clear p2
 try clear c4
 try clear c5
 try clear hcz7
 try clear hcz9
 try clear hfz7
 try clear hfz9
 obtain ⟨x7_1, x16_1, rfl, HA, HK1, HO_7, BK241, HB⟩ := hrel
 cases gk with
 | zero => exact absurd HA.out (by simp [impl_Prog_each_41.l0])
 | succ k1 =>
  have H := HA.out
  clear HA
  simp only [impl_Prog_each_41.l0] at H
  by_cases c10 : x16_1 < (l0_0.length : Int)
  ·(
  rw [if_pos c10] at H
  have c10b0 := decide_eq_true c10
  clear c10
  by_cases c11 : 0 ≤ x16_1
  ·(
  rw [if_pos c11] at H
  have c11b0 := decide_eq_true c11
  clear c11
  by_cases c12 : x16_1 < (l0_0.length : Int)
  ·(
  rw [if_pos c12] at H
  have c12b0 := decide_eq_true c12
  clear c12
  obtain ⟨t245, A13, H⟩ := ZOB H; try dsimp only at H
  obtain ⟨t246, A14, H⟩ := ZOB H; try dsimp only at H
  by_cases c15 : x7_1.length < 140737488355328
  ·(
  rw [if_pos c15] at H
  have LMc15 := AM c15
  clear c15
  obtain ⟨y247, hy247⟩ : ∃ y_ : List Bool, y_ = (x7_1 ++ [t246]) := ⟨_, rfl⟩
  replace H : (impl_Prog_each_41.l0 k1 a1 y247 l0_0 (l0_0.length : Int) (wrap64 (x16_1 + 1))) = some r := by first | (rw [hy247]; with_reducible exact H) | (have H2_ := (Option.bind_some _ _).symm.trans H; rw [hy247]; with_reducible exact H2_) | (have H2_ := (Option.bind_some _ _).symm.trans H; with_reducible exact H2_) | with_reducible exact H | (rw [hy247]; exact H) | exact H
  have Ny247 := AM hy247
  clear hy247
  have H' := AM H
  clear H
  have p243 : 0 ≤ (x16_1 : Int) := ZD
  have q243 : x16_1 < (l0_0.length : Int) := ZD
  obtain ⟨ad243, e243, hx243_0, hx243_1⟩ := at_T60 HR0_0.out x16_1 p243 q243
  cases e243
  replace hx243_0 := ZHX HB hx243_0
  replace hx243_1 := ZHX HB hx243_1
  replace p243 := eq_true p243
  replace q243 := eq_true q243
  go_wp2_with (first | ((with_reducible refine gate_dst (N := 9) rfl ?_); refine ZX (N := 9) (cs := #[.int .i64 0, .int .i64 0]) (t := 60) ?_; intro gb244 hg w16 hbox hb; have BK244 := AM (hbox); have GW244 : Aside0 (w.heap.size ≤ gb244) := ZS hg; have GE244 : Aside0 (w.heap.size ≤ gb244) := ZS hg; have NB241_244 : Aside0 (gb241 ≠ gb244) := ZN hg BK241; have NB244_241 : Aside0 (gb244 ≠ gb241) := ZM hg BK241; replace HO_7 := AM (Kd.R_below (ZR HO_7.out) hb); replace BK241 := ZW BK241 hb; replace HB := ZT HB hb; clear hb hbox hg; have hnb17 := NB244_241.out; have hnc17 := NB241_244.out; have hcz18 := ZC2 w16 BK244; have hfz18 := ZF2 BK244) | ((with_reducible refine gate_calleev ⟨_, _, _, rfl⟩ ?_); refine goesLv_ (some 23) rfl rfl Try.func41 (by kernel_rfl) rfl #[.agg #[.int .i64 ((rd_T60 l0_0 x16_1).f0), .int .i64 ((rd_T60 l0_0 x16_1).f1)]] ⟨_, _, rfl, rfl⟩ ZG ?_; (with_reducible refine (impl_TypeKnows_1.calls ((rd_T60 l0_0 x16_1).f0) ((rd_T60 l0_0 x16_1).f1) t245 _ A13.out).mono ?_); rintro e w19 ⟨rfl, hb⟩; refine ⟨_, rfl, ?_⟩; replace HO_7 := AM (Kd.R_below (ZR ((Kd.R_mono (Kd.R_far (p := ⟨gb244, 1, none⟩) (Kd.R_far (p := ⟨gb244, 0, none⟩) (Kd.R_types HO_7.out BK244.out (by decide)) (fun _ hk => hk.2) (.int .i64 ((rd_T60 l0_0 x16_1).f0))) (fun _ hk => hk.2) (.int .i64 ((rd_T60 l0_0 x16_1).f1))) (fun _ h_ => h_.1)))) hb); replace BK241 := ZV #[.slice (some ad243) l0_0.length c0_0, .slice A0_1 l0_1.length c0_1] BK241 hb; replace BK244 := ZV #[.int .i64 ((rd_T60 l0_0 x16_1).f0), .int .i64 ((rd_T60 l0_0 x16_1).f1)] BK244 hb; replace HB := ZT HB hb; clear hb) | ((with_reducible refine gate_callee (f := 67) rfl ?_); refine ZGL (some 25) Try.func67 #[.int .i64 t245, .int .i64 a1] ?_; (with_reducible refine (impl_has.calls t245 a1 t246 _ A14.out).mono ?_); rintro e w' ⟨rfl, ⟨nd, rfl⟩⟩; refine ⟨_, rfl, ?_⟩) | ((with_reducible refine gate_builtin (b := .append) (xs := #[.tmp 20, .tmp 26]) rfl ?_); at_builtin; refine Kd.R_append Kd.bool (w0 := w) w.heap.size rfl (.tmp 20) (.tmp 26) 27 4 (.bool false) 1 rfl Try.underlying27 info4 rfl (by decide) (by omega) u7 x7_1 t246 [.bool t246] (fun _ => True) (fun _ => False) rfl rfl ?aP (fun _ hk => hk.elim) ?aF ?aO ?aB ?aS ?aL ?_; (case aP => exact rfl); (case aB => exact (ZB)); (case aF => exact (fun _ _ => trivial)); (case aO => exact (ZR HO_7.out)); (case aS => exact (below_size (ZB))); (case aL => have := LMc15.out; omega); intro v248 w20 ho hb hg hat; rw [← Ny247.out] at ho; have n0_ := AM (blk_grown (g := gb241) (o := .cells #[.slice (some ad243) l0_0.length c0_0, .slice A0_1 l0_1.length c0_1] 32 (0, 0)) (ZK BK241.out) hg (Kd.R_ne HO_7.out BK241.out (by decide))); have n1_ := AM (blk_grown (g := gb244) (o := .cells #[.int .i64 ((rd_T60 l0_0 x16_1).f0), .int .i64 ((rd_T60 l0_0 x16_1).f1)] 60 (0, 0)) (ZK BK244.out) hg (Kd.R_ne HO_7.out BK244.out (by decide))); have n2_ := AM (hb); have n3_ := AM (ho); clear BK241 BK244 HB HO_7; have BK241 := n0_; have BK244 := n1_; have HB := n2_; have HO249 := n3_; clear n0_ n1_ n2_ n3_ ho hb hg hat))
  go_roundg k1
  case measure => have := HK1.out; omega
  case rel => exact ⟨(y247), (wrap64 (x16_1 + 1)), (by first | rfl | (simp; done) | (simp [*]; done)), H', ⟨by have := HK1.out; omega⟩, ⟨ZR HO249.out⟩, ⟨ZK BK241.out⟩, ⟨ZB⟩⟩)
  ·(
  rw [if_neg c15] at H
  exact absurd H (by simp)))
  ·(
  rw [if_neg c12] at H
  exact absurd H (by simp)))
  ·(
  rw [if_neg c11] at H
  exact absurd H (by simp)))
  ·(
  rw [if_neg c10] at H
  have c10b0 := decide_eq_false c10
  clear c10
  obtain rfl := Option.some.inj H
  go_wp2
  go_ret
  exact ⟨_, ZE, by (with_reducible repeat (first | apply Kd.R_alloc | apply Kd.R_drewN | apply Kd.R_drew)); exact HO_7.out, ZB⟩)))
 ·(
 replace c5 := Bool.eq_false_iff.mpr c5
 subst c5
 have H1 := H; rw [if_neg ZFT] at H1
 clear H
 have H := H1
 clear H1
 obtain rfl := Option.some.inj H
 go_enter Try.func40, Try.ntmps40
 go_wp2_with (first | ((with_reducible refine gate_dst (N := 3) rfl ?_); refine ZX (N := 3) (cs := #[.slice A0_0 l0_0.length c0_0, .slice A0_1 l0_1.length c0_1]) (t := 32) ?_; intro gb241 hg w21 hbox hb; have BK241 := AM (hbox); have GW241 : Aside0 (w.heap.size ≤ gb241) := ZS hg; have GE241 : Aside0 (w.heap.size ≤ gb241) := ZS hg; replace HB := ZT HB hb; clear hb hbox hg; have hcz22 := ZC2 w21 BK241; have hfz22 := ZF2 BK241) | ((with_reducible refine gate_callee (f := 47) rfl ?_); refine ZGL (some 11) Try.func47 #[.agg #[.slice A0_0 l0_0.length c0_0, .slice A0_1 l0_1.length c0_1]] ?_; (with_reducible refine (impl_ProgOk.calls k _ _ l0_0 _ _ l0_1 false _ ?side1 ?side2 ?side3 ?side4 A4.out).mono ?_); (case side1 => exact ZQ (Kd.C_below HR0_0.out HB.out)); (case side2 => exact HC0_0.out); (case side3 => exact ZQ (Kd.C_below HR0_1.out HB.out)); (case side4 => exact HC0_1.out); rintro e w23 ⟨rfl, hb⟩; refine ⟨_, rfl, ?_⟩; replace BK241 := ZW BK241 hb; replace HB := ZT HB hb; clear hb))
 go_ret
 exact ⟨_, ZE, by first | exact Kd.R_nil _ _ _ _ _ | exact Kd.N_nil _ _ _ _ _ | exact Kd.V_nil _ _ _ _ _ | exact Kd.Q_nil _ _ _ _ _ | exact Kd.S_nil _ _ _ _ _, ZB⟩)

/-! ### impl_TypeKnows: function 11 -/
def impl_TypeKnows.f (k : Nat) (l0_0 : List (S60)) (l0_1 : List (S50)) (a1 : Int) : Option (List Bool) := (impl_Prog_each_41.f k l0_0 l0_1 a1).bind fun t251 => (some t251)
theorem impl_TypeKnows.calls (k : Nat) (A0_0 : Option Addr) (c0_0 : Nat) (l0_0 : List (S60)) (A0_1 : Option Addr) (c0_1 : Nat) (l0_1 : List (S50)) (a1 : Int) (r : List Bool) (w : World) (hr0_0 : Kd.C k60 w A0_0 l0_0.length l0_0) (hc0_0 : l0_0.length ≤ c0_0) (hr0_1 : Kd.C k50 w A0_1 l0_1.length l0_1) (hc0_1 : l0_1.length ≤ c0_1) (h : impl_TypeKnows.f k l0_0 l0_1 a1 = some r) :
  Calls Try.prog 11 #[.agg #[.slice A0_0 l0_0.length c0_0, .slice A0_1 l0_1.length c0_1], .int .i64 a1] w fun e w' => ∃ v0_ : Value, e = .returned (v0_) ∧ Kd.R Kd.bool 4 w' w.heap.size (fun _ => True) v0_ r ∧ Below w.heap.size w w' := by
 have hu32 := Try.underlying32
 have HR0_0 := AM hr0_0
 have HC0_0 := AM hc0_0
 clear hr0_0 hc0_0
 have HR0_1 := AM hr0_1
 have HC0_1 := AM hc0_1
 clear hr0_1 hc0_1
 have HB := AM (Below.refl w.heap.size w)
 have H := h
 unfold impl_TypeKnows.f at H
 clear h
 obtain ⟨t251, A3, H⟩ := ZOB H; try dsimp only at H
 obtain rfl := Option.some.inj H
 go_enter Try.func11, Try.ntmps11
 go_wp2_with (first | ((with_reducible refine gate_dst (N := 2) rfl ?_); refine ZX (N := 2) (cs := #[.slice A0_0 l0_0.length c0_0, .slice A0_1 l0_1.length c0_1]) (t := 32) ?_; intro gb250 hg w4 hbox hb; have BK250 := AM (hbox); have GW250 : Aside0 (w.heap.size ≤ gb250) := ZS hg; have GE250 : Aside0 (w.heap.size ≤ gb250) := ZS hg; replace HB := ZT HB hb; clear hb hbox hg; have hcz5 := ZC2 w4 BK250; have hfz5 := ZF2 BK250) | ((with_reducible refine gate_callee (f := 40) rfl ?_); refine ZGL (some 7) Try.func40 #[.agg #[.slice A0_0 l0_0.length c0_0, .slice A0_1 l0_1.length c0_1], .int .i64 a1, .func (.func 41) #[] #[]] ?_; (with_reducible refine (impl_Prog_each_41.calls k _ _ l0_0 _ _ l0_1 a1  t251 _ ?side1 ?side2 ?side3 ?side4 A3.out).mono ?_); (case side1 => exact ZQ (Kd.C_below HR0_0.out HB.out)); (case side2 => exact HC0_0.out); (case side3 => exact ZQ (Kd.C_below HR0_1.out HB.out)); (case side4 => exact HC0_1.out); rintro e w6 ⟨v252, rfl, ho0, hb⟩; refine ⟨_, rfl, ?_⟩; have HO253 := AM (Kd.R_lower ho0 (below_size (ZB))); replace BK250 := ZW BK250 hb; replace HB := ZT HB hb; clear hb; (try clear ho0)))
 go_ret
 exact ⟨_, ZE, by (with_reducible repeat (first | apply Kd.R_alloc | apply Kd.R_drewN | apply Kd.R_drew)); exact HO253.out, ZB⟩

/-! ### laws_eqBoolS: function 12 -/
def laws_eqBoolS.l0 : Nat → List Bool → List Bool → Int → Option (Bool)
 | 0, _, _, _ => none
 | k + 1, x0, x1, x5 => if x5 < (x0.length : Int) then (if 0 ≤ x5 then (if x5 < (x1.length : Int) then (if ((rdOf false x0 x5) != (rdOf false x1 x5)) = true then (some false) else (laws_eqBoolS.l0 k x0 x1 (wrap64 (x5 + 1)))) else (none)) else (none)) else (some true)
def laws_eqBoolS.f (k : Nat) (l0 : List Bool) (l1 : List Bool) : Option (Bool) := if (l0.length : Int) = (l1.length : Int) then (laws_eqBoolS.l0 k l0 l1 0) else (some false)
theorem laws_eqBoolS.calls (k : Nat) (A0 : Option Addr) (c0 : Nat) (l0 : List Bool) (A1 : Option Addr) (c1 : Nat) (l1 : List Bool) (r : Bool) (w : World) (hr0 : Kd.C Kd.bool w A0 l0.length l0) (hc0 : l0.length ≤ c0) (hr1 : Kd.C Kd.bool w A1 l1.length l1) (hc1 : l1.length ≤ c1) (h : laws_eqBoolS.f k l0 l1 = some r) :
  Calls Try.prog 12 #[.slice A0 l0.length c0, .slice A1 l1.length c1] w fun e w' => e = .returned (.bool r) ∧ Drawn0 w w' := by
 have HR0 := AM hr0
 have HC0 := AM hc0
 clear hr0 hc0
 have HR1 := AM hr1
 have HC1 := AM hc1
 clear hr1 hc1
 have H := h
 unfold laws_eqBoolS.f at H
 clear h
 by_cases c3 : (l0.length : Int) = (l1.length : Int)
 ·(
 rw [if_pos c3] at H
 have c3b0 := beq_iff_eq.mpr c3
 have c3b1 := bne_eq_false_iff_eq.mpr c3
 have c3b2 : (l0.length == l1.length) = true := by first | simpa using c3 | (simp at c3 ⊢; omega)
 clear c3
 have H' := AM H
 clear H
 go_enter Try.func12, Try.ntmps12
 go_wp2
 repeat (go_quiet (fail); try go_wp2)
 go_loopg [5] k (fun kq v5 w' => ∃ (x5_1 : Int), v5 = .int .i64 x5_1 ∧ Aside0 (laws_eqBoolS.l0 kq l0 l1 x5_1 = some r) ∧ Aside0 (kq ≤ k) ∧ Drawn0 w w')
 case atStart => exact ⟨(0), (by first | rfl | (simp; done) | (simp [*]; done)), H', ⟨Nat.le_refl _⟩, by repeat (first | exact Drawn0.refl _ | apply Drawn0.step)⟩
 case round => (
 clear H'
 try clear c1
 try clear p2
 try clear c3
 try clear c3b0
 try clear c3b1
 try clear c3b2
 obtain ⟨x5_1, rfl, HA, HK1, ⟨m1, rfl⟩⟩ := hrel
 cases gk with
 | zero => exact absurd HA.out (by simp [laws_eqBoolS.l0])
 | succ k1 =>
  have H := HA.out
  clear HA
  simp only [laws_eqBoolS.l0] at H
  by_cases c4 : x5_1 < (l0.length : Int)
  ·(
  rw [if_pos c4] at H
  have c4b0 := decide_eq_true c4
  clear c4
  by_cases c5 : 0 ≤ x5_1
  ·(
  rw [if_pos c5] at H
  have c5b0 := decide_eq_true c5
  clear c5
  by_cases c6 : x5_1 < (l1.length : Int)
  ·(
  rw [if_pos c6] at H
  have c6b0 := decide_eq_true c6
  clear c6
  by_cases c7 : ((rdOf false l0 x5_1) != (rdOf false l1 x5_1)) = true
  ·(
  rw [if_pos c7] at H
  have c7b0 : ((rdOf false l0 x5_1) != (rdOf false l1 x5_1)) = true := c7
  (try (have c7b1 : decide ((rdOf false l0 x5_1) = (rdOf false l1 x5_1)) = false := by simpa using c7))
  (try (have c7b2 : ((rdOf false l0 x5_1) == (rdOf false l1 x5_1)) = false := by simpa using c7))
  (try (have c7b3 : ¬ ((rdOf false l0 x5_1) = (rdOf false l1 x5_1)) := by simpa using c7))
  clear c7
  obtain rfl := Option.some.inj H
  have p254 : 0 ≤ (x5_1 : Int) := ZD
  have q254 : x5_1 < (l0.length : Int) := ZD
  obtain ⟨ad254, e254, hx254_0⟩ := Kd.at_bool HR0.out x5_1 p254 q254
  cases e254
  replace p254 := eq_true p254
  replace q254 := eq_true q254
  have p255 : 0 ≤ (x5_1 : Int) := ZD
  have q255 : x5_1 < (l1.length : Int) := ZD
  obtain ⟨ad255, e255, hx255_0⟩ := Kd.at_bool HR1.out x5_1 p255 q255
  cases e255
  replace p255 := eq_true p255
  replace q255 := eq_true q255
  go_wp2
  repeat (go_quiet (fail); try go_wp2)
  go_ret
  exact ⟨by first | rfl | (simp; done) | (simp [*]; done), by repeat (first | exact Drawn0.refl _ | apply Drawn0.step)⟩)
  ·(
  rw [if_neg c7] at H
  have c7b0 : ((rdOf false l0 x5_1) != (rdOf false l1 x5_1)) = false := by simpa using c7
  (try (have c7b1 : decide ((rdOf false l0 x5_1) = (rdOf false l1 x5_1)) = true := by simpa using c7))
  (try (have c7b2 : ((rdOf false l0 x5_1) == (rdOf false l1 x5_1)) = true := by simpa using c7))
  clear c7
  have H' := AM H
  clear H
  have p254 : 0 ≤ (x5_1 : Int) := ZD
  have q254 : x5_1 < (l0.length : Int) := ZD
  obtain ⟨ad254, e254, hx254_0⟩ := Kd.at_bool HR0.out x5_1 p254 q254
  cases e254
  replace p254 := eq_true p254
  replace q254 := eq_true q254
  have p255 : 0 ≤ (x5_1 : Int) := ZD
  have q255 : x5_1 < (l1.length : Int) := ZD
  obtain ⟨ad255, e255, hx255_0⟩ := Kd.at_bool HR1.out x5_1 p255 q255
  cases e255
  replace p255 := eq_true p255
  replace q255 := eq_true q255
  go_wp2
  repeat (go_quiet (fail); try go_wp2)
  go_roundg k1
  case measure => have := HK1.out; omega
  case rel => exact ⟨(wrap64 (x5_1 + 1)), (by first | rfl | (simp; done) | (simp [*]; done)), H', ⟨by have := HK1.out; omega⟩, by repeat (first | exact Drawn0.refl _ | apply Drawn0.step)⟩))
  ·(
  rw [if_neg c6] at H
  exact absurd H (by simp)))
  ·(
  rw [if_neg c5] at H
  exact absurd H (by simp)))
  ·(
  rw [if_neg c4] at H
  have c4b0 := decide_eq_false c4
  clear c4
  obtain rfl := Option.some.inj H
  go_wp2
  repeat (go_quiet (fail); try go_wp2)
  go_ret
  exact ⟨by first | rfl | (simp; done) | (simp [*]; done), by repeat (first | exact Drawn0.refl _ | apply Drawn0.step)⟩)))
 ·(
 rw [if_neg c3] at H
 have c3b0 := beq_eq_false_iff_ne.mpr c3
 have c3b1 := bne_iff_ne.mpr c3
 have c3b2 : (l0.length == l1.length) = false := by first | simpa using c3 | (simp at c3 ⊢; omega)
 obtain rfl := Option.some.inj H
 go_enter Try.func12, Try.ntmps12
 go_wp2
 repeat (go_quiet (fail); try go_wp2)
 go_ret
 exact ⟨by first | rfl | (simp; done) | (simp [*]; done), by repeat (first | exact Drawn0.refl _ | apply Drawn0.step)⟩)

/-! ### laws_eqLabel: function 49 -/
def laws_eqLabel.f (a0_0 : Int) (a0_1 : Int) (a1_0 : Int) (a1_1 : Int) : Option (Bool) := if a0_0 = a1_0 then (if a0_1 = a1_1 then (some true) else (some false)) else (some false)
theorem laws_eqLabel.calls (a0_0 : Int) (a0_1 : Int) (a1_0 : Int) (a1_1 : Int) (r : Bool) (w : World) (h : laws_eqLabel.f a0_0 a0_1 a1_0 a1_1 = some r) :
  Calls Try.prog 49 #[.agg #[.int .i64 a0_0, .int .i64 a0_1], .agg #[.int .i64 a1_0, .int .i64 a1_1]] w fun e w' => e = .returned (.bool r) ∧ Below w.heap.size w w' := by
 have hu60 := Try.underlying60
 have HB := AM (Below.refl w.heap.size w)
 have H := h
 unfold laws_eqLabel.f at H
 clear h
 by_cases c3 : a0_0 = a1_0
 focus (
 rw [if_pos c3] at H
 have c3b0 := beq_iff_eq.mpr c3
 have c3b1 := bne_eq_false_iff_eq.mpr c3
 clear c3
 by_cases c4 : a0_1 = a1_1
 focus (
 rw [if_pos c4] at H
 have c4b0 := beq_iff_eq.mpr c4
 have c4b1 := bne_eq_false_iff_eq.mpr c4
 clear c4
 obtain rfl := Option.some.inj H
 have tag0_ : Aside0 True := ⟨trivial⟩)
 rotate_left
 focus (
 rw [if_neg c4] at H
 have c4b0 := beq_eq_false_iff_ne.mpr c4
 have c4b1 := bne_iff_ne.mpr c4
 obtain rfl := Option.some.inj H
 have tag1_ : Aside0 True := ⟨trivial⟩)
 rotate_left)
 rotate_left 2
 focus (
 rw [if_neg c3] at H
 have c3b0 := beq_eq_false_iff_ne.mpr c3
 have c3b1 := bne_iff_ne.mpr c3
 obtain rfl := Option.some.inj H
 have tag2_ : Aside0 True := ⟨trivial⟩)
 rotate_left
 all_goals (
 go_enter Try.func49, Try.ntmps49
 go_wp2_with (first | ((with_reducible refine gate_dst (N := 2) rfl ?_); refine ZX (N := 2) (cs := #[.int .i64 a0_0, .int .i64 a0_1]) (t := 60) ?_; intro gbq0 hg wq0 hbox hb; have BKq0 := AM (hbox); have GWq0 : Aside0 (w.heap.size ≤ gbq0) := ZS hg; have GEq0 : Aside0 (w.heap.size ≤ gbq0) := ZS hg; replace HB := ZT HB hb; clear hb hbox hg) | ((with_reducible refine gate_dst (N := 3) rfl ?_); refine ZX (N := 3) (cs := #[.int .i64 a1_0, .int .i64 a1_1]) (t := 60) ?_; intro gbq1 hg wq1 hbox hb; have BKq1 := AM (hbox); have GWq1 : Aside0 (w.heap.size ≤ gbq1) := ZS hg; have GEq1 : Aside0 (w.heap.size ≤ gbq1) := ZS hg; have NBq0_257 : Aside0 (gbq0 ≠ gbq1) := ZN hg BKq0; have NBq1_256 : Aside0 (gbq1 ≠ gbq0) := ZM hg BKq0; replace BKq0 := ZW BKq0 hb; replace HB := ZT HB hb; clear hb hbox hg; have hnbq0 := NBq0_257.out; have hncq0 := NBq1_256.out; have hczq0 := ZC2 wq1 BKq0; have hfzq0 := ZF2 BKq0; have hczq1 := ZC2 wq1 BKq1; have hfzq1 := ZF2 BKq1))
 go_ret
 exact ⟨ZE, ZB⟩)

/-! ### laws_eqLabelS: function 21 -/
def laws_eqLabelS.l0 : Nat → List (S60) → List (S60) → Int → Option (Bool)
 | 0, _, _, _ => none
 | k + 1, x0, x1, x5 => if x5 < (x0.length : Int) then (if 0 ≤ x5 then (if x5 < (x1.length : Int) then ((laws_eqLabel.f ((rd_T60 x0 x5).f0) ((rd_T60 x0 x5).f1) ((rd_T60 x1 x5).f0) ((rd_T60 x1 x5).f1)).bind fun t260 => (if t260 = true then (laws_eqLabelS.l0 k x0 x1 (wrap64 (x5 + 1))) else (some false))) else (none)) else (none)) else (some true)
def laws_eqLabelS.f (k : Nat) (l0 : List (S60)) (l1 : List (S60)) : Option (Bool) := if (l0.length : Int) = (l1.length : Int) then (laws_eqLabelS.l0 k l0 l1 0) else (some false)
def laws_eqLabelS.T6 : Bool × List (List Nat × List Nat) := (true, [([], []), ([], []), ([0, 1], [0, 1]), ([2], [2]), ([], []), ([], []), ([4, 5], [4, 5]), ([6], [6]), ([3, 7], [3, 7]), ([8], [8])])
def laws_eqLabelS.B6 : List Nat := [0, 0, 3, 7, 0, 0, 48, 112, 255, 511]
theorem laws_eqLabelS.tab6 : rtab .any (opsOf Try.f21 6) = laws_eqLabelS.T6 := by kernel_rfl
theorem laws_eqLabelS.bits6 : waitsOk laws_eqLabelS.T6.2 laws_eqLabelS.B6 = true := by kernel_rfl
theorem laws_eqLabelS.calls (k : Nat) (A0 : Option Addr) (c0 : Nat) (l0 : List (S60)) (A1 : Option Addr) (c1 : Nat) (l1 : List (S60)) (r : Bool) (w : World) (hr0 : Kd.C k60 w A0 l0.length l0) (hc0 : l0.length ≤ c0) (hr1 : Kd.C k60 w A1 l1.length l1) (hc1 : l1.length ≤ c1) (h : laws_eqLabelS.f k l0 l1 = some r) :
  Calls Try.prog 21 #[.slice A0 l0.length c0, .slice A1 l1.length c1] w fun e w' => e = .returned (.bool r) ∧ Below w.heap.size w w' := by
 have hu60 := Try.underlying60
 have HR0 := AM hr0
 have HC0 := AM hc0
 clear hr0 hc0
 have HR1 := AM hr1
 have HC1 := AM hc1
 clear hr1 hc1
 have HB := AM (Below.refl w.heap.size w)
 have H := h
 unfold laws_eqLabelS.f at H
 clear h
 by_cases c3 : (l0.length : Int) = (l1.length : Int)
 ·(
 rw [if_pos c3] at H
 have c3b0 := beq_iff_eq.mpr c3
 have c3b1 := bne_eq_false_iff_eq.mpr c3
 have c3b2 : (l0.length == l1.length) = true := by first | simpa using c3 | (simp at c3 ⊢; omega)
 clear c3
 have H' := AM H
 clear H
 go_enter Try.func21, Try.ntmps21
 go_wp2
 go_loopg [5] k (fun kq v5 w' => ∃ (x5_1 : Int), v5 = .int .i64 x5_1 ∧ Aside0 (laws_eqLabelS.l0 kq l0 l1 x5_1 = some r) ∧ Aside0 (kq ≤ k) ∧ Aside0 (Below w.heap.size w w'))
 case atStart => exact ⟨(0), (by first | rfl | (simp; done) | (simp [*]; done)), H', ⟨Nat.le_refl _⟩, ⟨ZB⟩⟩
 case round => (
 clear H'
 try clear c1
 try clear c2
 try clear p2
 try clear c3
 try clear c3b0
 try clear c3b1
 try clear c3b2
 obtain ⟨x5_1, rfl, HA, HK1, HB⟩ := hrel
 cases gk with
 | zero => exact absurd HA.out (by simp [laws_eqLabelS.l0])
 | succ k1 =>
  have H := HA.out
  clear HA
  simp only [laws_eqLabelS.l0] at H
  by_cases c4 : x5_1 < (l0.length : Int)
  focus (
  rw [if_pos c4] at H
  have c4b0 := decide_eq_true c4
  clear c4
  by_cases c5 : 0 ≤ x5_1
  focus (
  rw [if_pos c5] at H
  have c5b0 := decide_eq_true c5
  clear c5
  by_cases c6 : x5_1 < (l1.length : Int)
  focus (
  rw [if_pos c6] at H
  have c6b0 := decide_eq_true c6
  clear c6
  obtain ⟨t260, A7, H⟩ := ZOB H; try dsimp only at H
  by_cases c8 : t260 = true
  focus (
  subst c8
  have H1 := H; rw [if_pos rfl] at H1
  clear H
  have H := H1
  clear H1
  have H' := AM H
  clear H
  have tag0_ : Aside0 True := ⟨trivial⟩)
  rotate_left
  focus (
  replace c8 := Bool.eq_false_iff.mpr c8
  subst c8
  have H1 := H; rw [if_neg ZFT] at H1
  clear H
  have H := H1
  clear H1
  obtain rfl := Option.some.inj H
  have tag1_ : Aside0 True := ⟨trivial⟩)
  rotate_left)
  rotate_left 2
  focus (
  exact ZNE H c6))
  rotate_left 2
  focus (
  exact ZNE H c5))
  rotate_left 2
  focus (
  rw [if_neg c4] at H
  have c4b0 := decide_eq_false c4
  clear c4
  obtain rfl := Option.some.inj H
  have tag2_ : Aside0 True := ⟨trivial⟩)
  rotate_left
  all_goals (
  first
  | (
  (first | (have z_ := tag0_; clear z_) | (have z_ := tag1_; clear z_))
  try go_wp2
  replace HB := AM (below_drew1 HB.out)
  have pq0 : 0 ≤ (x5_1 : Int) := ZD
  have qq0 : x5_1 < (l0.length : Int) := ZD
  obtain ⟨adq0, eq0, hxq0_0, hxq0_1⟩ := at_T60 HR0.out x5_1 pq0 qq0
  have hwq0_1 := hxq0_1
  have hwq0_0 := hxq0_0
  cases eq0
  replace hxq0_0 := ZHX HB hxq0_0
  replace hxq0_1 := ZHX HB hxq0_1
  replace pq0 := eq_true pq0
  replace qq0 := eq_true qq0
  have pq1 : 0 ≤ (x5_1 : Int) := ZD
  have qq1 : x5_1 < (l1.length : Int) := ZD
  obtain ⟨adq1, eq1, hxq1_0, hxq1_1⟩ := at_T60 HR1.out x5_1 pq1 qq1
  have hwq1_1 := hxq1_1
  have hwq1_0 := hxq1_0
  cases eq1
  replace hxq1_0 := ZHX HB hxq1_0
  replace hxq1_1 := ZHX HB hxq1_1
  replace pq1 := eq_true pq1
  replace qq1 := eq_true qq1
  refine start_ (n := 10) (S := fun w' => w'.cell? (adq0.add ((x5_1).toNat * 2)) = some (.int .i64 ((rd_T60 l0 x5_1).f0)) ∧ w'.cell? ⟨(adq0.add ((x5_1).toNat * 2)).block, (adq0.add ((x5_1).toNat * 2)).off + 1, none⟩ = some (.int .i64 ((rd_T60 l0 x5_1).f1)) ∧ w'.cell? (adq1.add ((x5_1).toNat * 2)) = some (.int .i64 ((rd_T60 l1 x5_1).f0)) ∧ w'.cell? ⟨(adq1.add ((x5_1).toNat * 2)).block, (adq1.add ((x5_1).toNat * 2)).off + 1, none⟩ = some (.int .i64 ((rd_T60 l1 x5_1).f1))) (ds := []) #[F,F,F,F,F,F,F,F,F,F] (by kernel_rfl) rfl rfl ⟨((HB.out.cell (World.block_lt_of_cell? w _ hwq0_0)).trans hwq0_0), ((HB.out.cell (World.block_lt_of_cell? w _ hwq0_1)).trans hwq0_1), ((HB.out.cell (World.block_lt_of_cell? w _ hwq1_0)).trans hwq1_0), ((HB.out.cell (World.block_lt_of_cell? w _ hwq1_1)).trans hwq1_1)⟩ (fun hHeld => ?_); refine with_tabW laws_eqLabelS.tab6 laws_eqLabelS.bits6 (fun HT_ HW_ => ?_)
  generalize wr.drew = wq0 at HB hxq0_0 hxq0_1 hxq1_0 hxq1_1 hHeld ⊢
  refine ZU 0 17 #[T,F,F,F,F,F,F,F,F,F] ?_
  refine ZU 1 18 #[T,T,F,F,F,F,F,F,F,F] ?_
  refine ZU 2 19 #[T,T,T,F,F,F,F,F,F,F] ?_
  refine ZU 4 21 #[T,T,T,F,T,F,F,F,F,F] ?_
  refine ZU 5 22 #[T,T,T,F,T,T,F,F,F,F] ?_
  refine ZU 6 23 #[T,T,T,F,T,T,T,F,F,F] ?_
  refine ZTK 3 20 #[T,T,T,T,T,T,T,F,F,F] hHeld ?_
  refine ZTK 7 24 #[T,T,T,T,T,T,T,T,F,F] hHeld ?_
  refine one_ (i := 8) (N := some 25) #[T,T,T,T,T,T,T,T,T,F] rfl rfl (one_of HT_.out (by kernel_rfl)) (by decide) (fun K hK => ?_)
  refine ZGO Try.func49 #[.agg #[.int .i64 ((rd_T60 l0 x5_1).f0), .int .i64 ((rd_T60 l0 x5_1).f1)], .agg #[.int .i64 ((rd_T60 l1 x5_1).f0), .int .i64 ((rd_T60 l1 x5_1).f1)]] ?_
  first
  | (
  (have z_ := tag0_; clear z_)
  with_reducible refine (laws_eqLabel.calls ((rd_T60 l0 x5_1).f0) ((rd_T60 l0 x5_1).f1) ((rd_T60 l1 x5_1).f0) ((rd_T60 l1 x5_1).f1) true _ A7.out).mono ?_
  rintro e wq1 ⟨rfl, hb⟩
  refine ⟨_, rfl, ?_⟩
  replace HB := ZT HB hb
  (try clear hb)
  (try clear hb2)
  (try clear hk)
  (try clear hi)
  refine hK.out _ _ ⟨((HB.out.cell (World.block_lt_of_cell? w _ hwq0_0)).trans hwq0_0), ((HB.out.cell (World.block_lt_of_cell? w _ hwq0_1)).trans hwq0_1), ((HB.out.cell (World.block_lt_of_cell? w _ hwq1_0)).trans hwq1_0), ((HB.out.cell (World.block_lt_of_cell? w _ hwq1_1)).trans hwq1_1)⟩ (fun hHeld => ?_)
  clear hK K
  refine ZNO 25 ?_
  refine ZU 9 26 #[T,T,T,T,T,T,T,T,T,T] ?_
  refine done_ (done_of HT_.out (by kernel_rfl)) ?_
  try go_wp2
  go_roundg k1
  case measure => have := HK1.out; omega
  case rel => exact ⟨(wrap64 (x5_1 + 1)), (by first | rfl | (simp; done) | (simp [*]; done)), H', ⟨by have := HK1.out; omega⟩, ⟨ZB⟩⟩)
  | (
  (have z_ := tag1_; clear z_)
  with_reducible refine (laws_eqLabel.calls ((rd_T60 l0 x5_1).f0) ((rd_T60 l0 x5_1).f1) ((rd_T60 l1 x5_1).f0) ((rd_T60 l1 x5_1).f1) false _ A7.out).mono ?_
  rintro e wq1 ⟨rfl, hb⟩
  refine ⟨_, rfl, ?_⟩
  replace HB := ZT HB hb
  (try clear hb)
  (try clear hb2)
  (try clear hk)
  (try clear hi)
  refine hK.out _ _ ⟨((HB.out.cell (World.block_lt_of_cell? w _ hwq0_0)).trans hwq0_0), ((HB.out.cell (World.block_lt_of_cell? w _ hwq0_1)).trans hwq0_1), ((HB.out.cell (World.block_lt_of_cell? w _ hwq1_0)).trans hwq1_0), ((HB.out.cell (World.block_lt_of_cell? w _ hwq1_1)).trans hwq1_1)⟩ (fun hHeld => ?_)
  clear hK K
  refine ZNO 25 ?_
  refine ZU 9 26 #[T,T,T,T,T,T,T,T,T,T] ?_
  refine done_ (done_of HT_.out (by kernel_rfl)) ?_
  try go_wp2
  go_ret
  exact ⟨ZE, ZB⟩))
  | (
  (have z_ := tag2_; clear z_)
  go_wp2
  go_ret
  exact ⟨ZE, ZB⟩))))
 ·(
 rw [if_neg c3] at H
 have c3b0 := beq_eq_false_iff_ne.mpr c3
 have c3b1 := bne_iff_ne.mpr c3
 have c3b2 : (l0.length == l1.length) = false := by first | simpa using c3 | (simp at c3 ⊢; omega)
 obtain rfl := Option.some.inj H
 go_enter Try.func21, Try.ntmps21
 go_wp2
 go_ret
 exact ⟨ZE, ZB⟩)

end Go.Proofs.Ytaflodibibbakaa.A
