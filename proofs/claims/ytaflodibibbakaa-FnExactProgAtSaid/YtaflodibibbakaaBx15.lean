/- Go functions as Lean functions, and for each its contract; written by wip/tools/pr.py over the kit's print. -/
import Derived.Test.YtaflodibibbakaaBx0
import Derived.Test.YtaflodibibbakaaBx12
import Derived.Test.YtaflodibibbakaaBx14
namespace Go.Proofs.Ytaflodibibbakaa.B
open Go.RowKit Go.Proofs.YtaflodibibbakaaW.PrintWords Go.Proofs.YtaflodibibbakaaW.PrintLast Go.Proofs.YtaflodibibbakaaW.PrintMore
attribute [local go_sem] max2_int min2_int max_two min_two max_three min_three max_four min_four
set_option linter.unusedVariables false
set_option linter.unusedSimpArgs false
set_option maxHeartbeats 8000000
set_option maxRecDepth 100000

/-! ### impl_ProgOk: function 47 -/
def impl_ProgOk.f (k : Nat) (l0_0 : List (S60)) (l0_1 : List (S50)) : Option (Bool) := if (l0_0.length : Int) ≤ 4 then ((impl_Label_70.f k l0_0).bind fun t298 => (if t298 = true then (some false) else ((impl_Prog_stepsOk.f k l0_0 l0_1 l0_1 3).bind fun t299 => (if t299 = true then ((impl_size.f k l0_1).bind fun t300 => (some (decide (t300 ≤ 8)))) else (some false))))) else (some false)
theorem impl_ProgOk.calls (k : Nat) (A0_0 : Option Addr) (c0_0 : Nat) (l0_0 : List (S60)) (A0_1 : Option Addr) (c0_1 : Nat) (l0_1 : List (S50)) (r : Bool) (w : World) (hr0_0 : Kd.C k60 w A0_0 l0_0.length l0_0) (hc0_0 : l0_0.length ≤ c0_0) (hr0_1 : Kd.C k50 w A0_1 l0_1.length l0_1) (hc0_1 : l0_1.length ≤ c0_1) (h : impl_ProgOk.f k l0_0 l0_1 = some r) :
  Calls Try.prog 47 #[.agg #[.slice A0_0 l0_0.length c0_0, .slice A0_1 l0_1.length c0_1]] w fun e w' => e = .returned (.bool r) ∧ Below w.heap.size w w' := by
 have hu32 := Try.underlying32
 have HR0_0 := AM hr0_0
 have HC0_0 := AM hc0_0
 clear hr0_0 hc0_0
 have HR0_1 := AM hr0_1
 have HC0_1 := AM hc0_1
 clear hr0_1 hc0_1
 have HB := AM (Below.refl w.heap.size w)
 have H := h
 unfold impl_ProgOk.f at H
 clear h
 by_cases c2 : (l0_0.length : Int) ≤ 4
 ·(
 rw [if_pos c2] at H
 have c2b0 := decide_eq_true c2
 have c2b1 : decide (l0_0.length ≤ 4) = true := decide_eq_true (by omega)
 clear c2
 obtain ⟨t298, A3, H⟩ := ZOB H; try dsimp only at H
 by_cases c4 : t298 = true
 ·(
 subst c4
 have H1 := H; rw [if_pos rfl] at H1
 clear H
 have H := H1
 clear H1
 obtain rfl := Option.some.inj H
 go_enter Try.func47, Try.ntmps47
 go_wp2_with (first | ((with_reducible refine gate_dst (N := 1) rfl ?_); refine ZX (N := 1) (cs := #[.slice A0_0 l0_0.length c0_0, .slice A0_1 l0_1.length c0_1]) (t := 32) ?_; intro gb297 hg w5 hbox hb; have BK297 := AM (hbox); have GW297 : Aside0 (w.heap.size ≤ gb297) := ZS hg; have GE297 : Aside0 (w.heap.size ≤ gb297) := ZS hg; replace HB := ZT HB hb; clear hb hbox hg; have hcz6 := ZC2 w5 BK297; have hfz6 := ZF2 BK297) | (go_at_call 70; (with_reducible refine (impl_Label_70.calls k _ _ l0_0  true _ ?side1 ?side2 A3.out).mono ?_); (case side1 => exact ZQ (Kd.C_below HR0_0.out HB.out)); (case side2 => exact HC0_0.out); rintro e w7 ⟨rfl, hb⟩; replace BK297 := ZW BK297 hb; replace HB := ZT HB hb; clear hb))
 go_ret
 exact ⟨ZE, ZB⟩)
 ·(
 replace c4 := Bool.eq_false_iff.mpr c4
 subst c4
 have H1 := H; rw [if_neg ZFT] at H1
 clear H
 have H := H1
 clear H1
 obtain ⟨t299, A8, H⟩ := ZOB H; try dsimp only at H
 by_cases c9 : t299 = true
 ·(
 subst c9
 have H1 := H; rw [if_pos rfl] at H1
 clear H
 have H := H1
 clear H1
 obtain ⟨t300, A10, H⟩ := ZOB H; try dsimp only at H
 obtain rfl := Option.some.inj H
 go_enter Try.func47, Try.ntmps47
 go_wp2_with (first | ((with_reducible refine gate_dst (N := 1) rfl ?_); refine ZX (N := 1) (cs := #[.slice A0_0 l0_0.length c0_0, .slice A0_1 l0_1.length c0_1]) (t := 32) ?_; intro gb297 hg w11 hbox hb; have BK297 := AM (hbox); have GW297 : Aside0 (w.heap.size ≤ gb297) := ZS hg; have GE297 : Aside0 (w.heap.size ≤ gb297) := ZS hg; replace HB := ZT HB hb; clear hb hbox hg; have hcz12 := ZC2 w11 BK297; have hfz12 := ZF2 BK297) | (go_at_call 70; (with_reducible refine (impl_Label_70.calls k _ _ l0_0  false _ ?side1 ?side2 A3.out).mono ?_); (case side1 => exact ZQ (Kd.C_below HR0_0.out HB.out)); (case side2 => exact HC0_0.out); rintro e w13 ⟨rfl, hb⟩; replace BK297 := ZW BK297 hb; replace HB := ZT HB hb; clear hb; have hcz14 := ZC2 w13 BK297; have hfz14 := ZF2 BK297) | (go_at_call 73; (with_reducible refine (impl_Prog_stepsOk.calls k _ _ l0_0 _ _ l0_1 _ _ l0_1 3 true _ ?side1 ?side2 ?side3 ?side4 ?side5 ?side6 A8.out).mono ?_); (case side1 => exact ZQ (Kd.C_below HR0_0.out HB.out)); (case side2 => exact HC0_0.out); (case side3 => exact ZQ (Kd.C_below HR0_1.out HB.out)); (case side4 => exact HC0_1.out); (case side5 => exact ZQ (Kd.C_below HR0_1.out HB.out)); (case side6 => exact HC0_1.out); rintro e w15 ⟨rfl, hb⟩; replace BK297 := ZW BK297 hb; replace HB := ZT HB hb; clear hb; have hcz16 := ZC2 w15 BK297; have hfz16 := ZF2 BK297) | (go_at_call 58; (with_reducible refine (impl_size.calls k _ _ l0_1 t300 _ ?side1 ?side2 A10.out).mono ?_); (case side1 => exact ZQ (Kd.C_below HR0_1.out HB.out)); (case side2 => exact HC0_1.out); rintro e w17 ⟨rfl, hb⟩; replace BK297 := ZW BK297 hb; replace HB := ZT HB hb; clear hb))
 go_ret
 exact ⟨ZE, ZB⟩)
 ·(
 replace c9 := Bool.eq_false_iff.mpr c9
 subst c9
 have H1 := H; rw [if_neg ZFT] at H1
 clear H
 have H := H1
 clear H1
 obtain rfl := Option.some.inj H
 go_enter Try.func47, Try.ntmps47
 go_wp2_with (first | ((with_reducible refine gate_dst (N := 1) rfl ?_); refine ZX (N := 1) (cs := #[.slice A0_0 l0_0.length c0_0, .slice A0_1 l0_1.length c0_1]) (t := 32) ?_; intro gb297 hg w18 hbox hb; have BK297 := AM (hbox); have GW297 : Aside0 (w.heap.size ≤ gb297) := ZS hg; have GE297 : Aside0 (w.heap.size ≤ gb297) := ZS hg; replace HB := ZT HB hb; clear hb hbox hg; have hcz19 := ZC2 w18 BK297; have hfz19 := ZF2 BK297) | (go_at_call 70; (with_reducible refine (impl_Label_70.calls k _ _ l0_0  false _ ?side1 ?side2 A3.out).mono ?_); (case side1 => exact ZQ (Kd.C_below HR0_0.out HB.out)); (case side2 => exact HC0_0.out); rintro e w20 ⟨rfl, hb⟩; replace BK297 := ZW BK297 hb; replace HB := ZT HB hb; clear hb; have hcz21 := ZC2 w20 BK297; have hfz21 := ZF2 BK297) | (go_at_call 73; (with_reducible refine (impl_Prog_stepsOk.calls k _ _ l0_0 _ _ l0_1 _ _ l0_1 3 false _ ?side1 ?side2 ?side3 ?side4 ?side5 ?side6 A8.out).mono ?_); (case side1 => exact ZQ (Kd.C_below HR0_0.out HB.out)); (case side2 => exact HC0_0.out); (case side3 => exact ZQ (Kd.C_below HR0_1.out HB.out)); (case side4 => exact HC0_1.out); (case side5 => exact ZQ (Kd.C_below HR0_1.out HB.out)); (case side6 => exact HC0_1.out); rintro e w22 ⟨rfl, hb⟩; replace BK297 := ZW BK297 hb; replace HB := ZT HB hb; clear hb))
 go_ret
 exact ⟨ZE, ZB⟩)))
 ·(
 rw [if_neg c2] at H
 have c2b0 := decide_eq_false c2
 have c2b1 : decide (l0_0.length ≤ 4) = false := decide_eq_false (by omega)
 clear c2
 obtain rfl := Option.some.inj H
 go_enter Try.func47, Try.ntmps47
 go_wp2_with (first | ((with_reducible refine gate_dst (N := 1) rfl ?_); refine ZX (N := 1) (cs := #[.slice A0_0 l0_0.length c0_0, .slice A0_1 l0_1.length c0_1]) (t := 32) ?_; intro gb297 hg w23 hbox hb; have BK297 := AM (hbox); have GW297 : Aside0 (w.heap.size ≤ gb297) := ZS hg; have GE297 : Aside0 (w.heap.size ≤ gb297) := ZS hg; replace HB := ZT HB hb; clear hb hbox hg; have hcz24 := ZC2 w23 BK297; have hfz24 := ZF2 BK297))
 go_ret
 exact ⟨ZE, ZB⟩)

/-! ### impl_all: function 52 -/
mutual
def impl_all.l0 : Nat → List (S50) → List (S50) → Int → Int → Option ((List (S50)))
 | 0, _, _, _, _ => none
 | k + 1, x3, x6, x7, x8 => if x8 < x7 then (if 0 ≤ x8 then (if x8 < (x6.length : Int) then (if x3.length < 1466015503701 then ((some (x3 ++ [(⟨(rd_T50 x6 x8).f0, (rd_T50 x6 x8).f1, (⟨(rd_T50 x6 x8).f2.f0, (rd_T50 x6 x8).f2.f1, (rd_T50 x6 x8).f2.f2⟩ : S48), (rd_T50 x6 x8).f3, (rd_T50 x6 x8).f4, (rd_T50 x6 x8).f5⟩ : S50)] : List (S50))).bind fun y303 => ((impl_all.f k ((rd_T50 x6 x8).f4)).bind fun t306 => (if y303.length + t306.length < 1466015503701 then ((some (y303 ++ t306 : List (S50))).bind fun y309 => ((impl_all.f k ((rd_T50 x6 x8).f5)).bind fun t312 => (if y309.length + t312.length < 1466015503701 then (impl_all.l0 k (y309 ++ t312) x6 x7 (wrap64 (x8 + 1))) else (none)))) else (none)))) else (none)) else (none)) else (none)) else (some x3)
def impl_all.f : Nat → List (S50) → Option ((List (S50)))
 | 0, _ => none
 | k + 1, l0 => impl_all.l0 k ([] : List (S50)) l0 (l0.length : Int) 0
end
theorem impl_all.calls (k : Nat) : ∀ (P0_ : Nat → Prop) (A0 : Option Addr) (c0 : Nat) (l0 : List (S50)) (r : List (S50)) (w : World) (hs0 : Kd.V k50 50 w w.heap.size (fun k_ => P0_ k_) (.slice A0 l0.length c0) l0) (h : impl_all.f k l0 = some r),
  Calls Try.prog 52 #[.slice A0 l0.length c0] w fun e w' => ∃ v0_ : Value, e = .returned (v0_) ∧ Kd.N k50 50 w' w.heap.size (fun k_ => (P0_ k_ ∨ w.heap.size ≤ k_)) v0_ r ∧ Below w.heap.size w w' := by
 induction k using Nat.strongRecOn with
 | _ k ih =>
 intro P0_ A0 c0 l0 r w hs0 h
 cases k with
 | zero => exact absurd h (by simp [impl_all.f])
 | succ k =>
 simp only [impl_all.f] at h
 have hu50 := Try.underlying50
 have HO0 := AM (show Kd.V k50 50 w w.heap.size (fun k_ => (P0_ k_ ∨ w.heap.size ≤ k_)) (.slice A0 l0.length c0) l0 from Kd.V_mono hs0 (fun k_ hk => .inl hk))
 have HB := AM (Below.refl w.heap.size w)
 have H : (impl_all.l0 k ([] : List (S50)) l0 (l0.length : Int) 0) = some r := h
 clear h
 have H' := AM H
 clear H
 go_enter Try.func52, Try.ntmps52
 go_wp2
 go_loopg [3, 8] k (fun kq v3 v8 w' => ∃ (x3_1 : List (S50)) (x8_1 : Int), v8 = .int .i64 x8_1 ∧ Aside0 (impl_all.l0 kq x3_1 l0 (l0.length : Int) x8_1 = some r) ∧ Aside0 (kq ≤ k) ∧ Aside0 (Kd.N k50 50 w' w.heap.size (fun k_ => (P0_ k_ ∨ w.heap.size ≤ k_)) v3 x3_1) ∧ Aside0 (Kd.V k50 50 w' w.heap.size (fun k_ => (P0_ k_ ∨ w.heap.size ≤ k_) ∧ some k_ ≠ (v3 : Value).ownBlock) (.slice A0 l0.length c0) l0) ∧ Aside0 (Below w.heap.size w w'))
 case atStart => exact ⟨(([] : List (S50))), (0), (by first | rfl | (simp; done) | (simp [*]; done)), H', ⟨Nat.le_refl _⟩, ⟨by first | exact Kd.R_nil _ _ _ _ _ | exact Kd.N_nil _ _ _ _ _ | exact Kd.V_nil _ _ _ _ _ | exact Kd.Q_nil _ _ _ _ _ | exact Kd.S_nil _ _ _ _ _⟩, ⟨by (with_reducible repeat (first | apply Kd.V_alloc | apply Kd.V_drewN | apply Kd.V_drew)); exact Kd.V_mono HO0.out (fun _ hk => ⟨hk, (by simp [Value.ownBlock])⟩)⟩, ⟨ZB⟩⟩
 case round => (
 clear H'
 obtain ⟨x3_1, x8_1, rfl, HA, HK1, HO_3, HO_6, HB⟩ := hrel
 cases gk with
 | zero => exact absurd HA.out (by simp [impl_all.l0])
 | succ k1 =>
  have H := HA.out
  clear HA
  simp only [impl_all.l0] at H
  by_cases c2 : x8_1 < (l0.length : Int)
  ·(
  rw [if_pos c2] at H
  have c2b0 := decide_eq_true c2
  clear c2
  by_cases c3 : 0 ≤ x8_1
  ·(
  rw [if_pos c3] at H
  have c3b0 := decide_eq_true c3
  clear c3
  by_cases c4 : x8_1 < (l0.length : Int)
  ·(
  rw [if_pos c4] at H
  have c4b0 := decide_eq_true c4
  clear c4
  by_cases c5 : x3_1.length < 1466015503701
  ·(
  rw [if_pos c5] at H
  have LMc5 := AM c5
  clear c5
  obtain ⟨y303, hy303⟩ : ∃ y_ : List (S50), y_ = (x3_1 ++ [(⟨(rd_T50 l0 x8_1).f0, (rd_T50 l0 x8_1).f1, (⟨(rd_T50 l0 x8_1).f2.f0, (rd_T50 l0 x8_1).f2.f1, (rd_T50 l0 x8_1).f2.f2⟩ : S48), (rd_T50 l0 x8_1).f3, (rd_T50 l0 x8_1).f4, (rd_T50 l0 x8_1).f5⟩ : S50)]) := ⟨_, rfl⟩
  replace H : ((impl_all.f k1 ((rd_T50 l0 x8_1).f4)).bind fun t306 => (if y303.length + t306.length < 1466015503701 then ((some (y303 ++ t306 : List (S50))).bind fun y309 => ((impl_all.f k1 ((rd_T50 l0 x8_1).f5)).bind fun t312 => (if y309.length + t312.length < 1466015503701 then (impl_all.l0 k1 (y309 ++ t312) l0 (l0.length : Int) (wrap64 (x8_1 + 1))) else (none)))) else (none))) = some r := by first | (rw [hy303]; with_reducible exact H) | (have H2_ := (Option.bind_some _ _).symm.trans H; rw [hy303]; with_reducible exact H2_) | (have H2_ := (Option.bind_some _ _).symm.trans H; with_reducible exact H2_) | with_reducible exact H | (rw [hy303]; exact H) | exact H
  have Ny303 := AM hy303
  clear hy303
  obtain ⟨t306, A6, H⟩ := ZOB H; try dsimp only at H
  by_cases c7 : y303.length + t306.length < 1466015503701
  ·(
  rw [if_pos c7] at H
  have LMc7 := AM c7
  clear c7
  obtain ⟨y309, hy309⟩ : ∃ y_ : List (S50), y_ = (y303 ++ t306) := ⟨_, rfl⟩
  replace H : ((impl_all.f k1 ((rd_T50 l0 x8_1).f5)).bind fun t312 => (if y309.length + t312.length < 1466015503701 then (impl_all.l0 k1 (y309 ++ t312) l0 (l0.length : Int) (wrap64 (x8_1 + 1))) else (none))) = some r := by first | (rw [hy309]; with_reducible exact H) | (have H2_ := (Option.bind_some _ _).symm.trans H; rw [hy309]; with_reducible exact H2_) | (have H2_ := (Option.bind_some _ _).symm.trans H; with_reducible exact H2_) | with_reducible exact H | (rw [hy309]; exact H) | exact H
  have Ny309 := AM hy309
  clear hy309
  obtain ⟨t312, A8, H⟩ := ZOB H; try dsimp only at H
  by_cases c9 : y309.length + t312.length < 1466015503701
  ·(
  rw [if_pos c9] at H
  have LMc9 := AM c9
  clear c9
  obtain ⟨y315, hy315⟩ : ∃ y_ : List (S50), y_ = (y309 ++ t312) := ⟨_, rfl⟩
  replace H : (impl_all.l0 k1 y315 l0 (l0.length : Int) (wrap64 (x8_1 + 1))) = some r := by first | (rw [hy315]; with_reducible exact H) | (have H2_ := (Option.bind_some _ _).symm.trans H; rw [hy315]; with_reducible exact H2_) | (have H2_ := (Option.bind_some _ _).symm.trans H; with_reducible exact H2_) | with_reducible exact H | (rw [hy315]; exact H) | exact H
  have Ny315 := AM hy315
  clear hy315
  have H' := AM H
  clear H
  have p301 : 0 ≤ (x8_1 : Int) := ZD
  have q301 : x8_1 < (l0.length : Int) := ZD
  obtain ⟨ad301, A301_6, c301_6, A301_7, c301_7, e301, hx301_0, hx301_1, hx301_2, hx301_3, hx301_4, hx301_5, hx301_6, hx301_7, hl301_6, hi301_6, hl301_7, hi301_7⟩ := at_T50 (Kd.V_reads' HO_6.out).2.2 x8_1 p301 q301
  cases e301
  obtain ⟨ce301, hce301, hMe301, hcc301⟩ := Kd.V_get HO_6.out z50 x8_1 p301 (by first | exact q301 | exact ZD | (have e_ := (Kd.V_reads' HO_6.out).1; omega))
  obtain ⟨ua301_6, uc301_6, ua301_7, uc301_7, rfl, ul301_6, ge301_6, ul301_7, ge301_7⟩ := k50_openF hMe301
  have hv301_6 := hcc301 6 _ rfl
  rw [add_field _ _ 6 (by omega)] at hv301_6
  replace hv301_6 := Option.some.inj (hv301_6.symm.trans hx301_6)
  injection hv301_6 with hva_ hvn_ hvc_
  rw [hva_] at ge301_6
  rw [hvc_] at ul301_6
  have HL301_6 := AM (show Kd.V k50 50 _ w.heap.size _ _ ((rd_T50 l0 x8_1).f4) from Kd.V_mk ul301_6 ge301_6)
  clear hva_ hvn_ hvc_ ge301_6 ul301_6
  have hv301_7 := hcc301 7 _ rfl
  rw [add_field _ _ 7 (by omega)] at hv301_7
  replace hv301_7 := Option.some.inj (hv301_7.symm.trans hx301_7)
  injection hv301_7 with hva_ hvn_ hvc_
  rw [hva_] at ge301_7
  rw [hvc_] at ul301_7
  have HL301_7 := AM (show Kd.V k50 50 _ w.heap.size _ _ ((rd_T50 l0 x8_1).f5) from Kd.V_mk ul301_7 ge301_7)
  clear hva_ hvn_ hvc_ ge301_7 ul301_7 hcc301 hce301
  have HR301_6 := AM hi301_6
  have HC301_6 := AM hl301_6
  clear hi301_6 hl301_6
  have HR301_7 := AM hi301_7
  have HC301_7 := AM hl301_7
  clear hi301_7 hl301_7
  replace p301 := eq_true p301
  replace q301 := eq_true q301
  go_wp2_with (first | ((with_reducible refine gate_dst (N := 5) rfl ?_); refine ZX (N := 5) (cs := #[.int .i64 0, .int .i64 0, .int .i64 0, .int .i64 0, .int .i64 0, .int .i64 0, .slice none 0 0, .slice none 0 0]) (t := 50) ?_; intro gb302 hg w10 hbox hb; have BK302 := AM (hbox); have GW302 : Aside0 (w.heap.size ≤ gb302) := ZS hg; have GE302 : Aside0 (w.heap.size ≤ gb302) := ZS hg; replace HO_3 := AM (Kd.N_below (Kd.N_elderB (ZRN HO_3.out) gb302 (Nat.le_of_eq hg.symm)) hb); replace HO_6 := AM (Kd.V_below (Kd.V_elderB (ZRV HO_6.out) gb302 (Nat.le_of_eq hg.symm)) hb); replace HL301_6 := AM (Kd.V_below (Kd.V_elderB (ZRV HL301_6.out) gb302 (Nat.le_of_eq hg.symm)) hb); replace HL301_7 := AM (Kd.V_below (Kd.V_elderB (ZRV HL301_7.out) gb302 (Nat.le_of_eq hg.symm)) hb); replace HR301_6 := AM (Kd.C_below (ZQ HR301_6.out) hb); replace HR301_7 := AM (Kd.C_below (ZQ HR301_7.out) hb); replace HB := ZT HB hb; clear hb hbox hg; have hcz11 := ZC8 w10 BK302; have hfz11 := ZF8 BK302) | ((with_reducible refine gate_store (t := 50) (p := 5) rfl ?_); refine store_event (t := 50) (p := 5) (v := ?vo_w12) (w1 := ((((((((w10.setCell ⟨gb302, 0, none⟩ (.int .i64 ((rd_T50 l0 x8_1).f0))).setCell ⟨gb302, 1, none⟩ (.int .i64 ((rd_T50 l0 x8_1).f1))).setCell ⟨gb302, 2, none⟩ (.int .i64 ((rd_T50 l0 x8_1).f2.f0))).setCell ⟨gb302, 3, none⟩ (.int .i64 ((rd_T50 l0 x8_1).f2.f1))).setCell ⟨gb302, 4, none⟩ (.int .i64 ((rd_T50 l0 x8_1).f2.f2))).setCell ⟨gb302, 5, none⟩ (.int .i64 ((rd_T50 l0 x8_1).f3))).setCell ⟨gb302, 6, none⟩ (.slice A301_6 ((rd_T50 l0 x8_1).f4).length c301_6)).setCell ⟨gb302, 7, none⟩ (.slice A301_7 ((rd_T50 l0 x8_1).f5).length c301_7))) ?hg ?ho ?hn ?hr ?_; (case ho => rfl); (case hg => rfl); (case hn => rfl); (case hr => first | (go_simp; done) | (go_simp; rfl)); intro w12 hw; have n0_ : Aside0 (Kd.N k50 50 w12 w.heap.size (fun k_ => (P0_ k_ ∨ w.heap.size ≤ k_) ∧ k_ ≠ gb302) u3 x3_1) := ⟨(by rw [hw]; exact (by (with_reducible repeat (first | apply Kd.N_alloc | apply Kd.N_drewN | apply Kd.N_drew)); exact Kd.N_mono (Kd.N_far (p := ⟨gb302, 7, none⟩) (Kd.N_far (p := ⟨gb302, 6, none⟩) (Kd.N_far (p := ⟨gb302, 5, none⟩) (Kd.N_far (p := ⟨gb302, 4, none⟩) (Kd.N_far (p := ⟨gb302, 3, none⟩) (Kd.N_far (p := ⟨gb302, 2, none⟩) (Kd.N_far (p := ⟨gb302, 1, none⟩) (Kd.N_far (p := ⟨gb302, 0, none⟩) (Kd.N_mono HO_3.out (fun k_ hk => (⟨hk, hk.2⟩ : _ ∧ k_ ≠ gb302))) (fun _ hk => hk.2) (.int .i64 ((rd_T50 l0 x8_1).f0))) (fun _ hk => hk.2) (.int .i64 ((rd_T50 l0 x8_1).f1))) (fun _ hk => hk.2) (.int .i64 ((rd_T50 l0 x8_1).f2.f0))) (fun _ hk => hk.2) (.int .i64 ((rd_T50 l0 x8_1).f2.f1))) (fun _ hk => hk.2) (.int .i64 ((rd_T50 l0 x8_1).f2.f2))) (fun _ hk => hk.2) (.int .i64 ((rd_T50 l0 x8_1).f3))) (fun _ hk => hk.2) (.slice A301_6 ((rd_T50 l0 x8_1).f4).length c301_6)) (fun _ hk => hk.2) (.slice A301_7 ((rd_T50 l0 x8_1).f5).length c301_7)) (fun _ hk => ⟨hk.1.1, hk.1.2⟩)))⟩; have n1_ : Aside0 (Kd.V k50 50 w12 w.heap.size (fun k_ => (P0_ k_ ∨ w.heap.size ≤ k_) ∧ some k_ ≠ (u3 : Value).ownBlock ∧ k_ ≠ gb302) (.slice (some ad301) l0.length c0) l0) := ⟨(by rw [hw]; exact (by (with_reducible repeat (first | apply Kd.V_alloc | apply Kd.V_drewN | apply Kd.V_drew)); exact Kd.V_mono (Kd.V_far (p := ⟨gb302, 7, none⟩) (Kd.V_far (p := ⟨gb302, 6, none⟩) (Kd.V_far (p := ⟨gb302, 5, none⟩) (Kd.V_far (p := ⟨gb302, 4, none⟩) (Kd.V_far (p := ⟨gb302, 3, none⟩) (Kd.V_far (p := ⟨gb302, 2, none⟩) (Kd.V_far (p := ⟨gb302, 1, none⟩) (Kd.V_far (p := ⟨gb302, 0, none⟩) (Kd.V_mono HO_6.out (fun k_ hk => (⟨hk, hk.2⟩ : _ ∧ k_ ≠ gb302))) (fun _ hk => hk.2) (.int .i64 ((rd_T50 l0 x8_1).f0))) (fun _ hk => hk.2) (.int .i64 ((rd_T50 l0 x8_1).f1))) (fun _ hk => hk.2) (.int .i64 ((rd_T50 l0 x8_1).f2.f0))) (fun _ hk => hk.2) (.int .i64 ((rd_T50 l0 x8_1).f2.f1))) (fun _ hk => hk.2) (.int .i64 ((rd_T50 l0 x8_1).f2.f2))) (fun _ hk => hk.2) (.int .i64 ((rd_T50 l0 x8_1).f3))) (fun _ hk => hk.2) (.slice A301_6 ((rd_T50 l0 x8_1).f4).length c301_6)) (fun _ hk => hk.2) (.slice A301_7 ((rd_T50 l0 x8_1).f5).length c301_7)) (fun _ hk => ⟨hk.1.1.1, ⟨hk.1.1.2, hk.1.2⟩⟩)))⟩; have n2_ : Aside0 (Kd.V k50 50 w12 w.heap.size (fun k_ => (P0_ k_ ∨ w.heap.size ≤ k_) ∧ some k_ ≠ (u3 : Value).ownBlock ∧ k_ ≠ gb302) (.slice A301_6 ((rd_T50 l0 x8_1).f4).length c301_6) ((rd_T50 l0 x8_1).f4)) := ⟨(by rw [hw]; exact (by (with_reducible repeat (first | apply Kd.V_alloc | apply Kd.V_drewN | apply Kd.V_drew)); exact Kd.V_mono (Kd.V_far (p := ⟨gb302, 7, none⟩) (Kd.V_far (p := ⟨gb302, 6, none⟩) (Kd.V_far (p := ⟨gb302, 5, none⟩) (Kd.V_far (p := ⟨gb302, 4, none⟩) (Kd.V_far (p := ⟨gb302, 3, none⟩) (Kd.V_far (p := ⟨gb302, 2, none⟩) (Kd.V_far (p := ⟨gb302, 1, none⟩) (Kd.V_far (p := ⟨gb302, 0, none⟩) (Kd.V_mono HL301_6.out (fun k_ hk => (⟨hk, hk.2⟩ : _ ∧ k_ ≠ gb302))) (fun _ hk => hk.2) (.int .i64 ((rd_T50 l0 x8_1).f0))) (fun _ hk => hk.2) (.int .i64 ((rd_T50 l0 x8_1).f1))) (fun _ hk => hk.2) (.int .i64 ((rd_T50 l0 x8_1).f2.f0))) (fun _ hk => hk.2) (.int .i64 ((rd_T50 l0 x8_1).f2.f1))) (fun _ hk => hk.2) (.int .i64 ((rd_T50 l0 x8_1).f2.f2))) (fun _ hk => hk.2) (.int .i64 ((rd_T50 l0 x8_1).f3))) (fun _ hk => hk.2) (.slice A301_6 ((rd_T50 l0 x8_1).f4).length c301_6)) (fun _ hk => hk.2) (.slice A301_7 ((rd_T50 l0 x8_1).f5).length c301_7)) (fun _ hk => ⟨hk.1.1.1, ⟨hk.1.1.2, hk.1.2⟩⟩)))⟩; have n3_ : Aside0 (Kd.V k50 50 w12 w.heap.size (fun k_ => (P0_ k_ ∨ w.heap.size ≤ k_) ∧ some k_ ≠ (u3 : Value).ownBlock ∧ k_ ≠ gb302) (.slice A301_7 ((rd_T50 l0 x8_1).f5).length c301_7) ((rd_T50 l0 x8_1).f5)) := ⟨(by rw [hw]; exact (by (with_reducible repeat (first | apply Kd.V_alloc | apply Kd.V_drewN | apply Kd.V_drew)); exact Kd.V_mono (Kd.V_far (p := ⟨gb302, 7, none⟩) (Kd.V_far (p := ⟨gb302, 6, none⟩) (Kd.V_far (p := ⟨gb302, 5, none⟩) (Kd.V_far (p := ⟨gb302, 4, none⟩) (Kd.V_far (p := ⟨gb302, 3, none⟩) (Kd.V_far (p := ⟨gb302, 2, none⟩) (Kd.V_far (p := ⟨gb302, 1, none⟩) (Kd.V_far (p := ⟨gb302, 0, none⟩) (Kd.V_mono HL301_7.out (fun k_ hk => (⟨hk, hk.2⟩ : _ ∧ k_ ≠ gb302))) (fun _ hk => hk.2) (.int .i64 ((rd_T50 l0 x8_1).f0))) (fun _ hk => hk.2) (.int .i64 ((rd_T50 l0 x8_1).f1))) (fun _ hk => hk.2) (.int .i64 ((rd_T50 l0 x8_1).f2.f0))) (fun _ hk => hk.2) (.int .i64 ((rd_T50 l0 x8_1).f2.f1))) (fun _ hk => hk.2) (.int .i64 ((rd_T50 l0 x8_1).f2.f2))) (fun _ hk => hk.2) (.int .i64 ((rd_T50 l0 x8_1).f3))) (fun _ hk => hk.2) (.slice A301_6 ((rd_T50 l0 x8_1).f4).length c301_6)) (fun _ hk => hk.2) (.slice A301_7 ((rd_T50 l0 x8_1).f5).length c301_7)) (fun _ hk => ⟨hk.1.1.1, ⟨hk.1.1.2, hk.1.2⟩⟩)))⟩; have n4_ : Aside0 (w12.heap[gb302]? = some (.cells #[.int .i64 ((rd_T50 l0 x8_1).f0), .int .i64 ((rd_T50 l0 x8_1).f1), .int .i64 ((rd_T50 l0 x8_1).f2.f0), .int .i64 ((rd_T50 l0 x8_1).f2.f1), .int .i64 ((rd_T50 l0 x8_1).f2.f2), .int .i64 ((rd_T50 l0 x8_1).f3), .slice A301_6 ((rd_T50 l0 x8_1).f4).length c301_6, .slice A301_7 ((rd_T50 l0 x8_1).f5).length c301_7] 50 (0, 0))) := ⟨(by rw [hw]; exact (ZZ BK302.out))⟩; have n5_ : Aside0 (Below w.heap.size w w12) := ⟨(by rw [hw]; exact (ZB))⟩; clear hw HO_3 HO_6 HL301_6 HL301_7 BK302 HB; have HO_3 := n0_; have HO_6 := n1_; have HL301_6 := n2_; have HL301_7 := n3_; have BK302 := n4_; have HB := n5_; clear n0_ n1_ n2_ n3_ n4_ n5_; have hcz13 := ZC8 w12 BK302; have hfz13 := ZF8 BK302) | ((with_reducible refine gate_builtin (b := .append) (xs := #[.tmp 12, .tmp 14]) rfl ?_); at_builtin; refine Kd.N_append k50 (w0 := w) w.heap.size rfl (.tmp 12) (.tmp 14) 30 50 (.agg #[(.int .i64 0), (.int .i64 0), (.int .i64 0), (.int .i64 0), (.int .i64 0), (.int .i64 0), (.slice none 0 0), (.slice none 0 0)]) 96 rfl Try.underlying30 info50 rfl (by decide) (by omega) u3 x3_1 (⟨(rd_T50 l0 x8_1).f0, (rd_T50 l0 x8_1).f1, (⟨(rd_T50 l0 x8_1).f2.f0, (rd_T50 l0 x8_1).f2.f1, (rd_T50 l0 x8_1).f2.f2⟩ : S48), (rd_T50 l0 x8_1).f3, (rd_T50 l0 x8_1).f4, (rd_T50 l0 x8_1).f5⟩ : S50) [.int .i64 ((rd_T50 l0 x8_1).f0), .int .i64 ((rd_T50 l0 x8_1).f1), .int .i64 ((rd_T50 l0 x8_1).f2.f0), .int .i64 ((rd_T50 l0 x8_1).f2.f1), .int .i64 ((rd_T50 l0 x8_1).f2.f2), .int .i64 ((rd_T50 l0 x8_1).f3), .slice A301_6 ((rd_T50 l0 x8_1).f4).length c301_6, .slice A301_7 ((rd_T50 l0 x8_1).f5).length c301_7] (fun k_ => (P0_ k_ ∨ w.heap.size ≤ k_) ∧ k_ ≠ gb302) (fun k_ => ((fun k_ => (P0_ k_ ∨ w.heap.size ≤ k_) ∧ k_ ≠ gb302)) k_ ∧ some k_ ≠ (u3 : Value).ownBlock) rfl rfl ?aP (fun _ hk => hk) ?aF ?aO ?aB ?aS ?aL ?_; (case aP => exact (k50_mkF _ _ (⟨(rd_T50 l0 x8_1).f0, (rd_T50 l0 x8_1).f1, (⟨(rd_T50 l0 x8_1).f2.f0, (rd_T50 l0 x8_1).f2.f1, (rd_T50 l0 x8_1).f2.f2⟩ : S48), (rd_T50 l0 x8_1).f3, (rd_T50 l0 x8_1).f4, (rd_T50 l0 x8_1).f5⟩ : S50) (Kd.V_reads' (Kd.V_mono (ok' := (fun k_ => ((fun k_ => (P0_ k_ ∨ w.heap.size ≤ k_) ∧ k_ ≠ gb302)) k_ ∧ some k_ ≠ (u3 : Value).ownBlock)) (HL301_6.out) (fun k_ hk => ⟨⟨hk.1, hk.2.2⟩, hk.2.1⟩))).2.1 (Kd.V_F (Kd.V_mono (ok' := (fun k_ => ((fun k_ => (P0_ k_ ∨ w.heap.size ≤ k_) ∧ k_ ≠ gb302)) k_ ∧ some k_ ≠ (u3 : Value).ownBlock)) (HL301_6.out) (fun k_ hk => ⟨⟨hk.1, hk.2.2⟩, hk.2.1⟩))) (Kd.V_reads' (Kd.V_mono (ok' := (fun k_ => ((fun k_ => (P0_ k_ ∨ w.heap.size ≤ k_) ∧ k_ ≠ gb302)) k_ ∧ some k_ ≠ (u3 : Value).ownBlock)) (HL301_7.out) (fun k_ hk => ⟨⟨hk.1, hk.2.2⟩, hk.2.1⟩))).2.1 (Kd.V_F (Kd.V_mono (ok' := (fun k_ => ((fun k_ => (P0_ k_ ∨ w.heap.size ≤ k_) ∧ k_ ≠ gb302)) k_ ∧ some k_ ≠ (u3 : Value).ownBlock)) (HL301_7.out) (fun k_ hk => ⟨⟨hk.1, hk.2.2⟩, hk.2.1⟩))))); (case aB => exact (ZB)); (case aF => exact (fun k_ hk => ⟨(.inr (Nat.le_trans (below_size (ZB)) hk)), Kd.freshB (g := gb302) (o := .cells #[.int .i64 ((rd_T50 l0 x8_1).f0), .int .i64 ((rd_T50 l0 x8_1).f1), .int .i64 ((rd_T50 l0 x8_1).f2.f0), .int .i64 ((rd_T50 l0 x8_1).f2.f1), .int .i64 ((rd_T50 l0 x8_1).f2.f2), .int .i64 ((rd_T50 l0 x8_1).f3), .slice A301_6 ((rd_T50 l0 x8_1).f4).length c301_6, .slice A301_7 ((rd_T50 l0 x8_1).f5).length c301_7] 50 (0, 0)) (ZK BK302.out) k_ hk⟩)); (case aO => exact (ZRN HO_3.out)); (case aS => exact (below_size (ZB))); (case aL => have := LMc5.out; omega); intro v304 w14 ho hb hg hat; rw [← Ny303.out] at ho; have n0_ := AM (Kd.V_afterv (ok := (fun k_ => (P0_ k_ ∨ w.heap.size ≤ k_) ∧ k_ ≠ gb302)) (by (with_reducible repeat (first | apply Kd.V_alloc | apply Kd.V_drewN | apply Kd.V_drew)); exact Kd.V_mono HO_6.out (fun _ hk => ⟨⟨hk.1, hk.2.2⟩, hk.2.1⟩)) hg hat); have n1_ := AM (Kd.V_afterv (ok := (fun k_ => (P0_ k_ ∨ w.heap.size ≤ k_) ∧ k_ ≠ gb302)) (by (with_reducible repeat (first | apply Kd.V_alloc | apply Kd.V_drewN | apply Kd.V_drew)); exact Kd.V_mono HL301_6.out (fun _ hk => ⟨⟨hk.1, hk.2.2⟩, hk.2.1⟩)) hg hat); have n2_ := AM (Kd.V_afterv (ok := (fun k_ => (P0_ k_ ∨ w.heap.size ≤ k_) ∧ k_ ≠ gb302)) (by (with_reducible repeat (first | apply Kd.V_alloc | apply Kd.V_drewN | apply Kd.V_drew)); exact Kd.V_mono HL301_7.out (fun _ hk => ⟨⟨hk.1, hk.2.2⟩, hk.2.1⟩)) hg hat); have n3_ := AM (blk_grown (g := gb302) (o := .cells #[.int .i64 ((rd_T50 l0 x8_1).f0), .int .i64 ((rd_T50 l0 x8_1).f1), .int .i64 ((rd_T50 l0 x8_1).f2.f0), .int .i64 ((rd_T50 l0 x8_1).f2.f1), .int .i64 ((rd_T50 l0 x8_1).f2.f2), .int .i64 ((rd_T50 l0 x8_1).f3), .slice A301_6 ((rd_T50 l0 x8_1).f4).length c301_6, .slice A301_7 ((rd_T50 l0 x8_1).f5).length c301_7] 50 (0, 0)) (ZK BK302.out) hg (Kd.N_away HO_3.out (fun _ hk => hk.2))); have n4_ := AM (hb); have n5_ := AM (ho); clear HO_6 HL301_6 HL301_7 BK302 HB HO_3; have HO_6 := n0_; have HL301_6 := n1_; have HL301_7 := n2_; have BK302 := n3_; have HB := n4_; have HO305 := n5_; clear n0_ n1_ n2_ n3_ n4_ n5_ ho hb hg hat; have hcz15 := ZC8 w14 BK302; have hfz15 := ZF8 BK302) | ((with_reducible refine gate_callee (f := 52) rfl ?_); refine ZGL (some 19) Try.func52 #[.slice A301_6 ((rd_T50 l0 x8_1).f4).length c301_6] ?_; (with_reducible refine (ih k1 (by have := HK1.out; omega) (fun k_ => (((P0_ k_ ∨ w.heap.size ≤ k_) ∧ k_ ≠ gb302) ∧ some k_ ≠ (v304 : Value).ownBlock)) _ _ ((rd_T50 l0 x8_1).f4) t306 _ ?side1 A6.out).mono ?_); (case side1 => exact HL301_6.out); rintro e w16 ⟨v307, rfl, ho0, hb⟩; refine ⟨_, rfl, ?_⟩; have HO308 := AM (Kd.N_lower (Kd.N_mono (ok' := fun k_ => (P0_ k_ ∨ w.heap.size ≤ k_) ∧ some k_ ≠ (v304 : Value).ownBlock ∧ k_ ≠ gb302) ho0 (fun k_ hk_ => ⟨Or.elim hk_ (fun hs_ => hs_.1.1) (fun hn_ => (.inr (Nat.le_trans (below_size (ZB)) hn_))), Or.elim hk_ (fun hs_ => hs_.2) (fun hn_ => (Kd.fresh' (Kd.N_lt (ZRN HO305.out)) k_ hn_)), Or.elim hk_ (fun hs_ => hs_.1.2) (fun hn_ => (Kd.freshB (g := gb302) (o := .cells #[.int .i64 ((rd_T50 l0 x8_1).f0), .int .i64 ((rd_T50 l0 x8_1).f1), .int .i64 ((rd_T50 l0 x8_1).f2.f0), .int .i64 ((rd_T50 l0 x8_1).f2.f1), .int .i64 ((rd_T50 l0 x8_1).f2.f2), .int .i64 ((rd_T50 l0 x8_1).f3), .slice A301_6 ((rd_T50 l0 x8_1).f4).length c301_6, .slice A301_7 ((rd_T50 l0 x8_1).f5).length c301_7] 50 (0, 0)) (ZK BK302.out) k_ hn_))⟩)) (below_size (ZB))); replace HO_6 := AM (Kd.V_elder' (ZRV HO_6.out) (Kd.N_base ho0) hb); replace HL301_6 := AM (Kd.V_elder' (ZRV HL301_6.out) (Kd.N_base ho0) hb); replace HL301_7 := AM (Kd.V_elder' (ZRV HL301_7.out) (Kd.N_base ho0) hb); replace HO305 := AM (Kd.N_elder' (ZRN HO305.out) (Kd.N_base ho0) hb); replace BK302 := ZW BK302 hb; replace HB := ZT HB hb; clear hb; (try clear ho0); obtain ⟨Ao18, co18, eo18⟩ := Kd.N_slice HO308.out; subst eo18) | ((with_reducible refine gate_builtin (b := .append) (xs := #[.tmp 16, .tmp 19]) rfl ?_); at_builtin; refine Kd.N_append_rows k50 (w0 := w) w.heap.size rfl (.tmp 16) (.tmp 19) 30 50 (.agg #[(.int .i64 0), (.int .i64 0), (.int .i64 0), (.int .i64 0), (.int .i64 0), (.int .i64 0), (.slice none 0 0), (.slice none 0 0)]) 96 rfl Try.underlying30 info50 rfl (by decide) (by omega) v304 y303 t306 _ _ _ (fun k_ => (P0_ k_ ∨ w.heap.size ≤ k_) ∧ k_ ≠ gb302) (fun k_ => ((fun k_ => (P0_ k_ ∨ w.heap.size ≤ k_) ∧ k_ ≠ gb302)) k_ ∧ some k_ ≠ (v304 : Value).ownBlock) rfl rfl ?aO ?aR (fun _ hk => hk) ?aF ?aB ?aS ?aL ?_; (case aR => exact (by skip; exact Kd.N_F (Kd.N_mono (ok' := (fun k_ => ((fun k_ => (P0_ k_ ∨ w.heap.size ≤ k_) ∧ k_ ≠ gb302)) k_ ∧ some k_ ≠ (v304 : Value).ownBlock)) (HO308.out) (fun k_ hk => ⟨⟨hk.1, hk.2.2⟩, hk.2.1⟩)))); (case aB => exact (ZB)); (case aF => exact (fun k_ hk => ⟨(.inr (Nat.le_trans (below_size (ZB)) hk)), Kd.freshB (g := gb302) (o := .cells #[.int .i64 ((rd_T50 l0 x8_1).f0), .int .i64 ((rd_T50 l0 x8_1).f1), .int .i64 ((rd_T50 l0 x8_1).f2.f0), .int .i64 ((rd_T50 l0 x8_1).f2.f1), .int .i64 ((rd_T50 l0 x8_1).f2.f2), .int .i64 ((rd_T50 l0 x8_1).f3), .slice A301_6 ((rd_T50 l0 x8_1).f4).length c301_6, .slice A301_7 ((rd_T50 l0 x8_1).f5).length c301_7] 50 (0, 0)) (ZK BK302.out) k_ hk⟩)); (case aO => exact (by (with_reducible repeat (first | apply Kd.N_alloc | apply Kd.N_drewN | apply Kd.N_drew)); exact Kd.N_mono HO305.out (fun _ hk => ⟨hk.1.1, hk.1.2⟩))); (case aS => exact (below_size (ZB))); (case aL => have := LMc7.out; omega); intro v310 w17 ho hb hg hat; rw [← Ny309.out] at ho; have n0_ := AM (Kd.V_afterv (ok := (fun k_ => (P0_ k_ ∨ w.heap.size ≤ k_) ∧ some k_ ≠ (.slice Ao18 t306.length co18 : Value).ownBlock ∧ k_ ≠ gb302)) (by (with_reducible repeat (first | apply Kd.V_alloc | apply Kd.V_drewN | apply Kd.V_drew)); exact Kd.V_mono HO_6.out (fun _ hk => ⟨⟨hk.1.1.1, ⟨hk.2, hk.1.1.2⟩⟩, hk.1.2⟩)) hg hat); have n1_ := AM (Kd.V_afterv (ok := (fun k_ => (P0_ k_ ∨ w.heap.size ≤ k_) ∧ some k_ ≠ (.slice Ao18 t306.length co18 : Value).ownBlock ∧ k_ ≠ gb302)) (by (with_reducible repeat (first | apply Kd.V_alloc | apply Kd.V_drewN | apply Kd.V_drew)); exact Kd.V_mono HL301_6.out (fun _ hk => ⟨⟨hk.1.1.1, ⟨hk.2, hk.1.1.2⟩⟩, hk.1.2⟩)) hg hat); have n2_ := AM (Kd.V_afterv (ok := (fun k_ => (P0_ k_ ∨ w.heap.size ≤ k_) ∧ some k_ ≠ (.slice Ao18 t306.length co18 : Value).ownBlock ∧ k_ ≠ gb302)) (by (with_reducible repeat (first | apply Kd.V_alloc | apply Kd.V_drewN | apply Kd.V_drew)); exact Kd.V_mono HL301_7.out (fun _ hk => ⟨⟨hk.1.1.1, ⟨hk.2, hk.1.1.2⟩⟩, hk.1.2⟩)) hg hat); have n3_ := AM (blk_grown (g := gb302) (o := .cells #[.int .i64 ((rd_T50 l0 x8_1).f0), .int .i64 ((rd_T50 l0 x8_1).f1), .int .i64 ((rd_T50 l0 x8_1).f2.f0), .int .i64 ((rd_T50 l0 x8_1).f2.f1), .int .i64 ((rd_T50 l0 x8_1).f2.f2), .int .i64 ((rd_T50 l0 x8_1).f3), .slice A301_6 ((rd_T50 l0 x8_1).f4).length c301_6, .slice A301_7 ((rd_T50 l0 x8_1).f5).length c301_7] 50 (0, 0)) (ZK BK302.out) hg (Kd.N_away HO305.out (fun _ hk => hk.1.2))); have n4_ := AM (Kd.N_afterv (ok := (fun k_ => (P0_ k_ ∨ w.heap.size ≤ k_) ∧ k_ ≠ gb302)) (by (with_reducible repeat (first | apply Kd.N_alloc | apply Kd.N_drewN | apply Kd.N_drew)); exact Kd.N_mono HO308.out (fun _ hk => ⟨⟨hk.1, hk.2.2⟩, hk.2.1⟩)) hg hat); have n5_ := AM (hb); have n6_ := AM (ho); clear HO_6 HL301_6 HL301_7 BK302 HO308 HB HO305; have HO_6 := n0_; have HL301_6 := n1_; have HL301_7 := n2_; have BK302 := n3_; have HO308 := n4_; have HB := n5_; have HO311 := n6_; clear n0_ n1_ n2_ n3_ n4_ n5_ n6_ ho hb hg hat; have hcz19 := ZC8 w17 BK302; have hfz19 := ZF8 BK302) | ((with_reducible refine gate_callee (f := 52) rfl ?_); refine ZGL (some 24) Try.func52 #[.slice A301_7 ((rd_T50 l0 x8_1).f5).length c301_7] ?_; (with_reducible refine (ih k1 (by have := HK1.out; omega) (fun k_ => (((P0_ k_ ∨ w.heap.size ≤ k_) ∧ (some k_ ≠ (.slice Ao18 t306.length co18 : Value).ownBlock ∧ k_ ≠ gb302)) ∧ some k_ ≠ (v310 : Value).ownBlock)) _ _ ((rd_T50 l0 x8_1).f5) t312 _ ?side1 A8.out).mono ?_); (case side1 => exact HL301_7.out); rintro e w20 ⟨v313, rfl, ho0, hb⟩; refine ⟨_, rfl, ?_⟩; have HO314 := AM (Kd.N_lower (Kd.N_mono (ok' := fun k_ => (P0_ k_ ∨ w.heap.size ≤ k_) ∧ some k_ ≠ (.slice Ao18 t306.length co18 : Value).ownBlock ∧ some k_ ≠ (v310 : Value).ownBlock ∧ k_ ≠ gb302) ho0 (fun k_ hk_ => ⟨Or.elim hk_ (fun hs_ => hs_.1.1) (fun hn_ => (.inr (Nat.le_trans (below_size (ZB)) hn_))), Or.elim hk_ (fun hs_ => hs_.1.2.1) (fun hn_ => (Kd.fresh' (Kd.N_lt (ZRN HO308.out)) k_ hn_)), Or.elim hk_ (fun hs_ => hs_.2) (fun hn_ => (Kd.fresh' (Kd.N_lt (ZRN HO311.out)) k_ hn_)), Or.elim hk_ (fun hs_ => hs_.1.2.2) (fun hn_ => (Kd.freshB (g := gb302) (o := .cells #[.int .i64 ((rd_T50 l0 x8_1).f0), .int .i64 ((rd_T50 l0 x8_1).f1), .int .i64 ((rd_T50 l0 x8_1).f2.f0), .int .i64 ((rd_T50 l0 x8_1).f2.f1), .int .i64 ((rd_T50 l0 x8_1).f2.f2), .int .i64 ((rd_T50 l0 x8_1).f3), .slice A301_6 ((rd_T50 l0 x8_1).f4).length c301_6, .slice A301_7 ((rd_T50 l0 x8_1).f5).length c301_7] 50 (0, 0)) (ZK BK302.out) k_ hn_))⟩)) (below_size (ZB))); replace HO_6 := AM (Kd.V_elder' (ZRV HO_6.out) (Kd.N_base ho0) hb); replace HL301_6 := AM (Kd.V_elder' (ZRV HL301_6.out) (Kd.N_base ho0) hb); replace HL301_7 := AM (Kd.V_elder' (ZRV HL301_7.out) (Kd.N_base ho0) hb); replace HO308 := AM (Kd.N_elder' (ZRN HO308.out) (Kd.N_base ho0) hb); replace HO311 := AM (Kd.N_elder' (ZRN HO311.out) (Kd.N_base ho0) hb); replace BK302 := ZW BK302 hb; replace HB := ZT HB hb; clear hb; (try clear ho0); obtain ⟨Ao22, co22, eo22⟩ := Kd.N_slice HO314.out; subst eo22) | ((with_reducible refine gate_builtin (b := .append) (xs := #[.tmp 21, .tmp 24]) rfl ?_); at_builtin; refine Kd.N_append_rows k50 (w0 := w) w.heap.size rfl (.tmp 21) (.tmp 24) 30 50 (.agg #[(.int .i64 0), (.int .i64 0), (.int .i64 0), (.int .i64 0), (.int .i64 0), (.int .i64 0), (.slice none 0 0), (.slice none 0 0)]) 96 rfl Try.underlying30 info50 rfl (by decide) (by omega) v310 y309 t312 _ _ _ (fun k_ => (P0_ k_ ∨ w.heap.size ≤ k_) ∧ k_ ≠ gb302) (fun k_ => ((fun k_ => (P0_ k_ ∨ w.heap.size ≤ k_) ∧ k_ ≠ gb302)) k_ ∧ some k_ ≠ (v310 : Value).ownBlock) rfl rfl ?aO ?aR (fun _ hk => hk) ?aF ?aB ?aS ?aL ?_; (case aR => exact (by skip; exact Kd.N_F (Kd.N_mono (ok' := (fun k_ => ((fun k_ => (P0_ k_ ∨ w.heap.size ≤ k_) ∧ k_ ≠ gb302)) k_ ∧ some k_ ≠ (v310 : Value).ownBlock)) (HO314.out) (fun k_ hk => ⟨⟨hk.1, hk.2.2.2⟩, hk.2.2.1⟩)))); (case aB => exact (ZB)); (case aF => exact (fun k_ hk => ⟨(.inr (Nat.le_trans (below_size (ZB)) hk)), Kd.freshB (g := gb302) (o := .cells #[.int .i64 ((rd_T50 l0 x8_1).f0), .int .i64 ((rd_T50 l0 x8_1).f1), .int .i64 ((rd_T50 l0 x8_1).f2.f0), .int .i64 ((rd_T50 l0 x8_1).f2.f1), .int .i64 ((rd_T50 l0 x8_1).f2.f2), .int .i64 ((rd_T50 l0 x8_1).f3), .slice A301_6 ((rd_T50 l0 x8_1).f4).length c301_6, .slice A301_7 ((rd_T50 l0 x8_1).f5).length c301_7] 50 (0, 0)) (ZK BK302.out) k_ hk⟩)); (case aO => exact (by (with_reducible repeat (first | apply Kd.N_alloc | apply Kd.N_drewN | apply Kd.N_drew)); exact Kd.N_mono HO311.out (fun _ hk => ⟨hk.1.1, hk.1.2⟩))); (case aS => exact (below_size (ZB))); (case aL => have := LMc9.out; omega); intro v316 w21 ho hb hg hat; rw [← Ny315.out] at ho; have n0_ := AM (Kd.V_afterv (ok := (fun k_ => (P0_ k_ ∨ w.heap.size ≤ k_) ∧ some k_ ≠ (.slice Ao18 t306.length co18 : Value).ownBlock ∧ some k_ ≠ (.slice Ao22 t312.length co22 : Value).ownBlock ∧ k_ ≠ gb302)) (by (with_reducible repeat (first | apply Kd.V_alloc | apply Kd.V_drewN | apply Kd.V_drew)); exact Kd.V_mono HO_6.out (fun _ hk => ⟨⟨hk.1.1.1, ⟨hk.1.1.2.1, ⟨hk.2, hk.1.1.2.2⟩⟩⟩, hk.1.2⟩)) hg hat); have n1_ := AM (Kd.V_afterv (ok := (fun k_ => (P0_ k_ ∨ w.heap.size ≤ k_) ∧ some k_ ≠ (.slice Ao18 t306.length co18 : Value).ownBlock ∧ some k_ ≠ (.slice Ao22 t312.length co22 : Value).ownBlock ∧ k_ ≠ gb302)) (by (with_reducible repeat (first | apply Kd.V_alloc | apply Kd.V_drewN | apply Kd.V_drew)); exact Kd.V_mono HL301_6.out (fun _ hk => ⟨⟨hk.1.1.1, ⟨hk.1.1.2.1, ⟨hk.2, hk.1.1.2.2⟩⟩⟩, hk.1.2⟩)) hg hat); have n2_ := AM (Kd.V_afterv (ok := (fun k_ => (P0_ k_ ∨ w.heap.size ≤ k_) ∧ some k_ ≠ (.slice Ao18 t306.length co18 : Value).ownBlock ∧ some k_ ≠ (.slice Ao22 t312.length co22 : Value).ownBlock ∧ k_ ≠ gb302)) (by (with_reducible repeat (first | apply Kd.V_alloc | apply Kd.V_drewN | apply Kd.V_drew)); exact Kd.V_mono HL301_7.out (fun _ hk => ⟨⟨hk.1.1.1, ⟨hk.1.1.2.1, ⟨hk.2, hk.1.1.2.2⟩⟩⟩, hk.1.2⟩)) hg hat); have n3_ := AM (blk_grown (g := gb302) (o := .cells #[.int .i64 ((rd_T50 l0 x8_1).f0), .int .i64 ((rd_T50 l0 x8_1).f1), .int .i64 ((rd_T50 l0 x8_1).f2.f0), .int .i64 ((rd_T50 l0 x8_1).f2.f1), .int .i64 ((rd_T50 l0 x8_1).f2.f2), .int .i64 ((rd_T50 l0 x8_1).f3), .slice A301_6 ((rd_T50 l0 x8_1).f4).length c301_6, .slice A301_7 ((rd_T50 l0 x8_1).f5).length c301_7] 50 (0, 0)) (ZK BK302.out) hg (Kd.N_away HO311.out (fun _ hk => hk.1.2))); have n4_ := AM (Kd.N_afterv (ok := (fun k_ => (P0_ k_ ∨ w.heap.size ≤ k_) ∧ some k_ ≠ (.slice Ao22 t312.length co22 : Value).ownBlock ∧ k_ ≠ gb302)) (by (with_reducible repeat (first | apply Kd.N_alloc | apply Kd.N_drewN | apply Kd.N_drew)); exact Kd.N_mono HO308.out (fun _ hk => ⟨⟨hk.1.1.1, ⟨hk.2, hk.1.1.2⟩⟩, hk.1.2⟩)) hg hat); have n5_ := AM (Kd.N_afterv (ok := (fun k_ => (P0_ k_ ∨ w.heap.size ≤ k_) ∧ some k_ ≠ (.slice Ao18 t306.length co18 : Value).ownBlock ∧ k_ ≠ gb302)) (by (with_reducible repeat (first | apply Kd.N_alloc | apply Kd.N_drewN | apply Kd.N_drew)); exact Kd.N_mono HO314.out (fun _ hk => ⟨⟨hk.1, ⟨hk.2.1, hk.2.2.2⟩⟩, hk.2.2.1⟩)) hg hat); have n6_ := AM (hb); have n7_ := AM (ho); clear HO_6 HL301_6 HL301_7 BK302 HO308 HO314 HB HO311; have HO_6 := n0_; have HL301_6 := n1_; have HL301_7 := n2_; have BK302 := n3_; have HO308 := n4_; have HO314 := n5_; have HB := n6_; have HO317 := n7_; clear n0_ n1_ n2_ n3_ n4_ n5_ n6_ n7_ ho hb hg hat))
  go_roundg k1
  case measure => have := HK1.out; omega
  case rel => exact ⟨(y315), (wrap64 (x8_1 + 1)), (by first | rfl | (simp; done) | (simp [*]; done)), H', ⟨by have := HK1.out; omega⟩, ⟨ZRN (Kd.N_mono HO317.out (fun _ hk => hk.1))⟩, ⟨by (with_reducible repeat (first | apply Kd.V_alloc | apply Kd.V_drewN | apply Kd.V_drew)); exact Kd.V_mono HO_6.out (fun _ hk => ⟨hk.1.1, hk.2⟩)⟩, ⟨ZB⟩⟩)
  ·(
  rw [if_neg c9] at H
  exact absurd H (by simp)))
  ·(
  rw [if_neg c7] at H
  exact absurd H (by simp)))
  ·(
  rw [if_neg c5] at H
  exact absurd H (by simp)))
  ·(
  rw [if_neg c4] at H
  exact absurd H (by simp)))
  ·(
  rw [if_neg c3] at H
  exact absurd H (by simp)))
  ·(
  rw [if_neg c2] at H
  have c2b0 := decide_eq_false c2
  clear c2
  obtain rfl := Option.some.inj H
  go_wp2
  go_ret
  exact ⟨_, ZE, by (with_reducible repeat (first | apply Kd.N_alloc | apply Kd.N_drewN | apply Kd.N_drew)); exact HO_3.out, ZB⟩))

end Go.Proofs.Ytaflodibibbakaa.B
