/- Go functions as Lean functions, and for each its contract; written by wip/tools/pr.py over the kit's print. -/
import Derived.Test.YtaflodibibbakaaBx0
import Derived.Test.YtaflodibibbakaaBx8
import Derived.Test.YtaflodibibbakaaBx9
namespace Go.Proofs.Ytaflodibibbakaa.B
open Go.RowKit Go.Proofs.YtaflodibibbakaaW.PrintWords Go.Proofs.YtaflodibibbakaaW.PrintLast Go.Proofs.YtaflodibibbakaaW.PrintMore
attribute [local go_sem] max2_int min2_int max_two min_two max_three min_three max_four min_four
set_option linter.unusedVariables false
set_option linter.unusedSimpArgs false
set_option maxHeartbeats 8000000
set_option maxRecDepth 100000

/-! ### spec_ProgOk: function 36 -/
def spec_ProgOk.l0 : Nat → Int → List (S60) → List (S50) → Option (Bool)
 | 0, _, _, _ => none
 | k + 1, x3, x213000, x213001 => if x3 < (x213000.length : Int) then (if 0 ≤ x3 then ((spec_LabelOk.f ((rd_T60 x213000 x3).f0) ((rd_T60 x213000 x3).f1)).bind fun t214 => (if t214 = true then (spec_ProgOk.l0 k (wrap64 (x3 + 1)) x213000 x213001) else (some false))) else (none)) else ((spec_l2Steps.f k x213000 x213001 x213001 3).bind fun t215 => (if t215 = true then ((spec_l2Count.f k x213001).bind fun t216 => (some (decide (t216 ≤ 8)))) else (some false)))
def spec_ProgOk.f (k : Nat) (l0_0 : List (S60)) (l0_1 : List (S50)) : Option (Bool) := if (l0_0.length : Int) > 4 then (some false) else (spec_ProgOk.l0 k 0 l0_0 l0_1)
theorem spec_ProgOk.calls (k : Nat) (A0_0 : Option Addr) (c0_0 : Nat) (l0_0 : List (S60)) (A0_1 : Option Addr) (c0_1 : Nat) (l0_1 : List (S50)) (r : Bool) (w : World) (hr0_0 : Kd.C k60 w A0_0 l0_0.length l0_0) (hc0_0 : l0_0.length ≤ c0_0) (hr0_1 : Kd.C k50 w A0_1 l0_1.length l0_1) (hc0_1 : l0_1.length ≤ c0_1) (h : spec_ProgOk.f k l0_0 l0_1 = some r) :
  Calls Try.prog 36 #[.agg #[.slice A0_0 l0_0.length c0_0, .slice A0_1 l0_1.length c0_1]] w fun e w' => e = .returned (.bool r) ∧ Below w.heap.size w w' := by
 have hu32 := Try.underlying32
 have hu60 := Try.underlying60
 have HR0_0 := AM hr0_0
 have HC0_0 := AM hc0_0
 clear hr0_0 hc0_0
 have HR0_1 := AM hr0_1
 have HC0_1 := AM hc0_1
 clear hr0_1 hc0_1
 have HB := AM (Below.refl w.heap.size w)
 have H := h
 unfold spec_ProgOk.f at H
 clear h
 by_cases c2 : (l0_0.length : Int) > 4
 ·(
 rw [if_pos c2] at H
 have c2b0 := decide_eq_true c2
 have c2b1 : decide (4 < l0_0.length) = true := decide_eq_true (by omega)
 clear c2
 obtain rfl := Option.some.inj H
 go_enter Try.func36, Try.ntmps36
 go_wp2_with (first | ((with_reducible refine gate_dst (N := 1) rfl ?_); refine ZX (N := 1) (cs := #[.slice A0_0 l0_0.length c0_0, .slice A0_1 l0_1.length c0_1]) (t := 32) ?_; intro gb212 hg w3 hbox hb; have BK212 := AM (hbox); have GW212 : Aside0 (w.heap.size ≤ gb212) := ZS hg; have GE212 : Aside0 (w.heap.size ≤ gb212) := ZS hg; replace HB := ZT HB hb; clear hb hbox hg; have hcz4 := ZC2 w3 BK212; have hfz4 := ZF2 BK212))
 go_ret
 exact ⟨ZE, ZB⟩)
 ·(
 rw [if_neg c2] at H
 have c2b0 := decide_eq_false c2
 have c2b1 : decide (4 < l0_0.length) = false := decide_eq_false (by omega)
 clear c2
 have H' := AM H
 clear H
 go_enter Try.func36, Try.ntmps36
 go_wp2_with (first | ((with_reducible refine gate_dst (N := 1) rfl ?_); refine ZX (N := 1) (cs := #[.slice A0_0 l0_0.length c0_0, .slice A0_1 l0_1.length c0_1]) (t := 32) ?_; intro gb212 hg w5 hbox hb; have BK212 := AM (hbox); have GW212 : Aside0 (w.heap.size ≤ gb212) := ZS hg; have GE212 : Aside0 (w.heap.size ≤ gb212) := ZS hg; replace HB := ZT HB hb; clear hb hbox hg; have hcz6 := ZC2 w5 BK212; have hfz6 := ZF2 BK212))
 go_loopg [3] k (fun kq v3 w' => ∃ (x3_1 : Int), v3 = .int .i64 x3_1 ∧ Aside0 (spec_ProgOk.l0 kq x3_1 l0_0 l0_1 = some r) ∧ Aside0 (kq ≤ k) ∧ Aside0 (w'.heap[gb212]? = some (.cells #[(.slice A0_0 l0_0.length c0_0), (.slice A0_1 l0_1.length c0_1)] 32 (0, 0))) ∧ Aside0 (Below w.heap.size w w'))
 case atStart => exact ⟨(0), (by first | rfl | (simp; done) | (simp [*]; done)), H', ⟨Nat.le_refl _⟩, ⟨ZK BK212.out⟩, ⟨ZB⟩⟩
 case round => (
 clear H'
 try clear c2
 try clear c2b0
 try clear c2b1
 try clear p2
 try clear c3
 try clear hcz4
 try clear hcz6
 try clear hfz4
 try clear hfz6
 obtain ⟨x3_1, rfl, HA, HK1, BK212, HB⟩ := hrel
 cases gk with
 | zero => exact absurd HA.out (by simp [spec_ProgOk.l0])
 | succ k1 =>
  have H := HA.out
  clear HA
  simp only [spec_ProgOk.l0] at H
  by_cases c7 : x3_1 < (l0_0.length : Int)
  ·(
  rw [if_pos c7] at H
  have c7b0 := decide_eq_true c7
  clear c7
  by_cases c8 : 0 ≤ x3_1
  ·(
  rw [if_pos c8] at H
  have c8b0 := decide_eq_true c8
  clear c8
  obtain ⟨t214, A9, H⟩ := ZOB H; try dsimp only at H
  by_cases c10 : t214 = true
  ·(
  subst c10
  have H1 := H; rw [if_pos rfl] at H1
  clear H
  have H := H1
  clear H1
  have H' := AM H
  clear H
  have hcz11 := ZC2 wr BK212
  have hfz11 := ZF2 BK212
  have p213 : 0 ≤ (x3_1 : Int) := ZD
  have q213 : x3_1 < (l0_0.length : Int) := ZD
  obtain ⟨ad213, e213, hx213_0, hx213_1⟩ := at_T60 HR0_0.out x3_1 p213 q213
  cases e213
  replace hx213_0 := ZHX HB hx213_0
  replace hx213_1 := ZHX HB hx213_1
  replace p213 := eq_true p213
  replace q213 := eq_true q213
  go_wp2_with (first | ((with_reducible refine gate_callee (f := 63) rfl ?_); refine ZGL (some 20) Try.func63 #[.agg #[.int .i64 ((rd_T60 l0_0 x3_1).f0), .int .i64 ((rd_T60 l0_0 x3_1).f1)]] ?_; (with_reducible refine (spec_LabelOk.calls ((rd_T60 l0_0 x3_1).f0) ((rd_T60 l0_0 x3_1).f1) true _ A9.out).mono ?_); rintro e w12 ⟨rfl, hb⟩; refine ⟨_, rfl, ?_⟩; replace BK212 := ZW BK212 hb; replace HB := ZT HB hb; clear hb))
  go_roundg k1
  case measure => have := HK1.out; omega
  case rel => exact ⟨(wrap64 (x3_1 + 1)), (by first | rfl | (simp; done) | (simp [*]; done)), H', ⟨by have := HK1.out; omega⟩, ⟨ZK BK212.out⟩, ⟨ZB⟩⟩)
  ·(
  replace c10 := Bool.eq_false_iff.mpr c10
  subst c10
  have H1 := H; rw [if_neg ZFT] at H1
  clear H
  have H := H1
  clear H1
  obtain rfl := Option.some.inj H
  have hcz13 := ZC2 wr BK212
  have hfz13 := ZF2 BK212
  have p213 : 0 ≤ (x3_1 : Int) := ZD
  have q213 : x3_1 < (l0_0.length : Int) := ZD
  obtain ⟨ad213, e213, hx213_0, hx213_1⟩ := at_T60 HR0_0.out x3_1 p213 q213
  cases e213
  replace hx213_0 := ZHX HB hx213_0
  replace hx213_1 := ZHX HB hx213_1
  replace p213 := eq_true p213
  replace q213 := eq_true q213
  go_wp2_with (first | ((with_reducible refine gate_callee (f := 63) rfl ?_); refine ZGL (some 20) Try.func63 #[.agg #[.int .i64 ((rd_T60 l0_0 x3_1).f0), .int .i64 ((rd_T60 l0_0 x3_1).f1)]] ?_; (with_reducible refine (spec_LabelOk.calls ((rd_T60 l0_0 x3_1).f0) ((rd_T60 l0_0 x3_1).f1) false _ A9.out).mono ?_); rintro e w14 ⟨rfl, hb⟩; refine ⟨_, rfl, ?_⟩; replace BK212 := ZW BK212 hb; replace HB := ZT HB hb; clear hb))
  go_ret
  exact ⟨ZE, ZB⟩))
  ·(
  rw [if_neg c8] at H
  exact absurd H (by simp)))
  ·(
  rw [if_neg c7] at H
  have c7b0 := decide_eq_false c7
  clear c7
  obtain ⟨t215, A15, H⟩ := ZOB H; try dsimp only at H
  by_cases c16 : t215 = true
  ·(
  subst c16
  have H1 := H; rw [if_pos rfl] at H1
  clear H
  have H := H1
  clear H1
  obtain ⟨t216, A17, H⟩ := ZOB H; try dsimp only at H
  obtain rfl := Option.some.inj H
  have hcz18 := ZC2 wr BK212
  have hfz18 := ZF2 BK212
  go_wp2_with (first | ((with_reducible refine gate_callee (f := 64) rfl ?_); refine ZGL (some 25) Try.func64 #[.agg #[.slice A0_0 l0_0.length c0_0, .slice A0_1 l0_1.length c0_1], .slice A0_1 l0_1.length c0_1, .int .i64 3] ?_; (with_reducible refine (spec_l2Steps.calls k1 _ _ l0_0 _ _ l0_1 _ _ l0_1 3 true _ ?side1 ?side2 ?side3 ?side4 ?side5 ?side6 A15.out).mono ?_); (case side1 => exact ZQ (Kd.C_below HR0_0.out HB.out)); (case side2 => exact HC0_0.out); (case side3 => exact ZQ (Kd.C_below HR0_1.out HB.out)); (case side4 => exact HC0_1.out); (case side5 => exact ZQ (Kd.C_below HR0_1.out HB.out)); (case side6 => exact HC0_1.out); rintro e w19 ⟨rfl, hb⟩; refine ⟨_, rfl, ?_⟩; replace BK212 := ZW BK212 hb; replace HB := ZT HB hb; clear hb; have hcz20 := ZC2 w19 BK212; have hfz20 := ZF2 BK212) | (go_at_call 55; (with_reducible refine (spec_l2Count.calls k1 _ _ l0_1 t216 _ ?side1 ?side2 A17.out).mono ?_); (case side1 => exact ZQ (Kd.C_below HR0_1.out HB.out)); (case side2 => exact HC0_1.out); rintro e w21 ⟨rfl, hb⟩; replace BK212 := ZW BK212 hb; replace HB := ZT HB hb; clear hb))
  go_ret
  exact ⟨ZE, ZB⟩)
  ·(
  replace c16 := Bool.eq_false_iff.mpr c16
  subst c16
  have H1 := H; rw [if_neg ZFT] at H1
  clear H
  have H := H1
  clear H1
  obtain rfl := Option.some.inj H
  have hcz22 := ZC2 wr BK212
  have hfz22 := ZF2 BK212
  go_wp2_with (first | ((with_reducible refine gate_callee (f := 64) rfl ?_); refine ZGL (some 25) Try.func64 #[.agg #[.slice A0_0 l0_0.length c0_0, .slice A0_1 l0_1.length c0_1], .slice A0_1 l0_1.length c0_1, .int .i64 3] ?_; (with_reducible refine (spec_l2Steps.calls k1 _ _ l0_0 _ _ l0_1 _ _ l0_1 3 false _ ?side1 ?side2 ?side3 ?side4 ?side5 ?side6 A15.out).mono ?_); (case side1 => exact ZQ (Kd.C_below HR0_0.out HB.out)); (case side2 => exact HC0_0.out); (case side3 => exact ZQ (Kd.C_below HR0_1.out HB.out)); (case side4 => exact HC0_1.out); (case side5 => exact ZQ (Kd.C_below HR0_1.out HB.out)); (case side6 => exact HC0_1.out); rintro e w23 ⟨rfl, hb⟩; refine ⟨_, rfl, ?_⟩; replace BK212 := ZW BK212 hb; replace HB := ZT HB hb; clear hb))
  go_ret
  exact ⟨ZE, ZB⟩))))

/-! ### spec_l2All: function 50 -/
mutual
def spec_l2All.l0 : Nat → List (S50) → List (S50) → Int → Option ((List (S50)))
 | 0, _, _, _ => none
 | k + 1, x0, x3, x4 => if x4 < (x0.length : Int) then (if 0 ≤ x4 then (if x3.length < 1466015503701 then ((some (x3 ++ [(⟨(rd_T50 x0 x4).f0, (rd_T50 x0 x4).f1, (⟨(rd_T50 x0 x4).f2.f0, (rd_T50 x0 x4).f2.f1, (rd_T50 x0 x4).f2.f2⟩ : S48), (rd_T50 x0 x4).f3, (rd_T50 x0 x4).f4, (rd_T50 x0 x4).f5⟩ : S50)] : List (S50))).bind fun y221 => ((spec_l2All.f k ((rd_T50 x0 x4).f4)).bind fun t225 => (if y221.length + t225.length < 1466015503701 then ((some (y221 ++ t225 : List (S50))).bind fun y228 => ((spec_l2All.f k ((rd_T50 x0 x4).f5)).bind fun t232 => (if y228.length + t232.length < 1466015503701 then (spec_l2All.l0 k x0 (y228 ++ t232) (wrap64 (x4 + 1))) else (none)))) else (none)))) else (none)) else (none)) else (some x3)
def spec_l2All.f : Nat → List (S50) → Option ((List (S50)))
 | 0, _ => none
 | k + 1, l0 => spec_l2All.l0 k l0 (([] : List (S50))) 0
end
theorem spec_l2All.calls (k : Nat) : ∀ (P0_ : Nat → Prop) (A0 : Option Addr) (c0 : Nat) (l0 : List (S50)) (r : List (S50)) (w : World) (hs0 : Kd.V k50 50 w w.heap.size (fun k_ => P0_ k_) (.slice A0 l0.length c0) l0) (h : spec_l2All.f k l0 = some r),
  Calls Try.prog 50 #[.slice A0 l0.length c0] w fun e w' => ∃ v0_ : Value, e = .returned (v0_) ∧ Kd.N k50 50 w' w.heap.size (fun k_ => (P0_ k_ ∨ w.heap.size ≤ k_)) v0_ r ∧ Below w.heap.size w w' := by
 induction k using Nat.strongRecOn with
 | _ k ih =>
 intro P0_ A0 c0 l0 r w hs0 h
 cases k with
 | zero => exact absurd h (by simp [spec_l2All.f])
 | succ k =>
 simp only [spec_l2All.f] at h
 have hu50 := Try.underlying50
 have HO0 := AM (show Kd.V k50 50 w w.heap.size (fun k_ => (P0_ k_ ∨ w.heap.size ≤ k_)) (.slice A0 l0.length c0) l0 from Kd.V_mono hs0 (fun k_ hk => .inl hk))
 have HB := AM (Below.refl w.heap.size w)
 have H : (spec_l2All.l0 k l0 (([] : List (S50))) 0) = some r := h
 clear h
 obtain ⟨y217, hy217⟩ : ∃ y_ : List (S50), y_ = (([] : List (S50))) := ⟨_, rfl⟩
 replace H : (spec_l2All.l0 k l0 y217 0) = some r := by first | (rw [hy217]; with_reducible exact H) | (have H2_ := (Option.bind_some _ _).symm.trans H; rw [hy217]; with_reducible exact H2_) | (have H2_ := (Option.bind_some _ _).symm.trans H; with_reducible exact H2_) | with_reducible exact H | (rw [hy217]; exact H) | exact H
 have Ny217 := AM hy217
 clear hy217
 have H' := AM H
 clear H
 go_enter Try.func50, Try.ntmps50
 go_wp2_with (first | ((with_reducible refine gate_dst (N := 5) rfl ?_); refine Kd.N_lit k50 _ 50 ?hg (N' := 5) ?hd (xs := ([] : List (S50))) (inner := []) (ok := (fun k_ => (P0_ k_ ∨ w.heap.size ≤ k_))) (okp := (fun k_ => (P0_ k_ ∨ w.heap.size ≤ k_))) ?hr ?hp (fun _ hk => hk) ((show ∀ k_, w.heap.size ≤ k_ → (fun k_ => (P0_ k_ ∨ w.heap.size ≤ k_)) k_ from fun k_ hk => (.inr (Nat.le_trans (below_size (ZB)) hk))) _ (Nat.le_refl _)) (Below.refl _ _) (Nat.le_refl _) (by simp) ?_; (case hd => rfl); (case hg => rfl); (case hr => first | (go_simp; done) | (go_simp; rfl)); (case hp => exact (Reps.none _ _)); intro v218 w2 ho3 hb hg_ hnew_; clear hg_ hnew_; (first | rw [← Ny217.out] at ho3 | (simp only [Int.reduceToNat] at ho3; rw [← Ny217.out] at ho3)); have HO219 := AM (Kd.N_lower ho3 (below_size (ZB))); replace HO0 := AM (Kd.V_elder' (ZRV HO0.out) (Kd.N_base ho3) hb); replace HB := ZT HB hb; clear hb ho3))
 go_loopg [3, 4] k (fun kq v3 v4 w' => ∃ (x3_1 : List (S50)) (x4_1 : Int), v4 = .int .i64 x4_1 ∧ Aside0 (spec_l2All.l0 kq l0 x3_1 x4_1 = some r) ∧ Aside0 (kq ≤ k) ∧ Aside0 (Kd.V k50 50 w' w.heap.size (fun k_ => (P0_ k_ ∨ w.heap.size ≤ k_) ∧ some k_ ≠ (v3 : Value).ownBlock) (.slice A0 l0.length c0) l0) ∧ Aside0 (Kd.N k50 50 w' w.heap.size (fun k_ => (P0_ k_ ∨ w.heap.size ≤ k_)) v3 x3_1) ∧ Aside0 (Below w.heap.size w w'))
 case atStart => exact ⟨(y217), (0), (by first | rfl | (simp; done) | (simp [*]; done)), H', ⟨Nat.le_refl _⟩, ⟨ZRV HO0.out⟩, ⟨ZRN HO219.out⟩, ⟨ZB⟩⟩
 case round => (
 clear H'
 try clear p2
 obtain ⟨x3_1, x4_1, rfl, HA, HK1, HO_0, HO_3, HB⟩ := hrel
 cases gk with
 | zero => exact absurd HA.out (by simp [spec_l2All.l0])
 | succ k1 =>
  have H := HA.out
  clear HA
  simp only [spec_l2All.l0] at H
  by_cases c4 : x4_1 < (l0.length : Int)
  ·(
  rw [if_pos c4] at H
  have c4b0 := decide_eq_true c4
  clear c4
  by_cases c5 : 0 ≤ x4_1
  ·(
  rw [if_pos c5] at H
  have c5b0 := decide_eq_true c5
  clear c5
  by_cases c6 : x3_1.length < 1466015503701
  ·(
  rw [if_pos c6] at H
  have LMc6 := AM c6
  clear c6
  obtain ⟨y221, hy221⟩ : ∃ y_ : List (S50), y_ = (x3_1 ++ [(⟨(rd_T50 l0 x4_1).f0, (rd_T50 l0 x4_1).f1, (⟨(rd_T50 l0 x4_1).f2.f0, (rd_T50 l0 x4_1).f2.f1, (rd_T50 l0 x4_1).f2.f2⟩ : S48), (rd_T50 l0 x4_1).f3, (rd_T50 l0 x4_1).f4, (rd_T50 l0 x4_1).f5⟩ : S50)]) := ⟨_, rfl⟩
  replace H : ((spec_l2All.f k1 ((rd_T50 l0 x4_1).f4)).bind fun t225 => (if y221.length + t225.length < 1466015503701 then ((some (y221 ++ t225 : List (S50))).bind fun y228 => ((spec_l2All.f k1 ((rd_T50 l0 x4_1).f5)).bind fun t232 => (if y228.length + t232.length < 1466015503701 then (spec_l2All.l0 k1 l0 (y228 ++ t232) (wrap64 (x4_1 + 1))) else (none)))) else (none))) = some r := by first | (rw [hy221]; with_reducible exact H) | (have H2_ := (Option.bind_some _ _).symm.trans H; rw [hy221]; with_reducible exact H2_) | (have H2_ := (Option.bind_some _ _).symm.trans H; with_reducible exact H2_) | with_reducible exact H | (rw [hy221]; exact H) | exact H
  have Ny221 := AM hy221
  clear hy221
  obtain ⟨t225, A7, H⟩ := ZOB H; try dsimp only at H
  by_cases c8 : y221.length + t225.length < 1466015503701
  ·(
  rw [if_pos c8] at H
  have LMc8 := AM c8
  clear c8
  obtain ⟨y228, hy228⟩ : ∃ y_ : List (S50), y_ = (y221 ++ t225) := ⟨_, rfl⟩
  replace H : ((spec_l2All.f k1 ((rd_T50 l0 x4_1).f5)).bind fun t232 => (if y228.length + t232.length < 1466015503701 then (spec_l2All.l0 k1 l0 (y228 ++ t232) (wrap64 (x4_1 + 1))) else (none))) = some r := by first | (rw [hy228]; with_reducible exact H) | (have H2_ := (Option.bind_some _ _).symm.trans H; rw [hy228]; with_reducible exact H2_) | (have H2_ := (Option.bind_some _ _).symm.trans H; with_reducible exact H2_) | with_reducible exact H | (rw [hy228]; exact H) | exact H
  have Ny228 := AM hy228
  clear hy228
  obtain ⟨t232, A9, H⟩ := ZOB H; try dsimp only at H
  by_cases c10 : y228.length + t232.length < 1466015503701
  ·(
  rw [if_pos c10] at H
  have LMc10 := AM c10
  clear c10
  obtain ⟨y235, hy235⟩ : ∃ y_ : List (S50), y_ = (y228 ++ t232) := ⟨_, rfl⟩
  replace H : (spec_l2All.l0 k1 l0 y235 (wrap64 (x4_1 + 1))) = some r := by first | (rw [hy235]; with_reducible exact H) | (have H2_ := (Option.bind_some _ _).symm.trans H; rw [hy235]; with_reducible exact H2_) | (have H2_ := (Option.bind_some _ _).symm.trans H; with_reducible exact H2_) | with_reducible exact H | (rw [hy235]; exact H) | exact H
  have Ny235 := AM hy235
  clear hy235
  have H' := AM H
  clear H
  have p220 : 0 ≤ (x4_1 : Int) := ZD
  have q220 : x4_1 < (l0.length : Int) := ZD
  obtain ⟨ad220, A220_6, c220_6, A220_7, c220_7, e220, hx220_0, hx220_1, hx220_2, hx220_3, hx220_4, hx220_5, hx220_6, hx220_7, hl220_6, hi220_6, hl220_7, hi220_7⟩ := at_T50 (Kd.V_reads' HO_0.out).2.2 x4_1 p220 q220
  cases e220
  obtain ⟨ce220, hce220, hMe220, hcc220⟩ := Kd.V_get HO_0.out z50 x4_1 p220 (by first | exact q220 | exact ZD | (have e_ := (Kd.V_reads' HO_0.out).1; omega))
  obtain ⟨ua220_6, uc220_6, ua220_7, uc220_7, rfl, ul220_6, ge220_6, ul220_7, ge220_7⟩ := k50_openF hMe220
  have hv220_6 := hcc220 6 _ rfl
  rw [add_field _ _ 6 (by omega)] at hv220_6
  replace hv220_6 := Option.some.inj (hv220_6.symm.trans hx220_6)
  injection hv220_6 with hva_ hvn_ hvc_
  rw [hva_] at ge220_6
  rw [hvc_] at ul220_6
  have HL220_6 := AM (show Kd.V k50 50 _ w.heap.size _ _ ((rd_T50 l0 x4_1).f4) from Kd.V_mk ul220_6 ge220_6)
  clear hva_ hvn_ hvc_ ge220_6 ul220_6
  have hv220_7 := hcc220 7 _ rfl
  rw [add_field _ _ 7 (by omega)] at hv220_7
  replace hv220_7 := Option.some.inj (hv220_7.symm.trans hx220_7)
  injection hv220_7 with hva_ hvn_ hvc_
  rw [hva_] at ge220_7
  rw [hvc_] at ul220_7
  have HL220_7 := AM (show Kd.V k50 50 _ w.heap.size _ _ ((rd_T50 l0 x4_1).f5) from Kd.V_mk ul220_7 ge220_7)
  clear hva_ hvn_ hvc_ ge220_7 ul220_7 hcc220 hce220
  have HR220_6 := AM hi220_6
  have HC220_6 := AM hl220_6
  clear hi220_6 hl220_6
  have HR220_7 := AM hi220_7
  have HC220_7 := AM hl220_7
  clear hi220_7 hl220_7
  replace p220 := eq_true p220
  replace q220 := eq_true q220
  go_wp2_with (first | ((with_reducible refine gate_builtin (b := .append) (xs := #[.tmp 12, .tmp 17]) rfl ?_); at_builtin; refine Kd.N_append k50 (w0 := w) w.heap.size rfl (.tmp 12) (.tmp 17) 30 50 (.agg #[(.int .i64 0), (.int .i64 0), (.int .i64 0), (.int .i64 0), (.int .i64 0), (.int .i64 0), (.slice none 0 0), (.slice none 0 0)]) 96 rfl Try.underlying30 info50 rfl (by decide) (by omega) u3 x3_1 (⟨(rd_T50 l0 x4_1).f0, (rd_T50 l0 x4_1).f1, (⟨(rd_T50 l0 x4_1).f2.f0, (rd_T50 l0 x4_1).f2.f1, (rd_T50 l0 x4_1).f2.f2⟩ : S48), (rd_T50 l0 x4_1).f3, (rd_T50 l0 x4_1).f4, (rd_T50 l0 x4_1).f5⟩ : S50) [.int .i64 ((rd_T50 l0 x4_1).f0), .int .i64 ((rd_T50 l0 x4_1).f1), .int .i64 ((rd_T50 l0 x4_1).f2.f0), .int .i64 ((rd_T50 l0 x4_1).f2.f1), .int .i64 ((rd_T50 l0 x4_1).f2.f2), .int .i64 ((rd_T50 l0 x4_1).f3), .slice A220_6 ((rd_T50 l0 x4_1).f4).length c220_6, .slice A220_7 ((rd_T50 l0 x4_1).f5).length c220_7] (fun k_ => (P0_ k_ ∨ w.heap.size ≤ k_)) (fun k_ => ((fun k_ => (P0_ k_ ∨ w.heap.size ≤ k_))) k_ ∧ some k_ ≠ (u3 : Value).ownBlock) rfl rfl ?aP (fun _ hk => hk) ?aF ?aO ?aB ?aS ?aL ?_; (case aP => exact (k50_mkF _ _ (⟨(rd_T50 l0 x4_1).f0, (rd_T50 l0 x4_1).f1, (⟨(rd_T50 l0 x4_1).f2.f0, (rd_T50 l0 x4_1).f2.f1, (rd_T50 l0 x4_1).f2.f2⟩ : S48), (rd_T50 l0 x4_1).f3, (rd_T50 l0 x4_1).f4, (rd_T50 l0 x4_1).f5⟩ : S50) (Kd.V_reads' (Kd.V_mono (ok' := (fun k_ => ((fun k_ => (P0_ k_ ∨ w.heap.size ≤ k_))) k_ ∧ some k_ ≠ (u3 : Value).ownBlock)) (HL220_6.out) (fun k_ hk => ⟨hk.1, hk.2⟩))).2.1 (Kd.V_F (Kd.V_mono (ok' := (fun k_ => ((fun k_ => (P0_ k_ ∨ w.heap.size ≤ k_))) k_ ∧ some k_ ≠ (u3 : Value).ownBlock)) (HL220_6.out) (fun k_ hk => ⟨hk.1, hk.2⟩))) (Kd.V_reads' (Kd.V_mono (ok' := (fun k_ => ((fun k_ => (P0_ k_ ∨ w.heap.size ≤ k_))) k_ ∧ some k_ ≠ (u3 : Value).ownBlock)) (HL220_7.out) (fun k_ hk => ⟨hk.1, hk.2⟩))).2.1 (Kd.V_F (Kd.V_mono (ok' := (fun k_ => ((fun k_ => (P0_ k_ ∨ w.heap.size ≤ k_))) k_ ∧ some k_ ≠ (u3 : Value).ownBlock)) (HL220_7.out) (fun k_ hk => ⟨hk.1, hk.2⟩))))); (case aB => exact (ZB)); (case aF => exact (fun k_ hk => (.inr (Nat.le_trans (below_size (ZB)) hk)))); (case aO => exact (ZRN HO_3.out)); (case aS => exact (below_size (ZB))); (case aL => have := LMc6.out; omega); intro v222 w11 ho hb hg hat; rw [← Ny221.out] at ho; have n0_ := AM (Kd.V_afterv (ok := (fun k_ => (P0_ k_ ∨ w.heap.size ≤ k_))) (ZRV HO_0.out) hg hat); have n1_ := AM (Kd.V_afterv (ok := (fun k_ => (P0_ k_ ∨ w.heap.size ≤ k_))) (ZRV HL220_6.out) hg hat); have n2_ := AM (Kd.V_afterv (ok := (fun k_ => (P0_ k_ ∨ w.heap.size ≤ k_))) (ZRV HL220_7.out) hg hat); have n3_ := AM (hb); have n4_ := AM (ho); clear HO_0 HL220_6 HL220_7 HB HO_3; have HO_0 := n0_; have HL220_6 := n1_; have HL220_7 := n2_; have HB := n3_; have HO223 := n4_; clear n0_ n1_ n2_ n3_ n4_ ho hb hg hat; have p224 : 0 ≤ (x4_1 : Int) := ZD; have q224 : x4_1 < (l0.length : Int) := ZD; obtain ⟨ad224, A224_6, c224_6, A224_7, c224_7, e224, hx224_0, hx224_1, hx224_2, hx224_3, hx224_4, hx224_5, hx224_6, hx224_7, hl224_6, hi224_6, hl224_7, hi224_7⟩ := at_T50 (Kd.V_reads' HO_0.out).2.2 x4_1 p224 q224; obtain rfl : ad220 = ad224 := (by injection e224); obtain ⟨ce224, hce224, hMe224, hcc224⟩ := Kd.V_get HO_0.out z50 x4_1 p224 (by first | exact q224 | exact ZD | (have e_ := (Kd.V_reads' HO_0.out).1; omega)); obtain ⟨ua224_6, uc224_6, ua224_7, uc224_7, rfl, ul224_6, ge224_6, ul224_7, ge224_7⟩ := k50_openF hMe224; have hv224_6 := hcc224 6 _ rfl; rw [add_field _ _ 6 (by omega)] at hv224_6; replace hv224_6 := Option.some.inj (hv224_6.symm.trans hx224_6); injection hv224_6 with hva_ hvn_ hvc_; rw [hva_] at ge224_6; rw [hvc_] at ul224_6; have HL224_6 := AM (show Kd.V k50 50 _ w.heap.size _ _ ((rd_T50 l0 x4_1).f4) from Kd.V_mk ul224_6 ge224_6); clear hva_ hvn_ hvc_ ge224_6 ul224_6; have hv224_7 := hcc224 7 _ rfl; rw [add_field _ _ 7 (by omega)] at hv224_7; replace hv224_7 := Option.some.inj (hv224_7.symm.trans hx224_7); injection hv224_7 with hva_ hvn_ hvc_; rw [hva_] at ge224_7; rw [hvc_] at ul224_7; have HL224_7 := AM (show Kd.V k50 50 _ w.heap.size _ _ ((rd_T50 l0 x4_1).f5) from Kd.V_mk ul224_7 ge224_7); clear hva_ hvn_ hvc_ ge224_7 ul224_7 hcc224 hce224; have HR224_6 := AM hi224_6; have HC224_6 := AM hl224_6; clear hi224_6 hl224_6; have HR224_7 := AM hi224_7; have HC224_7 := AM hl224_7; clear hi224_7 hl224_7; replace p224 := eq_true p224; replace q224 := eq_true q224) | ((with_reducible refine gate_callee (f := 50) rfl ?_); refine ZGL (some 25) Try.func50 #[.slice A224_6 ((rd_T50 l0 x4_1).f4).length c224_6] ?_; (with_reducible refine (ih k1 (by have := HK1.out; omega) (fun k_ => ((P0_ k_ ∨ w.heap.size ≤ k_) ∧ some k_ ≠ (v222 : Value).ownBlock)) _ _ ((rd_T50 l0 x4_1).f4) t225 _ ?side1 A7.out).mono ?_); (case side1 => exact HL224_6.out); rintro e w12 ⟨v226, rfl, ho0, hb⟩; refine ⟨_, rfl, ?_⟩; have HO227 := AM (Kd.N_lower (Kd.N_mono (ok' := fun k_ => (P0_ k_ ∨ w.heap.size ≤ k_) ∧ some k_ ≠ (v222 : Value).ownBlock) ho0 (fun k_ hk_ => ⟨Or.elim hk_ (fun hs_ => hs_.1) (fun hn_ => (.inr (Nat.le_trans (below_size (ZB)) hn_))), Or.elim hk_ (fun hs_ => hs_.2) (fun hn_ => (Kd.fresh' (Kd.N_lt (ZRN HO223.out)) k_ hn_))⟩)) (below_size (ZB))); replace HO_0 := AM (Kd.V_elder' (ZRV HO_0.out) (Kd.N_base ho0) hb); replace HL220_6 := AM (Kd.V_elder' (ZRV HL220_6.out) (Kd.N_base ho0) hb); replace HL220_7 := AM (Kd.V_elder' (ZRV HL220_7.out) (Kd.N_base ho0) hb); replace HO223 := AM (Kd.N_elder' (ZRN HO223.out) (Kd.N_base ho0) hb); replace HL224_6 := AM (Kd.V_elder' (ZRV HL224_6.out) (Kd.N_base ho0) hb); replace HL224_7 := AM (Kd.V_elder' (ZRV HL224_7.out) (Kd.N_base ho0) hb); replace HR224_6 := AM (Kd.C_below (ZQ HR224_6.out) hb); replace HR224_7 := AM (Kd.C_below (ZQ HR224_7.out) hb); replace HB := ZT HB hb; clear hb; (try clear ho0); obtain ⟨Ao14, co14, eo14⟩ := Kd.N_slice HO227.out; subst eo14) | ((with_reducible refine gate_builtin (b := .append) (xs := #[.tmp 19, .tmp 25]) rfl ?_); at_builtin; refine Kd.N_append_rows k50 (w0 := w) w.heap.size rfl (.tmp 19) (.tmp 25) 30 50 (.agg #[(.int .i64 0), (.int .i64 0), (.int .i64 0), (.int .i64 0), (.int .i64 0), (.int .i64 0), (.slice none 0 0), (.slice none 0 0)]) 96 rfl Try.underlying30 info50 rfl (by decide) (by omega) v222 y221 t225 _ _ _ (fun k_ => (P0_ k_ ∨ w.heap.size ≤ k_)) (fun k_ => ((fun k_ => (P0_ k_ ∨ w.heap.size ≤ k_))) k_ ∧ some k_ ≠ (v222 : Value).ownBlock) rfl rfl ?aO ?aR (fun _ hk => hk) ?aF ?aB ?aS ?aL ?_; (case aR => exact (by skip; exact Kd.N_F (Kd.N_mono (ok' := (fun k_ => ((fun k_ => (P0_ k_ ∨ w.heap.size ≤ k_))) k_ ∧ some k_ ≠ (v222 : Value).ownBlock)) (HO227.out) (fun k_ hk => ⟨hk.1, hk.2⟩)))); (case aB => exact (ZB)); (case aF => exact (fun k_ hk => (.inr (Nat.le_trans (below_size (ZB)) hk)))); (case aO => exact (ZRN (Kd.N_mono HO223.out (fun _ hk => hk.1)))); (case aS => exact (below_size (ZB))); (case aL => have := LMc8.out; omega); intro v229 w13 ho hb hg hat; rw [← Ny228.out] at ho; have n0_ := AM (Kd.V_afterv (ok := (fun k_ => (P0_ k_ ∨ w.heap.size ≤ k_) ∧ some k_ ≠ (.slice Ao14 t225.length co14 : Value).ownBlock)) (by (with_reducible repeat (first | apply Kd.V_alloc | apply Kd.V_drewN | apply Kd.V_drew)); exact Kd.V_mono HO_0.out (fun _ hk => ⟨⟨hk.1.1, hk.2⟩, hk.1.2⟩)) hg hat); have n1_ := AM (Kd.V_afterv (ok := (fun k_ => (P0_ k_ ∨ w.heap.size ≤ k_) ∧ some k_ ≠ (.slice Ao14 t225.length co14 : Value).ownBlock)) (by (with_reducible repeat (first | apply Kd.V_alloc | apply Kd.V_drewN | apply Kd.V_drew)); exact Kd.V_mono HL220_6.out (fun _ hk => ⟨⟨hk.1.1, hk.2⟩, hk.1.2⟩)) hg hat); have n2_ := AM (Kd.V_afterv (ok := (fun k_ => (P0_ k_ ∨ w.heap.size ≤ k_) ∧ some k_ ≠ (.slice Ao14 t225.length co14 : Value).ownBlock)) (by (with_reducible repeat (first | apply Kd.V_alloc | apply Kd.V_drewN | apply Kd.V_drew)); exact Kd.V_mono HL220_7.out (fun _ hk => ⟨⟨hk.1.1, hk.2⟩, hk.1.2⟩)) hg hat); have n3_ := AM (Kd.V_afterv (ok := (fun k_ => (P0_ k_ ∨ w.heap.size ≤ k_) ∧ some k_ ≠ (.slice Ao14 t225.length co14 : Value).ownBlock)) (by (with_reducible repeat (first | apply Kd.V_alloc | apply Kd.V_drewN | apply Kd.V_drew)); exact Kd.V_mono HL224_6.out (fun _ hk => ⟨⟨hk.1.1, hk.2⟩, hk.1.2⟩)) hg hat); have n4_ := AM (Kd.V_afterv (ok := (fun k_ => (P0_ k_ ∨ w.heap.size ≤ k_) ∧ some k_ ≠ (.slice Ao14 t225.length co14 : Value).ownBlock)) (by (with_reducible repeat (first | apply Kd.V_alloc | apply Kd.V_drewN | apply Kd.V_drew)); exact Kd.V_mono HL224_7.out (fun _ hk => ⟨⟨hk.1.1, hk.2⟩, hk.1.2⟩)) hg hat); have n5_ := AM (Kd.N_afterv (ok := (fun k_ => (P0_ k_ ∨ w.heap.size ≤ k_))) (ZRN HO227.out) hg hat); have n6_ := AM (hb); have n7_ := AM (ho); clear HO_0 HL220_6 HL220_7 HL224_6 HL224_7 HO227 HB HO223; have HO_0 := n0_; have HL220_6 := n1_; have HL220_7 := n2_; have HL224_6 := n3_; have HL224_7 := n4_; have HO227 := n5_; have HB := n6_; have HO230 := n7_; clear n0_ n1_ n2_ n3_ n4_ n5_ n6_ n7_ ho hb hg hat; have p231 : 0 ≤ (x4_1 : Int) := ZD; have q231 : x4_1 < (l0.length : Int) := ZD; obtain ⟨ad231, A231_6, c231_6, A231_7, c231_7, e231, hx231_0, hx231_1, hx231_2, hx231_3, hx231_4, hx231_5, hx231_6, hx231_7, hl231_6, hi231_6, hl231_7, hi231_7⟩ := at_T50 (Kd.V_reads' HO_0.out).2.2 x4_1 p231 q231; obtain rfl : ad220 = ad231 := (by injection e231); obtain ⟨ce231, hce231, hMe231, hcc231⟩ := Kd.V_get HO_0.out z50 x4_1 p231 (by first | exact q231 | exact ZD | (have e_ := (Kd.V_reads' HO_0.out).1; omega)); obtain ⟨ua231_6, uc231_6, ua231_7, uc231_7, rfl, ul231_6, ge231_6, ul231_7, ge231_7⟩ := k50_openF hMe231; have hv231_6 := hcc231 6 _ rfl; rw [add_field _ _ 6 (by omega)] at hv231_6; replace hv231_6 := Option.some.inj (hv231_6.symm.trans hx231_6); injection hv231_6 with hva_ hvn_ hvc_; rw [hva_] at ge231_6; rw [hvc_] at ul231_6; have HL231_6 := AM (show Kd.V k50 50 _ w.heap.size _ _ ((rd_T50 l0 x4_1).f4) from Kd.V_mk ul231_6 ge231_6); clear hva_ hvn_ hvc_ ge231_6 ul231_6; have hv231_7 := hcc231 7 _ rfl; rw [add_field _ _ 7 (by omega)] at hv231_7; replace hv231_7 := Option.some.inj (hv231_7.symm.trans hx231_7); injection hv231_7 with hva_ hvn_ hvc_; rw [hva_] at ge231_7; rw [hvc_] at ul231_7; have HL231_7 := AM (show Kd.V k50 50 _ w.heap.size _ _ ((rd_T50 l0 x4_1).f5) from Kd.V_mk ul231_7 ge231_7); clear hva_ hvn_ hvc_ ge231_7 ul231_7 hcc231 hce231; have HR231_6 := AM hi231_6; have HC231_6 := AM hl231_6; clear hi231_6 hl231_6; have HR231_7 := AM hi231_7; have HC231_7 := AM hl231_7; clear hi231_7 hl231_7; replace p231 := eq_true p231; replace q231 := eq_true q231) | ((with_reducible refine gate_callee (f := 50) rfl ?_); refine ZGL (some 33) Try.func50 #[.slice A231_7 ((rd_T50 l0 x4_1).f5).length c231_7] ?_; (with_reducible refine (ih k1 (by have := HK1.out; omega) (fun k_ => (((P0_ k_ ∨ w.heap.size ≤ k_) ∧ some k_ ≠ (.slice Ao14 t225.length co14 : Value).ownBlock) ∧ some k_ ≠ (v229 : Value).ownBlock)) _ _ ((rd_T50 l0 x4_1).f5) t232 _ ?side1 A9.out).mono ?_); (case side1 => exact HL231_7.out); rintro e w15 ⟨v233, rfl, ho0, hb⟩; refine ⟨_, rfl, ?_⟩; have HO234 := AM (Kd.N_lower (Kd.N_mono (ok' := fun k_ => (P0_ k_ ∨ w.heap.size ≤ k_) ∧ some k_ ≠ (.slice Ao14 t225.length co14 : Value).ownBlock ∧ some k_ ≠ (v229 : Value).ownBlock) ho0 (fun k_ hk_ => ⟨Or.elim hk_ (fun hs_ => hs_.1.1) (fun hn_ => (.inr (Nat.le_trans (below_size (ZB)) hn_))), Or.elim hk_ (fun hs_ => hs_.1.2) (fun hn_ => (Kd.fresh' (Kd.N_lt (ZRN HO227.out)) k_ hn_)), Or.elim hk_ (fun hs_ => hs_.2) (fun hn_ => (Kd.fresh' (Kd.N_lt (ZRN HO230.out)) k_ hn_))⟩)) (below_size (ZB))); replace HO_0 := AM (Kd.V_elder' (ZRV HO_0.out) (Kd.N_base ho0) hb); replace HL220_6 := AM (Kd.V_elder' (ZRV HL220_6.out) (Kd.N_base ho0) hb); replace HL220_7 := AM (Kd.V_elder' (ZRV HL220_7.out) (Kd.N_base ho0) hb); replace HL224_6 := AM (Kd.V_elder' (ZRV HL224_6.out) (Kd.N_base ho0) hb); replace HL224_7 := AM (Kd.V_elder' (ZRV HL224_7.out) (Kd.N_base ho0) hb); replace HO227 := AM (Kd.N_elder' (ZRN HO227.out) (Kd.N_base ho0) hb); replace HO230 := AM (Kd.N_elder' (ZRN HO230.out) (Kd.N_base ho0) hb); replace HL231_6 := AM (Kd.V_elder' (ZRV HL231_6.out) (Kd.N_base ho0) hb); replace HL231_7 := AM (Kd.V_elder' (ZRV HL231_7.out) (Kd.N_base ho0) hb); replace HR231_6 := AM (Kd.C_below (ZQ HR231_6.out) hb); replace HR231_7 := AM (Kd.C_below (ZQ HR231_7.out) hb); replace HB := ZT HB hb; clear hb; (try clear ho0); obtain ⟨Ao17, co17, eo17⟩ := Kd.N_slice HO234.out; subst eo17) | ((with_reducible refine gate_builtin (b := .append) (xs := #[.tmp 27, .tmp 33]) rfl ?_); at_builtin; refine Kd.N_append_rows k50 (w0 := w) w.heap.size rfl (.tmp 27) (.tmp 33) 30 50 (.agg #[(.int .i64 0), (.int .i64 0), (.int .i64 0), (.int .i64 0), (.int .i64 0), (.int .i64 0), (.slice none 0 0), (.slice none 0 0)]) 96 rfl Try.underlying30 info50 rfl (by decide) (by omega) v229 y228 t232 _ _ _ (fun k_ => (P0_ k_ ∨ w.heap.size ≤ k_)) (fun k_ => ((fun k_ => (P0_ k_ ∨ w.heap.size ≤ k_))) k_ ∧ some k_ ≠ (v229 : Value).ownBlock) rfl rfl ?aO ?aR (fun _ hk => hk) ?aF ?aB ?aS ?aL ?_; (case aR => exact (by skip; exact Kd.N_F (Kd.N_mono (ok' := (fun k_ => ((fun k_ => (P0_ k_ ∨ w.heap.size ≤ k_))) k_ ∧ some k_ ≠ (v229 : Value).ownBlock)) (HO234.out) (fun k_ hk => ⟨hk.1, hk.2.2⟩)))); (case aB => exact (ZB)); (case aF => exact (fun k_ hk => (.inr (Nat.le_trans (below_size (ZB)) hk)))); (case aO => exact (ZRN (Kd.N_mono HO230.out (fun _ hk => hk.1)))); (case aS => exact (below_size (ZB))); (case aL => have := LMc10.out; omega); intro v236 w16 ho hb hg hat; rw [← Ny235.out] at ho; have n0_ := AM (Kd.V_afterv (ok := (fun k_ => (P0_ k_ ∨ w.heap.size ≤ k_) ∧ some k_ ≠ (.slice Ao14 t225.length co14 : Value).ownBlock ∧ some k_ ≠ (.slice Ao17 t232.length co17 : Value).ownBlock)) (by (with_reducible repeat (first | apply Kd.V_alloc | apply Kd.V_drewN | apply Kd.V_drew)); exact Kd.V_mono HO_0.out (fun _ hk => ⟨⟨hk.1.1.1, ⟨hk.1.1.2, hk.2⟩⟩, hk.1.2⟩)) hg hat); have n1_ := AM (Kd.V_afterv (ok := (fun k_ => (P0_ k_ ∨ w.heap.size ≤ k_) ∧ some k_ ≠ (.slice Ao14 t225.length co14 : Value).ownBlock ∧ some k_ ≠ (.slice Ao17 t232.length co17 : Value).ownBlock)) (by (with_reducible repeat (first | apply Kd.V_alloc | apply Kd.V_drewN | apply Kd.V_drew)); exact Kd.V_mono HL220_6.out (fun _ hk => ⟨⟨hk.1.1.1, ⟨hk.1.1.2, hk.2⟩⟩, hk.1.2⟩)) hg hat); have n2_ := AM (Kd.V_afterv (ok := (fun k_ => (P0_ k_ ∨ w.heap.size ≤ k_) ∧ some k_ ≠ (.slice Ao14 t225.length co14 : Value).ownBlock ∧ some k_ ≠ (.slice Ao17 t232.length co17 : Value).ownBlock)) (by (with_reducible repeat (first | apply Kd.V_alloc | apply Kd.V_drewN | apply Kd.V_drew)); exact Kd.V_mono HL220_7.out (fun _ hk => ⟨⟨hk.1.1.1, ⟨hk.1.1.2, hk.2⟩⟩, hk.1.2⟩)) hg hat); have n3_ := AM (Kd.V_afterv (ok := (fun k_ => (P0_ k_ ∨ w.heap.size ≤ k_) ∧ some k_ ≠ (.slice Ao14 t225.length co14 : Value).ownBlock ∧ some k_ ≠ (.slice Ao17 t232.length co17 : Value).ownBlock)) (by (with_reducible repeat (first | apply Kd.V_alloc | apply Kd.V_drewN | apply Kd.V_drew)); exact Kd.V_mono HL224_6.out (fun _ hk => ⟨⟨hk.1.1.1, ⟨hk.1.1.2, hk.2⟩⟩, hk.1.2⟩)) hg hat); have n4_ := AM (Kd.V_afterv (ok := (fun k_ => (P0_ k_ ∨ w.heap.size ≤ k_) ∧ some k_ ≠ (.slice Ao14 t225.length co14 : Value).ownBlock ∧ some k_ ≠ (.slice Ao17 t232.length co17 : Value).ownBlock)) (by (with_reducible repeat (first | apply Kd.V_alloc | apply Kd.V_drewN | apply Kd.V_drew)); exact Kd.V_mono HL224_7.out (fun _ hk => ⟨⟨hk.1.1.1, ⟨hk.1.1.2, hk.2⟩⟩, hk.1.2⟩)) hg hat); have n5_ := AM (Kd.N_afterv (ok := (fun k_ => (P0_ k_ ∨ w.heap.size ≤ k_) ∧ some k_ ≠ (.slice Ao17 t232.length co17 : Value).ownBlock)) (by (with_reducible repeat (first | apply Kd.N_alloc | apply Kd.N_drewN | apply Kd.N_drew)); exact Kd.N_mono HO227.out (fun _ hk => ⟨⟨hk.1.1, hk.2⟩, hk.1.2⟩)) hg hat); have n6_ := AM (Kd.V_afterv (ok := (fun k_ => (P0_ k_ ∨ w.heap.size ≤ k_) ∧ some k_ ≠ (.slice Ao14 t225.length co14 : Value).ownBlock ∧ some k_ ≠ (.slice Ao17 t232.length co17 : Value).ownBlock)) (by (with_reducible repeat (first | apply Kd.V_alloc | apply Kd.V_drewN | apply Kd.V_drew)); exact Kd.V_mono HL231_6.out (fun _ hk => ⟨⟨hk.1.1.1, ⟨hk.1.1.2, hk.2⟩⟩, hk.1.2⟩)) hg hat); have n7_ := AM (Kd.V_afterv (ok := (fun k_ => (P0_ k_ ∨ w.heap.size ≤ k_) ∧ some k_ ≠ (.slice Ao14 t225.length co14 : Value).ownBlock ∧ some k_ ≠ (.slice Ao17 t232.length co17 : Value).ownBlock)) (by (with_reducible repeat (first | apply Kd.V_alloc | apply Kd.V_drewN | apply Kd.V_drew)); exact Kd.V_mono HL231_7.out (fun _ hk => ⟨⟨hk.1.1.1, ⟨hk.1.1.2, hk.2⟩⟩, hk.1.2⟩)) hg hat); have n8_ := AM (Kd.N_afterv (ok := (fun k_ => (P0_ k_ ∨ w.heap.size ≤ k_) ∧ some k_ ≠ (.slice Ao14 t225.length co14 : Value).ownBlock)) (by (with_reducible repeat (first | apply Kd.N_alloc | apply Kd.N_drewN | apply Kd.N_drew)); exact Kd.N_mono HO234.out (fun _ hk => ⟨⟨hk.1, hk.2.1⟩, hk.2.2⟩)) hg hat); have n9_ := AM (hb); have n10_ := AM (ho); clear HO_0 HL220_6 HL220_7 HL224_6 HL224_7 HO227 HL231_6 HL231_7 HO234 HB HO230; have HO_0 := n0_; have HL220_6 := n1_; have HL220_7 := n2_; have HL224_6 := n3_; have HL224_7 := n4_; have HO227 := n5_; have HL231_6 := n6_; have HL231_7 := n7_; have HO234 := n8_; have HB := n9_; have HO237 := n10_; clear n0_ n1_ n2_ n3_ n4_ n5_ n6_ n7_ n8_ n9_ n10_ ho hb hg hat))
  go_roundg k1
  case measure => have := HK1.out; omega
  case rel => exact ⟨(y235), (wrap64 (x4_1 + 1)), (by first | rfl | (simp; done) | (simp [*]; done)), H', ⟨by have := HK1.out; omega⟩, ⟨by (with_reducible repeat (first | apply Kd.V_alloc | apply Kd.V_drewN | apply Kd.V_drew)); exact Kd.V_mono HO_0.out (fun _ hk => ⟨hk.1.1, hk.2⟩)⟩, ⟨ZRN HO237.out⟩, ⟨ZB⟩⟩)
  ·(
  rw [if_neg c10] at H
  exact absurd H (by simp)))
  ·(
  rw [if_neg c8] at H
  exact absurd H (by simp)))
  ·(
  rw [if_neg c6] at H
  exact absurd H (by simp)))
  ·(
  rw [if_neg c5] at H
  exact absurd H (by simp)))
  ·(
  rw [if_neg c4] at H
  have c4b0 := decide_eq_false c4
  clear c4
  obtain rfl := Option.some.inj H
  go_wp2
  go_ret
  exact ⟨_, ZE, by (with_reducible repeat (first | apply Kd.N_alloc | apply Kd.N_drewN | apply Kd.N_drew)); exact HO_3.out, ZB⟩))

end Go.Proofs.Ytaflodibibbakaa.B
