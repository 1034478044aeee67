/- Go functions as Lean functions, and for each its contract; written by wip/tools/pr.py over the kit's print. -/
import Derived.Test.YtkkdeojbkfjlpaaAx0
import Derived.Test.YtkkdeojbkfjlpaaAx2
import Derived.Test.YtkkdeojbkfjlpaaAx4
namespace Go.Proofs.Ytkkdeojbkfjlpaa.A
open Go.RowKit Go.Proofs.YtkkdeojbkfjlpaaW.PrintWords Go.Proofs.YtkkdeojbkfjlpaaW.PrintLast Go.Proofs.YtkkdeojbkfjlpaaW.PrintMore
attribute [local go_sem] max2_int min2_int max_two min_two max_three min_three max_four min_four
set_option linter.unusedVariables false
set_option linter.unusedSimpArgs false
set_option maxHeartbeats 8000000
set_option maxRecDepth 100000

/-! ### impl_ProgOk: function 25 -/
def impl_ProgOk.f (k : Nat) (l0_0 : List (S35)) (l0_1 : List (S40)) : Option (Bool) := if (l0_0.length : Int) ≤ 4 then ((impl_Label_48.f k l0_0).bind fun t135 => (if t135 = true then (some false) else ((impl_Prog_stepsOk.f k l0_0 l0_1 l0_1 3).bind fun t136 => (if t136 = true then ((impl_size.f k l0_1).bind fun t137 => (some (decide (t137 ≤ 8)))) else (some false))))) else (some false)
theorem impl_ProgOk.calls (k : Nat) (A0_0 : Option Addr) (c0_0 : Nat) (l0_0 : List (S35)) (A0_1 : Option Addr) (c0_1 : Nat) (l0_1 : List (S40)) (r : Bool) (w : World) (hr0_0 : Kd.C k35 w A0_0 l0_0.length l0_0) (hc0_0 : l0_0.length ≤ c0_0) (hr0_1 : Kd.C k40 w A0_1 l0_1.length l0_1) (hc0_1 : l0_1.length ≤ c0_1) (h : impl_ProgOk.f k l0_0 l0_1 = some r) :
  Calls Try.prog 25 #[.agg #[.slice A0_0 l0_0.length c0_0, .slice A0_1 l0_1.length c0_1]] w fun e w' => e = .returned (.bool r) ∧ Below w.heap.size w w' := by
 have hu26 := Try.underlying26
 have HR0_0 := AM hr0_0
 have HC0_0 := AM hc0_0
 clear hr0_0 hc0_0
 have HR0_1 := AM hr0_1
 have HC0_1 := AM hc0_1
 clear hr0_1 hc0_1
 have HB := AM (Below.refl w.heap.size w)
 have H := h
 unfold impl_ProgOk.f at H
 clear h
 by_cases c2 : (l0_0.length : Int) ≤ 4
 ·(
 rw [if_pos c2] at H
 have c2b0 := decide_eq_true c2
 have c2b1 : decide (l0_0.length ≤ 4) = true := decide_eq_true (by omega)
 clear c2
 obtain ⟨t135, A3, H⟩ := ZOB H; try dsimp only at H
 by_cases c4 : t135 = true
 ·(
 subst c4
 have H1 := H; rw [if_pos rfl] at H1
 clear H
 have H := H1
 clear H1
 obtain rfl := Option.some.inj H
 go_enter Try.func25, Try.ntmps25
 go_wp2_with (first | ((with_reducible refine gate_dst (N := 1) rfl ?_); refine ZXW w (N := 1) (cs := #[.slice A0_0 l0_0.length c0_0, .slice A0_1 l0_1.length c0_1]) (t := 26) ?_; intro gb134 hg w5 BK134 GW134 hb; replace HB := ZT HB hb; clear hb hg; have hcz6 := ZC2 w5 BK134) | (go_at_call 48; (with_reducible refine (impl_Label_48.calls k _ _ l0_0  true _ (ZQ (Kd.C_below HR0_0.out HB.out)) HC0_0.out A3.out).mono ?_); rintro e w7 ⟨rfl, hb⟩; replace BK134 := ZW BK134 hb; replace HB := ZT HB hb; clear hb))
 go_ret
 exact ⟨ZE, ZB⟩)
 ·(
 replace c4 := Bool.eq_false_iff.mpr c4
 subst c4
 have H1 := H; rw [if_neg ZFT] at H1
 clear H
 have H := H1
 clear H1
 obtain ⟨t136, A8, H⟩ := ZOB H; try dsimp only at H
 by_cases c9 : t136 = true
 ·(
 subst c9
 have H1 := H; rw [if_pos rfl] at H1
 clear H
 have H := H1
 clear H1
 obtain ⟨t137, A10, H⟩ := ZOB H; try dsimp only at H
 obtain rfl := Option.some.inj H
 go_enter Try.func25, Try.ntmps25
 go_wp2_with (first | ((with_reducible refine gate_dst (N := 1) rfl ?_); refine ZXW w (N := 1) (cs := #[.slice A0_0 l0_0.length c0_0, .slice A0_1 l0_1.length c0_1]) (t := 26) ?_; intro gb134 hg w11 BK134 GW134 hb; replace HB := ZT HB hb; clear hb hg; have hcz12 := ZC2 w11 BK134) | (go_at_call 48; (with_reducible refine (impl_Label_48.calls k _ _ l0_0  false _ (ZQ (Kd.C_below HR0_0.out HB.out)) HC0_0.out A3.out).mono ?_); rintro e w13 ⟨rfl, hb⟩; replace BK134 := ZW BK134 hb; replace HB := ZT HB hb; clear hb; have hcz14 := ZC2 w13 BK134) | (go_at_call 50; (with_reducible refine (impl_Prog_stepsOk.calls k _ _ l0_0 _ _ l0_1 _ _ l0_1 3 true _ (ZQ (Kd.C_below HR0_0.out HB.out)) HC0_0.out (ZQ (Kd.C_below HR0_1.out HB.out)) HC0_1.out (ZQ (Kd.C_below HR0_1.out HB.out)) HC0_1.out A8.out).mono ?_); rintro e w15 ⟨rfl, hb⟩; replace BK134 := ZW BK134 hb; replace HB := ZT HB hb; clear hb; have hcz16 := ZC2 w15 BK134) | (go_at_call 43; (with_reducible refine (impl_size.calls k _ _ l0_1 t137 _ (ZQ (Kd.C_below HR0_1.out HB.out)) HC0_1.out A10.out).mono ?_); rintro e w17 ⟨rfl, hb⟩; replace BK134 := ZW BK134 hb; replace HB := ZT HB hb; clear hb))
 go_ret
 exact ⟨ZE, ZB⟩)
 ·(
 replace c9 := Bool.eq_false_iff.mpr c9
 subst c9
 have H1 := H; rw [if_neg ZFT] at H1
 clear H
 have H := H1
 clear H1
 obtain rfl := Option.some.inj H
 go_enter Try.func25, Try.ntmps25
 go_wp2_with (first | ((with_reducible refine gate_dst (N := 1) rfl ?_); refine ZXW w (N := 1) (cs := #[.slice A0_0 l0_0.length c0_0, .slice A0_1 l0_1.length c0_1]) (t := 26) ?_; intro gb134 hg w18 BK134 GW134 hb; replace HB := ZT HB hb; clear hb hg; have hcz19 := ZC2 w18 BK134) | (go_at_call 48; (with_reducible refine (impl_Label_48.calls k _ _ l0_0  false _ (ZQ (Kd.C_below HR0_0.out HB.out)) HC0_0.out A3.out).mono ?_); rintro e w20 ⟨rfl, hb⟩; replace BK134 := ZW BK134 hb; replace HB := ZT HB hb; clear hb; have hcz21 := ZC2 w20 BK134) | (go_at_call 50; (with_reducible refine (impl_Prog_stepsOk.calls k _ _ l0_0 _ _ l0_1 _ _ l0_1 3 false _ (ZQ (Kd.C_below HR0_0.out HB.out)) HC0_0.out (ZQ (Kd.C_below HR0_1.out HB.out)) HC0_1.out (ZQ (Kd.C_below HR0_1.out HB.out)) HC0_1.out A8.out).mono ?_); rintro e w22 ⟨rfl, hb⟩; replace BK134 := ZW BK134 hb; replace HB := ZT HB hb; clear hb))
 go_ret
 exact ⟨ZE, ZB⟩)))
 ·(
 rw [if_neg c2] at H
 have c2b0 := decide_eq_false c2
 have c2b1 : decide (l0_0.length ≤ 4) = false := decide_eq_false (by omega)
 clear c2
 obtain rfl := Option.some.inj H
 go_enter Try.func25, Try.ntmps25
 go_wp2_with (first | ((with_reducible refine gate_dst (N := 1) rfl ?_); refine ZXW w (N := 1) (cs := #[.slice A0_0 l0_0.length c0_0, .slice A0_1 l0_1.length c0_1]) (t := 26) ?_; intro gb134 hg w23 BK134 GW134 hb; replace HB := ZT HB hb; clear hb hg; have hcz24 := ZC2 w23 BK134))
 go_ret
 exact ⟨ZE, ZB⟩)

/-! ### impl_all: function 26 -/
mutual
def impl_all.l0 : Nat → List (S40) → List (S40) → Int → Int → Option ((List (S40)))
 | 0, _, _, _, _ => none
 | k + 1, x3, x6, x7, x8 => if x8 < x7 then (if 0 ≤ x8 then (if x8 < (x6.length : Int) then (if x3.length < 1466015503701 then ((some (x3 ++ [(⟨(D40 x6 x8).f0, (D40 x6 x8).f1, (⟨(D40 x6 x8).f2.f0, (D40 x6 x8).f2.f1, (D40 x6 x8).f2.f2⟩ : S38), (D40 x6 x8).f3, (D40 x6 x8).f4, (D40 x6 x8).f5⟩ : S40)] : List (S40))).bind fun y140 => ((impl_all.f k ((D40 x6 x8).f4)).bind fun t143 => (if y140.length + t143.length < 1466015503701 then ((some (y140 ++ t143 : List (S40))).bind fun y146 => ((impl_all.f k ((D40 x6 x8).f5)).bind fun t149 => (if y146.length + t149.length < 1466015503701 then (impl_all.l0 k (y146 ++ t149) x6 x7 (wrap64 (x8 + 1))) else (none)))) else (none)))) else (none)) else (none)) else (none)) else (some x3)
def impl_all.f : Nat → List (S40) → Option ((List (S40)))
 | 0, _ => none
 | k + 1, l0 => impl_all.l0 k ([] : List (S40)) l0 (l0.length : Int) 0
end
theorem impl_all.calls (k : Nat) : ∀ (P0_ : Nat → Prop) (A0 : Option Addr) (c0 : Nat) (l0 : List (S40)) (r : List (S40)) (w : World) (hs0 : Kd.V k40 40 w w.heap.size (fun k_ => P0_ k_) (.slice A0 l0.length c0) l0) (h : impl_all.f k l0 = some r),
  Calls Try.prog 26 #[.slice A0 l0.length c0] w fun e w' => ∃ v0_ : Value, e = .returned (v0_) ∧ Kd.N k40 40 w' w.heap.size (fun k_ => (P0_ k_ ∨ w.heap.size ≤ k_)) v0_ r ∧ Below w.heap.size w w' := by
 induction k using Nat.strongRecOn with
 | _ k ih =>
 intro P0_ A0 c0 l0 r w hs0 h
 cases k with
 | zero => exact absurd h (by simp [impl_all.f])
 | succ k =>
 simp only [impl_all.f] at h
 have hu40 := Try.underlying40
 have HO0 := AM (show Kd.V k40 40 w w.heap.size (fun k_ => (P0_ k_ ∨ w.heap.size ≤ k_)) (.slice A0 l0.length c0) l0 from Kd.V_mono hs0 (fun k_ hk => .inl hk))
 have HB := AM (Below.refl w.heap.size w)
 have H : (impl_all.l0 k ([] : List (S40)) l0 (l0.length : Int) 0) = some r := h
 clear h
 have H' := AM H
 clear H
 go_enter Try.func26, Try.ntmps26
 go_wp2
 go_loopg [3, 8] k (fun kq v3 v8 w' => ∃ (x3_1 : List (S40)) (x8_1 : Int), v8 = .int .i64 x8_1 ∧ Za (impl_all.l0 kq x3_1 l0 (l0.length : Int) x8_1 = some r) ∧ Za (kq ≤ k) ∧ Za (Kd.N k40 40 w' w.heap.size (fun k_ => (P0_ k_ ∨ w.heap.size ≤ k_)) v3 x3_1) ∧ Za (Kd.V k40 40 w' w.heap.size (fun k_ => (P0_ k_ ∨ w.heap.size ≤ k_) ∧ some k_ ≠ (v3 : Value).ownBlock) (.slice A0 l0.length c0) l0) ∧ Za (Below w.heap.size w w'))
 case atStart => exact ⟨(([] : List (S40))), (0), ZSM, H', ⟨Nat.le_refl _⟩, ⟨by first | exact Kd.R_nil _ _ _ _ _ | exact Kd.N_nil _ _ _ _ _ | exact Kd.V_nil _ _ _ _ _ | exact Kd.Q_nil _ _ _ _ _ | exact Kd.S_nil _ _ _ _ _⟩, ⟨ZVm HO0.out (fun _ hk => ⟨hk, (by simp [Value.ownBlock])⟩)⟩, ⟨ZB⟩⟩
 case round => (
 clear H'
 obtain ⟨x3_1, x8_1, rfl, HA, HK1, HO_3, HO_6, HB⟩ := hrel
 cases gk with
 | zero => exact absurd HA.out (by simp [impl_all.l0])
 | succ k1 =>
  have H := HA.out
  clear HA
  simp only [impl_all.l0] at H
  by_cases c2 : x8_1 < (l0.length : Int)
  ·(
  rw [if_pos c2] at H
  have c2b0 := decide_eq_true c2
  clear c2
  by_cases c3 : 0 ≤ x8_1
  ·(
  rw [if_pos c3] at H
  have c3b0 := decide_eq_true c3
  clear c3
  by_cases c4 : x8_1 < (l0.length : Int)
  ·(
  rw [if_pos c4] at H
  have c4b0 := decide_eq_true c4
  clear c4
  by_cases c5 : x3_1.length < 1466015503701
  ·(
  rw [if_pos c5] at H
  have LMc5 := AM c5
  clear c5
  obtain ⟨y140, Ny140, H⟩ := ZLET H; try dsimp only at H
  obtain ⟨t143, A6, H⟩ := ZOB H; try dsimp only at H
  by_cases c7 : y140.length + t143.length < 1466015503701
  ·(
  rw [if_pos c7] at H
  have LMc7 := AM c7
  clear c7
  obtain ⟨y146, Ny146, H⟩ := ZLET H; try dsimp only at H
  obtain ⟨t149, A8, H⟩ := ZOB H; try dsimp only at H
  by_cases c9 : y146.length + t149.length < 1466015503701
  ·(
  rw [if_pos c9] at H
  have LMc9 := AM c9
  clear c9
  obtain ⟨y152, hy152⟩ : ∃ y_ : List (S40), y_ = (y146 ++ t149) := ⟨_, rfl⟩
  replace H : (impl_all.l0 k1 y152 l0 (l0.length : Int) (wrap64 (x8_1 + 1))) = some r := by rw [hy152]; exact H
  have Ny152 := AM hy152
  clear hy152
  have H' := AM H
  clear H
  have p138 : 0 ≤ (x8_1 : Int) := ZD
  have q138 : x8_1 < (l0.length : Int) := ZD
  obtain ⟨ad138, A138_6, c138_6, A138_7, c138_7, e138, hx138_0, hx138_1, hx138_2, hx138_3, hx138_4, hx138_5, hx138_6, hx138_7, hl138_6, hi138_6, hl138_7, hi138_7⟩ := at_T40 (Kd.V_reads' HO_6.out).2.2 x8_1 p138 q138
  cases e138
  obtain ⟨ce138, hce138, hMe138, hcc138⟩ := Kd.V_get HO_6.out z40 x8_1 p138 (by first | exact q138 | exact ZD | (have e_ := (Kd.V_reads' HO_6.out).1; omega))
  obtain ⟨ua138_6, uc138_6, ua138_7, uc138_7, rfl, ul138_6, ge138_6, ul138_7, ge138_7⟩ := k40_openF hMe138
  have hv138_6 := hcc138 6 _ rfl
  rw [add_field _ _ 6 (by omega)] at hv138_6
  replace hv138_6 := Option.some.inj (hv138_6.symm.trans hx138_6)
  injection hv138_6 with hva_ hvn_ hvc_
  rw [hva_] at ge138_6
  rw [hvc_] at ul138_6
  have HL138_6 := AM (show Kd.V k40 40 _ w.heap.size _ _ ((D40 l0 x8_1).f4) from Kd.V_mk ul138_6 ge138_6)
  clear hva_ hvn_ hvc_ ge138_6 ul138_6
  have hv138_7 := hcc138 7 _ rfl
  rw [add_field _ _ 7 (by omega)] at hv138_7
  replace hv138_7 := Option.some.inj (hv138_7.symm.trans hx138_7)
  injection hv138_7 with hva_ hvn_ hvc_
  rw [hva_] at ge138_7
  rw [hvc_] at ul138_7
  have HL138_7 := AM (show Kd.V k40 40 _ w.heap.size _ _ ((D40 l0 x8_1).f5) from Kd.V_mk ul138_7 ge138_7)
  clear hva_ hvn_ hvc_ ge138_7 ul138_7 hcc138 hce138
  have HR138_6 := AM hi138_6
  have HC138_6 := AM hl138_6
  clear hi138_6 hl138_6
  have HR138_7 := AM hi138_7
  have HC138_7 := AM hl138_7
  clear hi138_7 hl138_7
  replace p138 := eq_true p138
  replace q138 := eq_true q138
  go_wp2_with (first | ((with_reducible refine gate_dst (N := 5) rfl ?_); refine ZXW w (N := 5) (cs := #[.int .i64 0, .int .i64 0, .int .i64 0, .int .i64 0, .int .i64 0, .int .i64 0, .slice none 0 0, .slice none 0 0]) (t := 40) ?_; intro gb139 hg w10 BK139 GW139 hb; replace HO_3 := AM (Kd.N_below (Kd.N_elderB (ZRN HO_3.out) gb139 (Nat.le_of_eq hg.symm)) hb); replace HO_6 := AM (Kd.V_below (Kd.V_elderB (ZRV HO_6.out) gb139 (Nat.le_of_eq hg.symm)) hb); replace HL138_6 := AM (Kd.V_below (Kd.V_elderB (ZRV HL138_6.out) gb139 (Nat.le_of_eq hg.symm)) hb); replace HL138_7 := AM (Kd.V_below (Kd.V_elderB (ZRV HL138_7.out) gb139 (Nat.le_of_eq hg.symm)) hb); replace HR138_6 := AM (Kd.C_below (ZQ HR138_6.out) hb); replace HR138_7 := AM (Kd.C_below (ZQ HR138_7.out) hb); replace HB := ZT HB hb; clear hb hg; have hcz11 := ZC8 w10 BK139) | ((with_reducible refine gate_store (t := 40) (p := 5) rfl ?_); refine store_event (t := 40) (p := 5) (v := ?vo_w12) (w1 := ((((((((w10.setCell ⟨gb139, 0, none⟩ (.int .i64 ((D40 l0 x8_1).f0))).setCell ⟨gb139, 1, none⟩ (.int .i64 ((D40 l0 x8_1).f1))).setCell ⟨gb139, 2, none⟩ (.int .i64 ((D40 l0 x8_1).f2.f0))).setCell ⟨gb139, 3, none⟩ (.int .i64 ((D40 l0 x8_1).f2.f1))).setCell ⟨gb139, 4, none⟩ (.int .i64 ((D40 l0 x8_1).f2.f2))).setCell ⟨gb139, 5, none⟩ (.int .i64 ((D40 l0 x8_1).f3))).setCell ⟨gb139, 6, none⟩ (.slice A138_6 ((D40 l0 x8_1).f4).length c138_6)).setCell ⟨gb139, 7, none⟩ (.slice A138_7 ((D40 l0 x8_1).f5).length c138_7))) ?hg ?ho ?hn ?hr ?_; (case ho => rfl); (case hg => rfl); (case hn => rfl); (case hr => first | (go_simp; done) | (go_simp; rfl)); intro w12 hw; have n0_ : Za (Kd.N k40 40 w12 w.heap.size (fun k_ => (P0_ k_ ∨ w.heap.size ≤ k_) ∧ k_ ≠ gb139) u3 x3_1) := ⟨(by rw [hw]; exact (ZNf (Kd.N_mono HO_3.out (fun k_ hk => (⟨hk, hk.2⟩ : _ ∧ k_ ≠ gb139))) (fun _ hk => ⟨hk.2, ⟨hk.1.1, hk.1.2⟩⟩)))⟩; have n1_ : Za (Kd.V k40 40 w12 w.heap.size (fun k_ => (P0_ k_ ∨ w.heap.size ≤ k_) ∧ some k_ ≠ (u3 : Value).ownBlock ∧ k_ ≠ gb139) (.slice (some ad138) l0.length c0) l0) := ⟨(by rw [hw]; exact (ZVf (Kd.V_mono HO_6.out (fun k_ hk => (⟨hk, hk.2⟩ : _ ∧ k_ ≠ gb139))) (fun _ hk => ⟨hk.2, ⟨hk.1.1.1, ⟨hk.1.1.2, hk.1.2⟩⟩⟩)))⟩; have n2_ : Za (Kd.V k40 40 w12 w.heap.size (fun k_ => (P0_ k_ ∨ w.heap.size ≤ k_) ∧ some k_ ≠ (u3 : Value).ownBlock ∧ k_ ≠ gb139) (.slice A138_6 ((D40 l0 x8_1).f4).length c138_6) ((D40 l0 x8_1).f4)) := ⟨(by rw [hw]; exact (ZVf (Kd.V_mono HL138_6.out (fun k_ hk => (⟨hk, hk.2⟩ : _ ∧ k_ ≠ gb139))) (fun _ hk => ⟨hk.2, ⟨hk.1.1.1, ⟨hk.1.1.2, hk.1.2⟩⟩⟩)))⟩; have n3_ : Za (Kd.V k40 40 w12 w.heap.size (fun k_ => (P0_ k_ ∨ w.heap.size ≤ k_) ∧ some k_ ≠ (u3 : Value).ownBlock ∧ k_ ≠ gb139) (.slice A138_7 ((D40 l0 x8_1).f5).length c138_7) ((D40 l0 x8_1).f5)) := ⟨(by rw [hw]; exact (ZVf (Kd.V_mono HL138_7.out (fun k_ hk => (⟨hk, hk.2⟩ : _ ∧ k_ ≠ gb139))) (fun _ hk => ⟨hk.2, ⟨hk.1.1.1, ⟨hk.1.1.2, hk.1.2⟩⟩⟩)))⟩; have n4_ : Za (w12.heap[gb139]? = some (.cells #[.int .i64 ((D40 l0 x8_1).f0), .int .i64 ((D40 l0 x8_1).f1), .int .i64 ((D40 l0 x8_1).f2.f0), .int .i64 ((D40 l0 x8_1).f2.f1), .int .i64 ((D40 l0 x8_1).f2.f2), .int .i64 ((D40 l0 x8_1).f3), .slice A138_6 ((D40 l0 x8_1).f4).length c138_6, .slice A138_7 ((D40 l0 x8_1).f5).length c138_7] 40 (0, 0))) := ⟨(by rw [hw]; exact (ZZ BK139.out))⟩; have n5_ : Za (Below w.heap.size w w12) := ⟨(by rw [hw]; exact (ZB))⟩; clear hw HO_3 HO_6 HL138_6 HL138_7 BK139 HB; have HO_3 := n0_; have HO_6 := n1_; have HL138_6 := n2_; have HL138_7 := n3_; have BK139 := n4_; have HB := n5_; clear n0_ n1_ n2_ n3_ n4_ n5_; have hcz13 := ZC8 w12 BK139) | ((with_reducible refine gate_builtin (b := .append) (xs := #[.tmp 12, .tmp 14]) rfl ?_); at_builtin; refine Kd.N_append k40 (w0 := w) w.heap.size rfl (.tmp 12) (.tmp 14) 24 40 (.agg #[(.int .i64 0), (.int .i64 0), (.int .i64 0), (.int .i64 0), (.int .i64 0), (.int .i64 0), (.slice none 0 0), (.slice none 0 0)]) 96 rfl Try.underlying24 info40 rfl (by decide) (by omega) u3 x3_1 (⟨(D40 l0 x8_1).f0, (D40 l0 x8_1).f1, (⟨(D40 l0 x8_1).f2.f0, (D40 l0 x8_1).f2.f1, (D40 l0 x8_1).f2.f2⟩ : S38), (D40 l0 x8_1).f3, (D40 l0 x8_1).f4, (D40 l0 x8_1).f5⟩ : S40) [.int .i64 ((D40 l0 x8_1).f0), .int .i64 ((D40 l0 x8_1).f1), .int .i64 ((D40 l0 x8_1).f2.f0), .int .i64 ((D40 l0 x8_1).f2.f1), .int .i64 ((D40 l0 x8_1).f2.f2), .int .i64 ((D40 l0 x8_1).f3), .slice A138_6 ((D40 l0 x8_1).f4).length c138_6, .slice A138_7 ((D40 l0 x8_1).f5).length c138_7] (fun k_ => (P0_ k_ ∨ w.heap.size ≤ k_) ∧ k_ ≠ gb139) (fun k_ => ((fun k_ => (P0_ k_ ∨ w.heap.size ≤ k_) ∧ k_ ≠ gb139)) k_ ∧ some k_ ≠ (u3 : Value).ownBlock) rfl rfl ?aP (fun _ hk => hk) ?aF ?aO ?aB ?aS ?aL ?_; (case aP => exact (k40_mkF _ _ (⟨(D40 l0 x8_1).f0, (D40 l0 x8_1).f1, (⟨(D40 l0 x8_1).f2.f0, (D40 l0 x8_1).f2.f1, (D40 l0 x8_1).f2.f2⟩ : S38), (D40 l0 x8_1).f3, (D40 l0 x8_1).f4, (D40 l0 x8_1).f5⟩ : S40) (Kd.V_reads' (Kd.V_mono (ok' := (fun k_ => ((fun k_ => (P0_ k_ ∨ w.heap.size ≤ k_) ∧ k_ ≠ gb139)) k_ ∧ some k_ ≠ (u3 : Value).ownBlock)) (HL138_6.out) (fun k_ hk => ⟨⟨hk.1, hk.2.2⟩, hk.2.1⟩))).2.1 (Kd.V_F (Kd.V_mono (ok' := (fun k_ => ((fun k_ => (P0_ k_ ∨ w.heap.size ≤ k_) ∧ k_ ≠ gb139)) k_ ∧ some k_ ≠ (u3 : Value).ownBlock)) (HL138_6.out) (fun k_ hk => ⟨⟨hk.1, hk.2.2⟩, hk.2.1⟩))) (Kd.V_reads' (Kd.V_mono (ok' := (fun k_ => ((fun k_ => (P0_ k_ ∨ w.heap.size ≤ k_) ∧ k_ ≠ gb139)) k_ ∧ some k_ ≠ (u3 : Value).ownBlock)) (HL138_7.out) (fun k_ hk => ⟨⟨hk.1, hk.2.2⟩, hk.2.1⟩))).2.1 (Kd.V_F (Kd.V_mono (ok' := (fun k_ => ((fun k_ => (P0_ k_ ∨ w.heap.size ≤ k_) ∧ k_ ≠ gb139)) k_ ∧ some k_ ≠ (u3 : Value).ownBlock)) (HL138_7.out) (fun k_ hk => ⟨⟨hk.1, hk.2.2⟩, hk.2.1⟩))))); (case aB => exact (ZB)); (case aF => exact (fun k_ hk => ⟨(.inr (Nat.le_trans (below_size (ZB)) hk)), Kd.freshB (g := gb139) (o := .cells #[.int .i64 ((D40 l0 x8_1).f0), .int .i64 ((D40 l0 x8_1).f1), .int .i64 ((D40 l0 x8_1).f2.f0), .int .i64 ((D40 l0 x8_1).f2.f1), .int .i64 ((D40 l0 x8_1).f2.f2), .int .i64 ((D40 l0 x8_1).f3), .slice A138_6 ((D40 l0 x8_1).f4).length c138_6, .slice A138_7 ((D40 l0 x8_1).f5).length c138_7] 40 (0, 0)) (ZK BK139.out) k_ hk⟩)); (case aO => exact (ZRN HO_3.out)); (case aS => exact (below_size (ZB))); (case aL => have := LMc5.out; omega); intro v141 w14 ho hb hg hat; rw [← Ny140.out] at ho; have n0_ := AM (Kd.V_afterv (ok := (fun k_ => (P0_ k_ ∨ w.heap.size ≤ k_) ∧ k_ ≠ gb139)) (ZVm HO_6.out (fun _ hk => ⟨⟨hk.1, hk.2.2⟩, hk.2.1⟩)) hg hat); have n1_ := AM (Kd.V_afterv (ok := (fun k_ => (P0_ k_ ∨ w.heap.size ≤ k_) ∧ k_ ≠ gb139)) (ZVm HL138_6.out (fun _ hk => ⟨⟨hk.1, hk.2.2⟩, hk.2.1⟩)) hg hat); have n2_ := AM (Kd.V_afterv (ok := (fun k_ => (P0_ k_ ∨ w.heap.size ≤ k_) ∧ k_ ≠ gb139)) (ZVm HL138_7.out (fun _ hk => ⟨⟨hk.1, hk.2.2⟩, hk.2.1⟩)) hg hat); have n3_ := AM (blk_grown (g := gb139) (o := .cells #[.int .i64 ((D40 l0 x8_1).f0), .int .i64 ((D40 l0 x8_1).f1), .int .i64 ((D40 l0 x8_1).f2.f0), .int .i64 ((D40 l0 x8_1).f2.f1), .int .i64 ((D40 l0 x8_1).f2.f2), .int .i64 ((D40 l0 x8_1).f3), .slice A138_6 ((D40 l0 x8_1).f4).length c138_6, .slice A138_7 ((D40 l0 x8_1).f5).length c138_7] 40 (0, 0)) (ZK BK139.out) hg (Kd.N_away HO_3.out (fun _ hk => hk.2))); have n4_ := AM (hb); have n5_ := AM (ho); clear HO_6 HL138_6 HL138_7 BK139 HB HO_3; have HO_6 := n0_; have HL138_6 := n1_; have HL138_7 := n2_; have BK139 := n3_; have HB := n4_; have HO142 := n5_; clear n0_ n1_ n2_ n3_ n4_ n5_ ho hb hg hat; have hcz15 := ZC8 w14 BK139) | ((with_reducible refine gate_callee (f := 26) rfl ?_); refine ZGL (some 19) Try.func26 #[.slice A138_6 ((D40 l0 x8_1).f4).length c138_6] ?_; (with_reducible refine (ih k1 (by have := HK1.out; omega) (fun k_ => (((P0_ k_ ∨ w.heap.size ≤ k_) ∧ k_ ≠ gb139) ∧ some k_ ≠ (v141 : Value).ownBlock)) _ _ ((D40 l0 x8_1).f4) t143 _ ?side1 A6.out).mono ?_); (case side1 => exact HL138_6.out); rintro e w16 ⟨v144, rfl, ho0, hb⟩; refine ZV1 ?_; have HO145 := AM (Kd.N_lower (Kd.N_mono (ok' := fun k_ => (P0_ k_ ∨ w.heap.size ≤ k_) ∧ some k_ ≠ (v141 : Value).ownBlock ∧ k_ ≠ gb139) ho0 (fun k_ hk_ => ⟨Or.elim hk_ (fun hs_ => hs_.1.1) (fun hn_ => (.inr (Nat.le_trans (below_size (ZB)) hn_))), Or.elim hk_ (fun hs_ => hs_.2) (fun hn_ => (Kd.fresh' (Kd.N_lt (ZRN HO142.out)) k_ hn_)), Or.elim hk_ (fun hs_ => hs_.1.2) (fun hn_ => (Kd.freshB (g := gb139) (o := .cells #[.int .i64 ((D40 l0 x8_1).f0), .int .i64 ((D40 l0 x8_1).f1), .int .i64 ((D40 l0 x8_1).f2.f0), .int .i64 ((D40 l0 x8_1).f2.f1), .int .i64 ((D40 l0 x8_1).f2.f2), .int .i64 ((D40 l0 x8_1).f3), .slice A138_6 ((D40 l0 x8_1).f4).length c138_6, .slice A138_7 ((D40 l0 x8_1).f5).length c138_7] 40 (0, 0)) (ZK BK139.out) k_ hn_))⟩)) (below_size (ZB))); replace HO_6 := AM (Kd.V_elder' (ZRV HO_6.out) (Kd.N_base ho0) hb); replace HL138_6 := AM (Kd.V_elder' (ZRV HL138_6.out) (Kd.N_base ho0) hb); replace HL138_7 := AM (Kd.V_elder' (ZRV HL138_7.out) (Kd.N_base ho0) hb); replace HO142 := AM (Kd.N_elder' (ZRN HO142.out) (Kd.N_base ho0) hb); replace BK139 := ZW BK139 hb; replace HB := ZT HB hb; clear hb; (try clear ho0); obtain ⟨Ao18, co18, eo18⟩ := Kd.N_slice HO145.out; subst eo18) | ((with_reducible refine gate_builtin (b := .append) (xs := #[.tmp 16, .tmp 19]) rfl ?_); at_builtin; refine Kd.N_append_rows k40 (w0 := w) w.heap.size rfl (.tmp 16) (.tmp 19) 24 40 (.agg #[(.int .i64 0), (.int .i64 0), (.int .i64 0), (.int .i64 0), (.int .i64 0), (.int .i64 0), (.slice none 0 0), (.slice none 0 0)]) 96 rfl Try.underlying24 info40 rfl (by decide) (by omega) v141 y140 t143 _ _ _ (fun k_ => (P0_ k_ ∨ w.heap.size ≤ k_) ∧ k_ ≠ gb139) (fun k_ => ((fun k_ => (P0_ k_ ∨ w.heap.size ≤ k_) ∧ k_ ≠ gb139)) k_ ∧ some k_ ≠ (v141 : Value).ownBlock) rfl rfl ?aO ?aR (fun _ hk => hk) ?aF ?aB ?aS ?aL ?_; (case aR => exact (by skip; exact Kd.N_F (Kd.N_mono (ok' := (fun k_ => ((fun k_ => (P0_ k_ ∨ w.heap.size ≤ k_) ∧ k_ ≠ gb139)) k_ ∧ some k_ ≠ (v141 : Value).ownBlock)) (HO145.out) (fun k_ hk => ⟨⟨hk.1, hk.2.2⟩, hk.2.1⟩)))); (case aB => exact (ZB)); (case aF => exact (fun k_ hk => ⟨(.inr (Nat.le_trans (below_size (ZB)) hk)), Kd.freshB (g := gb139) (o := .cells #[.int .i64 ((D40 l0 x8_1).f0), .int .i64 ((D40 l0 x8_1).f1), .int .i64 ((D40 l0 x8_1).f2.f0), .int .i64 ((D40 l0 x8_1).f2.f1), .int .i64 ((D40 l0 x8_1).f2.f2), .int .i64 ((D40 l0 x8_1).f3), .slice A138_6 ((D40 l0 x8_1).f4).length c138_6, .slice A138_7 ((D40 l0 x8_1).f5).length c138_7] 40 (0, 0)) (ZK BK139.out) k_ hk⟩)); (case aO => exact (ZNm HO142.out (fun _ hk => ⟨hk.1.1, hk.1.2⟩))); (case aS => exact (below_size (ZB))); (case aL => have := LMc7.out; omega); intro v147 w17 ho hb hg hat; rw [← Ny146.out] at ho; have n0_ := AM (Kd.V_afterv (ok := (fun k_ => (P0_ k_ ∨ w.heap.size ≤ k_) ∧ some k_ ≠ (.slice Ao18 t143.length co18 : Value).ownBlock ∧ k_ ≠ gb139)) (ZVm HO_6.out (fun _ hk => ⟨⟨hk.1.1.1, ⟨hk.2, hk.1.1.2⟩⟩, hk.1.2⟩)) hg hat); have n1_ := AM (Kd.V_afterv (ok := (fun k_ => (P0_ k_ ∨ w.heap.size ≤ k_) ∧ some k_ ≠ (.slice Ao18 t143.length co18 : Value).ownBlock ∧ k_ ≠ gb139)) (ZVm HL138_6.out (fun _ hk => ⟨⟨hk.1.1.1, ⟨hk.2, hk.1.1.2⟩⟩, hk.1.2⟩)) hg hat); have n2_ := AM (Kd.V_afterv (ok := (fun k_ => (P0_ k_ ∨ w.heap.size ≤ k_) ∧ some k_ ≠ (.slice Ao18 t143.length co18 : Value).ownBlock ∧ k_ ≠ gb139)) (ZVm HL138_7.out (fun _ hk => ⟨⟨hk.1.1.1, ⟨hk.2, hk.1.1.2⟩⟩, hk.1.2⟩)) hg hat); have n3_ := AM (blk_grown (g := gb139) (o := .cells #[.int .i64 ((D40 l0 x8_1).f0), .int .i64 ((D40 l0 x8_1).f1), .int .i64 ((D40 l0 x8_1).f2.f0), .int .i64 ((D40 l0 x8_1).f2.f1), .int .i64 ((D40 l0 x8_1).f2.f2), .int .i64 ((D40 l0 x8_1).f3), .slice A138_6 ((D40 l0 x8_1).f4).length c138_6, .slice A138_7 ((D40 l0 x8_1).f5).length c138_7] 40 (0, 0)) (ZK BK139.out) hg (Kd.N_away HO142.out (fun _ hk => hk.1.2))); have n4_ := AM (Kd.N_afterv (ok := (fun k_ => (P0_ k_ ∨ w.heap.size ≤ k_) ∧ k_ ≠ gb139)) (ZNm HO145.out (fun _ hk => ⟨⟨hk.1, hk.2.2⟩, hk.2.1⟩)) hg hat); have n5_ := AM (hb); have n6_ := AM (ho); clear HO_6 HL138_6 HL138_7 BK139 HO145 HB HO142; have HO_6 := n0_; have HL138_6 := n1_; have HL138_7 := n2_; have BK139 := n3_; have HO145 := n4_; have HB := n5_; have HO148 := n6_; clear n0_ n1_ n2_ n3_ n4_ n5_ n6_ ho hb hg hat; have hcz19 := ZC8 w17 BK139) | ((with_reducible refine gate_callee (f := 26) rfl ?_); refine ZGL (some 24) Try.func26 #[.slice A138_7 ((D40 l0 x8_1).f5).length c138_7] ?_; (with_reducible refine (ih k1 (by have := HK1.out; omega) (fun k_ => (((P0_ k_ ∨ w.heap.size ≤ k_) ∧ (some k_ ≠ (.slice Ao18 t143.length co18 : Value).ownBlock ∧ k_ ≠ gb139)) ∧ some k_ ≠ (v147 : Value).ownBlock)) _ _ ((D40 l0 x8_1).f5) t149 _ ?side1 A8.out).mono ?_); (case side1 => exact HL138_7.out); rintro e w20 ⟨v150, rfl, ho0, hb⟩; refine ZV1 ?_; have HO151 := AM (Kd.N_lower (Kd.N_mono (ok' := fun k_ => (P0_ k_ ∨ w.heap.size ≤ k_) ∧ some k_ ≠ (.slice Ao18 t143.length co18 : Value).ownBlock ∧ some k_ ≠ (v147 : Value).ownBlock ∧ k_ ≠ gb139) ho0 (fun k_ hk_ => ⟨Or.elim hk_ (fun hs_ => hs_.1.1) (fun hn_ => (.inr (Nat.le_trans (below_size (ZB)) hn_))), Or.elim hk_ (fun hs_ => hs_.1.2.1) (fun hn_ => (Kd.fresh' (Kd.N_lt (ZRN HO145.out)) k_ hn_)), Or.elim hk_ (fun hs_ => hs_.2) (fun hn_ => (Kd.fresh' (Kd.N_lt (ZRN HO148.out)) k_ hn_)), Or.elim hk_ (fun hs_ => hs_.1.2.2) (fun hn_ => (Kd.freshB (g := gb139) (o := .cells #[.int .i64 ((D40 l0 x8_1).f0), .int .i64 ((D40 l0 x8_1).f1), .int .i64 ((D40 l0 x8_1).f2.f0), .int .i64 ((D40 l0 x8_1).f2.f1), .int .i64 ((D40 l0 x8_1).f2.f2), .int .i64 ((D40 l0 x8_1).f3), .slice A138_6 ((D40 l0 x8_1).f4).length c138_6, .slice A138_7 ((D40 l0 x8_1).f5).length c138_7] 40 (0, 0)) (ZK BK139.out) k_ hn_))⟩)) (below_size (ZB))); replace HO_6 := AM (Kd.V_elder' (ZRV HO_6.out) (Kd.N_base ho0) hb); replace HL138_6 := AM (Kd.V_elder' (ZRV HL138_6.out) (Kd.N_base ho0) hb); replace HL138_7 := AM (Kd.V_elder' (ZRV HL138_7.out) (Kd.N_base ho0) hb); replace HO145 := AM (Kd.N_elder' (ZRN HO145.out) (Kd.N_base ho0) hb); replace HO148 := AM (Kd.N_elder' (ZRN HO148.out) (Kd.N_base ho0) hb); replace BK139 := ZW BK139 hb; replace HB := ZT HB hb; clear hb; (try clear ho0); obtain ⟨Ao22, co22, eo22⟩ := Kd.N_slice HO151.out; subst eo22) | ((with_reducible refine gate_builtin (b := .append) (xs := #[.tmp 21, .tmp 24]) rfl ?_); at_builtin; refine Kd.N_append_rows k40 (w0 := w) w.heap.size rfl (.tmp 21) (.tmp 24) 24 40 (.agg #[(.int .i64 0), (.int .i64 0), (.int .i64 0), (.int .i64 0), (.int .i64 0), (.int .i64 0), (.slice none 0 0), (.slice none 0 0)]) 96 rfl Try.underlying24 info40 rfl (by decide) (by omega) v147 y146 t149 _ _ _ (fun k_ => (P0_ k_ ∨ w.heap.size ≤ k_) ∧ k_ ≠ gb139) (fun k_ => ((fun k_ => (P0_ k_ ∨ w.heap.size ≤ k_) ∧ k_ ≠ gb139)) k_ ∧ some k_ ≠ (v147 : Value).ownBlock) rfl rfl ?aO ?aR (fun _ hk => hk) ?aF ?aB ?aS ?aL ?_; (case aR => exact (by skip; exact Kd.N_F (Kd.N_mono (ok' := (fun k_ => ((fun k_ => (P0_ k_ ∨ w.heap.size ≤ k_) ∧ k_ ≠ gb139)) k_ ∧ some k_ ≠ (v147 : Value).ownBlock)) (HO151.out) (fun k_ hk => ⟨⟨hk.1, hk.2.2.2⟩, hk.2.2.1⟩)))); (case aB => exact (ZB)); (case aF => exact (fun k_ hk => ⟨(.inr (Nat.le_trans (below_size (ZB)) hk)), Kd.freshB (g := gb139) (o := .cells #[.int .i64 ((D40 l0 x8_1).f0), .int .i64 ((D40 l0 x8_1).f1), .int .i64 ((D40 l0 x8_1).f2.f0), .int .i64 ((D40 l0 x8_1).f2.f1), .int .i64 ((D40 l0 x8_1).f2.f2), .int .i64 ((D40 l0 x8_1).f3), .slice A138_6 ((D40 l0 x8_1).f4).length c138_6, .slice A138_7 ((D40 l0 x8_1).f5).length c138_7] 40 (0, 0)) (ZK BK139.out) k_ hk⟩)); (case aO => exact (ZNm HO148.out (fun _ hk => ⟨hk.1.1, hk.1.2⟩))); (case aS => exact (below_size (ZB))); (case aL => have := LMc9.out; omega); intro v153 w21 ho hb hg hat; rw [← Ny152.out] at ho; have n0_ := AM (Kd.V_afterv (ok := (fun k_ => (P0_ k_ ∨ w.heap.size ≤ k_) ∧ some k_ ≠ (.slice Ao18 t143.length co18 : Value).ownBlock ∧ some k_ ≠ (.slice Ao22 t149.length co22 : Value).ownBlock ∧ k_ ≠ gb139)) (ZVm HO_6.out (fun _ hk => ⟨⟨hk.1.1.1, ⟨hk.1.1.2.1, ⟨hk.2, hk.1.1.2.2⟩⟩⟩, hk.1.2⟩)) hg hat); have n1_ := AM (Kd.V_afterv (ok := (fun k_ => (P0_ k_ ∨ w.heap.size ≤ k_) ∧ some k_ ≠ (.slice Ao18 t143.length co18 : Value).ownBlock ∧ some k_ ≠ (.slice Ao22 t149.length co22 : Value).ownBlock ∧ k_ ≠ gb139)) (ZVm HL138_6.out (fun _ hk => ⟨⟨hk.1.1.1, ⟨hk.1.1.2.1, ⟨hk.2, hk.1.1.2.2⟩⟩⟩, hk.1.2⟩)) hg hat); have n2_ := AM (Kd.V_afterv (ok := (fun k_ => (P0_ k_ ∨ w.heap.size ≤ k_) ∧ some k_ ≠ (.slice Ao18 t143.length co18 : Value).ownBlock ∧ some k_ ≠ (.slice Ao22 t149.length co22 : Value).ownBlock ∧ k_ ≠ gb139)) (ZVm HL138_7.out (fun _ hk => ⟨⟨hk.1.1.1, ⟨hk.1.1.2.1, ⟨hk.2, hk.1.1.2.2⟩⟩⟩, hk.1.2⟩)) hg hat); have n3_ := AM (blk_grown (g := gb139) (o := .cells #[.int .i64 ((D40 l0 x8_1).f0), .int .i64 ((D40 l0 x8_1).f1), .int .i64 ((D40 l0 x8_1).f2.f0), .int .i64 ((D40 l0 x8_1).f2.f1), .int .i64 ((D40 l0 x8_1).f2.f2), .int .i64 ((D40 l0 x8_1).f3), .slice A138_6 ((D40 l0 x8_1).f4).length c138_6, .slice A138_7 ((D40 l0 x8_1).f5).length c138_7] 40 (0, 0)) (ZK BK139.out) hg (Kd.N_away HO148.out (fun _ hk => hk.1.2))); have n4_ := AM (Kd.N_afterv (ok := (fun k_ => (P0_ k_ ∨ w.heap.size ≤ k_) ∧ some k_ ≠ (.slice Ao22 t149.length co22 : Value).ownBlock ∧ k_ ≠ gb139)) (ZNm HO145.out (fun _ hk => ⟨⟨hk.1.1.1, ⟨hk.2, hk.1.1.2⟩⟩, hk.1.2⟩)) hg hat); have n5_ := AM (Kd.N_afterv (ok := (fun k_ => (P0_ k_ ∨ w.heap.size ≤ k_) ∧ some k_ ≠ (.slice Ao18 t143.length co18 : Value).ownBlock ∧ k_ ≠ gb139)) (ZNm HO151.out (fun _ hk => ⟨⟨hk.1, ⟨hk.2.1, hk.2.2.2⟩⟩, hk.2.2.1⟩)) hg hat); have n6_ := AM (hb); have n7_ := AM (ho); clear HO_6 HL138_6 HL138_7 BK139 HO145 HO151 HB HO148; have HO_6 := n0_; have HL138_6 := n1_; have HL138_7 := n2_; have BK139 := n3_; have HO145 := n4_; have HO151 := n5_; have HB := n6_; have HO154 := n7_; clear n0_ n1_ n2_ n3_ n4_ n5_ n6_ n7_ ho hb hg hat))
  go_roundg k1
  case measure => have := HK1.out; omega
  case rel => exact ⟨(y152), (wrap64 (x8_1 + 1)), ZSM, H', ⟨by have := HK1.out; omega⟩, ⟨ZRN (Kd.N_mono HO154.out (fun _ hk => hk.1))⟩, ⟨ZVm HO_6.out (fun _ hk => ⟨hk.1.1, hk.2⟩)⟩, ⟨ZB⟩⟩)
  ·(
  rw [if_neg c9] at H
  exact absurd H (by simp)))
  ·(
  rw [if_neg c7] at H
  exact absurd H (by simp)))
  ·(
  rw [if_neg c5] at H
  exact absurd H (by simp)))
  ·(
  rw [if_neg c4] at H
  exact absurd H (by simp)))
  ·(
  rw [if_neg c3] at H
  exact absurd H (by simp)))
  ·(
  rw [if_neg c2] at H
  have c2b0 := decide_eq_false c2
  clear c2
  obtain rfl := Option.some.inj H
  go_wp2
  go_ret
  exact ⟨_, ZE, by (with_reducible repeat (first | apply Kd.N_alloc | apply Kd.N_drewN | apply Kd.N_drew)); exact HO_3.out, ZB⟩))

end Go.Proofs.Ytkkdeojbkfjlpaa.A
