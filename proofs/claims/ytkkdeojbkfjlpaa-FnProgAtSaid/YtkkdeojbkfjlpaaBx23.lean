/- Go functions as Lean functions, and for each its contract; written by wip/tools/pr.py over the kit's print. -/
import Derived.Test.YtkkdeojbkfjlpaaBx0
import Derived.Test.YtkkdeojbkfjlpaaBx20
import Derived.Test.YtkkdeojbkfjlpaaBx22
namespace Go.Proofs.Ytkkdeojbkfjlpaa.B
open Go.RowKit Go.Proofs.YtkkdeojbkfjlpaaW.PrintWords Go.Proofs.YtkkdeojbkfjlpaaW.PrintLast Go.Proofs.YtkkdeojbkfjlpaaW.PrintMore
attribute [local go_sem] max2_int min2_int max_two min_two max_three min_three max_four min_four
set_option linter.unusedVariables false
set_option linter.unusedSimpArgs false
set_option maxHeartbeats 8000000
set_option maxRecDepth 100000

/-! ### impl_ProgOk: function 25 -/
def impl_ProgOk.f (k : Nat) (l0_0 : List (S35)) (l0_1 : List (S40)) : Option (Bool) := if (l0_0.length : Int) ≤ 4 then ((impl_Label_48.f k l0_0).bind fun t569 => (if t569 = true then (some false) else ((impl_Prog_stepsOk.f k l0_0 l0_1 l0_1 3).bind fun t570 => (if t570 = true then ((impl_size.f k l0_1).bind fun t571 => (some (decide (t571 ≤ 8)))) else (some false))))) else (some false)
theorem impl_ProgOk.calls (k : Nat) (A0_0 : Option Addr) (c0_0 : Nat) (l0_0 : List (S35)) (A0_1 : Option Addr) (c0_1 : Nat) (l0_1 : List (S40)) (r : Bool) (w : World) (hr0_0 : Kd.C k35 w A0_0 l0_0.length l0_0) (hc0_0 : l0_0.length ≤ c0_0) (hr0_1 : Kd.C k40 w A0_1 l0_1.length l0_1) (hc0_1 : l0_1.length ≤ c0_1) (h : impl_ProgOk.f k l0_0 l0_1 = some r) :
  Calls Try.prog 25 #[.agg #[.slice A0_0 l0_0.length c0_0, .slice A0_1 l0_1.length c0_1]] w fun e w' => e = .returned (.bool r) ∧ Below w.heap.size w w' := by
 have hu26 := Try.underlying26
 have HR0_0 := AM hr0_0
 have HC0_0 := AM hc0_0
 clear hr0_0 hc0_0
 have HR0_1 := AM hr0_1
 have HC0_1 := AM hc0_1
 clear hr0_1 hc0_1
 have HB := AM (Below.refl w.heap.size w)
 have H := h
 unfold impl_ProgOk.f at H
 clear h
 by_cases c2 : (l0_0.length : Int) ≤ 4
 ·(
 rw [if_pos c2] at H
 have c2b0 := decide_eq_true c2
 have c2b1 : decide (l0_0.length ≤ 4) = true := decide_eq_true (by omega)
 clear c2
 obtain ⟨t569, A3, H⟩ := ZOB H; try dsimp only at H
 by_cases c4 : t569 = true
 ·(
 subst c4
 have H1 := H; rw [if_pos rfl] at H1
 clear H
 have H := H1
 clear H1
 obtain rfl := Option.some.inj H
 go_enter Try.func25, Try.ntmps25
 go_wp2_with (first | ((with_reducible refine gate_dst (N := 1) rfl ?_); refine ZXW w (N := 1) (cs := #[.slice A0_0 l0_0.length c0_0, .slice A0_1 l0_1.length c0_1]) (t := 26) ?_; intro gb568 hg w5 BK568 GW568 hb; replace HB := ZT HB hb; clear hb hg; have hcz6 := ZC2 w5 BK568) | (go_at_call 48; (with_reducible refine (impl_Label_48.calls k _ _ l0_0  true _ (ZQ (Kd.C_below HR0_0.out HB.out)) HC0_0.out A3.out).mono ?_); rintro e w7 ⟨rfl, hb⟩; replace BK568 := ZW BK568 hb; replace HB := ZT HB hb; clear hb))
 go_ret
 exact ⟨ZE, ZB⟩)
 ·(
 replace c4 := Bool.eq_false_iff.mpr c4
 subst c4
 have H1 := H; rw [if_neg ZFT] at H1
 clear H
 have H := H1
 clear H1
 obtain ⟨t570, A8, H⟩ := ZOB H; try dsimp only at H
 by_cases c9 : t570 = true
 ·(
 subst c9
 have H1 := H; rw [if_pos rfl] at H1
 clear H
 have H := H1
 clear H1
 obtain ⟨t571, A10, H⟩ := ZOB H; try dsimp only at H
 obtain rfl := Option.some.inj H
 go_enter Try.func25, Try.ntmps25
 go_wp2_with (first | ((with_reducible refine gate_dst (N := 1) rfl ?_); refine ZXW w (N := 1) (cs := #[.slice A0_0 l0_0.length c0_0, .slice A0_1 l0_1.length c0_1]) (t := 26) ?_; intro gb568 hg w11 BK568 GW568 hb; replace HB := ZT HB hb; clear hb hg; have hcz12 := ZC2 w11 BK568) | (go_at_call 48; (with_reducible refine (impl_Label_48.calls k _ _ l0_0  false _ (ZQ (Kd.C_below HR0_0.out HB.out)) HC0_0.out A3.out).mono ?_); rintro e w13 ⟨rfl, hb⟩; replace BK568 := ZW BK568 hb; replace HB := ZT HB hb; clear hb; have hcz14 := ZC2 w13 BK568) | (go_at_call 50; (with_reducible refine (impl_Prog_stepsOk.calls k _ _ l0_0 _ _ l0_1 _ _ l0_1 3 true _ (ZQ (Kd.C_below HR0_0.out HB.out)) HC0_0.out (ZQ (Kd.C_below HR0_1.out HB.out)) HC0_1.out (ZQ (Kd.C_below HR0_1.out HB.out)) HC0_1.out A8.out).mono ?_); rintro e w15 ⟨rfl, hb⟩; replace BK568 := ZW BK568 hb; replace HB := ZT HB hb; clear hb; have hcz16 := ZC2 w15 BK568) | (go_at_call 43; (with_reducible refine (impl_size.calls k _ _ l0_1 t571 _ (ZQ (Kd.C_below HR0_1.out HB.out)) HC0_1.out A10.out).mono ?_); rintro e w17 ⟨rfl, hb⟩; replace BK568 := ZW BK568 hb; replace HB := ZT HB hb; clear hb))
 go_ret
 exact ⟨ZE, ZB⟩)
 ·(
 replace c9 := Bool.eq_false_iff.mpr c9
 subst c9
 have H1 := H; rw [if_neg ZFT] at H1
 clear H
 have H := H1
 clear H1
 obtain rfl := Option.some.inj H
 go_enter Try.func25, Try.ntmps25
 go_wp2_with (first | ((with_reducible refine gate_dst (N := 1) rfl ?_); refine ZXW w (N := 1) (cs := #[.slice A0_0 l0_0.length c0_0, .slice A0_1 l0_1.length c0_1]) (t := 26) ?_; intro gb568 hg w18 BK568 GW568 hb; replace HB := ZT HB hb; clear hb hg; have hcz19 := ZC2 w18 BK568) | (go_at_call 48; (with_reducible refine (impl_Label_48.calls k _ _ l0_0  false _ (ZQ (Kd.C_below HR0_0.out HB.out)) HC0_0.out A3.out).mono ?_); rintro e w20 ⟨rfl, hb⟩; replace BK568 := ZW BK568 hb; replace HB := ZT HB hb; clear hb; have hcz21 := ZC2 w20 BK568) | (go_at_call 50; (with_reducible refine (impl_Prog_stepsOk.calls k _ _ l0_0 _ _ l0_1 _ _ l0_1 3 false _ (ZQ (Kd.C_below HR0_0.out HB.out)) HC0_0.out (ZQ (Kd.C_below HR0_1.out HB.out)) HC0_1.out (ZQ (Kd.C_below HR0_1.out HB.out)) HC0_1.out A8.out).mono ?_); rintro e w22 ⟨rfl, hb⟩; replace BK568 := ZW BK568 hb; replace HB := ZT HB hb; clear hb))
 go_ret
 exact ⟨ZE, ZB⟩)))
 ·(
 rw [if_neg c2] at H
 have c2b0 := decide_eq_false c2
 have c2b1 : decide (l0_0.length ≤ 4) = false := decide_eq_false (by omega)
 clear c2
 obtain rfl := Option.some.inj H
 go_enter Try.func25, Try.ntmps25
 go_wp2_with (first | ((with_reducible refine gate_dst (N := 1) rfl ?_); refine ZXW w (N := 1) (cs := #[.slice A0_0 l0_0.length c0_0, .slice A0_1 l0_1.length c0_1]) (t := 26) ?_; intro gb568 hg w23 BK568 GW568 hb; replace HB := ZT HB hb; clear hb hg; have hcz24 := ZC2 w23 BK568))
 go_ret
 exact ⟨ZE, ZB⟩)

/-! ### impl_all: function 26 -/
mutual
def impl_all.l0 : Nat → List (S40) → List (S40) → Int → Int → Option ((List (S40)))
 | 0, _, _, _, _ => none
 | k + 1, x3, x6, x7, x8 => if x8 < x7 then (if 0 ≤ x8 then (if x8 < (x6.length : Int) then (if x3.length < 1466015503701 then ((some (x3 ++ [(⟨(D40 x6 x8).f0, (D40 x6 x8).f1, (⟨(D40 x6 x8).f2.f0, (D40 x6 x8).f2.f1, (D40 x6 x8).f2.f2⟩ : S38), (D40 x6 x8).f3, (D40 x6 x8).f4, (D40 x6 x8).f5⟩ : S40)] : List (S40))).bind fun y574 => ((impl_all.f k ((D40 x6 x8).f4)).bind fun t577 => (if y574.length + t577.length < 1466015503701 then ((some (y574 ++ t577 : List (S40))).bind fun y580 => ((impl_all.f k ((D40 x6 x8).f5)).bind fun t583 => (if y580.length + t583.length < 1466015503701 then (impl_all.l0 k (y580 ++ t583) x6 x7 (wrap64 (x8 + 1))) else (none)))) else (none)))) else (none)) else (none)) else (none)) else (some x3)
def impl_all.f : Nat → List (S40) → Option ((List (S40)))
 | 0, _ => none
 | k + 1, l0 => impl_all.l0 k ([] : List (S40)) l0 (l0.length : Int) 0
end
theorem impl_all.calls (k : Nat) : ∀ (P0_ : Nat → Prop) (A0 : Option Addr) (c0 : Nat) (l0 : List (S40)) (r : List (S40)) (w : World) (hs0 : Kd.V k40 40 w w.heap.size (fun k_ => P0_ k_) (.slice A0 l0.length c0) l0) (h : impl_all.f k l0 = some r),
  Calls Try.prog 26 #[.slice A0 l0.length c0] w fun e w' => ∃ v0_ : Value, e = .returned (v0_) ∧ Kd.N k40 40 w' w.heap.size (fun k_ => (P0_ k_ ∨ w.heap.size ≤ k_)) v0_ r ∧ Below w.heap.size w w' := by
 induction k using Nat.strongRecOn with
 | _ k ih =>
 intro P0_ A0 c0 l0 r w hs0 h
 cases k with
 | zero => exact absurd h (by simp [impl_all.f])
 | succ k =>
 simp only [impl_all.f] at h
 have hu40 := Try.underlying40
 have HO0 := AM (show Kd.V k40 40 w w.heap.size (fun k_ => (P0_ k_ ∨ w.heap.size ≤ k_)) (.slice A0 l0.length c0) l0 from Kd.V_mono hs0 (fun k_ hk => .inl hk))
 have HB := AM (Below.refl w.heap.size w)
 have H : (impl_all.l0 k ([] : List (S40)) l0 (l0.length : Int) 0) = some r := h
 clear h
 have H' := AM H
 clear H
 go_enter Try.func26, Try.ntmps26
 go_wp2
 go_loopg [3, 8] k (fun kq v3 v8 w' => ∃ (x3_1 : List (S40)) (x8_1 : Int), v8 = .int .i64 x8_1 ∧ Za (impl_all.l0 kq x3_1 l0 (l0.length : Int) x8_1 = some r) ∧ Za (kq ≤ k) ∧ Za (Kd.N k40 40 w' w.heap.size (fun k_ => (P0_ k_ ∨ w.heap.size ≤ k_)) v3 x3_1) ∧ Za (Kd.V k40 40 w' w.heap.size (fun k_ => (P0_ k_ ∨ w.heap.size ≤ k_) ∧ some k_ ≠ (v3 : Value).ownBlock) (.slice A0 l0.length c0) l0) ∧ Za (Below w.heap.size w w'))
 case atStart => exact ⟨(([] : List (S40))), (0), ZSM, H', ⟨Nat.le_refl _⟩, ⟨by first | exact Kd.R_nil _ _ _ _ _ | exact Kd.N_nil _ _ _ _ _ | exact Kd.V_nil _ _ _ _ _ | exact Kd.Q_nil _ _ _ _ _ | exact Kd.S_nil _ _ _ _ _⟩, ⟨ZVm HO0.out (fun _ hk => ⟨hk, (by simp [Value.ownBlock])⟩)⟩, ⟨ZB⟩⟩
 case round => (
 clear H'
 obtain ⟨x3_1, x8_1, rfl, HA, HK1, HO_3, HO_6, HB⟩ := hrel
 cases gk with
 | zero => exact absurd HA.out (by simp [impl_all.l0])
 | succ k1 =>
  have H := HA.out
  clear HA
  simp only [impl_all.l0] at H
  by_cases c2 : x8_1 < (l0.length : Int)
  ·(
  rw [if_pos c2] at H
  have c2b0 := decide_eq_true c2
  clear c2
  by_cases c3 : 0 ≤ x8_1
  ·(
  rw [if_pos c3] at H
  have c3b0 := decide_eq_true c3
  clear c3
  by_cases c4 : x8_1 < (l0.length : Int)
  ·(
  rw [if_pos c4] at H
  have c4b0 := decide_eq_true c4
  clear c4
  by_cases c5 : x3_1.length < 1466015503701
  ·(
  rw [if_pos c5] at H
  have LMc5 := AM c5
  clear c5
  obtain ⟨y574, Ny574, H⟩ := ZLET H; try dsimp only at H
  obtain ⟨t577, A6, H⟩ := ZOB H; try dsimp only at H
  by_cases c7 : y574.length + t577.length < 1466015503701
  ·(
  rw [if_pos c7] at H
  have LMc7 := AM c7
  clear c7
  obtain ⟨y580, Ny580, H⟩ := ZLET H; try dsimp only at H
  obtain ⟨t583, A8, H⟩ := ZOB H; try dsimp only at H
  by_cases c9 : y580.length + t583.length < 1466015503701
  ·(
  rw [if_pos c9] at H
  have LMc9 := AM c9
  clear c9
  obtain ⟨y586, hy586⟩ : ∃ y_ : List (S40), y_ = (y580 ++ t583) := ⟨_, rfl⟩
  replace H : (impl_all.l0 k1 y586 l0 (l0.length : Int) (wrap64 (x8_1 + 1))) = some r := by rw [hy586]; exact H
  have Ny586 := AM hy586
  clear hy586
  have H' := AM H
  clear H
  have p572 : 0 ≤ (x8_1 : Int) := ZD
  have q572 : x8_1 < (l0.length : Int) := ZD
  obtain ⟨ad572, A572_6, c572_6, A572_7, c572_7, e572, hx572_0, hx572_1, hx572_2, hx572_3, hx572_4, hx572_5, hx572_6, hx572_7, hl572_6, hi572_6, hl572_7, hi572_7⟩ := at_T40 (Kd.V_reads' HO_6.out).2.2 x8_1 p572 q572
  cases e572
  obtain ⟨ce572, hce572, hMe572, hcc572⟩ := Kd.V_get HO_6.out z40 x8_1 p572 (by first | exact q572 | exact ZD | (have e_ := (Kd.V_reads' HO_6.out).1; omega))
  obtain ⟨ua572_6, uc572_6, ua572_7, uc572_7, rfl, ul572_6, ge572_6, ul572_7, ge572_7⟩ := k40_openF hMe572
  have hv572_6 := hcc572 6 _ rfl
  rw [add_field _ _ 6 (by omega)] at hv572_6
  replace hv572_6 := Option.some.inj (hv572_6.symm.trans hx572_6)
  injection hv572_6 with hva_ hvn_ hvc_
  rw [hva_] at ge572_6
  rw [hvc_] at ul572_6
  have HL572_6 := AM (show Kd.V k40 40 _ w.heap.size _ _ ((D40 l0 x8_1).f4) from Kd.V_mk ul572_6 ge572_6)
  clear hva_ hvn_ hvc_ ge572_6 ul572_6
  have hv572_7 := hcc572 7 _ rfl
  rw [add_field _ _ 7 (by omega)] at hv572_7
  replace hv572_7 := Option.some.inj (hv572_7.symm.trans hx572_7)
  injection hv572_7 with hva_ hvn_ hvc_
  rw [hva_] at ge572_7
  rw [hvc_] at ul572_7
  have HL572_7 := AM (show Kd.V k40 40 _ w.heap.size _ _ ((D40 l0 x8_1).f5) from Kd.V_mk ul572_7 ge572_7)
  clear hva_ hvn_ hvc_ ge572_7 ul572_7 hcc572 hce572
  have HR572_6 := AM hi572_6
  have HC572_6 := AM hl572_6
  clear hi572_6 hl572_6
  have HR572_7 := AM hi572_7
  have HC572_7 := AM hl572_7
  clear hi572_7 hl572_7
  replace p572 := eq_true p572
  replace q572 := eq_true q572
  go_wp2_with (first | ((with_reducible refine gate_dst (N := 5) rfl ?_); refine ZXW w (N := 5) (cs := #[.int .i64 0, .int .i64 0, .int .i64 0, .int .i64 0, .int .i64 0, .int .i64 0, .slice none 0 0, .slice none 0 0]) (t := 40) ?_; intro gb573 hg w10 BK573 GW573 hb; replace HO_3 := AM (Kd.N_below (Kd.N_elderB (ZRN HO_3.out) gb573 (Nat.le_of_eq hg.symm)) hb); replace HO_6 := AM (Kd.V_below (Kd.V_elderB (ZRV HO_6.out) gb573 (Nat.le_of_eq hg.symm)) hb); replace HL572_6 := AM (Kd.V_below (Kd.V_elderB (ZRV HL572_6.out) gb573 (Nat.le_of_eq hg.symm)) hb); replace HL572_7 := AM (Kd.V_below (Kd.V_elderB (ZRV HL572_7.out) gb573 (Nat.le_of_eq hg.symm)) hb); replace HR572_6 := AM (Kd.C_below (ZQ HR572_6.out) hb); replace HR572_7 := AM (Kd.C_below (ZQ HR572_7.out) hb); replace HB := ZT HB hb; clear hb hg; have hcz11 := ZC8 w10 BK573) | ((with_reducible refine gate_store (t := 40) (p := 5) rfl ?_); refine store_event (t := 40) (p := 5) (v := ?vo_w12) (w1 := ((((((((w10.setCell ⟨gb573, 0, none⟩ (.int .i64 ((D40 l0 x8_1).f0))).setCell ⟨gb573, 1, none⟩ (.int .i64 ((D40 l0 x8_1).f1))).setCell ⟨gb573, 2, none⟩ (.int .i64 ((D40 l0 x8_1).f2.f0))).setCell ⟨gb573, 3, none⟩ (.int .i64 ((D40 l0 x8_1).f2.f1))).setCell ⟨gb573, 4, none⟩ (.int .i64 ((D40 l0 x8_1).f2.f2))).setCell ⟨gb573, 5, none⟩ (.int .i64 ((D40 l0 x8_1).f3))).setCell ⟨gb573, 6, none⟩ (.slice A572_6 ((D40 l0 x8_1).f4).length c572_6)).setCell ⟨gb573, 7, none⟩ (.slice A572_7 ((D40 l0 x8_1).f5).length c572_7))) ?hg ?ho ?hn ?hr ?_; (case ho => rfl); (case hg => rfl); (case hn => rfl); (case hr => first | (go_simp; done) | (go_simp; rfl)); intro w12 hw; have n0_ : Za (Kd.N k40 40 w12 w.heap.size (fun k_ => (P0_ k_ ∨ w.heap.size ≤ k_) ∧ k_ ≠ gb573) u3 x3_1) := ⟨(by rw [hw]; exact (ZNf (Kd.N_mono HO_3.out (fun k_ hk => (⟨hk, hk.2⟩ : _ ∧ k_ ≠ gb573))) (fun _ hk => ⟨hk.2, ⟨hk.1.1, hk.1.2⟩⟩)))⟩; have n1_ : Za (Kd.V k40 40 w12 w.heap.size (fun k_ => (P0_ k_ ∨ w.heap.size ≤ k_) ∧ some k_ ≠ (u3 : Value).ownBlock ∧ k_ ≠ gb573) (.slice (some ad572) l0.length c0) l0) := ⟨(by rw [hw]; exact (ZVf (Kd.V_mono HO_6.out (fun k_ hk => (⟨hk, hk.2⟩ : _ ∧ k_ ≠ gb573))) (fun _ hk => ⟨hk.2, ⟨hk.1.1.1, ⟨hk.1.1.2, hk.1.2⟩⟩⟩)))⟩; have n2_ : Za (Kd.V k40 40 w12 w.heap.size (fun k_ => (P0_ k_ ∨ w.heap.size ≤ k_) ∧ some k_ ≠ (u3 : Value).ownBlock ∧ k_ ≠ gb573) (.slice A572_6 ((D40 l0 x8_1).f4).length c572_6) ((D40 l0 x8_1).f4)) := ⟨(by rw [hw]; exact (ZVf (Kd.V_mono HL572_6.out (fun k_ hk => (⟨hk, hk.2⟩ : _ ∧ k_ ≠ gb573))) (fun _ hk => ⟨hk.2, ⟨hk.1.1.1, ⟨hk.1.1.2, hk.1.2⟩⟩⟩)))⟩; have n3_ : Za (Kd.V k40 40 w12 w.heap.size (fun k_ => (P0_ k_ ∨ w.heap.size ≤ k_) ∧ some k_ ≠ (u3 : Value).ownBlock ∧ k_ ≠ gb573) (.slice A572_7 ((D40 l0 x8_1).f5).length c572_7) ((D40 l0 x8_1).f5)) := ⟨(by rw [hw]; exact (ZVf (Kd.V_mono HL572_7.out (fun k_ hk => (⟨hk, hk.2⟩ : _ ∧ k_ ≠ gb573))) (fun _ hk => ⟨hk.2, ⟨hk.1.1.1, ⟨hk.1.1.2, hk.1.2⟩⟩⟩)))⟩; have n4_ : Za (w12.heap[gb573]? = some (.cells #[.int .i64 ((D40 l0 x8_1).f0), .int .i64 ((D40 l0 x8_1).f1), .int .i64 ((D40 l0 x8_1).f2.f0), .int .i64 ((D40 l0 x8_1).f2.f1), .int .i64 ((D40 l0 x8_1).f2.f2), .int .i64 ((D40 l0 x8_1).f3), .slice A572_6 ((D40 l0 x8_1).f4).length c572_6, .slice A572_7 ((D40 l0 x8_1).f5).length c572_7] 40 (0, 0))) := ⟨(by rw [hw]; exact (ZZ BK573.out))⟩; have n5_ : Za (Below w.heap.size w w12) := ⟨(by rw [hw]; exact (ZB))⟩; clear hw HO_3 HO_6 HL572_6 HL572_7 BK573 HB; have HO_3 := n0_; have HO_6 := n1_; have HL572_6 := n2_; have HL572_7 := n3_; have BK573 := n4_; have HB := n5_; clear n0_ n1_ n2_ n3_ n4_ n5_; have hcz13 := ZC8 w12 BK573) | ((with_reducible refine gate_builtin (b := .append) (xs := #[.tmp 12, .tmp 14]) rfl ?_); at_builtin; refine Kd.N_append k40 (w0 := w) w.heap.size rfl (.tmp 12) (.tmp 14) 24 40 (.agg #[(.int .i64 0), (.int .i64 0), (.int .i64 0), (.int .i64 0), (.int .i64 0), (.int .i64 0), (.slice none 0 0), (.slice none 0 0)]) 96 rfl Try.underlying24 info40 rfl (by decide) (by omega) u3 x3_1 (⟨(D40 l0 x8_1).f0, (D40 l0 x8_1).f1, (⟨(D40 l0 x8_1).f2.f0, (D40 l0 x8_1).f2.f1, (D40 l0 x8_1).f2.f2⟩ : S38), (D40 l0 x8_1).f3, (D40 l0 x8_1).f4, (D40 l0 x8_1).f5⟩ : S40) [.int .i64 ((D40 l0 x8_1).f0), .int .i64 ((D40 l0 x8_1).f1), .int .i64 ((D40 l0 x8_1).f2.f0), .int .i64 ((D40 l0 x8_1).f2.f1), .int .i64 ((D40 l0 x8_1).f2.f2), .int .i64 ((D40 l0 x8_1).f3), .slice A572_6 ((D40 l0 x8_1).f4).length c572_6, .slice A572_7 ((D40 l0 x8_1).f5).length c572_7] (fun k_ => (P0_ k_ ∨ w.heap.size ≤ k_) ∧ k_ ≠ gb573) (fun k_ => ((fun k_ => (P0_ k_ ∨ w.heap.size ≤ k_) ∧ k_ ≠ gb573)) k_ ∧ some k_ ≠ (u3 : Value).ownBlock) rfl rfl ?aP (fun _ hk => hk) ?aF ?aO ?aB ?aS ?aL ?_; (case aP => exact (k40_mkF _ _ (⟨(D40 l0 x8_1).f0, (D40 l0 x8_1).f1, (⟨(D40 l0 x8_1).f2.f0, (D40 l0 x8_1).f2.f1, (D40 l0 x8_1).f2.f2⟩ : S38), (D40 l0 x8_1).f3, (D40 l0 x8_1).f4, (D40 l0 x8_1).f5⟩ : S40) (Kd.V_reads' (Kd.V_mono (ok' := (fun k_ => ((fun k_ => (P0_ k_ ∨ w.heap.size ≤ k_) ∧ k_ ≠ gb573)) k_ ∧ some k_ ≠ (u3 : Value).ownBlock)) (HL572_6.out) (fun k_ hk => ⟨⟨hk.1, hk.2.2⟩, hk.2.1⟩))).2.1 (Kd.V_F (Kd.V_mono (ok' := (fun k_ => ((fun k_ => (P0_ k_ ∨ w.heap.size ≤ k_) ∧ k_ ≠ gb573)) k_ ∧ some k_ ≠ (u3 : Value).ownBlock)) (HL572_6.out) (fun k_ hk => ⟨⟨hk.1, hk.2.2⟩, hk.2.1⟩))) (Kd.V_reads' (Kd.V_mono (ok' := (fun k_ => ((fun k_ => (P0_ k_ ∨ w.heap.size ≤ k_) ∧ k_ ≠ gb573)) k_ ∧ some k_ ≠ (u3 : Value).ownBlock)) (HL572_7.out) (fun k_ hk => ⟨⟨hk.1, hk.2.2⟩, hk.2.1⟩))).2.1 (Kd.V_F (Kd.V_mono (ok' := (fun k_ => ((fun k_ => (P0_ k_ ∨ w.heap.size ≤ k_) ∧ k_ ≠ gb573)) k_ ∧ some k_ ≠ (u3 : Value).ownBlock)) (HL572_7.out) (fun k_ hk => ⟨⟨hk.1, hk.2.2⟩, hk.2.1⟩))))); (case aB => exact (ZB)); (case aF => exact (fun k_ hk => ⟨(.inr (Nat.le_trans (below_size (ZB)) hk)), Kd.freshB (g := gb573) (o := .cells #[.int .i64 ((D40 l0 x8_1).f0), .int .i64 ((D40 l0 x8_1).f1), .int .i64 ((D40 l0 x8_1).f2.f0), .int .i64 ((D40 l0 x8_1).f2.f1), .int .i64 ((D40 l0 x8_1).f2.f2), .int .i64 ((D40 l0 x8_1).f3), .slice A572_6 ((D40 l0 x8_1).f4).length c572_6, .slice A572_7 ((D40 l0 x8_1).f5).length c572_7] 40 (0, 0)) (ZK BK573.out) k_ hk⟩)); (case aO => exact (ZRN HO_3.out)); (case aS => exact (below_size (ZB))); (case aL => have := LMc5.out; omega); intro v575 w14 ho hb hg hat; rw [← Ny574.out] at ho; have n0_ := AM (Kd.V_afterv (ok := (fun k_ => (P0_ k_ ∨ w.heap.size ≤ k_) ∧ k_ ≠ gb573)) (ZVm HO_6.out (fun _ hk => ⟨⟨hk.1, hk.2.2⟩, hk.2.1⟩)) hg hat); have n1_ := AM (Kd.V_afterv (ok := (fun k_ => (P0_ k_ ∨ w.heap.size ≤ k_) ∧ k_ ≠ gb573)) (ZVm HL572_6.out (fun _ hk => ⟨⟨hk.1, hk.2.2⟩, hk.2.1⟩)) hg hat); have n2_ := AM (Kd.V_afterv (ok := (fun k_ => (P0_ k_ ∨ w.heap.size ≤ k_) ∧ k_ ≠ gb573)) (ZVm HL572_7.out (fun _ hk => ⟨⟨hk.1, hk.2.2⟩, hk.2.1⟩)) hg hat); have n3_ := AM (blk_grown (g := gb573) (o := .cells #[.int .i64 ((D40 l0 x8_1).f0), .int .i64 ((D40 l0 x8_1).f1), .int .i64 ((D40 l0 x8_1).f2.f0), .int .i64 ((D40 l0 x8_1).f2.f1), .int .i64 ((D40 l0 x8_1).f2.f2), .int .i64 ((D40 l0 x8_1).f3), .slice A572_6 ((D40 l0 x8_1).f4).length c572_6, .slice A572_7 ((D40 l0 x8_1).f5).length c572_7] 40 (0, 0)) (ZK BK573.out) hg (Kd.N_away HO_3.out (fun _ hk => hk.2))); have n4_ := AM (hb); have n5_ := AM (ho); clear HO_6 HL572_6 HL572_7 BK573 HB HO_3; have HO_6 := n0_; have HL572_6 := n1_; have HL572_7 := n2_; have BK573 := n3_; have HB := n4_; have HO576 := n5_; clear n0_ n1_ n2_ n3_ n4_ n5_ ho hb hg hat; have hcz15 := ZC8 w14 BK573) | ((with_reducible refine gate_callee (f := 26) rfl ?_); refine ZGL (some 19) Try.func26 #[.slice A572_6 ((D40 l0 x8_1).f4).length c572_6] ?_; (with_reducible refine (ih k1 (by have := HK1.out; omega) (fun k_ => (((P0_ k_ ∨ w.heap.size ≤ k_) ∧ k_ ≠ gb573) ∧ some k_ ≠ (v575 : Value).ownBlock)) _ _ ((D40 l0 x8_1).f4) t577 _ ?side1 A6.out).mono ?_); (case side1 => exact HL572_6.out); rintro e w16 ⟨v578, rfl, ho0, hb⟩; refine ZV1 ?_; have HO579 := AM (Kd.N_lower (Kd.N_mono (ok' := fun k_ => (P0_ k_ ∨ w.heap.size ≤ k_) ∧ some k_ ≠ (v575 : Value).ownBlock ∧ k_ ≠ gb573) ho0 (fun k_ hk_ => ⟨Or.elim hk_ (fun hs_ => hs_.1.1) (fun hn_ => (.inr (Nat.le_trans (below_size (ZB)) hn_))), Or.elim hk_ (fun hs_ => hs_.2) (fun hn_ => (Kd.fresh' (Kd.N_lt (ZRN HO576.out)) k_ hn_)), Or.elim hk_ (fun hs_ => hs_.1.2) (fun hn_ => (Kd.freshB (g := gb573) (o := .cells #[.int .i64 ((D40 l0 x8_1).f0), .int .i64 ((D40 l0 x8_1).f1), .int .i64 ((D40 l0 x8_1).f2.f0), .int .i64 ((D40 l0 x8_1).f2.f1), .int .i64 ((D40 l0 x8_1).f2.f2), .int .i64 ((D40 l0 x8_1).f3), .slice A572_6 ((D40 l0 x8_1).f4).length c572_6, .slice A572_7 ((D40 l0 x8_1).f5).length c572_7] 40 (0, 0)) (ZK BK573.out) k_ hn_))⟩)) (below_size (ZB))); replace HO_6 := AM (Kd.V_elder' (ZRV HO_6.out) (Kd.N_base ho0) hb); replace HL572_6 := AM (Kd.V_elder' (ZRV HL572_6.out) (Kd.N_base ho0) hb); replace HL572_7 := AM (Kd.V_elder' (ZRV HL572_7.out) (Kd.N_base ho0) hb); replace HO576 := AM (Kd.N_elder' (ZRN HO576.out) (Kd.N_base ho0) hb); replace BK573 := ZW BK573 hb; replace HB := ZT HB hb; clear hb; (try clear ho0); obtain ⟨Ao18, co18, eo18⟩ := Kd.N_slice HO579.out; subst eo18) | ((with_reducible refine gate_builtin (b := .append) (xs := #[.tmp 16, .tmp 19]) rfl ?_); at_builtin; refine Kd.N_append_rows k40 (w0 := w) w.heap.size rfl (.tmp 16) (.tmp 19) 24 40 (.agg #[(.int .i64 0), (.int .i64 0), (.int .i64 0), (.int .i64 0), (.int .i64 0), (.int .i64 0), (.slice none 0 0), (.slice none 0 0)]) 96 rfl Try.underlying24 info40 rfl (by decide) (by omega) v575 y574 t577 _ _ _ (fun k_ => (P0_ k_ ∨ w.heap.size ≤ k_) ∧ k_ ≠ gb573) (fun k_ => ((fun k_ => (P0_ k_ ∨ w.heap.size ≤ k_) ∧ k_ ≠ gb573)) k_ ∧ some k_ ≠ (v575 : Value).ownBlock) rfl rfl ?aO ?aR (fun _ hk => hk) ?aF ?aB ?aS ?aL ?_; (case aR => exact (by skip; exact Kd.N_F (Kd.N_mono (ok' := (fun k_ => ((fun k_ => (P0_ k_ ∨ w.heap.size ≤ k_) ∧ k_ ≠ gb573)) k_ ∧ some k_ ≠ (v575 : Value).ownBlock)) (HO579.out) (fun k_ hk => ⟨⟨hk.1, hk.2.2⟩, hk.2.1⟩)))); (case aB => exact (ZB)); (case aF => exact (fun k_ hk => ⟨(.inr (Nat.le_trans (below_size (ZB)) hk)), Kd.freshB (g := gb573) (o := .cells #[.int .i64 ((D40 l0 x8_1).f0), .int .i64 ((D40 l0 x8_1).f1), .int .i64 ((D40 l0 x8_1).f2.f0), .int .i64 ((D40 l0 x8_1).f2.f1), .int .i64 ((D40 l0 x8_1).f2.f2), .int .i64 ((D40 l0 x8_1).f3), .slice A572_6 ((D40 l0 x8_1).f4).length c572_6, .slice A572_7 ((D40 l0 x8_1).f5).length c572_7] 40 (0, 0)) (ZK BK573.out) k_ hk⟩)); (case aO => exact (ZNm HO576.out (fun _ hk => ⟨hk.1.1, hk.1.2⟩))); (case aS => exact (below_size (ZB))); (case aL => have := LMc7.out; omega); intro v581 w17 ho hb hg hat; rw [← Ny580.out] at ho; have n0_ := AM (Kd.V_afterv (ok := (fun k_ => (P0_ k_ ∨ w.heap.size ≤ k_) ∧ some k_ ≠ (.slice Ao18 t577.length co18 : Value).ownBlock ∧ k_ ≠ gb573)) (ZVm HO_6.out (fun _ hk => ⟨⟨hk.1.1.1, ⟨hk.2, hk.1.1.2⟩⟩, hk.1.2⟩)) hg hat); have n1_ := AM (Kd.V_afterv (ok := (fun k_ => (P0_ k_ ∨ w.heap.size ≤ k_) ∧ some k_ ≠ (.slice Ao18 t577.length co18 : Value).ownBlock ∧ k_ ≠ gb573)) (ZVm HL572_6.out (fun _ hk => ⟨⟨hk.1.1.1, ⟨hk.2, hk.1.1.2⟩⟩, hk.1.2⟩)) hg hat); have n2_ := AM (Kd.V_afterv (ok := (fun k_ => (P0_ k_ ∨ w.heap.size ≤ k_) ∧ some k_ ≠ (.slice Ao18 t577.length co18 : Value).ownBlock ∧ k_ ≠ gb573)) (ZVm HL572_7.out (fun _ hk => ⟨⟨hk.1.1.1, ⟨hk.2, hk.1.1.2⟩⟩, hk.1.2⟩)) hg hat); have n3_ := AM (blk_grown (g := gb573) (o := .cells #[.int .i64 ((D40 l0 x8_1).f0), .int .i64 ((D40 l0 x8_1).f1), .int .i64 ((D40 l0 x8_1).f2.f0), .int .i64 ((D40 l0 x8_1).f2.f1), .int .i64 ((D40 l0 x8_1).f2.f2), .int .i64 ((D40 l0 x8_1).f3), .slice A572_6 ((D40 l0 x8_1).f4).length c572_6, .slice A572_7 ((D40 l0 x8_1).f5).length c572_7] 40 (0, 0)) (ZK BK573.out) hg (Kd.N_away HO576.out (fun _ hk => hk.1.2))); have n4_ := AM (Kd.N_afterv (ok := (fun k_ => (P0_ k_ ∨ w.heap.size ≤ k_) ∧ k_ ≠ gb573)) (ZNm HO579.out (fun _ hk => ⟨⟨hk.1, hk.2.2⟩, hk.2.1⟩)) hg hat); have n5_ := AM (hb); have n6_ := AM (ho); clear HO_6 HL572_6 HL572_7 BK573 HO579 HB HO576; have HO_6 := n0_; have HL572_6 := n1_; have HL572_7 := n2_; have BK573 := n3_; have HO579 := n4_; have HB := n5_; have HO582 := n6_; clear n0_ n1_ n2_ n3_ n4_ n5_ n6_ ho hb hg hat; have hcz19 := ZC8 w17 BK573) | ((with_reducible refine gate_callee (f := 26) rfl ?_); refine ZGL (some 24) Try.func26 #[.slice A572_7 ((D40 l0 x8_1).f5).length c572_7] ?_; (with_reducible refine (ih k1 (by have := HK1.out; omega) (fun k_ => (((P0_ k_ ∨ w.heap.size ≤ k_) ∧ (some k_ ≠ (.slice Ao18 t577.length co18 : Value).ownBlock ∧ k_ ≠ gb573)) ∧ some k_ ≠ (v581 : Value).ownBlock)) _ _ ((D40 l0 x8_1).f5) t583 _ ?side1 A8.out).mono ?_); (case side1 => exact HL572_7.out); rintro e w20 ⟨v584, rfl, ho0, hb⟩; refine ZV1 ?_; have HO585 := AM (Kd.N_lower (Kd.N_mono (ok' := fun k_ => (P0_ k_ ∨ w.heap.size ≤ k_) ∧ some k_ ≠ (.slice Ao18 t577.length co18 : Value).ownBlock ∧ some k_ ≠ (v581 : Value).ownBlock ∧ k_ ≠ gb573) ho0 (fun k_ hk_ => ⟨Or.elim hk_ (fun hs_ => hs_.1.1) (fun hn_ => (.inr (Nat.le_trans (below_size (ZB)) hn_))), Or.elim hk_ (fun hs_ => hs_.1.2.1) (fun hn_ => (Kd.fresh' (Kd.N_lt (ZRN HO579.out)) k_ hn_)), Or.elim hk_ (fun hs_ => hs_.2) (fun hn_ => (Kd.fresh' (Kd.N_lt (ZRN HO582.out)) k_ hn_)), Or.elim hk_ (fun hs_ => hs_.1.2.2) (fun hn_ => (Kd.freshB (g := gb573) (o := .cells #[.int .i64 ((D40 l0 x8_1).f0), .int .i64 ((D40 l0 x8_1).f1), .int .i64 ((D40 l0 x8_1).f2.f0), .int .i64 ((D40 l0 x8_1).f2.f1), .int .i64 ((D40 l0 x8_1).f2.f2), .int .i64 ((D40 l0 x8_1).f3), .slice A572_6 ((D40 l0 x8_1).f4).length c572_6, .slice A572_7 ((D40 l0 x8_1).f5).length c572_7] 40 (0, 0)) (ZK BK573.out) k_ hn_))⟩)) (below_size (ZB))); replace HO_6 := AM (Kd.V_elder' (ZRV HO_6.out) (Kd.N_base ho0) hb); replace HL572_6 := AM (Kd.V_elder' (ZRV HL572_6.out) (Kd.N_base ho0) hb); replace HL572_7 := AM (Kd.V_elder' (ZRV HL572_7.out) (Kd.N_base ho0) hb); replace HO579 := AM (Kd.N_elder' (ZRN HO579.out) (Kd.N_base ho0) hb); replace HO582 := AM (Kd.N_elder' (ZRN HO582.out) (Kd.N_base ho0) hb); replace BK573 := ZW BK573 hb; replace HB := ZT HB hb; clear hb; (try clear ho0); obtain ⟨Ao22, co22, eo22⟩ := Kd.N_slice HO585.out; subst eo22) | ((with_reducible refine gate_builtin (b := .append) (xs := #[.tmp 21, .tmp 24]) rfl ?_); at_builtin; refine Kd.N_append_rows k40 (w0 := w) w.heap.size rfl (.tmp 21) (.tmp 24) 24 40 (.agg #[(.int .i64 0), (.int .i64 0), (.int .i64 0), (.int .i64 0), (.int .i64 0), (.int .i64 0), (.slice none 0 0), (.slice none 0 0)]) 96 rfl Try.underlying24 info40 rfl (by decide) (by omega) v581 y580 t583 _ _ _ (fun k_ => (P0_ k_ ∨ w.heap.size ≤ k_) ∧ k_ ≠ gb573) (fun k_ => ((fun k_ => (P0_ k_ ∨ w.heap.size ≤ k_) ∧ k_ ≠ gb573)) k_ ∧ some k_ ≠ (v581 : Value).ownBlock) rfl rfl ?aO ?aR (fun _ hk => hk) ?aF ?aB ?aS ?aL ?_; (case aR => exact (by skip; exact Kd.N_F (Kd.N_mono (ok' := (fun k_ => ((fun k_ => (P0_ k_ ∨ w.heap.size ≤ k_) ∧ k_ ≠ gb573)) k_ ∧ some k_ ≠ (v581 : Value).ownBlock)) (HO585.out) (fun k_ hk => ⟨⟨hk.1, hk.2.2.2⟩, hk.2.2.1⟩)))); (case aB => exact (ZB)); (case aF => exact (fun k_ hk => ⟨(.inr (Nat.le_trans (below_size (ZB)) hk)), Kd.freshB (g := gb573) (o := .cells #[.int .i64 ((D40 l0 x8_1).f0), .int .i64 ((D40 l0 x8_1).f1), .int .i64 ((D40 l0 x8_1).f2.f0), .int .i64 ((D40 l0 x8_1).f2.f1), .int .i64 ((D40 l0 x8_1).f2.f2), .int .i64 ((D40 l0 x8_1).f3), .slice A572_6 ((D40 l0 x8_1).f4).length c572_6, .slice A572_7 ((D40 l0 x8_1).f5).length c572_7] 40 (0, 0)) (ZK BK573.out) k_ hk⟩)); (case aO => exact (ZNm HO582.out (fun _ hk => ⟨hk.1.1, hk.1.2⟩))); (case aS => exact (below_size (ZB))); (case aL => have := LMc9.out; omega); intro v587 w21 ho hb hg hat; rw [← Ny586.out] at ho; have n0_ := AM (Kd.V_afterv (ok := (fun k_ => (P0_ k_ ∨ w.heap.size ≤ k_) ∧ some k_ ≠ (.slice Ao18 t577.length co18 : Value).ownBlock ∧ some k_ ≠ (.slice Ao22 t583.length co22 : Value).ownBlock ∧ k_ ≠ gb573)) (ZVm HO_6.out (fun _ hk => ⟨⟨hk.1.1.1, ⟨hk.1.1.2.1, ⟨hk.2, hk.1.1.2.2⟩⟩⟩, hk.1.2⟩)) hg hat); have n1_ := AM (Kd.V_afterv (ok := (fun k_ => (P0_ k_ ∨ w.heap.size ≤ k_) ∧ some k_ ≠ (.slice Ao18 t577.length co18 : Value).ownBlock ∧ some k_ ≠ (.slice Ao22 t583.length co22 : Value).ownBlock ∧ k_ ≠ gb573)) (ZVm HL572_6.out (fun _ hk => ⟨⟨hk.1.1.1, ⟨hk.1.1.2.1, ⟨hk.2, hk.1.1.2.2⟩⟩⟩, hk.1.2⟩)) hg hat); have n2_ := AM (Kd.V_afterv (ok := (fun k_ => (P0_ k_ ∨ w.heap.size ≤ k_) ∧ some k_ ≠ (.slice Ao18 t577.length co18 : Value).ownBlock ∧ some k_ ≠ (.slice Ao22 t583.length co22 : Value).ownBlock ∧ k_ ≠ gb573)) (ZVm HL572_7.out (fun _ hk => ⟨⟨hk.1.1.1, ⟨hk.1.1.2.1, ⟨hk.2, hk.1.1.2.2⟩⟩⟩, hk.1.2⟩)) hg hat); have n3_ := AM (blk_grown (g := gb573) (o := .cells #[.int .i64 ((D40 l0 x8_1).f0), .int .i64 ((D40 l0 x8_1).f1), .int .i64 ((D40 l0 x8_1).f2.f0), .int .i64 ((D40 l0 x8_1).f2.f1), .int .i64 ((D40 l0 x8_1).f2.f2), .int .i64 ((D40 l0 x8_1).f3), .slice A572_6 ((D40 l0 x8_1).f4).length c572_6, .slice A572_7 ((D40 l0 x8_1).f5).length c572_7] 40 (0, 0)) (ZK BK573.out) hg (Kd.N_away HO582.out (fun _ hk => hk.1.2))); have n4_ := AM (Kd.N_afterv (ok := (fun k_ => (P0_ k_ ∨ w.heap.size ≤ k_) ∧ some k_ ≠ (.slice Ao22 t583.length co22 : Value).ownBlock ∧ k_ ≠ gb573)) (ZNm HO579.out (fun _ hk => ⟨⟨hk.1.1.1, ⟨hk.2, hk.1.1.2⟩⟩, hk.1.2⟩)) hg hat); have n5_ := AM (Kd.N_afterv (ok := (fun k_ => (P0_ k_ ∨ w.heap.size ≤ k_) ∧ some k_ ≠ (.slice Ao18 t577.length co18 : Value).ownBlock ∧ k_ ≠ gb573)) (ZNm HO585.out (fun _ hk => ⟨⟨hk.1, ⟨hk.2.1, hk.2.2.2⟩⟩, hk.2.2.1⟩)) hg hat); have n6_ := AM (hb); have n7_ := AM (ho); clear HO_6 HL572_6 HL572_7 BK573 HO579 HO585 HB HO582; have HO_6 := n0_; have HL572_6 := n1_; have HL572_7 := n2_; have BK573 := n3_; have HO579 := n4_; have HO585 := n5_; have HB := n6_; have HO588 := n7_; clear n0_ n1_ n2_ n3_ n4_ n5_ n6_ n7_ ho hb hg hat))
  go_roundg k1
  case measure => have := HK1.out; omega
  case rel => exact ⟨(y586), (wrap64 (x8_1 + 1)), ZSM, H', ⟨by have := HK1.out; omega⟩, ⟨ZRN (Kd.N_mono HO588.out (fun _ hk => hk.1))⟩, ⟨ZVm HO_6.out (fun _ hk => ⟨hk.1.1, hk.2⟩)⟩, ⟨ZB⟩⟩)
  ·(
  rw [if_neg c9] at H
  exact absurd H (by simp)))
  ·(
  rw [if_neg c7] at H
  exact absurd H (by simp)))
  ·(
  rw [if_neg c5] at H
  exact absurd H (by simp)))
  ·(
  rw [if_neg c4] at H
  exact absurd H (by simp)))
  ·(
  rw [if_neg c3] at H
  exact absurd H (by simp)))
  ·(
  rw [if_neg c2] at H
  have c2b0 := decide_eq_false c2
  clear c2
  obtain rfl := Option.some.inj H
  go_wp2
  go_ret
  exact ⟨_, ZE, by (with_reducible repeat (first | apply Kd.N_alloc | apply Kd.N_drewN | apply Kd.N_drew)); exact HO_3.out, ZB⟩))

end Go.Proofs.Ytkkdeojbkfjlpaa.B
