/- Go functions as Lean functions, and for each its contract; written by wip/tools/pr.py over the kit's print. -/
import Derived.Test.YtfcmckomagaiiaaDoorAx0
import Derived.Test.YtfcmckomagaiiaaDoorAx8
import Derived.Test.YtfcmckomagaiiaaDoorAx9
namespace Go.Proofs.YtfcmckomagaiiaaDoor.A
open Go.RowKit Go.Proofs.YtfcmckomagaiiaaDoorW.PrintWords Go.Proofs.YtfcmckomagaiiaaDoorW.PrintLast Go.Proofs.YtfcmckomagaiiaaDoorW.PrintMore
attribute [local go_sem] max2_int min2_int max_two min_two max_three min_three max_four min_four
set_option linter.unusedVariables false
set_option linter.unusedSimpArgs false
set_option maxHeartbeats 8000000
set_option maxRecDepth 100000

/-! ### impl_size: function 43 -/
mutual
def impl_size.l0 : Nat → Int → List (S71) → Int → Int → Option (Int)
 | 0, _, _, _, _ => none
 | k + 1, x3, x8, x9, x10 => if x10 < x9 then (if 0 ≤ x10 then (if x10 < (x8.length : Int) then ((impl_size.f k ((D71 x8 x10).f4)).bind fun t202 => ((impl_size.f k ((D71 x8 x10).f5)).bind fun t203 => (impl_size.l0 k (wrap64 (x3 + (wrap64 (t202 + t203)))) x8 x9 (wrap64 (x10 + 1))))) else (none)) else (none)) else (some x3)
def impl_size.f : Nat → List (S71) → Option (Int)
 | 0, _ => none
 | k + 1, l0 => impl_size.l0 k (l0.length : Int) l0 (l0.length : Int) 0
end
def impl_size.T5 : Bool × List (List Nat × List Nat) := (true, [([], []), ([], []), ([1], [1]), ([2], [2]), ([], []), ([4], [4]), ([5, 3], [5]), ([3, 6], [3, 6]), ([0, 7], [0, 7]), ([8, 6, 0, 1, 2, 3, 4, 5, 6, 7, 8], [0, 8])])
def impl_size.B5 : List Nat := [0, 0, 2, 6, 0, 16, 62, 126, 255, 511]
theorem impl_size.tab5 : rtab .any (opsOf Tryd.f43 5) = impl_size.T5 := by kernel_rfl
theorem impl_size.bits5 : waitsOk impl_size.T5.2 impl_size.B5 = true := by kernel_rfl
theorem impl_size.calls (k : Nat) : ∀ (A0 : Option Addr) (c0 : Nat) (l0 : List (S71)) (r : Int) (w : World) (hr0 : Kd.C k71 w A0 l0.length l0) (hc0 : l0.length ≤ c0) (h : impl_size.f k l0 = some r),
  Calls Tryd.prog 43 #[.slice A0 l0.length c0] w fun e w' => e = .returned (.int .i64 r) ∧ Below w.heap.size w w' := by
 induction k using Nat.strongRecOn with
 | _ k ih =>
 intro A0 c0 l0 r w hr0 hc0 h
 cases k with
 | zero => exact absurd h (by simp [impl_size.f])
 | succ k =>
 simp only [impl_size.f] at h
 have hu71 := Tryd.underlying71
 have HR0 := AM hr0
 have HC0 := AM hc0
 clear hr0 hc0
 have HB := AM (Below.refl w.heap.size w)
 have H : (impl_size.l0 k (l0.length : Int) l0 (l0.length : Int) 0) = some r := h
 clear h
 have H' := AM H
 clear H
 go_enter Tryd.func43, Tryd.ntmps43
 go_wp2
 go_loopg [3, 10] k (fun kq v3 v10 w' => ∃ (x3_1 : Int) (x10_1 : Int), v3 = .int .i64 x3_1 ∧ v10 = .int .i64 x10_1 ∧ Za (impl_size.l0 kq x3_1 l0 (l0.length : Int) x10_1 = some r) ∧ Za (kq ≤ k) ∧ Za (Below w.heap.size w w'))
 case atStart => exact ⟨((l0.length : Int)), (0), ZSM, ZSM, H', ⟨Nat.le_refl _⟩, ⟨ZB⟩⟩
 case round => (
 clear H'
 obtain ⟨x3_1, x10_1, rfl, rfl, HA, HK1, HB⟩ := hrel
 cases gk with
 | zero => exact absurd HA.out (by simp [impl_size.l0])
 | succ k1 =>
  have H := HA.out
  clear HA
  simp only [impl_size.l0] at H
  by_cases c2 : x10_1 < (l0.length : Int)
  ·(
  rw [if_pos c2] at H
  have c2b0 := decide_eq_true c2
  clear c2
  by_cases c3 : 0 ≤ x10_1
  ·(
  rw [if_pos c3] at H
  have c3b0 := decide_eq_true c3
  clear c3
  by_cases c4 : x10_1 < (l0.length : Int)
  ·(
  rw [if_pos c4] at H
  have c4b0 := decide_eq_true c4
  clear c4
  obtain ⟨t202, A5, H⟩ := ZOB H; try dsimp only at H
  obtain ⟨t203, A6, H⟩ := ZOB H; try dsimp only at H
  have H' := AM H
  clear H
  have p200 : 0 ≤ (x10_1 : Int) := ZD
  have q200 : x10_1 < (l0.length : Int) := ZD
  obtain ⟨ad200, A200_6, c200_6, A200_7, c200_7, e200, hx200_0, hx200_1, hx200_2, hx200_3, hx200_4, hx200_5, hx200_6, hx200_7, hl200_6, hi200_6, hl200_7, hi200_7⟩ := at_T71 HR0.out x10_1 p200 q200
  cases e200
  replace hx200_0 := ZHX HB hx200_0
  replace hx200_1 := ZHX HB hx200_1
  replace hx200_2 := ZHX HB hx200_2
  replace hx200_3 := ZHX HB hx200_3
  replace hx200_4 := ZHX HB hx200_4
  replace hx200_5 := ZHX HB hx200_5
  replace hx200_6 := ZHX HB hx200_6
  replace hx200_7 := ZHX HB hx200_7
  have HR200_6 := AM hi200_6
  have HC200_6 := AM hl200_6
  clear hi200_6 hl200_6
  have HR200_7 := AM hi200_7
  have HC200_7 := AM hl200_7
  clear hi200_7 hl200_7
  replace p200 := eq_true p200
  replace q200 := eq_true q200
  try go_wp2_with (first | ((with_reducible refine gate_dst (N := 5) rfl ?_); refine ZXW w (N := 5) (cs := #[.int .i64 0, .int .i64 0, .int .i64 0, .int .i64 0, .int .i64 0, .int .i64 0, .slice none 0 0, .slice none 0 0]) (t := 71) ?_; intro gb201 hg w7 BK201 GW201 hb; replace HB := ZT HB hb; clear hb hg; have hcz8 := ZC8 w7 BK201))
  have n0_ : Za (((((((((w7.setCell ⟨gb201, 0, none⟩ (.int .i64 ((D71 l0 x10_1).f0))).setCell ⟨gb201, 1, none⟩ (.int .i64 ((D71 l0 x10_1).f1))).setCell ⟨gb201, 2, none⟩ (.int .i64 ((D71 l0 x10_1).f2.f0))).setCell ⟨gb201, 3, none⟩ (.int .i64 ((D71 l0 x10_1).f2.f1))).setCell ⟨gb201, 4, none⟩ (.int .i64 ((D71 l0 x10_1).f2.f2))).setCell ⟨gb201, 5, none⟩ (.int .i64 ((D71 l0 x10_1).f3))).setCell ⟨gb201, 6, none⟩ (.slice A200_6 ((D71 l0 x10_1).f4).length c200_6)).setCell ⟨gb201, 7, none⟩ (.slice A200_7 ((D71 l0 x10_1).f5).length c200_7)).heap[gb201]? = some (.cells #[.int .i64 ((D71 l0 x10_1).f0), .int .i64 ((D71 l0 x10_1).f1), .int .i64 ((D71 l0 x10_1).f2.f0), .int .i64 ((D71 l0 x10_1).f2.f1), .int .i64 ((D71 l0 x10_1).f2.f2), .int .i64 ((D71 l0 x10_1).f3), .slice A200_6 ((D71 l0 x10_1).f4).length c200_6, .slice A200_7 ((D71 l0 x10_1).f5).length c200_7] 71 (0, 0))) := ⟨ZZ BK201.out⟩
  have n1_ : Za (Below w.heap.size w ((((((((w7.setCell ⟨gb201, 0, none⟩ (.int .i64 ((D71 l0 x10_1).f0))).setCell ⟨gb201, 1, none⟩ (.int .i64 ((D71 l0 x10_1).f1))).setCell ⟨gb201, 2, none⟩ (.int .i64 ((D71 l0 x10_1).f2.f0))).setCell ⟨gb201, 3, none⟩ (.int .i64 ((D71 l0 x10_1).f2.f1))).setCell ⟨gb201, 4, none⟩ (.int .i64 ((D71 l0 x10_1).f2.f2))).setCell ⟨gb201, 5, none⟩ (.int .i64 ((D71 l0 x10_1).f3))).setCell ⟨gb201, 6, none⟩ (.slice A200_6 ((D71 l0 x10_1).f4).length c200_6)).setCell ⟨gb201, 7, none⟩ (.slice A200_7 ((D71 l0 x10_1).f5).length c200_7))) := ⟨ZB⟩
  (try clear BK201)
  (try clear HB)
  generalize ((((((((w7.setCell ⟨gb201, 0, none⟩ (.int .i64 ((D71 l0 x10_1).f0))).setCell ⟨gb201, 1, none⟩ (.int .i64 ((D71 l0 x10_1).f1))).setCell ⟨gb201, 2, none⟩ (.int .i64 ((D71 l0 x10_1).f2.f0))).setCell ⟨gb201, 3, none⟩ (.int .i64 ((D71 l0 x10_1).f2.f1))).setCell ⟨gb201, 4, none⟩ (.int .i64 ((D71 l0 x10_1).f2.f2))).setCell ⟨gb201, 5, none⟩ (.int .i64 ((D71 l0 x10_1).f3))).setCell ⟨gb201, 6, none⟩ (.slice A200_6 ((D71 l0 x10_1).f4).length c200_6)).setCell ⟨gb201, 7, none⟩ (.slice A200_7 ((D71 l0 x10_1).f5).length c200_7)) = w9 at n0_ n1_ ⊢
  have BK201 := n0_
  have HB := n1_
  clear n0_ n1_
  replace BK201 := AM (blk_drew BK201.out)
  replace HB := AM (below_drew1 HB.out)
  refine start_ (n := 10) (S := fun w' => w'.cell? ⟨gb201, 0, none⟩ = some (.int .i64 ((D71 l0 x10_1).f0)) ∧ w'.cell? ⟨gb201, 1, none⟩ = some (.int .i64 ((D71 l0 x10_1).f1)) ∧ w'.cell? ⟨gb201, 2, none⟩ = some (.int .i64 ((D71 l0 x10_1).f2.f0)) ∧ w'.cell? ⟨gb201, 3, none⟩ = some (.int .i64 ((D71 l0 x10_1).f2.f1)) ∧ w'.cell? ⟨gb201, 4, none⟩ = some (.int .i64 ((D71 l0 x10_1).f2.f2)) ∧ w'.cell? ⟨gb201, 5, none⟩ = some (.int .i64 ((D71 l0 x10_1).f3)) ∧ w'.cell? ⟨gb201, 6, none⟩ = some (.slice A200_6 ((D71 l0 x10_1).f4).length c200_6) ∧ w'.cell? ⟨gb201, 7, none⟩ = some (.slice A200_7 ((D71 l0 x10_1).f5).length c200_7)) (ds := []) #[F,F,F,F,F,F,F,F,F,F] (by kernel_rfl) rfl rfl ⟨ZA BK201 0, ZA BK201 1, ZA BK201 2, ZA BK201 3, ZA BK201 4, ZA BK201 5, ZA BK201 6, ZA BK201 7⟩ (fun hHeld => ?_); refine with_tabW impl_size.tab5 impl_size.bits5 (fun HT_ HW_ => ?_)
  generalize w9.drew = w10 at BK201 HB hHeld ⊢
  refine ZU 0 14 #[T,F,F,F,F,F,F,F,F,F] ?_
  refine ZU 1 15 #[T,T,F,F,F,F,F,F,F,F] ?_
  refine ZU 4 18 #[T,T,F,F,T,F,F,F,F,F] ?_
  refine ZTK 2 16 #[T,T,T,F,T,F,F,F,F,F] hHeld ?_
  refine ZTK 5 19 #[T,T,T,F,T,T,F,F,F,F] hHeld ?_
  refine one_ (i := 3) (N := some 17) #[T,T,T,T,T,T,F,F,F,F] rfl rfl (one_of HT_.out (by kernel_rfl)) (by decide) (fun K hK => ?_)
  refine ZGO Tryd.func43 #[.slice A200_6 ((D71 l0 x10_1).f4).length c200_6] ?_
  with_reducible refine (ih k1 (by have := HK1.out; omega) _ _ ((D71 l0 x10_1).f4) t202 _ ?side1 ?side2 A5.out).mono ?_
  (case side1 => exact ZQ (Kd.C_below HR200_6.out HB.out))
  (case side2 => exact HC200_6.out)
  rintro e w11 ⟨rfl, hb⟩
  refine ZV1 ?_
  replace BK201 := ZW BK201 hb
  replace HB := ZT HB hb
  (try clear hb)
  (try clear hb2)
  (try clear hk)
  (try clear hi)
  refine hK.out _ _ ⟨ZA BK201 0, ZA BK201 1, ZA BK201 2, ZA BK201 3, ZA BK201 4, ZA BK201 5, ZA BK201 6, ZA BK201 7⟩ (fun hHeld => ?_)
  clear hK K
  refine ZNO 17 ?_
  refine one_ (i := 6) (N := some 20) #[T,T,T,T,T,T,T,F,F,F] rfl rfl (one_of HT_.out (by kernel_rfl)) (by decide) (fun K hK => ?_)
  refine ZGO Tryd.func43 #[.slice A200_7 ((D71 l0 x10_1).f5).length c200_7] ?_
  with_reducible refine (ih k1 (by have := HK1.out; omega) _ _ ((D71 l0 x10_1).f5) t203 _ ?side1 ?side2 A6.out).mono ?_
  (case side1 => exact ZQ (Kd.C_below HR200_7.out HB.out))
  (case side2 => exact HC200_7.out)
  rintro e w12 ⟨rfl, hb⟩
  refine ZV1 ?_
  replace BK201 := ZW BK201 hb
  replace HB := ZT HB hb
  (try clear hb)
  (try clear hb2)
  (try clear hk)
  (try clear hi)
  refine hK.out _ _ ⟨ZA BK201 0, ZA BK201 1, ZA BK201 2, ZA BK201 3, ZA BK201 4, ZA BK201 5, ZA BK201 6, ZA BK201 7⟩ (fun hHeld => ?_)
  clear hK K
  refine ZNO 20 ?_
  refine ZU 7 21 #[T,T,T,T,T,T,T,T,F,F] ?_
  refine ZU 8 22 #[T,T,T,T,T,T,T,T,T,F] ?_
  refine ZU 9 3 #[T,T,T,T,T,T,T,T,T,T] ?_
  refine done_ (done_of HT_.out (by kernel_rfl)) ?_
  try go_wp2
  go_roundg k1
  case measure => have := HK1.out; omega
  case rel => exact ⟨(wrap64 (x3_1 + (wrap64 (t202 + t203)))), (wrap64 (x10_1 + 1)), ZSM, ZSM, H', ⟨by have := HK1.out; omega⟩, ⟨ZB⟩⟩)
  ·(
  rw [if_neg c4] at H
  exact absurd H (by simp)))
  ·(
  rw [if_neg c3] at H
  exact absurd H (by simp)))
  ·(
  rw [if_neg c2] at H
  have c2b0 := decide_eq_false c2
  clear c2
  obtain rfl := Option.some.inj H
  go_wp2
  go_ret
  exact ⟨ZE, ZB⟩))

/-! ### impl_ProgOk: function 19 -/
def impl_ProgOk.f (k : Nat) (l0_0 : List (S43)) (l0_1 : List (S71)) : Option (Bool) := if (l0_0.length : Int) ≤ 4 then ((impl_Label_39.f k l0_0).bind fun t205 => (if t205 = true then (some false) else ((impl_Prog_stepsOk.f k l0_0 l0_1 l0_1 3).bind fun t206 => (if t206 = true then ((impl_size.f k l0_1).bind fun t207 => (some (decide (t207 ≤ 8)))) else (some false))))) else (some false)
theorem impl_ProgOk.calls (k : Nat) (A0_0 : Option Addr) (c0_0 : Nat) (l0_0 : List (S43)) (A0_1 : Option Addr) (c0_1 : Nat) (l0_1 : List (S71)) (r : Bool) (w : World) (hr0_0 : Kd.C k43 w A0_0 l0_0.length l0_0) (hc0_0 : l0_0.length ≤ c0_0) (hr0_1 : Kd.C k71 w A0_1 l0_1.length l0_1) (hc0_1 : l0_1.length ≤ c0_1) (h : impl_ProgOk.f k l0_0 l0_1 = some r) :
  Calls Tryd.prog 19 #[.agg #[.slice A0_0 l0_0.length c0_0, .slice A0_1 l0_1.length c0_1]] w fun e w' => e = .returned (.bool r) ∧ Below w.heap.size w w' := by
 have hu31 := Tryd.underlying31
 have HR0_0 := AM hr0_0
 have HC0_0 := AM hc0_0
 clear hr0_0 hc0_0
 have HR0_1 := AM hr0_1
 have HC0_1 := AM hc0_1
 clear hr0_1 hc0_1
 have HB := AM (Below.refl w.heap.size w)
 have H := h
 unfold impl_ProgOk.f at H
 clear h
 by_cases c2 : (l0_0.length : Int) ≤ 4
 ·(
 rw [if_pos c2] at H
 have c2b0 := decide_eq_true c2
 have c2b1 : decide (l0_0.length ≤ 4) = true := decide_eq_true (by omega)
 clear c2
 obtain ⟨t205, A3, H⟩ := ZOB H; try dsimp only at H
 by_cases c4 : t205 = true
 ·(
 subst c4
 have H1 := H; rw [if_pos rfl] at H1
 clear H
 have H := H1
 clear H1
 obtain rfl := Option.some.inj H
 go_enter Tryd.func19, Tryd.ntmps19
 go_wp2_with (first | ((with_reducible refine gate_dst (N := 1) rfl ?_); refine ZXW w (N := 1) (cs := #[.slice A0_0 l0_0.length c0_0, .slice A0_1 l0_1.length c0_1]) (t := 31) ?_; intro gb204 hg w5 BK204 GW204 hb; replace HB := ZT HB hb; clear hb hg; have hcz6 := ZC2 w5 BK204) | (go_at_call 39; (with_reducible refine (impl_Label_39.calls k _ _ l0_0  true _ (ZQ (Kd.C_below HR0_0.out HB.out)) HC0_0.out A3.out).mono ?_); rintro e w7 ⟨rfl, hb⟩; replace BK204 := ZW BK204 hb; replace HB := ZT HB hb; clear hb))
 go_ret
 exact ⟨ZE, ZB⟩)
 ·(
 replace c4 := Bool.eq_false_iff.mpr c4
 subst c4
 have H1 := H; rw [if_neg ZFT] at H1
 clear H
 have H := H1
 clear H1
 obtain ⟨t206, A8, H⟩ := ZOB H; try dsimp only at H
 by_cases c9 : t206 = true
 ·(
 subst c9
 have H1 := H; rw [if_pos rfl] at H1
 clear H
 have H := H1
 clear H1
 obtain ⟨t207, A10, H⟩ := ZOB H; try dsimp only at H
 obtain rfl := Option.some.inj H
 go_enter Tryd.func19, Tryd.ntmps19
 go_wp2_with (first | ((with_reducible refine gate_dst (N := 1) rfl ?_); refine ZXW w (N := 1) (cs := #[.slice A0_0 l0_0.length c0_0, .slice A0_1 l0_1.length c0_1]) (t := 31) ?_; intro gb204 hg w11 BK204 GW204 hb; replace HB := ZT HB hb; clear hb hg; have hcz12 := ZC2 w11 BK204) | (go_at_call 39; (with_reducible refine (impl_Label_39.calls k _ _ l0_0  false _ (ZQ (Kd.C_below HR0_0.out HB.out)) HC0_0.out A3.out).mono ?_); rintro e w13 ⟨rfl, hb⟩; replace BK204 := ZW BK204 hb; replace HB := ZT HB hb; clear hb; have hcz14 := ZC2 w13 BK204) | (go_at_call 42; (with_reducible refine (impl_Prog_stepsOk.calls k _ _ l0_0 _ _ l0_1 _ _ l0_1 3 true _ (ZQ (Kd.C_below HR0_0.out HB.out)) HC0_0.out (ZQ (Kd.C_below HR0_1.out HB.out)) HC0_1.out (ZQ (Kd.C_below HR0_1.out HB.out)) HC0_1.out A8.out).mono ?_); rintro e w15 ⟨rfl, hb⟩; replace BK204 := ZW BK204 hb; replace HB := ZT HB hb; clear hb; have hcz16 := ZC2 w15 BK204) | (go_at_call 43; (with_reducible refine (impl_size.calls k _ _ l0_1 t207 _ (ZQ (Kd.C_below HR0_1.out HB.out)) HC0_1.out A10.out).mono ?_); rintro e w17 ⟨rfl, hb⟩; replace BK204 := ZW BK204 hb; replace HB := ZT HB hb; clear hb))
 go_ret
 exact ⟨ZE, ZB⟩)
 ·(
 replace c9 := Bool.eq_false_iff.mpr c9
 subst c9
 have H1 := H; rw [if_neg ZFT] at H1
 clear H
 have H := H1
 clear H1
 obtain rfl := Option.some.inj H
 go_enter Tryd.func19, Tryd.ntmps19
 go_wp2_with (first | ((with_reducible refine gate_dst (N := 1) rfl ?_); refine ZXW w (N := 1) (cs := #[.slice A0_0 l0_0.length c0_0, .slice A0_1 l0_1.length c0_1]) (t := 31) ?_; intro gb204 hg w18 BK204 GW204 hb; replace HB := ZT HB hb; clear hb hg; have hcz19 := ZC2 w18 BK204) | (go_at_call 39; (with_reducible refine (impl_Label_39.calls k _ _ l0_0  false _ (ZQ (Kd.C_below HR0_0.out HB.out)) HC0_0.out A3.out).mono ?_); rintro e w20 ⟨rfl, hb⟩; replace BK204 := ZW BK204 hb; replace HB := ZT HB hb; clear hb; have hcz21 := ZC2 w20 BK204) | (go_at_call 42; (with_reducible refine (impl_Prog_stepsOk.calls k _ _ l0_0 _ _ l0_1 _ _ l0_1 3 false _ (ZQ (Kd.C_below HR0_0.out HB.out)) HC0_0.out (ZQ (Kd.C_below HR0_1.out HB.out)) HC0_1.out (ZQ (Kd.C_below HR0_1.out HB.out)) HC0_1.out A8.out).mono ?_); rintro e w22 ⟨rfl, hb⟩; replace BK204 := ZW BK204 hb; replace HB := ZT HB hb; clear hb))
 go_ret
 exact ⟨ZE, ZB⟩)))
 ·(
 rw [if_neg c2] at H
 have c2b0 := decide_eq_false c2
 have c2b1 : decide (l0_0.length ≤ 4) = false := decide_eq_false (by omega)
 clear c2
 obtain rfl := Option.some.inj H
 go_enter Tryd.func19, Tryd.ntmps19
 go_wp2_with (first | ((with_reducible refine gate_dst (N := 1) rfl ?_); refine ZXW w (N := 1) (cs := #[.slice A0_0 l0_0.length c0_0, .slice A0_1 l0_1.length c0_1]) (t := 31) ?_; intro gb204 hg w23 BK204 GW204 hb; replace HB := ZT HB hb; clear hb hg; have hcz24 := ZC2 w23 BK204))
 go_ret
 exact ⟨ZE, ZB⟩)

/-! ### internal/strconv.FormatInt at base 10 and a number of one figure -/
def strconv_FormatInt.f (a0 : Int) (a1 : Int) : Option (ByteArray) := if a1 = 10 then (if 0 ≤ a0 then (if a0 < 10 then (some ⟨#[(48 + a0).toNat.toUInt8]⟩) else none) else none) else none
set_option maxHeartbeats 2000000 in
set_option maxRecDepth 100000 in
theorem strconv_FormatInt.calls (a0 : Int) (a1 : Int) (r : ByteArray) (w : World) (h : strconv_FormatInt.f a0 a1 = some r) :
  Calls Tryd.prog 79 #[.int .i64 a0, .int .i64 a1] w fun e w' => e = .returned (.string r) ∧ Drawn0 w w' := by
 unfold strconv_FormatInt.f at h
 split at h
 case isFalse => exact absurd h (by simp)
 rename_i h1
 split at h
 case isFalse => exact absurd h (by simp)
 rename_i h2
 split at h
 case isFalse => exact absurd h (by simp)
 rename_i h3
 subst h1
 obtain rfl := Option.some.inj h
 clear h
 have hc : a0 = 0 ∨ a0 = 1 ∨ a0 = 2 ∨ a0 = 3 ∨ a0 = 4 ∨ a0 = 5 ∨ a0 = 6 ∨ a0 = 7 ∨ a0 = 8 ∨ a0 = 9 := by omega
 clear h2 h3
 rcases hc with rfl | rfl | rfl | rfl | rfl | rfl | rfl | rfl | rfl | rfl
 all_goals (
 go_enter Tryd.func79, Tryd.ntmps79
 go_wp2
 go_ret
 exact ⟨rfl, by repeat (first | exact Drawn0.refl _ | apply Drawn0.step)⟩)

/-! ### strconv_Itoa_66: function 66 -/
def strconv_Itoa_66.f (a0 : Int) : Option (ByteArray) := (strconv_FormatInt.f a0 10).bind fun t208 => (some t208)
theorem strconv_Itoa_66.calls (a0 : Int) (r : ByteArray) (w : World) (h : strconv_Itoa_66.f a0 = some r) :
  Calls Tryd.prog 66 #[.int .i64 a0] w fun e w' => e = .returned (.string r) ∧ Drawn0 w w' := by
 have H := h
 unfold strconv_Itoa_66.f at H
 clear h
 obtain ⟨t208, A2, H⟩ := ZOB H; try dsimp only at H
 obtain rfl := Option.some.inj H
 go_enter Tryd.func66, Tryd.ntmps66
 go_wp2_with (first | ((with_reducible refine gate_callee (f := 79) rfl ?_); refine ZGL (some 4) Tryd.func79 #[.int .i64 a0, .int .i64 10] ?_; (with_reducible refine (strconv_FormatInt.calls a0 10 t208 _ A2.out).mono ?_); rintro e w' ⟨rfl, ⟨nd, rfl⟩⟩; refine ZV1 ?_))
 go_ret
 exact ⟨by first | rfl | (simp; done) | (simp [*]; done), by repeat (first | exact Drawn0.refl _ | apply Drawn0.step)⟩

/-! ### strconv_Itoa_48: function 48 -/
def strconv_Itoa_48.f (a0 : Int) : Option (ByteArray) := (strconv_Itoa_66.f a0).bind fun t209 => (some t209)
theorem strconv_Itoa_48.calls (a0 : Int) (r : ByteArray) (w : World) (h : strconv_Itoa_48.f a0 = some r) :
  Calls Tryd.prog 48 #[.int .i64 a0] w fun e w' => e = .returned (.string r) ∧ Drawn0 w w' := by
 have H := h
 unfold strconv_Itoa_48.f at H
 clear h
 obtain ⟨t209, A2, H⟩ := ZOB H; try dsimp only at H
 obtain rfl := Option.some.inj H
 go_enter Tryd.func48, Tryd.ntmps48
 go_wp2_with (first | ((with_reducible refine gate_callee (f := 66) rfl ?_); refine ZGL (some 4) Tryd.func66 #[.int .i64 a0] ?_; (with_reducible refine (strconv_Itoa_66.calls a0 t209 _ A2.out).mono ?_); rintro e w' ⟨rfl, ⟨nd, rfl⟩⟩; refine ZV1 ?_))
 go_ret
 exact ⟨by first | rfl | (simp; done) | (simp [*]; done), by repeat (first | exact Drawn0.refl _ | apply Drawn0.step)⟩

/-! ### impl_has: function 65 -/
def impl_has.f (a0 : Int) (a1 : Int) : Option (Bool) := (impl_isHost.f a1).bind fun t210 => (if t210 = true then (if 0 ≤ a1 then (some ((Go.bits .and .i64 (shr .i64 a0 a1) 1) == 1)) else (none)) else (some false))
theorem impl_has.calls (a0 : Int) (a1 : Int) (r : Bool) (w : World) (h : impl_has.f a0 a1 = some r) :
  Calls Tryd.prog 65 #[.int .i64 a0, .int .i64 a1] w fun e w' => e = .returned (.bool r) ∧ Drawn0 w w' := by
 have H := h
 unfold impl_has.f at H
 clear h
 obtain ⟨t210, A3, H⟩ := ZOB H; try dsimp only at H
 by_cases c4 : t210 = true
 ·(
 subst c4
 have H1 := H; rw [if_pos rfl] at H1
 clear H
 have H := H1
 clear H1
 by_cases c5 : 0 ≤ a1
 ·(
 rw [if_pos c5] at H
 have c5b0 := eq_true c5
 have c5b1 := decide_eq_true c5
 clear c5
 obtain ⟨ji6, hji6⟩ : ∃ j_ : Int, (shr .i64 a0 a1) = j_ := ⟨_, rfl⟩
 replace H : (some ((Go.bits .and .i64 (ji6) 1) == 1)) = some r := by first | (rw [hji6] at H; exact H) | (simp only [hji6] at H ⊢; exact H)
 (try rw [hji6] at A3)
 have hji6_ : (a0 / 2 ^ min a1.toNat 64) = ji6 := hji6
 have hji6z : a1 ≤ 64 → (a0 / 2 ^ a1.toNat) = ji6 := shr_small hji6
 obtain rfl := Option.some.inj H
 go_enter Tryd.func65, Tryd.ntmps65
 go_wp2_with (first | ((with_reducible refine gate_callee (f := 63) rfl ?_); refine ZGL (some 6) Tryd.func63 #[.int .i64 a1] ?_; (with_reducible refine (impl_isHost.calls a1 true _ A3.out).mono ?_); rintro e w' ⟨rfl, ⟨nd, rfl⟩⟩; refine ZV1 ?_))
 go_ret
 exact ⟨by first | rfl | (simp; done) | (simp only [← hji6] <;> (first | rfl | simp)) | (simp [*]; done), by repeat (first | exact Drawn0.refl _ | apply Drawn0.step)⟩)
 ·(
 rw [if_neg c5] at H
 exact absurd H (by simp)))
 ·(
 replace c4 := Bool.eq_false_iff.mpr c4
 subst c4
 have H1 := H; rw [if_neg ZFT] at H1
 clear H
 have H := H1
 clear H1
 obtain rfl := Option.some.inj H
 go_enter Tryd.func65, Tryd.ntmps65
 go_wp2_with (first | ((with_reducible refine gate_callee (f := 63) rfl ?_); refine ZGL (some 6) Tryd.func63 #[.int .i64 a1] ?_; (with_reducible refine (impl_isHost.calls a1 false _ A3.out).mono ?_); rintro e w' ⟨rfl, ⟨nd, rfl⟩⟩; refine ZV1 ?_))
 go_ret
 exact ⟨by first | rfl | (simp; done) | (simp [*]; done), by repeat (first | exact Drawn0.refl _ | apply Drawn0.step)⟩)

/-! ### impl_setText: function 45 -/
def impl_setText.l0 : Nat → Int → ByteArray → Int → Option (ByteArray)
 | 0, _, _, _ => none
 | k + 1, x0, x3, x5 => if x5 < 3 then ((impl_has.f x0 x5).bind fun t211 => (if t211 = true then ((strconv_Itoa_48.f x5).bind fun t212 => (if x3.size + t212.size ≤ 9223372036854775807 then (impl_setText.l0 k x0 (x3 ++ t212) (wrap64 (x5 + 1))) else (none))) else (impl_setText.l0 k x0 x3 (wrap64 (x5 + 1))))) else (some x3)
def impl_setText.f (k : Nat) (a0 : Int) : Option (ByteArray) := impl_setText.l0 k a0 (⟨#[]⟩ : ByteArray) 0
theorem impl_setText.calls (k : Nat) (a0 : Int) (r : ByteArray) (w : World) (h : impl_setText.f k a0 = some r) :
  Calls Tryd.prog 45 #[.int .i64 a0] w fun e w' => e = .returned (.string r) ∧ Drawn0 w w' := by
 have H := h
 unfold impl_setText.f at H
 clear h
 have H' := AM H
 clear H
 go_enter Tryd.func45, Tryd.ntmps45
 go_wp2
 go_loopg [3, 5] k (fun kq v3 v5 w' => ∃ (x3_1 : ByteArray) (x5_1 : Int), v3 = .string x3_1 ∧ v5 = .int .i64 x5_1 ∧ Za (impl_setText.l0 kq a0 x3_1 x5_1 = some r) ∧ Za (kq ≤ k) ∧ Drawn0 w w')
 case atStart => exact ⟨((⟨#[]⟩ : ByteArray)), (0), ZSM, ZSM, H', ⟨Nat.le_refl _⟩, by repeat (first | exact Drawn0.refl _ | apply Drawn0.step)⟩
 case round => (
 clear H'
 obtain ⟨x3_1, x5_1, rfl, rfl, HA, HK1, ⟨m1, rfl⟩⟩ := hrel
 cases gk with
 | zero => exact absurd HA.out (by simp [impl_setText.l0])
 | succ k1 =>
  have H := HA.out
  clear HA
  simp only [impl_setText.l0] at H
  by_cases c2 : x5_1 < 3
  ·(
  rw [if_pos c2] at H
  have c2b0 := decide_eq_true c2
  clear c2
  obtain ⟨t211, A3, H⟩ := ZOB H; try dsimp only at H
  by_cases c4 : t211 = true
  ·(
  subst c4
  have H1 := H; rw [if_pos rfl] at H1
  clear H
  have H := H1
  clear H1
  obtain ⟨t212, A5, H⟩ := ZOB H; try dsimp only at H
  by_cases c6 : x3_1.size + t212.size ≤ 9223372036854775807
  ·(
  rw [if_pos c6] at H
  have c6b0 := eq_true c6
  have c6b1 := decide_eq_true c6
  try have c6b2 : (9223372036854775807 < x3_1.size + t212.size) = False := eq_false (Nat.not_lt.2 c6)
  have H' := AM H
  clear H
  go_wp2_with (first | ((with_reducible refine gate_callee (f := 65) rfl ?_); refine ZGL (some 10) Tryd.func65 #[.int .i64 a0, .int .i64 x5_1] ?_; (with_reducible refine (impl_has.calls a0 x5_1 true _ A3.out).mono ?_); rintro e w' ⟨rfl, ⟨nd, rfl⟩⟩; refine ZV1 ?_) | ((with_reducible refine gate_callee (f := 48) rfl ?_); refine ZGL (some 13) Tryd.func48 #[.int .i64 x5_1] ?_; (with_reducible refine (strconv_Itoa_48.calls x5_1 t212 _ A5.out).mono ?_); rintro e w' ⟨rfl, ⟨nd, rfl⟩⟩; refine ZV1 ?_))
  go_roundg k1
  case measure => have := HK1.out; omega
  case rel => exact ⟨(x3_1 ++ t212), (wrap64 (x5_1 + 1)), ZSM, ZSM, H', ⟨by have := HK1.out; omega⟩, by repeat (first | exact Drawn0.refl _ | apply Drawn0.step)⟩)
  ·(
  rw [if_neg c6] at H
  exact absurd H (by simp)))
  ·(
  replace c4 := Bool.eq_false_iff.mpr c4
  subst c4
  have H1 := H; rw [if_neg ZFT] at H1
  clear H
  have H := H1
  clear H1
  have H' := AM H
  clear H
  go_wp2_with (first | ((with_reducible refine gate_callee (f := 65) rfl ?_); refine ZGL (some 10) Tryd.func65 #[.int .i64 a0, .int .i64 x5_1] ?_; (with_reducible refine (impl_has.calls a0 x5_1 false _ A3.out).mono ?_); rintro e w' ⟨rfl, ⟨nd, rfl⟩⟩; refine ZV1 ?_))
  go_roundg k1
  case measure => have := HK1.out; omega
  case rel => exact ⟨(x3_1), (wrap64 (x5_1 + 1)), ZSM, ZSM, H', ⟨by have := HK1.out; omega⟩, by repeat (first | exact Drawn0.refl _ | apply Drawn0.step)⟩))
  ·(
  rw [if_neg c2] at H
  have c2b0 := decide_eq_false c2
  clear c2
  obtain rfl := Option.some.inj H
  go_wp2
  go_ret
  exact ⟨by first | rfl | (simp; done) | (simp [*]; done), by repeat (first | exact Drawn0.refl _ | apply Drawn0.step)⟩))

/-! ### impl_LabelText: function 21 -/
def impl_LabelText.f (k : Nat) (a0_0 : Int) (a0_1 : Int) : Option (ByteArray) := (impl_LabelOk.f a0_0 a0_1).bind fun t214 => (if t214 = true then ((impl_setText.f k a0_0).bind fun t215 => (if t215.size + 1 ≤ 9223372036854775807 then ((impl_setText.f k a0_1).bind fun t216 => (if (t215 ++ (⟨#[33]⟩ : ByteArray)).size + t216.size ≤ 9223372036854775807 then (some ((t215 ++ (⟨#[33]⟩ : ByteArray)) ++ t216)) else (none))) else (none))) else (some (⟨#[]⟩ : ByteArray)))
theorem impl_LabelText.calls (k : Nat) (a0_0 : Int) (a0_1 : Int) (r : ByteArray) (w : World) (h : impl_LabelText.f k a0_0 a0_1 = some r) :
  Calls Tryd.prog 21 #[.agg #[.int .i64 a0_0, .int .i64 a0_1]] w fun e w' => e = .returned (.string r) ∧ Below w.heap.size w w' := by
 have hu43 := Tryd.underlying43
 have HB := AM (Below.refl w.heap.size w)
 have H := h
 unfold impl_LabelText.f at H
 clear h
 obtain ⟨t214, A2, H⟩ := ZOB H; try dsimp only at H
 by_cases c3 : t214 = true
 ·(
 subst c3
 have H1 := H; rw [if_pos rfl] at H1
 clear H
 have H := H1
 clear H1
 obtain ⟨t215, A4, H⟩ := ZOB H; try dsimp only at H
 by_cases c5 : t215.size + 1 ≤ 9223372036854775807
 ·(
 rw [if_pos c5] at H
 have c5b0 := eq_true c5
 have c5b1 := decide_eq_true c5
 try have c5b2 : (9223372036854775807 < t215.size + 1) = False := eq_false (Nat.not_lt.2 c5)
 obtain ⟨t216, A6, H⟩ := ZOB H; try dsimp only at H
 by_cases c7 : (t215 ++ (⟨#[33]⟩ : ByteArray)).size + t216.size ≤ 9223372036854775807
 ·(
 rw [if_pos c7] at H
 have c7b0 := eq_true c7
 have c7b1 := decide_eq_true c7
 try have c7b2 : (9223372036854775807 < (t215 ++ (⟨#[33]⟩ : ByteArray)).size + t216.size) = False := eq_false (Nat.not_lt.2 c7)
 try have c7b3 : (9223372036854775807 < t215.size + 1 + t216.size) = False := eq_false (by have h_ := c7; simp only [ByteArray.size_append] at h_; first | exact Nat.not_lt.2 h_ | (have e2_ : ∀ x : UInt8, (⟨#[x]⟩ : ByteArray).size = 1 := fun _ => rfl; have e3_ : ∀ x y : UInt8, (⟨#[x, y]⟩ : ByteArray).size = 2 := fun _ _ => rfl; simp only [e2_, e3_] at h_; omega))
 obtain rfl := Option.some.inj H
 go_enter Tryd.func21, Tryd.ntmps21
 go_wp2_with (first | ((with_reducible refine gate_dst (N := 1) rfl ?_); refine ZXW w (N := 1) (cs := #[.int .i64 a0_0, .int .i64 a0_1]) (t := 43) ?_; intro gb213 hg w8 BK213 GW213 hb; replace HB := ZT HB hb; clear hb hg; have hcz9 := ZC2 w8 BK213) | (go_at_call 41; (with_reducible refine (impl_LabelOk.calls a0_0 a0_1 true _ A2.out).mono ?_); rintro e w10 ⟨rfl, hb⟩; replace BK213 := ZW BK213 hb; replace HB := ZT HB hb; clear hb; have hcz11 := ZC2 w10 BK213) | (go_at_call 45; (with_reducible refine (impl_setText.calls k a0_0 t215 _ A4.out).mono ?_); rintro e w' ⟨rfl, ⟨nd, rfl⟩⟩; (try first | exact ⟨rfl, _, World.drewN_drewN _ _ _⟩ | exact ⟨rfl, _, Eq.trans (World.drewN_drewN _ _ _) (congrArg (World.drewN _) (Nat.add_assoc _ _ _))⟩)) | (go_at_call 45; (with_reducible refine (impl_setText.calls k a0_1 t216 _ A6.out).mono ?_); rintro e w' ⟨rfl, ⟨nd, rfl⟩⟩; (try first | exact ⟨rfl, _, World.drewN_drewN _ _ _⟩ | exact ⟨rfl, _, Eq.trans (World.drewN_drewN _ _ _) (congrArg (World.drewN _) (Nat.add_assoc _ _ _))⟩)))
 repeat (go_quiet (first | ((with_reducible refine gate_dst (N := 1) rfl ?_); refine ZXW w (N := 1) (cs := #[.int .i64 a0_0, .int .i64 a0_1]) (t := 43) ?_; intro gb213 hg w8 BK213 GW213 hb; replace HB := ZT HB hb; clear hb hg; have hcz9 := ZC2 w8 BK213) | (go_at_call 41; (with_reducible refine (impl_LabelOk.calls a0_0 a0_1 true _ A2.out).mono ?_); rintro e w10 ⟨rfl, hb⟩; replace BK213 := ZW BK213 hb; replace HB := ZT HB hb; clear hb; have hcz11 := ZC2 w10 BK213) | (go_at_call 45; (with_reducible refine (impl_setText.calls k a0_0 t215 _ A4.out).mono ?_); rintro e w' ⟨rfl, ⟨nd, rfl⟩⟩; (try first | exact ⟨rfl, _, World.drewN_drewN _ _ _⟩ | exact ⟨rfl, _, Eq.trans (World.drewN_drewN _ _ _) (congrArg (World.drewN _) (Nat.add_assoc _ _ _))⟩)) | (go_at_call 45; (with_reducible refine (impl_setText.calls k a0_1 t216 _ A6.out).mono ?_); rintro e w' ⟨rfl, ⟨nd, rfl⟩⟩; (try first | exact ⟨rfl, _, World.drewN_drewN _ _ _⟩ | exact ⟨rfl, _, Eq.trans (World.drewN_drewN _ _ _) (congrArg (World.drewN _) (Nat.add_assoc _ _ _))⟩))); try go_wp2_with (first | ((with_reducible refine gate_dst (N := 1) rfl ?_); refine ZXW w (N := 1) (cs := #[.int .i64 a0_0, .int .i64 a0_1]) (t := 43) ?_; intro gb213 hg w8 BK213 GW213 hb; replace HB := ZT HB hb; clear hb hg; have hcz9 := ZC2 w8 BK213) | (go_at_call 41; (with_reducible refine (impl_LabelOk.calls a0_0 a0_1 true _ A2.out).mono ?_); rintro e w10 ⟨rfl, hb⟩; replace BK213 := ZW BK213 hb; replace HB := ZT HB hb; clear hb; have hcz11 := ZC2 w10 BK213) | (go_at_call 45; (with_reducible refine (impl_setText.calls k a0_0 t215 _ A4.out).mono ?_); rintro e w' ⟨rfl, ⟨nd, rfl⟩⟩; (try first | exact ⟨rfl, _, World.drewN_drewN _ _ _⟩ | exact ⟨rfl, _, Eq.trans (World.drewN_drewN _ _ _) (congrArg (World.drewN _) (Nat.add_assoc _ _ _))⟩)) | (go_at_call 45; (with_reducible refine (impl_setText.calls k a0_1 t216 _ A6.out).mono ?_); rintro e w' ⟨rfl, ⟨nd, rfl⟩⟩; (try first | exact ⟨rfl, _, World.drewN_drewN _ _ _⟩ | exact ⟨rfl, _, Eq.trans (World.drewN_drewN _ _ _) (congrArg (World.drewN _) (Nat.add_assoc _ _ _))⟩))))
 go_ret
 exact ⟨ZE, ZB⟩)
 ·(
 rw [if_neg c7] at H
 exact absurd H (by simp)))
 ·(
 rw [if_neg c5] at H
 exact absurd H (by simp)))
 ·(
 replace c3 := Bool.eq_false_iff.mpr c3
 subst c3
 have H1 := H; rw [if_neg ZFT] at H1
 clear H
 have H := H1
 clear H1
 obtain rfl := Option.some.inj H
 go_enter Tryd.func21, Tryd.ntmps21
 go_wp2_with (first | ((with_reducible refine gate_dst (N := 1) rfl ?_); refine ZXW w (N := 1) (cs := #[.int .i64 a0_0, .int .i64 a0_1]) (t := 43) ?_; intro gb213 hg w12 BK213 GW213 hb; replace HB := ZT HB hb; clear hb hg; have hcz13 := ZC2 w12 BK213) | (go_at_call 41; (with_reducible refine (impl_LabelOk.calls a0_0 a0_1 false _ A2.out).mono ?_); rintro e w14 ⟨rfl, hb⟩; replace BK213 := ZW BK213 hb; replace HB := ZT HB hb; clear hb))
 repeat (go_quiet (first | ((with_reducible refine gate_dst (N := 1) rfl ?_); refine ZXW w (N := 1) (cs := #[.int .i64 a0_0, .int .i64 a0_1]) (t := 43) ?_; intro gb213 hg w12 BK213 GW213 hb; replace HB := ZT HB hb; clear hb hg; have hcz13 := ZC2 w12 BK213) | (go_at_call 41; (with_reducible refine (impl_LabelOk.calls a0_0 a0_1 false _ A2.out).mono ?_); rintro e w14 ⟨rfl, hb⟩; replace BK213 := ZW BK213 hb; replace HB := ZT HB hb; clear hb)); try go_wp2_with (first | ((with_reducible refine gate_dst (N := 1) rfl ?_); refine ZXW w (N := 1) (cs := #[.int .i64 a0_0, .int .i64 a0_1]) (t := 43) ?_; intro gb213 hg w12 BK213 GW213 hb; replace HB := ZT HB hb; clear hb hg; have hcz13 := ZC2 w12 BK213) | (go_at_call 41; (with_reducible refine (impl_LabelOk.calls a0_0 a0_1 false _ A2.out).mono ?_); rintro e w14 ⟨rfl, hb⟩; replace BK213 := ZW BK213 hb; replace HB := ZT HB hb; clear hb)))
 go_ret
 exact ⟨ZE, ZB⟩)

/-! ### impl_varName: function 46 -/
def impl_varName.f (a0 : Int) : Option (ByteArray) := if 0 ≤ a0 then (if a0 ≤ (wrap64 (a0 + 1)) then (if (wrap64 (a0 + 1)) ≤ 4 then (some ((⟨#[97, 98, 99, 100]⟩ : ByteArray).extract (a0 : Int).toNat ((wrap64 (a0 + 1)) : Int).toNat)) else (none)) else (none)) else (none)
theorem impl_varName.calls (a0 : Int) (r : ByteArray) (w : World) (h : impl_varName.f a0 = some r) :
  Calls Tryd.prog 46 #[.int .i64 a0] w fun e w' => e = .returned (.string r) ∧ Drawn0 w w' := by
 have H := h
 unfold impl_varName.f at H
 clear h
 by_cases c2 : 0 ≤ a0
 ·(
 rw [if_pos c2] at H
 have c2b0 := eq_true c2
 have c2b1 := decide_eq_true c2
 clear c2
 by_cases c3 : a0 ≤ (wrap64 (a0 + 1))
 ·(
 rw [if_pos c3] at H
 have c3b0 := eq_true c3
 have c3b1 := decide_eq_true c3
 by_cases c4 : (wrap64 (a0 + 1)) ≤ 4
 ·(
 rw [if_pos c4] at H
 have c4b0 := eq_true c4
 have c4b1 := decide_eq_true c4
 obtain rfl := Option.some.inj H
 go_enter Tryd.func46, Tryd.ntmps46
 go_wp2
 go_ret
 exact ⟨by first | rfl | (simp; done) | (simp [*]; done), by repeat (first | exact Drawn0.refl _ | apply Drawn0.step)⟩)
 ·(
 rw [if_neg c4] at H
 exact absurd H (by simp)))
 ·(
 rw [if_neg c3] at H
 exact absurd H (by simp)))
 ·(
 rw [if_neg c2] at H
 exact absurd H (by simp))

end Go.Proofs.YtfcmckomagaiiaaDoor.A
