/- By wip/tools/pr.py: Go functions as Lean functions, with contracts. -/
import Derived.Test.YthidgkfgdkjghaaAx0
import Derived.Test.YthidgkfgdkjghaaAx5
namespace Go.Proofs.Ythidgkfgdkjghaa.A
open Go.RowKit Go.Proofs.YthidgkfgdkjghaaW.PrintWords Go.Proofs.YthidgkfgdkjghaaW.PrintLast Go.Proofs.YthidgkfgdkjghaaW.PrintMore
attribute [local go_sem] max2_int min2_int max_two min_two max_three min_three max_four min_four
set_option linter.unusedVariables false
set_option linter.unusedSimpArgs false
set_option maxHeartbeats 8000000
set_option maxRecDepth 100000

/-! ### impl_size: function 37 -/
mutual
def impl_size.l0 : Nat → Int → List (S32) → Int → Int → Option (Int)
 | 0, _, _, _, _ => none
 | k + 1, x3, x8, x9, x10 => if x10 < x9 then (if 0 ≤ x10 then (if x10 < (x8.length : Int) then ((impl_size.f k ((D32 x8 x10).f4)).bind fun t518 => ((impl_size.f k ((D32 x8 x10).f5)).bind fun t519 => (impl_size.l0 k (wrap64 (x3 + (wrap64 (t518 + t519)))) x8 x9 (wrap64 (x10 + 1))))) else (none)) else (none)) else (some x3)
def impl_size.f : Nat → List (S32) → Option (Int)
 | 0, _ => none
 | k + 1, l0 => impl_size.l0 k (l0.length : Int) l0 (l0.length : Int) 0
end
def impl_size.T5 : Bool × List (List Nat × List Nat) := (true, [([], []), ([], []), ([1], [1]), ([2], [2]), ([], []), ([4], [4]), ([5, 3], [5]), ([3, 6], [3, 6]), ([0, 7], [0, 7]), ([8, 6, 0, 1, 2, 3, 4, 5, 6, 7, 8], [0, 8])])
def impl_size.B5 : List Nat := [0, 0, 2, 6, 0, 16, 62, 126, 255, 511]
theorem impl_size.tab5 : rtab .any (opsOf Try.f37 5) = impl_size.T5 := by kernel_rfl
theorem impl_size.bits5 : waitsOk impl_size.T5.2 impl_size.B5 = true := by kernel_rfl
theorem impl_size.calls (k : Nat) : ∀ (A0 : Option Addr) (c0 : Nat) (l0 : List (S32)) (r : Int) (w : World) (hr0 : Kd.C k32 w A0 l0.length l0) (hc0 : l0.length ≤ c0) (h : impl_size.f k l0 = some r),
  Calls Try.prog 37 #[.slice A0 l0.length c0] w fun e w' => e = .returned (.int .i64 r) ∧ Below w.heap.size w w' := by
 induction k using Nat.strongRecOn with
 | _ k ih =>
 intro A0 c0 l0 r w hr0 hc0 h
 cases k with
 | zero => exact absurd h (by simp [impl_size.f])
 | succ k =>
 simp only [impl_size.f] at h
 have hu32 := Try.underlying32
 have HR0 := AM hr0
 have HC0 := AM hc0
 clear hr0 hc0
 have HB := AM (Below.refl w.heap.size w)
 have H : (impl_size.l0 k (l0.length : Int) l0 (l0.length : Int) 0) = some r := h
 clear h
 have H' := AM H
 clear H
 go_enter Try.func37, Try.ntmps37
 go_wp2
 go_loopg [3, 10] k (fun kq v3 v10 w' => ∃ (x3_1 : Int) (x10_1 : Int), v3 = .int .i64 x3_1 ∧ v10 = .int .i64 x10_1 ∧ Za (impl_size.l0 kq x3_1 l0 (l0.length : Int) x10_1 = some r) ∧ Za (kq ≤ k) ∧ Za (Below w.heap.size w w'))
 case atStart => exact ⟨((l0.length : Int)), (0), (by first | rfl | (simp; done) | (simp [*]; done)), (by first | rfl | (simp; done) | (simp [*]; done)), H', ⟨Nat.le_refl _⟩, ⟨ZB⟩⟩
 case round => (
 clear H'
 obtain ⟨x3_1, x10_1, rfl, rfl, HA, HK1, HB⟩ := hrel
 cases gk with
 | zero => exact absurd HA.out (by simp [impl_size.l0])
 | succ k1 =>
  have H := HA.out
  clear HA
  simp only [impl_size.l0] at H
  by_cases c2 : x10_1 < (l0.length : Int)
  ·(
  rw [if_pos c2] at H
  have c2b0 := decide_eq_true c2
  clear c2
  by_cases c3 : 0 ≤ x10_1
  ·(
  rw [if_pos c3] at H
  have c3b0 := decide_eq_true c3
  clear c3
  by_cases c4 : x10_1 < (l0.length : Int)
  ·(
  rw [if_pos c4] at H
  have c4b0 := decide_eq_true c4
  clear c4
  obtain ⟨t518, A5, H⟩ := ZOB H; try dsimp only at H
  obtain ⟨t519, A6, H⟩ := ZOB H; try dsimp only at H
  have H' := AM H
  clear H
  have p516 : 0 ≤ (x10_1 : Int) := ZD
  have q516 : x10_1 < (l0.length : Int) := ZD
  obtain ⟨ad516, A516_6, c516_6, A516_7, c516_7, e516, hx516_0, hx516_1, hx516_2, hx516_3, hx516_4, hx516_5, hx516_6, hx516_7, hl516_6, hi516_6, hl516_7, hi516_7⟩ := at_T32 HR0.out x10_1 p516 q516
  cases e516
  replace hx516_0 := ZHX HB hx516_0
  replace hx516_1 := ZHX HB hx516_1
  replace hx516_2 := ZHX HB hx516_2
  replace hx516_3 := ZHX HB hx516_3
  replace hx516_4 := ZHX HB hx516_4
  replace hx516_5 := ZHX HB hx516_5
  replace hx516_6 := ZHX HB hx516_6
  replace hx516_7 := ZHX HB hx516_7
  have HR516_6 := AM hi516_6
  have HC516_6 := AM hl516_6
  clear hi516_6 hl516_6
  have HR516_7 := AM hi516_7
  have HC516_7 := AM hl516_7
  clear hi516_7 hl516_7
  replace p516 := eq_true p516
  replace q516 := eq_true q516
  try go_wp2_with (first | ((with_reducible refine gate_dst (N := 5) rfl ?_); refine ZX (N := 5) (cs := #[.int .i64 0, .int .i64 0, .int .i64 0, .int .i64 0, .int .i64 0, .int .i64 0, .slice none 0 0, .slice none 0 0]) (t := 32) ?_; intro gb517 hg w7 hbox hb; have BK517 := AM (hbox); have GW517 : Za (w.heap.size ≤ gb517) := ZS hg; replace HB := ZT HB hb; clear hb hbox hg; have hcz8 := ZC8 w7 BK517; have hfz8 := ZF8 BK517))
  have n0_ : Za (((((((((w7.setCell ⟨gb517, 0, none⟩ (.int .i64 ((D32 l0 x10_1).f0))).setCell ⟨gb517, 1, none⟩ (.int .i64 ((D32 l0 x10_1).f1))).setCell ⟨gb517, 2, none⟩ (.int .i64 ((D32 l0 x10_1).f2.f0))).setCell ⟨gb517, 3, none⟩ (.int .i64 ((D32 l0 x10_1).f2.f1))).setCell ⟨gb517, 4, none⟩ (.int .i64 ((D32 l0 x10_1).f2.f2))).setCell ⟨gb517, 5, none⟩ (.int .i64 ((D32 l0 x10_1).f3))).setCell ⟨gb517, 6, none⟩ (.slice A516_6 ((D32 l0 x10_1).f4).length c516_6)).setCell ⟨gb517, 7, none⟩ (.slice A516_7 ((D32 l0 x10_1).f5).length c516_7)).heap[gb517]? = some (.cells #[.int .i64 ((D32 l0 x10_1).f0), .int .i64 ((D32 l0 x10_1).f1), .int .i64 ((D32 l0 x10_1).f2.f0), .int .i64 ((D32 l0 x10_1).f2.f1), .int .i64 ((D32 l0 x10_1).f2.f2), .int .i64 ((D32 l0 x10_1).f3), .slice A516_6 ((D32 l0 x10_1).f4).length c516_6, .slice A516_7 ((D32 l0 x10_1).f5).length c516_7] 32 (0, 0))) := ⟨ZZ BK517.out⟩
  have n1_ : Za (Below w.heap.size w ((((((((w7.setCell ⟨gb517, 0, none⟩ (.int .i64 ((D32 l0 x10_1).f0))).setCell ⟨gb517, 1, none⟩ (.int .i64 ((D32 l0 x10_1).f1))).setCell ⟨gb517, 2, none⟩ (.int .i64 ((D32 l0 x10_1).f2.f0))).setCell ⟨gb517, 3, none⟩ (.int .i64 ((D32 l0 x10_1).f2.f1))).setCell ⟨gb517, 4, none⟩ (.int .i64 ((D32 l0 x10_1).f2.f2))).setCell ⟨gb517, 5, none⟩ (.int .i64 ((D32 l0 x10_1).f3))).setCell ⟨gb517, 6, none⟩ (.slice A516_6 ((D32 l0 x10_1).f4).length c516_6)).setCell ⟨gb517, 7, none⟩ (.slice A516_7 ((D32 l0 x10_1).f5).length c516_7))) := ⟨ZB⟩
  (try clear BK517)
  (try clear HB)
  generalize ((((((((w7.setCell ⟨gb517, 0, none⟩ (.int .i64 ((D32 l0 x10_1).f0))).setCell ⟨gb517, 1, none⟩ (.int .i64 ((D32 l0 x10_1).f1))).setCell ⟨gb517, 2, none⟩ (.int .i64 ((D32 l0 x10_1).f2.f0))).setCell ⟨gb517, 3, none⟩ (.int .i64 ((D32 l0 x10_1).f2.f1))).setCell ⟨gb517, 4, none⟩ (.int .i64 ((D32 l0 x10_1).f2.f2))).setCell ⟨gb517, 5, none⟩ (.int .i64 ((D32 l0 x10_1).f3))).setCell ⟨gb517, 6, none⟩ (.slice A516_6 ((D32 l0 x10_1).f4).length c516_6)).setCell ⟨gb517, 7, none⟩ (.slice A516_7 ((D32 l0 x10_1).f5).length c516_7)) = w9 at n0_ n1_ ⊢
  have BK517 := n0_
  have HB := n1_
  clear n0_ n1_
  replace BK517 := AM (blk_drew BK517.out)
  replace HB := AM (below_drew1 HB.out)
  refine start_ (n := 10) (S := fun w' => w'.cell? ⟨gb517, 0, none⟩ = some (.int .i64 ((D32 l0 x10_1).f0)) ∧ w'.cell? ⟨gb517, 1, none⟩ = some (.int .i64 ((D32 l0 x10_1).f1)) ∧ w'.cell? ⟨gb517, 2, none⟩ = some (.int .i64 ((D32 l0 x10_1).f2.f0)) ∧ w'.cell? ⟨gb517, 3, none⟩ = some (.int .i64 ((D32 l0 x10_1).f2.f1)) ∧ w'.cell? ⟨gb517, 4, none⟩ = some (.int .i64 ((D32 l0 x10_1).f2.f2)) ∧ w'.cell? ⟨gb517, 5, none⟩ = some (.int .i64 ((D32 l0 x10_1).f3)) ∧ w'.cell? ⟨gb517, 6, none⟩ = some (.slice A516_6 ((D32 l0 x10_1).f4).length c516_6) ∧ w'.cell? ⟨gb517, 7, none⟩ = some (.slice A516_7 ((D32 l0 x10_1).f5).length c516_7)) (ds := []) #[F,F,F,F,F,F,F,F,F,F] (by kernel_rfl) rfl rfl ⟨ZA BK517 0, ZA BK517 1, ZA BK517 2, ZA BK517 3, ZA BK517 4, ZA BK517 5, ZA BK517 6, ZA BK517 7⟩ (fun hHeld => ?_); refine with_tabW impl_size.tab5 impl_size.bits5 (fun HT_ HW_ => ?_)
  generalize w9.drew = w10 at BK517 HB hHeld ⊢
  refine ZU 0 14 #[T,F,F,F,F,F,F,F,F,F] ?_
  refine ZU 1 15 #[T,T,F,F,F,F,F,F,F,F] ?_
  refine ZU 4 18 #[T,T,F,F,T,F,F,F,F,F] ?_
  refine ZTK 2 16 #[T,T,T,F,T,F,F,F,F,F] hHeld ?_
  refine ZTK 5 19 #[T,T,T,F,T,T,F,F,F,F] hHeld ?_
  refine one_ (i := 3) (N := some 17) #[T,T,T,T,T,T,F,F,F,F] rfl rfl (one_of HT_.out (by kernel_rfl)) (by decide) (fun K hK => ?_)
  refine ZGO Try.func37 #[.slice A516_6 ((D32 l0 x10_1).f4).length c516_6] ?_
  with_reducible refine (ih k1 (by have := HK1.out; omega) _ _ ((D32 l0 x10_1).f4) t518 _ ?side1 ?side2 A5.out).mono ?_
  (case side1 => exact ZQ (Kd.C_below HR516_6.out HB.out))
  (case side2 => exact HC516_6.out)
  rintro e w11 ⟨rfl, hb⟩
  refine ⟨_, rfl, ?_⟩
  replace BK517 := ZW BK517 hb
  replace HB := ZT HB hb
  (try clear hb)
  (try clear hb2)
  (try clear hk)
  (try clear hi)
  refine hK.out _ _ ⟨ZA BK517 0, ZA BK517 1, ZA BK517 2, ZA BK517 3, ZA BK517 4, ZA BK517 5, ZA BK517 6, ZA BK517 7⟩ (fun hHeld => ?_)
  clear hK K
  refine ZNO 17 ?_
  refine one_ (i := 6) (N := some 20) #[T,T,T,T,T,T,T,F,F,F] rfl rfl (one_of HT_.out (by kernel_rfl)) (by decide) (fun K hK => ?_)
  refine ZGO Try.func37 #[.slice A516_7 ((D32 l0 x10_1).f5).length c516_7] ?_
  with_reducible refine (ih k1 (by have := HK1.out; omega) _ _ ((D32 l0 x10_1).f5) t519 _ ?side1 ?side2 A6.out).mono ?_
  (case side1 => exact ZQ (Kd.C_below HR516_7.out HB.out))
  (case side2 => exact HC516_7.out)
  rintro e w12 ⟨rfl, hb⟩
  refine ⟨_, rfl, ?_⟩
  replace BK517 := ZW BK517 hb
  replace HB := ZT HB hb
  (try clear hb)
  (try clear hb2)
  (try clear hk)
  (try clear hi)
  refine hK.out _ _ ⟨ZA BK517 0, ZA BK517 1, ZA BK517 2, ZA BK517 3, ZA BK517 4, ZA BK517 5, ZA BK517 6, ZA BK517 7⟩ (fun hHeld => ?_)
  clear hK K
  refine ZNO 20 ?_
  refine ZU 7 21 #[T,T,T,T,T,T,T,T,F,F] ?_
  refine ZU 8 22 #[T,T,T,T,T,T,T,T,T,F] ?_
  refine ZU 9 3 #[T,T,T,T,T,T,T,T,T,T] ?_
  refine done_ (done_of HT_.out (by kernel_rfl)) ?_
  try go_wp2
  go_roundg k1
  case measure => have := HK1.out; omega
  case rel => exact ⟨(wrap64 (x3_1 + (wrap64 (t518 + t519)))), (wrap64 (x10_1 + 1)), (by first | rfl | (simp; done) | (simp [*]; done)), (by first | rfl | (simp; done) | (simp [*]; done)), H', ⟨by have := HK1.out; omega⟩, ⟨ZB⟩⟩)
  ·(
  rw [if_neg c4] at H
  exact absurd H (by simp)))
  ·(
  rw [if_neg c3] at H
  exact absurd H (by simp)))
  ·(
  rw [if_neg c2] at H
  have c2b0 := decide_eq_false c2
  clear c2
  obtain rfl := Option.some.inj H
  go_wp2
  go_ret
  exact ⟨ZE, ZB⟩))

/-! ### impl_in: function 89 -/
def impl_in.f (a0 : Int) (a1 : Int) (a2 : Int) : Option (Bool) := if a1 ≤ a0 then (some (decide (a0 ≤ a2))) else (some false)
theorem impl_in.calls (a0 : Int) (a1 : Int) (a2 : Int) (r : Bool) (w : World) (h : impl_in.f a0 a1 a2 = some r) :
  Calls Try.prog 89 #[.int .i64 a0, .int .i64 a1, .int .i64 a2] w fun e w' => e = .returned (.bool r) ∧ Drawn0 w w' := by
 have H := h
 unfold impl_in.f at H
 clear h
 by_cases c4 : a1 ≤ a0
 ·(
 rw [if_pos c4] at H
 have c4b0 := decide_eq_true c4
 clear c4
 obtain rfl := Option.some.inj H
 go_enter Try.func89, Try.ntmps89
 go_wp2
 go_ret
 exact ⟨by first | rfl | (simp; done) | (simp [*]; done), by repeat (first | exact Drawn0.refl _ | apply Drawn0.step)⟩)
 ·(
 rw [if_neg c4] at H
 have c4b0 := decide_eq_false c4
 clear c4
 obtain rfl := Option.some.inj H
 go_enter Try.func89, Try.ntmps89
 go_wp2
 go_ret
 exact ⟨by first | rfl | (simp; done) | (simp [*]; done), by repeat (first | exact Drawn0.refl _ | apply Drawn0.step)⟩)

/-! ### impl_isSet: function 71 -/
def impl_isSet.f (a0 : Int) : Option (Bool) := (impl_in.f a0 0 7).bind fun t520 => (some t520)
theorem impl_isSet.calls (a0 : Int) (r : Bool) (w : World) (h : impl_isSet.f a0 = some r) :
  Calls Try.prog 71 #[.int .i64 a0] w fun e w' => e = .returned (.bool r) ∧ Drawn0 w w' := by
 have H := h
 unfold impl_isSet.f at H
 clear h
 obtain ⟨t520, A2, H⟩ := ZOB H; try dsimp only at H
 obtain rfl := Option.some.inj H
 go_enter Try.func71, Try.ntmps71
 go_wp2_with (first | ((with_reducible refine gate_callee (f := 89) rfl ?_); refine ZGL (some 4) Try.func89 #[.int .i64 a0, .int .i64 0, .int .i64 7] ?_; (with_reducible refine (impl_in.calls a0 0 7 t520 _ A2.out).mono ?_); rintro e w' ⟨rfl, ⟨nd, rfl⟩⟩; refine ⟨_, rfl, ?_⟩))
 go_ret
 exact ⟨by first | rfl | (simp; done) | (simp [*]; done), by repeat (first | exact Drawn0.refl _ | apply Drawn0.step)⟩

/-! ### impl_LabelOk: function 46 -/
def impl_LabelOk.f (a0_0 : Int) (a0_1 : Int) : Option (Bool) := (impl_isSet.f a0_0).bind fun t522 => (if t522 = true then ((impl_isSet.f a0_1).bind fun t523 => (some t523)) else (some false))
theorem impl_LabelOk.calls (a0_0 : Int) (a0_1 : Int) (r : Bool) (w : World) (h : impl_LabelOk.f a0_0 a0_1 = some r) :
  Calls Try.prog 46 #[.agg #[.int .i64 a0_0, .int .i64 a0_1]] w fun e w' => e = .returned (.bool r) ∧ Below w.heap.size w w' := by
 have hu39 := Try.underlying39
 have HB := AM (Below.refl w.heap.size w)
 have H := h
 unfold impl_LabelOk.f at H
 clear h
 obtain ⟨t522, A2, H⟩ := ZOB H; try dsimp only at H
 by_cases c3 : t522 = true
 ·(
 subst c3
 have H1 := H; rw [if_pos rfl] at H1
 clear H
 have H := H1
 clear H1
 obtain ⟨t523, A4, H⟩ := ZOB H; try dsimp only at H
 obtain rfl := Option.some.inj H
 go_enter Try.func46, Try.ntmps46
 go_wp2_with (first | ((with_reducible refine gate_dst (N := 1) rfl ?_); refine ZX (N := 1) (cs := #[.int .i64 a0_0, .int .i64 a0_1]) (t := 39) ?_; intro gb521 hg w5 hbox hb; have BK521 := AM (hbox); have GW521 : Za (w.heap.size ≤ gb521) := ZS hg; replace HB := ZT HB hb; clear hb hbox hg; have hcz6 := ZC2 w5 BK521; have hfz6 := ZF2 BK521) | ((with_reducible refine gate_callee (f := 71) rfl ?_); refine ZGL (some 5) Try.func71 #[.int .i64 a0_0] ?_; (with_reducible refine (impl_isSet.calls a0_0 true _ A2.out).mono ?_); rintro e w' ⟨rfl, ⟨nd, rfl⟩⟩; refine ⟨_, rfl, ?_⟩) | (go_at_call 71; (with_reducible refine (impl_isSet.calls a0_1 t523 _ A4.out).mono ?_); rintro e w' ⟨rfl, ⟨nd, rfl⟩⟩))
 go_ret
 exact ⟨ZE, ZB⟩)
 ·(
 replace c3 := Bool.eq_false_iff.mpr c3
 subst c3
 have H1 := H; rw [if_neg ZFT] at H1
 clear H
 have H := H1
 clear H1
 obtain rfl := Option.some.inj H
 go_enter Try.func46, Try.ntmps46
 go_wp2_with (first | ((with_reducible refine gate_dst (N := 1) rfl ?_); refine ZX (N := 1) (cs := #[.int .i64 a0_0, .int .i64 a0_1]) (t := 39) ?_; intro gb521 hg w7 hbox hb; have BK521 := AM (hbox); have GW521 : Za (w.heap.size ≤ gb521) := ZS hg; replace HB := ZT HB hb; clear hb hbox hg; have hcz8 := ZC2 w7 BK521; have hfz8 := ZF2 BK521) | ((with_reducible refine gate_callee (f := 71) rfl ?_); refine ZGL (some 5) Try.func71 #[.int .i64 a0_0] ?_; (with_reducible refine (impl_isSet.calls a0_0 false _ A2.out).mono ?_); rintro e w' ⟨rfl, ⟨nd, rfl⟩⟩; refine ⟨_, rfl, ?_⟩))
 go_ret
 exact ⟨ZE, ZB⟩)

/-! ### impl_ProgOk_1: function 58 -/
def impl_ProgOk_1.f (a0_0 : Int) (a0_1 : Int) : Option (Bool) := (impl_LabelOk.f a0_0 a0_1).bind fun t525 => (some (!t525))
theorem impl_ProgOk_1.calls (a0_0 : Int) (a0_1 : Int) (r : Bool) (w : World) (h : impl_ProgOk_1.f a0_0 a0_1 = some r) :
  Calls Try.prog 58 #[.agg #[.int .i64 a0_0, .int .i64 a0_1]] w fun e w' => e = .returned (.bool r) ∧ Below w.heap.size w w' := by
 have hu39 := Try.underlying39
 have HB := AM (Below.refl w.heap.size w)
 have H := h
 unfold impl_ProgOk_1.f at H
 clear h
 obtain ⟨t525, A2, H⟩ := ZOB H; try dsimp only at H
 obtain rfl := Option.some.inj H
 go_enter Try.func58, Try.ntmps58
 go_wp2_with (first | ((with_reducible refine gate_dst (N := 1) rfl ?_); refine ZX (N := 1) (cs := #[.int .i64 a0_0, .int .i64 a0_1]) (t := 39) ?_; intro gb524 hg w3 hbox hb; have BK524 := AM (hbox); have GW524 : Za (w.heap.size ≤ gb524) := ZS hg; replace HB := ZT HB hb; clear hb hbox hg; have hcz4 := ZC2 w3 BK524; have hfz4 := ZF2 BK524) | ((with_reducible refine gate_callee (f := 46) rfl ?_); refine ZGL (some 4) Try.func46 #[.agg #[.int .i64 a0_0, .int .i64 a0_1]] ?_; (with_reducible refine (impl_LabelOk.calls a0_0 a0_1 t525 _ A2.out).mono ?_); rintro e w5 ⟨rfl, hb⟩; refine ⟨_, rfl, ?_⟩; replace BK524 := ZW BK524 hb; replace HB := ZT HB hb; clear hb))
 go_ret
 exact ⟨ZE, ZB⟩

/-! ### impl_Label_78: function 78 -/
def impl_Label_78.l0 : Nat → List (S39) → Int → Int → Option (Int)
 | 0, _, _, _ => none
 | k + 1, x0, x7, x8 => if x8 < x7 then (if 0 ≤ x8 then (if x8 < (x0.length : Int) then ((impl_ProgOk_1.f ((D39 x0 x8).f0) ((D39 x0 x8).f1)).bind fun t527 => (if t527 = true then (some x8) else (impl_Label_78.l0 k x0 x7 (wrap64 (x8 + 1))))) else (none)) else (none)) else (some (-1))
def impl_Label_78.f (k : Nat) (l0 : List (S39))  : Option (Int) := impl_Label_78.l0 k l0 (l0.length : Int) 0
theorem impl_Label_78.calls (k : Nat) (A0 : Option Addr) (c0 : Nat) (l0 : List (S39))  (r : Int) (w : World) (hr0 : Kd.C k39 w A0 l0.length l0) (hc0 : l0.length ≤ c0) (h : impl_Label_78.f k l0 = some r) :
  Calls Try.prog 78 #[.slice A0 l0.length c0, .func (.func 58) #[] #[]] w fun e w' => e = .returned (.int .i64 r) ∧ Below w.heap.size w w' := by
 have hu39 := Try.underlying39
 have HR0 := AM hr0
 have HC0 := AM hc0
 clear hr0 hc0
 have HB := AM (Below.refl w.heap.size w)
 have H := h
 unfold impl_Label_78.f at H
 clear h
 have H' := AM H
 clear H
 go_enter Try.func78, Try.ntmps78
 go_wp2
 go_loopg [8] k (fun kq v8 w' => ∃ (x8_1 : Int), v8 = .int .i64 x8_1 ∧ Za (impl_Label_78.l0 kq l0 (l0.length : Int) x8_1 = some r) ∧ Za (kq ≤ k) ∧ Za (Below w.heap.size w w'))
 case atStart => exact ⟨(0), (by first | rfl | (simp; done) | (simp [*]; done)), H', ⟨Nat.le_refl _⟩, ⟨ZB⟩⟩
 case round => (
 clear H'
 try clear p2
 obtain ⟨x8_1, rfl, HA, HK1, HB⟩ := hrel
 cases gk with
 | zero => exact absurd HA.out (by simp [impl_Label_78.l0])
 | succ k1 =>
  have H := HA.out
  clear HA
  simp only [impl_Label_78.l0] at H
  by_cases c3 : x8_1 < (l0.length : Int)
  ·(
  rw [if_pos c3] at H
  have c3b0 := decide_eq_true c3
  clear c3
  by_cases c4 : 0 ≤ x8_1
  ·(
  rw [if_pos c4] at H
  have c4b0 := decide_eq_true c4
  clear c4
  by_cases c5 : x8_1 < (l0.length : Int)
  ·(
  rw [if_pos c5] at H
  have c5b0 := decide_eq_true c5
  clear c5
  obtain ⟨t527, A6, H⟩ := ZOB H; try dsimp only at H
  by_cases c7 : t527 = true
  ·(
  subst c7
  have H1 := H; rw [if_pos rfl] at H1
  clear H
  have H := H1
  clear H1
  obtain rfl := Option.some.inj H
  have p526 : 0 ≤ (x8_1 : Int) := ZD
  have q526 : x8_1 < (l0.length : Int) := ZD
  obtain ⟨ad526, e526, hx526_0, hx526_1⟩ := at_T39 HR0.out x8_1 p526 q526
  cases e526
  replace hx526_0 := ZHX HB hx526_0
  replace hx526_1 := ZHX HB hx526_1
  replace p526 := eq_true p526
  replace q526 := eq_true q526
  go_wp2_with (first | ((with_reducible refine gate_calleev ⟨_, _, _, rfl⟩ ?_); refine goesLv_ (some 16) rfl rfl Try.func58 (by kernel_rfl) rfl #[.agg #[.int .i64 ((D39 l0 x8_1).f0), .int .i64 ((D39 l0 x8_1).f1)]] ⟨_, _, rfl, rfl⟩ ZG ?_; (with_reducible refine (impl_ProgOk_1.calls ((D39 l0 x8_1).f0) ((D39 l0 x8_1).f1) true _ A6.out).mono ?_); rintro e w8 ⟨rfl, hb⟩; refine ⟨_, rfl, ?_⟩; replace HB := ZT HB hb; clear hb))
  go_ret
  exact ⟨ZE, ZB⟩)
  ·(
  replace c7 := Bool.eq_false_iff.mpr c7
  subst c7
  have H1 := H; rw [if_neg ZFT] at H1
  clear H
  have H := H1
  clear H1
  have H' := AM H
  clear H
  have p526 : 0 ≤ (x8_1 : Int) := ZD
  have q526 : x8_1 < (l0.length : Int) := ZD
  obtain ⟨ad526, e526, hx526_0, hx526_1⟩ := at_T39 HR0.out x8_1 p526 q526
  cases e526
  replace hx526_0 := ZHX HB hx526_0
  replace hx526_1 := ZHX HB hx526_1
  replace p526 := eq_true p526
  replace q526 := eq_true q526
  go_wp2_with (first | ((with_reducible refine gate_calleev ⟨_, _, _, rfl⟩ ?_); refine goesLv_ (some 16) rfl rfl Try.func58 (by kernel_rfl) rfl #[.agg #[.int .i64 ((D39 l0 x8_1).f0), .int .i64 ((D39 l0 x8_1).f1)]] ⟨_, _, rfl, rfl⟩ ZG ?_; (with_reducible refine (impl_ProgOk_1.calls ((D39 l0 x8_1).f0) ((D39 l0 x8_1).f1) false _ A6.out).mono ?_); rintro e w9 ⟨rfl, hb⟩; refine ⟨_, rfl, ?_⟩; replace HB := ZT HB hb; clear hb))
  go_roundg k1
  case measure => have := HK1.out; omega
  case rel => exact ⟨(wrap64 (x8_1 + 1)), (by first | rfl | (simp; done) | (simp [*]; done)), H', ⟨by have := HK1.out; omega⟩, ⟨ZB⟩⟩))
  ·(
  rw [if_neg c5] at H
  exact absurd H (by simp)))
  ·(
  rw [if_neg c4] at H
  exact absurd H (by simp)))
  ·(
  rw [if_neg c3] at H
  have c3b0 := decide_eq_false c3
  clear c3
  obtain rfl := Option.some.inj H
  go_wp2
  go_ret
  exact ⟨ZE, ZB⟩))

/-! ### impl_Label_57: function 57 -/
def impl_Label_57.f (k : Nat) (l0 : List (S39))  : Option (Bool) := (impl_Label_78.f k l0).bind fun t528 => (some (decide (t528 ≥ 0)))
theorem impl_Label_57.calls (k : Nat) (A0 : Option Addr) (c0 : Nat) (l0 : List (S39))  (r : Bool) (w : World) (hr0 : Kd.C k39 w A0 l0.length l0) (hc0 : l0.length ≤ c0) (h : impl_Label_57.f k l0 = some r) :
  Calls Try.prog 57 #[.slice A0 l0.length c0, .func (.func 58) #[] #[]] w fun e w' => e = .returned (.bool r) ∧ Below w.heap.size w w' := by
 have HR0 := AM hr0
 have HC0 := AM hc0
 clear hr0 hc0
 have HB := AM (Below.refl w.heap.size w)
 have H := h
 unfold impl_Label_57.f at H
 clear h
 obtain ⟨t528, A3, H⟩ := ZOB H; try dsimp only at H
 obtain rfl := Option.some.inj H
 go_enter Try.func57, Try.ntmps57
 go_wp2_with (first | ((with_reducible refine gate_callee (f := 78) rfl ?_); refine ZGL (some 7) Try.func78 #[.slice A0 l0.length c0, .func (.func 58) #[] #[]] ?_; (with_reducible refine (impl_Label_78.calls k _ _ l0  t528 _ ?side1 HC0.out A3.out).mono ?_); (case side1 => exact ZQ HR0.out); rintro e w4 ⟨rfl, hb⟩; refine ⟨_, rfl, ?_⟩; replace HB := ZT HB hb; clear hb))
 go_ret
 exact ⟨ZE, ZB⟩

/-! ### impl_Prog_isVar: function 79 -/
def impl_Prog_isVar.f (l0_0 : List (S39)) (l0_1 : List (S32)) (a1 : Int) : Option (Bool) := (impl_in.f a1 0 (wrap64 ((l0_0.length : Int) - 1))).bind fun t530 => (some t530)
theorem impl_Prog_isVar.calls (A0_0 : Option Addr) (c0_0 : Nat) (l0_0 : List (S39)) (A0_1 : Option Addr) (c0_1 : Nat) (l0_1 : List (S32)) (a1 : Int) (r : Bool) (w : World) (hr0_0 : Kd.C k39 w A0_0 l0_0.length l0_0) (hc0_0 : l0_0.length ≤ c0_0) (hr0_1 : Kd.C k32 w A0_1 l0_1.length l0_1) (hc0_1 : l0_1.length ≤ c0_1) (h : impl_Prog_isVar.f l0_0 l0_1 a1 = some r) :
  Calls Try.prog 79 #[.agg #[.slice A0_0 l0_0.length c0_0, .slice A0_1 l0_1.length c0_1], .int .i64 a1] w fun e w' => e = .returned (.bool r) ∧ Below w.heap.size w w' := by
 have hu26 := Try.underlying26
 have HR0_0 := AM hr0_0
 have HC0_0 := AM hc0_0
 clear hr0_0 hc0_0
 have HR0_1 := AM hr0_1
 have HC0_1 := AM hc0_1
 clear hr0_1 hc0_1
 have HB := AM (Below.refl w.heap.size w)
 have H := h
 unfold impl_Prog_isVar.f at H
 clear h
 obtain ⟨t530, A3, H⟩ := ZOB H; try dsimp only at H
 obtain rfl := Option.some.inj H
 go_enter Try.func79, Try.ntmps79
 go_wp2_with (first | ((with_reducible refine gate_dst (N := 2) rfl ?_); refine ZX (N := 2) (cs := #[.slice A0_0 l0_0.length c0_0, .slice A0_1 l0_1.length c0_1]) (t := 26) ?_; intro gb529 hg w4 hbox hb; have BK529 := AM (hbox); have GW529 : Za (w.heap.size ≤ gb529) := ZS hg; replace HB := ZT HB hb; clear hb hbox hg; have hcz5 := ZC2 w4 BK529; have hfz5 := ZF2 BK529) | ((with_reducible refine gate_callee (f := 89) rfl ?_); refine ZGL (some 10) Try.func89 #[.int .i64 a1, .int .i64 0, .int .i64 (wrap64 ((l0_0.length : Int) - 1))] ?_; (with_reducible refine (impl_in.calls a1 0 (wrap64 ((l0_0.length : Int) - 1)) t530 _ A3.out).mono ?_); rintro e w' ⟨rfl, ⟨nd, rfl⟩⟩; refine ⟨_, rfl, ?_⟩))
 go_ret
 exact ⟨ZE, ZB⟩

/-! ### impl_isNum: function 90 -/
def impl_isNum.f (a0 : Int) : Option (Bool) := (impl_in.f a0 0 9).bind fun t531 => (some t531)
theorem impl_isNum.calls (a0 : Int) (r : Bool) (w : World) (h : impl_isNum.f a0 = some r) :
  Calls Try.prog 90 #[.int .i64 a0] w fun e w' => e = .returned (.bool r) ∧ Drawn0 w w' := by
 have H := h
 unfold impl_isNum.f at H
 clear h
 obtain ⟨t531, A2, H⟩ := ZOB H; try dsimp only at H
 obtain rfl := Option.some.inj H
 go_enter Try.func90, Try.ntmps90
 go_wp2_with (first | ((with_reducible refine gate_callee (f := 89) rfl ?_); refine ZGL (some 4) Try.func89 #[.int .i64 a0, .int .i64 0, .int .i64 9] ?_; (with_reducible refine (impl_in.calls a0 0 9 t531 _ A2.out).mono ?_); rintro e w' ⟨rfl, ⟨nd, rfl⟩⟩; refine ⟨_, rfl, ?_⟩))
 go_ret
 exact ⟨by first | rfl | (simp; done) | (simp [*]; done), by repeat (first | exact Drawn0.refl _ | apply Drawn0.step)⟩


/-! ### impl_Prog_valOk: function 80 -/
def impl_Prog_valOk.f (l0_0 : List (S39)) (l0_1 : List (S32)) (a1_0 : Int) (a1_1 : Int) (a1_2 : Int) : Option (Bool) := if a1_0 = 1 then ((impl_isNum.f a1_1).bind fun t534 => (if t534 = true then (some (a1_2 == 0)) else (some false))) else (if a1_0 = 2 then ((impl_Prog_isVar.f l0_0 l0_1 a1_1).bind fun t535 => (if t535 = true then (some (a1_2 == 0)) else (some false))) else (if a1_0 = 3 then ((impl_Prog_isVar.f l0_0 l0_1 a1_1).bind fun t536 => (if t536 = true then ((impl_Prog_isVar.f l0_0 l0_1 a1_2).bind fun t537 => (some t537)) else (some false))) else (if a1_0 = 4 then ((impl_Prog_isVar.f l0_0 l0_1 a1_1).bind fun t538 => (if t538 = true then ((impl_Prog_isVar.f l0_0 l0_1 a1_2).bind fun t539 => (some t539)) else (some false))) else (some false))))
theorem impl_Prog_valOk.calls (A0_0 : Option Addr) (c0_0 : Nat) (l0_0 : List (S39)) (A0_1 : Option Addr) (c0_1 : Nat) (l0_1 : List (S32)) (a1_0 : Int) (a1_1 : Int) (a1_2 : Int) (r : Bool) (w : World) (hr0_0 : Kd.C k39 w A0_0 l0_0.length l0_0) (hc0_0 : l0_0.length ≤ c0_0) (hr0_1 : Kd.C k32 w A0_1 l0_1.length l0_1) (hc0_1 : l0_1.length ≤ c0_1) (h : impl_Prog_valOk.f l0_0 l0_1 a1_0 a1_1 a1_2 = some r) :
  Calls Try.prog 80 #[.agg #[.slice A0_0 l0_0.length c0_0, .slice A0_1 l0_1.length c0_1], .agg #[.int .i64 a1_0, .int .i64 a1_1, .int .i64 a1_2]] w fun e w' => e = .returned (.bool r) ∧ Below w.heap.size w w' := by
 have hu26 := Try.underlying26
 have hu30 := Try.underlying30
 have HR0_0 := AM hr0_0
 have HC0_0 := AM hc0_0
 clear hr0_0 hc0_0
 have HR0_1 := AM hr0_1
 have HC0_1 := AM hc0_1
 clear hr0_1 hc0_1
 have HB := AM (Below.refl w.heap.size w)
 have H := h
 unfold impl_Prog_valOk.f at H
 clear h
 by_cases c3 : a1_0 = 1
 ·(
 rw [if_pos c3] at H
 have c3b0 := beq_iff_eq.mpr c3
 have c3b1 := bne_eq_false_iff_eq.mpr c3
 clear c3
 obtain ⟨t534, A4, H⟩ := ZOB H; try dsimp only at H
 by_cases c5 : t534 = true
 ·(
 subst c5
 have H1 := H; rw [if_pos rfl] at H1
 clear H
 have H := H1
 clear H1
 obtain rfl := Option.some.inj H
 go_enter Try.func80, Try.ntmps80
 go_wp2_with (first | ((with_reducible refine gate_dst (N := 2) rfl ?_); refine ZX (N := 2) (cs := #[.slice A0_0 l0_0.length c0_0, .slice A0_1 l0_1.length c0_1]) (t := 26) ?_; intro gb532 hg w6 hbox hb; have BK532 := AM (hbox); have GW532 : Za (w.heap.size ≤ gb532) := ZS hg; replace HB := ZT HB hb; clear hb hbox hg) | ((with_reducible refine gate_dst (N := 3) rfl ?_); refine ZX (N := 3) (cs := #[.int .i64 a1_0, .int .i64 a1_1, .int .i64 a1_2]) (t := 30) ?_; intro gb533 hg w7 hbox hb; have BK533 := AM (hbox); have GW533 : Za (w.heap.size ≤ gb533) := ZS hg; have NB532_533 : Za (gb532 ≠ gb533) := ZN hg BK532; have NB533_532 : Za (gb533 ≠ gb532) := ZM hg BK532; replace BK532 := ZW BK532 hb; replace HB := ZT HB hb; clear hb hbox hg; have hnb8 := NB533_532.out; have hnc8 := NB532_533.out; have hcz9 := ZC3 w7 BK533; have hfz9 := ZF3 BK533) | ((with_reducible refine gate_callee (f := 90) rfl ?_); refine ZGL (some 11) Try.func90 #[.int .i64 a1_1] ?_; (with_reducible refine (impl_isNum.calls a1_1 true _ A4.out).mono ?_); rintro e w' ⟨rfl, ⟨nd, rfl⟩⟩; refine ⟨_, rfl, ?_⟩))
 go_ret
 exact ⟨ZE, ZB⟩)
 ·(
 replace c5 := Bool.eq_false_iff.mpr c5
 subst c5
 have H1 := H; rw [if_neg ZFT] at H1
 clear H
 have H := H1
 clear H1
 obtain rfl := Option.some.inj H
 go_enter Try.func80, Try.ntmps80
 go_wp2_with (first | ((with_reducible refine gate_dst (N := 2) rfl ?_); refine ZX (N := 2) (cs := #[.slice A0_0 l0_0.length c0_0, .slice A0_1 l0_1.length c0_1]) (t := 26) ?_; intro gb532 hg w10 hbox hb; have BK532 := AM (hbox); have GW532 : Za (w.heap.size ≤ gb532) := ZS hg; replace HB := ZT HB hb; clear hb hbox hg) | ((with_reducible refine gate_dst (N := 3) rfl ?_); refine ZX (N := 3) (cs := #[.int .i64 a1_0, .int .i64 a1_1, .int .i64 a1_2]) (t := 30) ?_; intro gb533 hg w11 hbox hb; have BK533 := AM (hbox); have GW533 : Za (w.heap.size ≤ gb533) := ZS hg; have NB532_533 : Za (gb532 ≠ gb533) := ZN hg BK532; have NB533_532 : Za (gb533 ≠ gb532) := ZM hg BK532; replace BK532 := ZW BK532 hb; replace HB := ZT HB hb; clear hb hbox hg; have hnb12 := NB533_532.out; have hnc12 := NB532_533.out; have hcz13 := ZC3 w11 BK533; have hfz13 := ZF3 BK533) | ((with_reducible refine gate_callee (f := 90) rfl ?_); refine ZGL (some 11) Try.func90 #[.int .i64 a1_1] ?_; (with_reducible refine (impl_isNum.calls a1_1 false _ A4.out).mono ?_); rintro e w' ⟨rfl, ⟨nd, rfl⟩⟩; refine ⟨_, rfl, ?_⟩))
 go_ret
 exact ⟨ZE, ZB⟩))
 ·(
 rw [if_neg c3] at H
 have c3b0 := beq_eq_false_iff_ne.mpr c3
 have c3b1 := bne_iff_ne.mpr c3
 by_cases c14 : a1_0 = 2
 ·(
 rw [if_pos c14] at H
 have c14b0 := beq_iff_eq.mpr c14
 have c14b1 := bne_eq_false_iff_eq.mpr c14
 clear c14
 obtain ⟨t535, A15, H⟩ := ZOB H; try dsimp only at H
 by_cases c16 : t535 = true
 ·(
 subst c16
 have H1 := H; rw [if_pos rfl] at H1
 clear H
 have H := H1
 clear H1
 obtain rfl := Option.some.inj H
 go_enter Try.func80, Try.ntmps80
 go_wp2_with (first | ((with_reducible refine gate_dst (N := 2) rfl ?_); refine ZX (N := 2) (cs := #[.slice A0_0 l0_0.length c0_0, .slice A0_1 l0_1.length c0_1]) (t := 26) ?_; intro gb532 hg w17 hbox hb; have BK532 := AM (hbox); have GW532 : Za (w.heap.size ≤ gb532) := ZS hg; replace HB := ZT HB hb; clear hb hbox hg) | ((with_reducible refine gate_dst (N := 3) rfl ?_); refine ZX (N := 3) (cs := #[.int .i64 a1_0, .int .i64 a1_1, .int .i64 a1_2]) (t := 30) ?_; intro gb533 hg w18 hbox hb; have BK533 := AM (hbox); have GW533 : Za (w.heap.size ≤ gb533) := ZS hg; have NB532_533 : Za (gb532 ≠ gb533) := ZN hg BK532; have NB533_532 : Za (gb533 ≠ gb532) := ZM hg BK532; replace BK532 := ZW BK532 hb; replace HB := ZT HB hb; clear hb hbox hg; have hnb19 := NB533_532.out; have hnc19 := NB532_533.out; have hcz20 := ZC3 w18 BK533; have hfz20 := ZF3 BK533; have hcz21 := ZC2 w18 BK532; have hfz21 := ZF2 BK532) | ((with_reducible refine gate_callee (f := 79) rfl ?_); refine ZGL (some 22) Try.func79 #[.agg #[.slice A0_0 l0_0.length c0_0, .slice A0_1 l0_1.length c0_1], .int .i64 a1_1] ?_; (with_reducible refine (impl_Prog_isVar.calls _ _ l0_0 _ _ l0_1 a1_1 true _ (ZQ (Kd.C_below HR0_0.out HB.out)) HC0_0.out (ZQ (Kd.C_below HR0_1.out HB.out)) HC0_1.out A15.out).mono ?_); rintro e w22 ⟨rfl, hb⟩; refine ⟨_, rfl, ?_⟩; replace BK532 := ZW BK532 hb; replace BK533 := ZW BK533 hb; replace HB := ZT HB hb; clear hb; have hcz23 := ZC3 w22 BK533; have hfz23 := ZF3 BK533))
 go_ret
 exact ⟨ZE, ZB⟩)
 ·(
 replace c16 := Bool.eq_false_iff.mpr c16
 subst c16
 have H1 := H; rw [if_neg ZFT] at H1
 clear H
 have H := H1
 clear H1
 obtain rfl := Option.some.inj H
 go_enter Try.func80, Try.ntmps80
 go_wp2_with (first | ((with_reducible refine gate_dst (N := 2) rfl ?_); refine ZX (N := 2) (cs := #[.slice A0_0 l0_0.length c0_0, .slice A0_1 l0_1.length c0_1]) (t := 26) ?_; intro gb532 hg w24 hbox hb; have BK532 := AM (hbox); have GW532 : Za (w.heap.size ≤ gb532) := ZS hg; replace HB := ZT HB hb; clear hb hbox hg) | ((with_reducible refine gate_dst (N := 3) rfl ?_); refine ZX (N := 3) (cs := #[.int .i64 a1_0, .int .i64 a1_1, .int .i64 a1_2]) (t := 30) ?_; intro gb533 hg w25 hbox hb; have BK533 := AM (hbox); have GW533 : Za (w.heap.size ≤ gb533) := ZS hg; have NB532_533 : Za (gb532 ≠ gb533) := ZN hg BK532; have NB533_532 : Za (gb533 ≠ gb532) := ZM hg BK532; replace BK532 := ZW BK532 hb; replace HB := ZT HB hb; clear hb hbox hg; have hnb26 := NB533_532.out; have hnc26 := NB532_533.out; have hcz27 := ZC3 w25 BK533; have hfz27 := ZF3 BK533; have hcz28 := ZC2 w25 BK532; have hfz28 := ZF2 BK532) | ((with_reducible refine gate_callee (f := 79) rfl ?_); refine ZGL (some 22) Try.func79 #[.agg #[.slice A0_0 l0_0.length c0_0, .slice A0_1 l0_1.length c0_1], .int .i64 a1_1] ?_; (with_reducible refine (impl_Prog_isVar.calls _ _ l0_0 _ _ l0_1 a1_1 false _ (ZQ (Kd.C_below HR0_0.out HB.out)) HC0_0.out (ZQ (Kd.C_below HR0_1.out HB.out)) HC0_1.out A15.out).mono ?_); rintro e w29 ⟨rfl, hb⟩; refine ⟨_, rfl, ?_⟩; replace BK532 := ZW BK532 hb; replace BK533 := ZW BK533 hb; replace HB := ZT HB hb; clear hb))
 go_ret
 exact ⟨ZE, ZB⟩))
 ·(
 rw [if_neg c14] at H
 have c14b0 := beq_eq_false_iff_ne.mpr c14
 have c14b1 := bne_iff_ne.mpr c14
 by_cases c30 : a1_0 = 3
 ·(
 rw [if_pos c30] at H
 have c30b0 := beq_iff_eq.mpr c30
 have c30b1 := bne_eq_false_iff_eq.mpr c30
 clear c30
 obtain ⟨t536, A31, H⟩ := ZOB H; try dsimp only at H
 by_cases c32 : t536 = true
 ·(
 subst c32
 have H1 := H; rw [if_pos rfl] at H1
 clear H
 have H := H1
 clear H1
 obtain ⟨t537, A33, H⟩ := ZOB H; try dsimp only at H
 obtain rfl := Option.some.inj H
 go_enter Try.func80, Try.ntmps80
 go_wp2_with (first | ((with_reducible refine gate_dst (N := 2) rfl ?_); refine ZX (N := 2) (cs := #[.slice A0_0 l0_0.length c0_0, .slice A0_1 l0_1.length c0_1]) (t := 26) ?_; intro gb532 hg w34 hbox hb; have BK532 := AM (hbox); have GW532 : Za (w.heap.size ≤ gb532) := ZS hg; replace HB := ZT HB hb; clear hb hbox hg) | ((with_reducible refine gate_dst (N := 3) rfl ?_); refine ZX (N := 3) (cs := #[.int .i64 a1_0, .int .i64 a1_1, .int .i64 a1_2]) (t := 30) ?_; intro gb533 hg w35 hbox hb; have BK533 := AM (hbox); have GW533 : Za (w.heap.size ≤ gb533) := ZS hg; have NB532_533 : Za (gb532 ≠ gb533) := ZN hg BK532; have NB533_532 : Za (gb533 ≠ gb532) := ZM hg BK532; replace BK532 := ZW BK532 hb; replace HB := ZT HB hb; clear hb hbox hg; have hnb36 := NB533_532.out; have hnc36 := NB532_533.out; have hcz37 := ZC3 w35 BK533; have hfz37 := ZF3 BK533; have hcz38 := ZC2 w35 BK532; have hfz38 := ZF2 BK532) | (go_at_call 79; (with_reducible refine (impl_Prog_isVar.calls _ _ l0_0 _ _ l0_1 a1_1 true _ (ZQ (Kd.C_below HR0_0.out HB.out)) HC0_0.out (ZQ (Kd.C_below HR0_1.out HB.out)) HC0_1.out A31.out).mono ?_); rintro e w39 ⟨rfl, hb⟩; replace BK532 := ZW BK532 hb; replace BK533 := ZW BK533 hb; replace HB := ZT HB hb; clear hb; have hcz40 := ZC2 w39 BK532; have hfz40 := ZF2 BK532; have hcz41 := ZC3 w39 BK533; have hfz41 := ZF3 BK533) | (go_at_call 79; (with_reducible refine (impl_Prog_isVar.calls _ _ l0_0 _ _ l0_1 a1_2 t537 _ (ZQ (Kd.C_below HR0_0.out HB.out)) HC0_0.out (ZQ (Kd.C_below HR0_1.out HB.out)) HC0_1.out A33.out).mono ?_); rintro e w42 ⟨rfl, hb⟩; replace BK532 := ZW BK532 hb; replace BK533 := ZW BK533 hb; replace HB := ZT HB hb; clear hb))
 go_ret
 exact ⟨ZE, ZB⟩)
 ·(
 replace c32 := Bool.eq_false_iff.mpr c32
 subst c32
 have H1 := H; rw [if_neg ZFT] at H1
 clear H
 have H := H1
 clear H1
 obtain rfl := Option.some.inj H
 go_enter Try.func80, Try.ntmps80
 go_wp2_with (first | ((with_reducible refine gate_dst (N := 2) rfl ?_); refine ZX (N := 2) (cs := #[.slice A0_0 l0_0.length c0_0, .slice A0_1 l0_1.length c0_1]) (t := 26) ?_; intro gb532 hg w43 hbox hb; have BK532 := AM (hbox); have GW532 : Za (w.heap.size ≤ gb532) := ZS hg; replace HB := ZT HB hb; clear hb hbox hg) | ((with_reducible refine gate_dst (N := 3) rfl ?_); refine ZX (N := 3) (cs := #[.int .i64 a1_0, .int .i64 a1_1, .int .i64 a1_2]) (t := 30) ?_; intro gb533 hg w44 hbox hb; have BK533 := AM (hbox); have GW533 : Za (w.heap.size ≤ gb533) := ZS hg; have NB532_533 : Za (gb532 ≠ gb533) := ZN hg BK532; have NB533_532 : Za (gb533 ≠ gb532) := ZM hg BK532; replace BK532 := ZW BK532 hb; replace HB := ZT HB hb; clear hb hbox hg; have hnb45 := NB533_532.out; have hnc45 := NB532_533.out; have hcz46 := ZC3 w44 BK533; have hfz46 := ZF3 BK533; have hcz47 := ZC2 w44 BK532; have hfz47 := ZF2 BK532) | (go_at_call 79; (with_reducible refine (impl_Prog_isVar.calls _ _ l0_0 _ _ l0_1 a1_1 false _ (ZQ (Kd.C_below HR0_0.out HB.out)) HC0_0.out (ZQ (Kd.C_below HR0_1.out HB.out)) HC0_1.out A31.out).mono ?_); rintro e w48 ⟨rfl, hb⟩; replace BK532 := ZW BK532 hb; replace BK533 := ZW BK533 hb; replace HB := ZT HB hb; clear hb))
 go_ret
 exact ⟨ZE, ZB⟩))
 ·(
 rw [if_neg c30] at H
 have c30b0 := beq_eq_false_iff_ne.mpr c30
 have c30b1 := bne_iff_ne.mpr c30
 by_cases c49 : a1_0 = 4
 ·(
 rw [if_pos c49] at H
 have c49b0 := beq_iff_eq.mpr c49
 have c49b1 := bne_eq_false_iff_eq.mpr c49
 clear c49
 obtain ⟨t538, A50, H⟩ := ZOB H; try dsimp only at H
 by_cases c51 : t538 = true
 ·(
 subst c51
 have H1 := H; rw [if_pos rfl] at H1
 clear H
 have H := H1
 clear H1
 obtain ⟨t539, A52, H⟩ := ZOB H; try dsimp only at H
 obtain rfl := Option.some.inj H
 go_enter Try.func80, Try.ntmps80
 go_wp2_with (first | ((with_reducible refine gate_dst (N := 2) rfl ?_); refine ZX (N := 2) (cs := #[.slice A0_0 l0_0.length c0_0, .slice A0_1 l0_1.length c0_1]) (t := 26) ?_; intro gb532 hg w53 hbox hb; have BK532 := AM (hbox); have GW532 : Za (w.heap.size ≤ gb532) := ZS hg; replace HB := ZT HB hb; clear hb hbox hg) | ((with_reducible refine gate_dst (N := 3) rfl ?_); refine ZX (N := 3) (cs := #[.int .i64 a1_0, .int .i64 a1_1, .int .i64 a1_2]) (t := 30) ?_; intro gb533 hg w54 hbox hb; have BK533 := AM (hbox); have GW533 : Za (w.heap.size ≤ gb533) := ZS hg; have NB532_533 : Za (gb532 ≠ gb533) := ZN hg BK532; have NB533_532 : Za (gb533 ≠ gb532) := ZM hg BK532; replace BK532 := ZW BK532 hb; replace HB := ZT HB hb; clear hb hbox hg; have hnb55 := NB533_532.out; have hnc55 := NB532_533.out; have hcz56 := ZC3 w54 BK533; have hfz56 := ZF3 BK533; have hcz57 := ZC2 w54 BK532; have hfz57 := ZF2 BK532) | (go_at_call 79; (with_reducible refine (impl_Prog_isVar.calls _ _ l0_0 _ _ l0_1 a1_1 true _ (ZQ (Kd.C_below HR0_0.out HB.out)) HC0_0.out (ZQ (Kd.C_below HR0_1.out HB.out)) HC0_1.out A50.out).mono ?_); rintro e w58 ⟨rfl, hb⟩; replace BK532 := ZW BK532 hb; replace BK533 := ZW BK533 hb; replace HB := ZT HB hb; clear hb; have hcz59 := ZC2 w58 BK532; have hfz59 := ZF2 BK532; have hcz60 := ZC3 w58 BK533; have hfz60 := ZF3 BK533) | (go_at_call 79; (with_reducible refine (impl_Prog_isVar.calls _ _ l0_0 _ _ l0_1 a1_2 t539 _ (ZQ (Kd.C_below HR0_0.out HB.out)) HC0_0.out (ZQ (Kd.C_below HR0_1.out HB.out)) HC0_1.out A52.out).mono ?_); rintro e w61 ⟨rfl, hb⟩; replace BK532 := ZW BK532 hb; replace BK533 := ZW BK533 hb; replace HB := ZT HB hb; clear hb))
 go_ret
 exact ⟨ZE, ZB⟩)
 ·(
 replace c51 := Bool.eq_false_iff.mpr c51
 subst c51
 have H1 := H; rw [if_neg ZFT] at H1
 clear H
 have H := H1
 clear H1
 obtain rfl := Option.some.inj H
 go_enter Try.func80, Try.ntmps80
 go_wp2_with (first | ((with_reducible refine gate_dst (N := 2) rfl ?_); refine ZX (N := 2) (cs := #[.slice A0_0 l0_0.length c0_0, .slice A0_1 l0_1.length c0_1]) (t := 26) ?_; intro gb532 hg w62 hbox hb; have BK532 := AM (hbox); have GW532 : Za (w.heap.size ≤ gb532) := ZS hg; replace HB := ZT HB hb; clear hb hbox hg) | ((with_reducible refine gate_dst (N := 3) rfl ?_); refine ZX (N := 3) (cs := #[.int .i64 a1_0, .int .i64 a1_1, .int .i64 a1_2]) (t := 30) ?_; intro gb533 hg w63 hbox hb; have BK533 := AM (hbox); have GW533 : Za (w.heap.size ≤ gb533) := ZS hg; have NB532_533 : Za (gb532 ≠ gb533) := ZN hg BK532; have NB533_532 : Za (gb533 ≠ gb532) := ZM hg BK532; replace BK532 := ZW BK532 hb; replace HB := ZT HB hb; clear hb hbox hg; have hnb64 := NB533_532.out; have hnc64 := NB532_533.out; have hcz65 := ZC3 w63 BK533; have hfz65 := ZF3 BK533; have hcz66 := ZC2 w63 BK532; have hfz66 := ZF2 BK532) | (go_at_call 79; (with_reducible refine (impl_Prog_isVar.calls _ _ l0_0 _ _ l0_1 a1_1 false _ (ZQ (Kd.C_below HR0_0.out HB.out)) HC0_0.out (ZQ (Kd.C_below HR0_1.out HB.out)) HC0_1.out A50.out).mono ?_); rintro e w67 ⟨rfl, hb⟩; replace BK532 := ZW BK532 hb; replace BK533 := ZW BK533 hb; replace HB := ZT HB hb; clear hb))
 go_ret
 exact ⟨ZE, ZB⟩))
 ·(
 rw [if_neg c49] at H
 have c49b0 := beq_eq_false_iff_ne.mpr c49
 have c49b1 := bne_iff_ne.mpr c49
 obtain rfl := Option.some.inj H
 go_enter Try.func80, Try.ntmps80
 go_wp2_with (first | ((with_reducible refine gate_dst (N := 2) rfl ?_); refine ZX (N := 2) (cs := #[.slice A0_0 l0_0.length c0_0, .slice A0_1 l0_1.length c0_1]) (t := 26) ?_; intro gb532 hg w68 hbox hb; have BK532 := AM (hbox); have GW532 : Za (w.heap.size ≤ gb532) := ZS hg; replace HB := ZT HB hb; clear hb hbox hg) | ((with_reducible refine gate_dst (N := 3) rfl ?_); refine ZX (N := 3) (cs := #[.int .i64 a1_0, .int .i64 a1_1, .int .i64 a1_2]) (t := 30) ?_; intro gb533 hg w69 hbox hb; have BK533 := AM (hbox); have GW533 : Za (w.heap.size ≤ gb533) := ZS hg; have NB532_533 : Za (gb532 ≠ gb533) := ZN hg BK532; have NB533_532 : Za (gb533 ≠ gb532) := ZM hg BK532; replace BK532 := ZW BK532 hb; replace HB := ZT HB hb; clear hb hbox hg; have hnb70 := NB533_532.out; have hnc70 := NB532_533.out; have hcz71 := ZC3 w69 BK533; have hfz71 := ZF3 BK533))
 go_ret
 exact ⟨ZE, ZB⟩))))

/-! ### impl_isHost: function 81 -/
def impl_isHost.f (a0 : Int) : Option (Bool) := (impl_in.f a0 0 2).bind fun t540 => (some t540)
theorem impl_isHost.calls (a0 : Int) (r : Bool) (w : World) (h : impl_isHost.f a0 = some r) :
  Calls Try.prog 81 #[.int .i64 a0] w fun e w' => e = .returned (.bool r) ∧ Drawn0 w w' := by
 have H := h
 unfold impl_isHost.f at H
 clear h
 obtain ⟨t540, A2, H⟩ := ZOB H; try dsimp only at H
 obtain rfl := Option.some.inj H
 go_enter Try.func81, Try.ntmps81
 go_wp2_with (first | ((with_reducible refine gate_callee (f := 89) rfl ?_); refine ZGL (some 4) Try.func89 #[.int .i64 a0, .int .i64 0, .int .i64 2] ?_; (with_reducible refine (impl_in.calls a0 0 2 t540 _ A2.out).mono ?_); rintro e w' ⟨rfl, ⟨nd, rfl⟩⟩; refine ⟨_, rfl, ?_⟩))
 go_ret
 exact ⟨by first | rfl | (simp; done) | (simp [*]; done), by repeat (first | exact Drawn0.refl _ | apply Drawn0.step)⟩


attribute [local go_sem high] eqA30
/-! ### impl_Prog_stepsOk: function 59 -/
mutual
def impl_Prog_stepsOk.l0 : Nat → Int → List (S32) → Int → Int → List (S39) → List (S32) → Option (Bool)
 | 0, _, _, _, _, _, _ => none
 | k + 1, x2, x10, x11, x12, x542000, x542001 => if x12 < x11 then (if 0 ≤ x12 then (if x12 < (x10.length : Int) then (if x2 < 1 then (impl_Prog_stepsOk.j1 k x2 x10 x11 x12 true x542000 x542001 ((D32 x10 x12).f0) ((D32 x10 x12).f1) ((D32 x10 x12).f2.f0) ((D32 x10 x12).f2.f1) ((D32 x10 x12).f2.f2) ((D32 x10 x12).f3) ((D32 x10 x12).f4) ((D32 x10 x12).f5)) else ((impl_Prog_isVar.f x542000 x542001 ((D32 x10 x12).f1)).bind fun t544 => (if t544 = true then (if ((D32 x10 x12).f0) = 1 then (if ((D32 x10 x12).f0) = 3 then (if ((D32 x10 x12).f0) = 2 then (impl_Prog_stepsOk.j1 k x2 x10 x11 x12 false x542000 x542001 ((D32 x10 x12).f0) ((D32 x10 x12).f1) ((D32 x10 x12).f2.f0) ((D32 x10 x12).f2.f1) ((D32 x10 x12).f2.f2) ((D32 x10 x12).f3) ((D32 x10 x12).f4) ((D32 x10 x12).f5)) else (impl_Prog_stepsOk.j1 k x2 x10 x11 x12 (decide ((wrap64 ((((D32 x10 x12).f4).length : Int) + (((D32 x10 x12).f5).length : Int))) > 0)) x542000 x542001 ((D32 x10 x12).f0) ((D32 x10 x12).f1) ((D32 x10 x12).f2.f0) ((D32 x10 x12).f2.f1) ((D32 x10 x12).f2.f2) ((D32 x10 x12).f3) ((D32 x10 x12).f4) ((D32 x10 x12).f5))) else (if ((D32 x10 x12).f3) = 0 then (if ((D32 x10 x12).f0) = 2 then (impl_Prog_stepsOk.j1 k x2 x10 x11 x12 false x542000 x542001 ((D32 x10 x12).f0) ((D32 x10 x12).f1) ((D32 x10 x12).f2.f0) ((D32 x10 x12).f2.f1) ((D32 x10 x12).f2.f2) ((D32 x10 x12).f3) ((D32 x10 x12).f4) ((D32 x10 x12).f5)) else (impl_Prog_stepsOk.j1 k x2 x10 x11 x12 (decide ((wrap64 ((((D32 x10 x12).f4).length : Int) + (((D32 x10 x12).f5).length : Int))) > 0)) x542000 x542001 ((D32 x10 x12).f0) ((D32 x10 x12).f1) ((D32 x10 x12).f2.f0) ((D32 x10 x12).f2.f1) ((D32 x10 x12).f2.f2) ((D32 x10 x12).f3) ((D32 x10 x12).f4) ((D32 x10 x12).f5))) else (impl_Prog_stepsOk.j1 k x2 x10 x11 x12 true x542000 x542001 ((D32 x10 x12).f0) ((D32 x10 x12).f1) ((D32 x10 x12).f2.f0) ((D32 x10 x12).f2.f1) ((D32 x10 x12).f2.f2) ((D32 x10 x12).f3) ((D32 x10 x12).f4) ((D32 x10 x12).f5)))) else (if (!(((D32 x10 x12).f2.f0) == 0) || (!(((D32 x10 x12).f2.f1) == 0) || (!(((D32 x10 x12).f2.f2) == 0)))) = true then (impl_Prog_stepsOk.j1 k x2 x10 x11 x12 true x542000 x542001 ((D32 x10 x12).f0) ((D32 x10 x12).f1) ((D32 x10 x12).f2.f0) ((D32 x10 x12).f2.f1) ((D32 x10 x12).f2.f2) ((D32 x10 x12).f3) ((D32 x10 x12).f4) ((D32 x10 x12).f5)) else (if ((D32 x10 x12).f0) = 3 then (if ((D32 x10 x12).f0) = 2 then (impl_Prog_stepsOk.j1 k x2 x10 x11 x12 false x542000 x542001 ((D32 x10 x12).f0) ((D32 x10 x12).f1) ((D32 x10 x12).f2.f0) ((D32 x10 x12).f2.f1) ((D32 x10 x12).f2.f2) ((D32 x10 x12).f3) ((D32 x10 x12).f4) ((D32 x10 x12).f5)) else (impl_Prog_stepsOk.j1 k x2 x10 x11 x12 (decide ((wrap64 ((((D32 x10 x12).f4).length : Int) + (((D32 x10 x12).f5).length : Int))) > 0)) x542000 x542001 ((D32 x10 x12).f0) ((D32 x10 x12).f1) ((D32 x10 x12).f2.f0) ((D32 x10 x12).f2.f1) ((D32 x10 x12).f2.f2) ((D32 x10 x12).f3) ((D32 x10 x12).f4) ((D32 x10 x12).f5))) else (if ((D32 x10 x12).f3) = 0 then (if ((D32 x10 x12).f0) = 2 then (impl_Prog_stepsOk.j1 k x2 x10 x11 x12 false x542000 x542001 ((D32 x10 x12).f0) ((D32 x10 x12).f1) ((D32 x10 x12).f2.f0) ((D32 x10 x12).f2.f1) ((D32 x10 x12).f2.f2) ((D32 x10 x12).f3) ((D32 x10 x12).f4) ((D32 x10 x12).f5)) else (impl_Prog_stepsOk.j1 k x2 x10 x11 x12 (decide ((wrap64 ((((D32 x10 x12).f4).length : Int) + (((D32 x10 x12).f5).length : Int))) > 0)) x542000 x542001 ((D32 x10 x12).f0) ((D32 x10 x12).f1) ((D32 x10 x12).f2.f0) ((D32 x10 x12).f2.f1) ((D32 x10 x12).f2.f2) ((D32 x10 x12).f3) ((D32 x10 x12).f4) ((D32 x10 x12).f5))) else (impl_Prog_stepsOk.j1 k x2 x10 x11 x12 true x542000 x542001 ((D32 x10 x12).f0) ((D32 x10 x12).f1) ((D32 x10 x12).f2.f0) ((D32 x10 x12).f2.f1) ((D32 x10 x12).f2.f2) ((D32 x10 x12).f3) ((D32 x10 x12).f4) ((D32 x10 x12).f5)))))) else (impl_Prog_stepsOk.j1 k x2 x10 x11 x12 true x542000 x542001 ((D32 x10 x12).f0) ((D32 x10 x12).f1) ((D32 x10 x12).f2.f0) ((D32 x10 x12).f2.f1) ((D32 x10 x12).f2.f2) ((D32 x10 x12).f3) ((D32 x10 x12).f4) ((D32 x10 x12).f5))))) else (none)) else (none)) else (some true)
def impl_Prog_stepsOk.j1 : Nat → Int → List (S32) → Int → Int → Bool → List (S39) → List (S32) → Int → Int → Int → Int → Int → Int → List (S32) → List (S32) → Option (Bool)
 | 0, _, _, _, _, _, _, _, _, _, _, _, _, _, _, _ => none
 | k + 1, x2, x10, x11, x12, x60, x542000, x542001, x544000, x544001, x544002, x544003, x544004, x544005, x544006, x544007 => if x60 = true then (some false) else (if x544000 = 1 then ((impl_Prog_valOk.f x542000 x542001 x544002 x544003 x544004).bind fun t545 => (if t545 = true then (impl_Prog_stepsOk.l0 k x2 x10 x11 (wrap64 (x12 + 1)) x542000 x542001) else (some false))) else (if x544000 = 2 then ((impl_Prog_stepsOk.f k x542000 x542001 x544006 (wrap64 (x2 - 1))).bind fun t546 => (if t546 = true then ((impl_Prog_stepsOk.f k x542000 x542001 x544007 (wrap64 (x2 - 1))).bind fun t547 => (if t547 = true then (impl_Prog_stepsOk.l0 k x2 x10 x11 (wrap64 (x12 + 1)) x542000 x542001) else (some false))) else (some false))) else (if x544000 = 3 then ((impl_isHost.f x544005).bind fun t548 => (if t548 = true then (impl_Prog_stepsOk.l0 k x2 x10 x11 (wrap64 (x12 + 1)) x542000 x542001) else (some false))) else (some false))))
def impl_Prog_stepsOk.f : Nat → List (S39) → List (S32) → List (S32) → Int → Option (Bool)
 | 0, _, _, _, _ => none
 | k + 1, l0_0, l0_1, l1, a2 => impl_Prog_stepsOk.l0 k a2 l1 (l1.length : Int) 0 l0_0 l0_1
end
theorem impl_Prog_stepsOk.calls (k : Nat) : ∀ (A0_0 : Option Addr) (c0_0 : Nat) (l0_0 : List (S39)) (A0_1 : Option Addr) (c0_1 : Nat) (l0_1 : List (S32)) (A1 : Option Addr) (c1 : Nat) (l1 : List (S32)) (a2 : Int) (r : Bool) (w : World) (hr0_0 : Kd.C k39 w A0_0 l0_0.length l0_0) (hc0_0 : l0_0.length ≤ c0_0) (hr0_1 : Kd.C k32 w A0_1 l0_1.length l0_1) (hc0_1 : l0_1.length ≤ c0_1) (hr1 : Kd.C k32 w A1 l1.length l1) (hc1 : l1.length ≤ c1) (h : impl_Prog_stepsOk.f k l0_0 l0_1 l1 a2 = some r),
  Calls Try.prog 59 #[.agg #[.slice A0_0 l0_0.length c0_0, .slice A0_1 l0_1.length c0_1], .slice A1 l1.length c1, .int .i64 a2] w fun e w' => e = .returned (.bool r) ∧ Below w.heap.size w w' := by
 induction k using Nat.strongRecOn with
 | _ k ih =>
 intro A0_0 c0_0 l0_0 A0_1 c0_1 l0_1 A1 c1 l1 a2 r w hr0_0 hc0_0 hr0_1 hc0_1 hr1 hc1 h
 cases k with
 | zero => exact absurd h (by simp [impl_Prog_stepsOk.f])
 | succ k =>
 simp only [impl_Prog_stepsOk.f] at h
 have hu26 := Try.underlying26
 have hu32 := Try.underlying32
 have hu30 := Try.underlying30
 have HR0_0 := AM hr0_0
 have HC0_0 := AM hc0_0
 clear hr0_0 hc0_0
 have HR0_1 := AM hr0_1
 have HC0_1 := AM hc0_1
 clear hr0_1 hc0_1
 have HR1 := AM hr1
 have HC1 := AM hc1
 clear hr1 hc1
 have HB := AM (Below.refl w.heap.size w)
 have H : (impl_Prog_stepsOk.l0 k a2 l1 (l1.length : Int) 0 l0_0 l0_1) = some r := h
 clear h
 have H' := AM H
 clear H
 go_enter Try.func59, Try.ntmps59
 go_wp2_with (first | ((with_reducible refine gate_dst (N := 3) rfl ?_); refine ZX (N := 3) (cs := #[.slice A0_0 l0_0.length c0_0, .slice A0_1 l0_1.length c0_1]) (t := 26) ?_; intro gb541 hg w4 hbox hb; have BK541 := AM (hbox); have GW541 : Za (w.heap.size ≤ gb541) := ZS hg; replace HB := ZT HB hb; clear hb hbox hg))
 go_loopg [12] k (fun kq v12 w' => ∃ (x12_1 : Int), v12 = .int .i64 x12_1 ∧ Za (impl_Prog_stepsOk.l0 kq a2 l1 (l1.length : Int) x12_1 l0_0 l0_1 = some r) ∧ Za (kq ≤ k) ∧ Za (w'.heap[gb541]? = some (.cells #[(.slice A0_0 l0_0.length c0_0), (.slice A0_1 l0_1.length c0_1)] 26 (0, 0))) ∧ Za (Below w.heap.size w w'))
 case atStart => exact ⟨(0), (by first | rfl | (simp; done) | (simp [*]; done)), H', ⟨Nat.le_refl _⟩, ⟨ZK BK541.out⟩, ⟨ZB⟩⟩
 case round => (
 clear H'
 try clear c1
 try clear p2
 obtain ⟨x12_1, rfl, HA, HK1, BK541, HB⟩ := hrel
 cases gk with
 | zero => exact absurd HA.out (by simp [impl_Prog_stepsOk.l0])
 | succ k1 =>
  have H := HA.out
  clear HA
  simp only [impl_Prog_stepsOk.l0] at H
  by_cases c5 : x12_1 < (l1.length : Int)
  ·(
  rw [if_pos c5] at H
  have c5b0 := decide_eq_true c5
  clear c5
  by_cases c6 : 0 ≤ x12_1
  ·(
  rw [if_pos c6] at H
  have c6b0 := decide_eq_true c6
  clear c6
  by_cases c7 : x12_1 < (l1.length : Int)
  ·(
  rw [if_pos c7] at H
  have c7b0 := decide_eq_true c7
  clear c7
  have HC8 := AM H
  clear H
  have p542 : 0 ≤ (x12_1 : Int) := ZD
  have q542 : x12_1 < (l1.length : Int) := ZD
  obtain ⟨ad542, A542_6, c542_6, A542_7, c542_7, e542, hx542_0, hx542_1, hx542_2, hx542_3, hx542_4, hx542_5, hx542_6, hx542_7, hl542_6, hi542_6, hl542_7, hi542_7⟩ := at_T32 HR1.out x12_1 p542 q542
  cases e542
  replace hx542_0 := ZHX HB hx542_0
  replace hx542_1 := ZHX HB hx542_1
  replace hx542_2 := ZHX HB hx542_2
  replace hx542_3 := ZHX HB hx542_3
  replace hx542_4 := ZHX HB hx542_4
  replace hx542_5 := ZHX HB hx542_5
  replace hx542_6 := ZHX HB hx542_6
  replace hx542_7 := ZHX HB hx542_7
  have HR542_6 := AM hi542_6
  have HC542_6 := AM hl542_6
  clear hi542_6 hl542_6
  have HR542_7 := AM hi542_7
  have HC542_7 := AM hl542_7
  clear hi542_7 hl542_7
  replace p542 := eq_true p542
  replace q542 := eq_true q542
  go_upto_region 4 with (first | ((with_reducible refine gate_dst (N := 8) rfl ?_); refine ZX (N := 8) (cs := #[.int .i64 0, .int .i64 0, .int .i64 0, .int .i64 0, .int .i64 0, .int .i64 0, .slice none 0 0, .slice none 0 0]) (t := 32) ?_; intro gb543 hg w9 hbox hb; have BK543 := AM (hbox); have GW543 : Za (w.heap.size ≤ gb543) := ZS hg; have NB541_543 : Za (gb541 ≠ gb543) := ZN hg BK541; have NB543_541 : Za (gb543 ≠ gb541) := ZM hg BK541; replace BK541 := ZW BK541 hb; replace HB := ZT HB hb; clear hb hbox hg; have hnb10 := NB543_541.out; have hnc10 := NB541_543.out; have hcz11 := ZC8 w9 BK543; have hfz11 := ZF8 BK543))
  (try simp only [Act.put, List.setIfInBounds_toArray, List.set_cons_zero, List.set_cons_succ])
  go_cut [60] (fun v60 wc => ∃ (kq : Nat) (x60_7 : Bool), v60 = .bool x60_7 ∧ Za (impl_Prog_stepsOk.j1 kq a2 l1 (l1.length : Int) x12_1 x60_7 l0_0 l0_1 ((D32 l1 x12_1).f0) ((D32 l1 x12_1).f1) ((D32 l1 x12_1).f2.f0) ((D32 l1 x12_1).f2.f1) ((D32 l1 x12_1).f2.f2) ((D32 l1 x12_1).f3) ((D32 l1 x12_1).f4) ((D32 l1 x12_1).f5) = some r) ∧ Za (kq ≤ k1) ∧ Za (wc.heap[gb541]? = some (.cells #[(.slice A0_0 l0_0.length c0_0), (.slice A0_1 l0_1.length c0_1)] 26 (0, 0))) ∧ Za (wc.heap[gb543]? = some (.cells #[.int .i64 ((D32 l1 x12_1).f0), .int .i64 ((D32 l1 x12_1).f1), .int .i64 ((D32 l1 x12_1).f2.f0), .int .i64 ((D32 l1 x12_1).f2.f1), .int .i64 ((D32 l1 x12_1).f2.f2), .int .i64 ((D32 l1 x12_1).f3), (.slice A542_6 ((D32 l1 x12_1).f4).length c542_6), (.slice A542_7 ((D32 l1 x12_1).f5).length c542_7)] 32 (0, 0))) ∧ Za (Below w.heap.size w wc))
  case first => (
  have H := HC8.out
  clear HC8
  by_cases c12 : a2 < 1
  ·(
  rw [if_pos c12] at H
  have c12b0 := decide_eq_true c12
  clear c12
  (first | rw [c12b0] | (simp only [i64_w, i32_w]; rw [c12b0]) | skip)
  have H' := AM H
  clear H
  go_wp2
  go_meet
  case rel => exact ⟨_, (true), (by first | rfl | (simp; done) | (simp [*]; done)), H', ⟨by have := HK1.out; first | omega | exact Nat.le_refl _⟩, ⟨ZZ BK541.out⟩, ⟨ZZ BK543.out⟩, ⟨ZB⟩⟩)
  ·(
  rw [if_neg c12] at H
  have c12b0 := decide_eq_false c12
  clear c12
  (first | rw [c12b0] | (simp only [i64_w, i32_w]; rw [c12b0]) | skip)
  obtain ⟨t544, A13, H⟩ := ZOB H; try dsimp only at H
  by_cases c14 : t544 = true
  ·(
  subst c14
  have H1 := H; rw [if_pos rfl] at H1
  clear H
  have H := H1
  clear H1
  by_cases c15 : ((D32 l1 x12_1).f0) = 1
  ·(
  rw [if_pos c15] at H
  have c15b0 := beq_iff_eq.mpr c15
  have c15b1 := bne_eq_false_iff_eq.mpr c15
  clear c15
  by_cases c16 : ((D32 l1 x12_1).f0) = 3
  ·(
  rw [if_pos c16] at H
  have c16b0 := beq_iff_eq.mpr c16
  have c16b1 := bne_eq_false_iff_eq.mpr c16
  clear c16
  by_cases c17 : ((D32 l1 x12_1).f0) = 2
  ·(
  rw [if_pos c17] at H
  have c17b0 := beq_iff_eq.mpr c17
  have c17b1 := bne_eq_false_iff_eq.mpr c17
  clear c17
  have H' := AM H
  clear H
  have hnb18 := NB541_543.out
  have hnc18 := NB543_541.out
  have hcz19 := ZC2 w9 BK541
  have hfz19 := ZF2 BK541
  have hcz20 := ZC8 w9 BK543
  have hfz20 := ZF8 BK543
  go_wp2_with (first | (go_at_call 79; (with_reducible refine (impl_Prog_isVar.calls _ _ l0_0 _ _ l0_1 ((D32 l1 x12_1).f1) true _ ?side1 HC0_0.out ?side3 HC0_1.out A13.out).mono ?_); (case side1 => exact Kd.C_below HR0_0.out (ZB)); (case side3 => exact Kd.C_below HR0_1.out (ZB)); rintro e w21 ⟨rfl, hb⟩; replace BK541 := ZV #[.slice A0_0 l0_0.length c0_0, .slice A0_1 l0_1.length c0_1] BK541 hb; replace BK543 := ZV #[.int .i64 ((D32 l1 x12_1).f0), .int .i64 ((D32 l1 x12_1).f1), .int .i64 ((D32 l1 x12_1).f2.f0), .int .i64 ((D32 l1 x12_1).f2.f1), .int .i64 ((D32 l1 x12_1).f2.f2), .int .i64 ((D32 l1 x12_1).f3), .slice A542_6 ((D32 l1 x12_1).f4).length c542_6, .slice A542_7 ((D32 l1 x12_1).f5).length c542_7] BK543 hb; replace HB := ZT HB hb; clear hb; have hcz22 := ZC8 w21 BK543; have hfz22 := ZF8 BK543))
  go_meet
  case rel => exact ⟨_, (false), (by first | rfl | (simp; done) | (simp [*]; done)), H', ⟨by have := HK1.out; first | omega | exact Nat.le_refl _⟩, ⟨ZK BK541.out⟩, ⟨ZK BK543.out⟩, ⟨ZB⟩⟩)
  ·(
  rw [if_neg c17] at H
  have c17b0 := beq_eq_false_iff_ne.mpr c17
  have c17b1 := bne_iff_ne.mpr c17
  have H' := AM H
  clear H
  have hnb23 := NB541_543.out
  have hnc23 := NB543_541.out
  have hcz24 := ZC2 w9 BK541
  have hfz24 := ZF2 BK541
  have hcz25 := ZC8 w9 BK543
  have hfz25 := ZF8 BK543
  go_wp2_with (first | (go_at_call 79; (with_reducible refine (impl_Prog_isVar.calls _ _ l0_0 _ _ l0_1 ((D32 l1 x12_1).f1) true _ ?side1 HC0_0.out ?side3 HC0_1.out A13.out).mono ?_); (case side1 => exact Kd.C_below HR0_0.out (ZB)); (case side3 => exact Kd.C_below HR0_1.out (ZB)); rintro e w26 ⟨rfl, hb⟩; replace BK541 := ZV #[.slice A0_0 l0_0.length c0_0, .slice A0_1 l0_1.length c0_1] BK541 hb; replace BK543 := ZV #[.int .i64 ((D32 l1 x12_1).f0), .int .i64 ((D32 l1 x12_1).f1), .int .i64 ((D32 l1 x12_1).f2.f0), .int .i64 ((D32 l1 x12_1).f2.f1), .int .i64 ((D32 l1 x12_1).f2.f2), .int .i64 ((D32 l1 x12_1).f3), .slice A542_6 ((D32 l1 x12_1).f4).length c542_6, .slice A542_7 ((D32 l1 x12_1).f5).length c542_7] BK543 hb; replace HB := ZT HB hb; clear hb; have hcz27 := ZC8 w26 BK543; have hfz27 := ZF8 BK543))
  go_meet
  case rel => exact ⟨_, (decide ((wrap64 ((((D32 l1 x12_1).f4).length : Int) + (((D32 l1 x12_1).f5).length : Int))) > 0)), (by first | rfl | (simp; done) | (simp [*]; done)), H', ⟨by have := HK1.out; first | omega | exact Nat.le_refl _⟩, ⟨ZK BK541.out⟩, ⟨ZK BK543.out⟩, ⟨ZB⟩⟩))
  ·(
  rw [if_neg c16] at H
  have c16b0 := beq_eq_false_iff_ne.mpr c16
  have c16b1 := bne_iff_ne.mpr c16
  by_cases c28 : ((D32 l1 x12_1).f3) = 0
  ·(
  rw [if_pos c28] at H
  have c28b0 := beq_iff_eq.mpr c28
  have c28b1 := bne_eq_false_iff_eq.mpr c28
  clear c28
  by_cases c29 : ((D32 l1 x12_1).f0) = 2
  ·(
  rw [if_pos c29] at H
  have c29b0 := beq_iff_eq.mpr c29
  have c29b1 := bne_eq_false_iff_eq.mpr c29
  clear c29
  have H' := AM H
  clear H
  have hnb30 := NB541_543.out
  have hnc30 := NB543_541.out
  have hcz31 := ZC2 w9 BK541
  have hfz31 := ZF2 BK541
  have hcz32 := ZC8 w9 BK543
  have hfz32 := ZF8 BK543
  go_wp2_with (first | (go_at_call 79; (with_reducible refine (impl_Prog_isVar.calls _ _ l0_0 _ _ l0_1 ((D32 l1 x12_1).f1) true _ ?side1 HC0_0.out ?side3 HC0_1.out A13.out).mono ?_); (case side1 => exact Kd.C_below HR0_0.out (ZB)); (case side3 => exact Kd.C_below HR0_1.out (ZB)); rintro e w33 ⟨rfl, hb⟩; replace BK541 := ZV #[.slice A0_0 l0_0.length c0_0, .slice A0_1 l0_1.length c0_1] BK541 hb; replace BK543 := ZV #[.int .i64 ((D32 l1 x12_1).f0), .int .i64 ((D32 l1 x12_1).f1), .int .i64 ((D32 l1 x12_1).f2.f0), .int .i64 ((D32 l1 x12_1).f2.f1), .int .i64 ((D32 l1 x12_1).f2.f2), .int .i64 ((D32 l1 x12_1).f3), .slice A542_6 ((D32 l1 x12_1).f4).length c542_6, .slice A542_7 ((D32 l1 x12_1).f5).length c542_7] BK543 hb; replace HB := ZT HB hb; clear hb; have hcz34 := ZC8 w33 BK543; have hfz34 := ZF8 BK543))
  go_meet
  case rel => exact ⟨_, (false), (by first | rfl | (simp; done) | (simp [*]; done)), H', ⟨by have := HK1.out; first | omega | exact Nat.le_refl _⟩, ⟨ZK BK541.out⟩, ⟨ZK BK543.out⟩, ⟨ZB⟩⟩)
  ·(
  rw [if_neg c29] at H
  have c29b0 := beq_eq_false_iff_ne.mpr c29
  have c29b1 := bne_iff_ne.mpr c29
  have H' := AM H
  clear H
  have hnb35 := NB541_543.out
  have hnc35 := NB543_541.out
  have hcz36 := ZC2 w9 BK541
  have hfz36 := ZF2 BK541
  have hcz37 := ZC8 w9 BK543
  have hfz37 := ZF8 BK543
  go_wp2_with (first | (go_at_call 79; (with_reducible refine (impl_Prog_isVar.calls _ _ l0_0 _ _ l0_1 ((D32 l1 x12_1).f1) true _ ?side1 HC0_0.out ?side3 HC0_1.out A13.out).mono ?_); (case side1 => exact Kd.C_below HR0_0.out (ZB)); (case side3 => exact Kd.C_below HR0_1.out (ZB)); rintro e w38 ⟨rfl, hb⟩; replace BK541 := ZV #[.slice A0_0 l0_0.length c0_0, .slice A0_1 l0_1.length c0_1] BK541 hb; replace BK543 := ZV #[.int .i64 ((D32 l1 x12_1).f0), .int .i64 ((D32 l1 x12_1).f1), .int .i64 ((D32 l1 x12_1).f2.f0), .int .i64 ((D32 l1 x12_1).f2.f1), .int .i64 ((D32 l1 x12_1).f2.f2), .int .i64 ((D32 l1 x12_1).f3), .slice A542_6 ((D32 l1 x12_1).f4).length c542_6, .slice A542_7 ((D32 l1 x12_1).f5).length c542_7] BK543 hb; replace HB := ZT HB hb; clear hb; have hcz39 := ZC8 w38 BK543; have hfz39 := ZF8 BK543))
  go_meet
  case rel => exact ⟨_, (decide ((wrap64 ((((D32 l1 x12_1).f4).length : Int) + (((D32 l1 x12_1).f5).length : Int))) > 0)), (by first | rfl | (simp; done) | (simp [*]; done)), H', ⟨by have := HK1.out; first | omega | exact Nat.le_refl _⟩, ⟨ZK BK541.out⟩, ⟨ZK BK543.out⟩, ⟨ZB⟩⟩))
  ·(
  rw [if_neg c28] at H
  have c28b0 := beq_eq_false_iff_ne.mpr c28
  have c28b1 := bne_iff_ne.mpr c28
  have H' := AM H
  clear H
  have hnb40 := NB541_543.out
  have hnc40 := NB543_541.out
  have hcz41 := ZC2 w9 BK541
  have hfz41 := ZF2 BK541
  have hcz42 := ZC8 w9 BK543
  have hfz42 := ZF8 BK543
  go_wp2_with (first | (go_at_call 79; (with_reducible refine (impl_Prog_isVar.calls _ _ l0_0 _ _ l0_1 ((D32 l1 x12_1).f1) true _ ?side1 HC0_0.out ?side3 HC0_1.out A13.out).mono ?_); (case side1 => exact Kd.C_below HR0_0.out (ZB)); (case side3 => exact Kd.C_below HR0_1.out (ZB)); rintro e w43 ⟨rfl, hb⟩; replace BK541 := ZV #[.slice A0_0 l0_0.length c0_0, .slice A0_1 l0_1.length c0_1] BK541 hb; replace BK543 := ZV #[.int .i64 ((D32 l1 x12_1).f0), .int .i64 ((D32 l1 x12_1).f1), .int .i64 ((D32 l1 x12_1).f2.f0), .int .i64 ((D32 l1 x12_1).f2.f1), .int .i64 ((D32 l1 x12_1).f2.f2), .int .i64 ((D32 l1 x12_1).f3), .slice A542_6 ((D32 l1 x12_1).f4).length c542_6, .slice A542_7 ((D32 l1 x12_1).f5).length c542_7] BK543 hb; replace HB := ZT HB hb; clear hb; have hcz44 := ZC8 w43 BK543; have hfz44 := ZF8 BK543))
  go_meet
  case rel => exact ⟨_, (true), (by first | rfl | (simp; done) | (simp [*]; done)), H', ⟨by have := HK1.out; first | omega | exact Nat.le_refl _⟩, ⟨ZK BK541.out⟩, ⟨ZK BK543.out⟩, ⟨ZB⟩⟩)))
  ·(
  rw [if_neg c15] at H
  have c15b0 := beq_eq_false_iff_ne.mpr c15
  have c15b1 := bne_iff_ne.mpr c15
  by_cases c45 : (!(((D32 l1 x12_1).f2.f0) == 0) || (!(((D32 l1 x12_1).f2.f1) == 0) || (!(((D32 l1 x12_1).f2.f2) == 0)))) = true
  ·(
  rw [if_pos c45] at H
  have c45b0 : (!(((D32 l1 x12_1).f2.f0) == 0) || (!(((D32 l1 x12_1).f2.f1) == 0) || (!(((D32 l1 x12_1).f2.f2) == 0)))) = true := c45
  clear c45
  have H' := AM H
  clear H
  have hnb46 := NB541_543.out
  have hnc46 := NB543_541.out
  have hcz47 := ZC2 w9 BK541
  have hfz47 := ZF2 BK541
  have hcz48 := ZC8 w9 BK543
  have hfz48 := ZF8 BK543
  go_wp2_with (first | (go_at_call 79; (with_reducible refine (impl_Prog_isVar.calls _ _ l0_0 _ _ l0_1 ((D32 l1 x12_1).f1) true _ ?side1 HC0_0.out ?side3 HC0_1.out A13.out).mono ?_); (case side1 => exact Kd.C_below HR0_0.out (ZB)); (case side3 => exact Kd.C_below HR0_1.out (ZB)); rintro e w49 ⟨rfl, hb⟩; replace BK541 := ZV #[.slice A0_0 l0_0.length c0_0, .slice A0_1 l0_1.length c0_1] BK541 hb; replace BK543 := ZV #[.int .i64 ((D32 l1 x12_1).f0), .int .i64 ((D32 l1 x12_1).f1), .int .i64 ((D32 l1 x12_1).f2.f0), .int .i64 ((D32 l1 x12_1).f2.f1), .int .i64 ((D32 l1 x12_1).f2.f2), .int .i64 ((D32 l1 x12_1).f3), .slice A542_6 ((D32 l1 x12_1).f4).length c542_6, .slice A542_7 ((D32 l1 x12_1).f5).length c542_7] BK543 hb; replace HB := ZT HB hb; clear hb; have hcz50 := ZC8 w49 BK543; have hfz50 := ZF8 BK543))
  go_meet
  case rel => exact ⟨_, (true), (by first | rfl | (simp; done) | (simp [*]; done)), H', ⟨by have := HK1.out; first | omega | exact Nat.le_refl _⟩, ⟨ZK BK541.out⟩, ⟨ZK BK543.out⟩, ⟨ZB⟩⟩)
  ·(
  rw [if_neg c45] at H
  have c45b0 : (!(((D32 l1 x12_1).f2.f0) == 0) || (!(((D32 l1 x12_1).f2.f1) == 0) || (!(((D32 l1 x12_1).f2.f2) == 0)))) = false := by simpa using c45
  clear c45
  by_cases c51 : ((D32 l1 x12_1).f0) = 3
  ·(
  rw [if_pos c51] at H
  have c51b0 := beq_iff_eq.mpr c51
  have c51b1 := bne_eq_false_iff_eq.mpr c51
  clear c51
  by_cases c52 : ((D32 l1 x12_1).f0) = 2
  ·(
  rw [if_pos c52] at H
  have c52b0 := beq_iff_eq.mpr c52
  have c52b1 := bne_eq_false_iff_eq.mpr c52
  clear c52
  have H' := AM H
  clear H
  have hnb53 := NB541_543.out
  have hnc53 := NB543_541.out
  have hcz54 := ZC2 w9 BK541
  have hfz54 := ZF2 BK541
  have hcz55 := ZC8 w9 BK543
  have hfz55 := ZF8 BK543
  go_wp2_with (first | (go_at_call 79; (with_reducible refine (impl_Prog_isVar.calls _ _ l0_0 _ _ l0_1 ((D32 l1 x12_1).f1) true _ ?side1 HC0_0.out ?side3 HC0_1.out A13.out).mono ?_); (case side1 => exact Kd.C_below HR0_0.out (ZB)); (case side3 => exact Kd.C_below HR0_1.out (ZB)); rintro e w56 ⟨rfl, hb⟩; replace BK541 := ZV #[.slice A0_0 l0_0.length c0_0, .slice A0_1 l0_1.length c0_1] BK541 hb; replace BK543 := ZV #[.int .i64 ((D32 l1 x12_1).f0), .int .i64 ((D32 l1 x12_1).f1), .int .i64 ((D32 l1 x12_1).f2.f0), .int .i64 ((D32 l1 x12_1).f2.f1), .int .i64 ((D32 l1 x12_1).f2.f2), .int .i64 ((D32 l1 x12_1).f3), .slice A542_6 ((D32 l1 x12_1).f4).length c542_6, .slice A542_7 ((D32 l1 x12_1).f5).length c542_7] BK543 hb; replace HB := ZT HB hb; clear hb; have hcz57 := ZC8 w56 BK543; have hfz57 := ZF8 BK543))
  go_meet
  case rel => exact ⟨_, (false), (by first | rfl | (simp; done) | (simp [*]; done)), H', ⟨by have := HK1.out; first | omega | exact Nat.le_refl _⟩, ⟨ZK BK541.out⟩, ⟨ZK BK543.out⟩, ⟨ZB⟩⟩)
  ·(
  rw [if_neg c52] at H
  have c52b0 := beq_eq_false_iff_ne.mpr c52
  have c52b1 := bne_iff_ne.mpr c52
  have H' := AM H
  clear H
  have hnb58 := NB541_543.out
  have hnc58 := NB543_541.out
  have hcz59 := ZC2 w9 BK541
  have hfz59 := ZF2 BK541
  have hcz60 := ZC8 w9 BK543
  have hfz60 := ZF8 BK543
  go_wp2_with (first | (go_at_call 79; (with_reducible refine (impl_Prog_isVar.calls _ _ l0_0 _ _ l0_1 ((D32 l1 x12_1).f1) true _ ?side1 HC0_0.out ?side3 HC0_1.out A13.out).mono ?_); (case side1 => exact Kd.C_below HR0_0.out (ZB)); (case side3 => exact Kd.C_below HR0_1.out (ZB)); rintro e w61 ⟨rfl, hb⟩; replace BK541 := ZV #[.slice A0_0 l0_0.length c0_0, .slice A0_1 l0_1.length c0_1] BK541 hb; replace BK543 := ZV #[.int .i64 ((D32 l1 x12_1).f0), .int .i64 ((D32 l1 x12_1).f1), .int .i64 ((D32 l1 x12_1).f2.f0), .int .i64 ((D32 l1 x12_1).f2.f1), .int .i64 ((D32 l1 x12_1).f2.f2), .int .i64 ((D32 l1 x12_1).f3), .slice A542_6 ((D32 l1 x12_1).f4).length c542_6, .slice A542_7 ((D32 l1 x12_1).f5).length c542_7] BK543 hb; replace HB := ZT HB hb; clear hb; have hcz62 := ZC8 w61 BK543; have hfz62 := ZF8 BK543))
  go_meet
  case rel => exact ⟨_, (decide ((wrap64 ((((D32 l1 x12_1).f4).length : Int) + (((D32 l1 x12_1).f5).length : Int))) > 0)), (by first | rfl | (simp; done) | (simp [*]; done)), H', ⟨by have := HK1.out; first | omega | exact Nat.le_refl _⟩, ⟨ZK BK541.out⟩, ⟨ZK BK543.out⟩, ⟨ZB⟩⟩))
  ·(
  rw [if_neg c51] at H
  have c51b0 := beq_eq_false_iff_ne.mpr c51
  have c51b1 := bne_iff_ne.mpr c51
  by_cases c63 : ((D32 l1 x12_1).f3) = 0
  ·(
  rw [if_pos c63] at H
  have c63b0 := beq_iff_eq.mpr c63
  have c63b1 := bne_eq_false_iff_eq.mpr c63
  clear c63
  by_cases c64 : ((D32 l1 x12_1).f0) = 2
  ·(
  rw [if_pos c64] at H
  have c64b0 := beq_iff_eq.mpr c64
  have c64b1 := bne_eq_false_iff_eq.mpr c64
  clear c64
  have H' := AM H
  clear H
  have hnb65 := NB541_543.out
  have hnc65 := NB543_541.out
  have hcz66 := ZC2 w9 BK541
  have hfz66 := ZF2 BK541
  have hcz67 := ZC8 w9 BK543
  have hfz67 := ZF8 BK543
  go_wp2_with (first | (go_at_call 79; (with_reducible refine (impl_Prog_isVar.calls _ _ l0_0 _ _ l0_1 ((D32 l1 x12_1).f1) true _ ?side1 HC0_0.out ?side3 HC0_1.out A13.out).mono ?_); (case side1 => exact Kd.C_below HR0_0.out (ZB)); (case side3 => exact Kd.C_below HR0_1.out (ZB)); rintro e w68 ⟨rfl, hb⟩; replace BK541 := ZV #[.slice A0_0 l0_0.length c0_0, .slice A0_1 l0_1.length c0_1] BK541 hb; replace BK543 := ZV #[.int .i64 ((D32 l1 x12_1).f0), .int .i64 ((D32 l1 x12_1).f1), .int .i64 ((D32 l1 x12_1).f2.f0), .int .i64 ((D32 l1 x12_1).f2.f1), .int .i64 ((D32 l1 x12_1).f2.f2), .int .i64 ((D32 l1 x12_1).f3), .slice A542_6 ((D32 l1 x12_1).f4).length c542_6, .slice A542_7 ((D32 l1 x12_1).f5).length c542_7] BK543 hb; replace HB := ZT HB hb; clear hb; have hcz69 := ZC8 w68 BK543; have hfz69 := ZF8 BK543))
  go_meet
  case rel => exact ⟨_, (false), (by first | rfl | (simp; done) | (simp [*]; done)), H', ⟨by have := HK1.out; first | omega | exact Nat.le_refl _⟩, ⟨ZK BK541.out⟩, ⟨ZK BK543.out⟩, ⟨ZB⟩⟩)
  ·(
  rw [if_neg c64] at H
  have c64b0 := beq_eq_false_iff_ne.mpr c64
  have c64b1 := bne_iff_ne.mpr c64
  have H' := AM H
  clear H
  have hnb70 := NB541_543.out
  have hnc70 := NB543_541.out
  have hcz71 := ZC2 w9 BK541
  have hfz71 := ZF2 BK541
  have hcz72 := ZC8 w9 BK543
  have hfz72 := ZF8 BK543
  go_wp2_with (first | (go_at_call 79; (with_reducible refine (impl_Prog_isVar.calls _ _ l0_0 _ _ l0_1 ((D32 l1 x12_1).f1) true _ ?side1 HC0_0.out ?side3 HC0_1.out A13.out).mono ?_); (case side1 => exact Kd.C_below HR0_0.out (ZB)); (case side3 => exact Kd.C_below HR0_1.out (ZB)); rintro e w73 ⟨rfl, hb⟩; replace BK541 := ZV #[.slice A0_0 l0_0.length c0_0, .slice A0_1 l0_1.length c0_1] BK541 hb; replace BK543 := ZV #[.int .i64 ((D32 l1 x12_1).f0), .int .i64 ((D32 l1 x12_1).f1), .int .i64 ((D32 l1 x12_1).f2.f0), .int .i64 ((D32 l1 x12_1).f2.f1), .int .i64 ((D32 l1 x12_1).f2.f2), .int .i64 ((D32 l1 x12_1).f3), .slice A542_6 ((D32 l1 x12_1).f4).length c542_6, .slice A542_7 ((D32 l1 x12_1).f5).length c542_7] BK543 hb; replace HB := ZT HB hb; clear hb; have hcz74 := ZC8 w73 BK543; have hfz74 := ZF8 BK543))
  go_meet
  case rel => exact ⟨_, (decide ((wrap64 ((((D32 l1 x12_1).f4).length : Int) + (((D32 l1 x12_1).f5).length : Int))) > 0)), (by first | rfl | (simp; done) | (simp [*]; done)), H', ⟨by have := HK1.out; first | omega | exact Nat.le_refl _⟩, ⟨ZK BK541.out⟩, ⟨ZK BK543.out⟩, ⟨ZB⟩⟩))
  ·(
  rw [if_neg c63] at H
  have c63b0 := beq_eq_false_iff_ne.mpr c63
  have c63b1 := bne_iff_ne.mpr c63
  have H' := AM H
  clear H
  have hnb75 := NB541_543.out
  have hnc75 := NB543_541.out
  have hcz76 := ZC2 w9 BK541
  have hfz76 := ZF2 BK541
  have hcz77 := ZC8 w9 BK543
  have hfz77 := ZF8 BK543
  go_wp2_with (first | (go_at_call 79; (with_reducible refine (impl_Prog_isVar.calls _ _ l0_0 _ _ l0_1 ((D32 l1 x12_1).f1) true _ ?side1 HC0_0.out ?side3 HC0_1.out A13.out).mono ?_); (case side1 => exact Kd.C_below HR0_0.out (ZB)); (case side3 => exact Kd.C_below HR0_1.out (ZB)); rintro e w78 ⟨rfl, hb⟩; replace BK541 := ZV #[.slice A0_0 l0_0.length c0_0, .slice A0_1 l0_1.length c0_1] BK541 hb; replace BK543 := ZV #[.int .i64 ((D32 l1 x12_1).f0), .int .i64 ((D32 l1 x12_1).f1), .int .i64 ((D32 l1 x12_1).f2.f0), .int .i64 ((D32 l1 x12_1).f2.f1), .int .i64 ((D32 l1 x12_1).f2.f2), .int .i64 ((D32 l1 x12_1).f3), .slice A542_6 ((D32 l1 x12_1).f4).length c542_6, .slice A542_7 ((D32 l1 x12_1).f5).length c542_7] BK543 hb; replace HB := ZT HB hb; clear hb; have hcz79 := ZC8 w78 BK543; have hfz79 := ZF8 BK543))
  go_meet
  case rel => exact ⟨_, (true), (by first | rfl | (simp; done) | (simp [*]; done)), H', ⟨by have := HK1.out; first | omega | exact Nat.le_refl _⟩, ⟨ZK BK541.out⟩, ⟨ZK BK543.out⟩, ⟨ZB⟩⟩)))))
  ·(
  replace c14 := Bool.eq_false_iff.mpr c14
  subst c14
  have H1 := H; rw [if_neg ZFT] at H1
  clear H
  have H := H1
  clear H1
  have H' := AM H
  clear H
  have hnb80 := NB541_543.out
  have hnc80 := NB543_541.out
  have hcz81 := ZC2 w9 BK541
  have hfz81 := ZF2 BK541
  have hcz82 := ZC8 w9 BK543
  have hfz82 := ZF8 BK543
  go_wp2_with (first | (go_at_call 79; (with_reducible refine (impl_Prog_isVar.calls _ _ l0_0 _ _ l0_1 ((D32 l1 x12_1).f1) false _ ?side1 HC0_0.out ?side3 HC0_1.out A13.out).mono ?_); (case side1 => exact Kd.C_below HR0_0.out (ZB)); (case side3 => exact Kd.C_below HR0_1.out (ZB)); rintro e w83 ⟨rfl, hb⟩; replace BK541 := ZV #[.slice A0_0 l0_0.length c0_0, .slice A0_1 l0_1.length c0_1] BK541 hb; replace BK543 := ZV #[.int .i64 ((D32 l1 x12_1).f0), .int .i64 ((D32 l1 x12_1).f1), .int .i64 ((D32 l1 x12_1).f2.f0), .int .i64 ((D32 l1 x12_1).f2.f1), .int .i64 ((D32 l1 x12_1).f2.f2), .int .i64 ((D32 l1 x12_1).f3), .slice A542_6 ((D32 l1 x12_1).f4).length c542_6, .slice A542_7 ((D32 l1 x12_1).f5).length c542_7] BK543 hb; replace HB := ZT HB hb; clear hb))
  go_meet
  case rel => exact ⟨_, (true), (by first | rfl | (simp; done) | (simp [*]; done)), H', ⟨by have := HK1.out; first | omega | exact Nat.le_refl _⟩, ⟨ZK BK541.out⟩, ⟨ZK BK543.out⟩, ⟨ZB⟩⟩)))
  case rest => (
  clear HC8
  try clear c1
  try clear c2
  try clear p2
  try clear c3
  try clear c4
  try clear c5
  try clear c5b0
  try clear p5
  try clear q5
  try clear hx5
  try clear c6
  try clear c6b0
  try clear p6
  try clear c7
  try clear c7b0
  try clear c8
  try clear c10
  try clear c12
  try clear c12b0
  try clear c14
  try clear c15
  try clear c15b0
  try clear c15b1
  try clear c16
  try clear c16b0
  try clear c16b1
  try clear c17
  try clear c17b0
  try clear c17b1
  try clear c18
  try clear c23
  try clear c28
  try clear c28b0
  try clear c28b1
  try clear c29
  try clear c29b0
  try clear c29b1
  try clear c30
  try clear c35
  try clear c40
  try clear c45
  try clear c45b0
  try clear c46
  try clear c51
  try clear c51b0
  try clear c51b1
  try clear c52
  try clear c52b0
  try clear c52b1
  try clear c53
  try clear c54
  try clear p54
  try clear q54
  try clear hx54
  try clear c58
  try clear c59
  try clear c63
  try clear c63b0
  try clear c63b1
  try clear c64
  try clear c64b0
  try clear c64b1
  try clear p64
  try clear c65
  try clear c70
  try clear c75
  try clear c80
  try clear hcz11
  try clear hcz19
  try clear hcz20
  try clear hcz22
  try clear hcz24
  try clear hcz25
  try clear hcz27
  try clear hcz31
  try clear hcz32
  try clear hcz34
  try clear hcz36
  try clear hcz37
  try clear hcz39
  try clear hcz41
  try clear hcz42
  try clear hcz44
  try clear hcz47
  try clear hcz48
  try clear hcz50
  try clear hcz54
  try clear hcz55
  try clear hcz57
  try clear hcz59
  try clear hcz60
  try clear hcz62
  try clear hcz66
  try clear hcz67
  try clear hcz69
  try clear hcz71
  try clear hcz72
  try clear hcz74
  try clear hcz76
  try clear hcz77
  try clear hcz79
  try clear hcz81
  try clear hcz82
  try clear hfz11
  try clear hfz19
  try clear hfz20
  try clear hfz22
  try clear hfz24
  try clear hfz25
  try clear hfz27
  try clear hfz31
  try clear hfz32
  try clear hfz34
  try clear hfz36
  try clear hfz37
  try clear hfz39
  try clear hfz41
  try clear hfz42
  try clear hfz44
  try clear hfz47
  try clear hfz48
  try clear hfz50
  try clear hfz54
  try clear hfz55
  try clear hfz57
  try clear hfz59
  try clear hfz60
  try clear hfz62
  try clear hfz66
  try clear hfz67
  try clear hfz69
  try clear hfz71
  try clear hfz72
  try clear hfz74
  try clear hfz76
  try clear hfz77
  try clear hfz79
  try clear hfz81
  try clear hfz82
  try clear hx542_0
  try clear hx542_1
  try clear hx542_2
  try clear hx542_3
  try clear hx542_4
  try clear hx542_5
  try clear hx542_6
  try clear hx542_7
  try clear p2
  try clear p542
  try clear q542
  obtain ⟨kq, x60_7, rfl, HA, HJ7, BK541, BK543, HB⟩ := hcut
  cases kq with
  | zero => exact absurd HA.out (by simp [impl_Prog_stepsOk.j1])
  | succ kj7 =>
   have H := HA.out
   clear HA
   simp only [impl_Prog_stepsOk.j1] at H
   by_cases c84 : x60_7 = true
   ·(
   subst c84
   have H1 := H; rw [if_pos rfl] at H1
   clear H
   have H := H1
   clear H1
   obtain rfl := Option.some.inj H
   go_wp2
   go_ret
   exact ⟨ZE, ZB⟩)
   ·(
   replace c84 := Bool.eq_false_iff.mpr c84
   subst c84
   have H1 := H; rw [if_neg ZFT] at H1
   clear H
   have H := H1
   clear H1
   by_cases c85 : ((D32 l1 x12_1).f0) = 1
   ·(
   rw [if_pos c85] at H
   have c85b0 := beq_iff_eq.mpr c85
   have c85b1 := bne_eq_false_iff_eq.mpr c85
   clear c85
   obtain ⟨t545, A86, H⟩ := ZOB H; try dsimp only at H
   by_cases c87 : t545 = true
   ·(
   subst c87
   have H1 := H; rw [if_pos rfl] at H1
   clear H
   have H := H1
   clear H1
   have H' := AM H
   clear H
   have hnb88 := NB543_541.out
   have hnc88 := NB541_543.out
   have hcz89 := ZC8 wc BK543
   have hfz89 := ZF8 BK543
   have hcz90 := ZC2 wc BK541
   have hfz90 := ZF2 BK541
   go_wp2_with (first | ((with_reducible refine gate_callee (f := 80) rfl ?_); refine ZGL (some 68) Try.func80 #[.agg #[.slice A0_0 l0_0.length c0_0, .slice A0_1 l0_1.length c0_1], .agg #[.int .i64 ((D32 l1 x12_1).f2.f0), .int .i64 ((D32 l1 x12_1).f2.f1), .int .i64 ((D32 l1 x12_1).f2.f2)]] ?_; (with_reducible refine (impl_Prog_valOk.calls _ _ l0_0 _ _ l0_1 ((D32 l1 x12_1).f2.f0) ((D32 l1 x12_1).f2.f1) ((D32 l1 x12_1).f2.f2) true _ (ZQ (Kd.C_below HR0_0.out HB.out)) HC0_0.out (ZQ (Kd.C_below HR0_1.out HB.out)) HC0_1.out A86.out).mono ?_); rintro e w91 ⟨rfl, hb⟩; refine ⟨_, rfl, ?_⟩; replace BK541 := ZW BK541 hb; replace BK543 := ZW BK543 hb; replace HB := ZT HB hb; clear hb))
   go_roundg kj7
   case measure => have := HK1.out; have := HJ7.out; omega
   case rel => exact ⟨(wrap64 (x12_1 + 1)), (by first | rfl | (simp; done) | (simp [*]; done)), H', ⟨by have := HK1.out; have := HJ7.out; omega⟩, ⟨ZK BK541.out⟩, ⟨ZB⟩⟩)
   ·(
   replace c87 := Bool.eq_false_iff.mpr c87
   subst c87
   have H1 := H; rw [if_neg ZFT] at H1
   clear H
   have H := H1
   clear H1
   obtain rfl := Option.some.inj H
   have hnb92 := NB543_541.out
   have hnc92 := NB541_543.out
   have hcz93 := ZC8 wc BK543
   have hfz93 := ZF8 BK543
   have hcz94 := ZC2 wc BK541
   have hfz94 := ZF2 BK541
   go_wp2_with (first | ((with_reducible refine gate_callee (f := 80) rfl ?_); refine ZGL (some 68) Try.func80 #[.agg #[.slice A0_0 l0_0.length c0_0, .slice A0_1 l0_1.length c0_1], .agg #[.int .i64 ((D32 l1 x12_1).f2.f0), .int .i64 ((D32 l1 x12_1).f2.f1), .int .i64 ((D32 l1 x12_1).f2.f2)]] ?_; (with_reducible refine (impl_Prog_valOk.calls _ _ l0_0 _ _ l0_1 ((D32 l1 x12_1).f2.f0) ((D32 l1 x12_1).f2.f1) ((D32 l1 x12_1).f2.f2) false _ (ZQ (Kd.C_below HR0_0.out HB.out)) HC0_0.out (ZQ (Kd.C_below HR0_1.out HB.out)) HC0_1.out A86.out).mono ?_); rintro e w95 ⟨rfl, hb⟩; refine ⟨_, rfl, ?_⟩; replace BK541 := ZW BK541 hb; replace BK543 := ZW BK543 hb; replace HB := ZT HB hb; clear hb))
   go_ret
   exact ⟨ZE, ZB⟩))
   ·(
   rw [if_neg c85] at H
   have c85b0 := beq_eq_false_iff_ne.mpr c85
   have c85b1 := bne_iff_ne.mpr c85
   by_cases c96 : ((D32 l1 x12_1).f0) = 2
   ·(
   rw [if_pos c96] at H
   have c96b0 := beq_iff_eq.mpr c96
   have c96b1 := bne_eq_false_iff_eq.mpr c96
   clear c96
   obtain ⟨t546, A97, H⟩ := ZOB H; try dsimp only at H
   by_cases c98 : t546 = true
   ·(
   subst c98
   have H1 := H; rw [if_pos rfl] at H1
   clear H
   have H := H1
   clear H1
   obtain ⟨t547, A99, H⟩ := ZOB H; try dsimp only at H
   by_cases c100 : t547 = true
   ·(
   subst c100
   have H1 := H; rw [if_pos rfl] at H1
   clear H
   have H := H1
   clear H1
   have H' := AM H
   clear H
   have hnb101 := NB543_541.out
   have hnc101 := NB541_543.out
   have hcz102 := ZC8 wc BK543
   have hfz102 := ZF8 BK543
   have hcz103 := ZC2 wc BK541
   have hfz103 := ZF2 BK541
   go_wp2_with (first | ((with_reducible refine gate_callee (f := 59) rfl ?_); refine ZGL (some 76) Try.func59 #[.agg #[.slice A0_0 l0_0.length c0_0, .slice A0_1 l0_1.length c0_1], .slice A542_6 ((D32 l1 x12_1).f4).length c542_6, .int .i64 (wrap64 (a2 - 1))] ?_; (with_reducible refine (ih kj7 (by have := HK1.out; have := HJ7.out; omega) _ _ l0_0 _ _ l0_1 _ _ ((D32 l1 x12_1).f4) (wrap64 (a2 - 1)) true _ (ZQ (Kd.C_below HR0_0.out HB.out)) HC0_0.out (ZQ (Kd.C_below HR0_1.out HB.out)) HC0_1.out (ZQ (Kd.C_below HR542_6.out HB.out)) HC542_6.out A97.out).mono ?_); rintro e w104 ⟨rfl, hb⟩; refine ⟨_, rfl, ?_⟩; replace BK541 := ZW BK541 hb; replace BK543 := ZW BK543 hb; replace HB := ZT HB hb; clear hb; have hcz105 := ZC2 w104 BK541; have hfz105 := ZF2 BK541; have hcz106 := ZC8 w104 BK543; have hfz106 := ZF8 BK543) | (go_at_call 59; (with_reducible refine (ih kj7 (by have := HK1.out; have := HJ7.out; omega) _ _ l0_0 _ _ l0_1 _ _ ((D32 l1 x12_1).f5) (wrap64 (a2 - 1)) true _ (ZQ (Kd.C_below HR0_0.out HB.out)) HC0_0.out (ZQ (Kd.C_below HR0_1.out HB.out)) HC0_1.out (ZQ (Kd.C_below HR542_7.out HB.out)) HC542_7.out A99.out).mono ?_); rintro e w107 ⟨rfl, hb⟩; replace BK541 := ZW BK541 hb; replace BK543 := ZW BK543 hb; replace HB := ZT HB hb; clear hb))
   go_roundg kj7
   case measure => have := HK1.out; have := HJ7.out; omega
   case rel => exact ⟨(wrap64 (x12_1 + 1)), (by first | rfl | (simp; done) | (simp [*]; done)), H', ⟨by have := HK1.out; have := HJ7.out; omega⟩, ⟨ZK BK541.out⟩, ⟨ZB⟩⟩)
   ·(
   replace c100 := Bool.eq_false_iff.mpr c100
   subst c100
   have H1 := H; rw [if_neg ZFT] at H1
   clear H
   have H := H1
   clear H1
   obtain rfl := Option.some.inj H
   have hnb108 := NB543_541.out
   have hnc108 := NB541_543.out
   have hcz109 := ZC8 wc BK543
   have hfz109 := ZF8 BK543
   have hcz110 := ZC2 wc BK541
   have hfz110 := ZF2 BK541
   go_wp2_with (first | ((with_reducible refine gate_callee (f := 59) rfl ?_); refine ZGL (some 76) Try.func59 #[.agg #[.slice A0_0 l0_0.length c0_0, .slice A0_1 l0_1.length c0_1], .slice A542_6 ((D32 l1 x12_1).f4).length c542_6, .int .i64 (wrap64 (a2 - 1))] ?_; (with_reducible refine (ih kj7 (by have := HK1.out; have := HJ7.out; omega) _ _ l0_0 _ _ l0_1 _ _ ((D32 l1 x12_1).f4) (wrap64 (a2 - 1)) true _ (ZQ (Kd.C_below HR0_0.out HB.out)) HC0_0.out (ZQ (Kd.C_below HR0_1.out HB.out)) HC0_1.out (ZQ (Kd.C_below HR542_6.out HB.out)) HC542_6.out A97.out).mono ?_); rintro e w111 ⟨rfl, hb⟩; refine ⟨_, rfl, ?_⟩; replace BK541 := ZW BK541 hb; replace BK543 := ZW BK543 hb; replace HB := ZT HB hb; clear hb; have hcz112 := ZC2 w111 BK541; have hfz112 := ZF2 BK541; have hcz113 := ZC8 w111 BK543; have hfz113 := ZF8 BK543) | (go_at_call 59; (with_reducible refine (ih kj7 (by have := HK1.out; have := HJ7.out; omega) _ _ l0_0 _ _ l0_1 _ _ ((D32 l1 x12_1).f5) (wrap64 (a2 - 1)) false _ (ZQ (Kd.C_below HR0_0.out HB.out)) HC0_0.out (ZQ (Kd.C_below HR0_1.out HB.out)) HC0_1.out (ZQ (Kd.C_below HR542_7.out HB.out)) HC542_7.out A99.out).mono ?_); rintro e w114 ⟨rfl, hb⟩; replace BK541 := ZW BK541 hb; replace BK543 := ZW BK543 hb; replace HB := ZT HB hb; clear hb))
   go_ret
   exact ⟨ZE, ZB⟩))
   ·(
   replace c98 := Bool.eq_false_iff.mpr c98
   subst c98
   have H1 := H; rw [if_neg ZFT] at H1
   clear H
   have H := H1
   clear H1
   obtain rfl := Option.some.inj H
   have hnb115 := NB543_541.out
   have hnc115 := NB541_543.out
   have hcz116 := ZC8 wc BK543
   have hfz116 := ZF8 BK543
   have hcz117 := ZC2 wc BK541
   have hfz117 := ZF2 BK541
   go_wp2_with (first | ((with_reducible refine gate_callee (f := 59) rfl ?_); refine ZGL (some 76) Try.func59 #[.agg #[.slice A0_0 l0_0.length c0_0, .slice A0_1 l0_1.length c0_1], .slice A542_6 ((D32 l1 x12_1).f4).length c542_6, .int .i64 (wrap64 (a2 - 1))] ?_; (with_reducible refine (ih kj7 (by have := HK1.out; have := HJ7.out; omega) _ _ l0_0 _ _ l0_1 _ _ ((D32 l1 x12_1).f4) (wrap64 (a2 - 1)) false _ (ZQ (Kd.C_below HR0_0.out HB.out)) HC0_0.out (ZQ (Kd.C_below HR0_1.out HB.out)) HC0_1.out (ZQ (Kd.C_below HR542_6.out HB.out)) HC542_6.out A97.out).mono ?_); rintro e w118 ⟨rfl, hb⟩; refine ⟨_, rfl, ?_⟩; replace BK541 := ZW BK541 hb; replace BK543 := ZW BK543 hb; replace HB := ZT HB hb; clear hb))
   go_ret
   exact ⟨ZE, ZB⟩))
   ·(
   rw [if_neg c96] at H
   have c96b0 := beq_eq_false_iff_ne.mpr c96
   have c96b1 := bne_iff_ne.mpr c96
   by_cases c119 : ((D32 l1 x12_1).f0) = 3
   ·(
   rw [if_pos c119] at H
   have c119b0 := beq_iff_eq.mpr c119
   have c119b1 := bne_eq_false_iff_eq.mpr c119
   clear c119
   obtain ⟨t548, A120, H⟩ := ZOB H; try dsimp only at H
   by_cases c121 : t548 = true
   ·(
   subst c121
   have H1 := H; rw [if_pos rfl] at H1
   clear H
   have H := H1
   clear H1
   have H' := AM H
   clear H
   have hnb122 := NB543_541.out
   have hnc122 := NB541_543.out
   have hcz123 := ZC8 wc BK543
   have hfz123 := ZF8 BK543
   go_wp2_with (first | ((with_reducible refine gate_callee (f := 81) rfl ?_); refine ZGL (some 89) Try.func81 #[.int .i64 ((D32 l1 x12_1).f3)] ?_; (with_reducible refine (impl_isHost.calls ((D32 l1 x12_1).f3) true _ A120.out).mono ?_); rintro e w' ⟨rfl, ⟨nd, rfl⟩⟩; refine ⟨_, rfl, ?_⟩))
   go_roundg kj7
   case measure => have := HK1.out; have := HJ7.out; omega
   case rel => exact ⟨(wrap64 (x12_1 + 1)), (by first | rfl | (simp; done) | (simp [*]; done)), H', ⟨by have := HK1.out; have := HJ7.out; omega⟩, ⟨ZK BK541.out⟩, ⟨ZB⟩⟩)
   ·(
   replace c121 := Bool.eq_false_iff.mpr c121
   subst c121
   have H1 := H; rw [if_neg ZFT] at H1
   clear H
   have H := H1
   clear H1
   obtain rfl := Option.some.inj H
   have hnb124 := NB543_541.out
   have hnc124 := NB541_543.out
   have hcz125 := ZC8 wc BK543
   have hfz125 := ZF8 BK543
   go_wp2_with (first | ((with_reducible refine gate_callee (f := 81) rfl ?_); refine ZGL (some 89) Try.func81 #[.int .i64 ((D32 l1 x12_1).f3)] ?_; (with_reducible refine (impl_isHost.calls ((D32 l1 x12_1).f3) false _ A120.out).mono ?_); rintro e w' ⟨rfl, ⟨nd, rfl⟩⟩; refine ⟨_, rfl, ?_⟩))
   go_ret
   exact ⟨ZE, ZB⟩))
   ·(
   rw [if_neg c119] at H
   have c119b0 := beq_eq_false_iff_ne.mpr c119
   have c119b1 := bne_iff_ne.mpr c119
   obtain rfl := Option.some.inj H
   have hnb126 := NB543_541.out
   have hnc126 := NB541_543.out
   have hcz127 := ZC8 wc BK543
   have hfz127 := ZF8 BK543
   go_wp2
   go_ret
   exact ⟨ZE, ZB⟩))))))
  ·(
  rw [if_neg c7] at H
  exact absurd H (by simp)))
  ·(
  rw [if_neg c6] at H
  exact absurd H (by simp)))
  ·(
  rw [if_neg c5] at H
  have c5b0 := decide_eq_false c5
  clear c5
  obtain rfl := Option.some.inj H
  go_wp2
  go_ret
  exact ⟨ZE, ZB⟩))


/-! ### impl_ProgOk: function 36 -/
def impl_ProgOk.f (k : Nat) (l0_0 : List (S39)) (l0_1 : List (S32)) : Option (Bool) := if (l0_0.length : Int) ≤ 4 then ((impl_Label_57.f k l0_0).bind fun t550 => (if t550 = true then (some false) else ((impl_Prog_stepsOk.f k l0_0 l0_1 l0_1 3).bind fun t551 => (if t551 = true then ((impl_size.f k l0_1).bind fun t552 => (some (decide (t552 ≤ 8)))) else (some false))))) else (some false)
theorem impl_ProgOk.calls (k : Nat) (A0_0 : Option Addr) (c0_0 : Nat) (l0_0 : List (S39)) (A0_1 : Option Addr) (c0_1 : Nat) (l0_1 : List (S32)) (r : Bool) (w : World) (hr0_0 : Kd.C k39 w A0_0 l0_0.length l0_0) (hc0_0 : l0_0.length ≤ c0_0) (hr0_1 : Kd.C k32 w A0_1 l0_1.length l0_1) (hc0_1 : l0_1.length ≤ c0_1) (h : impl_ProgOk.f k l0_0 l0_1 = some r) :
  Calls Try.prog 36 #[.agg #[.slice A0_0 l0_0.length c0_0, .slice A0_1 l0_1.length c0_1]] w fun e w' => e = .returned (.bool r) ∧ Below w.heap.size w w' := by
 have hu26 := Try.underlying26
 have HR0_0 := AM hr0_0
 have HC0_0 := AM hc0_0
 clear hr0_0 hc0_0
 have HR0_1 := AM hr0_1
 have HC0_1 := AM hc0_1
 clear hr0_1 hc0_1
 have HB := AM (Below.refl w.heap.size w)
 have H := h
 unfold impl_ProgOk.f at H
 clear h
 by_cases c2 : (l0_0.length : Int) ≤ 4
 ·(
 rw [if_pos c2] at H
 have c2b0 := decide_eq_true c2
 have c2b1 : decide (l0_0.length ≤ 4) = true := decide_eq_true (by omega)
 clear c2
 obtain ⟨t550, A3, H⟩ := ZOB H; try dsimp only at H
 by_cases c4 : t550 = true
 ·(
 subst c4
 have H1 := H; rw [if_pos rfl] at H1
 clear H
 have H := H1
 clear H1
 obtain rfl := Option.some.inj H
 go_enter Try.func36, Try.ntmps36
 go_wp2_with (first | ((with_reducible refine gate_dst (N := 1) rfl ?_); refine ZX (N := 1) (cs := #[.slice A0_0 l0_0.length c0_0, .slice A0_1 l0_1.length c0_1]) (t := 26) ?_; intro gb549 hg w5 hbox hb; have BK549 := AM (hbox); have GW549 : Za (w.heap.size ≤ gb549) := ZS hg; replace HB := ZT HB hb; clear hb hbox hg; have hcz6 := ZC2 w5 BK549; have hfz6 := ZF2 BK549) | (go_at_call 57; (with_reducible refine (impl_Label_57.calls k _ _ l0_0  true _ (ZQ (Kd.C_below HR0_0.out HB.out)) HC0_0.out A3.out).mono ?_); rintro e w7 ⟨rfl, hb⟩; replace BK549 := ZW BK549 hb; replace HB := ZT HB hb; clear hb))
 go_ret
 exact ⟨ZE, ZB⟩)
 ·(
 replace c4 := Bool.eq_false_iff.mpr c4
 subst c4
 have H1 := H; rw [if_neg ZFT] at H1
 clear H
 have H := H1
 clear H1
 obtain ⟨t551, A8, H⟩ := ZOB H; try dsimp only at H
 by_cases c9 : t551 = true
 ·(
 subst c9
 have H1 := H; rw [if_pos rfl] at H1
 clear H
 have H := H1
 clear H1
 obtain ⟨t552, A10, H⟩ := ZOB H; try dsimp only at H
 obtain rfl := Option.some.inj H
 go_enter Try.func36, Try.ntmps36
 go_wp2_with (first | ((with_reducible refine gate_dst (N := 1) rfl ?_); refine ZX (N := 1) (cs := #[.slice A0_0 l0_0.length c0_0, .slice A0_1 l0_1.length c0_1]) (t := 26) ?_; intro gb549 hg w11 hbox hb; have BK549 := AM (hbox); have GW549 : Za (w.heap.size ≤ gb549) := ZS hg; replace HB := ZT HB hb; clear hb hbox hg; have hcz12 := ZC2 w11 BK549; have hfz12 := ZF2 BK549) | (go_at_call 57; (with_reducible refine (impl_Label_57.calls k _ _ l0_0  false _ (ZQ (Kd.C_below HR0_0.out HB.out)) HC0_0.out A3.out).mono ?_); rintro e w13 ⟨rfl, hb⟩; replace BK549 := ZW BK549 hb; replace HB := ZT HB hb; clear hb; have hcz14 := ZC2 w13 BK549; have hfz14 := ZF2 BK549) | (go_at_call 59; (with_reducible refine (impl_Prog_stepsOk.calls k _ _ l0_0 _ _ l0_1 _ _ l0_1 3 true _ (ZQ (Kd.C_below HR0_0.out HB.out)) HC0_0.out (ZQ (Kd.C_below HR0_1.out HB.out)) HC0_1.out (ZQ (Kd.C_below HR0_1.out HB.out)) HC0_1.out A8.out).mono ?_); rintro e w15 ⟨rfl, hb⟩; replace BK549 := ZW BK549 hb; replace HB := ZT HB hb; clear hb; have hcz16 := ZC2 w15 BK549; have hfz16 := ZF2 BK549) | (go_at_call 37; (with_reducible refine (impl_size.calls k _ _ l0_1 t552 _ (ZQ (Kd.C_below HR0_1.out HB.out)) HC0_1.out A10.out).mono ?_); rintro e w17 ⟨rfl, hb⟩; replace BK549 := ZW BK549 hb; replace HB := ZT HB hb; clear hb))
 go_ret
 exact ⟨ZE, ZB⟩)
 ·(
 replace c9 := Bool.eq_false_iff.mpr c9
 subst c9
 have H1 := H; rw [if_neg ZFT] at H1
 clear H
 have H := H1
 clear H1
 obtain rfl := Option.some.inj H
 go_enter Try.func36, Try.ntmps36
 go_wp2_with (first | ((with_reducible refine gate_dst (N := 1) rfl ?_); refine ZX (N := 1) (cs := #[.slice A0_0 l0_0.length c0_0, .slice A0_1 l0_1.length c0_1]) (t := 26) ?_; intro gb549 hg w18 hbox hb; have BK549 := AM (hbox); have GW549 : Za (w.heap.size ≤ gb549) := ZS hg; replace HB := ZT HB hb; clear hb hbox hg; have hcz19 := ZC2 w18 BK549; have hfz19 := ZF2 BK549) | (go_at_call 57; (with_reducible refine (impl_Label_57.calls k _ _ l0_0  false _ (ZQ (Kd.C_below HR0_0.out HB.out)) HC0_0.out A3.out).mono ?_); rintro e w20 ⟨rfl, hb⟩; replace BK549 := ZW BK549 hb; replace HB := ZT HB hb; clear hb; have hcz21 := ZC2 w20 BK549; have hfz21 := ZF2 BK549) | (go_at_call 59; (with_reducible refine (impl_Prog_stepsOk.calls k _ _ l0_0 _ _ l0_1 _ _ l0_1 3 false _ (ZQ (Kd.C_below HR0_0.out HB.out)) HC0_0.out (ZQ (Kd.C_below HR0_1.out HB.out)) HC0_1.out (ZQ (Kd.C_below HR0_1.out HB.out)) HC0_1.out A8.out).mono ?_); rintro e w22 ⟨rfl, hb⟩; replace BK549 := ZW BK549 hb; replace HB := ZT HB hb; clear hb))
 go_ret
 exact ⟨ZE, ZB⟩)))
 ·(
 rw [if_neg c2] at H
 have c2b0 := decide_eq_false c2
 have c2b1 : decide (l0_0.length ≤ 4) = false := decide_eq_false (by omega)
 clear c2
 obtain rfl := Option.some.inj H
 go_enter Try.func36, Try.ntmps36
 go_wp2_with (first | ((with_reducible refine gate_dst (N := 1) rfl ?_); refine ZX (N := 1) (cs := #[.slice A0_0 l0_0.length c0_0, .slice A0_1 l0_1.length c0_1]) (t := 26) ?_; intro gb549 hg w23 hbox hb; have BK549 := AM (hbox); have GW549 : Za (w.heap.size ≤ gb549) := ZS hg; replace HB := ZT HB hb; clear hb hbox hg; have hcz24 := ZC2 w23 BK549; have hfz24 := ZF2 BK549))
 go_ret
 exact ⟨ZE, ZB⟩)

/-! ### impl_ProgSize: function 14 -/
def impl_ProgSize.f (k : Nat) (l0_0 : List (S39)) (l0_1 : List (S32)) : Option (Int) := (impl_ProgOk.f k l0_0 l0_1).bind fun t554 => (if t554 = true then ((impl_size.f k l0_1).bind fun t555 => (some t555)) else (some (-1)))
theorem impl_ProgSize.calls (k : Nat) (A0_0 : Option Addr) (c0_0 : Nat) (l0_0 : List (S39)) (A0_1 : Option Addr) (c0_1 : Nat) (l0_1 : List (S32)) (r : Int) (w : World) (hr0_0 : Kd.C k39 w A0_0 l0_0.length l0_0) (hc0_0 : l0_0.length ≤ c0_0) (hr0_1 : Kd.C k32 w A0_1 l0_1.length l0_1) (hc0_1 : l0_1.length ≤ c0_1) (h : impl_ProgSize.f k l0_0 l0_1 = some r) :
  Calls Try.prog 14 #[.agg #[.slice A0_0 l0_0.length c0_0, .slice A0_1 l0_1.length c0_1]] w fun e w' => e = .returned (.int .i64 r) ∧ Below w.heap.size w w' := by
 have hu26 := Try.underlying26
 have HR0_0 := AM hr0_0
 have HC0_0 := AM hc0_0
 clear hr0_0 hc0_0
 have HR0_1 := AM hr0_1
 have HC0_1 := AM hc0_1
 clear hr0_1 hc0_1
 have HB := AM (Below.refl w.heap.size w)
 have H := h
 unfold impl_ProgSize.f at H
 clear h
 obtain ⟨t554, A2, H⟩ := ZOB H; try dsimp only at H
 by_cases c3 : t554 = true
 ·(
 subst c3
 have H1 := H; rw [if_pos rfl] at H1
 clear H
 have H := H1
 clear H1
 obtain ⟨t555, A4, H⟩ := ZOB H; try dsimp only at H
 obtain rfl := Option.some.inj H
 go_enter Try.func14, Try.ntmps14
 go_wp2_with (first | ((with_reducible refine gate_dst (N := 1) rfl ?_); refine ZX (N := 1) (cs := #[.slice A0_0 l0_0.length c0_0, .slice A0_1 l0_1.length c0_1]) (t := 26) ?_; intro gb553 hg w5 hbox hb; have BK553 := AM (hbox); have GW553 : Za (w.heap.size ≤ gb553) := ZS hg; replace HB := ZT HB hb; clear hb hbox hg; have hcz6 := ZC2 w5 BK553; have hfz6 := ZF2 BK553) | ((with_reducible refine gate_callee (f := 36) rfl ?_); refine ZGL (some 4) Try.func36 #[.agg #[.slice A0_0 l0_0.length c0_0, .slice A0_1 l0_1.length c0_1]] ?_; (with_reducible refine (impl_ProgOk.calls k _ _ l0_0 _ _ l0_1 true _ (ZQ (Kd.C_below HR0_0.out HB.out)) HC0_0.out (ZQ (Kd.C_below HR0_1.out HB.out)) HC0_1.out A2.out).mono ?_); rintro e w7 ⟨rfl, hb⟩; refine ⟨_, rfl, ?_⟩; replace BK553 := ZW BK553 hb; replace HB := ZT HB hb; clear hb; have hcz8 := ZC2 w7 BK553; have hfz8 := ZF2 BK553) | ((with_reducible refine gate_callee (f := 37) rfl ?_); refine ZGL (some 8) Try.func37 #[.slice A0_1 l0_1.length c0_1] ?_; (with_reducible refine (impl_size.calls k _ _ l0_1 t555 _ (ZQ (Kd.C_below HR0_1.out HB.out)) HC0_1.out A4.out).mono ?_); rintro e w9 ⟨rfl, hb⟩; refine ⟨_, rfl, ?_⟩; replace BK553 := ZW BK553 hb; replace HB := ZT HB hb; clear hb))
 go_ret
 exact ⟨ZE, ZB⟩)
 ·(
 replace c3 := Bool.eq_false_iff.mpr c3
 subst c3
 have H1 := H; rw [if_neg ZFT] at H1
 clear H
 have H := H1
 clear H1
 obtain rfl := Option.some.inj H
 go_enter Try.func14, Try.ntmps14
 go_wp2_with (first | ((with_reducible refine gate_dst (N := 1) rfl ?_); refine ZX (N := 1) (cs := #[.slice A0_0 l0_0.length c0_0, .slice A0_1 l0_1.length c0_1]) (t := 26) ?_; intro gb553 hg w10 hbox hb; have BK553 := AM (hbox); have GW553 : Za (w.heap.size ≤ gb553) := ZS hg; replace HB := ZT HB hb; clear hb hbox hg; have hcz11 := ZC2 w10 BK553; have hfz11 := ZF2 BK553) | ((with_reducible refine gate_callee (f := 36) rfl ?_); refine ZGL (some 4) Try.func36 #[.agg #[.slice A0_0 l0_0.length c0_0, .slice A0_1 l0_1.length c0_1]] ?_; (with_reducible refine (impl_ProgOk.calls k _ _ l0_0 _ _ l0_1 false _ (ZQ (Kd.C_below HR0_0.out HB.out)) HC0_0.out (ZQ (Kd.C_below HR0_1.out HB.out)) HC0_1.out A2.out).mono ?_); rintro e w12 ⟨rfl, hb⟩; refine ⟨_, rfl, ?_⟩; replace BK553 := ZW BK553 hb; replace HB := ZT HB hb; clear hb))
 go_ret
 exact ⟨ZE, ZB⟩)

/-! ### spec_ProgSize: function 15 -/
def spec_ProgSize.f (k : Nat) (l0_0 : List (S39)) (l0_1 : List (S32)) : Option (Int) := (spec_ProgOk.f k l0_0 l0_1).bind fun t557 => (if t557 = true then ((spec_l2Count.f k l0_1).bind fun t558 => (some t558)) else (some (-1)))
theorem spec_ProgSize.calls (k : Nat) (A0_0 : Option Addr) (c0_0 : Nat) (l0_0 : List (S39)) (A0_1 : Option Addr) (c0_1 : Nat) (l0_1 : List (S32)) (r : Int) (w : World) (hr0_0 : Kd.C k39 w A0_0 l0_0.length l0_0) (hc0_0 : l0_0.length ≤ c0_0) (hr0_1 : Kd.C k32 w A0_1 l0_1.length l0_1) (hc0_1 : l0_1.length ≤ c0_1) (h : spec_ProgSize.f k l0_0 l0_1 = some r) :
  Calls Try.prog 15 #[.agg #[.slice A0_0 l0_0.length c0_0, .slice A0_1 l0_1.length c0_1]] w fun e w' => e = .returned (.int .i64 r) ∧ Below w.heap.size w w' := by
 have hu26 := Try.underlying26
 have HR0_0 := AM hr0_0
 have HC0_0 := AM hc0_0
 clear hr0_0 hc0_0
 have HR0_1 := AM hr0_1
 have HC0_1 := AM hc0_1
 clear hr0_1 hc0_1
 have HB := AM (Below.refl w.heap.size w)
 have H := h
 unfold spec_ProgSize.f at H
 clear h
 obtain ⟨t557, A2, H⟩ := ZOB H; try dsimp only at H
 by_cases c3 : t557 = true
 ·(
 subst c3
 have H1 := H; rw [if_pos rfl] at H1
 clear H
 have H := H1
 clear H1
 obtain ⟨t558, A4, H⟩ := ZOB H; try dsimp only at H
 obtain rfl := Option.some.inj H
 go_enter Try.func15, Try.ntmps15
 go_wp2_with (first | ((with_reducible refine gate_dst (N := 1) rfl ?_); refine ZX (N := 1) (cs := #[.slice A0_0 l0_0.length c0_0, .slice A0_1 l0_1.length c0_1]) (t := 26) ?_; intro gb556 hg w5 hbox hb; have BK556 := AM (hbox); have GW556 : Za (w.heap.size ≤ gb556) := ZS hg; replace HB := ZT HB hb; clear hb hbox hg; have hcz6 := ZC2 w5 BK556; have hfz6 := ZF2 BK556) | ((with_reducible refine gate_callee (f := 19) rfl ?_); refine ZGL (some 4) Try.func19 #[.agg #[.slice A0_0 l0_0.length c0_0, .slice A0_1 l0_1.length c0_1]] ?_; (with_reducible refine (spec_ProgOk.calls k _ _ l0_0 _ _ l0_1 true _ (ZQ (Kd.C_below HR0_0.out HB.out)) HC0_0.out (ZQ (Kd.C_below HR0_1.out HB.out)) HC0_1.out A2.out).mono ?_); rintro e w7 ⟨rfl, hb⟩; refine ⟨_, rfl, ?_⟩; replace BK556 := ZW BK556 hb; replace HB := ZT HB hb; clear hb; have hcz8 := ZC2 w7 BK556; have hfz8 := ZF2 BK556) | ((with_reducible refine gate_callee (f := 38) rfl ?_); refine ZGL (some 8) Try.func38 #[.slice A0_1 l0_1.length c0_1] ?_; (with_reducible refine (spec_l2Count.calls k _ _ l0_1 t558 _ (ZQ (Kd.C_below HR0_1.out HB.out)) HC0_1.out A4.out).mono ?_); rintro e w9 ⟨rfl, hb⟩; refine ⟨_, rfl, ?_⟩; replace BK556 := ZW BK556 hb; replace HB := ZT HB hb; clear hb))
 go_ret
 exact ⟨ZE, ZB⟩)
 ·(
 replace c3 := Bool.eq_false_iff.mpr c3
 subst c3
 have H1 := H; rw [if_neg ZFT] at H1
 clear H
 have H := H1
 clear H1
 obtain rfl := Option.some.inj H
 go_enter Try.func15, Try.ntmps15
 go_wp2_with (first | ((with_reducible refine gate_dst (N := 1) rfl ?_); refine ZX (N := 1) (cs := #[.slice A0_0 l0_0.length c0_0, .slice A0_1 l0_1.length c0_1]) (t := 26) ?_; intro gb556 hg w10 hbox hb; have BK556 := AM (hbox); have GW556 : Za (w.heap.size ≤ gb556) := ZS hg; replace HB := ZT HB hb; clear hb hbox hg; have hcz11 := ZC2 w10 BK556; have hfz11 := ZF2 BK556) | ((with_reducible refine gate_callee (f := 19) rfl ?_); refine ZGL (some 4) Try.func19 #[.agg #[.slice A0_0 l0_0.length c0_0, .slice A0_1 l0_1.length c0_1]] ?_; (with_reducible refine (spec_ProgOk.calls k _ _ l0_0 _ _ l0_1 false _ (ZQ (Kd.C_below HR0_0.out HB.out)) HC0_0.out (ZQ (Kd.C_below HR0_1.out HB.out)) HC0_1.out A2.out).mono ?_); rintro e w12 ⟨rfl, hb⟩; refine ⟨_, rfl, ?_⟩; replace BK556 := ZW BK556 hb; replace HB := ZT HB hb; clear hb))
 go_ret
 exact ⟨ZE, ZB⟩)

end Go.Proofs.Ythidgkfgdkjghaa.A
