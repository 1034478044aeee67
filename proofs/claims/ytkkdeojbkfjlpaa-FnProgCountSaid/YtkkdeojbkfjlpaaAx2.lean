/- Go functions as Lean functions, and for each its contract; written by wip/tools/pr.py over the kit's print. -/
import Derived.Test.YtkkdeojbkfjlpaaAx0
namespace Go.Proofs.Ytkkdeojbkfjlpaa.A
open Go.RowKit Go.Proofs.YtkkdeojbkfjlpaaW.PrintWords Go.Proofs.YtkkdeojbkfjlpaaW.PrintLast Go.Proofs.YtkkdeojbkfjlpaaW.PrintMore
attribute [local go_sem] max2_int min2_int max_two min_two max_three min_three max_four min_four
set_option linter.unusedVariables false
set_option linter.unusedSimpArgs false
set_option maxHeartbeats 8000000
set_option maxRecDepth 100000

/-! ### impl_size: function 43 -/
mutual
def impl_size.l0 : Nat → Int → List (S40) → Int → Int → Option (Int)
 | 0, _, _, _, _ => none
 | k + 1, x3, x8, x9, x10 => if x10 < x9 then (if 0 ≤ x10 then (if x10 < (x8.length : Int) then ((impl_size.f k ((D40 x8 x10).f4)).bind fun t103 => ((impl_size.f k ((D40 x8 x10).f5)).bind fun t104 => (impl_size.l0 k (wrap64 (x3 + (wrap64 (t103 + t104)))) x8 x9 (wrap64 (x10 + 1))))) else (none)) else (none)) else (some x3)
def impl_size.f : Nat → List (S40) → Option (Int)
 | 0, _ => none
 | k + 1, l0 => impl_size.l0 k (l0.length : Int) l0 (l0.length : Int) 0
end
def impl_size.T5 : Bool × List (List Nat × List Nat) := (true, [([], []), ([], []), ([1], [1]), ([2], [2]), ([], []), ([4], [4]), ([5, 3], [5]), ([3, 6], [3, 6]), ([0, 7], [0, 7]), ([8, 6, 0, 1, 2, 3, 4, 5, 6, 7, 8], [0, 8])])
def impl_size.B5 : List Nat := [0, 0, 2, 6, 0, 16, 62, 126, 255, 511]
theorem impl_size.tab5 : rtab .any (opsOf Try.f43 5) = impl_size.T5 := by kernel_rfl
theorem impl_size.bits5 : waitsOk impl_size.T5.2 impl_size.B5 = true := by kernel_rfl
theorem impl_size.calls (k : Nat) : ∀ (A0 : Option Addr) (c0 : Nat) (l0 : List (S40)) (r : Int) (w : World) (hr0 : Kd.C k40 w A0 l0.length l0) (hc0 : l0.length ≤ c0) (h : impl_size.f k l0 = some r),
  Calls Try.prog 43 #[.slice A0 l0.length c0] w fun e w' => e = .returned (.int .i64 r) ∧ Below w.heap.size w w' := by
 induction k using Nat.strongRecOn with
 | _ k ih =>
 intro A0 c0 l0 r w hr0 hc0 h
 cases k with
 | zero => exact absurd h (by simp [impl_size.f])
 | succ k =>
 simp only [impl_size.f] at h
 have hu40 := Try.underlying40
 have HR0 := AM hr0
 have HC0 := AM hc0
 clear hr0 hc0
 have HB := AM (Below.refl w.heap.size w)
 have H : (impl_size.l0 k (l0.length : Int) l0 (l0.length : Int) 0) = some r := h
 clear h
 have H' := AM H
 clear H
 go_enter Try.func43, Try.ntmps43
 go_wp2
 go_loopg [3, 10] k (fun kq v3 v10 w' => ∃ (x3_1 : Int) (x10_1 : Int), v3 = .int .i64 x3_1 ∧ v10 = .int .i64 x10_1 ∧ Za (impl_size.l0 kq x3_1 l0 (l0.length : Int) x10_1 = some r) ∧ Za (kq ≤ k) ∧ Za (Below w.heap.size w w'))
 case atStart => exact ⟨((l0.length : Int)), (0), ZSM, ZSM, H', ⟨Nat.le_refl _⟩, ⟨ZB⟩⟩
 case round => (
 clear H'
 obtain ⟨x3_1, x10_1, rfl, rfl, HA, HK1, HB⟩ := hrel
 cases gk with
 | zero => exact absurd HA.out (by simp [impl_size.l0])
 | succ k1 =>
  have H := HA.out
  clear HA
  simp only [impl_size.l0] at H
  by_cases c2 : x10_1 < (l0.length : Int)
  ·(
  rw [if_pos c2] at H
  have c2b0 := decide_eq_true c2
  clear c2
  by_cases c3 : 0 ≤ x10_1
  ·(
  rw [if_pos c3] at H
  have c3b0 := decide_eq_true c3
  clear c3
  by_cases c4 : x10_1 < (l0.length : Int)
  ·(
  rw [if_pos c4] at H
  have c4b0 := decide_eq_true c4
  clear c4
  obtain ⟨t103, A5, H⟩ := ZOB H; try dsimp only at H
  obtain ⟨t104, A6, H⟩ := ZOB H; try dsimp only at H
  have H' := AM H
  clear H
  have p101 : 0 ≤ (x10_1 : Int) := ZD
  have q101 : x10_1 < (l0.length : Int) := ZD
  obtain ⟨ad101, A101_6, c101_6, A101_7, c101_7, e101, hx101_0, hx101_1, hx101_2, hx101_3, hx101_4, hx101_5, hx101_6, hx101_7, hl101_6, hi101_6, hl101_7, hi101_7⟩ := at_T40 HR0.out x10_1 p101 q101
  cases e101
  replace hx101_0 := ZHX HB hx101_0
  replace hx101_1 := ZHX HB hx101_1
  replace hx101_2 := ZHX HB hx101_2
  replace hx101_3 := ZHX HB hx101_3
  replace hx101_4 := ZHX HB hx101_4
  replace hx101_5 := ZHX HB hx101_5
  replace hx101_6 := ZHX HB hx101_6
  replace hx101_7 := ZHX HB hx101_7
  have HR101_6 := AM hi101_6
  have HC101_6 := AM hl101_6
  clear hi101_6 hl101_6
  have HR101_7 := AM hi101_7
  have HC101_7 := AM hl101_7
  clear hi101_7 hl101_7
  replace p101 := eq_true p101
  replace q101 := eq_true q101
  try go_wp2_with (first | ((with_reducible refine gate_dst (N := 5) rfl ?_); refine ZXW w (N := 5) (cs := #[.int .i64 0, .int .i64 0, .int .i64 0, .int .i64 0, .int .i64 0, .int .i64 0, .slice none 0 0, .slice none 0 0]) (t := 40) ?_; intro gb102 hg w7 BK102 GW102 hb; replace HB := ZT HB hb; clear hb hg; have hcz8 := ZC8 w7 BK102))
  have n0_ : Za (((((((((w7.setCell ⟨gb102, 0, none⟩ (.int .i64 ((D40 l0 x10_1).f0))).setCell ⟨gb102, 1, none⟩ (.int .i64 ((D40 l0 x10_1).f1))).setCell ⟨gb102, 2, none⟩ (.int .i64 ((D40 l0 x10_1).f2.f0))).setCell ⟨gb102, 3, none⟩ (.int .i64 ((D40 l0 x10_1).f2.f1))).setCell ⟨gb102, 4, none⟩ (.int .i64 ((D40 l0 x10_1).f2.f2))).setCell ⟨gb102, 5, none⟩ (.int .i64 ((D40 l0 x10_1).f3))).setCell ⟨gb102, 6, none⟩ (.slice A101_6 ((D40 l0 x10_1).f4).length c101_6)).setCell ⟨gb102, 7, none⟩ (.slice A101_7 ((D40 l0 x10_1).f5).length c101_7)).heap[gb102]? = some (.cells #[.int .i64 ((D40 l0 x10_1).f0), .int .i64 ((D40 l0 x10_1).f1), .int .i64 ((D40 l0 x10_1).f2.f0), .int .i64 ((D40 l0 x10_1).f2.f1), .int .i64 ((D40 l0 x10_1).f2.f2), .int .i64 ((D40 l0 x10_1).f3), .slice A101_6 ((D40 l0 x10_1).f4).length c101_6, .slice A101_7 ((D40 l0 x10_1).f5).length c101_7] 40 (0, 0))) := ⟨ZZ BK102.out⟩
  have n1_ : Za (Below w.heap.size w ((((((((w7.setCell ⟨gb102, 0, none⟩ (.int .i64 ((D40 l0 x10_1).f0))).setCell ⟨gb102, 1, none⟩ (.int .i64 ((D40 l0 x10_1).f1))).setCell ⟨gb102, 2, none⟩ (.int .i64 ((D40 l0 x10_1).f2.f0))).setCell ⟨gb102, 3, none⟩ (.int .i64 ((D40 l0 x10_1).f2.f1))).setCell ⟨gb102, 4, none⟩ (.int .i64 ((D40 l0 x10_1).f2.f2))).setCell ⟨gb102, 5, none⟩ (.int .i64 ((D40 l0 x10_1).f3))).setCell ⟨gb102, 6, none⟩ (.slice A101_6 ((D40 l0 x10_1).f4).length c101_6)).setCell ⟨gb102, 7, none⟩ (.slice A101_7 ((D40 l0 x10_1).f5).length c101_7))) := ⟨ZB⟩
  (try clear BK102)
  (try clear HB)
  generalize ((((((((w7.setCell ⟨gb102, 0, none⟩ (.int .i64 ((D40 l0 x10_1).f0))).setCell ⟨gb102, 1, none⟩ (.int .i64 ((D40 l0 x10_1).f1))).setCell ⟨gb102, 2, none⟩ (.int .i64 ((D40 l0 x10_1).f2.f0))).setCell ⟨gb102, 3, none⟩ (.int .i64 ((D40 l0 x10_1).f2.f1))).setCell ⟨gb102, 4, none⟩ (.int .i64 ((D40 l0 x10_1).f2.f2))).setCell ⟨gb102, 5, none⟩ (.int .i64 ((D40 l0 x10_1).f3))).setCell ⟨gb102, 6, none⟩ (.slice A101_6 ((D40 l0 x10_1).f4).length c101_6)).setCell ⟨gb102, 7, none⟩ (.slice A101_7 ((D40 l0 x10_1).f5).length c101_7)) = w9 at n0_ n1_ ⊢
  have BK102 := n0_
  have HB := n1_
  clear n0_ n1_
  replace BK102 := AM (blk_drew BK102.out)
  replace HB := AM (below_drew1 HB.out)
  refine start_ (n := 10) (S := fun w' => w'.cell? ⟨gb102, 0, none⟩ = some (.int .i64 ((D40 l0 x10_1).f0)) ∧ w'.cell? ⟨gb102, 1, none⟩ = some (.int .i64 ((D40 l0 x10_1).f1)) ∧ w'.cell? ⟨gb102, 2, none⟩ = some (.int .i64 ((D40 l0 x10_1).f2.f0)) ∧ w'.cell? ⟨gb102, 3, none⟩ = some (.int .i64 ((D40 l0 x10_1).f2.f1)) ∧ w'.cell? ⟨gb102, 4, none⟩ = some (.int .i64 ((D40 l0 x10_1).f2.f2)) ∧ w'.cell? ⟨gb102, 5, none⟩ = some (.int .i64 ((D40 l0 x10_1).f3)) ∧ w'.cell? ⟨gb102, 6, none⟩ = some (.slice A101_6 ((D40 l0 x10_1).f4).length c101_6) ∧ w'.cell? ⟨gb102, 7, none⟩ = some (.slice A101_7 ((D40 l0 x10_1).f5).length c101_7)) (ds := []) #[F,F,F,F,F,F,F,F,F,F] (by kernel_rfl) rfl rfl ⟨ZA BK102 0, ZA BK102 1, ZA BK102 2, ZA BK102 3, ZA BK102 4, ZA BK102 5, ZA BK102 6, ZA BK102 7⟩ (fun hHeld => ?_); refine with_tabW impl_size.tab5 impl_size.bits5 (fun HT_ HW_ => ?_)
  generalize w9.drew = w10 at BK102 HB hHeld ⊢
  refine ZU 0 14 #[T,F,F,F,F,F,F,F,F,F] ?_
  refine ZU 1 15 #[T,T,F,F,F,F,F,F,F,F] ?_
  refine ZU 4 18 #[T,T,F,F,T,F,F,F,F,F] ?_
  refine ZTK 2 16 #[T,T,T,F,T,F,F,F,F,F] hHeld ?_
  refine ZTK 5 19 #[T,T,T,F,T,T,F,F,F,F] hHeld ?_
  refine one_ (i := 3) (N := some 17) #[T,T,T,T,T,T,F,F,F,F] rfl rfl (one_of HT_.out (by kernel_rfl)) (by decide) (fun K hK => ?_)
  refine ZGO Try.func43 #[.slice A101_6 ((D40 l0 x10_1).f4).length c101_6] ?_
  with_reducible refine (ih k1 (by have := HK1.out; omega) _ _ ((D40 l0 x10_1).f4) t103 _ ?side1 ?side2 A5.out).mono ?_
  (case side1 => exact ZQ (Kd.C_below HR101_6.out HB.out))
  (case side2 => exact HC101_6.out)
  rintro e w11 ⟨rfl, hb⟩
  refine ZV1 ?_
  replace BK102 := ZW BK102 hb
  replace HB := ZT HB hb
  (try clear hb)
  (try clear hb2)
  (try clear hk)
  (try clear hi)
  refine hK.out _ _ ⟨ZA BK102 0, ZA BK102 1, ZA BK102 2, ZA BK102 3, ZA BK102 4, ZA BK102 5, ZA BK102 6, ZA BK102 7⟩ (fun hHeld => ?_)
  clear hK K
  refine ZNO 17 ?_
  refine one_ (i := 6) (N := some 20) #[T,T,T,T,T,T,T,F,F,F] rfl rfl (one_of HT_.out (by kernel_rfl)) (by decide) (fun K hK => ?_)
  refine ZGO Try.func43 #[.slice A101_7 ((D40 l0 x10_1).f5).length c101_7] ?_
  with_reducible refine (ih k1 (by have := HK1.out; omega) _ _ ((D40 l0 x10_1).f5) t104 _ ?side1 ?side2 A6.out).mono ?_
  (case side1 => exact ZQ (Kd.C_below HR101_7.out HB.out))
  (case side2 => exact HC101_7.out)
  rintro e w12 ⟨rfl, hb⟩
  refine ZV1 ?_
  replace BK102 := ZW BK102 hb
  replace HB := ZT HB hb
  (try clear hb)
  (try clear hb2)
  (try clear hk)
  (try clear hi)
  refine hK.out _ _ ⟨ZA BK102 0, ZA BK102 1, ZA BK102 2, ZA BK102 3, ZA BK102 4, ZA BK102 5, ZA BK102 6, ZA BK102 7⟩ (fun hHeld => ?_)
  clear hK K
  refine ZNO 20 ?_
  refine ZU 7 21 #[T,T,T,T,T,T,T,T,F,F] ?_
  refine ZU 8 22 #[T,T,T,T,T,T,T,T,T,F] ?_
  refine ZU 9 3 #[T,T,T,T,T,T,T,T,T,T] ?_
  refine done_ (done_of HT_.out (by kernel_rfl)) ?_
  try go_wp2
  go_roundg k1
  case measure => have := HK1.out; omega
  case rel => exact ⟨(wrap64 (x3_1 + (wrap64 (t103 + t104)))), (wrap64 (x10_1 + 1)), ZSM, ZSM, H', ⟨by have := HK1.out; omega⟩, ⟨ZB⟩⟩)
  ·(
  rw [if_neg c4] at H
  exact absurd H (by simp)))
  ·(
  rw [if_neg c3] at H
  exact absurd H (by simp)))
  ·(
  rw [if_neg c2] at H
  have c2b0 := decide_eq_false c2
  clear c2
  obtain rfl := Option.some.inj H
  go_wp2
  go_ret
  exact ⟨ZE, ZB⟩))

/-! ### impl_in: function 42 -/
def impl_in.f (a0 : Int) (a1 : Int) (a2 : Int) : Option (Bool) := if a1 ≤ a0 then (some (decide (a0 ≤ a2))) else (some false)
theorem impl_in.calls (a0 : Int) (a1 : Int) (a2 : Int) (r : Bool) (w : World) (h : impl_in.f a0 a1 a2 = some r) :
  Calls Try.prog 42 #[.int .i64 a0, .int .i64 a1, .int .i64 a2] w fun e w' => e = .returned (.bool r) ∧ Drawn0 w w' := by
 have H := h
 unfold impl_in.f at H
 clear h
 by_cases c4 : a1 ≤ a0
 ·(
 rw [if_pos c4] at H
 have c4b0 := decide_eq_true c4
 clear c4
 obtain rfl := Option.some.inj H
 go_enter Try.func42, Try.ntmps42
 go_wp2
 go_ret
 exact ⟨by first | rfl | (simp; done) | (simp [*]; done), by repeat (first | exact Drawn0.refl _ | apply Drawn0.step)⟩)
 ·(
 rw [if_neg c4] at H
 have c4b0 := decide_eq_false c4
 clear c4
 obtain rfl := Option.some.inj H
 go_enter Try.func42, Try.ntmps42
 go_wp2
 go_ret
 exact ⟨by first | rfl | (simp; done) | (simp [*]; done), by repeat (first | exact Drawn0.refl _ | apply Drawn0.step)⟩)

/-! ### impl_isSet: function 60 -/
def impl_isSet.f (a0 : Int) : Option (Bool) := (impl_in.f a0 0 7).bind fun t105 => (some t105)
theorem impl_isSet.calls (a0 : Int) (r : Bool) (w : World) (h : impl_isSet.f a0 = some r) :
  Calls Try.prog 60 #[.int .i64 a0] w fun e w' => e = .returned (.bool r) ∧ Drawn0 w w' := by
 have H := h
 unfold impl_isSet.f at H
 clear h
 obtain ⟨t105, A2, H⟩ := ZOB H; try dsimp only at H
 obtain rfl := Option.some.inj H
 go_enter Try.func60, Try.ntmps60
 go_wp2_with (first | ((with_reducible refine gate_callee (f := 42) rfl ?_); refine ZGL (some 4) Try.func42 #[.int .i64 a0, .int .i64 0, .int .i64 7] ?_; (with_reducible refine (impl_in.calls a0 0 7 t105 _ A2.out).mono ?_); rintro e w' ⟨rfl, ⟨nd, rfl⟩⟩; refine ZV1 ?_))
 go_ret
 exact ⟨by first | rfl | (simp; done) | (simp [*]; done), by repeat (first | exact Drawn0.refl _ | apply Drawn0.step)⟩

/-! ### impl_LabelOk: function 36 -/
def impl_LabelOk.f (a0_0 : Int) (a0_1 : Int) : Option (Bool) := (impl_isSet.f a0_0).bind fun t107 => (if t107 = true then ((impl_isSet.f a0_1).bind fun t108 => (some t108)) else (some false))
theorem impl_LabelOk.calls (a0_0 : Int) (a0_1 : Int) (r : Bool) (w : World) (h : impl_LabelOk.f a0_0 a0_1 = some r) :
  Calls Try.prog 36 #[.agg #[.int .i64 a0_0, .int .i64 a0_1]] w fun e w' => e = .returned (.bool r) ∧ Below w.heap.size w w' := by
 have hu35 := Try.underlying35
 have HB := AM (Below.refl w.heap.size w)
 have H := h
 unfold impl_LabelOk.f at H
 clear h
 obtain ⟨t107, A2, H⟩ := ZOB H; try dsimp only at H
 by_cases c3 : t107 = true
 ·(
 subst c3
 have H1 := H; rw [if_pos rfl] at H1
 clear H
 have H := H1
 clear H1
 obtain ⟨t108, A4, H⟩ := ZOB H; try dsimp only at H
 obtain rfl := Option.some.inj H
 go_enter Try.func36, Try.ntmps36
 go_wp2_with (first | ((with_reducible refine gate_dst (N := 1) rfl ?_); refine ZXW w (N := 1) (cs := #[.int .i64 a0_0, .int .i64 a0_1]) (t := 35) ?_; intro gb106 hg w5 BK106 GW106 hb; replace HB := ZT HB hb; clear hb hg; have hcz6 := ZC2 w5 BK106) | ((with_reducible refine gate_callee (f := 60) rfl ?_); refine ZGL (some 5) Try.func60 #[.int .i64 a0_0] ?_; (with_reducible refine (impl_isSet.calls a0_0 true _ A2.out).mono ?_); rintro e w' ⟨rfl, ⟨nd, rfl⟩⟩; refine ZV1 ?_) | (go_at_call 60; (with_reducible refine (impl_isSet.calls a0_1 t108 _ A4.out).mono ?_); rintro e w' ⟨rfl, ⟨nd, rfl⟩⟩))
 go_ret
 exact ⟨ZE, ZB⟩)
 ·(
 replace c3 := Bool.eq_false_iff.mpr c3
 subst c3
 have H1 := H; rw [if_neg ZFT] at H1
 clear H
 have H := H1
 clear H1
 obtain rfl := Option.some.inj H
 go_enter Try.func36, Try.ntmps36
 go_wp2_with (first | ((with_reducible refine gate_dst (N := 1) rfl ?_); refine ZXW w (N := 1) (cs := #[.int .i64 a0_0, .int .i64 a0_1]) (t := 35) ?_; intro gb106 hg w7 BK106 GW106 hb; replace HB := ZT HB hb; clear hb hg; have hcz8 := ZC2 w7 BK106) | ((with_reducible refine gate_callee (f := 60) rfl ?_); refine ZGL (some 5) Try.func60 #[.int .i64 a0_0] ?_; (with_reducible refine (impl_isSet.calls a0_0 false _ A2.out).mono ?_); rintro e w' ⟨rfl, ⟨nd, rfl⟩⟩; refine ZV1 ?_))
 go_ret
 exact ⟨ZE, ZB⟩)

/-! ### impl_ProgOk_1: function 49 -/
def impl_ProgOk_1.f (a0_0 : Int) (a0_1 : Int) : Option (Bool) := (impl_LabelOk.f a0_0 a0_1).bind fun t110 => (some (!t110))
theorem impl_ProgOk_1.calls (a0_0 : Int) (a0_1 : Int) (r : Bool) (w : World) (h : impl_ProgOk_1.f a0_0 a0_1 = some r) :
  Calls Try.prog 49 #[.agg #[.int .i64 a0_0, .int .i64 a0_1]] w fun e w' => e = .returned (.bool r) ∧ Below w.heap.size w w' := by
 have hu35 := Try.underlying35
 have HB := AM (Below.refl w.heap.size w)
 have H := h
 unfold impl_ProgOk_1.f at H
 clear h
 obtain ⟨t110, A2, H⟩ := ZOB H; try dsimp only at H
 obtain rfl := Option.some.inj H
 go_enter Try.func49, Try.ntmps49
 go_wp2_with (first | ((with_reducible refine gate_dst (N := 1) rfl ?_); refine ZXW w (N := 1) (cs := #[.int .i64 a0_0, .int .i64 a0_1]) (t := 35) ?_; intro gb109 hg w3 BK109 GW109 hb; replace HB := ZT HB hb; clear hb hg; have hcz4 := ZC2 w3 BK109) | ((with_reducible refine gate_callee (f := 36) rfl ?_); refine ZGL (some 4) Try.func36 #[.agg #[.int .i64 a0_0, .int .i64 a0_1]] ?_; (with_reducible refine (impl_LabelOk.calls a0_0 a0_1 t110 _ A2.out).mono ?_); rintro e w5 ⟨rfl, hb⟩; refine ZV1 ?_; replace BK109 := ZW BK109 hb; replace HB := ZT HB hb; clear hb))
 go_ret
 exact ⟨ZE, ZB⟩

/-! ### impl_Label_65: function 65 -/
def impl_Label_65.l0 : Nat → List (S35) → Int → Int → Option (Int)
 | 0, _, _, _ => none
 | k + 1, x0, x7, x8 => if x8 < x7 then (if 0 ≤ x8 then (if x8 < (x0.length : Int) then ((impl_ProgOk_1.f ((D35 x0 x8).f0) ((D35 x0 x8).f1)).bind fun t112 => (if t112 = true then (some x8) else (impl_Label_65.l0 k x0 x7 (wrap64 (x8 + 1))))) else (none)) else (none)) else (some (-1))
def impl_Label_65.f (k : Nat) (l0 : List (S35))  : Option (Int) := impl_Label_65.l0 k l0 (l0.length : Int) 0
theorem impl_Label_65.calls (k : Nat) (A0 : Option Addr) (c0 : Nat) (l0 : List (S35))  (r : Int) (w : World) (hr0 : Kd.C k35 w A0 l0.length l0) (hc0 : l0.length ≤ c0) (h : impl_Label_65.f k l0 = some r) :
  Calls Try.prog 65 #[.slice A0 l0.length c0, .func (.func 49) #[] #[]] w fun e w' => e = .returned (.int .i64 r) ∧ Below w.heap.size w w' := by
 have hu35 := Try.underlying35
 have HR0 := AM hr0
 have HC0 := AM hc0
 clear hr0 hc0
 have HB := AM (Below.refl w.heap.size w)
 have H := h
 unfold impl_Label_65.f at H
 clear h
 have H' := AM H
 clear H
 go_enter Try.func65, Try.ntmps65
 go_wp2
 go_loopg [8] k (fun kq v8 w' => ∃ (x8_1 : Int), v8 = .int .i64 x8_1 ∧ Za (impl_Label_65.l0 kq l0 (l0.length : Int) x8_1 = some r) ∧ Za (kq ≤ k) ∧ Za (Below w.heap.size w w'))
 case atStart => exact ⟨(0), ZSM, H', ⟨Nat.le_refl _⟩, ⟨ZB⟩⟩
 case round => (
 clear H'
 try clear p2
 obtain ⟨x8_1, rfl, HA, HK1, HB⟩ := hrel
 cases gk with
 | zero => exact absurd HA.out (by simp [impl_Label_65.l0])
 | succ k1 =>
  have H := HA.out
  clear HA
  simp only [impl_Label_65.l0] at H
  by_cases c3 : x8_1 < (l0.length : Int)
  ·(
  rw [if_pos c3] at H
  have c3b0 := decide_eq_true c3
  clear c3
  by_cases c4 : 0 ≤ x8_1
  ·(
  rw [if_pos c4] at H
  have c4b0 := decide_eq_true c4
  clear c4
  by_cases c5 : x8_1 < (l0.length : Int)
  ·(
  rw [if_pos c5] at H
  have c5b0 := decide_eq_true c5
  clear c5
  obtain ⟨t112, A6, H⟩ := ZOB H; try dsimp only at H
  by_cases c7 : t112 = true
  ·(
  subst c7
  have H1 := H; rw [if_pos rfl] at H1
  clear H
  have H := H1
  clear H1
  obtain rfl := Option.some.inj H
  have p111 : 0 ≤ (x8_1 : Int) := ZD
  have q111 : x8_1 < (l0.length : Int) := ZD
  obtain ⟨ad111, e111, hx111_0, hx111_1⟩ := at_T35 HR0.out x8_1 p111 q111
  cases e111
  replace hx111_0 := ZHX HB hx111_0
  replace hx111_1 := ZHX HB hx111_1
  replace p111 := eq_true p111
  replace q111 := eq_true q111
  go_wp2_with (first | ((with_reducible refine gate_calleev ⟨_, _, _, rfl⟩ ?_); refine goesLv_ (some 16) rfl rfl Try.func49 (by kernel_rfl) rfl #[.agg #[.int .i64 ((D35 l0 x8_1).f0), .int .i64 ((D35 l0 x8_1).f1)]] ⟨_, _, rfl, rfl⟩ ZG ?_; (with_reducible refine (impl_ProgOk_1.calls ((D35 l0 x8_1).f0) ((D35 l0 x8_1).f1) true _ A6.out).mono ?_); rintro e w8 ⟨rfl, hb⟩; refine ZV1 ?_; replace HB := ZT HB hb; clear hb))
  go_ret
  exact ⟨ZE, ZB⟩)
  ·(
  replace c7 := Bool.eq_false_iff.mpr c7
  subst c7
  have H1 := H; rw [if_neg ZFT] at H1
  clear H
  have H := H1
  clear H1
  have H' := AM H
  clear H
  have p111 : 0 ≤ (x8_1 : Int) := ZD
  have q111 : x8_1 < (l0.length : Int) := ZD
  obtain ⟨ad111, e111, hx111_0, hx111_1⟩ := at_T35 HR0.out x8_1 p111 q111
  cases e111
  replace hx111_0 := ZHX HB hx111_0
  replace hx111_1 := ZHX HB hx111_1
  replace p111 := eq_true p111
  replace q111 := eq_true q111
  go_wp2_with (first | ((with_reducible refine gate_calleev ⟨_, _, _, rfl⟩ ?_); refine goesLv_ (some 16) rfl rfl Try.func49 (by kernel_rfl) rfl #[.agg #[.int .i64 ((D35 l0 x8_1).f0), .int .i64 ((D35 l0 x8_1).f1)]] ⟨_, _, rfl, rfl⟩ ZG ?_; (with_reducible refine (impl_ProgOk_1.calls ((D35 l0 x8_1).f0) ((D35 l0 x8_1).f1) false _ A6.out).mono ?_); rintro e w9 ⟨rfl, hb⟩; refine ZV1 ?_; replace HB := ZT HB hb; clear hb))
  go_roundg k1
  case measure => have := HK1.out; omega
  case rel => exact ⟨(wrap64 (x8_1 + 1)), ZSM, H', ⟨by have := HK1.out; omega⟩, ⟨ZB⟩⟩))
  ·(
  rw [if_neg c5] at H
  exact absurd H (by simp)))
  ·(
  rw [if_neg c4] at H
  exact absurd H (by simp)))
  ·(
  rw [if_neg c3] at H
  have c3b0 := decide_eq_false c3
  clear c3
  obtain rfl := Option.some.inj H
  go_wp2
  go_ret
  exact ⟨ZE, ZB⟩))

/-! ### impl_Label_48: function 48 -/
def impl_Label_48.f (k : Nat) (l0 : List (S35))  : Option (Bool) := (impl_Label_65.f k l0).bind fun t113 => (some (decide (t113 ≥ 0)))
theorem impl_Label_48.calls (k : Nat) (A0 : Option Addr) (c0 : Nat) (l0 : List (S35))  (r : Bool) (w : World) (hr0 : Kd.C k35 w A0 l0.length l0) (hc0 : l0.length ≤ c0) (h : impl_Label_48.f k l0 = some r) :
  Calls Try.prog 48 #[.slice A0 l0.length c0, .func (.func 49) #[] #[]] w fun e w' => e = .returned (.bool r) ∧ Below w.heap.size w w' := by
 have HR0 := AM hr0
 have HC0 := AM hc0
 clear hr0 hc0
 have HB := AM (Below.refl w.heap.size w)
 have H := h
 unfold impl_Label_48.f at H
 clear h
 obtain ⟨t113, A3, H⟩ := ZOB H; try dsimp only at H
 obtain rfl := Option.some.inj H
 go_enter Try.func48, Try.ntmps48
 go_wp2_with (first | ((with_reducible refine gate_callee (f := 65) rfl ?_); refine ZGL (some 7) Try.func65 #[.slice A0 l0.length c0, .func (.func 49) #[] #[]] ?_; (with_reducible refine (impl_Label_65.calls k _ _ l0  t113 _ ?side1 HC0.out A3.out).mono ?_); (case side1 => exact ZQ HR0.out); rintro e w4 ⟨rfl, hb⟩; refine ZV1 ?_; replace HB := ZT HB hb; clear hb))
 go_ret
 exact ⟨ZE, ZB⟩

/-! ### impl_Prog_isVar: function 66 -/
def impl_Prog_isVar.f (l0_0 : List (S35)) (l0_1 : List (S40)) (a1 : Int) : Option (Bool) := (impl_in.f a1 0 (wrap64 ((l0_0.length : Int) - 1))).bind fun t115 => (some t115)
theorem impl_Prog_isVar.calls (A0_0 : Option Addr) (c0_0 : Nat) (l0_0 : List (S35)) (A0_1 : Option Addr) (c0_1 : Nat) (l0_1 : List (S40)) (a1 : Int) (r : Bool) (w : World) (hr0_0 : Kd.C k35 w A0_0 l0_0.length l0_0) (hc0_0 : l0_0.length ≤ c0_0) (hr0_1 : Kd.C k40 w A0_1 l0_1.length l0_1) (hc0_1 : l0_1.length ≤ c0_1) (h : impl_Prog_isVar.f l0_0 l0_1 a1 = some r) :
  Calls Try.prog 66 #[.agg #[.slice A0_0 l0_0.length c0_0, .slice A0_1 l0_1.length c0_1], .int .i64 a1] w fun e w' => e = .returned (.bool r) ∧ Below w.heap.size w w' := by
 have hu26 := Try.underlying26
 have HR0_0 := AM hr0_0
 have HC0_0 := AM hc0_0
 clear hr0_0 hc0_0
 have HR0_1 := AM hr0_1
 have HC0_1 := AM hc0_1
 clear hr0_1 hc0_1
 have HB := AM (Below.refl w.heap.size w)
 have H := h
 unfold impl_Prog_isVar.f at H
 clear h
 obtain ⟨t115, A3, H⟩ := ZOB H; try dsimp only at H
 obtain rfl := Option.some.inj H
 go_enter Try.func66, Try.ntmps66
 go_wp2_with (first | ((with_reducible refine gate_dst (N := 2) rfl ?_); refine ZXW w (N := 2) (cs := #[.slice A0_0 l0_0.length c0_0, .slice A0_1 l0_1.length c0_1]) (t := 26) ?_; intro gb114 hg w4 BK114 GW114 hb; replace HB := ZT HB hb; clear hb hg; have hcz5 := ZC2 w4 BK114) | ((with_reducible refine gate_callee (f := 42) rfl ?_); refine ZGL (some 10) Try.func42 #[.int .i64 a1, .int .i64 0, .int .i64 (wrap64 ((l0_0.length : Int) - 1))] ?_; (with_reducible refine (impl_in.calls a1 0 (wrap64 ((l0_0.length : Int) - 1)) t115 _ A3.out).mono ?_); rintro e w' ⟨rfl, ⟨nd, rfl⟩⟩; refine ZV1 ?_))
 go_ret
 exact ⟨ZE, ZB⟩

/-! ### impl_isNum: function 82 -/
def impl_isNum.f (a0 : Int) : Option (Bool) := (impl_in.f a0 0 9).bind fun t116 => (some t116)
theorem impl_isNum.calls (a0 : Int) (r : Bool) (w : World) (h : impl_isNum.f a0 = some r) :
  Calls Try.prog 82 #[.int .i64 a0] w fun e w' => e = .returned (.bool r) ∧ Drawn0 w w' := by
 have H := h
 unfold impl_isNum.f at H
 clear h
 obtain ⟨t116, A2, H⟩ := ZOB H; try dsimp only at H
 obtain rfl := Option.some.inj H
 go_enter Try.func82, Try.ntmps82
 go_wp2_with (first | ((with_reducible refine gate_callee (f := 42) rfl ?_); refine ZGL (some 4) Try.func42 #[.int .i64 a0, .int .i64 0, .int .i64 9] ?_; (with_reducible refine (impl_in.calls a0 0 9 t116 _ A2.out).mono ?_); rintro e w' ⟨rfl, ⟨nd, rfl⟩⟩; refine ZV1 ?_))
 go_ret
 exact ⟨by first | rfl | (simp; done) | (simp [*]; done), by repeat (first | exact Drawn0.refl _ | apply Drawn0.step)⟩

end Go.Proofs.Ytkkdeojbkfjlpaa.A
