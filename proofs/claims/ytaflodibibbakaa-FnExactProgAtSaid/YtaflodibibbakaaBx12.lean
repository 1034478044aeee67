/- Go functions as Lean functions, and for each its contract; written by wip/tools/pr.py over the kit's print. -/
import Derived.Test.YtaflodibibbakaaBx0
namespace Go.Proofs.Ytaflodibibbakaa.B
open Go.RowKit Go.Proofs.YtaflodibibbakaaW.PrintWords Go.Proofs.YtaflodibibbakaaW.PrintLast Go.Proofs.YtaflodibibbakaaW.PrintMore
attribute [local go_sem] max2_int min2_int max_two min_two max_three min_three max_four min_four
set_option linter.unusedVariables false
set_option linter.unusedSimpArgs false
set_option maxHeartbeats 8000000
set_option maxRecDepth 100000

/-! ### impl_size: function 58 -/
mutual
def impl_size.l0 : Nat → Int → List (S50) → Int → Int → Option (Int)
 | 0, _, _, _, _ => none
 | k + 1, x3, x8, x9, x10 => if x10 < x9 then (if 0 ≤ x10 then (if x10 < (x8.length : Int) then ((impl_size.f k ((rd_T50 x8 x10).f4)).bind fun t266 => ((impl_size.f k ((rd_T50 x8 x10).f5)).bind fun t267 => (impl_size.l0 k (wrap64 (x3 + (wrap64 (t266 + t267)))) x8 x9 (wrap64 (x10 + 1))))) else (none)) else (none)) else (some x3)
def impl_size.f : Nat → List (S50) → Option (Int)
 | 0, _ => none
 | k + 1, l0 => impl_size.l0 k (l0.length : Int) l0 (l0.length : Int) 0
end
def impl_size.T5 : Bool × List (List Nat × List Nat) := (true, [([], []), ([], []), ([1], [1]), ([2], [2]), ([], []), ([4], [4]), ([5, 3], [5]), ([3, 6], [3, 6]), ([0, 7], [0, 7]), ([8, 6, 0, 1, 2, 3, 4, 5, 6, 7, 8], [0, 8])])
def impl_size.B5 : List Nat := [0, 0, 2, 6, 0, 16, 62, 126, 255, 511]
theorem impl_size.tab5 : rtab .any (opsOf Try.f58 5) = impl_size.T5 := by kernel_rfl
theorem impl_size.bits5 : waitsOk impl_size.T5.2 impl_size.B5 = true := by kernel_rfl
theorem impl_size.calls (k : Nat) : ∀ (A0 : Option Addr) (c0 : Nat) (l0 : List (S50)) (r : Int) (w : World) (hr0 : Kd.C k50 w A0 l0.length l0) (hc0 : l0.length ≤ c0) (h : impl_size.f k l0 = some r),
  Calls Try.prog 58 #[.slice A0 l0.length c0] w fun e w' => e = .returned (.int .i64 r) ∧ Below w.heap.size w w' := by
 induction k using Nat.strongRecOn with
 | _ k ih =>
 intro A0 c0 l0 r w hr0 hc0 h
 cases k with
 | zero => exact absurd h (by simp [impl_size.f])
 | succ k =>
 simp only [impl_size.f] at h
 have hu50 := Try.underlying50
 have HR0 := AM hr0
 have HC0 := AM hc0
 clear hr0 hc0
 have HB := AM (Below.refl w.heap.size w)
 have H : (impl_size.l0 k (l0.length : Int) l0 (l0.length : Int) 0) = some r := h
 clear h
 have H' := AM H
 clear H
 go_enter Try.func58, Try.ntmps58
 go_wp2
 go_loopg [3, 10] k (fun kq v3 v10 w' => ∃ (x3_1 : Int) (x10_1 : Int), v3 = .int .i64 x3_1 ∧ v10 = .int .i64 x10_1 ∧ Aside0 (impl_size.l0 kq x3_1 l0 (l0.length : Int) x10_1 = some r) ∧ Aside0 (kq ≤ k) ∧ Aside0 (Below w.heap.size w w'))
 case atStart => exact ⟨((l0.length : Int)), (0), (by first | rfl | (simp; done) | (simp [*]; done)), (by first | rfl | (simp; done) | (simp [*]; done)), H', ⟨Nat.le_refl _⟩, ⟨ZB⟩⟩
 case round => (
 clear H'
 obtain ⟨x3_1, x10_1, rfl, rfl, HA, HK1, HB⟩ := hrel
 cases gk with
 | zero => exact absurd HA.out (by simp [impl_size.l0])
 | succ k1 =>
  have H := HA.out
  clear HA
  simp only [impl_size.l0] at H
  by_cases c2 : x10_1 < (l0.length : Int)
  ·(
  rw [if_pos c2] at H
  have c2b0 := decide_eq_true c2
  clear c2
  by_cases c3 : 0 ≤ x10_1
  ·(
  rw [if_pos c3] at H
  have c3b0 := decide_eq_true c3
  clear c3
  by_cases c4 : x10_1 < (l0.length : Int)
  ·(
  rw [if_pos c4] at H
  have c4b0 := decide_eq_true c4
  clear c4
  obtain ⟨t266, A5, H⟩ := ZOB H; try dsimp only at H
  obtain ⟨t267, A6, H⟩ := ZOB H; try dsimp only at H
  have H' := AM H
  clear H
  have p264 : 0 ≤ (x10_1 : Int) := ZD
  have q264 : x10_1 < (l0.length : Int) := ZD
  obtain ⟨ad264, A264_6, c264_6, A264_7, c264_7, e264, hx264_0, hx264_1, hx264_2, hx264_3, hx264_4, hx264_5, hx264_6, hx264_7, hl264_6, hi264_6, hl264_7, hi264_7⟩ := at_T50 HR0.out x10_1 p264 q264
  cases e264
  replace hx264_0 := ZHX HB hx264_0
  replace hx264_1 := ZHX HB hx264_1
  replace hx264_2 := ZHX HB hx264_2
  replace hx264_3 := ZHX HB hx264_3
  replace hx264_4 := ZHX HB hx264_4
  replace hx264_5 := ZHX HB hx264_5
  replace hx264_6 := ZHX HB hx264_6
  replace hx264_7 := ZHX HB hx264_7
  have HR264_6 := AM hi264_6
  have HC264_6 := AM hl264_6
  clear hi264_6 hl264_6
  have HR264_7 := AM hi264_7
  have HC264_7 := AM hl264_7
  clear hi264_7 hl264_7
  replace p264 := eq_true p264
  replace q264 := eq_true q264
  try go_wp2_with (first | ((with_reducible refine gate_dst (N := 5) rfl ?_); refine ZX (N := 5) (cs := #[.int .i64 0, .int .i64 0, .int .i64 0, .int .i64 0, .int .i64 0, .int .i64 0, .slice none 0 0, .slice none 0 0]) (t := 50) ?_; intro gb265 hg w7 hbox hb; have BK265 := AM (hbox); have GW265 : Aside0 (w.heap.size ≤ gb265) := ZS hg; have GE265 : Aside0 (w.heap.size ≤ gb265) := ZS hg; replace HB := ZT HB hb; clear hb hbox hg; have hcz8 := ZC8 w7 BK265; have hfz8 := ZF8 BK265))
  have n0_ : Aside0 (((((((((w7.setCell ⟨gb265, 0, none⟩ (.int .i64 ((rd_T50 l0 x10_1).f0))).setCell ⟨gb265, 1, none⟩ (.int .i64 ((rd_T50 l0 x10_1).f1))).setCell ⟨gb265, 2, none⟩ (.int .i64 ((rd_T50 l0 x10_1).f2.f0))).setCell ⟨gb265, 3, none⟩ (.int .i64 ((rd_T50 l0 x10_1).f2.f1))).setCell ⟨gb265, 4, none⟩ (.int .i64 ((rd_T50 l0 x10_1).f2.f2))).setCell ⟨gb265, 5, none⟩ (.int .i64 ((rd_T50 l0 x10_1).f3))).setCell ⟨gb265, 6, none⟩ (.slice A264_6 ((rd_T50 l0 x10_1).f4).length c264_6)).setCell ⟨gb265, 7, none⟩ (.slice A264_7 ((rd_T50 l0 x10_1).f5).length c264_7)).heap[gb265]? = some (.cells #[.int .i64 ((rd_T50 l0 x10_1).f0), .int .i64 ((rd_T50 l0 x10_1).f1), .int .i64 ((rd_T50 l0 x10_1).f2.f0), .int .i64 ((rd_T50 l0 x10_1).f2.f1), .int .i64 ((rd_T50 l0 x10_1).f2.f2), .int .i64 ((rd_T50 l0 x10_1).f3), .slice A264_6 ((rd_T50 l0 x10_1).f4).length c264_6, .slice A264_7 ((rd_T50 l0 x10_1).f5).length c264_7] 50 (0, 0))) := ⟨ZZ BK265.out⟩
  have n1_ : Aside0 (Below w.heap.size w ((((((((w7.setCell ⟨gb265, 0, none⟩ (.int .i64 ((rd_T50 l0 x10_1).f0))).setCell ⟨gb265, 1, none⟩ (.int .i64 ((rd_T50 l0 x10_1).f1))).setCell ⟨gb265, 2, none⟩ (.int .i64 ((rd_T50 l0 x10_1).f2.f0))).setCell ⟨gb265, 3, none⟩ (.int .i64 ((rd_T50 l0 x10_1).f2.f1))).setCell ⟨gb265, 4, none⟩ (.int .i64 ((rd_T50 l0 x10_1).f2.f2))).setCell ⟨gb265, 5, none⟩ (.int .i64 ((rd_T50 l0 x10_1).f3))).setCell ⟨gb265, 6, none⟩ (.slice A264_6 ((rd_T50 l0 x10_1).f4).length c264_6)).setCell ⟨gb265, 7, none⟩ (.slice A264_7 ((rd_T50 l0 x10_1).f5).length c264_7))) := ⟨ZB⟩
  (try clear BK265)
  (try clear HB)
  generalize ((((((((w7.setCell ⟨gb265, 0, none⟩ (.int .i64 ((rd_T50 l0 x10_1).f0))).setCell ⟨gb265, 1, none⟩ (.int .i64 ((rd_T50 l0 x10_1).f1))).setCell ⟨gb265, 2, none⟩ (.int .i64 ((rd_T50 l0 x10_1).f2.f0))).setCell ⟨gb265, 3, none⟩ (.int .i64 ((rd_T50 l0 x10_1).f2.f1))).setCell ⟨gb265, 4, none⟩ (.int .i64 ((rd_T50 l0 x10_1).f2.f2))).setCell ⟨gb265, 5, none⟩ (.int .i64 ((rd_T50 l0 x10_1).f3))).setCell ⟨gb265, 6, none⟩ (.slice A264_6 ((rd_T50 l0 x10_1).f4).length c264_6)).setCell ⟨gb265, 7, none⟩ (.slice A264_7 ((rd_T50 l0 x10_1).f5).length c264_7)) = w9 at n0_ n1_ ⊢
  have BK265 := n0_
  have HB := n1_
  clear n0_ n1_
  replace BK265 := AM (blk_drew BK265.out)
  replace HB := AM (below_drew1 HB.out)
  refine start_ (n := 10) (S := fun w' => w'.cell? ⟨gb265, 0, none⟩ = some (.int .i64 ((rd_T50 l0 x10_1).f0)) ∧ w'.cell? ⟨gb265, 1, none⟩ = some (.int .i64 ((rd_T50 l0 x10_1).f1)) ∧ w'.cell? ⟨gb265, 2, none⟩ = some (.int .i64 ((rd_T50 l0 x10_1).f2.f0)) ∧ w'.cell? ⟨gb265, 3, none⟩ = some (.int .i64 ((rd_T50 l0 x10_1).f2.f1)) ∧ w'.cell? ⟨gb265, 4, none⟩ = some (.int .i64 ((rd_T50 l0 x10_1).f2.f2)) ∧ w'.cell? ⟨gb265, 5, none⟩ = some (.int .i64 ((rd_T50 l0 x10_1).f3)) ∧ w'.cell? ⟨gb265, 6, none⟩ = some (.slice A264_6 ((rd_T50 l0 x10_1).f4).length c264_6) ∧ w'.cell? ⟨gb265, 7, none⟩ = some (.slice A264_7 ((rd_T50 l0 x10_1).f5).length c264_7)) (ds := []) #[F,F,F,F,F,F,F,F,F,F] (by kernel_rfl) rfl rfl ⟨ZA BK265 0, ZA BK265 1, ZA BK265 2, ZA BK265 3, ZA BK265 4, ZA BK265 5, ZA BK265 6, ZA BK265 7⟩ (fun hHeld => ?_); refine with_tabW impl_size.tab5 impl_size.bits5 (fun HT_ HW_ => ?_)
  generalize w9.drew = w10 at BK265 HB hHeld ⊢
  refine ZU 0 14 #[T,F,F,F,F,F,F,F,F,F] ?_
  refine ZU 1 15 #[T,T,F,F,F,F,F,F,F,F] ?_
  refine ZU 4 18 #[T,T,F,F,T,F,F,F,F,F] ?_
  refine ZTK 2 16 #[T,T,T,F,T,F,F,F,F,F] hHeld ?_
  refine ZTK 5 19 #[T,T,T,F,T,T,F,F,F,F] hHeld ?_
  refine one_ (i := 3) (N := some 17) #[T,T,T,T,T,T,F,F,F,F] rfl rfl (one_of HT_.out (by kernel_rfl)) (by decide) (fun K hK => ?_)
  refine ZGO Try.func58 #[.slice A264_6 ((rd_T50 l0 x10_1).f4).length c264_6] ?_
  with_reducible refine (ih k1 (by have := HK1.out; omega) _ _ ((rd_T50 l0 x10_1).f4) t266 _ ?side1 ?side2 A5.out).mono ?_
  (case side1 => exact ZQ (Kd.C_below HR264_6.out HB.out))
  (case side2 => exact HC264_6.out)
  rintro e w11 ⟨rfl, hb⟩
  refine ⟨_, rfl, ?_⟩
  replace BK265 := ZW BK265 hb
  replace HB := ZT HB hb
  (try clear hb)
  (try clear hb2)
  (try clear hk)
  (try clear hi)
  refine hK.out _ _ ⟨ZA BK265 0, ZA BK265 1, ZA BK265 2, ZA BK265 3, ZA BK265 4, ZA BK265 5, ZA BK265 6, ZA BK265 7⟩ (fun hHeld => ?_)
  clear hK K
  refine ZNO 17 ?_
  refine one_ (i := 6) (N := some 20) #[T,T,T,T,T,T,T,F,F,F] rfl rfl (one_of HT_.out (by kernel_rfl)) (by decide) (fun K hK => ?_)
  refine ZGO Try.func58 #[.slice A264_7 ((rd_T50 l0 x10_1).f5).length c264_7] ?_
  with_reducible refine (ih k1 (by have := HK1.out; omega) _ _ ((rd_T50 l0 x10_1).f5) t267 _ ?side1 ?side2 A6.out).mono ?_
  (case side1 => exact ZQ (Kd.C_below HR264_7.out HB.out))
  (case side2 => exact HC264_7.out)
  rintro e w12 ⟨rfl, hb⟩
  refine ⟨_, rfl, ?_⟩
  replace BK265 := ZW BK265 hb
  replace HB := ZT HB hb
  (try clear hb)
  (try clear hb2)
  (try clear hk)
  (try clear hi)
  refine hK.out _ _ ⟨ZA BK265 0, ZA BK265 1, ZA BK265 2, ZA BK265 3, ZA BK265 4, ZA BK265 5, ZA BK265 6, ZA BK265 7⟩ (fun hHeld => ?_)
  clear hK K
  refine ZNO 20 ?_
  refine ZU 7 21 #[T,T,T,T,T,T,T,T,F,F] ?_
  refine ZU 8 22 #[T,T,T,T,T,T,T,T,T,F] ?_
  refine ZU 9 3 #[T,T,T,T,T,T,T,T,T,T] ?_
  refine done_ (done_of HT_.out (by kernel_rfl)) ?_
  try go_wp2
  go_roundg k1
  case measure => have := HK1.out; omega
  case rel => exact ⟨(wrap64 (x3_1 + (wrap64 (t266 + t267)))), (wrap64 (x10_1 + 1)), (by first | rfl | (simp; done) | (simp [*]; done)), (by first | rfl | (simp; done) | (simp [*]; done)), H', ⟨by have := HK1.out; omega⟩, ⟨ZB⟩⟩)
  ·(
  rw [if_neg c4] at H
  exact absurd H (by simp)))
  ·(
  rw [if_neg c3] at H
  exact absurd H (by simp)))
  ·(
  rw [if_neg c2] at H
  have c2b0 := decide_eq_false c2
  clear c2
  obtain rfl := Option.some.inj H
  go_wp2
  go_ret
  exact ⟨ZE, ZB⟩))

/-! ### impl_in: function 57 -/
def impl_in.f (a0 : Int) (a1 : Int) (a2 : Int) : Option (Bool) := if a1 ≤ a0 then (some (decide (a0 ≤ a2))) else (some false)
theorem impl_in.calls (a0 : Int) (a1 : Int) (a2 : Int) (r : Bool) (w : World) (h : impl_in.f a0 a1 a2 = some r) :
  Calls Try.prog 57 #[.int .i64 a0, .int .i64 a1, .int .i64 a2] w fun e w' => e = .returned (.bool r) ∧ Drawn0 w w' := by
 have H := h
 unfold impl_in.f at H
 clear h
 by_cases c4 : a1 ≤ a0
 ·(
 rw [if_pos c4] at H
 have c4b0 := decide_eq_true c4
 clear c4
 obtain rfl := Option.some.inj H
 go_enter Try.func57, Try.ntmps57
 go_wp2
 go_ret
 exact ⟨by first | rfl | (simp; done) | (simp [*]; done), by repeat (first | exact Drawn0.refl _ | apply Drawn0.step)⟩)
 ·(
 rw [if_neg c4] at H
 have c4b0 := decide_eq_false c4
 clear c4
 obtain rfl := Option.some.inj H
 go_enter Try.func57, Try.ntmps57
 go_wp2
 go_ret
 exact ⟨by first | rfl | (simp; done) | (simp [*]; done), by repeat (first | exact Drawn0.refl _ | apply Drawn0.step)⟩)

/-! ### impl_isSet: function 83 -/
def impl_isSet.f (a0 : Int) : Option (Bool) := (impl_in.f a0 0 7).bind fun t268 => (some t268)
theorem impl_isSet.calls (a0 : Int) (r : Bool) (w : World) (h : impl_isSet.f a0 = some r) :
  Calls Try.prog 83 #[.int .i64 a0] w fun e w' => e = .returned (.bool r) ∧ Drawn0 w w' := by
 have H := h
 unfold impl_isSet.f at H
 clear h
 obtain ⟨t268, A2, H⟩ := ZOB H; try dsimp only at H
 obtain rfl := Option.some.inj H
 go_enter Try.func83, Try.ntmps83
 go_wp2_with (first | ((with_reducible refine gate_callee (f := 57) rfl ?_); refine ZGL (some 4) Try.func57 #[.int .i64 a0, .int .i64 0, .int .i64 7] ?_; (with_reducible refine (impl_in.calls a0 0 7 t268 _ A2.out).mono ?_); rintro e w' ⟨rfl, ⟨nd, rfl⟩⟩; refine ⟨_, rfl, ?_⟩))
 go_ret
 exact ⟨by first | rfl | (simp; done) | (simp [*]; done), by repeat (first | exact Drawn0.refl _ | apply Drawn0.step)⟩

/-! ### impl_LabelOk: function 72 -/
def impl_LabelOk.f (a0_0 : Int) (a0_1 : Int) : Option (Bool) := (impl_isSet.f a0_0).bind fun t270 => (if t270 = true then ((impl_isSet.f a0_1).bind fun t271 => (some t271)) else (some false))
theorem impl_LabelOk.calls (a0_0 : Int) (a0_1 : Int) (r : Bool) (w : World) (h : impl_LabelOk.f a0_0 a0_1 = some r) :
  Calls Try.prog 72 #[.agg #[.int .i64 a0_0, .int .i64 a0_1]] w fun e w' => e = .returned (.bool r) ∧ Below w.heap.size w w' := by
 have hu60 := Try.underlying60
 have HB := AM (Below.refl w.heap.size w)
 have H := h
 unfold impl_LabelOk.f at H
 clear h
 obtain ⟨t270, A2, H⟩ := ZOB H; try dsimp only at H
 by_cases c3 : t270 = true
 ·(
 subst c3
 have H1 := H; rw [if_pos rfl] at H1
 clear H
 have H := H1
 clear H1
 obtain ⟨t271, A4, H⟩ := ZOB H; try dsimp only at H
 obtain rfl := Option.some.inj H
 go_enter Try.func72, Try.ntmps72
 go_wp2_with (first | ((with_reducible refine gate_dst (N := 1) rfl ?_); refine ZX (N := 1) (cs := #[.int .i64 a0_0, .int .i64 a0_1]) (t := 60) ?_; intro gb269 hg w5 hbox hb; have BK269 := AM (hbox); have GW269 : Aside0 (w.heap.size ≤ gb269) := ZS hg; have GE269 : Aside0 (w.heap.size ≤ gb269) := ZS hg; replace HB := ZT HB hb; clear hb hbox hg; have hcz6 := ZC2 w5 BK269; have hfz6 := ZF2 BK269) | ((with_reducible refine gate_callee (f := 83) rfl ?_); refine ZGL (some 5) Try.func83 #[.int .i64 a0_0] ?_; (with_reducible refine (impl_isSet.calls a0_0 true _ A2.out).mono ?_); rintro e w' ⟨rfl, ⟨nd, rfl⟩⟩; refine ⟨_, rfl, ?_⟩) | (go_at_call 83; (with_reducible refine (impl_isSet.calls a0_1 t271 _ A4.out).mono ?_); rintro e w' ⟨rfl, ⟨nd, rfl⟩⟩))
 go_ret
 exact ⟨ZE, ZB⟩)
 ·(
 replace c3 := Bool.eq_false_iff.mpr c3
 subst c3
 have H1 := H; rw [if_neg ZFT] at H1
 clear H
 have H := H1
 clear H1
 obtain rfl := Option.some.inj H
 go_enter Try.func72, Try.ntmps72
 go_wp2_with (first | ((with_reducible refine gate_dst (N := 1) rfl ?_); refine ZX (N := 1) (cs := #[.int .i64 a0_0, .int .i64 a0_1]) (t := 60) ?_; intro gb269 hg w7 hbox hb; have BK269 := AM (hbox); have GW269 : Aside0 (w.heap.size ≤ gb269) := ZS hg; have GE269 : Aside0 (w.heap.size ≤ gb269) := ZS hg; replace HB := ZT HB hb; clear hb hbox hg; have hcz8 := ZC2 w7 BK269; have hfz8 := ZF2 BK269) | ((with_reducible refine gate_callee (f := 83) rfl ?_); refine ZGL (some 5) Try.func83 #[.int .i64 a0_0] ?_; (with_reducible refine (impl_isSet.calls a0_0 false _ A2.out).mono ?_); rintro e w' ⟨rfl, ⟨nd, rfl⟩⟩; refine ⟨_, rfl, ?_⟩))
 go_ret
 exact ⟨ZE, ZB⟩)

/-! ### impl_ProgOk_1: function 71 -/
def impl_ProgOk_1.f (a0_0 : Int) (a0_1 : Int) : Option (Bool) := (impl_LabelOk.f a0_0 a0_1).bind fun t273 => (some (!t273))
theorem impl_ProgOk_1.calls (a0_0 : Int) (a0_1 : Int) (r : Bool) (w : World) (h : impl_ProgOk_1.f a0_0 a0_1 = some r) :
  Calls Try.prog 71 #[.agg #[.int .i64 a0_0, .int .i64 a0_1]] w fun e w' => e = .returned (.bool r) ∧ Below w.heap.size w w' := by
 have hu60 := Try.underlying60
 have HB := AM (Below.refl w.heap.size w)
 have H := h
 unfold impl_ProgOk_1.f at H
 clear h
 obtain ⟨t273, A2, H⟩ := ZOB H; try dsimp only at H
 obtain rfl := Option.some.inj H
 go_enter Try.func71, Try.ntmps71
 go_wp2_with (first | ((with_reducible refine gate_dst (N := 1) rfl ?_); refine ZX (N := 1) (cs := #[.int .i64 a0_0, .int .i64 a0_1]) (t := 60) ?_; intro gb272 hg w3 hbox hb; have BK272 := AM (hbox); have GW272 : Aside0 (w.heap.size ≤ gb272) := ZS hg; have GE272 : Aside0 (w.heap.size ≤ gb272) := ZS hg; replace HB := ZT HB hb; clear hb hbox hg; have hcz4 := ZC2 w3 BK272; have hfz4 := ZF2 BK272) | ((with_reducible refine gate_callee (f := 72) rfl ?_); refine ZGL (some 4) Try.func72 #[.agg #[.int .i64 a0_0, .int .i64 a0_1]] ?_; (with_reducible refine (impl_LabelOk.calls a0_0 a0_1 t273 _ A2.out).mono ?_); rintro e w5 ⟨rfl, hb⟩; refine ⟨_, rfl, ?_⟩; replace BK272 := ZW BK272 hb; replace HB := ZT HB hb; clear hb))
 go_ret
 exact ⟨ZE, ZB⟩

/-! ### impl_Label_82: function 82 -/
def impl_Label_82.l0 : Nat → List (S60) → Int → Int → Option (Int)
 | 0, _, _, _ => none
 | k + 1, x0, x7, x8 => if x8 < x7 then (if 0 ≤ x8 then (if x8 < (x0.length : Int) then ((impl_ProgOk_1.f ((rd_T60 x0 x8).f0) ((rd_T60 x0 x8).f1)).bind fun t275 => (if t275 = true then (some x8) else (impl_Label_82.l0 k x0 x7 (wrap64 (x8 + 1))))) else (none)) else (none)) else (some (-1))
def impl_Label_82.f (k : Nat) (l0 : List (S60))  : Option (Int) := impl_Label_82.l0 k l0 (l0.length : Int) 0
theorem impl_Label_82.calls (k : Nat) (A0 : Option Addr) (c0 : Nat) (l0 : List (S60))  (r : Int) (w : World) (hr0 : Kd.C k60 w A0 l0.length l0) (hc0 : l0.length ≤ c0) (h : impl_Label_82.f k l0 = some r) :
  Calls Try.prog 82 #[.slice A0 l0.length c0, .func (.func 71) #[] #[]] w fun e w' => e = .returned (.int .i64 r) ∧ Below w.heap.size w w' := by
 have hu60 := Try.underlying60
 have HR0 := AM hr0
 have HC0 := AM hc0
 clear hr0 hc0
 have HB := AM (Below.refl w.heap.size w)
 have H := h
 unfold impl_Label_82.f at H
 clear h
 have H' := AM H
 clear H
 go_enter Try.func82, Try.ntmps82
 go_wp2
 go_loopg [8] k (fun kq v8 w' => ∃ (x8_1 : Int), v8 = .int .i64 x8_1 ∧ Aside0 (impl_Label_82.l0 kq l0 (l0.length : Int) x8_1 = some r) ∧ Aside0 (kq ≤ k) ∧ Aside0 (Below w.heap.size w w'))
 case atStart => exact ⟨(0), (by first | rfl | (simp; done) | (simp [*]; done)), H', ⟨Nat.le_refl _⟩, ⟨ZB⟩⟩
 case round => (
 clear H'
 try clear p2
 obtain ⟨x8_1, rfl, HA, HK1, HB⟩ := hrel
 cases gk with
 | zero => exact absurd HA.out (by simp [impl_Label_82.l0])
 | succ k1 =>
  have H := HA.out
  clear HA
  simp only [impl_Label_82.l0] at H
  by_cases c3 : x8_1 < (l0.length : Int)
  ·(
  rw [if_pos c3] at H
  have c3b0 := decide_eq_true c3
  clear c3
  by_cases c4 : 0 ≤ x8_1
  ·(
  rw [if_pos c4] at H
  have c4b0 := decide_eq_true c4
  clear c4
  by_cases c5 : x8_1 < (l0.length : Int)
  ·(
  rw [if_pos c5] at H
  have c5b0 := decide_eq_true c5
  clear c5
  obtain ⟨t275, A6, H⟩ := ZOB H; try dsimp only at H
  by_cases c7 : t275 = true
  ·(
  subst c7
  have H1 := H; rw [if_pos rfl] at H1
  clear H
  have H := H1
  clear H1
  obtain rfl := Option.some.inj H
  have p274 : 0 ≤ (x8_1 : Int) := ZD
  have q274 : x8_1 < (l0.length : Int) := ZD
  obtain ⟨ad274, e274, hx274_0, hx274_1⟩ := at_T60 HR0.out x8_1 p274 q274
  cases e274
  replace hx274_0 := ZHX HB hx274_0
  replace hx274_1 := ZHX HB hx274_1
  replace p274 := eq_true p274
  replace q274 := eq_true q274
  go_wp2_with (first | ((with_reducible refine gate_calleev ⟨_, _, _, rfl⟩ ?_); refine goesLv_ (some 16) rfl rfl Try.func71 (by kernel_rfl) rfl #[.agg #[.int .i64 ((rd_T60 l0 x8_1).f0), .int .i64 ((rd_T60 l0 x8_1).f1)]] ⟨_, _, rfl, rfl⟩ ZG ?_; (with_reducible refine (impl_ProgOk_1.calls ((rd_T60 l0 x8_1).f0) ((rd_T60 l0 x8_1).f1) true _ A6.out).mono ?_); rintro e w8 ⟨rfl, hb⟩; refine ⟨_, rfl, ?_⟩; replace HB := ZT HB hb; clear hb))
  go_ret
  exact ⟨ZE, ZB⟩)
  ·(
  replace c7 := Bool.eq_false_iff.mpr c7
  subst c7
  have H1 := H; rw [if_neg ZFT] at H1
  clear H
  have H := H1
  clear H1
  have H' := AM H
  clear H
  have p274 : 0 ≤ (x8_1 : Int) := ZD
  have q274 : x8_1 < (l0.length : Int) := ZD
  obtain ⟨ad274, e274, hx274_0, hx274_1⟩ := at_T60 HR0.out x8_1 p274 q274
  cases e274
  replace hx274_0 := ZHX HB hx274_0
  replace hx274_1 := ZHX HB hx274_1
  replace p274 := eq_true p274
  replace q274 := eq_true q274
  go_wp2_with (first | ((with_reducible refine gate_calleev ⟨_, _, _, rfl⟩ ?_); refine goesLv_ (some 16) rfl rfl Try.func71 (by kernel_rfl) rfl #[.agg #[.int .i64 ((rd_T60 l0 x8_1).f0), .int .i64 ((rd_T60 l0 x8_1).f1)]] ⟨_, _, rfl, rfl⟩ ZG ?_; (with_reducible refine (impl_ProgOk_1.calls ((rd_T60 l0 x8_1).f0) ((rd_T60 l0 x8_1).f1) false _ A6.out).mono ?_); rintro e w9 ⟨rfl, hb⟩; refine ⟨_, rfl, ?_⟩; replace HB := ZT HB hb; clear hb))
  go_roundg k1
  case measure => have := HK1.out; omega
  case rel => exact ⟨(wrap64 (x8_1 + 1)), (by first | rfl | (simp; done) | (simp [*]; done)), H', ⟨by have := HK1.out; omega⟩, ⟨ZB⟩⟩))
  ·(
  rw [if_neg c5] at H
  exact absurd H (by simp)))
  ·(
  rw [if_neg c4] at H
  exact absurd H (by simp)))
  ·(
  rw [if_neg c3] at H
  have c3b0 := decide_eq_false c3
  clear c3
  obtain rfl := Option.some.inj H
  go_wp2
  go_ret
  exact ⟨ZE, ZB⟩))

/-! ### impl_Label_70: function 70 -/
def impl_Label_70.f (k : Nat) (l0 : List (S60))  : Option (Bool) := (impl_Label_82.f k l0).bind fun t276 => (some (decide (t276 ≥ 0)))
theorem impl_Label_70.calls (k : Nat) (A0 : Option Addr) (c0 : Nat) (l0 : List (S60))  (r : Bool) (w : World) (hr0 : Kd.C k60 w A0 l0.length l0) (hc0 : l0.length ≤ c0) (h : impl_Label_70.f k l0 = some r) :
  Calls Try.prog 70 #[.slice A0 l0.length c0, .func (.func 71) #[] #[]] w fun e w' => e = .returned (.bool r) ∧ Below w.heap.size w w' := by
 have HR0 := AM hr0
 have HC0 := AM hc0
 clear hr0 hc0
 have HB := AM (Below.refl w.heap.size w)
 have H := h
 unfold impl_Label_70.f at H
 clear h
 obtain ⟨t276, A3, H⟩ := ZOB H; try dsimp only at H
 obtain rfl := Option.some.inj H
 go_enter Try.func70, Try.ntmps70
 go_wp2_with (first | ((with_reducible refine gate_callee (f := 82) rfl ?_); refine ZGL (some 7) Try.func82 #[.slice A0 l0.length c0, .func (.func 71) #[] #[]] ?_; (with_reducible refine (impl_Label_82.calls k _ _ l0  t276 _ ?side1 ?side2 A3.out).mono ?_); (case side1 => exact ZQ HR0.out); (case side2 => exact HC0.out); rintro e w4 ⟨rfl, hb⟩; refine ⟨_, rfl, ?_⟩; replace HB := ZT HB hb; clear hb))
 go_ret
 exact ⟨ZE, ZB⟩

/-! ### impl_isHost: function 80 -/
def impl_isHost.f (a0 : Int) : Option (Bool) := (impl_in.f a0 0 2).bind fun t277 => (some t277)
theorem impl_isHost.calls (a0 : Int) (r : Bool) (w : World) (h : impl_isHost.f a0 = some r) :
  Calls Try.prog 80 #[.int .i64 a0] w fun e w' => e = .returned (.bool r) ∧ Drawn0 w w' := by
 have H := h
 unfold impl_isHost.f at H
 clear h
 obtain ⟨t277, A2, H⟩ := ZOB H; try dsimp only at H
 obtain rfl := Option.some.inj H
 go_enter Try.func80, Try.ntmps80
 go_wp2_with (first | ((with_reducible refine gate_callee (f := 57) rfl ?_); refine ZGL (some 4) Try.func57 #[.int .i64 a0, .int .i64 0, .int .i64 2] ?_; (with_reducible refine (impl_in.calls a0 0 2 t277 _ A2.out).mono ?_); rintro e w' ⟨rfl, ⟨nd, rfl⟩⟩; refine ⟨_, rfl, ?_⟩))
 go_ret
 exact ⟨by first | rfl | (simp; done) | (simp [*]; done), by repeat (first | exact Drawn0.refl _ | apply Drawn0.step)⟩

/-! ### impl_Prog_isVar: function 84 -/
def impl_Prog_isVar.f (l0_0 : List (S60)) (l0_1 : List (S50)) (a1 : Int) : Option (Bool) := (impl_in.f a1 0 (wrap64 ((l0_0.length : Int) - 1))).bind fun t279 => (some t279)
theorem impl_Prog_isVar.calls (A0_0 : Option Addr) (c0_0 : Nat) (l0_0 : List (S60)) (A0_1 : Option Addr) (c0_1 : Nat) (l0_1 : List (S50)) (a1 : Int) (r : Bool) (w : World) (hr0_0 : Kd.C k60 w A0_0 l0_0.length l0_0) (hc0_0 : l0_0.length ≤ c0_0) (hr0_1 : Kd.C k50 w A0_1 l0_1.length l0_1) (hc0_1 : l0_1.length ≤ c0_1) (h : impl_Prog_isVar.f l0_0 l0_1 a1 = some r) :
  Calls Try.prog 84 #[.agg #[.slice A0_0 l0_0.length c0_0, .slice A0_1 l0_1.length c0_1], .int .i64 a1] w fun e w' => e = .returned (.bool r) ∧ Below w.heap.size w w' := by
 have hu32 := Try.underlying32
 have HR0_0 := AM hr0_0
 have HC0_0 := AM hc0_0
 clear hr0_0 hc0_0
 have HR0_1 := AM hr0_1
 have HC0_1 := AM hc0_1
 clear hr0_1 hc0_1
 have HB := AM (Below.refl w.heap.size w)
 have H := h
 unfold impl_Prog_isVar.f at H
 clear h
 obtain ⟨t279, A3, H⟩ := ZOB H; try dsimp only at H
 obtain rfl := Option.some.inj H
 go_enter Try.func84, Try.ntmps84
 go_wp2_with (first | ((with_reducible refine gate_dst (N := 2) rfl ?_); refine ZX (N := 2) (cs := #[.slice A0_0 l0_0.length c0_0, .slice A0_1 l0_1.length c0_1]) (t := 32) ?_; intro gb278 hg w4 hbox hb; have BK278 := AM (hbox); have GW278 : Aside0 (w.heap.size ≤ gb278) := ZS hg; have GE278 : Aside0 (w.heap.size ≤ gb278) := ZS hg; replace HB := ZT HB hb; clear hb hbox hg; have hcz5 := ZC2 w4 BK278; have hfz5 := ZF2 BK278) | ((with_reducible refine gate_callee (f := 57) rfl ?_); refine ZGL (some 10) Try.func57 #[.int .i64 a1, .int .i64 0, .int .i64 (wrap64 ((l0_0.length : Int) - 1))] ?_; (with_reducible refine (impl_in.calls a1 0 (wrap64 ((l0_0.length : Int) - 1)) t279 _ A3.out).mono ?_); rintro e w' ⟨rfl, ⟨nd, rfl⟩⟩; refine ⟨_, rfl, ?_⟩))
 go_ret
 exact ⟨ZE, ZB⟩

/-! ### impl_isNum: function 89 -/
def impl_isNum.f (a0 : Int) : Option (Bool) := (impl_in.f a0 0 9).bind fun t280 => (some t280)
theorem impl_isNum.calls (a0 : Int) (r : Bool) (w : World) (h : impl_isNum.f a0 = some r) :
  Calls Try.prog 89 #[.int .i64 a0] w fun e w' => e = .returned (.bool r) ∧ Drawn0 w w' := by
 have H := h
 unfold impl_isNum.f at H
 clear h
 obtain ⟨t280, A2, H⟩ := ZOB H; try dsimp only at H
 obtain rfl := Option.some.inj H
 go_enter Try.func89, Try.ntmps89
 go_wp2_with (first | ((with_reducible refine gate_callee (f := 57) rfl ?_); refine ZGL (some 4) Try.func57 #[.int .i64 a0, .int .i64 0, .int .i64 9] ?_; (with_reducible refine (impl_in.calls a0 0 9 t280 _ A2.out).mono ?_); rintro e w' ⟨rfl, ⟨nd, rfl⟩⟩; refine ⟨_, rfl, ?_⟩))
 go_ret
 exact ⟨by first | rfl | (simp; done) | (simp [*]; done), by repeat (first | exact Drawn0.refl _ | apply Drawn0.step)⟩

end Go.Proofs.Ytaflodibibbakaa.B
