/- Go functions as Lean functions, and for each its contract; written by wip/tools/pr.py over the kit's print. -/
import Derived.Test.YtfcmckomagaiiaaDoorAx0
namespace Go.Proofs.YtfcmckomagaiiaaDoor.A
open Go.RowKit Go.Proofs.YtfcmckomagaiiaaDoorW.PrintWords Go.Proofs.YtfcmckomagaiiaaDoorW.PrintLast Go.Proofs.YtfcmckomagaiiaaDoorW.PrintMore
attribute [local go_sem] max2_int min2_int max_two min_two max_three min_three max_four min_four
set_option linter.unusedVariables false
set_option linter.unusedSimpArgs false
set_option maxHeartbeats 8000000
set_option maxRecDepth 100000

/-! ### laws_szLabelS: function 13 -/
def laws_szLabelS.f (l0 : List (S74)) (a1 : Int) : Option (Int) := if (wrap64 (a1 - (l0.length : Int))) < 0 then (some (-1)) else (some (wrap64 (a1 - (l0.length : Int))))
theorem laws_szLabelS.calls (A0 : Option Addr) (c0 : Nat) (l0 : List (S74)) (a1 : Int) (r : Int) (w : World) (hr0 : Kd.C k74 w A0 l0.length l0) (hc0 : l0.length ≤ c0) (h : laws_szLabelS.f l0 a1 = some r) :
  Calls Tryd.prog 13 #[.slice A0 l0.length c0, .int .i64 a1] w fun e w' => e = .returned (.int .i64 r) ∧ Drawn0 w w' := by
 have HR0 := AM hr0
 have HC0 := AM hc0
 clear hr0 hc0
 have H := h
 unfold laws_szLabelS.f at H
 clear h
 by_cases c3 : (wrap64 (a1 - (l0.length : Int))) < 0
 ·(
 rw [if_pos c3] at H
 have c3b0 := decide_eq_true c3
 clear c3
 obtain rfl := Option.some.inj H
 go_enter Tryd.func13, Tryd.ntmps13
 go_wp2
 go_ret
 exact ⟨by first | rfl | (simp; done) | (simp [*]; done), by repeat (first | exact Drawn0.refl _ | apply Drawn0.step)⟩)
 ·(
 rw [if_neg c3] at H
 have c3b0 := decide_eq_false c3
 clear c3
 obtain rfl := Option.some.inj H
 go_enter Tryd.func13, Tryd.ntmps13
 go_wp2
 go_ret
 exact ⟨by first | rfl | (simp; done) | (simp [*]; done), by repeat (first | exact Drawn0.refl _ | apply Drawn0.step)⟩)

-- (laws_szStep stands with its caller)

/-! ### laws_szStep: function 32 -/
def laws_szStep.g (k : Nat) (bf : List (S67) → Int → Option (Int)) (a0_0 : Int) (a0_1 : Int) (a0_2 : Int) (a0_3 : Int) (a0_4 : Int) (a0_5 : Int) (l0_6 : List (S67)) (l0_7 : List (S67)) (a1 : Int) : Option (Int) := (bf l0_6 a1).bind fun t102 => (if t102 < 0 then (some (-1)) else ((bf l0_7 t102).bind fun t103 => (if t103 < 0 then (some (-1)) else (some t103))))
theorem laws_szStep.calls_g (k : Nat) (bf : List (S67) → Int → Option (Int)) (ihB : ∀ (A0 : Option Addr) (c0 : Nat) (l0 : List (S67)) (a1 : Int) (r : Int) (w : World) (hr0 : Kd.C k67 w A0 l0.length l0) (hc0 : l0.length ≤ c0) (h : bf l0 a1 = some r),
  Calls Tryd.prog 14 #[.slice A0 l0.length c0, .int .i64 a1] w fun e w' => e = .returned (.int .i64 r) ∧ Below w.heap.size w w') (a0_0 : Int) (a0_1 : Int) (a0_2 : Int) (a0_3 : Int) (a0_4 : Int) (a0_5 : Int) (A0_6 : Option Addr) (c0_6 : Nat) (l0_6 : List (S67)) (A0_7 : Option Addr) (c0_7 : Nat) (l0_7 : List (S67)) (a1 : Int) (r : Int) (w : World) (hr0_6 : Kd.C k67 w A0_6 l0_6.length l0_6) (hc0_6 : l0_6.length ≤ c0_6) (hr0_7 : Kd.C k67 w A0_7 l0_7.length l0_7) (hc0_7 : l0_7.length ≤ c0_7) (h : laws_szStep.g k bf a0_0 a0_1 a0_2 a0_3 a0_4 a0_5 l0_6 l0_7 a1 = some r) :
  Calls Tryd.prog 32 #[.agg #[.int .i64 a0_0, .int .i64 a0_1, .int .i64 a0_2, .int .i64 a0_3, .int .i64 a0_4, .int .i64 a0_5, .slice A0_6 l0_6.length c0_6, .slice A0_7 l0_7.length c0_7], .int .i64 a1] w fun e w' => e = .returned (.int .i64 r) ∧ Below w.heap.size w w' := by
 have hu67 := Tryd.underlying67
 have HR0_6 := AM hr0_6
 have HC0_6 := AM hc0_6
 clear hr0_6 hc0_6
 have HR0_7 := AM hr0_7
 have HC0_7 := AM hc0_7
 clear hr0_7 hc0_7
 have HB := AM (Below.refl w.heap.size w)
 have H : ((bf l0_6 a1).bind fun t102 => (if t102 < 0 then (some (-1)) else ((bf l0_7 t102).bind fun t103 => (if t103 < 0 then (some (-1)) else (some t103))))) = some r := h
 clear h
 obtain ⟨t102, A3, H⟩ := ZOB H; try dsimp only at H
 by_cases c4 : t102 < 0
 focus (
 rw [if_pos c4] at H
 have c4b0 := decide_eq_true c4
 clear c4
 obtain rfl := Option.some.inj H
 have tag0_ : Aside0 True := ⟨trivial⟩)
 rotate_left
 focus (
 rw [if_neg c4] at H
 have c4b0 := decide_eq_false c4
 clear c4
 obtain ⟨t103, A8, H⟩ := ZOB H; try dsimp only at H
 by_cases c9 : t103 < 0
 focus (
 rw [if_pos c9] at H
 have c9b0 := decide_eq_true c9
 clear c9
 obtain rfl := Option.some.inj H
 have tag1_ : Aside0 True := ⟨trivial⟩)
 rotate_left
 focus (
 rw [if_neg c9] at H
 have c9b0 := decide_eq_false c9
 clear c9
 obtain rfl := Option.some.inj H
 have tag2_ : Aside0 True := ⟨trivial⟩)
 rotate_left)
 rotate_left 2
 all_goals (
 go_enter Tryd.func32, Tryd.ntmps32
 first
 | (
 (have z_ := tag0_; clear z_)
 go_wp2_with (first | ((with_reducible refine gate_dst (N := 2) rfl ?_); refine ZX (N := 2) (cs := #[.int .i64 a0_0, .int .i64 a0_1, .int .i64 a0_2, .int .i64 a0_3, .int .i64 a0_4, .int .i64 a0_5, .slice A0_6 l0_6.length c0_6, .slice A0_7 l0_7.length c0_7]) (t := 67) ?_; intro gbq0 hg wq0 hbox hb; have BKq0 := AM (hbox); have GWq0 : Aside0 (w.heap.size ≤ gbq0) := ZS hg; have GEq0 : Aside0 (w.heap.size ≤ gbq0) := ZS hg; replace HB := ZT HB hb; clear hb hbox hg; have hczq0 := ZC8 wq0 BKq0; have hfzq0 := ZF8 BKq0) | ((with_reducible refine gate_callee (f := 14) rfl ?_); refine ZGL (some 8) Tryd.func14 #[.slice A0_6 l0_6.length c0_6, .int .i64 a1] ?_; (with_reducible refine (ihB _ _ l0_6 a1 t102 _ ?side1 ?side2 A3.out).mono ?_); (case side1 => exact ZQ (Kd.C_below HR0_6.out HB.out)); (case side2 => exact HC0_6.out); rintro e wq1 ⟨rfl, hb⟩; refine ⟨_, rfl, ?_⟩; replace BKq0 := ZW BKq0 hb; replace HB := ZT HB hb; clear hb))
 go_ret
 exact ⟨ZE, ZB⟩)
 | (
 (first | (have z_ := tag1_; clear z_) | (have z_ := tag2_; clear z_))
 go_wp2_with (first | ((with_reducible refine gate_dst (N := 2) rfl ?_); refine ZX (N := 2) (cs := #[.int .i64 a0_0, .int .i64 a0_1, .int .i64 a0_2, .int .i64 a0_3, .int .i64 a0_4, .int .i64 a0_5, .slice A0_6 l0_6.length c0_6, .slice A0_7 l0_7.length c0_7]) (t := 67) ?_; intro gbq0 hg wq0 hbox hb; have BKq0 := AM (hbox); have GWq0 : Aside0 (w.heap.size ≤ gbq0) := ZS hg; have GEq0 : Aside0 (w.heap.size ≤ gbq0) := ZS hg; replace HB := ZT HB hb; clear hb hbox hg; have hczq0 := ZC8 wq0 BKq0; have hfzq0 := ZF8 BKq0) | ((with_reducible refine gate_callee (f := 14) rfl ?_); refine ZGL (some 8) Tryd.func14 #[.slice A0_6 l0_6.length c0_6, .int .i64 a1] ?_; (with_reducible refine (ihB _ _ l0_6 a1 t102 _ ?side1 ?side2 A3.out).mono ?_); (case side1 => exact ZQ (Kd.C_below HR0_6.out HB.out)); (case side2 => exact HC0_6.out); rintro e wq1 ⟨rfl, hb⟩; refine ⟨_, rfl, ?_⟩; replace BKq0 := ZW BKq0 hb; replace HB := ZT HB hb; clear hb; have hczq1 := ZC8 wq1 BKq0; have hfzq1 := ZF8 BKq0) | ((with_reducible refine gate_callee (f := 14) rfl ?_); refine ZGL (some 14) Tryd.func14 #[.slice A0_7 l0_7.length c0_7, .int .i64 t102] ?_; (with_reducible refine (ihB _ _ l0_7 t102 t103 _ ?side1 ?side2 A8.out).mono ?_); (case side1 => exact ZQ (Kd.C_below HR0_7.out HB.out)); (case side2 => exact HC0_7.out); rintro e wq2 ⟨rfl, hb⟩; refine ⟨_, rfl, ?_⟩; replace BKq0 := ZW BKq0 hb; replace HB := ZT HB hb; clear hb))
 go_ret
 exact ⟨ZE, ZB⟩))

/-! ### laws_szStepS: function 14 -/
mutual
def laws_szStepS.l0 : Nat → List (S67) → Int → Int → Option (Int)
 | 0, _, _, _ => none
 | k + 1, x0, x1, x5 => if x5 < (x0.length : Int) then (if 0 ≤ x5 then ((laws_szStep.g k (laws_szStepS.f k) ((rd_T67 x0 x5).f0) ((rd_T67 x0 x5).f1) ((rd_T67 x0 x5).f2.f0) ((rd_T67 x0 x5).f2.f1) ((rd_T67 x0 x5).f2.f2) ((rd_T67 x0 x5).f3) ((rd_T67 x0 x5).f4) ((rd_T67 x0 x5).f5) x1).bind fun t105 => (if t105 < 0 then (some (-1)) else (laws_szStepS.l0 k x0 t105 (wrap64 (x5 + 1))))) else (none)) else (some x1)
def laws_szStepS.f : Nat → List (S67) → Int → Option (Int)
 | 0, _, _ => none
 | k + 1, l0, a1 => if (wrap64 (a1 - (l0.length : Int))) < 0 then (some (-1)) else (laws_szStepS.l0 k l0 (wrap64 (a1 - (l0.length : Int))) 0)
end
theorem laws_szStep.calls_of {K : Nat} (ih : ∀ m, m < K → ∀ (A0 : Option Addr) (c0 : Nat) (l0 : List (S67)) (a1 : Int) (r : Int) (w : World) (hr0 : Kd.C k67 w A0 l0.length l0) (hc0 : l0.length ≤ c0) (h : laws_szStepS.f m l0 a1 = some r),
  Calls Tryd.prog 14 #[.slice A0 l0.length c0, .int .i64 a1] w fun e w' => e = .returned (.int .i64 r) ∧ Below w.heap.size w w') (k : Nat) (hk : k < K) (a0_0 : Int) (a0_1 : Int) (a0_2 : Int) (a0_3 : Int) (a0_4 : Int) (a0_5 : Int) (A0_6 : Option Addr) (c0_6 : Nat) (l0_6 : List (S67)) (A0_7 : Option Addr) (c0_7 : Nat) (l0_7 : List (S67)) (a1 : Int) (r : Int) (w : World) (hr0_6 : Kd.C k67 w A0_6 l0_6.length l0_6) (hc0_6 : l0_6.length ≤ c0_6) (hr0_7 : Kd.C k67 w A0_7 l0_7.length l0_7) (hc0_7 : l0_7.length ≤ c0_7) (h : laws_szStep.g k (laws_szStepS.f k) a0_0 a0_1 a0_2 a0_3 a0_4 a0_5 l0_6 l0_7 a1 = some r) :
  Calls Tryd.prog 32 #[.agg #[.int .i64 a0_0, .int .i64 a0_1, .int .i64 a0_2, .int .i64 a0_3, .int .i64 a0_4, .int .i64 a0_5, .slice A0_6 l0_6.length c0_6, .slice A0_7 l0_7.length c0_7], .int .i64 a1] w fun e w' => e = .returned (.int .i64 r) ∧ Below w.heap.size w w' := laws_szStep.calls_g k (laws_szStepS.f k) (ih k hk) a0_0 a0_1 a0_2 a0_3 a0_4 a0_5 A0_6 c0_6 l0_6 A0_7 c0_7 l0_7 a1 r w hr0_6 hc0_6 hr0_7 hc0_7 h
theorem laws_szStepS.calls (k : Nat) : ∀ (A0 : Option Addr) (c0 : Nat) (l0 : List (S67)) (a1 : Int) (r : Int) (w : World) (hr0 : Kd.C k67 w A0 l0.length l0) (hc0 : l0.length ≤ c0) (h : laws_szStepS.f k l0 a1 = some r),
  Calls Tryd.prog 14 #[.slice A0 l0.length c0, .int .i64 a1] w fun e w' => e = .returned (.int .i64 r) ∧ Below w.heap.size w w' := by
 induction k using Nat.strongRecOn with
 | _ k ih =>
 intro A0 c0 l0 a1 r w hr0 hc0 h
 cases k with
 | zero => exact absurd h (by simp [laws_szStepS.f])
 | succ k =>
 simp only [laws_szStepS.f] at h
 have hu67 := Tryd.underlying67
 have HR0 := AM hr0
 have HC0 := AM hc0
 clear hr0 hc0
 have HB := AM (Below.refl w.heap.size w)
 have H : (if (wrap64 (a1 - (l0.length : Int))) < 0 then (some (-1)) else (laws_szStepS.l0 k l0 (wrap64 (a1 - (l0.length : Int))) 0)) = some r := h
 clear h
 by_cases c3 : (wrap64 (a1 - (l0.length : Int))) < 0
 ·(
 rw [if_pos c3] at H
 have c3b0 := decide_eq_true c3
 clear c3
 obtain rfl := Option.some.inj H
 go_enter Tryd.func14, Tryd.ntmps14
 go_wp2
 go_ret
 exact ⟨ZE, ZB⟩)
 ·(
 rw [if_neg c3] at H
 have c3b0 := decide_eq_false c3
 clear c3
 have H' := AM H
 clear H
 go_enter Tryd.func14, Tryd.ntmps14
 go_wp2
 go_loopg [1, 5] k (fun kq v1 v5 w' => ∃ (x1_1 : Int) (x5_1 : Int), v1 = .int .i64 x1_1 ∧ v5 = .int .i64 x5_1 ∧ Aside0 (laws_szStepS.l0 kq l0 x1_1 x5_1 = some r) ∧ Aside0 (kq ≤ k) ∧ Aside0 (Below w.heap.size w w'))
 case atStart => exact ⟨(wrap64 (a1 - (l0.length : Int))), (0), (by first | rfl | (simp; done) | (simp [*]; done)), (by first | rfl | (simp; done) | (simp [*]; done)), H', ⟨Nat.le_refl _⟩, ⟨ZB⟩⟩
 case round => (
 clear H'
 try clear c1
 try clear p2
 try clear c3
 try clear c3b0
 obtain ⟨x1_1, x5_1, rfl, rfl, HA, HK1, HB⟩ := hrel
 cases gk with
 | zero => exact absurd HA.out (by simp [laws_szStepS.l0])
 | succ k1 =>
  have H := HA.out
  clear HA
  simp only [laws_szStepS.l0] at H
  by_cases c4 : x5_1 < (l0.length : Int)
  focus (
  rw [if_pos c4] at H
  have c4b0 := decide_eq_true c4
  clear c4
  by_cases c5 : 0 ≤ x5_1
  focus (
  rw [if_pos c5] at H
  have c5b0 := decide_eq_true c5
  clear c5
  obtain ⟨t105, A6, H⟩ := ZOB H; try dsimp only at H
  by_cases c7 : t105 < 0
  focus (
  rw [if_pos c7] at H
  have c7b0 := decide_eq_true c7
  clear c7
  obtain rfl := Option.some.inj H
  have tag0_ : Aside0 True := ⟨trivial⟩)
  rotate_left
  focus (
  rw [if_neg c7] at H
  have c7b0 := decide_eq_false c7
  clear c7
  have H' := AM H
  clear H
  have tag1_ : Aside0 True := ⟨trivial⟩)
  rotate_left)
  rotate_left 2
  focus (
  exact ZNE H c5))
  rotate_left 2
  focus (
  rw [if_neg c4] at H
  have c4b0 := decide_eq_false c4
  clear c4
  obtain rfl := Option.some.inj H
  have tag2_ : Aside0 True := ⟨trivial⟩)
  rotate_left
  all_goals (
  first
  | (
  (first | (have z_ := tag0_; clear z_) | (have z_ := tag1_; clear z_))
  have pq0 : 0 ≤ (x5_1 : Int) := ZD
  have qq0 : x5_1 < (l0.length : Int) := ZD
  obtain ⟨adq0, Aq0_6, cq0_6, Aq0_7, cq0_7, eq0, hxq0_0, hxq0_1, hxq0_2, hxq0_3, hxq0_4, hxq0_5, hxq0_6, hxq0_7, hlq0_6, hiq0_6, hlq0_7, hiq0_7⟩ := at_T67 HR0.out x5_1 pq0 qq0
  cases eq0
  replace hxq0_0 := ZHX HB hxq0_0
  replace hxq0_1 := ZHX HB hxq0_1
  replace hxq0_2 := ZHX HB hxq0_2
  replace hxq0_3 := ZHX HB hxq0_3
  replace hxq0_4 := ZHX HB hxq0_4
  replace hxq0_5 := ZHX HB hxq0_5
  replace hxq0_6 := ZHX HB hxq0_6
  replace hxq0_7 := ZHX HB hxq0_7
  have HRq0_6 := AM hiq0_6
  have HCq0_6 := AM hlq0_6
  clear hiq0_6 hlq0_6
  have HRq0_7 := AM hiq0_7
  have HCq0_7 := AM hlq0_7
  clear hiq0_7 hlq0_7
  replace pq0 := eq_true pq0
  replace qq0 := eq_true qq0
  go_wp2_with (first | ((with_reducible refine gate_callee (f := 32) rfl ?_); refine ZGL (some 23) Tryd.func32 #[.agg #[.int .i64 ((rd_T67 l0 x5_1).f0), .int .i64 ((rd_T67 l0 x5_1).f1), .int .i64 ((rd_T67 l0 x5_1).f2.f0), .int .i64 ((rd_T67 l0 x5_1).f2.f1), .int .i64 ((rd_T67 l0 x5_1).f2.f2), .int .i64 ((rd_T67 l0 x5_1).f3), .slice Aq0_6 ((rd_T67 l0 x5_1).f4).length cq0_6, .slice Aq0_7 ((rd_T67 l0 x5_1).f5).length cq0_7], .int .i64 x1_1] ?_; (with_reducible refine ((laws_szStep.calls_of ih) k1 (by have := HK1.out; omega) ((rd_T67 l0 x5_1).f0) ((rd_T67 l0 x5_1).f1) ((rd_T67 l0 x5_1).f2.f0) ((rd_T67 l0 x5_1).f2.f1) ((rd_T67 l0 x5_1).f2.f2) ((rd_T67 l0 x5_1).f3) _ _ ((rd_T67 l0 x5_1).f4) _ _ ((rd_T67 l0 x5_1).f5) x1_1 t105 _ ?side1 ?side2 ?side3 ?side4 A6.out).mono ?_); (case side1 => exact ZQ (Kd.C_below HRq0_6.out HB.out)); (case side2 => exact HCq0_6.out); (case side3 => exact ZQ (Kd.C_below HRq0_7.out HB.out)); (case side4 => exact HCq0_7.out); rintro e wq0 ⟨rfl, hb⟩; refine ⟨_, rfl, ?_⟩; replace HB := ZT HB hb; clear hb))
  first
  | (
  (have z_ := tag0_; clear z_)
  go_ret
  exact ⟨ZE, ZB⟩)
  | (
  (have z_ := tag1_; clear z_)
  go_roundg k1
  case measure => have := HK1.out; omega
  case rel => exact ⟨(t105), (wrap64 (x5_1 + 1)), (by first | rfl | (simp; done) | (simp [*]; done)), (by first | rfl | (simp; done) | (simp [*]; done)), H', ⟨by have := HK1.out; omega⟩, ⟨ZB⟩⟩))
  | (
  (have z_ := tag2_; clear z_)
  go_wp2
  go_ret
  exact ⟨ZE, ZB⟩
  ))))
def laws_szStep.f (k : Nat) := laws_szStep.g k (laws_szStepS.f k)
theorem laws_szStep.calls (k : Nat) (a0_0 : Int) (a0_1 : Int) (a0_2 : Int) (a0_3 : Int) (a0_4 : Int) (a0_5 : Int) (A0_6 : Option Addr) (c0_6 : Nat) (l0_6 : List (S67)) (A0_7 : Option Addr) (c0_7 : Nat) (l0_7 : List (S67)) (a1 : Int) (r : Int) (w : World) (hr0_6 : Kd.C k67 w A0_6 l0_6.length l0_6) (hc0_6 : l0_6.length ≤ c0_6) (hr0_7 : Kd.C k67 w A0_7 l0_7.length l0_7) (hc0_7 : l0_7.length ≤ c0_7) (h : laws_szStep.f k a0_0 a0_1 a0_2 a0_3 a0_4 a0_5 l0_6 l0_7 a1 = some r) :
  Calls Tryd.prog 32 #[.agg #[.int .i64 a0_0, .int .i64 a0_1, .int .i64 a0_2, .int .i64 a0_3, .int .i64 a0_4, .int .i64 a0_5, .slice A0_6 l0_6.length c0_6, .slice A0_7 l0_7.length c0_7], .int .i64 a1] w fun e w' => e = .returned (.int .i64 r) ∧ Below w.heap.size w w' := laws_szStep.calls_g k (laws_szStepS.f k) (laws_szStepS.calls k) a0_0 a0_1 a0_2 a0_3 a0_4 a0_5 A0_6 c0_6 l0_6 A0_7 c0_7 l0_7 a1 r w hr0_6 hc0_6 hr0_7 hc0_7 h

/-! ### laws_szProg: function 5 -/
def laws_szProg.f (k : Nat) (l0_0 : List (S74)) (l0_1 : List (S67)) (a1 : Int) : Option (Int) := (laws_szLabelS.f l0_0 a1).bind fun t107 => (if t107 < 0 then (some (-1)) else ((laws_szStepS.f k l0_1 t107).bind fun t108 => (if t108 < 0 then (some (-1)) else (some t108))))
theorem laws_szProg.calls (k : Nat) (A0_0 : Option Addr) (c0_0 : Nat) (l0_0 : List (S74)) (A0_1 : Option Addr) (c0_1 : Nat) (l0_1 : List (S67)) (a1 : Int) (r : Int) (w : World) (hr0_0 : Kd.C k74 w A0_0 l0_0.length l0_0) (hc0_0 : l0_0.length ≤ c0_0) (hr0_1 : Kd.C k67 w A0_1 l0_1.length l0_1) (hc0_1 : l0_1.length ≤ c0_1) (h : laws_szProg.f k l0_0 l0_1 a1 = some r) :
  Calls Tryd.prog 5 #[.agg #[.slice A0_0 l0_0.length c0_0, .slice A0_1 l0_1.length c0_1], .int .i64 a1] w fun e w' => e = .returned (.int .i64 r) ∧ Below w.heap.size w w' := by
 have hu25 := Tryd.underlying25
 have HR0_0 := AM hr0_0
 have HC0_0 := AM hc0_0
 clear hr0_0 hc0_0
 have HR0_1 := AM hr0_1
 have HC0_1 := AM hc0_1
 clear hr0_1 hc0_1
 have HB := AM (Below.refl w.heap.size w)
 have H := h
 unfold laws_szProg.f at H
 clear h
 obtain ⟨t107, A3, H⟩ := ZOB H; try dsimp only at H
 by_cases c4 : t107 < 0
 focus (
 rw [if_pos c4] at H
 have c4b0 := decide_eq_true c4
 clear c4
 obtain rfl := Option.some.inj H
 have tag0_ : Aside0 True := ⟨trivial⟩)
 rotate_left
 focus (
 rw [if_neg c4] at H
 have c4b0 := decide_eq_false c4
 clear c4
 obtain ⟨t108, A7, H⟩ := ZOB H; try dsimp only at H
 by_cases c8 : t108 < 0
 focus (
 rw [if_pos c8] at H
 have c8b0 := decide_eq_true c8
 clear c8
 obtain rfl := Option.some.inj H
 have tag1_ : Aside0 True := ⟨trivial⟩)
 rotate_left
 focus (
 rw [if_neg c8] at H
 have c8b0 := decide_eq_false c8
 clear c8
 obtain rfl := Option.some.inj H
 have tag2_ : Aside0 True := ⟨trivial⟩)
 rotate_left)
 rotate_left 2
 all_goals (
 go_enter Tryd.func5, Tryd.ntmps5
 first
 | (
 (have z_ := tag0_; clear z_)
 go_wp2_with (first | ((with_reducible refine gate_dst (N := 2) rfl ?_); refine ZX (N := 2) (cs := #[.slice A0_0 l0_0.length c0_0, .slice A0_1 l0_1.length c0_1]) (t := 25) ?_; intro gbq0 hg wq0 hbox hb; have BKq0 := AM (hbox); have GWq0 : Aside0 (w.heap.size ≤ gbq0) := ZS hg; have GEq0 : Aside0 (w.heap.size ≤ gbq0) := ZS hg; replace HB := ZT HB hb; clear hb hbox hg; have hczq0 := ZC2 wq0 BKq0; have hfzq0 := ZF2 BKq0) | ((with_reducible refine gate_callee (f := 13) rfl ?_); refine ZGL (some 8) Tryd.func13 #[.slice A0_0 l0_0.length c0_0, .int .i64 a1] ?_; (with_reducible refine (laws_szLabelS.calls _ _ l0_0 a1 t107 _ ?side1 ?side2 A3.out).mono ?_); (case side1 => exact ZQ (Kd.C_below HR0_0.out HB.out)); (case side2 => exact HC0_0.out); rintro e w' ⟨rfl, ⟨nd, rfl⟩⟩; refine ⟨_, rfl, ?_⟩))
 go_ret
 exact ⟨ZE, ZB⟩)
 | (
 (first | (have z_ := tag1_; clear z_) | (have z_ := tag2_; clear z_))
 go_wp2_with (first | ((with_reducible refine gate_dst (N := 2) rfl ?_); refine ZX (N := 2) (cs := #[.slice A0_0 l0_0.length c0_0, .slice A0_1 l0_1.length c0_1]) (t := 25) ?_; intro gbq0 hg wq0 hbox hb; have BKq0 := AM (hbox); have GWq0 : Aside0 (w.heap.size ≤ gbq0) := ZS hg; have GEq0 : Aside0 (w.heap.size ≤ gbq0) := ZS hg; replace HB := ZT HB hb; clear hb hbox hg; have hczq0 := ZC2 wq0 BKq0; have hfzq0 := ZF2 BKq0) | ((with_reducible refine gate_callee (f := 13) rfl ?_); refine ZGL (some 8) Tryd.func13 #[.slice A0_0 l0_0.length c0_0, .int .i64 a1] ?_; (with_reducible refine (laws_szLabelS.calls _ _ l0_0 a1 t107 _ ?side1 ?side2 A3.out).mono ?_); (case side1 => exact ZQ (Kd.C_below HR0_0.out HB.out)); (case side2 => exact HC0_0.out); rintro e w' ⟨rfl, ⟨nd, rfl⟩⟩; refine ⟨_, rfl, ?_⟩) | ((with_reducible refine gate_callee (f := 14) rfl ?_); refine ZGL (some 14) Tryd.func14 #[.slice A0_1 l0_1.length c0_1, .int .i64 t107] ?_; (with_reducible refine (laws_szStepS.calls k _ _ l0_1 t107 t108 _ ?side1 ?side2 A7.out).mono ?_); (case side1 => repeat (first | exact (Kd.C_below HR0_1.out (ZB)) | (with_reducible refine Kd.C_alloc ?_ _) | (with_reducible refine Kd.C_drewN ?_ _) | (with_reducible refine Kd.C_drew ?_))); (case side2 => exact HC0_1.out); rintro e wq1 ⟨rfl, hb⟩; refine ⟨_, rfl, ?_⟩; replace BKq0 := ZW BKq0 hb; replace HB := ZT HB hb; clear hb))
 go_ret
 exact ⟨ZE, ZB⟩))

/-! ### spec_l6In: function 73 -/
def spec_l6In.f (a0 : Int) (a1 : Int) (a2 : Int) : Option (Bool) := if a0 ≥ a1 then (some (decide (a0 ≤ a2))) else (some false)
theorem spec_l6In.calls (a0 : Int) (a1 : Int) (a2 : Int) (r : Bool) (w : World) (h : spec_l6In.f a0 a1 a2 = some r) :
  Calls Tryd.prog 73 #[.int .i64 a0, .int .i64 a1, .int .i64 a2] w fun e w' => e = .returned (.bool r) ∧ Drawn0 w w' := by
 have H := h
 unfold spec_l6In.f at H
 clear h
 by_cases c4 : a0 ≥ a1
 ·(
 rw [if_pos c4] at H
 have c4b0 := decide_eq_true c4
 clear c4
 obtain rfl := Option.some.inj H
 go_enter Tryd.func73, Tryd.ntmps73
 go_wp2
 go_ret
 exact ⟨by first | rfl | (simp; done) | (simp [*]; done), by repeat (first | exact Drawn0.refl _ | apply Drawn0.step)⟩)
 ·(
 rw [if_neg c4] at H
 have c4b0 := decide_eq_false c4
 clear c4
 obtain rfl := Option.some.inj H
 go_enter Tryd.func73, Tryd.ntmps73
 go_wp2
 go_ret
 exact ⟨by first | rfl | (simp; done) | (simp [*]; done), by repeat (first | exact Drawn0.refl _ | apply Drawn0.step)⟩)

/-! ### spec_l1All: function 74 -/
def spec_l1All.f  : Option (Int) := some 7
theorem spec_l1All.calls  (r : Int) (w : World) (h : spec_l1All.f  = some r) :
  Calls Tryd.prog 74 #[] w fun e w' => e = .returned (.int .i64 r) ∧ Drawn0 w w' := by
 have H := h
 unfold spec_l1All.f at H
 clear h
 obtain rfl := Option.some.inj H
 go_enter Tryd.func74, Tryd.ntmps74
 go_wp2
 go_ret
 exact ⟨by first | rfl | (simp; done) | (simp [*]; done), by repeat (first | exact Drawn0.refl _ | apply Drawn0.step)⟩

/-! ### spec_l1Set: function 55 -/
def spec_l1Set.f (a0 : Int) : Option (Bool) := (spec_l1All.f).bind fun t109 => ((spec_l6In.f a0 0 t109).bind fun t110 => (some t110))
theorem spec_l1Set.calls (a0 : Int) (r : Bool) (w : World) (h : spec_l1Set.f a0 = some r) :
  Calls Tryd.prog 55 #[.int .i64 a0] w fun e w' => e = .returned (.bool r) ∧ Drawn0 w w' := by
 have H := h
 unfold spec_l1Set.f at H
 clear h
 obtain ⟨t109, A2, H⟩ := ZOB H; try dsimp only at H
 obtain ⟨t110, A3, H⟩ := ZOB H; try dsimp only at H
 obtain rfl := Option.some.inj H
 go_enter Tryd.func55, Tryd.ntmps55
 go_wp2_with (first | ((with_reducible refine gate_callee (f := 74) rfl ?_); refine ZGL (some 4) Tryd.func74 #[] ?_; (with_reducible refine (spec_l1All.calls  t109 _ A2.out).mono ?_); rintro e w' ⟨rfl, ⟨nd, rfl⟩⟩; refine ⟨_, rfl, ?_⟩) | ((with_reducible refine gate_callee (f := 73) rfl ?_); refine ZGL (some 5) Tryd.func73 #[.int .i64 a0, .int .i64 0, .int .i64 t109] ?_; (with_reducible refine (spec_l6In.calls a0 0 t109 t110 _ A3.out).mono ?_); rintro e w' ⟨rfl, ⟨nd, rfl⟩⟩; refine ⟨_, rfl, ?_⟩))
 go_ret
 exact ⟨by first | rfl | (simp; done) | (simp [*]; done), by repeat (first | exact Drawn0.refl _ | apply Drawn0.step)⟩

/-! ### spec_LabelOk: function 28 -/
def spec_LabelOk.f (a0_0 : Int) (a0_1 : Int) : Option (Bool) := (spec_l1Set.f a0_0).bind fun t112 => (if t112 = true then ((spec_l1Set.f a0_1).bind fun t113 => (some t113)) else (some false))
theorem spec_LabelOk.calls (a0_0 : Int) (a0_1 : Int) (r : Bool) (w : World) (h : spec_LabelOk.f a0_0 a0_1 = some r) :
  Calls Tryd.prog 28 #[.agg #[.int .i64 a0_0, .int .i64 a0_1]] w fun e w' => e = .returned (.bool r) ∧ Below w.heap.size w w' := by
 have hu43 := Tryd.underlying43
 have HB := AM (Below.refl w.heap.size w)
 have H := h
 unfold spec_LabelOk.f at H
 clear h
 obtain ⟨t112, A2, H⟩ := ZOB H; try dsimp only at H
 by_cases c3 : t112 = true
 ·(
 subst c3
 have H1 := H; rw [if_pos rfl] at H1
 clear H
 have H := H1
 clear H1
 obtain ⟨t113, A4, H⟩ := ZOB H; try dsimp only at H
 obtain rfl := Option.some.inj H
 go_enter Tryd.func28, Tryd.ntmps28
 go_wp2_with (first | ((with_reducible refine gate_dst (N := 1) rfl ?_); refine ZX (N := 1) (cs := #[.int .i64 a0_0, .int .i64 a0_1]) (t := 43) ?_; intro gb111 hg w5 hbox hb; have BK111 := AM (hbox); have GW111 : Aside0 (w.heap.size ≤ gb111) := ZS hg; have GE111 : Aside0 (w.heap.size ≤ gb111) := ZS hg; replace HB := ZT HB hb; clear hb hbox hg; have hcz6 := ZC2 w5 BK111; have hfz6 := ZF2 BK111) | ((with_reducible refine gate_callee (f := 55) rfl ?_); refine ZGL (some 5) Tryd.func55 #[.int .i64 a0_0] ?_; (with_reducible refine (spec_l1Set.calls a0_0 true _ A2.out).mono ?_); rintro e w' ⟨rfl, ⟨nd, rfl⟩⟩; refine ⟨_, rfl, ?_⟩) | (go_at_call 55; (with_reducible refine (spec_l1Set.calls a0_1 t113 _ A4.out).mono ?_); rintro e w' ⟨rfl, ⟨nd, rfl⟩⟩))
 go_ret
 exact ⟨ZE, ZB⟩)
 ·(
 replace c3 := Bool.eq_false_iff.mpr c3
 subst c3
 have H1 := H; rw [if_neg ZFT] at H1
 clear H
 have H := H1
 clear H1
 obtain rfl := Option.some.inj H
 go_enter Tryd.func28, Tryd.ntmps28
 go_wp2_with (first | ((with_reducible refine gate_dst (N := 1) rfl ?_); refine ZX (N := 1) (cs := #[.int .i64 a0_0, .int .i64 a0_1]) (t := 43) ?_; intro gb111 hg w7 hbox hb; have BK111 := AM (hbox); have GW111 : Aside0 (w.heap.size ≤ gb111) := ZS hg; have GE111 : Aside0 (w.heap.size ≤ gb111) := ZS hg; replace HB := ZT HB hb; clear hb hbox hg; have hcz8 := ZC2 w7 BK111; have hfz8 := ZF2 BK111) | ((with_reducible refine gate_callee (f := 55) rfl ?_); refine ZGL (some 5) Tryd.func55 #[.int .i64 a0_0] ?_; (with_reducible refine (spec_l1Set.calls a0_0 false _ A2.out).mono ?_); rintro e w' ⟨rfl, ⟨nd, rfl⟩⟩; refine ⟨_, rfl, ?_⟩))
 go_ret
 exact ⟨ZE, ZB⟩)

/-! ### spec_l2Var: function 75 -/
def spec_l2Var.f (l0_0 : List (S43)) (l0_1 : List (S71)) (a1 : Int) : Option (Bool) := (spec_l6In.f a1 0 (wrap64 ((l0_0.length : Int) - 1))).bind fun t115 => (some t115)
theorem spec_l2Var.calls (A0_0 : Option Addr) (c0_0 : Nat) (l0_0 : List (S43)) (A0_1 : Option Addr) (c0_1 : Nat) (l0_1 : List (S71)) (a1 : Int) (r : Bool) (w : World) (hr0_0 : Kd.C k43 w A0_0 l0_0.length l0_0) (hc0_0 : l0_0.length ≤ c0_0) (hr0_1 : Kd.C k71 w A0_1 l0_1.length l0_1) (hc0_1 : l0_1.length ≤ c0_1) (h : spec_l2Var.f l0_0 l0_1 a1 = some r) :
  Calls Tryd.prog 75 #[.agg #[.slice A0_0 l0_0.length c0_0, .slice A0_1 l0_1.length c0_1], .int .i64 a1] w fun e w' => e = .returned (.bool r) ∧ Below w.heap.size w w' := by
 have hu31 := Tryd.underlying31
 have HR0_0 := AM hr0_0
 have HC0_0 := AM hc0_0
 clear hr0_0 hc0_0
 have HR0_1 := AM hr0_1
 have HC0_1 := AM hc0_1
 clear hr0_1 hc0_1
 have HB := AM (Below.refl w.heap.size w)
 have H := h
 unfold spec_l2Var.f at H
 clear h
 obtain ⟨t115, A3, H⟩ := ZOB H; try dsimp only at H
 obtain rfl := Option.some.inj H
 go_enter Tryd.func75, Tryd.ntmps75
 go_wp2_with (first | ((with_reducible refine gate_dst (N := 2) rfl ?_); refine ZX (N := 2) (cs := #[.slice A0_0 l0_0.length c0_0, .slice A0_1 l0_1.length c0_1]) (t := 31) ?_; intro gb114 hg w4 hbox hb; have BK114 := AM (hbox); have GW114 : Aside0 (w.heap.size ≤ gb114) := ZS hg; have GE114 : Aside0 (w.heap.size ≤ gb114) := ZS hg; replace HB := ZT HB hb; clear hb hbox hg; have hcz5 := ZC2 w4 BK114; have hfz5 := ZF2 BK114) | ((with_reducible refine gate_callee (f := 73) rfl ?_); refine ZGL (some 10) Tryd.func73 #[.int .i64 a1, .int .i64 0, .int .i64 (wrap64 ((l0_0.length : Int) - 1))] ?_; (with_reducible refine (spec_l6In.calls a1 0 (wrap64 ((l0_0.length : Int) - 1)) t115 _ A3.out).mono ?_); rintro e w' ⟨rfl, ⟨nd, rfl⟩⟩; refine ⟨_, rfl, ?_⟩))
 go_ret
 exact ⟨ZE, ZB⟩

/-! ### spec_l2Val: function 76 -/
def spec_l2Val.j0 : Nat → Bool → List (S43) → List (S71) → Int → Int → Int → Option (Bool)
 | 0, _, _, _, _, _, _ => none
 | k + 1, x28, x117000, x117001, x118000, x118001, x118002 => if x28 = true then ((spec_l2Var.f x117000 x117001 x118001).bind fun t120 => (if t120 = true then ((spec_l2Var.f x117000 x117001 x118002).bind fun t121 => (some t121)) else (some false))) else (some false)
def spec_l2Val.f (k : Nat) (l0_0 : List (S43)) (l0_1 : List (S71)) (a1_0 : Int) (a1_1 : Int) (a1_2 : Int) : Option (Bool) := if a1_0 = 1 then ((spec_l6In.f a1_1 0 9).bind fun t118 => (if t118 = true then (some (a1_2 == 0)) else (some false))) else (if a1_0 = 2 then ((spec_l2Var.f l0_0 l0_1 a1_1).bind fun t119 => (if t119 = true then (some (a1_2 == 0)) else (some false))) else (if a1_0 = 3 then (spec_l2Val.j0 k (a1_0 == 3) l0_0 l0_1 a1_0 a1_1 a1_2) else (spec_l2Val.j0 k (a1_0 == 4) l0_0 l0_1 a1_0 a1_1 a1_2)))
theorem spec_l2Val.calls (k : Nat) (A0_0 : Option Addr) (c0_0 : Nat) (l0_0 : List (S43)) (A0_1 : Option Addr) (c0_1 : Nat) (l0_1 : List (S71)) (a1_0 : Int) (a1_1 : Int) (a1_2 : Int) (r : Bool) (w : World) (hr0_0 : Kd.C k43 w A0_0 l0_0.length l0_0) (hc0_0 : l0_0.length ≤ c0_0) (hr0_1 : Kd.C k71 w A0_1 l0_1.length l0_1) (hc0_1 : l0_1.length ≤ c0_1) (h : spec_l2Val.f k l0_0 l0_1 a1_0 a1_1 a1_2 = some r) :
  Calls Tryd.prog 76 #[.agg #[.slice A0_0 l0_0.length c0_0, .slice A0_1 l0_1.length c0_1], .agg #[.int .i64 a1_0, .int .i64 a1_1, .int .i64 a1_2]] w fun e w' => e = .returned (.bool r) ∧ Below w.heap.size w w' := by
 have hu31 := Tryd.underlying31
 have hu69 := Tryd.underlying69
 have HR0_0 := AM hr0_0
 have HC0_0 := AM hc0_0
 clear hr0_0 hc0_0
 have HR0_1 := AM hr0_1
 have HC0_1 := AM hc0_1
 clear hr0_1 hc0_1
 have HB := AM (Below.refl w.heap.size w)
 have H := h
 unfold spec_l2Val.f at H
 clear h
 by_cases c3 : a1_0 = 1
 ·(
 rw [if_pos c3] at H
 have c3b0 := beq_iff_eq.mpr c3
 have c3b1 := bne_eq_false_iff_eq.mpr c3
 clear c3
 obtain ⟨t118, A4, H⟩ := ZOB H; try dsimp only at H
 by_cases c5 : t118 = true
 ·(
 subst c5
 have H1 := H; rw [if_pos rfl] at H1
 clear H
 have H := H1
 clear H1
 obtain rfl := Option.some.inj H
 go_enter Tryd.func76, Tryd.ntmps76
 go_wp2_with (first | ((with_reducible refine gate_dst (N := 2) rfl ?_); refine ZX (N := 2) (cs := #[.slice A0_0 l0_0.length c0_0, .slice A0_1 l0_1.length c0_1]) (t := 31) ?_; intro gb116 hg w6 hbox hb; have BK116 := AM (hbox); have GW116 : Aside0 (w.heap.size ≤ gb116) := ZS hg; have GE116 : Aside0 (w.heap.size ≤ gb116) := ZS hg; replace HB := ZT HB hb; clear hb hbox hg) | ((with_reducible refine gate_dst (N := 3) rfl ?_); refine ZX (N := 3) (cs := #[.int .i64 a1_0, .int .i64 a1_1, .int .i64 a1_2]) (t := 69) ?_; intro gb117 hg w7 hbox hb; have BK117 := AM (hbox); have GW117 : Aside0 (w.heap.size ≤ gb117) := ZS hg; have GE117 : Aside0 (w.heap.size ≤ gb117) := ZS hg; have NB116_117 : Aside0 (gb116 ≠ gb117) := ZN hg BK116; have NB117_116 : Aside0 (gb117 ≠ gb116) := ZM hg BK116; replace BK116 := ZW BK116 hb; replace HB := ZT HB hb; clear hb hbox hg; have hnb8 := NB117_116.out; have hnc8 := NB116_117.out; have hcz9 := ZC3 w7 BK117; have hfz9 := ZF3 BK117) | ((with_reducible refine gate_callee (f := 73) rfl ?_); refine ZGL (some 11) Tryd.func73 #[.int .i64 a1_1, .int .i64 0, .int .i64 9] ?_; (with_reducible refine (spec_l6In.calls a1_1 0 9 true _ A4.out).mono ?_); rintro e w' ⟨rfl, ⟨nd, rfl⟩⟩; refine ⟨_, rfl, ?_⟩))
 go_ret
 exact ⟨ZE, ZB⟩)
 ·(
 replace c5 := Bool.eq_false_iff.mpr c5
 subst c5
 have H1 := H; rw [if_neg ZFT] at H1
 clear H
 have H := H1
 clear H1
 obtain rfl := Option.some.inj H
 go_enter Tryd.func76, Tryd.ntmps76
 go_wp2_with (first | ((with_reducible refine gate_dst (N := 2) rfl ?_); refine ZX (N := 2) (cs := #[.slice A0_0 l0_0.length c0_0, .slice A0_1 l0_1.length c0_1]) (t := 31) ?_; intro gb116 hg w10 hbox hb; have BK116 := AM (hbox); have GW116 : Aside0 (w.heap.size ≤ gb116) := ZS hg; have GE116 : Aside0 (w.heap.size ≤ gb116) := ZS hg; replace HB := ZT HB hb; clear hb hbox hg) | ((with_reducible refine gate_dst (N := 3) rfl ?_); refine ZX (N := 3) (cs := #[.int .i64 a1_0, .int .i64 a1_1, .int .i64 a1_2]) (t := 69) ?_; intro gb117 hg w11 hbox hb; have BK117 := AM (hbox); have GW117 : Aside0 (w.heap.size ≤ gb117) := ZS hg; have GE117 : Aside0 (w.heap.size ≤ gb117) := ZS hg; have NB116_117 : Aside0 (gb116 ≠ gb117) := ZN hg BK116; have NB117_116 : Aside0 (gb117 ≠ gb116) := ZM hg BK116; replace BK116 := ZW BK116 hb; replace HB := ZT HB hb; clear hb hbox hg; have hnb12 := NB117_116.out; have hnc12 := NB116_117.out; have hcz13 := ZC3 w11 BK117; have hfz13 := ZF3 BK117) | ((with_reducible refine gate_callee (f := 73) rfl ?_); refine ZGL (some 11) Tryd.func73 #[.int .i64 a1_1, .int .i64 0, .int .i64 9] ?_; (with_reducible refine (spec_l6In.calls a1_1 0 9 false _ A4.out).mono ?_); rintro e w' ⟨rfl, ⟨nd, rfl⟩⟩; refine ⟨_, rfl, ?_⟩))
 go_ret
 exact ⟨ZE, ZB⟩))
 ·(
 rw [if_neg c3] at H
 have c3b0 := beq_eq_false_iff_ne.mpr c3
 have c3b1 := bne_iff_ne.mpr c3
 by_cases c14 : a1_0 = 2
 ·(
 rw [if_pos c14] at H
 have c14b0 := beq_iff_eq.mpr c14
 have c14b1 := bne_eq_false_iff_eq.mpr c14
 clear c14
 obtain ⟨t119, A15, H⟩ := ZOB H; try dsimp only at H
 by_cases c16 : t119 = true
 ·(
 subst c16
 have H1 := H; rw [if_pos rfl] at H1
 clear H
 have H := H1
 clear H1
 obtain rfl := Option.some.inj H
 go_enter Tryd.func76, Tryd.ntmps76
 go_wp2_with (first | ((with_reducible refine gate_dst (N := 2) rfl ?_); refine ZX (N := 2) (cs := #[.slice A0_0 l0_0.length c0_0, .slice A0_1 l0_1.length c0_1]) (t := 31) ?_; intro gb116 hg w17 hbox hb; have BK116 := AM (hbox); have GW116 : Aside0 (w.heap.size ≤ gb116) := ZS hg; have GE116 : Aside0 (w.heap.size ≤ gb116) := ZS hg; replace HB := ZT HB hb; clear hb hbox hg) | ((with_reducible refine gate_dst (N := 3) rfl ?_); refine ZX (N := 3) (cs := #[.int .i64 a1_0, .int .i64 a1_1, .int .i64 a1_2]) (t := 69) ?_; intro gb117 hg w18 hbox hb; have BK117 := AM (hbox); have GW117 : Aside0 (w.heap.size ≤ gb117) := ZS hg; have GE117 : Aside0 (w.heap.size ≤ gb117) := ZS hg; have NB116_117 : Aside0 (gb116 ≠ gb117) := ZN hg BK116; have NB117_116 : Aside0 (gb117 ≠ gb116) := ZM hg BK116; replace BK116 := ZW BK116 hb; replace HB := ZT HB hb; clear hb hbox hg; have hnb19 := NB117_116.out; have hnc19 := NB116_117.out; have hcz20 := ZC3 w18 BK117; have hfz20 := ZF3 BK117; have hcz21 := ZC2 w18 BK116; have hfz21 := ZF2 BK116) | ((with_reducible refine gate_callee (f := 75) rfl ?_); refine ZGL (some 22) Tryd.func75 #[.agg #[.slice A0_0 l0_0.length c0_0, .slice A0_1 l0_1.length c0_1], .int .i64 a1_1] ?_; (with_reducible refine (spec_l2Var.calls _ _ l0_0 _ _ l0_1 a1_1 true _ ?side1 ?side2 ?side3 ?side4 A15.out).mono ?_); (case side1 => exact ZQ (Kd.C_below HR0_0.out HB.out)); (case side2 => exact HC0_0.out); (case side3 => exact ZQ (Kd.C_below HR0_1.out HB.out)); (case side4 => exact HC0_1.out); rintro e w22 ⟨rfl, hb⟩; refine ⟨_, rfl, ?_⟩; replace BK116 := ZW BK116 hb; replace BK117 := ZW BK117 hb; replace HB := ZT HB hb; clear hb; have hcz23 := ZC3 w22 BK117; have hfz23 := ZF3 BK117))
 go_ret
 exact ⟨ZE, ZB⟩)
 ·(
 replace c16 := Bool.eq_false_iff.mpr c16
 subst c16
 have H1 := H; rw [if_neg ZFT] at H1
 clear H
 have H := H1
 clear H1
 obtain rfl := Option.some.inj H
 go_enter Tryd.func76, Tryd.ntmps76
 go_wp2_with (first | ((with_reducible refine gate_dst (N := 2) rfl ?_); refine ZX (N := 2) (cs := #[.slice A0_0 l0_0.length c0_0, .slice A0_1 l0_1.length c0_1]) (t := 31) ?_; intro gb116 hg w24 hbox hb; have BK116 := AM (hbox); have GW116 : Aside0 (w.heap.size ≤ gb116) := ZS hg; have GE116 : Aside0 (w.heap.size ≤ gb116) := ZS hg; replace HB := ZT HB hb; clear hb hbox hg) | ((with_reducible refine gate_dst (N := 3) rfl ?_); refine ZX (N := 3) (cs := #[.int .i64 a1_0, .int .i64 a1_1, .int .i64 a1_2]) (t := 69) ?_; intro gb117 hg w25 hbox hb; have BK117 := AM (hbox); have GW117 : Aside0 (w.heap.size ≤ gb117) := ZS hg; have GE117 : Aside0 (w.heap.size ≤ gb117) := ZS hg; have NB116_117 : Aside0 (gb116 ≠ gb117) := ZN hg BK116; have NB117_116 : Aside0 (gb117 ≠ gb116) := ZM hg BK116; replace BK116 := ZW BK116 hb; replace HB := ZT HB hb; clear hb hbox hg; have hnb26 := NB117_116.out; have hnc26 := NB116_117.out; have hcz27 := ZC3 w25 BK117; have hfz27 := ZF3 BK117; have hcz28 := ZC2 w25 BK116; have hfz28 := ZF2 BK116) | ((with_reducible refine gate_callee (f := 75) rfl ?_); refine ZGL (some 22) Tryd.func75 #[.agg #[.slice A0_0 l0_0.length c0_0, .slice A0_1 l0_1.length c0_1], .int .i64 a1_1] ?_; (with_reducible refine (spec_l2Var.calls _ _ l0_0 _ _ l0_1 a1_1 false _ ?side1 ?side2 ?side3 ?side4 A15.out).mono ?_); (case side1 => exact ZQ (Kd.C_below HR0_0.out HB.out)); (case side2 => exact HC0_0.out); (case side3 => exact ZQ (Kd.C_below HR0_1.out HB.out)); (case side4 => exact HC0_1.out); rintro e w29 ⟨rfl, hb⟩; refine ⟨_, rfl, ?_⟩; replace BK116 := ZW BK116 hb; replace BK117 := ZW BK117 hb; replace HB := ZT HB hb; clear hb))
 go_ret
 exact ⟨ZE, ZB⟩))
 ·(
 rw [if_neg c14] at H
 have c14b0 := beq_eq_false_iff_ne.mpr c14
 have c14b1 := bne_iff_ne.mpr c14
 have HC30 := AM H
 clear H
 go_enter Tryd.func76, Tryd.ntmps76
 go_upto_if 28 with (first | ((with_reducible refine gate_dst (N := 2) rfl ?_); refine ZX (N := 2) (cs := #[.slice A0_0 l0_0.length c0_0, .slice A0_1 l0_1.length c0_1]) (t := 31) ?_; intro gb116 hg w31 hbox hb; have BK116 := AM (hbox); have GW116 : Aside0 (w.heap.size ≤ gb116) := ZS hg; have GE116 : Aside0 (w.heap.size ≤ gb116) := ZS hg; replace HB := ZT HB hb; clear hb hbox hg) | ((with_reducible refine gate_dst (N := 3) rfl ?_); refine ZX (N := 3) (cs := #[.int .i64 a1_0, .int .i64 a1_1, .int .i64 a1_2]) (t := 69) ?_; intro gb117 hg w32 hbox hb; have BK117 := AM (hbox); have GW117 : Aside0 (w.heap.size ≤ gb117) := ZS hg; have GE117 : Aside0 (w.heap.size ≤ gb117) := ZS hg; have NB116_117 : Aside0 (gb116 ≠ gb117) := ZN hg BK116; have NB117_116 : Aside0 (gb117 ≠ gb116) := ZM hg BK116; replace BK116 := ZW BK116 hb; replace HB := ZT HB hb; clear hb hbox hg; have hnb33 := NB117_116.out; have hnc33 := NB116_117.out; have hcz34 := ZC3 w32 BK117; have hfz34 := ZF3 BK117))
 (try simp only [Act.put, List.setIfInBounds_toArray, List.set_cons_zero, List.set_cons_succ])
 go_cut [28] (fun v28 wc => ∃ (kq : Nat) (x28_29 : Bool), v28 = .bool x28_29 ∧ Aside0 (spec_l2Val.j0 kq x28_29 l0_0 l0_1 a1_0 a1_1 a1_2 = some r) ∧ Aside0 (kq ≤ k) ∧ Aside0 (wc.heap[gb116]? = some (.cells #[(.slice A0_0 l0_0.length c0_0), (.slice A0_1 l0_1.length c0_1)] 31 (0, 0))) ∧ Aside0 (wc.heap[gb117]? = some (.cells #[.int .i64 a1_0, .int .i64 a1_1, .int .i64 a1_2] 69 (0, 0))) ∧ Aside0 (Below w.heap.size w wc))
 case first => (
 have H := HC30.out
 clear HC30
 by_cases c35 : a1_0 = 3
 ·(
 rw [if_pos c35] at H
 have c35b0 := beq_iff_eq.mpr c35
 have c35b1 := bne_eq_false_iff_eq.mpr c35
 clear c35
 (first | rw [c35b0] | (simp only [i64_w, i32_w]; rw [c35b0]) | skip)
 have H' := AM H
 clear H
 go_wp2
 go_meet
 case rel => exact ⟨_, ((a1_0 == 3)), (by first | rfl | (simp; done) | (simp [*]; done)), H', ⟨by first | omega | exact Nat.le_refl _⟩, ⟨ZK BK116.out⟩, ⟨ZK BK117.out⟩, ⟨ZB⟩⟩)
 ·(
 rw [if_neg c35] at H
 have c35b0 := beq_eq_false_iff_ne.mpr c35
 have c35b1 := bne_iff_ne.mpr c35
 (first | rw [c35b0] | (simp only [i64_w, i32_w]; rw [c35b0]) | skip)
 have H' := AM H
 clear H
 go_wp2
 go_meet
 case rel => exact ⟨_, ((a1_0 == 4)), (by first | rfl | (simp; done) | (simp [*]; done)), H', ⟨by first | omega | exact Nat.le_refl _⟩, ⟨ZK BK116.out⟩, ⟨ZK BK117.out⟩, ⟨ZB⟩⟩))
 case rest => (
 clear HC30
 try clear c1
 try clear c2
 try clear p2
 try clear c3
 try clear c3b0
 try clear c3b1
 try clear c5
 try clear c7
 try clear c8
 try clear c12
 try clear c14
 try clear c14b0
 try clear c14b1
 try clear c16
 try clear c19
 try clear c26
 try clear c33
 try clear c35
 try clear c35b0
 try clear c35b1
 try clear hcz13
 try clear hcz20
 try clear hcz21
 try clear hcz23
 try clear hcz27
 try clear hcz28
 try clear hcz34
 try clear hcz9
 try clear hfz13
 try clear hfz20
 try clear hfz21
 try clear hfz23
 try clear hfz27
 try clear hfz28
 try clear hfz34
 try clear hfz9
 obtain ⟨kq, x28_29, rfl, HA, HJ29, BK116, BK117, HB⟩ := hcut
 cases kq with
 | zero => exact absurd HA.out (by simp [spec_l2Val.j0])
 | succ kj29 =>
  have H := HA.out
  clear HA
  simp only [spec_l2Val.j0] at H
  by_cases c36 : x28_29 = true
  ·(
  subst c36
  have H1 := H; rw [if_pos rfl] at H1
  clear H
  have H := H1
  clear H1
  obtain ⟨t120, A37, H⟩ := ZOB H; try dsimp only at H
  by_cases c38 : t120 = true
  ·(
  subst c38
  have H1 := H; rw [if_pos rfl] at H1
  clear H
  have H := H1
  clear H1
  obtain ⟨t121, A39, H⟩ := ZOB H; try dsimp only at H
  obtain rfl := Option.some.inj H
  have hnb40 := NB116_117.out
  have hnc40 := NB117_116.out
  have hcz41 := ZC2 wc BK116
  have hfz41 := ZF2 BK116
  have hcz42 := ZC3 wc BK117
  have hfz42 := ZF3 BK117
  go_wp2_with (first | ((with_reducible refine gate_callee (f := 75) rfl ?_); refine ZGL (some 34) Tryd.func75 #[.agg #[.slice A0_0 l0_0.length c0_0, .slice A0_1 l0_1.length c0_1], .int .i64 a1_1] ?_; (with_reducible refine (spec_l2Var.calls _ _ l0_0 _ _ l0_1 a1_1 true _ ?side1 ?side2 ?side3 ?side4 A37.out).mono ?_); (case side1 => exact ZQ (Kd.C_below HR0_0.out HB.out)); (case side2 => exact HC0_0.out); (case side3 => exact ZQ (Kd.C_below HR0_1.out HB.out)); (case side4 => exact HC0_1.out); rintro e w43 ⟨rfl, hb⟩; refine ⟨_, rfl, ?_⟩; replace BK116 := ZW BK116 hb; replace BK117 := ZW BK117 hb; replace HB := ZT HB hb; clear hb; have hcz44 := ZC2 w43 BK116; have hfz44 := ZF2 BK116; have hcz45 := ZC3 w43 BK117; have hfz45 := ZF3 BK117) | (go_at_call 75; (with_reducible refine (spec_l2Var.calls _ _ l0_0 _ _ l0_1 a1_2 t121 _ ?side1 ?side2 ?side3 ?side4 A39.out).mono ?_); (case side1 => exact ZQ (Kd.C_below HR0_0.out HB.out)); (case side2 => exact HC0_0.out); (case side3 => exact ZQ (Kd.C_below HR0_1.out HB.out)); (case side4 => exact HC0_1.out); rintro e w46 ⟨rfl, hb⟩; replace BK116 := ZW BK116 hb; replace BK117 := ZW BK117 hb; replace HB := ZT HB hb; clear hb))
  go_ret
  exact ⟨ZE, ZB⟩)
  ·(
  replace c38 := Bool.eq_false_iff.mpr c38
  subst c38
  have H1 := H; rw [if_neg ZFT] at H1
  clear H
  have H := H1
  clear H1
  obtain rfl := Option.some.inj H
  have hnb47 := NB116_117.out
  have hnc47 := NB117_116.out
  have hcz48 := ZC2 wc BK116
  have hfz48 := ZF2 BK116
  have hcz49 := ZC3 wc BK117
  have hfz49 := ZF3 BK117
  go_wp2_with (first | ((with_reducible refine gate_callee (f := 75) rfl ?_); refine ZGL (some 34) Tryd.func75 #[.agg #[.slice A0_0 l0_0.length c0_0, .slice A0_1 l0_1.length c0_1], .int .i64 a1_1] ?_; (with_reducible refine (spec_l2Var.calls _ _ l0_0 _ _ l0_1 a1_1 false _ ?side1 ?side2 ?side3 ?side4 A37.out).mono ?_); (case side1 => exact ZQ (Kd.C_below HR0_0.out HB.out)); (case side2 => exact HC0_0.out); (case side3 => exact ZQ (Kd.C_below HR0_1.out HB.out)); (case side4 => exact HC0_1.out); rintro e w50 ⟨rfl, hb⟩; refine ⟨_, rfl, ?_⟩; replace BK116 := ZW BK116 hb; replace BK117 := ZW BK117 hb; replace HB := ZT HB hb; clear hb))
  go_ret
  exact ⟨ZE, ZB⟩))
  ·(
  replace c36 := Bool.eq_false_iff.mpr c36
  subst c36
  have H1 := H; rw [if_neg ZFT] at H1
  clear H
  have H := H1
  clear H1
  obtain rfl := Option.some.inj H
  go_wp2
  go_ret
  exact ⟨ZE, ZB⟩))))

-- (spec_l2Step stands with its caller)

end Go.Proofs.YtfcmckomagaiiaaDoor.A
