/- Go functions as Lean functions, and for each its contract; written by wip/tools/pr.py over the kit's print. -/
import Derived.Test.YtaflodibibbakaaAx0
import Derived.Test.YtaflodibibbakaaAx2
import Derived.Test.YtaflodibibbakaaAx4
namespace Go.Proofs.Ytaflodibibbakaa.A
open Go.RowKit Go.Proofs.YtaflodibibbakaaW.PrintWords Go.Proofs.YtaflodibibbakaaW.PrintLast Go.Proofs.YtaflodibibbakaaW.PrintMore
attribute [local go_sem] max2_int min2_int max_two min_two max_three min_three max_four min_four
set_option linter.unusedVariables false
set_option linter.unusedSimpArgs false
set_option maxHeartbeats 8000000
set_option maxRecDepth 100000

/-! ### spec_ProgOk: function 36 -/
def spec_ProgOk.l0 : Nat → Int → List (S60) → List (S50) → Option (Bool)
 | 0, _, _, _ => none
 | k + 1, x3, x137000, x137001 => if x3 < (x137000.length : Int) then (if 0 ≤ x3 then ((spec_LabelOk.f ((rd_T60 x137000 x3).f0) ((rd_T60 x137000 x3).f1)).bind fun t138 => (if t138 = true then (spec_ProgOk.l0 k (wrap64 (x3 + 1)) x137000 x137001) else (some false))) else (none)) else ((spec_l2Steps.f k x137000 x137001 x137001 3).bind fun t139 => (if t139 = true then ((spec_l2Count.f k x137001).bind fun t140 => (some (decide (t140 ≤ 8)))) else (some false)))
def spec_ProgOk.f (k : Nat) (l0_0 : List (S60)) (l0_1 : List (S50)) : Option (Bool) := if (l0_0.length : Int) > 4 then (some false) else (spec_ProgOk.l0 k 0 l0_0 l0_1)
theorem spec_ProgOk.calls (k : Nat) (A0_0 : Option Addr) (c0_0 : Nat) (l0_0 : List (S60)) (A0_1 : Option Addr) (c0_1 : Nat) (l0_1 : List (S50)) (r : Bool) (w : World) (hr0_0 : Kd.C k60 w A0_0 l0_0.length l0_0) (hc0_0 : l0_0.length ≤ c0_0) (hr0_1 : Kd.C k50 w A0_1 l0_1.length l0_1) (hc0_1 : l0_1.length ≤ c0_1) (h : spec_ProgOk.f k l0_0 l0_1 = some r) :
  Calls Try.prog 36 #[.agg #[.slice A0_0 l0_0.length c0_0, .slice A0_1 l0_1.length c0_1]] w fun e w' => e = .returned (.bool r) ∧ Below w.heap.size w w' := by
 have hu32 := Try.underlying32
 have hu60 := Try.underlying60
 have HR0_0 := AM hr0_0
 have HC0_0 := AM hc0_0
 clear hr0_0 hc0_0
 have HR0_1 := AM hr0_1
 have HC0_1 := AM hc0_1
 clear hr0_1 hc0_1
 have HB := AM (Below.refl w.heap.size w)
 have H := h
 unfold spec_ProgOk.f at H
 clear h
 by_cases c2 : (l0_0.length : Int) > 4
 ·(
 rw [if_pos c2] at H
 have c2b0 := decide_eq_true c2
 have c2b1 : decide (4 < l0_0.length) = true := decide_eq_true (by omega)
 clear c2
 obtain rfl := Option.some.inj H
 go_enter Try.func36, Try.ntmps36
 go_wp2_with (first | ((with_reducible refine gate_dst (N := 1) rfl ?_); refine ZX (N := 1) (cs := #[.slice A0_0 l0_0.length c0_0, .slice A0_1 l0_1.length c0_1]) (t := 32) ?_; intro gb136 hg w3 hbox hb; have BK136 := AM (hbox); have GW136 : Aside0 (w.heap.size ≤ gb136) := ZS hg; have GE136 : Aside0 (w.heap.size ≤ gb136) := ZS hg; replace HB := ZT HB hb; clear hb hbox hg; have hcz4 := ZC2 w3 BK136; have hfz4 := ZF2 BK136))
 go_ret
 exact ⟨ZE, ZB⟩)
 ·(
 rw [if_neg c2] at H
 have c2b0 := decide_eq_false c2
 have c2b1 : decide (4 < l0_0.length) = false := decide_eq_false (by omega)
 clear c2
 have H' := AM H
 clear H
 go_enter Try.func36, Try.ntmps36
 go_wp2_with (first | ((with_reducible refine gate_dst (N := 1) rfl ?_); refine ZX (N := 1) (cs := #[.slice A0_0 l0_0.length c0_0, .slice A0_1 l0_1.length c0_1]) (t := 32) ?_; intro gb136 hg w5 hbox hb; have BK136 := AM (hbox); have GW136 : Aside0 (w.heap.size ≤ gb136) := ZS hg; have GE136 : Aside0 (w.heap.size ≤ gb136) := ZS hg; replace HB := ZT HB hb; clear hb hbox hg; have hcz6 := ZC2 w5 BK136; have hfz6 := ZF2 BK136))
 go_loopg [3] k (fun kq v3 w' => ∃ (x3_1 : Int), v3 = .int .i64 x3_1 ∧ Aside0 (spec_ProgOk.l0 kq x3_1 l0_0 l0_1 = some r) ∧ Aside0 (kq ≤ k) ∧ Aside0 (w'.heap[gb136]? = some (.cells #[(.slice A0_0 l0_0.length c0_0), (.slice A0_1 l0_1.length c0_1)] 32 (0, 0))) ∧ Aside0 (Below w.heap.size w w'))
 case atStart => exact ⟨(0), (by first | rfl | (simp; done) | (simp [*]; done)), H', ⟨Nat.le_refl _⟩, ⟨ZK BK136.out⟩, ⟨ZB⟩⟩
 case round => (
 clear H'
 try clear c2
 try clear c2b0
 try clear c2b1
 try clear p2
 try clear c3
 try clear hcz4
 try clear hcz6
 try clear hfz4
 try clear hfz6
 obtain ⟨x3_1, rfl, HA, HK1, BK136, HB⟩ := hrel
 cases gk with
 | zero => exact absurd HA.out (by simp [spec_ProgOk.l0])
 | succ k1 =>
  have H := HA.out
  clear HA
  simp only [spec_ProgOk.l0] at H
  by_cases c7 : x3_1 < (l0_0.length : Int)
  ·(
  rw [if_pos c7] at H
  have c7b0 := decide_eq_true c7
  clear c7
  by_cases c8 : 0 ≤ x3_1
  ·(
  rw [if_pos c8] at H
  have c8b0 := decide_eq_true c8
  clear c8
  obtain ⟨t138, A9, H⟩ := ZOB H; try dsimp only at H
  by_cases c10 : t138 = true
  ·(
  subst c10
  have H1 := H; rw [if_pos rfl] at H1
  clear H
  have H := H1
  clear H1
  have H' := AM H
  clear H
  have hcz11 := ZC2 wr BK136
  have hfz11 := ZF2 BK136
  have p137 : 0 ≤ (x3_1 : Int) := ZD
  have q137 : x3_1 < (l0_0.length : Int) := ZD
  obtain ⟨ad137, e137, hx137_0, hx137_1⟩ := at_T60 HR0_0.out x3_1 p137 q137
  cases e137
  replace hx137_0 := ZHX HB hx137_0
  replace hx137_1 := ZHX HB hx137_1
  replace p137 := eq_true p137
  replace q137 := eq_true q137
  go_wp2_with (first | ((with_reducible refine gate_callee (f := 63) rfl ?_); refine ZGL (some 20) Try.func63 #[.agg #[.int .i64 ((rd_T60 l0_0 x3_1).f0), .int .i64 ((rd_T60 l0_0 x3_1).f1)]] ?_; (with_reducible refine (spec_LabelOk.calls ((rd_T60 l0_0 x3_1).f0) ((rd_T60 l0_0 x3_1).f1) true _ A9.out).mono ?_); rintro e w12 ⟨rfl, hb⟩; refine ⟨_, rfl, ?_⟩; replace BK136 := ZW BK136 hb; replace HB := ZT HB hb; clear hb))
  go_roundg k1
  case measure => have := HK1.out; omega
  case rel => exact ⟨(wrap64 (x3_1 + 1)), (by first | rfl | (simp; done) | (simp [*]; done)), H', ⟨by have := HK1.out; omega⟩, ⟨ZK BK136.out⟩, ⟨ZB⟩⟩)
  ·(
  replace c10 := Bool.eq_false_iff.mpr c10
  subst c10
  have H1 := H; rw [if_neg ZFT] at H1
  clear H
  have H := H1
  clear H1
  obtain rfl := Option.some.inj H
  have hcz13 := ZC2 wr BK136
  have hfz13 := ZF2 BK136
  have p137 : 0 ≤ (x3_1 : Int) := ZD
  have q137 : x3_1 < (l0_0.length : Int) := ZD
  obtain ⟨ad137, e137, hx137_0, hx137_1⟩ := at_T60 HR0_0.out x3_1 p137 q137
  cases e137
  replace hx137_0 := ZHX HB hx137_0
  replace hx137_1 := ZHX HB hx137_1
  replace p137 := eq_true p137
  replace q137 := eq_true q137
  go_wp2_with (first | ((with_reducible refine gate_callee (f := 63) rfl ?_); refine ZGL (some 20) Try.func63 #[.agg #[.int .i64 ((rd_T60 l0_0 x3_1).f0), .int .i64 ((rd_T60 l0_0 x3_1).f1)]] ?_; (with_reducible refine (spec_LabelOk.calls ((rd_T60 l0_0 x3_1).f0) ((rd_T60 l0_0 x3_1).f1) false _ A9.out).mono ?_); rintro e w14 ⟨rfl, hb⟩; refine ⟨_, rfl, ?_⟩; replace BK136 := ZW BK136 hb; replace HB := ZT HB hb; clear hb))
  go_ret
  exact ⟨ZE, ZB⟩))
  ·(
  rw [if_neg c8] at H
  exact absurd H (by simp)))
  ·(
  rw [if_neg c7] at H
  have c7b0 := decide_eq_false c7
  clear c7
  obtain ⟨t139, A15, H⟩ := ZOB H; try dsimp only at H
  by_cases c16 : t139 = true
  ·(
  subst c16
  have H1 := H; rw [if_pos rfl] at H1
  clear H
  have H := H1
  clear H1
  obtain ⟨t140, A17, H⟩ := ZOB H; try dsimp only at H
  obtain rfl := Option.some.inj H
  have hcz18 := ZC2 wr BK136
  have hfz18 := ZF2 BK136
  go_wp2_with (first | ((with_reducible refine gate_callee (f := 64) rfl ?_); refine ZGL (some 25) Try.func64 #[.agg #[.slice A0_0 l0_0.length c0_0, .slice A0_1 l0_1.length c0_1], .slice A0_1 l0_1.length c0_1, .int .i64 3] ?_; (with_reducible refine (spec_l2Steps.calls k1 _ _ l0_0 _ _ l0_1 _ _ l0_1 3 true _ ?side1 ?side2 ?side3 ?side4 ?side5 ?side6 A15.out).mono ?_); (case side1 => exact ZQ (Kd.C_below HR0_0.out HB.out)); (case side2 => exact HC0_0.out); (case side3 => exact ZQ (Kd.C_below HR0_1.out HB.out)); (case side4 => exact HC0_1.out); (case side5 => exact ZQ (Kd.C_below HR0_1.out HB.out)); (case side6 => exact HC0_1.out); rintro e w19 ⟨rfl, hb⟩; refine ⟨_, rfl, ?_⟩; replace BK136 := ZW BK136 hb; replace HB := ZT HB hb; clear hb; have hcz20 := ZC2 w19 BK136; have hfz20 := ZF2 BK136) | (go_at_call 55; (with_reducible refine (spec_l2Count.calls k1 _ _ l0_1 t140 _ ?side1 ?side2 A17.out).mono ?_); (case side1 => exact ZQ (Kd.C_below HR0_1.out HB.out)); (case side2 => exact HC0_1.out); rintro e w21 ⟨rfl, hb⟩; replace BK136 := ZW BK136 hb; replace HB := ZT HB hb; clear hb))
  go_ret
  exact ⟨ZE, ZB⟩)
  ·(
  replace c16 := Bool.eq_false_iff.mpr c16
  subst c16
  have H1 := H; rw [if_neg ZFT] at H1
  clear H
  have H := H1
  clear H1
  obtain rfl := Option.some.inj H
  have hcz22 := ZC2 wr BK136
  have hfz22 := ZF2 BK136
  go_wp2_with (first | ((with_reducible refine gate_callee (f := 64) rfl ?_); refine ZGL (some 25) Try.func64 #[.agg #[.slice A0_0 l0_0.length c0_0, .slice A0_1 l0_1.length c0_1], .slice A0_1 l0_1.length c0_1, .int .i64 3] ?_; (with_reducible refine (spec_l2Steps.calls k1 _ _ l0_0 _ _ l0_1 _ _ l0_1 3 false _ ?side1 ?side2 ?side3 ?side4 ?side5 ?side6 A15.out).mono ?_); (case side1 => exact ZQ (Kd.C_below HR0_0.out HB.out)); (case side2 => exact HC0_0.out); (case side3 => exact ZQ (Kd.C_below HR0_1.out HB.out)); (case side4 => exact HC0_1.out); (case side5 => exact ZQ (Kd.C_below HR0_1.out HB.out)); (case side6 => exact HC0_1.out); rintro e w23 ⟨rfl, hb⟩; refine ⟨_, rfl, ?_⟩; replace BK136 := ZW BK136 hb; replace HB := ZT HB hb; clear hb))
  go_ret
  exact ⟨ZE, ZB⟩))))

/-! ### spec_l1Has: function 37 -/
def spec_l1Has.f (a0 : Int) (a1 : Int) : Option (Bool) := if a1 ≥ 0 then (if a1 < 3 then (if 0 ≤ a1 then (some ((Int.tmod (shr .i64 a0 a1) 2) == 1)) else (none)) else (some false)) else (some false)
theorem spec_l1Has.calls (a0 : Int) (a1 : Int) (r : Bool) (w : World) (h : spec_l1Has.f a0 a1 = some r) :
  Calls Try.prog 37 #[.int .i64 a0, .int .i64 a1] w fun e w' => e = .returned (.bool r) ∧ Drawn0 w w' := by
 have H := h
 unfold spec_l1Has.f at H
 clear h
 by_cases c3 : a1 ≥ 0
 ·(
 rw [if_pos c3] at H
 have c3b0 := decide_eq_true c3
 clear c3
 by_cases c4 : a1 < 3
 ·(
 rw [if_pos c4] at H
 have c4b0 := decide_eq_true c4
 clear c4
 by_cases c5 : 0 ≤ a1
 ·(
 rw [if_pos c5] at H
 have c5b0 := eq_true c5
 have c5b1 := decide_eq_true c5
 clear c5
 obtain ⟨ji6, hji6⟩ : ∃ j_ : Int, (shr .i64 a0 a1) = j_ := ⟨_, rfl⟩
 replace H : (some ((Int.tmod (ji6) 2) == 1)) = some r := by first | (rw [hji6] at H; exact H) | (simp only [hji6] at H ⊢; exact H)
 have hji6_ : (a0 / 2 ^ min a1.toNat 64) = ji6 := hji6
 have hji6z : a1 ≤ 64 → (a0 / 2 ^ a1.toNat) = ji6 := shr_small hji6
 obtain rfl := Option.some.inj H
 go_enter Try.func37, Try.ntmps37
 go_wp2
 go_ret
 exact ⟨by first | rfl | (simp; done) | (simp only [← hji6] <;> (first | rfl | simp)) | (simp [*]; done), by repeat (first | exact Drawn0.refl _ | apply Drawn0.step)⟩)
 ·(
 rw [if_neg c5] at H
 exact absurd H (by simp)))
 ·(
 rw [if_neg c4] at H
 have c4b0 := decide_eq_false c4
 clear c4
 obtain rfl := Option.some.inj H
 go_enter Try.func37, Try.ntmps37
 go_wp2
 go_ret
 exact ⟨by first | rfl | (simp; done) | (simp [*]; done), by repeat (first | exact Drawn0.refl _ | apply Drawn0.step)⟩))
 ·(
 rw [if_neg c3] at H
 have c3b0 := decide_eq_false c3
 clear c3
 obtain rfl := Option.some.inj H
 go_enter Try.func37, Try.ntmps37
 go_wp2
 go_ret
 exact ⟨by first | rfl | (simp; done) | (simp [*]; done), by repeat (first | exact Drawn0.refl _ | apply Drawn0.step)⟩)

/-! ### spec_TypeKnows: function 9 -/
def spec_TypeKnows.l0 : Nat → Int → List Bool → Int → List (S60) → List (S50) → Option (List Bool)
 | 0, _, _, _, _, _ => none
 | k + 1, x1, x5, x6, x142000, x142001 => if x6 < (x142000.length : Int) then ((spec_ProgOk.f k x142000 x142001).bind fun t145 => (if t145 = true then (if 0 ≤ x6 then ((spec_l1Has.f ((rd_T60 x142000 x6).f0) x1).bind fun t147 => (if x5.length < 140737488355328 then (spec_TypeKnows.l0 k x1 (x5 ++ [t147]) (wrap64 (x6 + 1)) x142000 x142001) else (none))) else (none)) else (some x5))) else (some x5)
def spec_TypeKnows.f (k : Nat) (l0_0 : List (S60)) (l0_1 : List (S50)) (a1 : Int) : Option (List Bool) := spec_TypeKnows.l0 k a1 (([] : List Bool)) 0 l0_0 l0_1
theorem spec_TypeKnows.calls (k : Nat) (A0_0 : Option Addr) (c0_0 : Nat) (l0_0 : List (S60)) (A0_1 : Option Addr) (c0_1 : Nat) (l0_1 : List (S50)) (a1 : Int) (r : List Bool) (w : World) (hr0_0 : Kd.C k60 w A0_0 l0_0.length l0_0) (hc0_0 : l0_0.length ≤ c0_0) (hr0_1 : Kd.C k50 w A0_1 l0_1.length l0_1) (hc0_1 : l0_1.length ≤ c0_1) (h : spec_TypeKnows.f k l0_0 l0_1 a1 = some r) :
  Calls Try.prog 9 #[.agg #[.slice A0_0 l0_0.length c0_0, .slice A0_1 l0_1.length c0_1], .int .i64 a1] w fun e w' => ∃ v0_ : Value, e = .returned (v0_) ∧ Kd.R Kd.bool 4 w' w.heap.size (fun _ => True) v0_ r ∧ Below w.heap.size w w' := by
 have hu32 := Try.underlying32
 have HR0_0 := AM hr0_0
 have HC0_0 := AM hc0_0
 clear hr0_0 hc0_0
 have HR0_1 := AM hr0_1
 have HC0_1 := AM hc0_1
 clear hr0_1 hc0_1
 have HB := AM (Below.refl w.heap.size w)
 have H := h
 unfold spec_TypeKnows.f at H
 clear h
 obtain ⟨y142, hy142⟩ : ∃ y_ : List Bool, y_ = (([] : List Bool)) := ⟨_, rfl⟩
 replace H : (spec_TypeKnows.l0 k a1 y142 0 l0_0 l0_1) = some r := by first | (rw [hy142]; with_reducible exact H) | (have H2_ := (Option.bind_some _ _).symm.trans H; rw [hy142]; with_reducible exact H2_) | (have H2_ := (Option.bind_some _ _).symm.trans H; with_reducible exact H2_) | with_reducible exact H | (rw [hy142]; exact H) | exact H
 have Ny142 := AM hy142
 clear hy142
 have H' := AM H
 clear H
 go_enter Try.func9, Try.ntmps9
 go_wp2_with (first | ((with_reducible refine gate_dst (N := 2) rfl ?_); refine ZX (N := 2) (cs := #[.slice A0_0 l0_0.length c0_0, .slice A0_1 l0_1.length c0_1]) (t := 32) ?_; intro gb141 hg w3 hbox hb; have BK141 := AM (hbox); have GW141 : Aside0 (w.heap.size ≤ gb141) := ZS hg; have GE141 : Aside0 (w.heap.size ≤ gb141) := ZS hg; replace HB := ZT HB hb; clear hb hbox hg) | ((with_reducible refine gate_dst (N := 7) rfl ?_); refine Kd.R_lit Kd.bool _ 4 ?hg (N := 7) ?hd (xs := ([] : List Bool)) (inner := []) (ok := fun _ => True) (okp := fun _ => True) ?hr ?hp (fun _ hk => hk) trivial (Below.refl _ _) (Nat.le_refl _) (by simp) ?_; (case hd => rfl); (case hg => rfl); (case hr => first | (go_simp; done) | (go_simp; rfl)); (case hp => exact (Reps.none _ _)); intro v143 w4 ho5 hb hg_ hnew_; clear hg_ hnew_; (first | rw [← Ny142.out] at ho5 | (simp only [Int.reduceToNat] at ho5; rw [← Ny142.out] at ho5)); have HO144 := AM (Kd.R_lower ho5 (below_size (ZB))); replace BK141 := ZW BK141 hb; replace HB := ZT HB hb; clear hb ho5))
 go_loopg [5, 6] k (fun kq v5 v6 w' => ∃ (x5_1 : List Bool) (x6_1 : Int), v6 = .int .i64 x6_1 ∧ Aside0 (spec_TypeKnows.l0 kq a1 x5_1 x6_1 l0_0 l0_1 = some r) ∧ Aside0 (kq ≤ k) ∧ Aside0 (Kd.R Kd.bool 4 w' w.heap.size (fun _ => True) v5 x5_1) ∧ Aside0 (w'.heap[gb141]? = some (.cells #[(.slice A0_0 l0_0.length c0_0), (.slice A0_1 l0_1.length c0_1)] 32 (0, 0))) ∧ Aside0 (Below w.heap.size w w'))
 case atStart => exact ⟨(y142), (0), (by first | rfl | (simp; done) | (simp [*]; done)), H', ⟨Nat.le_refl _⟩, ⟨ZR HO144.out⟩, ⟨ZK BK141.out⟩, ⟨ZB⟩⟩
 case round => (
 clear H'
 try clear p2
 obtain ⟨x5_1, x6_1, rfl, HA, HK1, HO_5, BK141, HB⟩ := hrel
 cases gk with
 | zero => exact absurd HA.out (by simp [spec_TypeKnows.l0])
 | succ k1 =>
  have H := HA.out
  clear HA
  simp only [spec_TypeKnows.l0] at H
  by_cases c6 : x6_1 < (l0_0.length : Int)
  ·(
  rw [if_pos c6] at H
  have c6b0 := decide_eq_true c6
  clear c6
  obtain ⟨t145, A7, H⟩ := ZOB H; try dsimp only at H
  by_cases c8 : t145 = true
  ·(
  subst c8
  have H1 := H; rw [if_pos rfl] at H1
  clear H
  have H := H1
  clear H1
  by_cases c9 : 0 ≤ x6_1
  ·(
  rw [if_pos c9] at H
  have c9b0 := decide_eq_true c9
  clear c9
  obtain ⟨t147, A10, H⟩ := ZOB H; try dsimp only at H
  by_cases c11 : x5_1.length < 140737488355328
  ·(
  rw [if_pos c11] at H
  have LMc11 := AM c11
  clear c11
  obtain ⟨y148, hy148⟩ : ∃ y_ : List Bool, y_ = (x5_1 ++ [t147]) := ⟨_, rfl⟩
  replace H : (spec_TypeKnows.l0 k1 a1 y148 (wrap64 (x6_1 + 1)) l0_0 l0_1) = some r := by first | (rw [hy148]; with_reducible exact H) | (have H2_ := (Option.bind_some _ _).symm.trans H; rw [hy148]; with_reducible exact H2_) | (have H2_ := (Option.bind_some _ _).symm.trans H; with_reducible exact H2_) | with_reducible exact H | (rw [hy148]; exact H) | exact H
  have Ny148 := AM hy148
  clear hy148
  have H' := AM H
  clear H
  have hcz12 := ZC2 wr BK141
  have hfz12 := ZF2 BK141
  go_wp2_with (first | (go_at_call 36; (with_reducible refine (spec_ProgOk.calls k1 _ _ l0_0 _ _ l0_1 true _ ?side1 ?side2 ?side3 ?side4 A7.out).mono ?_); (case side1 => exact ZQ (Kd.C_below HR0_0.out HB.out)); (case side2 => exact HC0_0.out); (case side3 => exact ZQ (Kd.C_below HR0_1.out HB.out)); (case side4 => exact HC0_1.out); rintro e w13 ⟨rfl, hb⟩; replace HO_5 := AM (Kd.R_below (ZR HO_5.out) hb); replace BK141 := ZW BK141 hb; replace HB := ZT HB hb; clear hb; have hcz14 := ZC2 w13 BK141; have hfz14 := ZF2 BK141; have p146 : 0 ≤ (x6_1 : Int) := ZD; have q146 : x6_1 < (l0_0.length : Int) := ZD; obtain ⟨ad146, e146, hx146_0, hx146_1⟩ := at_T60 HR0_0.out x6_1 p146 q146; cases e146; replace hx146_0 := ZHX HB hx146_0; replace hx146_1 := ZHX HB hx146_1; replace p146 := eq_true p146; replace q146 := eq_true q146) | ((with_reducible refine gate_callee (f := 37) rfl ?_); refine ZGL (some 27) Try.func37 #[.int .i64 ((rd_T60 l0_0 x6_1).f0), .int .i64 a1] ?_; (with_reducible refine (spec_l1Has.calls ((rd_T60 l0_0 x6_1).f0) a1 t147 _ A10.out).mono ?_); rintro e w' ⟨rfl, ⟨nd, rfl⟩⟩; refine ⟨_, rfl, ?_⟩) | ((with_reducible refine gate_builtin (b := .append) (xs := #[.tmp 19, .tmp 28]) rfl ?_); at_builtin; refine Kd.R_append Kd.bool (w0 := w) w.heap.size rfl (.tmp 19) (.tmp 28) 27 4 (.bool false) 1 rfl Try.underlying27 info4 rfl (by decide) (by omega) u5 x5_1 t147 [.bool t147] (fun _ => True) (fun _ => False) rfl rfl ?aP (fun _ hk => hk.elim) ?aF ?aO ?aB ?aS ?aL ?_; (case aP => exact rfl); (case aB => exact (ZB)); (case aF => exact (fun _ _ => trivial)); (case aO => exact (ZR HO_5.out)); (case aS => exact (below_size (ZB))); (case aL => have := LMc11.out; omega); intro v149 w15 ho hb hg hat; rw [← Ny148.out] at ho; have n0_ := AM (blk_grown (g := gb141) (o := .cells #[.slice (some ad146) l0_0.length c0_0, .slice A0_1 l0_1.length c0_1] 32 (0, 0)) (ZK BK141.out) hg (Kd.R_ne HO_5.out BK141.out (by decide))); have n1_ := AM (hb); have n2_ := AM (ho); clear BK141 HB HO_5; have BK141 := n0_; have HB := n1_; have HO150 := n2_; clear n0_ n1_ n2_ ho hb hg hat))
  go_roundg k1
  case measure => have := HK1.out; omega
  case rel => exact ⟨(y148), (wrap64 (x6_1 + 1)), (by first | rfl | (simp; done) | (simp [*]; done)), H', ⟨by have := HK1.out; omega⟩, ⟨ZR HO150.out⟩, ⟨ZK BK141.out⟩, ⟨ZB⟩⟩)
  ·(
  rw [if_neg c11] at H
  exact absurd H (by simp)))
  ·(
  rw [if_neg c9] at H
  exact absurd H (by simp)))
  ·(
  replace c8 := Bool.eq_false_iff.mpr c8
  subst c8
  have H1 := H; rw [if_neg ZFT] at H1
  clear H
  have H := H1
  clear H1
  obtain rfl := Option.some.inj H
  have hcz16 := ZC2 wr BK141
  have hfz16 := ZF2 BK141
  go_wp2_with (first | (go_at_call 36; (with_reducible refine (spec_ProgOk.calls k1 _ _ l0_0 _ _ l0_1 false _ ?side1 ?side2 ?side3 ?side4 A7.out).mono ?_); (case side1 => exact ZQ (Kd.C_below HR0_0.out HB.out)); (case side2 => exact HC0_0.out); (case side3 => exact ZQ (Kd.C_below HR0_1.out HB.out)); (case side4 => exact HC0_1.out); rintro e w17 ⟨rfl, hb⟩; replace HO_5 := AM (Kd.R_below (ZR HO_5.out) hb); replace BK141 := ZW BK141 hb; replace HB := ZT HB hb; clear hb))
  go_ret
  exact ⟨_, ZE, by (with_reducible repeat (first | apply Kd.R_alloc | apply Kd.R_drewN | apply Kd.R_drew)); exact HO_5.out, ZB⟩))
  ·(
  rw [if_neg c6] at H
  have c6b0 := decide_eq_false c6
  clear c6
  obtain rfl := Option.some.inj H
  have hcz18 := ZC2 wr BK141
  have hfz18 := ZF2 BK141
  go_wp2
  go_ret
  exact ⟨_, ZE, by (with_reducible repeat (first | apply Kd.R_alloc | apply Kd.R_drewN | apply Kd.R_drew)); exact HO_5.out, ZB⟩))

/-! ### laws_toLabel: function 65 -/
def laws_toLabel.f (a0_0 : Int) (a0_1 : Int) : Option (Int × Int) := some (a0_0, a0_1)
theorem laws_toLabel.calls (a0_0 : Int) (a0_1 : Int) (r1 : Int) (r2 : Int) (w : World) (h : laws_toLabel.f a0_0 a0_1 = some (r1, r2)) :
  Calls Try.prog 65 #[.agg #[.int .i64 a0_0, .int .i64 a0_1]] w fun e w' => e = .returned (.agg #[.int .i64 r1, .int .i64 r2]) ∧ Below w.heap.size w w' := by
 have hu83 := Try.underlying83
 have hu60 := Try.underlying60
 have HB := AM (Below.refl w.heap.size w)
 have H := h
 unfold laws_toLabel.f at H
 clear h
 simp only [Option.some.injEq, Prod.mk.injEq] at H
 obtain ⟨rfl, rfl⟩ := H
 go_enter Try.func65, Try.ntmps65
 go_wp2_with (first | ((with_reducible refine gate_dst (N := 1) rfl ?_); refine ZX (N := 1) (cs := #[.int .i64 a0_0, .int .i64 a0_1]) (t := 83) ?_; intro gb151 hg w2 hbox hb; have BK151 := AM (hbox); have GW151 : Aside0 (w.heap.size ≤ gb151) := ZS hg; have GE151 : Aside0 (w.heap.size ≤ gb151) := ZS hg; replace HB := ZT HB hb; clear hb hbox hg) | ((with_reducible refine gate_dst (N := 2) rfl ?_); refine ZX (N := 2) (cs := #[.int .i64 0, .int .i64 0]) (t := 60) ?_; intro gb152 hg w3 hbox hb; have BK152 := AM (hbox); have GW152 : Aside0 (w.heap.size ≤ gb152) := ZS hg; have GE152 : Aside0 (w.heap.size ≤ gb152) := ZS hg; have NB151_152 : Aside0 (gb151 ≠ gb152) := ZN hg BK151; have NB152_151 : Aside0 (gb152 ≠ gb151) := ZM hg BK151; replace BK151 := ZW BK151 hb; replace HB := ZT HB hb; clear hb hbox hg) | ((with_reducible refine gate_dst (N := 3) rfl ?_); refine ZX (N := 3) (cs := #[.int .i64 0, .int .i64 0]) (t := 60) ?_; intro gb153 hg w4 hbox hb; have BK153 := AM (hbox); have GW153 : Aside0 (w.heap.size ≤ gb153) := ZS hg; have GE153 : Aside0 (w.heap.size ≤ gb153) := ZS hg; have NB151_153 : Aside0 (gb151 ≠ gb153) := ZN hg BK151; have NB153_151 : Aside0 (gb153 ≠ gb151) := ZM hg BK151; have NB152_153 : Aside0 (gb152 ≠ gb153) := ZN hg BK152; have NB153_152 : Aside0 (gb153 ≠ gb152) := ZM hg BK152; replace BK151 := ZW BK151 hb; replace BK152 := ZW BK152 hb; replace HB := ZT HB hb; clear hb hbox hg; have hnb5 := NB151_152.out; have hnc5 := NB152_151.out; have hnb6 := NB151_153.out; have hnc6 := NB153_151.out; have hcz7 := ZC2 w4 BK151; have hfz7 := ZF2 BK151; have hnb8 := NB153_152.out; have hnc8 := NB152_153.out; have hcz9 := ZC2 w4 BK153; have hfz9 := ZF2 BK153; have hcz10 := ZC2 w4 BK152; have hfz10 := ZF2 BK152))
 refine bodyPost_ret (results_cell_row rfl _ _ gb152 60 #[.int .i64 a0_0, .int .i64 a0_1] (0, 0) _ rfl (ZZ BK152.out) Try.underlying60 rfl (by kernel_rfl)) rfl ?_
 exact ⟨ZE, ZB⟩

/-! ### laws_toLabelS: function 38 -/
def laws_toLabelS.l0 : Nat → List (S83) → List (S60) → Int → Option ((List (S60)))
 | 0, _, _, _ => none
 | k + 1, x0, x3, x4 => if x4 < (x0.length : Int) then (if 0 ≤ x4 then ((laws_toLabel.f ((rd_T83 x0 x4).f0) ((rd_T83 x0 x4).f1)).bind fun bt158 => (if x4 < (x3.length : Int) then (laws_toLabelS.l0 k x0 (x3.set (x4 : Int).toNat (⟨bt158.1, bt158.2⟩ : S60)) (wrap64 (x4 + 1))) else (none))) else (none)) else (some x3)
def laws_toLabelS.f (k : Nat) (l0 : List (S83)) : Option ((List (S60))) := if 0 ≤ (l0.length : Int) then (if ((l0.length : Int) : Int).toNat ≤ 17592186044416 then (laws_toLabelS.l0 k l0 (List.replicate ((l0.length : Int) : Int).toNat z60) 0) else (none)) else (none)
theorem laws_toLabelS.calls (k : Nat) (A0 : Option Addr) (c0 : Nat) (l0 : List (S83)) (r : List (S60)) (w : World) (hr0 : Kd.C k83 w A0 l0.length l0) (hc0 : l0.length ≤ c0) (h : laws_toLabelS.f k l0 = some r) :
  Calls Try.prog 38 #[.slice A0 l0.length c0] w fun e w' => ∃ v0_ : Value, e = .returned (v0_) ∧ Kd.R k60 60 w' w.heap.size (fun _ => True) v0_ r ∧ Below w.heap.size w w' := by
 have hu83 := Try.underlying83
 have hu60 := Try.underlying60
 have HR0 := AM hr0
 have HC0 := AM hc0
 clear hr0 hc0
 have HB := AM (Below.refl w.heap.size w)
 have H := h
 unfold laws_toLabelS.f at H
 clear h
 by_cases c2 : 0 ≤ (l0.length : Int)
 ·(
 rw [if_pos c2] at H
 have c2b0 := eq_true c2
 have c2b1 := decide_eq_true c2
 clear c2
 by_cases c3 : ((l0.length : Int) : Int).toNat ≤ 17592186044416
 ·(
 rw [if_pos c3] at H
 have c3b0 := eq_true c3
 have c3b1 := decide_eq_true c3
 clear c3
 obtain ⟨y154, hy154⟩ : ∃ y_ : List (S60), y_ = (List.replicate ((l0.length : Int) : Int).toNat z60) := ⟨_, rfl⟩
 replace H : (laws_toLabelS.l0 k l0 y154 0) = some r := by first | (rw [hy154]; with_reducible exact H) | (have H2_ := (Option.bind_some _ _).symm.trans H; rw [hy154]; with_reducible exact H2_) | (have H2_ := (Option.bind_some _ _).symm.trans H; with_reducible exact H2_) | with_reducible exact H | (rw [hy154]; exact H) | exact H
 have Ny154 := AM hy154
 clear hy154
 have H' := AM H
 clear H
 go_enter Try.func38, Try.ntmps38
 go_wp2_with (first | ((with_reducible refine gate_dst (N := 7) rfl ?_); refine Kd.R_make k60 _ 60 rfl (N := 7) rfl 29 _ _ rfl (l0.length : Int) rfl rfl Try.underlying29 (.agg #[(.int .i64 0), (.int .i64 0)]) 16 info60 rfl (by decide) (by omega) z60 (ok := fun _ => True) (okp := fun _ => True) (k60_mkM _ _ _ z60 ) (fun _ hk => hk) trivial (ZD) (Nat.le_trans (Nat.mul_le_mul_right _ (ZD : (l0.length : Int).toNat ≤ 17592186044416)) (by omega)) (Below.refl _ _) (Nat.le_refl _) ?_; intro v155 w4 ho5 hb hg_ hnew_; clear hg_ hnew_; (first | rw [← Ny154.out] at ho5 | (simp only [Int.reduceToNat] at ho5; rw [← Ny154.out] at ho5)); have HO156 := AM (Kd.R_lower ho5 (below_size (ZB))); replace HB := ZT HB hb; clear hb ho5))
 go_loopg [4] k (fun kq v4 w' => ∃ (x3_1 : List (S60)) (x4_1 : Int), v4 = .int .i64 x4_1 ∧ Aside0 (laws_toLabelS.l0 kq l0 x3_1 x4_1 = some r) ∧ Aside0 (kq ≤ k) ∧ Aside0 (Kd.R k60 60 w' w.heap.size (fun _ => True) v155 x3_1) ∧ Aside0 (Below w.heap.size w w'))
 case atStart => exact ⟨(y154), (0), (by first | rfl | (simp; done) | (simp [*]; done)), H', ⟨Nat.le_refl _⟩, ⟨ZR HO156.out⟩, ⟨ZB⟩⟩
 case round => (
 clear H'
 try clear c2
 try clear c2b0
 try clear c2b1
 try clear p2
 try clear c3
 try clear c3b0
 try clear c3b1
 obtain ⟨x3_1, x4_1, rfl, HA, HK1, HO_3, HB⟩ := hrel
 cases gk with
 | zero => exact absurd HA.out (by simp [laws_toLabelS.l0])
 | succ k1 =>
  have H := HA.out
  clear HA
  simp only [laws_toLabelS.l0] at H
  by_cases c6 : x4_1 < (l0.length : Int)
  ·(
  rw [if_pos c6] at H
  have c6b0 := decide_eq_true c6
  clear c6
  by_cases c7 : 0 ≤ x4_1
  ·(
  rw [if_pos c7] at H
  have c7b0 := decide_eq_true c7
  clear c7
  obtain ⟨⟨t158, t159⟩, A8, H⟩ := ZOB H; try dsimp only at H
  by_cases c9 : x4_1 < (x3_1.length : Int)
  ·(
  rw [if_pos c9] at H
  have c9b0 := decide_eq_true c9
  clear c9
  obtain ⟨y160, hy160⟩ : ∃ y_ : List (S60), y_ = (x3_1.set (x4_1 : Int).toNat (⟨t158, t159⟩ : S60)) := ⟨_, rfl⟩
  replace H : (laws_toLabelS.l0 k1 l0 y160 (wrap64 (x4_1 + 1))) = some r := by first | (rw [hy160]; with_reducible exact H) | (have H2_ := (Option.bind_some _ _).symm.trans H; rw [hy160]; with_reducible exact H2_) | (have H2_ := (Option.bind_some _ _).symm.trans H; with_reducible exact H2_) | with_reducible exact H | (rw [hy160]; exact H) | exact H
  have Ny160 := AM hy160
  clear hy160
  have H' := AM H
  clear H
  have p157 : 0 ≤ (x4_1 : Int) := ZD
  have q157 : x4_1 < (l0.length : Int) := ZD
  obtain ⟨ad157, e157, hx157_0, hx157_1⟩ := at_T83 HR0.out x4_1 p157 q157
  cases e157
  replace hx157_0 := ZHX HB hx157_0
  replace hx157_1 := ZHX HB hx157_1
  replace p157 := eq_true p157
  replace q157 := eq_true q157
  go_wp2_with (first | ((with_reducible refine gate_callee (f := 65) rfl ?_); refine ZGL (some 20) Try.func65 #[.agg #[.int .i64 ((rd_T83 l0 x4_1).f0), .int .i64 ((rd_T83 l0 x4_1).f1)]] ?_; (with_reducible refine (laws_toLabel.calls ((rd_T83 l0 x4_1).f0) ((rd_T83 l0 x4_1).f1) t158 t159 _ A8.out).mono ?_); rintro e w11 ⟨rfl, hb⟩; refine ⟨_, rfl, ?_⟩; replace HO_3 := AM (Kd.R_below (ZR HO_3.out) hb); replace HB := ZT HB hb; clear hb; have p10 : 0 ≤ (x4_1 : Int) := ZD; have q10 : (x4_1 : Int) < ((x3_1.length : Int) : Int) := ZD; obtain ⟨go10, co10, eo10, gb10, gl10, cl10, HG10⟩ := Kd.R_form HO_3.out (by omega); (first | cases eo10 | (injection eo10 with ea_ en_ ec_; (first | subst ea_ | (injection ea_ with ea_; subst ea_)); subst ec_; clear en_)); have GB10 := AM gb10; have GG10 := AM HG10; clear gb10 gl10 HG10; obtain ⟨ce10, hcl10, hM10, hcc10, hfr10⟩ := Kd.R_elem HO_3.out z60 (x4_1 : Int) p10 q10; obtain rfl := k60_openM hM10; have hx10_0 : w11.cell? ⟨go10, (x4_1 : Int).toNat * 2, none⟩ = some (.int .i64 ((rd_T60 x3_1 x4_1).f0)) := hcc10 0 _ rfl; have hx10_1 : w11.cell? ⟨go10, (x4_1 : Int).toNat * 2 + 1, none⟩ = some (.int .i64 ((rd_T60 x3_1 x4_1).f1)) := hcc10 1 _ rfl; have hf10_0 : w11.frozen? ⟨go10, (x4_1 : Int).toNat * 2, none⟩ = false := hfr10 0; have hf10_1 : w11.frozen? ⟨go10, (x4_1 : Int).toNat * 2 + 1, none⟩ = false := hfr10 1; clear hcl10 hcc10 hfr10 hM10; replace p10 := eq_true p10; replace q10 := eq_true q10; have HX12 := AM (show Kd.R k60 60 w11 w.heap.size (fun _ => True) (.slice (some ⟨go10, 0, none⟩) x3_1.length co10) x3_1 from (ZR HO_3.out)); obtain ⟨ce12, hcl12, hM12, hcc12, hfr12⟩ := Kd.R_elem HX12.out z60 (x4_1 : Int) (ZD) (by have h_ : (x4_1 : Int) < ((x3_1.length : Int) : Int) := ZD; first | exact h_ | (have e_ := (Kd.R_reads' HO_3.out).1; omega) | simpa using h_); obtain rfl := k60_openM hM12; have HP12 := Kd.R_seg HX12.out (x4_1 : Int) (ZD) (by have h_ : (x4_1 : Int) < ((x3_1.length : Int) : Int) := ZD; first | exact h_ | (have e_ := (Kd.R_reads' HO_3.out).1; omega) | simpa using h_) (seg := [.int .i64 t158, .int .i64 t159]) (j := 0) hcl12 hcc12 (show 2 ≤ 2 from by decide) (x' := (⟨t158, t159⟩ : S60)) (k60_mkM _ _ _ (⟨t158, t159⟩ : S60) ) (fun _ hk => hk); have hx12_0 := hcc12 0 _ rfl; (try simp only [show (k60).sz = 2 from rfl, Nat.mul_one, Nat.add_zero] at hx12_0); have hf12_0 := hfr12 0; (try simp only [show (k60).sz = 2 from rfl, Nat.mul_one, Nat.add_zero] at hf12_0); have hx12_1 := hcc12 1 _ rfl; (try simp only [show (k60).sz = 2 from rfl, Nat.mul_one, Nat.add_zero] at hx12_1); have hf12_1 := hfr12 1; (try simp only [show (k60).sz = 2 from rfl, Nat.mul_one, Nat.add_zero] at hf12_1); clear hcl12 hcc12 hfr12 hM12) | ((with_reducible refine gate_store (t := 60) (p := 21) rfl ?_); refine store_event (t := 60) (p := 21) (v := ?vo_w13) (w1 := ((w11.setCell ⟨go10, (x4_1 : Int).toNat * 2, none⟩ (.int .i64 t158)).setCell ⟨go10, (x4_1 : Int).toNat * 2 + 1, none⟩ (.int .i64 t159))) ?hg ?ho ?hn ?hr ?_; (case ho => rfl); (case hg => rfl); (case hn => rfl); (case hr => first | (go_simp; done) | (go_simp; rfl)); intro w13 hw; have hg : w11.grownBy w13 (some go10) := (by rw [hw]; exact HP12.2); have hp_ : Kd.R k60 60 w13 w.heap.size (fun _ => True) (.slice (some ⟨go10, 0, none⟩) x3_1.length co10) y160 := (by rw [hw, Ny160.out]; exact HP12.1); clear HP12; replace HO_3 := AM (hp_); replace HB := AM ((by rw [hw]; exact below_set (below_set (HB.out) GB10.out) GB10.out : Below w.heap.size w w13)); clear hg hw hp_))
  go_roundg k1
  case measure => have := HK1.out; omega
  case rel => exact ⟨(y160), (wrap64 (x4_1 + 1)), (by first | rfl | (simp; done) | (simp [*]; done)), H', ⟨by have := HK1.out; omega⟩, ⟨ZR HO_3.out⟩, ⟨ZB⟩⟩)
  ·(
  rw [if_neg c9] at H
  exact absurd H (by simp)))
  ·(
  rw [if_neg c7] at H
  exact absurd H (by simp)))
  ·(
  rw [if_neg c6] at H
  have c6b0 := decide_eq_false c6
  clear c6
  obtain rfl := Option.some.inj H
  go_wp2
  go_ret
  exact ⟨_, ZE, by (with_reducible repeat (first | apply Kd.R_alloc | apply Kd.R_drewN | apply Kd.R_drew)); exact HO_3.out, ZB⟩)))
 ·(
 rw [if_neg c3] at H
 exact absurd H (by simp)))
 ·(
 rw [if_neg c2] at H
 exact absurd H (by simp))

/-! ### laws_toVal: function 79 -/
def laws_toVal.f (a0_0 : Int) (a0_1 : Int) (a0_2 : Int) : Option (Int × Int × Int) := some (a0_0, a0_1, a0_2)
theorem laws_toVal.calls (a0_0 : Int) (a0_1 : Int) (a0_2 : Int) (r1 : Int) (r2 : Int) (r3 : Int) (w : World) (h : laws_toVal.f a0_0 a0_1 a0_2 = some (r1, r2, r3)) :
  Calls Try.prog 79 #[.agg #[.int .i64 a0_0, .int .i64 a0_1, .int .i64 a0_2]] w fun e w' => e = .returned (.agg #[.int .i64 r1, .int .i64 r2, .int .i64 r3]) ∧ Below w.heap.size w w' := by
 have hu77 := Try.underlying77
 have hu48 := Try.underlying48
 have HB := AM (Below.refl w.heap.size w)
 have H := h
 unfold laws_toVal.f at H
 clear h
 simp only [Option.some.injEq, Prod.mk.injEq] at H
 obtain ⟨rfl, rfl, rfl⟩ := H
 go_enter Try.func79, Try.ntmps79
 go_wp2_with (first | ((with_reducible refine gate_dst (N := 1) rfl ?_); refine ZX (N := 1) (cs := #[.int .i64 a0_0, .int .i64 a0_1, .int .i64 a0_2]) (t := 77) ?_; intro gb161 hg w2 hbox hb; have BK161 := AM (hbox); have GW161 : Aside0 (w.heap.size ≤ gb161) := ZS hg; have GE161 : Aside0 (w.heap.size ≤ gb161) := ZS hg; replace HB := ZT HB hb; clear hb hbox hg) | ((with_reducible refine gate_dst (N := 2) rfl ?_); refine ZX (N := 2) (cs := #[.int .i64 0, .int .i64 0, .int .i64 0]) (t := 48) ?_; intro gb162 hg w3 hbox hb; have BK162 := AM (hbox); have GW162 : Aside0 (w.heap.size ≤ gb162) := ZS hg; have GE162 : Aside0 (w.heap.size ≤ gb162) := ZS hg; have NB161_162 : Aside0 (gb161 ≠ gb162) := ZN hg BK161; have NB162_161 : Aside0 (gb162 ≠ gb161) := ZM hg BK161; replace BK161 := ZW BK161 hb; replace HB := ZT HB hb; clear hb hbox hg) | ((with_reducible refine gate_dst (N := 3) rfl ?_); refine ZX (N := 3) (cs := #[.int .i64 0, .int .i64 0, .int .i64 0]) (t := 48) ?_; intro gb163 hg w4 hbox hb; have BK163 := AM (hbox); have GW163 : Aside0 (w.heap.size ≤ gb163) := ZS hg; have GE163 : Aside0 (w.heap.size ≤ gb163) := ZS hg; have NB161_163 : Aside0 (gb161 ≠ gb163) := ZN hg BK161; have NB163_161 : Aside0 (gb163 ≠ gb161) := ZM hg BK161; have NB162_163 : Aside0 (gb162 ≠ gb163) := ZN hg BK162; have NB163_162 : Aside0 (gb163 ≠ gb162) := ZM hg BK162; replace BK161 := ZW BK161 hb; replace BK162 := ZW BK162 hb; replace HB := ZT HB hb; clear hb hbox hg; have hnb5 := NB161_162.out; have hnc5 := NB162_161.out; have hnb6 := NB161_163.out; have hnc6 := NB163_161.out; have hcz7 := ZC3 w4 BK161; have hfz7 := ZF3 BK161; have hnb8 := NB163_162.out; have hnc8 := NB162_163.out; have hcz9 := ZC3 w4 BK163; have hfz9 := ZF3 BK163; have hcz10 := ZC3 w4 BK162; have hfz10 := ZF3 BK162))
 refine bodyPost_ret (results_cell_row rfl _ _ gb162 48 #[.int .i64 a0_0, .int .i64 a0_1, .int .i64 a0_2] (0, 0) _ rfl (ZZ BK162.out) Try.underlying48 rfl (by kernel_rfl)) rfl ?_
 exact ⟨ZE, ZB⟩

-- (laws_toStep stands with its caller)

end Go.Proofs.Ytaflodibibbakaa.A
