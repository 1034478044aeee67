/- What Go functions compute, as Lean functions, and for each its contract: for every input at which the Lean function answers the call returns that; written by wip/tools/pr.py over the kit's print. -/
import Derived.Test.YtcffnnedghgmaaaAx0
import Derived.Test.YtcffnnedghgmaaaAx9
namespace Go.Proofs.Ytcffnnedghgmaaa.A
open Go.RowKit Go.Proofs.YtcffnnedghgmaaaW.PrintWords Go.Proofs.YtcffnnedghgmaaaW.PrintLast Go.Proofs.YtcffnnedghgmaaaW.PrintMore
attribute [local go_sem] max2_int min2_int max_two min_two max_three min_three max_four min_four   -- for this text's walks alone
set_option linter.unusedVariables false
set_option linter.unusedSimpArgs false

/-! ### laws_szStep: function 131 -/
def laws_szStep.g (k : Nat) (bf : List (S112) → Int → Option (Int)) (a0_0 : Int) (a0_1 : Int) (a0_2 : Int) (a0_3 : Int) (a0_4 : Int) (a0_5 : Int) (l0_6 : List (S112)) (l0_7 : List (S112)) (a1 : Int) : Option (Int) := (bf l0_6 a1).bind fun t171 => (if t171 < 0 then (some (-1)) else ((bf l0_7 t171).bind fun t172 => (if t172 < 0 then (some (-1)) else (some t172))))
set_option maxHeartbeats 8000000 in
set_option maxRecDepth 100000 in
theorem laws_szStep.calls_g (k : Nat) (bf : List (S112) → Int → Option (Int)) (ihB : ∀ (A0 : Option Addr) (c0 : Nat) (l0 : List (S112)) (a1 : Int) (r : Int) (w : World) (hr0 : Kd.C k112 w A0 l0.length l0) (hc0 : l0.length ≤ c0) (h : bf l0 a1 = some r),
  Calls Try.prog 96 #[.slice A0 l0.length c0, .int .i64 a1] w fun e w' => e = .returned (.int .i64 r) ∧ Below w.heap.size w w') (a0_0 : Int) (a0_1 : Int) (a0_2 : Int) (a0_3 : Int) (a0_4 : Int) (a0_5 : Int) (A0_6 : Option Addr) (c0_6 : Nat) (l0_6 : List (S112)) (A0_7 : Option Addr) (c0_7 : Nat) (l0_7 : List (S112)) (a1 : Int) (r : Int) (w : World) (hr0_6 : Kd.C k112 w A0_6 l0_6.length l0_6) (hc0_6 : l0_6.length ≤ c0_6) (hr0_7 : Kd.C k112 w A0_7 l0_7.length l0_7) (hc0_7 : l0_7.length ≤ c0_7) (h : laws_szStep.g k bf a0_0 a0_1 a0_2 a0_3 a0_4 a0_5 l0_6 l0_7 a1 = some r) :
  Calls Try.prog 131 #[.agg #[.int .i64 a0_0, .int .i64 a0_1, .int .i64 a0_2, .int .i64 a0_3, .int .i64 a0_4, .int .i64 a0_5, .slice A0_6 l0_6.length c0_6, .slice A0_7 l0_7.length c0_7], .int .i64 a1] w fun e w' => e = .returned (.int .i64 r) ∧ Below w.heap.size w w' := by
 have hu112 := Try.underlying112
 have HR0_6 := Aside0.mk hr0_6
 have HC0_6 := Aside0.mk hc0_6
 clear hr0_6 hc0_6
 have HR0_7 := Aside0.mk hr0_7
 have HC0_7 := Aside0.mk hc0_7
 clear hr0_7 hc0_7
 have HB := Aside0.mk (Below.refl w.heap.size w)
 have H : ((bf l0_6 a1).bind fun t171 => (if t171 < 0 then (some (-1)) else ((bf l0_7 t171).bind fun t172 => (if t172 < 0 then (some (-1)) else (some t172))))) = some r := h
 clear h
 replace H := Option.bind_eq_some_iff.mp H
 obtain ⟨t171, A30, H⟩ := H
 replace H : (if t171 < 0 then (some (-1)) else ((bf l0_7 t171).bind fun t172 => (if t172 < 0 then (some (-1)) else (some t172)))) = some r := H
 have A3 := Aside0.mk A30
 clear A30
 by_cases c4 : t171 < 0
 focus
  rw [if_pos c4] at H
  have c4b0 : decide (t171 < 0) = true := decide_eq_true c4
  clear c4
  obtain rfl := Option.some.inj H
  have tag0_ : Aside0 True := ⟨trivial⟩
 rotate_left
 focus
  rw [if_neg c4] at H
  have c4b0 : decide (t171 < 0) = false := decide_eq_false c4
  clear c4
  replace H := Option.bind_eq_some_iff.mp H
  obtain ⟨t172, A80, H⟩ := H
  replace H : (if t172 < 0 then (some (-1)) else (some t172)) = some r := H
  have A8 := Aside0.mk A80
  clear A80
  by_cases c9 : t172 < 0
  focus
   rw [if_pos c9] at H
   have c9b0 : decide (t172 < 0) = true := decide_eq_true c9
   clear c9
   obtain rfl := Option.some.inj H
   have tag1_ : Aside0 True := ⟨trivial⟩
  rotate_left
  focus
   rw [if_neg c9] at H
   have c9b0 : decide (t172 < 0) = false := decide_eq_false c9
   clear c9
   obtain rfl := Option.some.inj H
   have tag2_ : Aside0 True := ⟨trivial⟩
  rotate_left
 rotate_left 2
 all_goals
  go_enter Try.func131, Try.ntmps131
  first
  | (
    (have z_ := tag0_; clear z_)
    go_wp2_with (first | ((with_reducible refine gate_dst (N := 2) rfl ?_); refine ZX (N := 2) (cs := #[.int .i64 a0_0, .int .i64 a0_1, .int .i64 a0_2, .int .i64 a0_3, .int .i64 a0_4, .int .i64 a0_5, .slice A0_6 l0_6.length c0_6, .slice A0_7 l0_7.length c0_7]) (t := 112) ?_; intro gbq0 hg wq0 hbox hb; have BKq0 := Aside0.mk (hbox); have GWq0 : Aside0 (w.heap.size ≤ gbq0) := ZS hg; have GEq0 : Aside0 (w.heap.size ≤ gbq0) := ZS hg; replace HB := ZT hb; clear hb hbox hg; obtain ⟨hczq0_0, hczq0_1, hczq0_2, hczq0_3, hczq0_4, hczq0_5, hczq0_6, hczq0_7⟩ := ZC8 wq0 BKq0; obtain ⟨hfzq0_0, hfzq0_1, hfzq0_2, hfzq0_3, hfzq0_4, hfzq0_5, hfzq0_6, hfzq0_7⟩ := ZF8 BKq0) | ((with_reducible refine gate_callee (f := 96) rfl ?_); refine goesL_ (some 8) rfl rfl Try.func96 (by kernel_rfl) rfl #[.slice A0_6 l0_6.length c0_6, .int .i64 a1] rfl ZG ?_; (with_reducible refine (ihB _ _ l0_6 a1 t171 _ ?side1 ?side2 A3.out).mono ?_); (case side1 => exact ZQ (Kd.C_below HR0_6.out HB.out)); (case side2 => exact HC0_6.out); rintro e wq1 ⟨rfl, hb⟩; refine ⟨_, rfl, ?_⟩; replace BKq0 := ZW BKq0 hb; replace HB := ZT hb; (try clear hb); (try clear hb2); (try clear hk); (try clear hi)))
    go_ret
    exact ⟨ZE, ZB⟩)
  | (
    (first | (have z_ := tag1_; clear z_) | (have z_ := tag2_; clear z_))
    go_wp2_with (first | ((with_reducible refine gate_dst (N := 2) rfl ?_); refine ZX (N := 2) (cs := #[.int .i64 a0_0, .int .i64 a0_1, .int .i64 a0_2, .int .i64 a0_3, .int .i64 a0_4, .int .i64 a0_5, .slice A0_6 l0_6.length c0_6, .slice A0_7 l0_7.length c0_7]) (t := 112) ?_; intro gbq0 hg wq0 hbox hb; have BKq0 := Aside0.mk (hbox); have GWq0 : Aside0 (w.heap.size ≤ gbq0) := ZS hg; have GEq0 : Aside0 (w.heap.size ≤ gbq0) := ZS hg; replace HB := ZT hb; clear hb hbox hg; obtain ⟨hczq0_0, hczq0_1, hczq0_2, hczq0_3, hczq0_4, hczq0_5, hczq0_6, hczq0_7⟩ := ZC8 wq0 BKq0; obtain ⟨hfzq0_0, hfzq0_1, hfzq0_2, hfzq0_3, hfzq0_4, hfzq0_5, hfzq0_6, hfzq0_7⟩ := ZF8 BKq0) | ((with_reducible refine gate_callee (f := 96) rfl ?_); refine goesL_ (some 8) rfl rfl Try.func96 (by kernel_rfl) rfl #[.slice A0_6 l0_6.length c0_6, .int .i64 a1] rfl ZG ?_; (with_reducible refine (ihB _ _ l0_6 a1 t171 _ ?side1 ?side2 A3.out).mono ?_); (case side1 => exact ZQ (Kd.C_below HR0_6.out HB.out)); (case side2 => exact HC0_6.out); rintro e wq1 ⟨rfl, hb⟩; refine ⟨_, rfl, ?_⟩; replace BKq0 := ZW BKq0 hb; replace HB := ZT hb; (try clear hb); (try clear hb2); (try clear hk); (try clear hi); obtain ⟨hczq1_0, hczq1_1, hczq1_2, hczq1_3, hczq1_4, hczq1_5, hczq1_6, hczq1_7⟩ := ZC8 wq1 BKq0; obtain ⟨hfzq1_0, hfzq1_1, hfzq1_2, hfzq1_3, hfzq1_4, hfzq1_5, hfzq1_6, hfzq1_7⟩ := ZF8 BKq0) | ((with_reducible refine gate_callee (f := 96) rfl ?_); refine goesL_ (some 14) rfl rfl Try.func96 (by kernel_rfl) rfl #[.slice A0_7 l0_7.length c0_7, .int .i64 t171] rfl ZG ?_; (with_reducible refine (ihB _ _ l0_7 t171 t172 _ ?side1 ?side2 A8.out).mono ?_); (case side1 => exact ZQ (Kd.C_below HR0_7.out HB.out)); (case side2 => exact HC0_7.out); rintro e wq2 ⟨rfl, hb⟩; refine ⟨_, rfl, ?_⟩; replace BKq0 := ZW BKq0 hb; replace HB := ZT hb; (try clear hb); (try clear hb2); (try clear hk); (try clear hi)))
    go_ret
    exact ⟨ZE, ZB⟩)

/-! ### laws_szStepS: function 96 -/
mutual
def laws_szStepS.l0 : Nat → List (S112) → Int → Int → Option (Int)
 | 0, _, _, _ => none
 | k + 1, x0, x1, x5 => if x5 < (x0.length : Int) then (if 0 ≤ x5 then ((laws_szStep.g k (laws_szStepS.f k) ((rd_T112 x0 x5).f0) ((rd_T112 x0 x5).f1) ((rd_T112 x0 x5).f2.f0) ((rd_T112 x0 x5).f2.f1) ((rd_T112 x0 x5).f2.f2) ((rd_T112 x0 x5).f3) ((rd_T112 x0 x5).f4) ((rd_T112 x0 x5).f5) x1).bind fun t174 => (if t174 < 0 then (some (-1)) else (laws_szStepS.l0 k x0 t174 (wrap64 (x5 + 1))))) else (none)) else (some x1)
def laws_szStepS.f : Nat → List (S112) → Int → Option (Int)
 | 0, _, _ => none
 | k + 1, l0, a1 => if (wrap64 (a1 - (l0.length : Int))) < 0 then (some (-1)) else (laws_szStepS.l0 k l0 (wrap64 (a1 - (l0.length : Int))) 0)
end
theorem laws_szStep.calls_of {K : Nat} (ih : ∀ m, m < K → ∀ (A0 : Option Addr) (c0 : Nat) (l0 : List (S112)) (a1 : Int) (r : Int) (w : World) (hr0 : Kd.C k112 w A0 l0.length l0) (hc0 : l0.length ≤ c0) (h : laws_szStepS.f m l0 a1 = some r),
  Calls Try.prog 96 #[.slice A0 l0.length c0, .int .i64 a1] w fun e w' => e = .returned (.int .i64 r) ∧ Below w.heap.size w w') (k : Nat) (hk : k < K) (a0_0 : Int) (a0_1 : Int) (a0_2 : Int) (a0_3 : Int) (a0_4 : Int) (a0_5 : Int) (A0_6 : Option Addr) (c0_6 : Nat) (l0_6 : List (S112)) (A0_7 : Option Addr) (c0_7 : Nat) (l0_7 : List (S112)) (a1 : Int) (r : Int) (w : World) (hr0_6 : Kd.C k112 w A0_6 l0_6.length l0_6) (hc0_6 : l0_6.length ≤ c0_6) (hr0_7 : Kd.C k112 w A0_7 l0_7.length l0_7) (hc0_7 : l0_7.length ≤ c0_7) (h : laws_szStep.g k (laws_szStepS.f k) a0_0 a0_1 a0_2 a0_3 a0_4 a0_5 l0_6 l0_7 a1 = some r) :
  Calls Try.prog 131 #[.agg #[.int .i64 a0_0, .int .i64 a0_1, .int .i64 a0_2, .int .i64 a0_3, .int .i64 a0_4, .int .i64 a0_5, .slice A0_6 l0_6.length c0_6, .slice A0_7 l0_7.length c0_7], .int .i64 a1] w fun e w' => e = .returned (.int .i64 r) ∧ Below w.heap.size w w' := laws_szStep.calls_g k (laws_szStepS.f k) (ih k hk) a0_0 a0_1 a0_2 a0_3 a0_4 a0_5 A0_6 c0_6 l0_6 A0_7 c0_7 l0_7 a1 r w hr0_6 hc0_6 hr0_7 hc0_7 h
set_option maxHeartbeats 8000000 in
set_option maxRecDepth 100000 in
theorem laws_szStepS.calls (k : Nat) : ∀ (A0 : Option Addr) (c0 : Nat) (l0 : List (S112)) (a1 : Int) (r : Int) (w : World) (hr0 : Kd.C k112 w A0 l0.length l0) (hc0 : l0.length ≤ c0) (h : laws_szStepS.f k l0 a1 = some r),
  Calls Try.prog 96 #[.slice A0 l0.length c0, .int .i64 a1] w fun e w' => e = .returned (.int .i64 r) ∧ Below w.heap.size w w' := by
 induction k using Nat.strongRecOn with
 | _ k ih =>
 intro A0 c0 l0 a1 r w hr0 hc0 h
 cases k with
 | zero => exact absurd h (by simp [laws_szStepS.f])
 | succ k =>
 simp only [laws_szStepS.f] at h
 have hu112 := Try.underlying112
 have HR0 := Aside0.mk hr0
 have HC0 := Aside0.mk hc0
 clear hr0 hc0
 have HB := Aside0.mk (Below.refl w.heap.size w)
 have H : (if (wrap64 (a1 - (l0.length : Int))) < 0 then (some (-1)) else (laws_szStepS.l0 k l0 (wrap64 (a1 - (l0.length : Int))) 0)) = some r := h
 clear h
 by_cases c3 : (wrap64 (a1 - (l0.length : Int))) < 0
 ·rw [if_pos c3] at H
  have c3b0 : decide ((wrap64 (a1 - (l0.length : Int))) < 0) = true := decide_eq_true c3
  clear c3
  obtain rfl := Option.some.inj H
  go_enter Try.func96, Try.ntmps96
  go_wp2
  go_ret
  exact ⟨ZE, ZB⟩
 ·rw [if_neg c3] at H
  have c3b0 : decide ((wrap64 (a1 - (l0.length : Int))) < 0) = false := decide_eq_false c3
  clear c3
  have H' := Aside0.mk H
  clear H
  go_enter Try.func96, Try.ntmps96
  go_wp2
  go_loopg [1, 5] k (fun kq v1 v5 w' => ∃ (x1_1 : Int) (x5_1 : Int), v1 = .int .i64 x1_1 ∧ v5 = .int .i64 x5_1 ∧ Aside0 (laws_szStepS.l0 kq l0 x1_1 x5_1 = some r) ∧ Aside0 (kq ≤ k) ∧ Aside0 (Below w.heap.size w w'))
  case atStart => exact ⟨(wrap64 (a1 - (l0.length : Int))), (0), (by first | rfl | (simp; done) | (simp [*]; done)), (by first | rfl | (simp; done) | (simp [*]; done)), H', ⟨Nat.le_refl _⟩, ⟨ZB⟩⟩
  case round =>
   clear H'
   try clear p2
   try clear c3
   try clear c3b0
   obtain ⟨x1_1, x5_1, rfl, rfl, HA, HK1, HB⟩ := hrel
   cases gk with
   | zero => exact absurd HA.out (by simp [laws_szStepS.l0])
   | succ k1 =>
    have H := HA.out
    clear HA
    simp only [laws_szStepS.l0] at H
    by_cases c4 : x5_1 < (l0.length : Int)
    focus
     rw [if_pos c4] at H
     have c4b0 : decide (x5_1 < (l0.length : Int)) = true := decide_eq_true c4
     clear c4
     by_cases c5 : 0 ≤ x5_1
     focus
      rw [if_pos c5] at H
      have c5b0 : decide (0 ≤ x5_1) = true := decide_eq_true c5
      clear c5
      replace H := Option.bind_eq_some_iff.mp H
      obtain ⟨t174, A60, H⟩ := H
      replace H : (if t174 < 0 then (some (-1)) else (laws_szStepS.l0 k1 l0 t174 (wrap64 (x5_1 + 1)))) = some r := H
      have A6 := Aside0.mk A60
      clear A60
      by_cases c7 : t174 < 0
      focus
       rw [if_pos c7] at H
       have c7b0 : decide (t174 < 0) = true := decide_eq_true c7
       clear c7
       obtain rfl := Option.some.inj H
       have tag0_ : Aside0 True := ⟨trivial⟩
      rotate_left
      focus
       rw [if_neg c7] at H
       have c7b0 : decide (t174 < 0) = false := decide_eq_false c7
       clear c7
       have H' := Aside0.mk H
       clear H
       have tag1_ : Aside0 True := ⟨trivial⟩
      rotate_left
     rotate_left 2
     focus
      rw [if_neg c5] at H
      exact absurd H (by simp)
    rotate_left 2
    focus
     rw [if_neg c4] at H
     have c4b0 : decide (x5_1 < (l0.length : Int)) = false := decide_eq_false c4
     clear c4
     obtain rfl := Option.some.inj H
     have tag2_ : Aside0 True := ⟨trivial⟩
    rotate_left
    all_goals
     first
     | (
       (first | (have z_ := tag0_; clear z_) | (have z_ := tag1_; clear z_))
       have pq0 : 0 ≤ (x5_1 : Int) := ZD
       have qq0 : x5_1 < (l0.length : Int) := ZD
       obtain ⟨adq0, Aq0_6, cq0_6, Aq0_7, cq0_7, eq0, hxq0_0, hxq0_1, hxq0_2, hxq0_3, hxq0_4, hxq0_5, hxq0_6, hxq0_7, hlq0_6, hiq0_6, hlq0_7, hiq0_7⟩ := at_T112 HR0.out x5_1 pq0 qq0
       cases eq0
       replace hxq0_0 := (HB.out.cell (World.block_lt_of_cell? w _ hxq0_0)).trans hxq0_0
       replace hxq0_1 := (HB.out.cell (World.block_lt_of_cell? w _ hxq0_1)).trans hxq0_1
       replace hxq0_2 := (HB.out.cell (World.block_lt_of_cell? w _ hxq0_2)).trans hxq0_2
       replace hxq0_3 := (HB.out.cell (World.block_lt_of_cell? w _ hxq0_3)).trans hxq0_3
       replace hxq0_4 := (HB.out.cell (World.block_lt_of_cell? w _ hxq0_4)).trans hxq0_4
       replace hxq0_5 := (HB.out.cell (World.block_lt_of_cell? w _ hxq0_5)).trans hxq0_5
       replace hxq0_6 := (HB.out.cell (World.block_lt_of_cell? w _ hxq0_6)).trans hxq0_6
       replace hxq0_7 := (HB.out.cell (World.block_lt_of_cell? w _ hxq0_7)).trans hxq0_7
       have HRq0_6 := Aside0.mk hiq0_6
       have HCq0_6 := Aside0.mk hlq0_6
       clear hiq0_6 hlq0_6
       have HRq0_7 := Aside0.mk hiq0_7
       have HCq0_7 := Aside0.mk hlq0_7
       clear hiq0_7 hlq0_7
       replace pq0 := eq_true pq0
       replace qq0 := eq_true qq0
       go_wp2_with (first | ((with_reducible refine gate_callee (f := 131) rfl ?_); refine goesL_ (some 23) rfl rfl Try.func131 (by kernel_rfl) rfl #[.agg #[.int .i64 ((rd_T112 l0 x5_1).f0), .int .i64 ((rd_T112 l0 x5_1).f1), .int .i64 ((rd_T112 l0 x5_1).f2.f0), .int .i64 ((rd_T112 l0 x5_1).f2.f1), .int .i64 ((rd_T112 l0 x5_1).f2.f2), .int .i64 ((rd_T112 l0 x5_1).f3), .slice Aq0_6 ((rd_T112 l0 x5_1).f4).length cq0_6, .slice Aq0_7 ((rd_T112 l0 x5_1).f5).length cq0_7], .int .i64 x1_1] rfl ZG ?_; (with_reducible refine ((laws_szStep.calls_of ih) k1 (by have := HK1.out; omega) ((rd_T112 l0 x5_1).f0) ((rd_T112 l0 x5_1).f1) ((rd_T112 l0 x5_1).f2.f0) ((rd_T112 l0 x5_1).f2.f1) ((rd_T112 l0 x5_1).f2.f2) ((rd_T112 l0 x5_1).f3) _ _ ((rd_T112 l0 x5_1).f4) _ _ ((rd_T112 l0 x5_1).f5) x1_1 t174 _ ?side1 ?side2 ?side3 ?side4 A6.out).mono ?_); (case side1 => exact ZQ (Kd.C_below HRq0_6.out HB.out)); (case side2 => exact HCq0_6.out); (case side3 => exact ZQ (Kd.C_below HRq0_7.out HB.out)); (case side4 => exact HCq0_7.out); rintro e wq0 ⟨rfl, hb⟩; refine ⟨_, rfl, ?_⟩; replace HB := ZT hb; (try clear hb); (try clear hb2); (try clear hk); (try clear hi)))
       first
       | (
         (have z_ := tag0_; clear z_)
         go_ret
         exact ⟨ZE, ZB⟩)
       | (
         (have z_ := tag1_; clear z_)
         go_roundg k1
         case measure => have := HK1.out; omega
         case rel => exact ⟨(t174), (wrap64 (x5_1 + 1)), (by first | rfl | (simp; done) | (simp [*]; done)), (by first | rfl | (simp; done) | (simp [*]; done)), H', ⟨by have := HK1.out; omega⟩, ⟨ZB⟩⟩))
     | (
       (have z_ := tag2_; clear z_)
       go_wp2
       go_ret
       exact ⟨ZE, ZB⟩
       )
def laws_szStep.f (k : Nat) := laws_szStep.g k (laws_szStepS.f k)
theorem laws_szStep.calls (k : Nat) (a0_0 : Int) (a0_1 : Int) (a0_2 : Int) (a0_3 : Int) (a0_4 : Int) (a0_5 : Int) (A0_6 : Option Addr) (c0_6 : Nat) (l0_6 : List (S112)) (A0_7 : Option Addr) (c0_7 : Nat) (l0_7 : List (S112)) (a1 : Int) (r : Int) (w : World) (hr0_6 : Kd.C k112 w A0_6 l0_6.length l0_6) (hc0_6 : l0_6.length ≤ c0_6) (hr0_7 : Kd.C k112 w A0_7 l0_7.length l0_7) (hc0_7 : l0_7.length ≤ c0_7) (h : laws_szStep.f k a0_0 a0_1 a0_2 a0_3 a0_4 a0_5 l0_6 l0_7 a1 = some r) :
  Calls Try.prog 131 #[.agg #[.int .i64 a0_0, .int .i64 a0_1, .int .i64 a0_2, .int .i64 a0_3, .int .i64 a0_4, .int .i64 a0_5, .slice A0_6 l0_6.length c0_6, .slice A0_7 l0_7.length c0_7], .int .i64 a1] w fun e w' => e = .returned (.int .i64 r) ∧ Below w.heap.size w w' := laws_szStep.calls_g k (laws_szStepS.f k) (laws_szStepS.calls k) a0_0 a0_1 a0_2 a0_3 a0_4 a0_5 A0_6 c0_6 l0_6 A0_7 c0_7 l0_7 a1 r w hr0_6 hc0_6 hr0_7 hc0_7 h

/-! ### laws_szProg: function 37 -/
def laws_szProg.f (k : Nat) (l0_0 : List (S114)) (l0_1 : List (S112)) (a1 : Int) : Option (Int) := (laws_szLabelS.f l0_0 a1).bind fun t176 => (if t176 < 0 then (some (-1)) else ((laws_szStepS.f k l0_1 t176).bind fun t177 => (if t177 < 0 then (some (-1)) else (some t177))))
set_option maxHeartbeats 8000000 in
set_option maxRecDepth 100000 in
theorem laws_szProg.calls (k : Nat) (A0_0 : Option Addr) (c0_0 : Nat) (l0_0 : List (S114)) (A0_1 : Option Addr) (c0_1 : Nat) (l0_1 : List (S112)) (a1 : Int) (r : Int) (w : World) (hr0_0 : Kd.C k114 w A0_0 l0_0.length l0_0) (hc0_0 : l0_0.length ≤ c0_0) (hr0_1 : Kd.C k112 w A0_1 l0_1.length l0_1) (hc0_1 : l0_1.length ≤ c0_1) (h : laws_szProg.f k l0_0 l0_1 a1 = some r) :
  Calls Try.prog 37 #[.agg #[.slice A0_0 l0_0.length c0_0, .slice A0_1 l0_1.length c0_1], .int .i64 a1] w fun e w' => e = .returned (.int .i64 r) ∧ Below w.heap.size w w' := by
 have hu41 := Try.underlying41
 have HR0_0 := Aside0.mk hr0_0
 have HC0_0 := Aside0.mk hc0_0
 clear hr0_0 hc0_0
 have HR0_1 := Aside0.mk hr0_1
 have HC0_1 := Aside0.mk hc0_1
 clear hr0_1 hc0_1
 have HB := Aside0.mk (Below.refl w.heap.size w)
 have H : ((laws_szLabelS.f l0_0 a1).bind fun t176 => (if t176 < 0 then (some (-1)) else ((laws_szStepS.f k l0_1 t176).bind fun t177 => (if t177 < 0 then (some (-1)) else (some t177))))) = some r := h
 clear h
 replace H := Option.bind_eq_some_iff.mp H
 obtain ⟨t176, A30, H⟩ := H
 replace H : (if t176 < 0 then (some (-1)) else ((laws_szStepS.f k l0_1 t176).bind fun t177 => (if t177 < 0 then (some (-1)) else (some t177)))) = some r := H
 have A3 := Aside0.mk A30
 clear A30
 by_cases c4 : t176 < 0
 focus
  rw [if_pos c4] at H
  have c4b0 : decide (t176 < 0) = true := decide_eq_true c4
  clear c4
  obtain rfl := Option.some.inj H
  have tag0_ : Aside0 True := ⟨trivial⟩
 rotate_left
 focus
  rw [if_neg c4] at H
  have c4b0 : decide (t176 < 0) = false := decide_eq_false c4
  clear c4
  replace H := Option.bind_eq_some_iff.mp H
  obtain ⟨t177, A70, H⟩ := H
  replace H : (if t177 < 0 then (some (-1)) else (some t177)) = some r := H
  have A7 := Aside0.mk A70
  clear A70
  by_cases c8 : t177 < 0
  focus
   rw [if_pos c8] at H
   have c8b0 : decide (t177 < 0) = true := decide_eq_true c8
   clear c8
   obtain rfl := Option.some.inj H
   have tag1_ : Aside0 True := ⟨trivial⟩
  rotate_left
  focus
   rw [if_neg c8] at H
   have c8b0 : decide (t177 < 0) = false := decide_eq_false c8
   clear c8
   obtain rfl := Option.some.inj H
   have tag2_ : Aside0 True := ⟨trivial⟩
  rotate_left
 rotate_left 2
 all_goals
  go_enter Try.func37, Try.ntmps37
  first
  | (
    (have z_ := tag0_; clear z_)
    go_wp2_with (first | ((with_reducible refine gate_dst (N := 2) rfl ?_); refine ZX (N := 2) (cs := #[.slice A0_0 l0_0.length c0_0, .slice A0_1 l0_1.length c0_1]) (t := 41) ?_; intro gbq0 hg wq0 hbox hb; have BKq0 := Aside0.mk (hbox); have GWq0 : Aside0 (w.heap.size ≤ gbq0) := ZS hg; have GEq0 : Aside0 (w.heap.size ≤ gbq0) := ZS hg; replace HB := ZT hb; clear hb hbox hg; obtain ⟨hczq0_0, hczq0_1⟩ := ZC2 wq0 BKq0; obtain ⟨hfzq0_0, hfzq0_1⟩ := ZF2 BKq0) | ((with_reducible refine gate_callee (f := 95) rfl ?_); refine goesL_ (some 8) rfl rfl Try.func95 (by kernel_rfl) rfl #[.slice A0_0 l0_0.length c0_0, .int .i64 a1] rfl ZG ?_; (with_reducible refine (laws_szLabelS.calls _ _ l0_0 a1 t176 _ ?side1 ?side2 A3.out).mono ?_); (case side1 => exact ZQ (Kd.C_below HR0_0.out HB.out)); (case side2 => exact HC0_0.out); rintro e w' ⟨rfl, ⟨nd, rfl⟩⟩; refine ⟨_, rfl, ?_⟩))
    go_ret
    exact ⟨ZE, ZB⟩)
  | (
    (first | (have z_ := tag1_; clear z_) | (have z_ := tag2_; clear z_))
    go_wp2_with (first | ((with_reducible refine gate_dst (N := 2) rfl ?_); refine ZX (N := 2) (cs := #[.slice A0_0 l0_0.length c0_0, .slice A0_1 l0_1.length c0_1]) (t := 41) ?_; intro gbq0 hg wq0 hbox hb; have BKq0 := Aside0.mk (hbox); have GWq0 : Aside0 (w.heap.size ≤ gbq0) := ZS hg; have GEq0 : Aside0 (w.heap.size ≤ gbq0) := ZS hg; replace HB := ZT hb; clear hb hbox hg; obtain ⟨hczq0_0, hczq0_1⟩ := ZC2 wq0 BKq0; obtain ⟨hfzq0_0, hfzq0_1⟩ := ZF2 BKq0) | ((with_reducible refine gate_callee (f := 95) rfl ?_); refine goesL_ (some 8) rfl rfl Try.func95 (by kernel_rfl) rfl #[.slice A0_0 l0_0.length c0_0, .int .i64 a1] rfl ZG ?_; (with_reducible refine (laws_szLabelS.calls _ _ l0_0 a1 t176 _ ?side1 ?side2 A3.out).mono ?_); (case side1 => exact ZQ (Kd.C_below HR0_0.out HB.out)); (case side2 => exact HC0_0.out); rintro e w' ⟨rfl, ⟨nd, rfl⟩⟩; refine ⟨_, rfl, ?_⟩) | ((with_reducible refine gate_callee (f := 96) rfl ?_); refine goesL_ (some 14) rfl rfl Try.func96 (by kernel_rfl) rfl #[.slice A0_1 l0_1.length c0_1, .int .i64 t176] rfl ZG ?_; (with_reducible refine (laws_szStepS.calls k _ _ l0_1 t176 t177 _ ?side1 ?side2 A7.out).mono ?_); (case side1 => repeat (first | exact (Kd.C_below HR0_1.out (ZB)) | (with_reducible refine Kd.C_alloc ?_ _) | (with_reducible refine Kd.C_drewN ?_ _) | (with_reducible refine Kd.C_drew ?_))); (case side2 => exact HC0_1.out); rintro e wq1 ⟨rfl, hb⟩; refine ⟨_, rfl, ?_⟩; replace BKq0 := ZW BKq0 hb; replace HB := ZT hb; (try clear hb); (try clear hb2); (try clear hk); (try clear hi)))
    go_ret
    exact ⟨ZE, ZB⟩)

/-! ### laws_toLabel: function 132 -/
def laws_toLabel.f (a0_0 : Int) (a0_1 : Int) : Option (Int × Int) := some (a0_0, a0_1)
set_option maxHeartbeats 8000000 in
set_option maxRecDepth 100000 in
theorem laws_toLabel.calls (a0_0 : Int) (a0_1 : Int) (r1 : Int) (r2 : Int) (w : World) (h : laws_toLabel.f a0_0 a0_1 = some (r1, r2)) :
  Calls Try.prog 132 #[.agg #[.int .i64 a0_0, .int .i64 a0_1]] w fun e w' => e = .returned (.agg #[.int .i64 r1, .int .i64 r2]) ∧ Below w.heap.size w w' := by
 have hu114 := Try.underlying114
 have hu35 := Try.underlying35
 have HB := Aside0.mk (Below.refl w.heap.size w)
 have H : (some (a0_0, a0_1)) = some (r1, r2) := h
 clear h
 simp only [Option.some.injEq, Prod.mk.injEq] at H
 obtain ⟨rfl, rfl⟩ := H
 go_enter Try.func132, Try.ntmps132
 go_wp2_with (first | ((with_reducible refine gate_dst (N := 1) rfl ?_); refine ZX (N := 1) (cs := #[.int .i64 a0_0, .int .i64 a0_1]) (t := 114) ?_; intro gb178 hg w2 hbox hb; have BK178 := Aside0.mk (hbox); have GW178 : Aside0 (w.heap.size ≤ gb178) := ZS hg; have GE178 : Aside0 (w.heap.size ≤ gb178) := ZS hg; replace HB := ZT hb; clear hb hbox hg) | ((with_reducible refine gate_dst (N := 2) rfl ?_); refine ZX (N := 2) (cs := #[.int .i64 0, .int .i64 0]) (t := 35) ?_; intro gb179 hg w3 hbox hb; have BK179 := Aside0.mk (hbox); have GW179 : Aside0 (w.heap.size ≤ gb179) := ZS hg; have GE179 : Aside0 (w.heap.size ≤ gb179) := ZS hg; have NB178_179 : Aside0 (gb178 ≠ gb179) := ZN hg BK178; have NB179_178 : Aside0 (gb179 ≠ gb178) := ZM hg BK178; replace BK178 := ZW BK178 hb; replace HB := ZT hb; clear hb hbox hg) | ((with_reducible refine gate_dst (N := 3) rfl ?_); refine ZX (N := 3) (cs := #[.int .i64 0, .int .i64 0]) (t := 35) ?_; intro gb180 hg w4 hbox hb; have BK180 := Aside0.mk (hbox); have GW180 : Aside0 (w.heap.size ≤ gb180) := ZS hg; have GE180 : Aside0 (w.heap.size ≤ gb180) := ZS hg; have NB178_180 : Aside0 (gb178 ≠ gb180) := ZN hg BK178; have NB180_178 : Aside0 (gb180 ≠ gb178) := ZM hg BK178; have NB179_180 : Aside0 (gb179 ≠ gb180) := ZN hg BK179; have NB180_179 : Aside0 (gb180 ≠ gb179) := ZM hg BK179; replace BK178 := ZW BK178 hb; replace BK179 := ZW BK179 hb; replace HB := ZT hb; clear hb hbox hg; have hnb5 := NB178_179.out; have hnc5 := NB179_178.out; have hnb6 := NB178_180.out; have hnc6 := NB180_178.out; obtain ⟨hcz7_0, hcz7_1⟩ := ZC2 w4 BK178; obtain ⟨hfz7_0, hfz7_1⟩ := ZF2 BK178; have hnb8 := NB180_179.out; have hnc8 := NB179_180.out; obtain ⟨hcz9_0, hcz9_1⟩ := ZC2 w4 BK180; obtain ⟨hfz9_0, hfz9_1⟩ := ZF2 BK180; obtain ⟨hcz10_0, hcz10_1⟩ := ZC2 w4 BK179; obtain ⟨hfz10_0, hfz10_1⟩ := ZF2 BK179))
 refine bodyPost_ret (results_cell_row rfl _ _ gb179 35 #[.int .i64 a0_0, .int .i64 a0_1] (0, 0) _ rfl (ZZ BK179.out) Try.underlying35 rfl (by kernel_rfl)) rfl ?_
 exact ⟨ZE, ZB⟩

end Go.Proofs.Ytcffnnedghgmaaa.A
