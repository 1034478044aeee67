/- What Go functions compute, as Lean functions, and for each its contract: for every input at which the Lean function answers the call returns that; written by wip/tools/pr.py over the kit's print. -/
import Derived.Test.YtdmejmdifnicmaaAx0
import Derived.Test.YtdmejmdifnicmaaAx7
import Derived.Test.YtdmejmdifnicmaaAx11
namespace Go.Proofs.Ytdmejmdifnicmaa.A
open Go.RowKit Go.Proofs.YtdmejmdifnicmaaW.PrintWords Go.Proofs.YtdmejmdifnicmaaW.PrintLast Go.Proofs.YtdmejmdifnicmaaW.PrintMore
attribute [local go_sem] max2_int min2_int max_two min_two max_three min_three max_four min_four   -- for this text's walks alone
set_option linter.unusedVariables false
set_option linter.unusedSimpArgs false

/-! ### spec_NumsOk: function 23 -/
mutual
def spec_NumsOk.j0 : Nat → List Int → Bool → Option (Bool)
 | 0, _, _ => none
 | k + 1, x1, x16 => if x16 = true then (some false) else (spec_NumsOk.l0 k x1 0)
def spec_NumsOk.l0 : Nat → List Int → Int → Option (Bool)
 | 0, _, _ => none
 | k + 1, x1, x5 => if x5 < (x1.length : Int) then (if 0 ≤ x5 then ((spec_l6In.f (rd x1 x5) 0 9).bind fun t252 => (if t252 = true then (spec_NumsOk.l0 k x1 (wrap64 (x5 + 1))) else (some false))) else (none)) else (some true)
end
def spec_NumsOk.f (k : Nat) (l0_0 : List (S57)) (l0_1 : List (S66)) (l1 : List Int) : Option (Bool) := (spec_ProgOk.f k l0_0 l0_1).bind fun t250 => (if t250 = true then (spec_NumsOk.j0 k l1 ((l1.length : Int) != (l0_0.length : Int))) else (spec_NumsOk.j0 k l1 true))
set_option maxHeartbeats 8000000 in
set_option maxRecDepth 100000 in
theorem spec_NumsOk.calls (k : Nat) (A0_0 : Option Addr) (c0_0 : Nat) (l0_0 : List (S57)) (A0_1 : Option Addr) (c0_1 : Nat) (l0_1 : List (S66)) (A1 : Option Addr) (c1 : Nat) (l1 : List Int) (r : Bool) (w : World) (hr0_0 : Kd.C k57 w A0_0 l0_0.length l0_0) (hc0_0 : l0_0.length ≤ c0_0) (hr0_1 : Kd.C k66 w A0_1 l0_1.length l0_1) (hc0_1 : l0_1.length ≤ c0_1) (hr1 : Kd.C (Kd.int .i64) w A1 l1.length l1) (hc1 : l1.length ≤ c1) (h : spec_NumsOk.f k l0_0 l0_1 l1 = some r) :
  Calls Try.prog 23 #[.agg #[.slice A0_0 l0_0.length c0_0, .slice A0_1 l0_1.length c0_1], .slice A1 l1.length c1] w fun e w' => e = .returned (.bool r) ∧ Below w.heap.size w w' := by
 have hu43 := Try.underlying43
 have HR0_0 := Aside0.mk hr0_0
 have HC0_0 := Aside0.mk hc0_0
 clear hr0_0 hc0_0
 have HR0_1 := Aside0.mk hr0_1
 have HC0_1 := Aside0.mk hc0_1
 clear hr0_1 hc0_1
 have HR1 := Aside0.mk hr1
 have HC1 := Aside0.mk hc1
 clear hr1 hc1
 have HB := Aside0.mk (Below.refl w.heap.size w)
 have H : ((spec_ProgOk.f k l0_0 l0_1).bind fun t250 => (if t250 = true then (spec_NumsOk.j0 k l1 ((l1.length : Int) != (l0_0.length : Int))) else (spec_NumsOk.j0 k l1 true))) = some r := h
 clear h
 have HC3 := Aside0.mk H
 clear H
 go_enter Try.func23, Try.ntmps23
 go_upto_region 1 with (first | ((with_reducible refine gate_dst (N := 2) rfl ?_); refine ZX (N := 2) (cs := #[.slice A0_0 l0_0.length c0_0, .slice A0_1 l0_1.length c0_1]) (t := 43) ?_; intro gb249 hg w4 hbox hb; have BK249 := Aside0.mk (hbox); have GW249 : Aside0 (w.heap.size ≤ gb249) := ZS hg; have GE249 : Aside0 (w.heap.size ≤ gb249) := ZS hg; replace HB := ZT HB hb; clear hb hbox hg))
 (try simp only [Act.put, List.setIfInBounds_toArray, List.set_cons_zero, List.set_cons_succ])
 go_cut [16] (fun v16 wc => ∃ (kq : Nat) (x16_2 : Bool), v16 = .bool x16_2 ∧ Aside0 (spec_NumsOk.j0 kq l1 x16_2 = some r) ∧ Aside0 (kq ≤ k) ∧ Aside0 (wc.heap[gb249]? = some (.cells #[(.slice A0_0 l0_0.length c0_0), (.slice A0_1 l0_1.length c0_1)] 43 (0, 0))) ∧ Aside0 (Below w.heap.size w wc))
 case first =>
  have H := HC3.out
  clear HC3
  replace H := Option.bind_eq_some_iff.mp H
  obtain ⟨t250, A50, H⟩ := H
  replace H : (if t250 = true then (spec_NumsOk.j0 k l1 ((l1.length : Int) != (l0_0.length : Int))) else (spec_NumsOk.j0 k l1 true)) = some r := H
  have A5 := Aside0.mk A50
  clear A50
  by_cases c6 : t250 = true
  ·subst c6
   have H1 : (spec_NumsOk.j0 k l1 ((l1.length : Int) != (l0_0.length : Int))) = some r := by rw [if_pos rfl] at H; exact H
   clear H
   have H := H1
   clear H1
   have H' := Aside0.mk H
   clear H
   obtain ⟨hcz7_0, hcz7_1⟩ := ZC2 w4 BK249
   obtain ⟨hfz7_0, hfz7_1⟩ := ZF2 BK249
   go_wp2_with (first | ((with_reducible refine gate_callee (f := 22) rfl ?_); refine goesL_ (some 7) rfl rfl Try.func22 (by kernel_rfl) rfl #[.agg #[.slice A0_0 l0_0.length c0_0, .slice A0_1 l0_1.length c0_1]] rfl ZG ?_; (with_reducible refine (spec_ProgOk.calls k _ _ l0_0 _ _ l0_1 true _ ?side1 ?side2 ?side3 ?side4 A5.out).mono ?_); (case side1 => exact ZQ (Kd.C_below HR0_0.out HB.out)); (case side2 => exact HC0_0.out); (case side3 => exact ZQ (Kd.C_below HR0_1.out HB.out)); (case side4 => exact HC0_1.out); rintro e w8 ⟨rfl, hb⟩; refine ⟨_, rfl, ?_⟩; replace BK249 := ZW BK249 hb; replace HB := ZT HB hb; (try clear hb); (try clear hb2); (try clear hk); (try clear hi); obtain ⟨hcz9_0, hcz9_1⟩ := ZC2 w8 BK249; obtain ⟨hfz9_0, hfz9_1⟩ := ZF2 BK249))
   go_meet
   case rel => exact ⟨_, (((l1.length : Int) != (l0_0.length : Int))), (by first | rfl | (simp; done) | (simp [*]; done)), H', ⟨by first | omega | exact Nat.le_refl _⟩, ⟨ZK BK249.out⟩, ⟨ZB⟩⟩
  ·replace c6 := Bool.eq_false_iff.mpr c6
   subst c6
   have H1 : (spec_NumsOk.j0 k l1 true) = some r := by rw [if_neg (show ¬ (false = true) by decide)] at H; exact H
   clear H
   have H := H1
   clear H1
   have H' := Aside0.mk H
   clear H
   obtain ⟨hcz10_0, hcz10_1⟩ := ZC2 w4 BK249
   obtain ⟨hfz10_0, hfz10_1⟩ := ZF2 BK249
   go_wp2_with (first | ((with_reducible refine gate_callee (f := 22) rfl ?_); refine goesL_ (some 7) rfl rfl Try.func22 (by kernel_rfl) rfl #[.agg #[.slice A0_0 l0_0.length c0_0, .slice A0_1 l0_1.length c0_1]] rfl ZG ?_; (with_reducible refine (spec_ProgOk.calls k _ _ l0_0 _ _ l0_1 false _ ?side1 ?side2 ?side3 ?side4 A5.out).mono ?_); (case side1 => exact ZQ (Kd.C_below HR0_0.out HB.out)); (case side2 => exact HC0_0.out); (case side3 => exact ZQ (Kd.C_below HR0_1.out HB.out)); (case side4 => exact HC0_1.out); rintro e w11 ⟨rfl, hb⟩; refine ⟨_, rfl, ?_⟩; replace BK249 := ZW BK249 hb; replace HB := ZT HB hb; (try clear hb); (try clear hb2); (try clear hk); (try clear hi)))
   go_meet
   case rel => exact ⟨_, (true), (by first | rfl | (simp; done) | (simp [*]; done)), H', ⟨by first | omega | exact Nat.le_refl _⟩, ⟨ZK BK249.out⟩, ⟨ZB⟩⟩
 case rest =>
  clear HC3
  try clear c1
  try clear c2
  try clear p2
  try clear c6
  try clear hcz10_0
  try clear hcz10_1
  try clear hcz7_0
  try clear hcz7_1
  try clear hcz9_0
  try clear hcz9_1
  try clear hfz10_0
  try clear hfz10_1
  try clear hfz7_0
  try clear hfz7_1
  try clear hfz9_0
  try clear hfz9_1
  obtain ⟨kq, x16_2, rfl, HA, HJ2, BK249, HB⟩ := hcut
  cases kq with
  | zero => exact absurd HA.out (by simp [spec_NumsOk.j0])
  | succ kj2 =>
   have H := HA.out
   clear HA
   simp only [spec_NumsOk.j0] at H
   by_cases c12 : x16_2 = true
   ·subst c12
    have H1 : (some false) = some r := by rw [if_pos rfl] at H; exact H
    clear H
    have H := H1
    clear H1
    obtain rfl := Option.some.inj H
    go_wp2
    go_ret
    exact ⟨ZE, ZB⟩
   ·replace c12 := Bool.eq_false_iff.mpr c12
    subst c12
    have H1 : (spec_NumsOk.l0 kj2 l1 0) = some r := by rw [if_neg (show ¬ (false = true) by decide)] at H; exact H
    clear H
    have H := H1
    clear H1
    have H' := Aside0.mk H
    clear H
    go_wp2
    go_loopg [5] kj2 (fun kq v5 w' => ∃ (x5_2 : Int), v5 = .int .i64 x5_2 ∧ Aside0 (spec_NumsOk.l0 kq l1 x5_2 = some r) ∧ Aside0 (kq ≤ kj2) ∧ Aside0 (w'.heap[gb249]? = some (.cells #[(.slice A0_0 l0_0.length c0_0), (.slice A0_1 l0_1.length c0_1)] 43 (0, 0))) ∧ Aside0 (Below w.heap.size w w'))
    case atStart => exact ⟨(0), (by first | rfl | (simp; done) | (simp [*]; done)), H', ⟨Nat.le_refl _⟩, ⟨ZK BK249.out⟩, ⟨ZB⟩⟩
    case round =>
     clear H'
     try clear c1
     try clear c2
     try clear p2
     try clear c6
     try clear c12
     try clear hcz10_0
     try clear hcz10_1
     try clear hcz7_0
     try clear hcz7_1
     try clear hcz9_0
     try clear hcz9_1
     try clear hfz10_0
     try clear hfz10_1
     try clear hfz7_0
     try clear hfz7_1
     try clear hfz9_0
     try clear hfz9_1
     try clear p2
     obtain ⟨x5_2, rfl, HA, HK2, BK249, HB⟩ := hrel
     cases gk with
     | zero => exact absurd HA.out (by simp [spec_NumsOk.l0])
     | succ k2 =>
      have H := HA.out
      clear HA
      simp only [spec_NumsOk.l0] at H
      by_cases c13 : x5_2 < (l1.length : Int)
      ·rw [if_pos c13] at H
       have c13b0 : decide (x5_2 < (l1.length : Int)) = true := decide_eq_true c13
       clear c13
       by_cases c14 : 0 ≤ x5_2
       ·rw [if_pos c14] at H
        have c14b0 : decide (0 ≤ x5_2) = true := decide_eq_true c14
        clear c14
        replace H := Option.bind_eq_some_iff.mp H
        obtain ⟨t252, A150, H⟩ := H
        replace H : (if t252 = true then (spec_NumsOk.l0 k2 l1 (wrap64 (x5_2 + 1))) else (some false)) = some r := H
        have A15 := Aside0.mk A150
        clear A150
        by_cases c16 : t252 = true
        ·subst c16
         have H1 : (spec_NumsOk.l0 k2 l1 (wrap64 (x5_2 + 1))) = some r := by rw [if_pos rfl] at H; exact H
         clear H
         have H := H1
         clear H1
         have H' := Aside0.mk H
         clear H
         have p251 : 0 ≤ (x5_2 : Int) := ZD
         have q251 : x5_2 < (l1.length : Int) := ZD
         obtain ⟨ad251, e251, hx251_0⟩ := Kd.at_int HR1.out x5_2 p251 q251
         cases e251
         replace hx251_0 := (HB.out.cell (World.block_lt_of_cell? w _ hx251_0)).trans hx251_0
         replace p251 := eq_true p251
         replace q251 := eq_true q251
         go_wp2_with (first | ((with_reducible refine gate_callee (f := 19) rfl ?_); refine goesL_ (some 27) rfl rfl Try.func19 (by kernel_rfl) rfl #[.int .i64 (rd l1 x5_2), .int .i64 0, .int .i64 9] rfl ZG ?_; (with_reducible refine (spec_l6In.calls (rd l1 x5_2) 0 9 true _ A15.out).mono ?_); rintro e w' ⟨rfl, ⟨nd, rfl⟩⟩; refine ⟨_, rfl, ?_⟩))
         go_roundg k2
         case measure => have := HJ2.out; have := HK2.out; omega
         case rel => exact ⟨(wrap64 (x5_2 + 1)), (by first | rfl | (simp; done) | (simp [*]; done)), H', ⟨by have := HJ2.out; have := HK2.out; omega⟩, ⟨ZK BK249.out⟩, ⟨ZB⟩⟩
        ·replace c16 := Bool.eq_false_iff.mpr c16
         subst c16
         have H1 : (some false) = some r := by rw [if_neg (show ¬ (false = true) by decide)] at H; exact H
         clear H
         have H := H1
         clear H1
         obtain rfl := Option.some.inj H
         have p251 : 0 ≤ (x5_2 : Int) := ZD
         have q251 : x5_2 < (l1.length : Int) := ZD
         obtain ⟨ad251, e251, hx251_0⟩ := Kd.at_int HR1.out x5_2 p251 q251
         cases e251
         replace hx251_0 := (HB.out.cell (World.block_lt_of_cell? w _ hx251_0)).trans hx251_0
         replace p251 := eq_true p251
         replace q251 := eq_true q251
         go_wp2_with (first | ((with_reducible refine gate_callee (f := 19) rfl ?_); refine goesL_ (some 27) rfl rfl Try.func19 (by kernel_rfl) rfl #[.int .i64 (rd l1 x5_2), .int .i64 0, .int .i64 9] rfl ZG ?_; (with_reducible refine (spec_l6In.calls (rd l1 x5_2) 0 9 false _ A15.out).mono ?_); rintro e w' ⟨rfl, ⟨nd, rfl⟩⟩; refine ⟨_, rfl, ?_⟩))
         go_ret
         exact ⟨ZE, ZB⟩
       ·rw [if_neg c14] at H
        exact absurd H (by simp)
      ·rw [if_neg c13] at H
       have c13b0 : decide (x5_2 < (l1.length : Int)) = false := decide_eq_false c13
       clear c13
       obtain rfl := Option.some.inj H
       go_wp2
       go_ret
       exact ⟨ZE, ZB⟩

/-! ### spec_l3Num: function 29 -/
def spec_l3Num.f (a0_0 : Int) (a0_1 : Int) (a0_2 : Int) (l1 : List Int) : Option (Int) := if a0_0 = 1 then (some a0_1) else (if a0_0 = 2 then (if 0 ≤ a0_1 then (if a0_1 < (l1.length : Int) then (some (rd l1 a0_1)) else (none)) else (none)) else (if a0_0 = 3 then (if 0 ≤ a0_1 then (if a0_1 < (l1.length : Int) then (if 0 ≤ a0_2 then (if a0_2 < (l1.length : Int) then (some (Int.tmod (wrap64 ((rd l1 a0_1) + (rd l1 a0_2))) 10)) else (none)) else (none)) else (none)) else (none)) else (if 0 ≤ a0_1 then (if a0_1 < (l1.length : Int) then (if 0 ≤ a0_2 then (if a0_2 < (l1.length : Int) then (if (rd l1 a0_1) = (rd l1 a0_2) then (some 1) else (some 0)) else (none)) else (none)) else (none)) else (none))))
set_option maxHeartbeats 8000000 in
set_option maxRecDepth 100000 in
theorem spec_l3Num.calls (a0_0 : Int) (a0_1 : Int) (a0_2 : Int) (A1 : Option Addr) (c1 : Nat) (l1 : List Int) (r : Int) (w : World) (hr1 : Kd.C (Kd.int .i64) w A1 l1.length l1) (hc1 : l1.length ≤ c1) (h : spec_l3Num.f a0_0 a0_1 a0_2 l1 = some r) :
  Calls Try.prog 29 #[.agg #[.int .i64 a0_0, .int .i64 a0_1, .int .i64 a0_2], .slice A1 l1.length c1] w fun e w' => e = .returned (.int .i64 r) ∧ Below w.heap.size w w' := by
 have hu64 := Try.underlying64
 have HR1 := Aside0.mk hr1
 have HC1 := Aside0.mk hc1
 clear hr1 hc1
 have HB := Aside0.mk (Below.refl w.heap.size w)
 have H : (if a0_0 = 1 then (some a0_1) else (if a0_0 = 2 then (if 0 ≤ a0_1 then (if a0_1 < (l1.length : Int) then (some (rd l1 a0_1)) else (none)) else (none)) else (if a0_0 = 3 then (if 0 ≤ a0_1 then (if a0_1 < (l1.length : Int) then (if 0 ≤ a0_2 then (if a0_2 < (l1.length : Int) then (some (Int.tmod (wrap64 ((rd l1 a0_1) + (rd l1 a0_2))) 10)) else (none)) else (none)) else (none)) else (none)) else (if 0 ≤ a0_1 then (if a0_1 < (l1.length : Int) then (if 0 ≤ a0_2 then (if a0_2 < (l1.length : Int) then (if (rd l1 a0_1) = (rd l1 a0_2) then (some 1) else (some 0)) else (none)) else (none)) else (none)) else (none))))) = some r := h
 clear h
 by_cases c3 : a0_0 = 1
 focus
  rw [if_pos c3] at H
  have c3b0 : (a0_0 == 1) = true := beq_iff_eq.mpr c3
  have c3b1 : (a0_0 != 1) = false := bne_eq_false_iff_eq.mpr c3
  clear c3
  obtain rfl := Option.some.inj H
  have tag0_ : Aside0 True := ⟨trivial⟩
 rotate_left
 focus
  rw [if_neg c3] at H
  have c3b0 : (a0_0 == 1) = false := beq_eq_false_iff_ne.mpr c3
  have c3b1 : (a0_0 != 1) = true := bne_iff_ne.mpr c3
  by_cases c6 : a0_0 = 2
  focus
   rw [if_pos c6] at H
   have c6b0 : (a0_0 == 2) = true := beq_iff_eq.mpr c6
   have c6b1 : (a0_0 != 2) = false := bne_eq_false_iff_eq.mpr c6
   clear c6
   by_cases c7 : 0 ≤ a0_1
   focus
    rw [if_pos c7] at H
    have c7b0 : decide (0 ≤ a0_1) = true := decide_eq_true c7
    clear c7
    by_cases c8 : a0_1 < (l1.length : Int)
    focus
     rw [if_pos c8] at H
     have c8b0 : decide (a0_1 < (l1.length : Int)) = true := decide_eq_true c8
     clear c8
     obtain rfl := Option.some.inj H
     have tag1_ : Aside0 True := ⟨trivial⟩
    rotate_left
    focus
     rw [if_neg c8] at H
     exact absurd H (by simp)
   rotate_left
   focus
    rw [if_neg c7] at H
    exact absurd H (by simp)
  rotate_left
  focus
   rw [if_neg c6] at H
   have c6b0 : (a0_0 == 2) = false := beq_eq_false_iff_ne.mpr c6
   have c6b1 : (a0_0 != 2) = true := bne_iff_ne.mpr c6
   by_cases c11 : a0_0 = 3
   focus
    rw [if_pos c11] at H
    have c11b0 : (a0_0 == 3) = true := beq_iff_eq.mpr c11
    have c11b1 : (a0_0 != 3) = false := bne_eq_false_iff_eq.mpr c11
    clear c11
    by_cases c12 : 0 ≤ a0_1
    focus
     rw [if_pos c12] at H
     have c12b0 : decide (0 ≤ a0_1) = true := decide_eq_true c12
     clear c12
     by_cases c13 : a0_1 < (l1.length : Int)
     focus
      rw [if_pos c13] at H
      have c13b0 : decide (a0_1 < (l1.length : Int)) = true := decide_eq_true c13
      clear c13
      by_cases c14 : 0 ≤ a0_2
      focus
       rw [if_pos c14] at H
       have c14b0 : decide (0 ≤ a0_2) = true := decide_eq_true c14
       clear c14
       by_cases c15 : a0_2 < (l1.length : Int)
       focus
        rw [if_pos c15] at H
        have c15b0 : decide (a0_2 < (l1.length : Int)) = true := decide_eq_true c15
        clear c15
        obtain rfl := Option.some.inj H
        have tag2_ : Aside0 True := ⟨trivial⟩
       rotate_left
       focus
        rw [if_neg c15] at H
        exact absurd H (by simp)
      rotate_left
      focus
       rw [if_neg c14] at H
       exact absurd H (by simp)
     rotate_left
     focus
      rw [if_neg c13] at H
      exact absurd H (by simp)
    rotate_left
    focus
     rw [if_neg c12] at H
     exact absurd H (by simp)
   rotate_left
   focus
    rw [if_neg c11] at H
    have c11b0 : (a0_0 == 3) = false := beq_eq_false_iff_ne.mpr c11
    have c11b1 : (a0_0 != 3) = true := bne_iff_ne.mpr c11
    by_cases c18 : 0 ≤ a0_1
    focus
     rw [if_pos c18] at H
     have c18b0 : decide (0 ≤ a0_1) = true := decide_eq_true c18
     clear c18
     by_cases c19 : a0_1 < (l1.length : Int)
     focus
      rw [if_pos c19] at H
      have c19b0 : decide (a0_1 < (l1.length : Int)) = true := decide_eq_true c19
      clear c19
      by_cases c20 : 0 ≤ a0_2
      focus
       rw [if_pos c20] at H
       have c20b0 : decide (0 ≤ a0_2) = true := decide_eq_true c20
       clear c20
       by_cases c21 : a0_2 < (l1.length : Int)
       focus
        rw [if_pos c21] at H
        have c21b0 : decide (a0_2 < (l1.length : Int)) = true := decide_eq_true c21
        clear c21
        by_cases c22 : (rd l1 a0_1) = (rd l1 a0_2)
        focus
         rw [if_pos c22] at H
         have c22b0 : ((rd l1 a0_1) == (rd l1 a0_2)) = true := beq_iff_eq.mpr c22
         have c22b1 : ((rd l1 a0_1) != (rd l1 a0_2)) = false := bne_eq_false_iff_eq.mpr c22
         clear c22
         obtain rfl := Option.some.inj H
         have tag3_ : Aside0 True := ⟨trivial⟩
        rotate_left
        focus
         rw [if_neg c22] at H
         have c22b0 : ((rd l1 a0_1) == (rd l1 a0_2)) = false := beq_eq_false_iff_ne.mpr c22
         have c22b1 : ((rd l1 a0_1) != (rd l1 a0_2)) = true := bne_iff_ne.mpr c22
         obtain rfl := Option.some.inj H
         have tag4_ : Aside0 True := ⟨trivial⟩
        rotate_left
       rotate_left 2
       focus
        rw [if_neg c21] at H
        exact absurd H (by simp)
      rotate_left 2
      focus
       rw [if_neg c20] at H
       exact absurd H (by simp)
     rotate_left 2
     focus
      rw [if_neg c19] at H
      exact absurd H (by simp)
    rotate_left 2
    focus
     rw [if_neg c18] at H
     exact absurd H (by simp)
   rotate_left 2
  rotate_left 3
 rotate_left 4
 all_goals
  go_enter Try.func29, Try.ntmps29
  first
  | (
    (have z_ := tag0_; clear z_)
    go_wp2_with (first | ((with_reducible refine gate_dst (N := 2) rfl ?_); refine ZX (N := 2) (cs := #[.int .i64 a0_0, .int .i64 a0_1, .int .i64 a0_2]) (t := 64) ?_; intro gbq0 hg wq0 hbox hb; have BKq0 := Aside0.mk (hbox); have GWq0 : Aside0 (w.heap.size ≤ gbq0) := ZS hg; have GEq0 : Aside0 (w.heap.size ≤ gbq0) := ZS hg; replace HB := ZT HB hb; clear hb hbox hg; obtain ⟨hczq0_0, hczq0_1, hczq0_2⟩ := ZC3 wq0 BKq0; obtain ⟨hfzq0_0, hfzq0_1, hfzq0_2⟩ := ZF3 BKq0))
    repeat (go_quiet (first | ((with_reducible refine gate_dst (N := 2) rfl ?_); refine ZX (N := 2) (cs := #[.int .i64 a0_0, .int .i64 a0_1, .int .i64 a0_2]) (t := 64) ?_; intro gbq0 hg wq0 hbox hb; have BKq0 := Aside0.mk (hbox); have GWq0 : Aside0 (w.heap.size ≤ gbq0) := ZS hg; have GEq0 : Aside0 (w.heap.size ≤ gbq0) := ZS hg; replace HB := ZT HB hb; clear hb hbox hg; obtain ⟨hczq0_0, hczq0_1, hczq0_2⟩ := ZC3 wq0 BKq0; obtain ⟨hfzq0_0, hfzq0_1, hfzq0_2⟩ := ZF3 BKq0)); try go_wp2_with (first | ((with_reducible refine gate_dst (N := 2) rfl ?_); refine ZX (N := 2) (cs := #[.int .i64 a0_0, .int .i64 a0_1, .int .i64 a0_2]) (t := 64) ?_; intro gbq0 hg wq0 hbox hb; have BKq0 := Aside0.mk (hbox); have GWq0 : Aside0 (w.heap.size ≤ gbq0) := ZS hg; have GEq0 : Aside0 (w.heap.size ≤ gbq0) := ZS hg; replace HB := ZT HB hb; clear hb hbox hg; obtain ⟨hczq0_0, hczq0_1, hczq0_2⟩ := ZC3 wq0 BKq0; obtain ⟨hfzq0_0, hfzq0_1, hfzq0_2⟩ := ZF3 BKq0)))
    go_ret
    exact ⟨ZE, ZB⟩)
  | (
    (have z_ := tag1_; clear z_)
    go_wp2_with (first | ((with_reducible refine gate_dst (N := 2) rfl ?_); refine ZX (N := 2) (cs := #[.int .i64 a0_0, .int .i64 a0_1, .int .i64 a0_2]) (t := 64) ?_; intro gbq0 hg wq0 hbox hb; have BKq0 := Aside0.mk (hbox); have GWq0 : Aside0 (w.heap.size ≤ gbq0) := ZS hg; have GEq0 : Aside0 (w.heap.size ≤ gbq0) := ZS hg; replace HB := ZT HB hb; clear hb hbox hg; obtain ⟨hczq0_0, hczq0_1, hczq0_2⟩ := ZC3 wq0 BKq0; obtain ⟨hfzq0_0, hfzq0_1, hfzq0_2⟩ := ZF3 BKq0; have pq0 : 0 ≤ (a0_1 : Int) := ZD; have qq0 : a0_1 < (l1.length : Int) := ZD; obtain ⟨adq0, eq0, hxq0_0⟩ := Kd.at_int HR1.out a0_1 pq0 qq0; cases eq0; replace hxq0_0 := (HB.out.cell (World.block_lt_of_cell? w _ hxq0_0)).trans hxq0_0; replace pq0 := eq_true pq0; replace qq0 := eq_true qq0))
    repeat (go_quiet (first | ((with_reducible refine gate_dst (N := 2) rfl ?_); refine ZX (N := 2) (cs := #[.int .i64 a0_0, .int .i64 a0_1, .int .i64 a0_2]) (t := 64) ?_; intro gbq0 hg wq0 hbox hb; have BKq0 := Aside0.mk (hbox); have GWq0 : Aside0 (w.heap.size ≤ gbq0) := ZS hg; have GEq0 : Aside0 (w.heap.size ≤ gbq0) := ZS hg; replace HB := ZT HB hb; clear hb hbox hg; obtain ⟨hczq0_0, hczq0_1, hczq0_2⟩ := ZC3 wq0 BKq0; obtain ⟨hfzq0_0, hfzq0_1, hfzq0_2⟩ := ZF3 BKq0; have pq0 : 0 ≤ (a0_1 : Int) := ZD; have qq0 : a0_1 < (l1.length : Int) := ZD; obtain ⟨adq0, eq0, hxq0_0⟩ := Kd.at_int HR1.out a0_1 pq0 qq0; cases eq0; replace hxq0_0 := (HB.out.cell (World.block_lt_of_cell? w _ hxq0_0)).trans hxq0_0; replace pq0 := eq_true pq0; replace qq0 := eq_true qq0)); try go_wp2_with (first | ((with_reducible refine gate_dst (N := 2) rfl ?_); refine ZX (N := 2) (cs := #[.int .i64 a0_0, .int .i64 a0_1, .int .i64 a0_2]) (t := 64) ?_; intro gbq0 hg wq0 hbox hb; have BKq0 := Aside0.mk (hbox); have GWq0 : Aside0 (w.heap.size ≤ gbq0) := ZS hg; have GEq0 : Aside0 (w.heap.size ≤ gbq0) := ZS hg; replace HB := ZT HB hb; clear hb hbox hg; obtain ⟨hczq0_0, hczq0_1, hczq0_2⟩ := ZC3 wq0 BKq0; obtain ⟨hfzq0_0, hfzq0_1, hfzq0_2⟩ := ZF3 BKq0; have pq0 : 0 ≤ (a0_1 : Int) := ZD; have qq0 : a0_1 < (l1.length : Int) := ZD; obtain ⟨adq0, eq0, hxq0_0⟩ := Kd.at_int HR1.out a0_1 pq0 qq0; cases eq0; replace hxq0_0 := (HB.out.cell (World.block_lt_of_cell? w _ hxq0_0)).trans hxq0_0; replace pq0 := eq_true pq0; replace qq0 := eq_true qq0)))
    go_ret
    exact ⟨ZE, ZB⟩)
  | (
    (first | (have z_ := tag2_; clear z_) | (have z_ := tag3_; clear z_) | (have z_ := tag4_; clear z_))
    go_wp2_with (first | ((with_reducible refine gate_dst (N := 2) rfl ?_); refine ZX (N := 2) (cs := #[.int .i64 a0_0, .int .i64 a0_1, .int .i64 a0_2]) (t := 64) ?_; intro gbq0 hg wq0 hbox hb; have BKq0 := Aside0.mk (hbox); have GWq0 : Aside0 (w.heap.size ≤ gbq0) := ZS hg; have GEq0 : Aside0 (w.heap.size ≤ gbq0) := ZS hg; replace HB := ZT HB hb; clear hb hbox hg; obtain ⟨hczq0_0, hczq0_1, hczq0_2⟩ := ZC3 wq0 BKq0; obtain ⟨hfzq0_0, hfzq0_1, hfzq0_2⟩ := ZF3 BKq0; have pq0 : 0 ≤ (a0_1 : Int) := ZD; have qq0 : a0_1 < (l1.length : Int) := ZD; obtain ⟨adq0, eq0, hxq0_0⟩ := Kd.at_int HR1.out a0_1 pq0 qq0; cases eq0; replace hxq0_0 := (HB.out.cell (World.block_lt_of_cell? w _ hxq0_0)).trans hxq0_0; replace pq0 := eq_true pq0; replace qq0 := eq_true qq0; have pq1 : 0 ≤ (a0_2 : Int) := ZD; have qq1 : a0_2 < (l1.length : Int) := ZD; obtain ⟨adq1, eq1, hxq1_0⟩ := Kd.at_int HR1.out a0_2 pq1 qq1; obtain rfl : adq0 = adq1 := (by injection eq1); replace hxq1_0 := (HB.out.cell (World.block_lt_of_cell? w _ hxq1_0)).trans hxq1_0; replace pq1 := eq_true pq1; replace qq1 := eq_true qq1))
    repeat (go_quiet (first | ((with_reducible refine gate_dst (N := 2) rfl ?_); refine ZX (N := 2) (cs := #[.int .i64 a0_0, .int .i64 a0_1, .int .i64 a0_2]) (t := 64) ?_; intro gbq0 hg wq0 hbox hb; have BKq0 := Aside0.mk (hbox); have GWq0 : Aside0 (w.heap.size ≤ gbq0) := ZS hg; have GEq0 : Aside0 (w.heap.size ≤ gbq0) := ZS hg; replace HB := ZT HB hb; clear hb hbox hg; obtain ⟨hczq0_0, hczq0_1, hczq0_2⟩ := ZC3 wq0 BKq0; obtain ⟨hfzq0_0, hfzq0_1, hfzq0_2⟩ := ZF3 BKq0; have pq0 : 0 ≤ (a0_1 : Int) := ZD; have qq0 : a0_1 < (l1.length : Int) := ZD; obtain ⟨adq0, eq0, hxq0_0⟩ := Kd.at_int HR1.out a0_1 pq0 qq0; cases eq0; replace hxq0_0 := (HB.out.cell (World.block_lt_of_cell? w _ hxq0_0)).trans hxq0_0; replace pq0 := eq_true pq0; replace qq0 := eq_true qq0; have pq1 : 0 ≤ (a0_2 : Int) := ZD; have qq1 : a0_2 < (l1.length : Int) := ZD; obtain ⟨adq1, eq1, hxq1_0⟩ := Kd.at_int HR1.out a0_2 pq1 qq1; obtain rfl : adq0 = adq1 := (by injection eq1); replace hxq1_0 := (HB.out.cell (World.block_lt_of_cell? w _ hxq1_0)).trans hxq1_0; replace pq1 := eq_true pq1; replace qq1 := eq_true qq1)); try go_wp2_with (first | ((with_reducible refine gate_dst (N := 2) rfl ?_); refine ZX (N := 2) (cs := #[.int .i64 a0_0, .int .i64 a0_1, .int .i64 a0_2]) (t := 64) ?_; intro gbq0 hg wq0 hbox hb; have BKq0 := Aside0.mk (hbox); have GWq0 : Aside0 (w.heap.size ≤ gbq0) := ZS hg; have GEq0 : Aside0 (w.heap.size ≤ gbq0) := ZS hg; replace HB := ZT HB hb; clear hb hbox hg; obtain ⟨hczq0_0, hczq0_1, hczq0_2⟩ := ZC3 wq0 BKq0; obtain ⟨hfzq0_0, hfzq0_1, hfzq0_2⟩ := ZF3 BKq0; have pq0 : 0 ≤ (a0_1 : Int) := ZD; have qq0 : a0_1 < (l1.length : Int) := ZD; obtain ⟨adq0, eq0, hxq0_0⟩ := Kd.at_int HR1.out a0_1 pq0 qq0; cases eq0; replace hxq0_0 := (HB.out.cell (World.block_lt_of_cell? w _ hxq0_0)).trans hxq0_0; replace pq0 := eq_true pq0; replace qq0 := eq_true qq0; have pq1 : 0 ≤ (a0_2 : Int) := ZD; have qq1 : a0_2 < (l1.length : Int) := ZD; obtain ⟨adq1, eq1, hxq1_0⟩ := Kd.at_int HR1.out a0_2 pq1 qq1; obtain rfl : adq0 = adq1 := (by injection eq1); replace hxq1_0 := (HB.out.cell (World.block_lt_of_cell? w _ hxq1_0)).trans hxq1_0; replace pq1 := eq_true pq1; replace qq1 := eq_true qq1)))
    go_ret
    exact ⟨ZE, ZB⟩)

end Go.Proofs.Ytdmejmdifnicmaa.A
