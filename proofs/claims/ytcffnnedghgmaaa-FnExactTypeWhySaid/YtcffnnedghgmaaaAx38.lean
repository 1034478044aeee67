/- What Go functions compute, as Lean functions, and for each its contract: for every input at which the Lean function answers the call returns that; written by wip/tools/pr.py over the kit's print. -/
import Derived.Test.YtcffnnedghgmaaaAx0
import Derived.Test.YtcffnnedghgmaaaAx33
import Derived.Test.YtcffnnedghgmaaaAx36
import Derived.Test.YtcffnnedghgmaaaAx37
namespace Go.Proofs.Ytcffnnedghgmaaa.A
open Go.RowKit Go.Proofs.YtcffnnedghgmaaaW.PrintWords Go.Proofs.YtcffnnedghgmaaaW.PrintLast Go.Proofs.YtcffnnedghgmaaaW.PrintMore
attribute [local go_sem] max2_int min2_int max_two min_two max_three min_three max_four min_four   -- for this text's walks alone
set_option linter.unusedVariables false
set_option linter.unusedSimpArgs false

/-! ### impl_Prog_why: function 116 -/
def impl_Prog_why.l0 : Nat → List (S35) → List (S59) → Int → Int → List (S35) → List (S59) → Option (Int × Bool)
 | 0, _, _, _, _, _, _ => none
 | k + 1, x4, x12, x13, x14, x542000, x542001 => if x14 < x13 then (if 0 ≤ x14 then (if x14 < (x12.length : Int) then (if 0 ≤ ((rd_T59 x12 x14).f1) then (if ((rd_T59 x12 x14).f1) < (x542000.length : Int) then (if ((rd_T59 x12 x14).f0) = 1 then (if x14 < (x4.length : Int) then ((impl_Prog_source.f k x542000 x542001 ((rd_T59 x12 x14).f0) ((rd_T59 x12 x14).f1) ((rd_T59 x12 x14).f2.f0) ((rd_T59 x12 x14).f2.f1) ((rd_T59 x12 x14).f2.f2) ((rd_T59 x12 x14).f3) ((rd_T59 x12 x14).f4) ((rd_T59 x12 x14).f5) ((rd_T35 x4 x14).f0) ((rd_T35 x4 x14).f1)).bind fun bt553 => ((impl_Label_flows.f bt553.1 bt553.2 ((rd_T35 x542000 ((rd_T59 x12 x14).f1)).f0) ((rd_T35 x542000 ((rd_T59 x12 x14).f1)).f1)).bind fun t555 => (if t555 = true then (impl_Prog_why.l0 k x4 x12 x13 (wrap64 (x14 + 1)) x542000 x542001) else (some (x14, true))))) else (none)) else (if ((rd_T59 x12 x14).f0) = 3 then (if x14 < (x4.length : Int) then ((impl_has.f ((rd_T35 x4 x14).f0) ((rd_T59 x12 x14).f3)).bind fun t557 => (if t557 = true then ((impl_has.f ((rd_T35 x542000 ((rd_T59 x12 x14).f1)).f0) ((rd_T59 x12 x14).f3)).bind fun t558 => (if t558 = true then (impl_Prog_why.l0 k x4 x12 x13 (wrap64 (x14 + 1)) x542000 x542001) else (some (x14, true)))) else (some (x14, true)))) else (none)) else (impl_Prog_why.l0 k x4 x12 x13 (wrap64 (x14 + 1)) x542000 x542001))) else (none)) else (none)) else (none)) else (none)) else (some (0, false))
def impl_Prog_why.f (k : Nat) (l0_0 : List (S35)) (l0_1 : List (S59)) : Option (Int × Bool) := (impl_Prog_at.f k l0_0 l0_1).bind fun t542 => ((impl_all.f k l0_1).bind fun t545 => (impl_Prog_why.l0 k t542 t545 (t545.length : Int) 0 l0_0 l0_1))
def impl_Prog_why.T8 : Bool × List (List Nat × List Nat) := (true, [([], []), ([], []), ([], []), ([], []), ([2, 3], [2, 3]), ([4], [4]), ([0, 1, 5], [0, 1, 5]), ([], []), ([6, 7, 6], [6, 7]), ([8], [8])])
def impl_Prog_why.B8 : List Nat := [0, 0, 0, 0, 12, 28, 63, 0, 255, 511]
theorem impl_Prog_why.tab8 : rtab .any (opsOf Try.f116 8) = impl_Prog_why.T8 := by kernel_rfl
theorem impl_Prog_why.bits8 : waitsOk impl_Prog_why.T8.2 impl_Prog_why.B8 = true := by kernel_rfl
def impl_Prog_why.T11 : Bool × List (List Nat × List Nat) := (true, [([], []), ([], []), ([0, 1], [0, 1]), ([2], [2]), ([3], [3]), ([], []), ([5], [5]), ([4, 6], [4, 6]), ([7], [7]), ([8, 7], [8]), ([9], [9]), ([10, 9], [9, 10]), ([9], [9]), ([12, 9], [9, 12]), ([11, 13, 9, 9], [9, 11, 13]), ([14, 9], [9, 14]), ([9, 15], [9, 15])])
def impl_Prog_why.B11 : List Nat := [0, 0, 3, 7, 15, 0, 32, 127, 255, 511, 1023, 2047, 1023, 5119, 16383, 32767, 65535]
theorem impl_Prog_why.tab11 : rtab .any (opsOf Try.f116 11) = impl_Prog_why.T11 := by kernel_rfl
theorem impl_Prog_why.bits11 : waitsOk impl_Prog_why.T11.2 impl_Prog_why.B11 = true := by kernel_rfl
set_option maxHeartbeats 8000000 in
set_option maxRecDepth 100000 in
theorem impl_Prog_why.calls (k : Nat) (A0_0 : Option Addr) (c0_0 : Nat) (l0_0 : List (S35)) (A0_1 : Option Addr) (c0_1 : Nat) (l0_1 : List (S59)) (r1 : Int) (r2 : Bool) (w : World) (hr0_0 : Kd.C k35 w A0_0 l0_0.length l0_0) (hc0_0 : l0_0.length ≤ c0_0) (hr0_1 : Kd.C k59 w A0_1 l0_1.length l0_1) (hc0_1 : l0_1.length ≤ c0_1) (h : impl_Prog_why.f k l0_0 l0_1 = some (r1, r2)) :
  Calls Try.prog 116 #[.agg #[.slice A0_0 l0_0.length c0_0, .slice A0_1 l0_1.length c0_1]] w fun e w' => e = .returned (.tuple #[.int .i64 r1, .bool r2]) ∧ Below w.heap.size w w' := by
 have hu26 := Try.underlying26
 have hu59 := Try.underlying59
 have hu35 := Try.underlying35
 have HR0_0 := Aside0.mk hr0_0
 have HC0_0 := Aside0.mk hc0_0
 clear hr0_0 hc0_0
 have HR0_1 := Aside0.mk hr0_1
 have HC0_1 := Aside0.mk hc0_1
 clear hr0_1 hc0_1
 have HB := Aside0.mk (Below.refl w.heap.size w)
 have H : ((impl_Prog_at.f k l0_0 l0_1).bind fun t542 => ((impl_all.f k l0_1).bind fun t545 => (impl_Prog_why.l0 k t542 t545 (t545.length : Int) 0 l0_0 l0_1))) = some (r1, r2) := h
 clear h
 replace H := Option.bind_eq_some_iff.mp H
 obtain ⟨t542, A20, H⟩ := H
 replace H : ((impl_all.f k l0_1).bind fun t545 => (impl_Prog_why.l0 k t542 t545 (t545.length : Int) 0 l0_0 l0_1)) = some (r1, r2) := H
 have A2 := Aside0.mk A20
 clear A20
 replace H := Option.bind_eq_some_iff.mp H
 obtain ⟨t545, A30, H⟩ := H
 replace H : (impl_Prog_why.l0 k t542 t545 (t545.length : Int) 0 l0_0 l0_1) = some (r1, r2) := H
 have A3 := Aside0.mk A30
 clear A30
 have H' := Aside0.mk H
 clear H
 go_enter Try.func116, Try.ntmps116
 go_wp2_with (first | ((with_reducible refine gate_dst (N := 1) rfl ?_); refine ZX (N := 1) (cs := #[.slice A0_0 l0_0.length c0_0, .slice A0_1 l0_1.length c0_1]) (t := 26) ?_; intro gb541 hg w4 hbox hb; have BK541 := Aside0.mk (hbox); have GW541 : Aside0 (w.heap.size ≤ gb541) := ZS hg; have GE541 : Aside0 (w.heap.size ≤ gb541) := ZS hg; replace HB := ZT hb; clear hb hbox hg; obtain ⟨hcz5_0, hcz5_1⟩ := ZC2 w4 BK541; obtain ⟨hfz5_0, hfz5_1⟩ := ZF2 BK541) | ((with_reducible refine gate_callee (f := 83) rfl ?_); refine goesL_ (some 9) rfl rfl Try.func83 (by kernel_rfl) rfl #[.agg #[.slice A0_0 l0_0.length c0_0, .slice A0_1 l0_1.length c0_1]] rfl ZG ?_; (with_reducible refine (impl_Prog_at.calls k _ _ l0_0 _ _ l0_1 t542 _ ?side1 ?side2 ?side3 ?side4 A2.out).mono ?_); (case side1 => exact ZQ (Kd.C_below HR0_0.out HB.out)); (case side2 => exact HC0_0.out); (case side3 => exact ZQ (Kd.C_below HR0_1.out HB.out)); (case side4 => exact HC0_1.out); rintro e w6 ⟨v543, rfl, ho0, hb⟩; refine ⟨_, rfl, ?_⟩; have HO544 := Aside0.mk (Kd.R_lower ho0 (below_size (ZB))); replace BK541 := ZW BK541 hb; replace HB := ZT hb; (try clear hb); (try clear hb2); (try clear hk); (try clear hi); (try clear ho0); obtain ⟨hcz7_0, hcz7_1⟩ := ZC2 w6 BK541; obtain ⟨hfz7_0, hfz7_1⟩ := ZF2 BK541) | ((with_reducible refine gate_callee (f := 79) rfl ?_); refine goesL_ (some 12) rfl rfl Try.func79 (by kernel_rfl) rfl #[.slice A0_1 l0_1.length c0_1] rfl ZG ?_; (with_reducible refine (impl_all.calls k (fun k_ => k_ < w.heap.size) _ _ l0_1 t545 _ ?side1 A3.out).mono ?_); (case side1 => exact Kd.V_mk HC0_1.out (Kd.F_below (Kd.C_F k59_heap HR0_1.out) (ZB))); rintro e w8 ⟨v546, rfl, ho0, hb⟩; refine ⟨_, rfl, ?_⟩; have HO547 := Aside0.mk (Kd.N_lower (Kd.N_mono (ok' := fun k_ => some k_ ≠ (v543 : Value).ownBlock ∧ k_ ≠ gb541) ho0 (fun k_ hk_ => ⟨Or.elim hk_ (fun hs_ => fun e_ => Nat.not_le.2 hs_ (Kd.R_base HO544.out k_ e_.symm)) (fun hn_ => (Kd.fresh' (Kd.R_lt (ZR HO544.out)) k_ hn_)), Or.elim hk_ (fun hs_ => fun e_ => Nat.not_le.2 hs_ (by rw [e_]; exact GW541.out)) (fun hn_ => (Kd.freshB (g := gb541) (o := .cells #[.slice A0_0 l0_0.length c0_0, .slice A0_1 l0_1.length c0_1] 26 (0, 0)) (ZK BK541.out) k_ hn_))⟩)) (below_size (ZB))); replace HO544 := Aside0.mk (Kd.R_below (ZR HO544.out) hb); replace BK541 := ZW BK541 hb; replace HB := ZT hb; (try clear hb); (try clear hb2); (try clear hk); (try clear hi); (try clear ho0); obtain ⟨Ao9, co9, eo9⟩ := Kd.N_slice HO547.out; subst eo9))
 go_loopg [14] k (fun kq v14 w' => ∃ (x14_1 : Int), v14 = .int .i64 x14_1 ∧ Aside0 (impl_Prog_why.l0 kq t542 t545 (t545.length : Int) x14_1 l0_0 l0_1 = some (r1, r2)) ∧ Aside0 (kq ≤ k) ∧ Aside0 (Kd.R k35 35 w' w.heap.size (fun _ => True) v543 t542) ∧ Aside0 (Kd.N k59 59 w' w.heap.size (fun k_ => some k_ ≠ (v543 : Value).ownBlock ∧ k_ ≠ gb541) (.slice Ao9 t545.length co9) t545) ∧ Aside0 (w'.heap[gb541]? = some (.cells #[(.slice A0_0 l0_0.length c0_0), (.slice A0_1 l0_1.length c0_1)] 26 (0, 0))) ∧ Aside0 (Below w.heap.size w w'))
 case atStart => exact ⟨(0), (by first | rfl | (simp; done) | (simp [*]; done)), H', ⟨Nat.le_refl _⟩, ⟨ZR HO544.out⟩, ⟨ZRN HO547.out⟩, ⟨ZK BK541.out⟩, ⟨ZB⟩⟩
 case round =>
  clear H'
  try clear c1
  try clear p2
  try clear c7
  try clear c8
  try clear hcz5_0
  try clear hcz5_1
  try clear hcz7_0
  try clear hcz7_1
  try clear hfz5_0
  try clear hfz5_1
  try clear hfz7_0
  try clear hfz7_1
  obtain ⟨x14_1, rfl, HA, HK1, HO_4, HO_12, BK541, HB⟩ := hrel
  cases gk with
  | zero => exact absurd HA.out (by simp [impl_Prog_why.l0])
  | succ k1 =>
   have H := HA.out
   clear HA
   simp only [impl_Prog_why.l0] at H
   by_cases c10 : x14_1 < (t545.length : Int)
   focus
    rw [if_pos c10] at H
    have c10b0 : decide (x14_1 < (t545.length : Int)) = true := decide_eq_true c10
    clear c10
    by_cases c11 : 0 ≤ x14_1
    focus
     rw [if_pos c11] at H
     have c11b0 : decide (0 ≤ x14_1) = true := decide_eq_true c11
     clear c11
     by_cases c12 : x14_1 < (t545.length : Int)
     focus
      rw [if_pos c12] at H
      have c12b0 : decide (x14_1 < (t545.length : Int)) = true := decide_eq_true c12
      clear c12
      by_cases c13 : 0 ≤ ((rd_T59 t545 x14_1).f1)
      focus
       rw [if_pos c13] at H
       have c13b0 : decide (0 ≤ ((rd_T59 t545 x14_1).f1)) = true := decide_eq_true c13
       clear c13
       by_cases c14 : ((rd_T59 t545 x14_1).f1) < (l0_0.length : Int)
       focus
        rw [if_pos c14] at H
        have c14b0 : decide (((rd_T59 t545 x14_1).f1) < (l0_0.length : Int)) = true := decide_eq_true c14
        clear c14
        by_cases c15 : ((rd_T59 t545 x14_1).f0) = 1
        focus
         rw [if_pos c15] at H
         have c15b0 : (((rd_T59 t545 x14_1).f0) == 1) = true := beq_iff_eq.mpr c15
         have c15b1 : (((rd_T59 t545 x14_1).f0) != 1) = false := bne_eq_false_iff_eq.mpr c15
         clear c15
         by_cases c16 : x14_1 < (t542.length : Int)
         focus
          rw [if_pos c16] at H
          have c16b0 : decide (x14_1 < (t542.length : Int)) = true := decide_eq_true c16
          clear c16
          replace H := Option.bind_eq_some_iff.mp H
          obtain ⟨⟨t553, t554⟩, A170, H⟩ := H
          replace H : ((impl_Label_flows.f t553 t554 ((rd_T35 l0_0 ((rd_T59 t545 x14_1).f1)).f0) ((rd_T35 l0_0 ((rd_T59 t545 x14_1).f1)).f1)).bind fun t555 => (if t555 = true then (impl_Prog_why.l0 k1 t542 t545 (t545.length : Int) (wrap64 (x14_1 + 1)) l0_0 l0_1) else (some (x14_1, true)))) = some (r1, r2) := H
          have A17 := Aside0.mk A170
          clear A170
          replace H := Option.bind_eq_some_iff.mp H
          obtain ⟨t555, A180, H⟩ := H
          replace H : (if t555 = true then (impl_Prog_why.l0 k1 t542 t545 (t545.length : Int) (wrap64 (x14_1 + 1)) l0_0 l0_1) else (some (x14_1, true))) = some (r1, r2) := H
          have A18 := Aside0.mk A180
          clear A180
          by_cases c19 : t555 = true
          focus
           subst c19
           have H1 : (impl_Prog_why.l0 k1 t542 t545 (t545.length : Int) (wrap64 (x14_1 + 1)) l0_0 l0_1) = some (r1, r2) := by rw [if_pos rfl] at H; exact H
           clear H
           have H := H1
           clear H1
           have H' := Aside0.mk H
           clear H
           have tag0_ : Aside0 True := ⟨trivial⟩
          rotate_left
          focus
           replace c19 := Bool.eq_false_iff.mpr c19
           subst c19
           have H1 : (some (x14_1, true)) = some (r1, r2) := by rw [if_neg (show ¬ (false = true) by decide)] at H; exact H
           clear H
           have H := H1
           clear H1
           simp only [Option.some.injEq, Prod.mk.injEq] at H
           obtain ⟨rfl, rfl⟩ := H
           have tag1_ : Aside0 True := ⟨trivial⟩
          rotate_left
         rotate_left 2
         focus
          rw [if_neg c16] at H
          exact absurd H (by simp)
        rotate_left 2
        focus
         rw [if_neg c15] at H
         have c15b0 : (((rd_T59 t545 x14_1).f0) == 1) = false := beq_eq_false_iff_ne.mpr c15
         have c15b1 : (((rd_T59 t545 x14_1).f0) != 1) = true := bne_iff_ne.mpr c15
         by_cases c48 : ((rd_T59 t545 x14_1).f0) = 3
         focus
          rw [if_pos c48] at H
          have c48b0 : (((rd_T59 t545 x14_1).f0) == 3) = true := beq_iff_eq.mpr c48
          have c48b1 : (((rd_T59 t545 x14_1).f0) != 3) = false := bne_eq_false_iff_eq.mpr c48
          clear c48
          by_cases c49 : x14_1 < (t542.length : Int)
          focus
           rw [if_pos c49] at H
           have c49b0 : decide (x14_1 < (t542.length : Int)) = true := decide_eq_true c49
           clear c49
           replace H := Option.bind_eq_some_iff.mp H
           obtain ⟨t557, A500, H⟩ := H
           replace H : (if t557 = true then ((impl_has.f ((rd_T35 l0_0 ((rd_T59 t545 x14_1).f1)).f0) ((rd_T59 t545 x14_1).f3)).bind fun t558 => (if t558 = true then (impl_Prog_why.l0 k1 t542 t545 (t545.length : Int) (wrap64 (x14_1 + 1)) l0_0 l0_1) else (some (x14_1, true)))) else (some (x14_1, true))) = some (r1, r2) := H
           have A50 := Aside0.mk A500
           clear A500
           by_cases c51 : t557 = true
           focus
            subst c51
            have H1 : ((impl_has.f ((rd_T35 l0_0 ((rd_T59 t545 x14_1).f1)).f0) ((rd_T59 t545 x14_1).f3)).bind fun t558 => (if t558 = true then (impl_Prog_why.l0 k1 t542 t545 (t545.length : Int) (wrap64 (x14_1 + 1)) l0_0 l0_1) else (some (x14_1, true)))) = some (r1, r2) := by rw [if_pos rfl] at H; exact H
            clear H
            have H := H1
            clear H1
            replace H := Option.bind_eq_some_iff.mp H
            obtain ⟨t558, A520, H⟩ := H
            replace H : (if t558 = true then (impl_Prog_why.l0 k1 t542 t545 (t545.length : Int) (wrap64 (x14_1 + 1)) l0_0 l0_1) else (some (x14_1, true))) = some (r1, r2) := H
            have A52 := Aside0.mk A520
            clear A520
            by_cases c53 : t558 = true
            focus
             subst c53
             have H1 : (impl_Prog_why.l0 k1 t542 t545 (t545.length : Int) (wrap64 (x14_1 + 1)) l0_0 l0_1) = some (r1, r2) := by rw [if_pos rfl] at H; exact H
             clear H
             have H := H1
             clear H1
             have H' := Aside0.mk H
             clear H
             have tag2_ : Aside0 True := ⟨trivial⟩
            rotate_left
            focus
             replace c53 := Bool.eq_false_iff.mpr c53
             subst c53
             have H1 : (some (x14_1, true)) = some (r1, r2) := by rw [if_neg (show ¬ (false = true) by decide)] at H; exact H
             clear H
             have H := H1
             clear H1
             simp only [Option.some.injEq, Prod.mk.injEq] at H
             obtain ⟨rfl, rfl⟩ := H
             have tag3_ : Aside0 True := ⟨trivial⟩
            rotate_left
           rotate_left 2
           focus
            replace c51 := Bool.eq_false_iff.mpr c51
            subst c51
            have H1 : (some (x14_1, true)) = some (r1, r2) := by rw [if_neg (show ¬ (false = true) by decide)] at H; exact H
            clear H
            have H := H1
            clear H1
            simp only [Option.some.injEq, Prod.mk.injEq] at H
            obtain ⟨rfl, rfl⟩ := H
            have tag4_ : Aside0 True := ⟨trivial⟩
           rotate_left
          rotate_left 3
          focus
           rw [if_neg c49] at H
           exact absurd H (by simp)
         rotate_left 3
         focus
          rw [if_neg c48] at H
          have c48b0 : (((rd_T59 t545 x14_1).f0) == 3) = false := beq_eq_false_iff_ne.mpr c48
          have c48b1 : (((rd_T59 t545 x14_1).f0) != 3) = true := bne_iff_ne.mpr c48
          have H' := Aside0.mk H
          clear H
          have tag5_ : Aside0 True := ⟨trivial⟩
         rotate_left
        rotate_left 4
       rotate_left 6
       focus
        rw [if_neg c14] at H
        exact absurd H (by simp)
      rotate_left 6
      focus
       rw [if_neg c13] at H
       exact absurd H (by simp)
     rotate_left 6
     focus
      rw [if_neg c12] at H
      exact absurd H (by simp)
    rotate_left 6
    focus
     rw [if_neg c11] at H
     exact absurd H (by simp)
   rotate_left 6
   focus
    rw [if_neg c10] at H
    have c10b0 : decide (x14_1 < (t545.length : Int)) = false := decide_eq_false c10
    clear c10
    simp only [Option.some.injEq, Prod.mk.injEq] at H
    obtain ⟨rfl, rfl⟩ := H
    have tag6_ : Aside0 True := ⟨trivial⟩
   rotate_left
   all_goals
    first
    | (
      (first | (have z_ := tag0_; clear z_) | (have z_ := tag1_; clear z_) | (have z_ := tag2_; clear z_) | (have z_ := tag3_; clear z_) | (have z_ := tag4_; clear z_) | (have z_ := tag5_; clear z_))
      have pq0 : 0 ≤ (x14_1 : Int) := ZD
      have qq0 : x14_1 < (t545.length : Int) := ZD
      obtain ⟨adq0, Aq0_6, cq0_6, Aq0_7, cq0_7, eq0, hxq0_0, hxq0_1, hxq0_2, hxq0_3, hxq0_4, hxq0_5, hxq0_6, hxq0_7, hlq0_6, hiq0_6, hlq0_7, hiq0_7⟩ := at_T59 (Kd.N_reads' HO_12.out).2.2 x14_1 pq0 qq0
      cases eq0
      obtain ⟨ceq0, hceq0, hMeq0, hccq0⟩ := Kd.N_get HO_12.out z59 x14_1 pq0 (by first | exact qq0 | exact ZD | (have e_ := (Kd.N_reads' HO_12.out).1; omega))
      obtain ⟨uaq0_6, ucq0_6, uaq0_7, ucq0_7, rfl, ulq0_6, geq0_6, ulq0_7, geq0_7⟩ := k59_openF hMeq0
      have hvq0_6 := hccq0 6 _ rfl
      rw [add_field _ _ 6 (by omega)] at hvq0_6
      replace hvq0_6 := Option.some.inj (hvq0_6.symm.trans hxq0_6)
      injection hvq0_6 with hva_ hvn_ hvc_
      rw [hva_] at geq0_6
      rw [hvc_] at ulq0_6
      have HLq0_6 := Aside0.mk (show Kd.V k59 59 _ w.heap.size _ _ ((rd_T59 t545 x14_1).f4) from Kd.V_mk ulq0_6 geq0_6)
      clear hva_ hvn_ hvc_ geq0_6 ulq0_6
      have hvq0_7 := hccq0 7 _ rfl
      rw [add_field _ _ 7 (by omega)] at hvq0_7
      replace hvq0_7 := Option.some.inj (hvq0_7.symm.trans hxq0_7)
      injection hvq0_7 with hva_ hvn_ hvc_
      rw [hva_] at geq0_7
      rw [hvc_] at ulq0_7
      have HLq0_7 := Aside0.mk (show Kd.V k59 59 _ w.heap.size _ _ ((rd_T59 t545 x14_1).f5) from Kd.V_mk ulq0_7 geq0_7)
      clear hva_ hvn_ hvc_ geq0_7 ulq0_7
      clear hccq0 hceq0
      have HRq0_6 := Aside0.mk hiq0_6
      have HCq0_6 := Aside0.mk hlq0_6
      clear hiq0_6 hlq0_6
      have HRq0_7 := Aside0.mk hiq0_7
      have HCq0_7 := Aside0.mk hlq0_7
      clear hiq0_7 hlq0_7
      replace pq0 := eq_true pq0
      replace qq0 := eq_true qq0
      first
      | (
        (first | (have z_ := tag0_; clear z_) | (have z_ := tag1_; clear z_) | (have z_ := tag2_; clear z_) | (have z_ := tag3_; clear z_) | (have z_ := tag4_; clear z_))
        try go_wp2_with (first | ((with_reducible refine gate_dst (N := 6) rfl ?_); refine ZX (N := 6) (cs := #[.int .i64 0, .int .i64 0, .int .i64 0, .int .i64 0, .int .i64 0, .int .i64 0, .slice none 0 0, .slice none 0 0]) (t := 59) ?_; intro gbq0 hg wq0 hbox hb; have n0_ := Aside0.mk (Kd.R_below (ZR HO_4.out) hb); have n1_ := Aside0.mk (Kd.N_below (Kd.N_elderB (ZRN HO_12.out) gbq0 (Nat.le_of_eq hg.symm)) hb); have n2_ := Aside0.mk (Kd.V_below (Kd.V_elderB (ZRV HLq0_6.out) gbq0 (Nat.le_of_eq hg.symm)) hb); have n3_ := Aside0.mk (Kd.V_below (Kd.V_elderB (ZRV HLq0_7.out) gbq0 (Nat.le_of_eq hg.symm)) hb); have nq0_ := ZW BK541 hb; have nq1_ := Aside0.mk (Kd.C_below (ZQ HRq0_6.out) hb); have nq2_ := Aside0.mk (Kd.C_below (ZQ HRq0_7.out) hb); have nq3_ := ZT hb; have nq4_ := Aside0.mk (hbox); have nq5_ : Aside0 (w.heap.size ≤ gbq0) := ZS hg; have nq6_ : Aside0 (w.heap.size ≤ gbq0) := ZS hg; have nq7_ : Aside0 (gb541 ≠ gbq0) := ZN hg BK541; have nq8_ : Aside0 (gbq0 ≠ gb541) := ZM hg BK541; clear HO_4; clear HO_12; clear HLq0_6; clear HLq0_7; clear BK541; clear HRq0_6; clear HRq0_7; clear HB; have HO_4 := n0_; have HO_12 := n1_; have HLq0_6 := n2_; have HLq0_7 := n3_; have BK541 := nq0_; have HRq0_6 := nq1_; have HRq0_7 := nq2_; have HB := nq3_; have BKq0 := nq4_; have GWq0 := nq5_; have GEq0 := nq6_; have NBq0_549 := nq7_; have NBq1_541 := nq8_; clear n0_ n1_ n2_ n3_ nq0_ nq1_ nq2_ nq3_ nq4_ nq5_ nq6_ nq7_ nq8_; clear hb hbox hg; have hnbq0 := NBq1_541.out; have hncq0 := NBq0_549.out; obtain ⟨hczq0_0, hczq0_1, hczq0_2, hczq0_3, hczq0_4, hczq0_5, hczq0_6, hczq0_7⟩ := ZC8 wq0 BKq0; obtain ⟨hfzq0_0, hfzq0_1, hfzq0_2, hfzq0_3, hfzq0_4, hfzq0_5, hfzq0_6, hfzq0_7⟩ := ZF8 BKq0; obtain ⟨hczq1_0, hczq1_1⟩ := ZC2 wq0 BK541; obtain ⟨hfzq1_0, hfzq1_1⟩ := ZF2 BK541; have pq1 : 0 ≤ (((rd_T59 t545 x14_1).f1) : Int) := ZD; have qq1 : ((rd_T59 t545 x14_1).f1) < (l0_0.length : Int) := ZD; obtain ⟨adq1, eq1, hxq1_0, hxq1_1⟩ := at_T35 HR0_0.out ((rd_T59 t545 x14_1).f1) pq1 qq1; cases eq1; have hnq0_0 : adq1.block ≠ gbq0 := ZO hxq1_0 GWq0; have hnq0_1 : adq1.block ≠ gbq0 := ZO hxq1_0 GWq0; have hnq0_2 : adq1.block ≠ gbq0 := ZO hxq1_0 GWq0; have hnq0_3 : adq1.block ≠ gbq0 := ZO hxq1_0 GWq0; have hnq0_4 : adq1.block ≠ gbq0 := ZO hxq1_0 GWq0; have hnq0_5 : adq1.block ≠ gbq0 := ZO hxq1_0 GWq0; have hnq0_6 : adq1.block ≠ gbq0 := ZO hxq1_0 GWq0; have hnq0_7 : adq1.block ≠ gbq0 := ZO hxq1_0 GWq0; replace hxq1_0 := (HB.out.cell (World.block_lt_of_cell? w _ hxq1_0)).trans hxq1_0; replace hxq1_1 := (HB.out.cell (World.block_lt_of_cell? w _ hxq1_1)).trans hxq1_1; replace hxq1_0 := (cell_far (p := ⟨gbq0, 0, none⟩) (ZY hnq0_0) (.int .i64 ((rd_T59 t545 x14_1).f0))).trans hxq1_0; replace hxq1_1 := (cell_far (p := ⟨gbq0, 0, none⟩) (ZY hnq0_0) (.int .i64 ((rd_T59 t545 x14_1).f0))).trans hxq1_1; replace hxq1_0 := (cell_far (p := ⟨gbq0, 1, none⟩) (ZY hnq0_1) (.int .i64 ((rd_T59 t545 x14_1).f1))).trans hxq1_0; replace hxq1_1 := (cell_far (p := ⟨gbq0, 1, none⟩) (ZY hnq0_1) (.int .i64 ((rd_T59 t545 x14_1).f1))).trans hxq1_1; replace hxq1_0 := (cell_far (p := ⟨gbq0, 2, none⟩) (ZY hnq0_2) (.int .i64 ((rd_T59 t545 x14_1).f2.f0))).trans hxq1_0; replace hxq1_1 := (cell_far (p := ⟨gbq0, 2, none⟩) (ZY hnq0_2) (.int .i64 ((rd_T59 t545 x14_1).f2.f0))).trans hxq1_1; replace hxq1_0 := (cell_far (p := ⟨gbq0, 3, none⟩) (ZY hnq0_3) (.int .i64 ((rd_T59 t545 x14_1).f2.f1))).trans hxq1_0; replace hxq1_1 := (cell_far (p := ⟨gbq0, 3, none⟩) (ZY hnq0_3) (.int .i64 ((rd_T59 t545 x14_1).f2.f1))).trans hxq1_1; replace hxq1_0 := (cell_far (p := ⟨gbq0, 4, none⟩) (ZY hnq0_4) (.int .i64 ((rd_T59 t545 x14_1).f2.f2))).trans hxq1_0; replace hxq1_1 := (cell_far (p := ⟨gbq0, 4, none⟩) (ZY hnq0_4) (.int .i64 ((rd_T59 t545 x14_1).f2.f2))).trans hxq1_1; replace hxq1_0 := (cell_far (p := ⟨gbq0, 5, none⟩) (ZY hnq0_5) (.int .i64 ((rd_T59 t545 x14_1).f3))).trans hxq1_0; replace hxq1_1 := (cell_far (p := ⟨gbq0, 5, none⟩) (ZY hnq0_5) (.int .i64 ((rd_T59 t545 x14_1).f3))).trans hxq1_1; replace hxq1_0 := (cell_far (p := ⟨gbq0, 6, none⟩) (ZY hnq0_6) (.slice Aq0_6 ((rd_T59 t545 x14_1).f4).length cq0_6)).trans hxq1_0; replace hxq1_1 := (cell_far (p := ⟨gbq0, 6, none⟩) (ZY hnq0_6) (.slice Aq0_6 ((rd_T59 t545 x14_1).f4).length cq0_6)).trans hxq1_1; replace hxq1_0 := (cell_far (p := ⟨gbq0, 7, none⟩) (ZY hnq0_7) (.slice Aq0_7 ((rd_T59 t545 x14_1).f5).length cq0_7)).trans hxq1_0; replace hxq1_1 := (cell_far (p := ⟨gbq0, 7, none⟩) (ZY hnq0_7) (.slice Aq0_7 ((rd_T59 t545 x14_1).f5).length cq0_7)).trans hxq1_1; clear hnq0_0; clear hnq0_1; clear hnq0_2; clear hnq0_3; clear hnq0_4; clear hnq0_5; clear hnq0_6; clear hnq0_7; replace pq1 := eq_true pq1; replace qq1 := eq_true qq1) | ((with_reducible refine gate_dst (N := 7) rfl ?_); refine ZX (N := 7) (cs := #[.int .i64 0, .int .i64 0]) (t := 35) ?_; intro gbq1 hg wq1 hbox hb; have n0_ := Aside0.mk (Kd.R_below (Kd.R_elderB (ZR ((Kd.R_mono (Kd.R_far (p := ⟨gbq0, 7, none⟩) (Kd.R_far (p := ⟨gbq0, 6, none⟩) (Kd.R_far (p := ⟨gbq0, 5, none⟩) (Kd.R_far (p := ⟨gbq0, 4, none⟩) (Kd.R_far (p := ⟨gbq0, 3, none⟩) (Kd.R_far (p := ⟨gbq0, 2, none⟩) (Kd.R_far (p := ⟨gbq0, 1, none⟩) (Kd.R_far (p := ⟨gbq0, 0, none⟩) (Kd.R_types HO_4.out BKq0.out (by decide)) (fun _ hk => hk.2) (.int .i64 ((rd_T59 t545 x14_1).f0))) (fun _ hk => hk.2) (.int .i64 ((rd_T59 t545 x14_1).f1))) (fun _ hk => hk.2) (.int .i64 ((rd_T59 t545 x14_1).f2.f0))) (fun _ hk => hk.2) (.int .i64 ((rd_T59 t545 x14_1).f2.f1))) (fun _ hk => hk.2) (.int .i64 ((rd_T59 t545 x14_1).f2.f2))) (fun _ hk => hk.2) (.int .i64 ((rd_T59 t545 x14_1).f3))) (fun _ hk => hk.2) (.slice Aq0_6 ((rd_T59 t545 x14_1).f4).length cq0_6)) (fun _ hk => hk.2) (.slice Aq0_7 ((rd_T59 t545 x14_1).f5).length cq0_7)) (fun _ h_ => h_.1)))) gbq1 (Nat.le_of_eq hg.symm)) hb); have n1_ := Aside0.mk (Kd.N_below (Kd.N_elderB (by (with_reducible repeat (first | apply Kd.N_alloc | apply Kd.N_drewN | apply Kd.N_drew)); exact (Kd.N_mono (Kd.N_far (p := ⟨gbq0, 7, none⟩) (Kd.N_far (p := ⟨gbq0, 6, none⟩) (Kd.N_far (p := ⟨gbq0, 5, none⟩) (Kd.N_far (p := ⟨gbq0, 4, none⟩) (Kd.N_far (p := ⟨gbq0, 3, none⟩) (Kd.N_far (p := ⟨gbq0, 2, none⟩) (Kd.N_far (p := ⟨gbq0, 1, none⟩) (Kd.N_far (p := ⟨gbq0, 0, none⟩) (Kd.N_mono HO_12.out (fun k_ hk => (⟨hk, hk.2⟩ : _ ∧ k_ ≠ gbq0))) (fun _ hk => hk.2) (.int .i64 ((rd_T59 t545 x14_1).f0))) (fun _ hk => hk.2) (.int .i64 ((rd_T59 t545 x14_1).f1))) (fun _ hk => hk.2) (.int .i64 ((rd_T59 t545 x14_1).f2.f0))) (fun _ hk => hk.2) (.int .i64 ((rd_T59 t545 x14_1).f2.f1))) (fun _ hk => hk.2) (.int .i64 ((rd_T59 t545 x14_1).f2.f2))) (fun _ hk => hk.2) (.int .i64 ((rd_T59 t545 x14_1).f3))) (fun _ hk => hk.2) (.slice Aq0_6 ((rd_T59 t545 x14_1).f4).length cq0_6)) (fun _ hk => hk.2) (.slice Aq0_7 ((rd_T59 t545 x14_1).f5).length cq0_7)) (fun _ h_ => h_.1))) gbq1 (Nat.le_of_eq hg.symm)) hb); have n2_ := Aside0.mk (Kd.V_below (Kd.V_elderB (by (with_reducible repeat (first | apply Kd.V_alloc | apply Kd.V_drewN | apply Kd.V_drew)); exact (Kd.V_mono (Kd.V_far (p := ⟨gbq0, 7, none⟩) (Kd.V_far (p := ⟨gbq0, 6, none⟩) (Kd.V_far (p := ⟨gbq0, 5, none⟩) (Kd.V_far (p := ⟨gbq0, 4, none⟩) (Kd.V_far (p := ⟨gbq0, 3, none⟩) (Kd.V_far (p := ⟨gbq0, 2, none⟩) (Kd.V_far (p := ⟨gbq0, 1, none⟩) (Kd.V_far (p := ⟨gbq0, 0, none⟩) (Kd.V_mono HLq0_6.out (fun k_ hk => (⟨hk, hk.2⟩ : _ ∧ k_ ≠ gbq0))) (fun _ hk => hk.2) (.int .i64 ((rd_T59 t545 x14_1).f0))) (fun _ hk => hk.2) (.int .i64 ((rd_T59 t545 x14_1).f1))) (fun _ hk => hk.2) (.int .i64 ((rd_T59 t545 x14_1).f2.f0))) (fun _ hk => hk.2) (.int .i64 ((rd_T59 t545 x14_1).f2.f1))) (fun _ hk => hk.2) (.int .i64 ((rd_T59 t545 x14_1).f2.f2))) (fun _ hk => hk.2) (.int .i64 ((rd_T59 t545 x14_1).f3))) (fun _ hk => hk.2) (.slice Aq0_6 ((rd_T59 t545 x14_1).f4).length cq0_6)) (fun _ hk => hk.2) (.slice Aq0_7 ((rd_T59 t545 x14_1).f5).length cq0_7)) (fun _ h_ => h_.1))) gbq1 (Nat.le_of_eq hg.symm)) hb); have n3_ := Aside0.mk (Kd.V_below (Kd.V_elderB (by (with_reducible repeat (first | apply Kd.V_alloc | apply Kd.V_drewN | apply Kd.V_drew)); exact (Kd.V_mono (Kd.V_far (p := ⟨gbq0, 7, none⟩) (Kd.V_far (p := ⟨gbq0, 6, none⟩) (Kd.V_far (p := ⟨gbq0, 5, none⟩) (Kd.V_far (p := ⟨gbq0, 4, none⟩) (Kd.V_far (p := ⟨gbq0, 3, none⟩) (Kd.V_far (p := ⟨gbq0, 2, none⟩) (Kd.V_far (p := ⟨gbq0, 1, none⟩) (Kd.V_far (p := ⟨gbq0, 0, none⟩) (Kd.V_mono HLq0_7.out (fun k_ hk => (⟨hk, hk.2⟩ : _ ∧ k_ ≠ gbq0))) (fun _ hk => hk.2) (.int .i64 ((rd_T59 t545 x14_1).f0))) (fun _ hk => hk.2) (.int .i64 ((rd_T59 t545 x14_1).f1))) (fun _ hk => hk.2) (.int .i64 ((rd_T59 t545 x14_1).f2.f0))) (fun _ hk => hk.2) (.int .i64 ((rd_T59 t545 x14_1).f2.f1))) (fun _ hk => hk.2) (.int .i64 ((rd_T59 t545 x14_1).f2.f2))) (fun _ hk => hk.2) (.int .i64 ((rd_T59 t545 x14_1).f3))) (fun _ hk => hk.2) (.slice Aq0_6 ((rd_T59 t545 x14_1).f4).length cq0_6)) (fun _ hk => hk.2) (.slice Aq0_7 ((rd_T59 t545 x14_1).f5).length cq0_7)) (fun _ h_ => h_.1))) gbq1 (Nat.le_of_eq hg.symm)) hb); have nq0_ := ZV #[.slice (some adq1) l0_0.length c0_0, .slice A0_1 l0_1.length c0_1] BK541 hb; have nq1_ := Aside0.mk (Kd.C_below ((Kd.V_reads' (by (with_reducible repeat (first | apply Kd.V_alloc | apply Kd.V_drewN | apply Kd.V_drew)); exact (Kd.V_mono (Kd.V_far (p := ⟨gbq0, 7, none⟩) (Kd.V_far (p := ⟨gbq0, 6, none⟩) (Kd.V_far (p := ⟨gbq0, 5, none⟩) (Kd.V_far (p := ⟨gbq0, 4, none⟩) (Kd.V_far (p := ⟨gbq0, 3, none⟩) (Kd.V_far (p := ⟨gbq0, 2, none⟩) (Kd.V_far (p := ⟨gbq0, 1, none⟩) (Kd.V_far (p := ⟨gbq0, 0, none⟩) (Kd.V_mono HLq0_6.out (fun k_ hk => (⟨hk, hk.2⟩ : _ ∧ k_ ≠ gbq0))) (fun _ hk => hk.2) (.int .i64 ((rd_T59 t545 x14_1).f0))) (fun _ hk => hk.2) (.int .i64 ((rd_T59 t545 x14_1).f1))) (fun _ hk => hk.2) (.int .i64 ((rd_T59 t545 x14_1).f2.f0))) (fun _ hk => hk.2) (.int .i64 ((rd_T59 t545 x14_1).f2.f1))) (fun _ hk => hk.2) (.int .i64 ((rd_T59 t545 x14_1).f2.f2))) (fun _ hk => hk.2) (.int .i64 ((rd_T59 t545 x14_1).f3))) (fun _ hk => hk.2) (.slice Aq0_6 ((rd_T59 t545 x14_1).f4).length cq0_6)) (fun _ hk => hk.2) (.slice Aq0_7 ((rd_T59 t545 x14_1).f5).length cq0_7)) (fun _ h_ => h_.1)))).2.2) hb); have nq2_ := Aside0.mk (Kd.C_below ((Kd.V_reads' (by (with_reducible repeat (first | apply Kd.V_alloc | apply Kd.V_drewN | apply Kd.V_drew)); exact (Kd.V_mono (Kd.V_far (p := ⟨gbq0, 7, none⟩) (Kd.V_far (p := ⟨gbq0, 6, none⟩) (Kd.V_far (p := ⟨gbq0, 5, none⟩) (Kd.V_far (p := ⟨gbq0, 4, none⟩) (Kd.V_far (p := ⟨gbq0, 3, none⟩) (Kd.V_far (p := ⟨gbq0, 2, none⟩) (Kd.V_far (p := ⟨gbq0, 1, none⟩) (Kd.V_far (p := ⟨gbq0, 0, none⟩) (Kd.V_mono HLq0_7.out (fun k_ hk => (⟨hk, hk.2⟩ : _ ∧ k_ ≠ gbq0))) (fun _ hk => hk.2) (.int .i64 ((rd_T59 t545 x14_1).f0))) (fun _ hk => hk.2) (.int .i64 ((rd_T59 t545 x14_1).f1))) (fun _ hk => hk.2) (.int .i64 ((rd_T59 t545 x14_1).f2.f0))) (fun _ hk => hk.2) (.int .i64 ((rd_T59 t545 x14_1).f2.f1))) (fun _ hk => hk.2) (.int .i64 ((rd_T59 t545 x14_1).f2.f2))) (fun _ hk => hk.2) (.int .i64 ((rd_T59 t545 x14_1).f3))) (fun _ hk => hk.2) (.slice Aq0_6 ((rd_T59 t545 x14_1).f4).length cq0_6)) (fun _ hk => hk.2) (.slice Aq0_7 ((rd_T59 t545 x14_1).f5).length cq0_7)) (fun _ h_ => h_.1)))).2.2) hb); have nq3_ := ZV #[.int .i64 ((rd_T59 t545 x14_1).f0), .int .i64 ((rd_T59 t545 x14_1).f1), .int .i64 ((rd_T59 t545 x14_1).f2.f0), .int .i64 ((rd_T59 t545 x14_1).f2.f1), .int .i64 ((rd_T59 t545 x14_1).f2.f2), .int .i64 ((rd_T59 t545 x14_1).f3), .slice Aq0_6 ((rd_T59 t545 x14_1).f4).length cq0_6, .slice Aq0_7 ((rd_T59 t545 x14_1).f5).length cq0_7] BKq0 hb; have nq4_ := ZT hb; have nq5_ := Aside0.mk (hbox); have nq6_ : Aside0 (w.heap.size ≤ gbq1) := ZS hg; have nq7_ : Aside0 (w.heap.size ≤ gbq1) := ZS hg; have nq8_ := Aside0.mk ((by rw [hg]; exact Nat.ne_of_lt (blk_lt (g := gb541) (o := .cells #[.slice (some adq1) l0_0.length c0_0, .slice A0_1 l0_1.length c0_1] 26 (0, 0)) (ZZ BK541.out)) : gb541 ≠ gbq1)); have nq9_ := Aside0.mk ((by rw [hg]; exact Nat.ne_of_gt (blk_lt (g := gb541) (o := .cells #[.slice (some adq1) l0_0.length c0_0, .slice A0_1 l0_1.length c0_1] 26 (0, 0)) (ZZ BK541.out)) : gbq1 ≠ gb541)); have nq10_ := Aside0.mk ((by rw [hg]; exact Nat.ne_of_lt (blk_lt (g := gbq0) (o := .cells #[.int .i64 ((rd_T59 t545 x14_1).f0), .int .i64 ((rd_T59 t545 x14_1).f1), .int .i64 ((rd_T59 t545 x14_1).f2.f0), .int .i64 ((rd_T59 t545 x14_1).f2.f1), .int .i64 ((rd_T59 t545 x14_1).f2.f2), .int .i64 ((rd_T59 t545 x14_1).f3), .slice Aq0_6 ((rd_T59 t545 x14_1).f4).length cq0_6, .slice Aq0_7 ((rd_T59 t545 x14_1).f5).length cq0_7] 59 (0, 0)) (ZZ BKq0.out)) : gbq0 ≠ gbq1)); have nq11_ := Aside0.mk ((by rw [hg]; exact Nat.ne_of_gt (blk_lt (g := gbq0) (o := .cells #[.int .i64 ((rd_T59 t545 x14_1).f0), .int .i64 ((rd_T59 t545 x14_1).f1), .int .i64 ((rd_T59 t545 x14_1).f2.f0), .int .i64 ((rd_T59 t545 x14_1).f2.f1), .int .i64 ((rd_T59 t545 x14_1).f2.f2), .int .i64 ((rd_T59 t545 x14_1).f3), .slice Aq0_6 ((rd_T59 t545 x14_1).f4).length cq0_6, .slice Aq0_7 ((rd_T59 t545 x14_1).f5).length cq0_7] 59 (0, 0)) (ZZ BKq0.out)) : gbq1 ≠ gbq0)); clear HO_4; clear HO_12; clear HLq0_6; clear HLq0_7; clear BK541; clear HRq0_6; clear HRq0_7; clear BKq0; clear HB; have HO_4 := n0_; have HO_12 := n1_; have HLq0_6 := n2_; have HLq0_7 := n3_; have BK541 := nq0_; have HRq0_6 := nq1_; have HRq0_7 := nq2_; have BKq0 := nq3_; have HB := nq4_; have BKq1 := nq5_; have GWq1 := nq6_; have GEq1 := nq7_; have NBq0_551 := nq8_; have NBq2_541 := nq9_; have NBq1_551 := nq10_; have NBq2_549 := nq11_; clear n0_ n1_ n2_ n3_ nq0_ nq1_ nq2_ nq3_ nq4_ nq5_ nq6_ nq7_ nq8_ nq9_ nq10_ nq11_; clear hb hbox hg; have hnbq1 := NBq2_541.out; have hncq1 := NBq0_551.out; have hnbq2 := NBq2_549.out; have hncq2 := NBq1_551.out; obtain ⟨hczq2_0, hczq2_1⟩ := ZC2 wq1 BKq1; obtain ⟨hfzq2_0, hfzq2_1⟩ := ZF2 BKq1; obtain ⟨hczq3_0, hczq3_1, hczq3_2, hczq3_3, hczq3_4, hczq3_5, hczq3_6, hczq3_7⟩ := ZC8 wq1 BKq0; obtain ⟨hfzq3_0, hfzq3_1, hfzq3_2, hfzq3_3, hfzq3_4, hfzq3_5, hfzq3_6, hfzq3_7⟩ := ZF8 BKq0))
        have n0_ : Aside0 (Kd.R k35 35 ((wq1.setCell ⟨gbq1, 0, none⟩ (.int .i64 ((rd_T35 l0_0 ((rd_T59 t545 x14_1).f1)).f0))).setCell ⟨gbq1, 1, none⟩ (.int .i64 ((rd_T35 l0_0 ((rd_T59 t545 x14_1).f1)).f1))) w.heap.size (fun k_ => k_ ≠ gbq1) v543 t542) := ⟨by (with_reducible repeat (first | apply Kd.R_alloc | apply Kd.R_drewN | apply Kd.R_drew)); exact Kd.R_mono (Kd.R_far (p := ⟨gbq1, 1, none⟩) (Kd.R_far (p := ⟨gbq1, 0, none⟩) (Kd.R_mono HO_4.out (fun k_ hk => (⟨hk, hk.2⟩ : _ ∧ k_ ≠ gbq1))) (fun _ hk => hk.2) (.int .i64 ((rd_T35 l0_0 ((rd_T59 t545 x14_1).f1)).f0))) (fun _ hk => hk.2) (.int .i64 ((rd_T35 l0_0 ((rd_T59 t545 x14_1).f1)).f1))) (fun _ hk => hk.1.2)⟩
        have n1_ : Aside0 (Kd.N k59 59 ((wq1.setCell ⟨gbq1, 0, none⟩ (.int .i64 ((rd_T35 l0_0 ((rd_T59 t545 x14_1).f1)).f0))).setCell ⟨gbq1, 1, none⟩ (.int .i64 ((rd_T35 l0_0 ((rd_T59 t545 x14_1).f1)).f1))) w.heap.size (fun k_ => some k_ ≠ (v543 : Value).ownBlock ∧ k_ ≠ gb541 ∧ k_ ≠ gbq0 ∧ k_ ≠ gbq1) (.slice (some adq0) t545.length co9) t545) := ⟨by (with_reducible repeat (first | apply Kd.N_alloc | apply Kd.N_drewN | apply Kd.N_drew)); exact Kd.N_mono (Kd.N_far (p := ⟨gbq1, 1, none⟩) (Kd.N_far (p := ⟨gbq1, 0, none⟩) (Kd.N_mono HO_12.out (fun k_ hk => (⟨hk, hk.2⟩ : _ ∧ k_ ≠ gbq1))) (fun _ hk => hk.2) (.int .i64 ((rd_T35 l0_0 ((rd_T59 t545 x14_1).f1)).f0))) (fun _ hk => hk.2) (.int .i64 ((rd_T35 l0_0 ((rd_T59 t545 x14_1).f1)).f1))) (fun _ hk => ⟨hk.1.1.1.1, ⟨hk.1.1.1.2, ⟨hk.1.1.2, hk.1.2⟩⟩⟩)⟩
        have n2_ : Aside0 (Kd.V k59 59 ((wq1.setCell ⟨gbq1, 0, none⟩ (.int .i64 ((rd_T35 l0_0 ((rd_T59 t545 x14_1).f1)).f0))).setCell ⟨gbq1, 1, none⟩ (.int .i64 ((rd_T35 l0_0 ((rd_T59 t545 x14_1).f1)).f1))) w.heap.size (fun k_ => some k_ ≠ (v543 : Value).ownBlock ∧ some k_ ≠ (.slice (some adq0) t545.length co9 : Value).ownBlock ∧ k_ ≠ gb541 ∧ k_ ≠ gbq0 ∧ k_ ≠ gbq1) (.slice Aq0_6 ((rd_T59 t545 x14_1).f4).length cq0_6) ((rd_T59 t545 x14_1).f4)) := ⟨by (with_reducible repeat (first | apply Kd.V_alloc | apply Kd.V_drewN | apply Kd.V_drew)); exact Kd.V_mono (Kd.V_far (p := ⟨gbq1, 1, none⟩) (Kd.V_far (p := ⟨gbq1, 0, none⟩) (Kd.V_mono HLq0_6.out (fun k_ hk => (⟨hk, hk.2⟩ : _ ∧ k_ ≠ gbq1))) (fun _ hk => hk.2) (.int .i64 ((rd_T35 l0_0 ((rd_T59 t545 x14_1).f1)).f0))) (fun _ hk => hk.2) (.int .i64 ((rd_T35 l0_0 ((rd_T59 t545 x14_1).f1)).f1))) (fun _ hk => ⟨hk.1.1.1.1.1, ⟨hk.1.1.1.2, ⟨hk.1.1.1.1.2, ⟨hk.1.1.2, hk.1.2⟩⟩⟩⟩)⟩
        have n3_ : Aside0 (Kd.V k59 59 ((wq1.setCell ⟨gbq1, 0, none⟩ (.int .i64 ((rd_T35 l0_0 ((rd_T59 t545 x14_1).f1)).f0))).setCell ⟨gbq1, 1, none⟩ (.int .i64 ((rd_T35 l0_0 ((rd_T59 t545 x14_1).f1)).f1))) w.heap.size (fun k_ => some k_ ≠ (v543 : Value).ownBlock ∧ some k_ ≠ (.slice (some adq0) t545.length co9 : Value).ownBlock ∧ k_ ≠ gb541 ∧ k_ ≠ gbq0 ∧ k_ ≠ gbq1) (.slice Aq0_7 ((rd_T59 t545 x14_1).f5).length cq0_7) ((rd_T59 t545 x14_1).f5)) := ⟨by (with_reducible repeat (first | apply Kd.V_alloc | apply Kd.V_drewN | apply Kd.V_drew)); exact Kd.V_mono (Kd.V_far (p := ⟨gbq1, 1, none⟩) (Kd.V_far (p := ⟨gbq1, 0, none⟩) (Kd.V_mono HLq0_7.out (fun k_ hk => (⟨hk, hk.2⟩ : _ ∧ k_ ≠ gbq1))) (fun _ hk => hk.2) (.int .i64 ((rd_T35 l0_0 ((rd_T59 t545 x14_1).f1)).f0))) (fun _ hk => hk.2) (.int .i64 ((rd_T35 l0_0 ((rd_T59 t545 x14_1).f1)).f1))) (fun _ hk => ⟨hk.1.1.1.1.1, ⟨hk.1.1.1.2, ⟨hk.1.1.1.1.2, ⟨hk.1.1.2, hk.1.2⟩⟩⟩⟩)⟩
        have nq0_ : Aside0 (((wq1.setCell ⟨gbq1, 0, none⟩ (.int .i64 ((rd_T35 l0_0 ((rd_T59 t545 x14_1).f1)).f0))).setCell ⟨gbq1, 1, none⟩ (.int .i64 ((rd_T35 l0_0 ((rd_T59 t545 x14_1).f1)).f1))).heap[gb541]? = some (.cells #[.slice (some adq1) l0_0.length c0_0, .slice A0_1 l0_1.length c0_1] 26 (0, 0))) := ⟨ZZ BK541.out⟩
        have nq1_ : Aside0 (((wq1.setCell ⟨gbq1, 0, none⟩ (.int .i64 ((rd_T35 l0_0 ((rd_T59 t545 x14_1).f1)).f0))).setCell ⟨gbq1, 1, none⟩ (.int .i64 ((rd_T35 l0_0 ((rd_T59 t545 x14_1).f1)).f1))).heap[gbq0]? = some (.cells #[.int .i64 ((rd_T59 t545 x14_1).f0), .int .i64 ((rd_T59 t545 x14_1).f1), .int .i64 ((rd_T59 t545 x14_1).f2.f0), .int .i64 ((rd_T59 t545 x14_1).f2.f1), .int .i64 ((rd_T59 t545 x14_1).f2.f2), .int .i64 ((rd_T59 t545 x14_1).f3), .slice Aq0_6 ((rd_T59 t545 x14_1).f4).length cq0_6, .slice Aq0_7 ((rd_T59 t545 x14_1).f5).length cq0_7] 59 (0, 0))) := ⟨ZZ BKq0.out⟩
        have nq2_ : Aside0 (((wq1.setCell ⟨gbq1, 0, none⟩ (.int .i64 ((rd_T35 l0_0 ((rd_T59 t545 x14_1).f1)).f0))).setCell ⟨gbq1, 1, none⟩ (.int .i64 ((rd_T35 l0_0 ((rd_T59 t545 x14_1).f1)).f1))).heap[gbq1]? = some (.cells #[.int .i64 ((rd_T35 l0_0 ((rd_T59 t545 x14_1).f1)).f0), .int .i64 ((rd_T35 l0_0 ((rd_T59 t545 x14_1).f1)).f1)] 35 (0, 0))) := ⟨ZZ BKq1.out⟩
        have nq3_ : Aside0 (Below w.heap.size w ((wq1.setCell ⟨gbq1, 0, none⟩ (.int .i64 ((rd_T35 l0_0 ((rd_T59 t545 x14_1).f1)).f0))).setCell ⟨gbq1, 1, none⟩ (.int .i64 ((rd_T35 l0_0 ((rd_T59 t545 x14_1).f1)).f1)))) := ⟨ZB⟩
        (try clear HO_4)
        (try clear HO_12)
        (try clear HLq0_6)
        (try clear HLq0_7)
        (try clear BK541)
        (try clear BKq0)
        (try clear BKq1)
        (try clear HB)
        generalize ((wq1.setCell ⟨gbq1, 0, none⟩ (.int .i64 ((rd_T35 l0_0 ((rd_T59 t545 x14_1).f1)).f0))).setCell ⟨gbq1, 1, none⟩ (.int .i64 ((rd_T35 l0_0 ((rd_T59 t545 x14_1).f1)).f1))) = wq2 at n0_ n1_ n2_ n3_ nq0_ nq1_ nq2_ nq3_ ⊢
        have HO_4 := n0_
        have HO_12 := n1_
        have HLq0_6 := n2_
        have HLq0_7 := n3_
        have BK541 := nq0_
        have BKq0 := nq1_
        have BKq1 := nq2_
        have HB := nq3_
        clear n0_ n1_ n2_ n3_ nq0_ nq1_ nq2_ nq3_
        have n0_ := Aside0.mk (Kd.R_drew HO_4.out)
        have n1_ := Aside0.mk (Kd.N_drew HO_12.out)
        have n2_ := Aside0.mk (Kd.V_drew HLq0_6.out)
        have n3_ := Aside0.mk (Kd.V_drew HLq0_7.out)
        have nq0_ := Aside0.mk (blk_drew BK541.out)
        have nq1_ := Aside0.mk (blk_drew BKq0.out)
        have nq2_ := Aside0.mk (blk_drew BKq1.out)
        have nq3_ := Aside0.mk (below_drew1 HB.out)
        clear HO_4
        clear HO_12
        clear HLq0_6
        clear HLq0_7
        clear BK541
        clear BKq0
        clear BKq1
        clear HB
        have HO_4 := n0_
        have HO_12 := n1_
        have HLq0_6 := n2_
        have HLq0_7 := n3_
        have BK541 := nq0_
        have BKq0 := nq1_
        have BKq1 := nq2_
        have HB := nq3_
        clear n0_ n1_ n2_ n3_ nq0_ nq1_ nq2_ nq3_
        obtain ⟨Aoq0, coq0, eoq0⟩ := Kd.R_slice HO_4.out
        (first | subst eoq0 | (injection eoq0 with f1_ f2_ f3_; have fq0_ := f1_.symm; have fq1_ := f3_.symm; clear f1_ f2_ f3_; subst fq0_; subst fq1_))
        have pq2 : 0 ≤ (x14_1 : Int) := ZD
        have qq2 : x14_1 < (t542.length : Int) := ZD
        obtain ⟨adq2, eq2, hxq2_0, hxq2_1⟩ := at_T35 (Kd.R_reads' HO_4.out).2.2 x14_1 pq2 qq2
        cases eq2
        replace pq2 := eq_true pq2
        replace qq2 := eq_true qq2
        first
        | (
          (first | (have z_ := tag0_; clear z_) | (have z_ := tag1_; clear z_))
          refine start_ (n := 10) (S := fun w' => w'.cell? ⟨gb541, 0, none⟩ = some (.slice (some adq1) l0_0.length c0_0) ∧ w'.cell? ⟨gb541, 1, none⟩ = some (.slice A0_1 l0_1.length c0_1) ∧ w'.cell? ⟨gbq0, 0, none⟩ = some (.int .i64 ((rd_T59 t545 x14_1).f0)) ∧ w'.cell? ⟨gbq0, 1, none⟩ = some (.int .i64 ((rd_T59 t545 x14_1).f1)) ∧ w'.cell? ⟨gbq0, 2, none⟩ = some (.int .i64 ((rd_T59 t545 x14_1).f2.f0)) ∧ w'.cell? ⟨gbq0, 3, none⟩ = some (.int .i64 ((rd_T59 t545 x14_1).f2.f1)) ∧ w'.cell? ⟨gbq0, 4, none⟩ = some (.int .i64 ((rd_T59 t545 x14_1).f2.f2)) ∧ w'.cell? ⟨gbq0, 5, none⟩ = some (.int .i64 ((rd_T59 t545 x14_1).f3)) ∧ w'.cell? ⟨gbq0, 6, none⟩ = some (.slice Aq0_6 ((rd_T59 t545 x14_1).f4).length cq0_6) ∧ w'.cell? ⟨gbq0, 7, none⟩ = some (.slice Aq0_7 ((rd_T59 t545 x14_1).f5).length cq0_7) ∧ w'.cell? ⟨gbq1, 0, none⟩ = some (.int .i64 ((rd_T35 l0_0 ((rd_T59 t545 x14_1).f1)).f0)) ∧ w'.cell? ⟨gbq1, 1, none⟩ = some (.int .i64 ((rd_T35 l0_0 ((rd_T59 t545 x14_1).f1)).f1)) ∧ w'.cell? (adq2.add ((x14_1).toNat * 2)) = some (.int .i64 ((rd_T35 t542 x14_1).f0)) ∧ w'.cell? ⟨(adq2.add ((x14_1).toNat * 2)).block, (adq2.add ((x14_1).toNat * 2)).off + 1, none⟩ = some (.int .i64 ((rd_T35 t542 x14_1).f1))) (ds := []) #[false, false, false, false, false, false, false, false, false, false] (by kernel_rfl) rfl rfl ⟨(blk_cell BK541.out 0).trans rfl, (blk_cell BK541.out 1).trans rfl, (blk_cell BKq0.out 0).trans rfl, (blk_cell BKq0.out 1).trans rfl, (blk_cell BKq0.out 2).trans rfl, (blk_cell BKq0.out 3).trans rfl, (blk_cell BKq0.out 4).trans rfl, (blk_cell BKq0.out 5).trans rfl, (blk_cell BKq0.out 6).trans rfl, (blk_cell BKq0.out 7).trans rfl, (blk_cell BKq1.out 0).trans rfl, (blk_cell BKq1.out 1).trans rfl, hxq2_0, hxq2_1⟩ (fun hHeld => ?_); refine with_tabW impl_Prog_why.tab8 impl_Prog_why.bits8 (fun HT_ HW_ => ?_)
          generalize wq2.drew = wq3 at HO_4 HO_12 HLq0_6 HLq0_7 BK541 BKq0 BKq1 HB hxq2_0 hxq2_1 hHeld ⊢
          refine pure_ (i := 2) (N := some 31) (v := ?_) (a' := ?_) #[false, false, true, false, false, false, false, false, false, false] rfl rfl (any_of HT_.out (by kernel_rfl)) (fun _ _ _ h => h) (Or.inl ⟨by rfl, ?_⟩) ?_ ?_
          rotate_left
          ·intro w'
           go_simp
           with_reducible rfl
          rotate_left
          ·simp only [Act.put, List.setIfInBounds_toArray, List.set_cons_zero, List.set_cons_succ, i64_w, i32_w]
           rfl
          refine pure_ (i := 3) (N := some 32) (v := ?_) (a' := ?_) #[false, false, true, true, false, false, false, false, false, false] rfl rfl (any_of HT_.out (by kernel_rfl)) (fun _ _ _ h => h) (Or.inl ⟨by rfl, ?_⟩) ?_ ?_
          rotate_left
          ·intro w'
           go_simp
           with_reducible rfl
          rotate_left
          ·simp only [Act.put, List.setIfInBounds_toArray, List.set_cons_zero, List.set_cons_succ, i64_w, i32_w]
           rfl
          refine pure_ (i := 4) (N := some 33) (v := ?_) (a' := ?_) #[false, false, true, true, true, false, false, false, false, false] rfl rfl (any_of HT_.out (by kernel_rfl)) (fun _ _ _ h => h) (Or.inl ⟨by rfl, ?_⟩) ?_ ?_
          rotate_left
          ·intro w'
           go_simp
           with_reducible rfl
          rotate_left
          ·simp only [Act.put, List.setIfInBounds_toArray, List.set_cons_zero, List.set_cons_succ, i64_w, i32_w]
           rfl
          refine take_ (i := 0) (N := some 29) (v := ?_) (a' := ?_) #[true, false, true, true, true, false, false, false, false, false] rfl rfl (take_ofW HT_.out HW_.out (by kernel_rfl)) (fun _ _ _ h => h) (Or.inl ⟨by rfl, ?_⟩) hHeld ?_ ?_
          rotate_left
          ·rintro w' ⟨sq0, sq1, sq2, sq3, sq4, sq5, sq6, sq7, sq8, sq9, sq10, sq11, sq12, sq13⟩
           go_simp
           with_reducible rfl
          rotate_left
          ·simp only [Act.put, List.setIfInBounds_toArray, List.set_cons_zero, List.set_cons_succ, i64_w, i32_w]
           rfl
          refine take_ (i := 1) (N := some 30) (v := ?_) (a' := ?_) #[true, true, true, true, true, false, false, false, false, false] rfl rfl (take_ofW HT_.out HW_.out (by kernel_rfl)) (fun _ _ _ h => h) (Or.inl ⟨by rfl, ?_⟩) hHeld ?_ ?_
          rotate_left
          ·rintro w' ⟨sq0, sq1, sq2, sq3, sq4, sq5, sq6, sq7, sq8, sq9, sq10, sq11, sq12, sq13⟩
           go_simp
           with_reducible rfl
          rotate_left
          ·simp only [Act.put, List.setIfInBounds_toArray, List.set_cons_zero, List.set_cons_succ, i64_w, i32_w]
           rfl
          refine take_ (i := 5) (N := some 34) (v := ?_) (a' := ?_) #[true, true, true, true, true, true, false, false, false, false] rfl rfl (take_ofW HT_.out HW_.out (by kernel_rfl)) (fun _ _ _ h => h) (Or.inl ⟨by rfl, ?_⟩) hHeld ?_ ?_
          rotate_left
          ·rintro w' ⟨sq0, sq1, sq2, sq3, sq4, sq5, sq6, sq7, sq8, sq9, sq10, sq11, sq12, sq13⟩
           go_simp
           with_reducible rfl
          rotate_left
          ·simp only [Act.put, List.setIfInBounds_toArray, List.set_cons_zero, List.set_cons_succ, i64_w, i32_w]
           rfl
          refine take_ (i := 7) (N := some 36) (v := ?_) (a' := ?_) #[true, true, true, true, true, true, false, true, false, false] rfl rfl (take_ofW HT_.out HW_.out (by kernel_rfl)) (fun _ _ _ h => h) (Or.inl ⟨by rfl, ?_⟩) hHeld ?_ ?_
          rotate_left
          ·rintro w' ⟨sq0, sq1, sq2, sq3, sq4, sq5, sq6, sq7, sq8, sq9, sq10, sq11, sq12, sq13⟩
           go_simp
           with_reducible rfl
          rotate_left
          ·simp only [Act.put, List.setIfInBounds_toArray, List.set_cons_zero, List.set_cons_succ, i64_w, i32_w]
           rfl
          refine one_ (i := 6) (N := some 35) #[true, true, true, true, true, true, true, true, false, false] rfl rfl (one_of HT_.out (by kernel_rfl)) (by decide) (fun K hK => ?_)
          refine goes_ Try.func138 (by kernel_rfl) rfl #[.agg #[.slice (some adq1) l0_0.length c0_0, .slice A0_1 l0_1.length c0_1], .agg #[.int .i64 ((rd_T59 t545 x14_1).f0), .int .i64 ((rd_T59 t545 x14_1).f1), .int .i64 ((rd_T59 t545 x14_1).f2.f0), .int .i64 ((rd_T59 t545 x14_1).f2.f1), .int .i64 ((rd_T59 t545 x14_1).f2.f2), .int .i64 ((rd_T59 t545 x14_1).f3), .slice Aq0_6 ((rd_T59 t545 x14_1).f4).length cq0_6, .slice Aq0_7 ((rd_T59 t545 x14_1).f5).length cq0_7], .agg #[.int .i64 ((rd_T35 t542 x14_1).f0), .int .i64 ((rd_T35 t542 x14_1).f1)]] (by rfl) rfl rfl ZG ?_
          with_reducible refine (impl_Prog_source.calls k1 _ _ l0_0 _ _ l0_1 ((rd_T59 t545 x14_1).f0) ((rd_T59 t545 x14_1).f1) ((rd_T59 t545 x14_1).f2.f0) ((rd_T59 t545 x14_1).f2.f1) ((rd_T59 t545 x14_1).f2.f2) ((rd_T59 t545 x14_1).f3) _ _ ((rd_T59 t545 x14_1).f4) _ _ ((rd_T59 t545 x14_1).f5) ((rd_T35 t542 x14_1).f0) ((rd_T35 t542 x14_1).f1) t553 t554 _ ?side1 ?side2 ?side3 ?side4 ?side5 ?side6 ?side7 ?side8 A17.out).mono ?_
          (case side1 => exact ZQ (Kd.C_below HR0_0.out HB.out))
          (case side2 => exact HC0_0.out)
          (case side3 => exact ZQ (Kd.C_below HR0_1.out HB.out))
          (case side4 => exact HC0_1.out)
          (case side5 => repeat (first | exact ((Kd.V_reads' (ZRV HLq0_6.out)).2.2) | (with_reducible refine Kd.C_alloc ?_ _) | (with_reducible refine Kd.C_drewN ?_ _) | (with_reducible refine Kd.C_drew ?_)))
          (case side6 => exact HCq0_6.out)
          (case side7 => repeat (first | exact ((Kd.V_reads' (ZRV HLq0_7.out)).2.2) | (with_reducible refine Kd.C_alloc ?_ _) | (with_reducible refine Kd.C_drewN ?_ _) | (with_reducible refine Kd.C_drew ?_)))
          (case side8 => exact HCq0_7.out)
          rintro e wq4 ⟨rfl, hb⟩
          have HSq0_ := (hb.cell (World.block_lt_of_cell? _ _ (hHeld.2.2.2.2.2.2.2.2.2.2.2.2.1))).trans (hHeld.2.2.2.2.2.2.2.2.2.2.2.2.1)
          have HSq1_ := (hb.cell (World.block_lt_of_cell? _ _ (hHeld.2.2.2.2.2.2.2.2.2.2.2.2.2))).trans (hHeld.2.2.2.2.2.2.2.2.2.2.2.2.2)
          refine ⟨_, rfl, ?_⟩
          have n0_ := Aside0.mk (Kd.R_below (ZR HO_4.out) hb)
          have n1_ := Aside0.mk (Kd.N_below (ZRN HO_12.out) hb)
          have n2_ := Aside0.mk (Kd.V_below (ZRV HLq0_6.out) hb)
          have n3_ := Aside0.mk (Kd.V_below (ZRV HLq0_7.out) hb)
          have nq0_ := ZW BK541 hb
          have nq1_ := ZW BKq0 hb
          have nq2_ := ZW BKq1 hb
          have nq3_ := ZT hb
          clear HO_4
          clear HO_12
          clear HLq0_6
          clear HLq0_7
          clear BK541
          clear BKq0
          clear BKq1
          clear HB
          have HO_4 := n0_
          have HO_12 := n1_
          have HLq0_6 := n2_
          have HLq0_7 := n3_
          have BK541 := nq0_
          have BKq0 := nq1_
          have BKq1 := nq2_
          have HB := nq3_
          clear n0_ n1_ n2_ n3_ nq0_ nq1_ nq2_ nq3_
          (try clear hb)
          (try clear hb2)
          (try clear hk)
          (try clear hi)
          refine hK.out _ _ ⟨(blk_cell BK541.out 0).trans rfl, (blk_cell BK541.out 1).trans rfl, (blk_cell BKq0.out 0).trans rfl, (blk_cell BKq0.out 1).trans rfl, (blk_cell BKq0.out 2).trans rfl, (blk_cell BKq0.out 3).trans rfl, (blk_cell BKq0.out 4).trans rfl, (blk_cell BKq0.out 5).trans rfl, (blk_cell BKq0.out 6).trans rfl, (blk_cell BKq0.out 7).trans rfl, (blk_cell BKq1.out 0).trans rfl, (blk_cell BKq1.out 1).trans rfl, HSq0_, HSq1_⟩ (fun hHeld => ?_)
          clear hK K
          refine ZNO 35 ?_
          refine one_ (i := 8) (N := some 37) #[true, true, true, true, true, true, true, true, true, false] rfl rfl (one_of HT_.out (by kernel_rfl)) (by decide) (fun K hK => ?_)
          refine goes_ Try.func110 (by kernel_rfl) rfl #[.agg #[.int .i64 t553, .int .i64 t554], .agg #[.int .i64 ((rd_T35 l0_0 ((rd_T59 t545 x14_1).f1)).f0), .int .i64 ((rd_T35 l0_0 ((rd_T59 t545 x14_1).f1)).f1)]] (by rfl) rfl rfl ZG ?_
          first
          | (
            (have z_ := tag0_; clear z_)
            with_reducible refine (impl_Label_flows.calls t553 t554 ((rd_T35 l0_0 ((rd_T59 t545 x14_1).f1)).f0) ((rd_T35 l0_0 ((rd_T59 t545 x14_1).f1)).f1) true _ A18.out).mono ?_
            rintro e wq5 ⟨rfl, hb⟩
            have HSq0_ := (hb.cell (World.block_lt_of_cell? _ _ (hHeld.2.2.2.2.2.2.2.2.2.2.2.2.1))).trans (hHeld.2.2.2.2.2.2.2.2.2.2.2.2.1)
            have HSq1_ := (hb.cell (World.block_lt_of_cell? _ _ (hHeld.2.2.2.2.2.2.2.2.2.2.2.2.2))).trans (hHeld.2.2.2.2.2.2.2.2.2.2.2.2.2)
            refine ⟨_, rfl, ?_⟩
            have n0_ := Aside0.mk (Kd.R_below (ZR HO_4.out) hb)
            have n1_ := Aside0.mk (Kd.N_below (ZRN HO_12.out) hb)
            have n2_ := Aside0.mk (Kd.V_below (ZRV HLq0_6.out) hb)
            have n3_ := Aside0.mk (Kd.V_below (ZRV HLq0_7.out) hb)
            have nq0_ := ZW BK541 hb
            have nq1_ := ZW BKq0 hb
            have nq2_ := ZW BKq1 hb
            have nq3_ := ZT hb
            clear HO_4
            clear HO_12
            clear HLq0_6
            clear HLq0_7
            clear BK541
            clear BKq0
            clear BKq1
            clear HB
            have HO_4 := n0_
            have HO_12 := n1_
            have HLq0_6 := n2_
            have HLq0_7 := n3_
            have BK541 := nq0_
            have BKq0 := nq1_
            have BKq1 := nq2_
            have HB := nq3_
            clear n0_ n1_ n2_ n3_ nq0_ nq1_ nq2_ nq3_
            (try clear hb)
            (try clear hb2)
            (try clear hk)
            (try clear hi)
            refine hK.out _ _ ⟨(blk_cell BK541.out 0).trans rfl, (blk_cell BK541.out 1).trans rfl, (blk_cell BKq0.out 0).trans rfl, (blk_cell BKq0.out 1).trans rfl, (blk_cell BKq0.out 2).trans rfl, (blk_cell BKq0.out 3).trans rfl, (blk_cell BKq0.out 4).trans rfl, (blk_cell BKq0.out 5).trans rfl, (blk_cell BKq0.out 6).trans rfl, (blk_cell BKq0.out 7).trans rfl, (blk_cell BKq1.out 0).trans rfl, (blk_cell BKq1.out 1).trans rfl, HSq0_, HSq1_⟩ (fun hHeld => ?_)
            clear hK K
            refine ZNO 37 ?_
            refine pure_ (i := 9) (N := some 38) (v := ?_) (a' := ?_) #[true, true, true, true, true, true, true, true, true, true] rfl rfl (any_of HT_.out (by kernel_rfl)) (fun _ _ _ h => h) (Or.inl ⟨by rfl, ?_⟩) ?_ ?_
            rotate_left
            ·intro w'
             go_simp
             with_reducible rfl
            rotate_left
            ·simp only [Act.put, List.setIfInBounds_toArray, List.set_cons_zero, List.set_cons_succ, i64_w, i32_w]
             rfl
            refine done_ (done_of HT_.out (by kernel_rfl)) ?_
            try go_wp2
            go_roundg k1
            case measure => have := HK1.out; omega
            case rel => exact ⟨(wrap64 (x14_1 + 1)), (by first | rfl | (simp; done) | (simp [*]; done)), H', ⟨by have := HK1.out; omega⟩, ⟨ZR (Kd.R_mono HO_4.out (fun _ hk => trivial))⟩, ⟨by (with_reducible repeat (first | apply Kd.N_alloc | apply Kd.N_drewN | apply Kd.N_drew)); exact Kd.N_mono HO_12.out (fun _ hk => ⟨hk.1, hk.2.1⟩)⟩, ⟨ZK BK541.out⟩, ⟨ZB⟩⟩)
          | (
            (have z_ := tag1_; clear z_)
            with_reducible refine (impl_Label_flows.calls t553 t554 ((rd_T35 l0_0 ((rd_T59 t545 x14_1).f1)).f0) ((rd_T35 l0_0 ((rd_T59 t545 x14_1).f1)).f1) false _ A18.out).mono ?_
            rintro e wq5 ⟨rfl, hb⟩
            have HSq0_ := (hb.cell (World.block_lt_of_cell? _ _ (hHeld.2.2.2.2.2.2.2.2.2.2.2.2.1))).trans (hHeld.2.2.2.2.2.2.2.2.2.2.2.2.1)
            have HSq1_ := (hb.cell (World.block_lt_of_cell? _ _ (hHeld.2.2.2.2.2.2.2.2.2.2.2.2.2))).trans (hHeld.2.2.2.2.2.2.2.2.2.2.2.2.2)
            refine ⟨_, rfl, ?_⟩
            have n0_ := Aside0.mk (Kd.R_below (ZR HO_4.out) hb)
            have n1_ := Aside0.mk (Kd.N_below (ZRN HO_12.out) hb)
            have n2_ := Aside0.mk (Kd.V_below (ZRV HLq0_6.out) hb)
            have n3_ := Aside0.mk (Kd.V_below (ZRV HLq0_7.out) hb)
            have nq0_ := ZW BK541 hb
            have nq1_ := ZW BKq0 hb
            have nq2_ := ZW BKq1 hb
            have nq3_ := ZT hb
            clear HO_4
            clear HO_12
            clear HLq0_6
            clear HLq0_7
            clear BK541
            clear BKq0
            clear BKq1
            clear HB
            have HO_4 := n0_
            have HO_12 := n1_
            have HLq0_6 := n2_
            have HLq0_7 := n3_
            have BK541 := nq0_
            have BKq0 := nq1_
            have BKq1 := nq2_
            have HB := nq3_
            clear n0_ n1_ n2_ n3_ nq0_ nq1_ nq2_ nq3_
            (try clear hb)
            (try clear hb2)
            (try clear hk)
            (try clear hi)
            refine hK.out _ _ ⟨(blk_cell BK541.out 0).trans rfl, (blk_cell BK541.out 1).trans rfl, (blk_cell BKq0.out 0).trans rfl, (blk_cell BKq0.out 1).trans rfl, (blk_cell BKq0.out 2).trans rfl, (blk_cell BKq0.out 3).trans rfl, (blk_cell BKq0.out 4).trans rfl, (blk_cell BKq0.out 5).trans rfl, (blk_cell BKq0.out 6).trans rfl, (blk_cell BKq0.out 7).trans rfl, (blk_cell BKq1.out 0).trans rfl, (blk_cell BKq1.out 1).trans rfl, HSq0_, HSq1_⟩ (fun hHeld => ?_)
            clear hK K
            refine ZNO 37 ?_
            refine pure_ (i := 9) (N := some 38) (v := ?_) (a' := ?_) #[true, true, true, true, true, true, true, true, true, true] rfl rfl (any_of HT_.out (by kernel_rfl)) (fun _ _ _ h => h) (Or.inl ⟨by rfl, ?_⟩) ?_ ?_
            rotate_left
            ·intro w'
             go_simp
             with_reducible rfl
            rotate_left
            ·simp only [Act.put, List.setIfInBounds_toArray, List.set_cons_zero, List.set_cons_succ, i64_w, i32_w]
             rfl
            refine done_ (done_of HT_.out (by kernel_rfl)) ?_
            try go_wp2
            go_ret2
            exact ⟨ZE, ZB⟩))
        | (
          (first | (have z_ := tag2_; clear z_) | (have z_ := tag3_; clear z_))
          refine start_ (n := 17) (S := fun w' => w'.cell? ⟨gbq0, 0, none⟩ = some (.int .i64 ((rd_T59 t545 x14_1).f0)) ∧ w'.cell? ⟨gbq0, 1, none⟩ = some (.int .i64 ((rd_T59 t545 x14_1).f1)) ∧ w'.cell? ⟨gbq0, 2, none⟩ = some (.int .i64 ((rd_T59 t545 x14_1).f2.f0)) ∧ w'.cell? ⟨gbq0, 3, none⟩ = some (.int .i64 ((rd_T59 t545 x14_1).f2.f1)) ∧ w'.cell? ⟨gbq0, 4, none⟩ = some (.int .i64 ((rd_T59 t545 x14_1).f2.f2)) ∧ w'.cell? ⟨gbq0, 5, none⟩ = some (.int .i64 ((rd_T59 t545 x14_1).f3)) ∧ w'.cell? ⟨gbq0, 6, none⟩ = some (.slice Aq0_6 ((rd_T59 t545 x14_1).f4).length cq0_6) ∧ w'.cell? ⟨gbq0, 7, none⟩ = some (.slice Aq0_7 ((rd_T59 t545 x14_1).f5).length cq0_7) ∧ w'.cell? ⟨gbq1, 0, none⟩ = some (.int .i64 ((rd_T35 l0_0 ((rd_T59 t545 x14_1).f1)).f0)) ∧ w'.cell? ⟨gbq1, 1, none⟩ = some (.int .i64 ((rd_T35 l0_0 ((rd_T59 t545 x14_1).f1)).f1)) ∧ w'.cell? (adq2.add ((x14_1).toNat * 2)) = some (.int .i64 ((rd_T35 t542 x14_1).f0)) ∧ w'.cell? ⟨(adq2.add ((x14_1).toNat * 2)).block, (adq2.add ((x14_1).toNat * 2)).off + 1, none⟩ = some (.int .i64 ((rd_T35 t542 x14_1).f1))) (ds := []) #[false, false, false, false, false, false, false, false, false, false, false, false, false, false, false, false, false] (by kernel_rfl) rfl rfl ⟨(blk_cell BKq0.out 0).trans rfl, (blk_cell BKq0.out 1).trans rfl, (blk_cell BKq0.out 2).trans rfl, (blk_cell BKq0.out 3).trans rfl, (blk_cell BKq0.out 4).trans rfl, (blk_cell BKq0.out 5).trans rfl, (blk_cell BKq0.out 6).trans rfl, (blk_cell BKq0.out 7).trans rfl, (blk_cell BKq1.out 0).trans rfl, (blk_cell BKq1.out 1).trans rfl, hxq2_0, hxq2_1⟩ (fun hHeld => ?_); refine with_tabW impl_Prog_why.tab11 impl_Prog_why.bits11 (fun HT_ HW_ => ?_)
          generalize wq2.drew = wq3 at HO_4 HO_12 HLq0_6 HLq0_7 BK541 BKq0 BKq1 HB hxq2_0 hxq2_1 hHeld ⊢
          refine pure_ (i := 0) (N := some 42) (v := ?_) (a' := ?_) #[true, false, false, false, false, false, false, false, false, false, false, false, false, false, false, false, false] rfl rfl (any_of HT_.out (by kernel_rfl)) (fun _ _ _ h => h) (Or.inl ⟨by rfl, ?_⟩) ?_ ?_
          rotate_left
          ·intro w'
           go_simp
           with_reducible rfl
          rotate_left
          ·simp only [Act.put, List.setIfInBounds_toArray, List.set_cons_zero, List.set_cons_succ, i64_w, i32_w]
           rfl
          refine pure_ (i := 1) (N := some 43) (v := ?_) (a' := ?_) #[true, true, false, false, false, false, false, false, false, false, false, false, false, false, false, false, false] rfl rfl (any_of HT_.out (by kernel_rfl)) (fun _ _ _ h => h) (Or.inl ⟨by rfl, ?_⟩) ?_ ?_
          rotate_left
          ·intro w'
           go_simp
           with_reducible rfl
          rotate_left
          ·simp only [Act.put, List.setIfInBounds_toArray, List.set_cons_zero, List.set_cons_succ, i64_w, i32_w]
           rfl
          refine pure_ (i := 2) (N := some 44) (v := ?_) (a' := ?_) #[true, true, true, false, false, false, false, false, false, false, false, false, false, false, false, false, false] rfl rfl (any_of HT_.out (by kernel_rfl)) (fun _ _ _ h => h) (Or.inl ⟨by rfl, ?_⟩) ?_ ?_
          rotate_left
          ·intro w'
           go_simp
           with_reducible rfl
          rotate_left
          ·simp only [Act.put, List.setIfInBounds_toArray, List.set_cons_zero, List.set_cons_succ, i64_w, i32_w]
           rfl
          refine pure_ (i := 3) (N := some 45) (v := ?_) (a' := ?_) #[true, true, true, true, false, false, false, false, false, false, false, false, false, false, false, false, false] rfl rfl (any_of HT_.out (by kernel_rfl)) (fun _ _ _ h => h) (Or.inl ⟨by rfl, ?_⟩) ?_ ?_
          rotate_left
          ·intro w'
           go_simp
           with_reducible rfl
          rotate_left
          ·simp only [Act.put, List.setIfInBounds_toArray, List.set_cons_zero, List.set_cons_succ, i64_w, i32_w]
           rfl
          refine pure_ (i := 5) (N := some 47) (v := ?_) (a' := ?_) #[true, true, true, true, false, true, false, false, false, false, false, false, false, false, false, false, false] rfl rfl (any_of HT_.out (by kernel_rfl)) (fun _ _ _ h => h) (Or.inl ⟨by rfl, ?_⟩) ?_ ?_
          rotate_left
          ·intro w'
           go_simp
           with_reducible rfl
          rotate_left
          ·simp only [Act.put, List.setIfInBounds_toArray, List.set_cons_zero, List.set_cons_succ, i64_w, i32_w]
           rfl
          refine take_ (i := 4) (N := some 46) (v := ?_) (a' := ?_) #[true, true, true, true, true, true, false, false, false, false, false, false, false, false, false, false, false] rfl rfl (take_ofW HT_.out HW_.out (by kernel_rfl)) (fun _ _ _ h => h) (Or.inl ⟨by rfl, ?_⟩) hHeld ?_ ?_
          rotate_left
          ·rintro w' ⟨sq0, sq1, sq2, sq3, sq4, sq5, sq6, sq7, sq8, sq9, sq10, sq11⟩
           go_simp
           with_reducible rfl
          rotate_left
          ·simp only [Act.put, List.setIfInBounds_toArray, List.set_cons_zero, List.set_cons_succ, i64_w, i32_w]
           rfl
          refine take_ (i := 6) (N := some 48) (v := ?_) (a' := ?_) #[true, true, true, true, true, true, true, false, false, false, false, false, false, false, false, false, false] rfl rfl (take_ofW HT_.out HW_.out (by kernel_rfl)) (fun _ _ _ h => h) (Or.inl ⟨by rfl, ?_⟩) hHeld ?_ ?_
          rotate_left
          ·rintro w' ⟨sq0, sq1, sq2, sq3, sq4, sq5, sq6, sq7, sq8, sq9, sq10, sq11⟩
           go_simp
           with_reducible rfl
          rotate_left
          ·simp only [Act.put, List.setIfInBounds_toArray, List.set_cons_zero, List.set_cons_succ, i64_w, i32_w]
           rfl
          refine one_ (i := 7) (N := some 49) #[true, true, true, true, true, true, true, true, false, false, false, false, false, false, false, false, false] rfl rfl (one_of HT_.out (by kernel_rfl)) (by decide) (fun K hK => ?_)
          refine goes_ Try.func134 (by kernel_rfl) rfl #[.int .i64 ((rd_T35 t542 x14_1).f0), .int .i64 ((rd_T59 t545 x14_1).f3)] (by rfl) rfl rfl ZG ?_
          with_reducible refine (impl_has.calls ((rd_T35 t542 x14_1).f0) ((rd_T59 t545 x14_1).f3) true _ A50.out).mono ?_
          rintro e w' ⟨rfl, ⟨nd, rfl⟩⟩
          refine ⟨_, rfl, ?_⟩
          refine hK.out _ _ ⟨(blk_cell BKq0.out 0).trans rfl, (blk_cell BKq0.out 1).trans rfl, (blk_cell BKq0.out 2).trans rfl, (blk_cell BKq0.out 3).trans rfl, (blk_cell BKq0.out 4).trans rfl, (blk_cell BKq0.out 5).trans rfl, (blk_cell BKq0.out 6).trans rfl, (blk_cell BKq0.out 7).trans rfl, (blk_cell BKq1.out 0).trans rfl, (blk_cell BKq1.out 1).trans rfl, hHeld.2.2.2.2.2.2.2.2.2.2.1, hHeld.2.2.2.2.2.2.2.2.2.2.2⟩ (fun hHeld => ?_)
          clear hK K
          refine ZNO 49 ?_
          refine pure_ (i := 8) (N := some 50) (v := ?_) (a' := ?_) #[true, true, true, true, true, true, true, true, true, false, false, false, false, false, false, false, false] rfl rfl (any_of HT_.out (by kernel_rfl)) (fun _ _ _ h => h) (Or.inl ⟨by rfl, ?_⟩) ?_ ?_
          rotate_left
          ·intro w'
           go_simp
           with_reducible rfl
          rotate_left
          ·simp only [Act.put, List.setIfInBounds_toArray, List.set_cons_zero, List.set_cons_succ, i64_w, i32_w]
           rfl
          refine pure_ (i := 9) (N := some 51) (v := ?_) (a' := ?_) #[true, true, true, true, true, true, true, true, true, true, false, false, false, false, false, false, false] rfl rfl (any_of HT_.out (by kernel_rfl)) (fun _ _ _ h => h) (Or.inl ⟨by rfl, ?_⟩) ?_ ?_
          rotate_left
          ·intro w'
           go_simp
           with_reducible rfl
          rotate_left
          ·simp only [Act.put, List.setIfInBounds_toArray, List.set_cons_zero, List.set_cons_succ, i64_w, i32_w]
           rfl
          refine pure_ (i := 10) (N := some 52) (v := ?_) (a' := ?_) #[true, true, true, true, true, true, true, true, true, true, true, false, false, false, false, false, false] rfl rfl (any_of HT_.out (by kernel_rfl)) (fun _ _ _ h => h) (Or.inl ⟨by rfl, ?_⟩) ?_ ?_
          rotate_left
          ·intro w'
           go_simp
           with_reducible rfl
          rotate_left
          ·simp only [Act.put, List.setIfInBounds_toArray, List.set_cons_zero, List.set_cons_succ, i64_w, i32_w]
           rfl
          refine pure_ (i := 12) (N := some 54) (v := ?_) (a' := ?_) #[true, true, true, true, true, true, true, true, true, true, true, false, true, false, false, false, false] rfl rfl (any_of HT_.out (by kernel_rfl)) (fun _ _ _ h => h) (Or.inl ⟨by rfl, ?_⟩) ?_ ?_
          rotate_left
          ·intro w'
           go_simp
           with_reducible rfl
          rotate_left
          ·simp only [Act.put, List.setIfInBounds_toArray, List.set_cons_zero, List.set_cons_succ, i64_w, i32_w]
           rfl
          refine take_ (i := 11) (N := some 53) (v := ?_) (a' := ?_) #[true, true, true, true, true, true, true, true, true, true, true, true, true, false, false, false, false] rfl rfl (take_ofW HT_.out HW_.out (by kernel_rfl)) (fun _ _ _ h => h) (Or.inl ⟨by rfl, ?_⟩) hHeld ?_ ?_
          rotate_left
          ·rintro w' ⟨sq0, sq1, sq2, sq3, sq4, sq5, sq6, sq7, sq8, sq9, sq10, sq11⟩
           go_simp
           with_reducible rfl
          rotate_left
          ·simp only [Act.put, List.setIfInBounds_toArray, List.set_cons_zero, List.set_cons_succ, i64_w, i32_w]
           rfl
          refine take_ (i := 13) (N := some 55) (v := ?_) (a' := ?_) #[true, true, true, true, true, true, true, true, true, true, true, true, true, true, false, false, false] rfl rfl (take_ofW HT_.out HW_.out (by kernel_rfl)) (fun _ _ _ h => h) (Or.inl ⟨by rfl, ?_⟩) hHeld ?_ ?_
          rotate_left
          ·rintro w' ⟨sq0, sq1, sq2, sq3, sq4, sq5, sq6, sq7, sq8, sq9, sq10, sq11⟩
           go_simp
           with_reducible rfl
          rotate_left
          ·simp only [Act.put, List.setIfInBounds_toArray, List.set_cons_zero, List.set_cons_succ, i64_w, i32_w]
           rfl
          refine one_ (i := 14) (N := some 56) #[true, true, true, true, true, true, true, true, true, true, true, true, true, true, true, false, false] rfl rfl (one_of HT_.out (by kernel_rfl)) (by decide) (fun K hK => ?_)
          refine goes_ Try.func134 (by kernel_rfl) rfl #[.int .i64 ((rd_T35 l0_0 ((rd_T59 t545 x14_1).f1)).f0), .int .i64 ((rd_T59 t545 x14_1).f3)] (by rfl) rfl rfl ZG ?_
          first
          | (
            (have z_ := tag2_; clear z_)
            with_reducible refine (impl_has.calls ((rd_T35 l0_0 ((rd_T59 t545 x14_1).f1)).f0) ((rd_T59 t545 x14_1).f3) true _ A52.out).mono ?_
            rintro e w' ⟨rfl, ⟨nd, rfl⟩⟩
            refine ⟨_, rfl, ?_⟩
            refine hK.out _ _ ⟨(blk_cell BKq0.out 0).trans rfl, (blk_cell BKq0.out 1).trans rfl, (blk_cell BKq0.out 2).trans rfl, (blk_cell BKq0.out 3).trans rfl, (blk_cell BKq0.out 4).trans rfl, (blk_cell BKq0.out 5).trans rfl, (blk_cell BKq0.out 6).trans rfl, (blk_cell BKq0.out 7).trans rfl, (blk_cell BKq1.out 0).trans rfl, (blk_cell BKq1.out 1).trans rfl, hHeld.2.2.2.2.2.2.2.2.2.2.1, hHeld.2.2.2.2.2.2.2.2.2.2.2⟩ (fun hHeld => ?_)
            clear hK K
            refine ZNO 56 ?_
            refine pure_ (i := 15) (N := some 57) (v := ?_) (a' := ?_) #[true, true, true, true, true, true, true, true, true, true, true, true, true, true, true, true, false] rfl rfl (any_of HT_.out (by kernel_rfl)) (fun _ _ _ h => h) (Or.inl ⟨by rfl, ?_⟩) ?_ ?_
            rotate_left
            ·intro w'
             go_simp
             with_reducible rfl
            rotate_left
            ·simp only [Act.put, List.setIfInBounds_toArray, List.set_cons_zero, List.set_cons_succ, i64_w, i32_w]
             rfl
            refine pure_ (i := 16) (N := some 58) (v := ?_) (a' := ?_) #[true, true, true, true, true, true, true, true, true, true, true, true, true, true, true, true, true] rfl rfl (any_of HT_.out (by kernel_rfl)) (fun _ _ _ h => h) (Or.inl ⟨by rfl, ?_⟩) ?_ ?_
            rotate_left
            ·intro w'
             go_simp
             with_reducible rfl
            rotate_left
            ·simp only [Act.put, List.setIfInBounds_toArray, List.set_cons_zero, List.set_cons_succ, i64_w, i32_w]
             rfl
            refine done_ (done_of HT_.out (by kernel_rfl)) ?_
            try go_wp2
            go_roundg k1
            case measure => have := HK1.out; omega
            case rel => exact ⟨(wrap64 (x14_1 + 1)), (by first | rfl | (simp; done) | (simp [*]; done)), H', ⟨by have := HK1.out; omega⟩, ⟨ZR (Kd.R_mono HO_4.out (fun _ hk => trivial))⟩, ⟨by (with_reducible repeat (first | apply Kd.N_alloc | apply Kd.N_drewN | apply Kd.N_drew)); exact Kd.N_mono HO_12.out (fun _ hk => ⟨hk.1, hk.2.1⟩)⟩, ⟨ZK BK541.out⟩, ⟨ZB⟩⟩)
          | (
            (have z_ := tag3_; clear z_)
            with_reducible refine (impl_has.calls ((rd_T35 l0_0 ((rd_T59 t545 x14_1).f1)).f0) ((rd_T59 t545 x14_1).f3) false _ A52.out).mono ?_
            rintro e w' ⟨rfl, ⟨nd, rfl⟩⟩
            refine ⟨_, rfl, ?_⟩
            refine hK.out _ _ ⟨(blk_cell BKq0.out 0).trans rfl, (blk_cell BKq0.out 1).trans rfl, (blk_cell BKq0.out 2).trans rfl, (blk_cell BKq0.out 3).trans rfl, (blk_cell BKq0.out 4).trans rfl, (blk_cell BKq0.out 5).trans rfl, (blk_cell BKq0.out 6).trans rfl, (blk_cell BKq0.out 7).trans rfl, (blk_cell BKq1.out 0).trans rfl, (blk_cell BKq1.out 1).trans rfl, hHeld.2.2.2.2.2.2.2.2.2.2.1, hHeld.2.2.2.2.2.2.2.2.2.2.2⟩ (fun hHeld => ?_)
            clear hK K
            refine ZNO 56 ?_
            refine pure_ (i := 15) (N := some 57) (v := ?_) (a' := ?_) #[true, true, true, true, true, true, true, true, true, true, true, true, true, true, true, true, false] rfl rfl (any_of HT_.out (by kernel_rfl)) (fun _ _ _ h => h) (Or.inl ⟨by rfl, ?_⟩) ?_ ?_
            rotate_left
            ·intro w'
             go_simp
             with_reducible rfl
            rotate_left
            ·simp only [Act.put, List.setIfInBounds_toArray, List.set_cons_zero, List.set_cons_succ, i64_w, i32_w]
             rfl
            refine pure_ (i := 16) (N := some 58) (v := ?_) (a' := ?_) #[true, true, true, true, true, true, true, true, true, true, true, true, true, true, true, true, true] rfl rfl (any_of HT_.out (by kernel_rfl)) (fun _ _ _ h => h) (Or.inl ⟨by rfl, ?_⟩) ?_ ?_
            rotate_left
            ·intro w'
             go_simp
             with_reducible rfl
            rotate_left
            ·simp only [Act.put, List.setIfInBounds_toArray, List.set_cons_zero, List.set_cons_succ, i64_w, i32_w]
             rfl
            refine done_ (done_of HT_.out (by kernel_rfl)) ?_
            try go_wp2
            go_ret2
            exact ⟨ZE, ZB⟩))
        | (
          (have z_ := tag4_; clear z_)
          refine start_ (n := 17) (S := fun w' => w'.cell? ⟨gbq0, 0, none⟩ = some (.int .i64 ((rd_T59 t545 x14_1).f0)) ∧ w'.cell? ⟨gbq0, 1, none⟩ = some (.int .i64 ((rd_T59 t545 x14_1).f1)) ∧ w'.cell? ⟨gbq0, 2, none⟩ = some (.int .i64 ((rd_T59 t545 x14_1).f2.f0)) ∧ w'.cell? ⟨gbq0, 3, none⟩ = some (.int .i64 ((rd_T59 t545 x14_1).f2.f1)) ∧ w'.cell? ⟨gbq0, 4, none⟩ = some (.int .i64 ((rd_T59 t545 x14_1).f2.f2)) ∧ w'.cell? ⟨gbq0, 5, none⟩ = some (.int .i64 ((rd_T59 t545 x14_1).f3)) ∧ w'.cell? ⟨gbq0, 6, none⟩ = some (.slice Aq0_6 ((rd_T59 t545 x14_1).f4).length cq0_6) ∧ w'.cell? ⟨gbq0, 7, none⟩ = some (.slice Aq0_7 ((rd_T59 t545 x14_1).f5).length cq0_7) ∧ w'.cell? (adq2.add ((x14_1).toNat * 2)) = some (.int .i64 ((rd_T35 t542 x14_1).f0)) ∧ w'.cell? ⟨(adq2.add ((x14_1).toNat * 2)).block, (adq2.add ((x14_1).toNat * 2)).off + 1, none⟩ = some (.int .i64 ((rd_T35 t542 x14_1).f1))) (ds := []) #[false, false, false, false, false, false, false, false, false, false, false, false, false, false, false, false, false] (by kernel_rfl) rfl rfl ⟨(blk_cell BKq0.out 0).trans rfl, (blk_cell BKq0.out 1).trans rfl, (blk_cell BKq0.out 2).trans rfl, (blk_cell BKq0.out 3).trans rfl, (blk_cell BKq0.out 4).trans rfl, (blk_cell BKq0.out 5).trans rfl, (blk_cell BKq0.out 6).trans rfl, (blk_cell BKq0.out 7).trans rfl, hxq2_0, hxq2_1⟩ (fun hHeld => ?_); refine with_tabW impl_Prog_why.tab11 impl_Prog_why.bits11 (fun HT_ HW_ => ?_)
          generalize wq2.drew = wq3 at HO_4 HO_12 HLq0_6 HLq0_7 BK541 BKq0 BKq1 HB hxq2_0 hxq2_1 hHeld ⊢
          refine pure_ (i := 0) (N := some 42) (v := ?_) (a' := ?_) #[true, false, false, false, false, false, false, false, false, false, false, false, false, false, false, false, false] rfl rfl (any_of HT_.out (by kernel_rfl)) (fun _ _ _ h => h) (Or.inl ⟨by rfl, ?_⟩) ?_ ?_
          rotate_left
          ·intro w'
           go_simp
           with_reducible rfl
          rotate_left
          ·simp only [Act.put, List.setIfInBounds_toArray, List.set_cons_zero, List.set_cons_succ, i64_w, i32_w]
           rfl
          refine pure_ (i := 1) (N := some 43) (v := ?_) (a' := ?_) #[true, true, false, false, false, false, false, false, false, false, false, false, false, false, false, false, false] rfl rfl (any_of HT_.out (by kernel_rfl)) (fun _ _ _ h => h) (Or.inl ⟨by rfl, ?_⟩) ?_ ?_
          rotate_left
          ·intro w'
           go_simp
           with_reducible rfl
          rotate_left
          ·simp only [Act.put, List.setIfInBounds_toArray, List.set_cons_zero, List.set_cons_succ, i64_w, i32_w]
           rfl
          refine pure_ (i := 2) (N := some 44) (v := ?_) (a' := ?_) #[true, true, true, false, false, false, false, false, false, false, false, false, false, false, false, false, false] rfl rfl (any_of HT_.out (by kernel_rfl)) (fun _ _ _ h => h) (Or.inl ⟨by rfl, ?_⟩) ?_ ?_
          rotate_left
          ·intro w'
           go_simp
           with_reducible rfl
          rotate_left
          ·simp only [Act.put, List.setIfInBounds_toArray, List.set_cons_zero, List.set_cons_succ, i64_w, i32_w]
           rfl
          refine pure_ (i := 3) (N := some 45) (v := ?_) (a' := ?_) #[true, true, true, true, false, false, false, false, false, false, false, false, false, false, false, false, false] rfl rfl (any_of HT_.out (by kernel_rfl)) (fun _ _ _ h => h) (Or.inl ⟨by rfl, ?_⟩) ?_ ?_
          rotate_left
          ·intro w'
           go_simp
           with_reducible rfl
          rotate_left
          ·simp only [Act.put, List.setIfInBounds_toArray, List.set_cons_zero, List.set_cons_succ, i64_w, i32_w]
           rfl
          refine pure_ (i := 5) (N := some 47) (v := ?_) (a' := ?_) #[true, true, true, true, false, true, false, false, false, false, false, false, false, false, false, false, false] rfl rfl (any_of HT_.out (by kernel_rfl)) (fun _ _ _ h => h) (Or.inl ⟨by rfl, ?_⟩) ?_ ?_
          rotate_left
          ·intro w'
           go_simp
           with_reducible rfl
          rotate_left
          ·simp only [Act.put, List.setIfInBounds_toArray, List.set_cons_zero, List.set_cons_succ, i64_w, i32_w]
           rfl
          refine take_ (i := 4) (N := some 46) (v := ?_) (a' := ?_) #[true, true, true, true, true, true, false, false, false, false, false, false, false, false, false, false, false] rfl rfl (take_ofW HT_.out HW_.out (by kernel_rfl)) (fun _ _ _ h => h) (Or.inl ⟨by rfl, ?_⟩) hHeld ?_ ?_
          rotate_left
          ·rintro w' ⟨sq0, sq1, sq2, sq3, sq4, sq5, sq6, sq7, sq8, sq9⟩
           go_simp
           with_reducible rfl
          rotate_left
          ·simp only [Act.put, List.setIfInBounds_toArray, List.set_cons_zero, List.set_cons_succ, i64_w, i32_w]
           rfl
          refine take_ (i := 6) (N := some 48) (v := ?_) (a' := ?_) #[true, true, true, true, true, true, true, false, false, false, false, false, false, false, false, false, false] rfl rfl (take_ofW HT_.out HW_.out (by kernel_rfl)) (fun _ _ _ h => h) (Or.inl ⟨by rfl, ?_⟩) hHeld ?_ ?_
          rotate_left
          ·rintro w' ⟨sq0, sq1, sq2, sq3, sq4, sq5, sq6, sq7, sq8, sq9⟩
           go_simp
           with_reducible rfl
          rotate_left
          ·simp only [Act.put, List.setIfInBounds_toArray, List.set_cons_zero, List.set_cons_succ, i64_w, i32_w]
           rfl
          refine one_ (i := 7) (N := some 49) #[true, true, true, true, true, true, true, true, false, false, false, false, false, false, false, false, false] rfl rfl (one_of HT_.out (by kernel_rfl)) (by decide) (fun K hK => ?_)
          refine goes_ Try.func134 (by kernel_rfl) rfl #[.int .i64 ((rd_T35 t542 x14_1).f0), .int .i64 ((rd_T59 t545 x14_1).f3)] (by rfl) rfl rfl ZG ?_
          with_reducible refine (impl_has.calls ((rd_T35 t542 x14_1).f0) ((rd_T59 t545 x14_1).f3) false _ A50.out).mono ?_
          rintro e w' ⟨rfl, ⟨nd, rfl⟩⟩
          refine ⟨_, rfl, ?_⟩
          refine hK.out _ _ ⟨(blk_cell BKq0.out 0).trans rfl, (blk_cell BKq0.out 1).trans rfl, (blk_cell BKq0.out 2).trans rfl, (blk_cell BKq0.out 3).trans rfl, (blk_cell BKq0.out 4).trans rfl, (blk_cell BKq0.out 5).trans rfl, (blk_cell BKq0.out 6).trans rfl, (blk_cell BKq0.out 7).trans rfl, hHeld.2.2.2.2.2.2.2.2.1, hHeld.2.2.2.2.2.2.2.2.2⟩ (fun hHeld => ?_)
          clear hK K
          refine ZNO 49 ?_
          refine pure_ (i := 8) (N := some 50) (v := ?_) (a' := ?_) #[true, true, true, true, true, true, true, true, true, false, false, false, false, false, false, false, false] rfl rfl (any_of HT_.out (by kernel_rfl)) (fun _ _ _ h => h) (Or.inl ⟨by rfl, ?_⟩) ?_ ?_
          rotate_left
          ·intro w'
           go_simp
           with_reducible rfl
          rotate_left
          ·simp only [Act.put, List.setIfInBounds_toArray, List.set_cons_zero, List.set_cons_succ, i64_w, i32_w]
           rfl
          refine pure_ (i := 9) (N := some 51) (v := ?_) (a' := ?_) #[true, true, true, true, true, true, true, true, true, true, false, false, false, false, false, false, false] rfl rfl (any_of HT_.out (by kernel_rfl)) (fun _ _ _ h => h) (Or.inl ⟨by rfl, ?_⟩) ?_ ?_
          rotate_left
          ·intro w'
           go_simp
           with_reducible rfl
          rotate_left
          ·simp only [Act.put, List.setIfInBounds_toArray, List.set_cons_zero, List.set_cons_succ, i64_w, i32_w]
           rfl
          refine pure_ (i := 10) (N := some 52) (v := undef) (a' := ?_) #[true, true, true, true, true, true, true, true, true, true, true, false, false, false, false, false, false] rfl rfl (any_of HT_.out (by kernel_rfl)) (fun _ _ _ h => h) (Or.inr ⟨by rfl, rfl⟩) ?_ ?_
          rotate_left
          ·simp only [Act.put, List.setIfInBounds_toArray, List.set_cons_zero, List.set_cons_succ, i64_w, i32_w]
           rfl
          refine pure_ (i := 11) (N := some 53) (v := undef) (a' := ?_) #[true, true, true, true, true, true, true, true, true, true, true, true, false, false, false, false, false] rfl rfl (any_of HT_.out (by kernel_rfl)) (fun _ _ _ h => h) (Or.inr ⟨by rfl, rfl⟩) ?_ ?_
          rotate_left
          ·simp only [Act.put, List.setIfInBounds_toArray, List.set_cons_zero, List.set_cons_succ, i64_w, i32_w]
           rfl
          refine pure_ (i := 12) (N := some 54) (v := undef) (a' := ?_) #[true, true, true, true, true, true, true, true, true, true, true, true, true, false, false, false, false] rfl rfl (any_of HT_.out (by kernel_rfl)) (fun _ _ _ h => h) (Or.inr ⟨by rfl, rfl⟩) ?_ ?_
          rotate_left
          ·simp only [Act.put, List.setIfInBounds_toArray, List.set_cons_zero, List.set_cons_succ, i64_w, i32_w]
           rfl
          refine pure_ (i := 13) (N := some 55) (v := undef) (a' := ?_) #[true, true, true, true, true, true, true, true, true, true, true, true, true, true, false, false, false] rfl rfl (any_of HT_.out (by kernel_rfl)) (fun _ _ _ h => h) (Or.inr ⟨by rfl, rfl⟩) ?_ ?_
          rotate_left
          ·simp only [Act.put, List.setIfInBounds_toArray, List.set_cons_zero, List.set_cons_succ, i64_w, i32_w]
           rfl
          refine pure_ (i := 14) (N := some 56) (v := undef) (a' := ?_) #[true, true, true, true, true, true, true, true, true, true, true, true, true, true, true, false, false] rfl rfl (any_of HT_.out (by kernel_rfl)) (fun _ _ _ h => h) (Or.inr ⟨by rfl, rfl⟩) ?_ ?_
          rotate_left
          ·simp only [Act.put, List.setIfInBounds_toArray, List.set_cons_zero, List.set_cons_succ, i64_w, i32_w]
           rfl
          refine pure_ (i := 15) (N := some 57) (v := undef) (a' := ?_) #[true, true, true, true, true, true, true, true, true, true, true, true, true, true, true, true, false] rfl rfl (any_of HT_.out (by kernel_rfl)) (fun _ _ _ h => h) (Or.inr ⟨by rfl, rfl⟩) ?_ ?_
          rotate_left
          ·simp only [Act.put, List.setIfInBounds_toArray, List.set_cons_zero, List.set_cons_succ, i64_w, i32_w]
           rfl
          refine pure_ (i := 16) (N := some 58) (v := ?_) (a' := ?_) #[true, true, true, true, true, true, true, true, true, true, true, true, true, true, true, true, true] rfl rfl (any_of HT_.out (by kernel_rfl)) (fun _ _ _ h => h) (Or.inl ⟨by rfl, ?_⟩) ?_ ?_
          rotate_left
          ·intro w'
           go_simp
           with_reducible rfl
          rotate_left
          ·simp only [Act.put, List.setIfInBounds_toArray, List.set_cons_zero, List.set_cons_succ, i64_w, i32_w]
           rfl
          refine done_ (done_of HT_.out (by kernel_rfl)) ?_
          try go_wp2
          go_ret2
          exact ⟨ZE, ZB⟩))
      | (
        (have z_ := tag5_; clear z_)
        go_wp2_with (first | ((with_reducible refine gate_dst (N := 6) rfl ?_); refine ZX (N := 6) (cs := #[.int .i64 0, .int .i64 0, .int .i64 0, .int .i64 0, .int .i64 0, .int .i64 0, .slice none 0 0, .slice none 0 0]) (t := 59) ?_; intro gbq0 hg wq0 hbox hb; have n0_ := Aside0.mk (Kd.R_below (ZR HO_4.out) hb); have n1_ := Aside0.mk (Kd.N_below (Kd.N_elderB (ZRN HO_12.out) gbq0 (Nat.le_of_eq hg.symm)) hb); have n2_ := Aside0.mk (Kd.V_below (Kd.V_elderB (ZRV HLq0_6.out) gbq0 (Nat.le_of_eq hg.symm)) hb); have n3_ := Aside0.mk (Kd.V_below (Kd.V_elderB (ZRV HLq0_7.out) gbq0 (Nat.le_of_eq hg.symm)) hb); have nq0_ := ZW BK541 hb; have nq1_ := Aside0.mk (Kd.C_below (ZQ HRq0_6.out) hb); have nq2_ := Aside0.mk (Kd.C_below (ZQ HRq0_7.out) hb); have nq3_ := ZT hb; have nq4_ := Aside0.mk (hbox); have nq5_ : Aside0 (w.heap.size ≤ gbq0) := ZS hg; have nq6_ : Aside0 (w.heap.size ≤ gbq0) := ZS hg; have nq7_ : Aside0 (gb541 ≠ gbq0) := ZN hg BK541; have nq8_ : Aside0 (gbq0 ≠ gb541) := ZM hg BK541; clear HO_4; clear HO_12; clear HLq0_6; clear HLq0_7; clear BK541; clear HRq0_6; clear HRq0_7; clear HB; have HO_4 := n0_; have HO_12 := n1_; have HLq0_6 := n2_; have HLq0_7 := n3_; have BK541 := nq0_; have HRq0_6 := nq1_; have HRq0_7 := nq2_; have HB := nq3_; have BKq0 := nq4_; have GWq0 := nq5_; have GEq0 := nq6_; have NBq0_549 := nq7_; have NBq1_541 := nq8_; clear n0_ n1_ n2_ n3_ nq0_ nq1_ nq2_ nq3_ nq4_ nq5_ nq6_ nq7_ nq8_; clear hb hbox hg; have hnbq0 := NBq1_541.out; have hncq0 := NBq0_549.out; obtain ⟨hczq0_0, hczq0_1, hczq0_2, hczq0_3, hczq0_4, hczq0_5, hczq0_6, hczq0_7⟩ := ZC8 wq0 BKq0; obtain ⟨hfzq0_0, hfzq0_1, hfzq0_2, hfzq0_3, hfzq0_4, hfzq0_5, hfzq0_6, hfzq0_7⟩ := ZF8 BKq0; obtain ⟨hczq1_0, hczq1_1⟩ := ZC2 wq0 BK541; obtain ⟨hfzq1_0, hfzq1_1⟩ := ZF2 BK541; have pq1 : 0 ≤ (((rd_T59 t545 x14_1).f1) : Int) := ZD; have qq1 : ((rd_T59 t545 x14_1).f1) < (l0_0.length : Int) := ZD; obtain ⟨adq1, eq1, hxq1_0, hxq1_1⟩ := at_T35 HR0_0.out ((rd_T59 t545 x14_1).f1) pq1 qq1; cases eq1; have hnq0_0 : adq1.block ≠ gbq0 := ZO hxq1_0 GWq0; have hnq0_1 : adq1.block ≠ gbq0 := ZO hxq1_0 GWq0; have hnq0_2 : adq1.block ≠ gbq0 := ZO hxq1_0 GWq0; have hnq0_3 : adq1.block ≠ gbq0 := ZO hxq1_0 GWq0; have hnq0_4 : adq1.block ≠ gbq0 := ZO hxq1_0 GWq0; have hnq0_5 : adq1.block ≠ gbq0 := ZO hxq1_0 GWq0; have hnq0_6 : adq1.block ≠ gbq0 := ZO hxq1_0 GWq0; have hnq0_7 : adq1.block ≠ gbq0 := ZO hxq1_0 GWq0; replace hxq1_0 := (HB.out.cell (World.block_lt_of_cell? w _ hxq1_0)).trans hxq1_0; replace hxq1_1 := (HB.out.cell (World.block_lt_of_cell? w _ hxq1_1)).trans hxq1_1; replace hxq1_0 := (cell_far (p := ⟨gbq0, 0, none⟩) (ZY hnq0_0) (.int .i64 ((rd_T59 t545 x14_1).f0))).trans hxq1_0; replace hxq1_1 := (cell_far (p := ⟨gbq0, 0, none⟩) (ZY hnq0_0) (.int .i64 ((rd_T59 t545 x14_1).f0))).trans hxq1_1; replace hxq1_0 := (cell_far (p := ⟨gbq0, 1, none⟩) (ZY hnq0_1) (.int .i64 ((rd_T59 t545 x14_1).f1))).trans hxq1_0; replace hxq1_1 := (cell_far (p := ⟨gbq0, 1, none⟩) (ZY hnq0_1) (.int .i64 ((rd_T59 t545 x14_1).f1))).trans hxq1_1; replace hxq1_0 := (cell_far (p := ⟨gbq0, 2, none⟩) (ZY hnq0_2) (.int .i64 ((rd_T59 t545 x14_1).f2.f0))).trans hxq1_0; replace hxq1_1 := (cell_far (p := ⟨gbq0, 2, none⟩) (ZY hnq0_2) (.int .i64 ((rd_T59 t545 x14_1).f2.f0))).trans hxq1_1; replace hxq1_0 := (cell_far (p := ⟨gbq0, 3, none⟩) (ZY hnq0_3) (.int .i64 ((rd_T59 t545 x14_1).f2.f1))).trans hxq1_0; replace hxq1_1 := (cell_far (p := ⟨gbq0, 3, none⟩) (ZY hnq0_3) (.int .i64 ((rd_T59 t545 x14_1).f2.f1))).trans hxq1_1; replace hxq1_0 := (cell_far (p := ⟨gbq0, 4, none⟩) (ZY hnq0_4) (.int .i64 ((rd_T59 t545 x14_1).f2.f2))).trans hxq1_0; replace hxq1_1 := (cell_far (p := ⟨gbq0, 4, none⟩) (ZY hnq0_4) (.int .i64 ((rd_T59 t545 x14_1).f2.f2))).trans hxq1_1; replace hxq1_0 := (cell_far (p := ⟨gbq0, 5, none⟩) (ZY hnq0_5) (.int .i64 ((rd_T59 t545 x14_1).f3))).trans hxq1_0; replace hxq1_1 := (cell_far (p := ⟨gbq0, 5, none⟩) (ZY hnq0_5) (.int .i64 ((rd_T59 t545 x14_1).f3))).trans hxq1_1; replace hxq1_0 := (cell_far (p := ⟨gbq0, 6, none⟩) (ZY hnq0_6) (.slice Aq0_6 ((rd_T59 t545 x14_1).f4).length cq0_6)).trans hxq1_0; replace hxq1_1 := (cell_far (p := ⟨gbq0, 6, none⟩) (ZY hnq0_6) (.slice Aq0_6 ((rd_T59 t545 x14_1).f4).length cq0_6)).trans hxq1_1; replace hxq1_0 := (cell_far (p := ⟨gbq0, 7, none⟩) (ZY hnq0_7) (.slice Aq0_7 ((rd_T59 t545 x14_1).f5).length cq0_7)).trans hxq1_0; replace hxq1_1 := (cell_far (p := ⟨gbq0, 7, none⟩) (ZY hnq0_7) (.slice Aq0_7 ((rd_T59 t545 x14_1).f5).length cq0_7)).trans hxq1_1; clear hnq0_0; clear hnq0_1; clear hnq0_2; clear hnq0_3; clear hnq0_4; clear hnq0_5; clear hnq0_6; clear hnq0_7; replace pq1 := eq_true pq1; replace qq1 := eq_true qq1) | ((with_reducible refine gate_dst (N := 7) rfl ?_); refine ZX (N := 7) (cs := #[.int .i64 0, .int .i64 0]) (t := 35) ?_; intro gbq1 hg wq1 hbox hb; have n0_ := Aside0.mk (Kd.R_below (Kd.R_elderB (ZR ((Kd.R_mono (Kd.R_far (p := ⟨gbq0, 7, none⟩) (Kd.R_far (p := ⟨gbq0, 6, none⟩) (Kd.R_far (p := ⟨gbq0, 5, none⟩) (Kd.R_far (p := ⟨gbq0, 4, none⟩) (Kd.R_far (p := ⟨gbq0, 3, none⟩) (Kd.R_far (p := ⟨gbq0, 2, none⟩) (Kd.R_far (p := ⟨gbq0, 1, none⟩) (Kd.R_far (p := ⟨gbq0, 0, none⟩) (Kd.R_types HO_4.out BKq0.out (by decide)) (fun _ hk => hk.2) (.int .i64 ((rd_T59 t545 x14_1).f0))) (fun _ hk => hk.2) (.int .i64 ((rd_T59 t545 x14_1).f1))) (fun _ hk => hk.2) (.int .i64 ((rd_T59 t545 x14_1).f2.f0))) (fun _ hk => hk.2) (.int .i64 ((rd_T59 t545 x14_1).f2.f1))) (fun _ hk => hk.2) (.int .i64 ((rd_T59 t545 x14_1).f2.f2))) (fun _ hk => hk.2) (.int .i64 ((rd_T59 t545 x14_1).f3))) (fun _ hk => hk.2) (.slice Aq0_6 ((rd_T59 t545 x14_1).f4).length cq0_6)) (fun _ hk => hk.2) (.slice Aq0_7 ((rd_T59 t545 x14_1).f5).length cq0_7)) (fun _ h_ => h_.1)))) gbq1 (Nat.le_of_eq hg.symm)) hb); have n1_ := Aside0.mk (Kd.N_below (Kd.N_elderB (by (with_reducible repeat (first | apply Kd.N_alloc | apply Kd.N_drewN | apply Kd.N_drew)); exact (Kd.N_mono (Kd.N_far (p := ⟨gbq0, 7, none⟩) (Kd.N_far (p := ⟨gbq0, 6, none⟩) (Kd.N_far (p := ⟨gbq0, 5, none⟩) (Kd.N_far (p := ⟨gbq0, 4, none⟩) (Kd.N_far (p := ⟨gbq0, 3, none⟩) (Kd.N_far (p := ⟨gbq0, 2, none⟩) (Kd.N_far (p := ⟨gbq0, 1, none⟩) (Kd.N_far (p := ⟨gbq0, 0, none⟩) (Kd.N_mono HO_12.out (fun k_ hk => (⟨hk, hk.2⟩ : _ ∧ k_ ≠ gbq0))) (fun _ hk => hk.2) (.int .i64 ((rd_T59 t545 x14_1).f0))) (fun _ hk => hk.2) (.int .i64 ((rd_T59 t545 x14_1).f1))) (fun _ hk => hk.2) (.int .i64 ((rd_T59 t545 x14_1).f2.f0))) (fun _ hk => hk.2) (.int .i64 ((rd_T59 t545 x14_1).f2.f1))) (fun _ hk => hk.2) (.int .i64 ((rd_T59 t545 x14_1).f2.f2))) (fun _ hk => hk.2) (.int .i64 ((rd_T59 t545 x14_1).f3))) (fun _ hk => hk.2) (.slice Aq0_6 ((rd_T59 t545 x14_1).f4).length cq0_6)) (fun _ hk => hk.2) (.slice Aq0_7 ((rd_T59 t545 x14_1).f5).length cq0_7)) (fun _ h_ => h_.1))) gbq1 (Nat.le_of_eq hg.symm)) hb); have n2_ := Aside0.mk (Kd.V_below (Kd.V_elderB (by (with_reducible repeat (first | apply Kd.V_alloc | apply Kd.V_drewN | apply Kd.V_drew)); exact (Kd.V_mono (Kd.V_far (p := ⟨gbq0, 7, none⟩) (Kd.V_far (p := ⟨gbq0, 6, none⟩) (Kd.V_far (p := ⟨gbq0, 5, none⟩) (Kd.V_far (p := ⟨gbq0, 4, none⟩) (Kd.V_far (p := ⟨gbq0, 3, none⟩) (Kd.V_far (p := ⟨gbq0, 2, none⟩) (Kd.V_far (p := ⟨gbq0, 1, none⟩) (Kd.V_far (p := ⟨gbq0, 0, none⟩) (Kd.V_mono HLq0_6.out (fun k_ hk => (⟨hk, hk.2⟩ : _ ∧ k_ ≠ gbq0))) (fun _ hk => hk.2) (.int .i64 ((rd_T59 t545 x14_1).f0))) (fun _ hk => hk.2) (.int .i64 ((rd_T59 t545 x14_1).f1))) (fun _ hk => hk.2) (.int .i64 ((rd_T59 t545 x14_1).f2.f0))) (fun _ hk => hk.2) (.int .i64 ((rd_T59 t545 x14_1).f2.f1))) (fun _ hk => hk.2) (.int .i64 ((rd_T59 t545 x14_1).f2.f2))) (fun _ hk => hk.2) (.int .i64 ((rd_T59 t545 x14_1).f3))) (fun _ hk => hk.2) (.slice Aq0_6 ((rd_T59 t545 x14_1).f4).length cq0_6)) (fun _ hk => hk.2) (.slice Aq0_7 ((rd_T59 t545 x14_1).f5).length cq0_7)) (fun _ h_ => h_.1))) gbq1 (Nat.le_of_eq hg.symm)) hb); have n3_ := Aside0.mk (Kd.V_below (Kd.V_elderB (by (with_reducible repeat (first | apply Kd.V_alloc | apply Kd.V_drewN | apply Kd.V_drew)); exact (Kd.V_mono (Kd.V_far (p := ⟨gbq0, 7, none⟩) (Kd.V_far (p := ⟨gbq0, 6, none⟩) (Kd.V_far (p := ⟨gbq0, 5, none⟩) (Kd.V_far (p := ⟨gbq0, 4, none⟩) (Kd.V_far (p := ⟨gbq0, 3, none⟩) (Kd.V_far (p := ⟨gbq0, 2, none⟩) (Kd.V_far (p := ⟨gbq0, 1, none⟩) (Kd.V_far (p := ⟨gbq0, 0, none⟩) (Kd.V_mono HLq0_7.out (fun k_ hk => (⟨hk, hk.2⟩ : _ ∧ k_ ≠ gbq0))) (fun _ hk => hk.2) (.int .i64 ((rd_T59 t545 x14_1).f0))) (fun _ hk => hk.2) (.int .i64 ((rd_T59 t545 x14_1).f1))) (fun _ hk => hk.2) (.int .i64 ((rd_T59 t545 x14_1).f2.f0))) (fun _ hk => hk.2) (.int .i64 ((rd_T59 t545 x14_1).f2.f1))) (fun _ hk => hk.2) (.int .i64 ((rd_T59 t545 x14_1).f2.f2))) (fun _ hk => hk.2) (.int .i64 ((rd_T59 t545 x14_1).f3))) (fun _ hk => hk.2) (.slice Aq0_6 ((rd_T59 t545 x14_1).f4).length cq0_6)) (fun _ hk => hk.2) (.slice Aq0_7 ((rd_T59 t545 x14_1).f5).length cq0_7)) (fun _ h_ => h_.1))) gbq1 (Nat.le_of_eq hg.symm)) hb); have nq0_ := ZV #[.slice (some adq1) l0_0.length c0_0, .slice A0_1 l0_1.length c0_1] BK541 hb; have nq1_ := Aside0.mk (Kd.C_below ((Kd.V_reads' (by (with_reducible repeat (first | apply Kd.V_alloc | apply Kd.V_drewN | apply Kd.V_drew)); exact (Kd.V_mono (Kd.V_far (p := ⟨gbq0, 7, none⟩) (Kd.V_far (p := ⟨gbq0, 6, none⟩) (Kd.V_far (p := ⟨gbq0, 5, none⟩) (Kd.V_far (p := ⟨gbq0, 4, none⟩) (Kd.V_far (p := ⟨gbq0, 3, none⟩) (Kd.V_far (p := ⟨gbq0, 2, none⟩) (Kd.V_far (p := ⟨gbq0, 1, none⟩) (Kd.V_far (p := ⟨gbq0, 0, none⟩) (Kd.V_mono HLq0_6.out (fun k_ hk => (⟨hk, hk.2⟩ : _ ∧ k_ ≠ gbq0))) (fun _ hk => hk.2) (.int .i64 ((rd_T59 t545 x14_1).f0))) (fun _ hk => hk.2) (.int .i64 ((rd_T59 t545 x14_1).f1))) (fun _ hk => hk.2) (.int .i64 ((rd_T59 t545 x14_1).f2.f0))) (fun _ hk => hk.2) (.int .i64 ((rd_T59 t545 x14_1).f2.f1))) (fun _ hk => hk.2) (.int .i64 ((rd_T59 t545 x14_1).f2.f2))) (fun _ hk => hk.2) (.int .i64 ((rd_T59 t545 x14_1).f3))) (fun _ hk => hk.2) (.slice Aq0_6 ((rd_T59 t545 x14_1).f4).length cq0_6)) (fun _ hk => hk.2) (.slice Aq0_7 ((rd_T59 t545 x14_1).f5).length cq0_7)) (fun _ h_ => h_.1)))).2.2) hb); have nq2_ := Aside0.mk (Kd.C_below ((Kd.V_reads' (by (with_reducible repeat (first | apply Kd.V_alloc | apply Kd.V_drewN | apply Kd.V_drew)); exact (Kd.V_mono (Kd.V_far (p := ⟨gbq0, 7, none⟩) (Kd.V_far (p := ⟨gbq0, 6, none⟩) (Kd.V_far (p := ⟨gbq0, 5, none⟩) (Kd.V_far (p := ⟨gbq0, 4, none⟩) (Kd.V_far (p := ⟨gbq0, 3, none⟩) (Kd.V_far (p := ⟨gbq0, 2, none⟩) (Kd.V_far (p := ⟨gbq0, 1, none⟩) (Kd.V_far (p := ⟨gbq0, 0, none⟩) (Kd.V_mono HLq0_7.out (fun k_ hk => (⟨hk, hk.2⟩ : _ ∧ k_ ≠ gbq0))) (fun _ hk => hk.2) (.int .i64 ((rd_T59 t545 x14_1).f0))) (fun _ hk => hk.2) (.int .i64 ((rd_T59 t545 x14_1).f1))) (fun _ hk => hk.2) (.int .i64 ((rd_T59 t545 x14_1).f2.f0))) (fun _ hk => hk.2) (.int .i64 ((rd_T59 t545 x14_1).f2.f1))) (fun _ hk => hk.2) (.int .i64 ((rd_T59 t545 x14_1).f2.f2))) (fun _ hk => hk.2) (.int .i64 ((rd_T59 t545 x14_1).f3))) (fun _ hk => hk.2) (.slice Aq0_6 ((rd_T59 t545 x14_1).f4).length cq0_6)) (fun _ hk => hk.2) (.slice Aq0_7 ((rd_T59 t545 x14_1).f5).length cq0_7)) (fun _ h_ => h_.1)))).2.2) hb); have nq3_ := ZV #[.int .i64 ((rd_T59 t545 x14_1).f0), .int .i64 ((rd_T59 t545 x14_1).f1), .int .i64 ((rd_T59 t545 x14_1).f2.f0), .int .i64 ((rd_T59 t545 x14_1).f2.f1), .int .i64 ((rd_T59 t545 x14_1).f2.f2), .int .i64 ((rd_T59 t545 x14_1).f3), .slice Aq0_6 ((rd_T59 t545 x14_1).f4).length cq0_6, .slice Aq0_7 ((rd_T59 t545 x14_1).f5).length cq0_7] BKq0 hb; have nq4_ := ZT hb; have nq5_ := Aside0.mk (hbox); have nq6_ : Aside0 (w.heap.size ≤ gbq1) := ZS hg; have nq7_ : Aside0 (w.heap.size ≤ gbq1) := ZS hg; have nq8_ := Aside0.mk ((by rw [hg]; exact Nat.ne_of_lt (blk_lt (g := gb541) (o := .cells #[.slice (some adq1) l0_0.length c0_0, .slice A0_1 l0_1.length c0_1] 26 (0, 0)) (ZZ BK541.out)) : gb541 ≠ gbq1)); have nq9_ := Aside0.mk ((by rw [hg]; exact Nat.ne_of_gt (blk_lt (g := gb541) (o := .cells #[.slice (some adq1) l0_0.length c0_0, .slice A0_1 l0_1.length c0_1] 26 (0, 0)) (ZZ BK541.out)) : gbq1 ≠ gb541)); have nq10_ := Aside0.mk ((by rw [hg]; exact Nat.ne_of_lt (blk_lt (g := gbq0) (o := .cells #[.int .i64 ((rd_T59 t545 x14_1).f0), .int .i64 ((rd_T59 t545 x14_1).f1), .int .i64 ((rd_T59 t545 x14_1).f2.f0), .int .i64 ((rd_T59 t545 x14_1).f2.f1), .int .i64 ((rd_T59 t545 x14_1).f2.f2), .int .i64 ((rd_T59 t545 x14_1).f3), .slice Aq0_6 ((rd_T59 t545 x14_1).f4).length cq0_6, .slice Aq0_7 ((rd_T59 t545 x14_1).f5).length cq0_7] 59 (0, 0)) (ZZ BKq0.out)) : gbq0 ≠ gbq1)); have nq11_ := Aside0.mk ((by rw [hg]; exact Nat.ne_of_gt (blk_lt (g := gbq0) (o := .cells #[.int .i64 ((rd_T59 t545 x14_1).f0), .int .i64 ((rd_T59 t545 x14_1).f1), .int .i64 ((rd_T59 t545 x14_1).f2.f0), .int .i64 ((rd_T59 t545 x14_1).f2.f1), .int .i64 ((rd_T59 t545 x14_1).f2.f2), .int .i64 ((rd_T59 t545 x14_1).f3), .slice Aq0_6 ((rd_T59 t545 x14_1).f4).length cq0_6, .slice Aq0_7 ((rd_T59 t545 x14_1).f5).length cq0_7] 59 (0, 0)) (ZZ BKq0.out)) : gbq1 ≠ gbq0)); clear HO_4; clear HO_12; clear HLq0_6; clear HLq0_7; clear BK541; clear HRq0_6; clear HRq0_7; clear BKq0; clear HB; have HO_4 := n0_; have HO_12 := n1_; have HLq0_6 := n2_; have HLq0_7 := n3_; have BK541 := nq0_; have HRq0_6 := nq1_; have HRq0_7 := nq2_; have BKq0 := nq3_; have HB := nq4_; have BKq1 := nq5_; have GWq1 := nq6_; have GEq1 := nq7_; have NBq0_551 := nq8_; have NBq2_541 := nq9_; have NBq1_551 := nq10_; have NBq2_549 := nq11_; clear n0_ n1_ n2_ n3_ nq0_ nq1_ nq2_ nq3_ nq4_ nq5_ nq6_ nq7_ nq8_ nq9_ nq10_ nq11_; clear hb hbox hg; have hnbq1 := NBq2_541.out; have hncq1 := NBq0_551.out; have hnbq2 := NBq2_549.out; have hncq2 := NBq1_551.out; obtain ⟨hczq2_0, hczq2_1⟩ := ZC2 wq1 BKq1; obtain ⟨hfzq2_0, hfzq2_1⟩ := ZF2 BKq1; obtain ⟨hczq3_0, hczq3_1, hczq3_2, hczq3_3, hczq3_4, hczq3_5, hczq3_6, hczq3_7⟩ := ZC8 wq1 BKq0; obtain ⟨hfzq3_0, hfzq3_1, hfzq3_2, hfzq3_3, hfzq3_4, hfzq3_5, hfzq3_6, hfzq3_7⟩ := ZF8 BKq0))
        go_roundg k1
        case measure => have := HK1.out; omega
        case rel => exact ⟨(wrap64 (x14_1 + 1)), (by first | rfl | (simp; done) | (simp [*]; done)), H', ⟨by have := HK1.out; omega⟩, ⟨by (with_reducible repeat (first | apply Kd.R_alloc | apply Kd.R_drewN | apply Kd.R_drew)); exact Kd.R_mono (Kd.R_far (p := ⟨gbq1, 1, none⟩) (Kd.R_far (p := ⟨gbq1, 0, none⟩) (Kd.R_mono HO_4.out (fun k_ hk => (⟨hk, hk.2⟩ : _ ∧ k_ ≠ gbq1))) (fun _ hk => hk.2) (.int .i64 ((rd_T35 l0_0 ((rd_T59 t545 x14_1).f1)).f0))) (fun _ hk => hk.2) (.int .i64 ((rd_T35 l0_0 ((rd_T59 t545 x14_1).f1)).f1))) (fun _ hk => trivial)⟩, ⟨by (with_reducible repeat (first | apply Kd.N_alloc | apply Kd.N_drewN | apply Kd.N_drew)); exact Kd.N_mono (Kd.N_far (p := ⟨gbq1, 1, none⟩) (Kd.N_far (p := ⟨gbq1, 0, none⟩) (Kd.N_mono HO_12.out (fun k_ hk => (⟨hk, hk.2⟩ : _ ∧ k_ ≠ gbq1))) (fun _ hk => hk.2) (.int .i64 ((rd_T35 l0_0 ((rd_T59 t545 x14_1).f1)).f0))) (fun _ hk => hk.2) (.int .i64 ((rd_T35 l0_0 ((rd_T59 t545 x14_1).f1)).f1))) (fun _ hk => ⟨hk.1.1.1.1, hk.1.1.1.2⟩)⟩, ⟨ZZ BK541.out⟩, ⟨ZB⟩⟩))
    | (
      (have z_ := tag6_; clear z_)
      go_wp2
      go_ret2
      exact ⟨ZE, ZB⟩
      )
end Go.Proofs.Ytcffnnedghgmaaa.A
