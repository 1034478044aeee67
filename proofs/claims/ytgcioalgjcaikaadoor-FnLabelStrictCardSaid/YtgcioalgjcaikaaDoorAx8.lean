/- What Go functions compute, as Lean functions, and for each its contract: for every input at which the Lean function answers the call returns that; written by wip/tools/pr.py over the kit's print. -/
import Derived.Test.YtgcioalgjcaikaaDoorAx0
import Derived.Test.YtgcioalgjcaikaaDoorAx4
import Derived.Test.YtgcioalgjcaikaaDoorAx5
import Derived.Test.YtgcioalgjcaikaaDoorAx7
namespace Go.Proofs.YtgcioalgjcaikaaDoor.A
open Go.RowKit Go.Proofs.YtgcioalgjcaikaaDoorW.PrintWords Go.Proofs.YtgcioalgjcaikaaDoorW.PrintLast Go.Proofs.YtgcioalgjcaikaaDoorW.PrintMore
attribute [local go_sem] max2_int min2_int max_two min_two max_three min_three max_four min_four   -- for this text's walks alone
set_option linter.unusedVariables false
set_option linter.unusedSimpArgs false

/-! ### impl_readSet: function 21 -/
def impl_readSet.l0 : Nat → ByteArray → Int → Int → Int → Option (Int)
 | 0, _, _, _, _ => none
 | k + 1, x0, x3, x7, x8 => if x8 < x7 then (if 0 ≤ x8 then (if x8 < (x0.size : Int) then ((impl_isHost.f (wrap64 ((wrap64 (bt x0 x8)) - 48))).bind fun t153 => (if t153 = true then (if 0 ≤ (wrap64 ((wrap64 (bt x0 x8)) - 48)) then (impl_readSet.l0 k x0 (Go.bits .or .i64 x3 (shl .i64 1 (wrap64 ((wrap64 (bt x0 x8)) - 48)))) x7 (wrap64 (x8 + 1))) else (none)) else (impl_readSet.l0 k x0 x3 x7 (wrap64 (x8 + 1))))) else (none)) else (none)) else (some x3)
def impl_readSet.f (k : Nat) (a0 : ByteArray) : Option (Int) := impl_readSet.l0 k a0 0 (a0.size : Int) 0
set_option maxHeartbeats 8000000 in
set_option maxRecDepth 100000 in
theorem impl_readSet.calls (k : Nat) (a0 : ByteArray) (r : Int) (w : World) (h : impl_readSet.f k a0 = some r) :
  Calls Tryd.prog 21 #[.string a0] w fun e w' => e = .returned (.int .i64 r) ∧ Drawn0 w w' := by
 have H : (impl_readSet.l0 k a0 0 (a0.size : Int) 0) = some r := h
 clear h
 have H' := Aside0.mk H
 clear H
 go_enter Tryd.func21, Tryd.ntmps21
 go_wp2
 go_loopg [3, 8] k (fun kq v3 v8 w' => ∃ (x3_1 : Int) (x8_1 : Int), v3 = .int .i64 x3_1 ∧ v8 = .int .i64 x8_1 ∧ Aside0 (impl_readSet.l0 kq a0 x3_1 (a0.size : Int) x8_1 = some r) ∧ Aside0 (kq ≤ k) ∧ Drawn0 w w')
 case atStart => exact ⟨(0), (0), (by first | rfl | (simp; done) | (simp [*]; done)), (by first | rfl | (simp; done) | (simp [*]; done)), H', ⟨Nat.le_refl _⟩, by repeat (first | exact Drawn0.refl _ | apply Drawn0.step)⟩
 case round =>
  clear H'
  obtain ⟨x3_1, x8_1, rfl, rfl, HA, HK1, ⟨m1, rfl⟩⟩ := hrel
  cases gk with
  | zero => exact absurd HA.out (by simp [impl_readSet.l0])
  | succ k1 =>
   have H := HA.out
   clear HA
   simp only [impl_readSet.l0] at H
   by_cases c2 : x8_1 < (a0.size : Int)
   ·rw [if_pos c2] at H
    have c2b0 : decide (x8_1 < (a0.size : Int)) = true := decide_eq_true c2
    clear c2
    by_cases c3 : 0 ≤ x8_1
    ·rw [if_pos c3] at H
     have c3b0 : decide (0 ≤ x8_1) = true := decide_eq_true c3
     clear c3
     by_cases c4 : x8_1 < (a0.size : Int)
     ·rw [if_pos c4] at H
      have c4b0 : decide (x8_1 < (a0.size : Int)) = true := decide_eq_true c4
      clear c4
      replace H := Option.bind_eq_some_iff.mp H
      obtain ⟨t153, A60, H⟩ := H
      replace H : (if t153 = true then (if 0 ≤ (wrap64 ((wrap64 (bt a0 x8_1)) - 48)) then (impl_readSet.l0 k1 a0 (Go.bits .or .i64 x3_1 (shl .i64 1 (wrap64 ((wrap64 (bt a0 x8_1)) - 48)))) (a0.size : Int) (wrap64 (x8_1 + 1))) else (none)) else (impl_readSet.l0 k1 a0 x3_1 (a0.size : Int) (wrap64 (x8_1 + 1)))) = some r := H
      have A6 := Aside0.mk A60
      clear A60
      by_cases c7 : t153 = true
      ·subst c7
       have H1 : (if 0 ≤ (wrap64 ((wrap64 (bt a0 x8_1)) - 48)) then (impl_readSet.l0 k1 a0 (Go.bits .or .i64 x3_1 (shl .i64 1 (wrap64 ((wrap64 (bt a0 x8_1)) - 48)))) (a0.size : Int) (wrap64 (x8_1 + 1))) else (none)) = some r := by rw [if_pos rfl] at H; exact H
       clear H
       have H := H1
       clear H1
       obtain ⟨ji8, hji8⟩ : ∃ j_ : Int, (wrap64 ((wrap64 (bt a0 x8_1)) - 48)) = j_ := ⟨_, rfl⟩
       replace H : (if 0 ≤ (ji8) then (impl_readSet.l0 k1 a0 (Go.bits .or .i64 x3_1 (shl .i64 1 (ji8))) (a0.size : Int) (wrap64 (x8_1 + 1))) else (none)) = some r := by first | (rw [hji8] at H; exact H) | (simp only [hji8] at H ⊢; exact H)
       (try rw [hji8] at A6)
       have hji8w : (IntKind.i64.wrap ((wrap64 (bt a0 x8_1)) - 48)) = ji8 := (i64_w _).trans hji8
       by_cases c9 : 0 ≤ (ji8)
       ·rw [if_pos c9] at H
        have c9b0 := eq_true c9
        have c9b1 : decide (0 ≤ (ji8)) = true := decide_eq_true c9
        clear c9
        obtain ⟨ji10, hji10⟩ : ∃ j_ : Int, (shl .i64 1 (ji8)) = j_ := ⟨_, rfl⟩
        replace H : (impl_readSet.l0 k1 a0 (Go.bits .or .i64 x3_1 (ji10)) (a0.size : Int) (wrap64 (x8_1 + 1))) = some r := by first | (rw [hji10] at H; exact H) | (simp only [hji10] at H ⊢; exact H)
        (try rw [hji10] at A6)
        have hji10_ : (IntKind.i64.wrap (1 * 2 ^ min (ji8).toNat 64)) = ji10 := hji10
        have hji10z : (ji8) ≤ 64 → (IntKind.i64.wrap (1 * 2 ^ (ji8).toNat)) = ji10 := shl_small hji10
        have hji10u : (IntKind.i64.wrap (2 ^ min (ji8).toNat 64)) = ji10 := by have h_ := hji10_; rw [Int.one_mul] at h_; exact h_
        have hji10v : (ji8) ≤ 64 → (IntKind.i64.wrap (2 ^ (ji8).toNat)) = ji10 := fun hle_ => by have h_ := hji10z hle_; rw [Int.one_mul] at h_; exact h_
        have hji10y : (wrap64 (1 * 2 ^ min (ji8).toNat 64)) = ji10 := (i64_w _).symm.trans hji10_
        have hji10x : (ji8) ≤ 64 → (wrap64 (1 * 2 ^ (ji8).toNat)) = ji10 := fun h_ => (i64_w _).symm.trans (hji10z h_)
        have H' := Aside0.mk H
        clear H
        have p5 : 0 ≤ (x8_1 : Int) := ZD
        have q5 : x8_1 < (a0.size : Int) := ZD
        have hx5 := bt_at a0 x8_1
        replace p5 := eq_true p5
        replace q5 := eq_true q5
        go_wp2_with (first | ((with_reducible refine gate_callee (f := 34) rfl ?_); refine goesL_ (some 17) rfl rfl Tryd.func34 (by kernel_rfl) rfl #[.int .i64 ji8] rfl (by (try simp only [List.map_toArray, List.map_cons, List.map_nil]); first | done | (simp only [hji8]; rfl) | rfl | (simp only [List.length_drop, List.length_take]; rfl)) ?_; (with_reducible refine (impl_isHost.calls ji8 true _ A6.out).mono ?_); rintro e w' ⟨rfl, ⟨nd, rfl⟩⟩; refine ⟨_, rfl, ?_⟩))
        go_roundg k1
        case measure => have := HK1.out; omega
        case rel => exact ⟨(Go.bits .or .i64 x3_1 (ji10)), (wrap64 (x8_1 + 1)), (by first | rfl | (simp; done) | (simp only [← hji10] <;> (first | rfl | simp)) | (simp [*]; done)), (by first | rfl | (simp; done) | (simp [*]; done)), H', ⟨by have := HK1.out; omega⟩, by repeat (first | exact Drawn0.refl _ | apply Drawn0.step)⟩
       ·rw [if_neg c9] at H
        exact absurd H (by simp)
      ·replace c7 := Bool.eq_false_iff.mpr c7
       subst c7
       have H1 : (impl_readSet.l0 k1 a0 x3_1 (a0.size : Int) (wrap64 (x8_1 + 1))) = some r := by rw [if_neg (show ¬ (false = true) by decide)] at H; exact H
       clear H
       have H := H1
       clear H1
       have H' := Aside0.mk H
       clear H
       have p5 : 0 ≤ (x8_1 : Int) := ZD
       have q5 : x8_1 < (a0.size : Int) := ZD
       have hx5 := bt_at a0 x8_1
       replace p5 := eq_true p5
       replace q5 := eq_true q5
       go_wp2_with (first | ((with_reducible refine gate_callee (f := 34) rfl ?_); refine goesL_ (some 17) rfl rfl Tryd.func34 (by kernel_rfl) rfl #[.int .i64 (wrap64 ((wrap64 (bt a0 x8_1)) - 48))] rfl ZG ?_; (with_reducible refine (impl_isHost.calls (wrap64 ((wrap64 (bt a0 x8_1)) - 48)) false _ A6.out).mono ?_); rintro e w' ⟨rfl, ⟨nd, rfl⟩⟩; refine ⟨_, rfl, ?_⟩))
       go_roundg k1
       case measure => have := HK1.out; omega
       case rel => exact ⟨(x3_1), (wrap64 (x8_1 + 1)), (by first | rfl | (simp; done) | (simp [*]; done)), (by first | rfl | (simp; done) | (simp [*]; done)), H', ⟨by have := HK1.out; omega⟩, by repeat (first | exact Drawn0.refl _ | apply Drawn0.step)⟩
     ·rw [if_neg c4] at H
      exact absurd H (by simp)
    ·rw [if_neg c3] at H
     exact absurd H (by simp)
   ·rw [if_neg c2] at H
    have c2b0 : decide (x8_1 < (a0.size : Int)) = false := decide_eq_false c2
    clear c2
    obtain rfl := Option.some.inj H
    go_wp2
    go_ret
    exact ⟨by first | rfl | (simp; done) | (simp [*]; done), by repeat (first | exact Drawn0.refl _ | apply Drawn0.step)⟩

/-! ### impl_LabelRead: function 11 -/
def impl_LabelRead.f (k : Nat) (a0 : ByteArray) : Option (Int × Int × Bool) := (strings_Cut.f a0 (⟨#[33]⟩ : ByteArray)).bind fun bt155 => ((impl_readSet.f k bt155.1).bind fun t158 => ((impl_readSet.f k bt155.2.1).bind fun t159 => ((impl_LabelText.f k t158 t159).bind fun t161 => (if t161.toList = a0.toList then (some (t158, t159, true)) else (some (0, 0, false))))))
set_option maxHeartbeats 8000000 in
set_option maxRecDepth 100000 in
theorem impl_LabelRead.calls (k : Nat) (a0 : ByteArray) (r1 : Int) (r2 : Int) (r3 : Bool) (w : World) (h : impl_LabelRead.f k a0 = some (r1, r2, r3)) :
  Calls Tryd.prog 11 #[.string a0] w fun e w' => e = .returned (.tuple #[.agg #[.int .i64 r1, .int .i64 r2], .bool r3]) ∧ Below w.heap.size w w' := by
 have hu25 := Tryd.underlying25
 have HB := Aside0.mk (Below.refl w.heap.size w)
 have H : ((strings_Cut.f a0 (⟨#[33]⟩ : ByteArray)).bind fun bt155 => ((impl_readSet.f k bt155.1).bind fun t158 => ((impl_readSet.f k bt155.2.1).bind fun t159 => ((impl_LabelText.f k t158 t159).bind fun t161 => (if t161.toList = a0.toList then (some (t158, t159, true)) else (some (0, 0, false))))))) = some (r1, r2, r3) := h
 clear h
 replace H := Option.bind_eq_some_iff.mp H
 obtain ⟨⟨t155, t156, t157⟩, A20, H⟩ := H
 replace H : ((impl_readSet.f k t155).bind fun t158 => ((impl_readSet.f k t156).bind fun t159 => ((impl_LabelText.f k t158 t159).bind fun t161 => (if t161.toList = a0.toList then (some (t158, t159, true)) else (some (0, 0, false)))))) = some (r1, r2, r3) := H
 have A2 := Aside0.mk A20
 clear A20
 replace H := Option.bind_eq_some_iff.mp H
 obtain ⟨t158, A30, H⟩ := H
 replace H : ((impl_readSet.f k t156).bind fun t159 => ((impl_LabelText.f k t158 t159).bind fun t161 => (if t161.toList = a0.toList then (some (t158, t159, true)) else (some (0, 0, false))))) = some (r1, r2, r3) := H
 have A3 := Aside0.mk A30
 clear A30
 replace H := Option.bind_eq_some_iff.mp H
 obtain ⟨t159, A40, H⟩ := H
 replace H : ((impl_LabelText.f k t158 t159).bind fun t161 => (if t161.toList = a0.toList then (some (t158, t159, true)) else (some (0, 0, false)))) = some (r1, r2, r3) := H
 have A4 := Aside0.mk A40
 clear A40
 replace H := Option.bind_eq_some_iff.mp H
 obtain ⟨t161, A50, H⟩ := H
 replace H : (if t161.toList = a0.toList then (some (t158, t159, true)) else (some (0, 0, false))) = some (r1, r2, r3) := H
 have A5 := Aside0.mk A50
 clear A50
 by_cases c6 : t161.toList = a0.toList
 ·rw [if_pos c6] at H
  have c6b0 : (t161.toList == a0.toList) = true := beq_iff_eq.mpr c6
  have c6b1 : (t161.toList != a0.toList) = false := bne_eq_false_iff_eq.mpr c6
  clear c6
  simp only [Option.some.injEq, Prod.mk.injEq] at H
  obtain ⟨rfl, rfl, rfl⟩ := H
  go_enter Tryd.func11, Tryd.ntmps11
  go_wp2_with (first | ((with_reducible refine gate_dst (N := 2) rfl ?_); refine ZX (N := 2) (cs := #[.int .i64 0, .int .i64 0]) (t := 25) ?_; intro gb154 hg w7 hbox hb; have BK154 := Aside0.mk (hbox); have GW154 : Aside0 (w.heap.size ≤ gb154) := ZS hg; have GE154 : Aside0 (w.heap.size ≤ gb154) := ZS hg; replace HB := ZT HB hb; clear hb hbox hg) | ((with_reducible refine gate_callee (f := 20) rfl ?_); refine goesL_ (some 10) rfl rfl Tryd.func20 (by kernel_rfl) rfl #[.string a0, .string (⟨#[33]⟩ : ByteArray)] rfl ZG ?_; (with_reducible refine (strings_Cut.calls a0 (⟨#[33]⟩ : ByteArray) t155 t156 t157 _ A2.out).mono ?_); rintro e w' ⟨rfl, ⟨nd, rfl⟩⟩; refine ⟨_, rfl, ?_⟩; (try (rw [drewN_self w7]; generalize hq_ : World.drewN w7 _ = w7; have n0_ : Aside0 (w7.heap[gb154]? = some (.cells #[.int .i64 0, .int .i64 0] 25 (0, 0))) := ⟨by rw [← hq_]; exact (ZK BK154.out)⟩; have n1_ : Aside0 (Below w.heap.size w w7) := ⟨by rw [← hq_]; exact (ZB)⟩; clear BK154 HB hq_; have BK154 := n0_; have HB := n1_; clear n0_ n1_))) | ((with_reducible refine gate_callee (f := 21) rfl ?_); refine goesL_ (some 15) rfl rfl Tryd.func21 (by kernel_rfl) rfl #[.string t155] rfl ZG ?_; (with_reducible refine (impl_readSet.calls k t155 t158 _ A3.out).mono ?_); rintro e w' ⟨rfl, ⟨nd, rfl⟩⟩; refine ⟨_, rfl, ?_⟩; (try (rw [drewN_self w7]; generalize hq_ : World.drewN w7 _ = w7; have n0_ : Aside0 (w7.heap[gb154]? = some (.cells #[.int .i64 0, .int .i64 0] 25 (0, 0))) := ⟨by rw [← hq_]; exact (ZK BK154.out)⟩; have n1_ : Aside0 (Below w.heap.size w w7) := ⟨by rw [← hq_]; exact (ZB)⟩; clear BK154 HB hq_; have BK154 := n0_; have HB := n1_; clear n0_ n1_))) | ((with_reducible refine gate_callee (f := 21) rfl ?_); refine goesL_ (some 17) rfl rfl Tryd.func21 (by kernel_rfl) rfl #[.string t156] rfl ZG ?_; (with_reducible refine (impl_readSet.calls k t156 t159 _ A4.out).mono ?_); rintro e w' ⟨rfl, ⟨nd, rfl⟩⟩; refine ⟨_, rfl, ?_⟩; (try (rw [drewN_self w7]; generalize hq_ : World.drewN w7 _ = w7; have n0_ : Aside0 (w7.heap[gb154]? = some (.cells #[.int .i64 0, .int .i64 0] 25 (0, 0))) := ⟨by rw [← hq_]; exact (ZK BK154.out)⟩; have n1_ : Aside0 (Below w.heap.size w w7) := ⟨by rw [← hq_]; exact (ZB)⟩; clear BK154 HB hq_; have BK154 := n0_; have HB := n1_; clear n0_ n1_))) | ((with_reducible refine gate_dst (N := 7) rfl ?_); refine ZX (N := 7) (cs := #[.int .i64 0, .int .i64 0]) (t := 25) ?_; intro gb160 hg w8 hbox hb; have BK160 := Aside0.mk (hbox); have GW160 : Aside0 (w.heap.size ≤ gb160) := ZS hg; have GE160 : Aside0 (w.heap.size ≤ gb160) := ZS hg; have NB154_160 : Aside0 (gb154 ≠ gb160) := ZN hg BK154; have NB160_154 : Aside0 (gb160 ≠ gb154) := ZM hg BK154; replace BK154 := ZW BK154 hb; replace HB := ZT HB hb; clear hb hbox hg; have hnb9 := NB160_154.out; have hnc9 := NB154_160.out; obtain ⟨hcz10_0, hcz10_1⟩ := ZC2 w8 BK160; obtain ⟨hfz10_0, hfz10_1⟩ := ZF2 BK160) | ((with_reducible refine gate_callee (f := 9) rfl ?_); refine goesL_ (some 20) rfl rfl Tryd.func9 (by kernel_rfl) rfl #[.agg #[.int .i64 t158, .int .i64 t159]] rfl ZG ?_; (with_reducible refine (impl_LabelText.calls k t158 t159 t161 _ A5.out).mono ?_); rintro e w11 ⟨rfl, hb⟩; refine ⟨_, rfl, ?_⟩; replace BK154 := ZV #[.int .i64 0, .int .i64 0] BK154 hb; replace BK160 := ZV #[.int .i64 t158, .int .i64 t159] BK160 hb; replace HB := ZT HB hb; (try clear hb); (try clear hb2); (try clear hk); (try clear hi); obtain ⟨hcz12_0, hcz12_1⟩ := ZC2 w11 BK160; obtain ⟨hfz12_0, hfz12_1⟩ := ZF2 BK160; obtain ⟨hcz13_0, hcz13_1⟩ := ZC2 w11 BK154; obtain ⟨hfz13_0, hfz13_1⟩ := ZF2 BK154))
  refine bodyPost_ret (results_ct rfl _ _ gb154 25 #[.int .i64 t158, .int .i64 t159] (0, 0) _ rfl (ZZ BK154.out) Tryd.underlying25 rfl (by kernel_rfl)) rfl ?_
  exact ⟨ZE, ZB⟩
 ·rw [if_neg c6] at H
  have c6b0 : (t161.toList == a0.toList) = false := beq_eq_false_iff_ne.mpr c6
  have c6b1 : (t161.toList != a0.toList) = true := bne_iff_ne.mpr c6
  simp only [Option.some.injEq, Prod.mk.injEq] at H
  obtain ⟨rfl, rfl, rfl⟩ := H
  go_enter Tryd.func11, Tryd.ntmps11
  go_wp2_with (first | ((with_reducible refine gate_dst (N := 2) rfl ?_); refine ZX (N := 2) (cs := #[.int .i64 0, .int .i64 0]) (t := 25) ?_; intro gb154 hg w14 hbox hb; have BK154 := Aside0.mk (hbox); have GW154 : Aside0 (w.heap.size ≤ gb154) := ZS hg; have GE154 : Aside0 (w.heap.size ≤ gb154) := ZS hg; replace HB := ZT HB hb; clear hb hbox hg) | ((with_reducible refine gate_callee (f := 20) rfl ?_); refine goesL_ (some 10) rfl rfl Tryd.func20 (by kernel_rfl) rfl #[.string a0, .string (⟨#[33]⟩ : ByteArray)] rfl ZG ?_; (with_reducible refine (strings_Cut.calls a0 (⟨#[33]⟩ : ByteArray) t155 t156 t157 _ A2.out).mono ?_); rintro e w' ⟨rfl, ⟨nd, rfl⟩⟩; refine ⟨_, rfl, ?_⟩; (try (rw [drewN_self w14]; generalize hq_ : World.drewN w14 _ = w14; have n0_ : Aside0 (w14.heap[gb154]? = some (.cells #[.int .i64 0, .int .i64 0] 25 (0, 0))) := ⟨by rw [← hq_]; exact (ZK BK154.out)⟩; have n1_ : Aside0 (Below w.heap.size w w14) := ⟨by rw [← hq_]; exact (ZB)⟩; clear BK154 HB hq_; have BK154 := n0_; have HB := n1_; clear n0_ n1_))) | ((with_reducible refine gate_callee (f := 21) rfl ?_); refine goesL_ (some 15) rfl rfl Tryd.func21 (by kernel_rfl) rfl #[.string t155] rfl ZG ?_; (with_reducible refine (impl_readSet.calls k t155 t158 _ A3.out).mono ?_); rintro e w' ⟨rfl, ⟨nd, rfl⟩⟩; refine ⟨_, rfl, ?_⟩; (try (rw [drewN_self w14]; generalize hq_ : World.drewN w14 _ = w14; have n0_ : Aside0 (w14.heap[gb154]? = some (.cells #[.int .i64 0, .int .i64 0] 25 (0, 0))) := ⟨by rw [← hq_]; exact (ZK BK154.out)⟩; have n1_ : Aside0 (Below w.heap.size w w14) := ⟨by rw [← hq_]; exact (ZB)⟩; clear BK154 HB hq_; have BK154 := n0_; have HB := n1_; clear n0_ n1_))) | ((with_reducible refine gate_callee (f := 21) rfl ?_); refine goesL_ (some 17) rfl rfl Tryd.func21 (by kernel_rfl) rfl #[.string t156] rfl ZG ?_; (with_reducible refine (impl_readSet.calls k t156 t159 _ A4.out).mono ?_); rintro e w' ⟨rfl, ⟨nd, rfl⟩⟩; refine ⟨_, rfl, ?_⟩; (try (rw [drewN_self w14]; generalize hq_ : World.drewN w14 _ = w14; have n0_ : Aside0 (w14.heap[gb154]? = some (.cells #[.int .i64 0, .int .i64 0] 25 (0, 0))) := ⟨by rw [← hq_]; exact (ZK BK154.out)⟩; have n1_ : Aside0 (Below w.heap.size w w14) := ⟨by rw [← hq_]; exact (ZB)⟩; clear BK154 HB hq_; have BK154 := n0_; have HB := n1_; clear n0_ n1_))) | ((with_reducible refine gate_dst (N := 7) rfl ?_); refine ZX (N := 7) (cs := #[.int .i64 0, .int .i64 0]) (t := 25) ?_; intro gb160 hg w15 hbox hb; have BK160 := Aside0.mk (hbox); have GW160 : Aside0 (w.heap.size ≤ gb160) := ZS hg; have GE160 : Aside0 (w.heap.size ≤ gb160) := ZS hg; have NB154_160 : Aside0 (gb154 ≠ gb160) := ZN hg BK154; have NB160_154 : Aside0 (gb160 ≠ gb154) := ZM hg BK154; replace BK154 := ZW BK154 hb; replace HB := ZT HB hb; clear hb hbox hg; have hnb16 := NB160_154.out; have hnc16 := NB154_160.out; obtain ⟨hcz17_0, hcz17_1⟩ := ZC2 w15 BK160; obtain ⟨hfz17_0, hfz17_1⟩ := ZF2 BK160) | ((with_reducible refine gate_callee (f := 9) rfl ?_); refine goesL_ (some 20) rfl rfl Tryd.func9 (by kernel_rfl) rfl #[.agg #[.int .i64 t158, .int .i64 t159]] rfl ZG ?_; (with_reducible refine (impl_LabelText.calls k t158 t159 t161 _ A5.out).mono ?_); rintro e w18 ⟨rfl, hb⟩; refine ⟨_, rfl, ?_⟩; replace BK154 := ZV #[.int .i64 0, .int .i64 0] BK154 hb; replace BK160 := ZV #[.int .i64 t158, .int .i64 t159] BK160 hb; replace HB := ZT HB hb; (try clear hb); (try clear hb2); (try clear hk); (try clear hi); obtain ⟨hcz19_0, hcz19_1⟩ := ZC2 w18 BK154; obtain ⟨hfz19_0, hfz19_1⟩ := ZF2 BK154))
  refine bodyPost_ret (results_ct rfl _ _ gb154 25 #[.int .i64 0, .int .i64 0] (0, 0) _ rfl (ZZ BK154.out) Tryd.underlying25 rfl (by kernel_rfl)) rfl ?_
  exact ⟨ZE, ZB⟩

/-! ### laws_eqLabel: function 12 -/
def laws_eqLabel.f (a0_0 : Int) (a0_1 : Int) (a1_0 : Int) (a1_1 : Int) : Option (Bool) := if a0_0 = a1_0 then (if a0_1 = a1_1 then (some true) else (some false)) else (some false)
set_option maxHeartbeats 8000000 in
set_option maxRecDepth 100000 in
theorem laws_eqLabel.calls (a0_0 : Int) (a0_1 : Int) (a1_0 : Int) (a1_1 : Int) (r : Bool) (w : World) (h : laws_eqLabel.f a0_0 a0_1 a1_0 a1_1 = some r) :
  Calls Tryd.prog 12 #[.agg #[.int .i64 a0_0, .int .i64 a0_1], .agg #[.int .i64 a1_0, .int .i64 a1_1]] w fun e w' => e = .returned (.bool r) ∧ Below w.heap.size w w' := by
 have hu25 := Tryd.underlying25
 have HB := Aside0.mk (Below.refl w.heap.size w)
 have H : (if a0_0 = a1_0 then (if a0_1 = a1_1 then (some true) else (some false)) else (some false)) = some r := h
 clear h
 by_cases c3 : a0_0 = a1_0
 focus
  rw [if_pos c3] at H
  have c3b0 : (a0_0 == a1_0) = true := beq_iff_eq.mpr c3
  have c3b1 : (a0_0 != a1_0) = false := bne_eq_false_iff_eq.mpr c3
  clear c3
  by_cases c4 : a0_1 = a1_1
  focus
   rw [if_pos c4] at H
   have c4b0 : (a0_1 == a1_1) = true := beq_iff_eq.mpr c4
   have c4b1 : (a0_1 != a1_1) = false := bne_eq_false_iff_eq.mpr c4
   clear c4
   obtain rfl := Option.some.inj H
   have tag0_ : Aside0 True := ⟨trivial⟩
  rotate_left
  focus
   rw [if_neg c4] at H
   have c4b0 : (a0_1 == a1_1) = false := beq_eq_false_iff_ne.mpr c4
   have c4b1 : (a0_1 != a1_1) = true := bne_iff_ne.mpr c4
   obtain rfl := Option.some.inj H
   have tag1_ : Aside0 True := ⟨trivial⟩
  rotate_left
 rotate_left 2
 focus
  rw [if_neg c3] at H
  have c3b0 : (a0_0 == a1_0) = false := beq_eq_false_iff_ne.mpr c3
  have c3b1 : (a0_0 != a1_0) = true := bne_iff_ne.mpr c3
  obtain rfl := Option.some.inj H
  have tag2_ : Aside0 True := ⟨trivial⟩
 rotate_left
 all_goals
  go_enter Tryd.func12, Tryd.ntmps12
  go_wp2_with (first | ((with_reducible refine gate_dst (N := 2) rfl ?_); refine ZX (N := 2) (cs := #[.int .i64 a0_0, .int .i64 a0_1]) (t := 25) ?_; intro gbq0 hg wq0 hbox hb; have BKq0 := Aside0.mk (hbox); have GWq0 : Aside0 (w.heap.size ≤ gbq0) := ZS hg; have GEq0 : Aside0 (w.heap.size ≤ gbq0) := ZS hg; replace HB := ZT HB hb; clear hb hbox hg) | ((with_reducible refine gate_dst (N := 3) rfl ?_); refine ZX (N := 3) (cs := #[.int .i64 a1_0, .int .i64 a1_1]) (t := 25) ?_; intro gbq1 hg wq1 hbox hb; have BKq1 := Aside0.mk (hbox); have GWq1 : Aside0 (w.heap.size ≤ gbq1) := ZS hg; have GEq1 : Aside0 (w.heap.size ≤ gbq1) := ZS hg; have NBq0_163 : Aside0 (gbq0 ≠ gbq1) := ZN hg BKq0; have NBq1_162 : Aside0 (gbq1 ≠ gbq0) := ZM hg BKq0; replace BKq0 := ZW BKq0 hb; replace HB := ZT HB hb; clear hb hbox hg; have hnbq0 := NBq0_163.out; have hncq0 := NBq1_162.out; obtain ⟨hczq0_0, hczq0_1⟩ := ZC2 wq1 BKq0; obtain ⟨hfzq0_0, hfzq0_1⟩ := ZF2 BKq0; obtain ⟨hczq1_0, hczq1_1⟩ := ZC2 wq1 BKq1; obtain ⟨hfzq1_0, hfzq1_1⟩ := ZF2 BKq1))
  go_ret
  exact ⟨ZE, ZB⟩

end Go.Proofs.YtgcioalgjcaikaaDoor.A
