/- What Go functions compute, as Lean functions, and for each its contract: for every input at which the Lean function answers the call returns that; written by wip/tools/pr.py over the kit's print. -/
import Derived.Test.YtgcioalgjcaikaaDoorAx0
import Derived.Test.YtgcioalgjcaikaaDoorAx4
namespace Go.Proofs.YtgcioalgjcaikaaDoor.A
open Go.RowKit Go.Proofs.YtgcioalgjcaikaaDoorW.PrintWords Go.Proofs.YtgcioalgjcaikaaDoorW.PrintLast Go.Proofs.YtgcioalgjcaikaaDoorW.PrintMore
attribute [local go_sem] max2_int min2_int max_two min_two max_three min_three max_four min_four   -- for this text's walks alone
set_option linter.unusedVariables false
set_option linter.unusedSimpArgs false

/-! ### strconv_Itoa_32: function 32 -/
def strconv_Itoa_32.f (a0 : Int) : Option (ByteArray) := (strconv_Itoa_37.f a0).bind fun t130 => (some t130)
set_option maxHeartbeats 8000000 in
set_option maxRecDepth 100000 in
theorem strconv_Itoa_32.calls (a0 : Int) (r : ByteArray) (w : World) (h : strconv_Itoa_32.f a0 = some r) :
  Calls Tryd.prog 32 #[.int .i64 a0] w fun e w' => e = .returned (.string r) ∧ Drawn0 w w' := by
 have H : ((strconv_Itoa_37.f a0).bind fun t130 => (some t130)) = some r := h
 clear h
 replace H := Option.bind_eq_some_iff.mp H
 obtain ⟨t130, A20, H⟩ := H
 replace H : (some t130) = some r := H
 have A2 := Aside0.mk A20
 clear A20
 obtain rfl := Option.some.inj H
 go_enter Tryd.func32, Tryd.ntmps32
 go_wp2_with (first | ((with_reducible refine gate_callee (f := 37) rfl ?_); refine goesL_ (some 4) rfl rfl Tryd.func37 (by kernel_rfl) rfl #[.int .i64 a0] rfl ZG ?_; (with_reducible refine (strconv_Itoa_37.calls a0 t130 _ A2.out).mono ?_); rintro e w' ⟨rfl, ⟨nd, rfl⟩⟩; refine ⟨_, rfl, ?_⟩))
 go_ret
 exact ⟨by first | rfl | (simp; done) | (simp [*]; done), by repeat (first | exact Drawn0.refl _ | apply Drawn0.step)⟩

/-! ### impl_setText: function 18 -/
def impl_setText.l0 : Nat → Int → ByteArray → Int → Option (ByteArray)
 | 0, _, _, _ => none
 | k + 1, x0, x3, x5 => if x5 < 3 then ((impl_has.f x0 x5).bind fun t131 => (if t131 = true then ((strconv_Itoa_32.f x5).bind fun t132 => (if x3.size + t132.size ≤ 9223372036854775807 then (impl_setText.l0 k x0 (x3 ++ t132) (wrap64 (x5 + 1))) else (none))) else (impl_setText.l0 k x0 x3 (wrap64 (x5 + 1))))) else (some x3)
def impl_setText.f (k : Nat) (a0 : Int) : Option (ByteArray) := impl_setText.l0 k a0 (⟨#[]⟩ : ByteArray) 0
set_option maxHeartbeats 8000000 in
set_option maxRecDepth 100000 in
theorem impl_setText.calls (k : Nat) (a0 : Int) (r : ByteArray) (w : World) (h : impl_setText.f k a0 = some r) :
  Calls Tryd.prog 18 #[.int .i64 a0] w fun e w' => e = .returned (.string r) ∧ Drawn0 w w' := by
 have H : (impl_setText.l0 k a0 (⟨#[]⟩ : ByteArray) 0) = some r := h
 clear h
 have H' := Aside0.mk H
 clear H
 go_enter Tryd.func18, Tryd.ntmps18
 go_wp2
 go_loopg [3, 5] k (fun kq v3 v5 w' => ∃ (x3_1 : ByteArray) (x5_1 : Int), v3 = .string x3_1 ∧ v5 = .int .i64 x5_1 ∧ Aside0 (impl_setText.l0 kq a0 x3_1 x5_1 = some r) ∧ Aside0 (kq ≤ k) ∧ Drawn0 w w')
 case atStart => exact ⟨((⟨#[]⟩ : ByteArray)), (0), (by first | rfl | (simp; done) | (simp [*]; done)), (by first | rfl | (simp; done) | (simp [*]; done)), H', ⟨Nat.le_refl _⟩, by repeat (first | exact Drawn0.refl _ | apply Drawn0.step)⟩
 case round =>
  clear H'
  try clear c1
  obtain ⟨x3_1, x5_1, rfl, rfl, HA, HK1, ⟨m1, rfl⟩⟩ := hrel
  cases gk with
  | zero => exact absurd HA.out (by simp [impl_setText.l0])
  | succ k1 =>
   have H := HA.out
   clear HA
   simp only [impl_setText.l0] at H
   by_cases c2 : x5_1 < 3
   ·rw [if_pos c2] at H
    have c2b0 : decide (x5_1 < 3) = true := decide_eq_true c2
    clear c2
    replace H := Option.bind_eq_some_iff.mp H
    obtain ⟨t131, A30, H⟩ := H
    replace H : (if t131 = true then ((strconv_Itoa_32.f x5_1).bind fun t132 => (if x3_1.size + t132.size ≤ 9223372036854775807 then (impl_setText.l0 k1 a0 (x3_1 ++ t132) (wrap64 (x5_1 + 1))) else (none))) else (impl_setText.l0 k1 a0 x3_1 (wrap64 (x5_1 + 1)))) = some r := H
    have A3 := Aside0.mk A30
    clear A30
    by_cases c4 : t131 = true
    ·subst c4
     have H1 : ((strconv_Itoa_32.f x5_1).bind fun t132 => (if x3_1.size + t132.size ≤ 9223372036854775807 then (impl_setText.l0 k1 a0 (x3_1 ++ t132) (wrap64 (x5_1 + 1))) else (none))) = some r := by rw [if_pos rfl] at H; exact H
     clear H
     have H := H1
     clear H1
     replace H := Option.bind_eq_some_iff.mp H
     obtain ⟨t132, A50, H⟩ := H
     replace H : (if x3_1.size + t132.size ≤ 9223372036854775807 then (impl_setText.l0 k1 a0 (x3_1 ++ t132) (wrap64 (x5_1 + 1))) else (none)) = some r := H
     have A5 := Aside0.mk A50
     clear A50
     by_cases c6 : x3_1.size + t132.size ≤ 9223372036854775807
     ·rw [if_pos c6] at H
      have c6b0 := eq_true c6
      have c6b1 : decide (x3_1.size + t132.size ≤ 9223372036854775807) = true := decide_eq_true c6
      try have c6b2 : (9223372036854775807 < x3_1.size + t132.size) = False := eq_false (Nat.not_lt.2 c6)
      have H' := Aside0.mk H
      clear H
      go_wp2_with (first | ((with_reducible refine gate_callee (f := 31) rfl ?_); refine goesL_ (some 10) rfl rfl Tryd.func31 (by kernel_rfl) rfl #[.int .i64 a0, .int .i64 x5_1] rfl ZG ?_; (with_reducible refine (impl_has.calls a0 x5_1 true _ A3.out).mono ?_); rintro e w' ⟨rfl, ⟨nd, rfl⟩⟩; refine ⟨_, rfl, ?_⟩) | ((with_reducible refine gate_callee (f := 32) rfl ?_); refine goesL_ (some 13) rfl rfl Tryd.func32 (by kernel_rfl) rfl #[.int .i64 x5_1] rfl ZG ?_; (with_reducible refine (strconv_Itoa_32.calls x5_1 t132 _ A5.out).mono ?_); rintro e w' ⟨rfl, ⟨nd, rfl⟩⟩; refine ⟨_, rfl, ?_⟩))
      go_roundg k1
      case measure => have := HK1.out; omega
      case rel => exact ⟨(x3_1 ++ t132), (wrap64 (x5_1 + 1)), (by first | rfl | (simp; done) | (simp [*]; done)), (by first | rfl | (simp; done) | (simp [*]; done)), H', ⟨by have := HK1.out; omega⟩, by repeat (first | exact Drawn0.refl _ | apply Drawn0.step)⟩
     ·rw [if_neg c6] at H
      exact absurd H (by simp)
    ·replace c4 := Bool.eq_false_iff.mpr c4
     subst c4
     have H1 : (impl_setText.l0 k1 a0 x3_1 (wrap64 (x5_1 + 1))) = some r := by rw [if_neg (show ¬ (false = true) by decide)] at H; exact H
     clear H
     have H := H1
     clear H1
     have H' := Aside0.mk H
     clear H
     go_wp2_with (first | ((with_reducible refine gate_callee (f := 31) rfl ?_); refine goesL_ (some 10) rfl rfl Tryd.func31 (by kernel_rfl) rfl #[.int .i64 a0, .int .i64 x5_1] rfl ZG ?_; (with_reducible refine (impl_has.calls a0 x5_1 false _ A3.out).mono ?_); rintro e w' ⟨rfl, ⟨nd, rfl⟩⟩; refine ⟨_, rfl, ?_⟩))
     go_roundg k1
     case measure => have := HK1.out; omega
     case rel => exact ⟨(x3_1), (wrap64 (x5_1 + 1)), (by first | rfl | (simp; done) | (simp [*]; done)), (by first | rfl | (simp; done) | (simp [*]; done)), H', ⟨by have := HK1.out; omega⟩, by repeat (first | exact Drawn0.refl _ | apply Drawn0.step)⟩
   ·rw [if_neg c2] at H
    have c2b0 : decide (x5_1 < 3) = false := decide_eq_false c2
    clear c2
    obtain rfl := Option.some.inj H
    go_wp2
    go_ret
    exact ⟨by first | rfl | (simp; done) | (simp [*]; done), by repeat (first | exact Drawn0.refl _ | apply Drawn0.step)⟩

/-! ### impl_LabelText: function 9 -/
def impl_LabelText.f (k : Nat) (a0_0 : Int) (a0_1 : Int) : Option (ByteArray) := (impl_LabelOk.f a0_0 a0_1).bind fun t134 => (if t134 = true then ((impl_setText.f k a0_0).bind fun t135 => (if t135.size + 1 ≤ 9223372036854775807 then ((impl_setText.f k a0_1).bind fun t136 => (if (t135 ++ (⟨#[33]⟩ : ByteArray)).size + t136.size ≤ 9223372036854775807 then (some ((t135 ++ (⟨#[33]⟩ : ByteArray)) ++ t136)) else (none))) else (none))) else (some (⟨#[]⟩ : ByteArray)))
set_option maxHeartbeats 8000000 in
set_option maxRecDepth 100000 in
theorem impl_LabelText.calls (k : Nat) (a0_0 : Int) (a0_1 : Int) (r : ByteArray) (w : World) (h : impl_LabelText.f k a0_0 a0_1 = some r) :
  Calls Tryd.prog 9 #[.agg #[.int .i64 a0_0, .int .i64 a0_1]] w fun e w' => e = .returned (.string r) ∧ Below w.heap.size w w' := by
 have hu25 := Tryd.underlying25
 have HB := Aside0.mk (Below.refl w.heap.size w)
 have H : ((impl_LabelOk.f a0_0 a0_1).bind fun t134 => (if t134 = true then ((impl_setText.f k a0_0).bind fun t135 => (if t135.size + 1 ≤ 9223372036854775807 then ((impl_setText.f k a0_1).bind fun t136 => (if (t135 ++ (⟨#[33]⟩ : ByteArray)).size + t136.size ≤ 9223372036854775807 then (some ((t135 ++ (⟨#[33]⟩ : ByteArray)) ++ t136)) else (none))) else (none))) else (some (⟨#[]⟩ : ByteArray)))) = some r := h
 clear h
 replace H := Option.bind_eq_some_iff.mp H
 obtain ⟨t134, A20, H⟩ := H
 replace H : (if t134 = true then ((impl_setText.f k a0_0).bind fun t135 => (if t135.size + 1 ≤ 9223372036854775807 then ((impl_setText.f k a0_1).bind fun t136 => (if (t135 ++ (⟨#[33]⟩ : ByteArray)).size + t136.size ≤ 9223372036854775807 then (some ((t135 ++ (⟨#[33]⟩ : ByteArray)) ++ t136)) else (none))) else (none))) else (some (⟨#[]⟩ : ByteArray))) = some r := H
 have A2 := Aside0.mk A20
 clear A20
 by_cases c3 : t134 = true
 ·subst c3
  have H1 : ((impl_setText.f k a0_0).bind fun t135 => (if t135.size + 1 ≤ 9223372036854775807 then ((impl_setText.f k a0_1).bind fun t136 => (if (t135 ++ (⟨#[33]⟩ : ByteArray)).size + t136.size ≤ 9223372036854775807 then (some ((t135 ++ (⟨#[33]⟩ : ByteArray)) ++ t136)) else (none))) else (none))) = some r := by rw [if_pos rfl] at H; exact H
  clear H
  have H := H1
  clear H1
  replace H := Option.bind_eq_some_iff.mp H
  obtain ⟨t135, A40, H⟩ := H
  replace H : (if t135.size + 1 ≤ 9223372036854775807 then ((impl_setText.f k a0_1).bind fun t136 => (if (t135 ++ (⟨#[33]⟩ : ByteArray)).size + t136.size ≤ 9223372036854775807 then (some ((t135 ++ (⟨#[33]⟩ : ByteArray)) ++ t136)) else (none))) else (none)) = some r := H
  have A4 := Aside0.mk A40
  clear A40
  by_cases c5 : t135.size + 1 ≤ 9223372036854775807
  ·rw [if_pos c5] at H
   have c5b0 := eq_true c5
   have c5b1 : decide (t135.size + 1 ≤ 9223372036854775807) = true := decide_eq_true c5
   try have c5b2 : (9223372036854775807 < t135.size + 1) = False := eq_false (Nat.not_lt.2 c5)
   replace H := Option.bind_eq_some_iff.mp H
   obtain ⟨t136, A60, H⟩ := H
   replace H : (if (t135 ++ (⟨#[33]⟩ : ByteArray)).size + t136.size ≤ 9223372036854775807 then (some ((t135 ++ (⟨#[33]⟩ : ByteArray)) ++ t136)) else (none)) = some r := H
   have A6 := Aside0.mk A60
   clear A60
   by_cases c7 : (t135 ++ (⟨#[33]⟩ : ByteArray)).size + t136.size ≤ 9223372036854775807
   ·rw [if_pos c7] at H
    have c7b0 := eq_true c7
    have c7b1 : decide ((t135 ++ (⟨#[33]⟩ : ByteArray)).size + t136.size ≤ 9223372036854775807) = true := decide_eq_true c7
    try have c7b2 : (9223372036854775807 < (t135 ++ (⟨#[33]⟩ : ByteArray)).size + t136.size) = False := eq_false (Nat.not_lt.2 c7)
    try have c7b3 : (9223372036854775807 < t135.size + 1 + t136.size) = False := eq_false (by have h_ := c7; simp only [ByteArray.size_append] at h_; exact Nat.not_lt.2 (by first | exact h_ | omega))
    obtain rfl := Option.some.inj H
    go_enter Tryd.func9, Tryd.ntmps9
    go_wp2_with (first | ((with_reducible refine gate_dst (N := 1) rfl ?_); refine ZX (N := 1) (cs := #[.int .i64 a0_0, .int .i64 a0_1]) (t := 25) ?_; intro gb133 hg w8 hbox hb; have BK133 := Aside0.mk (hbox); have GW133 : Aside0 (w.heap.size ≤ gb133) := ZS hg; have GE133 : Aside0 (w.heap.size ≤ gb133) := ZS hg; replace HB := ZT HB hb; clear hb hbox hg; obtain ⟨hcz9_0, hcz9_1⟩ := ZC2 w8 BK133; obtain ⟨hfz9_0, hfz9_1⟩ := ZF2 BK133) | (go_at_call 17; (with_reducible refine (impl_LabelOk.calls a0_0 a0_1 true _ A2.out).mono ?_); rintro e w10 ⟨rfl, hb⟩; replace BK133 := ZW BK133 hb; replace HB := ZT HB hb; (try clear hb); (try clear hb2); (try clear hk); (try clear hi); obtain ⟨hcz11_0, hcz11_1⟩ := ZC2 w10 BK133; obtain ⟨hfz11_0, hfz11_1⟩ := ZF2 BK133) | (go_at_call 18; (with_reducible refine (impl_setText.calls k a0_0 t135 _ A4.out).mono ?_); rintro e w' ⟨rfl, ⟨nd, rfl⟩⟩; (try first | exact ⟨rfl, _, World.drewN_drewN _ _ _⟩ | exact ⟨rfl, _, Eq.trans (World.drewN_drewN _ _ _) (congrArg (World.drewN _) (Nat.add_assoc _ _ _))⟩)) | (go_at_call 18; (with_reducible refine (impl_setText.calls k a0_1 t136 _ A6.out).mono ?_); rintro e w' ⟨rfl, ⟨nd, rfl⟩⟩; (try first | exact ⟨rfl, _, World.drewN_drewN _ _ _⟩ | exact ⟨rfl, _, Eq.trans (World.drewN_drewN _ _ _) (congrArg (World.drewN _) (Nat.add_assoc _ _ _))⟩)))
    repeat (go_quiet (first | ((with_reducible refine gate_dst (N := 1) rfl ?_); refine ZX (N := 1) (cs := #[.int .i64 a0_0, .int .i64 a0_1]) (t := 25) ?_; intro gb133 hg w8 hbox hb; have BK133 := Aside0.mk (hbox); have GW133 : Aside0 (w.heap.size ≤ gb133) := ZS hg; have GE133 : Aside0 (w.heap.size ≤ gb133) := ZS hg; replace HB := ZT HB hb; clear hb hbox hg; obtain ⟨hcz9_0, hcz9_1⟩ := ZC2 w8 BK133; obtain ⟨hfz9_0, hfz9_1⟩ := ZF2 BK133) | (go_at_call 17; (with_reducible refine (impl_LabelOk.calls a0_0 a0_1 true _ A2.out).mono ?_); rintro e w10 ⟨rfl, hb⟩; replace BK133 := ZW BK133 hb; replace HB := ZT HB hb; (try clear hb); (try clear hb2); (try clear hk); (try clear hi); obtain ⟨hcz11_0, hcz11_1⟩ := ZC2 w10 BK133; obtain ⟨hfz11_0, hfz11_1⟩ := ZF2 BK133) | (go_at_call 18; (with_reducible refine (impl_setText.calls k a0_0 t135 _ A4.out).mono ?_); rintro e w' ⟨rfl, ⟨nd, rfl⟩⟩; (try first | exact ⟨rfl, _, World.drewN_drewN _ _ _⟩ | exact ⟨rfl, _, Eq.trans (World.drewN_drewN _ _ _) (congrArg (World.drewN _) (Nat.add_assoc _ _ _))⟩)) | (go_at_call 18; (with_reducible refine (impl_setText.calls k a0_1 t136 _ A6.out).mono ?_); rintro e w' ⟨rfl, ⟨nd, rfl⟩⟩; (try first | exact ⟨rfl, _, World.drewN_drewN _ _ _⟩ | exact ⟨rfl, _, Eq.trans (World.drewN_drewN _ _ _) (congrArg (World.drewN _) (Nat.add_assoc _ _ _))⟩))); try go_wp2_with (first | ((with_reducible refine gate_dst (N := 1) rfl ?_); refine ZX (N := 1) (cs := #[.int .i64 a0_0, .int .i64 a0_1]) (t := 25) ?_; intro gb133 hg w8 hbox hb; have BK133 := Aside0.mk (hbox); have GW133 : Aside0 (w.heap.size ≤ gb133) := ZS hg; have GE133 : Aside0 (w.heap.size ≤ gb133) := ZS hg; replace HB := ZT HB hb; clear hb hbox hg; obtain ⟨hcz9_0, hcz9_1⟩ := ZC2 w8 BK133; obtain ⟨hfz9_0, hfz9_1⟩ := ZF2 BK133) | (go_at_call 17; (with_reducible refine (impl_LabelOk.calls a0_0 a0_1 true _ A2.out).mono ?_); rintro e w10 ⟨rfl, hb⟩; replace BK133 := ZW BK133 hb; replace HB := ZT HB hb; (try clear hb); (try clear hb2); (try clear hk); (try clear hi); obtain ⟨hcz11_0, hcz11_1⟩ := ZC2 w10 BK133; obtain ⟨hfz11_0, hfz11_1⟩ := ZF2 BK133) | (go_at_call 18; (with_reducible refine (impl_setText.calls k a0_0 t135 _ A4.out).mono ?_); rintro e w' ⟨rfl, ⟨nd, rfl⟩⟩; (try first | exact ⟨rfl, _, World.drewN_drewN _ _ _⟩ | exact ⟨rfl, _, Eq.trans (World.drewN_drewN _ _ _) (congrArg (World.drewN _) (Nat.add_assoc _ _ _))⟩)) | (go_at_call 18; (with_reducible refine (impl_setText.calls k a0_1 t136 _ A6.out).mono ?_); rintro e w' ⟨rfl, ⟨nd, rfl⟩⟩; (try first | exact ⟨rfl, _, World.drewN_drewN _ _ _⟩ | exact ⟨rfl, _, Eq.trans (World.drewN_drewN _ _ _) (congrArg (World.drewN _) (Nat.add_assoc _ _ _))⟩))))
    go_ret
    exact ⟨ZE, ZB⟩
   ·rw [if_neg c7] at H
    exact absurd H (by simp)
  ·rw [if_neg c5] at H
   exact absurd H (by simp)
 ·replace c3 := Bool.eq_false_iff.mpr c3
  subst c3
  have H1 : (some (⟨#[]⟩ : ByteArray)) = some r := by rw [if_neg (show ¬ (false = true) by decide)] at H; exact H
  clear H
  have H := H1
  clear H1
  obtain rfl := Option.some.inj H
  go_enter Tryd.func9, Tryd.ntmps9
  go_wp2_with (first | ((with_reducible refine gate_dst (N := 1) rfl ?_); refine ZX (N := 1) (cs := #[.int .i64 a0_0, .int .i64 a0_1]) (t := 25) ?_; intro gb133 hg w12 hbox hb; have BK133 := Aside0.mk (hbox); have GW133 : Aside0 (w.heap.size ≤ gb133) := ZS hg; have GE133 : Aside0 (w.heap.size ≤ gb133) := ZS hg; replace HB := ZT HB hb; clear hb hbox hg; obtain ⟨hcz13_0, hcz13_1⟩ := ZC2 w12 BK133; obtain ⟨hfz13_0, hfz13_1⟩ := ZF2 BK133) | (go_at_call 17; (with_reducible refine (impl_LabelOk.calls a0_0 a0_1 false _ A2.out).mono ?_); rintro e w14 ⟨rfl, hb⟩; replace BK133 := ZW BK133 hb; replace HB := ZT HB hb; (try clear hb); (try clear hb2); (try clear hk); (try clear hi)))
  repeat (go_quiet (first | ((with_reducible refine gate_dst (N := 1) rfl ?_); refine ZX (N := 1) (cs := #[.int .i64 a0_0, .int .i64 a0_1]) (t := 25) ?_; intro gb133 hg w12 hbox hb; have BK133 := Aside0.mk (hbox); have GW133 : Aside0 (w.heap.size ≤ gb133) := ZS hg; have GE133 : Aside0 (w.heap.size ≤ gb133) := ZS hg; replace HB := ZT HB hb; clear hb hbox hg; obtain ⟨hcz13_0, hcz13_1⟩ := ZC2 w12 BK133; obtain ⟨hfz13_0, hfz13_1⟩ := ZF2 BK133) | (go_at_call 17; (with_reducible refine (impl_LabelOk.calls a0_0 a0_1 false _ A2.out).mono ?_); rintro e w14 ⟨rfl, hb⟩; replace BK133 := ZW BK133 hb; replace HB := ZT HB hb; (try clear hb); (try clear hb2); (try clear hk); (try clear hi))); try go_wp2_with (first | ((with_reducible refine gate_dst (N := 1) rfl ?_); refine ZX (N := 1) (cs := #[.int .i64 a0_0, .int .i64 a0_1]) (t := 25) ?_; intro gb133 hg w12 hbox hb; have BK133 := Aside0.mk (hbox); have GW133 : Aside0 (w.heap.size ≤ gb133) := ZS hg; have GE133 : Aside0 (w.heap.size ≤ gb133) := ZS hg; replace HB := ZT HB hb; clear hb hbox hg; obtain ⟨hcz13_0, hcz13_1⟩ := ZC2 w12 BK133; obtain ⟨hfz13_0, hfz13_1⟩ := ZF2 BK133) | (go_at_call 17; (with_reducible refine (impl_LabelOk.calls a0_0 a0_1 false _ A2.out).mono ?_); rintro e w14 ⟨rfl, hb⟩; replace BK133 := ZW BK133 hb; replace HB := ZT HB hb; (try clear hb); (try clear hb2); (try clear hk); (try clear hi))))
  go_ret
  exact ⟨ZE, ZB⟩

end Go.Proofs.YtgcioalgjcaikaaDoor.A
