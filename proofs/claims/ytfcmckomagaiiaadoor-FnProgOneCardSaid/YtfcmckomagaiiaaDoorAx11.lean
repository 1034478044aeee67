/- Go functions as Lean functions, and for each its contract; written by wip/tools/pr.py over the kit's print. -/
import Derived.Test.YtfcmckomagaiiaaDoorAx0
import Derived.Test.YtfcmckomagaiiaaDoorAx10
namespace Go.Proofs.YtfcmckomagaiiaaDoor.A
open Go.RowKit Go.Proofs.YtfcmckomagaiiaaDoorW.PrintWords Go.Proofs.YtfcmckomagaiiaaDoorW.PrintLast Go.Proofs.YtfcmckomagaiiaaDoorW.PrintMore
attribute [local go_sem] max2_int min2_int max_two min_two max_three min_three max_four min_four
set_option linter.unusedVariables false
set_option linter.unusedSimpArgs false
set_option maxHeartbeats 8000000
set_option maxRecDepth 100000

/-! ### impl_Val_text: function 47 -/
def impl_Val_text.f (a0_0 : Int) (a0_1 : Int) (a0_2 : Int) : Option (ByteArray) := if a0_0 = 1 then ((strconv_Itoa_48.f a0_1).bind fun t218 => (some t218)) else (if a0_0 = 2 then ((impl_varName.f a0_1).bind fun t219 => (some t219)) else (if a0_0 = 3 then ((impl_varName.f a0_1).bind fun t220 => (if t220.size + 1 ≤ 9223372036854775807 then ((impl_varName.f a0_2).bind fun t221 => (if (t220 ++ (⟨#[43]⟩ : ByteArray)).size + t221.size ≤ 9223372036854775807 then (some ((t220 ++ (⟨#[43]⟩ : ByteArray)) ++ t221)) else (none))) else (none))) else ((impl_varName.f a0_1).bind fun t222 => (if t222.size + 1 ≤ 9223372036854775807 then ((impl_varName.f a0_2).bind fun t223 => (if (t222 ++ (⟨#[61]⟩ : ByteArray)).size + t223.size ≤ 9223372036854775807 then (some ((t222 ++ (⟨#[61]⟩ : ByteArray)) ++ t223)) else (none))) else (none)))))
theorem impl_Val_text.calls (a0_0 : Int) (a0_1 : Int) (a0_2 : Int) (r : ByteArray) (w : World) (h : impl_Val_text.f a0_0 a0_1 a0_2 = some r) :
  Calls Tryd.prog 47 #[.agg #[.int .i64 a0_0, .int .i64 a0_1, .int .i64 a0_2]] w fun e w' => e = .returned (.string r) ∧ Below w.heap.size w w' := by
 have hu69 := Tryd.underlying69
 have HB := AM (Below.refl w.heap.size w)
 have H := h
 unfold impl_Val_text.f at H
 clear h
 by_cases c2 : a0_0 = 1
 ·(
 rw [if_pos c2] at H
 have c2b0 := beq_iff_eq.mpr c2
 have c2b1 := bne_eq_false_iff_eq.mpr c2
 clear c2
 obtain ⟨t218, A3, H⟩ := ZOB H; try dsimp only at H
 obtain rfl := Option.some.inj H
 go_enter Tryd.func47, Tryd.ntmps47
 go_wp2_with (first | ((with_reducible refine gate_dst (N := 1) rfl ?_); refine ZXW w (N := 1) (cs := #[.int .i64 a0_0, .int .i64 a0_1, .int .i64 a0_2]) (t := 69) ?_; intro gb217 hg w4 BK217 GW217 hb; replace HB := ZT HB hb; clear hb hg; have hcz5 := ZC3 w4 BK217) | (go_at_call 48; (with_reducible refine (strconv_Itoa_48.calls a0_1 t218 _ A3.out).mono ?_); rintro e w' ⟨rfl, ⟨nd, rfl⟩⟩; (try first | exact ⟨rfl, _, World.drewN_drewN _ _ _⟩ | exact ⟨rfl, _, Eq.trans (World.drewN_drewN _ _ _) (congrArg (World.drewN _) (Nat.add_assoc _ _ _))⟩)))
 repeat (go_quiet (first | ((with_reducible refine gate_dst (N := 1) rfl ?_); refine ZXW w (N := 1) (cs := #[.int .i64 a0_0, .int .i64 a0_1, .int .i64 a0_2]) (t := 69) ?_; intro gb217 hg w4 BK217 GW217 hb; replace HB := ZT HB hb; clear hb hg; have hcz5 := ZC3 w4 BK217) | (go_at_call 48; (with_reducible refine (strconv_Itoa_48.calls a0_1 t218 _ A3.out).mono ?_); rintro e w' ⟨rfl, ⟨nd, rfl⟩⟩; (try first | exact ⟨rfl, _, World.drewN_drewN _ _ _⟩ | exact ⟨rfl, _, Eq.trans (World.drewN_drewN _ _ _) (congrArg (World.drewN _) (Nat.add_assoc _ _ _))⟩))); try go_wp2_with (first | ((with_reducible refine gate_dst (N := 1) rfl ?_); refine ZXW w (N := 1) (cs := #[.int .i64 a0_0, .int .i64 a0_1, .int .i64 a0_2]) (t := 69) ?_; intro gb217 hg w4 BK217 GW217 hb; replace HB := ZT HB hb; clear hb hg; have hcz5 := ZC3 w4 BK217) | (go_at_call 48; (with_reducible refine (strconv_Itoa_48.calls a0_1 t218 _ A3.out).mono ?_); rintro e w' ⟨rfl, ⟨nd, rfl⟩⟩; (try first | exact ⟨rfl, _, World.drewN_drewN _ _ _⟩ | exact ⟨rfl, _, Eq.trans (World.drewN_drewN _ _ _) (congrArg (World.drewN _) (Nat.add_assoc _ _ _))⟩))))
 go_ret
 exact ⟨ZE, ZB⟩)
 ·(
 rw [if_neg c2] at H
 have c2b0 := beq_eq_false_iff_ne.mpr c2
 have c2b1 := bne_iff_ne.mpr c2
 by_cases c6 : a0_0 = 2
 ·(
 rw [if_pos c6] at H
 have c6b0 := beq_iff_eq.mpr c6
 have c6b1 := bne_eq_false_iff_eq.mpr c6
 clear c6
 obtain ⟨t219, A7, H⟩ := ZOB H; try dsimp only at H
 obtain rfl := Option.some.inj H
 go_enter Tryd.func47, Tryd.ntmps47
 go_wp2_with (first | ((with_reducible refine gate_dst (N := 1) rfl ?_); refine ZXW w (N := 1) (cs := #[.int .i64 a0_0, .int .i64 a0_1, .int .i64 a0_2]) (t := 69) ?_; intro gb217 hg w8 BK217 GW217 hb; replace HB := ZT HB hb; clear hb hg; have hcz9 := ZC3 w8 BK217) | (go_at_call 46; (with_reducible refine (impl_varName.calls a0_1 t219 _ A7.out).mono ?_); rintro e w' ⟨rfl, ⟨nd, rfl⟩⟩; (try first | exact ⟨rfl, _, World.drewN_drewN _ _ _⟩ | exact ⟨rfl, _, Eq.trans (World.drewN_drewN _ _ _) (congrArg (World.drewN _) (Nat.add_assoc _ _ _))⟩)))
 repeat (go_quiet (first | ((with_reducible refine gate_dst (N := 1) rfl ?_); refine ZXW w (N := 1) (cs := #[.int .i64 a0_0, .int .i64 a0_1, .int .i64 a0_2]) (t := 69) ?_; intro gb217 hg w8 BK217 GW217 hb; replace HB := ZT HB hb; clear hb hg; have hcz9 := ZC3 w8 BK217) | (go_at_call 46; (with_reducible refine (impl_varName.calls a0_1 t219 _ A7.out).mono ?_); rintro e w' ⟨rfl, ⟨nd, rfl⟩⟩; (try first | exact ⟨rfl, _, World.drewN_drewN _ _ _⟩ | exact ⟨rfl, _, Eq.trans (World.drewN_drewN _ _ _) (congrArg (World.drewN _) (Nat.add_assoc _ _ _))⟩))); try go_wp2_with (first | ((with_reducible refine gate_dst (N := 1) rfl ?_); refine ZXW w (N := 1) (cs := #[.int .i64 a0_0, .int .i64 a0_1, .int .i64 a0_2]) (t := 69) ?_; intro gb217 hg w8 BK217 GW217 hb; replace HB := ZT HB hb; clear hb hg; have hcz9 := ZC3 w8 BK217) | (go_at_call 46; (with_reducible refine (impl_varName.calls a0_1 t219 _ A7.out).mono ?_); rintro e w' ⟨rfl, ⟨nd, rfl⟩⟩; (try first | exact ⟨rfl, _, World.drewN_drewN _ _ _⟩ | exact ⟨rfl, _, Eq.trans (World.drewN_drewN _ _ _) (congrArg (World.drewN _) (Nat.add_assoc _ _ _))⟩))))
 go_ret
 exact ⟨ZE, ZB⟩)
 ·(
 rw [if_neg c6] at H
 have c6b0 := beq_eq_false_iff_ne.mpr c6
 have c6b1 := bne_iff_ne.mpr c6
 by_cases c10 : a0_0 = 3
 ·(
 rw [if_pos c10] at H
 have c10b0 := beq_iff_eq.mpr c10
 have c10b1 := bne_eq_false_iff_eq.mpr c10
 clear c10
 obtain ⟨t220, A11, H⟩ := ZOB H; try dsimp only at H
 by_cases c12 : t220.size + 1 ≤ 9223372036854775807
 ·(
 rw [if_pos c12] at H
 have c12b0 := eq_true c12
 have c12b1 := decide_eq_true c12
 try have c12b2 : (9223372036854775807 < t220.size + 1) = False := eq_false (Nat.not_lt.2 c12)
 obtain ⟨t221, A13, H⟩ := ZOB H; try dsimp only at H
 by_cases c14 : (t220 ++ (⟨#[43]⟩ : ByteArray)).size + t221.size ≤ 9223372036854775807
 ·(
 rw [if_pos c14] at H
 have c14b0 := eq_true c14
 have c14b1 := decide_eq_true c14
 try have c14b2 : (9223372036854775807 < (t220 ++ (⟨#[43]⟩ : ByteArray)).size + t221.size) = False := eq_false (Nat.not_lt.2 c14)
 try have c14b3 : (9223372036854775807 < t220.size + 1 + t221.size) = False := eq_false (by have h_ := c14; simp only [ByteArray.size_append] at h_; first | exact Nat.not_lt.2 h_ | (have e2_ : ∀ x : UInt8, (⟨#[x]⟩ : ByteArray).size = 1 := fun _ => rfl; have e3_ : ∀ x y : UInt8, (⟨#[x, y]⟩ : ByteArray).size = 2 := fun _ _ => rfl; simp only [e2_, e3_] at h_; omega))
 obtain rfl := Option.some.inj H
 go_enter Tryd.func47, Tryd.ntmps47
 go_wp2_with (first | ((with_reducible refine gate_dst (N := 1) rfl ?_); refine ZXW w (N := 1) (cs := #[.int .i64 a0_0, .int .i64 a0_1, .int .i64 a0_2]) (t := 69) ?_; intro gb217 hg w15 BK217 GW217 hb; replace HB := ZT HB hb; clear hb hg; have hcz16 := ZC3 w15 BK217) | (go_at_call 46; (with_reducible refine (impl_varName.calls a0_1 t220 _ A11.out).mono ?_); rintro e w' ⟨rfl, ⟨nd, rfl⟩⟩; (try first | exact ⟨rfl, _, World.drewN_drewN _ _ _⟩ | exact ⟨rfl, _, Eq.trans (World.drewN_drewN _ _ _) (congrArg (World.drewN _) (Nat.add_assoc _ _ _))⟩)) | (go_at_call 46; (with_reducible refine (impl_varName.calls a0_2 t221 _ A13.out).mono ?_); rintro e w' ⟨rfl, ⟨nd, rfl⟩⟩; (try first | exact ⟨rfl, _, World.drewN_drewN _ _ _⟩ | exact ⟨rfl, _, Eq.trans (World.drewN_drewN _ _ _) (congrArg (World.drewN _) (Nat.add_assoc _ _ _))⟩)))
 repeat (go_quiet (first | ((with_reducible refine gate_dst (N := 1) rfl ?_); refine ZXW w (N := 1) (cs := #[.int .i64 a0_0, .int .i64 a0_1, .int .i64 a0_2]) (t := 69) ?_; intro gb217 hg w15 BK217 GW217 hb; replace HB := ZT HB hb; clear hb hg; have hcz16 := ZC3 w15 BK217) | (go_at_call 46; (with_reducible refine (impl_varName.calls a0_1 t220 _ A11.out).mono ?_); rintro e w' ⟨rfl, ⟨nd, rfl⟩⟩; (try first | exact ⟨rfl, _, World.drewN_drewN _ _ _⟩ | exact ⟨rfl, _, Eq.trans (World.drewN_drewN _ _ _) (congrArg (World.drewN _) (Nat.add_assoc _ _ _))⟩)) | (go_at_call 46; (with_reducible refine (impl_varName.calls a0_2 t221 _ A13.out).mono ?_); rintro e w' ⟨rfl, ⟨nd, rfl⟩⟩; (try first | exact ⟨rfl, _, World.drewN_drewN _ _ _⟩ | exact ⟨rfl, _, Eq.trans (World.drewN_drewN _ _ _) (congrArg (World.drewN _) (Nat.add_assoc _ _ _))⟩))); try go_wp2_with (first | ((with_reducible refine gate_dst (N := 1) rfl ?_); refine ZXW w (N := 1) (cs := #[.int .i64 a0_0, .int .i64 a0_1, .int .i64 a0_2]) (t := 69) ?_; intro gb217 hg w15 BK217 GW217 hb; replace HB := ZT HB hb; clear hb hg; have hcz16 := ZC3 w15 BK217) | (go_at_call 46; (with_reducible refine (impl_varName.calls a0_1 t220 _ A11.out).mono ?_); rintro e w' ⟨rfl, ⟨nd, rfl⟩⟩; (try first | exact ⟨rfl, _, World.drewN_drewN _ _ _⟩ | exact ⟨rfl, _, Eq.trans (World.drewN_drewN _ _ _) (congrArg (World.drewN _) (Nat.add_assoc _ _ _))⟩)) | (go_at_call 46; (with_reducible refine (impl_varName.calls a0_2 t221 _ A13.out).mono ?_); rintro e w' ⟨rfl, ⟨nd, rfl⟩⟩; (try first | exact ⟨rfl, _, World.drewN_drewN _ _ _⟩ | exact ⟨rfl, _, Eq.trans (World.drewN_drewN _ _ _) (congrArg (World.drewN _) (Nat.add_assoc _ _ _))⟩))))
 go_ret
 exact ⟨ZE, ZB⟩)
 ·(
 rw [if_neg c14] at H
 exact absurd H (by simp)))
 ·(
 rw [if_neg c12] at H
 exact absurd H (by simp)))
 ·(
 rw [if_neg c10] at H
 have c10b0 := beq_eq_false_iff_ne.mpr c10
 have c10b1 := bne_iff_ne.mpr c10
 obtain ⟨t222, A17, H⟩ := ZOB H; try dsimp only at H
 by_cases c18 : t222.size + 1 ≤ 9223372036854775807
 ·(
 rw [if_pos c18] at H
 have c18b0 := eq_true c18
 have c18b1 := decide_eq_true c18
 try have c18b2 : (9223372036854775807 < t222.size + 1) = False := eq_false (Nat.not_lt.2 c18)
 obtain ⟨t223, A19, H⟩ := ZOB H; try dsimp only at H
 by_cases c20 : (t222 ++ (⟨#[61]⟩ : ByteArray)).size + t223.size ≤ 9223372036854775807
 ·(
 rw [if_pos c20] at H
 have c20b0 := eq_true c20
 have c20b1 := decide_eq_true c20
 try have c20b2 : (9223372036854775807 < (t222 ++ (⟨#[61]⟩ : ByteArray)).size + t223.size) = False := eq_false (Nat.not_lt.2 c20)
 try have c20b3 : (9223372036854775807 < t222.size + 1 + t223.size) = False := eq_false (by have h_ := c20; simp only [ByteArray.size_append] at h_; first | exact Nat.not_lt.2 h_ | (have e2_ : ∀ x : UInt8, (⟨#[x]⟩ : ByteArray).size = 1 := fun _ => rfl; have e3_ : ∀ x y : UInt8, (⟨#[x, y]⟩ : ByteArray).size = 2 := fun _ _ => rfl; simp only [e2_, e3_] at h_; omega))
 obtain rfl := Option.some.inj H
 go_enter Tryd.func47, Tryd.ntmps47
 go_wp2_with (first | ((with_reducible refine gate_dst (N := 1) rfl ?_); refine ZXW w (N := 1) (cs := #[.int .i64 a0_0, .int .i64 a0_1, .int .i64 a0_2]) (t := 69) ?_; intro gb217 hg w21 BK217 GW217 hb; replace HB := ZT HB hb; clear hb hg; have hcz22 := ZC3 w21 BK217) | (go_at_call 46; (with_reducible refine (impl_varName.calls a0_1 t222 _ A17.out).mono ?_); rintro e w' ⟨rfl, ⟨nd, rfl⟩⟩; (try first | exact ⟨rfl, _, World.drewN_drewN _ _ _⟩ | exact ⟨rfl, _, Eq.trans (World.drewN_drewN _ _ _) (congrArg (World.drewN _) (Nat.add_assoc _ _ _))⟩)) | (go_at_call 46; (with_reducible refine (impl_varName.calls a0_2 t223 _ A19.out).mono ?_); rintro e w' ⟨rfl, ⟨nd, rfl⟩⟩; (try first | exact ⟨rfl, _, World.drewN_drewN _ _ _⟩ | exact ⟨rfl, _, Eq.trans (World.drewN_drewN _ _ _) (congrArg (World.drewN _) (Nat.add_assoc _ _ _))⟩)))
 repeat (go_quiet (first | ((with_reducible refine gate_dst (N := 1) rfl ?_); refine ZXW w (N := 1) (cs := #[.int .i64 a0_0, .int .i64 a0_1, .int .i64 a0_2]) (t := 69) ?_; intro gb217 hg w21 BK217 GW217 hb; replace HB := ZT HB hb; clear hb hg; have hcz22 := ZC3 w21 BK217) | (go_at_call 46; (with_reducible refine (impl_varName.calls a0_1 t222 _ A17.out).mono ?_); rintro e w' ⟨rfl, ⟨nd, rfl⟩⟩; (try first | exact ⟨rfl, _, World.drewN_drewN _ _ _⟩ | exact ⟨rfl, _, Eq.trans (World.drewN_drewN _ _ _) (congrArg (World.drewN _) (Nat.add_assoc _ _ _))⟩)) | (go_at_call 46; (with_reducible refine (impl_varName.calls a0_2 t223 _ A19.out).mono ?_); rintro e w' ⟨rfl, ⟨nd, rfl⟩⟩; (try first | exact ⟨rfl, _, World.drewN_drewN _ _ _⟩ | exact ⟨rfl, _, Eq.trans (World.drewN_drewN _ _ _) (congrArg (World.drewN _) (Nat.add_assoc _ _ _))⟩))); try go_wp2_with (first | ((with_reducible refine gate_dst (N := 1) rfl ?_); refine ZXW w (N := 1) (cs := #[.int .i64 a0_0, .int .i64 a0_1, .int .i64 a0_2]) (t := 69) ?_; intro gb217 hg w21 BK217 GW217 hb; replace HB := ZT HB hb; clear hb hg; have hcz22 := ZC3 w21 BK217) | (go_at_call 46; (with_reducible refine (impl_varName.calls a0_1 t222 _ A17.out).mono ?_); rintro e w' ⟨rfl, ⟨nd, rfl⟩⟩; (try first | exact ⟨rfl, _, World.drewN_drewN _ _ _⟩ | exact ⟨rfl, _, Eq.trans (World.drewN_drewN _ _ _) (congrArg (World.drewN _) (Nat.add_assoc _ _ _))⟩)) | (go_at_call 46; (with_reducible refine (impl_varName.calls a0_2 t223 _ A19.out).mono ?_); rintro e w' ⟨rfl, ⟨nd, rfl⟩⟩; (try first | exact ⟨rfl, _, World.drewN_drewN _ _ _⟩ | exact ⟨rfl, _, Eq.trans (World.drewN_drewN _ _ _) (congrArg (World.drewN _) (Nat.add_assoc _ _ _))⟩))))
 go_ret
 exact ⟨ZE, ZB⟩)
 ·(
 rw [if_neg c20] at H
 exact absurd H (by simp)))
 ·(
 rw [if_neg c18] at H
 exact absurd H (by simp)))))

end Go.Proofs.YtfcmckomagaiiaaDoor.A
