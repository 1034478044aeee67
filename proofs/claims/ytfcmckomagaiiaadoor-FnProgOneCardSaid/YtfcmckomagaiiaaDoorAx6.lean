/- Go functions as Lean functions, and for each its contract; written by wip/tools/pr.py over the kit's print. -/
import Derived.Test.YtfcmckomagaiiaaDoorAx0
import Derived.Test.YtfcmckomagaiiaaDoorAx3
import Derived.Test.YtfcmckomagaiiaaDoorAx5
namespace Go.Proofs.YtfcmckomagaiiaaDoor.A
open Go.RowKit Go.Proofs.YtfcmckomagaiiaaDoorW.PrintWords Go.Proofs.YtfcmckomagaiiaaDoorW.PrintLast Go.Proofs.YtfcmckomagaiiaaDoorW.PrintMore
attribute [local go_sem] max2_int min2_int max_two min_two max_three min_three max_four min_four
set_option linter.unusedVariables false
set_option linter.unusedSimpArgs false
set_option maxHeartbeats 8000000
set_option maxRecDepth 100000

/-! ### spec_LabelText: function 15 -/
def spec_LabelText.f (k : Nat) (a0_0 : Int) (a0_1 : Int) : Option (ByteArray) := (spec_LabelOk.f a0_0 a0_1).bind fun t144 => (if t144 = true then ((spec_l1Say.f k a0_0).bind fun t145 => (if t145.size + 1 ≤ 9223372036854775807 then ((spec_l1Say.f k a0_1).bind fun t146 => (if (t145 ++ (⟨#[33]⟩ : ByteArray)).size + t146.size ≤ 9223372036854775807 then (some ((t145 ++ (⟨#[33]⟩ : ByteArray)) ++ t146)) else (none))) else (none))) else (some (⟨#[]⟩ : ByteArray)))
def spec_LabelText.T3 : Bool × List (List Nat × List Nat) := (true, [([], []), ([0], [0]), ([1], [1]), ([2], [2]), ([], []), ([4], [4]), ([5, 2], [5]), ([3, 6], [3, 6]), ([7, 6, 0, 1, 2, 3, 4, 5, 6, 7], [7])])
def spec_LabelText.B3 : List Nat := [0, 1, 3, 7, 0, 16, 55, 127, 255]
theorem spec_LabelText.tab3 : rtab .any (opsOf Tryd.f15 3) = spec_LabelText.T3 := by kernel_rfl
theorem spec_LabelText.bits3 : waitsOk spec_LabelText.T3.2 spec_LabelText.B3 = true := by kernel_rfl
theorem spec_LabelText.calls (k : Nat) (a0_0 : Int) (a0_1 : Int) (r : ByteArray) (w : World) (h : spec_LabelText.f k a0_0 a0_1 = some r) :
  Calls Tryd.prog 15 #[.agg #[.int .i64 a0_0, .int .i64 a0_1]] w fun e w' => e = .returned (.string r) ∧ Below w.heap.size w w' := by
 have hu43 := Tryd.underlying43
 have HB := AM (Below.refl w.heap.size w)
 have H := h
 unfold spec_LabelText.f at H
 clear h
 obtain ⟨t144, A2, H⟩ := ZOB H; try dsimp only at H
 by_cases c3 : t144 = true
 ·(
 subst c3
 have H1 := H; rw [if_pos rfl] at H1
 clear H
 have H := H1
 clear H1
 obtain ⟨t145, A4, H⟩ := ZOB H; try dsimp only at H
 by_cases c5 : t145.size + 1 ≤ 9223372036854775807
 ·(
 rw [if_pos c5] at H
 have c5b0 := eq_true c5
 have c5b1 := decide_eq_true c5
 try have c5b2 : (9223372036854775807 < t145.size + 1) = False := eq_false (Nat.not_lt.2 c5)
 obtain ⟨t146, A6, H⟩ := ZOB H; try dsimp only at H
 by_cases c7 : (t145 ++ (⟨#[33]⟩ : ByteArray)).size + t146.size ≤ 9223372036854775807
 ·(
 rw [if_pos c7] at H
 have c7b0 := eq_true c7
 have c7b1 := decide_eq_true c7
 try have c7b2 : (9223372036854775807 < (t145 ++ (⟨#[33]⟩ : ByteArray)).size + t146.size) = False := eq_false (Nat.not_lt.2 c7)
 try have c7b3 : (9223372036854775807 < t145.size + 1 + t146.size) = False := eq_false (by have h_ := c7; simp only [ByteArray.size_append] at h_; first | exact Nat.not_lt.2 h_ | (have e2_ : ∀ x : UInt8, (⟨#[x]⟩ : ByteArray).size = 1 := fun _ => rfl; have e3_ : ∀ x y : UInt8, (⟨#[x, y]⟩ : ByteArray).size = 2 := fun _ _ => rfl; simp only [e2_, e3_] at h_; omega))
 obtain rfl := Option.some.inj H
 go_enter Tryd.func15, Tryd.ntmps15
 try go_wp2_with (first | ((with_reducible refine gate_dst (N := 1) rfl ?_); refine ZXW w (N := 1) (cs := #[.int .i64 a0_0, .int .i64 a0_1]) (t := 43) ?_; intro gb143 hg w8 BK143 GW143 hb; replace HB := ZT HB hb; clear hb hg; have hcz9 := ZC2 w8 BK143) | ((with_reducible refine gate_callee (f := 28) rfl ?_); refine ZGL (some 4) Tryd.func28 #[.agg #[.int .i64 a0_0, .int .i64 a0_1]] ?_; (with_reducible refine (spec_LabelOk.calls a0_0 a0_1 true _ A2.out).mono ?_); rintro e w10 ⟨rfl, hb⟩; refine ZV1 ?_; replace BK143 := ZW BK143 hb; replace HB := ZT HB hb; clear hb))
 replace BK143 := AM (blk_drew BK143.out)
 replace HB := AM (below_drew1 HB.out)
 refine start_ (n := 9) (S := fun w' => w'.cell? ⟨gb143, 0, none⟩ = some (.int .i64 a0_0) ∧ w'.cell? ⟨gb143, 1, none⟩ = some (.int .i64 a0_1)) (ds := []) #[F,F,F,F,F,F,F,F,F] (by kernel_rfl) rfl rfl ⟨ZA BK143 0, ZA BK143 1⟩ (fun hHeld => ?_); refine with_tabW spec_LabelText.tab3 spec_LabelText.bits3 (fun HT_ HW_ => ?_)
 generalize w10.drew = w11 at BK143 HB hHeld ⊢
 refine ZU 0 6 #[T,F,F,F,F,F,F,F,F] ?_
 refine ZU 4 10 #[T,F,F,F,T,F,F,F,F] ?_
 refine ZTK 1 7 #[T,T,F,F,T,F,F,F,F] hHeld ?_
 refine ZTK 5 11 #[T,T,F,F,T,T,F,F,F] hHeld ?_
 refine one_ (i := 2) (N := some 8) #[T,T,T,F,T,T,F,F,F] rfl rfl (one_of HT_.out (by kernel_rfl)) (by decide) (fun K hK => ?_)
 refine ZGO Tryd.func33 #[.int .i64 a0_0] ?_
 with_reducible refine (spec_l1Say.calls k a0_0 t145 _ A4.out).mono ?_
 rintro e w12 ⟨rfl, hb⟩
 refine ZV1 ?_
 replace BK143 := ZW BK143 hb
 replace HB := ZT HB hb
 (try clear hb)
 (try clear hb2)
 (try clear hk)
 (try clear hi)
 refine hK.out _ _ ⟨ZA BK143 0, ZA BK143 1⟩ (fun hHeld => ?_)
 clear hK K
 refine ZNO 8 ?_
 refine ZU 3 9 #[T,T,T,T,T,T,F,F,F] ?_
 refine one_ (i := 6) (N := some 12) #[T,T,T,T,T,T,T,F,F] rfl rfl (one_of HT_.out (by kernel_rfl)) (by decide) (fun K hK => ?_)
 refine ZGO Tryd.func33 #[.int .i64 a0_1] ?_
 with_reducible refine (spec_l1Say.calls k a0_1 t146 _ A6.out).mono ?_
 rintro e w13 ⟨rfl, hb⟩
 refine ZV1 ?_
 replace BK143 := ZW BK143 hb
 replace HB := ZT HB hb
 (try clear hb)
 (try clear hb2)
 (try clear hk)
 (try clear hi)
 refine hK.out _ _ ⟨ZA BK143 0, ZA BK143 1⟩ (fun hHeld => ?_)
 clear hK K
 refine ZNO 12 ?_
 refine ZU 7 13 #[T,T,T,T,T,T,T,T,F] ?_
 refine ZU 8 2 #[T,T,T,T,T,T,T,T,T] ?_
 refine done_ (done_of HT_.out (by kernel_rfl)) ?_
 try go_wp2
 go_ret
 exact ⟨ZE, ZB⟩)
 ·(
 rw [if_neg c7] at H
 exact absurd H (by simp)))
 ·(
 rw [if_neg c5] at H
 exact absurd H (by simp)))
 ·(
 replace c3 := Bool.eq_false_iff.mpr c3
 subst c3
 have H1 := H; rw [if_neg ZFT] at H1
 clear H
 have H := H1
 clear H1
 obtain rfl := Option.some.inj H
 go_enter Tryd.func15, Tryd.ntmps15
 go_wp2_with (first | ((with_reducible refine gate_dst (N := 1) rfl ?_); refine ZXW w (N := 1) (cs := #[.int .i64 a0_0, .int .i64 a0_1]) (t := 43) ?_; intro gb143 hg w14 BK143 GW143 hb; replace HB := ZT HB hb; clear hb hg; have hcz15 := ZC2 w14 BK143) | ((with_reducible refine gate_callee (f := 28) rfl ?_); refine ZGL (some 4) Tryd.func28 #[.agg #[.int .i64 a0_0, .int .i64 a0_1]] ?_; (with_reducible refine (spec_LabelOk.calls a0_0 a0_1 false _ A2.out).mono ?_); rintro e w16 ⟨rfl, hb⟩; refine ZV1 ?_; replace BK143 := ZW BK143 hb; replace HB := ZT HB hb; clear hb))
 go_ret
 exact ⟨ZE, ZB⟩)

/-! ### spec_l2Name: function 34 -/
def spec_l2Name.f (a0 : Int) : Option (ByteArray) := some (strOfNums (([(wrap64 (97 + a0)) % 256] : List Int)))
theorem spec_l2Name.calls (a0 : Int) (r : ByteArray) (w : World) (h : spec_l2Name.f a0 = some r) :
  Calls Tryd.prog 34 #[.int .i64 a0] w fun e w' => e = .returned (.string r) ∧ Below w.heap.size w w' := by
 have HB := AM (Below.refl w.heap.size w)
 have H := h
 unfold spec_l2Name.f at H
 clear h
 obtain ⟨y147, hy147⟩ : ∃ y_ : List Int, y_ = (([(wrap64 (97 + a0)) % 256] : List Int)) := ⟨_, rfl⟩
 replace H : (some (strOfNums y147)) = some r := by rw [hy147]; exact H
 have Ny147 := AM hy147
 clear hy147
 obtain rfl := Option.some.inj H
 go_enter Tryd.func34, Tryd.ntmps34
 go_wp2_with (first | ((with_reducible refine gate_dst (N := 6) rfl ?_); refine Kd.R_lit (Kd.int .u8) _ 5 ?hg (N := 6) ?hd (xs := ([(wrap64 (97 + a0)) % 256] : List Int)) (inner := [.int .u8 ((wrap64 (97 + a0)) % 256)]) (ok := fun _ => True) (okp := fun _ => True) ?hr ?hp (fun _ hk => hk) trivial (Below.refl _ _) (Nat.le_refl _) (by simp) ?_; (case hd => rfl); (case hg => rfl); (case hr => first | (go_simp; done) | (go_simp; rfl)); (case hp => exact (Reps.one (show Kd.M (Kd.int .u8) _ _ _ ((wrap64 (97 + a0)) % 256) [.int .u8 ((wrap64 (97 + a0)) % 256)] from rfl) (Reps.none _ _))); intro v148 w2 ho3 hb hg_ hnew_; clear hg_ hnew_; (first | rw [← Ny147.out] at ho3 | (simp only [Int.reduceToNat] at ho3; rw [← Ny147.out] at ho3)); have HO149 := AM (Kd.R_lower ho3 (below_size (ZB))); replace HB := ZT HB hb; clear hb ho3; have hcv4 := own_string (P := Tryd.prog) Tryd.underlying35 Tryd.underlying5 Tryd.underlying9 (Kd.own_of_R HO149.out)))
 go_ret
 exact ⟨ZE, ZB⟩

/-! ### spec_l2SayVal: function 35 -/
def spec_l2SayVal.f (k : Nat) (a0_0 : Int) (a0_1 : Int) (a0_2 : Int) : Option (ByteArray) := if a0_0 = 1 then ((spec_l6Dec.f k a0_1).bind fun t151 => (some t151)) else (if a0_0 = 2 then ((spec_l2Name.f a0_1).bind fun t152 => (some t152)) else (if a0_0 = 3 then ((spec_l2Name.f a0_1).bind fun t153 => (if t153.size + 1 ≤ 9223372036854775807 then ((spec_l2Name.f a0_2).bind fun t154 => (if (t153 ++ (⟨#[43]⟩ : ByteArray)).size + t154.size ≤ 9223372036854775807 then (some ((t153 ++ (⟨#[43]⟩ : ByteArray)) ++ t154)) else (none))) else (none))) else ((spec_l2Name.f a0_1).bind fun t155 => (if t155.size + 1 ≤ 9223372036854775807 then ((spec_l2Name.f a0_2).bind fun t156 => (if (t155 ++ (⟨#[61]⟩ : ByteArray)).size + t156.size ≤ 9223372036854775807 then (some ((t155 ++ (⟨#[61]⟩ : ByteArray)) ++ t156)) else (none))) else (none)))))
def spec_l2SayVal.T7 : Bool × List (List Nat × List Nat) := (true, [([], []), ([0], [0]), ([1], [1]), ([2], [2]), ([], []), ([4], [4]), ([5, 2], [5]), ([3, 6], [3, 6]), ([7, 6, 0, 1, 2, 3, 4, 5, 6, 7], [7])])
def spec_l2SayVal.B7 : List Nat := [0, 1, 3, 7, 0, 16, 55, 127, 255]
theorem spec_l2SayVal.tab7 : rtab .any (opsOf Tryd.f35 7) = spec_l2SayVal.T7 := by kernel_rfl
theorem spec_l2SayVal.bits7 : waitsOk spec_l2SayVal.T7.2 spec_l2SayVal.B7 = true := by kernel_rfl
def spec_l2SayVal.T8 : Bool × List (List Nat × List Nat) := (true, [([], []), ([0], [0]), ([1], [1]), ([2], [2]), ([], []), ([4], [4]), ([5, 2], [5]), ([3, 6], [3, 6]), ([7, 6, 0, 1, 2, 3, 4, 5, 6, 7], [7])])
def spec_l2SayVal.B8 : List Nat := [0, 1, 3, 7, 0, 16, 55, 127, 255]
theorem spec_l2SayVal.tab8 : rtab .any (opsOf Tryd.f35 8) = spec_l2SayVal.T8 := by kernel_rfl
theorem spec_l2SayVal.bits8 : waitsOk spec_l2SayVal.T8.2 spec_l2SayVal.B8 = true := by kernel_rfl
theorem spec_l2SayVal.calls (k : Nat) (a0_0 : Int) (a0_1 : Int) (a0_2 : Int) (r : ByteArray) (w : World) (h : spec_l2SayVal.f k a0_0 a0_1 a0_2 = some r) :
  Calls Tryd.prog 35 #[.agg #[.int .i64 a0_0, .int .i64 a0_1, .int .i64 a0_2]] w fun e w' => e = .returned (.string r) ∧ Below w.heap.size w w' := by
 have hu69 := Tryd.underlying69
 have HB := AM (Below.refl w.heap.size w)
 have H := h
 unfold spec_l2SayVal.f at H
 clear h
 by_cases c2 : a0_0 = 1
 ·(
 rw [if_pos c2] at H
 have c2b0 := beq_iff_eq.mpr c2
 have c2b1 := bne_eq_false_iff_eq.mpr c2
 clear c2
 obtain ⟨t151, A3, H⟩ := ZOB H; try dsimp only at H
 obtain rfl := Option.some.inj H
 go_enter Tryd.func35, Tryd.ntmps35
 go_wp2_with (first | ((with_reducible refine gate_dst (N := 1) rfl ?_); refine ZXW w (N := 1) (cs := #[.int .i64 a0_0, .int .i64 a0_1, .int .i64 a0_2]) (t := 69) ?_; intro gb150 hg w4 BK150 GW150 hb; replace HB := ZT HB hb; clear hb hg; have hcz5 := ZC3 w4 BK150) | ((with_reducible refine gate_callee (f := 36) rfl ?_); refine ZGL (some 9) Tryd.func36 #[.int .i64 a0_1] ?_; (with_reducible refine (spec_l6Dec.calls k a0_1 t151 _ A3.out).mono ?_); rintro e w6 ⟨rfl, hb⟩; refine ZV1 ?_; replace BK150 := ZW BK150 hb; replace HB := ZT HB hb; clear hb))
 go_ret
 exact ⟨ZE, ZB⟩)
 ·(
 rw [if_neg c2] at H
 have c2b0 := beq_eq_false_iff_ne.mpr c2
 have c2b1 := bne_iff_ne.mpr c2
 by_cases c7 : a0_0 = 2
 ·(
 rw [if_pos c7] at H
 have c7b0 := beq_iff_eq.mpr c7
 have c7b1 := bne_eq_false_iff_eq.mpr c7
 clear c7
 obtain ⟨t152, A8, H⟩ := ZOB H; try dsimp only at H
 obtain rfl := Option.some.inj H
 go_enter Tryd.func35, Tryd.ntmps35
 go_wp2_with (first | ((with_reducible refine gate_dst (N := 1) rfl ?_); refine ZXW w (N := 1) (cs := #[.int .i64 a0_0, .int .i64 a0_1, .int .i64 a0_2]) (t := 69) ?_; intro gb150 hg w9 BK150 GW150 hb; replace HB := ZT HB hb; clear hb hg; have hcz10 := ZC3 w9 BK150) | ((with_reducible refine gate_callee (f := 34) rfl ?_); refine ZGL (some 14) Tryd.func34 #[.int .i64 a0_1] ?_; (with_reducible refine (spec_l2Name.calls a0_1 t152 _ A8.out).mono ?_); rintro e w11 ⟨rfl, hb⟩; refine ZV1 ?_; replace BK150 := ZW BK150 hb; replace HB := ZT HB hb; clear hb))
 go_ret
 exact ⟨ZE, ZB⟩)
 ·(
 rw [if_neg c7] at H
 have c7b0 := beq_eq_false_iff_ne.mpr c7
 have c7b1 := bne_iff_ne.mpr c7
 by_cases c12 : a0_0 = 3
 ·(
 rw [if_pos c12] at H
 have c12b0 := beq_iff_eq.mpr c12
 have c12b1 := bne_eq_false_iff_eq.mpr c12
 clear c12
 obtain ⟨t153, A13, H⟩ := ZOB H; try dsimp only at H
 by_cases c14 : t153.size + 1 ≤ 9223372036854775807
 ·(
 rw [if_pos c14] at H
 have c14b0 := eq_true c14
 have c14b1 := decide_eq_true c14
 try have c14b2 : (9223372036854775807 < t153.size + 1) = False := eq_false (Nat.not_lt.2 c14)
 obtain ⟨t154, A15, H⟩ := ZOB H; try dsimp only at H
 by_cases c16 : (t153 ++ (⟨#[43]⟩ : ByteArray)).size + t154.size ≤ 9223372036854775807
 ·(
 rw [if_pos c16] at H
 have c16b0 := eq_true c16
 have c16b1 := decide_eq_true c16
 try have c16b2 : (9223372036854775807 < (t153 ++ (⟨#[43]⟩ : ByteArray)).size + t154.size) = False := eq_false (Nat.not_lt.2 c16)
 try have c16b3 : (9223372036854775807 < t153.size + 1 + t154.size) = False := eq_false (by have h_ := c16; simp only [ByteArray.size_append] at h_; first | exact Nat.not_lt.2 h_ | (have e2_ : ∀ x : UInt8, (⟨#[x]⟩ : ByteArray).size = 1 := fun _ => rfl; have e3_ : ∀ x y : UInt8, (⟨#[x, y]⟩ : ByteArray).size = 2 := fun _ _ => rfl; simp only [e2_, e3_] at h_; omega))
 obtain rfl := Option.some.inj H
 go_enter Tryd.func35, Tryd.ntmps35
 try go_wp2_with (first | ((with_reducible refine gate_dst (N := 1) rfl ?_); refine ZXW w (N := 1) (cs := #[.int .i64 a0_0, .int .i64 a0_1, .int .i64 a0_2]) (t := 69) ?_; intro gb150 hg w17 BK150 GW150 hb; replace HB := ZT HB hb; clear hb hg; have hcz18 := ZC3 w17 BK150))
 replace BK150 := AM (blk_drew BK150.out)
 replace HB := AM (below_drew1 HB.out)
 refine start_ (n := 9) (S := fun w' => w'.cell? ⟨gb150, 0, none⟩ = some (.int .i64 a0_0) ∧ w'.cell? ⟨gb150, 1, none⟩ = some (.int .i64 a0_1) ∧ w'.cell? ⟨gb150, 2, none⟩ = some (.int .i64 a0_2)) (ds := []) #[F,F,F,F,F,F,F,F,F] (by kernel_rfl) rfl rfl ⟨ZA BK150 0, ZA BK150 1, ZA BK150 2⟩ (fun hHeld => ?_); refine with_tabW spec_l2SayVal.tab7 spec_l2SayVal.bits7 (fun HT_ HW_ => ?_)
 generalize w17.drew = w19 at BK150 HB hHeld ⊢
 refine ZU 0 17 #[T,F,F,F,F,F,F,F,F] ?_
 refine ZU 4 21 #[T,F,F,F,T,F,F,F,F] ?_
 refine ZTK 1 18 #[T,T,F,F,T,F,F,F,F] hHeld ?_
 refine ZTK 5 22 #[T,T,F,F,T,T,F,F,F] hHeld ?_
 refine one_ (i := 2) (N := some 19) #[T,T,T,F,T,T,F,F,F] rfl rfl (one_of HT_.out (by kernel_rfl)) (by decide) (fun K hK => ?_)
 refine ZGO Tryd.func34 #[.int .i64 a0_1] ?_
 with_reducible refine (spec_l2Name.calls a0_1 t153 _ A13.out).mono ?_
 rintro e w20 ⟨rfl, hb⟩
 refine ZV1 ?_
 replace BK150 := ZW BK150 hb
 replace HB := ZT HB hb
 (try clear hb)
 (try clear hb2)
 (try clear hk)
 (try clear hi)
 refine hK.out _ _ ⟨ZA BK150 0, ZA BK150 1, ZA BK150 2⟩ (fun hHeld => ?_)
 clear hK K
 refine ZNO 19 ?_
 refine ZU 3 20 #[T,T,T,T,T,T,F,F,F] ?_
 refine one_ (i := 6) (N := some 23) #[T,T,T,T,T,T,T,F,F] rfl rfl (one_of HT_.out (by kernel_rfl)) (by decide) (fun K hK => ?_)
 refine ZGO Tryd.func34 #[.int .i64 a0_2] ?_
 with_reducible refine (spec_l2Name.calls a0_2 t154 _ A15.out).mono ?_
 rintro e w21 ⟨rfl, hb⟩
 refine ZV1 ?_
 replace BK150 := ZW BK150 hb
 replace HB := ZT HB hb
 (try clear hb)
 (try clear hb2)
 (try clear hk)
 (try clear hi)
 refine hK.out _ _ ⟨ZA BK150 0, ZA BK150 1, ZA BK150 2⟩ (fun hHeld => ?_)
 clear hK K
 refine ZNO 23 ?_
 refine ZU 7 24 #[T,T,T,T,T,T,T,T,F] ?_
 refine ZU 8 2 #[T,T,T,T,T,T,T,T,T] ?_
 refine done_ (done_of HT_.out (by kernel_rfl)) ?_
 try go_wp2
 go_ret
 exact ⟨ZE, ZB⟩)
 ·(
 rw [if_neg c16] at H
 exact absurd H (by simp)))
 ·(
 rw [if_neg c14] at H
 exact absurd H (by simp)))
 ·(
 rw [if_neg c12] at H
 have c12b0 := beq_eq_false_iff_ne.mpr c12
 have c12b1 := bne_iff_ne.mpr c12
 obtain ⟨t155, A22, H⟩ := ZOB H; try dsimp only at H
 by_cases c23 : t155.size + 1 ≤ 9223372036854775807
 ·(
 rw [if_pos c23] at H
 have c23b0 := eq_true c23
 have c23b1 := decide_eq_true c23
 try have c23b2 : (9223372036854775807 < t155.size + 1) = False := eq_false (Nat.not_lt.2 c23)
 obtain ⟨t156, A24, H⟩ := ZOB H; try dsimp only at H
 by_cases c25 : (t155 ++ (⟨#[61]⟩ : ByteArray)).size + t156.size ≤ 9223372036854775807
 ·(
 rw [if_pos c25] at H
 have c25b0 := eq_true c25
 have c25b1 := decide_eq_true c25
 try have c25b2 : (9223372036854775807 < (t155 ++ (⟨#[61]⟩ : ByteArray)).size + t156.size) = False := eq_false (Nat.not_lt.2 c25)
 try have c25b3 : (9223372036854775807 < t155.size + 1 + t156.size) = False := eq_false (by have h_ := c25; simp only [ByteArray.size_append] at h_; first | exact Nat.not_lt.2 h_ | (have e2_ : ∀ x : UInt8, (⟨#[x]⟩ : ByteArray).size = 1 := fun _ => rfl; have e3_ : ∀ x y : UInt8, (⟨#[x, y]⟩ : ByteArray).size = 2 := fun _ _ => rfl; simp only [e2_, e3_] at h_; omega))
 obtain rfl := Option.some.inj H
 go_enter Tryd.func35, Tryd.ntmps35
 try go_wp2_with (first | ((with_reducible refine gate_dst (N := 1) rfl ?_); refine ZXW w (N := 1) (cs := #[.int .i64 a0_0, .int .i64 a0_1, .int .i64 a0_2]) (t := 69) ?_; intro gb150 hg w26 BK150 GW150 hb; replace HB := ZT HB hb; clear hb hg; have hcz27 := ZC3 w26 BK150))
 replace BK150 := AM (blk_drew BK150.out)
 replace HB := AM (below_drew1 HB.out)
 refine start_ (n := 9) (S := fun w' => w'.cell? ⟨gb150, 0, none⟩ = some (.int .i64 a0_0) ∧ w'.cell? ⟨gb150, 1, none⟩ = some (.int .i64 a0_1) ∧ w'.cell? ⟨gb150, 2, none⟩ = some (.int .i64 a0_2)) (ds := []) #[F,F,F,F,F,F,F,F,F] (by kernel_rfl) rfl rfl ⟨ZA BK150 0, ZA BK150 1, ZA BK150 2⟩ (fun hHeld => ?_); refine with_tabW spec_l2SayVal.tab8 spec_l2SayVal.bits8 (fun HT_ HW_ => ?_)
 generalize w26.drew = w28 at BK150 HB hHeld ⊢
 refine ZU 0 25 #[T,F,F,F,F,F,F,F,F] ?_
 refine ZU 4 29 #[T,F,F,F,T,F,F,F,F] ?_
 refine ZTK 1 26 #[T,T,F,F,T,F,F,F,F] hHeld ?_
 refine ZTK 5 30 #[T,T,F,F,T,T,F,F,F] hHeld ?_
 refine one_ (i := 2) (N := some 27) #[T,T,T,F,T,T,F,F,F] rfl rfl (one_of HT_.out (by kernel_rfl)) (by decide) (fun K hK => ?_)
 refine ZGO Tryd.func34 #[.int .i64 a0_1] ?_
 with_reducible refine (spec_l2Name.calls a0_1 t155 _ A22.out).mono ?_
 rintro e w29 ⟨rfl, hb⟩
 refine ZV1 ?_
 replace BK150 := ZW BK150 hb
 replace HB := ZT HB hb
 (try clear hb)
 (try clear hb2)
 (try clear hk)
 (try clear hi)
 refine hK.out _ _ ⟨ZA BK150 0, ZA BK150 1, ZA BK150 2⟩ (fun hHeld => ?_)
 clear hK K
 refine ZNO 27 ?_
 refine ZU 3 28 #[T,T,T,T,T,T,F,F,F] ?_
 refine one_ (i := 6) (N := some 31) #[T,T,T,T,T,T,T,F,F] rfl rfl (one_of HT_.out (by kernel_rfl)) (by decide) (fun K hK => ?_)
 refine ZGO Tryd.func34 #[.int .i64 a0_2] ?_
 with_reducible refine (spec_l2Name.calls a0_2 t156 _ A24.out).mono ?_
 rintro e w30 ⟨rfl, hb⟩
 refine ZV1 ?_
 replace BK150 := ZW BK150 hb
 replace HB := ZT HB hb
 (try clear hb)
 (try clear hb2)
 (try clear hk)
 (try clear hi)
 refine hK.out _ _ ⟨ZA BK150 0, ZA BK150 1, ZA BK150 2⟩ (fun hHeld => ?_)
 clear hK K
 refine ZNO 31 ?_
 refine ZU 7 32 #[T,T,T,T,T,T,T,T,F] ?_
 refine ZU 8 2 #[T,T,T,T,T,T,T,T,T] ?_
 refine done_ (done_of HT_.out (by kernel_rfl)) ?_
 try go_wp2
 go_ret
 exact ⟨ZE, ZB⟩)
 ·(
 rw [if_neg c25] at H
 exact absurd H (by simp)))
 ·(
 rw [if_neg c23] at H
 exact absurd H (by simp)))))

end Go.Proofs.YtfcmckomagaiiaaDoor.A
