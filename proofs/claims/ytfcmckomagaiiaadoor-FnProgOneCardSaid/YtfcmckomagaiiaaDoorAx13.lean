/- Go functions as Lean functions, and for each its contract; written by wip/tools/pr.py over the kit's print. -/
import Derived.Test.YtfcmckomagaiiaaDoorAx0
import Derived.Test.YtfcmckomagaiiaaDoorAx10
import Derived.Test.YtfcmckomagaiiaaDoorAx12
namespace Go.Proofs.YtfcmckomagaiiaaDoor.A
open Go.RowKit Go.Proofs.YtfcmckomagaiiaaDoorW.PrintWords Go.Proofs.YtfcmckomagaiiaaDoorW.PrintLast Go.Proofs.YtfcmckomagaiiaaDoorW.PrintMore
attribute [local go_sem] max2_int min2_int max_two min_two max_three min_three max_four min_four
set_option linter.unusedVariables false
set_option linter.unusedSimpArgs false
set_option maxHeartbeats 8000000
set_option maxRecDepth 100000

/-! ### impl.ProgText: labels into a strings.Builder, then the steps -/
def impl_ProgText.l0 : Nat → ByteArray → List (S43) → Int → List (S71) → Option (ByteArray)
 | 0, _, _, _, _ => none
 | k + 1, a, x10, x12, x1 => if x12 < (x10.length : Int) then (if 0 ≤ x12 then ((impl_LabelText.f k ((D43 x10 x12).f0) ((D43 x10 x12).f1)).bind fun t294 => (if t294.size + 1 ≤ 9223372036854775807 then (if a.size + (t294.size + 1) ≤ 140737488355328 then (impl_ProgText.l0 k (a ++ (t294 ++ (⟨#[32]⟩ : ByteArray))) x10 (wrap64 (x12 + 1)) x1) else (none)) else (none))) else (none)) else (if a.size + 2 ≤ 9223372036854775807 then ((impl_stepsText.f k x1).bind fun t297 => (if (a ++ (⟨#[47, 32]⟩ : ByteArray)).size + t297.size ≤ 9223372036854775807 then (some ((a ++ (⟨#[47, 32]⟩ : ByteArray)) ++ t297)) else (none))) else (none))
def impl_ProgText.f (k : Nat) (l0_0 : List (S43)) (l0_1 : List (S71)) : Option (ByteArray) := (impl_ProgOk.f k l0_0 l0_1).bind fun t291 => (if t291 = true then (impl_ProgText.l0 k ⟨#[]⟩ l0_0 0 l0_1) else (some (⟨#[]⟩ : ByteArray)))
theorem impl_ProgText.calls (k : Nat) (A0_0 : Option Addr) (c0_0 : Nat) (l0_0 : List (S43)) (A0_1 : Option Addr) (c0_1 : Nat) (l0_1 : List (S71)) (r : ByteArray) (w : World) (hr0_0 : Kd.C k43 w A0_0 l0_0.length l0_0) (hc0_0 : l0_0.length ≤ c0_0) (hr0_1 : Kd.C k71 w A0_1 l0_1.length l0_1) (hc0_1 : l0_1.length ≤ c0_1) (h : impl_ProgText.f k l0_0 l0_1 = some r) :
  Calls Tryd.prog 8 #[.agg #[.slice A0_0 l0_0.length c0_0, .slice A0_1 l0_1.length c0_1]] w fun e w' => e = .returned (.string r) ∧ Below w.heap.size w w' := by
 have hu31 := Tryd.underlying31
 have hu43 := Tryd.underlying43
 have hu49 := Tryd.underlying49
 have HR0_0 := AM hr0_0
 have HC0_0 := AM hc0_0
 have HR0_1 := AM hr0_1
 have HC0_1 := AM hc0_1
 clear hr0_0 hc0_0 hr0_1 hc0_1
 have HB := AM (Below.refl w.heap.size w)
 have H := h
 unfold impl_ProgText.f at H
 clear h
 obtain ⟨t291, A2, H⟩ := ZOB H
 by_cases c3 : t291 = true
 ·(
 subst c3
 have H1 := H; rw [if_pos rfl] at H1
 clear H
 have H' := AM H1
 clear H1
 go_enter Tryd.func8, Tryd.ntmps8
 go_wp2_with (first | ((with_reducible refine gate_dst (N := 1) rfl ?_); refine box_event ?hgw4 (N := 1) ?hdw4 (cs := #[.slice A0_0 l0_0.length c0_0, .slice A0_1 l0_1.length c0_1]) (t := 31) ?hrw4 ?_; (case hdw4 => rfl); (case hgw4 => rfl); (case hrw4 => first | (go_simp; done) | (go_simp; rfl)); intro gb290 hg w4 hbox hb; have n0_ := ZT HB hb; have BK290 := AM (hbox); have GE290 : Za (w.heap.size ≤ gb290) := ZS hg; clear HB; have HB := n0_; clear n0_ hb hbox hg; have hcz5 := ZC2 w4 BK290) | ((with_reducible refine gate_callee (f := 19) rfl ?_); refine ZGL (some 7) Tryd.func19 #[.agg #[.slice A0_0 l0_0.length c0_0, .slice A0_1 l0_1.length c0_1]] ?_; (with_reducible refine (impl_ProgOk.calls k _ _ l0_0 _ _ l0_1 true _ (ZQ (Kd.C_below HR0_0.out HB.out)) HC0_0.out (ZQ (Kd.C_below HR0_1.out HB.out)) HC0_1.out A2.out).mono ?_); rintro e w6 ⟨rfl, hb⟩; refine ZV1 ?_; replace BK290 := ZW BK290 hb; replace HB := ZT HB hb; (try clear hb)) | ((with_reducible refine gate_dst (N := 3) rfl ?_); refine box_event ?hgB (N := 3) ?hdB (cs := #[.pointer none, .slice none 0 0]) (t := 49) ?hrB ?_; (case hdB => rfl); (case hgB => rfl); (case hrB => first | (go_simp; done) | (go_simp; rfl)); intro gbB hg wB hbox hb; have LBX := AM ((by rw [hg]; exact blk_lt (g := gb290) (o := .cells #[.slice A0_0 l0_0.length c0_0, .slice A0_1 l0_1.length c0_1] 31 (0, 0)) (ZK BK290.out) : gb290 < gbB)); have GEB : Za (w.heap.size ≤ gbB) := ZS hg; have IB := AM (Tryd.bNew hbox); replace BK290 := ZW BK290 hb; replace HB := ZT HB hb; clear hb hbox hg; have hcz8 := ZC2 wB BK290))
 go_loopg [12] k (fun kq v12 w' => ∃ (x12_1 : Int) (a : ByteArray), v12 = .int .i64 x12_1 ∧ Za (impl_ProgText.l0 kq a l0_0 x12_1 l0_1 = some r) ∧ Za (kq ≤ k) ∧ Za (w'.heap[gb290]? = some (.cells #[(.slice A0_0 l0_0.length c0_0), (.slice A0_1 l0_1.length c0_1)] 31 (0, 0))) ∧ Za (Below w.heap.size w w') ∧ Za (Lib.IsBuilder 49 5 gbB gbB (Lib.strCells a) w'))
 case atStart => exact ⟨(0), (⟨#[]⟩ : ByteArray), ZSM, H', ⟨Nat.le_refl _⟩, ⟨ZK BK290.out⟩, ⟨ZB⟩, ⟨by first | exact IB.out | exact Tryd.bMove IB.out (by repeat (first | apply below_alloc | apply pw_below_drewN | apply below_drew1 | exact Below.refl _ _))⟩⟩
 case round => (
 clear H' IB
 try clear hcz5
 try clear hcz8
 obtain ⟨x12_1, a, rfl, HA, HK1, BK290, HB, IB⟩ := hrel
 cases gk with
 | zero => exact absurd HA.out (by simp [impl_ProgText.l0])
 | succ k1 =>
  have H := HA.out
  clear HA
  simp only [impl_ProgText.l0] at H
  by_cases c8 : x12_1 < (l0_0.length : Int)
  ·(
  rw [if_pos c8] at H
  have c8b0 := decide_eq_true c8
  clear c8
  by_cases c9 : 0 ≤ x12_1
  ·(
  rw [if_pos c9] at H
  have c9b0 := decide_eq_true c9
  clear c9
  obtain ⟨t294, A11, H⟩ := ZOB H
  by_cases c12 : t294.size + 1 ≤ 9223372036854775807
  ·(
  rw [if_pos c12] at H
  have c12b0 := eq_true c12
  have c12b1 := decide_eq_true c12
  try have c12b2 : (9223372036854775807 < t294.size + 1) = False := eq_false (Nat.not_lt.2 c12)
  by_cases c13 : a.size + (t294.size + 1) ≤ 140737488355328
  ·(
  rw [if_pos c13] at H
  have C13 := AM c13
  clear c13
  have H' := AM H
  clear H
  have p292 : 0 ≤ (x12_1 : Int) := ZD
  have q292 : x12_1 < (l0_0.length : Int) := ZD
  obtain ⟨ad292, e292, hx292_0, hx292_1⟩ := at_T43 HR0_0.out x12_1 p292 q292
  cases e292
  replace hx292_0 := ZHX HB hx292_0
  replace hx292_1 := ZHX HB hx292_1
  replace p292 := eq_true p292
  replace q292 := eq_true q292
  go_wp2_with (first | ((with_reducible refine gate_dst (N := 5) rfl ?_); refine box_event ?hg5 (N := 5) ?hd5 (cs := #[.int .i64 0, .int .i64 0]) (t := 43) ?hr5 ?_; (case hd5 => rfl); (case hg5 => rfl); (case hr5 => first | (go_simp; done) | (go_simp; rfl)); intro gb293 hg w14 hbox hb; have HBR := AM hb; have GR := AM (Nat.le_of_eq hg.symm); have GE293 : Za (w.heap.size ≤ gb293) := ZS hg; have BK293 := AM hbox; clear hb hbox hg; have hcz16 := ZC2 w14 BK293) | ((with_reducible refine gate_callee (f := 21) rfl ?_); refine ZGL (some 17) Tryd.func21 #[.agg #[.int .i64 ((D43 l0_0 x12_1).f0), .int .i64 ((D43 l0_0 x12_1).f1)]] ?_; (with_reducible refine (impl_LabelText.calls k1 ((D43 l0_0 x12_1).f0) ((D43 l0_0 x12_1).f1) t294 _ A11.out).mono ?_); rintro e w17 ⟨rfl, hb⟩; refine ZV1 ?_; replace HBR := AM (below_step (by repeat (first | exact HBR.out | apply below_alloc | apply pw_below_drewN | apply below_drew1 | refine below_set ?_ GR.out)) hb); clear hb; have IB2 := AM (Tryd.bMove IB.out HBR.out); have LT2 := AM (Nat.le_trans (Nat.le_of_lt (Tryd.bLt IB.out)) HBR.out.size)) | ((with_reducible refine gate_callee (f := 20) rfl ?_); refine ZGL (some 19) Tryd.func20 #[.pointer (some ⟨gbB, 0, none⟩), .string (t294 ++ (⟨#[32]⟩ : ByteArray))] ?_; refine (Tryd.bWrite gbB a (t294 ++ (⟨#[32]⟩ : ByteArray)) _ IB2.out (by have := C13.out; rw [ByteArray.size_append]; exact this) LT2.out).mono ?_; rintro e w19 ⟨rfl, h1, hb⟩; refine ZV1 ?_; have IB3 := AM h1; have HBW := AM hb; clear h1 hb))
  go_roundg k1
  case measure => have := HK1.out; omega
  case rel => exact ⟨(wrap64 (x12_1 + 1)), (a ++ (t294 ++ (⟨#[32]⟩ : ByteArray))), ZSM, H', ⟨by have := HK1.out; omega⟩, ⟨ZK ((HBW.out.block _ LBX.out).trans (blk_below (g := gb290) (o := .cells #[.slice (some ad292) l0_0.length c0_0, .slice A0_1 l0_1.length c0_1] 31 (0, 0)) BK290.out HBR.out))⟩, ⟨by repeat (first | exact (HB.out.trans (HBR.out.mono (below_size HB.out))).trans (HBW.out.mono GEB.out) | apply below_alloc | apply pw_below_drewN | apply below_drew1)⟩, ⟨by first | exact IB3.out | exact Tryd.bMove IB3.out (by repeat (first | apply below_alloc | apply pw_below_drewN | apply below_drew1 | exact Below.refl _ _))⟩⟩)
  ·(
  rw [if_neg c13] at H
  exact absurd H (by simp)))
  ·(
  rw [if_neg c12] at H
  exact absurd H (by simp)))
  ·(
  rw [if_neg c9] at H
  exact absurd H (by simp)))
  ·(
  rw [if_neg c8] at H
  have c8b0 := decide_eq_false c8
  clear c8
  by_cases c19 : a.size + 2 ≤ 9223372036854775807
  ·(
  rw [if_pos c19] at H
  have c19b0 := eq_true c19
  have c19b1 := decide_eq_true c19
  try have c19b2 : (9223372036854775807 < a.size + 2) = False := eq_false (Nat.not_lt.2 c19)
  obtain ⟨t297, A20, H⟩ := ZOB H
  by_cases c21 : (a ++ (⟨#[47, 32]⟩ : ByteArray)).size + t297.size ≤ 9223372036854775807
  ·(
  rw [if_pos c21] at H
  have c21b0 := eq_true c21
  have c21b1 := decide_eq_true c21
  try have c21b2 : (9223372036854775807 < (a ++ (⟨#[47, 32]⟩ : ByteArray)).size + t297.size) = False := eq_false (Nat.not_lt.2 c21)
  try have c21b3 : (9223372036854775807 < a.size + 2 + t297.size) = False := eq_false (by have h_ := c21; simp only [ByteArray.size_append] at h_; first | exact Nat.not_lt.2 h_ | (have e2_ : ∀ x : UInt8, (⟨#[x]⟩ : ByteArray).size = 1 := fun _ => rfl; have e3_ : ∀ x y : UInt8, (⟨#[x, y]⟩ : ByteArray).size = 2 := fun _ _ => rfl; simp only [e2_, e3_] at h_; omega))
  try have c21b3 : (9223372036854775807 < a.size + 2 + t297.size) = False := eq_false (by have h_ := c21; simp only [ByteArray.size_append] at h_; exact Nat.not_lt.2 (by first | exact h_ | omega))
  obtain rfl := Option.some.inj H
  try go_wp2
  replace BK290 := AM (blk_drew BK290.out)
  replace HB := AM (below_drew1 HB.out)
  replace IB := AM (Tryd.bMove IB.out (below_drew1 (Below.refl _ _)))
  refine start_ (n := 7) (S := fun w' => w'.cell? ⟨gb290, 0, none⟩ = some (.slice A0_0 l0_0.length c0_0) ∧ w'.cell? ⟨gb290, 1, none⟩ = some (.slice A0_1 l0_1.length c0_1)) (ds := []) #[F,F,F,F,F,F,F] (by kernel_rfl) rfl rfl ⟨ZA BK290 0, ZA BK290 1⟩ (fun hHeld => ?_)
  generalize wr.drew = w22 at BK290 HB IB hHeld ⊢
  refine pure_ (i := 2) (N := some 23) (v := ?_) (a' := ?_) #[F,F,T,F,F,F,F] rfl rfl (by kernel_rfl) (fun _ _ _ h => h) (Or.inl ⟨by rfl, ?_⟩) ?_ ?_
  rotate_left
  ·(
  intro w'
  go_simp
  with_reducible rfl)
  rotate_left
  ·(
  simp only [Act.put, List.setIfInBounds_toArray, List.set_cons_zero, List.set_cons_succ, i64_w, i32_w]
  rfl)
  refine take_ (i := 3) (N := some 24) (v := ?_) (a' := ?_) #[F,F,T,T,F,F,F] rfl rfl (by kernel_rfl) (fun _ _ _ h => h) (Or.inl ⟨by rfl, ?_⟩) hHeld ?_ ?_
  rotate_left
  ·(
  rintro w' ⟨s0, s1⟩
  go_simp
  with_reducible rfl)
  rotate_left
  ·(
  simp only [Act.put, List.setIfInBounds_toArray, List.set_cons_zero, List.set_cons_succ, i64_w, i32_w]
  rfl)
  refine one_ (i := 0) (N := some 21) #[T,F,T,T,F,F,F] rfl rfl (by kernel_rfl) (by decide) (fun K hK => ?_)
  refine ZGO Tryd.func22 #[.pointer (some ⟨gbB, 0, none⟩)] ?_
  refine (Tryd.bString gbB a _ IB.out (Nat.le_of_lt (Tryd.bLt IB.out))).mono ?_
  rintro e w24 ⟨rfl, hb⟩
  refine ZV1 ?_
  have n0_ := AM ((hb.block _ LBX.out).trans BK290.out)
  have n1_ := AM (HB.out.trans (hb.mono GEB.out))
  clear BK290 HB hb IB
  have BK290 := n0_
  have HB := n1_
  clear n0_ n1_
  refine hK.out _ _ ⟨ZA BK290 0, ZA BK290 1⟩ (fun hHeld => ?_)
  clear hK K
  refine ZNO 21 ?_
  refine pure_ (i := 1) (N := some 22) (v := ?_) (a' := ?_) #[T,T,T,T,F,F,F] rfl rfl (by kernel_rfl) (fun _ _ _ h => h) (Or.inl ⟨by rfl, ?_⟩) ?_ ?_
  rotate_left
  ·(
  intro w'
  go_simp
  with_reducible rfl)
  rotate_left
  ·(
  simp only [Act.put, List.setIfInBounds_toArray, List.set_cons_zero, List.set_cons_succ, i64_w, i32_w]
  rfl)
  refine one_ (i := 4) (N := some 25) #[T,T,T,T,T,F,F] rfl rfl (by kernel_rfl) (by decide) (fun K hK => ?_)
  refine ZGO Tryd.func23 #[.slice A0_1 l0_1.length c0_1] ?_
  with_reducible refine (impl_stepsText.calls k1 _ _ l0_1 t297 _ ?side1 ?side2 A20.out).mono ?_
  (case side1 => repeat (first | exact (Kd.C_below HR0_1.out (ZB)) | (with_reducible refine Kd.C_alloc ?_ _) | (with_reducible refine Kd.C_drewN ?_ _) | (with_reducible refine Kd.C_drew ?_)))
  (case side2 => exact HC0_1.out)
  rintro e w23 ⟨rfl, hb⟩
  refine ZV1 ?_
  replace BK290 := ZW BK290 hb
  replace HB := ZT HB hb
  (try clear hb)
  refine hK.out _ _ ⟨ZA BK290 0, ZA BK290 1⟩ (fun hHeld => ?_)
  clear hK K
  refine ZNO 25 ?_
  refine pure_ (i := 5) (N := some 26) (v := ?_) (a' := ?_) #[T,T,T,T,T,T,F] rfl rfl (by kernel_rfl) (fun _ _ _ h => h) (Or.inl ⟨by rfl, ?_⟩) ?_ ?_
  rotate_left
  ·(
  intro w'
  go_simp
  with_reducible rfl)
  rotate_left
  ·(
  simp only [Act.put, List.setIfInBounds_toArray, List.set_cons_zero, List.set_cons_succ, i64_w, i32_w]
  rfl)
  refine pure_ (i := 6) (N := some 2) (v := ?_) (a' := ?_) #[T,T,T,T,T,T,T] rfl rfl (by kernel_rfl) (fun _ _ _ h => h) (Or.inl ⟨by rfl, ?_⟩) ?_ ?_
  rotate_left
  ·(
  intro w'
  go_simp
  with_reducible rfl)
  rotate_left
  ·(
  simp only [Act.put, List.setIfInBounds_toArray, List.set_cons_zero, List.set_cons_succ, i64_w, i32_w]
  rfl)
  refine done_ (by kernel_rfl) ?_
  try go_wp2
  go_ret
  exact ⟨ZE, ZB⟩)
  ·(
  rw [if_neg c21] at H
  exact absurd H (by simp)))
  ·(
  rw [if_neg c19] at H
  exact absurd H (by simp)))))
 ·(
 replace c3 := Bool.eq_false_iff.mpr c3
 subst c3
 have H1 := H; rw [if_neg ZFT] at H1
 clear H
 obtain rfl := Option.some.inj H1
 go_enter Tryd.func8, Tryd.ntmps8
 go_wp2_with (first | ((with_reducible refine gate_dst (N := 1) rfl ?_); refine box_event ?hgw24b (N := 1) ?hdw24b (cs := #[.slice A0_0 l0_0.length c0_0, .slice A0_1 l0_1.length c0_1]) (t := 31) ?hrw24b ?_; (case hdw24b => rfl); (case hgw24b => rfl); (case hrw24b => first | (go_simp; done) | (go_simp; rfl)); intro gb290 hg w24b hbox hb; have n0_ := ZT HB hb; have BK290 := AM (hbox); have GE290 : Za (w.heap.size ≤ gb290) := ZS hg; clear HB; have HB := n0_; clear n0_ hb hbox hg; have hcz5 := ZC2 w24b BK290) | ((with_reducible refine gate_callee (f := 19) rfl ?_); refine ZGL (some 7) Tryd.func19 #[.agg #[.slice A0_0 l0_0.length c0_0, .slice A0_1 l0_1.length c0_1]] ?_; (with_reducible refine (impl_ProgOk.calls k _ _ l0_0 _ _ l0_1 false _ (ZQ (Kd.C_below HR0_0.out HB.out)) HC0_0.out (ZQ (Kd.C_below HR0_1.out HB.out)) HC0_1.out A2.out).mono ?_); rintro e w26 ⟨rfl, hb⟩; refine ZV1 ?_; replace BK290 := ZW BK290 hb; replace HB := ZT HB hb; (try clear hb)))
 go_ret
 exact ⟨ZE, ZB⟩)

/-- A state of type 84 at block g of W; what its slices lead to came in by w0. -/
def IsS84 (w0 W : World) (g : Nat) (f0 : List Int) (f1 : Int) : Prop := ∃ A0 c0, W.heap[g]? = some (.cells #[.slice A0 f0.length c0, .int .i64 f1] 84 (0, 0)) ∧ w0.heap.size ≤ g ∧ Kd.C (Kd.int .u8) w0 A0 f0.length f0
theorem IsS84.grown {w0 W : World} {g : Nat} {f0 : List Int} {f1 : Int} {W1 : World} {row : Option Nat} (h : IsS84 w0 W g f0 f1) (hw : W.grownBy W1 row) (hne : some g ≠ row) : IsS84 w0 W1 g f0 f1 := by
 obtain ⟨A0, c0, hb, hg, hr0⟩ := h
 exact ⟨A0, c0, blk_grown hb hw hne, hg, hr0⟩
theorem IsS84.own_neN {w0 W : World} {g : Nat} {f0 : List Int} {f1 : Int} {α : Type} {d : Kd α} {e : Nat} {base : Nat} {ok : Nat → Prop} {v : Value} {xs : List α} (h : IsS84 w0 W g f0 f1) (ho : Kd.N d e W base ok v xs) (ht : e ≠ 84) : some g ≠ v.ownBlock := by
 obtain ⟨A0, c0, hb, hg, hr0⟩ := h
 exact Kd.N_ne ho hb ht
theorem IsS84.fresh {w0 W : World} {g : Nat} {f0 : List Int} {f1 : Int} (h : IsS84 w0 W g f0 f1) : ∀ k, W.heap.size ≤ k → k ≠ g := by
 obtain ⟨A0, c0, hb, hg, hr0⟩ := h
 exact Kd.freshB hb
theorem IsS84.kept {w0 W : World} {g : Nat} {f0 : List Int} {f1 : Int} {W1 : World} {S : Nat → Prop} (h : IsS84 w0 W g f0 f1) (hk : Kept W W1 S) (hne : ¬ S g) : IsS84 w0 W1 g f0 f1 := by
 obtain ⟨A0, c0, hb, hg, hr0⟩ := h
 exact ⟨A0, c0, blk_kept hb hk hne, hg, hr0⟩
theorem IsS84.below {w0 W : World} {g : Nat} {f0 : List Int} {f1 : Int} {W1 : World} (h : IsS84 w0 W g f0 f1) (hw : Below W.heap.size W W1) : IsS84 w0 W1 g f0 f1 := h.grown (grown_of_below hw none) (by simp)
theorem IsS84.alloc {w0 W : World} {g : Nat} {f0 : List Int} {f1 : Int} (h : IsS84 w0 W g f0 f1) (o : Obj) : IsS84 w0 (W.alloc o) g f0 f1 := h.below (below_alloc (Below.refl _ _) o)
theorem IsS84.drewN {w0 W : World} {g : Nat} {f0 : List Int} {f1 : Int} (h : IsS84 w0 W g f0 f1) (m : Nat) : IsS84 w0 (W.drewN m) g f0 f1 := h
theorem IsS84.drew {w0 W : World} {g : Nat} {f0 : List Int} {f1 : Int} (h : IsS84 w0 W g f0 f1) : IsS84 w0 W.drew g f0 f1 := h
theorem IsS84.at_ {w0 W : World} {g : Nat} {f0 : List Int} {f1 : Int} {w' : World} {m : Nat} (hq : W.drewN m = w') (h : IsS84 w0 W g f0 f1) : IsS84 w0 w' g f0 f1 := by subst hq; exact IsS84.drewN h m
theorem IsS84.apart {w0 W : World} {g : Nat} {f0 : List Int} {f1 : Int} {α : Type} {d : Kd α} {e : Nat} {base : Nat} {ok : Nat → Prop} {v : Value} {xs : List α} (h : IsS84 w0 W g f0 f1) (ho : d.R e W base ok v xs) (ht : ∀ q, q ∈ e :: d.E → q ≠ 84) : d.R e W base (fun k => ok k ∧ k ≠ g) v xs := by
 obtain ⟨A0, c0, hb, hg, hr0⟩ := h
 exact Kd.R_types ho hb ht
theorem IsS84.own_ne {w0 W : World} {g : Nat} {f0 : List Int} {f1 : Int} {α : Type} {d : Kd α} {e : Nat} {base : Nat} {ok : Nat → Prop} {v : Value} {xs : List α} (h : IsS84 w0 W g f0 f1) (ho : d.R e W base ok v xs) (ht : e ≠ 84) : some g ≠ v.ownBlock := by
 obtain ⟨A0, c0, hb, hg, hr0⟩ := h
 exact Kd.R_ne ho hb ht
theorem IsS84.apartQ {w0 W : World} {g : Nat} {f0 : List Int} {f1 : Int} {α : Type} {d : Kd α} {e : Nat} {base : Nat} {ok : Nat → Prop} {v : Value} {xs : List α} (h : IsS84 w0 W g f0 f1) (ho : d.Q e W base ok v xs) (ht : ∀ q, q ∈ e :: d.E → q ≠ 84) : d.Q e W base (fun k => ok k ∧ k ≠ g) v xs := by
 obtain ⟨A0, c0, hb, hg, hr0⟩ := h
 exact Kd.Q_types ho hb ht
theorem IsS84.own_neQ {w0 W : World} {g : Nat} {f0 : List Int} {f1 : Int} {α : Type} {d : Kd α} {e : Nat} {base : Nat} {ok : Nat → Prop} {v : Value} {xs : List α} (h : IsS84 w0 W g f0 f1) (ho : d.Q e W base ok v xs) (ht : e ≠ 84) : some g ≠ v.ownBlock := by
 obtain ⟨A0, c0, hb, hg, hr0⟩ := h
 exact Kd.Q_ne ho hb ht
theorem IsS84.apartS {w0 W : World} {g : Nat} {f0 : List Int} {f1 : Int} {α : Type} {d : Kd α} {e : Nat} {base : Nat} {ok : Nat → Prop} {v : Value} {xs : List α} (h : IsS84 w0 W g f0 f1) (ho : d.S e W base ok v xs) (ht : ∀ q, q ∈ e :: d.E → q ≠ 84) : d.S e W base (fun k => ok k ∧ k ≠ g) v xs := by
 obtain ⟨A0, c0, hb, hg, hr0⟩ := h
 exact Kd.S_types ho hb ht
theorem IsS84.own_neS {w0 W : World} {g : Nat} {f0 : List Int} {f1 : Int} {α : Type} {d : Kd α} {e : Nat} {base : Nat} {ok : Nat → Prop} {v : Value} {xs : List α} (h : IsS84 w0 W g f0 f1) (ho : d.S e W base ok v xs) (ht : e ≠ 84) : some g ≠ v.ownBlock := by
 obtain ⟨A0, c0, hb, hg, hr0⟩ := h
 exact Kd.S_ne ho hb ht
theorem IsS84.lt {w0 W : World} {g : Nat} {f0 : List Int} {f1 : Int} (h : IsS84 w0 W g f0 f1) : g < W.heap.size := by
 obtain ⟨A0, c0, hb, hg, hr0⟩ := h
 exact blk_lt hb
theorem IsS84.ge {w0 W : World} {g : Nat} {f0 : List Int} {f1 : Int} (h : IsS84 w0 W g f0 f1) : w0.heap.size ≤ g := by
 obtain ⟨A0, c0, hb, hg, hr0⟩ := h
 exact hg
theorem IsS84.ne_blk {w0 W : World} {g : Nat} {f0 : List Int} {f1 : Int} {a : Nat} {cs : Array Value} {t : TypeId} {fr : Nat × Nat} (h : IsS84 w0 W g f0 f1) (hb2 : W.heap[a]? = some (.cells cs t fr)) (ht : t ≠ 84) : g ≠ a := by
 obtain ⟨A0, c0, hb, hg, hr0⟩ := h
 rintro rfl
 rw [hb] at hb2
 injection hb2 with hb2
 injection hb2 with _ ht2
 exact ht ht2.symm
theorem IsS84.far {w0 W : World} {g : Nat} {f0 : List Int} {f1 : Int} {p : Addr} (h : IsS84 w0 W g f0 f1) (hne : g ≠ p.block) (u : Value) : IsS84 w0 (W.setCell p u) g f0 f1 := by
 obtain ⟨A0, c0, hb, hg, hr0⟩ := h
 exact ⟨A0, c0, blk_far hb hne u, hg, hr0⟩
theorem cellS84_0 {W : World} {g : Nat} {A0 : Option Addr} {c0 : Nat} {f0 : List Int} {f1 : Int} (h : W.heap[g]? = some (.cells #[.slice A0 f0.length c0, .int .i64 f1] 84 (0, 0))) : W.cell? ⟨g, 0, none⟩ = some (.slice A0 f0.length c0) := (blk_cell h 0).trans rfl
theorem cellS84_1 {W : World} {g : Nat} {A0 : Option Addr} {c0 : Nat} {f0 : List Int} {f1 : Int} (h : W.heap[g]? = some (.cells #[.slice A0 f0.length c0, .int .i64 f1] 84 (0, 0))) : W.cell? ⟨g, 1, none⟩ = some (.int .i64 f1) := (blk_cell h 1).trans rfl
theorem IsS84.set_1 {w0 W : World} {g : Nat} {f0 : List Int} {f1 : Int} (h : IsS84 w0 W g f0 f1) (x : Int) : IsS84 w0 (W.setCell ⟨g, 1, none⟩ (.int .i64 x)) g f0 x := by
 obtain ⟨A0, c0, hb, hg, hr0⟩ := h
 exact ⟨A0, c0, by simpa using blk_set hb 1 (.int .i64 x), hg, hr0⟩
theorem IsS84.new (w0 W : World) (A0 : Option Addr) (c0 : Nat) (f0 : List Int) (f1 : Int) (hB : Below w0.heap.size w0 W) (hr0 : Kd.C (Kd.int .u8) w0 A0 f0.length f0) : IsS84 w0 (W.alloc (.cells #[.slice A0 f0.length c0, .int .i64 f1] 84)) W.heap.size f0 f1 := ⟨A0, c0, by simpa using heap_alloc_new W _, hB.size, hr0⟩

/-! ### spec_l6Rd_pick: function 52 -/
def spec_l6Rd_pick.j0 : Nat → Int → Bool → List Int → Int → Option (Int × Int)
 | 0, _, _, _, _ => none
 | k + 1, x1, x24, x1000, x1001 => if x24 = true then (some (0, x1001)) else (if (wrap64 (x1001 - 1)) < (x1000.length : Int) then (if 0 ≤ (wrap64 (x1001 - 1)) then (if x1 = 0 then (none) else (some (Int.tmod (wrap64 (rd x1000 (wrap64 (x1001 - 1)))) x1, x1001))) else (none)) else (if (x1000.length : Int) = 0 then (none) else (if 0 ≤ (Int.tmod (wrap64 (x1001 - 1)) (x1000.length : Int)) then (if (Int.tmod (wrap64 (x1001 - 1)) (x1000.length : Int)) < (x1000.length : Int) then (if 0 ≤ (Int.tmod (wrap64 ((wrap64 ((wrap64 (x1001 - 1)) * 7)) + 3)) (x1000.length : Int)) then (if (Int.tmod (wrap64 ((wrap64 ((wrap64 (x1001 - 1)) * 7)) + 3)) (x1000.length : Int)) < (x1000.length : Int) then (if x1 = 0 then (none) else (some (Int.tmod (Go.bits .xor .i64 (wrap64 ((wrap64 ((wrap64 ((wrap64 ((wrap64 (rd x1000 (Int.tmod (wrap64 (x1001 - 1)) (x1000.length : Int)))) * 131)) + (wrap64 ((wrap64 (rd x1000 (Int.tmod (wrap64 ((wrap64 ((wrap64 (x1001 - 1)) * 7)) + 3)) (x1000.length : Int)))) * 1117)))) + (wrap64 ((wrap64 (x1001 - 1)) * 29)))) + (wrap64 ((wrap64 (Int.tdiv (wrap64 (x1001 - 1)) (x1000.length : Int))) * 53)))) (wrap64 (Int.tdiv (wrap64 ((wrap64 ((wrap64 ((wrap64 ((wrap64 (rd x1000 (Int.tmod (wrap64 (x1001 - 1)) (x1000.length : Int)))) * 131)) + (wrap64 ((wrap64 (rd x1000 (Int.tmod (wrap64 ((wrap64 ((wrap64 (x1001 - 1)) * 7)) + 3)) (x1000.length : Int)))) * 1117)))) + (wrap64 ((wrap64 (x1001 - 1)) * 29)))) + (wrap64 ((wrap64 (Int.tdiv (wrap64 (x1001 - 1)) (x1000.length : Int))) * 53)))) 64))) x1, x1001))) else (none)) else (none)) else (none)) else (none))))
def spec_l6Rd_pick.f (k : Nat) (s0_0 : List Int) (s0_1 : Int) (a1 : Int) : Option (Int × Int) := if a1 < 1 then (spec_l6Rd_pick.j0 k a1 true s0_0 (wrap64 (s0_1 + 1))) else (spec_l6Rd_pick.j0 k a1 ((s0_0.length : Int) == 0) s0_0 (wrap64 (s0_1 + 1)))
theorem spec_l6Rd_pick.calls (k : Nat) (g : Nat) (s0_0 : List Int) (s0_1 : Int) (a1 : Int) (r1 : Int) (r2 : Int) (w0 w : World) (hI : IsS84 w0 w g s0_0 s0_1) (hB : Below w0.heap.size w0 w) (h : spec_l6Rd_pick.f k s0_0 s0_1 a1 = some (r1, r2)) :
  Calls Tryd.prog 52 #[.pointer (some ⟨g, 0, none⟩), .int .i64 a1] w fun e w' => e = .returned (.int .i64 r1) ∧ IsS84 w0 w' g s0_0 r2 ∧ Below w0.heap.size w0 w' ∧ KeepBut w w' g none := by
 have HI0 := AM hI
 have HK := AM (KeepBut.refl w g none)
 have HL := AM hB.size
 clear hI
 have HW0 := AM hB.size
 have HB := AM hB
 clear hB
 have H := h
 unfold spec_l6Rd_pick.f at H
 clear h
 have HC3 := AM H
 clear H
 obtain ⟨ASz4_0, cSz4_0, HGz4, hgz4, HSz4_0⟩ := HI0.out
 have hcz4 := cellS84_0 HGz4
 have hcz4_1 := cellS84_1 HGz4
 have hfz4_1 := blk_frozen HGz4 1
 clear HGz4 hgz4
 go_enter Tryd.func52, Tryd.ntmps52
 go_upto_region 2 with (fail)
 repeat (go_quiet (fail); go_upto_region 2 with (fail))
 go_cut [24] (fun v24 wc => ∃ (kq : Nat) (x24_2 : Bool), v24 = .bool x24_2 ∧ Za (spec_l6Rd_pick.j0 kq a1 x24_2 s0_0 (wrap64 (s0_1 + 1)) = some (r1, r2)) ∧ Za (kq ≤ k) ∧ Za (IsS84 w0 wc g s0_0 (wrap64 (s0_1 + 1))) ∧ Za (KeepBut w wc g none) ∧ Za (Below w0.heap.size w0 wc))
 case first => (
 have H := HC3.out
 clear HC3
 by_cases c5 : a1 < 1
 ·(
 rw [if_pos c5] at H
 have c5b0 := decide_eq_true c5
 clear c5
 (first | rw [c5b0] | (simp only [i64_w, i32_w]; rw [c5b0]) | skip)
 have H' := AM H
 clear H
 go_wp2
 repeat (go_quiet (fail); try go_wp2)
 go_meet
 case rel => exact ⟨_, (true), ZSM, H', ⟨by first | omega | exact Nat.le_refl _⟩, ⟨ZI⟩, ⟨ZJ⟩, ⟨ZBI⟩⟩)
 ·(
 rw [if_neg c5] at H
 have c5b0 := decide_eq_false c5
 clear c5
 (first | rw [c5b0] | (simp only [i64_w, i32_w]; rw [c5b0]) | skip)
 have H' := AM H
 clear H
 obtain ⟨ASz6_0, cSz6_0, HGz6, hgz6, HSz6_0⟩ := HI0.out
 have hcz6 := cellS84_0 HGz6
 have hcz6_1 := cellS84_1 HGz6
 have hfz6_1 := blk_frozen HGz6 1
 clear HGz6 hgz6
 go_wp2
 repeat (go_quiet (fail); try go_wp2)
 go_meet
 case rel => exact ⟨_, (((s0_0.length : Int) == 0)), ZSM, H', ⟨by first | omega | exact Nat.le_refl _⟩, ⟨ZI⟩, ⟨ZJ⟩, ⟨ZBI⟩⟩))
 case rest => (
 clear HC3
 try clear p2
 try clear c5
 try clear c5b0
 try clear p6
 try clear hcz4
 try clear hcz6
 obtain ⟨kq, x24_2, rfl, HA, HJ2, HI0, HK, HB⟩ := hcut
 cases kq with
 | zero => exact absurd HA.out (by simp [spec_l6Rd_pick.j0])
 | succ kj2 =>
  have H := HA.out
  clear HA
  simp only [spec_l6Rd_pick.j0] at H
  by_cases c7 : x24_2 = true
  ·(
  subst c7
  have H1 := H; rw [if_pos rfl] at H1
  clear H
  have H := H1
  clear H1
  simp only [Option.some.injEq, Prod.mk.injEq] at H
  obtain ⟨rfl, rfl⟩ := H
  go_wp2
  repeat (go_quiet (fail); try go_wp2)
  go_ret
  exact ⟨ZE, ZI, ZBI, ZJ⟩)
  ·(
  replace c7 := Bool.eq_false_iff.mpr c7
  subst c7
  have H1 := H; rw [if_neg ZFT] at H1
  clear H
  have H := H1
  clear H1
  by_cases c8 : (wrap64 ((wrap64 (s0_1 + 1)) - 1)) < (s0_0.length : Int)
  ·(
  rw [if_pos c8] at H
  have c8b0 := decide_eq_true c8
  clear c8
  obtain ⟨ji9, hji9⟩ : ∃ j_ : Int, (wrap64 ((wrap64 (s0_1 + 1)) - 1)) = j_ := ⟨_, rfl⟩
  replace H : (if 0 ≤ (ji9) then (if a1 = 0 then (none) else (some (Int.tmod (wrap64 (rd s0_0 (ji9))) a1, (wrap64 (s0_1 + 1))))) else (none)) = some (r1, r2) := by first | (rw [hji9] at H; exact H) | (simp only [hji9] at H ⊢; exact H)
  (try rw [hji9] at c8b0)
  have hji9w : (IntKind.i64.wrap ((wrap64 (s0_1 + 1)) - 1)) = ji9 := (i64_w _).trans hji9
  by_cases c10 : 0 ≤ (ji9)
  ·(
  rw [if_pos c10] at H
  have c10b0 := decide_eq_true c10
  clear c10
  by_cases c11 : a1 = 0
  ·(
  rw [if_pos c11] at H
  exact absurd H (by simp))
  ·(
  rw [if_neg c11] at H
  have c11b0 := beq_eq_false_iff_ne.mpr c11
  have c11b1 := bne_iff_ne.mpr c11
  simp only [Option.some.injEq, Prod.mk.injEq] at H
  obtain ⟨rfl, rfl⟩ := H
  obtain ⟨ASz12_0, cSz12_0, HGz12, hgz12, HSz12_0⟩ := HI0.out
  have hcz12 := cellS84_0 HGz12
  have hcz12_1 := cellS84_1 HGz12
  have hfz12_1 := blk_frozen HGz12 1
  clear HGz12 hgz12
  have p231 : 0 ≤ ((ji9) : Int) := ZD
  have q231 : (ji9) < (s0_0.length : Int) := ZD
  obtain ⟨ad231, e231, hx231_0⟩ := Kd.at_int HSz12_0 (ji9) p231 q231
  cases e231
  replace hx231_0 := pw_cell_below HB.out hx231_0
  replace p231 := eq_true p231
  replace q231 := eq_true q231
  go_wp2
  repeat (go_quiet (fail); try go_wp2)
  go_ret
  exact ⟨by first | rfl | (simp [errW_none, errW_some] <;> rfl) | (simp only [← hji9]; first | rfl | (simp [errW_none, errW_some] <;> rfl)) | (simp [*, errW_none, errW_some] <;> rfl), ZI, ZBI, ZJ⟩))
  ·(
  rw [if_neg c10] at H
  exact absurd H (by simp)))
  ·(
  rw [if_neg c8] at H
  have c8b0 := decide_eq_false c8
  clear c8
  by_cases c13 : (s0_0.length : Int) = 0
  ·(
  rw [if_pos c13] at H
  exact absurd H (by simp))
  ·(
  rw [if_neg c13] at H
  have c13b0 := beq_eq_false_iff_ne.mpr c13
  have c13b1 := bne_iff_ne.mpr c13
  have c13b2 : ¬ (s0_0 = []) := fun h_ => c13 (by rw [h_]; rfl)
  obtain ⟨ji14, hji14⟩ : ∃ j_ : Int, (Int.tmod (wrap64 ((wrap64 (s0_1 + 1)) - 1)) (s0_0.length : Int)) = j_ := ⟨_, rfl⟩
  replace H : (if 0 ≤ (ji14) then (if (ji14) < (s0_0.length : Int) then (if 0 ≤ (Int.tmod (wrap64 ((wrap64 ((wrap64 ((wrap64 (s0_1 + 1)) - 1)) * 7)) + 3)) (s0_0.length : Int)) then (if (Int.tmod (wrap64 ((wrap64 ((wrap64 ((wrap64 (s0_1 + 1)) - 1)) * 7)) + 3)) (s0_0.length : Int)) < (s0_0.length : Int) then (if a1 = 0 then (none) else (some (Int.tmod (Go.bits .xor .i64 (wrap64 ((wrap64 ((wrap64 ((wrap64 ((wrap64 (rd s0_0 (ji14))) * 131)) + (wrap64 ((wrap64 (rd s0_0 (Int.tmod (wrap64 ((wrap64 ((wrap64 ((wrap64 (s0_1 + 1)) - 1)) * 7)) + 3)) (s0_0.length : Int)))) * 1117)))) + (wrap64 ((wrap64 ((wrap64 (s0_1 + 1)) - 1)) * 29)))) + (wrap64 ((wrap64 (Int.tdiv (wrap64 ((wrap64 (s0_1 + 1)) - 1)) (s0_0.length : Int))) * 53)))) (wrap64 (Int.tdiv (wrap64 ((wrap64 ((wrap64 ((wrap64 ((wrap64 (rd s0_0 (ji14))) * 131)) + (wrap64 ((wrap64 (rd s0_0 (Int.tmod (wrap64 ((wrap64 ((wrap64 ((wrap64 (s0_1 + 1)) - 1)) * 7)) + 3)) (s0_0.length : Int)))) * 1117)))) + (wrap64 ((wrap64 ((wrap64 (s0_1 + 1)) - 1)) * 29)))) + (wrap64 ((wrap64 (Int.tdiv (wrap64 ((wrap64 (s0_1 + 1)) - 1)) (s0_0.length : Int))) * 53)))) 64))) a1, (wrap64 (s0_1 + 1))))) else (none)) else (none)) else (none)) else (none)) = some (r1, r2) := by first | (rw [hji14] at H; exact H) | (simp only [hji14] at H ⊢; exact H)
  by_cases c15 : 0 ≤ (ji14)
  ·(
  rw [if_pos c15] at H
  have c15b0 := decide_eq_true c15
  clear c15
  by_cases c16 : (ji14) < (s0_0.length : Int)
  ·(
  rw [if_pos c16] at H
  have c16b0 := decide_eq_true c16
  clear c16
  obtain ⟨ji17, hji17⟩ : ∃ j_ : Int, (Int.tmod (wrap64 ((wrap64 ((wrap64 ((wrap64 (s0_1 + 1)) - 1)) * 7)) + 3)) (s0_0.length : Int)) = j_ := ⟨_, rfl⟩
  replace H : (if 0 ≤ (ji17) then (if (ji17) < (s0_0.length : Int) then (if a1 = 0 then (none) else (some (Int.tmod (Go.bits .xor .i64 (wrap64 ((wrap64 ((wrap64 ((wrap64 ((wrap64 (rd s0_0 (ji14))) * 131)) + (wrap64 ((wrap64 (rd s0_0 (ji17))) * 1117)))) + (wrap64 ((wrap64 ((wrap64 (s0_1 + 1)) - 1)) * 29)))) + (wrap64 ((wrap64 (Int.tdiv (wrap64 ((wrap64 (s0_1 + 1)) - 1)) (s0_0.length : Int))) * 53)))) (wrap64 (Int.tdiv (wrap64 ((wrap64 ((wrap64 ((wrap64 ((wrap64 (rd s0_0 (ji14))) * 131)) + (wrap64 ((wrap64 (rd s0_0 (ji17))) * 1117)))) + (wrap64 ((wrap64 ((wrap64 (s0_1 + 1)) - 1)) * 29)))) + (wrap64 ((wrap64 (Int.tdiv (wrap64 ((wrap64 (s0_1 + 1)) - 1)) (s0_0.length : Int))) * 53)))) 64))) a1, (wrap64 (s0_1 + 1))))) else (none)) else (none)) = some (r1, r2) := by first | (rw [hji17] at H; exact H) | (simp only [hji17] at H ⊢; exact H)
  by_cases c18 : 0 ≤ (ji17)
  ·(
  rw [if_pos c18] at H
  have c18b0 := decide_eq_true c18
  clear c18
  by_cases c19 : (ji17) < (s0_0.length : Int)
  ·(
  rw [if_pos c19] at H
  have c19b0 := decide_eq_true c19
  clear c19
  by_cases c20 : a1 = 0
  ·(
  rw [if_pos c20] at H
  exact absurd H (by simp))
  ·(
  rw [if_neg c20] at H
  have c20b0 := beq_eq_false_iff_ne.mpr c20
  have c20b1 := bne_iff_ne.mpr c20
  simp only [Option.some.injEq, Prod.mk.injEq] at H
  obtain ⟨rfl, rfl⟩ := H
  obtain ⟨ASz21_0, cSz21_0, HGz21, hgz21, HSz21_0⟩ := HI0.out
  have hcz21 := cellS84_0 HGz21
  have hcz21_1 := cellS84_1 HGz21
  have hfz21_1 := blk_frozen HGz21 1
  clear HGz21 hgz21
  have p232 : 0 ≤ ((ji14) : Int) := ZD
  have q232 : (ji14) < (s0_0.length : Int) := ZD
  obtain ⟨ad232, e232, hx232_0⟩ := Kd.at_int HSz21_0 (ji14) p232 q232
  cases e232
  replace hx232_0 := pw_cell_below HB.out hx232_0
  replace p232 := eq_true p232
  replace q232 := eq_true q232
  have p233 : 0 ≤ ((ji17) : Int) := ZD
  have q233 : (ji17) < (s0_0.length : Int) := ZD
  obtain ⟨ad233, e233, hx233_0⟩ := Kd.at_int HSz21_0 (ji17) p233 q233
  obtain rfl : ad232 = ad233 := (by injection e233)
  replace hx233_0 := pw_cell_below HB.out hx233_0
  replace p233 := eq_true p233
  replace q233 := eq_true q233
  go_wp2
  repeat (go_quiet (fail); try go_wp2)
  go_ret
  exact ⟨by first | rfl | (simp [errW_none, errW_some] <;> rfl) | (simp only [← hji14, ← hji17]; first | rfl | (simp [errW_none, errW_some] <;> rfl)) | (simp [*, errW_none, errW_some] <;> rfl), ZI, ZBI, ZJ⟩))
  ·(
  rw [if_neg c19] at H
  exact absurd H (by simp)))
  ·(
  rw [if_neg c18] at H
  exact absurd H (by simp)))
  ·(
  rw [if_neg c16] at H
  exact absurd H (by simp)))
  ·(
  rw [if_neg c15] at H
  exact absurd H (by simp))))))

end Go.Proofs.YtfcmckomagaiiaaDoor.A
