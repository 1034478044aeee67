/- Go functions as Lean functions, and for each its contract; written by wip/tools/pr.py over the kit's print. -/
import Derived.Test.YtfcmckomagaiiaaDoorAx0
import Derived.Test.YtfcmckomagaiiaaDoorAx12
import Derived.Test.YtfcmckomagaiiaaDoorAx14
namespace Go.Proofs.YtfcmckomagaiiaaDoor.A
open Go.RowKit Go.Proofs.YtfcmckomagaiiaaDoorW.PrintWords Go.Proofs.YtfcmckomagaiiaaDoorW.PrintLast Go.Proofs.YtfcmckomagaiiaaDoorW.PrintMore
attribute [local go_sem] max2_int min2_int max_two min_two max_three min_three max_four min_four
set_option linter.unusedVariables false
set_option linter.unusedSimpArgs false
set_option maxHeartbeats 8000000
set_option maxRecDepth 100000

/-! ### impl.ProgText: labels into a strings.Builder, then the steps -/
def impl_ProgText.l0 : Nat → ByteArray → List (S43) → Int → List (S71) → Option (ByteArray)
 | 0, _, _, _, _ => none
 | k + 1, a, x10, x12, x1 => if x12 < (x10.length : Int) then (if 0 ≤ x12 then ((impl_LabelText.f k ((rd_T43 x10 x12).f0) ((rd_T43 x10 x12).f1)).bind fun t294 => (if t294.size + 1 ≤ 9223372036854775807 then (if a.size + (t294.size + 1) ≤ 140737488355328 then (impl_ProgText.l0 k (a ++ (t294 ++ (⟨#[32]⟩ : ByteArray))) x10 (wrap64 (x12 + 1)) x1) else (none)) else (none))) else (none)) else (if a.size + 2 ≤ 9223372036854775807 then ((impl_stepsText.f k x1).bind fun t297 => (if (a ++ (⟨#[47, 32]⟩ : ByteArray)).size + t297.size ≤ 9223372036854775807 then (some ((a ++ (⟨#[47, 32]⟩ : ByteArray)) ++ t297)) else (none))) else (none))
def impl_ProgText.f (k : Nat) (l0_0 : List (S43)) (l0_1 : List (S71)) : Option (ByteArray) := (impl_ProgOk.f k l0_0 l0_1).bind fun t291 => (if t291 = true then (impl_ProgText.l0 k ⟨#[]⟩ l0_0 0 l0_1) else (some (⟨#[]⟩ : ByteArray)))
theorem impl_ProgText.calls (k : Nat) (A0_0 : Option Addr) (c0_0 : Nat) (l0_0 : List (S43)) (A0_1 : Option Addr) (c0_1 : Nat) (l0_1 : List (S71)) (r : ByteArray) (w : World) (hr0_0 : Kd.C k43 w A0_0 l0_0.length l0_0) (hc0_0 : l0_0.length ≤ c0_0) (hr0_1 : Kd.C k71 w A0_1 l0_1.length l0_1) (hc0_1 : l0_1.length ≤ c0_1) (h : impl_ProgText.f k l0_0 l0_1 = some r) :
  Calls Tryd.prog 8 #[.agg #[.slice A0_0 l0_0.length c0_0, .slice A0_1 l0_1.length c0_1]] w fun e w' => e = .returned (.string r) ∧ Below w.heap.size w w' := by
 have hu31 := Tryd.underlying31
 have hu43 := Tryd.underlying43
 have hu49 := Tryd.underlying49
 have HR0_0 := AM hr0_0
 have HC0_0 := AM hc0_0
 have HR0_1 := AM hr0_1
 have HC0_1 := AM hc0_1
 clear hr0_0 hc0_0 hr0_1 hc0_1
 have HB := AM (Below.refl w.heap.size w)
 have H := h
 unfold impl_ProgText.f at H
 clear h
 obtain ⟨t291, A2, H⟩ := ZOB H
 by_cases c3 : t291 = true
 ·(
 subst c3
 have H1 := H; rw [if_pos rfl] at H1
 clear H
 have H' := AM H1
 clear H1
 go_enter Tryd.func8, Tryd.ntmps8
 go_wp2_with (first | ((with_reducible refine gate_dst (N := 1) rfl ?_); refine box_event ?hgw4 (N := 1) ?hdw4 (cs := #[.slice A0_0 l0_0.length c0_0, .slice A0_1 l0_1.length c0_1]) (t := 31) ?hrw4 ?_; (case hdw4 => rfl); (case hgw4 => rfl); (case hrw4 => first | (go_simp; done) | (go_simp; rfl)); intro gb290 hg w4 hbox hb; have n0_ := ZT HB hb; have BK290 := AM (hbox); have GE290 : Aside0 (w.heap.size ≤ gb290) := ZS hg; clear HB; have HB := n0_; clear n0_ hb hbox hg; have hcz5 := ZC2 w4 BK290; have hfz5 := ZF2 BK290) | ((with_reducible refine gate_callee (f := 19) rfl ?_); refine ZGL (some 7) Tryd.func19 #[.agg #[.slice A0_0 l0_0.length c0_0, .slice A0_1 l0_1.length c0_1]] ?_; (with_reducible refine (impl_ProgOk.calls k _ _ l0_0 _ _ l0_1 true _ ?side1 ?side2 ?side3 ?side4 A2.out).mono ?_); (case side1 => exact ZQ (Kd.C_below HR0_0.out HB.out)); (case side2 => exact HC0_0.out); (case side3 => exact ZQ (Kd.C_below HR0_1.out HB.out)); (case side4 => exact HC0_1.out); rintro e w6 ⟨rfl, hb⟩; refine ⟨_, rfl, ?_⟩; replace BK290 := ZW BK290 hb; replace HB := ZT HB hb; (try clear hb)) | ((with_reducible refine gate_dst (N := 3) rfl ?_); refine box_event ?hgB (N := 3) ?hdB (cs := #[.pointer none, .slice none 0 0]) (t := 49) ?hrB ?_; (case hdB => rfl); (case hgB => rfl); (case hrB => first | (go_simp; done) | (go_simp; rfl)); intro gbB hg wB hbox hb; have LBX := AM ((by rw [hg]; exact blk_lt (g := gb290) (o := .cells #[.slice A0_0 l0_0.length c0_0, .slice A0_1 l0_1.length c0_1] 31 (0, 0)) (ZK BK290.out) : gb290 < gbB)); have GEB : Aside0 (w.heap.size ≤ gbB) := ZS hg; have IB := AM (Tryd.bNew hbox); replace BK290 := ZW BK290 hb; replace HB := ZT HB hb; clear hb hbox hg; have hcz8 := ZC2 wB BK290))
 go_loopg [12] k (fun kq v12 w' => ∃ (x12_1 : Int) (a : ByteArray), v12 = .int .i64 x12_1 ∧ Aside0 (impl_ProgText.l0 kq a l0_0 x12_1 l0_1 = some r) ∧ Aside0 (kq ≤ k) ∧ Aside0 (w'.heap[gb290]? = some (.cells #[(.slice A0_0 l0_0.length c0_0), (.slice A0_1 l0_1.length c0_1)] 31 (0, 0))) ∧ Aside0 (Below w.heap.size w w') ∧ Aside0 (Lib.IsBuilder 49 5 gbB gbB (Lib.strCells a) w'))
 case atStart => exact ⟨(0), (⟨#[]⟩ : ByteArray), (by first | rfl | (simp; done) | (simp [*]; done)), H', ⟨Nat.le_refl _⟩, ⟨ZK BK290.out⟩, ⟨ZB⟩, ⟨by first | exact IB.out | exact Tryd.bMove IB.out (by repeat (first | apply below_alloc | apply pw_below_drewN | apply below_drew1 | exact Below.refl _ _))⟩⟩
 case round => (
 clear H' IB
 try clear hcz5
 try clear hcz8
 try clear hfz5
 obtain ⟨x12_1, a, rfl, HA, HK1, BK290, HB, IB⟩ := hrel
 cases gk with
 | zero => exact absurd HA.out (by simp [impl_ProgText.l0])
 | succ k1 =>
  have H := HA.out
  clear HA
  simp only [impl_ProgText.l0] at H
  by_cases c8 : x12_1 < (l0_0.length : Int)
  ·(
  rw [if_pos c8] at H
  have c8b0 := decide_eq_true c8
  clear c8
  by_cases c9 : 0 ≤ x12_1
  ·(
  rw [if_pos c9] at H
  have c9b0 := decide_eq_true c9
  clear c9
  obtain ⟨t294, A11, H⟩ := ZOB H
  by_cases c12 : t294.size + 1 ≤ 9223372036854775807
  ·(
  rw [if_pos c12] at H
  have c12b0 := eq_true c12
  have c12b1 := decide_eq_true c12
  try have c12b2 : (9223372036854775807 < t294.size + 1) = False := eq_false (Nat.not_lt.2 c12)
  by_cases c13 : a.size + (t294.size + 1) ≤ 140737488355328
  ·(
  rw [if_pos c13] at H
  have C13 := AM c13
  clear c13
  have H' := AM H
  clear H
  have p292 : 0 ≤ (x12_1 : Int) := ZD
  have q292 : x12_1 < (l0_0.length : Int) := ZD
  obtain ⟨ad292, e292, hx292_0, hx292_1⟩ := at_T43 HR0_0.out x12_1 p292 q292
  cases e292
  replace hx292_0 := ZHX HB hx292_0
  replace hx292_1 := ZHX HB hx292_1
  replace p292 := eq_true p292
  replace q292 := eq_true q292
  go_wp2_with (first | ((with_reducible refine gate_dst (N := 5) rfl ?_); refine box_event ?hg5 (N := 5) ?hd5 (cs := #[.int .i64 0, .int .i64 0]) (t := 43) ?hr5 ?_; (case hd5 => rfl); (case hg5 => rfl); (case hr5 => first | (go_simp; done) | (go_simp; rfl)); intro gb293 hg w14 hbox hb; have HBR := AM hb; have GR := AM (Nat.le_of_eq hg.symm); have GE293 : Aside0 (w.heap.size ≤ gb293) := ZS hg; have BK293 := AM hbox; clear hb hbox hg; have hcz16 := ZC2 w14 BK293; have hfz16 := ZF2 BK293) | ((with_reducible refine gate_callee (f := 21) rfl ?_); refine ZGL (some 17) Tryd.func21 #[.agg #[.int .i64 ((rd_T43 l0_0 x12_1).f0), .int .i64 ((rd_T43 l0_0 x12_1).f1)]] ?_; (with_reducible refine (impl_LabelText.calls k1 ((rd_T43 l0_0 x12_1).f0) ((rd_T43 l0_0 x12_1).f1) t294 _ A11.out).mono ?_); rintro e w17 ⟨rfl, hb⟩; refine ⟨_, rfl, ?_⟩; replace HBR := AM (below_step (by repeat (first | exact HBR.out | apply below_alloc | apply pw_below_drewN | apply below_drew1 | refine below_set ?_ GR.out)) hb); clear hb; have IB2 := AM (Tryd.bMove IB.out HBR.out); have LT2 := AM (Nat.le_trans (Nat.le_of_lt (Tryd.bLt IB.out)) HBR.out.size)) | ((with_reducible refine gate_callee (f := 20) rfl ?_); refine ZGL (some 19) Tryd.func20 #[.pointer (some ⟨gbB, 0, none⟩), .string (t294 ++ (⟨#[32]⟩ : ByteArray))] ?_; refine (Tryd.bWrite gbB a (t294 ++ (⟨#[32]⟩ : ByteArray)) _ IB2.out (by have := C13.out; rw [ByteArray.size_append]; exact this) LT2.out).mono ?_; rintro e w19 ⟨rfl, h1, hb⟩; refine ⟨_, rfl, ?_⟩; have IB3 := AM h1; have HBW := AM hb; clear h1 hb))
  go_roundg k1
  case measure => have := HK1.out; omega
  case rel => exact ⟨(wrap64 (x12_1 + 1)), (a ++ (t294 ++ (⟨#[32]⟩ : ByteArray))), (by first | rfl | (simp; done) | (simp [*]; done)), H', ⟨by have := HK1.out; omega⟩, ⟨ZK ((HBW.out.block _ LBX.out).trans (blk_below (g := gb290) (o := .cells #[.slice (some ad292) l0_0.length c0_0, .slice A0_1 l0_1.length c0_1] 31 (0, 0)) BK290.out HBR.out))⟩, ⟨by repeat (first | exact (HB.out.trans (HBR.out.mono (below_size HB.out))).trans (HBW.out.mono GEB.out) | apply below_alloc | apply pw_below_drewN | apply below_drew1)⟩, ⟨by first | exact IB3.out | exact Tryd.bMove IB3.out (by repeat (first | apply below_alloc | apply pw_below_drewN | apply below_drew1 | exact Below.refl _ _))⟩⟩)
  ·(
  rw [if_neg c13] at H
  exact absurd H (by simp)))
  ·(
  rw [if_neg c12] at H
  exact absurd H (by simp)))
  ·(
  rw [if_neg c9] at H
  exact absurd H (by simp)))
  ·(
  rw [if_neg c8] at H
  have c8b0 := decide_eq_false c8
  clear c8
  by_cases c19 : a.size + 2 ≤ 9223372036854775807
  ·(
  rw [if_pos c19] at H
  have c19b0 := eq_true c19
  have c19b1 := decide_eq_true c19
  try have c19b2 : (9223372036854775807 < a.size + 2) = False := eq_false (Nat.not_lt.2 c19)
  obtain ⟨t297, A20, H⟩ := ZOB H
  by_cases c21 : (a ++ (⟨#[47, 32]⟩ : ByteArray)).size + t297.size ≤ 9223372036854775807
  ·(
  rw [if_pos c21] at H
  have c21b0 := eq_true c21
  have c21b1 := decide_eq_true c21
  try have c21b2 : (9223372036854775807 < (a ++ (⟨#[47, 32]⟩ : ByteArray)).size + t297.size) = False := eq_false (Nat.not_lt.2 c21)
  try have c21b3 : (9223372036854775807 < a.size + 2 + t297.size) = False := eq_false (by have h_ := c21; simp only [ByteArray.size_append] at h_; first | exact Nat.not_lt.2 h_ | (have e2_ : ∀ x : UInt8, (⟨#[x]⟩ : ByteArray).size = 1 := fun _ => rfl; have e3_ : ∀ x y : UInt8, (⟨#[x, y]⟩ : ByteArray).size = 2 := fun _ _ => rfl; simp only [e2_, e3_] at h_; omega))
  try have c21b3 : (9223372036854775807 < a.size + 2 + t297.size) = False := eq_false (by have h_ := c21; simp only [ByteArray.size_append] at h_; exact Nat.not_lt.2 (by first | exact h_ | omega))
  obtain rfl := Option.some.inj H
  try go_wp2
  replace BK290 := AM (blk_drew BK290.out)
  replace HB := AM (below_drew1 HB.out)
  replace IB := AM (Tryd.bMove IB.out (below_drew1 (Below.refl _ _)))
  refine start_ (n := 7) (S := fun w' => w'.cell? ⟨gb290, 0, none⟩ = some (.slice A0_0 l0_0.length c0_0) ∧ w'.cell? ⟨gb290, 1, none⟩ = some (.slice A0_1 l0_1.length c0_1)) (ds := []) #[F,F,F,F,F,F,F] (by kernel_rfl) rfl rfl ⟨ZA BK290 0, ZA BK290 1⟩ (fun hHeld => ?_)
  generalize wr.drew = w22 at BK290 HB IB hHeld ⊢
  refine pure_ (i := 2) (N := some 23) (v := ?_) (a' := ?_) #[F,F,T,F,F,F,F] rfl rfl (by kernel_rfl) (fun _ _ _ h => h) (Or.inl ⟨by rfl, ?_⟩) ?_ ?_
  rotate_left
  ·(
  intro w'
  go_simp
  with_reducible rfl)
  rotate_left
  ·(
  simp only [Act.put, List.setIfInBounds_toArray, List.set_cons_zero, List.set_cons_succ, i64_w, i32_w]
  rfl)
  refine take_ (i := 3) (N := some 24) (v := ?_) (a' := ?_) #[F,F,T,T,F,F,F] rfl rfl (by kernel_rfl) (fun _ _ _ h => h) (Or.inl ⟨by rfl, ?_⟩) hHeld ?_ ?_
  rotate_left
  ·(
  rintro w' ⟨s0, s1⟩
  go_simp
  with_reducible rfl)
  rotate_left
  ·(
  simp only [Act.put, List.setIfInBounds_toArray, List.set_cons_zero, List.set_cons_succ, i64_w, i32_w]
  rfl)
  refine one_ (i := 0) (N := some 21) #[T,F,T,T,F,F,F] rfl rfl (by kernel_rfl) (by decide) (fun K hK => ?_)
  refine ZGO Tryd.func22 #[.pointer (some ⟨gbB, 0, none⟩)] ?_
  refine (Tryd.bString gbB a _ IB.out (Nat.le_of_lt (Tryd.bLt IB.out))).mono ?_
  rintro e w24 ⟨rfl, hb⟩
  refine ⟨_, rfl, ?_⟩
  have n0_ := AM ((hb.block _ LBX.out).trans BK290.out)
  have n1_ := AM (HB.out.trans (hb.mono GEB.out))
  clear BK290 HB hb IB
  have BK290 := n0_
  have HB := n1_
  clear n0_ n1_
  refine hK.out _ _ ⟨ZA BK290 0, ZA BK290 1⟩ (fun hHeld => ?_)
  clear hK K
  refine ZNO 21 ?_
  refine pure_ (i := 1) (N := some 22) (v := ?_) (a' := ?_) #[T,T,T,T,F,F,F] rfl rfl (by kernel_rfl) (fun _ _ _ h => h) (Or.inl ⟨by rfl, ?_⟩) ?_ ?_
  rotate_left
  ·(
  intro w'
  go_simp
  with_reducible rfl)
  rotate_left
  ·(
  simp only [Act.put, List.setIfInBounds_toArray, List.set_cons_zero, List.set_cons_succ, i64_w, i32_w]
  rfl)
  refine one_ (i := 4) (N := some 25) #[T,T,T,T,T,F,F] rfl rfl (by kernel_rfl) (by decide) (fun K hK => ?_)
  refine ZGO Tryd.func23 #[.slice A0_1 l0_1.length c0_1] ?_
  with_reducible refine (impl_stepsText.calls k1 _ _ l0_1 t297 _ ?side1 ?side2 A20.out).mono ?_
  (case side1 => repeat (first | exact (Kd.C_below HR0_1.out (ZB)) | (with_reducible refine Kd.C_alloc ?_ _) | (with_reducible refine Kd.C_drewN ?_ _) | (with_reducible refine Kd.C_drew ?_)))
  (case side2 => exact HC0_1.out)
  rintro e w23 ⟨rfl, hb⟩
  refine ⟨_, rfl, ?_⟩
  replace BK290 := ZW BK290 hb
  replace HB := ZT HB hb
  (try clear hb)
  refine hK.out _ _ ⟨ZA BK290 0, ZA BK290 1⟩ (fun hHeld => ?_)
  clear hK K
  refine ZNO 25 ?_
  refine pure_ (i := 5) (N := some 26) (v := ?_) (a' := ?_) #[T,T,T,T,T,T,F] rfl rfl (by kernel_rfl) (fun _ _ _ h => h) (Or.inl ⟨by rfl, ?_⟩) ?_ ?_
  rotate_left
  ·(
  intro w'
  go_simp
  with_reducible rfl)
  rotate_left
  ·(
  simp only [Act.put, List.setIfInBounds_toArray, List.set_cons_zero, List.set_cons_succ, i64_w, i32_w]
  rfl)
  refine pure_ (i := 6) (N := some 2) (v := ?_) (a' := ?_) #[T,T,T,T,T,T,T] rfl rfl (by kernel_rfl) (fun _ _ _ h => h) (Or.inl ⟨by rfl, ?_⟩) ?_ ?_
  rotate_left
  ·(
  intro w'
  go_simp
  with_reducible rfl)
  rotate_left
  ·(
  simp only [Act.put, List.setIfInBounds_toArray, List.set_cons_zero, List.set_cons_succ, i64_w, i32_w]
  rfl)
  refine done_ (by kernel_rfl) ?_
  try go_wp2
  go_ret
  exact ⟨ZE, ZB⟩)
  ·(
  rw [if_neg c21] at H
  exact absurd H (by simp)))
  ·(
  rw [if_neg c19] at H
  exact absurd H (by simp)))))
 ·(
 replace c3 := Bool.eq_false_iff.mpr c3
 subst c3
 have H1 := H; rw [if_neg ZFT] at H1
 clear H
 obtain rfl := Option.some.inj H1
 go_enter Tryd.func8, Tryd.ntmps8
 go_wp2_with (first | ((with_reducible refine gate_dst (N := 1) rfl ?_); refine box_event ?hgw24b (N := 1) ?hdw24b (cs := #[.slice A0_0 l0_0.length c0_0, .slice A0_1 l0_1.length c0_1]) (t := 31) ?hrw24b ?_; (case hdw24b => rfl); (case hgw24b => rfl); (case hrw24b => first | (go_simp; done) | (go_simp; rfl)); intro gb290 hg w24b hbox hb; have n0_ := ZT HB hb; have BK290 := AM (hbox); have GE290 : Aside0 (w.heap.size ≤ gb290) := ZS hg; clear HB; have HB := n0_; clear n0_ hb hbox hg; have hcz5 := ZC2 w24b BK290; have hfz5 := ZF2 BK290) | ((with_reducible refine gate_callee (f := 19) rfl ?_); refine ZGL (some 7) Tryd.func19 #[.agg #[.slice A0_0 l0_0.length c0_0, .slice A0_1 l0_1.length c0_1]] ?_; (with_reducible refine (impl_ProgOk.calls k _ _ l0_0 _ _ l0_1 false _ ?side1 ?side2 ?side3 ?side4 A2.out).mono ?_); (case side1 => exact ZQ (Kd.C_below HR0_0.out HB.out)); (case side2 => exact HC0_0.out); (case side3 => exact ZQ (Kd.C_below HR0_1.out HB.out)); (case side4 => exact HC0_1.out); rintro e w26 ⟨rfl, hb⟩; refine ⟨_, rfl, ?_⟩; replace BK290 := ZW BK290 hb; replace HB := ZT HB hb; (try clear hb)))
 go_ret
 exact ⟨ZE, ZB⟩)

/-! ### laws_eqLabel: function 49 -/
def laws_eqLabel.f (a0_0 : Int) (a0_1 : Int) (a1_0 : Int) (a1_1 : Int) : Option (Bool) := if a0_0 = a1_0 then (if a0_1 = a1_1 then (some true) else (some false)) else (some false)
theorem laws_eqLabel.calls (a0_0 : Int) (a0_1 : Int) (a1_0 : Int) (a1_1 : Int) (r : Bool) (w : World) (h : laws_eqLabel.f a0_0 a0_1 a1_0 a1_1 = some r) :
  Calls Tryd.prog 49 #[.agg #[.int .i64 a0_0, .int .i64 a0_1], .agg #[.int .i64 a1_0, .int .i64 a1_1]] w fun e w' => e = .returned (.bool r) ∧ Below w.heap.size w w' := by
 have hu43 := Tryd.underlying43
 have HB := AM (Below.refl w.heap.size w)
 have H := h
 unfold laws_eqLabel.f at H
 clear h
 by_cases c3 : a0_0 = a1_0
 focus (
 rw [if_pos c3] at H
 have c3b0 := beq_iff_eq.mpr c3
 have c3b1 := bne_eq_false_iff_eq.mpr c3
 clear c3
 by_cases c4 : a0_1 = a1_1
 focus (
 rw [if_pos c4] at H
 have c4b0 := beq_iff_eq.mpr c4
 have c4b1 := bne_eq_false_iff_eq.mpr c4
 clear c4
 obtain rfl := Option.some.inj H
 have tag0_ : Aside0 True := ⟨trivial⟩)
 rotate_left
 focus (
 rw [if_neg c4] at H
 have c4b0 := beq_eq_false_iff_ne.mpr c4
 have c4b1 := bne_iff_ne.mpr c4
 obtain rfl := Option.some.inj H
 have tag1_ : Aside0 True := ⟨trivial⟩)
 rotate_left)
 rotate_left 2
 focus (
 rw [if_neg c3] at H
 have c3b0 := beq_eq_false_iff_ne.mpr c3
 have c3b1 := bne_iff_ne.mpr c3
 obtain rfl := Option.some.inj H
 have tag2_ : Aside0 True := ⟨trivial⟩)
 rotate_left
 all_goals (
 go_enter Tryd.func49, Tryd.ntmps49
 go_wp2_with (first | ((with_reducible refine gate_dst (N := 2) rfl ?_); refine ZX (N := 2) (cs := #[.int .i64 a0_0, .int .i64 a0_1]) (t := 43) ?_; intro gbq0 hg wq0 hbox hb; have BKq0 := AM (hbox); have GWq0 : Aside0 (w.heap.size ≤ gbq0) := ZS hg; have GEq0 : Aside0 (w.heap.size ≤ gbq0) := ZS hg; replace HB := ZT HB hb; clear hb hbox hg) | ((with_reducible refine gate_dst (N := 3) rfl ?_); refine ZX (N := 3) (cs := #[.int .i64 a1_0, .int .i64 a1_1]) (t := 43) ?_; intro gbq1 hg wq1 hbox hb; have BKq1 := AM (hbox); have GWq1 : Aside0 (w.heap.size ≤ gbq1) := ZS hg; have GEq1 : Aside0 (w.heap.size ≤ gbq1) := ZS hg; have NBq0_291 : Aside0 (gbq0 ≠ gbq1) := ZN hg BKq0; have NBq1_290 : Aside0 (gbq1 ≠ gbq0) := ZM hg BKq0; replace BKq0 := ZW BKq0 hb; replace HB := ZT HB hb; clear hb hbox hg; have hnbq0 := NBq0_291.out; have hncq0 := NBq1_290.out; have hczq0 := ZC2 wq1 BKq0; have hfzq0 := ZF2 BKq0; have hczq1 := ZC2 wq1 BKq1; have hfzq1 := ZF2 BKq1))
 go_ret
 exact ⟨ZE, ZB⟩)

/-! ### laws_eqLabelS: function 24 -/
def laws_eqLabelS.l0 : Nat → List (S43) → List (S43) → Int → Option (Bool)
 | 0, _, _, _ => none
 | k + 1, x0, x1, x5 => if x5 < (x0.length : Int) then (if 0 ≤ x5 then (if x5 < (x1.length : Int) then ((laws_eqLabel.f ((rd_T43 x0 x5).f0) ((rd_T43 x0 x5).f1) ((rd_T43 x1 x5).f0) ((rd_T43 x1 x5).f1)).bind fun t294 => (if t294 = true then (laws_eqLabelS.l0 k x0 x1 (wrap64 (x5 + 1))) else (some false))) else (none)) else (none)) else (some true)
def laws_eqLabelS.f (k : Nat) (l0 : List (S43)) (l1 : List (S43)) : Option (Bool) := if (l0.length : Int) = (l1.length : Int) then (laws_eqLabelS.l0 k l0 l1 0) else (some false)
def laws_eqLabelS.T6 : Bool × List (List Nat × List Nat) := (true, [([], []), ([], []), ([0, 1], [0, 1]), ([2], [2]), ([], []), ([], []), ([4, 5], [4, 5]), ([6], [6]), ([3, 7], [3, 7]), ([8], [8])])
def laws_eqLabelS.B6 : List Nat := [0, 0, 3, 7, 0, 0, 48, 112, 255, 511]
theorem laws_eqLabelS.tab6 : rtab .any (opsOf Tryd.f24 6) = laws_eqLabelS.T6 := by kernel_rfl
theorem laws_eqLabelS.bits6 : waitsOk laws_eqLabelS.T6.2 laws_eqLabelS.B6 = true := by kernel_rfl
theorem laws_eqLabelS.calls (k : Nat) (A0 : Option Addr) (c0 : Nat) (l0 : List (S43)) (A1 : Option Addr) (c1 : Nat) (l1 : List (S43)) (r : Bool) (w : World) (hr0 : Kd.C k43 w A0 l0.length l0) (hc0 : l0.length ≤ c0) (hr1 : Kd.C k43 w A1 l1.length l1) (hc1 : l1.length ≤ c1) (h : laws_eqLabelS.f k l0 l1 = some r) :
  Calls Tryd.prog 24 #[.slice A0 l0.length c0, .slice A1 l1.length c1] w fun e w' => e = .returned (.bool r) ∧ Below w.heap.size w w' := by
 have hu43 := Tryd.underlying43
 have HR0 := AM hr0
 have HC0 := AM hc0
 clear hr0 hc0
 have HR1 := AM hr1
 have HC1 := AM hc1
 clear hr1 hc1
 have HB := AM (Below.refl w.heap.size w)
 have H := h
 unfold laws_eqLabelS.f at H
 clear h
 by_cases c3 : (l0.length : Int) = (l1.length : Int)
 ·(
 rw [if_pos c3] at H
 have c3b0 := beq_iff_eq.mpr c3
 have c3b1 := bne_eq_false_iff_eq.mpr c3
 have c3b2 : (l0.length == l1.length) = true := by first | simpa using c3 | (simp at c3 ⊢; omega)
 clear c3
 have H' := AM H
 clear H
 go_enter Tryd.func24, Tryd.ntmps24
 go_wp2
 go_loopg [5] k (fun kq v5 w' => ∃ (x5_1 : Int), v5 = .int .i64 x5_1 ∧ Aside0 (laws_eqLabelS.l0 kq l0 l1 x5_1 = some r) ∧ Aside0 (kq ≤ k) ∧ Aside0 (Below w.heap.size w w'))
 case atStart => exact ⟨(0), (by first | rfl | (simp; done) | (simp [*]; done)), H', ⟨Nat.le_refl _⟩, ⟨ZB⟩⟩
 case round => (
 clear H'
 try clear c1
 try clear c2
 try clear p2
 try clear c3
 try clear c3b0
 try clear c3b1
 try clear c3b2
 obtain ⟨x5_1, rfl, HA, HK1, HB⟩ := hrel
 cases gk with
 | zero => exact absurd HA.out (by simp [laws_eqLabelS.l0])
 | succ k1 =>
  have H := HA.out
  clear HA
  simp only [laws_eqLabelS.l0] at H
  by_cases c4 : x5_1 < (l0.length : Int)
  focus (
  rw [if_pos c4] at H
  have c4b0 := decide_eq_true c4
  clear c4
  by_cases c5 : 0 ≤ x5_1
  focus (
  rw [if_pos c5] at H
  have c5b0 := decide_eq_true c5
  clear c5
  by_cases c6 : x5_1 < (l1.length : Int)
  focus (
  rw [if_pos c6] at H
  have c6b0 := decide_eq_true c6
  clear c6
  obtain ⟨t294, A7, H⟩ := ZOB H; try dsimp only at H
  by_cases c8 : t294 = true
  focus (
  subst c8
  have H1 := H; rw [if_pos rfl] at H1
  clear H
  have H := H1
  clear H1
  have H' := AM H
  clear H
  have tag0_ : Aside0 True := ⟨trivial⟩)
  rotate_left
  focus (
  replace c8 := Bool.eq_false_iff.mpr c8
  subst c8
  have H1 := H; rw [if_neg ZFT] at H1
  clear H
  have H := H1
  clear H1
  obtain rfl := Option.some.inj H
  have tag1_ : Aside0 True := ⟨trivial⟩)
  rotate_left)
  rotate_left 2
  focus (
  exact ZNE H c6))
  rotate_left 2
  focus (
  exact ZNE H c5))
  rotate_left 2
  focus (
  rw [if_neg c4] at H
  have c4b0 := decide_eq_false c4
  clear c4
  obtain rfl := Option.some.inj H
  have tag2_ : Aside0 True := ⟨trivial⟩)
  rotate_left
  all_goals (
  first
  | (
  (first | (have z_ := tag0_; clear z_) | (have z_ := tag1_; clear z_))
  try go_wp2
  replace HB := AM (below_drew1 HB.out)
  have pq0 : 0 ≤ (x5_1 : Int) := ZD
  have qq0 : x5_1 < (l0.length : Int) := ZD
  obtain ⟨adq0, eq0, hxq0_0, hxq0_1⟩ := at_T43 HR0.out x5_1 pq0 qq0
  have hwq0_1 := hxq0_1
  have hwq0_0 := hxq0_0
  cases eq0
  replace hxq0_0 := ZHX HB hxq0_0
  replace hxq0_1 := ZHX HB hxq0_1
  replace pq0 := eq_true pq0
  replace qq0 := eq_true qq0
  have pq1 : 0 ≤ (x5_1 : Int) := ZD
  have qq1 : x5_1 < (l1.length : Int) := ZD
  obtain ⟨adq1, eq1, hxq1_0, hxq1_1⟩ := at_T43 HR1.out x5_1 pq1 qq1
  have hwq1_1 := hxq1_1
  have hwq1_0 := hxq1_0
  cases eq1
  replace hxq1_0 := ZHX HB hxq1_0
  replace hxq1_1 := ZHX HB hxq1_1
  replace pq1 := eq_true pq1
  replace qq1 := eq_true qq1
  refine start_ (n := 10) (S := fun w' => w'.cell? (adq0.add ((x5_1).toNat * 2)) = some (.int .i64 ((rd_T43 l0 x5_1).f0)) ∧ w'.cell? ⟨(adq0.add ((x5_1).toNat * 2)).block, (adq0.add ((x5_1).toNat * 2)).off + 1, none⟩ = some (.int .i64 ((rd_T43 l0 x5_1).f1)) ∧ w'.cell? (adq1.add ((x5_1).toNat * 2)) = some (.int .i64 ((rd_T43 l1 x5_1).f0)) ∧ w'.cell? ⟨(adq1.add ((x5_1).toNat * 2)).block, (adq1.add ((x5_1).toNat * 2)).off + 1, none⟩ = some (.int .i64 ((rd_T43 l1 x5_1).f1))) (ds := []) #[F,F,F,F,F,F,F,F,F,F] (by kernel_rfl) rfl rfl ⟨((HB.out.cell (World.block_lt_of_cell? w _ hwq0_0)).trans hwq0_0), ((HB.out.cell (World.block_lt_of_cell? w _ hwq0_1)).trans hwq0_1), ((HB.out.cell (World.block_lt_of_cell? w _ hwq1_0)).trans hwq1_0), ((HB.out.cell (World.block_lt_of_cell? w _ hwq1_1)).trans hwq1_1)⟩ (fun hHeld => ?_); refine with_tabW laws_eqLabelS.tab6 laws_eqLabelS.bits6 (fun HT_ HW_ => ?_)
  generalize wr.drew = wq0 at HB hxq0_0 hxq0_1 hxq1_0 hxq1_1 hHeld ⊢
  refine ZU 0 17 #[T,F,F,F,F,F,F,F,F,F] ?_
  refine ZU 1 18 #[T,T,F,F,F,F,F,F,F,F] ?_
  refine ZU 2 19 #[T,T,T,F,F,F,F,F,F,F] ?_
  refine ZU 4 21 #[T,T,T,F,T,F,F,F,F,F] ?_
  refine ZU 5 22 #[T,T,T,F,T,T,F,F,F,F] ?_
  refine ZU 6 23 #[T,T,T,F,T,T,T,F,F,F] ?_
  refine ZTK 3 20 #[T,T,T,T,T,T,T,F,F,F] hHeld ?_
  refine ZTK 7 24 #[T,T,T,T,T,T,T,T,F,F] hHeld ?_
  refine one_ (i := 8) (N := some 25) #[T,T,T,T,T,T,T,T,T,F] rfl rfl (one_of HT_.out (by kernel_rfl)) (by decide) (fun K hK => ?_)
  refine ZGO Tryd.func49 #[.agg #[.int .i64 ((rd_T43 l0 x5_1).f0), .int .i64 ((rd_T43 l0 x5_1).f1)], .agg #[.int .i64 ((rd_T43 l1 x5_1).f0), .int .i64 ((rd_T43 l1 x5_1).f1)]] ?_
  first
  | (
  (have z_ := tag0_; clear z_)
  with_reducible refine (laws_eqLabel.calls ((rd_T43 l0 x5_1).f0) ((rd_T43 l0 x5_1).f1) ((rd_T43 l1 x5_1).f0) ((rd_T43 l1 x5_1).f1) true _ A7.out).mono ?_
  rintro e wq1 ⟨rfl, hb⟩
  refine ⟨_, rfl, ?_⟩
  replace HB := ZT HB hb
  (try clear hb)
  (try clear hb2)
  (try clear hk)
  (try clear hi)
  refine hK.out _ _ ⟨((HB.out.cell (World.block_lt_of_cell? w _ hwq0_0)).trans hwq0_0), ((HB.out.cell (World.block_lt_of_cell? w _ hwq0_1)).trans hwq0_1), ((HB.out.cell (World.block_lt_of_cell? w _ hwq1_0)).trans hwq1_0), ((HB.out.cell (World.block_lt_of_cell? w _ hwq1_1)).trans hwq1_1)⟩ (fun hHeld => ?_)
  clear hK K
  refine ZNO 25 ?_
  refine ZU 9 26 #[T,T,T,T,T,T,T,T,T,T] ?_
  refine done_ (done_of HT_.out (by kernel_rfl)) ?_
  try go_wp2
  go_roundg k1
  case measure => have := HK1.out; omega
  case rel => exact ⟨(wrap64 (x5_1 + 1)), (by first | rfl | (simp; done) | (simp [*]; done)), H', ⟨by have := HK1.out; omega⟩, ⟨ZB⟩⟩)
  | (
  (have z_ := tag1_; clear z_)
  with_reducible refine (laws_eqLabel.calls ((rd_T43 l0 x5_1).f0) ((rd_T43 l0 x5_1).f1) ((rd_T43 l1 x5_1).f0) ((rd_T43 l1 x5_1).f1) false _ A7.out).mono ?_
  rintro e wq1 ⟨rfl, hb⟩
  refine ⟨_, rfl, ?_⟩
  replace HB := ZT HB hb
  (try clear hb)
  (try clear hb2)
  (try clear hk)
  (try clear hi)
  refine hK.out _ _ ⟨((HB.out.cell (World.block_lt_of_cell? w _ hwq0_0)).trans hwq0_0), ((HB.out.cell (World.block_lt_of_cell? w _ hwq0_1)).trans hwq0_1), ((HB.out.cell (World.block_lt_of_cell? w _ hwq1_0)).trans hwq1_0), ((HB.out.cell (World.block_lt_of_cell? w _ hwq1_1)).trans hwq1_1)⟩ (fun hHeld => ?_)
  clear hK K
  refine ZNO 25 ?_
  refine ZU 9 26 #[T,T,T,T,T,T,T,T,T,T] ?_
  refine done_ (done_of HT_.out (by kernel_rfl)) ?_
  try go_wp2
  go_ret
  exact ⟨ZE, ZB⟩))
  | (
  (have z_ := tag2_; clear z_)
  go_wp2
  go_ret
  exact ⟨ZE, ZB⟩))))
 ·(
 rw [if_neg c3] at H
 have c3b0 := beq_eq_false_iff_ne.mpr c3
 have c3b1 := bne_iff_ne.mpr c3
 have c3b2 : (l0.length == l1.length) = false := by first | simpa using c3 | (simp at c3 ⊢; omega)
 obtain rfl := Option.some.inj H
 go_enter Tryd.func24, Tryd.ntmps24
 go_wp2
 go_ret
 exact ⟨ZE, ZB⟩)

/-! ### laws_eqVal: function 67 -/
def laws_eqVal.f (a0_0 : Int) (a0_1 : Int) (a0_2 : Int) (a1_0 : Int) (a1_1 : Int) (a1_2 : Int) : Option (Bool) := if a0_0 = a1_0 then (if a0_1 = a1_1 then (if a0_2 = a1_2 then (some true) else (some false)) else (some false)) else (some false)
theorem laws_eqVal.calls (a0_0 : Int) (a0_1 : Int) (a0_2 : Int) (a1_0 : Int) (a1_1 : Int) (a1_2 : Int) (r : Bool) (w : World) (h : laws_eqVal.f a0_0 a0_1 a0_2 a1_0 a1_1 a1_2 = some r) :
  Calls Tryd.prog 67 #[.agg #[.int .i64 a0_0, .int .i64 a0_1, .int .i64 a0_2], .agg #[.int .i64 a1_0, .int .i64 a1_1, .int .i64 a1_2]] w fun e w' => e = .returned (.bool r) ∧ Below w.heap.size w w' := by
 have hu69 := Tryd.underlying69
 have HB := AM (Below.refl w.heap.size w)
 have H := h
 unfold laws_eqVal.f at H
 clear h
 by_cases c3 : a0_0 = a1_0
 focus (
 rw [if_pos c3] at H
 have c3b0 := beq_iff_eq.mpr c3
 have c3b1 := bne_eq_false_iff_eq.mpr c3
 clear c3
 by_cases c4 : a0_1 = a1_1
 focus (
 rw [if_pos c4] at H
 have c4b0 := beq_iff_eq.mpr c4
 have c4b1 := bne_eq_false_iff_eq.mpr c4
 clear c4
 by_cases c5 : a0_2 = a1_2
 focus (
 rw [if_pos c5] at H
 have c5b0 := beq_iff_eq.mpr c5
 have c5b1 := bne_eq_false_iff_eq.mpr c5
 clear c5
 obtain rfl := Option.some.inj H
 have tag0_ : Aside0 True := ⟨trivial⟩)
 rotate_left
 focus (
 rw [if_neg c5] at H
 have c5b0 := beq_eq_false_iff_ne.mpr c5
 have c5b1 := bne_iff_ne.mpr c5
 obtain rfl := Option.some.inj H
 have tag1_ : Aside0 True := ⟨trivial⟩)
 rotate_left)
 rotate_left 2
 focus (
 rw [if_neg c4] at H
 have c4b0 := beq_eq_false_iff_ne.mpr c4
 have c4b1 := bne_iff_ne.mpr c4
 obtain rfl := Option.some.inj H
 have tag2_ : Aside0 True := ⟨trivial⟩)
 rotate_left)
 rotate_left 3
 focus (
 rw [if_neg c3] at H
 have c3b0 := beq_eq_false_iff_ne.mpr c3
 have c3b1 := bne_iff_ne.mpr c3
 obtain rfl := Option.some.inj H
 have tag3_ : Aside0 True := ⟨trivial⟩)
 rotate_left
 all_goals (
 go_enter Tryd.func67, Tryd.ntmps67
 go_wp2_with (first | ((with_reducible refine gate_dst (N := 2) rfl ?_); refine ZX (N := 2) (cs := #[.int .i64 a0_0, .int .i64 a0_1, .int .i64 a0_2]) (t := 69) ?_; intro gbq0 hg wq0 hbox hb; have BKq0 := AM (hbox); have GWq0 : Aside0 (w.heap.size ≤ gbq0) := ZS hg; have GEq0 : Aside0 (w.heap.size ≤ gbq0) := ZS hg; replace HB := ZT HB hb; clear hb hbox hg) | ((with_reducible refine gate_dst (N := 3) rfl ?_); refine ZX (N := 3) (cs := #[.int .i64 a1_0, .int .i64 a1_1, .int .i64 a1_2]) (t := 69) ?_; intro gbq1 hg wq1 hbox hb; have BKq1 := AM (hbox); have GWq1 : Aside0 (w.heap.size ≤ gbq1) := ZS hg; have GEq1 : Aside0 (w.heap.size ≤ gbq1) := ZS hg; have NBq0_296 : Aside0 (gbq0 ≠ gbq1) := ZN hg BKq0; have NBq1_295 : Aside0 (gbq1 ≠ gbq0) := ZM hg BKq0; replace BKq0 := ZW BKq0 hb; replace HB := ZT HB hb; clear hb hbox hg; have hnbq0 := NBq0_296.out; have hncq0 := NBq1_295.out; have hczq0 := ZC3 wq1 BKq0; have hfzq0 := ZF3 BKq0; have hczq1 := ZC3 wq1 BKq1; have hfzq1 := ZF3 BKq1))
 go_ret
 exact ⟨ZE, ZB⟩)

-- (laws_eqStep stands with its caller)

end Go.Proofs.YtfcmckomagaiiaaDoor.A
