/- By wip/tools/pr.py: Go functions as Lean functions, with contracts. -/
import Derived.Test.YthidgkfgdkjghaaAx0
import Derived.Test.YthidgkfgdkjghaaAx5
import Derived.Test.YthidgkfgdkjghaaAx29
import Derived.Test.YthidgkfgdkjghaaAx19
import Derived.Test.YthidgkfgdkjghaaAx36
namespace Go.Proofs.Ythidgkfgdkjghaa.A
open Go.RowKit Go.Proofs.YthidgkfgdkjghaaW.PrintWords Go.Proofs.YthidgkfgdkjghaaW.PrintLast Go.Proofs.YthidgkfgdkjghaaW.PrintMore
attribute [local go_sem] max2_int min2_int max_two min_two max_three min_three max_four min_four
set_option linter.unusedVariables false
set_option linter.unusedSimpArgs false
set_option maxHeartbeats 8000000
set_option maxRecDepth 100000

/-! ### laws_FnTypeTell: function 8 -/
mutual
def laws_FnTypeTell.j0 : Nat → Bool → List (S39) → List (S32) → Option (Bool)
 | 0, _, _, _ => none
 | k + 1, x21, x782000, x782001 => if x21 = true then ((impl_TypeOk.f k x782000 x782001).bind fun t785 => ((spec_TypeOk.f k x782000 x782001).bind fun t786 => (some (t785 == t786)))) else (laws_FnTypeTell.l0 k 0 x782000 x782001)
def laws_FnTypeTell.l0 : Nat → Int → List (S39) → List (S32) → Option (Bool)
 | 0, _, _, _ => none
 | k + 1, x4, x782000, x782001 => if x4 < (x782000.length : Int) then (laws_FnTypeTell.l1 k x4 0 x782000 x782001) else (some true)
def laws_FnTypeTell.l1 : Nat → Int → Int → List (S39) → List (S32) → Option (Bool)
 | 0, _, _, _, _ => none
 | k + 1, x4, x5, x782000, x782001 => if x5 < 3 then ((impl_TypeOk.f k x782000 (([(⟨3, x4, (⟨0, 0, 0⟩ : S30), x5, ([] : List (S32)), ([] : List (S32))⟩ : S32)] : List (S32)))).bind fun t791 => (if 0 ≤ x4 then (if x4 < (x782000.length : Int) then ((laws_lcHas.f ((D39 x782000 x4).f0) x5).bind fun t793 => (if (t791 != t793) = true then (some false) else (laws_FnTypeTell.l1 k x4 (wrap64 (x5 + 1)) x782000 x782001))) else (none)) else (none))) else (laws_FnTypeTell.l0 k (wrap64 (x4 + 1)) x782000 x782001)
end
def laws_FnTypeTell.f (k : Nat) (l0 : List Int) : Option (Bool) := if (l0.length : Int) > 1048576 then (some true) else ((spec_DrawTypeOk.f k l0).bind fun bt775 => ((impl_TypeOk.f k bt775.1 bt775.2).bind fun t782 => ((spec_TypeOk.f k bt775.1 bt775.2).bind fun t783 => (if (t782 != t783) = true then (laws_FnTypeTell.j0 k true bt775.1 bt775.2) else ((spec_ProgOk.f k bt775.1 bt775.2).bind fun t784 => (laws_FnTypeTell.j0 k (!t784) bt775.1 bt775.2))))))
def laws_FnTypeTell.T4 : Bool × List (List Nat × List Nat) := (true, [([], []), ([0], [0]), ([], []), ([2, 1], [2]), ([1, 3], [1, 3]), ([4, 3], [4]), ([5], [5]), ([6, 5, 5], [5, 6]), ([7, 5], [5, 7]), ([5, 8], [5, 8])])
def laws_FnTypeTell.B4 : List Nat := [0, 1, 0, 7, 15, 31, 63, 127, 255, 511]
theorem laws_FnTypeTell.tab4 : rtab .any (opsOf Try.f8 4) = laws_FnTypeTell.T4 := by kernel_rfl
theorem laws_FnTypeTell.bits4 : waitsOk laws_FnTypeTell.T4.2 laws_FnTypeTell.B4 = true := by kernel_rfl
def laws_FnTypeTell.T13 : Bool × List (List Nat × List Nat) := (true, [([], []), ([0], [0]), ([], []), ([2], [2]), ([], []), ([3, 4], [3, 4]), ([5], [5]), ([6], [6]), ([], []), ([7, 8, 1], [7, 8]), ([1, 9], [1, 9])])
def laws_FnTypeTell.B13 : List Nat := [0, 1, 0, 4, 0, 28, 60, 124, 0, 511, 1023]
theorem laws_FnTypeTell.tab13 : rtab .any (opsOf Try.f8 13) = laws_FnTypeTell.T13 := by kernel_rfl
theorem laws_FnTypeTell.bits13 : waitsOk laws_FnTypeTell.T13.2 laws_FnTypeTell.B13 = true := by kernel_rfl
theorem laws_FnTypeTell.calls (k : Nat) (A0 : Option Addr) (c0 : Nat) (l0 : List Int) (r : Bool) (w : World) (hr0 : Kd.C (Kd.int .u8) w A0 l0.length l0) (hc0 : l0.length ≤ c0) (h : laws_FnTypeTell.f k l0 = some r) :
  Calls Try.prog 8 #[.slice A0 l0.length c0] w fun e w' => e = .returned (.bool r) ∧ Below w.heap.size w w' := by
 have hu26 := Try.underlying26
 have hu32 := Try.underlying32
 have HR0 := AM hr0
 have HC0 := AM hc0
 clear hr0 hc0
 have HB := AM (Below.refl w.heap.size w)
 have H := h
 unfold laws_FnTypeTell.f at H
 clear h
 by_cases c2 : (l0.length : Int) > 1048576
 ·(
 rw [if_pos c2] at H
 have c2b0 := decide_eq_true c2
 have c2b1 : decide (1048576 < l0.length) = true := decide_eq_true (by omega)
 clear c2
 obtain rfl := Option.some.inj H
 go_enter Try.func8, Try.ntmps8
 go_wp2
 go_ret
 exact ⟨ZE, ZB⟩)
 ·(
 rw [if_neg c2] at H
 have c2b0 := decide_eq_false c2
 have c2b1 : decide (1048576 < l0.length) = false := decide_eq_false (by omega)
 clear c2
 obtain ⟨⟨t775, t778⟩, A3, H⟩ := ZOB H; try dsimp only at H
 have HC4 := AM H
 clear H
 go_enter Try.func8, Try.ntmps8
 go_upto_region 4 with (first | ((with_reducible refine gate_callee (f := 21) rfl ?_); refine ZGL (some 11) Try.func21 #[.slice A0 l0.length c0] ?_; (with_reducible refine (spec_DrawTypeOk.calls k _ _ l0 t775 t778 _ ?side1 HC0.out A3.out).mono ?_); (case side1 => exact ZQ HR0.out); rintro e w5 ⟨v776, v779, rfl, ho0, ho1, hb⟩; refine ⟨_, rfl, ?_⟩; have HO777 := AM (Kd.R_lower (Kd.R_mono (ok' := fun k_ => True) ho0 (fun _ hk_ => trivial)) (below_size (ZB))); have HO780 := AM (Kd.N_lower (Kd.N_mono (ok' := fun k_ => some k_ ≠ (v776 : Value).ownBlock) ho1 (fun k_ hk_ => hk_.2)) (below_size (ZB))); replace HB := ZT HB hb; clear hb; (try clear ho0); (try clear ho1)) | ((with_reducible refine gate_dst (N := 3) rfl ?_); refine ZX (N := 3) (cs := #[.slice none 0 0, .slice none 0 0]) (t := 26) ?_; intro gb781 hg w6 hbox hb; have BK781 := AM (hbox); have GW781 : Za (w.heap.size ≤ gb781) := ZS hg; replace HO777 := AM (Kd.R_below (ZR HO777.out) hb); replace HO780 := AM (Kd.N_below (Kd.N_elderB (ZRN HO780.out) gb781 (Nat.le_of_eq hg.symm)) hb); replace HB := ZT HB hb; clear hb hbox hg; obtain ⟨Ao7, co7, eo7⟩ := Kd.R_slice HO777.out; subst eo7; have hcz8 := ZC2 w6 BK781; have hfz8 := ZF2 BK781; obtain ⟨Ao9, co9, eo9⟩ := Kd.N_slice HO780.out; subst eo9))
 (try simp only [Act.put, List.setIfInBounds_toArray, List.set_cons_zero, List.set_cons_succ])
 go_cut [21] (fun v21 wc => ∃ (kq : Nat) (x21_3 : Bool), v21 = .bool x21_3 ∧ Za (laws_FnTypeTell.j0 kq x21_3 t775 t778 = some r) ∧ Za (kq ≤ k) ∧ Za (Kd.R k39 39 wc w.heap.size (fun _ => True) (.slice Ao7 t775.length co7) t775) ∧ Za (Kd.N k32 32 wc w.heap.size (fun k_ => some k_ ≠ ((.slice Ao7 t775.length co7) : Value).ownBlock ∧ k_ ≠ gb781) (.slice Ao9 t778.length co9) t778) ∧ Za (wc.heap[gb781]? = some (.cells #[(.slice Ao7 t775.length co7), (.slice Ao9 t778.length co9)] 26 (0, 0))) ∧ Za (Below w.heap.size w wc))
 case first => (
 have H := HC4.out
 clear HC4
 obtain ⟨t782, A10, H⟩ := ZOB H; try dsimp only at H
 obtain ⟨t783, A11, H⟩ := ZOB H; try dsimp only at H
 by_cases c12 : (t782 != t783) = true
 ·(
 rw [if_pos c12] at H
 have c12b0 : (t782 != t783) = true := c12
 (try (have c12b1 : decide (t782 = t783) = false := by simpa using c12))
 (try (have c12b2 : (t782 == t783) = false := by simpa using c12))
 (try (have c12b3 : ¬ (t782 = t783) := by simpa using c12))
 clear c12
 (first | rw [c12b0] | (simp only [i64_w, i32_w]; rw [c12b0]) | skip)
 have H' := AM H
 clear H
 try go_wp2
 have n0_ : Za (Kd.R k39 39 ((w6.setCell ⟨gb781, 0, none⟩ (.slice Ao7 t775.length co7)).setCell ⟨gb781, 1, none⟩ (.slice Ao9 t778.length co9)) w.heap.size (fun _ => True) (.slice Ao7 t775.length co7) t775) := ⟨ZR (Kd.R_mono (Kd.R_far (p := ⟨gb781, 1, none⟩) (Kd.R_far (p := ⟨gb781, 0, none⟩) (Kd.R_types HO777.out BK781.out (by decide)) (fun _ hk => hk.2) (.slice Ao7 t775.length co7)) (fun _ hk => hk.2) (.slice Ao9 t778.length co9)) (fun _ hk => trivial))⟩
 have n1_ : Za (Kd.N k32 32 ((w6.setCell ⟨gb781, 0, none⟩ (.slice Ao7 t775.length co7)).setCell ⟨gb781, 1, none⟩ (.slice Ao9 t778.length co9)) w.heap.size (fun k_ => some k_ ≠ (.slice Ao7 t775.length co7 : Value).ownBlock ∧ k_ ≠ gb781) (.slice Ao9 t778.length co9) t778) := ⟨by (with_reducible repeat (first | apply Kd.N_alloc | apply Kd.N_drewN | apply Kd.N_drew)); exact Kd.N_mono (Kd.N_far (p := ⟨gb781, 1, none⟩) (Kd.N_far (p := ⟨gb781, 0, none⟩) (Kd.N_mono HO780.out (fun k_ hk => (⟨hk, hk.2⟩ : _ ∧ k_ ≠ gb781))) (fun _ hk => hk.2) (.slice Ao7 t775.length co7)) (fun _ hk => hk.2) (.slice Ao9 t778.length co9)) (fun _ hk => ⟨hk.1.1, hk.1.2⟩)⟩
 have n2_ : Za (((w6.setCell ⟨gb781, 0, none⟩ (.slice Ao7 t775.length co7)).setCell ⟨gb781, 1, none⟩ (.slice Ao9 t778.length co9)).heap[gb781]? = some (.cells #[.slice Ao7 t775.length co7, .slice Ao9 t778.length co9] 26 (0, 0))) := ⟨ZZ BK781.out⟩
 have n3_ : Za (Below w.heap.size w ((w6.setCell ⟨gb781, 0, none⟩ (.slice Ao7 t775.length co7)).setCell ⟨gb781, 1, none⟩ (.slice Ao9 t778.length co9))) := ⟨ZB⟩
 (try clear HO777)
 (try clear HO780)
 (try clear BK781)
 (try clear HB)
 generalize ((w6.setCell ⟨gb781, 0, none⟩ (.slice Ao7 t775.length co7)).setCell ⟨gb781, 1, none⟩ (.slice Ao9 t778.length co9)) = w13 at n0_ n1_ n2_ n3_ ⊢
 have HO777 := n0_
 have HO780 := n1_
 have BK781 := n2_
 have HB := n3_
 clear n0_ n1_ n2_ n3_
 replace HO777 := AM (Kd.R_drew HO777.out)
 replace HO780 := AM (Kd.N_drew HO780.out)
 replace BK781 := AM (blk_drew BK781.out)
 replace HB := AM (below_drew1 HB.out)
 refine start_ (n := 10) (S := fun w' => w'.cell? ⟨gb781, 0, none⟩ = some (.slice Ao7 t775.length co7) ∧ w'.cell? ⟨gb781, 1, none⟩ = some (.slice Ao9 t778.length co9)) (ds := []) #[F,F,F,F,F,F,F,F,F,F] (by kernel_rfl) rfl rfl ⟨ZA BK781 0, ZA BK781 1⟩ (fun hHeld => ?_); refine with_tabW laws_FnTypeTell.tab4 laws_FnTypeTell.bits4 (fun HT_ HW_ => ?_)
 generalize w13.drew = w14 at HO777 HO780 BK781 HB hHeld ⊢
 refine ZTK 0 12 #[T,F,F,F,F,F,F,F,F,F] hHeld ?_
 refine ZTK 2 14 #[T,F,T,F,F,F,F,F,F,F] hHeld ?_
 refine one_ (i := 1) (N := some 13) #[T,T,T,F,F,F,F,F,F,F] rfl rfl (one_of HT_.out (by kernel_rfl)) (by decide) (fun K hK => ?_)
 refine ZGO Try.func20 #[.agg #[.slice Ao7 t775.length co7, .slice Ao9 t778.length co9]] ?_
 with_reducible refine (impl_TypeOk.calls k _ _ t775 _ _ t778 t782 _ ?side1 ?side2 ?side3 ?side4 A10.out).mono ?_
 (case side1 => exact ZQ ((Kd.R_reads' HO777.out).2.2))
 (case side2 => exact (Kd.R_reads' HO777.out).2.1)
 (case side3 => exact ZQ ((Kd.N_reads' HO780.out).2.2))
 (case side4 => exact (Kd.N_reads' HO780.out).2.1)
 rintro e w15 ⟨rfl, hb⟩
 refine ⟨_, rfl, ?_⟩
 replace HO777 := AM (Kd.R_below (ZR HO777.out) hb)
 replace HO780 := AM (Kd.N_below (ZRN HO780.out) hb)
 replace BK781 := ZW BK781 hb
 replace HB := ZT HB hb
 (try clear hb)
 (try clear hb2)
 (try clear hk)
 (try clear hi)
 refine hK.out _ _ ⟨ZA BK781 0, ZA BK781 1⟩ (fun hHeld => ?_)
 clear hK K
 refine ZNO 13 ?_
 refine one_ (i := 3) (N := some 15) #[T,T,T,T,F,F,F,F,F,F] rfl rfl (one_of HT_.out (by kernel_rfl)) (by decide) (fun K hK => ?_)
 refine ZGO Try.func22 #[.agg #[.slice Ao7 t775.length co7, .slice Ao9 t778.length co9]] ?_
 with_reducible refine (spec_TypeOk.calls k _ _ t775 _ _ t778 t783 _ ?side1 ?side2 ?side3 ?side4 A11.out).mono ?_
 (case side1 => exact ZQ ((Kd.R_reads' HO777.out).2.2))
 (case side2 => exact (Kd.R_reads' HO777.out).2.1)
 (case side3 => exact ZQ ((Kd.N_reads' HO780.out).2.2))
 (case side4 => exact (Kd.N_reads' HO780.out).2.1)
 rintro e w16 ⟨rfl, hb⟩
 refine ⟨_, rfl, ?_⟩
 replace HO777 := AM (Kd.R_below (ZR HO777.out) hb)
 replace HO780 := AM (Kd.N_below (ZRN HO780.out) hb)
 replace BK781 := ZW BK781 hb
 replace HB := ZT HB hb
 (try clear hb)
 (try clear hb2)
 (try clear hk)
 (try clear hi)
 refine hK.out _ _ ⟨ZA BK781 0, ZA BK781 1⟩ (fun hHeld => ?_)
 clear hK K
 refine ZNO 15 ?_
 refine ZU 4 16 #[T,T,T,T,T,F,F,F,F,F] ?_
 refine ZU 5 17 #[T,T,T,T,T,T,F,F,F,F] ?_
 refine ZUU 6 18 #[T,T,T,T,T,T,T,F,F,F] ?_
 refine ZUU 7 19 #[T,T,T,T,T,T,T,T,F,F] ?_
 refine ZUU 8 20 #[T,T,T,T,T,T,T,T,T,F] ?_
 refine ZU 9 21 #[T,T,T,T,T,T,T,T,T,T] ?_
 refine done_ (done_of HT_.out (by kernel_rfl)) ?_
 try go_wp2
 go_meet
 case rel => exact ⟨_, (true), (by first | rfl | (simp; done) | (simp [*]; done)), H', ⟨by first | omega | exact Nat.le_refl _⟩, ⟨ZR HO777.out⟩, ⟨ZRN HO780.out⟩, ⟨ZK BK781.out⟩, ⟨ZB⟩⟩)
 ·(
 rw [if_neg c12] at H
 have c12b0 : (t782 != t783) = false := by simpa using c12
 (try (have c12b1 : decide (t782 = t783) = true := by simpa using c12))
 (try (have c12b2 : (t782 == t783) = true := by simpa using c12))
 clear c12
 (first | rw [c12b0] | (simp only [i64_w, i32_w]; rw [c12b0]) | skip)
 obtain ⟨t784, A17, H⟩ := ZOB H; try dsimp only at H
 have H' := AM H
 clear H
 try go_wp2
 have n0_ : Za (Kd.R k39 39 ((w6.setCell ⟨gb781, 0, none⟩ (.slice Ao7 t775.length co7)).setCell ⟨gb781, 1, none⟩ (.slice Ao9 t778.length co9)) w.heap.size (fun _ => True) (.slice Ao7 t775.length co7) t775) := ⟨ZR (Kd.R_mono (Kd.R_far (p := ⟨gb781, 1, none⟩) (Kd.R_far (p := ⟨gb781, 0, none⟩) (Kd.R_types HO777.out BK781.out (by decide)) (fun _ hk => hk.2) (.slice Ao7 t775.length co7)) (fun _ hk => hk.2) (.slice Ao9 t778.length co9)) (fun _ hk => trivial))⟩
 have n1_ : Za (Kd.N k32 32 ((w6.setCell ⟨gb781, 0, none⟩ (.slice Ao7 t775.length co7)).setCell ⟨gb781, 1, none⟩ (.slice Ao9 t778.length co9)) w.heap.size (fun k_ => some k_ ≠ (.slice Ao7 t775.length co7 : Value).ownBlock ∧ k_ ≠ gb781) (.slice Ao9 t778.length co9) t778) := ⟨by (with_reducible repeat (first | apply Kd.N_alloc | apply Kd.N_drewN | apply Kd.N_drew)); exact Kd.N_mono (Kd.N_far (p := ⟨gb781, 1, none⟩) (Kd.N_far (p := ⟨gb781, 0, none⟩) (Kd.N_mono HO780.out (fun k_ hk => (⟨hk, hk.2⟩ : _ ∧ k_ ≠ gb781))) (fun _ hk => hk.2) (.slice Ao7 t775.length co7)) (fun _ hk => hk.2) (.slice Ao9 t778.length co9)) (fun _ hk => ⟨hk.1.1, hk.1.2⟩)⟩
 have n2_ : Za (((w6.setCell ⟨gb781, 0, none⟩ (.slice Ao7 t775.length co7)).setCell ⟨gb781, 1, none⟩ (.slice Ao9 t778.length co9)).heap[gb781]? = some (.cells #[.slice Ao7 t775.length co7, .slice Ao9 t778.length co9] 26 (0, 0))) := ⟨ZZ BK781.out⟩
 have n3_ : Za (Below w.heap.size w ((w6.setCell ⟨gb781, 0, none⟩ (.slice Ao7 t775.length co7)).setCell ⟨gb781, 1, none⟩ (.slice Ao9 t778.length co9))) := ⟨ZB⟩
 (try clear HO777)
 (try clear HO780)
 (try clear BK781)
 (try clear HB)
 generalize ((w6.setCell ⟨gb781, 0, none⟩ (.slice Ao7 t775.length co7)).setCell ⟨gb781, 1, none⟩ (.slice Ao9 t778.length co9)) = w18 at n0_ n1_ n2_ n3_ ⊢
 have HO777 := n0_
 have HO780 := n1_
 have BK781 := n2_
 have HB := n3_
 clear n0_ n1_ n2_ n3_
 replace HO777 := AM (Kd.R_drew HO777.out)
 replace HO780 := AM (Kd.N_drew HO780.out)
 replace BK781 := AM (blk_drew BK781.out)
 replace HB := AM (below_drew1 HB.out)
 refine start_ (n := 10) (S := fun w' => w'.cell? ⟨gb781, 0, none⟩ = some (.slice Ao7 t775.length co7) ∧ w'.cell? ⟨gb781, 1, none⟩ = some (.slice Ao9 t778.length co9)) (ds := []) #[F,F,F,F,F,F,F,F,F,F] (by kernel_rfl) rfl rfl ⟨ZA BK781 0, ZA BK781 1⟩ (fun hHeld => ?_); refine with_tabW laws_FnTypeTell.tab4 laws_FnTypeTell.bits4 (fun HT_ HW_ => ?_)
 generalize w18.drew = w19 at HO777 HO780 BK781 HB hHeld ⊢
 refine ZTK 0 12 #[T,F,F,F,F,F,F,F,F,F] hHeld ?_
 refine ZTK 2 14 #[T,F,T,F,F,F,F,F,F,F] hHeld ?_
 refine one_ (i := 1) (N := some 13) #[T,T,T,F,F,F,F,F,F,F] rfl rfl (one_of HT_.out (by kernel_rfl)) (by decide) (fun K hK => ?_)
 refine ZGO Try.func20 #[.agg #[.slice Ao7 t775.length co7, .slice Ao9 t778.length co9]] ?_
 with_reducible refine (impl_TypeOk.calls k _ _ t775 _ _ t778 t782 _ ?side1 ?side2 ?side3 ?side4 A10.out).mono ?_
 (case side1 => exact ZQ ((Kd.R_reads' HO777.out).2.2))
 (case side2 => exact (Kd.R_reads' HO777.out).2.1)
 (case side3 => exact ZQ ((Kd.N_reads' HO780.out).2.2))
 (case side4 => exact (Kd.N_reads' HO780.out).2.1)
 rintro e w20 ⟨rfl, hb⟩
 refine ⟨_, rfl, ?_⟩
 replace HO777 := AM (Kd.R_below (ZR HO777.out) hb)
 replace HO780 := AM (Kd.N_below (ZRN HO780.out) hb)
 replace BK781 := ZW BK781 hb
 replace HB := ZT HB hb
 (try clear hb)
 (try clear hb2)
 (try clear hk)
 (try clear hi)
 refine hK.out _ _ ⟨ZA BK781 0, ZA BK781 1⟩ (fun hHeld => ?_)
 clear hK K
 refine ZNO 13 ?_
 refine one_ (i := 3) (N := some 15) #[T,T,T,T,F,F,F,F,F,F] rfl rfl (one_of HT_.out (by kernel_rfl)) (by decide) (fun K hK => ?_)
 refine ZGO Try.func22 #[.agg #[.slice Ao7 t775.length co7, .slice Ao9 t778.length co9]] ?_
 with_reducible refine (spec_TypeOk.calls k _ _ t775 _ _ t778 t783 _ ?side1 ?side2 ?side3 ?side4 A11.out).mono ?_
 (case side1 => exact ZQ ((Kd.R_reads' HO777.out).2.2))
 (case side2 => exact (Kd.R_reads' HO777.out).2.1)
 (case side3 => exact ZQ ((Kd.N_reads' HO780.out).2.2))
 (case side4 => exact (Kd.N_reads' HO780.out).2.1)
 rintro e w21 ⟨rfl, hb⟩
 refine ⟨_, rfl, ?_⟩
 replace HO777 := AM (Kd.R_below (ZR HO777.out) hb)
 replace HO780 := AM (Kd.N_below (ZRN HO780.out) hb)
 replace BK781 := ZW BK781 hb
 replace HB := ZT HB hb
 (try clear hb)
 (try clear hb2)
 (try clear hk)
 (try clear hi)
 refine hK.out _ _ ⟨ZA BK781 0, ZA BK781 1⟩ (fun hHeld => ?_)
 clear hK K
 refine ZNO 15 ?_
 refine ZU 4 16 #[T,T,T,T,T,F,F,F,F,F] ?_
 refine ZU 5 17 #[T,T,T,T,T,T,F,F,F,F] ?_
 refine ZTK 6 18 #[T,T,T,T,T,T,T,F,F,F] hHeld ?_
 refine one_ (i := 7) (N := some 19) #[T,T,T,T,T,T,T,T,F,F] rfl rfl (one_of HT_.out (by kernel_rfl)) (by decide) (fun K hK => ?_)
 refine ZGO Try.func19 #[.agg #[.slice Ao7 t775.length co7, .slice Ao9 t778.length co9]] ?_
 with_reducible refine (spec_ProgOk.calls k _ _ t775 _ _ t778 t784 _ ?side1 ?side2 ?side3 ?side4 A17.out).mono ?_
 (case side1 => exact ZQ ((Kd.R_reads' HO777.out).2.2))
 (case side2 => exact (Kd.R_reads' HO777.out).2.1)
 (case side3 => exact ZQ ((Kd.N_reads' HO780.out).2.2))
 (case side4 => exact (Kd.N_reads' HO780.out).2.1)
 rintro e w22 ⟨rfl, hb⟩
 refine ⟨_, rfl, ?_⟩
 replace HO777 := AM (Kd.R_below (ZR HO777.out) hb)
 replace HO780 := AM (Kd.N_below (ZRN HO780.out) hb)
 replace BK781 := ZW BK781 hb
 replace HB := ZT HB hb
 (try clear hb)
 (try clear hb2)
 (try clear hk)
 (try clear hi)
 refine hK.out _ _ ⟨ZA BK781 0, ZA BK781 1⟩ (fun hHeld => ?_)
 clear hK K
 refine ZNO 19 ?_
 refine ZU 8 20 #[T,T,T,T,T,T,T,T,T,F] ?_
 refine ZU 9 21 #[T,T,T,T,T,T,T,T,T,T] ?_
 refine done_ (done_of HT_.out (by kernel_rfl)) ?_
 try go_wp2
 go_meet
 case rel => exact ⟨_, (!t784), (by first | rfl | (simp; done) | (simp [*]; done)), H', ⟨by first | omega | exact Nat.le_refl _⟩, ⟨ZR HO777.out⟩, ⟨ZRN HO780.out⟩, ⟨ZK BK781.out⟩, ⟨ZB⟩⟩))
 case rest => (
 clear HC4
 try clear c1
 try clear c2
 try clear c2b0
 try clear c2b1
 try clear p2
 try clear c8
 try clear c12
 try clear c12b0
 try clear c12b1
 try clear c12b2
 try clear c19
 try clear c20
 try clear c21
 try clear c22
 try clear hcz8
 try clear hfz8
 obtain ⟨kq, x21_3, rfl, HA, HJ3, HO_782000, HO_782001, BK781, HB⟩ := hcut
 cases kq with
 | zero => exact absurd HA.out (by simp [laws_FnTypeTell.j0])
 | succ kj3 =>
  have H := HA.out
  clear HA
  simp only [laws_FnTypeTell.j0] at H
  by_cases c23 : x21_3 = true
  ·(
  subst c23
  have H1 := H; rw [if_pos rfl] at H1
  clear H
  have H := H1
  clear H1
  obtain ⟨t785, A24, H⟩ := ZOB H; try dsimp only at H
  obtain ⟨t786, A25, H⟩ := ZOB H; try dsimp only at H
  obtain rfl := Option.some.inj H
  try go_wp2
  replace HO_782000 := AM (Kd.R_drew HO_782000.out)
  replace HO_782001 := AM (Kd.N_drew HO_782001.out)
  replace BK781 := AM (blk_drew BK781.out)
  replace HB := AM (below_drew1 HB.out)
  refine start_ (n := 6) (S := fun w' => w'.cell? ⟨gb781, 0, none⟩ = some (.slice Ao7 t775.length co7) ∧ w'.cell? ⟨gb781, 1, none⟩ = some (.slice Ao9 t778.length co9)) (ds := []) #[F,F,F,F,F,F] (by kernel_rfl) rfl rfl ⟨ZA BK781 0, ZA BK781 1⟩ (fun hHeld => ?_)
  generalize wc.drew = w26 at HO_782000 HO_782001 BK781 HB hHeld ⊢
  refine take_ (i := 0) (N := some 22) (v := ?_) (a' := ?_) #[T,F,F,F,F,F] rfl rfl (by kernel_rfl) (fun _ _ _ h => h) (Or.inl ⟨by rfl, ?_⟩) hHeld ?_ ?_
  rotate_left
  ·(
  rintro w' ⟨s0, s1⟩
  go_simp
  with_reducible rfl)
  rotate_left
  ·(
  simp only [Act.put, List.setIfInBounds_toArray, List.set_cons_zero, List.set_cons_succ, i64_w, i32_w]
  rfl)
  refine take_ (i := 2) (N := some 24) (v := ?_) (a' := ?_) #[T,F,T,F,F,F] rfl rfl (by kernel_rfl) (fun _ _ _ h => h) (Or.inl ⟨by rfl, ?_⟩) hHeld ?_ ?_
  rotate_left
  ·(
  rintro w' ⟨s0, s1⟩
  go_simp
  with_reducible rfl)
  rotate_left
  ·(
  simp only [Act.put, List.setIfInBounds_toArray, List.set_cons_zero, List.set_cons_succ, i64_w, i32_w]
  rfl)
  refine one_ (i := 1) (N := some 23) #[T,T,T,F,F,F] rfl rfl (by kernel_rfl) (by decide) (fun K hK => ?_)
  refine ZGO Try.func20 #[.agg #[.slice Ao7 t775.length co7, .slice Ao9 t778.length co9]] ?_
  with_reducible refine (impl_TypeOk.calls kj3 _ _ t775 _ _ t778 t785 _ ?side1 ?side2 ?side3 ?side4 A24.out).mono ?_
  (case side1 => exact ZQ ((Kd.R_reads' HO_782000.out).2.2))
  (case side2 => exact (Kd.R_reads' HO_782000.out).2.1)
  (case side3 => exact ZQ ((Kd.N_reads' HO_782001.out).2.2))
  (case side4 => exact (Kd.N_reads' HO_782001.out).2.1)
  rintro e w27 ⟨rfl, hb⟩
  refine ⟨_, rfl, ?_⟩
  replace HO_782000 := AM (Kd.R_below (ZR HO_782000.out) hb)
  replace HO_782001 := AM (Kd.N_below (ZRN HO_782001.out) hb)
  replace BK781 := ZW BK781 hb
  replace HB := ZT HB hb
  (try clear hb)
  (try clear hb2)
  (try clear hk)
  (try clear hi)
  refine hK.out _ _ ⟨ZA BK781 0, ZA BK781 1⟩ (fun hHeld => ?_)
  clear hK K
  refine ZNO 23 ?_
  refine one_ (i := 3) (N := some 25) #[T,T,T,T,F,F] rfl rfl (by kernel_rfl) (by decide) (fun K hK => ?_)
  refine ZGO Try.func22 #[.agg #[.slice Ao7 t775.length co7, .slice Ao9 t778.length co9]] ?_
  with_reducible refine (spec_TypeOk.calls kj3 _ _ t775 _ _ t778 t786 _ ?side1 ?side2 ?side3 ?side4 A25.out).mono ?_
  (case side1 => exact ZQ ((Kd.R_reads' HO_782000.out).2.2))
  (case side2 => exact (Kd.R_reads' HO_782000.out).2.1)
  (case side3 => exact ZQ ((Kd.N_reads' HO_782001.out).2.2))
  (case side4 => exact (Kd.N_reads' HO_782001.out).2.1)
  rintro e w28 ⟨rfl, hb⟩
  refine ⟨_, rfl, ?_⟩
  replace HO_782000 := AM (Kd.R_below (ZR HO_782000.out) hb)
  replace HO_782001 := AM (Kd.N_below (ZRN HO_782001.out) hb)
  replace BK781 := ZW BK781 hb
  replace HB := ZT HB hb
  (try clear hb)
  (try clear hb2)
  (try clear hk)
  (try clear hi)
  refine hK.out _ _ ⟨ZA BK781 0, ZA BK781 1⟩ (fun hHeld => ?_)
  clear hK K
  refine ZNO 25 ?_
  refine pure_ (i := 4) (N := some 26) (v := ?_) (a' := ?_) #[T,T,T,T,T,F] rfl rfl (by kernel_rfl) (fun _ _ _ h => h) (Or.inl ⟨by rfl, ?_⟩) ?_ ?_
  rotate_left
  ·(
  intro w'
  go_simp
  with_reducible rfl)
  rotate_left
  ·(
  simp only [Act.put, List.setIfInBounds_toArray, List.set_cons_zero, List.set_cons_succ, i64_w, i32_w]
  rfl)
  refine pure_ (i := 5) (N := some 2) (v := ?_) (a' := ?_) #[T,T,T,T,T,T] rfl rfl (by kernel_rfl) (fun _ _ _ h => h) (Or.inl ⟨by rfl, ?_⟩) ?_ ?_
  rotate_left
  ·(
  intro w'
  go_simp
  with_reducible rfl)
  rotate_left
  ·(
  simp only [Act.put, List.setIfInBounds_toArray, List.set_cons_zero, List.set_cons_succ, i64_w, i32_w]
  rfl)
  refine done_ (by kernel_rfl) ?_
  try go_wp2
  go_ret
  exact ⟨ZE, ZB⟩)
  ·(
  replace c23 := Bool.eq_false_iff.mpr c23
  subst c23
  have H1 := H; rw [if_neg ZFT] at H1
  clear H
  have H := H1
  clear H1
  have H' := AM H
  clear H
  go_wp2
  go_loopg [4] kj3 (fun kq v4 w' => ∃ (x4_2 : Int), v4 = .int .i64 x4_2 ∧ Za (laws_FnTypeTell.l0 kq x4_2 t775 t778 = some r) ∧ Za (kq ≤ kj3) ∧ Za (Kd.R k39 39 w' w.heap.size (fun _ => True) (.slice Ao7 t775.length co7) t775) ∧ Za (Kd.N k32 32 w' w.heap.size (fun k_ => some k_ ≠ ((.slice Ao7 t775.length co7) : Value).ownBlock ∧ k_ ≠ gb781) (.slice Ao9 t778.length co9) t778) ∧ Za (w'.heap[gb781]? = some (.cells #[(.slice Ao7 t775.length co7), (.slice Ao9 t778.length co9)] 26 (0, 0))) ∧ Za (Below w.heap.size w w'))
  case atStart => exact ⟨(0), (by first | rfl | (simp; done) | (simp [*]; done)), H', ⟨Nat.le_refl _⟩, ⟨ZR HO_782000.out⟩, ⟨ZRN HO_782001.out⟩, ⟨ZK BK781.out⟩, ⟨ZB⟩⟩
  case round => (
  clear H'
  try clear c1
  try clear c2
  try clear c2b0
  try clear c2b1
  try clear p2
  try clear c8
  try clear c12
  try clear c12b0
  try clear c12b1
  try clear c12b2
  try clear c19
  try clear c20
  try clear c21
  try clear c22
  try clear c23
  try clear hcz8
  try clear hfz8
  try clear p2
  obtain ⟨x4_2, rfl, HA, HK2, HO_782000, HO_782001, BK781, HB⟩ := hrel
  cases gk with
  | zero => exact absurd HA.out (by simp [laws_FnTypeTell.l0])
  | succ k2 =>
   have H := HA.out
   clear HA
   simp only [laws_FnTypeTell.l0] at H
   by_cases c29 : x4_2 < (t775.length : Int)
   ·(
   rw [if_pos c29] at H
   have c29b0 := decide_eq_true c29
   clear c29
   have H' := AM H
   clear H
   have hcz30 := ZC2 wr BK781
   have hfz30 := ZF2 BK781
   go_wp2
   go_loopg [5] k2 (fun kq v5 w' => ∃ (x5_3 : Int), v5 = .int .i64 x5_3 ∧ Za (laws_FnTypeTell.l1 kq x4_2 x5_3 t775 t778 = some r) ∧ Za (kq ≤ k2) ∧ Za (Kd.R k39 39 w' w.heap.size (fun _ => True) (.slice Ao7 t775.length co7) t775) ∧ Za (Kd.N k32 32 w' w.heap.size (fun k_ => some k_ ≠ ((.slice Ao7 t775.length co7) : Value).ownBlock ∧ k_ ≠ gb781) (.slice Ao9 t778.length co9) t778) ∧ Za (w'.heap[gb781]? = some (.cells #[(.slice Ao7 t775.length co7), (.slice Ao9 t778.length co9)] 26 (0, 0))) ∧ Za (Below w.heap.size w w'))
   case atStart => exact ⟨(0), (by first | rfl | (simp; done) | (simp [*]; done)), H', ⟨Nat.le_refl _⟩, ⟨ZR HO_782000.out⟩, ⟨ZRN HO_782001.out⟩, ⟨ZK BK781.out⟩, ⟨ZB⟩⟩
   case round => (
   clear H'
   try clear c1
   try clear c2
   try clear c2b0
   try clear c2b1
   try clear p2
   try clear c8
   try clear c12
   try clear c12b0
   try clear c12b1
   try clear c12b2
   try clear c19
   try clear c20
   try clear c21
   try clear c22
   try clear c23
   try clear c29
   try clear c29b0
   try clear hcz30
   try clear hcz8
   try clear hfz30
   try clear hfz8
   try clear p2
   obtain ⟨x5_3, rfl, HA, HK3, HO_782000, HO_782001, BK781, HB⟩ := hrel
   cases gk with
   | zero => exact absurd HA.out (by simp [laws_FnTypeTell.l1])
   | succ k3 =>
    have H := HA.out
    clear HA
    simp only [laws_FnTypeTell.l1] at H
    by_cases c31 : x5_3 < 3
    focus (
    rw [if_pos c31] at H
    have c31b0 := decide_eq_true c31
    clear c31
    obtain ⟨y787, hy787⟩ : ∃ y_ : List (S32), y_ = (([(⟨3, x4_2, (⟨0, 0, 0⟩ : S30), x5_3, ([] : List (S32)), ([] : List (S32))⟩ : S32)] : List (S32))) := ⟨_, rfl⟩
    replace H : ((impl_TypeOk.f k3 t775 y787).bind fun t791 => (if 0 ≤ x4_2 then (if x4_2 < (t775.length : Int) then ((laws_lcHas.f ((D39 t775 x4_2).f0) x5_3).bind fun t793 => (if (t791 != t793) = true then (some false) else (laws_FnTypeTell.l1 k3 x4_2 (wrap64 (x5_3 + 1)) t775 t778))) else (none)) else (none))) = some r := by first | (rw [hy787]; with_reducible exact H) | (have H2_ := (Option.bind_some _ _).symm.trans H; rw [hy787]; with_reducible exact H2_) | (have H2_ := (Option.bind_some _ _).symm.trans H; with_reducible exact H2_) | with_reducible exact H | (rw [hy787]; exact H) | exact H
    have Ny787 := AM hy787
    clear hy787
    obtain ⟨t791, A32, H⟩ := ZOB H; try dsimp only at H
    by_cases c33 : 0 ≤ x4_2
    focus (
    rw [if_pos c33] at H
    have c33b0 := decide_eq_true c33
    clear c33
    by_cases c34 : x4_2 < (t775.length : Int)
    focus (
    rw [if_pos c34] at H
    have c34b0 := decide_eq_true c34
    clear c34
    obtain ⟨t793, A35, H⟩ := ZOB H; try dsimp only at H
    by_cases c36 : (t791 != t793) = true
    focus (
    rw [if_pos c36] at H
    have c36b0 : (t791 != t793) = true := c36
    (try (have c36b1 : decide (t791 = t793) = false := by simpa using c36))
    (try (have c36b2 : (t791 == t793) = false := by simpa using c36))
    (try (have c36b3 : ¬ (t791 = t793) := by simpa using c36))
    clear c36
    obtain rfl := Option.some.inj H
    have hcz37 := ZC2 wr BK781
    have hfz37 := ZF2 BK781
    have tag0_ : Za True := ⟨trivial⟩)
    rotate_left
    focus (
    rw [if_neg c36] at H
    have c36b0 : (t791 != t793) = false := by simpa using c36
    (try (have c36b1 : decide (t791 = t793) = true := by simpa using c36))
    (try (have c36b2 : (t791 == t793) = true := by simpa using c36))
    clear c36
    have H' := AM H
    clear H
    have hcz47 := ZC2 wr BK781
    have hfz47 := ZF2 BK781
    have tag1_ : Za True := ⟨trivial⟩)
    rotate_left)
    rotate_left 2
    focus (
    exact ZNE H c34))
    rotate_left 2
    focus (
    exact ZNE H c33))
    rotate_left 2
    focus (
    rw [if_neg c31] at H
    have c31b0 := decide_eq_false c31
    clear c31
    have H' := AM H
    clear H
    have tag2_ : Za True := ⟨trivial⟩)
    rotate_left
    all_goals (
    first
    | (
    (first | (have z_ := tag0_; clear z_) | (have z_ := tag1_; clear z_))
    try go_wp2_with (first | ((with_reducible refine gate_dst (N := 43) rfl ?_); refine Kd.N_lit k32 _ 32 ?hg (N' := 43) ?hd (xs := ([(⟨3, x4_2, (⟨0, 0, 0⟩ : S30), x5_3, ([] : List (S32)), ([] : List (S32))⟩ : S32)] : List (S32))) (inner := [.int .i64 3, .int .i64 x4_2, .int .i64 0, .int .i64 0, .int .i64 0, .int .i64 x5_3, .slice none 0 0, .slice none 0 0]) (ok := (fun k_ => some k_ ≠ (.slice Ao7 t775.length co7 : Value).ownBlock ∧ some k_ ≠ (.slice Ao9 t778.length co9 : Value).ownBlock ∧ k_ ≠ gb781)) (okp := (fun k_ => some k_ ≠ (.slice Ao7 t775.length co7 : Value).ownBlock ∧ some k_ ≠ (.slice Ao9 t778.length co9 : Value).ownBlock ∧ k_ ≠ gb781)) ?hr ?hp (fun _ hk => hk) ((show ∀ k_, wr.heap.size ≤ k_ → (fun k_ => some k_ ≠ (.slice Ao7 t775.length co7 : Value).ownBlock ∧ some k_ ≠ (.slice Ao9 t778.length co9 : Value).ownBlock ∧ k_ ≠ gb781) k_ from fun k_ hk => ⟨Kd.fresh' (Kd.R_lt (ZR HO_782000.out)) k_ hk, Kd.fresh' (Kd.N_lt (ZRN HO_782001.out)) k_ hk, Kd.freshB (g := gb781) (o := .cells #[.slice Ao7 t775.length co7, .slice Ao9 t778.length co9] 26 (0, 0)) (ZK BK781.out) k_ hk⟩) _ (Nat.le_refl _)) (Below.refl _ _) (Nat.le_refl _) (by simp) ?_; (case hd => rfl); (case hg => rfl); (case hr => first | (go_simp; done) | (go_simp; rfl)); (case hp => exact (Reps.c8 (show Kd.FK k32 _ _ (⟨3, x4_2, (⟨0, 0, 0⟩ : S30), x5_3, ([] : List (S32)), ([] : List (S32))⟩ : S32) [.int .i64 3, .int .i64 x4_2, .int .i64 0, .int .i64 0, .int .i64 0, .int .i64 x5_3, .slice none 0 0, .slice none 0 0] from (k32_mkF _ _ (⟨3, x4_2, (⟨0, 0, 0⟩ : S30), x5_3, ([] : List (S32)), ([] : List (S32))⟩ : S32) (Nat.le_refl _) (Kd.F_nil _ _ _) (Nat.le_refl _) (Kd.F_nil _ _ _))) (Reps.none _ _))); intro vq0 wq0 hoq0 hb hg_ hnew_; clear hg_ hnew_; (first | rw [← Ny787.out] at hoq0 | (simp only [Int.reduceToNat] at hoq0; rw [← Ny787.out] at hoq0)); have HOq0 := AM (Kd.N_lower hoq0 (below_size (ZB))); replace HO_782000 := AM (Kd.R_below (ZR HO_782000.out) hb); replace HO_782001 := AM (Kd.N_elder' (ZRN HO_782001.out) (Kd.N_base hoq0) hb); replace BK781 := ZW BK781 hb; replace HB := ZT HB hb; clear hb hoq0; obtain ⟨Aoq0, coq0, eoq0⟩ := Kd.N_slice HOq0.out; subst eoq0) | ((with_reducible refine gate_dst (N := 6) rfl ?_); refine ZX (N := 6) (cs := #[.slice none 0 0, .slice none 0 0]) (t := 26) ?_; intro gbq0 hg wq1 hbox hb; have n0_ := AM (Kd.R_below (ZR HO_782000.out) hb); have n1_ := AM (Kd.N_below (Kd.N_elderB (ZRN HO_782001.out) gbq0 (Nat.le_of_eq hg.symm)) hb); have n2_ := AM (Kd.N_below (Kd.N_elderB (ZRN HOq0.out) gbq0 (Nat.le_of_eq hg.symm)) hb); have n3_ := ZW BK781 hb; have n4_ := ZT HB hb; have n5_ := AM (hbox); have nq0_ : Za (w.heap.size ≤ gbq0) := ZS hg; have nq1_ : Za (w.heap.size ≤ gbq0) := ZS hg; have nq2_ : Za (gb781 ≠ gbq0) := ZN hg BK781; have nq3_ : Za (gbq0 ≠ gb781) := ZM hg BK781; clear HO_782000 HO_782001 HOq0 BK781 HB; have HO_782000 := n0_; have HO_782001 := n1_; have HOq0 := n2_; have BK781 := n3_; have HB := n4_; have BKq0 := n5_; have GWq0 := nq0_; have GEq0 := nq1_; have NBq0_790 := nq2_; have NBq1_781 := nq3_; clear n0_ n1_ n2_ n3_ n4_ n5_ nq0_ nq1_ nq2_ nq3_ hb hbox hg; have hnbq0 := NBq1_781.out; have hncq0 := NBq0_790.out; have hczq0 := ZC2 wq1 BKq0; have hfzq0 := ZF2 BKq0))
    have n0_ : Za (Kd.R k39 39 ((wq1.setCell ⟨gbq0, 0, none⟩ (.slice Ao7 t775.length co7)).setCell ⟨gbq0, 1, none⟩ (.slice Aoq0 y787.length coq0)) w.heap.size (fun _ => True) (.slice Ao7 t775.length co7) t775) := ⟨ZR (Kd.R_mono (Kd.R_far (p := ⟨gbq0, 1, none⟩) (Kd.R_far (p := ⟨gbq0, 0, none⟩) (Kd.R_types HO_782000.out BKq0.out (by decide)) (fun _ hk => hk.2) (.slice Ao7 t775.length co7)) (fun _ hk => hk.2) (.slice Aoq0 y787.length coq0)) (fun _ hk => trivial))⟩
    have n1_ : Za (Kd.N k32 32 ((wq1.setCell ⟨gbq0, 0, none⟩ (.slice Ao7 t775.length co7)).setCell ⟨gbq0, 1, none⟩ (.slice Aoq0 y787.length coq0)) w.heap.size (fun k_ => some k_ ≠ (.slice Ao7 t775.length co7 : Value).ownBlock ∧ some k_ ≠ (.slice Aoq0 y787.length coq0 : Value).ownBlock ∧ k_ ≠ gb781 ∧ k_ ≠ gbq0) (.slice Ao9 t778.length co9) t778) := ⟨by (with_reducible repeat (first | apply Kd.N_alloc | apply Kd.N_drewN | apply Kd.N_drew)); exact Kd.N_mono (Kd.N_far (p := ⟨gbq0, 1, none⟩) (Kd.N_far (p := ⟨gbq0, 0, none⟩) (Kd.N_mono HO_782001.out (fun k_ hk => (⟨hk, hk.2⟩ : _ ∧ k_ ≠ gbq0))) (fun _ hk => hk.2) (.slice Ao7 t775.length co7)) (fun _ hk => hk.2) (.slice Aoq0 y787.length coq0)) (fun _ hk => ⟨hk.1.1.1.1, ⟨hk.1.1.2, ⟨hk.1.1.1.2, hk.1.2⟩⟩⟩)⟩
    have n2_ : Za (Kd.N k32 32 ((wq1.setCell ⟨gbq0, 0, none⟩ (.slice Ao7 t775.length co7)).setCell ⟨gbq0, 1, none⟩ (.slice Aoq0 y787.length coq0)) w.heap.size (fun k_ => some k_ ≠ (.slice Ao7 t775.length co7 : Value).ownBlock ∧ some k_ ≠ (.slice Ao9 t778.length co9 : Value).ownBlock ∧ k_ ≠ gb781 ∧ k_ ≠ gbq0) (.slice Aoq0 y787.length coq0) y787) := ⟨by (with_reducible repeat (first | apply Kd.N_alloc | apply Kd.N_drewN | apply Kd.N_drew)); exact Kd.N_mono (Kd.N_far (p := ⟨gbq0, 1, none⟩) (Kd.N_far (p := ⟨gbq0, 0, none⟩) (Kd.N_mono HOq0.out (fun k_ hk => (⟨hk, hk.2⟩ : _ ∧ k_ ≠ gbq0))) (fun _ hk => hk.2) (.slice Ao7 t775.length co7)) (fun _ hk => hk.2) (.slice Aoq0 y787.length coq0)) (fun _ hk => ⟨hk.1.1.1, ⟨hk.1.1.2.1, ⟨hk.1.1.2.2, hk.1.2⟩⟩⟩)⟩
    have n3_ : Za (((wq1.setCell ⟨gbq0, 0, none⟩ (.slice Ao7 t775.length co7)).setCell ⟨gbq0, 1, none⟩ (.slice Aoq0 y787.length coq0)).heap[gb781]? = some (.cells #[.slice Ao7 t775.length co7, .slice Ao9 t778.length co9] 26 (0, 0))) := ⟨ZZ BK781.out⟩
    have n4_ : Za (((wq1.setCell ⟨gbq0, 0, none⟩ (.slice Ao7 t775.length co7)).setCell ⟨gbq0, 1, none⟩ (.slice Aoq0 y787.length coq0)).heap[gbq0]? = some (.cells #[.slice Ao7 t775.length co7, .slice Aoq0 y787.length coq0] 26 (0, 0))) := ⟨ZZ BKq0.out⟩
    have n5_ : Za (Below w.heap.size w ((wq1.setCell ⟨gbq0, 0, none⟩ (.slice Ao7 t775.length co7)).setCell ⟨gbq0, 1, none⟩ (.slice Aoq0 y787.length coq0))) := ⟨ZB⟩
    (try clear HO_782000)
    (try clear HO_782001)
    (try clear HOq0)
    (try clear BK781)
    (try clear BKq0)
    (try clear HB)
    generalize ((wq1.setCell ⟨gbq0, 0, none⟩ (.slice Ao7 t775.length co7)).setCell ⟨gbq0, 1, none⟩ (.slice Aoq0 y787.length coq0)) = wq2 at n0_ n1_ n2_ n3_ n4_ n5_ ⊢
    have HO_782000 := n0_
    have HO_782001 := n1_
    have HOq0 := n2_
    have BK781 := n3_
    have BKq0 := n4_
    have HB := n5_
    clear n0_ n1_ n2_ n3_ n4_ n5_
    replace HO_782000 := AM (Kd.R_drew HO_782000.out)
    replace HO_782001 := AM (Kd.N_drew HO_782001.out)
    replace HOq0 := AM (Kd.N_drew HOq0.out)
    replace BK781 := AM (blk_drew BK781.out)
    replace BKq0 := AM (blk_drew BKq0.out)
    replace HB := AM (below_drew1 HB.out)
    have pq0 : 0 ≤ (x4_2 : Int) := ZD
    have qq0 : x4_2 < (t775.length : Int) := ZD
    obtain ⟨adq0, eq0, hxq0_0, hxq0_1⟩ := at_T39 (Kd.R_reads' HO_782000.out).2.2 x4_2 pq0 qq0
    cases eq0
    replace pq0 := eq_true pq0
    replace qq0 := eq_true qq0
    refine start_ (n := 11) (S := fun w' => w'.cell? ⟨gbq0, 0, none⟩ = some (.slice (some adq0) t775.length co7) ∧ w'.cell? ⟨gbq0, 1, none⟩ = some (.slice Aoq0 y787.length coq0) ∧ w'.cell? ⟨gb781, 0, none⟩ = some (.slice (some adq0) t775.length co7) ∧ w'.cell? ⟨gb781, 1, none⟩ = some (.slice Ao9 t778.length co9) ∧ w'.cell? (adq0.add ((x4_2).toNat * 2)) = some (.int .i64 ((D39 t775 x4_2).f0)) ∧ w'.cell? ⟨(adq0.add ((x4_2).toNat * 2)).block, (adq0.add ((x4_2).toNat * 2)).off + 1, none⟩ = some (.int .i64 ((D39 t775 x4_2).f1))) (ds := []) #[F,F,F,F,F,F,F,F,F,F,F] (by kernel_rfl) rfl rfl ⟨ZA BKq0 0, ZA BKq0 1, ZA BK781 0, ZA BK781 1, hxq0_0, hxq0_1⟩ (fun hHeld => ?_); refine with_tabW laws_FnTypeTell.tab13 laws_FnTypeTell.bits13 (fun HT_ HW_ => ?_)
    generalize wq2.drew = wq3 at HO_782000 HO_782001 HOq0 BK781 BKq0 HB hxq0_0 hxq0_1 hHeld ⊢
    refine ZU 2 47 #[F,F,T,F,F,F,F,F,F,F,F] ?_
    refine ZU 4 49 #[F,F,T,F,T,F,F,F,F,F,F] ?_
    refine ZU 8 53 #[F,F,T,F,T,F,F,F,T,F,F] ?_
    refine ZTK 0 45 #[T,F,T,F,T,F,F,F,T,F,F] hHeld ?_
    refine ZTK 3 48 #[T,F,T,T,T,F,F,F,T,F,F] hHeld ?_
    refine ZU 5 50 #[T,F,T,T,T,T,F,F,T,F,F] ?_
    refine ZU 6 51 #[T,F,T,T,T,T,T,F,T,F,F] ?_
    refine ZTK 7 52 #[T,F,T,T,T,T,T,T,T,F,F] hHeld ?_
    refine one_ (i := 1) (N := some 46) #[T,T,T,T,T,T,T,T,T,F,F] rfl rfl (one_of HT_.out (by kernel_rfl)) (by decide) (fun K hK => ?_)
    refine ZGO Try.func20 #[.agg #[.slice (some adq0) t775.length co7, .slice Aoq0 y787.length coq0]] ?_
    with_reducible refine (impl_TypeOk.calls k3 _ _ t775 _ _ y787 t791 _ ?side1 ?side2 ?side3 ?side4 A32.out).mono ?_
    (case side1 => exact ZQ ((Kd.R_reads' HO_782000.out).2.2))
    (case side2 => exact (Kd.R_reads' HO_782000.out).2.1)
    (case side3 => exact ZQ ((Kd.N_reads' HOq0.out).2.2))
    (case side4 => exact (Kd.N_reads' HOq0.out).2.1)
    rintro e wq4 ⟨rfl, hb⟩
    have HSq0_ := (hb.cell (World.block_lt_of_cell? _ _ (hHeld.2.2.2.2.1))).trans (hHeld.2.2.2.2.1)
    have HSq1_ := (hb.cell (World.block_lt_of_cell? _ _ (hHeld.2.2.2.2.2))).trans (hHeld.2.2.2.2.2)
    refine ⟨_, rfl, ?_⟩
    replace HO_782000 := AM (Kd.R_below (ZR HO_782000.out) hb)
    replace HO_782001 := AM (Kd.N_below (ZRN HO_782001.out) hb)
    replace HOq0 := AM (Kd.N_below (ZRN HOq0.out) hb)
    replace BK781 := ZW BK781 hb
    replace BKq0 := ZW BKq0 hb
    replace HB := ZT HB hb
    (try clear hb)
    (try clear hb2)
    (try clear hk)
    (try clear hi)
    refine hK.out _ _ ⟨ZA BKq0 0, ZA BKq0 1, ZA BK781 0, ZA BK781 1, HSq0_, HSq1_⟩ (fun hHeld => ?_)
    clear hK K
    refine ZNO 46 ?_
    refine one_ (i := 9) (N := some 54) #[T,T,T,T,T,T,T,T,T,T,F] rfl rfl (one_of HT_.out (by kernel_rfl)) (by decide) (fun K hK => ?_)
    refine ZGO Try.func23 #[.int .i64 ((D39 t775 x4_2).f0), .int .i64 x5_3] ?_
    with_reducible refine (laws_lcHas.calls ((D39 t775 x4_2).f0) x5_3 t793 _ A35.out).mono ?_
    rintro e w' ⟨rfl, ⟨nd, rfl⟩⟩
    refine ⟨_, rfl, ?_⟩
    refine hK.out _ _ ⟨ZA BKq0 0, ZA BKq0 1, ZA BK781 0, ZA BK781 1, hHeld.2.2.2.2.1, hHeld.2.2.2.2.2⟩ (fun hHeld => ?_)
    clear hK K
    refine ZNO 54 ?_
    refine ZU 10 55 #[T,T,T,T,T,T,T,T,T,T,T] ?_
    refine done_ (done_of HT_.out (by kernel_rfl)) ?_
    try go_wp2
    first
    | (
    (have z_ := tag0_; clear z_)
    go_ret
    exact ⟨ZE, ZB⟩)
    | (
    (have z_ := tag1_; clear z_)
    go_roundg k3
    case measure => have := HJ3.out; have := HK2.out; have := HK3.out; omega
    case rel => exact ⟨(wrap64 (x5_3 + 1)), (by first | rfl | (simp; done) | (simp [*]; done)), H', ⟨by have := HJ3.out; have := HK2.out; have := HK3.out; omega⟩, ⟨ZR HO_782000.out⟩, ⟨by (with_reducible repeat (first | apply Kd.N_alloc | apply Kd.N_drewN | apply Kd.N_drew)); exact Kd.N_mono HO_782001.out (fun _ hk => ⟨hk.1, hk.2.2.1⟩)⟩, ⟨ZK BK781.out⟩, ⟨ZB⟩⟩))
    | (
    (have z_ := tag2_; clear z_)
    go_wp2
    go_roundg k3
    case measure => have := HJ3.out; have := HK2.out; have := HK3.out; omega
    case rel => exact ⟨(wrap64 (x4_2 + 1)), (by first | rfl | (simp; done) | (simp [*]; done)), H', ⟨by have := HJ3.out; have := HK2.out; have := HK3.out; omega⟩, ⟨ZR HO_782000.out⟩, ⟨ZRN HO_782001.out⟩, ⟨ZK BK781.out⟩, ⟨ZB⟩⟩))))
   ·(
   rw [if_neg c29] at H
   have c29b0 := decide_eq_false c29
   clear c29
   obtain rfl := Option.some.inj H
   have hcz57 := ZC2 wr BK781
   have hfz57 := ZF2 BK781
   go_wp2
   go_ret
   exact ⟨ZE, ZB⟩)))))

end Go.Proofs.Ythidgkfgdkjghaa.A
