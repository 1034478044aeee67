/- By wip/tools/pr.py: Go functions as Lean functions, with contracts. -/
import Derived.Test.YthidgkfgdkjghaaAx0
import Derived.Test.YthidgkfgdkjghaaAx5
import Derived.Test.YthidgkfgdkjghaaAx29
import Derived.Test.YthidgkfgdkjghaaAx19
namespace Go.Proofs.Ythidgkfgdkjghaa.A
open Go.RowKit Go.Proofs.YthidgkfgdkjghaaW.PrintWords Go.Proofs.YthidgkfgdkjghaaW.PrintLast Go.Proofs.YthidgkfgdkjghaaW.PrintMore
attribute [local go_sem] max2_int min2_int max_two min_two max_three min_three max_four min_four
set_option linter.unusedVariables false
set_option linter.unusedSimpArgs false
set_option maxHeartbeats 8000000
set_option maxRecDepth 100000

/-! ### laws_FnTypeAny: function 6 -/
mutual
def laws_FnTypeAny.j0 : Nat → Bool → List (S39) → List (S32) → Option (Bool)
 | 0, _, _, _ => none
 | k + 1, x20, x749000, x749001 => if x20 = true then ((impl_TypeOk.f k x749000 x749001).bind fun t752 => ((spec_TypeOk.f k x749000 x749001).bind fun t753 => (some (t752 == t753)))) else (laws_FnTypeAny.l0 k 0 x749000 x749001 ([] : List (S39)) x749001)
def laws_FnTypeAny.l0 : Nat → Int → List (S39) → List (S32) → List (S39) → List (S32) → Option (Bool)
 | 0, _, _, _, _, _ => none
 | k + 1, x5, x749000, x749001, x755000, x755001 => if x5 < (x749000.length : Int) then (if x755000.length < 8796093022208 then (laws_FnTypeAny.l0 k (wrap64 (x5 + 1)) x749000 x749001 (x755000 ++ [(⟨7, 7⟩ : S39)]) x755001) else (none)) else ((impl_TypeOk.f k x755000 x755001).bind fun t758 => (some t758))
end
def laws_FnTypeAny.f (k : Nat) (l0 : List Int) : Option (Bool) := if (l0.length : Int) > 1048576 then (some true) else ((spec_DrawTypeOk.f k l0).bind fun bt742 => ((impl_TypeOk.f k bt742.1 bt742.2).bind fun t749 => ((spec_TypeOk.f k bt742.1 bt742.2).bind fun t750 => (if (t749 != t750) = true then (laws_FnTypeAny.j0 k true bt742.1 bt742.2) else ((spec_ProgOk.f k bt742.1 bt742.2).bind fun t751 => (laws_FnTypeAny.j0 k (!t751) bt742.1 bt742.2))))))
def laws_FnTypeAny.T4 : Bool × List (List Nat × List Nat) := (true, [([], []), ([0], [0]), ([], []), ([2, 1], [2]), ([1, 3], [1, 3]), ([4, 3], [4]), ([5], [5]), ([6, 5, 5], [5, 6]), ([7, 5], [5, 7]), ([5, 8], [5, 8])])
def laws_FnTypeAny.B4 : List Nat := [0, 1, 0, 7, 15, 31, 63, 127, 255, 511]
theorem laws_FnTypeAny.tab4 : rtab .any (opsOf Try.f6 4) = laws_FnTypeAny.T4 := by kernel_rfl
theorem laws_FnTypeAny.bits4 : waitsOk laws_FnTypeAny.T4.2 laws_FnTypeAny.B4 = true := by kernel_rfl
theorem laws_FnTypeAny.calls (k : Nat) (A0 : Option Addr) (c0 : Nat) (l0 : List Int) (r : Bool) (w : World) (hr0 : Kd.C (Kd.int .u8) w A0 l0.length l0) (hc0 : l0.length ≤ c0) (h : laws_FnTypeAny.f k l0 = some r) :
  Calls Try.prog 6 #[.slice A0 l0.length c0] w fun e w' => e = .returned (.bool r) ∧ Below w.heap.size w w' := by
 have hu26 := Try.underlying26
 have hu39 := Try.underlying39
 have HR0 := AM hr0
 have HC0 := AM hc0
 clear hr0 hc0
 have HB := AM (Below.refl w.heap.size w)
 have H := h
 unfold laws_FnTypeAny.f at H
 clear h
 by_cases c2 : (l0.length : Int) > 1048576
 ·(
 rw [if_pos c2] at H
 have c2b0 := decide_eq_true c2
 have c2b1 : decide (1048576 < l0.length) = true := decide_eq_true (by omega)
 clear c2
 obtain rfl := Option.some.inj H
 go_enter Try.func6, Try.ntmps6
 go_wp2
 go_ret
 exact ⟨ZE, ZB⟩)
 ·(
 rw [if_neg c2] at H
 have c2b0 := decide_eq_false c2
 have c2b1 : decide (1048576 < l0.length) = false := decide_eq_false (by omega)
 clear c2
 obtain ⟨⟨t742, t745⟩, A3, H⟩ := ZOB H; try dsimp only at H
 have HC4 := AM H
 clear H
 go_enter Try.func6, Try.ntmps6
 go_upto_region 4 with (first | ((with_reducible refine gate_callee (f := 21) rfl ?_); refine ZGL (some 10) Try.func21 #[.slice A0 l0.length c0] ?_; (with_reducible refine (spec_DrawTypeOk.calls k _ _ l0 t742 t745 _ ?side1 HC0.out A3.out).mono ?_); (case side1 => exact ZQ HR0.out); rintro e w5 ⟨v743, v746, rfl, ho0, ho1, hb⟩; refine ⟨_, rfl, ?_⟩; have HO744 := AM (Kd.R_lower (Kd.R_mono (ok' := fun k_ => True) ho0 (fun _ hk_ => trivial)) (below_size (ZB))); have HO747 := AM (Kd.N_lower (Kd.N_mono (ok' := fun k_ => some k_ ≠ (v743 : Value).ownBlock) ho1 (fun k_ hk_ => hk_.2)) (below_size (ZB))); replace HB := ZT HB hb; clear hb; (try clear ho0); (try clear ho1)) | ((with_reducible refine gate_dst (N := 3) rfl ?_); refine ZX (N := 3) (cs := #[.slice none 0 0, .slice none 0 0]) (t := 26) ?_; intro gb748 hg w6 hbox hb; have BK748 := AM (hbox); have GW748 : Za (w.heap.size ≤ gb748) := ZS hg; replace HO744 := AM (Kd.R_below (ZR HO744.out) hb); replace HO747 := AM (Kd.N_below (Kd.N_elderB (ZRN HO747.out) gb748 (Nat.le_of_eq hg.symm)) hb); replace HB := ZT HB hb; clear hb hbox hg; obtain ⟨Ao7, co7, eo7⟩ := Kd.R_slice HO744.out; subst eo7; have hcz8 := ZC2 w6 BK748; have hfz8 := ZF2 BK748; obtain ⟨Ao9, co9, eo9⟩ := Kd.N_slice HO747.out; subst eo9))
 (try simp only [Act.put, List.setIfInBounds_toArray, List.set_cons_zero, List.set_cons_succ])
 go_cut [20] (fun v20 wc => ∃ (kq : Nat) (x20_3 : Bool), v20 = .bool x20_3 ∧ Za (laws_FnTypeAny.j0 kq x20_3 t742 t745 = some r) ∧ Za (kq ≤ k) ∧ Za (Kd.R k39 39 wc w.heap.size (fun _ => True) (.slice Ao7 t742.length co7) t742) ∧ Za (Kd.N k32 32 wc w.heap.size (fun k_ => some k_ ≠ ((.slice Ao7 t742.length co7) : Value).ownBlock ∧ k_ ≠ gb748) (.slice Ao9 t745.length co9) t745) ∧ Za (wc.heap[gb748]? = some (.cells #[(.slice Ao7 t742.length co7), (.slice Ao9 t745.length co9)] 26 (0, 0))) ∧ Za (Below w.heap.size w wc))
 case first => (
 have H := HC4.out
 clear HC4
 obtain ⟨t749, A10, H⟩ := ZOB H; try dsimp only at H
 obtain ⟨t750, A11, H⟩ := ZOB H; try dsimp only at H
 by_cases c12 : (t749 != t750) = true
 ·(
 rw [if_pos c12] at H
 have c12b0 : (t749 != t750) = true := c12
 (try (have c12b1 : decide (t749 = t750) = false := by simpa using c12))
 (try (have c12b2 : (t749 == t750) = false := by simpa using c12))
 (try (have c12b3 : ¬ (t749 = t750) := by simpa using c12))
 clear c12
 (first | rw [c12b0] | (simp only [i64_w, i32_w]; rw [c12b0]) | skip)
 have H' := AM H
 clear H
 try go_wp2
 have n0_ : Za (Kd.R k39 39 ((w6.setCell ⟨gb748, 0, none⟩ (.slice Ao7 t742.length co7)).setCell ⟨gb748, 1, none⟩ (.slice Ao9 t745.length co9)) w.heap.size (fun _ => True) (.slice Ao7 t742.length co7) t742) := ⟨ZR (Kd.R_mono (Kd.R_far (p := ⟨gb748, 1, none⟩) (Kd.R_far (p := ⟨gb748, 0, none⟩) (Kd.R_types HO744.out BK748.out (by decide)) (fun _ hk => hk.2) (.slice Ao7 t742.length co7)) (fun _ hk => hk.2) (.slice Ao9 t745.length co9)) (fun _ hk => trivial))⟩
 have n1_ : Za (Kd.N k32 32 ((w6.setCell ⟨gb748, 0, none⟩ (.slice Ao7 t742.length co7)).setCell ⟨gb748, 1, none⟩ (.slice Ao9 t745.length co9)) w.heap.size (fun k_ => some k_ ≠ (.slice Ao7 t742.length co7 : Value).ownBlock ∧ k_ ≠ gb748) (.slice Ao9 t745.length co9) t745) := ⟨by (with_reducible repeat (first | apply Kd.N_alloc | apply Kd.N_drewN | apply Kd.N_drew)); exact Kd.N_mono (Kd.N_far (p := ⟨gb748, 1, none⟩) (Kd.N_far (p := ⟨gb748, 0, none⟩) (Kd.N_mono HO747.out (fun k_ hk => (⟨hk, hk.2⟩ : _ ∧ k_ ≠ gb748))) (fun _ hk => hk.2) (.slice Ao7 t742.length co7)) (fun _ hk => hk.2) (.slice Ao9 t745.length co9)) (fun _ hk => ⟨hk.1.1, hk.1.2⟩)⟩
 have n2_ : Za (((w6.setCell ⟨gb748, 0, none⟩ (.slice Ao7 t742.length co7)).setCell ⟨gb748, 1, none⟩ (.slice Ao9 t745.length co9)).heap[gb748]? = some (.cells #[.slice Ao7 t742.length co7, .slice Ao9 t745.length co9] 26 (0, 0))) := ⟨ZZ BK748.out⟩
 have n3_ : Za (Below w.heap.size w ((w6.setCell ⟨gb748, 0, none⟩ (.slice Ao7 t742.length co7)).setCell ⟨gb748, 1, none⟩ (.slice Ao9 t745.length co9))) := ⟨ZB⟩
 (try clear HO744)
 (try clear HO747)
 (try clear BK748)
 (try clear HB)
 generalize ((w6.setCell ⟨gb748, 0, none⟩ (.slice Ao7 t742.length co7)).setCell ⟨gb748, 1, none⟩ (.slice Ao9 t745.length co9)) = w13 at n0_ n1_ n2_ n3_ ⊢
 have HO744 := n0_
 have HO747 := n1_
 have BK748 := n2_
 have HB := n3_
 clear n0_ n1_ n2_ n3_
 replace HO744 := AM (Kd.R_drew HO744.out)
 replace HO747 := AM (Kd.N_drew HO747.out)
 replace BK748 := AM (blk_drew BK748.out)
 replace HB := AM (below_drew1 HB.out)
 refine start_ (n := 10) (S := fun w' => w'.cell? ⟨gb748, 0, none⟩ = some (.slice Ao7 t742.length co7) ∧ w'.cell? ⟨gb748, 1, none⟩ = some (.slice Ao9 t745.length co9)) (ds := []) #[F,F,F,F,F,F,F,F,F,F] (by kernel_rfl) rfl rfl ⟨ZA BK748 0, ZA BK748 1⟩ (fun hHeld => ?_); refine with_tabW laws_FnTypeAny.tab4 laws_FnTypeAny.bits4 (fun HT_ HW_ => ?_)
 generalize w13.drew = w14 at HO744 HO747 BK748 HB hHeld ⊢
 refine ZTK 0 11 #[T,F,F,F,F,F,F,F,F,F] hHeld ?_
 refine ZTK 2 13 #[T,F,T,F,F,F,F,F,F,F] hHeld ?_
 refine one_ (i := 1) (N := some 12) #[T,T,T,F,F,F,F,F,F,F] rfl rfl (one_of HT_.out (by kernel_rfl)) (by decide) (fun K hK => ?_)
 refine ZGO Try.func20 #[.agg #[.slice Ao7 t742.length co7, .slice Ao9 t745.length co9]] ?_
 with_reducible refine (impl_TypeOk.calls k _ _ t742 _ _ t745 t749 _ ?side1 ?side2 ?side3 ?side4 A10.out).mono ?_
 (case side1 => exact ZQ ((Kd.R_reads' HO744.out).2.2))
 (case side2 => exact (Kd.R_reads' HO744.out).2.1)
 (case side3 => exact ZQ ((Kd.N_reads' HO747.out).2.2))
 (case side4 => exact (Kd.N_reads' HO747.out).2.1)
 rintro e w15 ⟨rfl, hb⟩
 refine ⟨_, rfl, ?_⟩
 replace HO744 := AM (Kd.R_below (ZR HO744.out) hb)
 replace HO747 := AM (Kd.N_below (ZRN HO747.out) hb)
 replace BK748 := ZW BK748 hb
 replace HB := ZT HB hb
 (try clear hb)
 (try clear hb2)
 (try clear hk)
 (try clear hi)
 refine hK.out _ _ ⟨ZA BK748 0, ZA BK748 1⟩ (fun hHeld => ?_)
 clear hK K
 refine ZNO 12 ?_
 refine one_ (i := 3) (N := some 14) #[T,T,T,T,F,F,F,F,F,F] rfl rfl (one_of HT_.out (by kernel_rfl)) (by decide) (fun K hK => ?_)
 refine ZGO Try.func22 #[.agg #[.slice Ao7 t742.length co7, .slice Ao9 t745.length co9]] ?_
 with_reducible refine (spec_TypeOk.calls k _ _ t742 _ _ t745 t750 _ ?side1 ?side2 ?side3 ?side4 A11.out).mono ?_
 (case side1 => exact ZQ ((Kd.R_reads' HO744.out).2.2))
 (case side2 => exact (Kd.R_reads' HO744.out).2.1)
 (case side3 => exact ZQ ((Kd.N_reads' HO747.out).2.2))
 (case side4 => exact (Kd.N_reads' HO747.out).2.1)
 rintro e w16 ⟨rfl, hb⟩
 refine ⟨_, rfl, ?_⟩
 replace HO744 := AM (Kd.R_below (ZR HO744.out) hb)
 replace HO747 := AM (Kd.N_below (ZRN HO747.out) hb)
 replace BK748 := ZW BK748 hb
 replace HB := ZT HB hb
 (try clear hb)
 (try clear hb2)
 (try clear hk)
 (try clear hi)
 refine hK.out _ _ ⟨ZA BK748 0, ZA BK748 1⟩ (fun hHeld => ?_)
 clear hK K
 refine ZNO 14 ?_
 refine ZU 4 15 #[T,T,T,T,T,F,F,F,F,F] ?_
 refine ZU 5 16 #[T,T,T,T,T,T,F,F,F,F] ?_
 refine ZUU 6 17 #[T,T,T,T,T,T,T,F,F,F] ?_
 refine ZUU 7 18 #[T,T,T,T,T,T,T,T,F,F] ?_
 refine ZUU 8 19 #[T,T,T,T,T,T,T,T,T,F] ?_
 refine ZU 9 20 #[T,T,T,T,T,T,T,T,T,T] ?_
 refine done_ (done_of HT_.out (by kernel_rfl)) ?_
 try go_wp2
 go_meet
 case rel => exact ⟨_, (true), (by first | rfl | (simp; done) | (simp [*]; done)), H', ⟨by first | omega | exact Nat.le_refl _⟩, ⟨ZR HO744.out⟩, ⟨ZRN HO747.out⟩, ⟨ZK BK748.out⟩, ⟨ZB⟩⟩)
 ·(
 rw [if_neg c12] at H
 have c12b0 : (t749 != t750) = false := by simpa using c12
 (try (have c12b1 : decide (t749 = t750) = true := by simpa using c12))
 (try (have c12b2 : (t749 == t750) = true := by simpa using c12))
 clear c12
 (first | rw [c12b0] | (simp only [i64_w, i32_w]; rw [c12b0]) | skip)
 obtain ⟨t751, A17, H⟩ := ZOB H; try dsimp only at H
 have H' := AM H
 clear H
 try go_wp2
 have n0_ : Za (Kd.R k39 39 ((w6.setCell ⟨gb748, 0, none⟩ (.slice Ao7 t742.length co7)).setCell ⟨gb748, 1, none⟩ (.slice Ao9 t745.length co9)) w.heap.size (fun _ => True) (.slice Ao7 t742.length co7) t742) := ⟨ZR (Kd.R_mono (Kd.R_far (p := ⟨gb748, 1, none⟩) (Kd.R_far (p := ⟨gb748, 0, none⟩) (Kd.R_types HO744.out BK748.out (by decide)) (fun _ hk => hk.2) (.slice Ao7 t742.length co7)) (fun _ hk => hk.2) (.slice Ao9 t745.length co9)) (fun _ hk => trivial))⟩
 have n1_ : Za (Kd.N k32 32 ((w6.setCell ⟨gb748, 0, none⟩ (.slice Ao7 t742.length co7)).setCell ⟨gb748, 1, none⟩ (.slice Ao9 t745.length co9)) w.heap.size (fun k_ => some k_ ≠ (.slice Ao7 t742.length co7 : Value).ownBlock ∧ k_ ≠ gb748) (.slice Ao9 t745.length co9) t745) := ⟨by (with_reducible repeat (first | apply Kd.N_alloc | apply Kd.N_drewN | apply Kd.N_drew)); exact Kd.N_mono (Kd.N_far (p := ⟨gb748, 1, none⟩) (Kd.N_far (p := ⟨gb748, 0, none⟩) (Kd.N_mono HO747.out (fun k_ hk => (⟨hk, hk.2⟩ : _ ∧ k_ ≠ gb748))) (fun _ hk => hk.2) (.slice Ao7 t742.length co7)) (fun _ hk => hk.2) (.slice Ao9 t745.length co9)) (fun _ hk => ⟨hk.1.1, hk.1.2⟩)⟩
 have n2_ : Za (((w6.setCell ⟨gb748, 0, none⟩ (.slice Ao7 t742.length co7)).setCell ⟨gb748, 1, none⟩ (.slice Ao9 t745.length co9)).heap[gb748]? = some (.cells #[.slice Ao7 t742.length co7, .slice Ao9 t745.length co9] 26 (0, 0))) := ⟨ZZ BK748.out⟩
 have n3_ : Za (Below w.heap.size w ((w6.setCell ⟨gb748, 0, none⟩ (.slice Ao7 t742.length co7)).setCell ⟨gb748, 1, none⟩ (.slice Ao9 t745.length co9))) := ⟨ZB⟩
 (try clear HO744)
 (try clear HO747)
 (try clear BK748)
 (try clear HB)
 generalize ((w6.setCell ⟨gb748, 0, none⟩ (.slice Ao7 t742.length co7)).setCell ⟨gb748, 1, none⟩ (.slice Ao9 t745.length co9)) = w18 at n0_ n1_ n2_ n3_ ⊢
 have HO744 := n0_
 have HO747 := n1_
 have BK748 := n2_
 have HB := n3_
 clear n0_ n1_ n2_ n3_
 replace HO744 := AM (Kd.R_drew HO744.out)
 replace HO747 := AM (Kd.N_drew HO747.out)
 replace BK748 := AM (blk_drew BK748.out)
 replace HB := AM (below_drew1 HB.out)
 refine start_ (n := 10) (S := fun w' => w'.cell? ⟨gb748, 0, none⟩ = some (.slice Ao7 t742.length co7) ∧ w'.cell? ⟨gb748, 1, none⟩ = some (.slice Ao9 t745.length co9)) (ds := []) #[F,F,F,F,F,F,F,F,F,F] (by kernel_rfl) rfl rfl ⟨ZA BK748 0, ZA BK748 1⟩ (fun hHeld => ?_); refine with_tabW laws_FnTypeAny.tab4 laws_FnTypeAny.bits4 (fun HT_ HW_ => ?_)
 generalize w18.drew = w19 at HO744 HO747 BK748 HB hHeld ⊢
 refine ZTK 0 11 #[T,F,F,F,F,F,F,F,F,F] hHeld ?_
 refine ZTK 2 13 #[T,F,T,F,F,F,F,F,F,F] hHeld ?_
 refine one_ (i := 1) (N := some 12) #[T,T,T,F,F,F,F,F,F,F] rfl rfl (one_of HT_.out (by kernel_rfl)) (by decide) (fun K hK => ?_)
 refine ZGO Try.func20 #[.agg #[.slice Ao7 t742.length co7, .slice Ao9 t745.length co9]] ?_
 with_reducible refine (impl_TypeOk.calls k _ _ t742 _ _ t745 t749 _ ?side1 ?side2 ?side3 ?side4 A10.out).mono ?_
 (case side1 => exact ZQ ((Kd.R_reads' HO744.out).2.2))
 (case side2 => exact (Kd.R_reads' HO744.out).2.1)
 (case side3 => exact ZQ ((Kd.N_reads' HO747.out).2.2))
 (case side4 => exact (Kd.N_reads' HO747.out).2.1)
 rintro e w20 ⟨rfl, hb⟩
 refine ⟨_, rfl, ?_⟩
 replace HO744 := AM (Kd.R_below (ZR HO744.out) hb)
 replace HO747 := AM (Kd.N_below (ZRN HO747.out) hb)
 replace BK748 := ZW BK748 hb
 replace HB := ZT HB hb
 (try clear hb)
 (try clear hb2)
 (try clear hk)
 (try clear hi)
 refine hK.out _ _ ⟨ZA BK748 0, ZA BK748 1⟩ (fun hHeld => ?_)
 clear hK K
 refine ZNO 12 ?_
 refine one_ (i := 3) (N := some 14) #[T,T,T,T,F,F,F,F,F,F] rfl rfl (one_of HT_.out (by kernel_rfl)) (by decide) (fun K hK => ?_)
 refine ZGO Try.func22 #[.agg #[.slice Ao7 t742.length co7, .slice Ao9 t745.length co9]] ?_
 with_reducible refine (spec_TypeOk.calls k _ _ t742 _ _ t745 t750 _ ?side1 ?side2 ?side3 ?side4 A11.out).mono ?_
 (case side1 => exact ZQ ((Kd.R_reads' HO744.out).2.2))
 (case side2 => exact (Kd.R_reads' HO744.out).2.1)
 (case side3 => exact ZQ ((Kd.N_reads' HO747.out).2.2))
 (case side4 => exact (Kd.N_reads' HO747.out).2.1)
 rintro e w21 ⟨rfl, hb⟩
 refine ⟨_, rfl, ?_⟩
 replace HO744 := AM (Kd.R_below (ZR HO744.out) hb)
 replace HO747 := AM (Kd.N_below (ZRN HO747.out) hb)
 replace BK748 := ZW BK748 hb
 replace HB := ZT HB hb
 (try clear hb)
 (try clear hb2)
 (try clear hk)
 (try clear hi)
 refine hK.out _ _ ⟨ZA BK748 0, ZA BK748 1⟩ (fun hHeld => ?_)
 clear hK K
 refine ZNO 14 ?_
 refine ZU 4 15 #[T,T,T,T,T,F,F,F,F,F] ?_
 refine ZU 5 16 #[T,T,T,T,T,T,F,F,F,F] ?_
 refine ZTK 6 17 #[T,T,T,T,T,T,T,F,F,F] hHeld ?_
 refine one_ (i := 7) (N := some 18) #[T,T,T,T,T,T,T,T,F,F] rfl rfl (one_of HT_.out (by kernel_rfl)) (by decide) (fun K hK => ?_)
 refine ZGO Try.func19 #[.agg #[.slice Ao7 t742.length co7, .slice Ao9 t745.length co9]] ?_
 with_reducible refine (spec_ProgOk.calls k _ _ t742 _ _ t745 t751 _ ?side1 ?side2 ?side3 ?side4 A17.out).mono ?_
 (case side1 => exact ZQ ((Kd.R_reads' HO744.out).2.2))
 (case side2 => exact (Kd.R_reads' HO744.out).2.1)
 (case side3 => exact ZQ ((Kd.N_reads' HO747.out).2.2))
 (case side4 => exact (Kd.N_reads' HO747.out).2.1)
 rintro e w22 ⟨rfl, hb⟩
 refine ⟨_, rfl, ?_⟩
 replace HO744 := AM (Kd.R_below (ZR HO744.out) hb)
 replace HO747 := AM (Kd.N_below (ZRN HO747.out) hb)
 replace BK748 := ZW BK748 hb
 replace HB := ZT HB hb
 (try clear hb)
 (try clear hb2)
 (try clear hk)
 (try clear hi)
 refine hK.out _ _ ⟨ZA BK748 0, ZA BK748 1⟩ (fun hHeld => ?_)
 clear hK K
 refine ZNO 18 ?_
 refine ZU 8 19 #[T,T,T,T,T,T,T,T,T,F] ?_
 refine ZU 9 20 #[T,T,T,T,T,T,T,T,T,T] ?_
 refine done_ (done_of HT_.out (by kernel_rfl)) ?_
 try go_wp2
 go_meet
 case rel => exact ⟨_, (!t751), (by first | rfl | (simp; done) | (simp [*]; done)), H', ⟨by first | omega | exact Nat.le_refl _⟩, ⟨ZR HO744.out⟩, ⟨ZRN HO747.out⟩, ⟨ZK BK748.out⟩, ⟨ZB⟩⟩))
 case rest => (
 clear HC4
 try clear c1
 try clear c2
 try clear c2b0
 try clear c2b1
 try clear p2
 try clear c6
 try clear c12
 try clear c12b0
 try clear c12b1
 try clear c12b2
 try clear c19
 try clear c20
 try clear c21
 try clear c22
 try clear hcz8
 try clear hfz8
 obtain ⟨kq, x20_3, rfl, HA, HJ3, HO_749000, HO_749001, BK748, HB⟩ := hcut
 cases kq with
 | zero => exact absurd HA.out (by simp [laws_FnTypeAny.j0])
 | succ kj3 =>
  have H := HA.out
  clear HA
  simp only [laws_FnTypeAny.j0] at H
  by_cases c23 : x20_3 = true
  ·(
  subst c23
  have H1 := H; rw [if_pos rfl] at H1
  clear H
  have H := H1
  clear H1
  obtain ⟨t752, A24, H⟩ := ZOB H; try dsimp only at H
  obtain ⟨t753, A25, H⟩ := ZOB H; try dsimp only at H
  obtain rfl := Option.some.inj H
  try go_wp2
  replace HO_749000 := AM (Kd.R_drew HO_749000.out)
  replace HO_749001 := AM (Kd.N_drew HO_749001.out)
  replace BK748 := AM (blk_drew BK748.out)
  replace HB := AM (below_drew1 HB.out)
  refine start_ (n := 6) (S := fun w' => w'.cell? ⟨gb748, 0, none⟩ = some (.slice Ao7 t742.length co7) ∧ w'.cell? ⟨gb748, 1, none⟩ = some (.slice Ao9 t745.length co9)) (ds := []) #[F,F,F,F,F,F] (by kernel_rfl) rfl rfl ⟨ZA BK748 0, ZA BK748 1⟩ (fun hHeld => ?_)
  generalize wc.drew = w26 at HO_749000 HO_749001 BK748 HB hHeld ⊢
  refine take_ (i := 0) (N := some 21) (v := ?_) (a' := ?_) #[T,F,F,F,F,F] rfl rfl (by kernel_rfl) (fun _ _ _ h => h) (Or.inl ⟨by rfl, ?_⟩) hHeld ?_ ?_
  rotate_left
  ·(
  rintro w' ⟨s0, s1⟩
  go_simp
  with_reducible rfl)
  rotate_left
  ·(
  simp only [Act.put, List.setIfInBounds_toArray, List.set_cons_zero, List.set_cons_succ, i64_w, i32_w]
  rfl)
  refine take_ (i := 2) (N := some 23) (v := ?_) (a' := ?_) #[T,F,T,F,F,F] rfl rfl (by kernel_rfl) (fun _ _ _ h => h) (Or.inl ⟨by rfl, ?_⟩) hHeld ?_ ?_
  rotate_left
  ·(
  rintro w' ⟨s0, s1⟩
  go_simp
  with_reducible rfl)
  rotate_left
  ·(
  simp only [Act.put, List.setIfInBounds_toArray, List.set_cons_zero, List.set_cons_succ, i64_w, i32_w]
  rfl)
  refine one_ (i := 1) (N := some 22) #[T,T,T,F,F,F] rfl rfl (by kernel_rfl) (by decide) (fun K hK => ?_)
  refine ZGO Try.func20 #[.agg #[.slice Ao7 t742.length co7, .slice Ao9 t745.length co9]] ?_
  with_reducible refine (impl_TypeOk.calls kj3 _ _ t742 _ _ t745 t752 _ ?side1 ?side2 ?side3 ?side4 A24.out).mono ?_
  (case side1 => exact ZQ ((Kd.R_reads' HO_749000.out).2.2))
  (case side2 => exact (Kd.R_reads' HO_749000.out).2.1)
  (case side3 => exact ZQ ((Kd.N_reads' HO_749001.out).2.2))
  (case side4 => exact (Kd.N_reads' HO_749001.out).2.1)
  rintro e w27 ⟨rfl, hb⟩
  refine ⟨_, rfl, ?_⟩
  replace HO_749000 := AM (Kd.R_below (ZR HO_749000.out) hb)
  replace HO_749001 := AM (Kd.N_below (ZRN HO_749001.out) hb)
  replace BK748 := ZW BK748 hb
  replace HB := ZT HB hb
  (try clear hb)
  (try clear hb2)
  (try clear hk)
  (try clear hi)
  refine hK.out _ _ ⟨ZA BK748 0, ZA BK748 1⟩ (fun hHeld => ?_)
  clear hK K
  refine ZNO 22 ?_
  refine one_ (i := 3) (N := some 24) #[T,T,T,T,F,F] rfl rfl (by kernel_rfl) (by decide) (fun K hK => ?_)
  refine ZGO Try.func22 #[.agg #[.slice Ao7 t742.length co7, .slice Ao9 t745.length co9]] ?_
  with_reducible refine (spec_TypeOk.calls kj3 _ _ t742 _ _ t745 t753 _ ?side1 ?side2 ?side3 ?side4 A25.out).mono ?_
  (case side1 => exact ZQ ((Kd.R_reads' HO_749000.out).2.2))
  (case side2 => exact (Kd.R_reads' HO_749000.out).2.1)
  (case side3 => exact ZQ ((Kd.N_reads' HO_749001.out).2.2))
  (case side4 => exact (Kd.N_reads' HO_749001.out).2.1)
  rintro e w28 ⟨rfl, hb⟩
  refine ⟨_, rfl, ?_⟩
  replace HO_749000 := AM (Kd.R_below (ZR HO_749000.out) hb)
  replace HO_749001 := AM (Kd.N_below (ZRN HO_749001.out) hb)
  replace BK748 := ZW BK748 hb
  replace HB := ZT HB hb
  (try clear hb)
  (try clear hb2)
  (try clear hk)
  (try clear hi)
  refine hK.out _ _ ⟨ZA BK748 0, ZA BK748 1⟩ (fun hHeld => ?_)
  clear hK K
  refine ZNO 24 ?_
  refine pure_ (i := 4) (N := some 25) (v := ?_) (a' := ?_) #[T,T,T,T,T,F] rfl rfl (by kernel_rfl) (fun _ _ _ h => h) (Or.inl ⟨by rfl, ?_⟩) ?_ ?_
  rotate_left
  ·(
  intro w'
  go_simp
  with_reducible rfl)
  rotate_left
  ·(
  simp only [Act.put, List.setIfInBounds_toArray, List.set_cons_zero, List.set_cons_succ, i64_w, i32_w]
  rfl)
  refine pure_ (i := 5) (N := some 2) (v := ?_) (a' := ?_) #[T,T,T,T,T,T] rfl rfl (by kernel_rfl) (fun _ _ _ h => h) (Or.inl ⟨by rfl, ?_⟩) ?_ ?_
  rotate_left
  ·(
  intro w'
  go_simp
  with_reducible rfl)
  rotate_left
  ·(
  simp only [Act.put, List.setIfInBounds_toArray, List.set_cons_zero, List.set_cons_succ, i64_w, i32_w]
  rfl)
  refine done_ (by kernel_rfl) ?_
  try go_wp2
  go_ret
  exact ⟨ZE, ZB⟩)
  ·(
  replace c23 := Bool.eq_false_iff.mpr c23
  subst c23
  have H1 := H; rw [if_neg ZFT] at H1
  clear H
  have H := H1
  clear H1
  have H' := AM H
  clear H
  have hcz29 := ZC2 wc BK748
  have hfz29 := ZF2 BK748
  go_wp2_with (first | ((with_reducible refine gate_dst (N := 4) rfl ?_); refine ZX (N := 4) (cs := #[.slice none 0 0, .slice none 0 0]) (t := 26) ?_; intro gb754 hg w30 hbox hb; have BK754 := AM (hbox); have GW754 : Za (w.heap.size ≤ gb754) := ZS hg; have NB748_754 : Za (gb748 ≠ gb754) := ZN hg BK748; have NB754_748 : Za (gb754 ≠ gb748) := ZM hg BK748; replace HO_749000 := AM (Kd.R_below (ZR HO_749000.out) hb); replace HO_749001 := AM (Kd.N_below (Kd.N_elderB (ZRN HO_749001.out) gb754 (Nat.le_of_eq hg.symm)) hb); replace BK748 := ZW BK748 hb; replace HB := ZT HB hb; clear hb hbox hg; have hnb31 := NB754_748.out; have hnc31 := NB748_754.out; have hcz32 := ZC2 w30 BK754; have hfz32 := ZF2 BK754))
  go_loopg [5] kj3 (fun kq v5 w' => ∃ (x5_2 : Int) (x755000_2 : List (S39)) (u755000 : Value), v5 = .int .i64 x5_2 ∧ Za (laws_FnTypeAny.l0 kq x5_2 t742 t745 x755000_2 t745 = some r) ∧ Za (kq ≤ kj3) ∧ Za (Kd.R k39 39 w' w.heap.size (fun k_ => some k_ ≠ (u755000 : Value).ownBlock) (.slice Ao7 t742.length co7) t742) ∧ Za (Kd.N k32 32 w' w.heap.size (fun k_ => some k_ ≠ ((.slice Ao7 t742.length co7) : Value).ownBlock ∧ some k_ ≠ (u755000 : Value).ownBlock ∧ k_ ≠ gb748 ∧ k_ ≠ gb754) (.slice Ao9 t745.length co9) t745) ∧ Za (Kd.R k39 39 w' w.heap.size (fun k_ => some k_ ≠ ((.slice Ao7 t742.length co7) : Value).ownBlock) u755000 x755000_2) ∧ Za (Kd.N k32 32 w' w.heap.size (fun k_ => some k_ ≠ ((.slice Ao7 t742.length co7) : Value).ownBlock ∧ some k_ ≠ (u755000 : Value).ownBlock ∧ k_ ≠ gb748 ∧ k_ ≠ gb754) (.slice Ao9 t745.length co9) t745) ∧ Za (w'.heap[gb748]? = some (.cells #[(.slice Ao7 t742.length co7), (.slice Ao9 t745.length co9)] 26 (0, 0))) ∧ Za (w'.heap[gb754]? = some (.cells #[u755000, (.slice Ao9 t745.length co9)] 26 (0, 0))) ∧ Za (Below w.heap.size w w'))
  case atStart => exact ⟨(0), (([] : List (S39))), (.slice none 0 0), (by first | rfl | (simp; done) | (simp [*]; done)), H', ⟨Nat.le_refl _⟩, ⟨by (with_reducible repeat (first | apply Kd.R_alloc | apply Kd.R_drewN | apply Kd.R_drew)); exact Kd.R_mono (Kd.R_far (p := ⟨gb754, 1, none⟩) (Kd.R_far (p := ⟨gb754, 0, none⟩) (Kd.R_types HO_749000.out BK754.out (by decide)) (fun _ hk => hk.2) (.slice none 0 0)) (fun _ hk => hk.2) (.slice Ao9 t745.length co9)) (fun _ hk => (by simp [Value.ownBlock]))⟩, ⟨by (with_reducible repeat (first | apply Kd.N_alloc | apply Kd.N_drewN | apply Kd.N_drew)); exact Kd.N_mono (Kd.N_far (p := ⟨gb754, 1, none⟩) (Kd.N_far (p := ⟨gb754, 0, none⟩) (Kd.N_mono HO_749001.out (fun k_ hk => (⟨hk, hk.2⟩ : _ ∧ k_ ≠ gb754))) (fun _ hk => hk.2) (.slice none 0 0)) (fun _ hk => hk.2) (.slice Ao9 t745.length co9)) (fun _ hk => ⟨hk.1.1.1, ⟨(by simp [Value.ownBlock]), ⟨hk.1.1.2, hk.1.2⟩⟩⟩)⟩, ⟨by first | exact Kd.R_nil _ _ _ _ _ | exact Kd.N_nil _ _ _ _ _ | exact Kd.V_nil _ _ _ _ _ | exact Kd.Q_nil _ _ _ _ _ | exact Kd.S_nil _ _ _ _ _⟩, ⟨by (with_reducible repeat (first | apply Kd.N_alloc | apply Kd.N_drewN | apply Kd.N_drew)); exact Kd.N_mono (Kd.N_far (p := ⟨gb754, 1, none⟩) (Kd.N_far (p := ⟨gb754, 0, none⟩) (Kd.N_mono HO_749001.out (fun k_ hk => (⟨hk, hk.2⟩ : _ ∧ k_ ≠ gb754))) (fun _ hk => hk.2) (.slice none 0 0)) (fun _ hk => hk.2) (.slice Ao9 t745.length co9)) (fun _ hk => ⟨hk.1.1.1, ⟨(by simp [Value.ownBlock]), ⟨hk.1.1.2, hk.1.2⟩⟩⟩)⟩, ⟨ZZ BK748.out⟩, ⟨ZZ BK754.out⟩, ⟨ZB⟩⟩
  case round => (
  clear H'
  try clear c1
  try clear c2
  try clear c2b0
  try clear c2b1
  try clear p2
  try clear c3
  try clear c6
  try clear c12
  try clear c12b0
  try clear c12b1
  try clear c12b2
  try clear c19
  try clear c20
  try clear c21
  try clear c22
  try clear c23
  try clear c31
  try clear hcz29
  try clear hcz32
  try clear hcz8
  try clear hfz29
  try clear hfz32
  try clear hfz8
  try clear p2
  obtain ⟨x5_2, x755000_2, u755000, rfl, HA, HK2, HO_749000, HO_749001, HO_755000, HO_755001, BK748, BK754, HB⟩ := hrel
  cases gk with
  | zero => exact absurd HA.out (by simp [laws_FnTypeAny.l0])
  | succ k2 =>
   have H := HA.out
   clear HA
   simp only [laws_FnTypeAny.l0] at H
   by_cases c33 : x5_2 < (t742.length : Int)
   ·(
   rw [if_pos c33] at H
   have c33b0 := decide_eq_true c33
   clear c33
   by_cases c34 : x755000_2.length < 8796093022208
   ·(
   rw [if_pos c34] at H
   have LMc34 := AM c34
   clear c34
   obtain ⟨y755, hy755⟩ : ∃ y_ : List (S39), y_ = (x755000_2 ++ [(⟨7, 7⟩ : S39)]) := ⟨_, rfl⟩
   replace H : (laws_FnTypeAny.l0 k2 (wrap64 (x5_2 + 1)) t742 t745 y755 t745) = some r := by first | (rw [hy755]; with_reducible exact H) | (have H2_ := (Option.bind_some _ _).symm.trans H; rw [hy755]; with_reducible exact H2_) | (have H2_ := (Option.bind_some _ _).symm.trans H; with_reducible exact H2_) | with_reducible exact H | (rw [hy755]; exact H) | exact H
   have Ny755 := AM hy755
   clear hy755
   have H' := AM H
   clear H
   have hnb35 := NB748_754.out
   have hnc35 := NB754_748.out
   have hcz36 := ZC2 wr BK748
   have hfz36 := ZF2 BK748
   have hcz37 := ZC2 wr BK754
   have hfz37 := ZF2 BK754
   go_wp2_with (first | ((with_reducible refine gate_builtin (b := .append) (xs := #[.tmp 37, .tmp 39]) rfl ?_); at_builtin; refine Kd.R_append k39 (w0 := w) w.heap.size rfl (.tmp 37) (.tmp 39) 23 39 (.agg #[(.int .i64 0), (.int .i64 0)]) 16 rfl Try.underlying23 info39 rfl (by decide) (by omega) u755000 x755000_2 (⟨7, 7⟩ : S39) [.int .i64 7, .int .i64 7] (fun k_ => some k_ ≠ (.slice Ao7 t742.length co7 : Value).ownBlock) (fun _ => False) rfl rfl ?aP (fun _ hk => hk.elim) ?aF ?aO ?aB ?aS ?aL ?_; (case aP => exact k39_mkM _ _ _ (⟨7, 7⟩ : S39)); (case aB => exact (ZB)); (case aF => exact (fun k_ hk => Kd.fresh' (Kd.R_lt (ZR HO_749000.out)) k_ hk)); (case aO => exact (ZR HO_755000.out)); (case aS => exact (below_size (ZB))); (case aL => have := LMc34.out; omega); intro v756 w38 ho hb hg hat; rw [← Ny755.out] at ho; have n0_ := AM (Kd.R_after (ok := (fun _ => True)) (by (with_reducible repeat (first | apply Kd.R_alloc | apply Kd.R_drewN | apply Kd.R_drew)); exact Kd.R_mono HO_749000.out (fun _ hk => ⟨trivial, hk⟩)) hg hat); have n1_ := AM (Kd.N_afterv (ok := (fun k_ => some k_ ≠ (.slice Ao7 t742.length co7 : Value).ownBlock ∧ k_ ≠ gb748 ∧ k_ ≠ gb754)) (by (with_reducible repeat (first | apply Kd.N_alloc | apply Kd.N_drewN | apply Kd.N_drew)); exact Kd.N_mono HO_749001.out (fun _ hk => ⟨⟨hk.1, ⟨hk.2.2.1, hk.2.2.2⟩⟩, hk.2.1⟩)) hg hat); have n2_ := AM (Kd.N_afterv (ok := (fun k_ => some k_ ≠ (.slice Ao7 t742.length co7 : Value).ownBlock ∧ k_ ≠ gb748 ∧ k_ ≠ gb754)) (by (with_reducible repeat (first | apply Kd.N_alloc | apply Kd.N_drewN | apply Kd.N_drew)); exact Kd.N_mono HO_755001.out (fun _ hk => ⟨⟨hk.1, ⟨hk.2.2.1, hk.2.2.2⟩⟩, hk.2.1⟩)) hg hat); have n3_ := AM (blk_grown (g := gb748) (o := .cells #[.slice Ao7 t742.length co7, .slice Ao9 t745.length co9] 26 (0, 0)) (ZK BK748.out) hg (Kd.R_ne HO_755000.out BK748.out (by decide))); have n4_ := AM (blk_grown (g := gb754) (o := .cells #[u755000, .slice Ao9 t745.length co9] 26 (0, 0)) (ZK BK754.out) hg (Kd.R_ne HO_755000.out BK754.out (by decide))); have n5_ := AM (hb); have n6_ := AM (ho); clear HO_749000 HO_749001 HO_755001 BK748 BK754 HB HO_755000; have HO_749000 := n0_; have HO_749001 := n1_; have HO_755001 := n2_; have BK748 := n3_; have BK754 := n4_; have HB := n5_; have HO757 := n6_; clear n0_ n1_ n2_ n3_ n4_ n5_ n6_ ho hb hg hat; obtain ⟨Ao39, co39, eo39⟩ := Kd.R_slice HO757.out; subst eo39; have hcz40 := ZC2 w38 BK754; have hfz40 := ZF2 BK754))
   go_roundg k2
   case measure => have := HJ3.out; have := HK2.out; omega
   case rel => exact ⟨(wrap64 (x5_2 + 1)), (y755), (.slice Ao39 y755.length co39), (by first | rfl | (simp; done) | (simp [*]; done)), H', ⟨by have := HJ3.out; have := HK2.out; omega⟩, ⟨ZR (Kd.R_mono (Kd.R_far (p := ⟨gb754, 0, none⟩) (Kd.R_types HO_749000.out BK754.out (by decide)) (fun _ hk => hk.2) (.slice Ao39 y755.length co39)) (fun _ hk => hk.1.2))⟩, ⟨by (with_reducible repeat (first | apply Kd.N_alloc | apply Kd.N_drewN | apply Kd.N_drew)); exact Kd.N_mono (Kd.N_far (p := ⟨gb754, 0, none⟩) (Kd.N_mono HO_749001.out (fun k_ hk => (⟨hk, hk.1.2.2⟩ : _ ∧ k_ ≠ gb754))) (fun _ hk => hk.2) (.slice Ao39 y755.length co39)) (fun _ hk => ⟨hk.1.1.1, ⟨hk.1.2, ⟨hk.1.1.2.1, hk.1.1.2.2⟩⟩⟩)⟩, ⟨ZR (Kd.R_mono (Kd.R_far (p := ⟨gb754, 0, none⟩) (Kd.R_types HO757.out BK754.out (by decide)) (fun _ hk => hk.2) (.slice Ao39 y755.length co39)) (fun _ hk => hk.1))⟩, ⟨by (with_reducible repeat (first | apply Kd.N_alloc | apply Kd.N_drewN | apply Kd.N_drew)); exact Kd.N_mono (Kd.N_far (p := ⟨gb754, 0, none⟩) (Kd.N_mono HO_755001.out (fun k_ hk => (⟨hk, hk.1.2.2⟩ : _ ∧ k_ ≠ gb754))) (fun _ hk => hk.2) (.slice Ao39 y755.length co39)) (fun _ hk => ⟨hk.1.1.1, ⟨hk.1.2, ⟨hk.1.1.2.1, hk.1.1.2.2⟩⟩⟩)⟩, ⟨ZZ BK748.out⟩, ⟨ZZ BK754.out⟩, ⟨ZB⟩⟩)
   ·(
   rw [if_neg c34] at H
   exact absurd H (by simp)))
   ·(
   rw [if_neg c33] at H
   have c33b0 := decide_eq_false c33
   clear c33
   obtain ⟨t758, A41, H⟩ := ZOB H; try dsimp only at H
   obtain rfl := Option.some.inj H
   have hnb42 := NB748_754.out
   have hnc42 := NB754_748.out
   have hcz43 := ZC2 wr BK748
   have hfz43 := ZF2 BK748
   have hcz44 := ZC2 wr BK754
   have hfz44 := ZF2 BK754
   obtain ⟨Ao45, co45, eo45⟩ := Kd.R_slice HO_755000.out
   subst eo45
   go_wp2_with (first | ((with_reducible refine gate_callee (f := 20) rfl ?_); refine ZGL (some 43) Try.func20 #[.agg #[.slice Ao45 x755000_2.length co45, .slice Ao9 t745.length co9]] ?_; (with_reducible refine (impl_TypeOk.calls k2 _ _ x755000_2 _ _ t745 t758 _ ?side1 ?side2 ?side3 ?side4 A41.out).mono ?_); (case side1 => exact ZQ ((Kd.R_reads' HO_755000.out).2.2)); (case side2 => exact (Kd.R_reads' HO_755000.out).2.1); (case side3 => exact ZQ ((Kd.N_reads' HO_755001.out).2.2)); (case side4 => exact (Kd.N_reads' HO_755001.out).2.1); rintro e w46 ⟨rfl, hb⟩; refine ⟨_, rfl, ?_⟩; replace HO_749000 := AM (Kd.R_below (ZR HO_749000.out) hb); replace HO_749001 := AM (Kd.N_below (ZRN HO_749001.out) hb); replace HO_755000 := AM (Kd.R_below (ZR HO_755000.out) hb); replace HO_755001 := AM (Kd.N_below (ZRN HO_755001.out) hb); replace BK748 := ZW BK748 hb; replace BK754 := ZW BK754 hb; replace HB := ZT HB hb; clear hb))
   go_ret
   exact ⟨ZE, ZB⟩)))))

end Go.Proofs.Ythidgkfgdkjghaa.A
