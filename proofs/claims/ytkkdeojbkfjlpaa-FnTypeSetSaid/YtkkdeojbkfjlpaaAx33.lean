/- By wip/tools/pr.py: Go functions as Lean functions, with contracts. -/
import Derived.Test.YtkkdeojbkfjlpaaAx0
import Derived.Test.YtkkdeojbkfjlpaaAx4
import Derived.Test.YtkkdeojbkfjlpaaAx26
import Derived.Test.YtkkdeojbkfjlpaaAx30
import Derived.Test.YtkkdeojbkfjlpaaAx32
namespace Go.Proofs.Ytkkdeojbkfjlpaa.A
open Go.RowKit Go.Proofs.YtkkdeojbkfjlpaaW.PrintWords Go.Proofs.YtkkdeojbkfjlpaaW.PrintLast Go.Proofs.YtkkdeojbkfjlpaaW.PrintMore
attribute [local go_sem] max2_int min2_int max_two min_two max_three min_three max_four min_four
set_option linter.unusedVariables false
set_option linter.unusedSimpArgs false
set_option maxHeartbeats 8000000
set_option maxRecDepth 100000

/-! ### laws_FnTypeSet: function 4 -/
mutual
def laws_FnTypeSet.j0 : Nat → Bool → List (S35) → List (S40) → Option (Bool)
 | 0, _, _, _ => none
 | k + 1, x25, x754000, x754001 => if x25 = true then ((impl_TypeOk.f k x754000 x754001).bind fun t757 => ((spec_TypeOk.f k x754000 x754001).bind fun t758 => (some (t757 == t758)))) else (laws_FnTypeSet.l0 k 0 x754000 x754001)
def laws_FnTypeSet.l0 : Nat → Int → List (S35) → List (S40) → Option (Bool)
 | 0, _, _, _ => none
 | k + 1, x4, x754000, x754001 => if x4 < (x754000.length : Int) then (laws_FnTypeSet.l1 k x4 0 x754000 x754001) else (some true)
def laws_FnTypeSet.l1 : Nat → Int → Int → List (S35) → List (S40) → Option (Bool)
 | 0, _, _, _, _ => none
 | k + 1, x4, x5, x754000, x754001 => if x5 < (x754000.length : Int) then (if 0 ≤ x5 then (if 0 ≤ x4 then (if x4 < (x754000.length : Int) then ((impl_LabelFlows.f ((D35 x754000 x5).f0) ((D35 x754000 x5).f1) ((D35 x754000 x4).f0) ((D35 x754000 x4).f1)).bind fun t774 => ((impl_TypeOk.f k x754000 (([(⟨1, x4, (⟨2, x5, 0⟩ : S38), 0, ([] : List (S40)), ([] : List (S40))⟩ : S40)] : List (S40)))).bind fun t775 => (if (t775 != t774) = true then (none) else ((impl_TypeOk.f k x754000 (([(⟨2, x5, (⟨0, 0, 0⟩ : S38), 0, ([] : List (S40)), (([(⟨1, x4, (⟨1, 0, 0⟩ : S38), 0, ([] : List (S40)), ([] : List (S40))⟩ : S40)] : List (S40)))⟩ : S40)] : List (S40)))).bind fun t776 => (if (t776 != t774) = true then (none) else (laws_FnTypeSet.l1 k x4 (wrap64 (x5 + 1)) x754000 x754001)))))) else (none)) else (none)) else (none)) else (laws_FnTypeSet.l0 k (wrap64 (x4 + 1)) x754000 x754001)
end
def laws_FnTypeSet.f (k : Nat) (l0 : List Int) : Option (Bool) := if (l0.length : Int) > 1048576 then (some true) else ((spec_DrawTypeOk.f k l0).bind fun bt747 => ((impl_TypeOk.f k bt747.1 bt747.2).bind fun t754 => ((spec_TypeOk.f k bt747.1 bt747.2).bind fun t755 => (if (t754 != t755) = true then (laws_FnTypeSet.j0 k true bt747.1 bt747.2) else ((spec_ProgOk.f k bt747.1 bt747.2).bind fun t756 => (laws_FnTypeSet.j0 k (!t756) bt747.1 bt747.2))))))
def laws_FnTypeSet.T4 : Bool × List (List Nat × List Nat) := (true, [([], []), ([0], [0]), ([], []), ([2, 1], [2]), ([1, 3], [1, 3]), ([4, 3], [4]), ([5], [5]), ([6, 5, 5], [5, 6]), ([7, 5], [5, 7]), ([5, 8], [5, 8])])
def laws_FnTypeSet.B4 : List Nat := [0, 1, 0, 7, 15, 31, 63, 127, 255, 511]
theorem laws_FnTypeSet.tab4 : rtab .any (opsOf Try.f4 4) = laws_FnTypeSet.T4 := by kernel_rfl
theorem laws_FnTypeSet.bits4 : waitsOk laws_FnTypeSet.T4.2 laws_FnTypeSet.B4 = true := by kernel_rfl
def laws_FnTypeSet.T16 : Bool × List (List Nat × List Nat) := (true, [([], []), ([0], [0]), ([], []), ([1, 2], [1, 2]), ([3], [3]), ([], []), ([5], [5]), ([], []), ([6, 7], [6, 7]), ([8], [8]), ([4, 9], [4, 9]), ([10, 10, 0, 1, 2, 3, 4, 5, 6, 7, 8, 9, 10], [10])])
def laws_FnTypeSet.B16 : List Nat := [0, 1, 0, 7, 15, 0, 32, 0, 224, 480, 1023, 2047]
theorem laws_FnTypeSet.tab16 : rtab .any (opsOf Try.f4 16) = laws_FnTypeSet.T16 := by kernel_rfl
theorem laws_FnTypeSet.bits16 : waitsOk laws_FnTypeSet.T16.2 laws_FnTypeSet.B16 = true := by kernel_rfl
theorem laws_FnTypeSet.calls (k : Nat) (A0 : Option Addr) (c0 : Nat) (l0 : List Int) (r : Bool) (w : World) (hr0 : Kd.C (Kd.int .u8) w A0 l0.length l0) (hc0 : l0.length ≤ c0) (h : laws_FnTypeSet.f k l0 = some r) :
  Calls Try.prog 4 #[.slice A0 l0.length c0] w fun e w' => e = .returned (.bool r) ∧ Below w.heap.size w w' := by
 have hu26 := Try.underlying26
 have hu38 := Try.underlying38
 have hu40 := Try.underlying40
 have hu35 := Try.underlying35
 have HR0 := AM hr0
 have HC0 := AM hc0
 clear hr0 hc0
 have HB := AM (Below.refl w.heap.size w)
 have H := h
 unfold laws_FnTypeSet.f at H
 clear h
 by_cases c2 : (l0.length : Int) > 1048576
 ·(
 rw [if_pos c2] at H
 have c2b0 := decide_eq_true c2
 have c2b1 : decide (1048576 < l0.length) = true := decide_eq_true (by omega)
 clear c2
 obtain rfl := Option.some.inj H
 go_enter Try.func4, Try.ntmps4
 go_wp2
 go_ret
 exact ⟨ZE, ZB⟩)
 ·(
 rw [if_neg c2] at H
 have c2b0 := decide_eq_false c2
 have c2b1 : decide (1048576 < l0.length) = false := decide_eq_false (by omega)
 clear c2
 obtain ⟨⟨t747, t750⟩, A3, H⟩ := ZOB H; try dsimp only at H
 have HC4 := AM H
 clear H
 go_enter Try.func4, Try.ntmps4
 go_upto_region 4 with (first | ((with_reducible refine gate_callee (f := 14) rfl ?_); refine ZGL (some 15) Try.func14 #[.slice A0 l0.length c0] ?_; (with_reducible refine (spec_DrawTypeOk.calls k _ _ l0 t747 t750 _ ?side1 HC0.out A3.out).mono ?_); (case side1 => exact ZQ HR0.out); rintro e w5 ⟨v748, v751, rfl, ho0, ho1, hb⟩; refine ⟨_, rfl, ?_⟩; have HO749 := AM (Kd.R_lower (Kd.R_mono (ok' := fun k_ => True) ho0 (fun _ hk_ => trivial)) (below_size (ZB))); have HO752 := AM (Kd.N_lower (Kd.N_mono (ok' := fun k_ => some k_ ≠ (v748 : Value).ownBlock) ho1 (fun k_ hk_ => hk_.2)) (below_size (ZB))); replace HB := ZT HB hb; clear hb; (try clear ho0); (try clear ho1)) | ((with_reducible refine gate_dst (N := 3) rfl ?_); refine ZX (N := 3) (cs := #[.slice none 0 0, .slice none 0 0]) (t := 26) ?_; intro gb753 hg w6 hbox hb; have BK753 := AM (hbox); have GW753 : Za (w.heap.size ≤ gb753) := ZS hg; have GE753 : Za (w.heap.size ≤ gb753) := ZS hg; replace HO749 := AM (Kd.R_below (ZR HO749.out) hb); replace HO752 := AM (Kd.N_below (Kd.N_elderB (ZRN HO752.out) gb753 (Nat.le_of_eq hg.symm)) hb); replace HB := ZT HB hb; clear hb hbox hg; obtain ⟨Ao7, co7, eo7⟩ := Kd.R_slice HO749.out; subst eo7; have hcz8 := ZC2 w6 BK753; have hfz8 := ZF2 BK753; obtain ⟨Ao9, co9, eo9⟩ := Kd.N_slice HO752.out; subst eo9))
 (try simp only [Act.put, List.setIfInBounds_toArray, List.set_cons_zero, List.set_cons_succ])
 go_cut [25] (fun v25 wc => ∃ (kq : Nat) (x25_3 : Bool), v25 = .bool x25_3 ∧ Za (laws_FnTypeSet.j0 kq x25_3 t747 t750 = some r) ∧ Za (kq ≤ k) ∧ Za (Kd.R k35 35 wc w.heap.size (fun _ => True) (.slice Ao7 t747.length co7) t747) ∧ Za (Kd.N k40 40 wc w.heap.size (fun k_ => some k_ ≠ ((.slice Ao7 t747.length co7) : Value).ownBlock ∧ k_ ≠ gb753) (.slice Ao9 t750.length co9) t750) ∧ Za (wc.heap[gb753]? = some (.cells #[(.slice Ao7 t747.length co7), (.slice Ao9 t750.length co9)] 26 (0, 0))) ∧ Za (Below w.heap.size w wc))
 case first => (
 have H := HC4.out
 clear HC4
 obtain ⟨t754, A10, H⟩ := ZOB H; try dsimp only at H
 obtain ⟨t755, A11, H⟩ := ZOB H; try dsimp only at H
 by_cases c12 : (t754 != t755) = true
 ·(
 rw [if_pos c12] at H
 have c12b0 : (t754 != t755) = true := c12
 (try (have c12b1 : decide (t754 = t755) = false := by simpa using c12))
 (try (have c12b2 : (t754 == t755) = false := by simpa using c12))
 (try (have c12b3 : ¬ (t754 = t755) := by simpa using c12))
 clear c12
 (first | rw [c12b0] | (simp only [i64_w, i32_w]; rw [c12b0]) | skip)
 have H' := AM H
 clear H
 try go_wp2
 have n0_ : Za (Kd.R k35 35 ((w6.setCell ⟨gb753, 0, none⟩ (.slice Ao7 t747.length co7)).setCell ⟨gb753, 1, none⟩ (.slice Ao9 t750.length co9)) w.heap.size (fun _ => True) (.slice Ao7 t747.length co7) t747) := ⟨ZR (Kd.R_mono (Kd.R_far (p := ⟨gb753, 1, none⟩) (Kd.R_far (p := ⟨gb753, 0, none⟩) (Kd.R_types HO749.out BK753.out (by decide)) (fun _ hk => hk.2) (.slice Ao7 t747.length co7)) (fun _ hk => hk.2) (.slice Ao9 t750.length co9)) (fun _ hk => trivial))⟩
 have n1_ : Za (Kd.N k40 40 ((w6.setCell ⟨gb753, 0, none⟩ (.slice Ao7 t747.length co7)).setCell ⟨gb753, 1, none⟩ (.slice Ao9 t750.length co9)) w.heap.size (fun k_ => some k_ ≠ (.slice Ao7 t747.length co7 : Value).ownBlock ∧ k_ ≠ gb753) (.slice Ao9 t750.length co9) t750) := ⟨by (with_reducible repeat (first | apply Kd.N_alloc | apply Kd.N_drewN | apply Kd.N_drew)); exact Kd.N_mono (Kd.N_far (p := ⟨gb753, 1, none⟩) (Kd.N_far (p := ⟨gb753, 0, none⟩) (Kd.N_mono HO752.out (fun k_ hk => (⟨hk, hk.2⟩ : _ ∧ k_ ≠ gb753))) (fun _ hk => hk.2) (.slice Ao7 t747.length co7)) (fun _ hk => hk.2) (.slice Ao9 t750.length co9)) (fun _ hk => ⟨hk.1.1, hk.1.2⟩)⟩
 have n2_ : Za (((w6.setCell ⟨gb753, 0, none⟩ (.slice Ao7 t747.length co7)).setCell ⟨gb753, 1, none⟩ (.slice Ao9 t750.length co9)).heap[gb753]? = some (.cells #[.slice Ao7 t747.length co7, .slice Ao9 t750.length co9] 26 (0, 0))) := ⟨ZZ BK753.out⟩
 have n3_ : Za (Below w.heap.size w ((w6.setCell ⟨gb753, 0, none⟩ (.slice Ao7 t747.length co7)).setCell ⟨gb753, 1, none⟩ (.slice Ao9 t750.length co9))) := ⟨ZB⟩
 (try clear HO749)
 (try clear HO752)
 (try clear BK753)
 (try clear HB)
 generalize ((w6.setCell ⟨gb753, 0, none⟩ (.slice Ao7 t747.length co7)).setCell ⟨gb753, 1, none⟩ (.slice Ao9 t750.length co9)) = w13 at n0_ n1_ n2_ n3_ ⊢
 have HO749 := n0_
 have HO752 := n1_
 have BK753 := n2_
 have HB := n3_
 clear n0_ n1_ n2_ n3_
 replace HO749 := AM (Kd.R_drew HO749.out)
 replace HO752 := AM (Kd.N_drew HO752.out)
 replace BK753 := AM (blk_drew BK753.out)
 replace HB := AM (below_drew1 HB.out)
 refine start_ (n := 10) (S := fun w' => w'.cell? ⟨gb753, 0, none⟩ = some (.slice Ao7 t747.length co7) ∧ w'.cell? ⟨gb753, 1, none⟩ = some (.slice Ao9 t750.length co9)) (ds := []) #[F,F,F,F,F,F,F,F,F,F] (by kernel_rfl) rfl rfl ⟨ZA BK753 0, ZA BK753 1⟩ (fun hHeld => ?_); refine with_tabW laws_FnTypeSet.tab4 laws_FnTypeSet.bits4 (fun HT_ HW_ => ?_)
 generalize w13.drew = w14 at HO749 HO752 BK753 HB hHeld ⊢
 refine ZTK 0 16 #[T,F,F,F,F,F,F,F,F,F] hHeld ?_
 refine ZTK 2 18 #[T,F,T,F,F,F,F,F,F,F] hHeld ?_
 refine one_ (i := 1) (N := some 17) #[T,T,T,F,F,F,F,F,F,F] rfl rfl (one_of HT_.out (by kernel_rfl)) (by decide) (fun K hK => ?_)
 refine ZGO Try.func15 #[.agg #[.slice Ao7 t747.length co7, .slice Ao9 t750.length co9]] ?_
 with_reducible refine (impl_TypeOk.calls k _ _ t747 _ _ t750 t754 _ ?side1 ?side2 ?side3 ?side4 A10.out).mono ?_
 (case side1 => exact ZQ ((Kd.R_reads' HO749.out).2.2))
 (case side2 => exact (Kd.R_reads' HO749.out).2.1)
 (case side3 => exact ZQ ((Kd.N_reads' HO752.out).2.2))
 (case side4 => exact (Kd.N_reads' HO752.out).2.1)
 rintro e w15 ⟨rfl, hb⟩
 refine ⟨_, rfl, ?_⟩
 replace HO749 := AM (Kd.R_below (ZR HO749.out) hb)
 replace HO752 := AM (Kd.N_below (ZRN HO752.out) hb)
 replace BK753 := ZW BK753 hb
 replace HB := ZT HB hb
 (try clear hb)
 (try clear hb2)
 (try clear hk)
 (try clear hi)
 refine hK.out _ _ ⟨ZA BK753 0, ZA BK753 1⟩ (fun hHeld => ?_)
 clear hK K
 refine ZNO 17 ?_
 refine one_ (i := 3) (N := some 19) #[T,T,T,T,F,F,F,F,F,F] rfl rfl (one_of HT_.out (by kernel_rfl)) (by decide) (fun K hK => ?_)
 refine ZGO Try.func11 #[.agg #[.slice Ao7 t747.length co7, .slice Ao9 t750.length co9]] ?_
 with_reducible refine (spec_TypeOk.calls k _ _ t747 _ _ t750 t755 _ ?side1 ?side2 ?side3 ?side4 A11.out).mono ?_
 (case side1 => exact ZQ ((Kd.R_reads' HO749.out).2.2))
 (case side2 => exact (Kd.R_reads' HO749.out).2.1)
 (case side3 => exact ZQ ((Kd.N_reads' HO752.out).2.2))
 (case side4 => exact (Kd.N_reads' HO752.out).2.1)
 rintro e w16 ⟨rfl, hb⟩
 refine ⟨_, rfl, ?_⟩
 replace HO749 := AM (Kd.R_below (ZR HO749.out) hb)
 replace HO752 := AM (Kd.N_below (ZRN HO752.out) hb)
 replace BK753 := ZW BK753 hb
 replace HB := ZT HB hb
 (try clear hb)
 (try clear hb2)
 (try clear hk)
 (try clear hi)
 refine hK.out _ _ ⟨ZA BK753 0, ZA BK753 1⟩ (fun hHeld => ?_)
 clear hK K
 refine ZNO 19 ?_
 refine ZU 4 20 #[T,T,T,T,T,F,F,F,F,F] ?_
 refine ZU 5 21 #[T,T,T,T,T,T,F,F,F,F] ?_
 refine ZUU 6 22 #[T,T,T,T,T,T,T,F,F,F] ?_
 refine ZUU 7 23 #[T,T,T,T,T,T,T,T,F,F] ?_
 refine ZUU 8 24 #[T,T,T,T,T,T,T,T,T,F] ?_
 refine ZU 9 25 #[T,T,T,T,T,T,T,T,T,T] ?_
 refine done_ (done_of HT_.out (by kernel_rfl)) ?_
 try go_wp2
 go_meet
 case rel => exact ⟨_, (true), (by first | rfl | (simp; done) | (simp [*]; done)), H', ⟨by first | omega | exact Nat.le_refl _⟩, ⟨ZR HO749.out⟩, ⟨ZRN HO752.out⟩, ⟨ZK BK753.out⟩, ⟨ZB⟩⟩)
 ·(
 rw [if_neg c12] at H
 have c12b0 : (t754 != t755) = false := by simpa using c12
 (try (have c12b1 : decide (t754 = t755) = true := by simpa using c12))
 (try (have c12b2 : (t754 == t755) = true := by simpa using c12))
 clear c12
 (first | rw [c12b0] | (simp only [i64_w, i32_w]; rw [c12b0]) | skip)
 obtain ⟨t756, A17, H⟩ := ZOB H; try dsimp only at H
 have H' := AM H
 clear H
 try go_wp2
 have n0_ : Za (Kd.R k35 35 ((w6.setCell ⟨gb753, 0, none⟩ (.slice Ao7 t747.length co7)).setCell ⟨gb753, 1, none⟩ (.slice Ao9 t750.length co9)) w.heap.size (fun _ => True) (.slice Ao7 t747.length co7) t747) := ⟨ZR (Kd.R_mono (Kd.R_far (p := ⟨gb753, 1, none⟩) (Kd.R_far (p := ⟨gb753, 0, none⟩) (Kd.R_types HO749.out BK753.out (by decide)) (fun _ hk => hk.2) (.slice Ao7 t747.length co7)) (fun _ hk => hk.2) (.slice Ao9 t750.length co9)) (fun _ hk => trivial))⟩
 have n1_ : Za (Kd.N k40 40 ((w6.setCell ⟨gb753, 0, none⟩ (.slice Ao7 t747.length co7)).setCell ⟨gb753, 1, none⟩ (.slice Ao9 t750.length co9)) w.heap.size (fun k_ => some k_ ≠ (.slice Ao7 t747.length co7 : Value).ownBlock ∧ k_ ≠ gb753) (.slice Ao9 t750.length co9) t750) := ⟨by (with_reducible repeat (first | apply Kd.N_alloc | apply Kd.N_drewN | apply Kd.N_drew)); exact Kd.N_mono (Kd.N_far (p := ⟨gb753, 1, none⟩) (Kd.N_far (p := ⟨gb753, 0, none⟩) (Kd.N_mono HO752.out (fun k_ hk => (⟨hk, hk.2⟩ : _ ∧ k_ ≠ gb753))) (fun _ hk => hk.2) (.slice Ao7 t747.length co7)) (fun _ hk => hk.2) (.slice Ao9 t750.length co9)) (fun _ hk => ⟨hk.1.1, hk.1.2⟩)⟩
 have n2_ : Za (((w6.setCell ⟨gb753, 0, none⟩ (.slice Ao7 t747.length co7)).setCell ⟨gb753, 1, none⟩ (.slice Ao9 t750.length co9)).heap[gb753]? = some (.cells #[.slice Ao7 t747.length co7, .slice Ao9 t750.length co9] 26 (0, 0))) := ⟨ZZ BK753.out⟩
 have n3_ : Za (Below w.heap.size w ((w6.setCell ⟨gb753, 0, none⟩ (.slice Ao7 t747.length co7)).setCell ⟨gb753, 1, none⟩ (.slice Ao9 t750.length co9))) := ⟨ZB⟩
 (try clear HO749)
 (try clear HO752)
 (try clear BK753)
 (try clear HB)
 generalize ((w6.setCell ⟨gb753, 0, none⟩ (.slice Ao7 t747.length co7)).setCell ⟨gb753, 1, none⟩ (.slice Ao9 t750.length co9)) = w18 at n0_ n1_ n2_ n3_ ⊢
 have HO749 := n0_
 have HO752 := n1_
 have BK753 := n2_
 have HB := n3_
 clear n0_ n1_ n2_ n3_
 replace HO749 := AM (Kd.R_drew HO749.out)
 replace HO752 := AM (Kd.N_drew HO752.out)
 replace BK753 := AM (blk_drew BK753.out)
 replace HB := AM (below_drew1 HB.out)
 refine start_ (n := 10) (S := fun w' => w'.cell? ⟨gb753, 0, none⟩ = some (.slice Ao7 t747.length co7) ∧ w'.cell? ⟨gb753, 1, none⟩ = some (.slice Ao9 t750.length co9)) (ds := []) #[F,F,F,F,F,F,F,F,F,F] (by kernel_rfl) rfl rfl ⟨ZA BK753 0, ZA BK753 1⟩ (fun hHeld => ?_); refine with_tabW laws_FnTypeSet.tab4 laws_FnTypeSet.bits4 (fun HT_ HW_ => ?_)
 generalize w18.drew = w19 at HO749 HO752 BK753 HB hHeld ⊢
 refine ZTK 0 16 #[T,F,F,F,F,F,F,F,F,F] hHeld ?_
 refine ZTK 2 18 #[T,F,T,F,F,F,F,F,F,F] hHeld ?_
 refine one_ (i := 1) (N := some 17) #[T,T,T,F,F,F,F,F,F,F] rfl rfl (one_of HT_.out (by kernel_rfl)) (by decide) (fun K hK => ?_)
 refine ZGO Try.func15 #[.agg #[.slice Ao7 t747.length co7, .slice Ao9 t750.length co9]] ?_
 with_reducible refine (impl_TypeOk.calls k _ _ t747 _ _ t750 t754 _ ?side1 ?side2 ?side3 ?side4 A10.out).mono ?_
 (case side1 => exact ZQ ((Kd.R_reads' HO749.out).2.2))
 (case side2 => exact (Kd.R_reads' HO749.out).2.1)
 (case side3 => exact ZQ ((Kd.N_reads' HO752.out).2.2))
 (case side4 => exact (Kd.N_reads' HO752.out).2.1)
 rintro e w20 ⟨rfl, hb⟩
 refine ⟨_, rfl, ?_⟩
 replace HO749 := AM (Kd.R_below (ZR HO749.out) hb)
 replace HO752 := AM (Kd.N_below (ZRN HO752.out) hb)
 replace BK753 := ZW BK753 hb
 replace HB := ZT HB hb
 (try clear hb)
 (try clear hb2)
 (try clear hk)
 (try clear hi)
 refine hK.out _ _ ⟨ZA BK753 0, ZA BK753 1⟩ (fun hHeld => ?_)
 clear hK K
 refine ZNO 17 ?_
 refine one_ (i := 3) (N := some 19) #[T,T,T,T,F,F,F,F,F,F] rfl rfl (one_of HT_.out (by kernel_rfl)) (by decide) (fun K hK => ?_)
 refine ZGO Try.func11 #[.agg #[.slice Ao7 t747.length co7, .slice Ao9 t750.length co9]] ?_
 with_reducible refine (spec_TypeOk.calls k _ _ t747 _ _ t750 t755 _ ?side1 ?side2 ?side3 ?side4 A11.out).mono ?_
 (case side1 => exact ZQ ((Kd.R_reads' HO749.out).2.2))
 (case side2 => exact (Kd.R_reads' HO749.out).2.1)
 (case side3 => exact ZQ ((Kd.N_reads' HO752.out).2.2))
 (case side4 => exact (Kd.N_reads' HO752.out).2.1)
 rintro e w21 ⟨rfl, hb⟩
 refine ⟨_, rfl, ?_⟩
 replace HO749 := AM (Kd.R_below (ZR HO749.out) hb)
 replace HO752 := AM (Kd.N_below (ZRN HO752.out) hb)
 replace BK753 := ZW BK753 hb
 replace HB := ZT HB hb
 (try clear hb)
 (try clear hb2)
 (try clear hk)
 (try clear hi)
 refine hK.out _ _ ⟨ZA BK753 0, ZA BK753 1⟩ (fun hHeld => ?_)
 clear hK K
 refine ZNO 19 ?_
 refine ZU 4 20 #[T,T,T,T,T,F,F,F,F,F] ?_
 refine ZU 5 21 #[T,T,T,T,T,T,F,F,F,F] ?_
 refine ZTK 6 22 #[T,T,T,T,T,T,T,F,F,F] hHeld ?_
 refine one_ (i := 7) (N := some 23) #[T,T,T,T,T,T,T,T,F,F] rfl rfl (one_of HT_.out (by kernel_rfl)) (by decide) (fun K hK => ?_)
 refine ZGO Try.func16 #[.agg #[.slice Ao7 t747.length co7, .slice Ao9 t750.length co9]] ?_
 with_reducible refine (spec_ProgOk.calls k _ _ t747 _ _ t750 t756 _ ?side1 ?side2 ?side3 ?side4 A17.out).mono ?_
 (case side1 => exact ZQ ((Kd.R_reads' HO749.out).2.2))
 (case side2 => exact (Kd.R_reads' HO749.out).2.1)
 (case side3 => exact ZQ ((Kd.N_reads' HO752.out).2.2))
 (case side4 => exact (Kd.N_reads' HO752.out).2.1)
 rintro e w22 ⟨rfl, hb⟩
 refine ⟨_, rfl, ?_⟩
 replace HO749 := AM (Kd.R_below (ZR HO749.out) hb)
 replace HO752 := AM (Kd.N_below (ZRN HO752.out) hb)
 replace BK753 := ZW BK753 hb
 replace HB := ZT HB hb
 (try clear hb)
 (try clear hb2)
 (try clear hk)
 (try clear hi)
 refine hK.out _ _ ⟨ZA BK753 0, ZA BK753 1⟩ (fun hHeld => ?_)
 clear hK K
 refine ZNO 23 ?_
 refine ZU 8 24 #[T,T,T,T,T,T,T,T,T,F] ?_
 refine ZU 9 25 #[T,T,T,T,T,T,T,T,T,T] ?_
 refine done_ (done_of HT_.out (by kernel_rfl)) ?_
 try go_wp2
 go_meet
 case rel => exact ⟨_, (!t756), (by first | rfl | (simp; done) | (simp [*]; done)), H', ⟨by first | omega | exact Nat.le_refl _⟩, ⟨ZR HO749.out⟩, ⟨ZRN HO752.out⟩, ⟨ZK BK753.out⟩, ⟨ZB⟩⟩))
 case rest => (
 clear HC4
 try clear c1
 try clear c2
 try clear c2b0
 try clear c2b1
 try clear p2
 try clear c4
 try clear c11
 try clear c12
 try clear c12b0
 try clear c12b1
 try clear c12b2
 try clear c14
 try clear c15
 try clear c16
 try clear hcz8
 try clear hfz8
 obtain ⟨kq, x25_3, rfl, HA, HJ3, HO_754000, HO_754001, BK753, HB⟩ := hcut
 cases kq with
 | zero => exact absurd HA.out (by simp [laws_FnTypeSet.j0])
 | succ kj3 =>
  have H := HA.out
  clear HA
  simp only [laws_FnTypeSet.j0] at H
  by_cases c23 : x25_3 = true
  ·(
  subst c23
  have H1 := H; rw [if_pos rfl] at H1
  clear H
  have H := H1
  clear H1
  obtain ⟨t757, A24, H⟩ := ZOB H; try dsimp only at H
  obtain ⟨t758, A25, H⟩ := ZOB H; try dsimp only at H
  obtain rfl := Option.some.inj H
  try go_wp2
  replace HO_754000 := AM (Kd.R_drew HO_754000.out)
  replace HO_754001 := AM (Kd.N_drew HO_754001.out)
  replace BK753 := AM (blk_drew BK753.out)
  replace HB := AM (below_drew1 HB.out)
  refine start_ (n := 6) (S := fun w' => w'.cell? ⟨gb753, 0, none⟩ = some (.slice Ao7 t747.length co7) ∧ w'.cell? ⟨gb753, 1, none⟩ = some (.slice Ao9 t750.length co9)) (ds := []) #[F,F,F,F,F,F] (by kernel_rfl) rfl rfl ⟨ZA BK753 0, ZA BK753 1⟩ (fun hHeld => ?_)
  generalize wc.drew = w26 at HO_754000 HO_754001 BK753 HB hHeld ⊢
  refine take_ (i := 0) (N := some 26) (v := ?_) (a' := ?_) #[T,F,F,F,F,F] rfl rfl (by kernel_rfl) (fun _ _ _ h => h) (Or.inl ⟨by rfl, ?_⟩) hHeld ?_ ?_
  rotate_left
  ·(
  rintro w' ⟨s0, s1⟩
  go_simp
  with_reducible rfl)
  rotate_left
  ·(
  simp only [Act.put, List.setIfInBounds_toArray, List.set_cons_zero, List.set_cons_succ, i64_w, i32_w]
  rfl)
  refine take_ (i := 2) (N := some 28) (v := ?_) (a' := ?_) #[T,F,T,F,F,F] rfl rfl (by kernel_rfl) (fun _ _ _ h => h) (Or.inl ⟨by rfl, ?_⟩) hHeld ?_ ?_
  rotate_left
  ·(
  rintro w' ⟨s0, s1⟩
  go_simp
  with_reducible rfl)
  rotate_left
  ·(
  simp only [Act.put, List.setIfInBounds_toArray, List.set_cons_zero, List.set_cons_succ, i64_w, i32_w]
  rfl)
  refine one_ (i := 1) (N := some 27) #[T,T,T,F,F,F] rfl rfl (by kernel_rfl) (by decide) (fun K hK => ?_)
  refine ZGO Try.func15 #[.agg #[.slice Ao7 t747.length co7, .slice Ao9 t750.length co9]] ?_
  with_reducible refine (impl_TypeOk.calls kj3 _ _ t747 _ _ t750 t757 _ ?side1 ?side2 ?side3 ?side4 A24.out).mono ?_
  (case side1 => exact ZQ ((Kd.R_reads' HO_754000.out).2.2))
  (case side2 => exact (Kd.R_reads' HO_754000.out).2.1)
  (case side3 => exact ZQ ((Kd.N_reads' HO_754001.out).2.2))
  (case side4 => exact (Kd.N_reads' HO_754001.out).2.1)
  rintro e w27 ⟨rfl, hb⟩
  refine ⟨_, rfl, ?_⟩
  replace HO_754000 := AM (Kd.R_below (ZR HO_754000.out) hb)
  replace HO_754001 := AM (Kd.N_below (ZRN HO_754001.out) hb)
  replace BK753 := ZW BK753 hb
  replace HB := ZT HB hb
  (try clear hb)
  (try clear hb2)
  (try clear hk)
  (try clear hi)
  refine hK.out _ _ ⟨ZA BK753 0, ZA BK753 1⟩ (fun hHeld => ?_)
  clear hK K
  refine ZNO 27 ?_
  refine one_ (i := 3) (N := some 29) #[T,T,T,T,F,F] rfl rfl (by kernel_rfl) (by decide) (fun K hK => ?_)
  refine ZGO Try.func11 #[.agg #[.slice Ao7 t747.length co7, .slice Ao9 t750.length co9]] ?_
  with_reducible refine (spec_TypeOk.calls kj3 _ _ t747 _ _ t750 t758 _ ?side1 ?side2 ?side3 ?side4 A25.out).mono ?_
  (case side1 => exact ZQ ((Kd.R_reads' HO_754000.out).2.2))
  (case side2 => exact (Kd.R_reads' HO_754000.out).2.1)
  (case side3 => exact ZQ ((Kd.N_reads' HO_754001.out).2.2))
  (case side4 => exact (Kd.N_reads' HO_754001.out).2.1)
  rintro e w28 ⟨rfl, hb⟩
  refine ⟨_, rfl, ?_⟩
  replace HO_754000 := AM (Kd.R_below (ZR HO_754000.out) hb)
  replace HO_754001 := AM (Kd.N_below (ZRN HO_754001.out) hb)
  replace BK753 := ZW BK753 hb
  replace HB := ZT HB hb
  (try clear hb)
  (try clear hb2)
  (try clear hk)
  (try clear hi)
  refine hK.out _ _ ⟨ZA BK753 0, ZA BK753 1⟩ (fun hHeld => ?_)
  clear hK K
  refine ZNO 29 ?_
  refine pure_ (i := 4) (N := some 30) (v := ?_) (a' := ?_) #[T,T,T,T,T,F] rfl rfl (by kernel_rfl) (fun _ _ _ h => h) (Or.inl ⟨by rfl, ?_⟩) ?_ ?_
  rotate_left
  ·(
  intro w'
  go_simp
  with_reducible rfl)
  rotate_left
  ·(
  simp only [Act.put, List.setIfInBounds_toArray, List.set_cons_zero, List.set_cons_succ, i64_w, i32_w]
  rfl)
  refine pure_ (i := 5) (N := some 2) (v := ?_) (a' := ?_) #[T,T,T,T,T,T] rfl rfl (by kernel_rfl) (fun _ _ _ h => h) (Or.inl ⟨by rfl, ?_⟩) ?_ ?_
  rotate_left
  ·(
  intro w'
  go_simp
  with_reducible rfl)
  rotate_left
  ·(
  simp only [Act.put, List.setIfInBounds_toArray, List.set_cons_zero, List.set_cons_succ, i64_w, i32_w]
  rfl)
  refine done_ (by kernel_rfl) ?_
  try go_wp2
  go_ret
  exact ⟨ZE, ZB⟩)
  ·(
  replace c23 := Bool.eq_false_iff.mpr c23
  subst c23
  have H1 := H; rw [if_neg ZFT] at H1
  clear H
  have H := H1
  clear H1
  have H' := AM H
  clear H
  go_wp2
  go_loopg [4] kj3 (fun kq v4 w' => ∃ (x4_2 : Int), v4 = .int .i64 x4_2 ∧ Za (laws_FnTypeSet.l0 kq x4_2 t747 t750 = some r) ∧ Za (kq ≤ kj3) ∧ Za (Kd.R k35 35 w' w.heap.size (fun _ => True) (.slice Ao7 t747.length co7) t747) ∧ Za (Kd.N k40 40 w' w.heap.size (fun k_ => some k_ ≠ ((.slice Ao7 t747.length co7) : Value).ownBlock ∧ k_ ≠ gb753) (.slice Ao9 t750.length co9) t750) ∧ Za (w'.heap[gb753]? = some (.cells #[(.slice Ao7 t747.length co7), (.slice Ao9 t750.length co9)] 26 (0, 0))) ∧ Za (Below w.heap.size w w'))
  case atStart => exact ⟨(0), (by first | rfl | (simp; done) | (simp [*]; done)), H', ⟨Nat.le_refl _⟩, ⟨ZR HO_754000.out⟩, ⟨ZRN HO_754001.out⟩, ⟨ZK BK753.out⟩, ⟨ZB⟩⟩
  case round => (
  clear H'
  try clear c1
  try clear c2
  try clear c2b0
  try clear c2b1
  try clear p2
  try clear c4
  try clear c11
  try clear c12
  try clear c12b0
  try clear c12b1
  try clear c12b2
  try clear c14
  try clear c15
  try clear c16
  try clear c23
  try clear hcz8
  try clear hfz8
  try clear p2
  obtain ⟨x4_2, rfl, HA, HK2, HO_754000, HO_754001, BK753, HB⟩ := hrel
  cases gk with
  | zero => exact absurd HA.out (by simp [laws_FnTypeSet.l0])
  | succ k2 =>
   have H := HA.out
   clear HA
   simp only [laws_FnTypeSet.l0] at H
   by_cases c29 : x4_2 < (t747.length : Int)
   ·(
   rw [if_pos c29] at H
   have c29b0 := decide_eq_true c29
   clear c29
   have H' := AM H
   clear H
   have hcz30 := ZC2 wr BK753
   have hfz30 := ZF2 BK753
   go_wp2
   go_loopg [5] k2 (fun kq v5 w' => ∃ (x5_3 : Int), v5 = .int .i64 x5_3 ∧ Za (laws_FnTypeSet.l1 kq x4_2 x5_3 t747 t750 = some r) ∧ Za (kq ≤ k2) ∧ Za (Kd.R k35 35 w' w.heap.size (fun _ => True) (.slice Ao7 t747.length co7) t747) ∧ Za (Kd.N k40 40 w' w.heap.size (fun k_ => some k_ ≠ ((.slice Ao7 t747.length co7) : Value).ownBlock ∧ k_ ≠ gb753) (.slice Ao9 t750.length co9) t750) ∧ Za (w'.heap[gb753]? = some (.cells #[(.slice Ao7 t747.length co7), (.slice Ao9 t750.length co9)] 26 (0, 0))) ∧ Za (Below w.heap.size w w'))
   case atStart => exact ⟨(0), (by first | rfl | (simp; done) | (simp [*]; done)), H', ⟨Nat.le_refl _⟩, ⟨ZR HO_754000.out⟩, ⟨ZRN HO_754001.out⟩, ⟨ZK BK753.out⟩, ⟨ZB⟩⟩
   case round => (
   clear H'
   try clear c1
   try clear c2
   try clear c2b0
   try clear c2b1
   try clear p2
   try clear c4
   try clear c11
   try clear c12
   try clear c12b0
   try clear c12b1
   try clear c12b2
   try clear c14
   try clear c15
   try clear c16
   try clear c23
   try clear c29
   try clear c29b0
   try clear hcz30
   try clear hcz8
   try clear hfz30
   try clear hfz8
   try clear p2
   obtain ⟨x5_3, rfl, HA, HK3, HO_754000, HO_754001, BK753, HB⟩ := hrel
   cases gk with
   | zero => exact absurd HA.out (by simp [laws_FnTypeSet.l1])
   | succ k3 =>
    have H := HA.out
    clear HA
    simp only [laws_FnTypeSet.l1] at H
    by_cases c31 : x5_3 < (t747.length : Int)
    ·(
    rw [if_pos c31] at H
    have c31b0 := decide_eq_true c31
    clear c31
    obtain ⟨y761, hy761⟩ : ∃ y_ : List (S40), y_ = (([(⟨1, x4_2, (⟨2, x5_3, 0⟩ : S38), 0, ([] : List (S40)), ([] : List (S40))⟩ : S40)] : List (S40))) := ⟨_, rfl⟩
    replace H : (if 0 ≤ x5_3 then (if 0 ≤ x4_2 then (if x4_2 < (t747.length : Int) then ((impl_LabelFlows.f ((D35 t747 x5_3).f0) ((D35 t747 x5_3).f1) ((D35 t747 x4_2).f0) ((D35 t747 x4_2).f1)).bind fun t774 => ((impl_TypeOk.f k3 t747 y761).bind fun t775 => (if (t775 != t774) = true then (none) else ((impl_TypeOk.f k3 t747 (([(⟨2, x5_3, (⟨0, 0, 0⟩ : S38), 0, ([] : List (S40)), (([(⟨1, x4_2, (⟨1, 0, 0⟩ : S38), 0, ([] : List (S40)), ([] : List (S40))⟩ : S40)] : List (S40)))⟩ : S40)] : List (S40)))).bind fun t776 => (if (t776 != t774) = true then (none) else (laws_FnTypeSet.l1 k3 x4_2 (wrap64 (x5_3 + 1)) t747 t750)))))) else (none)) else (none)) else (none)) = some r := by first | (rw [hy761]; with_reducible exact H) | (have H2_ := (Option.bind_some _ _).symm.trans H; rw [hy761]; with_reducible exact H2_) | (have H2_ := (Option.bind_some _ _).symm.trans H; with_reducible exact H2_) | with_reducible exact H | (rw [hy761]; exact H) | exact H
    have Ny761 := AM hy761
    clear hy761
    obtain ⟨y765, hy765⟩ : ∃ y_ : List (S40), y_ = (([(⟨1, x4_2, (⟨1, 0, 0⟩ : S38), 0, ([] : List (S40)), ([] : List (S40))⟩ : S40)] : List (S40))) := ⟨_, rfl⟩
    replace H : (if 0 ≤ x5_3 then (if 0 ≤ x4_2 then (if x4_2 < (t747.length : Int) then ((impl_LabelFlows.f ((D35 t747 x5_3).f0) ((D35 t747 x5_3).f1) ((D35 t747 x4_2).f0) ((D35 t747 x4_2).f1)).bind fun t774 => ((impl_TypeOk.f k3 t747 y761).bind fun t775 => (if (t775 != t774) = true then (none) else ((impl_TypeOk.f k3 t747 (([(⟨2, x5_3, (⟨0, 0, 0⟩ : S38), 0, ([] : List (S40)), y765⟩ : S40)] : List (S40)))).bind fun t776 => (if (t776 != t774) = true then (none) else (laws_FnTypeSet.l1 k3 x4_2 (wrap64 (x5_3 + 1)) t747 t750)))))) else (none)) else (none)) else (none)) = some r := by first | (rw [hy765]; with_reducible exact H) | (have H2_ := (Option.bind_some _ _).symm.trans H; rw [hy765]; with_reducible exact H2_) | (have H2_ := (Option.bind_some _ _).symm.trans H; with_reducible exact H2_) | with_reducible exact H | (rw [hy765]; exact H) | exact H
    have Ny765 := AM hy765
    clear hy765
    obtain ⟨y768, hy768⟩ : ∃ y_ : List (S40), y_ = (([(⟨2, x5_3, (⟨0, 0, 0⟩ : S38), 0, ([] : List (S40)), y765⟩ : S40)] : List (S40))) := ⟨_, rfl⟩
    replace H : (if 0 ≤ x5_3 then (if 0 ≤ x4_2 then (if x4_2 < (t747.length : Int) then ((impl_LabelFlows.f ((D35 t747 x5_3).f0) ((D35 t747 x5_3).f1) ((D35 t747 x4_2).f0) ((D35 t747 x4_2).f1)).bind fun t774 => ((impl_TypeOk.f k3 t747 y761).bind fun t775 => (if (t775 != t774) = true then (none) else ((impl_TypeOk.f k3 t747 y768).bind fun t776 => (if (t776 != t774) = true then (none) else (laws_FnTypeSet.l1 k3 x4_2 (wrap64 (x5_3 + 1)) t747 t750)))))) else (none)) else (none)) else (none)) = some r := by first | (rw [hy768]; with_reducible exact H) | (have H2_ := (Option.bind_some _ _).symm.trans H; rw [hy768]; with_reducible exact H2_) | (have H2_ := (Option.bind_some _ _).symm.trans H; with_reducible exact H2_) | with_reducible exact H | (rw [hy768]; exact H) | exact H
    have Ny768 := AM hy768
    clear hy768
    by_cases c32 : 0 ≤ x5_3
    ·(
    rw [if_pos c32] at H
    have c32b0 := decide_eq_true c32
    clear c32
    by_cases c33 : 0 ≤ x4_2
    ·(
    rw [if_pos c33] at H
    have c33b0 := decide_eq_true c33
    clear c33
    by_cases c34 : x4_2 < (t747.length : Int)
    ·(
    rw [if_pos c34] at H
    have c34b0 := decide_eq_true c34
    clear c34
    obtain ⟨t774, A35, H⟩ := ZOB H; try dsimp only at H
    obtain ⟨t775, A36, H⟩ := ZOB H; try dsimp only at H
    by_cases c37 : (t775 != t774) = true
    ·(
    rw [if_pos c37] at H
    exact absurd H (by simp))
    ·(
    rw [if_neg c37] at H
    have c37b0 : (t775 != t774) = false := by simpa using c37
    (try (have c37b1 : decide (t775 = t774) = true := by simpa using c37))
    (try (have c37b2 : (t775 == t774) = true := by simpa using c37))
    clear c37
    obtain ⟨t776, A38, H⟩ := ZOB H; try dsimp only at H
    by_cases c39 : (t776 != t774) = true
    ·(
    rw [if_pos c39] at H
    exact absurd H (by simp))
    ·(
    rw [if_neg c39] at H
    have c39b0 : (t776 != t774) = false := by simpa using c39
    (try (have c39b1 : decide (t776 = t774) = true := by simpa using c39))
    (try (have c39b2 : (t776 == t774) = true := by simpa using c39))
    clear c39
    have H' := AM H
    clear H
    have hcz40 := ZC2 wr BK753
    have hfz40 := ZF2 BK753
    try go_wp2_with (first | ((with_reducible refine gate_dst (N := 6) rfl ?_); refine ZX (N := 6) (cs := #[.int .i64 0, .int .i64 0, .int .i64 0, .int .i64 0, .int .i64 0, .int .i64 0, .slice none 0 0, .slice none 0 0]) (t := 40) ?_; intro gb759 hg w41 hbox hb; have BK759 := AM (hbox); have GW759 : Za (w.heap.size ≤ gb759) := ZS hg; have GE759 : Za (w.heap.size ≤ gb759) := ZS hg; have NB753_759 : Za (gb753 ≠ gb759) := ZN hg BK753; have NB759_753 : Za (gb759 ≠ gb753) := ZM hg BK753; replace HO_754000 := AM (Kd.R_below (ZR HO_754000.out) hb); replace HO_754001 := AM (Kd.N_below (Kd.N_elderB (ZRN HO_754001.out) gb759 (Nat.le_of_eq hg.symm)) hb); replace BK753 := ZW BK753 hb; replace HB := ZT HB hb; clear hb hbox hg; have hnb42 := NB759_753.out; have hnc42 := NB753_759.out; have hcz43 := ZC8 w41 BK759; have hfz43 := ZF8 BK759) | ((with_reducible refine gate_dst (N := 7) rfl ?_); refine ZX (N := 7) (cs := #[.int .i64 0, .int .i64 0, .int .i64 0, .int .i64 0, .int .i64 0, .int .i64 0, .slice none 0 0, .slice none 0 0]) (t := 40) ?_; intro gb760 hg w44 hbox hb; have BK760 := AM (hbox); have GW760 : Za (w.heap.size ≤ gb760) := ZS hg; have GE760 : Za (w.heap.size ≤ gb760) := ZS hg; have NB753_760 := AM ((by rw [hg]; exact Nat.ne_of_lt (blk_lt (g := gb753) (o := .cells #[.slice Ao7 t747.length co7, .slice Ao9 t750.length co9] 26 (0, 0)) (ZZ BK753.out)) : gb753 ≠ gb760)); have NB760_753 := AM ((by rw [hg]; exact Nat.ne_of_gt (blk_lt (g := gb753) (o := .cells #[.slice Ao7 t747.length co7, .slice Ao9 t750.length co9] 26 (0, 0)) (ZZ BK753.out)) : gb760 ≠ gb753)); have NB759_760 := AM ((by rw [hg]; exact Nat.ne_of_lt (blk_lt (g := gb759) (o := .cells #[.int .i64 1, .int .i64 x4_2, .int .i64 2, .int .i64 x5_3, .int .i64 0, .int .i64 0, .slice none 0 0, .slice none 0 0] 40 (0, 0)) (ZZ BK759.out)) : gb759 ≠ gb760)); have NB760_759 := AM ((by rw [hg]; exact Nat.ne_of_gt (blk_lt (g := gb759) (o := .cells #[.int .i64 1, .int .i64 x4_2, .int .i64 2, .int .i64 x5_3, .int .i64 0, .int .i64 0, .slice none 0 0, .slice none 0 0] 40 (0, 0)) (ZZ BK759.out)) : gb760 ≠ gb759)); replace HO_754000 := AM (Kd.R_below (ZR ((Kd.R_mono (Kd.R_far (p := ⟨gb759, 7, none⟩) (Kd.R_far (p := ⟨gb759, 6, none⟩) (Kd.R_far (p := ⟨gb759, 5, none⟩) (Kd.R_far (p := ⟨gb759, 4, none⟩) (Kd.R_far (p := ⟨gb759, 3, none⟩) (Kd.R_far (p := ⟨gb759, 2, none⟩) (Kd.R_far (p := ⟨gb759, 1, none⟩) (Kd.R_far (p := ⟨gb759, 0, none⟩) (Kd.R_types HO_754000.out BK759.out (by decide)) (fun _ hk => hk.2) (.int .i64 1)) (fun _ hk => hk.2) (.int .i64 x4_2)) (fun _ hk => hk.2) (.int .i64 2)) (fun _ hk => hk.2) (.int .i64 x5_3)) (fun _ hk => hk.2) (.int .i64 0)) (fun _ hk => hk.2) (.int .i64 0)) (fun _ hk => hk.2) (.slice none 0 0)) (fun _ hk => hk.2) (.slice none 0 0)) (fun _ h_ => h_.1)))) hb); replace HO_754001 := AM (Kd.N_below (Kd.N_elderB (by (with_reducible repeat (first | apply Kd.N_alloc | apply Kd.N_drewN | apply Kd.N_drew)); exact (Kd.N_mono (Kd.N_far (p := ⟨gb759, 7, none⟩) (Kd.N_far (p := ⟨gb759, 6, none⟩) (Kd.N_far (p := ⟨gb759, 5, none⟩) (Kd.N_far (p := ⟨gb759, 4, none⟩) (Kd.N_far (p := ⟨gb759, 3, none⟩) (Kd.N_far (p := ⟨gb759, 2, none⟩) (Kd.N_far (p := ⟨gb759, 1, none⟩) (Kd.N_far (p := ⟨gb759, 0, none⟩) (Kd.N_mono HO_754001.out (fun k_ hk => (⟨hk, hk.2⟩ : _ ∧ k_ ≠ gb759))) (fun _ hk => hk.2) (.int .i64 1)) (fun _ hk => hk.2) (.int .i64 x4_2)) (fun _ hk => hk.2) (.int .i64 2)) (fun _ hk => hk.2) (.int .i64 x5_3)) (fun _ hk => hk.2) (.int .i64 0)) (fun _ hk => hk.2) (.int .i64 0)) (fun _ hk => hk.2) (.slice none 0 0)) (fun _ hk => hk.2) (.slice none 0 0)) (fun _ h_ => h_.1))) gb760 (Nat.le_of_eq hg.symm)) hb); replace BK753 := ZV #[.slice Ao7 t747.length co7, .slice Ao9 t750.length co9] BK753 hb; replace BK759 := ZV #[.int .i64 1, .int .i64 x4_2, .int .i64 2, .int .i64 x5_3, .int .i64 0, .int .i64 0, .slice none 0 0, .slice none 0 0] BK759 hb; replace HB := ZT HB hb; clear hb hbox hg; have hnb45 := NB760_753.out; have hnc45 := NB753_760.out; have hnb46 := NB760_759.out; have hnc46 := NB759_760.out; have hcz47 := ZC8 w44 BK760; have hfz47 := ZF8 BK760) | ((with_reducible refine gate_store (t := 40) (p := 7) rfl ?_); refine store_event (t := 40) (p := 7) (v := ?vo_w48) (w1 := ((((((((w44.setCell ⟨gb760, 0, none⟩ (.int .i64 1)).setCell ⟨gb760, 1, none⟩ (.int .i64 x4_2)).setCell ⟨gb760, 2, none⟩ (.int .i64 1)).setCell ⟨gb760, 3, none⟩ (.int .i64 0)).setCell ⟨gb760, 4, none⟩ (.int .i64 0)).setCell ⟨gb760, 5, none⟩ (.int .i64 0)).setCell ⟨gb760, 6, none⟩ (.slice none 0 0)).setCell ⟨gb760, 7, none⟩ (.slice none 0 0))) ?hg ?ho ?hn ?hr ?_; (case ho => rfl); (case hg => rfl); (case hn => rfl); (case hr => first | (go_simp; done) | (go_simp; rfl)); intro w48 hw; have n0_ : Za (Kd.R k35 35 w48 w.heap.size (fun _ => True) (.slice Ao7 t747.length co7) t747) := ⟨(by rw [hw]; exact (ZR (Kd.R_mono (Kd.R_far (p := ⟨gb760, 7, none⟩) (Kd.R_far (p := ⟨gb760, 6, none⟩) (Kd.R_far (p := ⟨gb760, 5, none⟩) (Kd.R_far (p := ⟨gb760, 4, none⟩) (Kd.R_far (p := ⟨gb760, 3, none⟩) (Kd.R_far (p := ⟨gb760, 2, none⟩) (Kd.R_far (p := ⟨gb760, 1, none⟩) (Kd.R_far (p := ⟨gb760, 0, none⟩) (Kd.R_types HO_754000.out BK760.out (by decide)) (fun _ hk => hk.2) (.int .i64 1)) (fun _ hk => hk.2) (.int .i64 x4_2)) (fun _ hk => hk.2) (.int .i64 1)) (fun _ hk => hk.2) (.int .i64 0)) (fun _ hk => hk.2) (.int .i64 0)) (fun _ hk => hk.2) (.int .i64 0)) (fun _ hk => hk.2) (.slice none 0 0)) (fun _ hk => hk.2) (.slice none 0 0)) (fun _ hk => trivial))))⟩; have n1_ : Za (Kd.N k40 40 w48 w.heap.size (fun k_ => some k_ ≠ (.slice Ao7 t747.length co7 : Value).ownBlock ∧ k_ ≠ gb753 ∧ k_ ≠ gb759 ∧ k_ ≠ gb760) (.slice Ao9 t750.length co9) t750) := ⟨(by rw [hw]; exact (by (with_reducible repeat (first | apply Kd.N_alloc | apply Kd.N_drewN | apply Kd.N_drew)); exact Kd.N_mono (Kd.N_far (p := ⟨gb760, 7, none⟩) (Kd.N_far (p := ⟨gb760, 6, none⟩) (Kd.N_far (p := ⟨gb760, 5, none⟩) (Kd.N_far (p := ⟨gb760, 4, none⟩) (Kd.N_far (p := ⟨gb760, 3, none⟩) (Kd.N_far (p := ⟨gb760, 2, none⟩) (Kd.N_far (p := ⟨gb760, 1, none⟩) (Kd.N_far (p := ⟨gb760, 0, none⟩) (Kd.N_mono HO_754001.out (fun k_ hk => (⟨hk, hk.2⟩ : _ ∧ k_ ≠ gb760))) (fun _ hk => hk.2) (.int .i64 1)) (fun _ hk => hk.2) (.int .i64 x4_2)) (fun _ hk => hk.2) (.int .i64 1)) (fun _ hk => hk.2) (.int .i64 0)) (fun _ hk => hk.2) (.int .i64 0)) (fun _ hk => hk.2) (.int .i64 0)) (fun _ hk => hk.2) (.slice none 0 0)) (fun _ hk => hk.2) (.slice none 0 0)) (fun _ hk => ⟨hk.1.1.1.1, ⟨hk.1.1.1.2, ⟨hk.1.1.2, hk.1.2⟩⟩⟩)))⟩; have n2_ : Za (w48.heap[gb753]? = some (.cells #[.slice Ao7 t747.length co7, .slice Ao9 t750.length co9] 26 (0, 0))) := ⟨(by rw [hw]; exact (ZZ BK753.out))⟩; have n3_ : Za (w48.heap[gb759]? = some (.cells #[.int .i64 1, .int .i64 x4_2, .int .i64 2, .int .i64 x5_3, .int .i64 0, .int .i64 0, .slice none 0 0, .slice none 0 0] 40 (0, 0))) := ⟨(by rw [hw]; exact (ZZ BK759.out))⟩; have n4_ : Za (w48.heap[gb760]? = some (.cells #[.int .i64 1, .int .i64 x4_2, .int .i64 1, .int .i64 0, .int .i64 0, .int .i64 0, .slice none 0 0, .slice none 0 0] 40 (0, 0))) := ⟨(by rw [hw]; exact (ZZ BK760.out))⟩; have n5_ : Za (Below w.heap.size w w48) := ⟨(by rw [hw]; exact (ZB))⟩; clear hw HO_754000 HO_754001 BK753 BK759 BK760 HB; have HO_754000 := n0_; have HO_754001 := n1_; have BK753 := n2_; have BK759 := n3_; have BK760 := n4_; have HB := n5_; clear n0_ n1_ n2_ n3_ n4_ n5_; have hcz49 := ZC2 w48 BK753; have hfz49 := ZF2 BK753; have hcz50 := ZC8 w48 BK759; have hfz50 := ZF8 BK759) | ((with_reducible refine gate_dst (N := 55) rfl ?_); refine Kd.N_lit k40 _ 40 ?hg (N' := 55) ?hd (xs := ([(⟨1, x4_2, (⟨2, x5_3, 0⟩ : S38), 0, ([] : List (S40)), ([] : List (S40))⟩ : S40)] : List (S40))) (inner := [.int .i64 1, .int .i64 x4_2, .int .i64 2, .int .i64 x5_3, .int .i64 0, .int .i64 0, .slice none 0 0, .slice none 0 0]) (ok := (fun k_ => some k_ ≠ (.slice Ao7 t747.length co7 : Value).ownBlock ∧ some k_ ≠ (.slice Ao9 t750.length co9 : Value).ownBlock ∧ k_ ≠ gb753 ∧ k_ ≠ gb759 ∧ k_ ≠ gb760)) (okp := (fun k_ => some k_ ≠ (.slice Ao7 t747.length co7 : Value).ownBlock ∧ some k_ ≠ (.slice Ao9 t750.length co9 : Value).ownBlock ∧ k_ ≠ gb753 ∧ k_ ≠ gb759 ∧ k_ ≠ gb760)) ?hr ?hp (fun _ hk => hk) ((show ∀ k_, w48.heap.size ≤ k_ → (fun k_ => some k_ ≠ (.slice Ao7 t747.length co7 : Value).ownBlock ∧ some k_ ≠ (.slice Ao9 t750.length co9 : Value).ownBlock ∧ k_ ≠ gb753 ∧ k_ ≠ gb759 ∧ k_ ≠ gb760) k_ from fun k_ hk => ⟨Kd.fresh' (Kd.R_lt (ZR HO_754000.out)) k_ hk, Kd.fresh' (Kd.N_lt (ZRN HO_754001.out)) k_ hk, Kd.freshB (g := gb753) (o := .cells #[.slice Ao7 t747.length co7, .slice Ao9 t750.length co9] 26 (0, 0)) (ZK BK753.out) k_ hk, Kd.freshB (g := gb759) (o := .cells #[.int .i64 1, .int .i64 x4_2, .int .i64 2, .int .i64 x5_3, .int .i64 0, .int .i64 0, .slice none 0 0, .slice none 0 0] 40 (0, 0)) (ZK BK759.out) k_ hk, Kd.freshB (g := gb760) (o := .cells #[.int .i64 1, .int .i64 x4_2, .int .i64 1, .int .i64 0, .int .i64 0, .int .i64 0, .slice none 0 0, .slice none 0 0] 40 (0, 0)) (ZK BK760.out) k_ hk⟩) _ (Nat.le_refl _)) (Below.refl _ _) (Nat.le_refl _) (by simp) ?_; (case hd => rfl); (case hg => rfl); (case hr => first | (go_simp; done) | (go_simp; rfl)); (case hp => exact (Reps.c8 (show Kd.FK k40 _ _ (⟨1, x4_2, (⟨2, x5_3, 0⟩ : S38), 0, ([] : List (S40)), ([] : List (S40))⟩ : S40) [.int .i64 1, .int .i64 x4_2, .int .i64 2, .int .i64 x5_3, .int .i64 0, .int .i64 0, .slice none 0 0, .slice none 0 0] from (k40_mkF _ _ (⟨1, x4_2, (⟨2, x5_3, 0⟩ : S38), 0, ([] : List (S40)), ([] : List (S40))⟩ : S40) (Nat.le_refl _) (Kd.F_nil _ _ _) (Nat.le_refl _) (Kd.F_nil _ _ _))) (Reps.none _ _))); intro v762 w51 ho52 hb hg_ hnew_; clear hg_ hnew_; (first | rw [← Ny761.out] at ho52 | (simp only [Int.reduceToNat] at ho52; rw [← Ny761.out] at ho52)); have HO763 := AM (Kd.N_lower ho52 (below_size (ZB))); replace HO_754000 := AM (Kd.R_below (ZR HO_754000.out) hb); replace HO_754001 := AM (Kd.N_elder' (ZRN HO_754001.out) (Kd.N_base ho52) hb); replace BK753 := ZW BK753 hb; replace BK759 := ZW BK759 hb; replace BK760 := ZW BK760 hb; replace HB := ZT HB hb; clear hb ho52; obtain ⟨Ao53, co53, eo53⟩ := Kd.N_slice HO763.out; subst eo53) | ((with_reducible refine gate_dst (N := 8) rfl ?_); refine ZX (N := 8) (cs := #[.slice none 0 0, .slice none 0 0]) (t := 26) ?_; intro gb764 hg w54 hbox hb; have BK764 := AM (hbox); have GW764 : Za (w.heap.size ≤ gb764) := ZS hg; have GE764 : Za (w.heap.size ≤ gb764) := ZS hg; have NB753_764 : Za (gb753 ≠ gb764) := ZN hg BK753; have NB764_753 : Za (gb764 ≠ gb753) := ZM hg BK753; have NB759_764 : Za (gb759 ≠ gb764) := ZN hg BK759; have NB764_759 : Za (gb764 ≠ gb759) := ZM hg BK759; have NB760_764 : Za (gb760 ≠ gb764) := ZN hg BK760; have NB764_760 : Za (gb764 ≠ gb760) := ZM hg BK760; replace HO_754000 := AM (Kd.R_below (ZR HO_754000.out) hb); replace HO_754001 := AM (Kd.N_below (Kd.N_elderB (ZRN HO_754001.out) gb764 (Nat.le_of_eq hg.symm)) hb); replace HO763 := AM (Kd.N_below (Kd.N_elderB (ZRN HO763.out) gb764 (Nat.le_of_eq hg.symm)) hb); replace BK753 := ZW BK753 hb; replace BK759 := ZW BK759 hb; replace BK760 := ZW BK760 hb; replace HB := ZT HB hb; clear hb hbox hg; have hnb55 := NB764_753.out; have hnc55 := NB753_764.out; have hnb56 := NB764_759.out; have hnc56 := NB759_764.out; have hnb57 := NB764_760.out; have hnc57 := NB760_764.out; have hcz58 := ZC2 w54 BK764; have hfz58 := ZF2 BK764) | ((with_reducible refine gate_store (t := 26) (p := 8) rfl ?_); refine store_event (t := 26) (p := 8) (v := ?vo_w59) (w1 := ((w54.setCell ⟨gb764, 0, none⟩ (.slice Ao7 t747.length co7)).setCell ⟨gb764, 1, none⟩ (.slice Ao53 y761.length co53))) ?hg ?ho ?hn ?hr ?_; (case ho => rfl); (case hg => rfl); (case hn => rfl); (case hr => first | (go_simp; done) | (go_simp; rfl)); intro w59 hw; have n0_ : Za (Kd.R k35 35 w59 w.heap.size (fun _ => True) (.slice Ao7 t747.length co7) t747) := ⟨(by rw [hw]; exact (ZR (Kd.R_mono (Kd.R_far (p := ⟨gb764, 1, none⟩) (Kd.R_far (p := ⟨gb764, 0, none⟩) (Kd.R_types HO_754000.out BK764.out (by decide)) (fun _ hk => hk.2) (.slice Ao7 t747.length co7)) (fun _ hk => hk.2) (.slice Ao53 y761.length co53)) (fun _ hk => trivial))))⟩; have n1_ : Za (Kd.N k40 40 w59 w.heap.size (fun k_ => some k_ ≠ (.slice Ao7 t747.length co7 : Value).ownBlock ∧ some k_ ≠ (.slice Ao53 y761.length co53 : Value).ownBlock ∧ k_ ≠ gb753 ∧ k_ ≠ gb759 ∧ k_ ≠ gb760 ∧ k_ ≠ gb764) (.slice Ao9 t750.length co9) t750) := ⟨(by rw [hw]; exact (by (with_reducible repeat (first | apply Kd.N_alloc | apply Kd.N_drewN | apply Kd.N_drew)); exact Kd.N_mono (Kd.N_far (p := ⟨gb764, 1, none⟩) (Kd.N_far (p := ⟨gb764, 0, none⟩) (Kd.N_mono HO_754001.out (fun k_ hk => (⟨hk, hk.2⟩ : _ ∧ k_ ≠ gb764))) (fun _ hk => hk.2) (.slice Ao7 t747.length co7)) (fun _ hk => hk.2) (.slice Ao53 y761.length co53)) (fun _ hk => ⟨hk.1.1.1.1, ⟨hk.1.1.2, ⟨hk.1.1.1.2.1, ⟨hk.1.1.1.2.2.1, ⟨hk.1.1.1.2.2.2, hk.1.2⟩⟩⟩⟩⟩)))⟩; have n2_ : Za (Kd.N k40 40 w59 w.heap.size (fun k_ => some k_ ≠ (.slice Ao7 t747.length co7 : Value).ownBlock ∧ some k_ ≠ (.slice Ao9 t750.length co9 : Value).ownBlock ∧ k_ ≠ gb753 ∧ k_ ≠ gb759 ∧ k_ ≠ gb760 ∧ k_ ≠ gb764) (.slice Ao53 y761.length co53) y761) := ⟨(by rw [hw]; exact (by (with_reducible repeat (first | apply Kd.N_alloc | apply Kd.N_drewN | apply Kd.N_drew)); exact Kd.N_mono (Kd.N_far (p := ⟨gb764, 1, none⟩) (Kd.N_far (p := ⟨gb764, 0, none⟩) (Kd.N_mono HO763.out (fun k_ hk => (⟨hk, hk.2⟩ : _ ∧ k_ ≠ gb764))) (fun _ hk => hk.2) (.slice Ao7 t747.length co7)) (fun _ hk => hk.2) (.slice Ao53 y761.length co53)) (fun _ hk => ⟨hk.1.1.1, ⟨hk.1.1.2.1, ⟨hk.1.1.2.2.1, ⟨hk.1.1.2.2.2.1, ⟨hk.1.1.2.2.2.2, hk.1.2⟩⟩⟩⟩⟩)))⟩; have n3_ : Za (w59.heap[gb753]? = some (.cells #[.slice Ao7 t747.length co7, .slice Ao9 t750.length co9] 26 (0, 0))) := ⟨(by rw [hw]; exact (ZZ BK753.out))⟩; have n4_ : Za (w59.heap[gb759]? = some (.cells #[.int .i64 1, .int .i64 x4_2, .int .i64 2, .int .i64 x5_3, .int .i64 0, .int .i64 0, .slice none 0 0, .slice none 0 0] 40 (0, 0))) := ⟨(by rw [hw]; exact (ZZ BK759.out))⟩; have n5_ : Za (w59.heap[gb760]? = some (.cells #[.int .i64 1, .int .i64 x4_2, .int .i64 1, .int .i64 0, .int .i64 0, .int .i64 0, .slice none 0 0, .slice none 0 0] 40 (0, 0))) := ⟨(by rw [hw]; exact (ZZ BK760.out))⟩; have n6_ : Za (w59.heap[gb764]? = some (.cells #[.slice Ao7 t747.length co7, .slice Ao53 y761.length co53] 26 (0, 0))) := ⟨(by rw [hw]; exact (ZZ BK764.out))⟩; have n7_ : Za (Below w.heap.size w w59) := ⟨(by rw [hw]; exact (ZB))⟩; clear hw HO_754000 HO_754001 HO763 BK753 BK759 BK760 BK764 HB; have HO_754000 := n0_; have HO_754001 := n1_; have HO763 := n2_; have BK753 := n3_; have BK759 := n4_; have BK760 := n5_; have BK764 := n6_; have HB := n7_; clear n0_ n1_ n2_ n3_ n4_ n5_ n6_ n7_; have hcz60 := ZC2 w59 BK753; have hfz60 := ZF2 BK753; have hcz61 := ZC8 w59 BK760; have hfz61 := ZF8 BK760) | ((with_reducible refine gate_dst (N := 61) rfl ?_); refine Kd.N_lit k40 _ 40 ?hg (N' := 61) ?hd (xs := ([(⟨1, x4_2, (⟨1, 0, 0⟩ : S38), 0, ([] : List (S40)), ([] : List (S40))⟩ : S40)] : List (S40))) (inner := [.int .i64 1, .int .i64 x4_2, .int .i64 1, .int .i64 0, .int .i64 0, .int .i64 0, .slice none 0 0, .slice none 0 0]) (ok := (fun k_ => some k_ ≠ (.slice Ao7 t747.length co7 : Value).ownBlock ∧ some k_ ≠ (.slice Ao9 t750.length co9 : Value).ownBlock ∧ some k_ ≠ (.slice Ao53 y761.length co53 : Value).ownBlock ∧ k_ ≠ gb753 ∧ k_ ≠ gb759 ∧ k_ ≠ gb760 ∧ k_ ≠ gb764)) (okp := (fun k_ => some k_ ≠ (.slice Ao7 t747.length co7 : Value).ownBlock ∧ some k_ ≠ (.slice Ao9 t750.length co9 : Value).ownBlock ∧ some k_ ≠ (.slice Ao53 y761.length co53 : Value).ownBlock ∧ k_ ≠ gb753 ∧ k_ ≠ gb759 ∧ k_ ≠ gb760 ∧ k_ ≠ gb764)) ?hr ?hp (fun _ hk => hk) ((show ∀ k_, w59.heap.size ≤ k_ → (fun k_ => some k_ ≠ (.slice Ao7 t747.length co7 : Value).ownBlock ∧ some k_ ≠ (.slice Ao9 t750.length co9 : Value).ownBlock ∧ some k_ ≠ (.slice Ao53 y761.length co53 : Value).ownBlock ∧ k_ ≠ gb753 ∧ k_ ≠ gb759 ∧ k_ ≠ gb760 ∧ k_ ≠ gb764) k_ from fun k_ hk => ⟨Kd.fresh' (Kd.R_lt (ZR HO_754000.out)) k_ hk, Kd.fresh' (Kd.N_lt (ZRN HO_754001.out)) k_ hk, Kd.fresh' (Kd.N_lt (ZRN HO763.out)) k_ hk, Kd.freshB (g := gb753) (o := .cells #[.slice Ao7 t747.length co7, .slice Ao9 t750.length co9] 26 (0, 0)) (ZK BK753.out) k_ hk, Kd.freshB (g := gb759) (o := .cells #[.int .i64 1, .int .i64 x4_2, .int .i64 2, .int .i64 x5_3, .int .i64 0, .int .i64 0, .slice none 0 0, .slice none 0 0] 40 (0, 0)) (ZK BK759.out) k_ hk, Kd.freshB (g := gb760) (o := .cells #[.int .i64 1, .int .i64 x4_2, .int .i64 1, .int .i64 0, .int .i64 0, .int .i64 0, .slice none 0 0, .slice none 0 0] 40 (0, 0)) (ZK BK760.out) k_ hk, Kd.freshB (g := gb764) (o := .cells #[.slice Ao7 t747.length co7, .slice Ao53 y761.length co53] 26 (0, 0)) (ZK BK764.out) k_ hk⟩) _ (Nat.le_refl _)) (Below.refl _ _) (Nat.le_refl _) (by simp) ?_; (case hd => rfl); (case hg => rfl); (case hr => first | (go_simp; done) | (go_simp; rfl)); (case hp => exact (Reps.c8 (show Kd.FK k40 _ _ (⟨1, x4_2, (⟨1, 0, 0⟩ : S38), 0, ([] : List (S40)), ([] : List (S40))⟩ : S40) [.int .i64 1, .int .i64 x4_2, .int .i64 1, .int .i64 0, .int .i64 0, .int .i64 0, .slice none 0 0, .slice none 0 0] from (k40_mkF _ _ (⟨1, x4_2, (⟨1, 0, 0⟩ : S38), 0, ([] : List (S40)), ([] : List (S40))⟩ : S40) (Nat.le_refl _) (Kd.F_nil _ _ _) (Nat.le_refl _) (Kd.F_nil _ _ _))) (Reps.none _ _))); intro v766 w62 ho63 hb hg_ hnew_; clear hg_ hnew_; (first | rw [← Ny765.out] at ho63 | (simp only [Int.reduceToNat] at ho63; rw [← Ny765.out] at ho63)); have HO767 := AM (Kd.N_lower ho63 (below_size (ZB))); replace HO_754000 := AM (Kd.R_below (ZR HO_754000.out) hb); replace HO_754001 := AM (Kd.N_elder' (ZRN HO_754001.out) (Kd.N_base ho63) hb); replace HO763 := AM (Kd.N_elder' (ZRN HO763.out) (Kd.N_base ho63) hb); replace BK753 := ZW BK753 hb; replace BK759 := ZW BK759 hb; replace BK760 := ZW BK760 hb; replace BK764 := ZW BK764 hb; replace HB := ZT HB hb; clear hb ho63; obtain ⟨Ao64, co64, eo64⟩ := Kd.N_slice HO767.out; subst eo64) | ((with_reducible refine gate_dst (N := 63) rfl ?_); refine Kd.N_lit k40 _ 40 ?hg (N' := 63) ?hd (xs := ([(⟨2, x5_3, (⟨0, 0, 0⟩ : S38), 0, ([] : List (S40)), y765⟩ : S40)] : List (S40))) (inner := [.int .i64 2, .int .i64 x5_3, .int .i64 0, .int .i64 0, .int .i64 0, .int .i64 0, .slice none 0 0, .slice Ao64 y765.length co64]) (ok := (fun k_ => some k_ ≠ (.slice Ao7 t747.length co7 : Value).ownBlock ∧ some k_ ≠ (.slice Ao9 t750.length co9 : Value).ownBlock ∧ some k_ ≠ (.slice Ao53 y761.length co53 : Value).ownBlock ∧ k_ ≠ gb753 ∧ k_ ≠ gb759 ∧ k_ ≠ gb760 ∧ k_ ≠ gb764)) (okp := (fun k_ => some k_ ≠ (.slice Ao7 t747.length co7 : Value).ownBlock ∧ some k_ ≠ (.slice Ao9 t750.length co9 : Value).ownBlock ∧ some k_ ≠ (.slice Ao53 y761.length co53 : Value).ownBlock ∧ k_ ≠ gb753 ∧ k_ ≠ gb759 ∧ k_ ≠ gb760 ∧ k_ ≠ gb764)) ?hr ?hp (fun _ hk => hk) ((show ∀ k_, w62.heap.size ≤ k_ → (fun k_ => some k_ ≠ (.slice Ao7 t747.length co7 : Value).ownBlock ∧ some k_ ≠ (.slice Ao9 t750.length co9 : Value).ownBlock ∧ some k_ ≠ (.slice Ao53 y761.length co53 : Value).ownBlock ∧ k_ ≠ gb753 ∧ k_ ≠ gb759 ∧ k_ ≠ gb760 ∧ k_ ≠ gb764) k_ from fun k_ hk => ⟨Kd.fresh' (Kd.R_lt (ZR HO_754000.out)) k_ hk, Kd.fresh' (Kd.N_lt (ZRN HO_754001.out)) k_ hk, Kd.fresh' (Kd.N_lt (ZRN HO763.out)) k_ hk, Kd.freshB (g := gb753) (o := .cells #[.slice Ao7 t747.length co7, .slice Ao9 t750.length co9] 26 (0, 0)) (ZK BK753.out) k_ hk, Kd.freshB (g := gb759) (o := .cells #[.int .i64 1, .int .i64 x4_2, .int .i64 2, .int .i64 x5_3, .int .i64 0, .int .i64 0, .slice none 0 0, .slice none 0 0] 40 (0, 0)) (ZK BK759.out) k_ hk, Kd.freshB (g := gb760) (o := .cells #[.int .i64 1, .int .i64 x4_2, .int .i64 1, .int .i64 0, .int .i64 0, .int .i64 0, .slice none 0 0, .slice none 0 0] 40 (0, 0)) (ZK BK760.out) k_ hk, Kd.freshB (g := gb764) (o := .cells #[.slice Ao7 t747.length co7, .slice Ao53 y761.length co53] 26 (0, 0)) (ZK BK764.out) k_ hk⟩) _ (Nat.le_refl _)) (Below.refl _ _) (Nat.le_refl _) (by simp) ?_; (case hd => rfl); (case hg => rfl); (case hr => first | (go_simp; done) | (go_simp; rfl)); (case hp => exact (Reps.c8 (show Kd.FK k40 _ _ (⟨2, x5_3, (⟨0, 0, 0⟩ : S38), 0, ([] : List (S40)), y765⟩ : S40) [.int .i64 2, .int .i64 x5_3, .int .i64 0, .int .i64 0, .int .i64 0, .int .i64 0, .slice none 0 0, .slice Ao64 y765.length co64] from (k40_mkF _ _ (⟨2, x5_3, (⟨0, 0, 0⟩ : S38), 0, ([] : List (S40)), y765⟩ : S40) (Nat.le_refl _) (Kd.F_nil _ _ _) (Kd.N_reads' (Kd.N_mono (ok' := (fun k_ => some k_ ≠ (.slice Ao7 t747.length co7 : Value).ownBlock ∧ some k_ ≠ (.slice Ao9 t750.length co9 : Value).ownBlock ∧ some k_ ≠ (.slice Ao53 y761.length co53 : Value).ownBlock ∧ k_ ≠ gb753 ∧ k_ ≠ gb759 ∧ k_ ≠ gb760 ∧ k_ ≠ gb764)) (HO767.out) (fun k_ hk => ⟨hk.1, ⟨hk.2.1, ⟨hk.2.2.1, ⟨hk.2.2.2.1, ⟨hk.2.2.2.2.1, ⟨hk.2.2.2.2.2.1, hk.2.2.2.2.2.2⟩⟩⟩⟩⟩⟩))).2.1 (Kd.N_F (Kd.N_mono (ok' := (fun k_ => some k_ ≠ (.slice Ao7 t747.length co7 : Value).ownBlock ∧ some k_ ≠ (.slice Ao9 t750.length co9 : Value).ownBlock ∧ some k_ ≠ (.slice Ao53 y761.length co53 : Value).ownBlock ∧ k_ ≠ gb753 ∧ k_ ≠ gb759 ∧ k_ ≠ gb760 ∧ k_ ≠ gb764)) (HO767.out) (fun k_ hk => ⟨hk.1, ⟨hk.2.1, ⟨hk.2.2.1, ⟨hk.2.2.2.1, ⟨hk.2.2.2.2.1, ⟨hk.2.2.2.2.2.1, hk.2.2.2.2.2.2⟩⟩⟩⟩⟩⟩))))) (Reps.none _ _))); intro v769 w65 ho66 hb hg_ hnew_; clear hg_ hnew_; (first | rw [← Ny768.out] at ho66 | (simp only [Int.reduceToNat] at ho66; rw [← Ny768.out] at ho66)); have n0_ := AM (Kd.R_below (ZR HO_754000.out) hb); have n1_ := AM (Kd.N_elder' (ZRN HO_754001.out) (Kd.N_base ho66) hb); have n2_ := AM (Kd.N_elder' (ZRN HO763.out) (Kd.N_base ho66) hb); have n3_ := AM (Kd.N_lower ho66 (below_size (ZB))); have n4_ := ZW BK753 hb; have n5_ := ZW BK759 hb; have n6_ := ZW BK760 hb; have n7_ := ZW BK764 hb; have n8_ := ZT HB hb; clear HO_754000 HO_754001 HO763 BK753 BK759 BK760 BK764 HB HO767; have HO_754000 := n0_; have HO_754001 := n1_; have HO763 := n2_; have HO770 := n3_; have BK753 := n4_; have BK759 := n5_; have BK760 := n6_; have BK764 := n7_; have HB := n8_; clear n0_ n1_ n2_ n3_ n4_ n5_ n6_ n7_ n8_ hb ho66; obtain ⟨Ao67, co67, eo67⟩ := Kd.N_slice HO770.out; subst eo67) | ((with_reducible refine gate_dst (N := 9) rfl ?_); refine ZX (N := 9) (cs := #[.slice none 0 0, .slice none 0 0]) (t := 26) ?_; intro gb771 hg w68 hbox hb; have BK771 := AM (hbox); have GW771 : Za (w.heap.size ≤ gb771) := ZS hg; have GE771 : Za (w.heap.size ≤ gb771) := ZS hg; have NB753_771 : Za (gb753 ≠ gb771) := ZN hg BK753; have NB771_753 : Za (gb771 ≠ gb753) := ZM hg BK753; have NB759_771 : Za (gb759 ≠ gb771) := ZN hg BK759; have NB771_759 : Za (gb771 ≠ gb759) := ZM hg BK759; have NB760_771 : Za (gb760 ≠ gb771) := ZN hg BK760; have NB771_760 : Za (gb771 ≠ gb760) := ZM hg BK760; have NB764_771 : Za (gb764 ≠ gb771) := ZN hg BK764; have NB771_764 : Za (gb771 ≠ gb764) := ZM hg BK764; replace HO_754000 := AM (Kd.R_below (ZR HO_754000.out) hb); replace HO_754001 := AM (Kd.N_below (Kd.N_elderB (ZRN HO_754001.out) gb771 (Nat.le_of_eq hg.symm)) hb); replace HO763 := AM (Kd.N_below (Kd.N_elderB (ZRN HO763.out) gb771 (Nat.le_of_eq hg.symm)) hb); replace HO770 := AM (Kd.N_below (Kd.N_elderB (ZRN HO770.out) gb771 (Nat.le_of_eq hg.symm)) hb); replace BK753 := ZW BK753 hb; replace BK759 := ZW BK759 hb; replace BK760 := ZW BK760 hb; replace BK764 := ZW BK764 hb; replace HB := ZT HB hb; clear hb hbox hg; have hnb69 := NB771_753.out; have hnc69 := NB753_771.out; have hnb70 := NB771_759.out; have hnc70 := NB759_771.out; have hnb71 := NB771_760.out; have hnc71 := NB760_771.out; have hnb72 := NB771_764.out; have hnc72 := NB764_771.out; have hcz73 := ZC2 w68 BK771; have hfz73 := ZF2 BK771))
    have n0_ : Za (Kd.R k35 35 ((w68.setCell ⟨gb771, 0, none⟩ (.slice Ao7 t747.length co7)).setCell ⟨gb771, 1, none⟩ (.slice Ao67 y768.length co67)) w.heap.size (fun _ => True) (.slice Ao7 t747.length co7) t747) := ⟨ZR (Kd.R_mono (Kd.R_far (p := ⟨gb771, 1, none⟩) (Kd.R_far (p := ⟨gb771, 0, none⟩) (Kd.R_types HO_754000.out BK771.out (by decide)) (fun _ hk => hk.2) (.slice Ao7 t747.length co7)) (fun _ hk => hk.2) (.slice Ao67 y768.length co67)) (fun _ hk => trivial))⟩
    have n1_ : Za (Kd.N k40 40 ((w68.setCell ⟨gb771, 0, none⟩ (.slice Ao7 t747.length co7)).setCell ⟨gb771, 1, none⟩ (.slice Ao67 y768.length co67)) w.heap.size (fun k_ => some k_ ≠ (.slice Ao7 t747.length co7 : Value).ownBlock ∧ some k_ ≠ (.slice Ao53 y761.length co53 : Value).ownBlock ∧ some k_ ≠ (.slice Ao67 y768.length co67 : Value).ownBlock ∧ k_ ≠ gb753 ∧ k_ ≠ gb759 ∧ k_ ≠ gb760 ∧ k_ ≠ gb764 ∧ k_ ≠ gb771) (.slice Ao9 t750.length co9) t750) := ⟨by (with_reducible repeat (first | apply Kd.N_alloc | apply Kd.N_drewN | apply Kd.N_drew)); exact Kd.N_mono (Kd.N_far (p := ⟨gb771, 1, none⟩) (Kd.N_far (p := ⟨gb771, 0, none⟩) (Kd.N_mono HO_754001.out (fun k_ hk => (⟨hk, hk.2⟩ : _ ∧ k_ ≠ gb771))) (fun _ hk => hk.2) (.slice Ao7 t747.length co7)) (fun _ hk => hk.2) (.slice Ao67 y768.length co67)) (fun _ hk => ⟨hk.1.1.1.1.1, ⟨hk.1.1.1.1.2.1, ⟨hk.1.1.2, ⟨hk.1.1.1.1.2.2.1, ⟨hk.1.1.1.1.2.2.2.1, ⟨hk.1.1.1.1.2.2.2.2.1, ⟨hk.1.1.1.1.2.2.2.2.2, hk.1.2⟩⟩⟩⟩⟩⟩⟩)⟩
    have n2_ : Za (Kd.N k40 40 ((w68.setCell ⟨gb771, 0, none⟩ (.slice Ao7 t747.length co7)).setCell ⟨gb771, 1, none⟩ (.slice Ao67 y768.length co67)) w.heap.size (fun k_ => some k_ ≠ (.slice Ao7 t747.length co7 : Value).ownBlock ∧ some k_ ≠ (.slice Ao9 t750.length co9 : Value).ownBlock ∧ some k_ ≠ (.slice Ao67 y768.length co67 : Value).ownBlock ∧ k_ ≠ gb753 ∧ k_ ≠ gb759 ∧ k_ ≠ gb760 ∧ k_ ≠ gb764 ∧ k_ ≠ gb771) (.slice Ao53 y761.length co53) y761) := ⟨by (with_reducible repeat (first | apply Kd.N_alloc | apply Kd.N_drewN | apply Kd.N_drew)); exact Kd.N_mono (Kd.N_far (p := ⟨gb771, 1, none⟩) (Kd.N_far (p := ⟨gb771, 0, none⟩) (Kd.N_mono HO763.out (fun k_ hk => (⟨hk, hk.2⟩ : _ ∧ k_ ≠ gb771))) (fun _ hk => hk.2) (.slice Ao7 t747.length co7)) (fun _ hk => hk.2) (.slice Ao67 y768.length co67)) (fun _ hk => ⟨hk.1.1.1.1.1, ⟨hk.1.1.1.1.2.1, ⟨hk.1.1.2, ⟨hk.1.1.1.1.2.2.1, ⟨hk.1.1.1.1.2.2.2.1, ⟨hk.1.1.1.1.2.2.2.2.1, ⟨hk.1.1.1.1.2.2.2.2.2, hk.1.2⟩⟩⟩⟩⟩⟩⟩)⟩
    have n3_ : Za (Kd.N k40 40 ((w68.setCell ⟨gb771, 0, none⟩ (.slice Ao7 t747.length co7)).setCell ⟨gb771, 1, none⟩ (.slice Ao67 y768.length co67)) w.heap.size (fun k_ => some k_ ≠ (.slice Ao7 t747.length co7 : Value).ownBlock ∧ some k_ ≠ (.slice Ao9 t750.length co9 : Value).ownBlock ∧ some k_ ≠ (.slice Ao53 y761.length co53 : Value).ownBlock ∧ k_ ≠ gb753 ∧ k_ ≠ gb759 ∧ k_ ≠ gb760 ∧ k_ ≠ gb764 ∧ k_ ≠ gb771) (.slice Ao67 y768.length co67) y768) := ⟨by (with_reducible repeat (first | apply Kd.N_alloc | apply Kd.N_drewN | apply Kd.N_drew)); exact Kd.N_mono (Kd.N_far (p := ⟨gb771, 1, none⟩) (Kd.N_far (p := ⟨gb771, 0, none⟩) (Kd.N_mono HO770.out (fun k_ hk => (⟨hk, hk.2⟩ : _ ∧ k_ ≠ gb771))) (fun _ hk => hk.2) (.slice Ao7 t747.length co7)) (fun _ hk => hk.2) (.slice Ao67 y768.length co67)) (fun _ hk => ⟨hk.1.1.1, ⟨hk.1.1.2.1, ⟨hk.1.1.2.2.1, ⟨hk.1.1.2.2.2.1, ⟨hk.1.1.2.2.2.2.1, ⟨hk.1.1.2.2.2.2.2.1, ⟨hk.1.1.2.2.2.2.2.2, hk.1.2⟩⟩⟩⟩⟩⟩⟩)⟩
    have n4_ : Za (((w68.setCell ⟨gb771, 0, none⟩ (.slice Ao7 t747.length co7)).setCell ⟨gb771, 1, none⟩ (.slice Ao67 y768.length co67)).heap[gb753]? = some (.cells #[.slice Ao7 t747.length co7, .slice Ao9 t750.length co9] 26 (0, 0))) := ⟨ZZ BK753.out⟩
    have n5_ : Za (((w68.setCell ⟨gb771, 0, none⟩ (.slice Ao7 t747.length co7)).setCell ⟨gb771, 1, none⟩ (.slice Ao67 y768.length co67)).heap[gb759]? = some (.cells #[.int .i64 1, .int .i64 x4_2, .int .i64 2, .int .i64 x5_3, .int .i64 0, .int .i64 0, .slice none 0 0, .slice none 0 0] 40 (0, 0))) := ⟨ZZ BK759.out⟩
    have n6_ : Za (((w68.setCell ⟨gb771, 0, none⟩ (.slice Ao7 t747.length co7)).setCell ⟨gb771, 1, none⟩ (.slice Ao67 y768.length co67)).heap[gb760]? = some (.cells #[.int .i64 1, .int .i64 x4_2, .int .i64 1, .int .i64 0, .int .i64 0, .int .i64 0, .slice none 0 0, .slice none 0 0] 40 (0, 0))) := ⟨ZZ BK760.out⟩
    have n7_ : Za (((w68.setCell ⟨gb771, 0, none⟩ (.slice Ao7 t747.length co7)).setCell ⟨gb771, 1, none⟩ (.slice Ao67 y768.length co67)).heap[gb764]? = some (.cells #[.slice Ao7 t747.length co7, .slice Ao53 y761.length co53] 26 (0, 0))) := ⟨ZZ BK764.out⟩
    have n8_ : Za (((w68.setCell ⟨gb771, 0, none⟩ (.slice Ao7 t747.length co7)).setCell ⟨gb771, 1, none⟩ (.slice Ao67 y768.length co67)).heap[gb771]? = some (.cells #[.slice Ao7 t747.length co7, .slice Ao67 y768.length co67] 26 (0, 0))) := ⟨ZZ BK771.out⟩
    have n9_ : Za (Below w.heap.size w ((w68.setCell ⟨gb771, 0, none⟩ (.slice Ao7 t747.length co7)).setCell ⟨gb771, 1, none⟩ (.slice Ao67 y768.length co67))) := ⟨ZB⟩
    (try clear HO_754000)
    (try clear HO_754001)
    (try clear HO763)
    (try clear HO770)
    (try clear BK753)
    (try clear BK759)
    (try clear BK760)
    (try clear BK764)
    (try clear BK771)
    (try clear HB)
    generalize ((w68.setCell ⟨gb771, 0, none⟩ (.slice Ao7 t747.length co7)).setCell ⟨gb771, 1, none⟩ (.slice Ao67 y768.length co67)) = w74 at n0_ n1_ n2_ n3_ n4_ n5_ n6_ n7_ n8_ n9_ ⊢
    have HO_754000 := n0_
    have HO_754001 := n1_
    have HO763 := n2_
    have HO770 := n3_
    have BK753 := n4_
    have BK759 := n5_
    have BK760 := n6_
    have BK764 := n7_
    have BK771 := n8_
    have HB := n9_
    clear n0_ n1_ n2_ n3_ n4_ n5_ n6_ n7_ n8_ n9_
    replace HO_754000 := AM (Kd.R_drew HO_754000.out)
    replace HO_754001 := AM (Kd.N_drew HO_754001.out)
    replace HO763 := AM (Kd.N_drew HO763.out)
    replace HO770 := AM (Kd.N_drew HO770.out)
    replace BK753 := AM (blk_drew BK753.out)
    replace BK759 := AM (blk_drew BK759.out)
    replace BK760 := AM (blk_drew BK760.out)
    replace BK764 := AM (blk_drew BK764.out)
    replace BK771 := AM (blk_drew BK771.out)
    replace HB := AM (below_drew1 HB.out)
    have p772 : 0 ≤ (x5_3 : Int) := ZD
    have q772 : x5_3 < (t747.length : Int) := ZD
    obtain ⟨ad772, e772, hx772_0, hx772_1⟩ := at_T35 (Kd.R_reads' HO_754000.out).2.2 x5_3 p772 q772
    cases e772
    replace p772 := eq_true p772
    replace q772 := eq_true q772
    have p773 : 0 ≤ (x4_2 : Int) := ZD
    have q773 : x4_2 < (t747.length : Int) := ZD
    obtain ⟨ad773, e773, hx773_0, hx773_1⟩ := at_T35 (Kd.R_reads' HO_754000.out).2.2 x4_2 p773 q773
    obtain rfl : ad772 = ad773 := (by injection e773)
    replace p773 := eq_true p773
    replace q773 := eq_true q773
    refine start_ (n := 12) (S := fun w' => w'.cell? ⟨gb753, 0, none⟩ = some (.slice (some ad772) t747.length co7) ∧ w'.cell? ⟨gb753, 1, none⟩ = some (.slice Ao9 t750.length co9) ∧ w'.cell? (ad772.add ((x5_3).toNat * 2)) = some (.int .i64 ((D35 t747 x5_3).f0)) ∧ w'.cell? ⟨(ad772.add ((x5_3).toNat * 2)).block, (ad772.add ((x5_3).toNat * 2)).off + 1, none⟩ = some (.int .i64 ((D35 t747 x5_3).f1)) ∧ w'.cell? (ad772.add ((x4_2).toNat * 2)) = some (.int .i64 ((D35 t747 x4_2).f0)) ∧ w'.cell? ⟨(ad772.add ((x4_2).toNat * 2)).block, (ad772.add ((x4_2).toNat * 2)).off + 1, none⟩ = some (.int .i64 ((D35 t747 x4_2).f1))) (ds := []) #[F,F,F,F,F,F,F,F,F,F,F,F] (by kernel_rfl) rfl rfl ⟨ZA BK753 0, ZA BK753 1, hx772_0, hx772_1, hx773_0, hx773_1⟩ (fun hHeld => ?_); refine with_tabW laws_FnTypeSet.tab16 laws_FnTypeSet.bits16 (fun HT_ HW_ => ?_)
    generalize w74.drew = w75 at HO_754000 HO_754001 HO763 HO770 BK753 BK759 BK760 BK764 BK771 HB hx772_0 hx772_1 hx773_0 hx773_1 hHeld ⊢
    refine ZU 0 65 #[T,F,F,F,F,F,F,F,F,F,F,F] ?_
    refine ZU 2 67 #[T,F,T,F,F,F,F,F,F,F,F,F] ?_
    refine ZU 5 70 #[T,F,T,F,F,T,F,F,F,F,F,F] ?_
    refine ZU 7 72 #[T,F,T,F,F,T,F,T,F,F,F,F] ?_
    refine ZTK 1 66 #[T,T,T,F,F,T,F,T,F,F,F,F] hHeld ?_
    refine ZU 3 68 #[T,T,T,T,F,T,F,T,F,F,F,F] ?_
    refine ZTK 4 69 #[T,T,T,T,T,T,F,T,F,F,F,F] hHeld ?_
    refine ZTK 6 71 #[T,T,T,T,T,T,T,T,F,F,F,F] hHeld ?_
    refine ZU 8 73 #[T,T,T,T,T,T,T,T,T,F,F,F] ?_
    refine ZTK 9 74 #[T,T,T,T,T,T,T,T,T,T,F,F] hHeld ?_
    refine one_ (i := 10) (N := some 75) #[T,T,T,T,T,T,T,T,T,T,T,F] rfl rfl (one_of HT_.out (by kernel_rfl)) (by decide) (fun K hK => ?_)
    refine ZGO Try.func17 #[.agg #[.int .i64 ((D35 t747 x5_3).f0), .int .i64 ((D35 t747 x5_3).f1)], .agg #[.int .i64 ((D35 t747 x4_2).f0), .int .i64 ((D35 t747 x4_2).f1)]] ?_
    with_reducible refine (impl_LabelFlows.calls ((D35 t747 x5_3).f0) ((D35 t747 x5_3).f1) ((D35 t747 x4_2).f0) ((D35 t747 x4_2).f1) t774 _ A35.out).mono ?_
    rintro e w76 ⟨rfl, hb⟩
    have HS2_ := (hb.cell (World.block_lt_of_cell? _ _ (hHeld.2.2.1))).trans (hHeld.2.2.1)
    have HS3_ := (hb.cell (World.block_lt_of_cell? _ _ (hHeld.2.2.2.1))).trans (hHeld.2.2.2.1)
    have HS4_ := (hb.cell (World.block_lt_of_cell? _ _ (hHeld.2.2.2.2.1))).trans (hHeld.2.2.2.2.1)
    have HS5_ := (hb.cell (World.block_lt_of_cell? _ _ (hHeld.2.2.2.2.2))).trans (hHeld.2.2.2.2.2)
    refine ⟨_, rfl, ?_⟩
    replace HO_754000 := AM (Kd.R_below (ZR HO_754000.out) hb)
    replace HO_754001 := AM (Kd.N_below (ZRN HO_754001.out) hb)
    replace HO763 := AM (Kd.N_below (ZRN HO763.out) hb)
    replace HO770 := AM (Kd.N_below (ZRN HO770.out) hb)
    replace BK753 := ZW BK753 hb
    replace BK759 := ZW BK759 hb
    replace BK760 := ZW BK760 hb
    replace BK764 := ZW BK764 hb
    replace BK771 := ZW BK771 hb
    replace HB := ZT HB hb
    (try clear hb)
    (try clear hb2)
    (try clear hk)
    (try clear hi)
    refine hK.out _ _ ⟨ZA BK753 0, ZA BK753 1, HS2_, HS3_, HS4_, HS5_⟩ (fun hHeld => ?_)
    clear hK K
    refine ZNO 75 ?_
    refine ZU 11 10 #[T,T,T,T,T,T,T,T,T,T,T,T] ?_
    refine done_ (done_of HT_.out (by kernel_rfl)) ?_
    have hcz77 := ZC2 w76 BK764
    have hfz77 := ZF2 BK764
    try go_wp2_with (first | ((with_reducible refine gate_callee (f := 15) rfl ?_); refine ZGL (some 77) Try.func15 #[.agg #[.slice (some ad772) t747.length co7, .slice Ao53 y761.length co53]] ?_; (with_reducible refine (impl_TypeOk.calls k3 _ _ t747 _ _ y761 t775 _ ?side1 ?side2 ?side3 ?side4 A36.out).mono ?_); (case side1 => exact ZQ ((Kd.R_reads' HO_754000.out).2.2)); (case side2 => exact (Kd.R_reads' HO_754000.out).2.1); (case side3 => exact ZQ ((Kd.N_reads' HO763.out).2.2)); (case side4 => exact (Kd.N_reads' HO763.out).2.1); rintro e w78 ⟨rfl, hb⟩; refine ⟨_, rfl, ?_⟩; replace HO_754000 := AM (Kd.R_below (ZR HO_754000.out) hb); replace HO_754001 := AM (Kd.N_below (ZRN HO_754001.out) hb); replace HO763 := AM (Kd.N_below (ZRN HO763.out) hb); replace HO770 := AM (Kd.N_below (ZRN HO770.out) hb); replace BK753 := ZW BK753 hb; replace BK759 := ZW BK759 hb; replace BK760 := ZW BK760 hb; replace BK764 := ZW BK764 hb; replace BK771 := ZW BK771 hb; replace HB := ZT HB hb; clear hb; have hcz79 := ZC2 w78 BK771; have hfz79 := ZF2 BK771) | (go_at_call 15; (with_reducible refine (impl_TypeOk.calls k3 _ _ t747 _ _ y768 t776 _ ?side1 ?side2 ?side3 ?side4 A38.out).mono ?_); (case side1 => exact ZQ ((Kd.R_reads' HO_754000.out).2.2)); (case side2 => exact (Kd.R_reads' HO_754000.out).2.1); (case side3 => exact ZQ ((Kd.N_reads' HO770.out).2.2)); (case side4 => exact (Kd.N_reads' HO770.out).2.1); rintro e w80 ⟨rfl, hb⟩; replace HO_754000 := AM (Kd.R_below (ZR HO_754000.out) hb); replace HO_754001 := AM (Kd.N_below (ZRN HO_754001.out) hb); replace HO763 := AM (Kd.N_below (ZRN HO763.out) hb); replace HO770 := AM (Kd.N_below (ZRN HO770.out) hb); replace BK753 := ZW BK753 hb; replace BK759 := ZW BK759 hb; replace BK760 := ZW BK760 hb; replace BK764 := ZW BK764 hb; replace BK771 := ZW BK771 hb; replace HB := ZT HB hb; clear hb))
    go_roundg k3
    case measure => have := HJ3.out; have := HK2.out; have := HK3.out; omega
    case rel => exact ⟨(wrap64 (x5_3 + 1)), (by first | rfl | (simp; done) | (simp [*]; done)), H', ⟨by have := HJ3.out; have := HK2.out; have := HK3.out; omega⟩, ⟨ZR HO_754000.out⟩, ⟨by (with_reducible repeat (first | apply Kd.N_alloc | apply Kd.N_drewN | apply Kd.N_drew)); exact Kd.N_mono HO_754001.out (fun _ hk => ⟨hk.1, hk.2.2.2.1⟩)⟩, ⟨ZK BK753.out⟩, ⟨ZB⟩⟩)))
    ·(
    rw [if_neg c34] at H
    exact absurd H (by simp)))
    ·(
    rw [if_neg c33] at H
    exact absurd H (by simp)))
    ·(
    rw [if_neg c32] at H
    exact absurd H (by simp)))
    ·(
    rw [if_neg c31] at H
    have c31b0 := decide_eq_false c31
    clear c31
    have H' := AM H
    clear H
    have hcz81 := ZC2 wr BK753
    have hfz81 := ZF2 BK753
    go_wp2
    go_roundg k3
    case measure => have := HJ3.out; have := HK2.out; have := HK3.out; omega
    case rel => exact ⟨(wrap64 (x4_2 + 1)), (by first | rfl | (simp; done) | (simp [*]; done)), H', ⟨by have := HJ3.out; have := HK2.out; have := HK3.out; omega⟩, ⟨ZR HO_754000.out⟩, ⟨ZRN HO_754001.out⟩, ⟨ZK BK753.out⟩, ⟨ZB⟩⟩)))
   ·(
   rw [if_neg c29] at H
   have c29b0 := decide_eq_false c29
   clear c29
   obtain rfl := Option.some.inj H
   have hcz82 := ZC2 wr BK753
   have hfz82 := ZF2 BK753
   go_wp2
   go_ret
   exact ⟨ZE, ZB⟩)))))

end Go.Proofs.Ytkkdeojbkfjlpaa.A
