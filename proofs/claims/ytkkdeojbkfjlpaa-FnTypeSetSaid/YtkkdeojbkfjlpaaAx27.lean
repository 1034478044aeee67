/- By wip/tools/pr.py: Go functions as Lean functions, with contracts. -/
import Derived.Test.YtkkdeojbkfjlpaaAx0
import Derived.Test.YtkkdeojbkfjlpaaAx26
namespace Go.Proofs.Ytkkdeojbkfjlpaa.A
open Go.RowKit Go.Proofs.YtkkdeojbkfjlpaaW.PrintWords Go.Proofs.YtkkdeojbkfjlpaaW.PrintLast Go.Proofs.YtkkdeojbkfjlpaaW.PrintMore
attribute [local go_sem] max2_int min2_int max_two min_two max_three min_three max_four min_four
set_option linter.unusedVariables false
set_option linter.unusedSimpArgs false
set_option maxHeartbeats 8000000
set_option maxRecDepth 100000

/-! ### impl_Prog_labels: function 54 -/
mutual
def impl_Prog_labels.l0 : Nat → List (S35) → List (S40) → Int → Int → List (S35) → List (S40) → Int → Int → Option ((List (S35)))
 | 0, _, _, _, _, _, _, _, _ => none
 | k + 1, x3, x12, x13, x14, x629000, x629001, x630000, x630001 => if x14 < x13 then (if 0 ≤ x14 then (if x14 < (x12.length : Int) then (if x3.length < 8796093022208 then (if 0 ≤ ((D40 x12 x14).f1) then (if ((D40 x12 x14).f1) < (x629000.length : Int) then ((impl_Label_both.f x630000 x630001 ((D35 x629000 ((D40 x12 x14).f1)).f0) ((D35 x629000 ((D40 x12 x14).f1)).f1)).bind fun bt636 => ((impl_Prog_labels.f k x629000 x629001 ((D40 x12 x14).f4) bt636.1 bt636.2 (x3 ++ [(⟨x630000, x630001⟩ : S35)])).bind fun t639 => ((impl_Prog_labels.f k x629000 x629001 ((D40 x12 x14).f5) bt636.1 bt636.2 t639).bind fun t642 => (impl_Prog_labels.l0 k t642 x12 x13 (wrap64 (x14 + 1)) x629000 x629001 x630000 x630001)))) else (none)) else (none)) else (none)) else (none)) else (none)) else (some x3)
def impl_Prog_labels.f : Nat → List (S35) → List (S40) → List (S40) → Int → Int → List (S35) → Option ((List (S35)))
 | 0, _, _, _, _, _, _ => none
 | k + 1, l0_0, l0_1, l1, a2_0, a2_1, l3 => impl_Prog_labels.l0 k l3 l1 (l1.length : Int) 0 l0_0 l0_1 a2_0 a2_1
end
def impl_Prog_labels.T5 : Bool × List (List Nat × List Nat) := (true, [([], []), ([], []), ([1], [1]), ([], []), ([3], [3]), ([2, 4], [2, 4]), ([5], [5]), ([0, 6], [0, 6]), ([], []), ([8, 7, 7, 0, 1, 2, 3, 4, 5, 6, 7, 8], [7, 8])])
def impl_Prog_labels.B5 : List Nat := [0, 0, 2, 0, 8, 30, 62, 127, 0, 511]
theorem impl_Prog_labels.tab5 : rtab .any (opsOf Try.f54 5) = impl_Prog_labels.T5 := by kernel_rfl
theorem impl_Prog_labels.bits5 : waitsOk impl_Prog_labels.T5.2 impl_Prog_labels.B5 = true := by kernel_rfl
theorem impl_Prog_labels.calls (k : Nat) : ∀ (A0_0 : Option Addr) (c0_0 : Nat) (l0_0 : List (S35)) (A0_1 : Option Addr) (c0_1 : Nat) (l0_1 : List (S40)) (A1 : Option Addr) (c1 : Nat) (l1 : List (S40)) (a2_0 : Int) (a2_1 : Int) (P3_ : Nat → Prop) (u9000_ : Value) (l3 : List (S35)) (r : List (S35)) (w0 w : World) (hB : Below w0.heap.size w0 w) (hr0_0 : ∀ W_, Kept w W_ (fun k_ => P3_ k_) → Kd.C k35 W_ A0_0 l0_0.length l0_0) (hc0_0 : l0_0.length ≤ c0_0) (hr0_1 : ∀ W_, Kept w W_ (fun k_ => P3_ k_) → Kd.C k40 W_ A0_1 l0_1.length l0_1) (hc0_1 : l0_1.length ≤ c0_1) (hr1 : ∀ W_, Kept w W_ (fun k_ => P3_ k_) → Kd.C k40 W_ A1 l1.length l1) (hc1 : l1.length ≤ c1) (ho3 : Kd.R k35 35 w w0.heap.size P3_ u9000_ l3) (h : impl_Prog_labels.f k l0_0 l0_1 l1 a2_0 a2_1 l3 = some r),
  Calls Try.prog 54 #[.agg #[.slice A0_0 l0_0.length c0_0, .slice A0_1 l0_1.length c0_1], .slice A1 l1.length c1, .agg #[.int .i64 a2_0, .int .i64 a2_1], u9000_] w fun e w' => ∃ v0_ : Value, e = .returned (v0_) ∧ Kd.R k35 35 w' w0.heap.size (fun k_ => (P3_ k_ ∨ w.heap.size ≤ k_)) v0_ r ∧ Below w0.heap.size w0 w' ∧ Kept w w' (fun k_ => P3_ k_) := by
 induction k using Nat.strongRecOn with
 | _ k ih =>
 intro A0_0 c0_0 l0_0 A0_1 c0_1 l0_1 A1 c1 l1 a2_0 a2_1 P3_ u9000_ l3 r w0 w hB hr0_0 hc0_0 hr0_1 hc0_1 hr1 hc1 ho3 h
 cases k with
 | zero => exact absurd h (by simp [impl_Prog_labels.f])
 | succ k =>
 simp only [impl_Prog_labels.f] at h
 have hu26 := Try.underlying26
 have hu35 := Try.underlying35
 have hu40 := Try.underlying40
 have HR0_0 := AM hr0_0
 have HC0_0 := AM hc0_0
 clear hr0_0 hc0_0
 have HR0_1 := AM hr0_1
 have HC0_1 := AM hc0_1
 clear hr0_1 hc0_1
 have HR1 := AM hr1
 have HC1 := AM hc1
 clear hr1 hc1
 have HO3 := AM (show Kd.R k35 35 w w0.heap.size (fun k_ => (P3_ k_ ∨ w.heap.size ≤ k_)) u9000_ l3 from Kd.R_mono ho3 (fun k_ hk => (.inl hk)))
 have HK := AM (Kept.refl w (fun k_ => P3_ k_))
 have HW0 := AM hB.size
 have HB := AM hB
 clear hB
 have H : (impl_Prog_labels.l0 k l3 l1 (l1.length : Int) 0 l0_0 l0_1 a2_0 a2_1) = some r := h
 clear h
 have H' := AM H
 clear H
 go_enter Try.func54, Try.ntmps54
 go_wp2_with (first | ((with_reducible refine gate_dst (N := 4) rfl ?_); refine ZX (N := 4) (cs := #[.slice A0_0 l0_0.length c0_0, .slice A0_1 l0_1.length c0_1]) (t := 26) ?_; intro gb628 hg w5 hbox hb; have BK628 := AM (hbox); have GW628 := AM ((by rw [hg]; exact (by first | exact HK.out.1 | exact (show Kept w _ (fun k_ => P3_ k_) from ZHK HK).1) : w.heap.size ≤ gb628)); have GE628 : Za (w0.heap.size ≤ gb628) := ZS hg; replace HO3 := AM (Kd.R_below (ZR HO3.out) hb); replace HK := AM (Kept.below (S := (fun k_ => P3_ k_)) (ZHK HK) hb); replace HB := ZT HB hb; clear hb hbox hg) | ((with_reducible refine gate_dst (N := 6) rfl ?_); refine ZX (N := 6) (cs := #[.int .i64 a2_0, .int .i64 a2_1]) (t := 35) ?_; intro gb629 hg w6 hbox hb; have BK629 := AM (hbox); have GW629 := AM ((by rw [hg]; exact (by first | exact HK.out.1 | exact (show Kept w _ (fun k_ => P3_ k_) from ZHK HK).1) : w.heap.size ≤ gb629)); have GE629 : Za (w0.heap.size ≤ gb629) := ZS hg; have NB628_629 : Za (gb628 ≠ gb629) := ZN hg BK628; have NB629_628 : Za (gb629 ≠ gb628) := ZM hg BK628; replace HO3 := AM (Kd.R_below (Kd.R_elderB (ZR HO3.out) gb629 (Nat.le_of_eq hg.symm)) hb); replace BK628 := ZW BK628 hb; replace HK := AM (Kept.below (S := (fun k_ => P3_ k_)) (ZHK HK) hb); replace HB := ZT HB hb; clear hb hbox hg))
 go_loopg [3, 14] k (fun kq v3 v14 w' => ∃ (x3_1 : List (S35)) (x14_1 : Int), v14 = .int .i64 x14_1 ∧ Za (impl_Prog_labels.l0 kq x3_1 l1 (l1.length : Int) x14_1 l0_0 l0_1 a2_0 a2_1 = some r) ∧ Za (kq ≤ k) ∧ Za (Kd.R k35 35 w' w0.heap.size (fun k_ => (P3_ k_ ∨ w.heap.size ≤ k_) ∧ k_ ≠ gb629) v3 x3_1) ∧ Za (w'.heap[gb628]? = some (.cells #[(.slice A0_0 l0_0.length c0_0), (.slice A0_1 l0_1.length c0_1)] 26 (0, 0))) ∧ Za (w'.heap[gb629]? = some (.cells #[.int .i64 a2_0, .int .i64 a2_1] 35 (0, 0))) ∧ Za (Kept w w' (fun k_ => P3_ k_)) ∧ Za (Below w0.heap.size w0 w'))
 case atStart => exact ⟨(l3), (0), (by first | rfl | (simp; done) | (simp [*]; done)), H', ⟨Nat.le_refl _⟩, ⟨ZR HO3.out⟩, ⟨ZK BK628.out⟩, ⟨ZK BK629.out⟩, ⟨ZHK HK⟩, ⟨ZB⟩⟩
 case round => (
 clear H'
 try clear c1
 try clear p2
 try clear c5
 obtain ⟨x3_1, x14_1, rfl, HA, HK1, HO_3, BK628, BK629, HK, HB⟩ := hrel
 cases gk with
 | zero => exact absurd HA.out (by simp [impl_Prog_labels.l0])
 | succ k1 =>
  have H := HA.out
  clear HA
  simp only [impl_Prog_labels.l0] at H
  by_cases c7 : x14_1 < (l1.length : Int)
  ·(
  rw [if_pos c7] at H
  have c7b0 := decide_eq_true c7
  clear c7
  by_cases c8 : 0 ≤ x14_1
  ·(
  rw [if_pos c8] at H
  have c8b0 := decide_eq_true c8
  clear c8
  by_cases c9 : x14_1 < (l1.length : Int)
  ·(
  rw [if_pos c9] at H
  have c9b0 := decide_eq_true c9
  clear c9
  by_cases c10 : x3_1.length < 8796093022208
  ·(
  rw [if_pos c10] at H
  have LMc10 := AM c10
  clear c10
  obtain ⟨y632, hy632⟩ : ∃ y_ : List (S35), y_ = (x3_1 ++ [(⟨a2_0, a2_1⟩ : S35)]) := ⟨_, rfl⟩
  replace H : (if 0 ≤ ((D40 l1 x14_1).f1) then (if ((D40 l1 x14_1).f1) < (l0_0.length : Int) then ((impl_Label_both.f a2_0 a2_1 ((D35 l0_0 ((D40 l1 x14_1).f1)).f0) ((D35 l0_0 ((D40 l1 x14_1).f1)).f1)).bind fun bt636 => ((impl_Prog_labels.f k1 l0_0 l0_1 ((D40 l1 x14_1).f4) bt636.1 bt636.2 y632).bind fun t639 => ((impl_Prog_labels.f k1 l0_0 l0_1 ((D40 l1 x14_1).f5) bt636.1 bt636.2 t639).bind fun t642 => (impl_Prog_labels.l0 k1 t642 l1 (l1.length : Int) (wrap64 (x14_1 + 1)) l0_0 l0_1 a2_0 a2_1)))) else (none)) else (none)) = some r := by first | (rw [hy632]; with_reducible exact H) | (have H2_ := (Option.bind_some _ _).symm.trans H; rw [hy632]; with_reducible exact H2_) | (have H2_ := (Option.bind_some _ _).symm.trans H; with_reducible exact H2_) | with_reducible exact H | (rw [hy632]; exact H) | exact H
  have Ny632 := AM hy632
  clear hy632
  by_cases c11 : 0 ≤ ((D40 l1 x14_1).f1)
  ·(
  rw [if_pos c11] at H
  have c11b0 := decide_eq_true c11
  clear c11
  by_cases c12 : ((D40 l1 x14_1).f1) < (l0_0.length : Int)
  ·(
  rw [if_pos c12] at H
  have c12b0 := decide_eq_true c12
  clear c12
  obtain ⟨⟨t636, t637⟩, A13, H⟩ := ZOB H; try dsimp only at H
  obtain ⟨t639, A14, H⟩ := ZOB H; try dsimp only at H
  obtain ⟨t642, A15, H⟩ := ZOB H; try dsimp only at H
  have H' := AM H
  clear H
  have p630 : 0 ≤ (x14_1 : Int) := ZD
  have q630 : x14_1 < (l1.length : Int) := ZD
  obtain ⟨ad630, A630_6, c630_6, A630_7, c630_7, e630, hx630_0, hx630_1, hx630_2, hx630_3, hx630_4, hx630_5, hx630_6, hx630_7, hl630_6, hi630_6, hl630_7, hi630_7⟩ := at_T40 (Kd.C_kept_now HR1.out HK.out) x14_1 p630 q630
  cases e630
  have hy630_0 := Kd.kept_slot HR1.out (by omega) (by decide) (ZHK HK) hx630_0 (add_block _ _) (Kept.refl _ _)
  have hy630_1 := Kd.kept_slot HR1.out (by omega) (by decide) (ZHK HK) hx630_1 (add_block _ _) (Kept.refl _ _)
  have hy630_2 := Kd.kept_slot HR1.out (by omega) (by decide) (ZHK HK) hx630_2 (add_block _ _) (Kept.refl _ _)
  have hy630_3 := Kd.kept_slot HR1.out (by omega) (by decide) (ZHK HK) hx630_3 (add_block _ _) (Kept.refl _ _)
  have hy630_4 := Kd.kept_slot HR1.out (by omega) (by decide) (ZHK HK) hx630_4 (add_block _ _) (Kept.refl _ _)
  have hy630_5 := Kd.kept_slot HR1.out (by omega) (by decide) (ZHK HK) hx630_5 (add_block _ _) (Kept.refl _ _)
  have hy630_6 := Kd.kept_slot HR1.out (by omega) (by decide) (ZHK HK) hx630_6 (add_block _ _) (Kept.refl _ _)
  have hy630_7 := Kd.kept_slot HR1.out (by omega) (by decide) (ZHK HK) hx630_7 (add_block _ _) (Kept.refl _ _)
  have HR630_6 := AM hi630_6
  have HC630_6 := AM hl630_6
  clear hi630_6 hl630_6
  have HR630_7 := AM hi630_7
  have HC630_7 := AM hl630_7
  clear hi630_7 hl630_7
  replace p630 := eq_true p630
  replace q630 := eq_true q630
  try go_wp2_with (first | ((with_reducible refine gate_dst (N := 10) rfl ?_); refine ZX (N := 10) (cs := #[.int .i64 0, .int .i64 0, .int .i64 0, .int .i64 0, .int .i64 0, .int .i64 0, .slice none 0 0, .slice none 0 0]) (t := 40) ?_; intro gb631 hg w16 hbox hb; have BK631 := AM (hbox); have GW631 := AM ((by rw [hg]; exact (by first | exact HK.out.1 | exact (show Kept w _ (fun k_ => P3_ k_) from ZHK HK).1) : w.heap.size ≤ gb631)); have GE631 : Za (w0.heap.size ≤ gb631) := ZS hg; have NB628_631 : Za (gb628 ≠ gb631) := ZN hg BK628; have NB631_628 : Za (gb631 ≠ gb628) := ZM hg BK628; have NB629_631 : Za (gb629 ≠ gb631) := ZN hg BK629; have NB631_629 : Za (gb631 ≠ gb629) := ZM hg BK629; replace HO_3 := AM (Kd.R_below (ZR HO_3.out) hb); replace BK628 := ZW BK628 hb; replace BK629 := ZW BK629 hb; replace HR630_6 := AM (Kd.C_below (ZQ HR630_6.out) hb); replace HR630_7 := AM (Kd.C_below (ZQ HR630_7.out) hb); replace HK := AM (Kept.below (S := (fun k_ => P3_ k_)) (ZHK HK) hb); replace HB := ZT HB hb; clear hb hbox hg; have hnb17 := NB631_628.out; have hnc17 := NB628_631.out; have hnb18 := NB631_629.out; have hnc18 := NB629_631.out; have hcz19 := ZC8 w16 BK631; have hfz19 := ZF8 BK631; have hnb20 := NB629_628.out; have hnc20 := NB628_629.out; have hcz21 := ZC2 w16 BK629; have hfz21 := ZF2 BK629) | ((with_reducible refine gate_builtin (b := .append) (xs := #[.tmp 18, .tmp 20]) rfl ?_); at_builtin; refine Kd.R_append k35 (w0 := w0) w0.heap.size rfl (.tmp 18) (.tmp 20) 23 35 (.agg #[(.int .i64 0), (.int .i64 0)]) 16 rfl Try.underlying23 info35 rfl (by decide) (by omega) u3 x3_1 (⟨a2_0, a2_1⟩ : S35) [.int .i64 a2_0, .int .i64 a2_1] (fun k_ => (P3_ k_ ∨ w.heap.size ≤ k_) ∧ k_ ≠ gb629) (fun _ => False) rfl (by first | (go_simp; done) | (go_simp; rfl)) ?aP (fun _ hk => hk.elim) ?aF ?aO ?aB ?aS ?aL ?_; (case aP => exact k35_mkM _ _ _ (⟨a2_0, a2_1⟩ : S35)); (case aB => exact (ZB)); (case aF => exact (fun k_ hk => ⟨(.inr (Nat.le_trans (show Kept w _ (fun k_ => P3_ k_) from ZHK HK).1 hk)), Kd.freshB (g := gb629) (o := .cells #[.int .i64 a2_0, .int .i64 a2_1] 35 (0, 0)) (ZZ BK629.out) k_ hk⟩)); (case aO => exact (by (with_reducible repeat (first | apply Kd.R_alloc | apply Kd.R_drewN | apply Kd.R_drew)); exact Kd.R_mono (Kd.R_far (p := ⟨gb631, 7, none⟩) (Kd.R_far (p := ⟨gb631, 6, none⟩) (Kd.R_far (p := ⟨gb631, 5, none⟩) (Kd.R_far (p := ⟨gb631, 4, none⟩) (Kd.R_far (p := ⟨gb631, 3, none⟩) (Kd.R_far (p := ⟨gb631, 2, none⟩) (Kd.R_far (p := ⟨gb631, 1, none⟩) (Kd.R_far (p := ⟨gb631, 0, none⟩) (Kd.R_types HO_3.out BK631.out (by decide)) (fun _ hk => hk.2) (.int .i64 ((D40 l1 x14_1).f0))) (fun _ hk => hk.2) (.int .i64 ((D40 l1 x14_1).f1))) (fun _ hk => hk.2) (.int .i64 ((D40 l1 x14_1).f2.f0))) (fun _ hk => hk.2) (.int .i64 ((D40 l1 x14_1).f2.f1))) (fun _ hk => hk.2) (.int .i64 ((D40 l1 x14_1).f2.f2))) (fun _ hk => hk.2) (.int .i64 ((D40 l1 x14_1).f3))) (fun _ hk => hk.2) (.slice A630_6 ((D40 l1 x14_1).f4).length c630_6)) (fun _ hk => hk.2) (.slice A630_7 ((D40 l1 x14_1).f5).length c630_7)) (fun _ hk => ⟨hk.1.1, hk.1.2⟩))); (case aS => exact (below_size (ZB))); (case aL => have := LMc10.out; omega); intro v633 w22 ho hb hg hat; rw [← Ny632.out] at ho; have n0_ := AM (blk_grown (g := gb628) (o := .cells #[.slice A0_0 l0_0.length c0_0, .slice A0_1 l0_1.length c0_1] 26 (0, 0)) (ZZ BK628.out) hg (Kd.R_ne HO_3.out BK628.out (by decide))); have n1_ := AM (blk_grown (g := gb629) (o := .cells #[.int .i64 a2_0, .int .i64 a2_1] 35 (0, 0)) (ZZ BK629.out) hg (Kd.R_away HO_3.out (fun _ hk => hk.2))); have n2_ := AM (blk_grown (g := gb631) (o := .cells #[.int .i64 ((D40 l1 x14_1).f0), .int .i64 ((D40 l1 x14_1).f1), .int .i64 ((D40 l1 x14_1).f2.f0), .int .i64 ((D40 l1 x14_1).f2.f1), .int .i64 ((D40 l1 x14_1).f2.f2), .int .i64 ((D40 l1 x14_1).f3), .slice A630_6 ((D40 l1 x14_1).f4).length c630_6, .slice A630_7 ((D40 l1 x14_1).f5).length c630_7] 40 (0, 0)) (ZZ BK631.out) hg (Kd.R_ne HO_3.out BK631.out (by decide))); have n3_ := AM (hb); have n4_ := AM (Kept.of_grown (S := (fun k_ => P3_ k_)) hg (ZHK HK) (fun k_ e_ => (HO_3.out.1 k_ e_).1)); have n5_ := AM (ho); clear BK628 BK629 BK631 HB HK HO_3; have BK628 := n0_; have BK629 := n1_; have BK631 := n2_; have HB := n3_; have HK := n4_; have HO634 := n5_; clear n0_ n1_ n2_ n3_ n4_ n5_ ho hb hg hat))
  replace HO634 := AM (Kd.R_drew HO634.out)
  replace BK628 := AM (blk_drew BK628.out)
  replace BK629 := AM (blk_drew BK629.out)
  replace BK631 := AM (blk_drew BK631.out)
  replace HK := AM (Kept.drew HK.out)
  replace HB := AM (below_drew1 HB.out)
  have p635 : 0 ≤ (((D40 l1 x14_1).f1) : Int) := ZD
  have q635 : ((D40 l1 x14_1).f1) < (l0_0.length : Int) := ZD
  obtain ⟨ad635, e635, hx635_0, hx635_1⟩ := at_T35 (Kd.C_kept_now HR0_0.out HK.out) ((D40 l1 x14_1).f1) p635 q635
  have hw635_1 := hx635_1
  have hw635_0 := hx635_0
  cases e635
  have hy635_0 := Kd.kept_slot HR0_0.out (by omega) (by decide) (ZHK HK) hx635_0 (add_block _ _) (Kept.refl _ _)
  have hy635_1 := Kd.kept_slot HR0_0.out (by omega) (by decide) (ZHK HK) hx635_1 (add_block _ _) (Kept.refl _ _)
  replace p635 := eq_true p635
  replace q635 := eq_true q635
  refine start_ (n := 10) (S := fun w' => w'.cell? ⟨gb629, 0, none⟩ = some (.int .i64 a2_0) ∧ w'.cell? ⟨gb629, 1, none⟩ = some (.int .i64 a2_1) ∧ w'.cell? ⟨gb628, 0, none⟩ = some (.slice (some ad635) l0_0.length c0_0) ∧ w'.cell? ⟨gb628, 1, none⟩ = some (.slice A0_1 l0_1.length c0_1) ∧ w'.cell? ⟨gb631, 0, none⟩ = some (.int .i64 ((D40 l1 x14_1).f0)) ∧ w'.cell? ⟨gb631, 1, none⟩ = some (.int .i64 ((D40 l1 x14_1).f1)) ∧ w'.cell? ⟨gb631, 2, none⟩ = some (.int .i64 ((D40 l1 x14_1).f2.f0)) ∧ w'.cell? ⟨gb631, 3, none⟩ = some (.int .i64 ((D40 l1 x14_1).f2.f1)) ∧ w'.cell? ⟨gb631, 4, none⟩ = some (.int .i64 ((D40 l1 x14_1).f2.f2)) ∧ w'.cell? ⟨gb631, 5, none⟩ = some (.int .i64 ((D40 l1 x14_1).f3)) ∧ w'.cell? ⟨gb631, 6, none⟩ = some (.slice A630_6 ((D40 l1 x14_1).f4).length c630_6) ∧ w'.cell? ⟨gb631, 7, none⟩ = some (.slice A630_7 ((D40 l1 x14_1).f5).length c630_7) ∧ w'.cell? (ad635.add ((((D40 l1 x14_1).f1)).toNat * 2)) = some (.int .i64 ((D35 l0_0 ((D40 l1 x14_1).f1)).f0)) ∧ w'.cell? ⟨(ad635.add ((((D40 l1 x14_1).f1)).toNat * 2)).block, (ad635.add ((((D40 l1 x14_1).f1)).toNat * 2)).off + 1, none⟩ = some (.int .i64 ((D35 l0_0 ((D40 l1 x14_1).f1)).f1))) (ds := []) #[F,F,F,F,F,F,F,F,F,F] (by kernel_rfl) rfl rfl ⟨ZA BK629 0, ZA BK629 1, ZA BK628 0, ZA BK628 1, ZA BK631 0, ZA BK631 1, ZA BK631 2, ZA BK631 3, ZA BK631 4, ZA BK631 5, ZA BK631 6, ZA BK631 7, (ZKS HR0_0 p635 q635 hy635_0 (ZHK HK)), (ZKS HR0_0 p635 q635 hy635_1 (ZHK HK))⟩ (fun hHeld => ?_); refine with_tabW impl_Prog_labels.tab5 impl_Prog_labels.bits5 (fun HT_ HW_ => ?_)
  generalize w22.drew = w23 at HO634 BK628 BK629 BK631 HK HB hx635_0 hx635_1 hHeld ⊢
  refine ZU 1 23 #[F,T,F,F,F,F,F,F,F,F] ?_
  refine ZU 3 25 #[F,T,F,T,F,F,F,F,F,F] ?_
  refine ZTK 0 22 #[T,T,F,T,F,F,F,F,F,F] hHeld ?_
  refine ZTK 2 24 #[T,T,T,T,F,F,F,F,F,F] hHeld ?_
  refine ZTK 4 26 #[T,T,T,T,T,F,F,F,F,F] hHeld ?_
  refine ZU 5 27 #[T,T,T,T,T,T,F,F,F,F] ?_
  refine ZTK 6 28 #[T,T,T,T,T,T,T,F,F,F] hHeld ?_
  refine join_ (σ := Nat) 1 #[T,T,T,T,T,T,T,T,T,F] (fun s_ => [(29, .agg #[.int .i64 t636, .int .i64 t637]), (11, .pointer (some ⟨s_, 0, none⟩))]) (fun s_ w' => (w'.cell? ⟨gb629, 0, none⟩ = some (.int .i64 a2_0) ∧ w'.cell? ⟨gb629, 1, none⟩ = some (.int .i64 a2_1) ∧ w'.cell? ⟨gb628, 0, none⟩ = some (.slice (some ad635) l0_0.length c0_0) ∧ w'.cell? ⟨gb628, 1, none⟩ = some (.slice A0_1 l0_1.length c0_1) ∧ w'.cell? ⟨gb631, 0, none⟩ = some (.int .i64 ((D40 l1 x14_1).f0)) ∧ w'.cell? ⟨gb631, 1, none⟩ = some (.int .i64 ((D40 l1 x14_1).f1)) ∧ w'.cell? ⟨gb631, 2, none⟩ = some (.int .i64 ((D40 l1 x14_1).f2.f0)) ∧ w'.cell? ⟨gb631, 3, none⟩ = some (.int .i64 ((D40 l1 x14_1).f2.f1)) ∧ w'.cell? ⟨gb631, 4, none⟩ = some (.int .i64 ((D40 l1 x14_1).f2.f2)) ∧ w'.cell? ⟨gb631, 5, none⟩ = some (.int .i64 ((D40 l1 x14_1).f3)) ∧ w'.cell? ⟨gb631, 6, none⟩ = some (.slice A630_6 ((D40 l1 x14_1).f4).length c630_6) ∧ w'.cell? ⟨gb631, 7, none⟩ = some (.slice A630_7 ((D40 l1 x14_1).f5).length c630_7) ∧ w'.cell? (ad635.add ((((D40 l1 x14_1).f1)).toNat * 2)) = some (.int .i64 ((D35 l0_0 ((D40 l1 x14_1).f1)).f0)) ∧ w'.cell? ⟨(ad635.add ((((D40 l1 x14_1).f1)).toNat * 2)).block, (ad635.add ((((D40 l1 x14_1).f1)).toNat * 2)).off + 1, none⟩ = some (.int .i64 ((D35 l0_0 ((D40 l1 x14_1).f1)).f1))) ∧ (Kd.R k35 35 w' w0.heap.size (fun k_ => (P3_ k_ ∨ w.heap.size ≤ k_) ∧ k_ ≠ gb629 ∧ k_ ≠ s_) v633 y632) ∧ (w'.heap[gb628]? = some (.cells #[.slice (some ad635) l0_0.length c0_0, .slice A0_1 l0_1.length c0_1] 26 (0, 0))) ∧ (w'.heap[gb629]? = some (.cells #[.int .i64 a2_0, .int .i64 a2_1] 35 (0, 0))) ∧ (w'.heap[gb631]? = some (.cells #[.int .i64 ((D40 l1 x14_1).f0), .int .i64 ((D40 l1 x14_1).f1), .int .i64 ((D40 l1 x14_1).f2.f0), .int .i64 ((D40 l1 x14_1).f2.f1), .int .i64 ((D40 l1 x14_1).f2.f2), .int .i64 ((D40 l1 x14_1).f3), .slice A630_6 ((D40 l1 x14_1).f4).length c630_6, .slice A630_7 ((D40 l1 x14_1).f5).length c630_7] 40 (0, 0))) ∧ (w'.heap[s_]? = some (.cells #[.int .i64 0, .int .i64 0] 35 (0, 0))) ∧ (w.heap.size ≤ s_) ∧ (w0.heap.size ≤ s_) ∧ (gb628 ≠ s_) ∧ (s_ ≠ gb628) ∧ (gb629 ≠ s_) ∧ (s_ ≠ gb629) ∧ (gb631 ≠ s_) ∧ (s_ ≠ gb631) ∧ (Kept w w' (fun k_ => P3_ k_)) ∧ (Below w0.heap.size w0 w')) ?_ ?_
  rotate_left
  ·(
  intro hCont
  refine two_ (i := 7) (j := 8) (Ni := some 29) (Nj := some 11) #[T,T,T,T,T,T,T,T,F,F] #[T,T,T,T,T,T,T,F,T,F] rfl rfl rfl rfl (two_of HT_.out (by kernel_rfl)) (by decide) (by decide) (fun K hK => ?_) (fun K hK => ?_)
  ·(
  skip
  refine ZGO Try.func76 #[.agg #[.int .i64 a2_0, .int .i64 a2_1], .agg #[.int .i64 ((D35 l0_0 ((D40 l1 x14_1).f1)).f0), .int .i64 ((D35 l0_0 ((D40 l1 x14_1).f1)).f1)]] ?_
  with_reducible refine (impl_Label_both.calls a2_0 a2_1 ((D35 l0_0 ((D40 l1 x14_1).f1)).f0) ((D35 l0_0 ((D40 l1 x14_1).f1)).f1) t636 t637 _ A13.out).mono ?_
  rintro e w24 ⟨rfl, hb⟩
  refine ⟨_, rfl, ?_⟩
  replace HO634 := AM (Kd.R_below (ZR HO634.out) hb)
  replace BK628 := ZW BK628 hb
  replace BK629 := ZW BK629 hb
  replace BK631 := ZW BK631 hb
  replace HK := AM (Kept.below (S := (fun k_ => P3_ k_)) (ZHK HK) hb)
  replace HB := ZT HB hb
  (try clear hb)
  (try clear hb2)
  (try clear hk)
  (try clear hi)
  refine hK.out _ _ ⟨ZA BK629 0, ZA BK629 1, ZA BK628 0, ZA BK628 1, ZA BK631 0, ZA BK631 1, ZA BK631 2, ZA BK631 3, ZA BK631 4, ZA BK631 5, ZA BK631 6, ZA BK631 7, (ZKS HR0_0 p635 q635 hy635_0 (ZHK HK)), (ZKS HR0_0 p635 q635 hy635_1 (ZHK HK))⟩ (fun hHeld => ?_)
  clear hK K
  refine ZNO 29 ?_
  refine one_ (i := 8) (N := some 11) #[T,T,T,T,T,T,T,T,T,F] rfl rfl (one_of HT_.out (by kernel_rfl)) (by decide) (fun K hK => ?_)
  refine box_step ?hg (N := 11) ?hd (cs := #[.int .i64 0, .int .i64 0]) (t := 35) ?hr ?_; (case hd => rfl); (case hg => rfl); (case hr => first | (go_simp; done) | (go_simp; rfl))
  intro gb638 hg w25 hbox hb
  have BK638 := AM (hbox)
  have GW638 := AM ((by rw [hg]; exact (by first | exact HK.out.1 | exact (show Kept w _ (fun k_ => P3_ k_) from ZHK HK).1) : w.heap.size ≤ gb638))
  have GE638 : Za (w0.heap.size ≤ gb638) := ZS hg
  have NB628_638 : Za (gb628 ≠ gb638) := ZN hg BK628
  have NB638_628 : Za (gb638 ≠ gb628) := ZM hg BK628
  have NB629_638 : Za (gb629 ≠ gb638) := ZN hg BK629
  have NB638_629 : Za (gb638 ≠ gb629) := ZM hg BK629
  have NB631_638 : Za (gb631 ≠ gb638) := ZN hg BK631
  have NB638_631 : Za (gb638 ≠ gb631) := ZM hg BK631
  replace HO634 := AM (Kd.R_below (Kd.R_elderB (ZR HO634.out) gb638 (Nat.le_of_eq hg.symm)) hb)
  replace BK628 := ZW BK628 hb
  replace BK629 := ZW BK629 hb
  replace BK631 := ZW BK631 hb
  replace HK := AM (Kept.below (S := (fun k_ => P3_ k_)) (ZHK HK) hb)
  replace HB := ZT HB hb
  clear hb hbox hg
  refine hK.out _ _ ⟨ZA BK629 0, ZA BK629 1, ZA BK628 0, ZA BK628 1, ZA BK631 0, ZA BK631 1, ZA BK631 2, ZA BK631 3, ZA BK631 4, ZA BK631 5, ZA BK631 6, ZA BK631 7, (ZKS HR0_0 p635 q635 hy635_0 (ZHK HK)), (ZKS HR0_0 p635 q635 hy635_1 (ZHK HK))⟩ (fun hHeld => ?_)
  clear hK K
  refine ZNO 11 ?_
  exact norm_ (by simp only [putAll, Act.put, List.setIfInBounds_toArray, List.set_cons_zero, List.set_cons_succ]) (hCont (gb638) _ ⟨hHeld, (by (with_reducible repeat (first | apply Kd.R_alloc | apply Kd.R_drewN | apply Kd.R_drew)); exact Kd.R_mono HO634.out (fun _ hk => ⟨hk.1.1, ⟨hk.1.2, hk.2⟩⟩)), (ZK BK628.out), (ZK BK629.out), (ZK BK631.out), (ZK BK638.out), GW638.out, GE638.out, NB628_638.out, NB638_628.out, NB629_638.out, NB638_629.out, NB631_638.out, NB638_631.out, (ZHK HK), (ZB)⟩))
  ·(
  skip
  refine box_step ?hg (N := 11) ?hd (cs := #[.int .i64 0, .int .i64 0]) (t := 35) ?hr ?_; (case hd => rfl); (case hg => rfl); (case hr => first | (go_simp; done) | (go_simp; rfl))
  intro gb638 hg w24 hbox hb
  have BK638 := AM (hbox)
  have GW638 := AM ((by rw [hg]; exact (by first | exact HK.out.1 | exact (show Kept w _ (fun k_ => P3_ k_) from ZHK HK).1) : w.heap.size ≤ gb638))
  have GE638 : Za (w0.heap.size ≤ gb638) := ZS hg
  have NB628_638 : Za (gb628 ≠ gb638) := ZN hg BK628
  have NB638_628 : Za (gb638 ≠ gb628) := ZM hg BK628
  have NB629_638 : Za (gb629 ≠ gb638) := ZN hg BK629
  have NB638_629 : Za (gb638 ≠ gb629) := ZM hg BK629
  have NB631_638 : Za (gb631 ≠ gb638) := ZN hg BK631
  have NB638_631 : Za (gb638 ≠ gb631) := ZM hg BK631
  replace HO634 := AM (Kd.R_below (Kd.R_elderB (ZR HO634.out) gb638 (Nat.le_of_eq hg.symm)) hb)
  replace BK628 := ZW BK628 hb
  replace BK629 := ZW BK629 hb
  replace BK631 := ZW BK631 hb
  replace HK := AM (Kept.below (S := (fun k_ => P3_ k_)) (ZHK HK) hb)
  replace HB := ZT HB hb
  clear hb hbox hg
  refine hK.out _ _ ⟨ZA BK629 0, ZA BK629 1, ZA BK628 0, ZA BK628 1, ZA BK631 0, ZA BK631 1, ZA BK631 2, ZA BK631 3, ZA BK631 4, ZA BK631 5, ZA BK631 6, ZA BK631 7, (ZKS HR0_0 p635 q635 hy635_0 (ZHK HK)), (ZKS HR0_0 p635 q635 hy635_1 (ZHK HK))⟩ (fun hHeld => ?_)
  clear hK K
  refine ZNO 11 ?_
  refine one_ (i := 7) (N := some 29) #[T,T,T,T,T,T,T,T,T,F] rfl rfl (one_of HT_.out (by kernel_rfl)) (by decide) (fun K hK => ?_)
  refine ZGO Try.func76 #[.agg #[.int .i64 a2_0, .int .i64 a2_1], .agg #[.int .i64 ((D35 l0_0 ((D40 l1 x14_1).f1)).f0), .int .i64 ((D35 l0_0 ((D40 l1 x14_1).f1)).f1)]] ?_
  with_reducible refine (impl_Label_both.calls a2_0 a2_1 ((D35 l0_0 ((D40 l1 x14_1).f1)).f0) ((D35 l0_0 ((D40 l1 x14_1).f1)).f1) t636 t637 _ A13.out).mono ?_
  rintro e w25 ⟨rfl, hb⟩
  refine ⟨_, rfl, ?_⟩
  replace HO634 := AM (Kd.R_below (ZR HO634.out) hb)
  replace BK628 := ZW BK628 hb
  replace BK629 := ZW BK629 hb
  replace BK631 := ZW BK631 hb
  replace BK638 := ZW BK638 hb
  replace HK := AM (Kept.below (S := (fun k_ => P3_ k_)) (ZHK HK) hb)
  replace HB := ZT HB hb
  (try clear hb)
  (try clear hb2)
  (try clear hk)
  (try clear hi)
  refine hK.out _ _ ⟨ZA BK629 0, ZA BK629 1, ZA BK628 0, ZA BK628 1, ZA BK631 0, ZA BK631 1, ZA BK631 2, ZA BK631 3, ZA BK631 4, ZA BK631 5, ZA BK631 6, ZA BK631 7, (ZKS HR0_0 p635 q635 hy635_0 (ZHK HK)), (ZKS HR0_0 p635 q635 hy635_1 (ZHK HK))⟩ (fun hHeld => ?_)
  clear hK K
  refine ZNO 29 ?_
  exact norm_ (by simp only [putAll, Act.put, List.setIfInBounds_toArray, List.set_cons_zero, List.set_cons_succ]) (hCont (gb638) _ ⟨hHeld, (by (with_reducible repeat (first | apply Kd.R_alloc | apply Kd.R_drewN | apply Kd.R_drew)); exact Kd.R_mono HO634.out (fun _ hk => ⟨hk.1.1, ⟨hk.1.2, hk.2⟩⟩)), (ZK BK628.out), (ZK BK629.out), (ZK BK631.out), (ZK BK638.out), GW638.out, GE638.out, NB628_638.out, NB638_628.out, NB629_638.out, NB638_629.out, NB631_638.out, NB638_631.out, (ZHK HK), (ZB)⟩)))
  rintro gb638 w26 ⟨hS_, h0_, h1_, h2_, h3_, h4_, h5_, h6_, h7_, h8_, h9_, h10_, h11_, h12_, h13_, h14_⟩
  try dsimp only at h0_ h1_ h2_ h3_ h4_ h5_ h6_ h7_ h8_ h9_ h10_ h11_ h12_ h13_ h14_
  have n0_ := AM h0_
  have n1_ := AM h1_
  have n2_ := AM h2_
  have n3_ := AM h3_
  have n4_ := AM h4_
  have n5_ := AM h5_
  have n6_ := AM h6_
  have n7_ := AM h7_
  have n8_ := AM h8_
  have n9_ := AM h9_
  have n10_ := AM h10_
  have n11_ := AM h11_
  have n12_ := AM h12_
  have n13_ := AM h13_
  have n14_ := AM h14_
  clear HO634 BK628 BK629 BK631 HK HB h0_ h1_ h2_ h3_ h4_ h5_ h6_ h7_ h8_ h9_ h10_ h11_ h12_ h13_ h14_
  have HO634 := n0_
  have BK628 := n1_
  have BK629 := n2_
  have BK631 := n3_
  have BK638 := n4_
  have GW638 := n5_
  have GE638 := n6_
  have NB628_638 := n7_
  have NB638_628 := n8_
  have NB629_638 := n9_
  have NB638_629 := n10_
  have NB631_638 := n11_
  have NB638_631 := n12_
  have HK := n13_
  have HB := n14_
  clear n0_ n1_ n2_ n3_ n4_ n5_ n6_ n7_ n8_ n9_ n10_ n11_ n12_ n13_ n14_
  try dsimp only at hS_
  have hHeld := hS_
  refine ZNP ?_
  refine one_ (i := 9) (N := none) #[T,T,T,T,T,T,T,T,T,T] rfl rfl (one_of HT_.out (by kernel_rfl)) (by decide) (fun K hK => ?_)
  have hs27 : w26.cell? ⟨gb638, 0, none⟩ = some (.int .i64 0) := ZA BK638 0
  have hfs27 := blk_frozen BK638.out 0
  have hns27_0 := NB628_638.out
  have hns27_1 := NB629_638.out
  have hns27_2 := NB631_638.out
  have hms27_0 := NB638_628.out
  have hms27_1 := NB638_629.out
  have hms27_2 := NB638_631.out
  have hs28 : w26.cell? ⟨gb638, 1, none⟩ = some (.int .i64 0) := ZA BK638 1
  have hfs28 := blk_frozen BK638.out 1
  have hns28_0 := NB628_638.out
  have hns28_1 := NB629_638.out
  have hns28_2 := NB631_638.out
  have hms28_0 := NB638_628.out
  have hms28_1 := NB638_629.out
  have hms28_2 := NB638_631.out
  refine skip_ (w1 := ?_) (by rfl) rfl ?_ ?_
  rotate_left
  ·(
  go_simp
  rfl)
  refine hK.out _ _ ⟨((cell_far (p := ⟨gb638, _, none⟩) NB629_638.out _).trans (((cell_far (p := ⟨gb638, _, none⟩) NB629_638.out _).trans (hHeld.1)))), ((cell_far (p := ⟨gb638, _, none⟩) NB629_638.out _).trans (((cell_far (p := ⟨gb638, _, none⟩) NB629_638.out _).trans (hHeld.2.1)))), ((cell_far (p := ⟨gb638, _, none⟩) NB628_638.out _).trans (((cell_far (p := ⟨gb638, _, none⟩) NB628_638.out _).trans (hHeld.2.2.1)))), ((cell_far (p := ⟨gb638, _, none⟩) NB628_638.out _).trans (((cell_far (p := ⟨gb638, _, none⟩) NB628_638.out _).trans (hHeld.2.2.2.1)))), ((cell_far (p := ⟨gb638, _, none⟩) NB631_638.out _).trans (((cell_far (p := ⟨gb638, _, none⟩) NB631_638.out _).trans (hHeld.2.2.2.2.1)))), ((cell_far (p := ⟨gb638, _, none⟩) NB631_638.out _).trans (((cell_far (p := ⟨gb638, _, none⟩) NB631_638.out _).trans (hHeld.2.2.2.2.2.1)))), ((cell_far (p := ⟨gb638, _, none⟩) NB631_638.out _).trans (((cell_far (p := ⟨gb638, _, none⟩) NB631_638.out _).trans (hHeld.2.2.2.2.2.2.1)))), ((cell_far (p := ⟨gb638, _, none⟩) NB631_638.out _).trans (((cell_far (p := ⟨gb638, _, none⟩) NB631_638.out _).trans (hHeld.2.2.2.2.2.2.2.1)))), ((cell_far (p := ⟨gb638, _, none⟩) NB631_638.out _).trans (((cell_far (p := ⟨gb638, _, none⟩) NB631_638.out _).trans (hHeld.2.2.2.2.2.2.2.2.1)))), ((cell_far (p := ⟨gb638, _, none⟩) NB631_638.out _).trans (((cell_far (p := ⟨gb638, _, none⟩) NB631_638.out _).trans (hHeld.2.2.2.2.2.2.2.2.2.1)))), ((cell_far (p := ⟨gb638, _, none⟩) NB631_638.out _).trans (((cell_far (p := ⟨gb638, _, none⟩) NB631_638.out _).trans (hHeld.2.2.2.2.2.2.2.2.2.2.1)))), ((cell_far (p := ⟨gb638, _, none⟩) NB631_638.out _).trans (((cell_far (p := ⟨gb638, _, none⟩) NB631_638.out _).trans (hHeld.2.2.2.2.2.2.2.2.2.2.2.1)))), (ZKS HR0_0 p635 q635 hy635_0 (ZHK HK)), (ZKS HR0_0 p635 q635 hy635_1 (ZHK HK))⟩ (fun hHeld => ?_)
  clear hK K
  refine done_ (done_of HT_.out (by kernel_rfl)) ?_
  have n0_ : Za (Kd.R k35 35 ((w26.setCell ⟨gb638, 0, none⟩ (.int .i64 t636)).setCell ⟨gb638, 1, none⟩ (.int .i64 t637)) w0.heap.size (fun k_ => (P3_ k_ ∨ w.heap.size ≤ k_) ∧ k_ ≠ gb629 ∧ k_ ≠ gb638) v633 y632) := ⟨by (with_reducible repeat (first | apply Kd.R_alloc | apply Kd.R_drewN | apply Kd.R_drew)); exact Kd.R_mono (Kd.R_far (p := ⟨gb638, 1, none⟩) (Kd.R_far (p := ⟨gb638, 0, none⟩) (Kd.R_mono HO634.out (fun k_ hk => (⟨hk, hk.2.2⟩ : _ ∧ k_ ≠ gb638))) (fun _ hk => hk.2) (.int .i64 t636)) (fun _ hk => hk.2) (.int .i64 t637)) (fun _ hk => ⟨hk.1.1, ⟨hk.1.2.1, hk.1.2.2⟩⟩)⟩
  have n1_ : Za (((w26.setCell ⟨gb638, 0, none⟩ (.int .i64 t636)).setCell ⟨gb638, 1, none⟩ (.int .i64 t637)).heap[gb628]? = some (.cells #[.slice (some ad635) l0_0.length c0_0, .slice A0_1 l0_1.length c0_1] 26 (0, 0))) := ⟨ZZ BK628.out⟩
  have n2_ : Za (((w26.setCell ⟨gb638, 0, none⟩ (.int .i64 t636)).setCell ⟨gb638, 1, none⟩ (.int .i64 t637)).heap[gb629]? = some (.cells #[.int .i64 a2_0, .int .i64 a2_1] 35 (0, 0))) := ⟨ZZ BK629.out⟩
  have n3_ : Za (((w26.setCell ⟨gb638, 0, none⟩ (.int .i64 t636)).setCell ⟨gb638, 1, none⟩ (.int .i64 t637)).heap[gb631]? = some (.cells #[.int .i64 ((D40 l1 x14_1).f0), .int .i64 ((D40 l1 x14_1).f1), .int .i64 ((D40 l1 x14_1).f2.f0), .int .i64 ((D40 l1 x14_1).f2.f1), .int .i64 ((D40 l1 x14_1).f2.f2), .int .i64 ((D40 l1 x14_1).f3), .slice A630_6 ((D40 l1 x14_1).f4).length c630_6, .slice A630_7 ((D40 l1 x14_1).f5).length c630_7] 40 (0, 0))) := ⟨ZZ BK631.out⟩
  have n4_ : Za (((w26.setCell ⟨gb638, 0, none⟩ (.int .i64 t636)).setCell ⟨gb638, 1, none⟩ (.int .i64 t637)).heap[gb638]? = some (.cells #[.int .i64 t636, .int .i64 t637] 35 (0, 0))) := ⟨ZZ BK638.out⟩
  have n5_ : Za (Kept w ((w26.setCell ⟨gb638, 0, none⟩ (.int .i64 t636)).setCell ⟨gb638, 1, none⟩ (.int .i64 t637)) (fun k_ => P3_ k_)) := ⟨ZHK HK⟩
  have n6_ : Za (Below w0.heap.size w0 ((w26.setCell ⟨gb638, 0, none⟩ (.int .i64 t636)).setCell ⟨gb638, 1, none⟩ (.int .i64 t637))) := ⟨ZB⟩
  (try clear HO634)
  (try clear BK628)
  (try clear BK629)
  (try clear BK631)
  (try clear BK638)
  (try clear HK)
  (try clear HB)
  generalize ((w26.setCell ⟨gb638, 0, none⟩ (.int .i64 t636)).setCell ⟨gb638, 1, none⟩ (.int .i64 t637)) = w29 at n0_ n1_ n2_ n3_ n4_ n5_ n6_ ⊢
  have HO634 := n0_
  have BK628 := n1_
  have BK629 := n2_
  have BK631 := n3_
  have BK638 := n4_
  have HK := n5_
  have HB := n6_
  clear n0_ n1_ n2_ n3_ n4_ n5_ n6_
  have hnb30 := NB628_638.out
  have hnc30 := NB638_628.out
  have hcz31 := ZC2 w29 BK628
  have hfz31 := ZF2 BK628
  have hnb32 := NB631_638.out
  have hnc32 := NB638_631.out
  have hcz33 := ZC8 w29 BK631
  have hfz33 := ZF8 BK631
  have hnb34 := NB638_629.out
  have hnc34 := NB629_638.out
  have hcz35 := ZC2 w29 BK638
  have hfz35 := ZF2 BK638
  obtain ⟨Ao36, co36, eo36⟩ := Kd.R_slice HO634.out
  subst eo36
  try go_wp2_with (first | ((with_reducible refine gate_callee (f := 54) rfl ?_); refine ZGL (some 35) Try.func54 #[.agg #[.slice (some ad635) l0_0.length c0_0, .slice A0_1 l0_1.length c0_1], .slice A630_6 ((D40 l1 x14_1).f4).length c630_6, .agg #[.int .i64 t636, .int .i64 t637], .slice Ao36 y632.length co36] ?_; (with_reducible refine (ih k1 (by have := HK1.out; omega) _ _ l0_0 _ _ l0_1 _ _ ((D40 l1 x14_1).f4) t636 t637 (fun k_ => some k_ = (.slice Ao36 y632.length co36 : Value).ownBlock) (.slice Ao36 y632.length co36) y632 t639 w0 _ ?side1 ?side2 HC0_0.out ?side4 HC0_1.out ?side6 HC630_6.out ?side8 A14.out).mono ?_); (case side1 => repeat (first | (with_reducible first | exact HB.out | apply below_alloc | apply pw_below_drewN | apply below_drew1 | refine below_set ?_ GE628.out | refine below_set ?_ GE629.out | refine below_set ?_ GE631.out | refine below_set ?_ GE638.out) | exact HB.out)); (case side2 => exact Kd.C_kept_call HR0_0.out (ZHK HK) (fun k_ hs_ => (fun e_ => (HO634.out.1 k_ e_.symm).1) hs_)); (case side4 => exact Kd.C_kept_call HR0_1.out (ZHK HK) (fun k_ hs_ => (fun e_ => (HO634.out.1 k_ e_.symm).1) hs_)); (case side6 => exact Kd.C_kept_call (fun W_ k_ => by have hw_ := Kd.kept_slot HR1.out (by have := (of_eq_true p630); have := (of_eq_true q630); omega) (by decide) (Kept.refl _ _) hy630_6 (add_block _ _) k_; obtain ⟨ad_, A6_, c6_, A7_, c7_, e_, m0_, m1_, m2_, m3_, m4_, m5_, m6_, m7_, y6_, z6_, y7_, z7_⟩ := at_T40 (HR1.out W_ k_) (x14_1) (by first | exact of_eq_true p630 | exact p630) (by first | exact of_eq_true q630 | exact q630); cases e_; rw [hw_] at m6_; cases m6_; exact z6_) (ZHK HK) (fun k_ hs_ => (fun e_ => (HO634.out.1 k_ e_.symm).1) hs_)); (case side8 => exact Kd.R_tight rfl HO634.out); rintro e w37 ⟨v640, rfl, ho0, hb, hkp⟩; refine ⟨_, rfl, ?_⟩; have n0_ := AM (blk_kept (ZK BK628.out) hkp (fun hs_ => (fun e_ => (Kd.R_ne HO634.out BK628.out (by decide)) e_) hs_)); have n1_ := AM (blk_kept (ZK BK629.out) hkp (fun hs_ => (fun e_ => (Kd.R_away HO634.out (fun _ hk => hk.2.1)) e_) hs_)); have n2_ := AM (blk_kept (ZK BK631.out) hkp (fun hs_ => (fun e_ => (Kd.R_ne HO634.out BK631.out (by decide)) e_) hs_)); have n3_ := AM (blk_kept (ZK BK638.out) hkp (fun hs_ => (fun e_ => (Kd.R_away HO634.out (fun _ hk => hk.2.2)) e_) hs_)); have n4_ := AM (Kd.R_mono (ok' := fun k_ => (P3_ k_ ∨ w.heap.size ≤ k_) ∧ k_ ≠ gb629 ∧ k_ ≠ gb638) ho0 (fun k_ hk_ => ⟨Or.elim hk_ (fun hs_ => (HO634.out.1 k_ (hs_).symm).1) (fun hn_ => (.inr (Nat.le_trans (by first | exact HK.out.1 | exact (show Kept w _ (fun k_ => P3_ k_) from ZHK HK).1) hn_))), Or.elim hk_ (fun hs_ => fun e_ => (Kd.R_away HO634.out (fun _ hk => hk.2.1)) (by rw [← e_]; exact hs_)) (fun hn_ => (Kd.freshB (g := gb629) (o := .cells #[.int .i64 a2_0, .int .i64 a2_1] 35 (0, 0)) (ZK BK629.out) k_ hn_)), Or.elim hk_ (fun hs_ => fun e_ => (Kd.R_away HO634.out (fun _ hk => hk.2.2)) (by rw [← e_]; exact hs_)) (fun hn_ => (Kd.freshB (g := gb638) (o := .cells #[.int .i64 t636, .int .i64 t637] 35 (0, 0)) (ZK BK638.out) k_ hn_))⟩)); have n5_ := AM (Kept.then_ (S := (fun k_ => P3_ k_)) (ZHK HK) hkp (fun k_ hs_ => (fun e_ => (HO634.out.1 k_ e_.symm).1) hs_)); have n6_ := AM (hb); clear BK628 BK629 BK631 BK638 HK HB HO634; have BK628 := n0_; have BK629 := n1_; have BK631 := n2_; have BK638 := n3_; have HO641 := n4_; have HK := n5_; have HB := n6_; clear n0_ n1_ n2_ n3_ n4_ n5_ n6_; (try clear hb); (try clear hkp); (try clear ho0); have hcz38 := ZC2 w37 BK628; have hfz38 := ZF2 BK628; have hcz39 := ZC8 w37 BK631; have hfz39 := ZF8 BK631; have hcz40 := ZC2 w37 BK638; have hfz40 := ZF2 BK638; obtain ⟨Ao41, co41, eo41⟩ := Kd.R_slice HO641.out; subst eo41) | ((with_reducible refine gate_callee (f := 54) rfl ?_); refine ZGL (some 41) Try.func54 #[.agg #[.slice (some ad635) l0_0.length c0_0, .slice A0_1 l0_1.length c0_1], .slice A630_7 ((D40 l1 x14_1).f5).length c630_7, .agg #[.int .i64 t636, .int .i64 t637], .slice Ao41 t639.length co41] ?_; (with_reducible refine (ih k1 (by have := HK1.out; omega) _ _ l0_0 _ _ l0_1 _ _ ((D40 l1 x14_1).f5) t636 t637 (fun k_ => some k_ = (.slice Ao41 t639.length co41 : Value).ownBlock) (.slice Ao41 t639.length co41) t639 t642 w0 _ ?side1 ?side2 HC0_0.out ?side4 HC0_1.out ?side6 HC630_7.out ?side8 A15.out).mono ?_); (case side1 => repeat (first | (with_reducible first | exact HB.out | apply below_alloc | apply pw_below_drewN | apply below_drew1 | refine below_set ?_ GE628.out | refine below_set ?_ GE629.out | refine below_set ?_ GE631.out | refine below_set ?_ GE638.out) | exact HB.out)); (case side2 => exact Kd.C_kept_call HR0_0.out (ZHK HK) (fun k_ hs_ => (fun e_ => (HO641.out.1 k_ e_.symm).1) hs_)); (case side4 => exact Kd.C_kept_call HR0_1.out (ZHK HK) (fun k_ hs_ => (fun e_ => (HO641.out.1 k_ e_.symm).1) hs_)); (case side6 => exact Kd.C_kept_call (fun W_ k_ => by have hw_ := Kd.kept_slot HR1.out (by have := (of_eq_true p630); have := (of_eq_true q630); omega) (by decide) (Kept.refl _ _) hy630_7 (add_block _ _) k_; obtain ⟨ad_, A6_, c6_, A7_, c7_, e_, m0_, m1_, m2_, m3_, m4_, m5_, m6_, m7_, y6_, z6_, y7_, z7_⟩ := at_T40 (HR1.out W_ k_) (x14_1) (by first | exact of_eq_true p630 | exact p630) (by first | exact of_eq_true q630 | exact q630); cases e_; rw [hw_] at m7_; cases m7_; exact z7_) (ZHK HK) (fun k_ hs_ => (fun e_ => (HO641.out.1 k_ e_.symm).1) hs_)); (case side8 => exact Kd.R_tight rfl HO641.out); rintro e w42 ⟨v643, rfl, ho0, hb, hkp⟩; refine ⟨_, rfl, ?_⟩; have n0_ := AM (blk_kept (ZK BK628.out) hkp (fun hs_ => (fun e_ => (Kd.R_ne HO641.out BK628.out (by decide)) e_) hs_)); have n1_ := AM (blk_kept (ZK BK629.out) hkp (fun hs_ => (fun e_ => (Kd.R_away HO641.out (fun _ hk => hk.2.1)) e_) hs_)); have n2_ := AM (blk_kept (ZK BK631.out) hkp (fun hs_ => (fun e_ => (Kd.R_ne HO641.out BK631.out (by decide)) e_) hs_)); have n3_ := AM (blk_kept (ZK BK638.out) hkp (fun hs_ => (fun e_ => (Kd.R_away HO641.out (fun _ hk => hk.2.2)) e_) hs_)); have n4_ := AM (Kd.R_mono (ok' := fun k_ => (P3_ k_ ∨ w.heap.size ≤ k_) ∧ k_ ≠ gb629 ∧ k_ ≠ gb638) ho0 (fun k_ hk_ => ⟨Or.elim hk_ (fun hs_ => (HO641.out.1 k_ (hs_).symm).1) (fun hn_ => (.inr (Nat.le_trans (by first | exact HK.out.1 | exact (show Kept w _ (fun k_ => P3_ k_) from ZHK HK).1) hn_))), Or.elim hk_ (fun hs_ => fun e_ => (Kd.R_away HO641.out (fun _ hk => hk.2.1)) (by rw [← e_]; exact hs_)) (fun hn_ => (Kd.freshB (g := gb629) (o := .cells #[.int .i64 a2_0, .int .i64 a2_1] 35 (0, 0)) (ZK BK629.out) k_ hn_)), Or.elim hk_ (fun hs_ => fun e_ => (Kd.R_away HO641.out (fun _ hk => hk.2.2)) (by rw [← e_]; exact hs_)) (fun hn_ => (Kd.freshB (g := gb638) (o := .cells #[.int .i64 t636, .int .i64 t637] 35 (0, 0)) (ZK BK638.out) k_ hn_))⟩)); have n5_ := AM (Kept.then_ (S := (fun k_ => P3_ k_)) (ZHK HK) hkp (fun k_ hs_ => (fun e_ => (HO641.out.1 k_ e_.symm).1) hs_)); have n6_ := AM (hb); clear BK628 BK629 BK631 BK638 HK HB HO641; have BK628 := n0_; have BK629 := n1_; have BK631 := n2_; have BK638 := n3_; have HO644 := n4_; have HK := n5_; have HB := n6_; clear n0_ n1_ n2_ n3_ n4_ n5_ n6_; (try clear hb); (try clear hkp); (try clear ho0)))
  go_roundg k1
  case measure => have := HK1.out; omega
  case rel => exact ⟨(t642), (wrap64 (x14_1 + 1)), (by first | rfl | (simp; done) | (simp [*]; done)), H', ⟨by have := HK1.out; omega⟩, ⟨by (with_reducible repeat (first | apply Kd.R_alloc | apply Kd.R_drewN | apply Kd.R_drew)); exact Kd.R_mono HO644.out (fun _ hk => ⟨hk.1, hk.2.1⟩)⟩, ⟨ZK BK628.out⟩, ⟨ZK BK629.out⟩, ⟨ZHK HK⟩, ⟨ZB⟩⟩)
  ·(
  rw [if_neg c12] at H
  exact absurd H (by simp)))
  ·(
  rw [if_neg c11] at H
  exact absurd H (by simp)))
  ·(
  rw [if_neg c10] at H
  exact absurd H (by simp)))
  ·(
  rw [if_neg c9] at H
  exact absurd H (by simp)))
  ·(
  rw [if_neg c8] at H
  exact absurd H (by simp)))
  ·(
  rw [if_neg c7] at H
  have c7b0 := decide_eq_false c7
  clear c7
  obtain rfl := Option.some.inj H
  go_wp2
  go_ret
  exact ⟨_, ZE, by (with_reducible repeat (first | apply Kd.R_alloc | apply Kd.R_drewN | apply Kd.R_drew)); exact Kd.R_mono HO_3.out (fun _ hk => hk.1), ZB, ZHK HK⟩))

end Go.Proofs.Ytkkdeojbkfjlpaa.A
