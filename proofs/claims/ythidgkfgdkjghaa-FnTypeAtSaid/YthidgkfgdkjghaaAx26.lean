/- By wip/tools/pr.py: Go functions as Lean functions, with contracts. -/
import Derived.Test.YthidgkfgdkjghaaAx0
import Derived.Test.YthidgkfgdkjghaaAx19
import Derived.Test.YthidgkfgdkjghaaAx20
namespace Go.Proofs.Ythidgkfgdkjghaa.A
open Go.RowKit Go.Proofs.YthidgkfgdkjghaaW.PrintWords Go.Proofs.YthidgkfgdkjghaaW.PrintLast Go.Proofs.YthidgkfgdkjghaaW.PrintMore
attribute [local go_sem] max2_int min2_int max_two min_two max_three min_three max_four min_four
set_option linter.unusedVariables false
set_option linter.unusedSimpArgs false
set_option maxHeartbeats 8000000
set_option maxRecDepth 100000

/-! ### impl_Prog_labels: function 73 -/
mutual
def impl_Prog_labels.l0 : Nat → List (S39) → List (S32) → Int → Int → List (S39) → List (S32) → Int → Int → Option ((List (S39)))
 | 0, _, _, _, _, _, _, _, _ => none
 | k + 1, x3, x12, x13, x14, x601000, x601001, x602000, x602001 => if x14 < x13 then (if 0 ≤ x14 then (if x14 < (x12.length : Int) then (if x3.length < 8796093022208 then (if 0 ≤ ((D32 x12 x14).f1) then (if ((D32 x12 x14).f1) < (x601000.length : Int) then ((impl_Label_both.f x602000 x602001 ((D39 x601000 ((D32 x12 x14).f1)).f0) ((D39 x601000 ((D32 x12 x14).f1)).f1)).bind fun bt608 => ((impl_Prog_labels.f k x601000 x601001 ((D32 x12 x14).f4) bt608.1 bt608.2 (x3 ++ [(⟨x602000, x602001⟩ : S39)])).bind fun t611 => ((impl_Prog_labels.f k x601000 x601001 ((D32 x12 x14).f5) bt608.1 bt608.2 t611).bind fun t614 => (impl_Prog_labels.l0 k t614 x12 x13 (wrap64 (x14 + 1)) x601000 x601001 x602000 x602001)))) else (none)) else (none)) else (none)) else (none)) else (none)) else (some x3)
def impl_Prog_labels.f : Nat → List (S39) → List (S32) → List (S32) → Int → Int → List (S39) → Option ((List (S39)))
 | 0, _, _, _, _, _, _ => none
 | k + 1, l0_0, l0_1, l1, a2_0, a2_1, l3 => impl_Prog_labels.l0 k l3 l1 (l1.length : Int) 0 l0_0 l0_1 a2_0 a2_1
end
def impl_Prog_labels.T5 : Bool × List (List Nat × List Nat) := (true, [([], []), ([], []), ([1], [1]), ([], []), ([3], [3]), ([2, 4], [2, 4]), ([5], [5]), ([0, 6], [0, 6]), ([], []), ([8, 7, 7, 0, 1, 2, 3, 4, 5, 6, 7, 8], [7, 8])])
def impl_Prog_labels.B5 : List Nat := [0, 0, 2, 0, 8, 30, 62, 127, 0, 511]
theorem impl_Prog_labels.tab5 : rtab .any (opsOf Try.f73 5) = impl_Prog_labels.T5 := by kernel_rfl
theorem impl_Prog_labels.bits5 : waitsOk impl_Prog_labels.T5.2 impl_Prog_labels.B5 = true := by kernel_rfl
theorem impl_Prog_labels.calls (k : Nat) : ∀ (A0_0 : Option Addr) (c0_0 : Nat) (l0_0 : List (S39)) (A0_1 : Option Addr) (c0_1 : Nat) (l0_1 : List (S32)) (A1 : Option Addr) (c1 : Nat) (l1 : List (S32)) (a2_0 : Int) (a2_1 : Int) (P3_ : Nat → Prop) (u9000_ : Value) (l3 : List (S39)) (r : List (S39)) (w0 w : World) (hB : Below w0.heap.size w0 w) (hr0_0 : ∀ W_, Kept w W_ (fun k_ => P3_ k_) → Kd.C k39 W_ A0_0 l0_0.length l0_0) (hc0_0 : l0_0.length ≤ c0_0) (hr0_1 : ∀ W_, Kept w W_ (fun k_ => P3_ k_) → Kd.C k32 W_ A0_1 l0_1.length l0_1) (hc0_1 : l0_1.length ≤ c0_1) (hr1 : ∀ W_, Kept w W_ (fun k_ => P3_ k_) → Kd.C k32 W_ A1 l1.length l1) (hc1 : l1.length ≤ c1) (ho3 : Kd.R k39 39 w w0.heap.size P3_ u9000_ l3) (h : impl_Prog_labels.f k l0_0 l0_1 l1 a2_0 a2_1 l3 = some r),
  Calls Try.prog 73 #[.agg #[.slice A0_0 l0_0.length c0_0, .slice A0_1 l0_1.length c0_1], .slice A1 l1.length c1, .agg #[.int .i64 a2_0, .int .i64 a2_1], u9000_] w fun e w' => ∃ v0_ : Value, e = .returned (v0_) ∧ Kd.R k39 39 w' w0.heap.size (fun k_ => (P3_ k_ ∨ w.heap.size ≤ k_)) v0_ r ∧ Below w0.heap.size w0 w' ∧ Kept w w' (fun k_ => P3_ k_) := by
 induction k using Nat.strongRecOn with
 | _ k ih =>
 intro A0_0 c0_0 l0_0 A0_1 c0_1 l0_1 A1 c1 l1 a2_0 a2_1 P3_ u9000_ l3 r w0 w hB hr0_0 hc0_0 hr0_1 hc0_1 hr1 hc1 ho3 h
 cases k with
 | zero => exact absurd h (by simp [impl_Prog_labels.f])
 | succ k =>
 simp only [impl_Prog_labels.f] at h
 have hu26 := Try.underlying26
 have hu39 := Try.underlying39
 have hu32 := Try.underlying32
 have HR0_0 := AM hr0_0
 have HC0_0 := AM hc0_0
 clear hr0_0 hc0_0
 have HR0_1 := AM hr0_1
 have HC0_1 := AM hc0_1
 clear hr0_1 hc0_1
 have HR1 := AM hr1
 have HC1 := AM hc1
 clear hr1 hc1
 have HO3 := AM (show Kd.R k39 39 w w0.heap.size (fun k_ => (P3_ k_ ∨ w.heap.size ≤ k_)) u9000_ l3 from Kd.R_mono ho3 (fun k_ hk => (.inl hk)))
 have HK := AM (Kept.refl w (fun k_ => P3_ k_))
 have HW0 := AM hB.size
 have HB := AM hB
 clear hB
 have H : (impl_Prog_labels.l0 k l3 l1 (l1.length : Int) 0 l0_0 l0_1 a2_0 a2_1) = some r := h
 clear h
 have H' := AM H
 clear H
 go_enter Try.func73, Try.ntmps73
 go_wp2_with (first | ((with_reducible refine gate_dst (N := 4) rfl ?_); refine ZX (N := 4) (cs := #[.slice A0_0 l0_0.length c0_0, .slice A0_1 l0_1.length c0_1]) (t := 26) ?_; intro gb600 hg w5 hbox hb; have BK600 := AM (hbox); have GW600 := AM ((by rw [hg]; exact (by first | exact HK.out.1 | exact (show Kept w _ (fun k_ => P3_ k_) from ZHK HK).1) : w.heap.size ≤ gb600)); have GE600 : Za (w0.heap.size ≤ gb600) := ZS hg; replace HO3 := AM (Kd.R_below (ZR HO3.out) hb); replace HK := AM (Kept.below (S := (fun k_ => P3_ k_)) (ZHK HK) hb); replace HB := ZT HB hb; clear hb hbox hg) | ((with_reducible refine gate_dst (N := 6) rfl ?_); refine ZX (N := 6) (cs := #[.int .i64 a2_0, .int .i64 a2_1]) (t := 39) ?_; intro gb601 hg w6 hbox hb; have BK601 := AM (hbox); have GW601 := AM ((by rw [hg]; exact (by first | exact HK.out.1 | exact (show Kept w _ (fun k_ => P3_ k_) from ZHK HK).1) : w.heap.size ≤ gb601)); have GE601 : Za (w0.heap.size ≤ gb601) := ZS hg; have NB600_601 : Za (gb600 ≠ gb601) := ZN hg BK600; have NB601_600 : Za (gb601 ≠ gb600) := ZM hg BK600; replace HO3 := AM (Kd.R_below (Kd.R_elderB (ZR HO3.out) gb601 (Nat.le_of_eq hg.symm)) hb); replace BK600 := ZW BK600 hb; replace HK := AM (Kept.below (S := (fun k_ => P3_ k_)) (ZHK HK) hb); replace HB := ZT HB hb; clear hb hbox hg))
 go_loopg [3, 14] k (fun kq v3 v14 w' => ∃ (x3_1 : List (S39)) (x14_1 : Int), v14 = .int .i64 x14_1 ∧ Za (impl_Prog_labels.l0 kq x3_1 l1 (l1.length : Int) x14_1 l0_0 l0_1 a2_0 a2_1 = some r) ∧ Za (kq ≤ k) ∧ Za (Kd.R k39 39 w' w0.heap.size (fun k_ => (P3_ k_ ∨ w.heap.size ≤ k_) ∧ k_ ≠ gb601) v3 x3_1) ∧ Za (w'.heap[gb600]? = some (.cells #[(.slice A0_0 l0_0.length c0_0), (.slice A0_1 l0_1.length c0_1)] 26 (0, 0))) ∧ Za (w'.heap[gb601]? = some (.cells #[.int .i64 a2_0, .int .i64 a2_1] 39 (0, 0))) ∧ Za (Kept w w' (fun k_ => P3_ k_)) ∧ Za (Below w0.heap.size w0 w'))
 case atStart => exact ⟨(l3), (0), (by first | rfl | (simp; done) | (simp [*]; done)), H', ⟨Nat.le_refl _⟩, ⟨ZR HO3.out⟩, ⟨ZK BK600.out⟩, ⟨ZK BK601.out⟩, ⟨ZHK HK⟩, ⟨ZB⟩⟩
 case round => (
 clear H'
 try clear c1
 try clear p2
 obtain ⟨x3_1, x14_1, rfl, HA, HK1, HO_3, BK600, BK601, HK, HB⟩ := hrel
 cases gk with
 | zero => exact absurd HA.out (by simp [impl_Prog_labels.l0])
 | succ k1 =>
  have H := HA.out
  clear HA
  simp only [impl_Prog_labels.l0] at H
  by_cases c7 : x14_1 < (l1.length : Int)
  ·(
  rw [if_pos c7] at H
  have c7b0 := decide_eq_true c7
  clear c7
  by_cases c8 : 0 ≤ x14_1
  ·(
  rw [if_pos c8] at H
  have c8b0 := decide_eq_true c8
  clear c8
  by_cases c9 : x14_1 < (l1.length : Int)
  ·(
  rw [if_pos c9] at H
  have c9b0 := decide_eq_true c9
  clear c9
  by_cases c10 : x3_1.length < 8796093022208
  ·(
  rw [if_pos c10] at H
  have LMc10 := AM c10
  clear c10
  obtain ⟨y604, hy604⟩ : ∃ y_ : List (S39), y_ = (x3_1 ++ [(⟨a2_0, a2_1⟩ : S39)]) := ⟨_, rfl⟩
  replace H : (if 0 ≤ ((D32 l1 x14_1).f1) then (if ((D32 l1 x14_1).f1) < (l0_0.length : Int) then ((impl_Label_both.f a2_0 a2_1 ((D39 l0_0 ((D32 l1 x14_1).f1)).f0) ((D39 l0_0 ((D32 l1 x14_1).f1)).f1)).bind fun bt608 => ((impl_Prog_labels.f k1 l0_0 l0_1 ((D32 l1 x14_1).f4) bt608.1 bt608.2 y604).bind fun t611 => ((impl_Prog_labels.f k1 l0_0 l0_1 ((D32 l1 x14_1).f5) bt608.1 bt608.2 t611).bind fun t614 => (impl_Prog_labels.l0 k1 t614 l1 (l1.length : Int) (wrap64 (x14_1 + 1)) l0_0 l0_1 a2_0 a2_1)))) else (none)) else (none)) = some r := by first | (rw [hy604]; with_reducible exact H) | (have H2_ := (Option.bind_some _ _).symm.trans H; rw [hy604]; with_reducible exact H2_) | (have H2_ := (Option.bind_some _ _).symm.trans H; with_reducible exact H2_) | with_reducible exact H | (rw [hy604]; exact H) | exact H
  have Ny604 := AM hy604
  clear hy604
  by_cases c11 : 0 ≤ ((D32 l1 x14_1).f1)
  ·(
  rw [if_pos c11] at H
  have c11b0 := decide_eq_true c11
  clear c11
  by_cases c12 : ((D32 l1 x14_1).f1) < (l0_0.length : Int)
  ·(
  rw [if_pos c12] at H
  have c12b0 := decide_eq_true c12
  clear c12
  obtain ⟨⟨t608, t609⟩, A13, H⟩ := ZOB H; try dsimp only at H
  obtain ⟨t611, A14, H⟩ := ZOB H; try dsimp only at H
  obtain ⟨t614, A15, H⟩ := ZOB H; try dsimp only at H
  have H' := AM H
  clear H
  have p602 : 0 ≤ (x14_1 : Int) := ZD
  have q602 : x14_1 < (l1.length : Int) := ZD
  obtain ⟨ad602, A602_6, c602_6, A602_7, c602_7, e602, hx602_0, hx602_1, hx602_2, hx602_3, hx602_4, hx602_5, hx602_6, hx602_7, hl602_6, hi602_6, hl602_7, hi602_7⟩ := at_T32 (Kd.C_kept_now HR1.out HK.out) x14_1 p602 q602
  cases e602
  have hy602_0 := Kd.kept_slot HR1.out (by omega) (by decide) (ZHK HK) hx602_0 (add_block _ _) (Kept.refl _ _)
  have hy602_1 := Kd.kept_slot HR1.out (by omega) (by decide) (ZHK HK) hx602_1 (add_block _ _) (Kept.refl _ _)
  have hy602_2 := Kd.kept_slot HR1.out (by omega) (by decide) (ZHK HK) hx602_2 (add_block _ _) (Kept.refl _ _)
  have hy602_3 := Kd.kept_slot HR1.out (by omega) (by decide) (ZHK HK) hx602_3 (add_block _ _) (Kept.refl _ _)
  have hy602_4 := Kd.kept_slot HR1.out (by omega) (by decide) (ZHK HK) hx602_4 (add_block _ _) (Kept.refl _ _)
  have hy602_5 := Kd.kept_slot HR1.out (by omega) (by decide) (ZHK HK) hx602_5 (add_block _ _) (Kept.refl _ _)
  have hy602_6 := Kd.kept_slot HR1.out (by omega) (by decide) (ZHK HK) hx602_6 (add_block _ _) (Kept.refl _ _)
  have hy602_7 := Kd.kept_slot HR1.out (by omega) (by decide) (ZHK HK) hx602_7 (add_block _ _) (Kept.refl _ _)
  have HR602_6 := AM hi602_6
  have HC602_6 := AM hl602_6
  clear hi602_6 hl602_6
  have HR602_7 := AM hi602_7
  have HC602_7 := AM hl602_7
  clear hi602_7 hl602_7
  replace p602 := eq_true p602
  replace q602 := eq_true q602
  try go_wp2_with (first | ((with_reducible refine gate_dst (N := 10) rfl ?_); refine ZX (N := 10) (cs := #[.int .i64 0, .int .i64 0, .int .i64 0, .int .i64 0, .int .i64 0, .int .i64 0, .slice none 0 0, .slice none 0 0]) (t := 32) ?_; intro gb603 hg w16 hbox hb; have BK603 := AM (hbox); have GW603 := AM ((by rw [hg]; exact (by first | exact HK.out.1 | exact (show Kept w _ (fun k_ => P3_ k_) from ZHK HK).1) : w.heap.size ≤ gb603)); have GE603 : Za (w0.heap.size ≤ gb603) := ZS hg; have NB600_603 : Za (gb600 ≠ gb603) := ZN hg BK600; have NB603_600 : Za (gb603 ≠ gb600) := ZM hg BK600; have NB601_603 : Za (gb601 ≠ gb603) := ZN hg BK601; have NB603_601 : Za (gb603 ≠ gb601) := ZM hg BK601; replace HO_3 := AM (Kd.R_below (ZR HO_3.out) hb); replace BK600 := ZW BK600 hb; replace BK601 := ZW BK601 hb; replace HR602_6 := AM (Kd.C_below (ZQ HR602_6.out) hb); replace HR602_7 := AM (Kd.C_below (ZQ HR602_7.out) hb); replace HK := AM (Kept.below (S := (fun k_ => P3_ k_)) (ZHK HK) hb); replace HB := ZT HB hb; clear hb hbox hg; have hnb17 := NB603_600.out; have hnc17 := NB600_603.out; have hnb18 := NB603_601.out; have hnc18 := NB601_603.out; have hcz19 := ZC8 w16 BK603; have hfz19 := ZF8 BK603; have hnb20 := NB601_600.out; have hnc20 := NB600_601.out; have hcz21 := ZC2 w16 BK601; have hfz21 := ZF2 BK601) | ((with_reducible refine gate_builtin (b := .append) (xs := #[.tmp 18, .tmp 20]) rfl ?_); at_builtin; refine Kd.R_append k39 (w0 := w0) w0.heap.size rfl (.tmp 18) (.tmp 20) 23 39 (.agg #[(.int .i64 0), (.int .i64 0)]) 16 rfl Try.underlying23 info39 rfl (by decide) (by omega) u3 x3_1 (⟨a2_0, a2_1⟩ : S39) [.int .i64 a2_0, .int .i64 a2_1] (fun k_ => (P3_ k_ ∨ w.heap.size ≤ k_) ∧ k_ ≠ gb601) (fun _ => False) rfl (by first | (go_simp; done) | (go_simp; rfl)) ?aP (fun _ hk => hk.elim) ?aF ?aO ?aB ?aS ?aL ?_; (case aP => exact k39_mkM _ _ _ (⟨a2_0, a2_1⟩ : S39)); (case aB => exact (ZB)); (case aF => exact (fun k_ hk => ⟨(.inr (Nat.le_trans (show Kept w _ (fun k_ => P3_ k_) from ZHK HK).1 hk)), Kd.freshB (g := gb601) (o := .cells #[.int .i64 a2_0, .int .i64 a2_1] 39 (0, 0)) (ZZ BK601.out) k_ hk⟩)); (case aO => exact (by (with_reducible repeat (first | apply Kd.R_alloc | apply Kd.R_drewN | apply Kd.R_drew)); exact Kd.R_mono (Kd.R_far (p := ⟨gb603, 7, none⟩) (Kd.R_far (p := ⟨gb603, 6, none⟩) (Kd.R_far (p := ⟨gb603, 5, none⟩) (Kd.R_far (p := ⟨gb603, 4, none⟩) (Kd.R_far (p := ⟨gb603, 3, none⟩) (Kd.R_far (p := ⟨gb603, 2, none⟩) (Kd.R_far (p := ⟨gb603, 1, none⟩) (Kd.R_far (p := ⟨gb603, 0, none⟩) (Kd.R_types HO_3.out BK603.out (by decide)) (fun _ hk => hk.2) (.int .i64 ((D32 l1 x14_1).f0))) (fun _ hk => hk.2) (.int .i64 ((D32 l1 x14_1).f1))) (fun _ hk => hk.2) (.int .i64 ((D32 l1 x14_1).f2.f0))) (fun _ hk => hk.2) (.int .i64 ((D32 l1 x14_1).f2.f1))) (fun _ hk => hk.2) (.int .i64 ((D32 l1 x14_1).f2.f2))) (fun _ hk => hk.2) (.int .i64 ((D32 l1 x14_1).f3))) (fun _ hk => hk.2) (.slice A602_6 ((D32 l1 x14_1).f4).length c602_6)) (fun _ hk => hk.2) (.slice A602_7 ((D32 l1 x14_1).f5).length c602_7)) (fun _ hk => ⟨hk.1.1, hk.1.2⟩))); (case aS => exact (below_size (ZB))); (case aL => have := LMc10.out; omega); intro v605 w22 ho hb hg hat; rw [← Ny604.out] at ho; have n0_ := AM (blk_grown (g := gb600) (o := .cells #[.slice A0_0 l0_0.length c0_0, .slice A0_1 l0_1.length c0_1] 26 (0, 0)) (ZZ BK600.out) hg (Kd.R_ne HO_3.out BK600.out (by decide))); have n1_ := AM (blk_grown (g := gb601) (o := .cells #[.int .i64 a2_0, .int .i64 a2_1] 39 (0, 0)) (ZZ BK601.out) hg (Kd.R_away HO_3.out (fun _ hk => hk.2))); have n2_ := AM (blk_grown (g := gb603) (o := .cells #[.int .i64 ((D32 l1 x14_1).f0), .int .i64 ((D32 l1 x14_1).f1), .int .i64 ((D32 l1 x14_1).f2.f0), .int .i64 ((D32 l1 x14_1).f2.f1), .int .i64 ((D32 l1 x14_1).f2.f2), .int .i64 ((D32 l1 x14_1).f3), .slice A602_6 ((D32 l1 x14_1).f4).length c602_6, .slice A602_7 ((D32 l1 x14_1).f5).length c602_7] 32 (0, 0)) (ZZ BK603.out) hg (Kd.R_ne HO_3.out BK603.out (by decide))); have n3_ := AM (hb); have n4_ := AM (Kept.of_grown (S := (fun k_ => P3_ k_)) hg (ZHK HK) (fun k_ e_ => (HO_3.out.1 k_ e_).1)); have n5_ := AM (ho); clear BK600 BK601 BK603 HB HK HO_3; have BK600 := n0_; have BK601 := n1_; have BK603 := n2_; have HB := n3_; have HK := n4_; have HO606 := n5_; clear n0_ n1_ n2_ n3_ n4_ n5_ ho hb hg hat))
  replace HO606 := AM (Kd.R_drew HO606.out)
  replace BK600 := AM (blk_drew BK600.out)
  replace BK601 := AM (blk_drew BK601.out)
  replace BK603 := AM (blk_drew BK603.out)
  replace HK := AM (Kept.drew HK.out)
  replace HB := AM (below_drew1 HB.out)
  have p607 : 0 ≤ (((D32 l1 x14_1).f1) : Int) := ZD
  have q607 : ((D32 l1 x14_1).f1) < (l0_0.length : Int) := ZD
  obtain ⟨ad607, e607, hx607_0, hx607_1⟩ := at_T39 (Kd.C_kept_now HR0_0.out HK.out) ((D32 l1 x14_1).f1) p607 q607
  have hw607_1 := hx607_1
  have hw607_0 := hx607_0
  cases e607
  have hy607_0 := Kd.kept_slot HR0_0.out (by omega) (by decide) (ZHK HK) hx607_0 (add_block _ _) (Kept.refl _ _)
  have hy607_1 := Kd.kept_slot HR0_0.out (by omega) (by decide) (ZHK HK) hx607_1 (add_block _ _) (Kept.refl _ _)
  replace p607 := eq_true p607
  replace q607 := eq_true q607
  refine start_ (n := 10) (S := fun w' => w'.cell? ⟨gb601, 0, none⟩ = some (.int .i64 a2_0) ∧ w'.cell? ⟨gb601, 1, none⟩ = some (.int .i64 a2_1) ∧ w'.cell? ⟨gb600, 0, none⟩ = some (.slice (some ad607) l0_0.length c0_0) ∧ w'.cell? ⟨gb600, 1, none⟩ = some (.slice A0_1 l0_1.length c0_1) ∧ w'.cell? ⟨gb603, 0, none⟩ = some (.int .i64 ((D32 l1 x14_1).f0)) ∧ w'.cell? ⟨gb603, 1, none⟩ = some (.int .i64 ((D32 l1 x14_1).f1)) ∧ w'.cell? ⟨gb603, 2, none⟩ = some (.int .i64 ((D32 l1 x14_1).f2.f0)) ∧ w'.cell? ⟨gb603, 3, none⟩ = some (.int .i64 ((D32 l1 x14_1).f2.f1)) ∧ w'.cell? ⟨gb603, 4, none⟩ = some (.int .i64 ((D32 l1 x14_1).f2.f2)) ∧ w'.cell? ⟨gb603, 5, none⟩ = some (.int .i64 ((D32 l1 x14_1).f3)) ∧ w'.cell? ⟨gb603, 6, none⟩ = some (.slice A602_6 ((D32 l1 x14_1).f4).length c602_6) ∧ w'.cell? ⟨gb603, 7, none⟩ = some (.slice A602_7 ((D32 l1 x14_1).f5).length c602_7) ∧ w'.cell? (ad607.add ((((D32 l1 x14_1).f1)).toNat * 2)) = some (.int .i64 ((D39 l0_0 ((D32 l1 x14_1).f1)).f0)) ∧ w'.cell? ⟨(ad607.add ((((D32 l1 x14_1).f1)).toNat * 2)).block, (ad607.add ((((D32 l1 x14_1).f1)).toNat * 2)).off + 1, none⟩ = some (.int .i64 ((D39 l0_0 ((D32 l1 x14_1).f1)).f1))) (ds := []) #[F,F,F,F,F,F,F,F,F,F] (by kernel_rfl) rfl rfl ⟨ZA BK601 0, ZA BK601 1, ZA BK600 0, ZA BK600 1, ZA BK603 0, ZA BK603 1, ZA BK603 2, ZA BK603 3, ZA BK603 4, ZA BK603 5, ZA BK603 6, ZA BK603 7, (ZKS HR0_0 p607 q607 hy607_0 (ZHK HK)), (ZKS HR0_0 p607 q607 hy607_1 (ZHK HK))⟩ (fun hHeld => ?_); refine with_tabW impl_Prog_labels.tab5 impl_Prog_labels.bits5 (fun HT_ HW_ => ?_)
  generalize w22.drew = w23 at HO606 BK600 BK601 BK603 HK HB hx607_0 hx607_1 hHeld ⊢
  refine ZU 1 23 #[F,T,F,F,F,F,F,F,F,F] ?_
  refine ZU 3 25 #[F,T,F,T,F,F,F,F,F,F] ?_
  refine ZTK 0 22 #[T,T,F,T,F,F,F,F,F,F] hHeld ?_
  refine ZTK 2 24 #[T,T,T,T,F,F,F,F,F,F] hHeld ?_
  refine ZTK 4 26 #[T,T,T,T,T,F,F,F,F,F] hHeld ?_
  refine ZU 5 27 #[T,T,T,T,T,T,F,F,F,F] ?_
  refine ZTK 6 28 #[T,T,T,T,T,T,T,F,F,F] hHeld ?_
  refine join_ (σ := Nat) 1 #[T,T,T,T,T,T,T,T,T,F] (fun s_ => [(29, .agg #[.int .i64 t608, .int .i64 t609]), (11, .pointer (some ⟨s_, 0, none⟩))]) (fun s_ w' => (w'.cell? ⟨gb601, 0, none⟩ = some (.int .i64 a2_0) ∧ w'.cell? ⟨gb601, 1, none⟩ = some (.int .i64 a2_1) ∧ w'.cell? ⟨gb600, 0, none⟩ = some (.slice (some ad607) l0_0.length c0_0) ∧ w'.cell? ⟨gb600, 1, none⟩ = some (.slice A0_1 l0_1.length c0_1) ∧ w'.cell? ⟨gb603, 0, none⟩ = some (.int .i64 ((D32 l1 x14_1).f0)) ∧ w'.cell? ⟨gb603, 1, none⟩ = some (.int .i64 ((D32 l1 x14_1).f1)) ∧ w'.cell? ⟨gb603, 2, none⟩ = some (.int .i64 ((D32 l1 x14_1).f2.f0)) ∧ w'.cell? ⟨gb603, 3, none⟩ = some (.int .i64 ((D32 l1 x14_1).f2.f1)) ∧ w'.cell? ⟨gb603, 4, none⟩ = some (.int .i64 ((D32 l1 x14_1).f2.f2)) ∧ w'.cell? ⟨gb603, 5, none⟩ = some (.int .i64 ((D32 l1 x14_1).f3)) ∧ w'.cell? ⟨gb603, 6, none⟩ = some (.slice A602_6 ((D32 l1 x14_1).f4).length c602_6) ∧ w'.cell? ⟨gb603, 7, none⟩ = some (.slice A602_7 ((D32 l1 x14_1).f5).length c602_7) ∧ w'.cell? (ad607.add ((((D32 l1 x14_1).f1)).toNat * 2)) = some (.int .i64 ((D39 l0_0 ((D32 l1 x14_1).f1)).f0)) ∧ w'.cell? ⟨(ad607.add ((((D32 l1 x14_1).f1)).toNat * 2)).block, (ad607.add ((((D32 l1 x14_1).f1)).toNat * 2)).off + 1, none⟩ = some (.int .i64 ((D39 l0_0 ((D32 l1 x14_1).f1)).f1))) ∧ (Kd.R k39 39 w' w0.heap.size (fun k_ => (P3_ k_ ∨ w.heap.size ≤ k_) ∧ k_ ≠ gb601 ∧ k_ ≠ s_) v605 y604) ∧ (w'.heap[gb600]? = some (.cells #[.slice (some ad607) l0_0.length c0_0, .slice A0_1 l0_1.length c0_1] 26 (0, 0))) ∧ (w'.heap[gb601]? = some (.cells #[.int .i64 a2_0, .int .i64 a2_1] 39 (0, 0))) ∧ (w'.heap[gb603]? = some (.cells #[.int .i64 ((D32 l1 x14_1).f0), .int .i64 ((D32 l1 x14_1).f1), .int .i64 ((D32 l1 x14_1).f2.f0), .int .i64 ((D32 l1 x14_1).f2.f1), .int .i64 ((D32 l1 x14_1).f2.f2), .int .i64 ((D32 l1 x14_1).f3), .slice A602_6 ((D32 l1 x14_1).f4).length c602_6, .slice A602_7 ((D32 l1 x14_1).f5).length c602_7] 32 (0, 0))) ∧ (w'.heap[s_]? = some (.cells #[.int .i64 0, .int .i64 0] 39 (0, 0))) ∧ (w.heap.size ≤ s_) ∧ (w0.heap.size ≤ s_) ∧ (gb600 ≠ s_) ∧ (s_ ≠ gb600) ∧ (gb601 ≠ s_) ∧ (s_ ≠ gb601) ∧ (gb603 ≠ s_) ∧ (s_ ≠ gb603) ∧ (Kept w w' (fun k_ => P3_ k_)) ∧ (Below w0.heap.size w0 w')) ?_ ?_
  rotate_left
  ·(
  intro hCont
  refine two_ (i := 7) (j := 8) (Ni := some 29) (Nj := some 11) #[T,T,T,T,T,T,T,T,F,F] #[T,T,T,T,T,T,T,F,T,F] rfl rfl rfl rfl (two_of HT_.out (by kernel_rfl)) (by decide) (by decide) (fun K hK => ?_) (fun K hK => ?_)
  ·(
  skip
  refine ZGO Try.func85 #[.agg #[.int .i64 a2_0, .int .i64 a2_1], .agg #[.int .i64 ((D39 l0_0 ((D32 l1 x14_1).f1)).f0), .int .i64 ((D39 l0_0 ((D32 l1 x14_1).f1)).f1)]] ?_
  with_reducible refine (impl_Label_both.calls a2_0 a2_1 ((D39 l0_0 ((D32 l1 x14_1).f1)).f0) ((D39 l0_0 ((D32 l1 x14_1).f1)).f1) t608 t609 _ A13.out).mono ?_
  rintro e w24 ⟨rfl, hb⟩
  refine ⟨_, rfl, ?_⟩
  replace HO606 := AM (Kd.R_below (ZR HO606.out) hb)
  replace BK600 := ZW BK600 hb
  replace BK601 := ZW BK601 hb
  replace BK603 := ZW BK603 hb
  replace HK := AM (Kept.below (S := (fun k_ => P3_ k_)) (ZHK HK) hb)
  replace HB := ZT HB hb
  (try clear hb)
  (try clear hb2)
  (try clear hk)
  (try clear hi)
  refine hK.out _ _ ⟨ZA BK601 0, ZA BK601 1, ZA BK600 0, ZA BK600 1, ZA BK603 0, ZA BK603 1, ZA BK603 2, ZA BK603 3, ZA BK603 4, ZA BK603 5, ZA BK603 6, ZA BK603 7, (ZKS HR0_0 p607 q607 hy607_0 (ZHK HK)), (ZKS HR0_0 p607 q607 hy607_1 (ZHK HK))⟩ (fun hHeld => ?_)
  clear hK K
  refine ZNO 29 ?_
  refine one_ (i := 8) (N := some 11) #[T,T,T,T,T,T,T,T,T,F] rfl rfl (one_of HT_.out (by kernel_rfl)) (by decide) (fun K hK => ?_)
  refine box_step ?hg (N := 11) ?hd (cs := #[.int .i64 0, .int .i64 0]) (t := 39) ?hr ?_; (case hd => rfl); (case hg => rfl); (case hr => first | (go_simp; done) | (go_simp; rfl))
  intro gb610 hg w25 hbox hb
  have BK610 := AM (hbox)
  have GW610 := AM ((by rw [hg]; exact (by first | exact HK.out.1 | exact (show Kept w _ (fun k_ => P3_ k_) from ZHK HK).1) : w.heap.size ≤ gb610))
  have GE610 : Za (w0.heap.size ≤ gb610) := ZS hg
  have NB600_610 : Za (gb600 ≠ gb610) := ZN hg BK600
  have NB610_600 : Za (gb610 ≠ gb600) := ZM hg BK600
  have NB601_610 : Za (gb601 ≠ gb610) := ZN hg BK601
  have NB610_601 : Za (gb610 ≠ gb601) := ZM hg BK601
  have NB603_610 : Za (gb603 ≠ gb610) := ZN hg BK603
  have NB610_603 : Za (gb610 ≠ gb603) := ZM hg BK603
  replace HO606 := AM (Kd.R_below (Kd.R_elderB (ZR HO606.out) gb610 (Nat.le_of_eq hg.symm)) hb)
  replace BK600 := ZW BK600 hb
  replace BK601 := ZW BK601 hb
  replace BK603 := ZW BK603 hb
  replace HK := AM (Kept.below (S := (fun k_ => P3_ k_)) (ZHK HK) hb)
  replace HB := ZT HB hb
  clear hb hbox hg
  refine hK.out _ _ ⟨ZA BK601 0, ZA BK601 1, ZA BK600 0, ZA BK600 1, ZA BK603 0, ZA BK603 1, ZA BK603 2, ZA BK603 3, ZA BK603 4, ZA BK603 5, ZA BK603 6, ZA BK603 7, (ZKS HR0_0 p607 q607 hy607_0 (ZHK HK)), (ZKS HR0_0 p607 q607 hy607_1 (ZHK HK))⟩ (fun hHeld => ?_)
  clear hK K
  refine ZNO 11 ?_
  exact norm_ (by simp only [putAll, Act.put, List.setIfInBounds_toArray, List.set_cons_zero, List.set_cons_succ]) (hCont (gb610) _ ⟨hHeld, (by (with_reducible repeat (first | apply Kd.R_alloc | apply Kd.R_drewN | apply Kd.R_drew)); exact Kd.R_mono HO606.out (fun _ hk => ⟨hk.1.1, ⟨hk.1.2, hk.2⟩⟩)), (ZK BK600.out), (ZK BK601.out), (ZK BK603.out), (ZK BK610.out), GW610.out, GE610.out, NB600_610.out, NB610_600.out, NB601_610.out, NB610_601.out, NB603_610.out, NB610_603.out, (ZHK HK), (ZB)⟩))
  ·(
  skip
  refine box_step ?hg (N := 11) ?hd (cs := #[.int .i64 0, .int .i64 0]) (t := 39) ?hr ?_; (case hd => rfl); (case hg => rfl); (case hr => first | (go_simp; done) | (go_simp; rfl))
  intro gb610 hg w24 hbox hb
  have BK610 := AM (hbox)
  have GW610 := AM ((by rw [hg]; exact (by first | exact HK.out.1 | exact (show Kept w _ (fun k_ => P3_ k_) from ZHK HK).1) : w.heap.size ≤ gb610))
  have GE610 : Za (w0.heap.size ≤ gb610) := ZS hg
  have NB600_610 : Za (gb600 ≠ gb610) := ZN hg BK600
  have NB610_600 : Za (gb610 ≠ gb600) := ZM hg BK600
  have NB601_610 : Za (gb601 ≠ gb610) := ZN hg BK601
  have NB610_601 : Za (gb610 ≠ gb601) := ZM hg BK601
  have NB603_610 : Za (gb603 ≠ gb610) := ZN hg BK603
  have NB610_603 : Za (gb610 ≠ gb603) := ZM hg BK603
  replace HO606 := AM (Kd.R_below (Kd.R_elderB (ZR HO606.out) gb610 (Nat.le_of_eq hg.symm)) hb)
  replace BK600 := ZW BK600 hb
  replace BK601 := ZW BK601 hb
  replace BK603 := ZW BK603 hb
  replace HK := AM (Kept.below (S := (fun k_ => P3_ k_)) (ZHK HK) hb)
  replace HB := ZT HB hb
  clear hb hbox hg
  refine hK.out _ _ ⟨ZA BK601 0, ZA BK601 1, ZA BK600 0, ZA BK600 1, ZA BK603 0, ZA BK603 1, ZA BK603 2, ZA BK603 3, ZA BK603 4, ZA BK603 5, ZA BK603 6, ZA BK603 7, (ZKS HR0_0 p607 q607 hy607_0 (ZHK HK)), (ZKS HR0_0 p607 q607 hy607_1 (ZHK HK))⟩ (fun hHeld => ?_)
  clear hK K
  refine ZNO 11 ?_
  refine one_ (i := 7) (N := some 29) #[T,T,T,T,T,T,T,T,T,F] rfl rfl (one_of HT_.out (by kernel_rfl)) (by decide) (fun K hK => ?_)
  refine ZGO Try.func85 #[.agg #[.int .i64 a2_0, .int .i64 a2_1], .agg #[.int .i64 ((D39 l0_0 ((D32 l1 x14_1).f1)).f0), .int .i64 ((D39 l0_0 ((D32 l1 x14_1).f1)).f1)]] ?_
  with_reducible refine (impl_Label_both.calls a2_0 a2_1 ((D39 l0_0 ((D32 l1 x14_1).f1)).f0) ((D39 l0_0 ((D32 l1 x14_1).f1)).f1) t608 t609 _ A13.out).mono ?_
  rintro e w25 ⟨rfl, hb⟩
  refine ⟨_, rfl, ?_⟩
  replace HO606 := AM (Kd.R_below (ZR HO606.out) hb)
  replace BK600 := ZW BK600 hb
  replace BK601 := ZW BK601 hb
  replace BK603 := ZW BK603 hb
  replace BK610 := ZW BK610 hb
  replace HK := AM (Kept.below (S := (fun k_ => P3_ k_)) (ZHK HK) hb)
  replace HB := ZT HB hb
  (try clear hb)
  (try clear hb2)
  (try clear hk)
  (try clear hi)
  refine hK.out _ _ ⟨ZA BK601 0, ZA BK601 1, ZA BK600 0, ZA BK600 1, ZA BK603 0, ZA BK603 1, ZA BK603 2, ZA BK603 3, ZA BK603 4, ZA BK603 5, ZA BK603 6, ZA BK603 7, (ZKS HR0_0 p607 q607 hy607_0 (ZHK HK)), (ZKS HR0_0 p607 q607 hy607_1 (ZHK HK))⟩ (fun hHeld => ?_)
  clear hK K
  refine ZNO 29 ?_
  exact norm_ (by simp only [putAll, Act.put, List.setIfInBounds_toArray, List.set_cons_zero, List.set_cons_succ]) (hCont (gb610) _ ⟨hHeld, (by (with_reducible repeat (first | apply Kd.R_alloc | apply Kd.R_drewN | apply Kd.R_drew)); exact Kd.R_mono HO606.out (fun _ hk => ⟨hk.1.1, ⟨hk.1.2, hk.2⟩⟩)), (ZK BK600.out), (ZK BK601.out), (ZK BK603.out), (ZK BK610.out), GW610.out, GE610.out, NB600_610.out, NB610_600.out, NB601_610.out, NB610_601.out, NB603_610.out, NB610_603.out, (ZHK HK), (ZB)⟩)))
  rintro gb610 w26 ⟨hS_, h0_, h1_, h2_, h3_, h4_, h5_, h6_, h7_, h8_, h9_, h10_, h11_, h12_, h13_, h14_⟩
  try dsimp only at h0_ h1_ h2_ h3_ h4_ h5_ h6_ h7_ h8_ h9_ h10_ h11_ h12_ h13_ h14_
  have n0_ := AM h0_
  have n1_ := AM h1_
  have n2_ := AM h2_
  have n3_ := AM h3_
  have n4_ := AM h4_
  have n5_ := AM h5_
  have n6_ := AM h6_
  have n7_ := AM h7_
  have n8_ := AM h8_
  have n9_ := AM h9_
  have n10_ := AM h10_
  have n11_ := AM h11_
  have n12_ := AM h12_
  have n13_ := AM h13_
  have n14_ := AM h14_
  clear HO606 BK600 BK601 BK603 HK HB h0_ h1_ h2_ h3_ h4_ h5_ h6_ h7_ h8_ h9_ h10_ h11_ h12_ h13_ h14_
  have HO606 := n0_
  have BK600 := n1_
  have BK601 := n2_
  have BK603 := n3_
  have BK610 := n4_
  have GW610 := n5_
  have GE610 := n6_
  have NB600_610 := n7_
  have NB610_600 := n8_
  have NB601_610 := n9_
  have NB610_601 := n10_
  have NB603_610 := n11_
  have NB610_603 := n12_
  have HK := n13_
  have HB := n14_
  clear n0_ n1_ n2_ n3_ n4_ n5_ n6_ n7_ n8_ n9_ n10_ n11_ n12_ n13_ n14_
  try dsimp only at hS_
  have hHeld := hS_
  refine ZNP ?_
  refine one_ (i := 9) (N := none) #[T,T,T,T,T,T,T,T,T,T] rfl rfl (one_of HT_.out (by kernel_rfl)) (by decide) (fun K hK => ?_)
  have hs27 : w26.cell? ⟨gb610, 0, none⟩ = some (.int .i64 0) := ZA BK610 0
  have hfs27 := blk_frozen BK610.out 0
  have hns27_0 := NB600_610.out
  have hns27_1 := NB601_610.out
  have hns27_2 := NB603_610.out
  have hms27_0 := NB610_600.out
  have hms27_1 := NB610_601.out
  have hms27_2 := NB610_603.out
  have hs28 : w26.cell? ⟨gb610, 1, none⟩ = some (.int .i64 0) := ZA BK610 1
  have hfs28 := blk_frozen BK610.out 1
  have hns28_0 := NB600_610.out
  have hns28_1 := NB601_610.out
  have hns28_2 := NB603_610.out
  have hms28_0 := NB610_600.out
  have hms28_1 := NB610_601.out
  have hms28_2 := NB610_603.out
  refine skip_ (w1 := ?_) (by rfl) rfl ?_ ?_
  rotate_left
  ·(
  go_simp
  rfl)
  refine hK.out _ _ ⟨((cell_far (p := ⟨gb610, _, none⟩) NB601_610.out _).trans (((cell_far (p := ⟨gb610, _, none⟩) NB601_610.out _).trans (hHeld.1)))), ((cell_far (p := ⟨gb610, _, none⟩) NB601_610.out _).trans (((cell_far (p := ⟨gb610, _, none⟩) NB601_610.out _).trans (hHeld.2.1)))), ((cell_far (p := ⟨gb610, _, none⟩) NB600_610.out _).trans (((cell_far (p := ⟨gb610, _, none⟩) NB600_610.out _).trans (hHeld.2.2.1)))), ((cell_far (p := ⟨gb610, _, none⟩) NB600_610.out _).trans (((cell_far (p := ⟨gb610, _, none⟩) NB600_610.out _).trans (hHeld.2.2.2.1)))), ((cell_far (p := ⟨gb610, _, none⟩) NB603_610.out _).trans (((cell_far (p := ⟨gb610, _, none⟩) NB603_610.out _).trans (hHeld.2.2.2.2.1)))), ((cell_far (p := ⟨gb610, _, none⟩) NB603_610.out _).trans (((cell_far (p := ⟨gb610, _, none⟩) NB603_610.out _).trans (hHeld.2.2.2.2.2.1)))), ((cell_far (p := ⟨gb610, _, none⟩) NB603_610.out _).trans (((cell_far (p := ⟨gb610, _, none⟩) NB603_610.out _).trans (hHeld.2.2.2.2.2.2.1)))), ((cell_far (p := ⟨gb610, _, none⟩) NB603_610.out _).trans (((cell_far (p := ⟨gb610, _, none⟩) NB603_610.out _).trans (hHeld.2.2.2.2.2.2.2.1)))), ((cell_far (p := ⟨gb610, _, none⟩) NB603_610.out _).trans (((cell_far (p := ⟨gb610, _, none⟩) NB603_610.out _).trans (hHeld.2.2.2.2.2.2.2.2.1)))), ((cell_far (p := ⟨gb610, _, none⟩) NB603_610.out _).trans (((cell_far (p := ⟨gb610, _, none⟩) NB603_610.out _).trans (hHeld.2.2.2.2.2.2.2.2.2.1)))), ((cell_far (p := ⟨gb610, _, none⟩) NB603_610.out _).trans (((cell_far (p := ⟨gb610, _, none⟩) NB603_610.out _).trans (hHeld.2.2.2.2.2.2.2.2.2.2.1)))), ((cell_far (p := ⟨gb610, _, none⟩) NB603_610.out _).trans (((cell_far (p := ⟨gb610, _, none⟩) NB603_610.out _).trans (hHeld.2.2.2.2.2.2.2.2.2.2.2.1)))), (ZKS HR0_0 p607 q607 hy607_0 (ZHK HK)), (ZKS HR0_0 p607 q607 hy607_1 (ZHK HK))⟩ (fun hHeld => ?_)
  clear hK K
  refine done_ (done_of HT_.out (by kernel_rfl)) ?_
  have n0_ : Za (Kd.R k39 39 ((w26.setCell ⟨gb610, 0, none⟩ (.int .i64 t608)).setCell ⟨gb610, 1, none⟩ (.int .i64 t609)) w0.heap.size (fun k_ => (P3_ k_ ∨ w.heap.size ≤ k_) ∧ k_ ≠ gb601 ∧ k_ ≠ gb610) v605 y604) := ⟨by (with_reducible repeat (first | apply Kd.R_alloc | apply Kd.R_drewN | apply Kd.R_drew)); exact Kd.R_mono (Kd.R_far (p := ⟨gb610, 1, none⟩) (Kd.R_far (p := ⟨gb610, 0, none⟩) (Kd.R_mono HO606.out (fun k_ hk => (⟨hk, hk.2.2⟩ : _ ∧ k_ ≠ gb610))) (fun _ hk => hk.2) (.int .i64 t608)) (fun _ hk => hk.2) (.int .i64 t609)) (fun _ hk => ⟨hk.1.1, ⟨hk.1.2.1, hk.1.2.2⟩⟩)⟩
  have n1_ : Za (((w26.setCell ⟨gb610, 0, none⟩ (.int .i64 t608)).setCell ⟨gb610, 1, none⟩ (.int .i64 t609)).heap[gb600]? = some (.cells #[.slice (some ad607) l0_0.length c0_0, .slice A0_1 l0_1.length c0_1] 26 (0, 0))) := ⟨ZZ BK600.out⟩
  have n2_ : Za (((w26.setCell ⟨gb610, 0, none⟩ (.int .i64 t608)).setCell ⟨gb610, 1, none⟩ (.int .i64 t609)).heap[gb601]? = some (.cells #[.int .i64 a2_0, .int .i64 a2_1] 39 (0, 0))) := ⟨ZZ BK601.out⟩
  have n3_ : Za (((w26.setCell ⟨gb610, 0, none⟩ (.int .i64 t608)).setCell ⟨gb610, 1, none⟩ (.int .i64 t609)).heap[gb603]? = some (.cells #[.int .i64 ((D32 l1 x14_1).f0), .int .i64 ((D32 l1 x14_1).f1), .int .i64 ((D32 l1 x14_1).f2.f0), .int .i64 ((D32 l1 x14_1).f2.f1), .int .i64 ((D32 l1 x14_1).f2.f2), .int .i64 ((D32 l1 x14_1).f3), .slice A602_6 ((D32 l1 x14_1).f4).length c602_6, .slice A602_7 ((D32 l1 x14_1).f5).length c602_7] 32 (0, 0))) := ⟨ZZ BK603.out⟩
  have n4_ : Za (((w26.setCell ⟨gb610, 0, none⟩ (.int .i64 t608)).setCell ⟨gb610, 1, none⟩ (.int .i64 t609)).heap[gb610]? = some (.cells #[.int .i64 t608, .int .i64 t609] 39 (0, 0))) := ⟨ZZ BK610.out⟩
  have n5_ : Za (Kept w ((w26.setCell ⟨gb610, 0, none⟩ (.int .i64 t608)).setCell ⟨gb610, 1, none⟩ (.int .i64 t609)) (fun k_ => P3_ k_)) := ⟨ZHK HK⟩
  have n6_ : Za (Below w0.heap.size w0 ((w26.setCell ⟨gb610, 0, none⟩ (.int .i64 t608)).setCell ⟨gb610, 1, none⟩ (.int .i64 t609))) := ⟨ZB⟩
  (try clear HO606)
  (try clear BK600)
  (try clear BK601)
  (try clear BK603)
  (try clear BK610)
  (try clear HK)
  (try clear HB)
  generalize ((w26.setCell ⟨gb610, 0, none⟩ (.int .i64 t608)).setCell ⟨gb610, 1, none⟩ (.int .i64 t609)) = w29 at n0_ n1_ n2_ n3_ n4_ n5_ n6_ ⊢
  have HO606 := n0_
  have BK600 := n1_
  have BK601 := n2_
  have BK603 := n3_
  have BK610 := n4_
  have HK := n5_
  have HB := n6_
  clear n0_ n1_ n2_ n3_ n4_ n5_ n6_
  have hnb30 := NB600_610.out
  have hnc30 := NB610_600.out
  have hcz31 := ZC2 w29 BK600
  have hfz31 := ZF2 BK600
  have hnb32 := NB603_610.out
  have hnc32 := NB610_603.out
  have hcz33 := ZC8 w29 BK603
  have hfz33 := ZF8 BK603
  have hnb34 := NB610_601.out
  have hnc34 := NB601_610.out
  have hcz35 := ZC2 w29 BK610
  have hfz35 := ZF2 BK610
  obtain ⟨Ao36, co36, eo36⟩ := Kd.R_slice HO606.out
  subst eo36
  try go_wp2_with (first | ((with_reducible refine gate_callee (f := 73) rfl ?_); refine ZGL (some 35) Try.func73 #[.agg #[.slice (some ad607) l0_0.length c0_0, .slice A0_1 l0_1.length c0_1], .slice A602_6 ((D32 l1 x14_1).f4).length c602_6, .agg #[.int .i64 t608, .int .i64 t609], .slice Ao36 y604.length co36] ?_; (with_reducible refine (ih k1 (by have := HK1.out; omega) _ _ l0_0 _ _ l0_1 _ _ ((D32 l1 x14_1).f4) t608 t609 (fun k_ => some k_ = (.slice Ao36 y604.length co36 : Value).ownBlock) (.slice Ao36 y604.length co36) y604 t611 w0 _ ?side1 ?side2 HC0_0.out ?side4 HC0_1.out ?side6 HC602_6.out ?side8 A14.out).mono ?_); (case side1 => repeat (first | (with_reducible first | exact HB.out | apply below_alloc | apply pw_below_drewN | apply below_drew1 | refine below_set ?_ GE600.out | refine below_set ?_ GE601.out | refine below_set ?_ GE603.out | refine below_set ?_ GE610.out) | exact HB.out)); (case side2 => exact Kd.C_kept_call HR0_0.out (ZHK HK) (fun k_ hs_ => (fun e_ => (HO606.out.1 k_ e_.symm).1) hs_)); (case side4 => exact Kd.C_kept_call HR0_1.out (ZHK HK) (fun k_ hs_ => (fun e_ => (HO606.out.1 k_ e_.symm).1) hs_)); (case side6 => exact Kd.C_kept_call (fun W_ k_ => by have hw_ := Kd.kept_slot HR1.out (by have := (of_eq_true p602); have := (of_eq_true q602); omega) (by decide) (Kept.refl _ _) hy602_6 (add_block _ _) k_; obtain ⟨ad_, A6_, c6_, A7_, c7_, e_, m0_, m1_, m2_, m3_, m4_, m5_, m6_, m7_, y6_, z6_, y7_, z7_⟩ := at_T32 (HR1.out W_ k_) (x14_1) (by first | exact of_eq_true p602 | exact p602) (by first | exact of_eq_true q602 | exact q602); cases e_; rw [hw_] at m6_; cases m6_; exact z6_) (ZHK HK) (fun k_ hs_ => (fun e_ => (HO606.out.1 k_ e_.symm).1) hs_)); (case side8 => exact Kd.R_tight rfl HO606.out); rintro e w37 ⟨v612, rfl, ho0, hb, hkp⟩; refine ⟨_, rfl, ?_⟩; have n0_ := AM (blk_kept (ZK BK600.out) hkp (fun hs_ => (fun e_ => (Kd.R_ne HO606.out BK600.out (by decide)) e_) hs_)); have n1_ := AM (blk_kept (ZK BK601.out) hkp (fun hs_ => (fun e_ => (Kd.R_away HO606.out (fun _ hk => hk.2.1)) e_) hs_)); have n2_ := AM (blk_kept (ZK BK603.out) hkp (fun hs_ => (fun e_ => (Kd.R_ne HO606.out BK603.out (by decide)) e_) hs_)); have n3_ := AM (blk_kept (ZK BK610.out) hkp (fun hs_ => (fun e_ => (Kd.R_away HO606.out (fun _ hk => hk.2.2)) e_) hs_)); have n4_ := AM (Kd.R_mono (ok' := fun k_ => (P3_ k_ ∨ w.heap.size ≤ k_) ∧ k_ ≠ gb601 ∧ k_ ≠ gb610) ho0 (fun k_ hk_ => ⟨Or.elim hk_ (fun hs_ => (HO606.out.1 k_ (hs_).symm).1) (fun hn_ => (.inr (Nat.le_trans (by first | exact HK.out.1 | exact (show Kept w _ (fun k_ => P3_ k_) from ZHK HK).1) hn_))), Or.elim hk_ (fun hs_ => fun e_ => (Kd.R_away HO606.out (fun _ hk => hk.2.1)) (by rw [← e_]; exact hs_)) (fun hn_ => (Kd.freshB (g := gb601) (o := .cells #[.int .i64 a2_0, .int .i64 a2_1] 39 (0, 0)) (ZK BK601.out) k_ hn_)), Or.elim hk_ (fun hs_ => fun e_ => (Kd.R_away HO606.out (fun _ hk => hk.2.2)) (by rw [← e_]; exact hs_)) (fun hn_ => (Kd.freshB (g := gb610) (o := .cells #[.int .i64 t608, .int .i64 t609] 39 (0, 0)) (ZK BK610.out) k_ hn_))⟩)); have n5_ := AM (Kept.then_ (S := (fun k_ => P3_ k_)) (ZHK HK) hkp (fun k_ hs_ => (fun e_ => (HO606.out.1 k_ e_.symm).1) hs_)); have n6_ := AM (hb); clear BK600 BK601 BK603 BK610 HK HB HO606; have BK600 := n0_; have BK601 := n1_; have BK603 := n2_; have BK610 := n3_; have HO613 := n4_; have HK := n5_; have HB := n6_; clear n0_ n1_ n2_ n3_ n4_ n5_ n6_; (try clear hb); (try clear hkp); (try clear ho0); have hcz38 := ZC2 w37 BK600; have hfz38 := ZF2 BK600; have hcz39 := ZC8 w37 BK603; have hfz39 := ZF8 BK603; have hcz40 := ZC2 w37 BK610; have hfz40 := ZF2 BK610; obtain ⟨Ao41, co41, eo41⟩ := Kd.R_slice HO613.out; subst eo41) | ((with_reducible refine gate_callee (f := 73) rfl ?_); refine ZGL (some 41) Try.func73 #[.agg #[.slice (some ad607) l0_0.length c0_0, .slice A0_1 l0_1.length c0_1], .slice A602_7 ((D32 l1 x14_1).f5).length c602_7, .agg #[.int .i64 t608, .int .i64 t609], .slice Ao41 t611.length co41] ?_; (with_reducible refine (ih k1 (by have := HK1.out; omega) _ _ l0_0 _ _ l0_1 _ _ ((D32 l1 x14_1).f5) t608 t609 (fun k_ => some k_ = (.slice Ao41 t611.length co41 : Value).ownBlock) (.slice Ao41 t611.length co41) t611 t614 w0 _ ?side1 ?side2 HC0_0.out ?side4 HC0_1.out ?side6 HC602_7.out ?side8 A15.out).mono ?_); (case side1 => repeat (first | (with_reducible first | exact HB.out | apply below_alloc | apply pw_below_drewN | apply below_drew1 | refine below_set ?_ GE600.out | refine below_set ?_ GE601.out | refine below_set ?_ GE603.out | refine below_set ?_ GE610.out) | exact HB.out)); (case side2 => exact Kd.C_kept_call HR0_0.out (ZHK HK) (fun k_ hs_ => (fun e_ => (HO613.out.1 k_ e_.symm).1) hs_)); (case side4 => exact Kd.C_kept_call HR0_1.out (ZHK HK) (fun k_ hs_ => (fun e_ => (HO613.out.1 k_ e_.symm).1) hs_)); (case side6 => exact Kd.C_kept_call (fun W_ k_ => by have hw_ := Kd.kept_slot HR1.out (by have := (of_eq_true p602); have := (of_eq_true q602); omega) (by decide) (Kept.refl _ _) hy602_7 (add_block _ _) k_; obtain ⟨ad_, A6_, c6_, A7_, c7_, e_, m0_, m1_, m2_, m3_, m4_, m5_, m6_, m7_, y6_, z6_, y7_, z7_⟩ := at_T32 (HR1.out W_ k_) (x14_1) (by first | exact of_eq_true p602 | exact p602) (by first | exact of_eq_true q602 | exact q602); cases e_; rw [hw_] at m7_; cases m7_; exact z7_) (ZHK HK) (fun k_ hs_ => (fun e_ => (HO613.out.1 k_ e_.symm).1) hs_)); (case side8 => exact Kd.R_tight rfl HO613.out); rintro e w42 ⟨v615, rfl, ho0, hb, hkp⟩; refine ⟨_, rfl, ?_⟩; have n0_ := AM (blk_kept (ZK BK600.out) hkp (fun hs_ => (fun e_ => (Kd.R_ne HO613.out BK600.out (by decide)) e_) hs_)); have n1_ := AM (blk_kept (ZK BK601.out) hkp (fun hs_ => (fun e_ => (Kd.R_away HO613.out (fun _ hk => hk.2.1)) e_) hs_)); have n2_ := AM (blk_kept (ZK BK603.out) hkp (fun hs_ => (fun e_ => (Kd.R_ne HO613.out BK603.out (by decide)) e_) hs_)); have n3_ := AM (blk_kept (ZK BK610.out) hkp (fun hs_ => (fun e_ => (Kd.R_away HO613.out (fun _ hk => hk.2.2)) e_) hs_)); have n4_ := AM (Kd.R_mono (ok' := fun k_ => (P3_ k_ ∨ w.heap.size ≤ k_) ∧ k_ ≠ gb601 ∧ k_ ≠ gb610) ho0 (fun k_ hk_ => ⟨Or.elim hk_ (fun hs_ => (HO613.out.1 k_ (hs_).symm).1) (fun hn_ => (.inr (Nat.le_trans (by first | exact HK.out.1 | exact (show Kept w _ (fun k_ => P3_ k_) from ZHK HK).1) hn_))), Or.elim hk_ (fun hs_ => fun e_ => (Kd.R_away HO613.out (fun _ hk => hk.2.1)) (by rw [← e_]; exact hs_)) (fun hn_ => (Kd.freshB (g := gb601) (o := .cells #[.int .i64 a2_0, .int .i64 a2_1] 39 (0, 0)) (ZK BK601.out) k_ hn_)), Or.elim hk_ (fun hs_ => fun e_ => (Kd.R_away HO613.out (fun _ hk => hk.2.2)) (by rw [← e_]; exact hs_)) (fun hn_ => (Kd.freshB (g := gb610) (o := .cells #[.int .i64 t608, .int .i64 t609] 39 (0, 0)) (ZK BK610.out) k_ hn_))⟩)); have n5_ := AM (Kept.then_ (S := (fun k_ => P3_ k_)) (ZHK HK) hkp (fun k_ hs_ => (fun e_ => (HO613.out.1 k_ e_.symm).1) hs_)); have n6_ := AM (hb); clear BK600 BK601 BK603 BK610 HK HB HO613; have BK600 := n0_; have BK601 := n1_; have BK603 := n2_; have BK610 := n3_; have HO616 := n4_; have HK := n5_; have HB := n6_; clear n0_ n1_ n2_ n3_ n4_ n5_ n6_; (try clear hb); (try clear hkp); (try clear ho0)))
  go_roundg k1
  case measure => have := HK1.out; omega
  case rel => exact ⟨(t614), (wrap64 (x14_1 + 1)), (by first | rfl | (simp; done) | (simp [*]; done)), H', ⟨by have := HK1.out; omega⟩, ⟨by (with_reducible repeat (first | apply Kd.R_alloc | apply Kd.R_drewN | apply Kd.R_drew)); exact Kd.R_mono HO616.out (fun _ hk => ⟨hk.1, hk.2.1⟩)⟩, ⟨ZK BK600.out⟩, ⟨ZK BK601.out⟩, ⟨ZHK HK⟩, ⟨ZB⟩⟩)
  ·(
  rw [if_neg c12] at H
  exact absurd H (by simp)))
  ·(
  rw [if_neg c11] at H
  exact absurd H (by simp)))
  ·(
  rw [if_neg c10] at H
  exact absurd H (by simp)))
  ·(
  rw [if_neg c9] at H
  exact absurd H (by simp)))
  ·(
  rw [if_neg c8] at H
  exact absurd H (by simp)))
  ·(
  rw [if_neg c7] at H
  have c7b0 := decide_eq_false c7
  clear c7
  obtain rfl := Option.some.inj H
  go_wp2
  go_ret
  exact ⟨_, ZE, by (with_reducible repeat (first | apply Kd.R_alloc | apply Kd.R_drewN | apply Kd.R_drew)); exact Kd.R_mono HO_3.out (fun _ hk => hk.1), ZB, ZHK HK⟩))


/-! ### impl_everybody: function 74 -/
def impl_everybody.f  : Option (Int × Int) := some (7, 7)
theorem impl_everybody.calls  (r1 : Int) (r2 : Int) (w : World) (h : impl_everybody.f  = some (r1, r2)) :
  Calls Try.prog 74 #[] w fun e w' => e = .returned (.agg #[.int .i64 r1, .int .i64 r2]) ∧ Below w.heap.size w w' := by
 have hu39 := Try.underlying39
 have HB := AM (Below.refl w.heap.size w)
 have H := h
 unfold impl_everybody.f at H
 clear h
 simp only [Option.some.injEq, Prod.mk.injEq] at H
 obtain ⟨rfl, rfl⟩ := H
 go_enter Try.func74, Try.ntmps74
 go_wp2_with (first | ((with_reducible refine gate_dst (N := 0) rfl ?_); refine ZX (N := 0) (cs := #[.int .i64 0, .int .i64 0]) (t := 39) ?_; intro gb617 hg w1 hbox hb; have BK617 := AM (hbox); have GW617 : Za (w.heap.size ≤ gb617) := ZS hg; replace HB := ZT HB hb; clear hb hbox hg; have hcz2 := ZC2 w1 BK617; have hfz2 := ZF2 BK617))
 refine bodyPost_ret (results_cell_row rfl _ _ gb617 39 #[.int .i64 7, .int .i64 7] (0, 0) _ rfl (ZZ BK617.out) Try.underlying39 rfl (by kernel_rfl)) rfl ?_
 exact ⟨ZE, ZB⟩

/-! ### impl_Prog_at: function 52 -/
def impl_Prog_at.f (k : Nat) (l0_0 : List (S39)) (l0_1 : List (S32)) : Option ((List (S39))) := (impl_everybody.f).bind fun bt619 => ((impl_Prog_labels.f k l0_0 l0_1 l0_1 bt619.1 bt619.2 ([] : List (S39))).bind fun t621 => (some t621))
theorem impl_Prog_at.calls (k : Nat) (A0_0 : Option Addr) (c0_0 : Nat) (l0_0 : List (S39)) (A0_1 : Option Addr) (c0_1 : Nat) (l0_1 : List (S32)) (r : List (S39)) (w : World) (hr0_0 : Kd.C k39 w A0_0 l0_0.length l0_0) (hc0_0 : l0_0.length ≤ c0_0) (hr0_1 : Kd.C k32 w A0_1 l0_1.length l0_1) (hc0_1 : l0_1.length ≤ c0_1) (h : impl_Prog_at.f k l0_0 l0_1 = some r) :
  Calls Try.prog 52 #[.agg #[.slice A0_0 l0_0.length c0_0, .slice A0_1 l0_1.length c0_1]] w fun e w' => ∃ v0_ : Value, e = .returned (v0_) ∧ Kd.R k39 39 w' w.heap.size (fun _ => True) v0_ r ∧ Below w.heap.size w w' := by
 have hu26 := Try.underlying26
 have HR0_0 := AM hr0_0
 have HC0_0 := AM hc0_0
 clear hr0_0 hc0_0
 have HR0_1 := AM hr0_1
 have HC0_1 := AM hc0_1
 clear hr0_1 hc0_1
 have HB := AM (Below.refl w.heap.size w)
 have H := h
 unfold impl_Prog_at.f at H
 clear h
 obtain ⟨⟨t619, t620⟩, A2, H⟩ := ZOB H; try dsimp only at H
 obtain ⟨t621, A3, H⟩ := ZOB H; try dsimp only at H
 obtain rfl := Option.some.inj H
 go_enter Try.func52, Try.ntmps52
 try go_wp2_with (first | ((with_reducible refine gate_dst (N := 1) rfl ?_); refine ZX (N := 1) (cs := #[.slice A0_0 l0_0.length c0_0, .slice A0_1 l0_1.length c0_1]) (t := 26) ?_; intro gb618 hg w4 hbox hb; have BK618 := AM (hbox); have GW618 : Za (w.heap.size ≤ gb618) := ZS hg; replace HB := ZT HB hb; clear hb hbox hg))
 replace BK618 := AM (blk_drew BK618.out)
 replace HB := AM (below_drew1 HB.out)
 refine start_ (n := 6) (S := fun w' => w'.cell? ⟨gb618, 0, none⟩ = some (.slice A0_0 l0_0.length c0_0) ∧ w'.cell? ⟨gb618, 1, none⟩ = some (.slice A0_1 l0_1.length c0_1)) (ds := []) #[F,F,F,F,F,F] (by kernel_rfl) rfl rfl ⟨ZA BK618 0, ZA BK618 1⟩ (fun hHeld => ?_)
 generalize w4.drew = w5 at BK618 HB hHeld ⊢
 refine pure_ (i := 1) (N := some 4) (v := ?_) (a' := ?_) #[F,T,F,F,F,F] rfl rfl (by kernel_rfl) (fun _ _ _ h => h) (Or.inl ⟨by rfl, ?_⟩) ?_ ?_
 rotate_left
 ·(
 intro w'
 go_simp
 with_reducible rfl)
 rotate_left
 ·(
 simp only [Act.put, List.setIfInBounds_toArray, List.set_cons_zero, List.set_cons_succ, i64_w, i32_w]
 rfl)
 refine take_ (i := 0) (N := some 3) (v := ?_) (a' := ?_) #[T,T,F,F,F,F] rfl rfl (by kernel_rfl) (fun _ _ _ h => h) (Or.inl ⟨by rfl, ?_⟩) hHeld ?_ ?_
 rotate_left
 ·(
 rintro w' ⟨s0, s1⟩
 go_simp
 with_reducible rfl)
 rotate_left
 ·(
 simp only [Act.put, List.setIfInBounds_toArray, List.set_cons_zero, List.set_cons_succ, i64_w, i32_w]
 rfl)
 refine take_ (i := 2) (N := some 5) (v := ?_) (a' := ?_) #[T,T,T,F,F,F] rfl rfl (by kernel_rfl) (fun _ _ _ h => h) (Or.inl ⟨by rfl, ?_⟩) hHeld ?_ ?_
 rotate_left
 ·(
 rintro w' ⟨s0, s1⟩
 go_simp
 with_reducible rfl)
 rotate_left
 ·(
 simp only [Act.put, List.setIfInBounds_toArray, List.set_cons_zero, List.set_cons_succ, i64_w, i32_w]
 rfl)
 refine one_ (i := 3) (N := some 6) #[T,T,T,T,F,F] rfl rfl (by kernel_rfl) (by decide) (fun K hK => ?_)
 refine ZGO Try.func74 #[] ?_
 with_reducible refine (impl_everybody.calls  t619 t620 _ A2.out).mono ?_
 rintro e w6 ⟨rfl, hb⟩
 refine ⟨_, rfl, ?_⟩
 replace BK618 := ZW BK618 hb
 replace HB := ZT HB hb
 (try clear hb)
 (try clear hb2)
 (try clear hk)
 (try clear hi)
 refine hK.out _ _ ⟨ZA BK618 0, ZA BK618 1⟩ (fun hHeld => ?_)
 clear hK K
 refine ZNO 6 ?_
 refine one_ (i := 4) (N := some 7) #[T,T,T,T,T,F] rfl rfl (by kernel_rfl) (by decide) (fun K hK => ?_)
 refine ZGO Try.func73 #[.agg #[.slice A0_0 l0_0.length c0_0, .slice A0_1 l0_1.length c0_1], .slice A0_1 l0_1.length c0_1, .agg #[.int .i64 t619, .int .i64 t620], .slice none 0 0] ?_
 refine (impl_Prog_labels.calls k _ _ l0_0 _ _ l0_1 _ _ l0_1 t619 t620 (fun k_ => some k_ = (.slice none 0 0 : Value).ownBlock) (.slice none 0 0) ([] : List (S39)) t621 w _ ?side1 ?side2 ?side3 ?side4 ?side5 ?side6 ?side7 ?side8 A3.out).mono ?_
 (case side1 => repeat (first | (with_reducible first | exact HB.out | apply below_alloc | apply pw_below_drewN | apply below_drew1 | refine below_set ?_ GW618.out) | exact HB.out))
 (case side2 => exact Kd.C_kept_came k39_heap HR0_0.out (ZB) (fun k_ hs_ => (fun e_ => by simp [Value.ownBlock] at e_) hs_))
 (case side3 => exact HC0_0.out)
 (case side4 => exact Kd.C_kept_came k32_heap HR0_1.out (ZB) (fun k_ hs_ => (fun e_ => by simp [Value.ownBlock] at e_) hs_))
 (case side5 => exact HC0_1.out)
 (case side6 => exact Kd.C_kept_came k32_heap HR0_1.out (ZB) (fun k_ hs_ => (fun e_ => by simp [Value.ownBlock] at e_) hs_))
 (case side7 => exact HC0_1.out)
 (case side8 => exact Kd.R_nil _ _ _ _ _)
 rintro e w7 ⟨v622, rfl, ho0, hb, hkp⟩
 refine ⟨_, rfl, ?_⟩
 have HO623 := AM (Kd.R_mono (ok' := fun k_ => True) ho0 (fun k_ hk_ => trivial))
 replace BK618 := AM (blk_kept (ZK BK618.out) hkp (fun hs_ => (fun e_ => by simp [Value.ownBlock] at e_) hs_))
 replace HB := AM (hb)
 (try clear hb)
 (try clear hkp)
 (try clear ho0)
 refine hK.out _ _ ⟨ZA BK618 0, ZA BK618 1⟩ (fun hHeld => ?_)
 clear hK K
 refine ZNO 7 ?_
 refine pure_ (i := 5) (N := some 2) (v := ?_) (a' := ?_) #[T,T,T,T,T,T] rfl rfl (by kernel_rfl) (fun _ _ _ h => h) (Or.inl ⟨by rfl, ?_⟩) ?_ ?_
 rotate_left
 ·(
 intro w'
 go_simp
 with_reducible rfl)
 rotate_left
 ·(
 simp only [Act.put, List.setIfInBounds_toArray, List.set_cons_zero, List.set_cons_succ, i64_w, i32_w]
 rfl)
 refine done_ (by kernel_rfl) ?_
 try go_wp2
 go_ret
 exact ⟨_, ZE, by (with_reducible repeat (first | apply Kd.R_alloc | apply Kd.R_drewN | apply Kd.R_drew)); exact HO623.out, ZB⟩

/-! ### impl_all: function 66 -/
mutual
def impl_all.l0 : Nat → List (S32) → List (S32) → Int → Int → Option ((List (S32)))
 | 0, _, _, _, _ => none
 | k + 1, x3, x6, x7, x8 => if x8 < x7 then (if 0 ≤ x8 then (if x8 < (x6.length : Int) then (if x3.length < 1466015503701 then ((some (x3 ++ [(⟨(D32 x6 x8).f0, (D32 x6 x8).f1, (⟨(D32 x6 x8).f2.f0, (D32 x6 x8).f2.f1, (D32 x6 x8).f2.f2⟩ : S30), (D32 x6 x8).f3, (D32 x6 x8).f4, (D32 x6 x8).f5⟩ : S32)] : List (S32))).bind fun y626 => ((impl_all.f k ((D32 x6 x8).f4)).bind fun t629 => (if y626.length + t629.length < 1466015503701 then ((some (y626 ++ t629 : List (S32))).bind fun y632 => ((impl_all.f k ((D32 x6 x8).f5)).bind fun t635 => (if y632.length + t635.length < 1466015503701 then (impl_all.l0 k (y632 ++ t635) x6 x7 (wrap64 (x8 + 1))) else (none)))) else (none)))) else (none)) else (none)) else (none)) else (some x3)
def impl_all.f : Nat → List (S32) → Option ((List (S32)))
 | 0, _ => none
 | k + 1, l0 => impl_all.l0 k ([] : List (S32)) l0 (l0.length : Int) 0
end
theorem impl_all.calls (k : Nat) : ∀ (P0_ : Nat → Prop) (A0 : Option Addr) (c0 : Nat) (l0 : List (S32)) (r : List (S32)) (w : World) (hs0 : Kd.V k32 32 w w.heap.size (fun k_ => P0_ k_) (.slice A0 l0.length c0) l0) (h : impl_all.f k l0 = some r),
  Calls Try.prog 66 #[.slice A0 l0.length c0] w fun e w' => ∃ v0_ : Value, e = .returned (v0_) ∧ Kd.N k32 32 w' w.heap.size (fun k_ => (P0_ k_ ∨ w.heap.size ≤ k_)) v0_ r ∧ Below w.heap.size w w' := by
 induction k using Nat.strongRecOn with
 | _ k ih =>
 intro P0_ A0 c0 l0 r w hs0 h
 cases k with
 | zero => exact absurd h (by simp [impl_all.f])
 | succ k =>
 simp only [impl_all.f] at h
 have hu32 := Try.underlying32
 have HO0 := AM (show Kd.V k32 32 w w.heap.size (fun k_ => (P0_ k_ ∨ w.heap.size ≤ k_)) (.slice A0 l0.length c0) l0 from Kd.V_mono hs0 (fun k_ hk => .inl hk))
 have HB := AM (Below.refl w.heap.size w)
 have H : (impl_all.l0 k ([] : List (S32)) l0 (l0.length : Int) 0) = some r := h
 clear h
 have H' := AM H
 clear H
 go_enter Try.func66, Try.ntmps66
 go_wp2
 go_loopg [3, 8] k (fun kq v3 v8 w' => ∃ (x3_1 : List (S32)) (x8_1 : Int), v8 = .int .i64 x8_1 ∧ Za (impl_all.l0 kq x3_1 l0 (l0.length : Int) x8_1 = some r) ∧ Za (kq ≤ k) ∧ Za (Kd.N k32 32 w' w.heap.size (fun k_ => (P0_ k_ ∨ w.heap.size ≤ k_)) v3 x3_1) ∧ Za (Kd.V k32 32 w' w.heap.size (fun k_ => (P0_ k_ ∨ w.heap.size ≤ k_) ∧ some k_ ≠ (v3 : Value).ownBlock) (.slice A0 l0.length c0) l0) ∧ Za (Below w.heap.size w w'))
 case atStart => exact ⟨(([] : List (S32))), (0), (by first | rfl | (simp; done) | (simp [*]; done)), H', ⟨Nat.le_refl _⟩, ⟨by first | exact Kd.R_nil _ _ _ _ _ | exact Kd.N_nil _ _ _ _ _ | exact Kd.V_nil _ _ _ _ _ | exact Kd.Q_nil _ _ _ _ _ | exact Kd.S_nil _ _ _ _ _⟩, ⟨by (with_reducible repeat (first | apply Kd.V_alloc | apply Kd.V_drewN | apply Kd.V_drew)); exact Kd.V_mono HO0.out (fun _ hk => ⟨hk, (by simp [Value.ownBlock])⟩)⟩, ⟨ZB⟩⟩
 case round => (
 clear H'
 obtain ⟨x3_1, x8_1, rfl, HA, HK1, HO_3, HO_6, HB⟩ := hrel
 cases gk with
 | zero => exact absurd HA.out (by simp [impl_all.l0])
 | succ k1 =>
  have H := HA.out
  clear HA
  simp only [impl_all.l0] at H
  by_cases c2 : x8_1 < (l0.length : Int)
  ·(
  rw [if_pos c2] at H
  have c2b0 := decide_eq_true c2
  clear c2
  by_cases c3 : 0 ≤ x8_1
  ·(
  rw [if_pos c3] at H
  have c3b0 := decide_eq_true c3
  clear c3
  by_cases c4 : x8_1 < (l0.length : Int)
  ·(
  rw [if_pos c4] at H
  have c4b0 := decide_eq_true c4
  clear c4
  by_cases c5 : x3_1.length < 1466015503701
  ·(
  rw [if_pos c5] at H
  have LMc5 := AM c5
  clear c5
  obtain ⟨y626, hy626⟩ : ∃ y_ : List (S32), y_ = (x3_1 ++ [(⟨(D32 l0 x8_1).f0, (D32 l0 x8_1).f1, (⟨(D32 l0 x8_1).f2.f0, (D32 l0 x8_1).f2.f1, (D32 l0 x8_1).f2.f2⟩ : S30), (D32 l0 x8_1).f3, (D32 l0 x8_1).f4, (D32 l0 x8_1).f5⟩ : S32)]) := ⟨_, rfl⟩
  replace H : ((impl_all.f k1 ((D32 l0 x8_1).f4)).bind fun t629 => (if y626.length + t629.length < 1466015503701 then ((some (y626 ++ t629 : List (S32))).bind fun y632 => ((impl_all.f k1 ((D32 l0 x8_1).f5)).bind fun t635 => (if y632.length + t635.length < 1466015503701 then (impl_all.l0 k1 (y632 ++ t635) l0 (l0.length : Int) (wrap64 (x8_1 + 1))) else (none)))) else (none))) = some r := by first | (rw [hy626]; with_reducible exact H) | (have H2_ := (Option.bind_some _ _).symm.trans H; rw [hy626]; with_reducible exact H2_) | (have H2_ := (Option.bind_some _ _).symm.trans H; with_reducible exact H2_) | with_reducible exact H | (rw [hy626]; exact H) | exact H
  have Ny626 := AM hy626
  clear hy626
  obtain ⟨t629, A6, H⟩ := ZOB H; try dsimp only at H
  by_cases c7 : y626.length + t629.length < 1466015503701
  ·(
  rw [if_pos c7] at H
  have LMc7 := AM c7
  clear c7
  obtain ⟨y632, hy632⟩ : ∃ y_ : List (S32), y_ = (y626 ++ t629) := ⟨_, rfl⟩
  replace H : ((impl_all.f k1 ((D32 l0 x8_1).f5)).bind fun t635 => (if y632.length + t635.length < 1466015503701 then (impl_all.l0 k1 (y632 ++ t635) l0 (l0.length : Int) (wrap64 (x8_1 + 1))) else (none))) = some r := by first | (rw [hy632]; with_reducible exact H) | (have H2_ := (Option.bind_some _ _).symm.trans H; rw [hy632]; with_reducible exact H2_) | (have H2_ := (Option.bind_some _ _).symm.trans H; with_reducible exact H2_) | with_reducible exact H | (rw [hy632]; exact H) | exact H
  have Ny632 := AM hy632
  clear hy632
  obtain ⟨t635, A8, H⟩ := ZOB H; try dsimp only at H
  by_cases c9 : y632.length + t635.length < 1466015503701
  ·(
  rw [if_pos c9] at H
  have LMc9 := AM c9
  clear c9
  obtain ⟨y638, hy638⟩ : ∃ y_ : List (S32), y_ = (y632 ++ t635) := ⟨_, rfl⟩
  replace H : (impl_all.l0 k1 y638 l0 (l0.length : Int) (wrap64 (x8_1 + 1))) = some r := by first | (rw [hy638]; with_reducible exact H) | (have H2_ := (Option.bind_some _ _).symm.trans H; rw [hy638]; with_reducible exact H2_) | (have H2_ := (Option.bind_some _ _).symm.trans H; with_reducible exact H2_) | with_reducible exact H | (rw [hy638]; exact H) | exact H
  have Ny638 := AM hy638
  clear hy638
  have H' := AM H
  clear H
  have p624 : 0 ≤ (x8_1 : Int) := ZD
  have q624 : x8_1 < (l0.length : Int) := ZD
  obtain ⟨ad624, A624_6, c624_6, A624_7, c624_7, e624, hx624_0, hx624_1, hx624_2, hx624_3, hx624_4, hx624_5, hx624_6, hx624_7, hl624_6, hi624_6, hl624_7, hi624_7⟩ := at_T32 (Kd.V_reads' HO_6.out).2.2 x8_1 p624 q624
  cases e624
  obtain ⟨ce624, hce624, hMe624, hcc624⟩ := Kd.V_get HO_6.out z32 x8_1 p624 (by first | exact q624 | exact ZD | (have e_ := (Kd.V_reads' HO_6.out).1; omega))
  obtain ⟨ua624_6, uc624_6, ua624_7, uc624_7, rfl, ul624_6, ge624_6, ul624_7, ge624_7⟩ := k32_openF hMe624
  have hv624_6 := hcc624 6 _ rfl
  rw [add_field _ _ 6 (by omega)] at hv624_6
  replace hv624_6 := Option.some.inj (hv624_6.symm.trans hx624_6)
  injection hv624_6 with hva_ hvn_ hvc_
  rw [hva_] at ge624_6
  rw [hvc_] at ul624_6
  have HL624_6 := AM (show Kd.V k32 32 _ w.heap.size _ _ ((D32 l0 x8_1).f4) from Kd.V_mk ul624_6 ge624_6)
  clear hva_ hvn_ hvc_ ge624_6 ul624_6
  have hv624_7 := hcc624 7 _ rfl
  rw [add_field _ _ 7 (by omega)] at hv624_7
  replace hv624_7 := Option.some.inj (hv624_7.symm.trans hx624_7)
  injection hv624_7 with hva_ hvn_ hvc_
  rw [hva_] at ge624_7
  rw [hvc_] at ul624_7
  have HL624_7 := AM (show Kd.V k32 32 _ w.heap.size _ _ ((D32 l0 x8_1).f5) from Kd.V_mk ul624_7 ge624_7)
  clear hva_ hvn_ hvc_ ge624_7 ul624_7 hcc624 hce624
  have HR624_6 := AM hi624_6
  have HC624_6 := AM hl624_6
  clear hi624_6 hl624_6
  have HR624_7 := AM hi624_7
  have HC624_7 := AM hl624_7
  clear hi624_7 hl624_7
  replace p624 := eq_true p624
  replace q624 := eq_true q624
  go_wp2_with (first | ((with_reducible refine gate_dst (N := 5) rfl ?_); refine ZX (N := 5) (cs := #[.int .i64 0, .int .i64 0, .int .i64 0, .int .i64 0, .int .i64 0, .int .i64 0, .slice none 0 0, .slice none 0 0]) (t := 32) ?_; intro gb625 hg w10 hbox hb; have BK625 := AM (hbox); have GW625 : Za (w.heap.size ≤ gb625) := ZS hg; replace HO_3 := AM (Kd.N_below (Kd.N_elderB (ZRN HO_3.out) gb625 (Nat.le_of_eq hg.symm)) hb); replace HO_6 := AM (Kd.V_below (Kd.V_elderB (ZRV HO_6.out) gb625 (Nat.le_of_eq hg.symm)) hb); replace HL624_6 := AM (Kd.V_below (Kd.V_elderB (ZRV HL624_6.out) gb625 (Nat.le_of_eq hg.symm)) hb); replace HL624_7 := AM (Kd.V_below (Kd.V_elderB (ZRV HL624_7.out) gb625 (Nat.le_of_eq hg.symm)) hb); replace HR624_6 := AM (Kd.C_below (ZQ HR624_6.out) hb); replace HR624_7 := AM (Kd.C_below (ZQ HR624_7.out) hb); replace HB := ZT HB hb; clear hb hbox hg; have hcz11 := ZC8 w10 BK625; have hfz11 := ZF8 BK625) | ((with_reducible refine gate_store (t := 32) (p := 5) rfl ?_); refine store_event (t := 32) (p := 5) (v := ?vo_w12) (w1 := ((((((((w10.setCell ⟨gb625, 0, none⟩ (.int .i64 ((D32 l0 x8_1).f0))).setCell ⟨gb625, 1, none⟩ (.int .i64 ((D32 l0 x8_1).f1))).setCell ⟨gb625, 2, none⟩ (.int .i64 ((D32 l0 x8_1).f2.f0))).setCell ⟨gb625, 3, none⟩ (.int .i64 ((D32 l0 x8_1).f2.f1))).setCell ⟨gb625, 4, none⟩ (.int .i64 ((D32 l0 x8_1).f2.f2))).setCell ⟨gb625, 5, none⟩ (.int .i64 ((D32 l0 x8_1).f3))).setCell ⟨gb625, 6, none⟩ (.slice A624_6 ((D32 l0 x8_1).f4).length c624_6)).setCell ⟨gb625, 7, none⟩ (.slice A624_7 ((D32 l0 x8_1).f5).length c624_7))) ?hg ?ho ?hn ?hr ?_; (case ho => rfl); (case hg => rfl); (case hn => rfl); (case hr => first | (go_simp; done) | (go_simp; rfl)); intro w12 hw; have n0_ : Za (Kd.N k32 32 w12 w.heap.size (fun k_ => (P0_ k_ ∨ w.heap.size ≤ k_) ∧ k_ ≠ gb625) u3 x3_1) := ⟨(by rw [hw]; exact (by (with_reducible repeat (first | apply Kd.N_alloc | apply Kd.N_drewN | apply Kd.N_drew)); exact Kd.N_mono (Kd.N_far (p := ⟨gb625, 7, none⟩) (Kd.N_far (p := ⟨gb625, 6, none⟩) (Kd.N_far (p := ⟨gb625, 5, none⟩) (Kd.N_far (p := ⟨gb625, 4, none⟩) (Kd.N_far (p := ⟨gb625, 3, none⟩) (Kd.N_far (p := ⟨gb625, 2, none⟩) (Kd.N_far (p := ⟨gb625, 1, none⟩) (Kd.N_far (p := ⟨gb625, 0, none⟩) (Kd.N_mono HO_3.out (fun k_ hk => (⟨hk, hk.2⟩ : _ ∧ k_ ≠ gb625))) (fun _ hk => hk.2) (.int .i64 ((D32 l0 x8_1).f0))) (fun _ hk => hk.2) (.int .i64 ((D32 l0 x8_1).f1))) (fun _ hk => hk.2) (.int .i64 ((D32 l0 x8_1).f2.f0))) (fun _ hk => hk.2) (.int .i64 ((D32 l0 x8_1).f2.f1))) (fun _ hk => hk.2) (.int .i64 ((D32 l0 x8_1).f2.f2))) (fun _ hk => hk.2) (.int .i64 ((D32 l0 x8_1).f3))) (fun _ hk => hk.2) (.slice A624_6 ((D32 l0 x8_1).f4).length c624_6)) (fun _ hk => hk.2) (.slice A624_7 ((D32 l0 x8_1).f5).length c624_7)) (fun _ hk => ⟨hk.1.1, hk.1.2⟩)))⟩; have n1_ : Za (Kd.V k32 32 w12 w.heap.size (fun k_ => (P0_ k_ ∨ w.heap.size ≤ k_) ∧ some k_ ≠ (u3 : Value).ownBlock ∧ k_ ≠ gb625) (.slice (some ad624) l0.length c0) l0) := ⟨(by rw [hw]; exact (by (with_reducible repeat (first | apply Kd.V_alloc | apply Kd.V_drewN | apply Kd.V_drew)); exact Kd.V_mono (Kd.V_far (p := ⟨gb625, 7, none⟩) (Kd.V_far (p := ⟨gb625, 6, none⟩) (Kd.V_far (p := ⟨gb625, 5, none⟩) (Kd.V_far (p := ⟨gb625, 4, none⟩) (Kd.V_far (p := ⟨gb625, 3, none⟩) (Kd.V_far (p := ⟨gb625, 2, none⟩) (Kd.V_far (p := ⟨gb625, 1, none⟩) (Kd.V_far (p := ⟨gb625, 0, none⟩) (Kd.V_mono HO_6.out (fun k_ hk => (⟨hk, hk.2⟩ : _ ∧ k_ ≠ gb625))) (fun _ hk => hk.2) (.int .i64 ((D32 l0 x8_1).f0))) (fun _ hk => hk.2) (.int .i64 ((D32 l0 x8_1).f1))) (fun _ hk => hk.2) (.int .i64 ((D32 l0 x8_1).f2.f0))) (fun _ hk => hk.2) (.int .i64 ((D32 l0 x8_1).f2.f1))) (fun _ hk => hk.2) (.int .i64 ((D32 l0 x8_1).f2.f2))) (fun _ hk => hk.2) (.int .i64 ((D32 l0 x8_1).f3))) (fun _ hk => hk.2) (.slice A624_6 ((D32 l0 x8_1).f4).length c624_6)) (fun _ hk => hk.2) (.slice A624_7 ((D32 l0 x8_1).f5).length c624_7)) (fun _ hk => ⟨hk.1.1.1, ⟨hk.1.1.2, hk.1.2⟩⟩)))⟩; have n2_ : Za (Kd.V k32 32 w12 w.heap.size (fun k_ => (P0_ k_ ∨ w.heap.size ≤ k_) ∧ some k_ ≠ (u3 : Value).ownBlock ∧ k_ ≠ gb625) (.slice A624_6 ((D32 l0 x8_1).f4).length c624_6) ((D32 l0 x8_1).f4)) := ⟨(by rw [hw]; exact (by (with_reducible repeat (first | apply Kd.V_alloc | apply Kd.V_drewN | apply Kd.V_drew)); exact Kd.V_mono (Kd.V_far (p := ⟨gb625, 7, none⟩) (Kd.V_far (p := ⟨gb625, 6, none⟩) (Kd.V_far (p := ⟨gb625, 5, none⟩) (Kd.V_far (p := ⟨gb625, 4, none⟩) (Kd.V_far (p := ⟨gb625, 3, none⟩) (Kd.V_far (p := ⟨gb625, 2, none⟩) (Kd.V_far (p := ⟨gb625, 1, none⟩) (Kd.V_far (p := ⟨gb625, 0, none⟩) (Kd.V_mono HL624_6.out (fun k_ hk => (⟨hk, hk.2⟩ : _ ∧ k_ ≠ gb625))) (fun _ hk => hk.2) (.int .i64 ((D32 l0 x8_1).f0))) (fun _ hk => hk.2) (.int .i64 ((D32 l0 x8_1).f1))) (fun _ hk => hk.2) (.int .i64 ((D32 l0 x8_1).f2.f0))) (fun _ hk => hk.2) (.int .i64 ((D32 l0 x8_1).f2.f1))) (fun _ hk => hk.2) (.int .i64 ((D32 l0 x8_1).f2.f2))) (fun _ hk => hk.2) (.int .i64 ((D32 l0 x8_1).f3))) (fun _ hk => hk.2) (.slice A624_6 ((D32 l0 x8_1).f4).length c624_6)) (fun _ hk => hk.2) (.slice A624_7 ((D32 l0 x8_1).f5).length c624_7)) (fun _ hk => ⟨hk.1.1.1, ⟨hk.1.1.2, hk.1.2⟩⟩)))⟩; have n3_ : Za (Kd.V k32 32 w12 w.heap.size (fun k_ => (P0_ k_ ∨ w.heap.size ≤ k_) ∧ some k_ ≠ (u3 : Value).ownBlock ∧ k_ ≠ gb625) (.slice A624_7 ((D32 l0 x8_1).f5).length c624_7) ((D32 l0 x8_1).f5)) := ⟨(by rw [hw]; exact (by (with_reducible repeat (first | apply Kd.V_alloc | apply Kd.V_drewN | apply Kd.V_drew)); exact Kd.V_mono (Kd.V_far (p := ⟨gb625, 7, none⟩) (Kd.V_far (p := ⟨gb625, 6, none⟩) (Kd.V_far (p := ⟨gb625, 5, none⟩) (Kd.V_far (p := ⟨gb625, 4, none⟩) (Kd.V_far (p := ⟨gb625, 3, none⟩) (Kd.V_far (p := ⟨gb625, 2, none⟩) (Kd.V_far (p := ⟨gb625, 1, none⟩) (Kd.V_far (p := ⟨gb625, 0, none⟩) (Kd.V_mono HL624_7.out (fun k_ hk => (⟨hk, hk.2⟩ : _ ∧ k_ ≠ gb625))) (fun _ hk => hk.2) (.int .i64 ((D32 l0 x8_1).f0))) (fun _ hk => hk.2) (.int .i64 ((D32 l0 x8_1).f1))) (fun _ hk => hk.2) (.int .i64 ((D32 l0 x8_1).f2.f0))) (fun _ hk => hk.2) (.int .i64 ((D32 l0 x8_1).f2.f1))) (fun _ hk => hk.2) (.int .i64 ((D32 l0 x8_1).f2.f2))) (fun _ hk => hk.2) (.int .i64 ((D32 l0 x8_1).f3))) (fun _ hk => hk.2) (.slice A624_6 ((D32 l0 x8_1).f4).length c624_6)) (fun _ hk => hk.2) (.slice A624_7 ((D32 l0 x8_1).f5).length c624_7)) (fun _ hk => ⟨hk.1.1.1, ⟨hk.1.1.2, hk.1.2⟩⟩)))⟩; have n4_ : Za (w12.heap[gb625]? = some (.cells #[.int .i64 ((D32 l0 x8_1).f0), .int .i64 ((D32 l0 x8_1).f1), .int .i64 ((D32 l0 x8_1).f2.f0), .int .i64 ((D32 l0 x8_1).f2.f1), .int .i64 ((D32 l0 x8_1).f2.f2), .int .i64 ((D32 l0 x8_1).f3), .slice A624_6 ((D32 l0 x8_1).f4).length c624_6, .slice A624_7 ((D32 l0 x8_1).f5).length c624_7] 32 (0, 0))) := ⟨(by rw [hw]; exact (ZZ BK625.out))⟩; have n5_ : Za (Below w.heap.size w w12) := ⟨(by rw [hw]; exact (ZB))⟩; clear hw HO_3 HO_6 HL624_6 HL624_7 BK625 HB; have HO_3 := n0_; have HO_6 := n1_; have HL624_6 := n2_; have HL624_7 := n3_; have BK625 := n4_; have HB := n5_; clear n0_ n1_ n2_ n3_ n4_ n5_; have hcz13 := ZC8 w12 BK625; have hfz13 := ZF8 BK625) | ((with_reducible refine gate_builtin (b := .append) (xs := #[.tmp 12, .tmp 14]) rfl ?_); at_builtin; refine Kd.N_append k32 (w0 := w) w.heap.size rfl (.tmp 12) (.tmp 14) 24 32 (.agg #[(.int .i64 0), (.int .i64 0), (.int .i64 0), (.int .i64 0), (.int .i64 0), (.int .i64 0), (.slice none 0 0), (.slice none 0 0)]) 96 rfl Try.underlying24 info32 rfl (by decide) (by omega) u3 x3_1 (⟨(D32 l0 x8_1).f0, (D32 l0 x8_1).f1, (⟨(D32 l0 x8_1).f2.f0, (D32 l0 x8_1).f2.f1, (D32 l0 x8_1).f2.f2⟩ : S30), (D32 l0 x8_1).f3, (D32 l0 x8_1).f4, (D32 l0 x8_1).f5⟩ : S32) [.int .i64 ((D32 l0 x8_1).f0), .int .i64 ((D32 l0 x8_1).f1), .int .i64 ((D32 l0 x8_1).f2.f0), .int .i64 ((D32 l0 x8_1).f2.f1), .int .i64 ((D32 l0 x8_1).f2.f2), .int .i64 ((D32 l0 x8_1).f3), .slice A624_6 ((D32 l0 x8_1).f4).length c624_6, .slice A624_7 ((D32 l0 x8_1).f5).length c624_7] (fun k_ => (P0_ k_ ∨ w.heap.size ≤ k_) ∧ k_ ≠ gb625) (fun k_ => ((fun k_ => (P0_ k_ ∨ w.heap.size ≤ k_) ∧ k_ ≠ gb625)) k_ ∧ some k_ ≠ (u3 : Value).ownBlock) rfl rfl ?aP (fun _ hk => hk) ?aF ?aO ?aB ?aS ?aL ?_; (case aP => exact (k32_mkF _ _ (⟨(D32 l0 x8_1).f0, (D32 l0 x8_1).f1, (⟨(D32 l0 x8_1).f2.f0, (D32 l0 x8_1).f2.f1, (D32 l0 x8_1).f2.f2⟩ : S30), (D32 l0 x8_1).f3, (D32 l0 x8_1).f4, (D32 l0 x8_1).f5⟩ : S32) (Kd.V_reads' (Kd.V_mono (ok' := (fun k_ => ((fun k_ => (P0_ k_ ∨ w.heap.size ≤ k_) ∧ k_ ≠ gb625)) k_ ∧ some k_ ≠ (u3 : Value).ownBlock)) (HL624_6.out) (fun k_ hk => ⟨⟨hk.1, hk.2.2⟩, hk.2.1⟩))).2.1 (Kd.V_F (Kd.V_mono (ok' := (fun k_ => ((fun k_ => (P0_ k_ ∨ w.heap.size ≤ k_) ∧ k_ ≠ gb625)) k_ ∧ some k_ ≠ (u3 : Value).ownBlock)) (HL624_6.out) (fun k_ hk => ⟨⟨hk.1, hk.2.2⟩, hk.2.1⟩))) (Kd.V_reads' (Kd.V_mono (ok' := (fun k_ => ((fun k_ => (P0_ k_ ∨ w.heap.size ≤ k_) ∧ k_ ≠ gb625)) k_ ∧ some k_ ≠ (u3 : Value).ownBlock)) (HL624_7.out) (fun k_ hk => ⟨⟨hk.1, hk.2.2⟩, hk.2.1⟩))).2.1 (Kd.V_F (Kd.V_mono (ok' := (fun k_ => ((fun k_ => (P0_ k_ ∨ w.heap.size ≤ k_) ∧ k_ ≠ gb625)) k_ ∧ some k_ ≠ (u3 : Value).ownBlock)) (HL624_7.out) (fun k_ hk => ⟨⟨hk.1, hk.2.2⟩, hk.2.1⟩))))); (case aB => exact (ZB)); (case aF => exact (fun k_ hk => ⟨(.inr (Nat.le_trans (below_size (ZB)) hk)), Kd.freshB (g := gb625) (o := .cells #[.int .i64 ((D32 l0 x8_1).f0), .int .i64 ((D32 l0 x8_1).f1), .int .i64 ((D32 l0 x8_1).f2.f0), .int .i64 ((D32 l0 x8_1).f2.f1), .int .i64 ((D32 l0 x8_1).f2.f2), .int .i64 ((D32 l0 x8_1).f3), .slice A624_6 ((D32 l0 x8_1).f4).length c624_6, .slice A624_7 ((D32 l0 x8_1).f5).length c624_7] 32 (0, 0)) (ZK BK625.out) k_ hk⟩)); (case aO => exact (ZRN HO_3.out)); (case aS => exact (below_size (ZB))); (case aL => have := LMc5.out; omega); intro v627 w14 ho hb hg hat; rw [← Ny626.out] at ho; have n0_ := AM (Kd.V_afterv (ok := (fun k_ => (P0_ k_ ∨ w.heap.size ≤ k_) ∧ k_ ≠ gb625)) (by (with_reducible repeat (first | apply Kd.V_alloc | apply Kd.V_drewN | apply Kd.V_drew)); exact Kd.V_mono HO_6.out (fun _ hk => ⟨⟨hk.1, hk.2.2⟩, hk.2.1⟩)) hg hat); have n1_ := AM (Kd.V_afterv (ok := (fun k_ => (P0_ k_ ∨ w.heap.size ≤ k_) ∧ k_ ≠ gb625)) (by (with_reducible repeat (first | apply Kd.V_alloc | apply Kd.V_drewN | apply Kd.V_drew)); exact Kd.V_mono HL624_6.out (fun _ hk => ⟨⟨hk.1, hk.2.2⟩, hk.2.1⟩)) hg hat); have n2_ := AM (Kd.V_afterv (ok := (fun k_ => (P0_ k_ ∨ w.heap.size ≤ k_) ∧ k_ ≠ gb625)) (by (with_reducible repeat (first | apply Kd.V_alloc | apply Kd.V_drewN | apply Kd.V_drew)); exact Kd.V_mono HL624_7.out (fun _ hk => ⟨⟨hk.1, hk.2.2⟩, hk.2.1⟩)) hg hat); have n3_ := AM (blk_grown (g := gb625) (o := .cells #[.int .i64 ((D32 l0 x8_1).f0), .int .i64 ((D32 l0 x8_1).f1), .int .i64 ((D32 l0 x8_1).f2.f0), .int .i64 ((D32 l0 x8_1).f2.f1), .int .i64 ((D32 l0 x8_1).f2.f2), .int .i64 ((D32 l0 x8_1).f3), .slice A624_6 ((D32 l0 x8_1).f4).length c624_6, .slice A624_7 ((D32 l0 x8_1).f5).length c624_7] 32 (0, 0)) (ZK BK625.out) hg (Kd.N_away HO_3.out (fun _ hk => hk.2))); have n4_ := AM (hb); have n5_ := AM (ho); clear HO_6 HL624_6 HL624_7 BK625 HB HO_3; have HO_6 := n0_; have HL624_6 := n1_; have HL624_7 := n2_; have BK625 := n3_; have HB := n4_; have HO628 := n5_; clear n0_ n1_ n2_ n3_ n4_ n5_ ho hb hg hat; have hcz15 := ZC8 w14 BK625; have hfz15 := ZF8 BK625) | ((with_reducible refine gate_callee (f := 66) rfl ?_); refine ZGL (some 19) Try.func66 #[.slice A624_6 ((D32 l0 x8_1).f4).length c624_6] ?_; (with_reducible refine (ih k1 (by have := HK1.out; omega) (fun k_ => (((P0_ k_ ∨ w.heap.size ≤ k_) ∧ k_ ≠ gb625) ∧ some k_ ≠ (v627 : Value).ownBlock)) _ _ ((D32 l0 x8_1).f4) t629 _ ?side1 A6.out).mono ?_); (case side1 => exact HL624_6.out); rintro e w16 ⟨v630, rfl, ho0, hb⟩; refine ⟨_, rfl, ?_⟩; have HO631 := AM (Kd.N_lower (Kd.N_mono (ok' := fun k_ => (P0_ k_ ∨ w.heap.size ≤ k_) ∧ some k_ ≠ (v627 : Value).ownBlock ∧ k_ ≠ gb625) ho0 (fun k_ hk_ => ⟨Or.elim hk_ (fun hs_ => hs_.1.1) (fun hn_ => (.inr (Nat.le_trans (below_size (ZB)) hn_))), Or.elim hk_ (fun hs_ => hs_.2) (fun hn_ => (Kd.fresh' (Kd.N_lt (ZRN HO628.out)) k_ hn_)), Or.elim hk_ (fun hs_ => hs_.1.2) (fun hn_ => (Kd.freshB (g := gb625) (o := .cells #[.int .i64 ((D32 l0 x8_1).f0), .int .i64 ((D32 l0 x8_1).f1), .int .i64 ((D32 l0 x8_1).f2.f0), .int .i64 ((D32 l0 x8_1).f2.f1), .int .i64 ((D32 l0 x8_1).f2.f2), .int .i64 ((D32 l0 x8_1).f3), .slice A624_6 ((D32 l0 x8_1).f4).length c624_6, .slice A624_7 ((D32 l0 x8_1).f5).length c624_7] 32 (0, 0)) (ZK BK625.out) k_ hn_))⟩)) (below_size (ZB))); replace HO_6 := AM (Kd.V_elder' (ZRV HO_6.out) (Kd.N_base ho0) hb); replace HL624_6 := AM (Kd.V_elder' (ZRV HL624_6.out) (Kd.N_base ho0) hb); replace HL624_7 := AM (Kd.V_elder' (ZRV HL624_7.out) (Kd.N_base ho0) hb); replace HO628 := AM (Kd.N_elder' (ZRN HO628.out) (Kd.N_base ho0) hb); replace BK625 := ZW BK625 hb; replace HB := ZT HB hb; clear hb; (try clear ho0); obtain ⟨Ao18, co18, eo18⟩ := Kd.N_slice HO631.out; subst eo18) | ((with_reducible refine gate_builtin (b := .append) (xs := #[.tmp 16, .tmp 19]) rfl ?_); at_builtin; refine Kd.N_append_rows k32 (w0 := w) w.heap.size rfl (.tmp 16) (.tmp 19) 24 32 (.agg #[(.int .i64 0), (.int .i64 0), (.int .i64 0), (.int .i64 0), (.int .i64 0), (.int .i64 0), (.slice none 0 0), (.slice none 0 0)]) 96 rfl Try.underlying24 info32 rfl (by decide) (by omega) v627 y626 t629 _ _ _ (fun k_ => (P0_ k_ ∨ w.heap.size ≤ k_) ∧ k_ ≠ gb625) (fun k_ => ((fun k_ => (P0_ k_ ∨ w.heap.size ≤ k_) ∧ k_ ≠ gb625)) k_ ∧ some k_ ≠ (v627 : Value).ownBlock) rfl rfl ?aO ?aR (fun _ hk => hk) ?aF ?aB ?aS ?aL ?_; (case aR => exact (by skip; exact Kd.N_F (Kd.N_mono (ok' := (fun k_ => ((fun k_ => (P0_ k_ ∨ w.heap.size ≤ k_) ∧ k_ ≠ gb625)) k_ ∧ some k_ ≠ (v627 : Value).ownBlock)) (HO631.out) (fun k_ hk => ⟨⟨hk.1, hk.2.2⟩, hk.2.1⟩)))); (case aB => exact (ZB)); (case aF => exact (fun k_ hk => ⟨(.inr (Nat.le_trans (below_size (ZB)) hk)), Kd.freshB (g := gb625) (o := .cells #[.int .i64 ((D32 l0 x8_1).f0), .int .i64 ((D32 l0 x8_1).f1), .int .i64 ((D32 l0 x8_1).f2.f0), .int .i64 ((D32 l0 x8_1).f2.f1), .int .i64 ((D32 l0 x8_1).f2.f2), .int .i64 ((D32 l0 x8_1).f3), .slice A624_6 ((D32 l0 x8_1).f4).length c624_6, .slice A624_7 ((D32 l0 x8_1).f5).length c624_7] 32 (0, 0)) (ZK BK625.out) k_ hk⟩)); (case aO => exact (by (with_reducible repeat (first | apply Kd.N_alloc | apply Kd.N_drewN | apply Kd.N_drew)); exact Kd.N_mono HO628.out (fun _ hk => ⟨hk.1.1, hk.1.2⟩))); (case aS => exact (below_size (ZB))); (case aL => have := LMc7.out; omega); intro v633 w17 ho hb hg hat; rw [← Ny632.out] at ho; have n0_ := AM (Kd.V_afterv (ok := (fun k_ => (P0_ k_ ∨ w.heap.size ≤ k_) ∧ some k_ ≠ (.slice Ao18 t629.length co18 : Value).ownBlock ∧ k_ ≠ gb625)) (by (with_reducible repeat (first | apply Kd.V_alloc | apply Kd.V_drewN | apply Kd.V_drew)); exact Kd.V_mono HO_6.out (fun _ hk => ⟨⟨hk.1.1.1, ⟨hk.2, hk.1.1.2⟩⟩, hk.1.2⟩)) hg hat); have n1_ := AM (Kd.V_afterv (ok := (fun k_ => (P0_ k_ ∨ w.heap.size ≤ k_) ∧ some k_ ≠ (.slice Ao18 t629.length co18 : Value).ownBlock ∧ k_ ≠ gb625)) (by (with_reducible repeat (first | apply Kd.V_alloc | apply Kd.V_drewN | apply Kd.V_drew)); exact Kd.V_mono HL624_6.out (fun _ hk => ⟨⟨hk.1.1.1, ⟨hk.2, hk.1.1.2⟩⟩, hk.1.2⟩)) hg hat); have n2_ := AM (Kd.V_afterv (ok := (fun k_ => (P0_ k_ ∨ w.heap.size ≤ k_) ∧ some k_ ≠ (.slice Ao18 t629.length co18 : Value).ownBlock ∧ k_ ≠ gb625)) (by (with_reducible repeat (first | apply Kd.V_alloc | apply Kd.V_drewN | apply Kd.V_drew)); exact Kd.V_mono HL624_7.out (fun _ hk => ⟨⟨hk.1.1.1, ⟨hk.2, hk.1.1.2⟩⟩, hk.1.2⟩)) hg hat); have n3_ := AM (blk_grown (g := gb625) (o := .cells #[.int .i64 ((D32 l0 x8_1).f0), .int .i64 ((D32 l0 x8_1).f1), .int .i64 ((D32 l0 x8_1).f2.f0), .int .i64 ((D32 l0 x8_1).f2.f1), .int .i64 ((D32 l0 x8_1).f2.f2), .int .i64 ((D32 l0 x8_1).f3), .slice A624_6 ((D32 l0 x8_1).f4).length c624_6, .slice A624_7 ((D32 l0 x8_1).f5).length c624_7] 32 (0, 0)) (ZK BK625.out) hg (Kd.N_away HO628.out (fun _ hk => hk.1.2))); have n4_ := AM (Kd.N_afterv (ok := (fun k_ => (P0_ k_ ∨ w.heap.size ≤ k_) ∧ k_ ≠ gb625)) (by (with_reducible repeat (first | apply Kd.N_alloc | apply Kd.N_drewN | apply Kd.N_drew)); exact Kd.N_mono HO631.out (fun _ hk => ⟨⟨hk.1, hk.2.2⟩, hk.2.1⟩)) hg hat); have n5_ := AM (hb); have n6_ := AM (ho); clear HO_6 HL624_6 HL624_7 BK625 HO631 HB HO628; have HO_6 := n0_; have HL624_6 := n1_; have HL624_7 := n2_; have BK625 := n3_; have HO631 := n4_; have HB := n5_; have HO634 := n6_; clear n0_ n1_ n2_ n3_ n4_ n5_ n6_ ho hb hg hat; have hcz19 := ZC8 w17 BK625; have hfz19 := ZF8 BK625) | ((with_reducible refine gate_callee (f := 66) rfl ?_); refine ZGL (some 24) Try.func66 #[.slice A624_7 ((D32 l0 x8_1).f5).length c624_7] ?_; (with_reducible refine (ih k1 (by have := HK1.out; omega) (fun k_ => (((P0_ k_ ∨ w.heap.size ≤ k_) ∧ (some k_ ≠ (.slice Ao18 t629.length co18 : Value).ownBlock ∧ k_ ≠ gb625)) ∧ some k_ ≠ (v633 : Value).ownBlock)) _ _ ((D32 l0 x8_1).f5) t635 _ ?side1 A8.out).mono ?_); (case side1 => exact HL624_7.out); rintro e w20 ⟨v636, rfl, ho0, hb⟩; refine ⟨_, rfl, ?_⟩; have HO637 := AM (Kd.N_lower (Kd.N_mono (ok' := fun k_ => (P0_ k_ ∨ w.heap.size ≤ k_) ∧ some k_ ≠ (.slice Ao18 t629.length co18 : Value).ownBlock ∧ some k_ ≠ (v633 : Value).ownBlock ∧ k_ ≠ gb625) ho0 (fun k_ hk_ => ⟨Or.elim hk_ (fun hs_ => hs_.1.1) (fun hn_ => (.inr (Nat.le_trans (below_size (ZB)) hn_))), Or.elim hk_ (fun hs_ => hs_.1.2.1) (fun hn_ => (Kd.fresh' (Kd.N_lt (ZRN HO631.out)) k_ hn_)), Or.elim hk_ (fun hs_ => hs_.2) (fun hn_ => (Kd.fresh' (Kd.N_lt (ZRN HO634.out)) k_ hn_)), Or.elim hk_ (fun hs_ => hs_.1.2.2) (fun hn_ => (Kd.freshB (g := gb625) (o := .cells #[.int .i64 ((D32 l0 x8_1).f0), .int .i64 ((D32 l0 x8_1).f1), .int .i64 ((D32 l0 x8_1).f2.f0), .int .i64 ((D32 l0 x8_1).f2.f1), .int .i64 ((D32 l0 x8_1).f2.f2), .int .i64 ((D32 l0 x8_1).f3), .slice A624_6 ((D32 l0 x8_1).f4).length c624_6, .slice A624_7 ((D32 l0 x8_1).f5).length c624_7] 32 (0, 0)) (ZK BK625.out) k_ hn_))⟩)) (below_size (ZB))); replace HO_6 := AM (Kd.V_elder' (ZRV HO_6.out) (Kd.N_base ho0) hb); replace HL624_6 := AM (Kd.V_elder' (ZRV HL624_6.out) (Kd.N_base ho0) hb); replace HL624_7 := AM (Kd.V_elder' (ZRV HL624_7.out) (Kd.N_base ho0) hb); replace HO631 := AM (Kd.N_elder' (ZRN HO631.out) (Kd.N_base ho0) hb); replace HO634 := AM (Kd.N_elder' (ZRN HO634.out) (Kd.N_base ho0) hb); replace BK625 := ZW BK625 hb; replace HB := ZT HB hb; clear hb; (try clear ho0); obtain ⟨Ao22, co22, eo22⟩ := Kd.N_slice HO637.out; subst eo22) | ((with_reducible refine gate_builtin (b := .append) (xs := #[.tmp 21, .tmp 24]) rfl ?_); at_builtin; refine Kd.N_append_rows k32 (w0 := w) w.heap.size rfl (.tmp 21) (.tmp 24) 24 32 (.agg #[(.int .i64 0), (.int .i64 0), (.int .i64 0), (.int .i64 0), (.int .i64 0), (.int .i64 0), (.slice none 0 0), (.slice none 0 0)]) 96 rfl Try.underlying24 info32 rfl (by decide) (by omega) v633 y632 t635 _ _ _ (fun k_ => (P0_ k_ ∨ w.heap.size ≤ k_) ∧ k_ ≠ gb625) (fun k_ => ((fun k_ => (P0_ k_ ∨ w.heap.size ≤ k_) ∧ k_ ≠ gb625)) k_ ∧ some k_ ≠ (v633 : Value).ownBlock) rfl rfl ?aO ?aR (fun _ hk => hk) ?aF ?aB ?aS ?aL ?_; (case aR => exact (by skip; exact Kd.N_F (Kd.N_mono (ok' := (fun k_ => ((fun k_ => (P0_ k_ ∨ w.heap.size ≤ k_) ∧ k_ ≠ gb625)) k_ ∧ some k_ ≠ (v633 : Value).ownBlock)) (HO637.out) (fun k_ hk => ⟨⟨hk.1, hk.2.2.2⟩, hk.2.2.1⟩)))); (case aB => exact (ZB)); (case aF => exact (fun k_ hk => ⟨(.inr (Nat.le_trans (below_size (ZB)) hk)), Kd.freshB (g := gb625) (o := .cells #[.int .i64 ((D32 l0 x8_1).f0), .int .i64 ((D32 l0 x8_1).f1), .int .i64 ((D32 l0 x8_1).f2.f0), .int .i64 ((D32 l0 x8_1).f2.f1), .int .i64 ((D32 l0 x8_1).f2.f2), .int .i64 ((D32 l0 x8_1).f3), .slice A624_6 ((D32 l0 x8_1).f4).length c624_6, .slice A624_7 ((D32 l0 x8_1).f5).length c624_7] 32 (0, 0)) (ZK BK625.out) k_ hk⟩)); (case aO => exact (by (with_reducible repeat (first | apply Kd.N_alloc | apply Kd.N_drewN | apply Kd.N_drew)); exact Kd.N_mono HO634.out (fun _ hk => ⟨hk.1.1, hk.1.2⟩))); (case aS => exact (below_size (ZB))); (case aL => have := LMc9.out; omega); intro v639 w21 ho hb hg hat; rw [← Ny638.out] at ho; have n0_ := AM (Kd.V_afterv (ok := (fun k_ => (P0_ k_ ∨ w.heap.size ≤ k_) ∧ some k_ ≠ (.slice Ao18 t629.length co18 : Value).ownBlock ∧ some k_ ≠ (.slice Ao22 t635.length co22 : Value).ownBlock ∧ k_ ≠ gb625)) (by (with_reducible repeat (first | apply Kd.V_alloc | apply Kd.V_drewN | apply Kd.V_drew)); exact Kd.V_mono HO_6.out (fun _ hk => ⟨⟨hk.1.1.1, ⟨hk.1.1.2.1, ⟨hk.2, hk.1.1.2.2⟩⟩⟩, hk.1.2⟩)) hg hat); have n1_ := AM (Kd.V_afterv (ok := (fun k_ => (P0_ k_ ∨ w.heap.size ≤ k_) ∧ some k_ ≠ (.slice Ao18 t629.length co18 : Value).ownBlock ∧ some k_ ≠ (.slice Ao22 t635.length co22 : Value).ownBlock ∧ k_ ≠ gb625)) (by (with_reducible repeat (first | apply Kd.V_alloc | apply Kd.V_drewN | apply Kd.V_drew)); exact Kd.V_mono HL624_6.out (fun _ hk => ⟨⟨hk.1.1.1, ⟨hk.1.1.2.1, ⟨hk.2, hk.1.1.2.2⟩⟩⟩, hk.1.2⟩)) hg hat); have n2_ := AM (Kd.V_afterv (ok := (fun k_ => (P0_ k_ ∨ w.heap.size ≤ k_) ∧ some k_ ≠ (.slice Ao18 t629.length co18 : Value).ownBlock ∧ some k_ ≠ (.slice Ao22 t635.length co22 : Value).ownBlock ∧ k_ ≠ gb625)) (by (with_reducible repeat (first | apply Kd.V_alloc | apply Kd.V_drewN | apply Kd.V_drew)); exact Kd.V_mono HL624_7.out (fun _ hk => ⟨⟨hk.1.1.1, ⟨hk.1.1.2.1, ⟨hk.2, hk.1.1.2.2⟩⟩⟩, hk.1.2⟩)) hg hat); have n3_ := AM (blk_grown (g := gb625) (o := .cells #[.int .i64 ((D32 l0 x8_1).f0), .int .i64 ((D32 l0 x8_1).f1), .int .i64 ((D32 l0 x8_1).f2.f0), .int .i64 ((D32 l0 x8_1).f2.f1), .int .i64 ((D32 l0 x8_1).f2.f2), .int .i64 ((D32 l0 x8_1).f3), .slice A624_6 ((D32 l0 x8_1).f4).length c624_6, .slice A624_7 ((D32 l0 x8_1).f5).length c624_7] 32 (0, 0)) (ZK BK625.out) hg (Kd.N_away HO634.out (fun _ hk => hk.1.2))); have n4_ := AM (Kd.N_afterv (ok := (fun k_ => (P0_ k_ ∨ w.heap.size ≤ k_) ∧ some k_ ≠ (.slice Ao22 t635.length co22 : Value).ownBlock ∧ k_ ≠ gb625)) (by (with_reducible repeat (first | apply Kd.N_alloc | apply Kd.N_drewN | apply Kd.N_drew)); exact Kd.N_mono HO631.out (fun _ hk => ⟨⟨hk.1.1.1, ⟨hk.2, hk.1.1.2⟩⟩, hk.1.2⟩)) hg hat); have n5_ := AM (Kd.N_afterv (ok := (fun k_ => (P0_ k_ ∨ w.heap.size ≤ k_) ∧ some k_ ≠ (.slice Ao18 t629.length co18 : Value).ownBlock ∧ k_ ≠ gb625)) (by (with_reducible repeat (first | apply Kd.N_alloc | apply Kd.N_drewN | apply Kd.N_drew)); exact Kd.N_mono HO637.out (fun _ hk => ⟨⟨hk.1, ⟨hk.2.1, hk.2.2.2⟩⟩, hk.2.2.1⟩)) hg hat); have n6_ := AM (hb); have n7_ := AM (ho); clear HO_6 HL624_6 HL624_7 BK625 HO631 HO637 HB HO634; have HO_6 := n0_; have HL624_6 := n1_; have HL624_7 := n2_; have BK625 := n3_; have HO631 := n4_; have HO637 := n5_; have HB := n6_; have HO640 := n7_; clear n0_ n1_ n2_ n3_ n4_ n5_ n6_ n7_ ho hb hg hat))
  go_roundg k1
  case measure => have := HK1.out; omega
  case rel => exact ⟨(y638), (wrap64 (x8_1 + 1)), (by first | rfl | (simp; done) | (simp [*]; done)), H', ⟨by have := HK1.out; omega⟩, ⟨ZRN (Kd.N_mono HO640.out (fun _ hk => hk.1))⟩, ⟨by (with_reducible repeat (first | apply Kd.V_alloc | apply Kd.V_drewN | apply Kd.V_drew)); exact Kd.V_mono HO_6.out (fun _ hk => ⟨hk.1.1, hk.2⟩)⟩, ⟨ZB⟩⟩)
  ·(
  rw [if_neg c9] at H
  exact absurd H (by simp)))
  ·(
  rw [if_neg c7] at H
  exact absurd H (by simp)))
  ·(
  rw [if_neg c5] at H
  exact absurd H (by simp)))
  ·(
  rw [if_neg c4] at H
  exact absurd H (by simp)))
  ·(
  rw [if_neg c3] at H
  exact absurd H (by simp)))
  ·(
  rw [if_neg c2] at H
  have c2b0 := decide_eq_false c2
  clear c2
  obtain rfl := Option.some.inj H
  go_wp2
  go_ret
  exact ⟨_, ZE, by (with_reducible repeat (first | apply Kd.N_alloc | apply Kd.N_drewN | apply Kd.N_drew)); exact HO_3.out, ZB⟩))


/-! ### impl_Val_vars: function 84 -/
def impl_Val_vars.f (a0_0 : Int) (a0_1 : Int) (a0_2 : Int) : Option (List Int) := if a0_0 = 2 then (some (([a0_1] : List Int))) else (if a0_0 = 3 then (some (([a0_1, a0_2] : List Int))) else (if a0_0 = 4 then (some (([a0_1, a0_2] : List Int))) else (some ([] : List Int))))
theorem impl_Val_vars.calls (a0_0 : Int) (a0_1 : Int) (a0_2 : Int) (r : List Int) (w : World) (h : impl_Val_vars.f a0_0 a0_1 a0_2 = some r) :
  Calls Try.prog 84 #[.agg #[.int .i64 a0_0, .int .i64 a0_1, .int .i64 a0_2]] w fun e w' => ∃ v0_ : Value, e = .returned (v0_) ∧ Kd.R (Kd.int .i64) 3 w' w.heap.size (fun _ => True) v0_ r ∧ Below w.heap.size w w' := by
 have hu30 := Try.underlying30
 have HB := AM (Below.refl w.heap.size w)
 have H := h
 unfold impl_Val_vars.f at H
 clear h
 by_cases c2 : a0_0 = 2
 ·(
 rw [if_pos c2] at H
 have c2b0 := beq_iff_eq.mpr c2
 have c2b1 := bne_eq_false_iff_eq.mpr c2
 clear c2
 obtain ⟨y642, hy642⟩ : ∃ y_ : List Int, y_ = (([a0_1] : List Int)) := ⟨_, rfl⟩
 replace H : (some y642) = some r := by first | (rw [hy642]; with_reducible exact H) | (have H2_ := (Option.bind_some _ _).symm.trans H; rw [hy642]; with_reducible exact H2_) | (have H2_ := (Option.bind_some _ _).symm.trans H; with_reducible exact H2_) | with_reducible exact H | (rw [hy642]; exact H) | exact H
 have Ny642 := AM hy642
 clear hy642
 obtain rfl := Option.some.inj H
 go_enter Try.func84, Try.ntmps84
 go_wp2_with (first | ((with_reducible refine gate_dst (N := 1) rfl ?_); refine ZX (N := 1) (cs := #[.int .i64 a0_0, .int .i64 a0_1, .int .i64 a0_2]) (t := 30) ?_; intro gb641 hg w3 hbox hb; have BK641 := AM (hbox); have GW641 : Za (w.heap.size ≤ gb641) := ZS hg; replace HB := ZT HB hb; clear hb hbox hg; have hcz4 := ZC3 w3 BK641; have hfz4 := ZF3 BK641) | ((with_reducible refine gate_dst (N := 9) rfl ?_); refine Kd.R_lit (Kd.int .i64) _ 3 ?hg (N := 9) ?hd (xs := ([a0_1] : List Int)) (inner := [.int .i64 a0_1]) (ok := fun _ => True) (okp := fun _ => True) ?hr ?hp (fun _ hk => hk) trivial (Below.refl _ _) (Nat.le_refl _) (by simp) ?_; (case hd => rfl); (case hg => rfl); (case hr => first | (go_simp; done) | (go_simp; rfl)); (case hp => exact (Reps.one (show Kd.M (Kd.int .i64) _ _ _ a0_1 [.int .i64 a0_1] from rfl) (Reps.none _ _))); intro v643 w5 ho6 hb hg_ hnew_; clear hg_ hnew_; (first | rw [← Ny642.out] at ho6 | (simp only [Int.reduceToNat] at ho6; rw [← Ny642.out] at ho6)); have HO644 := AM (Kd.R_lower ho6 (below_size (ZB))); replace BK641 := ZW BK641 hb; replace HB := ZT HB hb; clear hb ho6))
 go_ret
 exact ⟨_, ZE, by (with_reducible repeat (first | apply Kd.R_alloc | apply Kd.R_drewN | apply Kd.R_drew)); exact HO644.out, ZB⟩)
 ·(
 rw [if_neg c2] at H
 have c2b0 := beq_eq_false_iff_ne.mpr c2
 have c2b1 := bne_iff_ne.mpr c2
 by_cases c7 : a0_0 = 3
 ·(
 rw [if_pos c7] at H
 have c7b0 := beq_iff_eq.mpr c7
 have c7b1 := bne_eq_false_iff_eq.mpr c7
 clear c7
 obtain ⟨y645, hy645⟩ : ∃ y_ : List Int, y_ = (([a0_1, a0_2] : List Int)) := ⟨_, rfl⟩
 replace H : (some y645) = some r := by first | (rw [hy645]; with_reducible exact H) | (have H2_ := (Option.bind_some _ _).symm.trans H; rw [hy645]; with_reducible exact H2_) | (have H2_ := (Option.bind_some _ _).symm.trans H; with_reducible exact H2_) | with_reducible exact H | (rw [hy645]; exact H) | exact H
 have Ny645 := AM hy645
 clear hy645
 obtain rfl := Option.some.inj H
 go_enter Try.func84, Try.ntmps84
 go_wp2_with (first | ((with_reducible refine gate_dst (N := 1) rfl ?_); refine ZX (N := 1) (cs := #[.int .i64 a0_0, .int .i64 a0_1, .int .i64 a0_2]) (t := 30) ?_; intro gb641 hg w8 hbox hb; have BK641 := AM (hbox); have GW641 : Za (w.heap.size ≤ gb641) := ZS hg; replace HB := ZT HB hb; clear hb hbox hg; have hcz9 := ZC3 w8 BK641; have hfz9 := ZF3 BK641) | ((with_reducible refine gate_dst (N := 17) rfl ?_); refine Kd.R_lit (Kd.int .i64) _ 3 ?hg (N := 17) ?hd (xs := ([a0_1, a0_2] : List Int)) (inner := [.int .i64 a0_1, .int .i64 a0_2]) (ok := fun _ => True) (okp := fun _ => True) ?hr ?hp (fun _ hk => hk) trivial (Below.refl _ _) (Nat.le_refl _) (by simp) ?_; (case hd => rfl); (case hg => rfl); (case hr => first | (go_simp; done) | (go_simp; rfl)); (case hp => exact (Reps.one (show Kd.M (Kd.int .i64) _ _ _ a0_1 [.int .i64 a0_1] from rfl) (Reps.one (show Kd.M (Kd.int .i64) _ _ _ a0_2 [.int .i64 a0_2] from rfl) (Reps.none _ _)))); intro v646 w10 ho11 hb hg_ hnew_; clear hg_ hnew_; (first | rw [← Ny645.out] at ho11 | (simp only [Int.reduceToNat] at ho11; rw [← Ny645.out] at ho11)); have HO647 := AM (Kd.R_lower ho11 (below_size (ZB))); replace BK641 := ZW BK641 hb; replace HB := ZT HB hb; clear hb ho11))
 go_ret
 exact ⟨_, ZE, by (with_reducible repeat (first | apply Kd.R_alloc | apply Kd.R_drewN | apply Kd.R_drew)); exact HO647.out, ZB⟩)
 ·(
 rw [if_neg c7] at H
 have c7b0 := beq_eq_false_iff_ne.mpr c7
 have c7b1 := bne_iff_ne.mpr c7
 by_cases c12 : a0_0 = 4
 ·(
 rw [if_pos c12] at H
 have c12b0 := beq_iff_eq.mpr c12
 have c12b1 := bne_eq_false_iff_eq.mpr c12
 clear c12
 obtain ⟨y648, hy648⟩ : ∃ y_ : List Int, y_ = (([a0_1, a0_2] : List Int)) := ⟨_, rfl⟩
 replace H : (some y648) = some r := by first | (rw [hy648]; with_reducible exact H) | (have H2_ := (Option.bind_some _ _).symm.trans H; rw [hy648]; with_reducible exact H2_) | (have H2_ := (Option.bind_some _ _).symm.trans H; with_reducible exact H2_) | with_reducible exact H | (rw [hy648]; exact H) | exact H
 have Ny648 := AM hy648
 clear hy648
 obtain rfl := Option.some.inj H
 go_enter Try.func84, Try.ntmps84
 go_wp2_with (first | ((with_reducible refine gate_dst (N := 1) rfl ?_); refine ZX (N := 1) (cs := #[.int .i64 a0_0, .int .i64 a0_1, .int .i64 a0_2]) (t := 30) ?_; intro gb641 hg w13 hbox hb; have BK641 := AM (hbox); have GW641 : Za (w.heap.size ≤ gb641) := ZS hg; replace HB := ZT HB hb; clear hb hbox hg; have hcz14 := ZC3 w13 BK641; have hfz14 := ZF3 BK641) | ((with_reducible refine gate_dst (N := 17) rfl ?_); refine Kd.R_lit (Kd.int .i64) _ 3 ?hg (N := 17) ?hd (xs := ([a0_1, a0_2] : List Int)) (inner := [.int .i64 a0_1, .int .i64 a0_2]) (ok := fun _ => True) (okp := fun _ => True) ?hr ?hp (fun _ hk => hk) trivial (Below.refl _ _) (Nat.le_refl _) (by simp) ?_; (case hd => rfl); (case hg => rfl); (case hr => first | (go_simp; done) | (go_simp; rfl)); (case hp => exact (Reps.one (show Kd.M (Kd.int .i64) _ _ _ a0_1 [.int .i64 a0_1] from rfl) (Reps.one (show Kd.M (Kd.int .i64) _ _ _ a0_2 [.int .i64 a0_2] from rfl) (Reps.none _ _)))); intro v649 w15 ho16 hb hg_ hnew_; clear hg_ hnew_; (first | rw [← Ny648.out] at ho16 | (simp only [Int.reduceToNat] at ho16; rw [← Ny648.out] at ho16)); have HO650 := AM (Kd.R_lower ho16 (below_size (ZB))); replace BK641 := ZW BK641 hb; replace HB := ZT HB hb; clear hb ho16))
 go_ret
 exact ⟨_, ZE, by (with_reducible repeat (first | apply Kd.R_alloc | apply Kd.R_drewN | apply Kd.R_drew)); exact HO650.out, ZB⟩)
 ·(
 rw [if_neg c12] at H
 have c12b0 := beq_eq_false_iff_ne.mpr c12
 have c12b1 := bne_iff_ne.mpr c12
 obtain rfl := Option.some.inj H
 go_enter Try.func84, Try.ntmps84
 go_wp2_with (first | ((with_reducible refine gate_dst (N := 1) rfl ?_); refine ZX (N := 1) (cs := #[.int .i64 a0_0, .int .i64 a0_1, .int .i64 a0_2]) (t := 30) ?_; intro gb641 hg w17 hbox hb; have BK641 := AM (hbox); have GW641 : Za (w.heap.size ≤ gb641) := ZS hg; replace HB := ZT HB hb; clear hb hbox hg; have hcz18 := ZC3 w17 BK641; have hfz18 := ZF3 BK641))
 go_ret
 exact ⟨_, ZE, by first | exact Kd.R_nil _ _ _ _ _ | exact Kd.N_nil _ _ _ _ _ | exact Kd.V_nil _ _ _ _ _ | exact Kd.Q_nil _ _ _ _ _ | exact Kd.S_nil _ _ _ _ _, ZB⟩)))

/-! ### impl_Prog_source: function 67 -/
def impl_Prog_source.l0 : Nat → List Int → Int → Int → List (S39) → List (S32) → Int → Int → Option (Int × Int)
 | 0, _, _, _, _, _, _, _ => none
 | k + 1, x11, x12, x13, x652000, x652001, x654000, x654001 => if x13 < x12 then (if 0 ≤ x13 then (if x13 < (x11.length : Int) then (if 0 ≤ (rd x11 x13) then (if (rd x11 x13) < (x652000.length : Int) then ((impl_Label_both.f x654000 x654001 ((D39 x652000 (rd x11 x13)).f0) ((D39 x652000 (rd x11 x13)).f1)).bind fun bt660 => (impl_Prog_source.l0 k x11 x12 (wrap64 (x13 + 1)) x652000 x652001 bt660.1 bt660.2)) else (none)) else (none)) else (none)) else (none)) else (some (x654000, x654001))
def impl_Prog_source.f (k : Nat) (l0_0 : List (S39)) (l0_1 : List (S32)) (a1_0 : Int) (a1_1 : Int) (a1_2 : Int) (a1_3 : Int) (a1_4 : Int) (a1_5 : Int) (l1_6 : List (S32)) (l1_7 : List (S32)) (a2_0 : Int) (a2_1 : Int) : Option (Int × Int) := (impl_Val_vars.f a1_2 a1_3 a1_4).bind fun t655 => (impl_Prog_source.l0 k t655 (t655.length : Int) 0 l0_0 l0_1 a2_0 a2_1)
def impl_Prog_source.T4 : Bool × List (List Nat × List Nat) := (true, [([], []), ([], []), ([1], [1]), ([], []), ([2, 3], [2, 3]), ([4], [4]), ([0, 5], [0, 5]), ([6, 6, 0, 1, 2, 3, 4, 5, 6], [6])])
def impl_Prog_source.B4 : List Nat := [0, 0, 2, 0, 14, 30, 63, 127]
theorem impl_Prog_source.tab4 : rtab .any (opsOf Try.f67 4) = impl_Prog_source.T4 := by kernel_rfl
theorem impl_Prog_source.bits4 : waitsOk impl_Prog_source.T4.2 impl_Prog_source.B4 = true := by kernel_rfl
theorem impl_Prog_source.calls (k : Nat) (A0_0 : Option Addr) (c0_0 : Nat) (l0_0 : List (S39)) (A0_1 : Option Addr) (c0_1 : Nat) (l0_1 : List (S32)) (a1_0 : Int) (a1_1 : Int) (a1_2 : Int) (a1_3 : Int) (a1_4 : Int) (a1_5 : Int) (A1_6 : Option Addr) (c1_6 : Nat) (l1_6 : List (S32)) (A1_7 : Option Addr) (c1_7 : Nat) (l1_7 : List (S32)) (a2_0 : Int) (a2_1 : Int) (r1 : Int) (r2 : Int) (w : World) (hr0_0 : Kd.C k39 w A0_0 l0_0.length l0_0) (hc0_0 : l0_0.length ≤ c0_0) (hr0_1 : Kd.C k32 w A0_1 l0_1.length l0_1) (hc0_1 : l0_1.length ≤ c0_1) (hr1_6 : Kd.C k32 w A1_6 l1_6.length l1_6) (hc1_6 : l1_6.length ≤ c1_6) (hr1_7 : Kd.C k32 w A1_7 l1_7.length l1_7) (hc1_7 : l1_7.length ≤ c1_7) (h : impl_Prog_source.f k l0_0 l0_1 a1_0 a1_1 a1_2 a1_3 a1_4 a1_5 l1_6 l1_7 a2_0 a2_1 = some (r1, r2)) :
  Calls Try.prog 67 #[.agg #[.slice A0_0 l0_0.length c0_0, .slice A0_1 l0_1.length c0_1], .agg #[.int .i64 a1_0, .int .i64 a1_1, .int .i64 a1_2, .int .i64 a1_3, .int .i64 a1_4, .int .i64 a1_5, .slice A1_6 l1_6.length c1_6, .slice A1_7 l1_7.length c1_7], .agg #[.int .i64 a2_0, .int .i64 a2_1]] w fun e w' => e = .returned (.agg #[.int .i64 r1, .int .i64 r2]) ∧ Below w.heap.size w w' := by
 have hu26 := Try.underlying26
 have hu32 := Try.underlying32
 have hu39 := Try.underlying39
 have hu30 := Try.underlying30
 have HR0_0 := AM hr0_0
 have HC0_0 := AM hc0_0
 clear hr0_0 hc0_0
 have HR0_1 := AM hr0_1
 have HC0_1 := AM hc0_1
 clear hr0_1 hc0_1
 have HR1_6 := AM hr1_6
 have HC1_6 := AM hc1_6
 clear hr1_6 hc1_6
 have HR1_7 := AM hr1_7
 have HC1_7 := AM hc1_7
 clear hr1_7 hc1_7
 have HB := AM (Below.refl w.heap.size w)
 have H := h
 unfold impl_Prog_source.f at H
 clear h
 obtain ⟨t655, A4, H⟩ := ZOB H; try dsimp only at H
 have H' := AM H
 clear H
 go_enter Try.func67, Try.ntmps67
 go_wp2_with (first | ((with_reducible refine gate_dst (N := 3) rfl ?_); refine ZX (N := 3) (cs := #[.slice A0_0 l0_0.length c0_0, .slice A0_1 l0_1.length c0_1]) (t := 26) ?_; intro gb651 hg w5 hbox hb; have BK651 := AM (hbox); have GW651 : Za (w.heap.size ≤ gb651) := ZS hg; replace HB := ZT HB hb; clear hb hbox hg) | ((with_reducible refine gate_dst (N := 4) rfl ?_); refine ZX (N := 4) (cs := #[.int .i64 a1_0, .int .i64 a1_1, .int .i64 a1_2, .int .i64 a1_3, .int .i64 a1_4, .int .i64 a1_5, .slice A1_6 l1_6.length c1_6, .slice A1_7 l1_7.length c1_7]) (t := 32) ?_; intro gb652 hg w6 hbox hb; have BK652 := AM (hbox); have GW652 : Za (w.heap.size ≤ gb652) := ZS hg; have NB651_652 : Za (gb651 ≠ gb652) := ZN hg BK651; have NB652_651 : Za (gb652 ≠ gb651) := ZM hg BK651; replace BK651 := ZW BK651 hb; replace HB := ZT HB hb; clear hb hbox hg) | ((with_reducible refine gate_dst (N := 5) rfl ?_); refine ZX (N := 5) (cs := #[.int .i64 a2_0, .int .i64 a2_1]) (t := 39) ?_; intro gb653 hg w7 hbox hb; have BK653 := AM (hbox); have GW653 : Za (w.heap.size ≤ gb653) := ZS hg; have NB651_653 : Za (gb651 ≠ gb653) := ZN hg BK651; have NB653_651 : Za (gb653 ≠ gb651) := ZM hg BK651; have NB652_653 : Za (gb652 ≠ gb653) := ZN hg BK652; have NB653_652 : Za (gb653 ≠ gb652) := ZM hg BK652; replace BK651 := ZW BK651 hb; replace BK652 := ZW BK652 hb; replace HB := ZT HB hb; clear hb hbox hg) | ((with_reducible refine gate_dst (N := 6) rfl ?_); refine ZX (N := 6) (cs := #[.int .i64 0, .int .i64 0]) (t := 39) ?_; intro gb654 hg w8 hbox hb; have BK654 := AM (hbox); have GW654 : Za (w.heap.size ≤ gb654) := ZS hg; have NB651_654 : Za (gb651 ≠ gb654) := ZN hg BK651; have NB654_651 : Za (gb654 ≠ gb651) := ZM hg BK651; have NB652_654 : Za (gb652 ≠ gb654) := ZN hg BK652; have NB654_652 : Za (gb654 ≠ gb652) := ZM hg BK652; have NB653_654 : Za (gb653 ≠ gb654) := ZN hg BK653; have NB654_653 : Za (gb654 ≠ gb653) := ZM hg BK653; replace BK651 := ZW BK651 hb; replace BK652 := ZW BK652 hb; replace BK653 := ZW BK653 hb; replace HB := ZT HB hb; clear hb hbox hg; have hnb9 := NB652_651.out; have hnc9 := NB651_652.out; have hnb10 := NB652_653.out; have hnc10 := NB653_652.out; have hnb11 := NB652_654.out; have hnc11 := NB654_652.out; have hcz12 := ZC8 w8 BK652; have hfz12 := ZF8 BK652) | ((with_reducible refine gate_callee (f := 84) rfl ?_); refine ZGL (some 11) Try.func84 #[.agg #[.int .i64 a1_2, .int .i64 a1_3, .int .i64 a1_4]] ?_; (with_reducible refine (impl_Val_vars.calls a1_2 a1_3 a1_4 t655 _ A4.out).mono ?_); rintro e w13 ⟨v656, rfl, ho0, hb⟩; refine ⟨_, rfl, ?_⟩; have HO657 := AM (Kd.R_lower ho0 (below_size (ZB))); replace BK651 := ZW BK651 hb; replace BK652 := ZW BK652 hb; replace BK653 := ZW BK653 hb; replace BK654 := ZW BK654 hb; replace HB := ZT HB hb; clear hb; (try clear ho0); obtain ⟨Ao14, co14, eo14⟩ := Kd.R_slice HO657.out; subst eo14))
 go_loopg [13] k (fun kq v13 w' => ∃ (x13_1 : Int) (x654000_1 : Int) (x654001_1 : Int), v13 = .int .i64 x13_1 ∧ Za (impl_Prog_source.l0 kq t655 (t655.length : Int) x13_1 l0_0 l0_1 x654000_1 x654001_1 = some (r1, r2)) ∧ Za (kq ≤ k) ∧ Za (Kd.R (Kd.int .i64) 3 w' w.heap.size (fun _ => True) (.slice Ao14 t655.length co14) t655) ∧ Za (w'.heap[gb651]? = some (.cells #[(.slice A0_0 l0_0.length c0_0), (.slice A0_1 l0_1.length c0_1)] 26 (0, 0))) ∧ Za (w'.heap[gb652]? = some (.cells #[.int .i64 a1_0, .int .i64 a1_1, .int .i64 a1_2, .int .i64 a1_3, .int .i64 a1_4, .int .i64 a1_5, (.slice A1_6 l1_6.length c1_6), (.slice A1_7 l1_7.length c1_7)] 32 (0, 0))) ∧ Za (w'.heap[gb653]? = some (.cells #[.int .i64 x654000_1, .int .i64 x654001_1] 39 (0, 0))) ∧ Za (w'.heap[gb654]? = some (.cells #[.int .i64 0, .int .i64 0] 39 (0, 0))) ∧ Za (Below w.heap.size w w'))
 case atStart => exact ⟨(0), (a2_0), (a2_1), (by first | rfl | (simp; done) | (simp [*]; done)), H', ⟨Nat.le_refl _⟩, ⟨ZR HO657.out⟩, ⟨ZK BK651.out⟩, ⟨ZK BK652.out⟩, ⟨ZK BK653.out⟩, ⟨ZK BK654.out⟩, ⟨ZB⟩⟩
 case round => (
 clear H'
 try clear c1
 try clear p2
 try clear c6
 try clear c8
 try clear c9
 try clear c10
 try clear c11
 try clear hcz12
 try clear hfz12
 obtain ⟨x13_1, x654000_1, x654001_1, rfl, HA, HK1, HO_11, BK651, BK652, BK653, BK654, HB⟩ := hrel
 cases gk with
 | zero => exact absurd HA.out (by simp [impl_Prog_source.l0])
 | succ k1 =>
  have H := HA.out
  clear HA
  simp only [impl_Prog_source.l0] at H
  by_cases c15 : x13_1 < (t655.length : Int)
  ·(
  rw [if_pos c15] at H
  have c15b0 := decide_eq_true c15
  clear c15
  by_cases c16 : 0 ≤ x13_1
  ·(
  rw [if_pos c16] at H
  have c16b0 := decide_eq_true c16
  clear c16
  by_cases c17 : x13_1 < (t655.length : Int)
  ·(
  rw [if_pos c17] at H
  have c17b0 := decide_eq_true c17
  clear c17
  by_cases c18 : 0 ≤ (rd t655 x13_1)
  ·(
  rw [if_pos c18] at H
  have c18b0 := decide_eq_true c18
  clear c18
  by_cases c19 : (rd t655 x13_1) < (l0_0.length : Int)
  ·(
  rw [if_pos c19] at H
  have c19b0 := decide_eq_true c19
  clear c19
  obtain ⟨⟨t660, t661⟩, A20, H⟩ := ZOB H; try dsimp only at H
  have H' := AM H
  clear H
  have p658 : 0 ≤ (x13_1 : Int) := ZD
  have q658 : x13_1 < (t655.length : Int) := ZD
  obtain ⟨ad658, e658, hx658_0⟩ := Kd.at_int (Kd.R_reads' HO_11.out).2.2 x13_1 p658 q658
  cases e658
  replace p658 := eq_true p658
  replace q658 := eq_true q658
  try go_wp2
  replace HO_11 := AM (Kd.R_drew HO_11.out)
  replace BK651 := AM (blk_drew BK651.out)
  replace BK652 := AM (blk_drew BK652.out)
  replace BK653 := AM (blk_drew BK653.out)
  replace BK654 := AM (blk_drew BK654.out)
  replace HB := AM (below_drew1 HB.out)
  have p659 : 0 ≤ ((rd t655 x13_1) : Int) := ZD
  have q659 : (rd t655 x13_1) < (l0_0.length : Int) := ZD
  obtain ⟨ad659, e659, hx659_0, hx659_1⟩ := at_T39 HR0_0.out (rd t655 x13_1) p659 q659
  have hw659_1 := hx659_1
  have hw659_0 := hx659_0
  cases e659
  replace hx659_0 := ZHX HB hx659_0
  replace hx659_1 := ZHX HB hx659_1
  replace p659 := eq_true p659
  replace q659 := eq_true q659
  refine start_ (n := 8) (S := fun w' => w'.cell? ⟨gb653, 0, none⟩ = some (.int .i64 x654000_1) ∧ w'.cell? ⟨gb653, 1, none⟩ = some (.int .i64 x654001_1) ∧ w'.cell? ⟨gb651, 0, none⟩ = some (.slice (some ad659) l0_0.length c0_0) ∧ w'.cell? ⟨gb651, 1, none⟩ = some (.slice A0_1 l0_1.length c0_1) ∧ w'.cell? (ad659.add (((rd t655 x13_1)).toNat * 2)) = some (.int .i64 ((D39 l0_0 (rd t655 x13_1)).f0)) ∧ w'.cell? ⟨(ad659.add (((rd t655 x13_1)).toNat * 2)).block, (ad659.add (((rd t655 x13_1)).toNat * 2)).off + 1, none⟩ = some (.int .i64 ((D39 l0_0 (rd t655 x13_1)).f1))) (ds := [7]) #[F,F,F,F,F,F,F,F] (by kernel_rfl) rfl rfl ⟨ZA BK653 0, ZA BK653 1, ZA BK651 0, ZA BK651 1, ((HB.out.cell (World.block_lt_of_cell? w _ hw659_0)).trans hw659_0), ((HB.out.cell (World.block_lt_of_cell? w _ hw659_1)).trans hw659_1)⟩ (fun hHeld => ?_); refine with_tabW impl_Prog_source.tab4 impl_Prog_source.bits4 (fun HT_ HW_ => ?_)
  generalize wr.drew = w21 at HO_11 BK651 BK652 BK653 BK654 HB hx659_0 hx659_1 hHeld ⊢
  refine ZU 1 18 #[F,T,F,F,F,F,F,F] ?_
  refine ZU 3 20 #[F,T,F,T,F,F,F,F] ?_
  refine ZTK 0 17 #[T,T,F,T,F,F,F,F] hHeld ?_
  refine ZTK 2 19 #[T,T,T,T,F,F,F,F] hHeld ?_
  refine ZU 4 21 #[T,T,T,T,T,F,F,F] ?_
  refine ZTK 5 22 #[T,T,T,T,T,T,F,F] hHeld ?_
  refine one_ (i := 6) (N := some 23) #[T,T,T,T,T,T,T,F] rfl rfl (one_of HT_.out (by kernel_rfl)) (by decide) (fun K hK => ?_)
  refine ZGO Try.func85 #[.agg #[.int .i64 x654000_1, .int .i64 x654001_1], .agg #[.int .i64 ((D39 l0_0 (rd t655 x13_1)).f0), .int .i64 ((D39 l0_0 (rd t655 x13_1)).f1)]] ?_
  with_reducible refine (impl_Label_both.calls x654000_1 x654001_1 ((D39 l0_0 (rd t655 x13_1)).f0) ((D39 l0_0 (rd t655 x13_1)).f1) t660 t661 _ A20.out).mono ?_
  rintro e w22 ⟨rfl, hb⟩
  refine ⟨_, rfl, ?_⟩
  replace HO_11 := AM (Kd.R_below (ZR HO_11.out) hb)
  replace BK651 := ZW BK651 hb
  replace BK652 := ZW BK652 hb
  replace BK653 := ZW BK653 hb
  replace BK654 := ZW BK654 hb
  replace HB := ZT HB hb
  (try clear hb)
  (try clear hb2)
  (try clear hk)
  (try clear hi)
  refine hK.out _ _ ⟨ZA BK653 0, ZA BK653 1, ZA BK651 0, ZA BK651 1, ((HB.out.cell (World.block_lt_of_cell? w _ hw659_0)).trans hw659_0), ((HB.out.cell (World.block_lt_of_cell? w _ hw659_1)).trans hw659_1)⟩ (fun hHeld => ?_)
  clear hK K
  refine ZNO 23 ?_
  refine last_ (i := 7) (N := none) #[T,T,T,T,T,T,T,T] rfl rfl (one_of HT_.out (by kernel_rfl)) (by decide) (fun K hK => ?_)
  have hs23 : w22.cell? ⟨gb653, 0, none⟩ = some (.int .i64 x654000_1) := ZA BK653 0
  have hfs23 := blk_frozen BK653.out 0
  have hns23_0 := NB651_653.out
  have hns23_1 := NB652_653.out
  have hns23_3 := NB654_653.out
  have hms23_0 := NB653_651.out
  have hms23_1 := NB653_652.out
  have hms23_3 := NB653_654.out
  have hs24 : w22.cell? ⟨gb653, 1, none⟩ = some (.int .i64 x654001_1) := ZA BK653 1
  have hfs24 := blk_frozen BK653.out 1
  have hns24_0 := NB651_653.out
  have hns24_1 := NB652_653.out
  have hns24_3 := NB654_653.out
  have hms24_0 := NB653_651.out
  have hms24_1 := NB653_652.out
  have hms24_3 := NB653_654.out
  refine skip_ (w1 := ?_) (by rfl) rfl ?_ ?_
  rotate_left
  ·(
  go_simp
  rfl)
  refine hK.out _ _ ?_
  clear hK K
  refine done_ (done_of HT_.out (by kernel_rfl)) ?_
  try go_wp2
  go_roundg k1
  case measure => have := HK1.out; omega
  case rel => exact ⟨(wrap64 (x13_1 + 1)), (t660), (t661), (by first | rfl | (simp; done) | (simp [*]; done)), H', ⟨by have := HK1.out; omega⟩, ⟨ZR (Kd.R_mono (Kd.R_far (p := ⟨gb653, 1, none⟩) (Kd.R_far (p := ⟨gb653, 0, none⟩) (Kd.R_types HO_11.out BK653.out (by decide)) (fun _ hk => hk.2) (.int .i64 t660)) (fun _ hk => hk.2) (.int .i64 t661)) (fun _ hk => trivial))⟩, ⟨ZZ BK651.out⟩, ⟨ZZ BK652.out⟩, ⟨ZZ BK653.out⟩, ⟨ZZ BK654.out⟩, ⟨ZB⟩⟩)
  ·(
  rw [if_neg c19] at H
  exact absurd H (by simp)))
  ·(
  rw [if_neg c18] at H
  exact absurd H (by simp)))
  ·(
  rw [if_neg c17] at H
  exact absurd H (by simp)))
  ·(
  rw [if_neg c16] at H
  exact absurd H (by simp)))
  ·(
  rw [if_neg c15] at H
  have c15b0 := decide_eq_false c15
  clear c15
  simp only [Option.some.injEq, Prod.mk.injEq] at H
  obtain ⟨rfl, rfl⟩ := H
  have hnb25 := NB653_651.out
  have hnc25 := NB651_653.out
  have hnb26 := NB653_652.out
  have hnc26 := NB652_653.out
  have hnb27 := NB653_654.out
  have hnc27 := NB654_653.out
  have hcz28 := ZC2 wr BK653
  have hfz28 := ZF2 BK653
  have hnb29 := NB654_651.out
  have hnc29 := NB651_654.out
  have hnb30 := NB654_652.out
  have hnc30 := NB652_654.out
  have hcz31 := ZC2 wr BK654
  have hfz31 := ZF2 BK654
  go_wp2
  refine bodyPost_ret (results_cell_row rfl _ _ gb654 39 #[.int .i64 x654000_1, .int .i64 x654001_1] (0, 0) _ rfl (ZZ BK654.out) Try.underlying39 rfl (by kernel_rfl)) rfl ?_
  exact ⟨ZE, ZB⟩))

/-! ### impl_has: function 68 -/
def impl_has.f (a0 : Int) (a1 : Int) : Option (Bool) := (impl_isHost.f a1).bind fun t662 => (if t662 = true then (if 0 ≤ a1 then (some ((Go.bits .and .i64 (shr .i64 a0 a1) 1) == 1)) else (none)) else (some false))
theorem impl_has.calls (a0 : Int) (a1 : Int) (r : Bool) (w : World) (h : impl_has.f a0 a1 = some r) :
  Calls Try.prog 68 #[.int .i64 a0, .int .i64 a1] w fun e w' => e = .returned (.bool r) ∧ Drawn0 w w' := by
 have H := h
 unfold impl_has.f at H
 clear h
 obtain ⟨t662, A3, H⟩ := ZOB H; try dsimp only at H
 by_cases c4 : t662 = true
 ·(
 subst c4
 have H1 := H; rw [if_pos rfl] at H1
 clear H
 have H := H1
 clear H1
 by_cases c5 : 0 ≤ a1
 ·(
 rw [if_pos c5] at H
 have c5b0 := eq_true c5
 have c5b1 := decide_eq_true c5
 clear c5
 obtain ⟨ji6, hji6⟩ : ∃ j_ : Int, (shr .i64 a0 a1) = j_ := ⟨_, rfl⟩
 replace H : (some ((Go.bits .and .i64 (ji6) 1) == 1)) = some r := by first | (rw [hji6] at H; exact H) | (simp only [hji6] at H ⊢; exact H)
 (try rw [hji6] at A3)
 have hji6_ : (a0 / 2 ^ min a1.toNat 64) = ji6 := hji6
 have hji6z : a1 ≤ 64 → (a0 / 2 ^ a1.toNat) = ji6 := shr_small hji6
 obtain rfl := Option.some.inj H
 go_enter Try.func68, Try.ntmps68
 go_wp2_with (first | ((with_reducible refine gate_callee (f := 81) rfl ?_); refine ZGL (some 6) Try.func81 #[.int .i64 a1] ?_; (with_reducible refine (impl_isHost.calls a1 true _ A3.out).mono ?_); rintro e w' ⟨rfl, ⟨nd, rfl⟩⟩; refine ⟨_, rfl, ?_⟩))
 go_ret
 exact ⟨by first | rfl | (simp; done) | (simp only [← hji6] <;> (first | rfl | simp)) | (simp [*]; done), by repeat (first | exact Drawn0.refl _ | apply Drawn0.step)⟩)
 ·(
 rw [if_neg c5] at H
 exact absurd H (by simp)))
 ·(
 replace c4 := Bool.eq_false_iff.mpr c4
 subst c4
 have H1 := H; rw [if_neg ZFT] at H1
 clear H
 have H := H1
 clear H1
 obtain rfl := Option.some.inj H
 go_enter Try.func68, Try.ntmps68
 go_wp2_with (first | ((with_reducible refine gate_callee (f := 81) rfl ?_); refine ZGL (some 6) Try.func81 #[.int .i64 a1] ?_; (with_reducible refine (impl_isHost.calls a1 false _ A3.out).mono ?_); rintro e w' ⟨rfl, ⟨nd, rfl⟩⟩; refine ⟨_, rfl, ?_⟩))
 go_ret
 exact ⟨by first | rfl | (simp; done) | (simp [*]; done), by repeat (first | exact Drawn0.refl _ | apply Drawn0.step)⟩)

end Go.Proofs.Ythidgkfgdkjghaa.A
