/- Go functions as Lean functions, and for each its contract; written by wip/tools/pr.py over the kit's print. -/
import Derived.Test.YtkkdeojbkfjlpaaAx0
import Derived.Test.YtkkdeojbkfjlpaaAx18
namespace Go.Proofs.Ytkkdeojbkfjlpaa.A
open Go.RowKit Go.Proofs.YtkkdeojbkfjlpaaW.PrintWords Go.Proofs.YtkkdeojbkfjlpaaW.PrintLast Go.Proofs.YtkkdeojbkfjlpaaW.PrintMore
attribute [local go_sem] max2_int min2_int max_two min_two max_three min_three max_four min_four
set_option linter.unusedVariables false
set_option linter.unusedSimpArgs false
set_option maxHeartbeats 8000000
set_option maxRecDepth 100000

/-! ### spec_l11At: function 70 -/
mutual
def spec_l11At.l0 : Nat → List (S40) → List (S35) → Int → List (S35) → List (S40) → Int → Int → Option ((List (S35)))
 | 0, _, _, _, _, _, _, _ => none
 | k + 1, x1, x3, x9, x385000, x385001, x386000, x386001 => if x9 < (x1.length : Int) then (if x3.length < 8796093022208 then (if 0 ≤ x9 then (if 0 ≤ ((D40 x1 x9).f1) then (if ((D40 x1 x9).f1) < (x385000.length : Int) then ((spec_LabelBoth.f k x386000 x386001 ((D35 x385000 ((D40 x1 x9).f1)).f0) ((D35 x385000 ((D40 x1 x9).f1)).f1)).bind fun bt391 => ((spec_l11At.f k x385000 x385001 ((D40 x1 x9).f4) bt391.1 bt391.2 (x3 ++ [(⟨x386000, x386001⟩ : S35)])).bind fun t395 => ((spec_l11At.f k x385000 x385001 ((D40 x1 x9).f5) bt391.1 bt391.2 t395).bind fun t399 => (spec_l11At.l0 k x1 t399 (wrap64 (x9 + 1)) x385000 x385001 x386000 x386001)))) else (none)) else (none)) else (none)) else (none)) else (some x3)
def spec_l11At.f : Nat → List (S35) → List (S40) → List (S40) → Int → Int → List (S35) → Option ((List (S35)))
 | 0, _, _, _, _, _, _ => none
 | k + 1, l0_0, l0_1, l1, a2_0, a2_1, l3 => spec_l11At.l0 k l1 l3 0 l0_0 l0_1 a2_0 a2_1
end
def spec_l11At.T5 : Bool × List (List Nat × List Nat) := (true, [([], []), ([], []), ([1], [1]), ([], []), ([], []), ([3, 4], [3, 4]), ([5], [5]), ([6], [6]), ([2, 7], [2, 7]), ([8], [8]), ([0, 9], [0, 9]), ([], []), ([11, 10, 10, 0, 1, 2, 3, 4, 5, 6, 7, 8, 9, 10, 11], [10, 11])])
def spec_l11At.B5 : List Nat := [0, 0, 2, 0, 0, 24, 56, 120, 254, 510, 1023, 0, 4095]
theorem spec_l11At.tab5 : rtab .any (opsOf Try.f70 5) = spec_l11At.T5 := by kernel_rfl
theorem spec_l11At.bits5 : waitsOk spec_l11At.T5.2 spec_l11At.B5 = true := by kernel_rfl
def spec_l11At.T6 : Bool × List (List Nat × List Nat) := (true, [([], []), ([], []), ([], []), ([1, 2], [1, 2]), ([3], [3]), ([4], [4]), ([], []), ([], []), ([0, 5, 6, 7], [0, 5, 6, 7]), ([8, 8, 0, 1, 2, 3, 4, 5, 6, 7, 8], [7, 8])])
def spec_l11At.B6 : List Nat := [0, 0, 0, 6, 14, 30, 0, 0, 255, 511]
theorem spec_l11At.tab6 : rtab .any (opsOf Try.f70 6) = spec_l11At.T6 := by kernel_rfl
theorem spec_l11At.bits6 : waitsOk spec_l11At.T6.2 spec_l11At.B6 = true := by kernel_rfl
def spec_l11At.T7 : Bool × List (List Nat × List Nat) := (true, [([], []), ([], []), ([], []), ([1, 2], [1, 2]), ([3], [3]), ([4], [4]), ([], []), ([], []), ([0, 5, 6, 7], [0, 5, 6, 7]), ([8, 8, 0, 1, 2, 3, 4, 5, 6, 7, 8], [7, 8])])
def spec_l11At.B7 : List Nat := [0, 0, 0, 6, 14, 30, 0, 0, 255, 511]
theorem spec_l11At.tab7 : rtab .any (opsOf Try.f70 7) = spec_l11At.T7 := by kernel_rfl
theorem spec_l11At.bits7 : waitsOk spec_l11At.T7.2 spec_l11At.B7 = true := by kernel_rfl
theorem spec_l11At.calls (k : Nat) : ∀ (A0_0 : Option Addr) (c0_0 : Nat) (l0_0 : List (S35)) (A0_1 : Option Addr) (c0_1 : Nat) (l0_1 : List (S40)) (A1 : Option Addr) (c1 : Nat) (l1 : List (S40)) (a2_0 : Int) (a2_1 : Int) (P3_ : Nat → Prop) (u9000_ : Value) (l3 : List (S35)) (r : List (S35)) (w0 w : World) (hB : Below w0.heap.size w0 w) (hr0_0 : ∀ W_, Kept w W_ (fun k_ => P3_ k_) → Kd.C k35 W_ A0_0 l0_0.length l0_0) (hc0_0 : l0_0.length ≤ c0_0) (hr0_1 : ∀ W_, Kept w W_ (fun k_ => P3_ k_) → Kd.C k40 W_ A0_1 l0_1.length l0_1) (hc0_1 : l0_1.length ≤ c0_1) (hr1 : ∀ W_, Kept w W_ (fun k_ => P3_ k_) → Kd.C k40 W_ A1 l1.length l1) (hc1 : l1.length ≤ c1) (ho3 : Kd.R k35 35 w w0.heap.size P3_ u9000_ l3) (h : spec_l11At.f k l0_0 l0_1 l1 a2_0 a2_1 l3 = some r),
  Calls Try.prog 70 #[.agg #[.slice A0_0 l0_0.length c0_0, .slice A0_1 l0_1.length c0_1], .slice A1 l1.length c1, .agg #[.int .i64 a2_0, .int .i64 a2_1], u9000_] w fun e w' => ∃ v0_ : Value, e = .returned (v0_) ∧ Kd.R k35 35 w' w0.heap.size (fun k_ => (P3_ k_ ∨ w.heap.size ≤ k_)) v0_ r ∧ Below w0.heap.size w0 w' ∧ Kept w w' (fun k_ => P3_ k_) := by
 induction k using Nat.strongRecOn with
 | _ k ih =>
 intro A0_0 c0_0 l0_0 A0_1 c0_1 l0_1 A1 c1 l1 a2_0 a2_1 P3_ u9000_ l3 r w0 w hB hr0_0 hc0_0 hr0_1 hc0_1 hr1 hc1 ho3 h
 cases k with
 | zero => exact absurd h (by simp [spec_l11At.f])
 | succ k =>
 simp only [spec_l11At.f] at h
 have hu26 := Try.underlying26
 have hu35 := Try.underlying35
 have HR0_0 := AM hr0_0
 have HC0_0 := AM hc0_0
 clear hr0_0 hc0_0
 have HR0_1 := AM hr0_1
 have HC0_1 := AM hc0_1
 clear hr0_1 hc0_1
 have HR1 := AM hr1
 have HC1 := AM hc1
 clear hr1 hc1
 have HO3 := AM (show Kd.R k35 35 w w0.heap.size (fun k_ => (P3_ k_ ∨ w.heap.size ≤ k_)) u9000_ l3 from Kd.R_mono ho3 (fun k_ hk => (.inl hk)))
 have HK := AM (Kept.refl w (fun k_ => P3_ k_))
 have HW0 := AM hB.size
 have HB := AM hB
 clear hB
 have H : (spec_l11At.l0 k l1 l3 0 l0_0 l0_1 a2_0 a2_1) = some r := h
 clear h
 have H' := AM H
 clear H
 go_enter Try.func70, Try.ntmps70
 go_wp2_with (first | ((with_reducible refine gate_dst (N := 4) rfl ?_); refine ZX (N := 4) (cs := #[.slice A0_0 l0_0.length c0_0, .slice A0_1 l0_1.length c0_1]) (t := 26) ?_; intro gb384 hg w5 hbox hb; have BK384 := AM (hbox); have GW384 := AM ((by rw [hg]; exact (by first | exact HK.out.1 | exact (show Kept w _ (fun k_ => P3_ k_) from ZHK HK).1) : w.heap.size ≤ gb384)); have GE384 : Za (w0.heap.size ≤ gb384) := ZS hg; replace HO3 := AM (Kd.R_below (ZR HO3.out) hb); replace HK := AM (Kept.below (S := (fun k_ => P3_ k_)) (ZHK HK) hb); replace HB := ZT HB hb; clear hb hbox hg) | ((with_reducible refine gate_dst (N := 6) rfl ?_); refine ZX (N := 6) (cs := #[.int .i64 a2_0, .int .i64 a2_1]) (t := 35) ?_; intro gb385 hg w6 hbox hb; have BK385 := AM (hbox); have GW385 := AM ((by rw [hg]; exact (by first | exact HK.out.1 | exact (show Kept w _ (fun k_ => P3_ k_) from ZHK HK).1) : w.heap.size ≤ gb385)); have GE385 : Za (w0.heap.size ≤ gb385) := ZS hg; have NB384_385 : Za (gb384 ≠ gb385) := ZN hg BK384; have NB385_384 : Za (gb385 ≠ gb384) := ZM hg BK384; replace HO3 := AM (Kd.R_below (Kd.R_elderB (ZR HO3.out) gb385 (Nat.le_of_eq hg.symm)) hb); replace BK384 := ZW BK384 hb; replace HK := AM (Kept.below (S := (fun k_ => P3_ k_)) (ZHK HK) hb); replace HB := ZT HB hb; clear hb hbox hg))
 go_loopg [3, 9] k (fun kq v3 v9 w' => ∃ (x3_1 : List (S35)) (x9_1 : Int), v9 = .int .i64 x9_1 ∧ Za (spec_l11At.l0 kq l1 x3_1 x9_1 l0_0 l0_1 a2_0 a2_1 = some r) ∧ Za (kq ≤ k) ∧ Za (Kd.R k35 35 w' w0.heap.size (fun k_ => (P3_ k_ ∨ w.heap.size ≤ k_) ∧ k_ ≠ gb385) v3 x3_1) ∧ Za (w'.heap[gb384]? = some (.cells #[(.slice A0_0 l0_0.length c0_0), (.slice A0_1 l0_1.length c0_1)] 26 (0, 0))) ∧ Za (w'.heap[gb385]? = some (.cells #[.int .i64 a2_0, .int .i64 a2_1] 35 (0, 0))) ∧ Za (Kept w w' (fun k_ => P3_ k_)) ∧ Za (Below w0.heap.size w0 w'))
 case atStart => exact ⟨(l3), (0), ZSM, H', ⟨Nat.le_refl _⟩, ⟨ZR HO3.out⟩, ⟨ZK BK384.out⟩, ⟨ZK BK385.out⟩, ⟨ZHK HK⟩, ⟨ZB⟩⟩
 case round => (
 clear H'
 try clear c1
 try clear p2
 obtain ⟨x3_1, x9_1, rfl, HA, HK1, HO_3, BK384, BK385, HK, HB⟩ := hrel
 cases gk with
 | zero => exact absurd HA.out (by simp [spec_l11At.l0])
 | succ k1 =>
  have H := HA.out
  clear HA
  simp only [spec_l11At.l0] at H
  by_cases c7 : x9_1 < (l1.length : Int)
  ·(
  rw [if_pos c7] at H
  have c7b0 := decide_eq_true c7
  clear c7
  by_cases c8 : x3_1.length < 8796093022208
  ·(
  rw [if_pos c8] at H
  have LMc8 := AM c8
  clear c8
  obtain ⟨y386, hy386⟩ : ∃ y_ : List (S35), y_ = (x3_1 ++ [(⟨a2_0, a2_1⟩ : S35)]) := ⟨_, rfl⟩
  replace H : (if 0 ≤ x9_1 then (if 0 ≤ ((D40 l1 x9_1).f1) then (if ((D40 l1 x9_1).f1) < (l0_0.length : Int) then ((spec_LabelBoth.f k1 a2_0 a2_1 ((D35 l0_0 ((D40 l1 x9_1).f1)).f0) ((D35 l0_0 ((D40 l1 x9_1).f1)).f1)).bind fun bt391 => ((spec_l11At.f k1 l0_0 l0_1 ((D40 l1 x9_1).f4) bt391.1 bt391.2 y386).bind fun t395 => ((spec_l11At.f k1 l0_0 l0_1 ((D40 l1 x9_1).f5) bt391.1 bt391.2 t395).bind fun t399 => (spec_l11At.l0 k1 l1 t399 (wrap64 (x9_1 + 1)) l0_0 l0_1 a2_0 a2_1)))) else (none)) else (none)) else (none)) = some r := by rw [hy386]; exact H
  have Ny386 := AM hy386
  clear hy386
  by_cases c9 : 0 ≤ x9_1
  ·(
  rw [if_pos c9] at H
  have c9b0 := decide_eq_true c9
  clear c9
  by_cases c10 : 0 ≤ ((D40 l1 x9_1).f1)
  ·(
  rw [if_pos c10] at H
  have c10b0 := decide_eq_true c10
  clear c10
  by_cases c11 : ((D40 l1 x9_1).f1) < (l0_0.length : Int)
  ·(
  rw [if_pos c11] at H
  have c11b0 := decide_eq_true c11
  clear c11
  obtain ⟨⟨t391, t392⟩, A12, H⟩ := ZOB H; try dsimp only at H
  obtain ⟨t395, A13, H⟩ := ZOB H; try dsimp only at H
  obtain ⟨t399, A14, H⟩ := ZOB H; try dsimp only at H
  have H' := AM H
  clear H
  have hnb15 := NB385_384.out
  have hnc15 := NB384_385.out
  have hcz16 := ZC2 wr BK385
  try go_wp2_with (first | ((with_reducible refine gate_builtin (b := .append) (xs := #[.tmp 17, .tmp 19]) rfl ?_); at_builtin; refine Kd.R_append k35 (w0 := w0) w0.heap.size rfl (.tmp 17) (.tmp 19) 23 35 (.agg #[(.int .i64 0), (.int .i64 0)]) 16 rfl Try.underlying23 info35 rfl (by decide) (by omega) u3 x3_1 (⟨a2_0, a2_1⟩ : S35) [.int .i64 a2_0, .int .i64 a2_1] (fun k_ => (P3_ k_ ∨ w.heap.size ≤ k_) ∧ k_ ≠ gb385) (fun _ => False) rfl rfl ?aP (fun _ hk => hk.elim) ?aF ?aO ?aB ?aS ?aL ?_; (case aP => exact k35_mkM _ _ _ (⟨a2_0, a2_1⟩ : S35)); (case aB => exact (ZB)); (case aF => exact (fun k_ hk => ⟨(.inr (Nat.le_trans (by first | exact HK.out.1 | exact (show Kept w _ (fun k_ => P3_ k_) from ZHK HK).1) hk)), Kd.freshB (g := gb385) (o := .cells #[.int .i64 a2_0, .int .i64 a2_1] 35 (0, 0)) (ZK BK385.out) k_ hk⟩)); (case aO => exact (ZR HO_3.out)); (case aS => exact (below_size (ZB))); (case aL => have := LMc8.out; omega); intro v387 w17 ho hb hg hat; rw [← Ny386.out] at ho; have n0_ := AM (blk_grown (g := gb384) (o := .cells #[.slice A0_0 l0_0.length c0_0, .slice A0_1 l0_1.length c0_1] 26 (0, 0)) (ZK BK384.out) hg (Kd.R_ne HO_3.out BK384.out (by decide))); have n1_ := AM (blk_grown (g := gb385) (o := .cells #[.int .i64 a2_0, .int .i64 a2_1] 35 (0, 0)) (ZK BK385.out) hg (Kd.R_away HO_3.out (fun _ hk => hk.2))); have n2_ := AM (hb); have n3_ := AM (Kept.of_grown (S := (fun k_ => P3_ k_)) hg (ZHK HK) (fun k_ e_ => (HO_3.out.1 k_ e_).1)); have n4_ := AM (ho); clear BK384 BK385 HB HK HO_3; have BK384 := n0_; have BK385 := n1_; have HB := n2_; have HK := n3_; have HO388 := n4_; clear n0_ n1_ n2_ n3_ n4_ ho hb hg hat))
  replace HO388 := AM (Kd.R_drew HO388.out)
  replace BK384 := AM (blk_drew BK384.out)
  replace BK385 := AM (blk_drew BK385.out)
  replace HK := AM (Kept.drew HK.out)
  replace HB := AM (below_drew1 HB.out)
  have p389 : 0 ≤ (x9_1 : Int) := ZD
  have q389 : x9_1 < (l1.length : Int) := ZD
  obtain ⟨ad389, A389_6, c389_6, A389_7, c389_7, e389, hx389_0, hx389_1, hx389_2, hx389_3, hx389_4, hx389_5, hx389_6, hx389_7, hl389_6, hi389_6, hl389_7, hi389_7⟩ := at_T40 (Kd.C_kept_now HR1.out HK.out) x9_1 p389 q389
  have hw389_7 := hx389_7
  have hw389_6 := hx389_6
  have hw389_5 := hx389_5
  have hw389_4 := hx389_4
  have hw389_3 := hx389_3
  have hw389_2 := hx389_2
  have hw389_1 := hx389_1
  have hw389_0 := hx389_0
  cases e389
  have hy389_0 := Kd.kept_slot HR1.out (by omega) (by decide) (ZHK HK) hx389_0 (add_block _ _) (Kept.refl _ _)
  have hy389_1 := Kd.kept_slot HR1.out (by omega) (by decide) (ZHK HK) hx389_1 (add_block _ _) (Kept.refl _ _)
  have hy389_2 := Kd.kept_slot HR1.out (by omega) (by decide) (ZHK HK) hx389_2 (add_block _ _) (Kept.refl _ _)
  have hy389_3 := Kd.kept_slot HR1.out (by omega) (by decide) (ZHK HK) hx389_3 (add_block _ _) (Kept.refl _ _)
  have hy389_4 := Kd.kept_slot HR1.out (by omega) (by decide) (ZHK HK) hx389_4 (add_block _ _) (Kept.refl _ _)
  have hy389_5 := Kd.kept_slot HR1.out (by omega) (by decide) (ZHK HK) hx389_5 (add_block _ _) (Kept.refl _ _)
  have hy389_6 := Kd.kept_slot HR1.out (by omega) (by decide) (ZHK HK) hx389_6 (add_block _ _) (Kept.refl _ _)
  have hy389_7 := Kd.kept_slot HR1.out (by omega) (by decide) (ZHK HK) hx389_7 (add_block _ _) (Kept.refl _ _)
  have HR389_6 := AM hi389_6
  have HC389_6 := AM hl389_6
  clear hi389_6 hl389_6
  have HR389_7 := AM hi389_7
  have HC389_7 := AM hl389_7
  clear hi389_7 hl389_7
  replace p389 := eq_true p389
  replace q389 := eq_true q389
  have p390 : 0 ≤ (((D40 l1 x9_1).f1) : Int) := ZD
  have q390 : ((D40 l1 x9_1).f1) < (l0_0.length : Int) := ZD
  obtain ⟨ad390, e390, hx390_0, hx390_1⟩ := at_T35 (Kd.C_kept_now HR0_0.out HK.out) ((D40 l1 x9_1).f1) p390 q390
  have hw390_1 := hx390_1
  have hw390_0 := hx390_0
  cases e390
  have hy390_0 := Kd.kept_slot HR0_0.out (by omega) (by decide) (ZHK HK) hx390_0 (add_block _ _) (Kept.refl _ _)
  have hy390_1 := Kd.kept_slot HR0_0.out (by omega) (by decide) (ZHK HK) hx390_1 (add_block _ _) (Kept.refl _ _)
  replace p390 := eq_true p390
  replace q390 := eq_true q390
  refine start_ (n := 13) (S := fun w' => w'.cell? ⟨gb385, 0, none⟩ = some (.int .i64 a2_0) ∧ w'.cell? ⟨gb385, 1, none⟩ = some (.int .i64 a2_1) ∧ w'.cell? ⟨gb384, 0, none⟩ = some (.slice (some ad390) l0_0.length c0_0) ∧ w'.cell? ⟨gb384, 1, none⟩ = some (.slice A0_1 l0_1.length c0_1) ∧ w'.cell? (ad389.add ((x9_1).toNat * 8)) = some (.int .i64 ((D40 l1 x9_1).f0)) ∧ w'.cell? ⟨(ad389.add ((x9_1).toNat * 8)).block, (ad389.add ((x9_1).toNat * 8)).off + 1, none⟩ = some (.int .i64 ((D40 l1 x9_1).f1)) ∧ w'.cell? ⟨(ad389.add ((x9_1).toNat * 8)).block, (ad389.add ((x9_1).toNat * 8)).off + 2, none⟩ = some (.int .i64 ((D40 l1 x9_1).f2.f0)) ∧ w'.cell? ⟨(ad389.add ((x9_1).toNat * 8)).block, (ad389.add ((x9_1).toNat * 8)).off + 3, none⟩ = some (.int .i64 ((D40 l1 x9_1).f2.f1)) ∧ w'.cell? ⟨(ad389.add ((x9_1).toNat * 8)).block, (ad389.add ((x9_1).toNat * 8)).off + 4, none⟩ = some (.int .i64 ((D40 l1 x9_1).f2.f2)) ∧ w'.cell? ⟨(ad389.add ((x9_1).toNat * 8)).block, (ad389.add ((x9_1).toNat * 8)).off + 5, none⟩ = some (.int .i64 ((D40 l1 x9_1).f3)) ∧ w'.cell? ⟨(ad389.add ((x9_1).toNat * 8)).block, (ad389.add ((x9_1).toNat * 8)).off + 6, none⟩ = some (.slice A389_6 ((D40 l1 x9_1).f4).length c389_6) ∧ w'.cell? ⟨(ad389.add ((x9_1).toNat * 8)).block, (ad389.add ((x9_1).toNat * 8)).off + 7, none⟩ = some (.slice A389_7 ((D40 l1 x9_1).f5).length c389_7) ∧ w'.cell? (ad390.add ((((D40 l1 x9_1).f1)).toNat * 2)) = some (.int .i64 ((D35 l0_0 ((D40 l1 x9_1).f1)).f0)) ∧ w'.cell? ⟨(ad390.add ((((D40 l1 x9_1).f1)).toNat * 2)).block, (ad390.add ((((D40 l1 x9_1).f1)).toNat * 2)).off + 1, none⟩ = some (.int .i64 ((D35 l0_0 ((D40 l1 x9_1).f1)).f1))) (ds := []) #[F,F,F,F,F,F,F,F,F,F,F,F,F] (by kernel_rfl) rfl rfl ⟨ZA BK385 0, ZA BK385 1, ZA BK384 0, ZA BK384 1, (ZKS HR1 p389 q389 hy389_0 (ZHK HK)), (ZKS HR1 p389 q389 hy389_1 (ZHK HK)), (ZKS HR1 p389 q389 hy389_2 (ZHK HK)), (ZKS HR1 p389 q389 hy389_3 (ZHK HK)), (ZKS HR1 p389 q389 hy389_4 (ZHK HK)), (ZKS HR1 p389 q389 hy389_5 (ZHK HK)), (ZKS HR1 p389 q389 hy389_6 (ZHK HK)), (ZKS HR1 p389 q389 hy389_7 (ZHK HK)), (ZKS HR0_0 p390 q390 hy390_0 (ZHK HK)), (ZKS HR0_0 p390 q390 hy390_1 (ZHK HK))⟩ (fun hHeld => ?_); refine with_tabW spec_l11At.tab5 spec_l11At.bits5 (fun HT_ HW_ => ?_)
  generalize w17.drew = w18 at HO388 BK384 BK385 HK HB HR389_6 HR389_7 hx389_0 hx389_1 hx389_2 hx389_3 hx389_4 hx389_5 hx389_6 hx389_7 hx390_0 hx390_1 hHeld ⊢
  refine ZU 1 22 #[F,T,F,F,F,F,F,F,F,F,F,F,F] ?_
  refine ZU 3 24 #[F,T,F,T,F,F,F,F,F,F,F,F,F] ?_
  refine ZU 4 25 #[F,T,F,T,T,F,F,F,F,F,F,F,F] ?_
  refine ZU 5 26 #[F,T,F,T,T,T,F,F,F,F,F,F,F] ?_
  refine ZU 6 27 #[F,T,F,T,T,T,T,F,F,F,F,F,F] ?_
  refine ZTK 0 21 #[T,T,F,T,T,T,T,F,F,F,F,F,F] hHeld ?_
  refine ZTK 2 23 #[T,T,T,T,T,T,T,F,F,F,F,F,F] hHeld ?_
  refine ZTK 7 28 #[T,T,T,T,T,T,T,T,F,F,F,F,F] hHeld ?_
  refine ZU 8 29 #[T,T,T,T,T,T,T,T,T,F,F,F,F] ?_
  refine ZTK 9 30 #[T,T,T,T,T,T,T,T,T,T,F,F,F] hHeld ?_
  refine join_ (σ := Nat) 1 #[T,T,T,T,T,T,T,T,T,T,T,T,F] (fun s_ => [(31, .agg #[.int .i64 t391, .int .i64 t392]), (10, .pointer (some ⟨s_, 0, none⟩))]) (fun s_ w' => (w'.cell? ⟨gb385, 0, none⟩ = some (.int .i64 a2_0) ∧ w'.cell? ⟨gb385, 1, none⟩ = some (.int .i64 a2_1) ∧ w'.cell? ⟨gb384, 0, none⟩ = some (.slice (some ad390) l0_0.length c0_0) ∧ w'.cell? ⟨gb384, 1, none⟩ = some (.slice A0_1 l0_1.length c0_1) ∧ w'.cell? (ad389.add ((x9_1).toNat * 8)) = some (.int .i64 ((D40 l1 x9_1).f0)) ∧ w'.cell? ⟨(ad389.add ((x9_1).toNat * 8)).block, (ad389.add ((x9_1).toNat * 8)).off + 1, none⟩ = some (.int .i64 ((D40 l1 x9_1).f1)) ∧ w'.cell? ⟨(ad389.add ((x9_1).toNat * 8)).block, (ad389.add ((x9_1).toNat * 8)).off + 2, none⟩ = some (.int .i64 ((D40 l1 x9_1).f2.f0)) ∧ w'.cell? ⟨(ad389.add ((x9_1).toNat * 8)).block, (ad389.add ((x9_1).toNat * 8)).off + 3, none⟩ = some (.int .i64 ((D40 l1 x9_1).f2.f1)) ∧ w'.cell? ⟨(ad389.add ((x9_1).toNat * 8)).block, (ad389.add ((x9_1).toNat * 8)).off + 4, none⟩ = some (.int .i64 ((D40 l1 x9_1).f2.f2)) ∧ w'.cell? ⟨(ad389.add ((x9_1).toNat * 8)).block, (ad389.add ((x9_1).toNat * 8)).off + 5, none⟩ = some (.int .i64 ((D40 l1 x9_1).f3)) ∧ w'.cell? ⟨(ad389.add ((x9_1).toNat * 8)).block, (ad389.add ((x9_1).toNat * 8)).off + 6, none⟩ = some (.slice A389_6 ((D40 l1 x9_1).f4).length c389_6) ∧ w'.cell? ⟨(ad389.add ((x9_1).toNat * 8)).block, (ad389.add ((x9_1).toNat * 8)).off + 7, none⟩ = some (.slice A389_7 ((D40 l1 x9_1).f5).length c389_7) ∧ w'.cell? (ad390.add ((((D40 l1 x9_1).f1)).toNat * 2)) = some (.int .i64 ((D35 l0_0 ((D40 l1 x9_1).f1)).f0)) ∧ w'.cell? ⟨(ad390.add ((((D40 l1 x9_1).f1)).toNat * 2)).block, (ad390.add ((((D40 l1 x9_1).f1)).toNat * 2)).off + 1, none⟩ = some (.int .i64 ((D35 l0_0 ((D40 l1 x9_1).f1)).f1))) ∧ (Kd.R k35 35 w' w0.heap.size (fun k_ => (P3_ k_ ∨ w.heap.size ≤ k_) ∧ k_ ≠ gb385 ∧ k_ ≠ s_) v387 y386) ∧ (w'.heap[gb384]? = some (.cells #[.slice (some ad390) l0_0.length c0_0, .slice A0_1 l0_1.length c0_1] 26 (0, 0))) ∧ (w'.heap[gb385]? = some (.cells #[.int .i64 a2_0, .int .i64 a2_1] 35 (0, 0))) ∧ (w'.heap[s_]? = some (.cells #[.int .i64 0, .int .i64 0] 35 (0, 0))) ∧ (w.heap.size ≤ s_) ∧ (w0.heap.size ≤ s_) ∧ (gb384 ≠ s_) ∧ (s_ ≠ gb384) ∧ (gb385 ≠ s_) ∧ (s_ ≠ gb385) ∧ (Kept w w' (fun k_ => P3_ k_)) ∧ (Below w0.heap.size w0 w')) ?_ ?_
  rotate_left
  ·(
  intro hCont
  refine two_ (i := 10) (j := 11) (Ni := some 31) (Nj := some 10) #[T,T,T,T,T,T,T,T,T,T,T,F,F] #[T,T,T,T,T,T,T,T,T,T,F,T,F] rfl rfl rfl rfl (two_of HT_.out (by kernel_rfl)) (by decide) (by decide) (fun K hK => ?_) (fun K hK => ?_)
  ·(
  skip
  refine ZGO Try.func73 #[.agg #[.int .i64 a2_0, .int .i64 a2_1], .agg #[.int .i64 ((D35 l0_0 ((D40 l1 x9_1).f1)).f0), .int .i64 ((D35 l0_0 ((D40 l1 x9_1).f1)).f1)]] ?_
  with_reducible refine (spec_LabelBoth.calls k1 a2_0 a2_1 ((D35 l0_0 ((D40 l1 x9_1).f1)).f0) ((D35 l0_0 ((D40 l1 x9_1).f1)).f1) t391 t392 _ A12.out).mono ?_
  rintro e w19 ⟨rfl, hb⟩
  refine ZV1 ?_
  replace HO388 := AM (Kd.R_below (ZR HO388.out) hb)
  replace BK384 := ZW BK384 hb
  replace BK385 := ZW BK385 hb
  replace HR389_6 := AM (Kd.C_below (ZQ HR389_6.out) hb)
  replace HR389_7 := AM (Kd.C_below (ZQ HR389_7.out) hb)
  replace HK := AM (Kept.below (S := (fun k_ => P3_ k_)) (ZHK HK) hb)
  replace HB := ZT HB hb
  (try clear hb)
  (try clear hb2)
  (try clear hk)
  (try clear hi)
  refine hK.out _ _ ⟨ZA BK385 0, ZA BK385 1, ZA BK384 0, ZA BK384 1, (ZKS HR1 p389 q389 hy389_0 (ZHK HK)), (ZKS HR1 p389 q389 hy389_1 (ZHK HK)), (ZKS HR1 p389 q389 hy389_2 (ZHK HK)), (ZKS HR1 p389 q389 hy389_3 (ZHK HK)), (ZKS HR1 p389 q389 hy389_4 (ZHK HK)), (ZKS HR1 p389 q389 hy389_5 (ZHK HK)), (ZKS HR1 p389 q389 hy389_6 (ZHK HK)), (ZKS HR1 p389 q389 hy389_7 (ZHK HK)), (ZKS HR0_0 p390 q390 hy390_0 (ZHK HK)), (ZKS HR0_0 p390 q390 hy390_1 (ZHK HK))⟩ (fun hHeld => ?_)
  clear hK K
  refine ZNO 31 ?_
  refine one_ (i := 11) (N := some 10) #[T,T,T,T,T,T,T,T,T,T,T,T,F] rfl rfl (one_of HT_.out (by kernel_rfl)) (by decide) (fun K hK => ?_)
  refine box_step ?hg (N := 10) ?hd (cs := #[.int .i64 0, .int .i64 0]) (t := 35) ?hr ?_; (case hd => rfl); (case hg => rfl); (case hr => first | (go_simp; done) | (go_simp; rfl))
  intro gb393 hg w20 hbox hb
  have BK393 := AM (hbox)
  have GW393 := AM ((by rw [hg]; exact (by first | exact HK.out.1 | exact (show Kept w _ (fun k_ => P3_ k_) from ZHK HK).1) : w.heap.size ≤ gb393))
  have GE393 : Za (w0.heap.size ≤ gb393) := ZS hg
  have NB384_393 : Za (gb384 ≠ gb393) := ZN hg BK384
  have NB393_384 : Za (gb393 ≠ gb384) := ZM hg BK384
  have NB385_393 : Za (gb385 ≠ gb393) := ZN hg BK385
  have NB393_385 : Za (gb393 ≠ gb385) := ZM hg BK385
  replace HO388 := AM (Kd.R_below (Kd.R_elderB (ZR HO388.out) gb393 (Nat.le_of_eq hg.symm)) hb)
  replace BK384 := ZW BK384 hb
  replace BK385 := ZW BK385 hb
  replace HR389_6 := AM (Kd.C_below (ZQ HR389_6.out) hb)
  replace HR389_7 := AM (Kd.C_below (ZQ HR389_7.out) hb)
  replace HK := AM (Kept.below (S := (fun k_ => P3_ k_)) (ZHK HK) hb)
  replace HB := ZT HB hb
  clear hb hbox hg
  refine hK.out _ _ ⟨ZA BK385 0, ZA BK385 1, ZA BK384 0, ZA BK384 1, (ZKS HR1 p389 q389 hy389_0 (ZHK HK)), (ZKS HR1 p389 q389 hy389_1 (ZHK HK)), (ZKS HR1 p389 q389 hy389_2 (ZHK HK)), (ZKS HR1 p389 q389 hy389_3 (ZHK HK)), (ZKS HR1 p389 q389 hy389_4 (ZHK HK)), (ZKS HR1 p389 q389 hy389_5 (ZHK HK)), (ZKS HR1 p389 q389 hy389_6 (ZHK HK)), (ZKS HR1 p389 q389 hy389_7 (ZHK HK)), (ZKS HR0_0 p390 q390 hy390_0 (ZHK HK)), (ZKS HR0_0 p390 q390 hy390_1 (ZHK HK))⟩ (fun hHeld => ?_)
  clear hK K
  refine ZNO 10 ?_
  exact norm_ (by simp only [putAll, Act.put, List.setIfInBounds_toArray, List.set_cons_zero, List.set_cons_succ]) (hCont (gb393) _ ⟨hHeld, (ZRm HO388.out (fun _ hk => ⟨hk.1.1, ⟨hk.1.2, hk.2⟩⟩)), (ZK BK384.out), (ZK BK385.out), (ZK BK393.out), GW393.out, GE393.out, NB384_393.out, NB393_384.out, NB385_393.out, NB393_385.out, (ZHK HK), (ZB)⟩))
  ·(
  skip
  refine box_step ?hg (N := 10) ?hd (cs := #[.int .i64 0, .int .i64 0]) (t := 35) ?hr ?_; (case hd => rfl); (case hg => rfl); (case hr => first | (go_simp; done) | (go_simp; rfl))
  intro gb393 hg w19 hbox hb
  have BK393 := AM (hbox)
  have GW393 := AM ((by rw [hg]; exact (by first | exact HK.out.1 | exact (show Kept w _ (fun k_ => P3_ k_) from ZHK HK).1) : w.heap.size ≤ gb393))
  have GE393 : Za (w0.heap.size ≤ gb393) := ZS hg
  have NB384_393 : Za (gb384 ≠ gb393) := ZN hg BK384
  have NB393_384 : Za (gb393 ≠ gb384) := ZM hg BK384
  have NB385_393 : Za (gb385 ≠ gb393) := ZN hg BK385
  have NB393_385 : Za (gb393 ≠ gb385) := ZM hg BK385
  replace HO388 := AM (Kd.R_below (Kd.R_elderB (ZR HO388.out) gb393 (Nat.le_of_eq hg.symm)) hb)
  replace BK384 := ZW BK384 hb
  replace BK385 := ZW BK385 hb
  replace HR389_6 := AM (Kd.C_below (ZQ HR389_6.out) hb)
  replace HR389_7 := AM (Kd.C_below (ZQ HR389_7.out) hb)
  replace HK := AM (Kept.below (S := (fun k_ => P3_ k_)) (ZHK HK) hb)
  replace HB := ZT HB hb
  clear hb hbox hg
  refine hK.out _ _ ⟨ZA BK385 0, ZA BK385 1, ZA BK384 0, ZA BK384 1, (ZKS HR1 p389 q389 hy389_0 (ZHK HK)), (ZKS HR1 p389 q389 hy389_1 (ZHK HK)), (ZKS HR1 p389 q389 hy389_2 (ZHK HK)), (ZKS HR1 p389 q389 hy389_3 (ZHK HK)), (ZKS HR1 p389 q389 hy389_4 (ZHK HK)), (ZKS HR1 p389 q389 hy389_5 (ZHK HK)), (ZKS HR1 p389 q389 hy389_6 (ZHK HK)), (ZKS HR1 p389 q389 hy389_7 (ZHK HK)), (ZKS HR0_0 p390 q390 hy390_0 (ZHK HK)), (ZKS HR0_0 p390 q390 hy390_1 (ZHK HK))⟩ (fun hHeld => ?_)
  clear hK K
  refine ZNO 10 ?_
  refine one_ (i := 10) (N := some 31) #[T,T,T,T,T,T,T,T,T,T,T,T,F] rfl rfl (one_of HT_.out (by kernel_rfl)) (by decide) (fun K hK => ?_)
  refine ZGO Try.func73 #[.agg #[.int .i64 a2_0, .int .i64 a2_1], .agg #[.int .i64 ((D35 l0_0 ((D40 l1 x9_1).f1)).f0), .int .i64 ((D35 l0_0 ((D40 l1 x9_1).f1)).f1)]] ?_
  with_reducible refine (spec_LabelBoth.calls k1 a2_0 a2_1 ((D35 l0_0 ((D40 l1 x9_1).f1)).f0) ((D35 l0_0 ((D40 l1 x9_1).f1)).f1) t391 t392 _ A12.out).mono ?_
  rintro e w20 ⟨rfl, hb⟩
  refine ZV1 ?_
  replace HO388 := AM (Kd.R_below (ZR HO388.out) hb)
  replace BK384 := ZW BK384 hb
  replace BK385 := ZW BK385 hb
  replace HR389_6 := AM (Kd.C_below (ZQ HR389_6.out) hb)
  replace HR389_7 := AM (Kd.C_below (ZQ HR389_7.out) hb)
  replace BK393 := ZW BK393 hb
  replace HK := AM (Kept.below (S := (fun k_ => P3_ k_)) (ZHK HK) hb)
  replace HB := ZT HB hb
  (try clear hb)
  (try clear hb2)
  (try clear hk)
  (try clear hi)
  refine hK.out _ _ ⟨ZA BK385 0, ZA BK385 1, ZA BK384 0, ZA BK384 1, (ZKS HR1 p389 q389 hy389_0 (ZHK HK)), (ZKS HR1 p389 q389 hy389_1 (ZHK HK)), (ZKS HR1 p389 q389 hy389_2 (ZHK HK)), (ZKS HR1 p389 q389 hy389_3 (ZHK HK)), (ZKS HR1 p389 q389 hy389_4 (ZHK HK)), (ZKS HR1 p389 q389 hy389_5 (ZHK HK)), (ZKS HR1 p389 q389 hy389_6 (ZHK HK)), (ZKS HR1 p389 q389 hy389_7 (ZHK HK)), (ZKS HR0_0 p390 q390 hy390_0 (ZHK HK)), (ZKS HR0_0 p390 q390 hy390_1 (ZHK HK))⟩ (fun hHeld => ?_)
  clear hK K
  refine ZNO 31 ?_
  exact norm_ (by simp only [putAll, Act.put, List.setIfInBounds_toArray, List.set_cons_zero, List.set_cons_succ]) (hCont (gb393) _ ⟨hHeld, (ZRm HO388.out (fun _ hk => ⟨hk.1.1, ⟨hk.1.2, hk.2⟩⟩)), (ZK BK384.out), (ZK BK385.out), (ZK BK393.out), GW393.out, GE393.out, NB384_393.out, NB393_384.out, NB385_393.out, NB393_385.out, (ZHK HK), (ZB)⟩)))
  rintro gb393 w21 ⟨hS_, h0_, h1_, h2_, h3_, h4_, h5_, h6_, h7_, h8_, h9_, h10_, h11_⟩
  try dsimp only at h0_ h1_ h2_ h3_ h4_ h5_ h6_ h7_ h8_ h9_ h10_ h11_
  have n0_ := AM h0_
  have n1_ := AM h1_
  have n2_ := AM h2_
  have n3_ := AM h3_
  have n4_ := AM h4_
  have n5_ := AM h5_
  have n6_ := AM h6_
  have n7_ := AM h7_
  have n8_ := AM h8_
  have n9_ := AM h9_
  have n10_ := AM h10_
  have n11_ := AM h11_
  clear HO388 BK384 BK385 HK HB h0_ h1_ h2_ h3_ h4_ h5_ h6_ h7_ h8_ h9_ h10_ h11_
  have HO388 := n0_
  have BK384 := n1_
  have BK385 := n2_
  have BK393 := n3_
  have GW393 := n4_
  have GE393 := n5_
  have NB384_393 := n6_
  have NB393_384 := n7_
  have NB385_393 := n8_
  have NB393_385 := n9_
  have HK := n10_
  have HB := n11_
  clear n0_ n1_ n2_ n3_ n4_ n5_ n6_ n7_ n8_ n9_ n10_ n11_
  try dsimp only at hS_
  have hHeld := hS_
  refine ZNP ?_
  refine one_ (i := 12) (N := none) #[T,T,T,T,T,T,T,T,T,T,T,T,T] rfl rfl (one_of HT_.out (by kernel_rfl)) (by decide) (fun K hK => ?_)
  have hs22 : w21.cell? ⟨gb393, 0, none⟩ = some (.int .i64 0) := ZA BK393 0
  have hfs22 := blk_frozen BK393.out 0
  have hns22_0 := NB384_393.out
  have hns22_1 := NB385_393.out
  have hms22_0 := NB393_384.out
  have hms22_1 := NB393_385.out
  have hs23 : w21.cell? ⟨gb393, 1, none⟩ = some (.int .i64 0) := ZA BK393 1
  have hfs23 := blk_frozen BK393.out 1
  have hns23_0 := NB384_393.out
  have hns23_1 := NB385_393.out
  have hms23_0 := NB393_384.out
  have hms23_1 := NB393_385.out
  refine skip_ (w1 := ?_) (by rfl) rfl ?_ ?_
  rotate_left
  ·(
  go_simp
  rfl)
  refine hK.out _ _ ⟨((cell_far (p := ⟨gb393, _, none⟩) NB385_393.out _).trans (((cell_far (p := ⟨gb393, _, none⟩) NB385_393.out _).trans (hHeld.1)))), ((cell_far (p := ⟨gb393, _, none⟩) NB385_393.out _).trans (((cell_far (p := ⟨gb393, _, none⟩) NB385_393.out _).trans (hHeld.2.1)))), ((cell_far (p := ⟨gb393, _, none⟩) NB384_393.out _).trans (((cell_far (p := ⟨gb393, _, none⟩) NB384_393.out _).trans (hHeld.2.2.1)))), ((cell_far (p := ⟨gb393, _, none⟩) NB384_393.out _).trans (((cell_far (p := ⟨gb393, _, none⟩) NB384_393.out _).trans (hHeld.2.2.2.1)))), (ZKS HR1 p389 q389 hy389_0 (ZHK HK)), (ZKS HR1 p389 q389 hy389_1 (ZHK HK)), (ZKS HR1 p389 q389 hy389_2 (ZHK HK)), (ZKS HR1 p389 q389 hy389_3 (ZHK HK)), (ZKS HR1 p389 q389 hy389_4 (ZHK HK)), (ZKS HR1 p389 q389 hy389_5 (ZHK HK)), (ZKS HR1 p389 q389 hy389_6 (ZHK HK)), (ZKS HR1 p389 q389 hy389_7 (ZHK HK)), (ZKS HR0_0 p390 q390 hy390_0 (ZHK HK)), (ZKS HR0_0 p390 q390 hy390_1 (ZHK HK))⟩ (fun hHeld => ?_)
  clear hK K
  refine done_ (done_of HT_.out (by kernel_rfl)) ?_
  try go_wp2
  have n0_ : Za (Kd.R k35 35 ((w21.setCell ⟨gb393, 0, none⟩ (.int .i64 t391)).setCell ⟨gb393, 1, none⟩ (.int .i64 t392)) w0.heap.size (fun k_ => (P3_ k_ ∨ w.heap.size ≤ k_) ∧ k_ ≠ gb385 ∧ k_ ≠ gb393) v387 y386) := ⟨ZRf (Kd.R_mono HO388.out (fun k_ hk => (⟨hk, hk.2.2⟩ : _ ∧ k_ ≠ gb393))) (fun _ hk => ⟨hk.2, ⟨hk.1.1, ⟨hk.1.2.1, hk.1.2.2⟩⟩⟩)⟩
  have n1_ : Za (((w21.setCell ⟨gb393, 0, none⟩ (.int .i64 t391)).setCell ⟨gb393, 1, none⟩ (.int .i64 t392)).heap[gb384]? = some (.cells #[.slice (some ad390) l0_0.length c0_0, .slice A0_1 l0_1.length c0_1] 26 (0, 0))) := ⟨ZZ BK384.out⟩
  have n2_ : Za (((w21.setCell ⟨gb393, 0, none⟩ (.int .i64 t391)).setCell ⟨gb393, 1, none⟩ (.int .i64 t392)).heap[gb385]? = some (.cells #[.int .i64 a2_0, .int .i64 a2_1] 35 (0, 0))) := ⟨ZZ BK385.out⟩
  have n3_ : Za (((w21.setCell ⟨gb393, 0, none⟩ (.int .i64 t391)).setCell ⟨gb393, 1, none⟩ (.int .i64 t392)).heap[gb393]? = some (.cells #[.int .i64 t391, .int .i64 t392] 35 (0, 0))) := ⟨ZZ BK393.out⟩
  have n4_ : Za (Kept w ((w21.setCell ⟨gb393, 0, none⟩ (.int .i64 t391)).setCell ⟨gb393, 1, none⟩ (.int .i64 t392)) (fun k_ => P3_ k_)) := ⟨ZHK HK⟩
  have n5_ : Za (Below w0.heap.size w0 ((w21.setCell ⟨gb393, 0, none⟩ (.int .i64 t391)).setCell ⟨gb393, 1, none⟩ (.int .i64 t392))) := ⟨ZB⟩
  (try clear HO388)
  (try clear BK384)
  (try clear BK385)
  (try clear BK393)
  (try clear HK)
  (try clear HB)
  generalize ((w21.setCell ⟨gb393, 0, none⟩ (.int .i64 t391)).setCell ⟨gb393, 1, none⟩ (.int .i64 t392)) = w24 at n0_ n1_ n2_ n3_ n4_ n5_ ⊢
  have HO388 := n0_
  have BK384 := n1_
  have BK385 := n2_
  have BK393 := n3_
  have HK := n4_
  have HB := n5_
  clear n0_ n1_ n2_ n3_ n4_ n5_
  replace HO388 := AM (Kd.R_drew HO388.out)
  replace BK384 := AM (blk_drew BK384.out)
  replace BK385 := AM (blk_drew BK385.out)
  replace BK393 := AM (blk_drew BK393.out)
  replace HK := AM (Kept.drew HK.out)
  replace HB := AM (below_drew1 HB.out)
  have p394 : 0 ≤ (x9_1 : Int) := ZD
  have q394 : x9_1 < (l1.length : Int) := ZD
  obtain ⟨ad394, A394_6, c394_6, A394_7, c394_7, e394, hx394_0, hx394_1, hx394_2, hx394_3, hx394_4, hx394_5, hx394_6, hx394_7, hl394_6, hi394_6, hl394_7, hi394_7⟩ := at_T40 (Kd.C_kept_now HR1.out HK.out) x9_1 p394 q394
  have hw394_7 := hx394_7
  have hw394_6 := hx394_6
  have hw394_5 := hx394_5
  have hw394_4 := hx394_4
  have hw394_3 := hx394_3
  have hw394_2 := hx394_2
  have hw394_1 := hx394_1
  have hw394_0 := hx394_0
  obtain rfl : ad389 = ad394 := (by injection e394)
  have hy394_0 := Kd.kept_slot HR1.out (by omega) (by decide) (ZHK HK) hx394_0 (add_block _ _) (Kept.refl _ _)
  have hy394_1 := Kd.kept_slot HR1.out (by omega) (by decide) (ZHK HK) hx394_1 (add_block _ _) (Kept.refl _ _)
  have hy394_2 := Kd.kept_slot HR1.out (by omega) (by decide) (ZHK HK) hx394_2 (add_block _ _) (Kept.refl _ _)
  have hy394_3 := Kd.kept_slot HR1.out (by omega) (by decide) (ZHK HK) hx394_3 (add_block _ _) (Kept.refl _ _)
  have hy394_4 := Kd.kept_slot HR1.out (by omega) (by decide) (ZHK HK) hx394_4 (add_block _ _) (Kept.refl _ _)
  have hy394_5 := Kd.kept_slot HR1.out (by omega) (by decide) (ZHK HK) hx394_5 (add_block _ _) (Kept.refl _ _)
  have hy394_6 := Kd.kept_slot HR1.out (by omega) (by decide) (ZHK HK) hx394_6 (add_block _ _) (Kept.refl _ _)
  have hy394_7 := Kd.kept_slot HR1.out (by omega) (by decide) (ZHK HK) hx394_7 (add_block _ _) (Kept.refl _ _)
  have HR394_6 := AM hi394_6
  have HC394_6 := AM hl394_6
  clear hi394_6 hl394_6
  have HR394_7 := AM hi394_7
  have HC394_7 := AM hl394_7
  clear hi394_7 hl394_7
  replace p394 := eq_true p394
  replace q394 := eq_true q394
  obtain ⟨Ao26, co26, eo26⟩ := Kd.R_slice HO388.out
  (first | subst eo26 | (injection eo26 with f1_ f2_ f3_; have f4_ := f1_.symm; have f5_ := f3_.symm; clear f1_ f2_ f3_; subst f4_; subst f5_))
  refine start_ (n := 10) (S := fun w' => w'.cell? ⟨gb384, 0, none⟩ = some (.slice (some ad390) l0_0.length c0_0) ∧ w'.cell? ⟨gb384, 1, none⟩ = some (.slice A0_1 l0_1.length c0_1) ∧ w'.cell? ⟨gb393, 0, none⟩ = some (.int .i64 t391) ∧ w'.cell? ⟨gb393, 1, none⟩ = some (.int .i64 t392) ∧ w'.cell? (ad389.add ((x9_1).toNat * 8)) = some (.int .i64 ((D40 l1 x9_1).f0)) ∧ w'.cell? ⟨(ad389.add ((x9_1).toNat * 8)).block, (ad389.add ((x9_1).toNat * 8)).off + 1, none⟩ = some (.int .i64 ((D40 l1 x9_1).f1)) ∧ w'.cell? ⟨(ad389.add ((x9_1).toNat * 8)).block, (ad389.add ((x9_1).toNat * 8)).off + 2, none⟩ = some (.int .i64 ((D40 l1 x9_1).f2.f0)) ∧ w'.cell? ⟨(ad389.add ((x9_1).toNat * 8)).block, (ad389.add ((x9_1).toNat * 8)).off + 3, none⟩ = some (.int .i64 ((D40 l1 x9_1).f2.f1)) ∧ w'.cell? ⟨(ad389.add ((x9_1).toNat * 8)).block, (ad389.add ((x9_1).toNat * 8)).off + 4, none⟩ = some (.int .i64 ((D40 l1 x9_1).f2.f2)) ∧ w'.cell? ⟨(ad389.add ((x9_1).toNat * 8)).block, (ad389.add ((x9_1).toNat * 8)).off + 5, none⟩ = some (.int .i64 ((D40 l1 x9_1).f3)) ∧ w'.cell? ⟨(ad389.add ((x9_1).toNat * 8)).block, (ad389.add ((x9_1).toNat * 8)).off + 6, none⟩ = some (.slice A394_6 ((D40 l1 x9_1).f4).length c394_6) ∧ w'.cell? ⟨(ad389.add ((x9_1).toNat * 8)).block, (ad389.add ((x9_1).toNat * 8)).off + 7, none⟩ = some (.slice A394_7 ((D40 l1 x9_1).f5).length c394_7)) (ds := []) #[F,F,F,F,F,F,F,F,F,F] (by kernel_rfl) rfl rfl ⟨ZA BK384 0, ZA BK384 1, ZA BK393 0, ZA BK393 1, (ZKS HR1 p394 q394 hy394_0 (ZHK HK)), (ZKS HR1 p394 q394 hy394_1 (ZHK HK)), (ZKS HR1 p394 q394 hy394_2 (ZHK HK)), (ZKS HR1 p394 q394 hy394_3 (ZHK HK)), (ZKS HR1 p394 q394 hy394_4 (ZHK HK)), (ZKS HR1 p394 q394 hy394_5 (ZHK HK)), (ZKS HR1 p394 q394 hy394_6 (ZHK HK)), (ZKS HR1 p394 q394 hy394_7 (ZHK HK))⟩ (fun hHeld => ?_); refine with_tabW spec_l11At.tab6 spec_l11At.bits6 (fun HT_ HW_ => ?_)
  generalize w24.drew = w25 at HO388 BK384 BK385 BK393 HK HB HR394_6 HR394_7 hx394_0 hx394_1 hx394_2 hx394_3 hx394_4 hx394_5 hx394_6 hx394_7 hHeld ⊢
  refine ZU 1 33 #[F,T,F,F,F,F,F,F,F,F] ?_
  refine ZU 2 34 #[F,T,T,F,F,F,F,F,F,F] ?_
  refine ZU 3 35 #[F,T,T,T,F,F,F,F,F,F] ?_
  refine ZU 4 36 #[F,T,T,T,T,F,F,F,F,F] ?_
  refine ZU 7 39 #[F,T,T,T,T,F,F,T,F,F] ?_
  refine ZTK 0 32 #[T,T,T,T,T,F,F,T,F,F] hHeld ?_
  refine ZTK 5 37 #[T,T,T,T,T,T,F,T,F,F] hHeld ?_
  refine ZTK 6 38 #[T,T,T,T,T,T,T,T,F,F] hHeld ?_
  refine one_ (i := 8) (N := some 40) #[T,T,T,T,T,T,T,T,T,F] rfl rfl (one_of HT_.out (by kernel_rfl)) (by decide) (fun K hK => ?_)
  refine ZGO Try.func70 #[.agg #[.slice (some ad390) l0_0.length c0_0, .slice A0_1 l0_1.length c0_1], .slice A394_6 ((D40 l1 x9_1).f4).length c394_6, .agg #[.int .i64 t391, .int .i64 t392], .slice Ao26 y386.length co26] ?_
  with_reducible refine (ih k1 (by have := HK1.out; omega) _ _ l0_0 _ _ l0_1 _ _ ((D40 l1 x9_1).f4) t391 t392 (fun k_ => some k_ = (.slice Ao26 y386.length co26 : Value).ownBlock) (.slice Ao26 y386.length co26) y386 t395 w0 _ ?side1 ?side2 ?side3 ?side4 ?side5 ?side6 ?side7 ?side8 A13.out).mono ?_
  (case side1 => repeat (first | (with_reducible first | exact HB.out | apply below_alloc | apply pw_below_drewN | apply below_drew1 | refine below_set ?_ GE384.out | refine below_set ?_ GE385.out | refine below_set ?_ GE393.out) | exact HB.out))
  (case side2 => exact Kd.C_kept_call HR0_0.out (ZHK HK) (fun k_ hs_ => (fun e_ => (HO388.out.1 k_ e_.symm).1) hs_))
  (case side3 => exact HC0_0.out)
  (case side4 => exact Kd.C_kept_call HR0_1.out (ZHK HK) (fun k_ hs_ => (fun e_ => (HO388.out.1 k_ e_.symm).1) hs_))
  (case side5 => exact HC0_1.out)
  (case side6 => exact Kd.C_kept_call (fun W_ k_ => by have hw_ := Kd.kept_slot HR1.out (by have := (of_eq_true p394); have := (of_eq_true q394); omega) (by decide) (Kept.refl _ _) hy394_6 (add_block _ _) k_; obtain ⟨ad_, A6_, c6_, A7_, c7_, e_, m0_, m1_, m2_, m3_, m4_, m5_, m6_, m7_, y6_, z6_, y7_, z7_⟩ := at_T40 (HR1.out W_ k_) (x9_1) (by first | exact of_eq_true p394 | exact p394) (by first | exact of_eq_true q394 | exact q394); cases e_; rw [hw_] at m6_; cases m6_; exact z6_) (ZHK HK) (fun k_ hs_ => (fun e_ => (HO388.out.1 k_ e_.symm).1) hs_))
  (case side7 => exact HC394_6.out)
  (case side8 => exact Kd.R_tight rfl HO388.out)
  rintro e w27 ⟨v396, rfl, ho0, hb, hkp⟩
  refine ZV1 ?_
  have n0_ := AM (blk_kept (ZK BK384.out) hkp (fun hs_ => (fun e_ => (Kd.R_ne HO388.out BK384.out (by decide)) e_) hs_))
  have n1_ := AM (blk_kept (ZK BK385.out) hkp (fun hs_ => (fun e_ => (Kd.R_away HO388.out (fun _ hk => hk.2.1)) e_) hs_))
  have n2_ := AM (blk_kept (ZK BK393.out) hkp (fun hs_ => (fun e_ => (Kd.R_away HO388.out (fun _ hk => hk.2.2)) e_) hs_))
  have n3_ := AM (Kd.R_mono (ok' := fun k_ => (P3_ k_ ∨ w.heap.size ≤ k_) ∧ k_ ≠ gb385 ∧ k_ ≠ gb393) ho0 (fun k_ hk_ => ⟨Or.elim hk_ (fun hs_ => (HO388.out.1 k_ (hs_).symm).1) (fun hn_ => (.inr (Nat.le_trans (by first | exact HK.out.1 | exact (show Kept w _ (fun k_ => P3_ k_) from ZHK HK).1) hn_))), Or.elim hk_ (fun hs_ => fun e_ => (Kd.R_away HO388.out (fun _ hk => hk.2.1)) (by rw [← e_]; exact hs_)) (fun hn_ => (Kd.freshB (g := gb385) (o := .cells #[.int .i64 a2_0, .int .i64 a2_1] 35 (0, 0)) (ZK BK385.out) k_ hn_)), Or.elim hk_ (fun hs_ => fun e_ => (Kd.R_away HO388.out (fun _ hk => hk.2.2)) (by rw [← e_]; exact hs_)) (fun hn_ => (Kd.freshB (g := gb393) (o := .cells #[.int .i64 t391, .int .i64 t392] 35 (0, 0)) (ZK BK393.out) k_ hn_))⟩))
  have n4_ := AM (Kept.then_ (S := (fun k_ => P3_ k_)) (ZHK HK) hkp (fun k_ hs_ => (fun e_ => (HO388.out.1 k_ e_.symm).1) hs_))
  have n5_ := AM (hb)
  clear BK384 BK385 BK393 HK HB HO388
  have BK384 := n0_
  have BK385 := n1_
  have BK393 := n2_
  have HO397 := n3_
  have HK := n4_
  have HB := n5_
  clear n0_ n1_ n2_ n3_ n4_ n5_
  (try clear hb)
  (try clear hkp)
  (try clear ho0)
  refine hK.out _ _ ⟨ZA BK384 0, ZA BK384 1, ZA BK393 0, ZA BK393 1, (ZKS HR1 p394 q394 hy394_0 (ZHK HK)), (ZKS HR1 p394 q394 hy394_1 (ZHK HK)), (ZKS HR1 p394 q394 hy394_2 (ZHK HK)), (ZKS HR1 p394 q394 hy394_3 (ZHK HK)), (ZKS HR1 p394 q394 hy394_4 (ZHK HK)), (ZKS HR1 p394 q394 hy394_5 (ZHK HK)), (ZKS HR1 p394 q394 hy394_6 (ZHK HK)), (ZKS HR1 p394 q394 hy394_7 (ZHK HK))⟩ (fun hHeld => ?_)
  clear hK K
  refine ZNO 40 ?_
  refine ZU 9 3 #[T,T,T,T,T,T,T,T,T,T] ?_
  refine done_ (done_of HT_.out (by kernel_rfl)) ?_
  try go_wp2
  replace HO397 := AM (Kd.R_drew HO397.out)
  replace BK384 := AM (blk_drew BK384.out)
  replace BK385 := AM (blk_drew BK385.out)
  replace BK393 := AM (blk_drew BK393.out)
  replace HK := AM (Kept.drew HK.out)
  replace HB := AM (below_drew1 HB.out)
  have p398 : 0 ≤ (x9_1 : Int) := ZD
  have q398 : x9_1 < (l1.length : Int) := ZD
  obtain ⟨ad398, A398_6, c398_6, A398_7, c398_7, e398, hx398_0, hx398_1, hx398_2, hx398_3, hx398_4, hx398_5, hx398_6, hx398_7, hl398_6, hi398_6, hl398_7, hi398_7⟩ := at_T40 (Kd.C_kept_now HR1.out HK.out) x9_1 p398 q398
  have hw398_7 := hx398_7
  have hw398_6 := hx398_6
  have hw398_5 := hx398_5
  have hw398_4 := hx398_4
  have hw398_3 := hx398_3
  have hw398_2 := hx398_2
  have hw398_1 := hx398_1
  have hw398_0 := hx398_0
  obtain rfl : ad389 = ad398 := (by injection e398)
  have hy398_0 := Kd.kept_slot HR1.out (by omega) (by decide) (ZHK HK) hx398_0 (add_block _ _) (Kept.refl _ _)
  have hy398_1 := Kd.kept_slot HR1.out (by omega) (by decide) (ZHK HK) hx398_1 (add_block _ _) (Kept.refl _ _)
  have hy398_2 := Kd.kept_slot HR1.out (by omega) (by decide) (ZHK HK) hx398_2 (add_block _ _) (Kept.refl _ _)
  have hy398_3 := Kd.kept_slot HR1.out (by omega) (by decide) (ZHK HK) hx398_3 (add_block _ _) (Kept.refl _ _)
  have hy398_4 := Kd.kept_slot HR1.out (by omega) (by decide) (ZHK HK) hx398_4 (add_block _ _) (Kept.refl _ _)
  have hy398_5 := Kd.kept_slot HR1.out (by omega) (by decide) (ZHK HK) hx398_5 (add_block _ _) (Kept.refl _ _)
  have hy398_6 := Kd.kept_slot HR1.out (by omega) (by decide) (ZHK HK) hx398_6 (add_block _ _) (Kept.refl _ _)
  have hy398_7 := Kd.kept_slot HR1.out (by omega) (by decide) (ZHK HK) hx398_7 (add_block _ _) (Kept.refl _ _)
  have HR398_6 := AM hi398_6
  have HC398_6 := AM hl398_6
  clear hi398_6 hl398_6
  have HR398_7 := AM hi398_7
  have HC398_7 := AM hl398_7
  clear hi398_7 hl398_7
  replace p398 := eq_true p398
  replace q398 := eq_true q398
  obtain ⟨Ao29, co29, eo29⟩ := Kd.R_slice HO397.out
  (first | subst eo29 | (injection eo29 with f1_ f2_ f3_; have f4_ := f1_.symm; have f5_ := f3_.symm; clear f1_ f2_ f3_; subst f4_; subst f5_))
  refine start_ (n := 10) (S := fun w' => w'.cell? ⟨gb384, 0, none⟩ = some (.slice (some ad390) l0_0.length c0_0) ∧ w'.cell? ⟨gb384, 1, none⟩ = some (.slice A0_1 l0_1.length c0_1) ∧ w'.cell? ⟨gb393, 0, none⟩ = some (.int .i64 t391) ∧ w'.cell? ⟨gb393, 1, none⟩ = some (.int .i64 t392) ∧ w'.cell? (ad389.add ((x9_1).toNat * 8)) = some (.int .i64 ((D40 l1 x9_1).f0)) ∧ w'.cell? ⟨(ad389.add ((x9_1).toNat * 8)).block, (ad389.add ((x9_1).toNat * 8)).off + 1, none⟩ = some (.int .i64 ((D40 l1 x9_1).f1)) ∧ w'.cell? ⟨(ad389.add ((x9_1).toNat * 8)).block, (ad389.add ((x9_1).toNat * 8)).off + 2, none⟩ = some (.int .i64 ((D40 l1 x9_1).f2.f0)) ∧ w'.cell? ⟨(ad389.add ((x9_1).toNat * 8)).block, (ad389.add ((x9_1).toNat * 8)).off + 3, none⟩ = some (.int .i64 ((D40 l1 x9_1).f2.f1)) ∧ w'.cell? ⟨(ad389.add ((x9_1).toNat * 8)).block, (ad389.add ((x9_1).toNat * 8)).off + 4, none⟩ = some (.int .i64 ((D40 l1 x9_1).f2.f2)) ∧ w'.cell? ⟨(ad389.add ((x9_1).toNat * 8)).block, (ad389.add ((x9_1).toNat * 8)).off + 5, none⟩ = some (.int .i64 ((D40 l1 x9_1).f3)) ∧ w'.cell? ⟨(ad389.add ((x9_1).toNat * 8)).block, (ad389.add ((x9_1).toNat * 8)).off + 6, none⟩ = some (.slice A398_6 ((D40 l1 x9_1).f4).length c398_6) ∧ w'.cell? ⟨(ad389.add ((x9_1).toNat * 8)).block, (ad389.add ((x9_1).toNat * 8)).off + 7, none⟩ = some (.slice A398_7 ((D40 l1 x9_1).f5).length c398_7)) (ds := []) #[F,F,F,F,F,F,F,F,F,F] (by kernel_rfl) rfl rfl ⟨ZA BK384 0, ZA BK384 1, ZA BK393 0, ZA BK393 1, (ZKS HR1 p398 q398 hy398_0 (ZHK HK)), (ZKS HR1 p398 q398 hy398_1 (ZHK HK)), (ZKS HR1 p398 q398 hy398_2 (ZHK HK)), (ZKS HR1 p398 q398 hy398_3 (ZHK HK)), (ZKS HR1 p398 q398 hy398_4 (ZHK HK)), (ZKS HR1 p398 q398 hy398_5 (ZHK HK)), (ZKS HR1 p398 q398 hy398_6 (ZHK HK)), (ZKS HR1 p398 q398 hy398_7 (ZHK HK))⟩ (fun hHeld => ?_); refine with_tabW spec_l11At.tab7 spec_l11At.bits7 (fun HT_ HW_ => ?_)
  generalize w27.drew = w28 at HO397 BK384 BK385 BK393 HK HB HR398_6 HR398_7 hx398_0 hx398_1 hx398_2 hx398_3 hx398_4 hx398_5 hx398_6 hx398_7 hHeld ⊢
  refine ZU 1 42 #[F,T,F,F,F,F,F,F,F,F] ?_
  refine ZU 2 43 #[F,T,T,F,F,F,F,F,F,F] ?_
  refine ZU 3 44 #[F,T,T,T,F,F,F,F,F,F] ?_
  refine ZU 4 45 #[F,T,T,T,T,F,F,F,F,F] ?_
  refine ZU 7 48 #[F,T,T,T,T,F,F,T,F,F] ?_
  refine ZTK 0 41 #[T,T,T,T,T,F,F,T,F,F] hHeld ?_
  refine ZTK 5 46 #[T,T,T,T,T,T,F,T,F,F] hHeld ?_
  refine ZTK 6 47 #[T,T,T,T,T,T,T,T,F,F] hHeld ?_
  refine one_ (i := 8) (N := some 49) #[T,T,T,T,T,T,T,T,T,F] rfl rfl (one_of HT_.out (by kernel_rfl)) (by decide) (fun K hK => ?_)
  refine ZGO Try.func70 #[.agg #[.slice (some ad390) l0_0.length c0_0, .slice A0_1 l0_1.length c0_1], .slice A398_7 ((D40 l1 x9_1).f5).length c398_7, .agg #[.int .i64 t391, .int .i64 t392], .slice Ao29 t395.length co29] ?_
  with_reducible refine (ih k1 (by have := HK1.out; omega) _ _ l0_0 _ _ l0_1 _ _ ((D40 l1 x9_1).f5) t391 t392 (fun k_ => some k_ = (.slice Ao29 t395.length co29 : Value).ownBlock) (.slice Ao29 t395.length co29) t395 t399 w0 _ ?side1 ?side2 ?side3 ?side4 ?side5 ?side6 ?side7 ?side8 A14.out).mono ?_
  (case side1 => repeat (first | (with_reducible first | exact HB.out | apply below_alloc | apply pw_below_drewN | apply below_drew1 | refine below_set ?_ GE384.out | refine below_set ?_ GE385.out | refine below_set ?_ GE393.out) | exact HB.out))
  (case side2 => exact Kd.C_kept_call HR0_0.out (ZHK HK) (fun k_ hs_ => (fun e_ => (HO397.out.1 k_ e_.symm).1) hs_))
  (case side3 => exact HC0_0.out)
  (case side4 => exact Kd.C_kept_call HR0_1.out (ZHK HK) (fun k_ hs_ => (fun e_ => (HO397.out.1 k_ e_.symm).1) hs_))
  (case side5 => exact HC0_1.out)
  (case side6 => exact Kd.C_kept_call (fun W_ k_ => by have hw_ := Kd.kept_slot HR1.out (by have := (of_eq_true p398); have := (of_eq_true q398); omega) (by decide) (Kept.refl _ _) hy398_7 (add_block _ _) k_; obtain ⟨ad_, A6_, c6_, A7_, c7_, e_, m0_, m1_, m2_, m3_, m4_, m5_, m6_, m7_, y6_, z6_, y7_, z7_⟩ := at_T40 (HR1.out W_ k_) (x9_1) (by first | exact of_eq_true p398 | exact p398) (by first | exact of_eq_true q398 | exact q398); cases e_; rw [hw_] at m7_; cases m7_; exact z7_) (ZHK HK) (fun k_ hs_ => (fun e_ => (HO397.out.1 k_ e_.symm).1) hs_))
  (case side7 => exact HC398_7.out)
  (case side8 => exact Kd.R_tight rfl HO397.out)
  rintro e w30 ⟨v400, rfl, ho0, hb, hkp⟩
  refine ZV1 ?_
  have n0_ := AM (blk_kept (ZK BK384.out) hkp (fun hs_ => (fun e_ => (Kd.R_ne HO397.out BK384.out (by decide)) e_) hs_))
  have n1_ := AM (blk_kept (ZK BK385.out) hkp (fun hs_ => (fun e_ => (Kd.R_away HO397.out (fun _ hk => hk.2.1)) e_) hs_))
  have n2_ := AM (blk_kept (ZK BK393.out) hkp (fun hs_ => (fun e_ => (Kd.R_away HO397.out (fun _ hk => hk.2.2)) e_) hs_))
  have n3_ := AM (Kd.R_mono (ok' := fun k_ => (P3_ k_ ∨ w.heap.size ≤ k_) ∧ k_ ≠ gb385 ∧ k_ ≠ gb393) ho0 (fun k_ hk_ => ⟨Or.elim hk_ (fun hs_ => (HO397.out.1 k_ (hs_).symm).1) (fun hn_ => (.inr (Nat.le_trans (by first | exact HK.out.1 | exact (show Kept w _ (fun k_ => P3_ k_) from ZHK HK).1) hn_))), Or.elim hk_ (fun hs_ => fun e_ => (Kd.R_away HO397.out (fun _ hk => hk.2.1)) (by rw [← e_]; exact hs_)) (fun hn_ => (Kd.freshB (g := gb385) (o := .cells #[.int .i64 a2_0, .int .i64 a2_1] 35 (0, 0)) (ZK BK385.out) k_ hn_)), Or.elim hk_ (fun hs_ => fun e_ => (Kd.R_away HO397.out (fun _ hk => hk.2.2)) (by rw [← e_]; exact hs_)) (fun hn_ => (Kd.freshB (g := gb393) (o := .cells #[.int .i64 t391, .int .i64 t392] 35 (0, 0)) (ZK BK393.out) k_ hn_))⟩))
  have n4_ := AM (Kept.then_ (S := (fun k_ => P3_ k_)) (ZHK HK) hkp (fun k_ hs_ => (fun e_ => (HO397.out.1 k_ e_.symm).1) hs_))
  have n5_ := AM (hb)
  clear BK384 BK385 BK393 HK HB HO397
  have BK384 := n0_
  have BK385 := n1_
  have BK393 := n2_
  have HO401 := n3_
  have HK := n4_
  have HB := n5_
  clear n0_ n1_ n2_ n3_ n4_ n5_
  (try clear hb)
  (try clear hkp)
  (try clear ho0)
  refine hK.out _ _ ⟨ZA BK384 0, ZA BK384 1, ZA BK393 0, ZA BK393 1, (ZKS HR1 p398 q398 hy398_0 (ZHK HK)), (ZKS HR1 p398 q398 hy398_1 (ZHK HK)), (ZKS HR1 p398 q398 hy398_2 (ZHK HK)), (ZKS HR1 p398 q398 hy398_3 (ZHK HK)), (ZKS HR1 p398 q398 hy398_4 (ZHK HK)), (ZKS HR1 p398 q398 hy398_5 (ZHK HK)), (ZKS HR1 p398 q398 hy398_6 (ZHK HK)), (ZKS HR1 p398 q398 hy398_7 (ZHK HK))⟩ (fun hHeld => ?_)
  clear hK K
  refine ZNO 49 ?_
  refine ZU 9 3 #[T,T,T,T,T,T,T,T,T,T] ?_
  refine done_ (done_of HT_.out (by kernel_rfl)) ?_
  try go_wp2
  go_roundg k1
  case measure => have := HK1.out; omega
  case rel => exact ⟨(t399), (wrap64 (x9_1 + 1)), ZSM, H', ⟨by have := HK1.out; omega⟩, ⟨ZRm HO401.out (fun _ hk => ⟨hk.1, hk.2.1⟩)⟩, ⟨ZK BK384.out⟩, ⟨ZK BK385.out⟩, ⟨ZHK HK⟩, ⟨ZB⟩⟩)
  ·(
  rw [if_neg c11] at H
  exact absurd H (by simp)))
  ·(
  rw [if_neg c10] at H
  exact absurd H (by simp)))
  ·(
  rw [if_neg c9] at H
  exact absurd H (by simp)))
  ·(
  rw [if_neg c8] at H
  exact absurd H (by simp)))
  ·(
  rw [if_neg c7] at H
  have c7b0 := decide_eq_false c7
  clear c7
  obtain rfl := Option.some.inj H
  go_wp2
  go_ret
  exact ⟨_, ZE, ZRm HO_3.out (fun _ hk => hk.1), ZB, ZHK HK⟩))

end Go.Proofs.Ytkkdeojbkfjlpaa.A
