/- By wip/tools/pr.py: Go functions as Lean functions, with contracts. -/
import Derived.Test.YthidgkfgdkjghaaAx0
import Derived.Test.YthidgkfgdkjghaaAx8
import Derived.Test.YthidgkfgdkjghaaAx5
namespace Go.Proofs.Ythidgkfgdkjghaa.A
open Go.RowKit Go.Proofs.YthidgkfgdkjghaaW.PrintWords Go.Proofs.YthidgkfgdkjghaaW.PrintLast Go.Proofs.YthidgkfgdkjghaaW.PrintMore
attribute [local go_sem] max2_int min2_int max_two min_two max_three min_three max_four min_four
set_option linter.unusedVariables false
set_option linter.unusedSimpArgs false
set_option maxHeartbeats 8000000
set_option maxRecDepth 100000

/-! ### spec_l11At: function 53 -/
mutual
def spec_l11At.l0 : Nat → List (S32) → List (S39) → Int → List (S39) → List (S32) → Int → Int → Option ((List (S39)))
 | 0, _, _, _, _, _, _, _ => none
 | k + 1, x1, x3, x9, x256000, x256001, x257000, x257001 => if x9 < (x1.length : Int) then (if x3.length < 8796093022208 then (if 0 ≤ x9 then (if 0 ≤ ((D32 x1 x9).f1) then (if ((D32 x1 x9).f1) < (x256000.length : Int) then ((spec_LabelBoth.f k x257000 x257001 ((D39 x256000 ((D32 x1 x9).f1)).f0) ((D39 x256000 ((D32 x1 x9).f1)).f1)).bind fun bt262 => ((spec_l11At.f k x256000 x256001 ((D32 x1 x9).f4) bt262.1 bt262.2 (x3 ++ [(⟨x257000, x257001⟩ : S39)])).bind fun t266 => ((spec_l11At.f k x256000 x256001 ((D32 x1 x9).f5) bt262.1 bt262.2 t266).bind fun t270 => (spec_l11At.l0 k x1 t270 (wrap64 (x9 + 1)) x256000 x256001 x257000 x257001)))) else (none)) else (none)) else (none)) else (none)) else (some x3)
def spec_l11At.f : Nat → List (S39) → List (S32) → List (S32) → Int → Int → List (S39) → Option ((List (S39)))
 | 0, _, _, _, _, _, _ => none
 | k + 1, l0_0, l0_1, l1, a2_0, a2_1, l3 => spec_l11At.l0 k l1 l3 0 l0_0 l0_1 a2_0 a2_1
end
def spec_l11At.T5 : Bool × List (List Nat × List Nat) := (true, [([], []), ([], []), ([1], [1]), ([], []), ([], []), ([3, 4], [3, 4]), ([5], [5]), ([6], [6]), ([2, 7], [2, 7]), ([8], [8]), ([0, 9], [0, 9]), ([], []), ([11, 10, 10, 0, 1, 2, 3, 4, 5, 6, 7, 8, 9, 10, 11], [10, 11])])
def spec_l11At.B5 : List Nat := [0, 0, 2, 0, 0, 24, 56, 120, 254, 510, 1023, 0, 4095]
theorem spec_l11At.tab5 : rtab .any (opsOf Try.f53 5) = spec_l11At.T5 := by kernel_rfl
theorem spec_l11At.bits5 : waitsOk spec_l11At.T5.2 spec_l11At.B5 = true := by kernel_rfl
def spec_l11At.T6 : Bool × List (List Nat × List Nat) := (true, [([], []), ([], []), ([], []), ([1, 2], [1, 2]), ([3], [3]), ([4], [4]), ([], []), ([], []), ([0, 5, 6, 7], [0, 5, 6, 7]), ([8, 8, 0, 1, 2, 3, 4, 5, 6, 7, 8], [7, 8])])
def spec_l11At.B6 : List Nat := [0, 0, 0, 6, 14, 30, 0, 0, 255, 511]
theorem spec_l11At.tab6 : rtab .any (opsOf Try.f53 6) = spec_l11At.T6 := by kernel_rfl
theorem spec_l11At.bits6 : waitsOk spec_l11At.T6.2 spec_l11At.B6 = true := by kernel_rfl
def spec_l11At.T7 : Bool × List (List Nat × List Nat) := (true, [([], []), ([], []), ([], []), ([1, 2], [1, 2]), ([3], [3]), ([4], [4]), ([], []), ([], []), ([0, 5, 6, 7], [0, 5, 6, 7]), ([8, 8, 0, 1, 2, 3, 4, 5, 6, 7, 8], [7, 8])])
def spec_l11At.B7 : List Nat := [0, 0, 0, 6, 14, 30, 0, 0, 255, 511]
theorem spec_l11At.tab7 : rtab .any (opsOf Try.f53 7) = spec_l11At.T7 := by kernel_rfl
theorem spec_l11At.bits7 : waitsOk spec_l11At.T7.2 spec_l11At.B7 = true := by kernel_rfl
theorem spec_l11At.calls (k : Nat) : ∀ (A0_0 : Option Addr) (c0_0 : Nat) (l0_0 : List (S39)) (A0_1 : Option Addr) (c0_1 : Nat) (l0_1 : List (S32)) (A1 : Option Addr) (c1 : Nat) (l1 : List (S32)) (a2_0 : Int) (a2_1 : Int) (P3_ : Nat → Prop) (u9000_ : Value) (l3 : List (S39)) (r : List (S39)) (w0 w : World) (hB : Below w0.heap.size w0 w) (hr0_0 : ∀ W_, Kept w W_ (fun k_ => P3_ k_) → Kd.C k39 W_ A0_0 l0_0.length l0_0) (hc0_0 : l0_0.length ≤ c0_0) (hr0_1 : ∀ W_, Kept w W_ (fun k_ => P3_ k_) → Kd.C k32 W_ A0_1 l0_1.length l0_1) (hc0_1 : l0_1.length ≤ c0_1) (hr1 : ∀ W_, Kept w W_ (fun k_ => P3_ k_) → Kd.C k32 W_ A1 l1.length l1) (hc1 : l1.length ≤ c1) (ho3 : Kd.R k39 39 w w0.heap.size P3_ u9000_ l3) (h : spec_l11At.f k l0_0 l0_1 l1 a2_0 a2_1 l3 = some r),
  Calls Try.prog 53 #[.agg #[.slice A0_0 l0_0.length c0_0, .slice A0_1 l0_1.length c0_1], .slice A1 l1.length c1, .agg #[.int .i64 a2_0, .int .i64 a2_1], u9000_] w fun e w' => ∃ v0_ : Value, e = .returned (v0_) ∧ Kd.R k39 39 w' w0.heap.size (fun k_ => (P3_ k_ ∨ w.heap.size ≤ k_)) v0_ r ∧ Below w0.heap.size w0 w' ∧ Kept w w' (fun k_ => P3_ k_) := by
 induction k using Nat.strongRecOn with
 | _ k ih =>
 intro A0_0 c0_0 l0_0 A0_1 c0_1 l0_1 A1 c1 l1 a2_0 a2_1 P3_ u9000_ l3 r w0 w hB hr0_0 hc0_0 hr0_1 hc0_1 hr1 hc1 ho3 h
 cases k with
 | zero => exact absurd h (by simp [spec_l11At.f])
 | succ k =>
 simp only [spec_l11At.f] at h
 have hu26 := Try.underlying26
 have hu39 := Try.underlying39
 have HR0_0 := AM hr0_0
 have HC0_0 := AM hc0_0
 clear hr0_0 hc0_0
 have HR0_1 := AM hr0_1
 have HC0_1 := AM hc0_1
 clear hr0_1 hc0_1
 have HR1 := AM hr1
 have HC1 := AM hc1
 clear hr1 hc1
 have HO3 := AM (show Kd.R k39 39 w w0.heap.size (fun k_ => (P3_ k_ ∨ w.heap.size ≤ k_)) u9000_ l3 from Kd.R_mono ho3 (fun k_ hk => (.inl hk)))
 have HK := AM (Kept.refl w (fun k_ => P3_ k_))
 have HW0 := AM hB.size
 have HB := AM hB
 clear hB
 have H : (spec_l11At.l0 k l1 l3 0 l0_0 l0_1 a2_0 a2_1) = some r := h
 clear h
 have H' := AM H
 clear H
 go_enter Try.func53, Try.ntmps53
 go_wp2_with (first | ((with_reducible refine gate_dst (N := 4) rfl ?_); refine ZX (N := 4) (cs := #[.slice A0_0 l0_0.length c0_0, .slice A0_1 l0_1.length c0_1]) (t := 26) ?_; intro gb255 hg w5 hbox hb; have BK255 := AM (hbox); have GW255 := AM ((by rw [hg]; exact (by first | exact HK.out.1 | exact (show Kept w _ (fun k_ => P3_ k_) from ZHK HK).1) : w.heap.size ≤ gb255)); have GE255 : Za (w0.heap.size ≤ gb255) := ZS hg; replace HO3 := AM (Kd.R_below (ZR HO3.out) hb); replace HK := AM (Kept.below (S := (fun k_ => P3_ k_)) (ZHK HK) hb); replace HB := ZT HB hb; clear hb hbox hg) | ((with_reducible refine gate_dst (N := 6) rfl ?_); refine ZX (N := 6) (cs := #[.int .i64 a2_0, .int .i64 a2_1]) (t := 39) ?_; intro gb256 hg w6 hbox hb; have BK256 := AM (hbox); have GW256 := AM ((by rw [hg]; exact (by first | exact HK.out.1 | exact (show Kept w _ (fun k_ => P3_ k_) from ZHK HK).1) : w.heap.size ≤ gb256)); have GE256 : Za (w0.heap.size ≤ gb256) := ZS hg; have NB255_256 : Za (gb255 ≠ gb256) := ZN hg BK255; have NB256_255 : Za (gb256 ≠ gb255) := ZM hg BK255; replace HO3 := AM (Kd.R_below (Kd.R_elderB (ZR HO3.out) gb256 (Nat.le_of_eq hg.symm)) hb); replace BK255 := ZW BK255 hb; replace HK := AM (Kept.below (S := (fun k_ => P3_ k_)) (ZHK HK) hb); replace HB := ZT HB hb; clear hb hbox hg))
 go_loopg [3, 9] k (fun kq v3 v9 w' => ∃ (x3_1 : List (S39)) (x9_1 : Int), v9 = .int .i64 x9_1 ∧ Za (spec_l11At.l0 kq l1 x3_1 x9_1 l0_0 l0_1 a2_0 a2_1 = some r) ∧ Za (kq ≤ k) ∧ Za (Kd.R k39 39 w' w0.heap.size (fun k_ => (P3_ k_ ∨ w.heap.size ≤ k_) ∧ k_ ≠ gb256) v3 x3_1) ∧ Za (w'.heap[gb255]? = some (.cells #[(.slice A0_0 l0_0.length c0_0), (.slice A0_1 l0_1.length c0_1)] 26 (0, 0))) ∧ Za (w'.heap[gb256]? = some (.cells #[.int .i64 a2_0, .int .i64 a2_1] 39 (0, 0))) ∧ Za (Kept w w' (fun k_ => P3_ k_)) ∧ Za (Below w0.heap.size w0 w'))
 case atStart => exact ⟨(l3), (0), (by first | rfl | (simp; done) | (simp [*]; done)), H', ⟨Nat.le_refl _⟩, ⟨ZR HO3.out⟩, ⟨ZK BK255.out⟩, ⟨ZK BK256.out⟩, ⟨ZHK HK⟩, ⟨ZB⟩⟩
 case round => (
 clear H'
 try clear c1
 try clear p2
 try clear c5
 obtain ⟨x3_1, x9_1, rfl, HA, HK1, HO_3, BK255, BK256, HK, HB⟩ := hrel
 cases gk with
 | zero => exact absurd HA.out (by simp [spec_l11At.l0])
 | succ k1 =>
  have H := HA.out
  clear HA
  simp only [spec_l11At.l0] at H
  by_cases c7 : x9_1 < (l1.length : Int)
  ·(
  rw [if_pos c7] at H
  have c7b0 := decide_eq_true c7
  clear c7
  by_cases c8 : x3_1.length < 8796093022208
  ·(
  rw [if_pos c8] at H
  have LMc8 := AM c8
  clear c8
  obtain ⟨y257, hy257⟩ : ∃ y_ : List (S39), y_ = (x3_1 ++ [(⟨a2_0, a2_1⟩ : S39)]) := ⟨_, rfl⟩
  replace H : (if 0 ≤ x9_1 then (if 0 ≤ ((D32 l1 x9_1).f1) then (if ((D32 l1 x9_1).f1) < (l0_0.length : Int) then ((spec_LabelBoth.f k1 a2_0 a2_1 ((D39 l0_0 ((D32 l1 x9_1).f1)).f0) ((D39 l0_0 ((D32 l1 x9_1).f1)).f1)).bind fun bt262 => ((spec_l11At.f k1 l0_0 l0_1 ((D32 l1 x9_1).f4) bt262.1 bt262.2 y257).bind fun t266 => ((spec_l11At.f k1 l0_0 l0_1 ((D32 l1 x9_1).f5) bt262.1 bt262.2 t266).bind fun t270 => (spec_l11At.l0 k1 l1 t270 (wrap64 (x9_1 + 1)) l0_0 l0_1 a2_0 a2_1)))) else (none)) else (none)) else (none)) = some r := by first | (rw [hy257]; with_reducible exact H) | (have H2_ := (Option.bind_some _ _).symm.trans H; rw [hy257]; with_reducible exact H2_) | (have H2_ := (Option.bind_some _ _).symm.trans H; with_reducible exact H2_) | with_reducible exact H | (rw [hy257]; exact H) | exact H
  have Ny257 := AM hy257
  clear hy257
  by_cases c9 : 0 ≤ x9_1
  ·(
  rw [if_pos c9] at H
  have c9b0 := decide_eq_true c9
  clear c9
  by_cases c10 : 0 ≤ ((D32 l1 x9_1).f1)
  ·(
  rw [if_pos c10] at H
  have c10b0 := decide_eq_true c10
  clear c10
  by_cases c11 : ((D32 l1 x9_1).f1) < (l0_0.length : Int)
  ·(
  rw [if_pos c11] at H
  have c11b0 := decide_eq_true c11
  clear c11
  obtain ⟨⟨t262, t263⟩, A12, H⟩ := ZOB H; try dsimp only at H
  obtain ⟨t266, A13, H⟩ := ZOB H; try dsimp only at H
  obtain ⟨t270, A14, H⟩ := ZOB H; try dsimp only at H
  have H' := AM H
  clear H
  have hnb15 := NB256_255.out
  have hnc15 := NB255_256.out
  have hcz16 := ZC2 wr BK256
  have hfz16 := ZF2 BK256
  try go_wp2_with (first | ((with_reducible refine gate_builtin (b := .append) (xs := #[.tmp 17, .tmp 19]) rfl ?_); at_builtin; refine Kd.R_append k39 (w0 := w0) w0.heap.size rfl (.tmp 17) (.tmp 19) 23 39 (.agg #[(.int .i64 0), (.int .i64 0)]) 16 rfl Try.underlying23 info39 rfl (by decide) (by omega) u3 x3_1 (⟨a2_0, a2_1⟩ : S39) [.int .i64 a2_0, .int .i64 a2_1] (fun k_ => (P3_ k_ ∨ w.heap.size ≤ k_) ∧ k_ ≠ gb256) (fun _ => False) rfl rfl ?aP (fun _ hk => hk.elim) ?aF ?aO ?aB ?aS ?aL ?_; (case aP => exact k39_mkM _ _ _ (⟨a2_0, a2_1⟩ : S39)); (case aB => exact (ZB)); (case aF => exact (fun k_ hk => ⟨(.inr (Nat.le_trans (by first | exact HK.out.1 | exact (show Kept w _ (fun k_ => P3_ k_) from ZHK HK).1) hk)), Kd.freshB (g := gb256) (o := .cells #[.int .i64 a2_0, .int .i64 a2_1] 39 (0, 0)) (ZK BK256.out) k_ hk⟩)); (case aO => exact (ZR HO_3.out)); (case aS => exact (below_size (ZB))); (case aL => have := LMc8.out; omega); intro v258 w17 ho hb hg hat; rw [← Ny257.out] at ho; have n0_ := AM (blk_grown (g := gb255) (o := .cells #[.slice A0_0 l0_0.length c0_0, .slice A0_1 l0_1.length c0_1] 26 (0, 0)) (ZK BK255.out) hg (Kd.R_ne HO_3.out BK255.out (by decide))); have n1_ := AM (blk_grown (g := gb256) (o := .cells #[.int .i64 a2_0, .int .i64 a2_1] 39 (0, 0)) (ZK BK256.out) hg (Kd.R_away HO_3.out (fun _ hk => hk.2))); have n2_ := AM (hb); have n3_ := AM (Kept.of_grown (S := (fun k_ => P3_ k_)) hg (ZHK HK) (fun k_ e_ => (HO_3.out.1 k_ e_).1)); have n4_ := AM (ho); clear BK255 BK256 HB HK HO_3; have BK255 := n0_; have BK256 := n1_; have HB := n2_; have HK := n3_; have HO259 := n4_; clear n0_ n1_ n2_ n3_ n4_ ho hb hg hat))
  replace HO259 := AM (Kd.R_drew HO259.out)
  replace BK255 := AM (blk_drew BK255.out)
  replace BK256 := AM (blk_drew BK256.out)
  replace HK := AM (Kept.drew HK.out)
  replace HB := AM (below_drew1 HB.out)
  have p260 : 0 ≤ (x9_1 : Int) := ZD
  have q260 : x9_1 < (l1.length : Int) := ZD
  obtain ⟨ad260, A260_6, c260_6, A260_7, c260_7, e260, hx260_0, hx260_1, hx260_2, hx260_3, hx260_4, hx260_5, hx260_6, hx260_7, hl260_6, hi260_6, hl260_7, hi260_7⟩ := at_T32 (Kd.C_kept_now HR1.out HK.out) x9_1 p260 q260
  have hw260_7 := hx260_7
  have hw260_6 := hx260_6
  have hw260_5 := hx260_5
  have hw260_4 := hx260_4
  have hw260_3 := hx260_3
  have hw260_2 := hx260_2
  have hw260_1 := hx260_1
  have hw260_0 := hx260_0
  cases e260
  have hy260_0 := Kd.kept_slot HR1.out (by omega) (by decide) (ZHK HK) hx260_0 (add_block _ _) (Kept.refl _ _)
  have hy260_1 := Kd.kept_slot HR1.out (by omega) (by decide) (ZHK HK) hx260_1 (add_block _ _) (Kept.refl _ _)
  have hy260_2 := Kd.kept_slot HR1.out (by omega) (by decide) (ZHK HK) hx260_2 (add_block _ _) (Kept.refl _ _)
  have hy260_3 := Kd.kept_slot HR1.out (by omega) (by decide) (ZHK HK) hx260_3 (add_block _ _) (Kept.refl _ _)
  have hy260_4 := Kd.kept_slot HR1.out (by omega) (by decide) (ZHK HK) hx260_4 (add_block _ _) (Kept.refl _ _)
  have hy260_5 := Kd.kept_slot HR1.out (by omega) (by decide) (ZHK HK) hx260_5 (add_block _ _) (Kept.refl _ _)
  have hy260_6 := Kd.kept_slot HR1.out (by omega) (by decide) (ZHK HK) hx260_6 (add_block _ _) (Kept.refl _ _)
  have hy260_7 := Kd.kept_slot HR1.out (by omega) (by decide) (ZHK HK) hx260_7 (add_block _ _) (Kept.refl _ _)
  have HR260_6 := AM hi260_6
  have HC260_6 := AM hl260_6
  clear hi260_6 hl260_6
  have HR260_7 := AM hi260_7
  have HC260_7 := AM hl260_7
  clear hi260_7 hl260_7
  replace p260 := eq_true p260
  replace q260 := eq_true q260
  have p261 : 0 ≤ (((D32 l1 x9_1).f1) : Int) := ZD
  have q261 : ((D32 l1 x9_1).f1) < (l0_0.length : Int) := ZD
  obtain ⟨ad261, e261, hx261_0, hx261_1⟩ := at_T39 (Kd.C_kept_now HR0_0.out HK.out) ((D32 l1 x9_1).f1) p261 q261
  have hw261_1 := hx261_1
  have hw261_0 := hx261_0
  cases e261
  have hy261_0 := Kd.kept_slot HR0_0.out (by omega) (by decide) (ZHK HK) hx261_0 (add_block _ _) (Kept.refl _ _)
  have hy261_1 := Kd.kept_slot HR0_0.out (by omega) (by decide) (ZHK HK) hx261_1 (add_block _ _) (Kept.refl _ _)
  replace p261 := eq_true p261
  replace q261 := eq_true q261
  refine start_ (n := 13) (S := fun w' => w'.cell? ⟨gb256, 0, none⟩ = some (.int .i64 a2_0) ∧ w'.cell? ⟨gb256, 1, none⟩ = some (.int .i64 a2_1) ∧ w'.cell? ⟨gb255, 0, none⟩ = some (.slice (some ad261) l0_0.length c0_0) ∧ w'.cell? ⟨gb255, 1, none⟩ = some (.slice A0_1 l0_1.length c0_1) ∧ w'.cell? (ad260.add ((x9_1).toNat * 8)) = some (.int .i64 ((D32 l1 x9_1).f0)) ∧ w'.cell? ⟨(ad260.add ((x9_1).toNat * 8)).block, (ad260.add ((x9_1).toNat * 8)).off + 1, none⟩ = some (.int .i64 ((D32 l1 x9_1).f1)) ∧ w'.cell? ⟨(ad260.add ((x9_1).toNat * 8)).block, (ad260.add ((x9_1).toNat * 8)).off + 2, none⟩ = some (.int .i64 ((D32 l1 x9_1).f2.f0)) ∧ w'.cell? ⟨(ad260.add ((x9_1).toNat * 8)).block, (ad260.add ((x9_1).toNat * 8)).off + 3, none⟩ = some (.int .i64 ((D32 l1 x9_1).f2.f1)) ∧ w'.cell? ⟨(ad260.add ((x9_1).toNat * 8)).block, (ad260.add ((x9_1).toNat * 8)).off + 4, none⟩ = some (.int .i64 ((D32 l1 x9_1).f2.f2)) ∧ w'.cell? ⟨(ad260.add ((x9_1).toNat * 8)).block, (ad260.add ((x9_1).toNat * 8)).off + 5, none⟩ = some (.int .i64 ((D32 l1 x9_1).f3)) ∧ w'.cell? ⟨(ad260.add ((x9_1).toNat * 8)).block, (ad260.add ((x9_1).toNat * 8)).off + 6, none⟩ = some (.slice A260_6 ((D32 l1 x9_1).f4).length c260_6) ∧ w'.cell? ⟨(ad260.add ((x9_1).toNat * 8)).block, (ad260.add ((x9_1).toNat * 8)).off + 7, none⟩ = some (.slice A260_7 ((D32 l1 x9_1).f5).length c260_7) ∧ w'.cell? (ad261.add ((((D32 l1 x9_1).f1)).toNat * 2)) = some (.int .i64 ((D39 l0_0 ((D32 l1 x9_1).f1)).f0)) ∧ w'.cell? ⟨(ad261.add ((((D32 l1 x9_1).f1)).toNat * 2)).block, (ad261.add ((((D32 l1 x9_1).f1)).toNat * 2)).off + 1, none⟩ = some (.int .i64 ((D39 l0_0 ((D32 l1 x9_1).f1)).f1))) (ds := []) #[F,F,F,F,F,F,F,F,F,F,F,F,F] (by kernel_rfl) rfl rfl ⟨ZA BK256 0, ZA BK256 1, ZA BK255 0, ZA BK255 1, (ZKS HR1 p260 q260 hy260_0 (ZHK HK)), (ZKS HR1 p260 q260 hy260_1 (ZHK HK)), (ZKS HR1 p260 q260 hy260_2 (ZHK HK)), (ZKS HR1 p260 q260 hy260_3 (ZHK HK)), (ZKS HR1 p260 q260 hy260_4 (ZHK HK)), (ZKS HR1 p260 q260 hy260_5 (ZHK HK)), (ZKS HR1 p260 q260 hy260_6 (ZHK HK)), (ZKS HR1 p260 q260 hy260_7 (ZHK HK)), (ZKS HR0_0 p261 q261 hy261_0 (ZHK HK)), (ZKS HR0_0 p261 q261 hy261_1 (ZHK HK))⟩ (fun hHeld => ?_); refine with_tabW spec_l11At.tab5 spec_l11At.bits5 (fun HT_ HW_ => ?_)
  generalize w17.drew = w18 at HO259 BK255 BK256 HK HB HR260_6 HR260_7 hx260_0 hx260_1 hx260_2 hx260_3 hx260_4 hx260_5 hx260_6 hx260_7 hx261_0 hx261_1 hHeld ⊢
  refine ZU 1 22 #[F,T,F,F,F,F,F,F,F,F,F,F,F] ?_
  refine ZU 3 24 #[F,T,F,T,F,F,F,F,F,F,F,F,F] ?_
  refine ZU 4 25 #[F,T,F,T,T,F,F,F,F,F,F,F,F] ?_
  refine ZU 5 26 #[F,T,F,T,T,T,F,F,F,F,F,F,F] ?_
  refine ZU 6 27 #[F,T,F,T,T,T,T,F,F,F,F,F,F] ?_
  refine ZTK 0 21 #[T,T,F,T,T,T,T,F,F,F,F,F,F] hHeld ?_
  refine ZTK 2 23 #[T,T,T,T,T,T,T,F,F,F,F,F,F] hHeld ?_
  refine ZTK 7 28 #[T,T,T,T,T,T,T,T,F,F,F,F,F] hHeld ?_
  refine ZU 8 29 #[T,T,T,T,T,T,T,T,T,F,F,F,F] ?_
  refine ZTK 9 30 #[T,T,T,T,T,T,T,T,T,T,F,F,F] hHeld ?_
  refine join_ (σ := Nat) 1 #[T,T,T,T,T,T,T,T,T,T,T,T,F] (fun s_ => [(31, .agg #[.int .i64 t262, .int .i64 t263]), (10, .pointer (some ⟨s_, 0, none⟩))]) (fun s_ w' => (w'.cell? ⟨gb256, 0, none⟩ = some (.int .i64 a2_0) ∧ w'.cell? ⟨gb256, 1, none⟩ = some (.int .i64 a2_1) ∧ w'.cell? ⟨gb255, 0, none⟩ = some (.slice (some ad261) l0_0.length c0_0) ∧ w'.cell? ⟨gb255, 1, none⟩ = some (.slice A0_1 l0_1.length c0_1) ∧ w'.cell? (ad260.add ((x9_1).toNat * 8)) = some (.int .i64 ((D32 l1 x9_1).f0)) ∧ w'.cell? ⟨(ad260.add ((x9_1).toNat * 8)).block, (ad260.add ((x9_1).toNat * 8)).off + 1, none⟩ = some (.int .i64 ((D32 l1 x9_1).f1)) ∧ w'.cell? ⟨(ad260.add ((x9_1).toNat * 8)).block, (ad260.add ((x9_1).toNat * 8)).off + 2, none⟩ = some (.int .i64 ((D32 l1 x9_1).f2.f0)) ∧ w'.cell? ⟨(ad260.add ((x9_1).toNat * 8)).block, (ad260.add ((x9_1).toNat * 8)).off + 3, none⟩ = some (.int .i64 ((D32 l1 x9_1).f2.f1)) ∧ w'.cell? ⟨(ad260.add ((x9_1).toNat * 8)).block, (ad260.add ((x9_1).toNat * 8)).off + 4, none⟩ = some (.int .i64 ((D32 l1 x9_1).f2.f2)) ∧ w'.cell? ⟨(ad260.add ((x9_1).toNat * 8)).block, (ad260.add ((x9_1).toNat * 8)).off + 5, none⟩ = some (.int .i64 ((D32 l1 x9_1).f3)) ∧ w'.cell? ⟨(ad260.add ((x9_1).toNat * 8)).block, (ad260.add ((x9_1).toNat * 8)).off + 6, none⟩ = some (.slice A260_6 ((D32 l1 x9_1).f4).length c260_6) ∧ w'.cell? ⟨(ad260.add ((x9_1).toNat * 8)).block, (ad260.add ((x9_1).toNat * 8)).off + 7, none⟩ = some (.slice A260_7 ((D32 l1 x9_1).f5).length c260_7) ∧ w'.cell? (ad261.add ((((D32 l1 x9_1).f1)).toNat * 2)) = some (.int .i64 ((D39 l0_0 ((D32 l1 x9_1).f1)).f0)) ∧ w'.cell? ⟨(ad261.add ((((D32 l1 x9_1).f1)).toNat * 2)).block, (ad261.add ((((D32 l1 x9_1).f1)).toNat * 2)).off + 1, none⟩ = some (.int .i64 ((D39 l0_0 ((D32 l1 x9_1).f1)).f1))) ∧ (Kd.R k39 39 w' w0.heap.size (fun k_ => (P3_ k_ ∨ w.heap.size ≤ k_) ∧ k_ ≠ gb256 ∧ k_ ≠ s_) v258 y257) ∧ (w'.heap[gb255]? = some (.cells #[.slice (some ad261) l0_0.length c0_0, .slice A0_1 l0_1.length c0_1] 26 (0, 0))) ∧ (w'.heap[gb256]? = some (.cells #[.int .i64 a2_0, .int .i64 a2_1] 39 (0, 0))) ∧ (w'.heap[s_]? = some (.cells #[.int .i64 0, .int .i64 0] 39 (0, 0))) ∧ (w.heap.size ≤ s_) ∧ (w0.heap.size ≤ s_) ∧ (gb255 ≠ s_) ∧ (s_ ≠ gb255) ∧ (gb256 ≠ s_) ∧ (s_ ≠ gb256) ∧ (Kept w w' (fun k_ => P3_ k_)) ∧ (Below w0.heap.size w0 w')) ?_ ?_
  rotate_left
  ·(
  intro hCont
  refine two_ (i := 10) (j := 11) (Ni := some 31) (Nj := some 10) #[T,T,T,T,T,T,T,T,T,T,T,F,F] #[T,T,T,T,T,T,T,T,T,T,F,T,F] rfl rfl rfl rfl (two_of HT_.out (by kernel_rfl)) (by decide) (by decide) (fun K hK => ?_) (fun K hK => ?_)
  ·(
  skip
  refine ZGO Try.func63 #[.agg #[.int .i64 a2_0, .int .i64 a2_1], .agg #[.int .i64 ((D39 l0_0 ((D32 l1 x9_1).f1)).f0), .int .i64 ((D39 l0_0 ((D32 l1 x9_1).f1)).f1)]] ?_
  with_reducible refine (spec_LabelBoth.calls k1 a2_0 a2_1 ((D39 l0_0 ((D32 l1 x9_1).f1)).f0) ((D39 l0_0 ((D32 l1 x9_1).f1)).f1) t262 t263 _ A12.out).mono ?_
  rintro e w19 ⟨rfl, hb⟩
  refine ⟨_, rfl, ?_⟩
  replace HO259 := AM (Kd.R_below (ZR HO259.out) hb)
  replace BK255 := ZW BK255 hb
  replace BK256 := ZW BK256 hb
  replace HR260_6 := AM (Kd.C_below (ZQ HR260_6.out) hb)
  replace HR260_7 := AM (Kd.C_below (ZQ HR260_7.out) hb)
  replace HK := AM (Kept.below (S := (fun k_ => P3_ k_)) (ZHK HK) hb)
  replace HB := ZT HB hb
  (try clear hb)
  (try clear hb2)
  (try clear hk)
  (try clear hi)
  refine hK.out _ _ ⟨ZA BK256 0, ZA BK256 1, ZA BK255 0, ZA BK255 1, (ZKS HR1 p260 q260 hy260_0 (ZHK HK)), (ZKS HR1 p260 q260 hy260_1 (ZHK HK)), (ZKS HR1 p260 q260 hy260_2 (ZHK HK)), (ZKS HR1 p260 q260 hy260_3 (ZHK HK)), (ZKS HR1 p260 q260 hy260_4 (ZHK HK)), (ZKS HR1 p260 q260 hy260_5 (ZHK HK)), (ZKS HR1 p260 q260 hy260_6 (ZHK HK)), (ZKS HR1 p260 q260 hy260_7 (ZHK HK)), (ZKS HR0_0 p261 q261 hy261_0 (ZHK HK)), (ZKS HR0_0 p261 q261 hy261_1 (ZHK HK))⟩ (fun hHeld => ?_)
  clear hK K
  refine ZNO 31 ?_
  refine one_ (i := 11) (N := some 10) #[T,T,T,T,T,T,T,T,T,T,T,T,F] rfl rfl (one_of HT_.out (by kernel_rfl)) (by decide) (fun K hK => ?_)
  refine box_step ?hg (N := 10) ?hd (cs := #[.int .i64 0, .int .i64 0]) (t := 39) ?hr ?_; (case hd => rfl); (case hg => rfl); (case hr => first | (go_simp; done) | (go_simp; rfl))
  intro gb264 hg w20 hbox hb
  have BK264 := AM (hbox)
  have GW264 := AM ((by rw [hg]; exact (by first | exact HK.out.1 | exact (show Kept w _ (fun k_ => P3_ k_) from ZHK HK).1) : w.heap.size ≤ gb264))
  have GE264 : Za (w0.heap.size ≤ gb264) := ZS hg
  have NB255_264 : Za (gb255 ≠ gb264) := ZN hg BK255
  have NB264_255 : Za (gb264 ≠ gb255) := ZM hg BK255
  have NB256_264 : Za (gb256 ≠ gb264) := ZN hg BK256
  have NB264_256 : Za (gb264 ≠ gb256) := ZM hg BK256
  replace HO259 := AM (Kd.R_below (Kd.R_elderB (ZR HO259.out) gb264 (Nat.le_of_eq hg.symm)) hb)
  replace BK255 := ZW BK255 hb
  replace BK256 := ZW BK256 hb
  replace HR260_6 := AM (Kd.C_below (ZQ HR260_6.out) hb)
  replace HR260_7 := AM (Kd.C_below (ZQ HR260_7.out) hb)
  replace HK := AM (Kept.below (S := (fun k_ => P3_ k_)) (ZHK HK) hb)
  replace HB := ZT HB hb
  clear hb hbox hg
  refine hK.out _ _ ⟨ZA BK256 0, ZA BK256 1, ZA BK255 0, ZA BK255 1, (ZKS HR1 p260 q260 hy260_0 (ZHK HK)), (ZKS HR1 p260 q260 hy260_1 (ZHK HK)), (ZKS HR1 p260 q260 hy260_2 (ZHK HK)), (ZKS HR1 p260 q260 hy260_3 (ZHK HK)), (ZKS HR1 p260 q260 hy260_4 (ZHK HK)), (ZKS HR1 p260 q260 hy260_5 (ZHK HK)), (ZKS HR1 p260 q260 hy260_6 (ZHK HK)), (ZKS HR1 p260 q260 hy260_7 (ZHK HK)), (ZKS HR0_0 p261 q261 hy261_0 (ZHK HK)), (ZKS HR0_0 p261 q261 hy261_1 (ZHK HK))⟩ (fun hHeld => ?_)
  clear hK K
  refine ZNO 10 ?_
  exact norm_ (by simp only [putAll, Act.put, List.setIfInBounds_toArray, List.set_cons_zero, List.set_cons_succ]) (hCont (gb264) _ ⟨hHeld, (by (with_reducible repeat (first | apply Kd.R_alloc | apply Kd.R_drewN | apply Kd.R_drew)); exact Kd.R_mono HO259.out (fun _ hk => ⟨hk.1.1, ⟨hk.1.2, hk.2⟩⟩)), (ZK BK255.out), (ZK BK256.out), (ZK BK264.out), GW264.out, GE264.out, NB255_264.out, NB264_255.out, NB256_264.out, NB264_256.out, (ZHK HK), (ZB)⟩))
  ·(
  skip
  refine box_step ?hg (N := 10) ?hd (cs := #[.int .i64 0, .int .i64 0]) (t := 39) ?hr ?_; (case hd => rfl); (case hg => rfl); (case hr => first | (go_simp; done) | (go_simp; rfl))
  intro gb264 hg w19 hbox hb
  have BK264 := AM (hbox)
  have GW264 := AM ((by rw [hg]; exact (by first | exact HK.out.1 | exact (show Kept w _ (fun k_ => P3_ k_) from ZHK HK).1) : w.heap.size ≤ gb264))
  have GE264 : Za (w0.heap.size ≤ gb264) := ZS hg
  have NB255_264 : Za (gb255 ≠ gb264) := ZN hg BK255
  have NB264_255 : Za (gb264 ≠ gb255) := ZM hg BK255
  have NB256_264 : Za (gb256 ≠ gb264) := ZN hg BK256
  have NB264_256 : Za (gb264 ≠ gb256) := ZM hg BK256
  replace HO259 := AM (Kd.R_below (Kd.R_elderB (ZR HO259.out) gb264 (Nat.le_of_eq hg.symm)) hb)
  replace BK255 := ZW BK255 hb
  replace BK256 := ZW BK256 hb
  replace HR260_6 := AM (Kd.C_below (ZQ HR260_6.out) hb)
  replace HR260_7 := AM (Kd.C_below (ZQ HR260_7.out) hb)
  replace HK := AM (Kept.below (S := (fun k_ => P3_ k_)) (ZHK HK) hb)
  replace HB := ZT HB hb
  clear hb hbox hg
  refine hK.out _ _ ⟨ZA BK256 0, ZA BK256 1, ZA BK255 0, ZA BK255 1, (ZKS HR1 p260 q260 hy260_0 (ZHK HK)), (ZKS HR1 p260 q260 hy260_1 (ZHK HK)), (ZKS HR1 p260 q260 hy260_2 (ZHK HK)), (ZKS HR1 p260 q260 hy260_3 (ZHK HK)), (ZKS HR1 p260 q260 hy260_4 (ZHK HK)), (ZKS HR1 p260 q260 hy260_5 (ZHK HK)), (ZKS HR1 p260 q260 hy260_6 (ZHK HK)), (ZKS HR1 p260 q260 hy260_7 (ZHK HK)), (ZKS HR0_0 p261 q261 hy261_0 (ZHK HK)), (ZKS HR0_0 p261 q261 hy261_1 (ZHK HK))⟩ (fun hHeld => ?_)
  clear hK K
  refine ZNO 10 ?_
  refine one_ (i := 10) (N := some 31) #[T,T,T,T,T,T,T,T,T,T,T,T,F] rfl rfl (one_of HT_.out (by kernel_rfl)) (by decide) (fun K hK => ?_)
  refine ZGO Try.func63 #[.agg #[.int .i64 a2_0, .int .i64 a2_1], .agg #[.int .i64 ((D39 l0_0 ((D32 l1 x9_1).f1)).f0), .int .i64 ((D39 l0_0 ((D32 l1 x9_1).f1)).f1)]] ?_
  with_reducible refine (spec_LabelBoth.calls k1 a2_0 a2_1 ((D39 l0_0 ((D32 l1 x9_1).f1)).f0) ((D39 l0_0 ((D32 l1 x9_1).f1)).f1) t262 t263 _ A12.out).mono ?_
  rintro e w20 ⟨rfl, hb⟩
  refine ⟨_, rfl, ?_⟩
  replace HO259 := AM (Kd.R_below (ZR HO259.out) hb)
  replace BK255 := ZW BK255 hb
  replace BK256 := ZW BK256 hb
  replace HR260_6 := AM (Kd.C_below (ZQ HR260_6.out) hb)
  replace HR260_7 := AM (Kd.C_below (ZQ HR260_7.out) hb)
  replace BK264 := ZW BK264 hb
  replace HK := AM (Kept.below (S := (fun k_ => P3_ k_)) (ZHK HK) hb)
  replace HB := ZT HB hb
  (try clear hb)
  (try clear hb2)
  (try clear hk)
  (try clear hi)
  refine hK.out _ _ ⟨ZA BK256 0, ZA BK256 1, ZA BK255 0, ZA BK255 1, (ZKS HR1 p260 q260 hy260_0 (ZHK HK)), (ZKS HR1 p260 q260 hy260_1 (ZHK HK)), (ZKS HR1 p260 q260 hy260_2 (ZHK HK)), (ZKS HR1 p260 q260 hy260_3 (ZHK HK)), (ZKS HR1 p260 q260 hy260_4 (ZHK HK)), (ZKS HR1 p260 q260 hy260_5 (ZHK HK)), (ZKS HR1 p260 q260 hy260_6 (ZHK HK)), (ZKS HR1 p260 q260 hy260_7 (ZHK HK)), (ZKS HR0_0 p261 q261 hy261_0 (ZHK HK)), (ZKS HR0_0 p261 q261 hy261_1 (ZHK HK))⟩ (fun hHeld => ?_)
  clear hK K
  refine ZNO 31 ?_
  exact norm_ (by simp only [putAll, Act.put, List.setIfInBounds_toArray, List.set_cons_zero, List.set_cons_succ]) (hCont (gb264) _ ⟨hHeld, (by (with_reducible repeat (first | apply Kd.R_alloc | apply Kd.R_drewN | apply Kd.R_drew)); exact Kd.R_mono HO259.out (fun _ hk => ⟨hk.1.1, ⟨hk.1.2, hk.2⟩⟩)), (ZK BK255.out), (ZK BK256.out), (ZK BK264.out), GW264.out, GE264.out, NB255_264.out, NB264_255.out, NB256_264.out, NB264_256.out, (ZHK HK), (ZB)⟩)))
  rintro gb264 w21 ⟨hS_, h0_, h1_, h2_, h3_, h4_, h5_, h6_, h7_, h8_, h9_, h10_, h11_⟩
  try dsimp only at h0_ h1_ h2_ h3_ h4_ h5_ h6_ h7_ h8_ h9_ h10_ h11_
  have n0_ := AM h0_
  have n1_ := AM h1_
  have n2_ := AM h2_
  have n3_ := AM h3_
  have n4_ := AM h4_
  have n5_ := AM h5_
  have n6_ := AM h6_
  have n7_ := AM h7_
  have n8_ := AM h8_
  have n9_ := AM h9_
  have n10_ := AM h10_
  have n11_ := AM h11_
  clear HO259 BK255 BK256 HK HB h0_ h1_ h2_ h3_ h4_ h5_ h6_ h7_ h8_ h9_ h10_ h11_
  have HO259 := n0_
  have BK255 := n1_
  have BK256 := n2_
  have BK264 := n3_
  have GW264 := n4_
  have GE264 := n5_
  have NB255_264 := n6_
  have NB264_255 := n7_
  have NB256_264 := n8_
  have NB264_256 := n9_
  have HK := n10_
  have HB := n11_
  clear n0_ n1_ n2_ n3_ n4_ n5_ n6_ n7_ n8_ n9_ n10_ n11_
  try dsimp only at hS_
  have hHeld := hS_
  refine ZNP ?_
  refine one_ (i := 12) (N := none) #[T,T,T,T,T,T,T,T,T,T,T,T,T] rfl rfl (one_of HT_.out (by kernel_rfl)) (by decide) (fun K hK => ?_)
  have hs22 : w21.cell? ⟨gb264, 0, none⟩ = some (.int .i64 0) := ZA BK264 0
  have hfs22 := blk_frozen BK264.out 0
  have hns22_0 := NB255_264.out
  have hns22_1 := NB256_264.out
  have hms22_0 := NB264_255.out
  have hms22_1 := NB264_256.out
  have hs23 : w21.cell? ⟨gb264, 1, none⟩ = some (.int .i64 0) := ZA BK264 1
  have hfs23 := blk_frozen BK264.out 1
  have hns23_0 := NB255_264.out
  have hns23_1 := NB256_264.out
  have hms23_0 := NB264_255.out
  have hms23_1 := NB264_256.out
  refine skip_ (w1 := ?_) (by rfl) rfl ?_ ?_
  rotate_left
  ·(
  go_simp
  rfl)
  refine hK.out _ _ ⟨((cell_far (p := ⟨gb264, _, none⟩) NB256_264.out _).trans (((cell_far (p := ⟨gb264, _, none⟩) NB256_264.out _).trans (hHeld.1)))), ((cell_far (p := ⟨gb264, _, none⟩) NB256_264.out _).trans (((cell_far (p := ⟨gb264, _, none⟩) NB256_264.out _).trans (hHeld.2.1)))), ((cell_far (p := ⟨gb264, _, none⟩) NB255_264.out _).trans (((cell_far (p := ⟨gb264, _, none⟩) NB255_264.out _).trans (hHeld.2.2.1)))), ((cell_far (p := ⟨gb264, _, none⟩) NB255_264.out _).trans (((cell_far (p := ⟨gb264, _, none⟩) NB255_264.out _).trans (hHeld.2.2.2.1)))), (ZKS HR1 p260 q260 hy260_0 (ZHK HK)), (ZKS HR1 p260 q260 hy260_1 (ZHK HK)), (ZKS HR1 p260 q260 hy260_2 (ZHK HK)), (ZKS HR1 p260 q260 hy260_3 (ZHK HK)), (ZKS HR1 p260 q260 hy260_4 (ZHK HK)), (ZKS HR1 p260 q260 hy260_5 (ZHK HK)), (ZKS HR1 p260 q260 hy260_6 (ZHK HK)), (ZKS HR1 p260 q260 hy260_7 (ZHK HK)), (ZKS HR0_0 p261 q261 hy261_0 (ZHK HK)), (ZKS HR0_0 p261 q261 hy261_1 (ZHK HK))⟩ (fun hHeld => ?_)
  clear hK K
  refine done_ (done_of HT_.out (by kernel_rfl)) ?_
  try go_wp2
  have n0_ : Za (Kd.R k39 39 ((w21.setCell ⟨gb264, 0, none⟩ (.int .i64 t262)).setCell ⟨gb264, 1, none⟩ (.int .i64 t263)) w0.heap.size (fun k_ => (P3_ k_ ∨ w.heap.size ≤ k_) ∧ k_ ≠ gb256 ∧ k_ ≠ gb264) v258 y257) := ⟨by (with_reducible repeat (first | apply Kd.R_alloc | apply Kd.R_drewN | apply Kd.R_drew)); exact Kd.R_mono (Kd.R_far (p := ⟨gb264, 1, none⟩) (Kd.R_far (p := ⟨gb264, 0, none⟩) (Kd.R_mono HO259.out (fun k_ hk => (⟨hk, hk.2.2⟩ : _ ∧ k_ ≠ gb264))) (fun _ hk => hk.2) (.int .i64 t262)) (fun _ hk => hk.2) (.int .i64 t263)) (fun _ hk => ⟨hk.1.1, ⟨hk.1.2.1, hk.1.2.2⟩⟩)⟩
  have n1_ : Za (((w21.setCell ⟨gb264, 0, none⟩ (.int .i64 t262)).setCell ⟨gb264, 1, none⟩ (.int .i64 t263)).heap[gb255]? = some (.cells #[.slice (some ad261) l0_0.length c0_0, .slice A0_1 l0_1.length c0_1] 26 (0, 0))) := ⟨ZZ BK255.out⟩
  have n2_ : Za (((w21.setCell ⟨gb264, 0, none⟩ (.int .i64 t262)).setCell ⟨gb264, 1, none⟩ (.int .i64 t263)).heap[gb256]? = some (.cells #[.int .i64 a2_0, .int .i64 a2_1] 39 (0, 0))) := ⟨ZZ BK256.out⟩
  have n3_ : Za (((w21.setCell ⟨gb264, 0, none⟩ (.int .i64 t262)).setCell ⟨gb264, 1, none⟩ (.int .i64 t263)).heap[gb264]? = some (.cells #[.int .i64 t262, .int .i64 t263] 39 (0, 0))) := ⟨ZZ BK264.out⟩
  have n4_ : Za (Kept w ((w21.setCell ⟨gb264, 0, none⟩ (.int .i64 t262)).setCell ⟨gb264, 1, none⟩ (.int .i64 t263)) (fun k_ => P3_ k_)) := ⟨ZHK HK⟩
  have n5_ : Za (Below w0.heap.size w0 ((w21.setCell ⟨gb264, 0, none⟩ (.int .i64 t262)).setCell ⟨gb264, 1, none⟩ (.int .i64 t263))) := ⟨ZB⟩
  (try clear HO259)
  (try clear BK255)
  (try clear BK256)
  (try clear BK264)
  (try clear HK)
  (try clear HB)
  generalize ((w21.setCell ⟨gb264, 0, none⟩ (.int .i64 t262)).setCell ⟨gb264, 1, none⟩ (.int .i64 t263)) = w24 at n0_ n1_ n2_ n3_ n4_ n5_ ⊢
  have HO259 := n0_
  have BK255 := n1_
  have BK256 := n2_
  have BK264 := n3_
  have HK := n4_
  have HB := n5_
  clear n0_ n1_ n2_ n3_ n4_ n5_
  replace HO259 := AM (Kd.R_drew HO259.out)
  replace BK255 := AM (blk_drew BK255.out)
  replace BK256 := AM (blk_drew BK256.out)
  replace BK264 := AM (blk_drew BK264.out)
  replace HK := AM (Kept.drew HK.out)
  replace HB := AM (below_drew1 HB.out)
  have p265 : 0 ≤ (x9_1 : Int) := ZD
  have q265 : x9_1 < (l1.length : Int) := ZD
  obtain ⟨ad265, A265_6, c265_6, A265_7, c265_7, e265, hx265_0, hx265_1, hx265_2, hx265_3, hx265_4, hx265_5, hx265_6, hx265_7, hl265_6, hi265_6, hl265_7, hi265_7⟩ := at_T32 (Kd.C_kept_now HR1.out HK.out) x9_1 p265 q265
  have hw265_7 := hx265_7
  have hw265_6 := hx265_6
  have hw265_5 := hx265_5
  have hw265_4 := hx265_4
  have hw265_3 := hx265_3
  have hw265_2 := hx265_2
  have hw265_1 := hx265_1
  have hw265_0 := hx265_0
  obtain rfl : ad260 = ad265 := (by injection e265)
  have hy265_0 := Kd.kept_slot HR1.out (by omega) (by decide) (ZHK HK) hx265_0 (add_block _ _) (Kept.refl _ _)
  have hy265_1 := Kd.kept_slot HR1.out (by omega) (by decide) (ZHK HK) hx265_1 (add_block _ _) (Kept.refl _ _)
  have hy265_2 := Kd.kept_slot HR1.out (by omega) (by decide) (ZHK HK) hx265_2 (add_block _ _) (Kept.refl _ _)
  have hy265_3 := Kd.kept_slot HR1.out (by omega) (by decide) (ZHK HK) hx265_3 (add_block _ _) (Kept.refl _ _)
  have hy265_4 := Kd.kept_slot HR1.out (by omega) (by decide) (ZHK HK) hx265_4 (add_block _ _) (Kept.refl _ _)
  have hy265_5 := Kd.kept_slot HR1.out (by omega) (by decide) (ZHK HK) hx265_5 (add_block _ _) (Kept.refl _ _)
  have hy265_6 := Kd.kept_slot HR1.out (by omega) (by decide) (ZHK HK) hx265_6 (add_block _ _) (Kept.refl _ _)
  have hy265_7 := Kd.kept_slot HR1.out (by omega) (by decide) (ZHK HK) hx265_7 (add_block _ _) (Kept.refl _ _)
  have HR265_6 := AM hi265_6
  have HC265_6 := AM hl265_6
  clear hi265_6 hl265_6
  have HR265_7 := AM hi265_7
  have HC265_7 := AM hl265_7
  clear hi265_7 hl265_7
  replace p265 := eq_true p265
  replace q265 := eq_true q265
  obtain ⟨Ao26, co26, eo26⟩ := Kd.R_slice HO259.out
  (first | subst eo26 | (injection eo26 with f1_ f2_ f3_; have f4_ := f1_.symm; have f5_ := f3_.symm; clear f1_ f2_ f3_; subst f4_; subst f5_))
  refine start_ (n := 10) (S := fun w' => w'.cell? ⟨gb255, 0, none⟩ = some (.slice (some ad261) l0_0.length c0_0) ∧ w'.cell? ⟨gb255, 1, none⟩ = some (.slice A0_1 l0_1.length c0_1) ∧ w'.cell? ⟨gb264, 0, none⟩ = some (.int .i64 t262) ∧ w'.cell? ⟨gb264, 1, none⟩ = some (.int .i64 t263) ∧ w'.cell? (ad260.add ((x9_1).toNat * 8)) = some (.int .i64 ((D32 l1 x9_1).f0)) ∧ w'.cell? ⟨(ad260.add ((x9_1).toNat * 8)).block, (ad260.add ((x9_1).toNat * 8)).off + 1, none⟩ = some (.int .i64 ((D32 l1 x9_1).f1)) ∧ w'.cell? ⟨(ad260.add ((x9_1).toNat * 8)).block, (ad260.add ((x9_1).toNat * 8)).off + 2, none⟩ = some (.int .i64 ((D32 l1 x9_1).f2.f0)) ∧ w'.cell? ⟨(ad260.add ((x9_1).toNat * 8)).block, (ad260.add ((x9_1).toNat * 8)).off + 3, none⟩ = some (.int .i64 ((D32 l1 x9_1).f2.f1)) ∧ w'.cell? ⟨(ad260.add ((x9_1).toNat * 8)).block, (ad260.add ((x9_1).toNat * 8)).off + 4, none⟩ = some (.int .i64 ((D32 l1 x9_1).f2.f2)) ∧ w'.cell? ⟨(ad260.add ((x9_1).toNat * 8)).block, (ad260.add ((x9_1).toNat * 8)).off + 5, none⟩ = some (.int .i64 ((D32 l1 x9_1).f3)) ∧ w'.cell? ⟨(ad260.add ((x9_1).toNat * 8)).block, (ad260.add ((x9_1).toNat * 8)).off + 6, none⟩ = some (.slice A265_6 ((D32 l1 x9_1).f4).length c265_6) ∧ w'.cell? ⟨(ad260.add ((x9_1).toNat * 8)).block, (ad260.add ((x9_1).toNat * 8)).off + 7, none⟩ = some (.slice A265_7 ((D32 l1 x9_1).f5).length c265_7)) (ds := []) #[F,F,F,F,F,F,F,F,F,F] (by kernel_rfl) rfl rfl ⟨ZA BK255 0, ZA BK255 1, ZA BK264 0, ZA BK264 1, (ZKS HR1 p265 q265 hy265_0 (ZHK HK)), (ZKS HR1 p265 q265 hy265_1 (ZHK HK)), (ZKS HR1 p265 q265 hy265_2 (ZHK HK)), (ZKS HR1 p265 q265 hy265_3 (ZHK HK)), (ZKS HR1 p265 q265 hy265_4 (ZHK HK)), (ZKS HR1 p265 q265 hy265_5 (ZHK HK)), (ZKS HR1 p265 q265 hy265_6 (ZHK HK)), (ZKS HR1 p265 q265 hy265_7 (ZHK HK))⟩ (fun hHeld => ?_); refine with_tabW spec_l11At.tab6 spec_l11At.bits6 (fun HT_ HW_ => ?_)
  generalize w24.drew = w25 at HO259 BK255 BK256 BK264 HK HB HR265_6 HR265_7 hx265_0 hx265_1 hx265_2 hx265_3 hx265_4 hx265_5 hx265_6 hx265_7 hHeld ⊢
  refine ZU 1 33 #[F,T,F,F,F,F,F,F,F,F] ?_
  refine ZU 2 34 #[F,T,T,F,F,F,F,F,F,F] ?_
  refine ZU 3 35 #[F,T,T,T,F,F,F,F,F,F] ?_
  refine ZU 4 36 #[F,T,T,T,T,F,F,F,F,F] ?_
  refine ZU 7 39 #[F,T,T,T,T,F,F,T,F,F] ?_
  refine ZTK 0 32 #[T,T,T,T,T,F,F,T,F,F] hHeld ?_
  refine ZTK 5 37 #[T,T,T,T,T,T,F,T,F,F] hHeld ?_
  refine ZTK 6 38 #[T,T,T,T,T,T,T,T,F,F] hHeld ?_
  refine one_ (i := 8) (N := some 40) #[T,T,T,T,T,T,T,T,T,F] rfl rfl (one_of HT_.out (by kernel_rfl)) (by decide) (fun K hK => ?_)
  refine ZGO Try.func53 #[.agg #[.slice (some ad261) l0_0.length c0_0, .slice A0_1 l0_1.length c0_1], .slice A265_6 ((D32 l1 x9_1).f4).length c265_6, .agg #[.int .i64 t262, .int .i64 t263], .slice Ao26 y257.length co26] ?_
  with_reducible refine (ih k1 (by have := HK1.out; omega) _ _ l0_0 _ _ l0_1 _ _ ((D32 l1 x9_1).f4) t262 t263 (fun k_ => some k_ = (.slice Ao26 y257.length co26 : Value).ownBlock) (.slice Ao26 y257.length co26) y257 t266 w0 _ ?side1 ?side2 ?side3 ?side4 ?side5 ?side6 ?side7 ?side8 A13.out).mono ?_
  (case side1 => repeat (first | (with_reducible first | exact HB.out | apply below_alloc | apply pw_below_drewN | apply below_drew1 | refine below_set ?_ GE255.out | refine below_set ?_ GE256.out | refine below_set ?_ GE264.out) | exact HB.out))
  (case side2 => exact Kd.C_kept_call HR0_0.out (ZHK HK) (fun k_ hs_ => (fun e_ => (HO259.out.1 k_ e_.symm).1) hs_))
  (case side3 => exact HC0_0.out)
  (case side4 => exact Kd.C_kept_call HR0_1.out (ZHK HK) (fun k_ hs_ => (fun e_ => (HO259.out.1 k_ e_.symm).1) hs_))
  (case side5 => exact HC0_1.out)
  (case side6 => exact Kd.C_kept_call (fun W_ k_ => by have hw_ := Kd.kept_slot HR1.out (by have := (of_eq_true p265); have := (of_eq_true q265); omega) (by decide) (Kept.refl _ _) hy265_6 (add_block _ _) k_; obtain ⟨ad_, A6_, c6_, A7_, c7_, e_, m0_, m1_, m2_, m3_, m4_, m5_, m6_, m7_, y6_, z6_, y7_, z7_⟩ := at_T32 (HR1.out W_ k_) (x9_1) (by first | exact of_eq_true p265 | exact p265) (by first | exact of_eq_true q265 | exact q265); cases e_; rw [hw_] at m6_; cases m6_; exact z6_) (ZHK HK) (fun k_ hs_ => (fun e_ => (HO259.out.1 k_ e_.symm).1) hs_))
  (case side7 => exact HC265_6.out)
  (case side8 => exact Kd.R_tight rfl HO259.out)
  rintro e w27 ⟨v267, rfl, ho0, hb, hkp⟩
  refine ⟨_, rfl, ?_⟩
  have n0_ := AM (blk_kept (ZK BK255.out) hkp (fun hs_ => (fun e_ => (Kd.R_ne HO259.out BK255.out (by decide)) e_) hs_))
  have n1_ := AM (blk_kept (ZK BK256.out) hkp (fun hs_ => (fun e_ => (Kd.R_away HO259.out (fun _ hk => hk.2.1)) e_) hs_))
  have n2_ := AM (blk_kept (ZK BK264.out) hkp (fun hs_ => (fun e_ => (Kd.R_away HO259.out (fun _ hk => hk.2.2)) e_) hs_))
  have n3_ := AM (Kd.R_mono (ok' := fun k_ => (P3_ k_ ∨ w.heap.size ≤ k_) ∧ k_ ≠ gb256 ∧ k_ ≠ gb264) ho0 (fun k_ hk_ => ⟨Or.elim hk_ (fun hs_ => (HO259.out.1 k_ (hs_).symm).1) (fun hn_ => (.inr (Nat.le_trans (by first | exact HK.out.1 | exact (show Kept w _ (fun k_ => P3_ k_) from ZHK HK).1) hn_))), Or.elim hk_ (fun hs_ => fun e_ => (Kd.R_away HO259.out (fun _ hk => hk.2.1)) (by rw [← e_]; exact hs_)) (fun hn_ => (Kd.freshB (g := gb256) (o := .cells #[.int .i64 a2_0, .int .i64 a2_1] 39 (0, 0)) (ZK BK256.out) k_ hn_)), Or.elim hk_ (fun hs_ => fun e_ => (Kd.R_away HO259.out (fun _ hk => hk.2.2)) (by rw [← e_]; exact hs_)) (fun hn_ => (Kd.freshB (g := gb264) (o := .cells #[.int .i64 t262, .int .i64 t263] 39 (0, 0)) (ZK BK264.out) k_ hn_))⟩))
  have n4_ := AM (Kept.then_ (S := (fun k_ => P3_ k_)) (ZHK HK) hkp (fun k_ hs_ => (fun e_ => (HO259.out.1 k_ e_.symm).1) hs_))
  have n5_ := AM (hb)
  clear BK255 BK256 BK264 HK HB HO259
  have BK255 := n0_
  have BK256 := n1_
  have BK264 := n2_
  have HO268 := n3_
  have HK := n4_
  have HB := n5_
  clear n0_ n1_ n2_ n3_ n4_ n5_
  (try clear hb)
  (try clear hkp)
  (try clear ho0)
  refine hK.out _ _ ⟨ZA BK255 0, ZA BK255 1, ZA BK264 0, ZA BK264 1, (ZKS HR1 p265 q265 hy265_0 (ZHK HK)), (ZKS HR1 p265 q265 hy265_1 (ZHK HK)), (ZKS HR1 p265 q265 hy265_2 (ZHK HK)), (ZKS HR1 p265 q265 hy265_3 (ZHK HK)), (ZKS HR1 p265 q265 hy265_4 (ZHK HK)), (ZKS HR1 p265 q265 hy265_5 (ZHK HK)), (ZKS HR1 p265 q265 hy265_6 (ZHK HK)), (ZKS HR1 p265 q265 hy265_7 (ZHK HK))⟩ (fun hHeld => ?_)
  clear hK K
  refine ZNO 40 ?_
  refine ZU 9 3 #[T,T,T,T,T,T,T,T,T,T] ?_
  refine done_ (done_of HT_.out (by kernel_rfl)) ?_
  try go_wp2
  replace HO268 := AM (Kd.R_drew HO268.out)
  replace BK255 := AM (blk_drew BK255.out)
  replace BK256 := AM (blk_drew BK256.out)
  replace BK264 := AM (blk_drew BK264.out)
  replace HK := AM (Kept.drew HK.out)
  replace HB := AM (below_drew1 HB.out)
  have p269 : 0 ≤ (x9_1 : Int) := ZD
  have q269 : x9_1 < (l1.length : Int) := ZD
  obtain ⟨ad269, A269_6, c269_6, A269_7, c269_7, e269, hx269_0, hx269_1, hx269_2, hx269_3, hx269_4, hx269_5, hx269_6, hx269_7, hl269_6, hi269_6, hl269_7, hi269_7⟩ := at_T32 (Kd.C_kept_now HR1.out HK.out) x9_1 p269 q269
  have hw269_7 := hx269_7
  have hw269_6 := hx269_6
  have hw269_5 := hx269_5
  have hw269_4 := hx269_4
  have hw269_3 := hx269_3
  have hw269_2 := hx269_2
  have hw269_1 := hx269_1
  have hw269_0 := hx269_0
  obtain rfl : ad260 = ad269 := (by injection e269)
  have hy269_0 := Kd.kept_slot HR1.out (by omega) (by decide) (ZHK HK) hx269_0 (add_block _ _) (Kept.refl _ _)
  have hy269_1 := Kd.kept_slot HR1.out (by omega) (by decide) (ZHK HK) hx269_1 (add_block _ _) (Kept.refl _ _)
  have hy269_2 := Kd.kept_slot HR1.out (by omega) (by decide) (ZHK HK) hx269_2 (add_block _ _) (Kept.refl _ _)
  have hy269_3 := Kd.kept_slot HR1.out (by omega) (by decide) (ZHK HK) hx269_3 (add_block _ _) (Kept.refl _ _)
  have hy269_4 := Kd.kept_slot HR1.out (by omega) (by decide) (ZHK HK) hx269_4 (add_block _ _) (Kept.refl _ _)
  have hy269_5 := Kd.kept_slot HR1.out (by omega) (by decide) (ZHK HK) hx269_5 (add_block _ _) (Kept.refl _ _)
  have hy269_6 := Kd.kept_slot HR1.out (by omega) (by decide) (ZHK HK) hx269_6 (add_block _ _) (Kept.refl _ _)
  have hy269_7 := Kd.kept_slot HR1.out (by omega) (by decide) (ZHK HK) hx269_7 (add_block _ _) (Kept.refl _ _)
  have HR269_6 := AM hi269_6
  have HC269_6 := AM hl269_6
  clear hi269_6 hl269_6
  have HR269_7 := AM hi269_7
  have HC269_7 := AM hl269_7
  clear hi269_7 hl269_7
  replace p269 := eq_true p269
  replace q269 := eq_true q269
  obtain ⟨Ao29, co29, eo29⟩ := Kd.R_slice HO268.out
  (first | subst eo29 | (injection eo29 with f1_ f2_ f3_; have f4_ := f1_.symm; have f5_ := f3_.symm; clear f1_ f2_ f3_; subst f4_; subst f5_))
  refine start_ (n := 10) (S := fun w' => w'.cell? ⟨gb255, 0, none⟩ = some (.slice (some ad261) l0_0.length c0_0) ∧ w'.cell? ⟨gb255, 1, none⟩ = some (.slice A0_1 l0_1.length c0_1) ∧ w'.cell? ⟨gb264, 0, none⟩ = some (.int .i64 t262) ∧ w'.cell? ⟨gb264, 1, none⟩ = some (.int .i64 t263) ∧ w'.cell? (ad260.add ((x9_1).toNat * 8)) = some (.int .i64 ((D32 l1 x9_1).f0)) ∧ w'.cell? ⟨(ad260.add ((x9_1).toNat * 8)).block, (ad260.add ((x9_1).toNat * 8)).off + 1, none⟩ = some (.int .i64 ((D32 l1 x9_1).f1)) ∧ w'.cell? ⟨(ad260.add ((x9_1).toNat * 8)).block, (ad260.add ((x9_1).toNat * 8)).off + 2, none⟩ = some (.int .i64 ((D32 l1 x9_1).f2.f0)) ∧ w'.cell? ⟨(ad260.add ((x9_1).toNat * 8)).block, (ad260.add ((x9_1).toNat * 8)).off + 3, none⟩ = some (.int .i64 ((D32 l1 x9_1).f2.f1)) ∧ w'.cell? ⟨(ad260.add ((x9_1).toNat * 8)).block, (ad260.add ((x9_1).toNat * 8)).off + 4, none⟩ = some (.int .i64 ((D32 l1 x9_1).f2.f2)) ∧ w'.cell? ⟨(ad260.add ((x9_1).toNat * 8)).block, (ad260.add ((x9_1).toNat * 8)).off + 5, none⟩ = some (.int .i64 ((D32 l1 x9_1).f3)) ∧ w'.cell? ⟨(ad260.add ((x9_1).toNat * 8)).block, (ad260.add ((x9_1).toNat * 8)).off + 6, none⟩ = some (.slice A269_6 ((D32 l1 x9_1).f4).length c269_6) ∧ w'.cell? ⟨(ad260.add ((x9_1).toNat * 8)).block, (ad260.add ((x9_1).toNat * 8)).off + 7, none⟩ = some (.slice A269_7 ((D32 l1 x9_1).f5).length c269_7)) (ds := []) #[F,F,F,F,F,F,F,F,F,F] (by kernel_rfl) rfl rfl ⟨ZA BK255 0, ZA BK255 1, ZA BK264 0, ZA BK264 1, (ZKS HR1 p269 q269 hy269_0 (ZHK HK)), (ZKS HR1 p269 q269 hy269_1 (ZHK HK)), (ZKS HR1 p269 q269 hy269_2 (ZHK HK)), (ZKS HR1 p269 q269 hy269_3 (ZHK HK)), (ZKS HR1 p269 q269 hy269_4 (ZHK HK)), (ZKS HR1 p269 q269 hy269_5 (ZHK HK)), (ZKS HR1 p269 q269 hy269_6 (ZHK HK)), (ZKS HR1 p269 q269 hy269_7 (ZHK HK))⟩ (fun hHeld => ?_); refine with_tabW spec_l11At.tab7 spec_l11At.bits7 (fun HT_ HW_ => ?_)
  generalize w27.drew = w28 at HO268 BK255 BK256 BK264 HK HB HR269_6 HR269_7 hx269_0 hx269_1 hx269_2 hx269_3 hx269_4 hx269_5 hx269_6 hx269_7 hHeld ⊢
  refine ZU 1 42 #[F,T,F,F,F,F,F,F,F,F] ?_
  refine ZU 2 43 #[F,T,T,F,F,F,F,F,F,F] ?_
  refine ZU 3 44 #[F,T,T,T,F,F,F,F,F,F] ?_
  refine ZU 4 45 #[F,T,T,T,T,F,F,F,F,F] ?_
  refine ZU 7 48 #[F,T,T,T,T,F,F,T,F,F] ?_
  refine ZTK 0 41 #[T,T,T,T,T,F,F,T,F,F] hHeld ?_
  refine ZTK 5 46 #[T,T,T,T,T,T,F,T,F,F] hHeld ?_
  refine ZTK 6 47 #[T,T,T,T,T,T,T,T,F,F] hHeld ?_
  refine one_ (i := 8) (N := some 49) #[T,T,T,T,T,T,T,T,T,F] rfl rfl (one_of HT_.out (by kernel_rfl)) (by decide) (fun K hK => ?_)
  refine ZGO Try.func53 #[.agg #[.slice (some ad261) l0_0.length c0_0, .slice A0_1 l0_1.length c0_1], .slice A269_7 ((D32 l1 x9_1).f5).length c269_7, .agg #[.int .i64 t262, .int .i64 t263], .slice Ao29 t266.length co29] ?_
  with_reducible refine (ih k1 (by have := HK1.out; omega) _ _ l0_0 _ _ l0_1 _ _ ((D32 l1 x9_1).f5) t262 t263 (fun k_ => some k_ = (.slice Ao29 t266.length co29 : Value).ownBlock) (.slice Ao29 t266.length co29) t266 t270 w0 _ ?side1 ?side2 ?side3 ?side4 ?side5 ?side6 ?side7 ?side8 A14.out).mono ?_
  (case side1 => repeat (first | (with_reducible first | exact HB.out | apply below_alloc | apply pw_below_drewN | apply below_drew1 | refine below_set ?_ GE255.out | refine below_set ?_ GE256.out | refine below_set ?_ GE264.out) | exact HB.out))
  (case side2 => exact Kd.C_kept_call HR0_0.out (ZHK HK) (fun k_ hs_ => (fun e_ => (HO268.out.1 k_ e_.symm).1) hs_))
  (case side3 => exact HC0_0.out)
  (case side4 => exact Kd.C_kept_call HR0_1.out (ZHK HK) (fun k_ hs_ => (fun e_ => (HO268.out.1 k_ e_.symm).1) hs_))
  (case side5 => exact HC0_1.out)
  (case side6 => exact Kd.C_kept_call (fun W_ k_ => by have hw_ := Kd.kept_slot HR1.out (by have := (of_eq_true p269); have := (of_eq_true q269); omega) (by decide) (Kept.refl _ _) hy269_7 (add_block _ _) k_; obtain ⟨ad_, A6_, c6_, A7_, c7_, e_, m0_, m1_, m2_, m3_, m4_, m5_, m6_, m7_, y6_, z6_, y7_, z7_⟩ := at_T32 (HR1.out W_ k_) (x9_1) (by first | exact of_eq_true p269 | exact p269) (by first | exact of_eq_true q269 | exact q269); cases e_; rw [hw_] at m7_; cases m7_; exact z7_) (ZHK HK) (fun k_ hs_ => (fun e_ => (HO268.out.1 k_ e_.symm).1) hs_))
  (case side7 => exact HC269_7.out)
  (case side8 => exact Kd.R_tight rfl HO268.out)
  rintro e w30 ⟨v271, rfl, ho0, hb, hkp⟩
  refine ⟨_, rfl, ?_⟩
  have n0_ := AM (blk_kept (ZK BK255.out) hkp (fun hs_ => (fun e_ => (Kd.R_ne HO268.out BK255.out (by decide)) e_) hs_))
  have n1_ := AM (blk_kept (ZK BK256.out) hkp (fun hs_ => (fun e_ => (Kd.R_away HO268.out (fun _ hk => hk.2.1)) e_) hs_))
  have n2_ := AM (blk_kept (ZK BK264.out) hkp (fun hs_ => (fun e_ => (Kd.R_away HO268.out (fun _ hk => hk.2.2)) e_) hs_))
  have n3_ := AM (Kd.R_mono (ok' := fun k_ => (P3_ k_ ∨ w.heap.size ≤ k_) ∧ k_ ≠ gb256 ∧ k_ ≠ gb264) ho0 (fun k_ hk_ => ⟨Or.elim hk_ (fun hs_ => (HO268.out.1 k_ (hs_).symm).1) (fun hn_ => (.inr (Nat.le_trans (by first | exact HK.out.1 | exact (show Kept w _ (fun k_ => P3_ k_) from ZHK HK).1) hn_))), Or.elim hk_ (fun hs_ => fun e_ => (Kd.R_away HO268.out (fun _ hk => hk.2.1)) (by rw [← e_]; exact hs_)) (fun hn_ => (Kd.freshB (g := gb256) (o := .cells #[.int .i64 a2_0, .int .i64 a2_1] 39 (0, 0)) (ZK BK256.out) k_ hn_)), Or.elim hk_ (fun hs_ => fun e_ => (Kd.R_away HO268.out (fun _ hk => hk.2.2)) (by rw [← e_]; exact hs_)) (fun hn_ => (Kd.freshB (g := gb264) (o := .cells #[.int .i64 t262, .int .i64 t263] 39 (0, 0)) (ZK BK264.out) k_ hn_))⟩))
  have n4_ := AM (Kept.then_ (S := (fun k_ => P3_ k_)) (ZHK HK) hkp (fun k_ hs_ => (fun e_ => (HO268.out.1 k_ e_.symm).1) hs_))
  have n5_ := AM (hb)
  clear BK255 BK256 BK264 HK HB HO268
  have BK255 := n0_
  have BK256 := n1_
  have BK264 := n2_
  have HO272 := n3_
  have HK := n4_
  have HB := n5_
  clear n0_ n1_ n2_ n3_ n4_ n5_
  (try clear hb)
  (try clear hkp)
  (try clear ho0)
  refine hK.out _ _ ⟨ZA BK255 0, ZA BK255 1, ZA BK264 0, ZA BK264 1, (ZKS HR1 p269 q269 hy269_0 (ZHK HK)), (ZKS HR1 p269 q269 hy269_1 (ZHK HK)), (ZKS HR1 p269 q269 hy269_2 (ZHK HK)), (ZKS HR1 p269 q269 hy269_3 (ZHK HK)), (ZKS HR1 p269 q269 hy269_4 (ZHK HK)), (ZKS HR1 p269 q269 hy269_5 (ZHK HK)), (ZKS HR1 p269 q269 hy269_6 (ZHK HK)), (ZKS HR1 p269 q269 hy269_7 (ZHK HK))⟩ (fun hHeld => ?_)
  clear hK K
  refine ZNO 49 ?_
  refine ZU 9 3 #[T,T,T,T,T,T,T,T,T,T] ?_
  refine done_ (done_of HT_.out (by kernel_rfl)) ?_
  try go_wp2
  go_roundg k1
  case measure => have := HK1.out; omega
  case rel => exact ⟨(t270), (wrap64 (x9_1 + 1)), (by first | rfl | (simp; done) | (simp [*]; done)), H', ⟨by have := HK1.out; omega⟩, ⟨by (with_reducible repeat (first | apply Kd.R_alloc | apply Kd.R_drewN | apply Kd.R_drew)); exact Kd.R_mono HO272.out (fun _ hk => ⟨hk.1, hk.2.1⟩)⟩, ⟨ZK BK255.out⟩, ⟨ZK BK256.out⟩, ⟨ZHK HK⟩, ⟨ZB⟩⟩)
  ·(
  rw [if_neg c11] at H
  exact absurd H (by simp)))
  ·(
  rw [if_neg c10] at H
  exact absurd H (by simp)))
  ·(
  rw [if_neg c9] at H
  exact absurd H (by simp)))
  ·(
  rw [if_neg c8] at H
  exact absurd H (by simp)))
  ·(
  rw [if_neg c7] at H
  have c7b0 := decide_eq_false c7
  clear c7
  obtain rfl := Option.some.inj H
  go_wp2
  go_ret
  exact ⟨_, ZE, by (with_reducible repeat (first | apply Kd.R_alloc | apply Kd.R_drewN | apply Kd.R_drew)); exact Kd.R_mono HO_3.out (fun _ hk => hk.1), ZB, ZHK HK⟩))


/-! ### spec_l11Any: function 54 -/
def spec_l11Any.f  : Option (Int × Int) := (spec_l1All.f).bind fun t274 => ((spec_l1All.f).bind fun t275 => (some (t274, t275)))
theorem spec_l11Any.calls  (r1 : Int) (r2 : Int) (w : World) (h : spec_l11Any.f  = some (r1, r2)) :
  Calls Try.prog 54 #[] w fun e w' => e = .returned (.agg #[.int .i64 r1, .int .i64 r2]) ∧ Below w.heap.size w w' := by
 have hu39 := Try.underlying39
 have HB := AM (Below.refl w.heap.size w)
 have H := h
 unfold spec_l11Any.f at H
 clear h
 obtain ⟨t274, A1, H⟩ := ZOB H; try dsimp only at H
 obtain ⟨t275, A2, H⟩ := ZOB H; try dsimp only at H
 simp only [Option.some.injEq, Prod.mk.injEq] at H
 obtain ⟨rfl, rfl⟩ := H
 go_enter Try.func54, Try.ntmps54
 go_wp2_with (first | ((with_reducible refine gate_dst (N := 0) rfl ?_); refine ZX (N := 0) (cs := #[.int .i64 0, .int .i64 0]) (t := 39) ?_; intro gb273 hg w3 hbox hb; have BK273 := AM (hbox); have GW273 : Za (w.heap.size ≤ gb273) := ZS hg; replace HB := ZT HB hb; clear hb hbox hg) | ((with_reducible refine gate_callee (f := 75) rfl ?_); refine ZGL (some 1) Try.func75 #[] ?_; (with_reducible refine (spec_l1All.calls  t274 _ A1.out).mono ?_); rintro e w' ⟨rfl, ⟨nd, rfl⟩⟩; refine ⟨_, rfl, ?_⟩; (try (rw [drewN_self w3]; generalize hq_ : World.drewN w3 _ = w3; have n0_ : Za (w3.heap[gb273]? = some (.cells #[.int .i64 0, .int .i64 0] 39 (0, 0))) := ⟨by rw [← hq_]; exact (ZK BK273.out)⟩; have n1_ : Za (Below w.heap.size w w3) := ⟨by rw [← hq_]; exact (ZB)⟩; clear BK273 HB hq_; have BK273 := n0_; have HB := n1_; clear n0_ n1_))) | ((with_reducible refine gate_callee (f := 75) rfl ?_); refine ZGL (some 2) Try.func75 #[] ?_; (with_reducible refine (spec_l1All.calls  t275 _ A2.out).mono ?_); rintro e w' ⟨rfl, ⟨nd, rfl⟩⟩; refine ⟨_, rfl, ?_⟩; (try (rw [drewN_self w3]; generalize hq_ : World.drewN w3 _ = w3; have n0_ : Za (w3.heap[gb273]? = some (.cells #[.int .i64 0, .int .i64 0] 39 (0, 0))) := ⟨by rw [← hq_]; exact (ZK BK273.out)⟩; have n1_ : Za (Below w.heap.size w w3) := ⟨by rw [← hq_]; exact (ZB)⟩; clear BK273 HB hq_; have BK273 := n0_; have HB := n1_; clear n0_ n1_)); have hcz4 := ZC2 w3 BK273; have hfz4 := ZF2 BK273))
 refine bodyPost_ret (results_cell_row rfl _ _ gb273 39 #[.int .i64 t274, .int .i64 t275] (0, 0) _ rfl (ZZ BK273.out) Try.underlying39 rfl (by kernel_rfl)) rfl ?_
 exact ⟨ZE, ZB⟩

/-! ### spec_TypeAt: function 33 -/
def spec_TypeAt.f (k : Nat) (l0_0 : List (S39)) (l0_1 : List (S32)) : Option ((List (S39))) := (spec_ProgOk.f k l0_0 l0_1).bind fun t277 => (if t277 = true then ((spec_l11Any.f).bind fun bt278 => ((spec_l11At.f k l0_0 l0_1 l0_1 bt278.1 bt278.2 (([] : List (S39)))).bind fun t283 => (some t283))) else (some (([] : List (S39)))))
theorem spec_TypeAt.calls (k : Nat) (A0_0 : Option Addr) (c0_0 : Nat) (l0_0 : List (S39)) (A0_1 : Option Addr) (c0_1 : Nat) (l0_1 : List (S32)) (r : List (S39)) (w : World) (hr0_0 : Kd.C k39 w A0_0 l0_0.length l0_0) (hc0_0 : l0_0.length ≤ c0_0) (hr0_1 : Kd.C k32 w A0_1 l0_1.length l0_1) (hc0_1 : l0_1.length ≤ c0_1) (h : spec_TypeAt.f k l0_0 l0_1 = some r) :
  Calls Try.prog 33 #[.agg #[.slice A0_0 l0_0.length c0_0, .slice A0_1 l0_1.length c0_1]] w fun e w' => ∃ v0_ : Value, e = .returned (v0_) ∧ Kd.R k39 39 w' w.heap.size (fun _ => True) v0_ r ∧ Below w.heap.size w w' := by
 have hu26 := Try.underlying26
 have HR0_0 := AM hr0_0
 have HC0_0 := AM hc0_0
 clear hr0_0 hc0_0
 have HR0_1 := AM hr0_1
 have HC0_1 := AM hc0_1
 clear hr0_1 hc0_1
 have HB := AM (Below.refl w.heap.size w)
 have H := h
 unfold spec_TypeAt.f at H
 clear h
 obtain ⟨t277, A2, H⟩ := ZOB H; try dsimp only at H
 by_cases c3 : t277 = true
 ·(
 subst c3
 have H1 := H; rw [if_pos rfl] at H1
 clear H
 have H := H1
 clear H1
 obtain ⟨⟨t278, t279⟩, A4, H⟩ := ZOB H; try dsimp only at H
 obtain ⟨y280, hy280⟩ : ∃ y_ : List (S39), y_ = (([] : List (S39))) := ⟨_, rfl⟩
 replace H : ((spec_l11At.f k l0_0 l0_1 l0_1 t278 t279 y280).bind fun t283 => (some t283)) = some r := by first | (rw [hy280]; with_reducible exact H) | (have H2_ := (Option.bind_some _ _).symm.trans H; rw [hy280]; with_reducible exact H2_) | (have H2_ := (Option.bind_some _ _).symm.trans H; with_reducible exact H2_) | with_reducible exact H | (rw [hy280]; exact H) | exact H
 have Ny280 := AM hy280
 clear hy280
 obtain ⟨t283, A5, H⟩ := ZOB H; try dsimp only at H
 obtain rfl := Option.some.inj H
 go_enter Try.func33, Try.ntmps33
 try go_wp2_with (first | ((with_reducible refine gate_dst (N := 1) rfl ?_); refine ZX (N := 1) (cs := #[.slice A0_0 l0_0.length c0_0, .slice A0_1 l0_1.length c0_1]) (t := 26) ?_; intro gb276 hg w6 hbox hb; have BK276 := AM (hbox); have GW276 : Za (w.heap.size ≤ gb276) := ZS hg; replace HB := ZT HB hb; clear hb hbox hg; have hcz7 := ZC2 w6 BK276; have hfz7 := ZF2 BK276) | ((with_reducible refine gate_callee (f := 19) rfl ?_); refine ZGL (some 4) Try.func19 #[.agg #[.slice A0_0 l0_0.length c0_0, .slice A0_1 l0_1.length c0_1]] ?_; (with_reducible refine (spec_ProgOk.calls k _ _ l0_0 _ _ l0_1 true _ (ZQ (Kd.C_below HR0_0.out HB.out)) HC0_0.out (ZQ (Kd.C_below HR0_1.out HB.out)) HC0_1.out A2.out).mono ?_); rintro e w8 ⟨rfl, hb⟩; refine ⟨_, rfl, ?_⟩; replace BK276 := ZW BK276 hb; replace HB := ZT HB hb; clear hb))
 replace BK276 := AM (blk_drew BK276.out)
 replace HB := AM (below_drew1 HB.out)
 refine start_ (n := 7) (S := fun w' => w'.cell? ⟨gb276, 0, none⟩ = some (.slice A0_0 l0_0.length c0_0) ∧ w'.cell? ⟨gb276, 1, none⟩ = some (.slice A0_1 l0_1.length c0_1)) (ds := []) #[F,F,F,F,F,F,F] (by kernel_rfl) rfl rfl ⟨ZA BK276 0, ZA BK276 1⟩ (fun hHeld => ?_)
 generalize w8.drew = w9 at BK276 HB hHeld ⊢
 refine pure_ (i := 1) (N := some 8) (v := ?_) (a' := ?_) #[F,T,F,F,F,F,F] rfl rfl (by kernel_rfl) (fun _ _ _ h => h) (Or.inl ⟨by rfl, ?_⟩) ?_ ?_
 rotate_left
 ·(
 intro w'
 go_simp
 with_reducible rfl)
 rotate_left
 ·(
 simp only [Act.put, List.setIfInBounds_toArray, List.set_cons_zero, List.set_cons_succ, i64_w, i32_w]
 rfl)
 refine take_ (i := 0) (N := some 7) (v := ?_) (a' := ?_) #[T,T,F,F,F,F,F] rfl rfl (by kernel_rfl) (fun _ _ _ h => h) (Or.inl ⟨by rfl, ?_⟩) hHeld ?_ ?_
 rotate_left
 ·(
 rintro w' ⟨s0, s1⟩
 go_simp
 with_reducible rfl)
 rotate_left
 ·(
 simp only [Act.put, List.setIfInBounds_toArray, List.set_cons_zero, List.set_cons_succ, i64_w, i32_w]
 rfl)
 refine take_ (i := 2) (N := some 9) (v := ?_) (a' := ?_) #[T,T,T,F,F,F,F] rfl rfl (by kernel_rfl) (fun _ _ _ h => h) (Or.inl ⟨by rfl, ?_⟩) hHeld ?_ ?_
 rotate_left
 ·(
 rintro w' ⟨s0, s1⟩
 go_simp
 with_reducible rfl)
 rotate_left
 ·(
 simp only [Act.put, List.setIfInBounds_toArray, List.set_cons_zero, List.set_cons_succ, i64_w, i32_w]
 rfl)
 refine join_ (σ := Value) 2 #[T,T,T,T,T,F,F] (fun s_ => [(10, .agg #[.int .i64 t278, .int .i64 t279]), (11, s_)]) (fun s_ w' => (w'.cell? ⟨gb276, 0, none⟩ = some (.slice A0_0 l0_0.length c0_0) ∧ w'.cell? ⟨gb276, 1, none⟩ = some (.slice A0_1 l0_1.length c0_1)) ∧ (Kd.R k39 39 w' w.heap.size (fun _ => True) s_ y280) ∧ (w'.heap[gb276]? = some (.cells #[.slice A0_0 l0_0.length c0_0, .slice A0_1 l0_1.length c0_1] 26 (0, 0))) ∧ (Below w.heap.size w w')) ?_ ?_
 rotate_left
 ·(
 intro hCont
 refine two_ (i := 3) (j := 4) (Ni := some 10) (Nj := some 11) #[T,T,T,T,F,F,F] #[T,T,T,F,T,F,F] rfl rfl rfl rfl (by kernel_rfl) (by decide) (by decide) (fun K hK => ?_) (fun K hK => ?_)
 ·(
 skip
 refine ZGO Try.func54 #[] ?_
 with_reducible refine (spec_l11Any.calls  t278 t279 _ A4.out).mono ?_
 rintro e w10 ⟨rfl, hb⟩
 refine ⟨_, rfl, ?_⟩
 replace BK276 := ZW BK276 hb
 replace HB := ZT HB hb
 (try clear hb)
 (try clear hb2)
 (try clear hk)
 (try clear hi)
 refine hK.out _ _ ⟨ZA BK276 0, ZA BK276 1⟩ (fun hHeld => ?_)
 clear hK K
 refine ZNO 10 ?_
 refine one_ (i := 4) (N := some 11) #[T,T,T,T,T,F,F] rfl rfl (by kernel_rfl) (by decide) (fun K hK => ?_)
 refine Kd.R_lit_step k39 _ 39 ?hg (N := 11) ?hd (xs := ([] : List (S39))) (inner := []) (ok := fun _ => True) (okp := fun _ => True) ?hr ?hp (fun _ hk => hk) trivial (Below.refl _ _) (Nat.le_refl _) (by simp) ?_; (case hd => rfl); (case hg => rfl); (case hr => first | (go_simp; done) | (go_simp; rfl)); (case hp => exact (Reps.none _ _))
 intro v281 w11 ho12 hb hg_ hnew_
 clear hg_ hnew_
 (first | rw [← Ny280.out] at ho12 | (simp only [Int.reduceToNat] at ho12; rw [← Ny280.out] at ho12))
 have HO282 := AM (Kd.R_lower ho12 (below_size (ZB)))
 replace BK276 := ZW BK276 hb
 replace HB := ZT HB hb
 clear hb ho12
 refine hK.out _ _ ⟨ZA BK276 0, ZA BK276 1⟩ (fun hHeld => ?_)
 clear hK K
 refine ZNO 11 ?_
 exact norm_ (by simp only [putAll, Act.put, List.setIfInBounds_toArray, List.set_cons_zero, List.set_cons_succ]) (hCont (v281) _ ⟨hHeld, (ZR HO282.out), (ZK BK276.out), (ZB)⟩))
 ·(
 skip
 refine Kd.R_lit_step k39 _ 39 ?hg (N := 11) ?hd (xs := ([] : List (S39))) (inner := []) (ok := fun _ => True) (okp := fun _ => True) ?hr ?hp (fun _ hk => hk) trivial (Below.refl _ _) (Nat.le_refl _) (by simp) ?_; (case hd => rfl); (case hg => rfl); (case hr => first | (go_simp; done) | (go_simp; rfl)); (case hp => exact (Reps.none _ _))
 intro v281 w10 ho11 hb hg_ hnew_
 clear hg_ hnew_
 (first | rw [← Ny280.out] at ho11 | (simp only [Int.reduceToNat] at ho11; rw [← Ny280.out] at ho11))
 have HO282 := AM (Kd.R_lower ho11 (below_size (ZB)))
 replace BK276 := ZW BK276 hb
 replace HB := ZT HB hb
 clear hb ho11
 refine hK.out _ _ ⟨ZA BK276 0, ZA BK276 1⟩ (fun hHeld => ?_)
 clear hK K
 refine ZNO 11 ?_
 refine one_ (i := 3) (N := some 10) #[T,T,T,T,T,F,F] rfl rfl (by kernel_rfl) (by decide) (fun K hK => ?_)
 refine ZGO Try.func54 #[] ?_
 with_reducible refine (spec_l11Any.calls  t278 t279 _ A4.out).mono ?_
 rintro e w12 ⟨rfl, hb⟩
 refine ⟨_, rfl, ?_⟩
 replace HO282 := AM (Kd.R_below (ZR HO282.out) hb)
 replace BK276 := ZW BK276 hb
 replace HB := ZT HB hb
 (try clear hb)
 (try clear hb2)
 (try clear hk)
 (try clear hi)
 refine hK.out _ _ ⟨ZA BK276 0, ZA BK276 1⟩ (fun hHeld => ?_)
 clear hK K
 refine ZNO 10 ?_
 exact norm_ (by simp only [putAll, Act.put, List.setIfInBounds_toArray, List.set_cons_zero, List.set_cons_succ]) (hCont (v281) _ ⟨hHeld, (ZR HO282.out), (ZK BK276.out), (ZB)⟩)))
 rintro v281 w13 ⟨hS_, h0_, h1_, h2_⟩
 try dsimp only at h0_ h1_ h2_
 have n0_ := AM h0_
 have n1_ := AM h1_
 have n2_ := AM h2_
 clear BK276 HB h0_ h1_ h2_
 have HO282 := n0_
 have BK276 := n1_
 have HB := n2_
 clear n0_ n1_ n2_
 try dsimp only at hS_
 have hHeld := hS_
 obtain ⟨Ao14, co14, eo14⟩ := Kd.R_slice HO282.out
 (first | subst eo14 | (injection eo14 with f1_ f2_ f3_; have f4_ := f1_.symm; have f5_ := f3_.symm; clear f1_ f2_ f3_; subst f4_; subst f5_))
 refine ZNP ?_
 refine one_ (i := 5) (N := some 12) #[T,T,T,T,T,T,F] rfl rfl (by kernel_rfl) (by decide) (fun K hK => ?_)
 refine ZGO Try.func53 #[.agg #[.slice A0_0 l0_0.length c0_0, .slice A0_1 l0_1.length c0_1], .slice A0_1 l0_1.length c0_1, .agg #[.int .i64 t278, .int .i64 t279], .slice Ao14 y280.length co14] ?_
 with_reducible refine (spec_l11At.calls k _ _ l0_0 _ _ l0_1 _ _ l0_1 t278 t279 (fun k_ => some k_ = (.slice Ao14 y280.length co14 : Value).ownBlock) (.slice Ao14 y280.length co14) y280 t283 w _ ?side1 ?side2 ?side3 ?side4 ?side5 ?side6 ?side7 ?side8 A5.out).mono ?_
 (case side1 => repeat (first | (with_reducible first | exact HB.out | apply below_alloc | apply pw_below_drewN | apply below_drew1 | refine below_set ?_ GW276.out) | exact HB.out))
 (case side2 => exact Kd.C_kept_came k39_heap HR0_0.out (ZB) (fun k_ hs_ => (fun e_ => Kd.R_base HO282.out k_ e_.symm) hs_))
 (case side3 => exact HC0_0.out)
 (case side4 => exact Kd.C_kept_came k32_heap HR0_1.out (ZB) (fun k_ hs_ => (fun e_ => Kd.R_base HO282.out k_ e_.symm) hs_))
 (case side5 => exact HC0_1.out)
 (case side6 => exact Kd.C_kept_came k32_heap HR0_1.out (ZB) (fun k_ hs_ => (fun e_ => Kd.R_base HO282.out k_ e_.symm) hs_))
 (case side7 => exact HC0_1.out)
 (case side8 => exact Kd.R_tight rfl HO282.out)
 rintro e w15 ⟨v284, rfl, ho0, hb, hkp⟩
 refine ⟨_, rfl, ?_⟩
 have n0_ := AM (blk_kept (ZK BK276.out) hkp (fun hs_ => (fun e_ => (Kd.R_ne HO282.out BK276.out (by decide)) e_) hs_))
 have n1_ := AM (Kd.R_mono (ok' := fun k_ => True) ho0 (fun k_ hk_ => trivial))
 have n2_ := AM (hb)
 clear BK276 HB HO282
 have BK276 := n0_
 have HO285 := n1_
 have HB := n2_
 clear n0_ n1_ n2_
 (try clear hb)
 (try clear hkp)
 (try clear ho0)
 refine hK.out _ _ ⟨ZA BK276 0, ZA BK276 1⟩ (fun hHeld => ?_)
 clear hK K
 refine ZNO 12 ?_
 refine pure_ (i := 6) (N := some 2) (v := ?_) (a' := ?_) #[T,T,T,T,T,T,T] rfl rfl (by kernel_rfl) (fun _ _ _ h => h) (Or.inl ⟨by rfl, ?_⟩) ?_ ?_
 rotate_left
 ·(
 intro w'
 go_simp
 with_reducible rfl)
 rotate_left
 ·(
 simp only [Act.put, List.setIfInBounds_toArray, List.set_cons_zero, List.set_cons_succ, i64_w, i32_w]
 rfl)
 refine done_ (by kernel_rfl) ?_
 try go_wp2
 go_ret
 exact ⟨_, ZE, by (with_reducible repeat (first | apply Kd.R_alloc | apply Kd.R_drewN | apply Kd.R_drew)); exact HO285.out, ZB⟩)
 ·(
 replace c3 := Bool.eq_false_iff.mpr c3
 subst c3
 have H1 := H; rw [if_neg ZFT] at H1
 clear H
 have H := H1
 clear H1
 obtain ⟨y286, hy286⟩ : ∃ y_ : List (S39), y_ = (([] : List (S39))) := ⟨_, rfl⟩
 replace H : (some y286) = some r := by first | (rw [hy286]; with_reducible exact H) | (have H2_ := (Option.bind_some _ _).symm.trans H; rw [hy286]; with_reducible exact H2_) | (have H2_ := (Option.bind_some _ _).symm.trans H; with_reducible exact H2_) | with_reducible exact H | (rw [hy286]; exact H) | exact H
 have Ny286 := AM hy286
 clear hy286
 obtain rfl := Option.some.inj H
 go_enter Try.func33, Try.ntmps33
 go_wp2_with (first | ((with_reducible refine gate_dst (N := 1) rfl ?_); refine ZX (N := 1) (cs := #[.slice A0_0 l0_0.length c0_0, .slice A0_1 l0_1.length c0_1]) (t := 26) ?_; intro gb276 hg w16 hbox hb; have BK276 := AM (hbox); have GW276 : Za (w.heap.size ≤ gb276) := ZS hg; replace HB := ZT HB hb; clear hb hbox hg; have hcz17 := ZC2 w16 BK276; have hfz17 := ZF2 BK276) | ((with_reducible refine gate_callee (f := 19) rfl ?_); refine ZGL (some 4) Try.func19 #[.agg #[.slice A0_0 l0_0.length c0_0, .slice A0_1 l0_1.length c0_1]] ?_; (with_reducible refine (spec_ProgOk.calls k _ _ l0_0 _ _ l0_1 false _ (ZQ (Kd.C_below HR0_0.out HB.out)) HC0_0.out (ZQ (Kd.C_below HR0_1.out HB.out)) HC0_1.out A2.out).mono ?_); rintro e w18 ⟨rfl, hb⟩; refine ⟨_, rfl, ?_⟩; replace BK276 := ZW BK276 hb; replace HB := ZT HB hb; clear hb) | ((with_reducible refine gate_dst (N := 6) rfl ?_); refine Kd.R_lit k39 _ 39 ?hg (N := 6) ?hd (xs := ([] : List (S39))) (inner := []) (ok := fun _ => True) (okp := fun _ => True) ?hr ?hp (fun _ hk => hk) trivial (Below.refl _ _) (Nat.le_refl _) (by simp) ?_; (case hd => rfl); (case hg => rfl); (case hr => first | (go_simp; done) | (go_simp; rfl)); (case hp => exact (Reps.none _ _)); intro v287 w19 ho20 hb hg_ hnew_; clear hg_ hnew_; (first | rw [← Ny286.out] at ho20 | (simp only [Int.reduceToNat] at ho20; rw [← Ny286.out] at ho20)); have HO288 := AM (Kd.R_lower ho20 (below_size (ZB))); replace BK276 := ZW BK276 hb; replace HB := ZT HB hb; clear hb ho20))
 go_ret
 exact ⟨_, ZE, by (with_reducible repeat (first | apply Kd.R_alloc | apply Kd.R_drewN | apply Kd.R_drew)); exact HO288.out, ZB⟩)


/-! ### spec_l11Val: function 64 -/
def spec_l11Val.f (k : Nat) (l0_0 : List (S39)) (l0_1 : List (S32)) (a1_0 : Int) (a1_1 : Int) (a1_2 : Int) : Option (Int × Int) := (spec_l11Any.f).bind fun bt321 => (if a1_0 = 1 then (if a1_0 = 3 then (if 0 ≤ a1_2 then (if a1_2 < (l0_0.length : Int) then ((spec_LabelBoth.f k bt321.1 bt321.2 ((D39 l0_0 a1_2).f0) ((D39 l0_0 a1_2).f1)).bind fun bt325 => (some (bt325.1, bt325.2))) else (none)) else (none)) else (if a1_0 = 4 then (if 0 ≤ a1_2 then (if a1_2 < (l0_0.length : Int) then ((spec_LabelBoth.f k bt321.1 bt321.2 ((D39 l0_0 a1_2).f0) ((D39 l0_0 a1_2).f1)).bind fun bt328 => (some (bt328.1, bt328.2))) else (none)) else (none)) else (some (bt321.1, bt321.2)))) else (if 0 ≤ a1_1 then (if a1_1 < (l0_0.length : Int) then ((spec_LabelBoth.f k bt321.1 bt321.2 ((D39 l0_0 a1_1).f0) ((D39 l0_0 a1_1).f1)).bind fun bt331 => (if a1_0 = 3 then (if 0 ≤ a1_2 then (if a1_2 < (l0_0.length : Int) then ((spec_LabelBoth.f k bt331.1 bt331.2 ((D39 l0_0 a1_2).f0) ((D39 l0_0 a1_2).f1)).bind fun bt334 => (some (bt334.1, bt334.2))) else (none)) else (none)) else (if a1_0 = 4 then (if 0 ≤ a1_2 then (if a1_2 < (l0_0.length : Int) then ((spec_LabelBoth.f k bt331.1 bt331.2 ((D39 l0_0 a1_2).f0) ((D39 l0_0 a1_2).f1)).bind fun bt337 => (some (bt337.1, bt337.2))) else (none)) else (none)) else (some (bt331.1, bt331.2))))) else (none)) else (none)))
def spec_l11Val.T3 : Bool × List (List Nat × List Nat) := (true, [([], []), ([], []), ([1], [1]), ([], []), ([3], [3]), ([2, 4], [2, 4]), ([5], [5]), ([0, 6], [0, 6]), ([7, 7, 0, 1, 2, 3, 4, 5, 6, 7], [7])])
def spec_l11Val.B3 : List Nat := [0, 0, 2, 0, 8, 30, 62, 127, 255]
theorem spec_l11Val.tab3 : rtab .any (opsOf Try.f64 3) = spec_l11Val.T3 := by kernel_rfl
theorem spec_l11Val.bits3 : waitsOk spec_l11Val.T3.2 spec_l11Val.B3 = true := by kernel_rfl
def spec_l11Val.T5 : Bool × List (List Nat × List Nat) := (true, [([], []), ([], []), ([1], [1]), ([], []), ([3], [3]), ([2, 4], [2, 4]), ([5], [5]), ([0, 6], [0, 6]), ([7, 7, 0, 1, 2, 3, 4, 5, 6, 7], [7])])
def spec_l11Val.B5 : List Nat := [0, 0, 2, 0, 8, 30, 62, 127, 255]
theorem spec_l11Val.tab5 : rtab .any (opsOf Try.f64 5) = spec_l11Val.T5 := by kernel_rfl
theorem spec_l11Val.bits5 : waitsOk spec_l11Val.T5.2 spec_l11Val.B5 = true := by kernel_rfl
theorem spec_l11Val.calls (k : Nat) (A0_0 : Option Addr) (c0_0 : Nat) (l0_0 : List (S39)) (A0_1 : Option Addr) (c0_1 : Nat) (l0_1 : List (S32)) (a1_0 : Int) (a1_1 : Int) (a1_2 : Int) (r1 : Int) (r2 : Int) (w : World) (hr0_0 : Kd.C k39 w A0_0 l0_0.length l0_0) (hc0_0 : l0_0.length ≤ c0_0) (hr0_1 : Kd.C k32 w A0_1 l0_1.length l0_1) (hc0_1 : l0_1.length ≤ c0_1) (h : spec_l11Val.f k l0_0 l0_1 a1_0 a1_1 a1_2 = some (r1, r2)) :
  Calls Try.prog 64 #[.agg #[.slice A0_0 l0_0.length c0_0, .slice A0_1 l0_1.length c0_1], .agg #[.int .i64 a1_0, .int .i64 a1_1, .int .i64 a1_2]] w fun e w' => e = .returned (.agg #[.int .i64 r1, .int .i64 r2]) ∧ Below w.heap.size w w' := by
 have hu26 := Try.underlying26
 have hu30 := Try.underlying30
 have hu39 := Try.underlying39
 have HR0_0 := AM hr0_0
 have HC0_0 := AM hc0_0
 clear hr0_0 hc0_0
 have HR0_1 := AM hr0_1
 have HC0_1 := AM hc0_1
 clear hr0_1 hc0_1
 have HB := AM (Below.refl w.heap.size w)
 have H := h
 unfold spec_l11Val.f at H
 clear h
 obtain ⟨⟨t321, t322⟩, A3, H⟩ := ZOB H; try dsimp only at H
 by_cases c4 : a1_0 = 1
 focus (
 rw [if_pos c4] at H
 have c4b0 := beq_iff_eq.mpr c4
 have c4b1 := bne_eq_false_iff_eq.mpr c4
 clear c4
 by_cases c5 : a1_0 = 3
 focus (
 rw [if_pos c5] at H
 have c5b0 := beq_iff_eq.mpr c5
 have c5b1 := bne_eq_false_iff_eq.mpr c5
 clear c5
 by_cases c6 : 0 ≤ a1_2
 focus (
 rw [if_pos c6] at H
 have c6b0 := decide_eq_true c6
 clear c6
 by_cases c7 : a1_2 < (l0_0.length : Int)
 focus (
 rw [if_pos c7] at H
 have c7b0 := decide_eq_true c7
 clear c7
 obtain ⟨⟨t325, t326⟩, A8, H⟩ := ZOB H; try dsimp only at H
 simp only [Option.some.injEq, Prod.mk.injEq] at H
 obtain ⟨rfl, rfl⟩ := H
 have tag0_ : Za True := ⟨trivial⟩)
 rotate_left
 focus (
 exact ZNE H c7))
 rotate_left
 focus (
 exact ZNE H c6))
 rotate_left
 focus (
 rw [if_neg c5] at H
 have c5b0 := beq_eq_false_iff_ne.mpr c5
 have c5b1 := bne_iff_ne.mpr c5
 by_cases c29 : a1_0 = 4
 focus (
 rw [if_pos c29] at H
 have c29b0 := beq_iff_eq.mpr c29
 have c29b1 := bne_eq_false_iff_eq.mpr c29
 clear c29
 by_cases c30 : 0 ≤ a1_2
 focus (
 rw [if_pos c30] at H
 have c30b0 := decide_eq_true c30
 clear c30
 by_cases c31 : a1_2 < (l0_0.length : Int)
 focus (
 rw [if_pos c31] at H
 have c31b0 := decide_eq_true c31
 clear c31
 obtain ⟨⟨t328, t329⟩, A32, H⟩ := ZOB H; try dsimp only at H
 simp only [Option.some.injEq, Prod.mk.injEq] at H
 obtain ⟨rfl, rfl⟩ := H
 have tag1_ : Za True := ⟨trivial⟩)
 rotate_left
 focus (
 exact ZNE H c31))
 rotate_left
 focus (
 exact ZNE H c30))
 rotate_left
 focus (
 rw [if_neg c29] at H
 have c29b0 := beq_eq_false_iff_ne.mpr c29
 have c29b1 := bne_iff_ne.mpr c29
 simp only [Option.some.injEq, Prod.mk.injEq] at H
 obtain ⟨rfl, rfl⟩ := H
 have tag2_ : Za True := ⟨trivial⟩)
 rotate_left)
 rotate_left 2)
 rotate_left 3
 focus (
 rw [if_neg c4] at H
 have c4b0 := beq_eq_false_iff_ne.mpr c4
 have c4b1 := bne_iff_ne.mpr c4
 by_cases c67 : 0 ≤ a1_1
 focus (
 rw [if_pos c67] at H
 have c67b0 := decide_eq_true c67
 clear c67
 by_cases c68 : a1_1 < (l0_0.length : Int)
 focus (
 rw [if_pos c68] at H
 have c68b0 := decide_eq_true c68
 clear c68
 obtain ⟨⟨t331, t332⟩, A69, H⟩ := ZOB H; try dsimp only at H
 by_cases c70 : a1_0 = 3
 focus (
 rw [if_pos c70] at H
 have c70b0 := beq_iff_eq.mpr c70
 have c70b1 := bne_eq_false_iff_eq.mpr c70
 clear c70
 by_cases c71 : 0 ≤ a1_2
 focus (
 rw [if_pos c71] at H
 have c71b0 := decide_eq_true c71
 clear c71
 by_cases c72 : a1_2 < (l0_0.length : Int)
 focus (
 rw [if_pos c72] at H
 have c72b0 := decide_eq_true c72
 clear c72
 obtain ⟨⟨t334, t335⟩, A73, H⟩ := ZOB H; try dsimp only at H
 simp only [Option.some.injEq, Prod.mk.injEq] at H
 obtain ⟨rfl, rfl⟩ := H
 have tag3_ : Za True := ⟨trivial⟩)
 rotate_left
 focus (
 exact ZNE H c72))
 rotate_left
 focus (
 exact ZNE H c71))
 rotate_left
 focus (
 rw [if_neg c70] at H
 have c70b0 := beq_eq_false_iff_ne.mpr c70
 have c70b1 := bne_iff_ne.mpr c70
 by_cases c100 : a1_0 = 4
 focus (
 rw [if_pos c100] at H
 have c100b0 := beq_iff_eq.mpr c100
 have c100b1 := bne_eq_false_iff_eq.mpr c100
 clear c100
 by_cases c101 : 0 ≤ a1_2
 focus (
 rw [if_pos c101] at H
 have c101b0 := decide_eq_true c101
 clear c101
 by_cases c102 : a1_2 < (l0_0.length : Int)
 focus (
 rw [if_pos c102] at H
 have c102b0 := decide_eq_true c102
 clear c102
 obtain ⟨⟨t337, t338⟩, A103, H⟩ := ZOB H; try dsimp only at H
 simp only [Option.some.injEq, Prod.mk.injEq] at H
 obtain ⟨rfl, rfl⟩ := H
 have tag4_ : Za True := ⟨trivial⟩)
 rotate_left
 focus (
 exact ZNE H c102))
 rotate_left
 focus (
 exact ZNE H c101))
 rotate_left
 focus (
 rw [if_neg c100] at H
 have c100b0 := beq_eq_false_iff_ne.mpr c100
 have c100b1 := bne_iff_ne.mpr c100
 simp only [Option.some.injEq, Prod.mk.injEq] at H
 obtain ⟨rfl, rfl⟩ := H
 have tag5_ : Za True := ⟨trivial⟩)
 rotate_left)
 rotate_left 2)
 rotate_left 3
 focus (
 exact ZNE H c68))
 rotate_left 3
 focus (
 exact ZNE H c67))
 rotate_left 3
 all_goals (
 go_enter Try.func64, Try.ntmps64
 first
 | (
 (first | (have z_ := tag0_; clear z_) | (have z_ := tag1_; clear z_) | (have z_ := tag3_; clear z_) | (have z_ := tag4_; clear z_) | (have z_ := tag5_; clear z_))
 try go_wp2_with (first | ((with_reducible refine gate_dst (N := 2) rfl ?_); refine ZX (N := 2) (cs := #[.slice A0_0 l0_0.length c0_0, .slice A0_1 l0_1.length c0_1]) (t := 26) ?_; intro gbq0 hg wq0 hbox hb; have BKq0 := AM (hbox); have GWq0 : Za (w.heap.size ≤ gbq0) := ZS hg; replace HB := ZT HB hb; clear hb hbox hg) | ((with_reducible refine gate_dst (N := 3) rfl ?_); refine ZX (N := 3) (cs := #[.int .i64 a1_0, .int .i64 a1_1, .int .i64 a1_2]) (t := 30) ?_; intro gbq1 hg wq1 hbox hb; have BKq1 := AM (hbox); have GWq1 : Za (w.heap.size ≤ gbq1) := ZS hg; have NBq0_319 : Za (gbq0 ≠ gbq1) := ZN hg BKq0; have NBq1_318 : Za (gbq1 ≠ gbq0) := ZM hg BKq0; replace BKq0 := ZW BKq0 hb; replace HB := ZT HB hb; clear hb hbox hg) | ((with_reducible refine gate_dst (N := 4) rfl ?_); refine ZX (N := 4) (cs := #[.int .i64 0, .int .i64 0]) (t := 39) ?_; intro gbq2 hg wq2 hbox hb; have BKq2 := AM (hbox); have GWq2 : Za (w.heap.size ≤ gbq2) := ZS hg; have NBq0_320 : Za (gbq0 ≠ gbq2) := ZN hg BKq0; have NBq2_318 : Za (gbq2 ≠ gbq0) := ZM hg BKq0; have NBq1_320 : Za (gbq1 ≠ gbq2) := ZN hg BKq1; have NBq2_319 : Za (gbq2 ≠ gbq1) := ZM hg BKq1; replace BKq0 := ZW BKq0 hb; replace BKq1 := ZW BKq1 hb; replace HB := ZT HB hb; clear hb hbox hg) | ((with_reducible refine gate_callee (f := 54) rfl ?_); refine ZGL (some 6) Try.func54 #[] ?_; (with_reducible refine (spec_l11Any.calls  t321 t322 _ A3.out).mono ?_); rintro e wq3 ⟨rfl, hb⟩; refine ⟨_, rfl, ?_⟩; replace BKq0 := ZW BKq0 hb; replace BKq1 := ZW BKq1 hb; replace BKq2 := ZW BKq2 hb; replace HB := ZT HB hb; clear hb) | ((with_reducible refine gate_dst (N := 5) rfl ?_); refine ZX (N := 5) (cs := #[.int .i64 0, .int .i64 0]) (t := 39) ?_; intro gbq3 hg wq4 hbox hb; have BKq3 := AM (hbox); have GWq3 : Za (w.heap.size ≤ gbq3) := ZS hg; have NBq0_323 : Za (gbq0 ≠ gbq3) := ZN hg BKq0; have NBq3_318 : Za (gbq3 ≠ gbq0) := ZM hg BKq0; have NBq1_323 : Za (gbq1 ≠ gbq3) := ZN hg BKq1; have NBq3_319 : Za (gbq3 ≠ gbq1) := ZM hg BKq1; have NBq2_323 : Za (gbq2 ≠ gbq3) := ZN hg BKq2; have NBq3_320 : Za (gbq3 ≠ gbq2) := ZM hg BKq2; replace BKq0 := ZW BKq0 hb; replace BKq1 := ZW BKq1 hb; replace BKq2 := ZW BKq2 hb; replace HB := ZT HB hb; clear hb hbox hg; have hnbq0 := NBq3_318.out; have hncq0 := NBq0_323.out; have hnbq1 := NBq3_319.out; have hncq1 := NBq1_323.out; have hnbq2 := NBq3_320.out; have hncq2 := NBq2_323.out; have hczq0 := ZC2 wq4 BKq3; have hfzq0 := ZF2 BKq3; have hnbq3 := NBq1_318.out; have hncq3 := NBq0_319.out; have hnbq4 := NBq1_320.out; have hncq4 := NBq2_319.out; have hczq1 := ZC3 wq4 BKq1; have hfzq1 := ZF3 BKq1))
 have nq0_ : Za (((wq4.setCell ⟨gbq3, 0, none⟩ (.int .i64 t321)).setCell ⟨gbq3, 1, none⟩ (.int .i64 t322)).heap[gbq0]? = some (.cells #[.slice A0_0 l0_0.length c0_0, .slice A0_1 l0_1.length c0_1] 26 (0, 0))) := ⟨ZZ BKq0.out⟩
 have nq1_ : Za (((wq4.setCell ⟨gbq3, 0, none⟩ (.int .i64 t321)).setCell ⟨gbq3, 1, none⟩ (.int .i64 t322)).heap[gbq1]? = some (.cells #[.int .i64 a1_0, .int .i64 a1_1, .int .i64 a1_2] 30 (0, 0))) := ⟨ZZ BKq1.out⟩
 have nq2_ : Za (((wq4.setCell ⟨gbq3, 0, none⟩ (.int .i64 t321)).setCell ⟨gbq3, 1, none⟩ (.int .i64 t322)).heap[gbq2]? = some (.cells #[.int .i64 0, .int .i64 0] 39 (0, 0))) := ⟨ZZ BKq2.out⟩
 have nq3_ : Za (((wq4.setCell ⟨gbq3, 0, none⟩ (.int .i64 t321)).setCell ⟨gbq3, 1, none⟩ (.int .i64 t322)).heap[gbq3]? = some (.cells #[.int .i64 t321, .int .i64 t322] 39 (0, 0))) := ⟨ZZ BKq3.out⟩
 have nq4_ : Za (Below w.heap.size w ((wq4.setCell ⟨gbq3, 0, none⟩ (.int .i64 t321)).setCell ⟨gbq3, 1, none⟩ (.int .i64 t322))) := ⟨ZB⟩
 (try clear BKq0)
 (try clear BKq1)
 (try clear BKq2)
 (try clear BKq3)
 (try clear HB)
 generalize ((wq4.setCell ⟨gbq3, 0, none⟩ (.int .i64 t321)).setCell ⟨gbq3, 1, none⟩ (.int .i64 t322)) = wq5 at nq0_ nq1_ nq2_ nq3_ nq4_ ⊢
 have BKq0 := nq0_
 have BKq1 := nq1_
 have BKq2 := nq2_
 have BKq3 := nq3_
 have HB := nq4_
 clear nq0_ nq1_ nq2_ nq3_ nq4_
 replace BKq0 := AM (blk_drew BKq0.out)
 replace BKq1 := AM (blk_drew BKq1.out)
 replace BKq2 := AM (blk_drew BKq2.out)
 replace BKq3 := AM (blk_drew BKq3.out)
 replace HB := AM (below_drew1 HB.out)
 first
 | (
 (first | (have z_ := tag0_; clear z_) | (have z_ := tag1_; clear z_))
 have pq0 : 0 ≤ (a1_2 : Int) := ZD
 have qq0 : a1_2 < (l0_0.length : Int) := ZD
 obtain ⟨adq0, eq0, hxq0_0, hxq0_1⟩ := at_T39 HR0_0.out a1_2 pq0 qq0
 have hwq0_1 := hxq0_1
 have hwq0_0 := hxq0_0
 cases eq0
 replace hxq0_0 := ZHX HB hxq0_0
 replace hxq0_1 := ZHX HB hxq0_1
 replace pq0 := eq_true pq0
 replace qq0 := eq_true qq0
 refine start_ (n := 9) (S := fun w' => w'.cell? ⟨gbq3, 0, none⟩ = some (.int .i64 t321) ∧ w'.cell? ⟨gbq3, 1, none⟩ = some (.int .i64 t322) ∧ w'.cell? ⟨gbq0, 0, none⟩ = some (.slice (some adq0) l0_0.length c0_0) ∧ w'.cell? ⟨gbq0, 1, none⟩ = some (.slice A0_1 l0_1.length c0_1) ∧ w'.cell? ⟨gbq1, 0, none⟩ = some (.int .i64 a1_0) ∧ w'.cell? ⟨gbq1, 1, none⟩ = some (.int .i64 a1_1) ∧ w'.cell? ⟨gbq1, 2, none⟩ = some (.int .i64 a1_2) ∧ w'.cell? (adq0.add ((a1_2).toNat * 2)) = some (.int .i64 ((D39 l0_0 a1_2).f0)) ∧ w'.cell? ⟨(adq0.add ((a1_2).toNat * 2)).block, (adq0.add ((a1_2).toNat * 2)).off + 1, none⟩ = some (.int .i64 ((D39 l0_0 a1_2).f1))) (ds := [8]) #[F,F,F,F,F,F,F,F,F] (by kernel_rfl) rfl rfl ⟨ZA BKq3 0, ZA BKq3 1, ZA BKq0 0, ZA BKq0 1, ZA BKq1 0, ZA BKq1 1, ZA BKq1 2, ((HB.out.cell (World.block_lt_of_cell? w _ hwq0_0)).trans hwq0_0), ((HB.out.cell (World.block_lt_of_cell? w _ hwq0_1)).trans hwq0_1)⟩ (fun hHeld => ?_); refine with_tabW spec_l11Val.tab5 spec_l11Val.bits5 (fun HT_ HW_ => ?_)
 generalize wq5.drew = wq6 at BKq0 BKq1 BKq2 BKq3 HB hxq0_0 hxq0_1 hHeld ⊢
 refine ZU 1 27 #[F,T,F,F,F,F,F,F,F] ?_
 refine ZU 3 29 #[F,T,F,T,F,F,F,F,F] ?_
 refine ZTK 0 26 #[T,T,F,T,F,F,F,F,F] hHeld ?_
 refine ZTK 2 28 #[T,T,T,T,F,F,F,F,F] hHeld ?_
 refine ZTK 4 30 #[T,T,T,T,T,F,F,F,F] hHeld ?_
 refine ZU 5 31 #[T,T,T,T,T,T,F,F,F] ?_
 refine ZTK 6 32 #[T,T,T,T,T,T,T,F,F] hHeld ?_
 refine one_ (i := 7) (N := some 33) #[T,T,T,T,T,T,T,T,F] rfl rfl (one_of HT_.out (by kernel_rfl)) (by decide) (fun K hK => ?_)
 refine ZGO Try.func63 #[.agg #[.int .i64 t321, .int .i64 t322], .agg #[.int .i64 ((D39 l0_0 a1_2).f0), .int .i64 ((D39 l0_0 a1_2).f1)]] ?_
 first
 | (
 (have z_ := tag0_; clear z_)
 with_reducible refine (spec_LabelBoth.calls k t321 t322 ((D39 l0_0 a1_2).f0) ((D39 l0_0 a1_2).f1) t325 t326 _ A8.out).mono ?_
 rintro e wq7 ⟨rfl, hb⟩
 refine ⟨_, rfl, ?_⟩
 replace BKq0 := ZW BKq0 hb
 replace BKq1 := ZW BKq1 hb
 replace BKq2 := ZW BKq2 hb
 replace BKq3 := ZW BKq3 hb
 replace HB := ZT HB hb
 (try clear hb)
 (try clear hb2)
 (try clear hk)
 (try clear hi)
 refine hK.out _ _ ⟨ZA BKq3 0, ZA BKq3 1, ZA BKq0 0, ZA BKq0 1, ZA BKq1 0, ZA BKq1 1, ZA BKq1 2, ((HB.out.cell (World.block_lt_of_cell? w _ hwq0_0)).trans hwq0_0), ((HB.out.cell (World.block_lt_of_cell? w _ hwq0_1)).trans hwq0_1)⟩ (fun hHeld => ?_)
 clear hK K
 refine ZNO 33 ?_
 refine last_ (i := 8) (N := none) #[T,T,T,T,T,T,T,T,T] rfl rfl (one_of HT_.out (by kernel_rfl)) (by decide) (fun K hK => ?_)
 have hsq0 : wq7.cell? ⟨gbq3, 0, none⟩ = some (.int .i64 t321) := ZA BKq3 0
 have hfsq0 := blk_frozen BKq3.out 0
 have hnsq0_0 := NBq0_323.out
 have hnsq0_1 := NBq1_323.out
 have hnsq0_2 := NBq2_323.out
 have hmsq0_0 := NBq3_318.out
 have hmsq0_1 := NBq3_319.out
 have hmsq0_2 := NBq3_320.out
 have hsq1 : wq7.cell? ⟨gbq3, 1, none⟩ = some (.int .i64 t322) := ZA BKq3 1
 have hfsq1 := blk_frozen BKq3.out 1
 have hnsq1_0 := NBq0_323.out
 have hnsq1_1 := NBq1_323.out
 have hnsq1_2 := NBq2_323.out
 have hmsq1_0 := NBq3_318.out
 have hmsq1_1 := NBq3_319.out
 have hmsq1_2 := NBq3_320.out
 refine skip_ (w1 := ?_) (by rfl) rfl ?_ ?_
 rotate_left
 ·(
 go_simp
 rfl)
 refine hK.out _ _ ?_
 clear hK K
 refine done_ (done_of HT_.out (by kernel_rfl)) ?_
 have hczq2 := ZC2 wq7 BKq3
 have hfzq2 := ZF2 BKq3
 have hnbq5 := NBq2_318.out
 have hncq5 := NBq0_320.out
 have hczq3 := ZC2 wq7 BKq2
 have hfzq3 := ZF2 BKq2
 try go_wp2
 refine bodyPost_ret (results_cell_row rfl _ _ gbq2 39 #[.int .i64 t325, .int .i64 t326] (0, 0) _ rfl (ZZ BKq2.out) Try.underlying39 rfl (by kernel_rfl)) rfl ?_
 exact ⟨ZE, ZB⟩)
 | (
 (have z_ := tag1_; clear z_)
 with_reducible refine (spec_LabelBoth.calls k t321 t322 ((D39 l0_0 a1_2).f0) ((D39 l0_0 a1_2).f1) t328 t329 _ A32.out).mono ?_
 rintro e wq7 ⟨rfl, hb⟩
 refine ⟨_, rfl, ?_⟩
 replace BKq0 := ZW BKq0 hb
 replace BKq1 := ZW BKq1 hb
 replace BKq2 := ZW BKq2 hb
 replace BKq3 := ZW BKq3 hb
 replace HB := ZT HB hb
 (try clear hb)
 (try clear hb2)
 (try clear hk)
 (try clear hi)
 refine hK.out _ _ ⟨ZA BKq3 0, ZA BKq3 1, ZA BKq0 0, ZA BKq0 1, ZA BKq1 0, ZA BKq1 1, ZA BKq1 2, ((HB.out.cell (World.block_lt_of_cell? w _ hwq0_0)).trans hwq0_0), ((HB.out.cell (World.block_lt_of_cell? w _ hwq0_1)).trans hwq0_1)⟩ (fun hHeld => ?_)
 clear hK K
 refine ZNO 33 ?_
 refine last_ (i := 8) (N := none) #[T,T,T,T,T,T,T,T,T] rfl rfl (one_of HT_.out (by kernel_rfl)) (by decide) (fun K hK => ?_)
 have hsq0 : wq7.cell? ⟨gbq3, 0, none⟩ = some (.int .i64 t321) := ZA BKq3 0
 have hfsq0 := blk_frozen BKq3.out 0
 have hnsq0_0 := NBq0_323.out
 have hnsq0_1 := NBq1_323.out
 have hnsq0_2 := NBq2_323.out
 have hmsq0_0 := NBq3_318.out
 have hmsq0_1 := NBq3_319.out
 have hmsq0_2 := NBq3_320.out
 have hsq1 : wq7.cell? ⟨gbq3, 1, none⟩ = some (.int .i64 t322) := ZA BKq3 1
 have hfsq1 := blk_frozen BKq3.out 1
 have hnsq1_0 := NBq0_323.out
 have hnsq1_1 := NBq1_323.out
 have hnsq1_2 := NBq2_323.out
 have hmsq1_0 := NBq3_318.out
 have hmsq1_1 := NBq3_319.out
 have hmsq1_2 := NBq3_320.out
 refine skip_ (w1 := ?_) (by rfl) rfl ?_ ?_
 rotate_left
 ·(
 go_simp
 rfl)
 refine hK.out _ _ ?_
 clear hK K
 refine done_ (done_of HT_.out (by kernel_rfl)) ?_
 have hczq2 := ZC2 wq7 BKq3
 have hfzq2 := ZF2 BKq3
 have hnbq5 := NBq2_318.out
 have hncq5 := NBq0_320.out
 have hczq3 := ZC2 wq7 BKq2
 have hfzq3 := ZF2 BKq2
 try go_wp2
 refine bodyPost_ret (results_cell_row rfl _ _ gbq2 39 #[.int .i64 t328, .int .i64 t329] (0, 0) _ rfl (ZZ BKq2.out) Try.underlying39 rfl (by kernel_rfl)) rfl ?_
 exact ⟨ZE, ZB⟩))
 | (
 (first | (have z_ := tag3_; clear z_) | (have z_ := tag4_; clear z_) | (have z_ := tag5_; clear z_))
 have pq0 : 0 ≤ (a1_1 : Int) := ZD
 have qq0 : a1_1 < (l0_0.length : Int) := ZD
 obtain ⟨adq0, eq0, hxq0_0, hxq0_1⟩ := at_T39 HR0_0.out a1_1 pq0 qq0
 have hwq0_1 := hxq0_1
 have hwq0_0 := hxq0_0
 cases eq0
 replace hxq0_0 := ZHX HB hxq0_0
 replace hxq0_1 := ZHX HB hxq0_1
 replace pq0 := eq_true pq0
 replace qq0 := eq_true qq0
 refine start_ (n := 9) (S := fun w' => w'.cell? ⟨gbq3, 0, none⟩ = some (.int .i64 t321) ∧ w'.cell? ⟨gbq3, 1, none⟩ = some (.int .i64 t322) ∧ w'.cell? ⟨gbq0, 0, none⟩ = some (.slice (some adq0) l0_0.length c0_0) ∧ w'.cell? ⟨gbq0, 1, none⟩ = some (.slice A0_1 l0_1.length c0_1) ∧ w'.cell? ⟨gbq1, 0, none⟩ = some (.int .i64 a1_0) ∧ w'.cell? ⟨gbq1, 1, none⟩ = some (.int .i64 a1_1) ∧ w'.cell? ⟨gbq1, 2, none⟩ = some (.int .i64 a1_2) ∧ w'.cell? (adq0.add ((a1_1).toNat * 2)) = some (.int .i64 ((D39 l0_0 a1_1).f0)) ∧ w'.cell? ⟨(adq0.add ((a1_1).toNat * 2)).block, (adq0.add ((a1_1).toNat * 2)).off + 1, none⟩ = some (.int .i64 ((D39 l0_0 a1_1).f1))) (ds := [8]) #[F,F,F,F,F,F,F,F,F] (by kernel_rfl) rfl rfl ⟨ZA BKq3 0, ZA BKq3 1, ZA BKq0 0, ZA BKq0 1, ZA BKq1 0, ZA BKq1 1, ZA BKq1 2, ((HB.out.cell (World.block_lt_of_cell? w _ hwq0_0)).trans hwq0_0), ((HB.out.cell (World.block_lt_of_cell? w _ hwq0_1)).trans hwq0_1)⟩ (fun hHeld => ?_); refine with_tabW spec_l11Val.tab3 spec_l11Val.bits3 (fun HT_ HW_ => ?_)
 generalize wq5.drew = wq6 at BKq0 BKq1 BKq2 BKq3 HB hxq0_0 hxq0_1 hHeld ⊢
 refine ZU 1 11 #[F,T,F,F,F,F,F,F,F] ?_
 refine ZU 3 13 #[F,T,F,T,F,F,F,F,F] ?_
 refine ZTK 0 10 #[T,T,F,T,F,F,F,F,F] hHeld ?_
 refine ZTK 2 12 #[T,T,T,T,F,F,F,F,F] hHeld ?_
 refine ZTK 4 14 #[T,T,T,T,T,F,F,F,F] hHeld ?_
 refine ZU 5 15 #[T,T,T,T,T,T,F,F,F] ?_
 refine ZTK 6 16 #[T,T,T,T,T,T,T,F,F] hHeld ?_
 refine one_ (i := 7) (N := some 17) #[T,T,T,T,T,T,T,T,F] rfl rfl (one_of HT_.out (by kernel_rfl)) (by decide) (fun K hK => ?_)
 refine ZGO Try.func63 #[.agg #[.int .i64 t321, .int .i64 t322], .agg #[.int .i64 ((D39 l0_0 a1_1).f0), .int .i64 ((D39 l0_0 a1_1).f1)]] ?_
 with_reducible refine (spec_LabelBoth.calls k t321 t322 ((D39 l0_0 a1_1).f0) ((D39 l0_0 a1_1).f1) t331 t332 _ A69.out).mono ?_
 rintro e wq7 ⟨rfl, hb⟩
 refine ⟨_, rfl, ?_⟩
 replace BKq0 := ZW BKq0 hb
 replace BKq1 := ZW BKq1 hb
 replace BKq2 := ZW BKq2 hb
 replace BKq3 := ZW BKq3 hb
 replace HB := ZT HB hb
 (try clear hb)
 (try clear hb2)
 (try clear hk)
 (try clear hi)
 refine hK.out _ _ ⟨ZA BKq3 0, ZA BKq3 1, ZA BKq0 0, ZA BKq0 1, ZA BKq1 0, ZA BKq1 1, ZA BKq1 2, ((HB.out.cell (World.block_lt_of_cell? w _ hwq0_0)).trans hwq0_0), ((HB.out.cell (World.block_lt_of_cell? w _ hwq0_1)).trans hwq0_1)⟩ (fun hHeld => ?_)
 clear hK K
 refine ZNO 17 ?_
 refine last_ (i := 8) (N := none) #[T,T,T,T,T,T,T,T,T] rfl rfl (one_of HT_.out (by kernel_rfl)) (by decide) (fun K hK => ?_)
 have hsq0 : wq7.cell? ⟨gbq3, 0, none⟩ = some (.int .i64 t321) := ZA BKq3 0
 have hfsq0 := blk_frozen BKq3.out 0
 have hnsq0_0 := NBq0_323.out
 have hnsq0_1 := NBq1_323.out
 have hnsq0_2 := NBq2_323.out
 have hmsq0_0 := NBq3_318.out
 have hmsq0_1 := NBq3_319.out
 have hmsq0_2 := NBq3_320.out
 have hsq1 : wq7.cell? ⟨gbq3, 1, none⟩ = some (.int .i64 t322) := ZA BKq3 1
 have hfsq1 := blk_frozen BKq3.out 1
 have hnsq1_0 := NBq0_323.out
 have hnsq1_1 := NBq1_323.out
 have hnsq1_2 := NBq2_323.out
 have hmsq1_0 := NBq3_318.out
 have hmsq1_1 := NBq3_319.out
 have hmsq1_2 := NBq3_320.out
 refine skip_ (w1 := ?_) (by rfl) rfl ?_ ?_
 rotate_left
 ·(
 go_simp
 rfl)
 refine hK.out _ _ ?_
 clear hK K
 refine done_ (done_of HT_.out (by kernel_rfl)) ?_
 have hczq2 := ZC3 wq7 BKq1
 have hfzq2 := ZF3 BKq1
 first
 | (
 (first | (have z_ := tag3_; clear z_) | (have z_ := tag4_; clear z_))
 try go_wp2
 have nq0_ : Za (((wq7.setCell ⟨gbq3, 0, none⟩ (.int .i64 t331)).setCell ⟨gbq3, 1, none⟩ (.int .i64 t332)).heap[gbq0]? = some (.cells #[.slice (some adq0) l0_0.length c0_0, .slice A0_1 l0_1.length c0_1] 26 (0, 0))) := ⟨ZZ BKq0.out⟩
 have nq1_ : Za (((wq7.setCell ⟨gbq3, 0, none⟩ (.int .i64 t331)).setCell ⟨gbq3, 1, none⟩ (.int .i64 t332)).heap[gbq1]? = some (.cells #[.int .i64 a1_0, .int .i64 a1_1, .int .i64 a1_2] 30 (0, 0))) := ⟨ZZ BKq1.out⟩
 have nq2_ : Za (((wq7.setCell ⟨gbq3, 0, none⟩ (.int .i64 t331)).setCell ⟨gbq3, 1, none⟩ (.int .i64 t332)).heap[gbq2]? = some (.cells #[.int .i64 0, .int .i64 0] 39 (0, 0))) := ⟨ZZ BKq2.out⟩
 have nq3_ : Za (((wq7.setCell ⟨gbq3, 0, none⟩ (.int .i64 t331)).setCell ⟨gbq3, 1, none⟩ (.int .i64 t332)).heap[gbq3]? = some (.cells #[.int .i64 t331, .int .i64 t332] 39 (0, 0))) := ⟨ZZ BKq3.out⟩
 have nq4_ : Za (Below w.heap.size w ((wq7.setCell ⟨gbq3, 0, none⟩ (.int .i64 t331)).setCell ⟨gbq3, 1, none⟩ (.int .i64 t332))) := ⟨ZB⟩
 (try clear BKq0)
 (try clear BKq1)
 (try clear BKq2)
 (try clear BKq3)
 (try clear HB)
 generalize ((wq7.setCell ⟨gbq3, 0, none⟩ (.int .i64 t331)).setCell ⟨gbq3, 1, none⟩ (.int .i64 t332)) = wq8 at nq0_ nq1_ nq2_ nq3_ nq4_ ⊢
 have BKq0 := nq0_
 have BKq1 := nq1_
 have BKq2 := nq2_
 have BKq3 := nq3_
 have HB := nq4_
 clear nq0_ nq1_ nq2_ nq3_ nq4_
 replace BKq0 := AM (blk_drew BKq0.out)
 replace BKq1 := AM (blk_drew BKq1.out)
 replace BKq2 := AM (blk_drew BKq2.out)
 replace BKq3 := AM (blk_drew BKq3.out)
 replace HB := AM (below_drew1 HB.out)
 have pq1 : 0 ≤ (a1_2 : Int) := ZD
 have qq1 : a1_2 < (l0_0.length : Int) := ZD
 obtain ⟨adq1, eq1, hxq1_0, hxq1_1⟩ := at_T39 HR0_0.out a1_2 pq1 qq1
 have hwq1_1 := hxq1_1
 have hwq1_0 := hxq1_0
 obtain rfl : adq0 = adq1 := (by injection eq1)
 replace hxq1_0 := ZHX HB hxq1_0
 replace hxq1_1 := ZHX HB hxq1_1
 replace pq1 := eq_true pq1
 replace qq1 := eq_true qq1
 refine start_ (n := 9) (S := fun w' => w'.cell? ⟨gbq3, 0, none⟩ = some (.int .i64 t331) ∧ w'.cell? ⟨gbq3, 1, none⟩ = some (.int .i64 t332) ∧ w'.cell? ⟨gbq0, 0, none⟩ = some (.slice (some adq0) l0_0.length c0_0) ∧ w'.cell? ⟨gbq0, 1, none⟩ = some (.slice A0_1 l0_1.length c0_1) ∧ w'.cell? ⟨gbq1, 0, none⟩ = some (.int .i64 a1_0) ∧ w'.cell? ⟨gbq1, 1, none⟩ = some (.int .i64 a1_1) ∧ w'.cell? ⟨gbq1, 2, none⟩ = some (.int .i64 a1_2) ∧ w'.cell? (adq0.add ((a1_2).toNat * 2)) = some (.int .i64 ((D39 l0_0 a1_2).f0)) ∧ w'.cell? ⟨(adq0.add ((a1_2).toNat * 2)).block, (adq0.add ((a1_2).toNat * 2)).off + 1, none⟩ = some (.int .i64 ((D39 l0_0 a1_2).f1))) (ds := [8]) #[F,F,F,F,F,F,F,F,F] (by kernel_rfl) rfl rfl ⟨ZA BKq3 0, ZA BKq3 1, ZA BKq0 0, ZA BKq0 1, ZA BKq1 0, ZA BKq1 1, ZA BKq1 2, ((HB.out.cell (World.block_lt_of_cell? w _ hwq1_0)).trans hwq1_0), ((HB.out.cell (World.block_lt_of_cell? w _ hwq1_1)).trans hwq1_1)⟩ (fun hHeld => ?_); refine with_tabW spec_l11Val.tab5 spec_l11Val.bits5 (fun HT_ HW_ => ?_)
 generalize wq8.drew = wq9 at BKq0 BKq1 BKq2 BKq3 HB hxq1_0 hxq1_1 hHeld ⊢
 refine ZU 1 27 #[F,T,F,F,F,F,F,F,F] ?_
 refine ZU 3 29 #[F,T,F,T,F,F,F,F,F] ?_
 refine ZTK 0 26 #[T,T,F,T,F,F,F,F,F] hHeld ?_
 refine ZTK 2 28 #[T,T,T,T,F,F,F,F,F] hHeld ?_
 refine ZTK 4 30 #[T,T,T,T,T,F,F,F,F] hHeld ?_
 refine ZU 5 31 #[T,T,T,T,T,T,F,F,F] ?_
 refine ZTK 6 32 #[T,T,T,T,T,T,T,F,F] hHeld ?_
 refine one_ (i := 7) (N := some 33) #[T,T,T,T,T,T,T,T,F] rfl rfl (one_of HT_.out (by kernel_rfl)) (by decide) (fun K hK => ?_)
 refine ZGO Try.func63 #[.agg #[.int .i64 t331, .int .i64 t332], .agg #[.int .i64 ((D39 l0_0 a1_2).f0), .int .i64 ((D39 l0_0 a1_2).f1)]] ?_
 first
 | (
 (have z_ := tag3_; clear z_)
 with_reducible refine (spec_LabelBoth.calls k t331 t332 ((D39 l0_0 a1_2).f0) ((D39 l0_0 a1_2).f1) t334 t335 _ A73.out).mono ?_
 rintro e wq10 ⟨rfl, hb⟩
 refine ⟨_, rfl, ?_⟩
 replace BKq0 := ZW BKq0 hb
 replace BKq1 := ZW BKq1 hb
 replace BKq2 := ZW BKq2 hb
 replace BKq3 := ZW BKq3 hb
 replace HB := ZT HB hb
 (try clear hb)
 (try clear hb2)
 (try clear hk)
 (try clear hi)
 refine hK.out _ _ ⟨ZA BKq3 0, ZA BKq3 1, ZA BKq0 0, ZA BKq0 1, ZA BKq1 0, ZA BKq1 1, ZA BKq1 2, ((HB.out.cell (World.block_lt_of_cell? w _ hwq1_0)).trans hwq1_0), ((HB.out.cell (World.block_lt_of_cell? w _ hwq1_1)).trans hwq1_1)⟩ (fun hHeld => ?_)
 clear hK K
 refine ZNO 33 ?_
 refine last_ (i := 8) (N := none) #[T,T,T,T,T,T,T,T,T] rfl rfl (one_of HT_.out (by kernel_rfl)) (by decide) (fun K hK => ?_)
 have hsq2 : wq10.cell? ⟨gbq3, 0, none⟩ = some (.int .i64 t331) := ZA BKq3 0
 have hfsq2 := blk_frozen BKq3.out 0
 have hnsq2_0 := NBq0_323.out
 have hnsq2_1 := NBq1_323.out
 have hnsq2_2 := NBq2_323.out
 have hmsq2_0 := NBq3_318.out
 have hmsq2_1 := NBq3_319.out
 have hmsq2_2 := NBq3_320.out
 have hsq3 : wq10.cell? ⟨gbq3, 1, none⟩ = some (.int .i64 t332) := ZA BKq3 1
 have hfsq3 := blk_frozen BKq3.out 1
 have hnsq3_0 := NBq0_323.out
 have hnsq3_1 := NBq1_323.out
 have hnsq3_2 := NBq2_323.out
 have hmsq3_0 := NBq3_318.out
 have hmsq3_1 := NBq3_319.out
 have hmsq3_2 := NBq3_320.out
 refine skip_ (w1 := ?_) (by rfl) rfl ?_ ?_
 rotate_left
 ·(
 go_simp
 rfl)
 refine hK.out _ _ ?_
 clear hK K
 refine done_ (done_of HT_.out (by kernel_rfl)) ?_
 have hczq3 := ZC2 wq10 BKq3
 have hfzq3 := ZF2 BKq3
 have hnbq5 := NBq2_318.out
 have hncq5 := NBq0_320.out
 have hczq4 := ZC2 wq10 BKq2
 have hfzq4 := ZF2 BKq2
 try go_wp2
 refine bodyPost_ret (results_cell_row rfl _ _ gbq2 39 #[.int .i64 t334, .int .i64 t335] (0, 0) _ rfl (ZZ BKq2.out) Try.underlying39 rfl (by kernel_rfl)) rfl ?_
 exact ⟨ZE, ZB⟩)
 | (
 (have z_ := tag4_; clear z_)
 with_reducible refine (spec_LabelBoth.calls k t331 t332 ((D39 l0_0 a1_2).f0) ((D39 l0_0 a1_2).f1) t337 t338 _ A103.out).mono ?_
 rintro e wq10 ⟨rfl, hb⟩
 refine ⟨_, rfl, ?_⟩
 replace BKq0 := ZW BKq0 hb
 replace BKq1 := ZW BKq1 hb
 replace BKq2 := ZW BKq2 hb
 replace BKq3 := ZW BKq3 hb
 replace HB := ZT HB hb
 (try clear hb)
 (try clear hb2)
 (try clear hk)
 (try clear hi)
 refine hK.out _ _ ⟨ZA BKq3 0, ZA BKq3 1, ZA BKq0 0, ZA BKq0 1, ZA BKq1 0, ZA BKq1 1, ZA BKq1 2, ((HB.out.cell (World.block_lt_of_cell? w _ hwq1_0)).trans hwq1_0), ((HB.out.cell (World.block_lt_of_cell? w _ hwq1_1)).trans hwq1_1)⟩ (fun hHeld => ?_)
 clear hK K
 refine ZNO 33 ?_
 refine last_ (i := 8) (N := none) #[T,T,T,T,T,T,T,T,T] rfl rfl (one_of HT_.out (by kernel_rfl)) (by decide) (fun K hK => ?_)
 have hsq2 : wq10.cell? ⟨gbq3, 0, none⟩ = some (.int .i64 t331) := ZA BKq3 0
 have hfsq2 := blk_frozen BKq3.out 0
 have hnsq2_0 := NBq0_323.out
 have hnsq2_1 := NBq1_323.out
 have hnsq2_2 := NBq2_323.out
 have hmsq2_0 := NBq3_318.out
 have hmsq2_1 := NBq3_319.out
 have hmsq2_2 := NBq3_320.out
 have hsq3 : wq10.cell? ⟨gbq3, 1, none⟩ = some (.int .i64 t332) := ZA BKq3 1
 have hfsq3 := blk_frozen BKq3.out 1
 have hnsq3_0 := NBq0_323.out
 have hnsq3_1 := NBq1_323.out
 have hnsq3_2 := NBq2_323.out
 have hmsq3_0 := NBq3_318.out
 have hmsq3_1 := NBq3_319.out
 have hmsq3_2 := NBq3_320.out
 refine skip_ (w1 := ?_) (by rfl) rfl ?_ ?_
 rotate_left
 ·(
 go_simp
 rfl)
 refine hK.out _ _ ?_
 clear hK K
 refine done_ (done_of HT_.out (by kernel_rfl)) ?_
 have hczq3 := ZC2 wq10 BKq3
 have hfzq3 := ZF2 BKq3
 have hnbq5 := NBq2_318.out
 have hncq5 := NBq0_320.out
 have hczq4 := ZC2 wq10 BKq2
 have hfzq4 := ZF2 BKq2
 try go_wp2
 refine bodyPost_ret (results_cell_row rfl _ _ gbq2 39 #[.int .i64 t337, .int .i64 t338] (0, 0) _ rfl (ZZ BKq2.out) Try.underlying39 rfl (by kernel_rfl)) rfl ?_
 exact ⟨ZE, ZB⟩))
 | (
 (have z_ := tag5_; clear z_)
 have hczq3 := ZC2 wq7 BKq3
 have hfzq3 := ZF2 BKq3
 have hnbq5 := NBq2_318.out
 have hncq5 := NBq0_320.out
 have hczq4 := ZC2 wq7 BKq2
 have hfzq4 := ZF2 BKq2
 try go_wp2
 refine bodyPost_ret (results_cell_row rfl _ _ gbq2 39 #[.int .i64 t331, .int .i64 t332] (0, 0) _ rfl (ZZ BKq2.out) Try.underlying39 rfl (by kernel_rfl)) rfl ?_
 exact ⟨ZE, ZB⟩)))
 | (
 (have z_ := tag2_; clear z_)
 go_wp2_with (first | ((with_reducible refine gate_dst (N := 2) rfl ?_); refine ZX (N := 2) (cs := #[.slice A0_0 l0_0.length c0_0, .slice A0_1 l0_1.length c0_1]) (t := 26) ?_; intro gbq0 hg wq0 hbox hb; have BKq0 := AM (hbox); have GWq0 : Za (w.heap.size ≤ gbq0) := ZS hg; replace HB := ZT HB hb; clear hb hbox hg) | ((with_reducible refine gate_dst (N := 3) rfl ?_); refine ZX (N := 3) (cs := #[.int .i64 a1_0, .int .i64 a1_1, .int .i64 a1_2]) (t := 30) ?_; intro gbq1 hg wq1 hbox hb; have BKq1 := AM (hbox); have GWq1 : Za (w.heap.size ≤ gbq1) := ZS hg; have NBq0_319 : Za (gbq0 ≠ gbq1) := ZN hg BKq0; have NBq1_318 : Za (gbq1 ≠ gbq0) := ZM hg BKq0; replace BKq0 := ZW BKq0 hb; replace HB := ZT HB hb; clear hb hbox hg) | ((with_reducible refine gate_dst (N := 4) rfl ?_); refine ZX (N := 4) (cs := #[.int .i64 0, .int .i64 0]) (t := 39) ?_; intro gbq2 hg wq2 hbox hb; have BKq2 := AM (hbox); have GWq2 : Za (w.heap.size ≤ gbq2) := ZS hg; have NBq0_320 : Za (gbq0 ≠ gbq2) := ZN hg BKq0; have NBq2_318 : Za (gbq2 ≠ gbq0) := ZM hg BKq0; have NBq1_320 : Za (gbq1 ≠ gbq2) := ZN hg BKq1; have NBq2_319 : Za (gbq2 ≠ gbq1) := ZM hg BKq1; replace BKq0 := ZW BKq0 hb; replace BKq1 := ZW BKq1 hb; replace HB := ZT HB hb; clear hb hbox hg) | ((with_reducible refine gate_callee (f := 54) rfl ?_); refine ZGL (some 6) Try.func54 #[] ?_; (with_reducible refine (spec_l11Any.calls  t321 t322 _ A3.out).mono ?_); rintro e wq3 ⟨rfl, hb⟩; refine ⟨_, rfl, ?_⟩; replace BKq0 := ZW BKq0 hb; replace BKq1 := ZW BKq1 hb; replace BKq2 := ZW BKq2 hb; replace HB := ZT HB hb; clear hb) | ((with_reducible refine gate_dst (N := 5) rfl ?_); refine ZX (N := 5) (cs := #[.int .i64 0, .int .i64 0]) (t := 39) ?_; intro gbq3 hg wq4 hbox hb; have BKq3 := AM (hbox); have GWq3 : Za (w.heap.size ≤ gbq3) := ZS hg; have NBq0_323 : Za (gbq0 ≠ gbq3) := ZN hg BKq0; have NBq3_318 : Za (gbq3 ≠ gbq0) := ZM hg BKq0; have NBq1_323 : Za (gbq1 ≠ gbq3) := ZN hg BKq1; have NBq3_319 : Za (gbq3 ≠ gbq1) := ZM hg BKq1; have NBq2_323 : Za (gbq2 ≠ gbq3) := ZN hg BKq2; have NBq3_320 : Za (gbq3 ≠ gbq2) := ZM hg BKq2; replace BKq0 := ZW BKq0 hb; replace BKq1 := ZW BKq1 hb; replace BKq2 := ZW BKq2 hb; replace HB := ZT HB hb; clear hb hbox hg; have hnbq0 := NBq3_318.out; have hncq0 := NBq0_323.out; have hnbq1 := NBq3_319.out; have hncq1 := NBq1_323.out; have hnbq2 := NBq3_320.out; have hncq2 := NBq2_323.out; have hczq0 := ZC2 wq4 BKq3; have hfzq0 := ZF2 BKq3; have hnbq3 := NBq1_318.out; have hncq3 := NBq0_319.out; have hnbq4 := NBq1_320.out; have hncq4 := NBq2_319.out; have hczq1 := ZC3 wq4 BKq1; have hfzq1 := ZF3 BKq1; have hnbq5 := NBq2_318.out; have hncq5 := NBq0_320.out; have hczq2 := ZC2 wq4 BKq2; have hfzq2 := ZF2 BKq2))
 refine bodyPost_ret (results_cell_row rfl _ _ gbq2 39 #[.int .i64 t321, .int .i64 t322] (0, 0) _ rfl (ZZ BKq2.out) Try.underlying39 rfl (by kernel_rfl)) rfl ?_
 exact ⟨ZE, ZB⟩))

end Go.Proofs.Ythidgkfgdkjghaa.A
