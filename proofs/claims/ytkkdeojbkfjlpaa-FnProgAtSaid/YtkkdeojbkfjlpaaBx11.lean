/- Go functions as Lean functions, and for each its contract; written by wip/tools/pr.py over the kit's print. -/
import Derived.Test.YtkkdeojbkfjlpaaBx0
import Derived.Test.YtkkdeojbkfjlpaaBx10
namespace Go.Proofs.Ytkkdeojbkfjlpaa.B
open Go.RowKit Go.Proofs.YtkkdeojbkfjlpaaW.PrintWords Go.Proofs.YtkkdeojbkfjlpaaW.PrintLast Go.Proofs.YtkkdeojbkfjlpaaW.PrintMore
attribute [local go_sem] max2_int min2_int max_two min_two max_three min_three max_four min_four
set_option linter.unusedVariables false
set_option linter.unusedSimpArgs false
set_option maxHeartbeats 8000000
set_option maxRecDepth 100000

/-! ### spec_l11At: function 70 -/
mutual
def spec_l11At.l0 : Nat → List (S40) → List (S35) → Int → List (S35) → List (S40) → Int → Int → Option ((List (S35)))
 | 0, _, _, _, _, _, _, _ => none
 | k + 1, x1, x3, x9, x277000, x277001, x278000, x278001 => if x9 < (x1.length : Int) then (if x3.length < 8796093022208 then (if 0 ≤ x9 then (if 0 ≤ ((D40 x1 x9).f1) then (if ((D40 x1 x9).f1) < (x277000.length : Int) then ((spec_LabelBoth.f k x278000 x278001 ((D35 x277000 ((D40 x1 x9).f1)).f0) ((D35 x277000 ((D40 x1 x9).f1)).f1)).bind fun bt283 => ((spec_l11At.f k x277000 x277001 ((D40 x1 x9).f4) bt283.1 bt283.2 (x3 ++ [(⟨x278000, x278001⟩ : S35)])).bind fun t287 => ((spec_l11At.f k x277000 x277001 ((D40 x1 x9).f5) bt283.1 bt283.2 t287).bind fun t291 => (spec_l11At.l0 k x1 t291 (wrap64 (x9 + 1)) x277000 x277001 x278000 x278001)))) else (none)) else (none)) else (none)) else (none)) else (some x3)
def spec_l11At.f : Nat → List (S35) → List (S40) → List (S40) → Int → Int → List (S35) → Option ((List (S35)))
 | 0, _, _, _, _, _, _ => none
 | k + 1, l0_0, l0_1, l1, a2_0, a2_1, l3 => spec_l11At.l0 k l1 l3 0 l0_0 l0_1 a2_0 a2_1
end
def spec_l11At.T5 : Bool × List (List Nat × List Nat) := (true, [([], []), ([], []), ([1], [1]), ([], []), ([], []), ([3, 4], [3, 4]), ([5], [5]), ([6], [6]), ([2, 7], [2, 7]), ([8], [8]), ([0, 9], [0, 9]), ([], []), ([11, 10, 10, 0, 1, 2, 3, 4, 5, 6, 7, 8, 9, 10, 11], [10, 11])])
def spec_l11At.B5 : List Nat := [0, 0, 2, 0, 0, 24, 56, 120, 254, 510, 1023, 0, 4095]
theorem spec_l11At.tab5 : rtab .any (opsOf Try.f70 5) = spec_l11At.T5 := by kernel_rfl
theorem spec_l11At.bits5 : waitsOk spec_l11At.T5.2 spec_l11At.B5 = true := by kernel_rfl
def spec_l11At.T6 : Bool × List (List Nat × List Nat) := (true, [([], []), ([], []), ([], []), ([1, 2], [1, 2]), ([3], [3]), ([4], [4]), ([], []), ([], []), ([0, 5, 6, 7], [0, 5, 6, 7]), ([8, 8, 0, 1, 2, 3, 4, 5, 6, 7, 8], [7, 8])])
def spec_l11At.B6 : List Nat := [0, 0, 0, 6, 14, 30, 0, 0, 255, 511]
theorem spec_l11At.tab6 : rtab .any (opsOf Try.f70 6) = spec_l11At.T6 := by kernel_rfl
theorem spec_l11At.bits6 : waitsOk spec_l11At.T6.2 spec_l11At.B6 = true := by kernel_rfl
def spec_l11At.T7 : Bool × List (List Nat × List Nat) := (true, [([], []), ([], []), ([], []), ([1, 2], [1, 2]), ([3], [3]), ([4], [4]), ([], []), ([], []), ([0, 5, 6, 7], [0, 5, 6, 7]), ([8, 8, 0, 1, 2, 3, 4, 5, 6, 7, 8], [7, 8])])
def spec_l11At.B7 : List Nat := [0, 0, 0, 6, 14, 30, 0, 0, 255, 511]
theorem spec_l11At.tab7 : rtab .any (opsOf Try.f70 7) = spec_l11At.T7 := by kernel_rfl
theorem spec_l11At.bits7 : waitsOk spec_l11At.T7.2 spec_l11At.B7 = true := by kernel_rfl
theorem spec_l11At.calls (k : Nat) : ∀ (A0_0 : Option Addr) (c0_0 : Nat) (l0_0 : List (S35)) (A0_1 : Option Addr) (c0_1 : Nat) (l0_1 : List (S40)) (A1 : Option Addr) (c1 : Nat) (l1 : List (S40)) (a2_0 : Int) (a2_1 : Int) (P3_ : Nat → Prop) (u9000_ : Value) (l3 : List (S35)) (r : List (S35)) (w0 w : World) (hB : Below w0.heap.size w0 w) (hr0_0 : ∀ W_, Kept w W_ (fun k_ => P3_ k_) → Kd.C k35 W_ A0_0 l0_0.length l0_0) (hc0_0 : l0_0.length ≤ c0_0) (hr0_1 : ∀ W_, Kept w W_ (fun k_ => P3_ k_) → Kd.C k40 W_ A0_1 l0_1.length l0_1) (hc0_1 : l0_1.length ≤ c0_1) (hr1 : ∀ W_, Kept w W_ (fun k_ => P3_ k_) → Kd.C k40 W_ A1 l1.length l1) (hc1 : l1.length ≤ c1) (ho3 : Kd.R k35 35 w w0.heap.size P3_ u9000_ l3) (h : spec_l11At.f k l0_0 l0_1 l1 a2_0 a2_1 l3 = some r),
  Calls Try.prog 70 #[.agg #[.slice A0_0 l0_0.length c0_0, .slice A0_1 l0_1.length c0_1], .slice A1 l1.length c1, .agg #[.int .i64 a2_0, .int .i64 a2_1], u9000_] w fun e w' => ∃ v0_ : Value, e = .returned (v0_) ∧ Kd.R k35 35 w' w0.heap.size (fun k_ => (P3_ k_ ∨ w.heap.size ≤ k_)) v0_ r ∧ Below w0.heap.size w0 w' ∧ Kept w w' (fun k_ => P3_ k_) := by
 induction k using Nat.strongRecOn with
 | _ k ih =>
 intro A0_0 c0_0 l0_0 A0_1 c0_1 l0_1 A1 c1 l1 a2_0 a2_1 P3_ u9000_ l3 r w0 w hB hr0_0 hc0_0 hr0_1 hc0_1 hr1 hc1 ho3 h
 cases k with
 | zero => exact absurd h (by simp [spec_l11At.f])
 | succ k =>
 simp only [spec_l11At.f] at h
 have hu26 := Try.underlying26
 have hu35 := Try.underlying35
 have HR0_0 := AM hr0_0
 have HC0_0 := AM hc0_0
 clear hr0_0 hc0_0
 have HR0_1 := AM hr0_1
 have HC0_1 := AM hc0_1
 clear hr0_1 hc0_1
 have HR1 := AM hr1
 have HC1 := AM hc1
 clear hr1 hc1
 have HO3 := AM (show Kd.R k35 35 w w0.heap.size (fun k_ => (P3_ k_ ∨ w.heap.size ≤ k_)) u9000_ l3 from Kd.R_mono ho3 (fun k_ hk => (.inl hk)))
 have HK := AM (Kept.refl w (fun k_ => P3_ k_))
 have HW0 := AM hB.size
 have HB := AM hB
 clear hB
 have H : (spec_l11At.l0 k l1 l3 0 l0_0 l0_1 a2_0 a2_1) = some r := h
 clear h
 have H' := AM H
 clear H
 go_enter Try.func70, Try.ntmps70
 go_wp2_with (first | ((with_reducible refine gate_dst (N := 4) rfl ?_); refine ZX (N := 4) (cs := #[.slice A0_0 l0_0.length c0_0, .slice A0_1 l0_1.length c0_1]) (t := 26) ?_; intro gb276 hg w5 hbox hb; have BK276 := AM (hbox); have GW276 := AM ((by rw [hg]; exact (by first | exact HK.out.1 | exact (show Kept w _ (fun k_ => P3_ k_) from ZHK HK).1) : w.heap.size ≤ gb276)); have GE276 : Za (w0.heap.size ≤ gb276) := ZS hg; replace HO3 := AM (Kd.R_below (ZR HO3.out) hb); replace HK := AM (Kept.below (S := (fun k_ => P3_ k_)) (ZHK HK) hb); replace HB := ZT HB hb; clear hb hbox hg) | ((with_reducible refine gate_dst (N := 6) rfl ?_); refine ZX (N := 6) (cs := #[.int .i64 a2_0, .int .i64 a2_1]) (t := 35) ?_; intro gb277 hg w6 hbox hb; have BK277 := AM (hbox); have GW277 := AM ((by rw [hg]; exact (by first | exact HK.out.1 | exact (show Kept w _ (fun k_ => P3_ k_) from ZHK HK).1) : w.heap.size ≤ gb277)); have GE277 : Za (w0.heap.size ≤ gb277) := ZS hg; have NB276_277 : Za (gb276 ≠ gb277) := ZN hg BK276; have NB277_276 : Za (gb277 ≠ gb276) := ZM hg BK276; replace HO3 := AM (Kd.R_below (Kd.R_elderB (ZR HO3.out) gb277 (Nat.le_of_eq hg.symm)) hb); replace BK276 := ZW BK276 hb; replace HK := AM (Kept.below (S := (fun k_ => P3_ k_)) (ZHK HK) hb); replace HB := ZT HB hb; clear hb hbox hg))
 go_loopg [3, 9] k (fun kq v3 v9 w' => ∃ (x3_1 : List (S35)) (x9_1 : Int), v9 = .int .i64 x9_1 ∧ Za (spec_l11At.l0 kq l1 x3_1 x9_1 l0_0 l0_1 a2_0 a2_1 = some r) ∧ Za (kq ≤ k) ∧ Za (Kd.R k35 35 w' w0.heap.size (fun k_ => (P3_ k_ ∨ w.heap.size ≤ k_) ∧ k_ ≠ gb277) v3 x3_1) ∧ Za (w'.heap[gb276]? = some (.cells #[(.slice A0_0 l0_0.length c0_0), (.slice A0_1 l0_1.length c0_1)] 26 (0, 0))) ∧ Za (w'.heap[gb277]? = some (.cells #[.int .i64 a2_0, .int .i64 a2_1] 35 (0, 0))) ∧ Za (Kept w w' (fun k_ => P3_ k_)) ∧ Za (Below w0.heap.size w0 w'))
 case atStart => exact ⟨(l3), (0), ZSM, H', ⟨Nat.le_refl _⟩, ⟨ZR HO3.out⟩, ⟨ZK BK276.out⟩, ⟨ZK BK277.out⟩, ⟨ZHK HK⟩, ⟨ZB⟩⟩
 case round => (
 clear H'
 try clear c1
 try clear p2
 obtain ⟨x3_1, x9_1, rfl, HA, HK1, HO_3, BK276, BK277, HK, HB⟩ := hrel
 cases gk with
 | zero => exact absurd HA.out (by simp [spec_l11At.l0])
 | succ k1 =>
  have H := HA.out
  clear HA
  simp only [spec_l11At.l0] at H
  by_cases c7 : x9_1 < (l1.length : Int)
  ·(
  rw [if_pos c7] at H
  have c7b0 := decide_eq_true c7
  clear c7
  by_cases c8 : x3_1.length < 8796093022208
  ·(
  rw [if_pos c8] at H
  have LMc8 := AM c8
  clear c8
  obtain ⟨y278, hy278⟩ : ∃ y_ : List (S35), y_ = (x3_1 ++ [(⟨a2_0, a2_1⟩ : S35)]) := ⟨_, rfl⟩
  replace H : (if 0 ≤ x9_1 then (if 0 ≤ ((D40 l1 x9_1).f1) then (if ((D40 l1 x9_1).f1) < (l0_0.length : Int) then ((spec_LabelBoth.f k1 a2_0 a2_1 ((D35 l0_0 ((D40 l1 x9_1).f1)).f0) ((D35 l0_0 ((D40 l1 x9_1).f1)).f1)).bind fun bt283 => ((spec_l11At.f k1 l0_0 l0_1 ((D40 l1 x9_1).f4) bt283.1 bt283.2 y278).bind fun t287 => ((spec_l11At.f k1 l0_0 l0_1 ((D40 l1 x9_1).f5) bt283.1 bt283.2 t287).bind fun t291 => (spec_l11At.l0 k1 l1 t291 (wrap64 (x9_1 + 1)) l0_0 l0_1 a2_0 a2_1)))) else (none)) else (none)) else (none)) = some r := by rw [hy278]; exact H
  have Ny278 := AM hy278
  clear hy278
  by_cases c9 : 0 ≤ x9_1
  ·(
  rw [if_pos c9] at H
  have c9b0 := decide_eq_true c9
  clear c9
  by_cases c10 : 0 ≤ ((D40 l1 x9_1).f1)
  ·(
  rw [if_pos c10] at H
  have c10b0 := decide_eq_true c10
  clear c10
  by_cases c11 : ((D40 l1 x9_1).f1) < (l0_0.length : Int)
  ·(
  rw [if_pos c11] at H
  have c11b0 := decide_eq_true c11
  clear c11
  obtain ⟨⟨t283, t284⟩, A12, H⟩ := ZOB H; try dsimp only at H
  obtain ⟨t287, A13, H⟩ := ZOB H; try dsimp only at H
  obtain ⟨t291, A14, H⟩ := ZOB H; try dsimp only at H
  have H' := AM H
  clear H
  have hnb15 := NB277_276.out
  have hnc15 := NB276_277.out
  have hcz16 := ZC2 wr BK277
  try go_wp2_with (first | ((with_reducible refine gate_builtin (b := .append) (xs := #[.tmp 17, .tmp 19]) rfl ?_); at_builtin; refine Kd.R_append k35 (w0 := w0) w0.heap.size rfl (.tmp 17) (.tmp 19) 23 35 (.agg #[(.int .i64 0), (.int .i64 0)]) 16 rfl Try.underlying23 info35 rfl (by decide) (by omega) u3 x3_1 (⟨a2_0, a2_1⟩ : S35) [.int .i64 a2_0, .int .i64 a2_1] (fun k_ => (P3_ k_ ∨ w.heap.size ≤ k_) ∧ k_ ≠ gb277) (fun _ => False) rfl rfl ?aP (fun _ hk => hk.elim) ?aF ?aO ?aB ?aS ?aL ?_; (case aP => exact k35_mkM _ _ _ (⟨a2_0, a2_1⟩ : S35)); (case aB => exact (ZB)); (case aF => exact (fun k_ hk => ⟨(.inr (Nat.le_trans (by first | exact HK.out.1 | exact (show Kept w _ (fun k_ => P3_ k_) from ZHK HK).1) hk)), Kd.freshB (g := gb277) (o := .cells #[.int .i64 a2_0, .int .i64 a2_1] 35 (0, 0)) (ZK BK277.out) k_ hk⟩)); (case aO => exact (ZR HO_3.out)); (case aS => exact (below_size (ZB))); (case aL => have := LMc8.out; omega); intro v279 w17 ho hb hg hat; rw [← Ny278.out] at ho; have n0_ := AM (blk_grown (g := gb276) (o := .cells #[.slice A0_0 l0_0.length c0_0, .slice A0_1 l0_1.length c0_1] 26 (0, 0)) (ZK BK276.out) hg (Kd.R_ne HO_3.out BK276.out (by decide))); have n1_ := AM (blk_grown (g := gb277) (o := .cells #[.int .i64 a2_0, .int .i64 a2_1] 35 (0, 0)) (ZK BK277.out) hg (Kd.R_away HO_3.out (fun _ hk => hk.2))); have n2_ := AM (hb); have n3_ := AM (Kept.of_grown (S := (fun k_ => P3_ k_)) hg (ZHK HK) (fun k_ e_ => (HO_3.out.1 k_ e_).1)); have n4_ := AM (ho); clear BK276 BK277 HB HK HO_3; have BK276 := n0_; have BK277 := n1_; have HB := n2_; have HK := n3_; have HO280 := n4_; clear n0_ n1_ n2_ n3_ n4_ ho hb hg hat))
  replace HO280 := AM (Kd.R_drew HO280.out)
  replace BK276 := AM (blk_drew BK276.out)
  replace BK277 := AM (blk_drew BK277.out)
  replace HK := AM (Kept.drew HK.out)
  replace HB := AM (below_drew1 HB.out)
  have p281 : 0 ≤ (x9_1 : Int) := ZD
  have q281 : x9_1 < (l1.length : Int) := ZD
  obtain ⟨ad281, A281_6, c281_6, A281_7, c281_7, e281, hx281_0, hx281_1, hx281_2, hx281_3, hx281_4, hx281_5, hx281_6, hx281_7, hl281_6, hi281_6, hl281_7, hi281_7⟩ := at_T40 (Kd.C_kept_now HR1.out HK.out) x9_1 p281 q281
  have hw281_7 := hx281_7
  have hw281_6 := hx281_6
  have hw281_5 := hx281_5
  have hw281_4 := hx281_4
  have hw281_3 := hx281_3
  have hw281_2 := hx281_2
  have hw281_1 := hx281_1
  have hw281_0 := hx281_0
  cases e281
  have hy281_0 := Kd.kept_slot HR1.out (by omega) (by decide) (ZHK HK) hx281_0 (add_block _ _) (Kept.refl _ _)
  have hy281_1 := Kd.kept_slot HR1.out (by omega) (by decide) (ZHK HK) hx281_1 (add_block _ _) (Kept.refl _ _)
  have hy281_2 := Kd.kept_slot HR1.out (by omega) (by decide) (ZHK HK) hx281_2 (add_block _ _) (Kept.refl _ _)
  have hy281_3 := Kd.kept_slot HR1.out (by omega) (by decide) (ZHK HK) hx281_3 (add_block _ _) (Kept.refl _ _)
  have hy281_4 := Kd.kept_slot HR1.out (by omega) (by decide) (ZHK HK) hx281_4 (add_block _ _) (Kept.refl _ _)
  have hy281_5 := Kd.kept_slot HR1.out (by omega) (by decide) (ZHK HK) hx281_5 (add_block _ _) (Kept.refl _ _)
  have hy281_6 := Kd.kept_slot HR1.out (by omega) (by decide) (ZHK HK) hx281_6 (add_block _ _) (Kept.refl _ _)
  have hy281_7 := Kd.kept_slot HR1.out (by omega) (by decide) (ZHK HK) hx281_7 (add_block _ _) (Kept.refl _ _)
  have HR281_6 := AM hi281_6
  have HC281_6 := AM hl281_6
  clear hi281_6 hl281_6
  have HR281_7 := AM hi281_7
  have HC281_7 := AM hl281_7
  clear hi281_7 hl281_7
  replace p281 := eq_true p281
  replace q281 := eq_true q281
  have p282 : 0 ≤ (((D40 l1 x9_1).f1) : Int) := ZD
  have q282 : ((D40 l1 x9_1).f1) < (l0_0.length : Int) := ZD
  obtain ⟨ad282, e282, hx282_0, hx282_1⟩ := at_T35 (Kd.C_kept_now HR0_0.out HK.out) ((D40 l1 x9_1).f1) p282 q282
  have hw282_1 := hx282_1
  have hw282_0 := hx282_0
  cases e282
  have hy282_0 := Kd.kept_slot HR0_0.out (by omega) (by decide) (ZHK HK) hx282_0 (add_block _ _) (Kept.refl _ _)
  have hy282_1 := Kd.kept_slot HR0_0.out (by omega) (by decide) (ZHK HK) hx282_1 (add_block _ _) (Kept.refl _ _)
  replace p282 := eq_true p282
  replace q282 := eq_true q282
  refine start_ (n := 13) (S := fun w' => w'.cell? ⟨gb277, 0, none⟩ = some (.int .i64 a2_0) ∧ w'.cell? ⟨gb277, 1, none⟩ = some (.int .i64 a2_1) ∧ w'.cell? ⟨gb276, 0, none⟩ = some (.slice (some ad282) l0_0.length c0_0) ∧ w'.cell? ⟨gb276, 1, none⟩ = some (.slice A0_1 l0_1.length c0_1) ∧ w'.cell? (ad281.add ((x9_1).toNat * 8)) = some (.int .i64 ((D40 l1 x9_1).f0)) ∧ w'.cell? ⟨(ad281.add ((x9_1).toNat * 8)).block, (ad281.add ((x9_1).toNat * 8)).off + 1, none⟩ = some (.int .i64 ((D40 l1 x9_1).f1)) ∧ w'.cell? ⟨(ad281.add ((x9_1).toNat * 8)).block, (ad281.add ((x9_1).toNat * 8)).off + 2, none⟩ = some (.int .i64 ((D40 l1 x9_1).f2.f0)) ∧ w'.cell? ⟨(ad281.add ((x9_1).toNat * 8)).block, (ad281.add ((x9_1).toNat * 8)).off + 3, none⟩ = some (.int .i64 ((D40 l1 x9_1).f2.f1)) ∧ w'.cell? ⟨(ad281.add ((x9_1).toNat * 8)).block, (ad281.add ((x9_1).toNat * 8)).off + 4, none⟩ = some (.int .i64 ((D40 l1 x9_1).f2.f2)) ∧ w'.cell? ⟨(ad281.add ((x9_1).toNat * 8)).block, (ad281.add ((x9_1).toNat * 8)).off + 5, none⟩ = some (.int .i64 ((D40 l1 x9_1).f3)) ∧ w'.cell? ⟨(ad281.add ((x9_1).toNat * 8)).block, (ad281.add ((x9_1).toNat * 8)).off + 6, none⟩ = some (.slice A281_6 ((D40 l1 x9_1).f4).length c281_6) ∧ w'.cell? ⟨(ad281.add ((x9_1).toNat * 8)).block, (ad281.add ((x9_1).toNat * 8)).off + 7, none⟩ = some (.slice A281_7 ((D40 l1 x9_1).f5).length c281_7) ∧ w'.cell? (ad282.add ((((D40 l1 x9_1).f1)).toNat * 2)) = some (.int .i64 ((D35 l0_0 ((D40 l1 x9_1).f1)).f0)) ∧ w'.cell? ⟨(ad282.add ((((D40 l1 x9_1).f1)).toNat * 2)).block, (ad282.add ((((D40 l1 x9_1).f1)).toNat * 2)).off + 1, none⟩ = some (.int .i64 ((D35 l0_0 ((D40 l1 x9_1).f1)).f1))) (ds := []) #[F,F,F,F,F,F,F,F,F,F,F,F,F] (by kernel_rfl) rfl rfl ⟨ZA BK277 0, ZA BK277 1, ZA BK276 0, ZA BK276 1, (ZKS HR1 p281 q281 hy281_0 (ZHK HK)), (ZKS HR1 p281 q281 hy281_1 (ZHK HK)), (ZKS HR1 p281 q281 hy281_2 (ZHK HK)), (ZKS HR1 p281 q281 hy281_3 (ZHK HK)), (ZKS HR1 p281 q281 hy281_4 (ZHK HK)), (ZKS HR1 p281 q281 hy281_5 (ZHK HK)), (ZKS HR1 p281 q281 hy281_6 (ZHK HK)), (ZKS HR1 p281 q281 hy281_7 (ZHK HK)), (ZKS HR0_0 p282 q282 hy282_0 (ZHK HK)), (ZKS HR0_0 p282 q282 hy282_1 (ZHK HK))⟩ (fun hHeld => ?_); refine with_tabW spec_l11At.tab5 spec_l11At.bits5 (fun HT_ HW_ => ?_)
  generalize w17.drew = w18 at HO280 BK276 BK277 HK HB HR281_6 HR281_7 hx281_0 hx281_1 hx281_2 hx281_3 hx281_4 hx281_5 hx281_6 hx281_7 hx282_0 hx282_1 hHeld ⊢
  refine ZU 1 22 #[F,T,F,F,F,F,F,F,F,F,F,F,F] ?_
  refine ZU 3 24 #[F,T,F,T,F,F,F,F,F,F,F,F,F] ?_
  refine ZU 4 25 #[F,T,F,T,T,F,F,F,F,F,F,F,F] ?_
  refine ZU 5 26 #[F,T,F,T,T,T,F,F,F,F,F,F,F] ?_
  refine ZU 6 27 #[F,T,F,T,T,T,T,F,F,F,F,F,F] ?_
  refine ZTK 0 21 #[T,T,F,T,T,T,T,F,F,F,F,F,F] hHeld ?_
  refine ZTK 2 23 #[T,T,T,T,T,T,T,F,F,F,F,F,F] hHeld ?_
  refine ZTK 7 28 #[T,T,T,T,T,T,T,T,F,F,F,F,F] hHeld ?_
  refine ZU 8 29 #[T,T,T,T,T,T,T,T,T,F,F,F,F] ?_
  refine ZTK 9 30 #[T,T,T,T,T,T,T,T,T,T,F,F,F] hHeld ?_
  refine join_ (σ := Nat) 1 #[T,T,T,T,T,T,T,T,T,T,T,T,F] (fun s_ => [(31, .agg #[.int .i64 t283, .int .i64 t284]), (10, .pointer (some ⟨s_, 0, none⟩))]) (fun s_ w' => (w'.cell? ⟨gb277, 0, none⟩ = some (.int .i64 a2_0) ∧ w'.cell? ⟨gb277, 1, none⟩ = some (.int .i64 a2_1) ∧ w'.cell? ⟨gb276, 0, none⟩ = some (.slice (some ad282) l0_0.length c0_0) ∧ w'.cell? ⟨gb276, 1, none⟩ = some (.slice A0_1 l0_1.length c0_1) ∧ w'.cell? (ad281.add ((x9_1).toNat * 8)) = some (.int .i64 ((D40 l1 x9_1).f0)) ∧ w'.cell? ⟨(ad281.add ((x9_1).toNat * 8)).block, (ad281.add ((x9_1).toNat * 8)).off + 1, none⟩ = some (.int .i64 ((D40 l1 x9_1).f1)) ∧ w'.cell? ⟨(ad281.add ((x9_1).toNat * 8)).block, (ad281.add ((x9_1).toNat * 8)).off + 2, none⟩ = some (.int .i64 ((D40 l1 x9_1).f2.f0)) ∧ w'.cell? ⟨(ad281.add ((x9_1).toNat * 8)).block, (ad281.add ((x9_1).toNat * 8)).off + 3, none⟩ = some (.int .i64 ((D40 l1 x9_1).f2.f1)) ∧ w'.cell? ⟨(ad281.add ((x9_1).toNat * 8)).block, (ad281.add ((x9_1).toNat * 8)).off + 4, none⟩ = some (.int .i64 ((D40 l1 x9_1).f2.f2)) ∧ w'.cell? ⟨(ad281.add ((x9_1).toNat * 8)).block, (ad281.add ((x9_1).toNat * 8)).off + 5, none⟩ = some (.int .i64 ((D40 l1 x9_1).f3)) ∧ w'.cell? ⟨(ad281.add ((x9_1).toNat * 8)).block, (ad281.add ((x9_1).toNat * 8)).off + 6, none⟩ = some (.slice A281_6 ((D40 l1 x9_1).f4).length c281_6) ∧ w'.cell? ⟨(ad281.add ((x9_1).toNat * 8)).block, (ad281.add ((x9_1).toNat * 8)).off + 7, none⟩ = some (.slice A281_7 ((D40 l1 x9_1).f5).length c281_7) ∧ w'.cell? (ad282.add ((((D40 l1 x9_1).f1)).toNat * 2)) = some (.int .i64 ((D35 l0_0 ((D40 l1 x9_1).f1)).f0)) ∧ w'.cell? ⟨(ad282.add ((((D40 l1 x9_1).f1)).toNat * 2)).block, (ad282.add ((((D40 l1 x9_1).f1)).toNat * 2)).off + 1, none⟩ = some (.int .i64 ((D35 l0_0 ((D40 l1 x9_1).f1)).f1))) ∧ (Kd.R k35 35 w' w0.heap.size (fun k_ => (P3_ k_ ∨ w.heap.size ≤ k_) ∧ k_ ≠ gb277 ∧ k_ ≠ s_) v279 y278) ∧ (w'.heap[gb276]? = some (.cells #[.slice (some ad282) l0_0.length c0_0, .slice A0_1 l0_1.length c0_1] 26 (0, 0))) ∧ (w'.heap[gb277]? = some (.cells #[.int .i64 a2_0, .int .i64 a2_1] 35 (0, 0))) ∧ (w'.heap[s_]? = some (.cells #[.int .i64 0, .int .i64 0] 35 (0, 0))) ∧ (w.heap.size ≤ s_) ∧ (w0.heap.size ≤ s_) ∧ (gb276 ≠ s_) ∧ (s_ ≠ gb276) ∧ (gb277 ≠ s_) ∧ (s_ ≠ gb277) ∧ (Kept w w' (fun k_ => P3_ k_)) ∧ (Below w0.heap.size w0 w')) ?_ ?_
  rotate_left
  ·(
  intro hCont
  refine two_ (i := 10) (j := 11) (Ni := some 31) (Nj := some 10) #[T,T,T,T,T,T,T,T,T,T,T,F,F] #[T,T,T,T,T,T,T,T,T,T,F,T,F] rfl rfl rfl rfl (two_of HT_.out (by kernel_rfl)) (by decide) (by decide) (fun K hK => ?_) (fun K hK => ?_)
  ·(
  skip
  refine ZGO Try.func73 #[.agg #[.int .i64 a2_0, .int .i64 a2_1], .agg #[.int .i64 ((D35 l0_0 ((D40 l1 x9_1).f1)).f0), .int .i64 ((D35 l0_0 ((D40 l1 x9_1).f1)).f1)]] ?_
  with_reducible refine (spec_LabelBoth.calls k1 a2_0 a2_1 ((D35 l0_0 ((D40 l1 x9_1).f1)).f0) ((D35 l0_0 ((D40 l1 x9_1).f1)).f1) t283 t284 _ A12.out).mono ?_
  rintro e w19 ⟨rfl, hb⟩
  refine ZV1 ?_
  replace HO280 := AM (Kd.R_below (ZR HO280.out) hb)
  replace BK276 := ZW BK276 hb
  replace BK277 := ZW BK277 hb
  replace HR281_6 := AM (Kd.C_below (ZQ HR281_6.out) hb)
  replace HR281_7 := AM (Kd.C_below (ZQ HR281_7.out) hb)
  replace HK := AM (Kept.below (S := (fun k_ => P3_ k_)) (ZHK HK) hb)
  replace HB := ZT HB hb
  (try clear hb)
  (try clear hb2)
  (try clear hk)
  (try clear hi)
  refine hK.out _ _ ⟨ZA BK277 0, ZA BK277 1, ZA BK276 0, ZA BK276 1, (ZKS HR1 p281 q281 hy281_0 (ZHK HK)), (ZKS HR1 p281 q281 hy281_1 (ZHK HK)), (ZKS HR1 p281 q281 hy281_2 (ZHK HK)), (ZKS HR1 p281 q281 hy281_3 (ZHK HK)), (ZKS HR1 p281 q281 hy281_4 (ZHK HK)), (ZKS HR1 p281 q281 hy281_5 (ZHK HK)), (ZKS HR1 p281 q281 hy281_6 (ZHK HK)), (ZKS HR1 p281 q281 hy281_7 (ZHK HK)), (ZKS HR0_0 p282 q282 hy282_0 (ZHK HK)), (ZKS HR0_0 p282 q282 hy282_1 (ZHK HK))⟩ (fun hHeld => ?_)
  clear hK K
  refine ZNO 31 ?_
  refine one_ (i := 11) (N := some 10) #[T,T,T,T,T,T,T,T,T,T,T,T,F] rfl rfl (one_of HT_.out (by kernel_rfl)) (by decide) (fun K hK => ?_)
  refine box_step ?hg (N := 10) ?hd (cs := #[.int .i64 0, .int .i64 0]) (t := 35) ?hr ?_; (case hd => rfl); (case hg => rfl); (case hr => first | (go_simp; done) | (go_simp; rfl))
  intro gb285 hg w20 hbox hb
  have BK285 := AM (hbox)
  have GW285 := AM ((by rw [hg]; exact (by first | exact HK.out.1 | exact (show Kept w _ (fun k_ => P3_ k_) from ZHK HK).1) : w.heap.size ≤ gb285))
  have GE285 : Za (w0.heap.size ≤ gb285) := ZS hg
  have NB276_285 : Za (gb276 ≠ gb285) := ZN hg BK276
  have NB285_276 : Za (gb285 ≠ gb276) := ZM hg BK276
  have NB277_285 : Za (gb277 ≠ gb285) := ZN hg BK277
  have NB285_277 : Za (gb285 ≠ gb277) := ZM hg BK277
  replace HO280 := AM (Kd.R_below (Kd.R_elderB (ZR HO280.out) gb285 (Nat.le_of_eq hg.symm)) hb)
  replace BK276 := ZW BK276 hb
  replace BK277 := ZW BK277 hb
  replace HR281_6 := AM (Kd.C_below (ZQ HR281_6.out) hb)
  replace HR281_7 := AM (Kd.C_below (ZQ HR281_7.out) hb)
  replace HK := AM (Kept.below (S := (fun k_ => P3_ k_)) (ZHK HK) hb)
  replace HB := ZT HB hb
  clear hb hbox hg
  refine hK.out _ _ ⟨ZA BK277 0, ZA BK277 1, ZA BK276 0, ZA BK276 1, (ZKS HR1 p281 q281 hy281_0 (ZHK HK)), (ZKS HR1 p281 q281 hy281_1 (ZHK HK)), (ZKS HR1 p281 q281 hy281_2 (ZHK HK)), (ZKS HR1 p281 q281 hy281_3 (ZHK HK)), (ZKS HR1 p281 q281 hy281_4 (ZHK HK)), (ZKS HR1 p281 q281 hy281_5 (ZHK HK)), (ZKS HR1 p281 q281 hy281_6 (ZHK HK)), (ZKS HR1 p281 q281 hy281_7 (ZHK HK)), (ZKS HR0_0 p282 q282 hy282_0 (ZHK HK)), (ZKS HR0_0 p282 q282 hy282_1 (ZHK HK))⟩ (fun hHeld => ?_)
  clear hK K
  refine ZNO 10 ?_
  exact norm_ (by simp only [putAll, Act.put, List.setIfInBounds_toArray, List.set_cons_zero, List.set_cons_succ]) (hCont (gb285) _ ⟨hHeld, (ZRm HO280.out (fun _ hk => ⟨hk.1.1, ⟨hk.1.2, hk.2⟩⟩)), (ZK BK276.out), (ZK BK277.out), (ZK BK285.out), GW285.out, GE285.out, NB276_285.out, NB285_276.out, NB277_285.out, NB285_277.out, (ZHK HK), (ZB)⟩))
  ·(
  skip
  refine box_step ?hg (N := 10) ?hd (cs := #[.int .i64 0, .int .i64 0]) (t := 35) ?hr ?_; (case hd => rfl); (case hg => rfl); (case hr => first | (go_simp; done) | (go_simp; rfl))
  intro gb285 hg w19 hbox hb
  have BK285 := AM (hbox)
  have GW285 := AM ((by rw [hg]; exact (by first | exact HK.out.1 | exact (show Kept w _ (fun k_ => P3_ k_) from ZHK HK).1) : w.heap.size ≤ gb285))
  have GE285 : Za (w0.heap.size ≤ gb285) := ZS hg
  have NB276_285 : Za (gb276 ≠ gb285) := ZN hg BK276
  have NB285_276 : Za (gb285 ≠ gb276) := ZM hg BK276
  have NB277_285 : Za (gb277 ≠ gb285) := ZN hg BK277
  have NB285_277 : Za (gb285 ≠ gb277) := ZM hg BK277
  replace HO280 := AM (Kd.R_below (Kd.R_elderB (ZR HO280.out) gb285 (Nat.le_of_eq hg.symm)) hb)
  replace BK276 := ZW BK276 hb
  replace BK277 := ZW BK277 hb
  replace HR281_6 := AM (Kd.C_below (ZQ HR281_6.out) hb)
  replace HR281_7 := AM (Kd.C_below (ZQ HR281_7.out) hb)
  replace HK := AM (Kept.below (S := (fun k_ => P3_ k_)) (ZHK HK) hb)
  replace HB := ZT HB hb
  clear hb hbox hg
  refine hK.out _ _ ⟨ZA BK277 0, ZA BK277 1, ZA BK276 0, ZA BK276 1, (ZKS HR1 p281 q281 hy281_0 (ZHK HK)), (ZKS HR1 p281 q281 hy281_1 (ZHK HK)), (ZKS HR1 p281 q281 hy281_2 (ZHK HK)), (ZKS HR1 p281 q281 hy281_3 (ZHK HK)), (ZKS HR1 p281 q281 hy281_4 (ZHK HK)), (ZKS HR1 p281 q281 hy281_5 (ZHK HK)), (ZKS HR1 p281 q281 hy281_6 (ZHK HK)), (ZKS HR1 p281 q281 hy281_7 (ZHK HK)), (ZKS HR0_0 p282 q282 hy282_0 (ZHK HK)), (ZKS HR0_0 p282 q282 hy282_1 (ZHK HK))⟩ (fun hHeld => ?_)
  clear hK K
  refine ZNO 10 ?_
  refine one_ (i := 10) (N := some 31) #[T,T,T,T,T,T,T,T,T,T,T,T,F] rfl rfl (one_of HT_.out (by kernel_rfl)) (by decide) (fun K hK => ?_)
  refine ZGO Try.func73 #[.agg #[.int .i64 a2_0, .int .i64 a2_1], .agg #[.int .i64 ((D35 l0_0 ((D40 l1 x9_1).f1)).f0), .int .i64 ((D35 l0_0 ((D40 l1 x9_1).f1)).f1)]] ?_
  with_reducible refine (spec_LabelBoth.calls k1 a2_0 a2_1 ((D35 l0_0 ((D40 l1 x9_1).f1)).f0) ((D35 l0_0 ((D40 l1 x9_1).f1)).f1) t283 t284 _ A12.out).mono ?_
  rintro e w20 ⟨rfl, hb⟩
  refine ZV1 ?_
  replace HO280 := AM (Kd.R_below (ZR HO280.out) hb)
  replace BK276 := ZW BK276 hb
  replace BK277 := ZW BK277 hb
  replace HR281_6 := AM (Kd.C_below (ZQ HR281_6.out) hb)
  replace HR281_7 := AM (Kd.C_below (ZQ HR281_7.out) hb)
  replace BK285 := ZW BK285 hb
  replace HK := AM (Kept.below (S := (fun k_ => P3_ k_)) (ZHK HK) hb)
  replace HB := ZT HB hb
  (try clear hb)
  (try clear hb2)
  (try clear hk)
  (try clear hi)
  refine hK.out _ _ ⟨ZA BK277 0, ZA BK277 1, ZA BK276 0, ZA BK276 1, (ZKS HR1 p281 q281 hy281_0 (ZHK HK)), (ZKS HR1 p281 q281 hy281_1 (ZHK HK)), (ZKS HR1 p281 q281 hy281_2 (ZHK HK)), (ZKS HR1 p281 q281 hy281_3 (ZHK HK)), (ZKS HR1 p281 q281 hy281_4 (ZHK HK)), (ZKS HR1 p281 q281 hy281_5 (ZHK HK)), (ZKS HR1 p281 q281 hy281_6 (ZHK HK)), (ZKS HR1 p281 q281 hy281_7 (ZHK HK)), (ZKS HR0_0 p282 q282 hy282_0 (ZHK HK)), (ZKS HR0_0 p282 q282 hy282_1 (ZHK HK))⟩ (fun hHeld => ?_)
  clear hK K
  refine ZNO 31 ?_
  exact norm_ (by simp only [putAll, Act.put, List.setIfInBounds_toArray, List.set_cons_zero, List.set_cons_succ]) (hCont (gb285) _ ⟨hHeld, (ZRm HO280.out (fun _ hk => ⟨hk.1.1, ⟨hk.1.2, hk.2⟩⟩)), (ZK BK276.out), (ZK BK277.out), (ZK BK285.out), GW285.out, GE285.out, NB276_285.out, NB285_276.out, NB277_285.out, NB285_277.out, (ZHK HK), (ZB)⟩)))
  rintro gb285 w21 ⟨hS_, h0_, h1_, h2_, h3_, h4_, h5_, h6_, h7_, h8_, h9_, h10_, h11_⟩
  try dsimp only at h0_ h1_ h2_ h3_ h4_ h5_ h6_ h7_ h8_ h9_ h10_ h11_
  have n0_ := AM h0_
  have n1_ := AM h1_
  have n2_ := AM h2_
  have n3_ := AM h3_
  have n4_ := AM h4_
  have n5_ := AM h5_
  have n6_ := AM h6_
  have n7_ := AM h7_
  have n8_ := AM h8_
  have n9_ := AM h9_
  have n10_ := AM h10_
  have n11_ := AM h11_
  clear HO280 BK276 BK277 HK HB h0_ h1_ h2_ h3_ h4_ h5_ h6_ h7_ h8_ h9_ h10_ h11_
  have HO280 := n0_
  have BK276 := n1_
  have BK277 := n2_
  have BK285 := n3_
  have GW285 := n4_
  have GE285 := n5_
  have NB276_285 := n6_
  have NB285_276 := n7_
  have NB277_285 := n8_
  have NB285_277 := n9_
  have HK := n10_
  have HB := n11_
  clear n0_ n1_ n2_ n3_ n4_ n5_ n6_ n7_ n8_ n9_ n10_ n11_
  try dsimp only at hS_
  have hHeld := hS_
  refine ZNP ?_
  refine one_ (i := 12) (N := none) #[T,T,T,T,T,T,T,T,T,T,T,T,T] rfl rfl (one_of HT_.out (by kernel_rfl)) (by decide) (fun K hK => ?_)
  have hs22 : w21.cell? ⟨gb285, 0, none⟩ = some (.int .i64 0) := ZA BK285 0
  have hfs22 := blk_frozen BK285.out 0
  have hns22_0 := NB276_285.out
  have hns22_1 := NB277_285.out
  have hms22_0 := NB285_276.out
  have hms22_1 := NB285_277.out
  have hs23 : w21.cell? ⟨gb285, 1, none⟩ = some (.int .i64 0) := ZA BK285 1
  have hfs23 := blk_frozen BK285.out 1
  have hns23_0 := NB276_285.out
  have hns23_1 := NB277_285.out
  have hms23_0 := NB285_276.out
  have hms23_1 := NB285_277.out
  refine skip_ (w1 := ?_) (by rfl) rfl ?_ ?_
  rotate_left
  ·(
  go_simp
  rfl)
  refine hK.out _ _ ⟨((cell_far (p := ⟨gb285, _, none⟩) NB277_285.out _).trans (((cell_far (p := ⟨gb285, _, none⟩) NB277_285.out _).trans (hHeld.1)))), ((cell_far (p := ⟨gb285, _, none⟩) NB277_285.out _).trans (((cell_far (p := ⟨gb285, _, none⟩) NB277_285.out _).trans (hHeld.2.1)))), ((cell_far (p := ⟨gb285, _, none⟩) NB276_285.out _).trans (((cell_far (p := ⟨gb285, _, none⟩) NB276_285.out _).trans (hHeld.2.2.1)))), ((cell_far (p := ⟨gb285, _, none⟩) NB276_285.out _).trans (((cell_far (p := ⟨gb285, _, none⟩) NB276_285.out _).trans (hHeld.2.2.2.1)))), (ZKS HR1 p281 q281 hy281_0 (ZHK HK)), (ZKS HR1 p281 q281 hy281_1 (ZHK HK)), (ZKS HR1 p281 q281 hy281_2 (ZHK HK)), (ZKS HR1 p281 q281 hy281_3 (ZHK HK)), (ZKS HR1 p281 q281 hy281_4 (ZHK HK)), (ZKS HR1 p281 q281 hy281_5 (ZHK HK)), (ZKS HR1 p281 q281 hy281_6 (ZHK HK)), (ZKS HR1 p281 q281 hy281_7 (ZHK HK)), (ZKS HR0_0 p282 q282 hy282_0 (ZHK HK)), (ZKS HR0_0 p282 q282 hy282_1 (ZHK HK))⟩ (fun hHeld => ?_)
  clear hK K
  refine done_ (done_of HT_.out (by kernel_rfl)) ?_
  try go_wp2
  have n0_ : Za (Kd.R k35 35 ((w21.setCell ⟨gb285, 0, none⟩ (.int .i64 t283)).setCell ⟨gb285, 1, none⟩ (.int .i64 t284)) w0.heap.size (fun k_ => (P3_ k_ ∨ w.heap.size ≤ k_) ∧ k_ ≠ gb277 ∧ k_ ≠ gb285) v279 y278) := ⟨ZRf (Kd.R_mono HO280.out (fun k_ hk => (⟨hk, hk.2.2⟩ : _ ∧ k_ ≠ gb285))) (fun _ hk => ⟨hk.2, ⟨hk.1.1, ⟨hk.1.2.1, hk.1.2.2⟩⟩⟩)⟩
  have n1_ : Za (((w21.setCell ⟨gb285, 0, none⟩ (.int .i64 t283)).setCell ⟨gb285, 1, none⟩ (.int .i64 t284)).heap[gb276]? = some (.cells #[.slice (some ad282) l0_0.length c0_0, .slice A0_1 l0_1.length c0_1] 26 (0, 0))) := ⟨ZZ BK276.out⟩
  have n2_ : Za (((w21.setCell ⟨gb285, 0, none⟩ (.int .i64 t283)).setCell ⟨gb285, 1, none⟩ (.int .i64 t284)).heap[gb277]? = some (.cells #[.int .i64 a2_0, .int .i64 a2_1] 35 (0, 0))) := ⟨ZZ BK277.out⟩
  have n3_ : Za (((w21.setCell ⟨gb285, 0, none⟩ (.int .i64 t283)).setCell ⟨gb285, 1, none⟩ (.int .i64 t284)).heap[gb285]? = some (.cells #[.int .i64 t283, .int .i64 t284] 35 (0, 0))) := ⟨ZZ BK285.out⟩
  have n4_ : Za (Kept w ((w21.setCell ⟨gb285, 0, none⟩ (.int .i64 t283)).setCell ⟨gb285, 1, none⟩ (.int .i64 t284)) (fun k_ => P3_ k_)) := ⟨ZHK HK⟩
  have n5_ : Za (Below w0.heap.size w0 ((w21.setCell ⟨gb285, 0, none⟩ (.int .i64 t283)).setCell ⟨gb285, 1, none⟩ (.int .i64 t284))) := ⟨ZB⟩
  (try clear HO280)
  (try clear BK276)
  (try clear BK277)
  (try clear BK285)
  (try clear HK)
  (try clear HB)
  generalize ((w21.setCell ⟨gb285, 0, none⟩ (.int .i64 t283)).setCell ⟨gb285, 1, none⟩ (.int .i64 t284)) = w24 at n0_ n1_ n2_ n3_ n4_ n5_ ⊢
  have HO280 := n0_
  have BK276 := n1_
  have BK277 := n2_
  have BK285 := n3_
  have HK := n4_
  have HB := n5_
  clear n0_ n1_ n2_ n3_ n4_ n5_
  replace HO280 := AM (Kd.R_drew HO280.out)
  replace BK276 := AM (blk_drew BK276.out)
  replace BK277 := AM (blk_drew BK277.out)
  replace BK285 := AM (blk_drew BK285.out)
  replace HK := AM (Kept.drew HK.out)
  replace HB := AM (below_drew1 HB.out)
  have p286 : 0 ≤ (x9_1 : Int) := ZD
  have q286 : x9_1 < (l1.length : Int) := ZD
  obtain ⟨ad286, A286_6, c286_6, A286_7, c286_7, e286, hx286_0, hx286_1, hx286_2, hx286_3, hx286_4, hx286_5, hx286_6, hx286_7, hl286_6, hi286_6, hl286_7, hi286_7⟩ := at_T40 (Kd.C_kept_now HR1.out HK.out) x9_1 p286 q286
  have hw286_7 := hx286_7
  have hw286_6 := hx286_6
  have hw286_5 := hx286_5
  have hw286_4 := hx286_4
  have hw286_3 := hx286_3
  have hw286_2 := hx286_2
  have hw286_1 := hx286_1
  have hw286_0 := hx286_0
  obtain rfl : ad281 = ad286 := (by injection e286)
  have hy286_0 := Kd.kept_slot HR1.out (by omega) (by decide) (ZHK HK) hx286_0 (add_block _ _) (Kept.refl _ _)
  have hy286_1 := Kd.kept_slot HR1.out (by omega) (by decide) (ZHK HK) hx286_1 (add_block _ _) (Kept.refl _ _)
  have hy286_2 := Kd.kept_slot HR1.out (by omega) (by decide) (ZHK HK) hx286_2 (add_block _ _) (Kept.refl _ _)
  have hy286_3 := Kd.kept_slot HR1.out (by omega) (by decide) (ZHK HK) hx286_3 (add_block _ _) (Kept.refl _ _)
  have hy286_4 := Kd.kept_slot HR1.out (by omega) (by decide) (ZHK HK) hx286_4 (add_block _ _) (Kept.refl _ _)
  have hy286_5 := Kd.kept_slot HR1.out (by omega) (by decide) (ZHK HK) hx286_5 (add_block _ _) (Kept.refl _ _)
  have hy286_6 := Kd.kept_slot HR1.out (by omega) (by decide) (ZHK HK) hx286_6 (add_block _ _) (Kept.refl _ _)
  have hy286_7 := Kd.kept_slot HR1.out (by omega) (by decide) (ZHK HK) hx286_7 (add_block _ _) (Kept.refl _ _)
  have HR286_6 := AM hi286_6
  have HC286_6 := AM hl286_6
  clear hi286_6 hl286_6
  have HR286_7 := AM hi286_7
  have HC286_7 := AM hl286_7
  clear hi286_7 hl286_7
  replace p286 := eq_true p286
  replace q286 := eq_true q286
  obtain ⟨Ao26, co26, eo26⟩ := Kd.R_slice HO280.out
  (first | subst eo26 | (injection eo26 with f1_ f2_ f3_; have f4_ := f1_.symm; have f5_ := f3_.symm; clear f1_ f2_ f3_; subst f4_; subst f5_))
  refine start_ (n := 10) (S := fun w' => w'.cell? ⟨gb276, 0, none⟩ = some (.slice (some ad282) l0_0.length c0_0) ∧ w'.cell? ⟨gb276, 1, none⟩ = some (.slice A0_1 l0_1.length c0_1) ∧ w'.cell? ⟨gb285, 0, none⟩ = some (.int .i64 t283) ∧ w'.cell? ⟨gb285, 1, none⟩ = some (.int .i64 t284) ∧ w'.cell? (ad281.add ((x9_1).toNat * 8)) = some (.int .i64 ((D40 l1 x9_1).f0)) ∧ w'.cell? ⟨(ad281.add ((x9_1).toNat * 8)).block, (ad281.add ((x9_1).toNat * 8)).off + 1, none⟩ = some (.int .i64 ((D40 l1 x9_1).f1)) ∧ w'.cell? ⟨(ad281.add ((x9_1).toNat * 8)).block, (ad281.add ((x9_1).toNat * 8)).off + 2, none⟩ = some (.int .i64 ((D40 l1 x9_1).f2.f0)) ∧ w'.cell? ⟨(ad281.add ((x9_1).toNat * 8)).block, (ad281.add ((x9_1).toNat * 8)).off + 3, none⟩ = some (.int .i64 ((D40 l1 x9_1).f2.f1)) ∧ w'.cell? ⟨(ad281.add ((x9_1).toNat * 8)).block, (ad281.add ((x9_1).toNat * 8)).off + 4, none⟩ = some (.int .i64 ((D40 l1 x9_1).f2.f2)) ∧ w'.cell? ⟨(ad281.add ((x9_1).toNat * 8)).block, (ad281.add ((x9_1).toNat * 8)).off + 5, none⟩ = some (.int .i64 ((D40 l1 x9_1).f3)) ∧ w'.cell? ⟨(ad281.add ((x9_1).toNat * 8)).block, (ad281.add ((x9_1).toNat * 8)).off + 6, none⟩ = some (.slice A286_6 ((D40 l1 x9_1).f4).length c286_6) ∧ w'.cell? ⟨(ad281.add ((x9_1).toNat * 8)).block, (ad281.add ((x9_1).toNat * 8)).off + 7, none⟩ = some (.slice A286_7 ((D40 l1 x9_1).f5).length c286_7)) (ds := []) #[F,F,F,F,F,F,F,F,F,F] (by kernel_rfl) rfl rfl ⟨ZA BK276 0, ZA BK276 1, ZA BK285 0, ZA BK285 1, (ZKS HR1 p286 q286 hy286_0 (ZHK HK)), (ZKS HR1 p286 q286 hy286_1 (ZHK HK)), (ZKS HR1 p286 q286 hy286_2 (ZHK HK)), (ZKS HR1 p286 q286 hy286_3 (ZHK HK)), (ZKS HR1 p286 q286 hy286_4 (ZHK HK)), (ZKS HR1 p286 q286 hy286_5 (ZHK HK)), (ZKS HR1 p286 q286 hy286_6 (ZHK HK)), (ZKS HR1 p286 q286 hy286_7 (ZHK HK))⟩ (fun hHeld => ?_); refine with_tabW spec_l11At.tab6 spec_l11At.bits6 (fun HT_ HW_ => ?_)
  generalize w24.drew = w25 at HO280 BK276 BK277 BK285 HK HB HR286_6 HR286_7 hx286_0 hx286_1 hx286_2 hx286_3 hx286_4 hx286_5 hx286_6 hx286_7 hHeld ⊢
  refine ZU 1 33 #[F,T,F,F,F,F,F,F,F,F] ?_
  refine ZU 2 34 #[F,T,T,F,F,F,F,F,F,F] ?_
  refine ZU 3 35 #[F,T,T,T,F,F,F,F,F,F] ?_
  refine ZU 4 36 #[F,T,T,T,T,F,F,F,F,F] ?_
  refine ZU 7 39 #[F,T,T,T,T,F,F,T,F,F] ?_
  refine ZTK 0 32 #[T,T,T,T,T,F,F,T,F,F] hHeld ?_
  refine ZTK 5 37 #[T,T,T,T,T,T,F,T,F,F] hHeld ?_
  refine ZTK 6 38 #[T,T,T,T,T,T,T,T,F,F] hHeld ?_
  refine one_ (i := 8) (N := some 40) #[T,T,T,T,T,T,T,T,T,F] rfl rfl (one_of HT_.out (by kernel_rfl)) (by decide) (fun K hK => ?_)
  refine ZGO Try.func70 #[.agg #[.slice (some ad282) l0_0.length c0_0, .slice A0_1 l0_1.length c0_1], .slice A286_6 ((D40 l1 x9_1).f4).length c286_6, .agg #[.int .i64 t283, .int .i64 t284], .slice Ao26 y278.length co26] ?_
  with_reducible refine (ih k1 (by have := HK1.out; omega) _ _ l0_0 _ _ l0_1 _ _ ((D40 l1 x9_1).f4) t283 t284 (fun k_ => some k_ = (.slice Ao26 y278.length co26 : Value).ownBlock) (.slice Ao26 y278.length co26) y278 t287 w0 _ ?side1 ?side2 ?side3 ?side4 ?side5 ?side6 ?side7 ?side8 A13.out).mono ?_
  (case side1 => repeat (first | (with_reducible first | exact HB.out | apply below_alloc | apply pw_below_drewN | apply below_drew1 | refine below_set ?_ GE276.out | refine below_set ?_ GE277.out | refine below_set ?_ GE285.out) | exact HB.out))
  (case side2 => exact Kd.C_kept_call HR0_0.out (ZHK HK) (fun k_ hs_ => (fun e_ => (HO280.out.1 k_ e_.symm).1) hs_))
  (case side3 => exact HC0_0.out)
  (case side4 => exact Kd.C_kept_call HR0_1.out (ZHK HK) (fun k_ hs_ => (fun e_ => (HO280.out.1 k_ e_.symm).1) hs_))
  (case side5 => exact HC0_1.out)
  (case side6 => exact Kd.C_kept_call (fun W_ k_ => by have hw_ := Kd.kept_slot HR1.out (by have := (of_eq_true p286); have := (of_eq_true q286); omega) (by decide) (Kept.refl _ _) hy286_6 (add_block _ _) k_; obtain ⟨ad_, A6_, c6_, A7_, c7_, e_, m0_, m1_, m2_, m3_, m4_, m5_, m6_, m7_, y6_, z6_, y7_, z7_⟩ := at_T40 (HR1.out W_ k_) (x9_1) (by first | exact of_eq_true p286 | exact p286) (by first | exact of_eq_true q286 | exact q286); cases e_; rw [hw_] at m6_; cases m6_; exact z6_) (ZHK HK) (fun k_ hs_ => (fun e_ => (HO280.out.1 k_ e_.symm).1) hs_))
  (case side7 => exact HC286_6.out)
  (case side8 => exact Kd.R_tight rfl HO280.out)
  rintro e w27 ⟨v288, rfl, ho0, hb, hkp⟩
  refine ZV1 ?_
  have n0_ := AM (blk_kept (ZK BK276.out) hkp (fun hs_ => (fun e_ => (Kd.R_ne HO280.out BK276.out (by decide)) e_) hs_))
  have n1_ := AM (blk_kept (ZK BK277.out) hkp (fun hs_ => (fun e_ => (Kd.R_away HO280.out (fun _ hk => hk.2.1)) e_) hs_))
  have n2_ := AM (blk_kept (ZK BK285.out) hkp (fun hs_ => (fun e_ => (Kd.R_away HO280.out (fun _ hk => hk.2.2)) e_) hs_))
  have n3_ := AM (Kd.R_mono (ok' := fun k_ => (P3_ k_ ∨ w.heap.size ≤ k_) ∧ k_ ≠ gb277 ∧ k_ ≠ gb285) ho0 (fun k_ hk_ => ⟨Or.elim hk_ (fun hs_ => (HO280.out.1 k_ (hs_).symm).1) (fun hn_ => (.inr (Nat.le_trans (by first | exact HK.out.1 | exact (show Kept w _ (fun k_ => P3_ k_) from ZHK HK).1) hn_))), Or.elim hk_ (fun hs_ => fun e_ => (Kd.R_away HO280.out (fun _ hk => hk.2.1)) (by rw [← e_]; exact hs_)) (fun hn_ => (Kd.freshB (g := gb277) (o := .cells #[.int .i64 a2_0, .int .i64 a2_1] 35 (0, 0)) (ZK BK277.out) k_ hn_)), Or.elim hk_ (fun hs_ => fun e_ => (Kd.R_away HO280.out (fun _ hk => hk.2.2)) (by rw [← e_]; exact hs_)) (fun hn_ => (Kd.freshB (g := gb285) (o := .cells #[.int .i64 t283, .int .i64 t284] 35 (0, 0)) (ZK BK285.out) k_ hn_))⟩))
  have n4_ := AM (Kept.then_ (S := (fun k_ => P3_ k_)) (ZHK HK) hkp (fun k_ hs_ => (fun e_ => (HO280.out.1 k_ e_.symm).1) hs_))
  have n5_ := AM (hb)
  clear BK276 BK277 BK285 HK HB HO280
  have BK276 := n0_
  have BK277 := n1_
  have BK285 := n2_
  have HO289 := n3_
  have HK := n4_
  have HB := n5_
  clear n0_ n1_ n2_ n3_ n4_ n5_
  (try clear hb)
  (try clear hkp)
  (try clear ho0)
  refine hK.out _ _ ⟨ZA BK276 0, ZA BK276 1, ZA BK285 0, ZA BK285 1, (ZKS HR1 p286 q286 hy286_0 (ZHK HK)), (ZKS HR1 p286 q286 hy286_1 (ZHK HK)), (ZKS HR1 p286 q286 hy286_2 (ZHK HK)), (ZKS HR1 p286 q286 hy286_3 (ZHK HK)), (ZKS HR1 p286 q286 hy286_4 (ZHK HK)), (ZKS HR1 p286 q286 hy286_5 (ZHK HK)), (ZKS HR1 p286 q286 hy286_6 (ZHK HK)), (ZKS HR1 p286 q286 hy286_7 (ZHK HK))⟩ (fun hHeld => ?_)
  clear hK K
  refine ZNO 40 ?_
  refine ZU 9 3 #[T,T,T,T,T,T,T,T,T,T] ?_
  refine done_ (done_of HT_.out (by kernel_rfl)) ?_
  try go_wp2
  replace HO289 := AM (Kd.R_drew HO289.out)
  replace BK276 := AM (blk_drew BK276.out)
  replace BK277 := AM (blk_drew BK277.out)
  replace BK285 := AM (blk_drew BK285.out)
  replace HK := AM (Kept.drew HK.out)
  replace HB := AM (below_drew1 HB.out)
  have p290 : 0 ≤ (x9_1 : Int) := ZD
  have q290 : x9_1 < (l1.length : Int) := ZD
  obtain ⟨ad290, A290_6, c290_6, A290_7, c290_7, e290, hx290_0, hx290_1, hx290_2, hx290_3, hx290_4, hx290_5, hx290_6, hx290_7, hl290_6, hi290_6, hl290_7, hi290_7⟩ := at_T40 (Kd.C_kept_now HR1.out HK.out) x9_1 p290 q290
  have hw290_7 := hx290_7
  have hw290_6 := hx290_6
  have hw290_5 := hx290_5
  have hw290_4 := hx290_4
  have hw290_3 := hx290_3
  have hw290_2 := hx290_2
  have hw290_1 := hx290_1
  have hw290_0 := hx290_0
  obtain rfl : ad281 = ad290 := (by injection e290)
  have hy290_0 := Kd.kept_slot HR1.out (by omega) (by decide) (ZHK HK) hx290_0 (add_block _ _) (Kept.refl _ _)
  have hy290_1 := Kd.kept_slot HR1.out (by omega) (by decide) (ZHK HK) hx290_1 (add_block _ _) (Kept.refl _ _)
  have hy290_2 := Kd.kept_slot HR1.out (by omega) (by decide) (ZHK HK) hx290_2 (add_block _ _) (Kept.refl _ _)
  have hy290_3 := Kd.kept_slot HR1.out (by omega) (by decide) (ZHK HK) hx290_3 (add_block _ _) (Kept.refl _ _)
  have hy290_4 := Kd.kept_slot HR1.out (by omega) (by decide) (ZHK HK) hx290_4 (add_block _ _) (Kept.refl _ _)
  have hy290_5 := Kd.kept_slot HR1.out (by omega) (by decide) (ZHK HK) hx290_5 (add_block _ _) (Kept.refl _ _)
  have hy290_6 := Kd.kept_slot HR1.out (by omega) (by decide) (ZHK HK) hx290_6 (add_block _ _) (Kept.refl _ _)
  have hy290_7 := Kd.kept_slot HR1.out (by omega) (by decide) (ZHK HK) hx290_7 (add_block _ _) (Kept.refl _ _)
  have HR290_6 := AM hi290_6
  have HC290_6 := AM hl290_6
  clear hi290_6 hl290_6
  have HR290_7 := AM hi290_7
  have HC290_7 := AM hl290_7
  clear hi290_7 hl290_7
  replace p290 := eq_true p290
  replace q290 := eq_true q290
  obtain ⟨Ao29, co29, eo29⟩ := Kd.R_slice HO289.out
  (first | subst eo29 | (injection eo29 with f1_ f2_ f3_; have f4_ := f1_.symm; have f5_ := f3_.symm; clear f1_ f2_ f3_; subst f4_; subst f5_))
  refine start_ (n := 10) (S := fun w' => w'.cell? ⟨gb276, 0, none⟩ = some (.slice (some ad282) l0_0.length c0_0) ∧ w'.cell? ⟨gb276, 1, none⟩ = some (.slice A0_1 l0_1.length c0_1) ∧ w'.cell? ⟨gb285, 0, none⟩ = some (.int .i64 t283) ∧ w'.cell? ⟨gb285, 1, none⟩ = some (.int .i64 t284) ∧ w'.cell? (ad281.add ((x9_1).toNat * 8)) = some (.int .i64 ((D40 l1 x9_1).f0)) ∧ w'.cell? ⟨(ad281.add ((x9_1).toNat * 8)).block, (ad281.add ((x9_1).toNat * 8)).off + 1, none⟩ = some (.int .i64 ((D40 l1 x9_1).f1)) ∧ w'.cell? ⟨(ad281.add ((x9_1).toNat * 8)).block, (ad281.add ((x9_1).toNat * 8)).off + 2, none⟩ = some (.int .i64 ((D40 l1 x9_1).f2.f0)) ∧ w'.cell? ⟨(ad281.add ((x9_1).toNat * 8)).block, (ad281.add ((x9_1).toNat * 8)).off + 3, none⟩ = some (.int .i64 ((D40 l1 x9_1).f2.f1)) ∧ w'.cell? ⟨(ad281.add ((x9_1).toNat * 8)).block, (ad281.add ((x9_1).toNat * 8)).off + 4, none⟩ = some (.int .i64 ((D40 l1 x9_1).f2.f2)) ∧ w'.cell? ⟨(ad281.add ((x9_1).toNat * 8)).block, (ad281.add ((x9_1).toNat * 8)).off + 5, none⟩ = some (.int .i64 ((D40 l1 x9_1).f3)) ∧ w'.cell? ⟨(ad281.add ((x9_1).toNat * 8)).block, (ad281.add ((x9_1).toNat * 8)).off + 6, none⟩ = some (.slice A290_6 ((D40 l1 x9_1).f4).length c290_6) ∧ w'.cell? ⟨(ad281.add ((x9_1).toNat * 8)).block, (ad281.add ((x9_1).toNat * 8)).off + 7, none⟩ = some (.slice A290_7 ((D40 l1 x9_1).f5).length c290_7)) (ds := []) #[F,F,F,F,F,F,F,F,F,F] (by kernel_rfl) rfl rfl ⟨ZA BK276 0, ZA BK276 1, ZA BK285 0, ZA BK285 1, (ZKS HR1 p290 q290 hy290_0 (ZHK HK)), (ZKS HR1 p290 q290 hy290_1 (ZHK HK)), (ZKS HR1 p290 q290 hy290_2 (ZHK HK)), (ZKS HR1 p290 q290 hy290_3 (ZHK HK)), (ZKS HR1 p290 q290 hy290_4 (ZHK HK)), (ZKS HR1 p290 q290 hy290_5 (ZHK HK)), (ZKS HR1 p290 q290 hy290_6 (ZHK HK)), (ZKS HR1 p290 q290 hy290_7 (ZHK HK))⟩ (fun hHeld => ?_); refine with_tabW spec_l11At.tab7 spec_l11At.bits7 (fun HT_ HW_ => ?_)
  generalize w27.drew = w28 at HO289 BK276 BK277 BK285 HK HB HR290_6 HR290_7 hx290_0 hx290_1 hx290_2 hx290_3 hx290_4 hx290_5 hx290_6 hx290_7 hHeld ⊢
  refine ZU 1 42 #[F,T,F,F,F,F,F,F,F,F] ?_
  refine ZU 2 43 #[F,T,T,F,F,F,F,F,F,F] ?_
  refine ZU 3 44 #[F,T,T,T,F,F,F,F,F,F] ?_
  refine ZU 4 45 #[F,T,T,T,T,F,F,F,F,F] ?_
  refine ZU 7 48 #[F,T,T,T,T,F,F,T,F,F] ?_
  refine ZTK 0 41 #[T,T,T,T,T,F,F,T,F,F] hHeld ?_
  refine ZTK 5 46 #[T,T,T,T,T,T,F,T,F,F] hHeld ?_
  refine ZTK 6 47 #[T,T,T,T,T,T,T,T,F,F] hHeld ?_
  refine one_ (i := 8) (N := some 49) #[T,T,T,T,T,T,T,T,T,F] rfl rfl (one_of HT_.out (by kernel_rfl)) (by decide) (fun K hK => ?_)
  refine ZGO Try.func70 #[.agg #[.slice (some ad282) l0_0.length c0_0, .slice A0_1 l0_1.length c0_1], .slice A290_7 ((D40 l1 x9_1).f5).length c290_7, .agg #[.int .i64 t283, .int .i64 t284], .slice Ao29 t287.length co29] ?_
  with_reducible refine (ih k1 (by have := HK1.out; omega) _ _ l0_0 _ _ l0_1 _ _ ((D40 l1 x9_1).f5) t283 t284 (fun k_ => some k_ = (.slice Ao29 t287.length co29 : Value).ownBlock) (.slice Ao29 t287.length co29) t287 t291 w0 _ ?side1 ?side2 ?side3 ?side4 ?side5 ?side6 ?side7 ?side8 A14.out).mono ?_
  (case side1 => repeat (first | (with_reducible first | exact HB.out | apply below_alloc | apply pw_below_drewN | apply below_drew1 | refine below_set ?_ GE276.out | refine below_set ?_ GE277.out | refine below_set ?_ GE285.out) | exact HB.out))
  (case side2 => exact Kd.C_kept_call HR0_0.out (ZHK HK) (fun k_ hs_ => (fun e_ => (HO289.out.1 k_ e_.symm).1) hs_))
  (case side3 => exact HC0_0.out)
  (case side4 => exact Kd.C_kept_call HR0_1.out (ZHK HK) (fun k_ hs_ => (fun e_ => (HO289.out.1 k_ e_.symm).1) hs_))
  (case side5 => exact HC0_1.out)
  (case side6 => exact Kd.C_kept_call (fun W_ k_ => by have hw_ := Kd.kept_slot HR1.out (by have := (of_eq_true p290); have := (of_eq_true q290); omega) (by decide) (Kept.refl _ _) hy290_7 (add_block _ _) k_; obtain ⟨ad_, A6_, c6_, A7_, c7_, e_, m0_, m1_, m2_, m3_, m4_, m5_, m6_, m7_, y6_, z6_, y7_, z7_⟩ := at_T40 (HR1.out W_ k_) (x9_1) (by first | exact of_eq_true p290 | exact p290) (by first | exact of_eq_true q290 | exact q290); cases e_; rw [hw_] at m7_; cases m7_; exact z7_) (ZHK HK) (fun k_ hs_ => (fun e_ => (HO289.out.1 k_ e_.symm).1) hs_))
  (case side7 => exact HC290_7.out)
  (case side8 => exact Kd.R_tight rfl HO289.out)
  rintro e w30 ⟨v292, rfl, ho0, hb, hkp⟩
  refine ZV1 ?_
  have n0_ := AM (blk_kept (ZK BK276.out) hkp (fun hs_ => (fun e_ => (Kd.R_ne HO289.out BK276.out (by decide)) e_) hs_))
  have n1_ := AM (blk_kept (ZK BK277.out) hkp (fun hs_ => (fun e_ => (Kd.R_away HO289.out (fun _ hk => hk.2.1)) e_) hs_))
  have n2_ := AM (blk_kept (ZK BK285.out) hkp (fun hs_ => (fun e_ => (Kd.R_away HO289.out (fun _ hk => hk.2.2)) e_) hs_))
  have n3_ := AM (Kd.R_mono (ok' := fun k_ => (P3_ k_ ∨ w.heap.size ≤ k_) ∧ k_ ≠ gb277 ∧ k_ ≠ gb285) ho0 (fun k_ hk_ => ⟨Or.elim hk_ (fun hs_ => (HO289.out.1 k_ (hs_).symm).1) (fun hn_ => (.inr (Nat.le_trans (by first | exact HK.out.1 | exact (show Kept w _ (fun k_ => P3_ k_) from ZHK HK).1) hn_))), Or.elim hk_ (fun hs_ => fun e_ => (Kd.R_away HO289.out (fun _ hk => hk.2.1)) (by rw [← e_]; exact hs_)) (fun hn_ => (Kd.freshB (g := gb277) (o := .cells #[.int .i64 a2_0, .int .i64 a2_1] 35 (0, 0)) (ZK BK277.out) k_ hn_)), Or.elim hk_ (fun hs_ => fun e_ => (Kd.R_away HO289.out (fun _ hk => hk.2.2)) (by rw [← e_]; exact hs_)) (fun hn_ => (Kd.freshB (g := gb285) (o := .cells #[.int .i64 t283, .int .i64 t284] 35 (0, 0)) (ZK BK285.out) k_ hn_))⟩))
  have n4_ := AM (Kept.then_ (S := (fun k_ => P3_ k_)) (ZHK HK) hkp (fun k_ hs_ => (fun e_ => (HO289.out.1 k_ e_.symm).1) hs_))
  have n5_ := AM (hb)
  clear BK276 BK277 BK285 HK HB HO289
  have BK276 := n0_
  have BK277 := n1_
  have BK285 := n2_
  have HO293 := n3_
  have HK := n4_
  have HB := n5_
  clear n0_ n1_ n2_ n3_ n4_ n5_
  (try clear hb)
  (try clear hkp)
  (try clear ho0)
  refine hK.out _ _ ⟨ZA BK276 0, ZA BK276 1, ZA BK285 0, ZA BK285 1, (ZKS HR1 p290 q290 hy290_0 (ZHK HK)), (ZKS HR1 p290 q290 hy290_1 (ZHK HK)), (ZKS HR1 p290 q290 hy290_2 (ZHK HK)), (ZKS HR1 p290 q290 hy290_3 (ZHK HK)), (ZKS HR1 p290 q290 hy290_4 (ZHK HK)), (ZKS HR1 p290 q290 hy290_5 (ZHK HK)), (ZKS HR1 p290 q290 hy290_6 (ZHK HK)), (ZKS HR1 p290 q290 hy290_7 (ZHK HK))⟩ (fun hHeld => ?_)
  clear hK K
  refine ZNO 49 ?_
  refine ZU 9 3 #[T,T,T,T,T,T,T,T,T,T] ?_
  refine done_ (done_of HT_.out (by kernel_rfl)) ?_
  try go_wp2
  go_roundg k1
  case measure => have := HK1.out; omega
  case rel => exact ⟨(t291), (wrap64 (x9_1 + 1)), ZSM, H', ⟨by have := HK1.out; omega⟩, ⟨ZRm HO293.out (fun _ hk => ⟨hk.1, hk.2.1⟩)⟩, ⟨ZK BK276.out⟩, ⟨ZK BK277.out⟩, ⟨ZHK HK⟩, ⟨ZB⟩⟩)
  ·(
  rw [if_neg c11] at H
  exact absurd H (by simp)))
  ·(
  rw [if_neg c10] at H
  exact absurd H (by simp)))
  ·(
  rw [if_neg c9] at H
  exact absurd H (by simp)))
  ·(
  rw [if_neg c8] at H
  exact absurd H (by simp)))
  ·(
  rw [if_neg c7] at H
  have c7b0 := decide_eq_false c7
  clear c7
  obtain rfl := Option.some.inj H
  go_wp2
  go_ret
  exact ⟨_, ZE, ZRm HO_3.out (fun _ hk => hk.1), ZB, ZHK HK⟩))

end Go.Proofs.Ytkkdeojbkfjlpaa.B
