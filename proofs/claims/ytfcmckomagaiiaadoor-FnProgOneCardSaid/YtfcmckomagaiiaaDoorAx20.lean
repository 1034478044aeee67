/- Go functions as Lean functions, and for each its contract; written by wip/tools/pr.py over the kit's print. -/
import Derived.Test.YtfcmckomagaiiaaDoorAx0
import Derived.Test.YtfcmckomagaiiaaDoorAx19
namespace Go.Proofs.YtfcmckomagaiiaaDoor.A
open Go.RowKit Go.Proofs.YtfcmckomagaiiaaDoorW.PrintWords Go.Proofs.YtfcmckomagaiiaaDoorW.PrintLast Go.Proofs.YtfcmckomagaiiaaDoorW.PrintMore
attribute [local go_sem] max2_int min2_int max_two min_two max_three min_three max_four min_four
set_option linter.unusedVariables false
set_option linter.unusedSimpArgs false
set_option maxHeartbeats 8000000
set_option maxRecDepth 100000

/-! ### spec_l11At: function 88 -/
mutual
def spec_l11At.l0 : Nat → List (S71) → List (S43) → Int → List (S43) → List (S71) → Int → Int → Option ((List (S43)))
 | 0, _, _, _, _, _, _, _ => none
 | k + 1, x1, x3, x9, x375000, x375001, x376000, x376001 => if x9 < (x1.length : Int) then (if x3.length < 8796093022208 then (if 0 ≤ x9 then (if 0 ≤ ((D71 x1 x9).f1) then (if ((D71 x1 x9).f1) < (x375000.length : Int) then ((spec_LabelBoth.f k x376000 x376001 ((D43 x375000 ((D71 x1 x9).f1)).f0) ((D43 x375000 ((D71 x1 x9).f1)).f1)).bind fun bt381 => ((spec_l11At.f k x375000 x375001 ((D71 x1 x9).f4) bt381.1 bt381.2 (x3 ++ [(⟨x376000, x376001⟩ : S43)])).bind fun t385 => ((spec_l11At.f k x375000 x375001 ((D71 x1 x9).f5) bt381.1 bt381.2 t385).bind fun t389 => (spec_l11At.l0 k x1 t389 (wrap64 (x9 + 1)) x375000 x375001 x376000 x376001)))) else (none)) else (none)) else (none)) else (none)) else (some x3)
def spec_l11At.f : Nat → List (S43) → List (S71) → List (S71) → Int → Int → List (S43) → Option ((List (S43)))
 | 0, _, _, _, _, _, _ => none
 | k + 1, l0_0, l0_1, l1, a2_0, a2_1, l3 => spec_l11At.l0 k l1 l3 0 l0_0 l0_1 a2_0 a2_1
end
def spec_l11At.T5 : Bool × List (List Nat × List Nat) := (true, [([], []), ([], []), ([1], [1]), ([], []), ([], []), ([3, 4], [3, 4]), ([5], [5]), ([6], [6]), ([2, 7], [2, 7]), ([8], [8]), ([0, 9], [0, 9]), ([], []), ([11, 10, 10, 0, 1, 2, 3, 4, 5, 6, 7, 8, 9, 10, 11], [10, 11])])
def spec_l11At.B5 : List Nat := [0, 0, 2, 0, 0, 24, 56, 120, 254, 510, 1023, 0, 4095]
theorem spec_l11At.tab5 : rtab .any (opsOf Tryd.f88 5) = spec_l11At.T5 := by kernel_rfl
theorem spec_l11At.bits5 : waitsOk spec_l11At.T5.2 spec_l11At.B5 = true := by kernel_rfl
def spec_l11At.T6 : Bool × List (List Nat × List Nat) := (true, [([], []), ([], []), ([], []), ([1, 2], [1, 2]), ([3], [3]), ([4], [4]), ([], []), ([], []), ([0, 5, 6, 7], [0, 5, 6, 7]), ([8, 8, 0, 1, 2, 3, 4, 5, 6, 7, 8], [7, 8])])
def spec_l11At.B6 : List Nat := [0, 0, 0, 6, 14, 30, 0, 0, 255, 511]
theorem spec_l11At.tab6 : rtab .any (opsOf Tryd.f88 6) = spec_l11At.T6 := by kernel_rfl
theorem spec_l11At.bits6 : waitsOk spec_l11At.T6.2 spec_l11At.B6 = true := by kernel_rfl
def spec_l11At.T7 : Bool × List (List Nat × List Nat) := (true, [([], []), ([], []), ([], []), ([1, 2], [1, 2]), ([3], [3]), ([4], [4]), ([], []), ([], []), ([0, 5, 6, 7], [0, 5, 6, 7]), ([8, 8, 0, 1, 2, 3, 4, 5, 6, 7, 8], [7, 8])])
def spec_l11At.B7 : List Nat := [0, 0, 0, 6, 14, 30, 0, 0, 255, 511]
theorem spec_l11At.tab7 : rtab .any (opsOf Tryd.f88 7) = spec_l11At.T7 := by kernel_rfl
theorem spec_l11At.bits7 : waitsOk spec_l11At.T7.2 spec_l11At.B7 = true := by kernel_rfl
theorem spec_l11At.calls (k : Nat) : ∀ (A0_0 : Option Addr) (c0_0 : Nat) (l0_0 : List (S43)) (A0_1 : Option Addr) (c0_1 : Nat) (l0_1 : List (S71)) (A1 : Option Addr) (c1 : Nat) (l1 : List (S71)) (a2_0 : Int) (a2_1 : Int) (P3_ : Nat → Prop) (u9000_ : Value) (l3 : List (S43)) (r : List (S43)) (w0 w : World) (hB : Below w0.heap.size w0 w) (hr0_0 : ∀ W_, Kept w W_ (fun k_ => P3_ k_) → Kd.C k43 W_ A0_0 l0_0.length l0_0) (hc0_0 : l0_0.length ≤ c0_0) (hr0_1 : ∀ W_, Kept w W_ (fun k_ => P3_ k_) → Kd.C k71 W_ A0_1 l0_1.length l0_1) (hc0_1 : l0_1.length ≤ c0_1) (hr1 : ∀ W_, Kept w W_ (fun k_ => P3_ k_) → Kd.C k71 W_ A1 l1.length l1) (hc1 : l1.length ≤ c1) (ho3 : Kd.R k43 43 w w0.heap.size P3_ u9000_ l3) (h : spec_l11At.f k l0_0 l0_1 l1 a2_0 a2_1 l3 = some r),
  Calls Tryd.prog 88 #[.agg #[.slice A0_0 l0_0.length c0_0, .slice A0_1 l0_1.length c0_1], .slice A1 l1.length c1, .agg #[.int .i64 a2_0, .int .i64 a2_1], u9000_] w fun e w' => ∃ v0_ : Value, e = .returned (v0_) ∧ Kd.R k43 43 w' w0.heap.size (fun k_ => (P3_ k_ ∨ w.heap.size ≤ k_)) v0_ r ∧ Below w0.heap.size w0 w' ∧ Kept w w' (fun k_ => P3_ k_) := by
 induction k using Nat.strongRecOn with
 | _ k ih =>
 intro A0_0 c0_0 l0_0 A0_1 c0_1 l0_1 A1 c1 l1 a2_0 a2_1 P3_ u9000_ l3 r w0 w hB hr0_0 hc0_0 hr0_1 hc0_1 hr1 hc1 ho3 h
 cases k with
 | zero => exact absurd h (by simp [spec_l11At.f])
 | succ k =>
 simp only [spec_l11At.f] at h
 have hu31 := Tryd.underlying31
 have hu43 := Tryd.underlying43
 have HR0_0 := AM hr0_0
 have HC0_0 := AM hc0_0
 clear hr0_0 hc0_0
 have HR0_1 := AM hr0_1
 have HC0_1 := AM hc0_1
 clear hr0_1 hc0_1
 have HR1 := AM hr1
 have HC1 := AM hc1
 clear hr1 hc1
 have HO3 := AM (show Kd.R k43 43 w w0.heap.size (fun k_ => (P3_ k_ ∨ w.heap.size ≤ k_)) u9000_ l3 from Kd.R_mono ho3 (fun k_ hk => (.inl hk)))
 have HK := AM (Kept.refl w (fun k_ => P3_ k_))
 have HW0 := AM hB.size
 have HB := AM hB
 clear hB
 have H : (spec_l11At.l0 k l1 l3 0 l0_0 l0_1 a2_0 a2_1) = some r := h
 clear h
 have H' := AM H
 clear H
 go_enter Tryd.func88, Tryd.ntmps88
 go_wp2_with (first | ((with_reducible refine gate_dst (N := 4) rfl ?_); refine ZX (N := 4) (cs := #[.slice A0_0 l0_0.length c0_0, .slice A0_1 l0_1.length c0_1]) (t := 31) ?_; intro gb374 hg w5 hbox hb; have BK374 := AM (hbox); have GW374 := AM ((by rw [hg]; exact (by first | exact HK.out.1 | exact (show Kept w _ (fun k_ => P3_ k_) from ZHK HK).1) : w.heap.size ≤ gb374)); have GE374 : Za (w0.heap.size ≤ gb374) := ZS hg; replace HO3 := AM (Kd.R_below (ZR HO3.out) hb); replace HK := AM (Kept.below (S := (fun k_ => P3_ k_)) (ZHK HK) hb); replace HB := ZT HB hb; clear hb hbox hg) | ((with_reducible refine gate_dst (N := 6) rfl ?_); refine ZX (N := 6) (cs := #[.int .i64 a2_0, .int .i64 a2_1]) (t := 43) ?_; intro gb375 hg w6 hbox hb; have BK375 := AM (hbox); have GW375 := AM ((by rw [hg]; exact (by first | exact HK.out.1 | exact (show Kept w _ (fun k_ => P3_ k_) from ZHK HK).1) : w.heap.size ≤ gb375)); have GE375 : Za (w0.heap.size ≤ gb375) := ZS hg; have NB374_375 : Za (gb374 ≠ gb375) := ZN hg BK374; have NB375_374 : Za (gb375 ≠ gb374) := ZM hg BK374; replace HO3 := AM (Kd.R_below (Kd.R_elderB (ZR HO3.out) gb375 (Nat.le_of_eq hg.symm)) hb); replace BK374 := ZW BK374 hb; replace HK := AM (Kept.below (S := (fun k_ => P3_ k_)) (ZHK HK) hb); replace HB := ZT HB hb; clear hb hbox hg))
 go_loopg [3, 9] k (fun kq v3 v9 w' => ∃ (x3_1 : List (S43)) (x9_1 : Int), v9 = .int .i64 x9_1 ∧ Za (spec_l11At.l0 kq l1 x3_1 x9_1 l0_0 l0_1 a2_0 a2_1 = some r) ∧ Za (kq ≤ k) ∧ Za (Kd.R k43 43 w' w0.heap.size (fun k_ => (P3_ k_ ∨ w.heap.size ≤ k_) ∧ k_ ≠ gb375) v3 x3_1) ∧ Za (w'.heap[gb374]? = some (.cells #[(.slice A0_0 l0_0.length c0_0), (.slice A0_1 l0_1.length c0_1)] 31 (0, 0))) ∧ Za (w'.heap[gb375]? = some (.cells #[.int .i64 a2_0, .int .i64 a2_1] 43 (0, 0))) ∧ Za (Kept w w' (fun k_ => P3_ k_)) ∧ Za (Below w0.heap.size w0 w'))
 case atStart => exact ⟨(l3), (0), ZSM, H', ⟨Nat.le_refl _⟩, ⟨ZR HO3.out⟩, ⟨ZK BK374.out⟩, ⟨ZK BK375.out⟩, ⟨ZHK HK⟩, ⟨ZB⟩⟩
 case round => (
 clear H'
 try clear c1
 try clear p2
 obtain ⟨x3_1, x9_1, rfl, HA, HK1, HO_3, BK374, BK375, HK, HB⟩ := hrel
 cases gk with
 | zero => exact absurd HA.out (by simp [spec_l11At.l0])
 | succ k1 =>
  have H := HA.out
  clear HA
  simp only [spec_l11At.l0] at H
  by_cases c7 : x9_1 < (l1.length : Int)
  ·(
  rw [if_pos c7] at H
  have c7b0 := decide_eq_true c7
  clear c7
  by_cases c8 : x3_1.length < 8796093022208
  ·(
  rw [if_pos c8] at H
  have LMc8 := AM c8
  clear c8
  obtain ⟨y376, hy376⟩ : ∃ y_ : List (S43), y_ = (x3_1 ++ [(⟨a2_0, a2_1⟩ : S43)]) := ⟨_, rfl⟩
  replace H : (if 0 ≤ x9_1 then (if 0 ≤ ((D71 l1 x9_1).f1) then (if ((D71 l1 x9_1).f1) < (l0_0.length : Int) then ((spec_LabelBoth.f k1 a2_0 a2_1 ((D43 l0_0 ((D71 l1 x9_1).f1)).f0) ((D43 l0_0 ((D71 l1 x9_1).f1)).f1)).bind fun bt381 => ((spec_l11At.f k1 l0_0 l0_1 ((D71 l1 x9_1).f4) bt381.1 bt381.2 y376).bind fun t385 => ((spec_l11At.f k1 l0_0 l0_1 ((D71 l1 x9_1).f5) bt381.1 bt381.2 t385).bind fun t389 => (spec_l11At.l0 k1 l1 t389 (wrap64 (x9_1 + 1)) l0_0 l0_1 a2_0 a2_1)))) else (none)) else (none)) else (none)) = some r := by rw [hy376]; exact H
  have Ny376 := AM hy376
  clear hy376
  by_cases c9 : 0 ≤ x9_1
  ·(
  rw [if_pos c9] at H
  have c9b0 := decide_eq_true c9
  clear c9
  by_cases c10 : 0 ≤ ((D71 l1 x9_1).f1)
  ·(
  rw [if_pos c10] at H
  have c10b0 := decide_eq_true c10
  clear c10
  by_cases c11 : ((D71 l1 x9_1).f1) < (l0_0.length : Int)
  ·(
  rw [if_pos c11] at H
  have c11b0 := decide_eq_true c11
  clear c11
  obtain ⟨⟨t381, t382⟩, A12, H⟩ := ZOB H; try dsimp only at H
  obtain ⟨t385, A13, H⟩ := ZOB H; try dsimp only at H
  obtain ⟨t389, A14, H⟩ := ZOB H; try dsimp only at H
  have H' := AM H
  clear H
  have hnb15 := NB375_374.out
  have hnc15 := NB374_375.out
  have hcz16 := ZC2 wr BK375
  try go_wp2_with (first | ((with_reducible refine gate_builtin (b := .append) (xs := #[.tmp 17, .tmp 19]) rfl ?_); at_builtin; refine Kd.R_append k43 (w0 := w0) w0.heap.size rfl (.tmp 17) (.tmp 19) 28 43 (.agg #[(.int .i64 0), (.int .i64 0)]) 16 rfl Tryd.underlying28 info43 rfl (by decide) (by omega) u3 x3_1 (⟨a2_0, a2_1⟩ : S43) [.int .i64 a2_0, .int .i64 a2_1] (fun k_ => (P3_ k_ ∨ w.heap.size ≤ k_) ∧ k_ ≠ gb375) (fun _ => False) rfl rfl ?aP (fun _ hk => hk.elim) ?aF ?aO ?aB ?aS ?aL ?_; (case aP => exact k43_mkM _ _ _ (⟨a2_0, a2_1⟩ : S43)); (case aB => exact (ZB)); (case aF => exact (fun k_ hk => ⟨(.inr (Nat.le_trans (by first | exact HK.out.1 | exact (show Kept w _ (fun k_ => P3_ k_) from ZHK HK).1) hk)), Kd.freshB (g := gb375) (o := .cells #[.int .i64 a2_0, .int .i64 a2_1] 43 (0, 0)) (ZK BK375.out) k_ hk⟩)); (case aO => exact (ZR HO_3.out)); (case aS => exact (below_size (ZB))); (case aL => have := LMc8.out; omega); intro v377 w17 ho hb hg hat; rw [← Ny376.out] at ho; have n0_ := AM (blk_grown (g := gb374) (o := .cells #[.slice A0_0 l0_0.length c0_0, .slice A0_1 l0_1.length c0_1] 31 (0, 0)) (ZK BK374.out) hg (Kd.R_ne HO_3.out BK374.out (by decide))); have n1_ := AM (blk_grown (g := gb375) (o := .cells #[.int .i64 a2_0, .int .i64 a2_1] 43 (0, 0)) (ZK BK375.out) hg (Kd.R_away HO_3.out (fun _ hk => hk.2))); have n2_ := AM (hb); have n3_ := AM (Kept.of_grown (S := (fun k_ => P3_ k_)) hg (ZHK HK) (fun k_ e_ => (HO_3.out.1 k_ e_).1)); have n4_ := AM (ho); clear BK374 BK375 HB HK HO_3; have BK374 := n0_; have BK375 := n1_; have HB := n2_; have HK := n3_; have HO378 := n4_; clear n0_ n1_ n2_ n3_ n4_ ho hb hg hat))
  replace HO378 := AM (Kd.R_drew HO378.out)
  replace BK374 := AM (blk_drew BK374.out)
  replace BK375 := AM (blk_drew BK375.out)
  replace HK := AM (Kept.drew HK.out)
  replace HB := AM (below_drew1 HB.out)
  have p379 : 0 ≤ (x9_1 : Int) := ZD
  have q379 : x9_1 < (l1.length : Int) := ZD
  obtain ⟨ad379, A379_6, c379_6, A379_7, c379_7, e379, hx379_0, hx379_1, hx379_2, hx379_3, hx379_4, hx379_5, hx379_6, hx379_7, hl379_6, hi379_6, hl379_7, hi379_7⟩ := at_T71 (Kd.C_kept_now HR1.out HK.out) x9_1 p379 q379
  have hw379_7 := hx379_7
  have hw379_6 := hx379_6
  have hw379_5 := hx379_5
  have hw379_4 := hx379_4
  have hw379_3 := hx379_3
  have hw379_2 := hx379_2
  have hw379_1 := hx379_1
  have hw379_0 := hx379_0
  cases e379
  have hy379_0 := Kd.kept_slot HR1.out (by omega) (by decide) (ZHK HK) hx379_0 (add_block _ _) (Kept.refl _ _)
  have hy379_1 := Kd.kept_slot HR1.out (by omega) (by decide) (ZHK HK) hx379_1 (add_block _ _) (Kept.refl _ _)
  have hy379_2 := Kd.kept_slot HR1.out (by omega) (by decide) (ZHK HK) hx379_2 (add_block _ _) (Kept.refl _ _)
  have hy379_3 := Kd.kept_slot HR1.out (by omega) (by decide) (ZHK HK) hx379_3 (add_block _ _) (Kept.refl _ _)
  have hy379_4 := Kd.kept_slot HR1.out (by omega) (by decide) (ZHK HK) hx379_4 (add_block _ _) (Kept.refl _ _)
  have hy379_5 := Kd.kept_slot HR1.out (by omega) (by decide) (ZHK HK) hx379_5 (add_block _ _) (Kept.refl _ _)
  have hy379_6 := Kd.kept_slot HR1.out (by omega) (by decide) (ZHK HK) hx379_6 (add_block _ _) (Kept.refl _ _)
  have hy379_7 := Kd.kept_slot HR1.out (by omega) (by decide) (ZHK HK) hx379_7 (add_block _ _) (Kept.refl _ _)
  have HR379_6 := AM hi379_6
  have HC379_6 := AM hl379_6
  clear hi379_6 hl379_6
  have HR379_7 := AM hi379_7
  have HC379_7 := AM hl379_7
  clear hi379_7 hl379_7
  replace p379 := eq_true p379
  replace q379 := eq_true q379
  have p380 : 0 ≤ (((D71 l1 x9_1).f1) : Int) := ZD
  have q380 : ((D71 l1 x9_1).f1) < (l0_0.length : Int) := ZD
  obtain ⟨ad380, e380, hx380_0, hx380_1⟩ := at_T43 (Kd.C_kept_now HR0_0.out HK.out) ((D71 l1 x9_1).f1) p380 q380
  have hw380_1 := hx380_1
  have hw380_0 := hx380_0
  cases e380
  have hy380_0 := Kd.kept_slot HR0_0.out (by omega) (by decide) (ZHK HK) hx380_0 (add_block _ _) (Kept.refl _ _)
  have hy380_1 := Kd.kept_slot HR0_0.out (by omega) (by decide) (ZHK HK) hx380_1 (add_block _ _) (Kept.refl _ _)
  replace p380 := eq_true p380
  replace q380 := eq_true q380
  refine start_ (n := 13) (S := fun w' => w'.cell? ⟨gb375, 0, none⟩ = some (.int .i64 a2_0) ∧ w'.cell? ⟨gb375, 1, none⟩ = some (.int .i64 a2_1) ∧ w'.cell? ⟨gb374, 0, none⟩ = some (.slice (some ad380) l0_0.length c0_0) ∧ w'.cell? ⟨gb374, 1, none⟩ = some (.slice A0_1 l0_1.length c0_1) ∧ w'.cell? (ad379.add ((x9_1).toNat * 8)) = some (.int .i64 ((D71 l1 x9_1).f0)) ∧ w'.cell? ⟨(ad379.add ((x9_1).toNat * 8)).block, (ad379.add ((x9_1).toNat * 8)).off + 1, none⟩ = some (.int .i64 ((D71 l1 x9_1).f1)) ∧ w'.cell? ⟨(ad379.add ((x9_1).toNat * 8)).block, (ad379.add ((x9_1).toNat * 8)).off + 2, none⟩ = some (.int .i64 ((D71 l1 x9_1).f2.f0)) ∧ w'.cell? ⟨(ad379.add ((x9_1).toNat * 8)).block, (ad379.add ((x9_1).toNat * 8)).off + 3, none⟩ = some (.int .i64 ((D71 l1 x9_1).f2.f1)) ∧ w'.cell? ⟨(ad379.add ((x9_1).toNat * 8)).block, (ad379.add ((x9_1).toNat * 8)).off + 4, none⟩ = some (.int .i64 ((D71 l1 x9_1).f2.f2)) ∧ w'.cell? ⟨(ad379.add ((x9_1).toNat * 8)).block, (ad379.add ((x9_1).toNat * 8)).off + 5, none⟩ = some (.int .i64 ((D71 l1 x9_1).f3)) ∧ w'.cell? ⟨(ad379.add ((x9_1).toNat * 8)).block, (ad379.add ((x9_1).toNat * 8)).off + 6, none⟩ = some (.slice A379_6 ((D71 l1 x9_1).f4).length c379_6) ∧ w'.cell? ⟨(ad379.add ((x9_1).toNat * 8)).block, (ad379.add ((x9_1).toNat * 8)).off + 7, none⟩ = some (.slice A379_7 ((D71 l1 x9_1).f5).length c379_7) ∧ w'.cell? (ad380.add ((((D71 l1 x9_1).f1)).toNat * 2)) = some (.int .i64 ((D43 l0_0 ((D71 l1 x9_1).f1)).f0)) ∧ w'.cell? ⟨(ad380.add ((((D71 l1 x9_1).f1)).toNat * 2)).block, (ad380.add ((((D71 l1 x9_1).f1)).toNat * 2)).off + 1, none⟩ = some (.int .i64 ((D43 l0_0 ((D71 l1 x9_1).f1)).f1))) (ds := []) #[F,F,F,F,F,F,F,F,F,F,F,F,F] (by kernel_rfl) rfl rfl ⟨ZA BK375 0, ZA BK375 1, ZA BK374 0, ZA BK374 1, (ZKS HR1 p379 q379 hy379_0 (ZHK HK)), (ZKS HR1 p379 q379 hy379_1 (ZHK HK)), (ZKS HR1 p379 q379 hy379_2 (ZHK HK)), (ZKS HR1 p379 q379 hy379_3 (ZHK HK)), (ZKS HR1 p379 q379 hy379_4 (ZHK HK)), (ZKS HR1 p379 q379 hy379_5 (ZHK HK)), (ZKS HR1 p379 q379 hy379_6 (ZHK HK)), (ZKS HR1 p379 q379 hy379_7 (ZHK HK)), (ZKS HR0_0 p380 q380 hy380_0 (ZHK HK)), (ZKS HR0_0 p380 q380 hy380_1 (ZHK HK))⟩ (fun hHeld => ?_); refine with_tabW spec_l11At.tab5 spec_l11At.bits5 (fun HT_ HW_ => ?_)
  generalize w17.drew = w18 at HO378 BK374 BK375 HK HB HR379_6 HR379_7 hx379_0 hx379_1 hx379_2 hx379_3 hx379_4 hx379_5 hx379_6 hx379_7 hx380_0 hx380_1 hHeld ⊢
  refine ZU 1 22 #[F,T,F,F,F,F,F,F,F,F,F,F,F] ?_
  refine ZU 3 24 #[F,T,F,T,F,F,F,F,F,F,F,F,F] ?_
  refine ZU 4 25 #[F,T,F,T,T,F,F,F,F,F,F,F,F] ?_
  refine ZU 5 26 #[F,T,F,T,T,T,F,F,F,F,F,F,F] ?_
  refine ZU 6 27 #[F,T,F,T,T,T,T,F,F,F,F,F,F] ?_
  refine ZTK 0 21 #[T,T,F,T,T,T,T,F,F,F,F,F,F] hHeld ?_
  refine ZTK 2 23 #[T,T,T,T,T,T,T,F,F,F,F,F,F] hHeld ?_
  refine ZTK 7 28 #[T,T,T,T,T,T,T,T,F,F,F,F,F] hHeld ?_
  refine ZU 8 29 #[T,T,T,T,T,T,T,T,T,F,F,F,F] ?_
  refine ZTK 9 30 #[T,T,T,T,T,T,T,T,T,T,F,F,F] hHeld ?_
  refine join_ (σ := Nat) 1 #[T,T,T,T,T,T,T,T,T,T,T,T,F] (fun s_ => [(31, .agg #[.int .i64 t381, .int .i64 t382]), (10, .pointer (some ⟨s_, 0, none⟩))]) (fun s_ w' => (w'.cell? ⟨gb375, 0, none⟩ = some (.int .i64 a2_0) ∧ w'.cell? ⟨gb375, 1, none⟩ = some (.int .i64 a2_1) ∧ w'.cell? ⟨gb374, 0, none⟩ = some (.slice (some ad380) l0_0.length c0_0) ∧ w'.cell? ⟨gb374, 1, none⟩ = some (.slice A0_1 l0_1.length c0_1) ∧ w'.cell? (ad379.add ((x9_1).toNat * 8)) = some (.int .i64 ((D71 l1 x9_1).f0)) ∧ w'.cell? ⟨(ad379.add ((x9_1).toNat * 8)).block, (ad379.add ((x9_1).toNat * 8)).off + 1, none⟩ = some (.int .i64 ((D71 l1 x9_1).f1)) ∧ w'.cell? ⟨(ad379.add ((x9_1).toNat * 8)).block, (ad379.add ((x9_1).toNat * 8)).off + 2, none⟩ = some (.int .i64 ((D71 l1 x9_1).f2.f0)) ∧ w'.cell? ⟨(ad379.add ((x9_1).toNat * 8)).block, (ad379.add ((x9_1).toNat * 8)).off + 3, none⟩ = some (.int .i64 ((D71 l1 x9_1).f2.f1)) ∧ w'.cell? ⟨(ad379.add ((x9_1).toNat * 8)).block, (ad379.add ((x9_1).toNat * 8)).off + 4, none⟩ = some (.int .i64 ((D71 l1 x9_1).f2.f2)) ∧ w'.cell? ⟨(ad379.add ((x9_1).toNat * 8)).block, (ad379.add ((x9_1).toNat * 8)).off + 5, none⟩ = some (.int .i64 ((D71 l1 x9_1).f3)) ∧ w'.cell? ⟨(ad379.add ((x9_1).toNat * 8)).block, (ad379.add ((x9_1).toNat * 8)).off + 6, none⟩ = some (.slice A379_6 ((D71 l1 x9_1).f4).length c379_6) ∧ w'.cell? ⟨(ad379.add ((x9_1).toNat * 8)).block, (ad379.add ((x9_1).toNat * 8)).off + 7, none⟩ = some (.slice A379_7 ((D71 l1 x9_1).f5).length c379_7) ∧ w'.cell? (ad380.add ((((D71 l1 x9_1).f1)).toNat * 2)) = some (.int .i64 ((D43 l0_0 ((D71 l1 x9_1).f1)).f0)) ∧ w'.cell? ⟨(ad380.add ((((D71 l1 x9_1).f1)).toNat * 2)).block, (ad380.add ((((D71 l1 x9_1).f1)).toNat * 2)).off + 1, none⟩ = some (.int .i64 ((D43 l0_0 ((D71 l1 x9_1).f1)).f1))) ∧ (Kd.R k43 43 w' w0.heap.size (fun k_ => (P3_ k_ ∨ w.heap.size ≤ k_) ∧ k_ ≠ gb375 ∧ k_ ≠ s_) v377 y376) ∧ (w'.heap[gb374]? = some (.cells #[.slice (some ad380) l0_0.length c0_0, .slice A0_1 l0_1.length c0_1] 31 (0, 0))) ∧ (w'.heap[gb375]? = some (.cells #[.int .i64 a2_0, .int .i64 a2_1] 43 (0, 0))) ∧ (w'.heap[s_]? = some (.cells #[.int .i64 0, .int .i64 0] 43 (0, 0))) ∧ (w.heap.size ≤ s_) ∧ (w0.heap.size ≤ s_) ∧ (gb374 ≠ s_) ∧ (s_ ≠ gb374) ∧ (gb375 ≠ s_) ∧ (s_ ≠ gb375) ∧ (Kept w w' (fun k_ => P3_ k_)) ∧ (Below w0.heap.size w0 w')) ?_ ?_
  rotate_left
  ·(
  intro hCont
  refine two_ (i := 10) (j := 11) (Ni := some 31) (Nj := some 10) #[T,T,T,T,T,T,T,T,T,T,T,F,F] #[T,T,T,T,T,T,T,T,T,T,F,T,F] rfl rfl rfl rfl (two_of HT_.out (by kernel_rfl)) (by decide) (by decide) (fun K hK => ?_) (fun K hK => ?_)
  ·(
  skip
  refine ZGO Tryd.func91 #[.agg #[.int .i64 a2_0, .int .i64 a2_1], .agg #[.int .i64 ((D43 l0_0 ((D71 l1 x9_1).f1)).f0), .int .i64 ((D43 l0_0 ((D71 l1 x9_1).f1)).f1)]] ?_
  with_reducible refine (spec_LabelBoth.calls k1 a2_0 a2_1 ((D43 l0_0 ((D71 l1 x9_1).f1)).f0) ((D43 l0_0 ((D71 l1 x9_1).f1)).f1) t381 t382 _ A12.out).mono ?_
  rintro e w19 ⟨rfl, hb⟩
  refine ZV1 ?_
  replace HO378 := AM (Kd.R_below (ZR HO378.out) hb)
  replace BK374 := ZW BK374 hb
  replace BK375 := ZW BK375 hb
  replace HR379_6 := AM (Kd.C_below (ZQ HR379_6.out) hb)
  replace HR379_7 := AM (Kd.C_below (ZQ HR379_7.out) hb)
  replace HK := AM (Kept.below (S := (fun k_ => P3_ k_)) (ZHK HK) hb)
  replace HB := ZT HB hb
  (try clear hb)
  (try clear hb2)
  (try clear hk)
  (try clear hi)
  refine hK.out _ _ ⟨ZA BK375 0, ZA BK375 1, ZA BK374 0, ZA BK374 1, (ZKS HR1 p379 q379 hy379_0 (ZHK HK)), (ZKS HR1 p379 q379 hy379_1 (ZHK HK)), (ZKS HR1 p379 q379 hy379_2 (ZHK HK)), (ZKS HR1 p379 q379 hy379_3 (ZHK HK)), (ZKS HR1 p379 q379 hy379_4 (ZHK HK)), (ZKS HR1 p379 q379 hy379_5 (ZHK HK)), (ZKS HR1 p379 q379 hy379_6 (ZHK HK)), (ZKS HR1 p379 q379 hy379_7 (ZHK HK)), (ZKS HR0_0 p380 q380 hy380_0 (ZHK HK)), (ZKS HR0_0 p380 q380 hy380_1 (ZHK HK))⟩ (fun hHeld => ?_)
  clear hK K
  refine ZNO 31 ?_
  refine one_ (i := 11) (N := some 10) #[T,T,T,T,T,T,T,T,T,T,T,T,F] rfl rfl (one_of HT_.out (by kernel_rfl)) (by decide) (fun K hK => ?_)
  refine box_step ?hg (N := 10) ?hd (cs := #[.int .i64 0, .int .i64 0]) (t := 43) ?hr ?_; (case hd => rfl); (case hg => rfl); (case hr => first | (go_simp; done) | (go_simp; rfl))
  intro gb383 hg w20 hbox hb
  have BK383 := AM (hbox)
  have GW383 := AM ((by rw [hg]; exact (by first | exact HK.out.1 | exact (show Kept w _ (fun k_ => P3_ k_) from ZHK HK).1) : w.heap.size ≤ gb383))
  have GE383 : Za (w0.heap.size ≤ gb383) := ZS hg
  have NB374_383 : Za (gb374 ≠ gb383) := ZN hg BK374
  have NB383_374 : Za (gb383 ≠ gb374) := ZM hg BK374
  have NB375_383 : Za (gb375 ≠ gb383) := ZN hg BK375
  have NB383_375 : Za (gb383 ≠ gb375) := ZM hg BK375
  replace HO378 := AM (Kd.R_below (Kd.R_elderB (ZR HO378.out) gb383 (Nat.le_of_eq hg.symm)) hb)
  replace BK374 := ZW BK374 hb
  replace BK375 := ZW BK375 hb
  replace HR379_6 := AM (Kd.C_below (ZQ HR379_6.out) hb)
  replace HR379_7 := AM (Kd.C_below (ZQ HR379_7.out) hb)
  replace HK := AM (Kept.below (S := (fun k_ => P3_ k_)) (ZHK HK) hb)
  replace HB := ZT HB hb
  clear hb hbox hg
  refine hK.out _ _ ⟨ZA BK375 0, ZA BK375 1, ZA BK374 0, ZA BK374 1, (ZKS HR1 p379 q379 hy379_0 (ZHK HK)), (ZKS HR1 p379 q379 hy379_1 (ZHK HK)), (ZKS HR1 p379 q379 hy379_2 (ZHK HK)), (ZKS HR1 p379 q379 hy379_3 (ZHK HK)), (ZKS HR1 p379 q379 hy379_4 (ZHK HK)), (ZKS HR1 p379 q379 hy379_5 (ZHK HK)), (ZKS HR1 p379 q379 hy379_6 (ZHK HK)), (ZKS HR1 p379 q379 hy379_7 (ZHK HK)), (ZKS HR0_0 p380 q380 hy380_0 (ZHK HK)), (ZKS HR0_0 p380 q380 hy380_1 (ZHK HK))⟩ (fun hHeld => ?_)
  clear hK K
  refine ZNO 10 ?_
  exact norm_ (by simp only [putAll, Act.put, List.setIfInBounds_toArray, List.set_cons_zero, List.set_cons_succ]) (hCont (gb383) _ ⟨hHeld, (ZRm HO378.out (fun _ hk => ⟨hk.1.1, ⟨hk.1.2, hk.2⟩⟩)), (ZK BK374.out), (ZK BK375.out), (ZK BK383.out), GW383.out, GE383.out, NB374_383.out, NB383_374.out, NB375_383.out, NB383_375.out, (ZHK HK), (ZB)⟩))
  ·(
  skip
  refine box_step ?hg (N := 10) ?hd (cs := #[.int .i64 0, .int .i64 0]) (t := 43) ?hr ?_; (case hd => rfl); (case hg => rfl); (case hr => first | (go_simp; done) | (go_simp; rfl))
  intro gb383 hg w19 hbox hb
  have BK383 := AM (hbox)
  have GW383 := AM ((by rw [hg]; exact (by first | exact HK.out.1 | exact (show Kept w _ (fun k_ => P3_ k_) from ZHK HK).1) : w.heap.size ≤ gb383))
  have GE383 : Za (w0.heap.size ≤ gb383) := ZS hg
  have NB374_383 : Za (gb374 ≠ gb383) := ZN hg BK374
  have NB383_374 : Za (gb383 ≠ gb374) := ZM hg BK374
  have NB375_383 : Za (gb375 ≠ gb383) := ZN hg BK375
  have NB383_375 : Za (gb383 ≠ gb375) := ZM hg BK375
  replace HO378 := AM (Kd.R_below (Kd.R_elderB (ZR HO378.out) gb383 (Nat.le_of_eq hg.symm)) hb)
  replace BK374 := ZW BK374 hb
  replace BK375 := ZW BK375 hb
  replace HR379_6 := AM (Kd.C_below (ZQ HR379_6.out) hb)
  replace HR379_7 := AM (Kd.C_below (ZQ HR379_7.out) hb)
  replace HK := AM (Kept.below (S := (fun k_ => P3_ k_)) (ZHK HK) hb)
  replace HB := ZT HB hb
  clear hb hbox hg
  refine hK.out _ _ ⟨ZA BK375 0, ZA BK375 1, ZA BK374 0, ZA BK374 1, (ZKS HR1 p379 q379 hy379_0 (ZHK HK)), (ZKS HR1 p379 q379 hy379_1 (ZHK HK)), (ZKS HR1 p379 q379 hy379_2 (ZHK HK)), (ZKS HR1 p379 q379 hy379_3 (ZHK HK)), (ZKS HR1 p379 q379 hy379_4 (ZHK HK)), (ZKS HR1 p379 q379 hy379_5 (ZHK HK)), (ZKS HR1 p379 q379 hy379_6 (ZHK HK)), (ZKS HR1 p379 q379 hy379_7 (ZHK HK)), (ZKS HR0_0 p380 q380 hy380_0 (ZHK HK)), (ZKS HR0_0 p380 q380 hy380_1 (ZHK HK))⟩ (fun hHeld => ?_)
  clear hK K
  refine ZNO 10 ?_
  refine one_ (i := 10) (N := some 31) #[T,T,T,T,T,T,T,T,T,T,T,T,F] rfl rfl (one_of HT_.out (by kernel_rfl)) (by decide) (fun K hK => ?_)
  refine ZGO Tryd.func91 #[.agg #[.int .i64 a2_0, .int .i64 a2_1], .agg #[.int .i64 ((D43 l0_0 ((D71 l1 x9_1).f1)).f0), .int .i64 ((D43 l0_0 ((D71 l1 x9_1).f1)).f1)]] ?_
  with_reducible refine (spec_LabelBoth.calls k1 a2_0 a2_1 ((D43 l0_0 ((D71 l1 x9_1).f1)).f0) ((D43 l0_0 ((D71 l1 x9_1).f1)).f1) t381 t382 _ A12.out).mono ?_
  rintro e w20 ⟨rfl, hb⟩
  refine ZV1 ?_
  replace HO378 := AM (Kd.R_below (ZR HO378.out) hb)
  replace BK374 := ZW BK374 hb
  replace BK375 := ZW BK375 hb
  replace HR379_6 := AM (Kd.C_below (ZQ HR379_6.out) hb)
  replace HR379_7 := AM (Kd.C_below (ZQ HR379_7.out) hb)
  replace BK383 := ZW BK383 hb
  replace HK := AM (Kept.below (S := (fun k_ => P3_ k_)) (ZHK HK) hb)
  replace HB := ZT HB hb
  (try clear hb)
  (try clear hb2)
  (try clear hk)
  (try clear hi)
  refine hK.out _ _ ⟨ZA BK375 0, ZA BK375 1, ZA BK374 0, ZA BK374 1, (ZKS HR1 p379 q379 hy379_0 (ZHK HK)), (ZKS HR1 p379 q379 hy379_1 (ZHK HK)), (ZKS HR1 p379 q379 hy379_2 (ZHK HK)), (ZKS HR1 p379 q379 hy379_3 (ZHK HK)), (ZKS HR1 p379 q379 hy379_4 (ZHK HK)), (ZKS HR1 p379 q379 hy379_5 (ZHK HK)), (ZKS HR1 p379 q379 hy379_6 (ZHK HK)), (ZKS HR1 p379 q379 hy379_7 (ZHK HK)), (ZKS HR0_0 p380 q380 hy380_0 (ZHK HK)), (ZKS HR0_0 p380 q380 hy380_1 (ZHK HK))⟩ (fun hHeld => ?_)
  clear hK K
  refine ZNO 31 ?_
  exact norm_ (by simp only [putAll, Act.put, List.setIfInBounds_toArray, List.set_cons_zero, List.set_cons_succ]) (hCont (gb383) _ ⟨hHeld, (ZRm HO378.out (fun _ hk => ⟨hk.1.1, ⟨hk.1.2, hk.2⟩⟩)), (ZK BK374.out), (ZK BK375.out), (ZK BK383.out), GW383.out, GE383.out, NB374_383.out, NB383_374.out, NB375_383.out, NB383_375.out, (ZHK HK), (ZB)⟩)))
  rintro gb383 w21 ⟨hS_, h0_, h1_, h2_, h3_, h4_, h5_, h6_, h7_, h8_, h9_, h10_, h11_⟩
  try dsimp only at h0_ h1_ h2_ h3_ h4_ h5_ h6_ h7_ h8_ h9_ h10_ h11_
  have n0_ := AM h0_
  have n1_ := AM h1_
  have n2_ := AM h2_
  have n3_ := AM h3_
  have n4_ := AM h4_
  have n5_ := AM h5_
  have n6_ := AM h6_
  have n7_ := AM h7_
  have n8_ := AM h8_
  have n9_ := AM h9_
  have n10_ := AM h10_
  have n11_ := AM h11_
  clear HO378 BK374 BK375 HK HB h0_ h1_ h2_ h3_ h4_ h5_ h6_ h7_ h8_ h9_ h10_ h11_
  have HO378 := n0_
  have BK374 := n1_
  have BK375 := n2_
  have BK383 := n3_
  have GW383 := n4_
  have GE383 := n5_
  have NB374_383 := n6_
  have NB383_374 := n7_
  have NB375_383 := n8_
  have NB383_375 := n9_
  have HK := n10_
  have HB := n11_
  clear n0_ n1_ n2_ n3_ n4_ n5_ n6_ n7_ n8_ n9_ n10_ n11_
  try dsimp only at hS_
  have hHeld := hS_
  refine ZNP ?_
  refine one_ (i := 12) (N := none) #[T,T,T,T,T,T,T,T,T,T,T,T,T] rfl rfl (one_of HT_.out (by kernel_rfl)) (by decide) (fun K hK => ?_)
  have hs22 : w21.cell? ⟨gb383, 0, none⟩ = some (.int .i64 0) := ZA BK383 0
  have hfs22 := blk_frozen BK383.out 0
  have hns22_0 := NB374_383.out
  have hns22_1 := NB375_383.out
  have hms22_0 := NB383_374.out
  have hms22_1 := NB383_375.out
  have hs23 : w21.cell? ⟨gb383, 1, none⟩ = some (.int .i64 0) := ZA BK383 1
  have hfs23 := blk_frozen BK383.out 1
  have hns23_0 := NB374_383.out
  have hns23_1 := NB375_383.out
  have hms23_0 := NB383_374.out
  have hms23_1 := NB383_375.out
  refine skip_ (w1 := ?_) (by rfl) rfl ?_ ?_
  rotate_left
  ·(
  go_simp
  rfl)
  refine hK.out _ _ ⟨((cell_far (p := ⟨gb383, _, none⟩) NB375_383.out _).trans (((cell_far (p := ⟨gb383, _, none⟩) NB375_383.out _).trans (hHeld.1)))), ((cell_far (p := ⟨gb383, _, none⟩) NB375_383.out _).trans (((cell_far (p := ⟨gb383, _, none⟩) NB375_383.out _).trans (hHeld.2.1)))), ((cell_far (p := ⟨gb383, _, none⟩) NB374_383.out _).trans (((cell_far (p := ⟨gb383, _, none⟩) NB374_383.out _).trans (hHeld.2.2.1)))), ((cell_far (p := ⟨gb383, _, none⟩) NB374_383.out _).trans (((cell_far (p := ⟨gb383, _, none⟩) NB374_383.out _).trans (hHeld.2.2.2.1)))), (ZKS HR1 p379 q379 hy379_0 (ZHK HK)), (ZKS HR1 p379 q379 hy379_1 (ZHK HK)), (ZKS HR1 p379 q379 hy379_2 (ZHK HK)), (ZKS HR1 p379 q379 hy379_3 (ZHK HK)), (ZKS HR1 p379 q379 hy379_4 (ZHK HK)), (ZKS HR1 p379 q379 hy379_5 (ZHK HK)), (ZKS HR1 p379 q379 hy379_6 (ZHK HK)), (ZKS HR1 p379 q379 hy379_7 (ZHK HK)), (ZKS HR0_0 p380 q380 hy380_0 (ZHK HK)), (ZKS HR0_0 p380 q380 hy380_1 (ZHK HK))⟩ (fun hHeld => ?_)
  clear hK K
  refine done_ (done_of HT_.out (by kernel_rfl)) ?_
  try go_wp2
  have n0_ : Za (Kd.R k43 43 ((w21.setCell ⟨gb383, 0, none⟩ (.int .i64 t381)).setCell ⟨gb383, 1, none⟩ (.int .i64 t382)) w0.heap.size (fun k_ => (P3_ k_ ∨ w.heap.size ≤ k_) ∧ k_ ≠ gb375 ∧ k_ ≠ gb383) v377 y376) := ⟨ZRf (Kd.R_mono HO378.out (fun k_ hk => (⟨hk, hk.2.2⟩ : _ ∧ k_ ≠ gb383))) (fun _ hk => ⟨hk.2, ⟨hk.1.1, ⟨hk.1.2.1, hk.1.2.2⟩⟩⟩)⟩
  have n1_ : Za (((w21.setCell ⟨gb383, 0, none⟩ (.int .i64 t381)).setCell ⟨gb383, 1, none⟩ (.int .i64 t382)).heap[gb374]? = some (.cells #[.slice (some ad380) l0_0.length c0_0, .slice A0_1 l0_1.length c0_1] 31 (0, 0))) := ⟨ZZ BK374.out⟩
  have n2_ : Za (((w21.setCell ⟨gb383, 0, none⟩ (.int .i64 t381)).setCell ⟨gb383, 1, none⟩ (.int .i64 t382)).heap[gb375]? = some (.cells #[.int .i64 a2_0, .int .i64 a2_1] 43 (0, 0))) := ⟨ZZ BK375.out⟩
  have n3_ : Za (((w21.setCell ⟨gb383, 0, none⟩ (.int .i64 t381)).setCell ⟨gb383, 1, none⟩ (.int .i64 t382)).heap[gb383]? = some (.cells #[.int .i64 t381, .int .i64 t382] 43 (0, 0))) := ⟨ZZ BK383.out⟩
  have n4_ : Za (Kept w ((w21.setCell ⟨gb383, 0, none⟩ (.int .i64 t381)).setCell ⟨gb383, 1, none⟩ (.int .i64 t382)) (fun k_ => P3_ k_)) := ⟨ZHK HK⟩
  have n5_ : Za (Below w0.heap.size w0 ((w21.setCell ⟨gb383, 0, none⟩ (.int .i64 t381)).setCell ⟨gb383, 1, none⟩ (.int .i64 t382))) := ⟨ZB⟩
  (try clear HO378)
  (try clear BK374)
  (try clear BK375)
  (try clear BK383)
  (try clear HK)
  (try clear HB)
  generalize ((w21.setCell ⟨gb383, 0, none⟩ (.int .i64 t381)).setCell ⟨gb383, 1, none⟩ (.int .i64 t382)) = w24 at n0_ n1_ n2_ n3_ n4_ n5_ ⊢
  have HO378 := n0_
  have BK374 := n1_
  have BK375 := n2_
  have BK383 := n3_
  have HK := n4_
  have HB := n5_
  clear n0_ n1_ n2_ n3_ n4_ n5_
  replace HO378 := AM (Kd.R_drew HO378.out)
  replace BK374 := AM (blk_drew BK374.out)
  replace BK375 := AM (blk_drew BK375.out)
  replace BK383 := AM (blk_drew BK383.out)
  replace HK := AM (Kept.drew HK.out)
  replace HB := AM (below_drew1 HB.out)
  have p384 : 0 ≤ (x9_1 : Int) := ZD
  have q384 : x9_1 < (l1.length : Int) := ZD
  obtain ⟨ad384, A384_6, c384_6, A384_7, c384_7, e384, hx384_0, hx384_1, hx384_2, hx384_3, hx384_4, hx384_5, hx384_6, hx384_7, hl384_6, hi384_6, hl384_7, hi384_7⟩ := at_T71 (Kd.C_kept_now HR1.out HK.out) x9_1 p384 q384
  have hw384_7 := hx384_7
  have hw384_6 := hx384_6
  have hw384_5 := hx384_5
  have hw384_4 := hx384_4
  have hw384_3 := hx384_3
  have hw384_2 := hx384_2
  have hw384_1 := hx384_1
  have hw384_0 := hx384_0
  obtain rfl : ad379 = ad384 := (by injection e384)
  have hy384_0 := Kd.kept_slot HR1.out (by omega) (by decide) (ZHK HK) hx384_0 (add_block _ _) (Kept.refl _ _)
  have hy384_1 := Kd.kept_slot HR1.out (by omega) (by decide) (ZHK HK) hx384_1 (add_block _ _) (Kept.refl _ _)
  have hy384_2 := Kd.kept_slot HR1.out (by omega) (by decide) (ZHK HK) hx384_2 (add_block _ _) (Kept.refl _ _)
  have hy384_3 := Kd.kept_slot HR1.out (by omega) (by decide) (ZHK HK) hx384_3 (add_block _ _) (Kept.refl _ _)
  have hy384_4 := Kd.kept_slot HR1.out (by omega) (by decide) (ZHK HK) hx384_4 (add_block _ _) (Kept.refl _ _)
  have hy384_5 := Kd.kept_slot HR1.out (by omega) (by decide) (ZHK HK) hx384_5 (add_block _ _) (Kept.refl _ _)
  have hy384_6 := Kd.kept_slot HR1.out (by omega) (by decide) (ZHK HK) hx384_6 (add_block _ _) (Kept.refl _ _)
  have hy384_7 := Kd.kept_slot HR1.out (by omega) (by decide) (ZHK HK) hx384_7 (add_block _ _) (Kept.refl _ _)
  have HR384_6 := AM hi384_6
  have HC384_6 := AM hl384_6
  clear hi384_6 hl384_6
  have HR384_7 := AM hi384_7
  have HC384_7 := AM hl384_7
  clear hi384_7 hl384_7
  replace p384 := eq_true p384
  replace q384 := eq_true q384
  obtain ⟨Ao26, co26, eo26⟩ := Kd.R_slice HO378.out
  (first | subst eo26 | (injection eo26 with f1_ f2_ f3_; have f4_ := f1_.symm; have f5_ := f3_.symm; clear f1_ f2_ f3_; subst f4_; subst f5_))
  refine start_ (n := 10) (S := fun w' => w'.cell? ⟨gb374, 0, none⟩ = some (.slice (some ad380) l0_0.length c0_0) ∧ w'.cell? ⟨gb374, 1, none⟩ = some (.slice A0_1 l0_1.length c0_1) ∧ w'.cell? ⟨gb383, 0, none⟩ = some (.int .i64 t381) ∧ w'.cell? ⟨gb383, 1, none⟩ = some (.int .i64 t382) ∧ w'.cell? (ad379.add ((x9_1).toNat * 8)) = some (.int .i64 ((D71 l1 x9_1).f0)) ∧ w'.cell? ⟨(ad379.add ((x9_1).toNat * 8)).block, (ad379.add ((x9_1).toNat * 8)).off + 1, none⟩ = some (.int .i64 ((D71 l1 x9_1).f1)) ∧ w'.cell? ⟨(ad379.add ((x9_1).toNat * 8)).block, (ad379.add ((x9_1).toNat * 8)).off + 2, none⟩ = some (.int .i64 ((D71 l1 x9_1).f2.f0)) ∧ w'.cell? ⟨(ad379.add ((x9_1).toNat * 8)).block, (ad379.add ((x9_1).toNat * 8)).off + 3, none⟩ = some (.int .i64 ((D71 l1 x9_1).f2.f1)) ∧ w'.cell? ⟨(ad379.add ((x9_1).toNat * 8)).block, (ad379.add ((x9_1).toNat * 8)).off + 4, none⟩ = some (.int .i64 ((D71 l1 x9_1).f2.f2)) ∧ w'.cell? ⟨(ad379.add ((x9_1).toNat * 8)).block, (ad379.add ((x9_1).toNat * 8)).off + 5, none⟩ = some (.int .i64 ((D71 l1 x9_1).f3)) ∧ w'.cell? ⟨(ad379.add ((x9_1).toNat * 8)).block, (ad379.add ((x9_1).toNat * 8)).off + 6, none⟩ = some (.slice A384_6 ((D71 l1 x9_1).f4).length c384_6) ∧ w'.cell? ⟨(ad379.add ((x9_1).toNat * 8)).block, (ad379.add ((x9_1).toNat * 8)).off + 7, none⟩ = some (.slice A384_7 ((D71 l1 x9_1).f5).length c384_7)) (ds := []) #[F,F,F,F,F,F,F,F,F,F] (by kernel_rfl) rfl rfl ⟨ZA BK374 0, ZA BK374 1, ZA BK383 0, ZA BK383 1, (ZKS HR1 p384 q384 hy384_0 (ZHK HK)), (ZKS HR1 p384 q384 hy384_1 (ZHK HK)), (ZKS HR1 p384 q384 hy384_2 (ZHK HK)), (ZKS HR1 p384 q384 hy384_3 (ZHK HK)), (ZKS HR1 p384 q384 hy384_4 (ZHK HK)), (ZKS HR1 p384 q384 hy384_5 (ZHK HK)), (ZKS HR1 p384 q384 hy384_6 (ZHK HK)), (ZKS HR1 p384 q384 hy384_7 (ZHK HK))⟩ (fun hHeld => ?_); refine with_tabW spec_l11At.tab6 spec_l11At.bits6 (fun HT_ HW_ => ?_)
  generalize w24.drew = w25 at HO378 BK374 BK375 BK383 HK HB HR384_6 HR384_7 hx384_0 hx384_1 hx384_2 hx384_3 hx384_4 hx384_5 hx384_6 hx384_7 hHeld ⊢
  refine ZU 1 33 #[F,T,F,F,F,F,F,F,F,F] ?_
  refine ZU 2 34 #[F,T,T,F,F,F,F,F,F,F] ?_
  refine ZU 3 35 #[F,T,T,T,F,F,F,F,F,F] ?_
  refine ZU 4 36 #[F,T,T,T,T,F,F,F,F,F] ?_
  refine ZU 7 39 #[F,T,T,T,T,F,F,T,F,F] ?_
  refine ZTK 0 32 #[T,T,T,T,T,F,F,T,F,F] hHeld ?_
  refine ZTK 5 37 #[T,T,T,T,T,T,F,T,F,F] hHeld ?_
  refine ZTK 6 38 #[T,T,T,T,T,T,T,T,F,F] hHeld ?_
  refine one_ (i := 8) (N := some 40) #[T,T,T,T,T,T,T,T,T,F] rfl rfl (one_of HT_.out (by kernel_rfl)) (by decide) (fun K hK => ?_)
  refine ZGO Tryd.func88 #[.agg #[.slice (some ad380) l0_0.length c0_0, .slice A0_1 l0_1.length c0_1], .slice A384_6 ((D71 l1 x9_1).f4).length c384_6, .agg #[.int .i64 t381, .int .i64 t382], .slice Ao26 y376.length co26] ?_
  with_reducible refine (ih k1 (by have := HK1.out; omega) _ _ l0_0 _ _ l0_1 _ _ ((D71 l1 x9_1).f4) t381 t382 (fun k_ => some k_ = (.slice Ao26 y376.length co26 : Value).ownBlock) (.slice Ao26 y376.length co26) y376 t385 w0 _ ?side1 ?side2 ?side3 ?side4 ?side5 ?side6 ?side7 ?side8 A13.out).mono ?_
  (case side1 => repeat (first | (with_reducible first | exact HB.out | apply below_alloc | apply pw_below_drewN | apply below_drew1 | refine below_set ?_ GE374.out | refine below_set ?_ GE375.out | refine below_set ?_ GE383.out) | exact HB.out))
  (case side2 => exact Kd.C_kept_call HR0_0.out (ZHK HK) (fun k_ hs_ => (fun e_ => (HO378.out.1 k_ e_.symm).1) hs_))
  (case side3 => exact HC0_0.out)
  (case side4 => exact Kd.C_kept_call HR0_1.out (ZHK HK) (fun k_ hs_ => (fun e_ => (HO378.out.1 k_ e_.symm).1) hs_))
  (case side5 => exact HC0_1.out)
  (case side6 => exact Kd.C_kept_call (fun W_ k_ => by have hw_ := Kd.kept_slot HR1.out (by have := (of_eq_true p384); have := (of_eq_true q384); omega) (by decide) (Kept.refl _ _) hy384_6 (add_block _ _) k_; obtain ⟨ad_, A6_, c6_, A7_, c7_, e_, m0_, m1_, m2_, m3_, m4_, m5_, m6_, m7_, y6_, z6_, y7_, z7_⟩ := at_T71 (HR1.out W_ k_) (x9_1) (by first | exact of_eq_true p384 | exact p384) (by first | exact of_eq_true q384 | exact q384); cases e_; rw [hw_] at m6_; cases m6_; exact z6_) (ZHK HK) (fun k_ hs_ => (fun e_ => (HO378.out.1 k_ e_.symm).1) hs_))
  (case side7 => exact HC384_6.out)
  (case side8 => exact Kd.R_tight rfl HO378.out)
  rintro e w27 ⟨v386, rfl, ho0, hb, hkp⟩
  refine ZV1 ?_
  have n0_ := AM (blk_kept (ZK BK374.out) hkp (fun hs_ => (fun e_ => (Kd.R_ne HO378.out BK374.out (by decide)) e_) hs_))
  have n1_ := AM (blk_kept (ZK BK375.out) hkp (fun hs_ => (fun e_ => (Kd.R_away HO378.out (fun _ hk => hk.2.1)) e_) hs_))
  have n2_ := AM (blk_kept (ZK BK383.out) hkp (fun hs_ => (fun e_ => (Kd.R_away HO378.out (fun _ hk => hk.2.2)) e_) hs_))
  have n3_ := AM (Kd.R_mono (ok' := fun k_ => (P3_ k_ ∨ w.heap.size ≤ k_) ∧ k_ ≠ gb375 ∧ k_ ≠ gb383) ho0 (fun k_ hk_ => ⟨Or.elim hk_ (fun hs_ => (HO378.out.1 k_ (hs_).symm).1) (fun hn_ => (.inr (Nat.le_trans (by first | exact HK.out.1 | exact (show Kept w _ (fun k_ => P3_ k_) from ZHK HK).1) hn_))), Or.elim hk_ (fun hs_ => fun e_ => (Kd.R_away HO378.out (fun _ hk => hk.2.1)) (by rw [← e_]; exact hs_)) (fun hn_ => (Kd.freshB (g := gb375) (o := .cells #[.int .i64 a2_0, .int .i64 a2_1] 43 (0, 0)) (ZK BK375.out) k_ hn_)), Or.elim hk_ (fun hs_ => fun e_ => (Kd.R_away HO378.out (fun _ hk => hk.2.2)) (by rw [← e_]; exact hs_)) (fun hn_ => (Kd.freshB (g := gb383) (o := .cells #[.int .i64 t381, .int .i64 t382] 43 (0, 0)) (ZK BK383.out) k_ hn_))⟩))
  have n4_ := AM (Kept.then_ (S := (fun k_ => P3_ k_)) (ZHK HK) hkp (fun k_ hs_ => (fun e_ => (HO378.out.1 k_ e_.symm).1) hs_))
  have n5_ := AM (hb)
  clear BK374 BK375 BK383 HK HB HO378
  have BK374 := n0_
  have BK375 := n1_
  have BK383 := n2_
  have HO387 := n3_
  have HK := n4_
  have HB := n5_
  clear n0_ n1_ n2_ n3_ n4_ n5_
  (try clear hb)
  (try clear hkp)
  (try clear ho0)
  refine hK.out _ _ ⟨ZA BK374 0, ZA BK374 1, ZA BK383 0, ZA BK383 1, (ZKS HR1 p384 q384 hy384_0 (ZHK HK)), (ZKS HR1 p384 q384 hy384_1 (ZHK HK)), (ZKS HR1 p384 q384 hy384_2 (ZHK HK)), (ZKS HR1 p384 q384 hy384_3 (ZHK HK)), (ZKS HR1 p384 q384 hy384_4 (ZHK HK)), (ZKS HR1 p384 q384 hy384_5 (ZHK HK)), (ZKS HR1 p384 q384 hy384_6 (ZHK HK)), (ZKS HR1 p384 q384 hy384_7 (ZHK HK))⟩ (fun hHeld => ?_)
  clear hK K
  refine ZNO 40 ?_
  refine ZU 9 3 #[T,T,T,T,T,T,T,T,T,T] ?_
  refine done_ (done_of HT_.out (by kernel_rfl)) ?_
  try go_wp2
  replace HO387 := AM (Kd.R_drew HO387.out)
  replace BK374 := AM (blk_drew BK374.out)
  replace BK375 := AM (blk_drew BK375.out)
  replace BK383 := AM (blk_drew BK383.out)
  replace HK := AM (Kept.drew HK.out)
  replace HB := AM (below_drew1 HB.out)
  have p388 : 0 ≤ (x9_1 : Int) := ZD
  have q388 : x9_1 < (l1.length : Int) := ZD
  obtain ⟨ad388, A388_6, c388_6, A388_7, c388_7, e388, hx388_0, hx388_1, hx388_2, hx388_3, hx388_4, hx388_5, hx388_6, hx388_7, hl388_6, hi388_6, hl388_7, hi388_7⟩ := at_T71 (Kd.C_kept_now HR1.out HK.out) x9_1 p388 q388
  have hw388_7 := hx388_7
  have hw388_6 := hx388_6
  have hw388_5 := hx388_5
  have hw388_4 := hx388_4
  have hw388_3 := hx388_3
  have hw388_2 := hx388_2
  have hw388_1 := hx388_1
  have hw388_0 := hx388_0
  obtain rfl : ad379 = ad388 := (by injection e388)
  have hy388_0 := Kd.kept_slot HR1.out (by omega) (by decide) (ZHK HK) hx388_0 (add_block _ _) (Kept.refl _ _)
  have hy388_1 := Kd.kept_slot HR1.out (by omega) (by decide) (ZHK HK) hx388_1 (add_block _ _) (Kept.refl _ _)
  have hy388_2 := Kd.kept_slot HR1.out (by omega) (by decide) (ZHK HK) hx388_2 (add_block _ _) (Kept.refl _ _)
  have hy388_3 := Kd.kept_slot HR1.out (by omega) (by decide) (ZHK HK) hx388_3 (add_block _ _) (Kept.refl _ _)
  have hy388_4 := Kd.kept_slot HR1.out (by omega) (by decide) (ZHK HK) hx388_4 (add_block _ _) (Kept.refl _ _)
  have hy388_5 := Kd.kept_slot HR1.out (by omega) (by decide) (ZHK HK) hx388_5 (add_block _ _) (Kept.refl _ _)
  have hy388_6 := Kd.kept_slot HR1.out (by omega) (by decide) (ZHK HK) hx388_6 (add_block _ _) (Kept.refl _ _)
  have hy388_7 := Kd.kept_slot HR1.out (by omega) (by decide) (ZHK HK) hx388_7 (add_block _ _) (Kept.refl _ _)
  have HR388_6 := AM hi388_6
  have HC388_6 := AM hl388_6
  clear hi388_6 hl388_6
  have HR388_7 := AM hi388_7
  have HC388_7 := AM hl388_7
  clear hi388_7 hl388_7
  replace p388 := eq_true p388
  replace q388 := eq_true q388
  obtain ⟨Ao29, co29, eo29⟩ := Kd.R_slice HO387.out
  (first | subst eo29 | (injection eo29 with f1_ f2_ f3_; have f4_ := f1_.symm; have f5_ := f3_.symm; clear f1_ f2_ f3_; subst f4_; subst f5_))
  refine start_ (n := 10) (S := fun w' => w'.cell? ⟨gb374, 0, none⟩ = some (.slice (some ad380) l0_0.length c0_0) ∧ w'.cell? ⟨gb374, 1, none⟩ = some (.slice A0_1 l0_1.length c0_1) ∧ w'.cell? ⟨gb383, 0, none⟩ = some (.int .i64 t381) ∧ w'.cell? ⟨gb383, 1, none⟩ = some (.int .i64 t382) ∧ w'.cell? (ad379.add ((x9_1).toNat * 8)) = some (.int .i64 ((D71 l1 x9_1).f0)) ∧ w'.cell? ⟨(ad379.add ((x9_1).toNat * 8)).block, (ad379.add ((x9_1).toNat * 8)).off + 1, none⟩ = some (.int .i64 ((D71 l1 x9_1).f1)) ∧ w'.cell? ⟨(ad379.add ((x9_1).toNat * 8)).block, (ad379.add ((x9_1).toNat * 8)).off + 2, none⟩ = some (.int .i64 ((D71 l1 x9_1).f2.f0)) ∧ w'.cell? ⟨(ad379.add ((x9_1).toNat * 8)).block, (ad379.add ((x9_1).toNat * 8)).off + 3, none⟩ = some (.int .i64 ((D71 l1 x9_1).f2.f1)) ∧ w'.cell? ⟨(ad379.add ((x9_1).toNat * 8)).block, (ad379.add ((x9_1).toNat * 8)).off + 4, none⟩ = some (.int .i64 ((D71 l1 x9_1).f2.f2)) ∧ w'.cell? ⟨(ad379.add ((x9_1).toNat * 8)).block, (ad379.add ((x9_1).toNat * 8)).off + 5, none⟩ = some (.int .i64 ((D71 l1 x9_1).f3)) ∧ w'.cell? ⟨(ad379.add ((x9_1).toNat * 8)).block, (ad379.add ((x9_1).toNat * 8)).off + 6, none⟩ = some (.slice A388_6 ((D71 l1 x9_1).f4).length c388_6) ∧ w'.cell? ⟨(ad379.add ((x9_1).toNat * 8)).block, (ad379.add ((x9_1).toNat * 8)).off + 7, none⟩ = some (.slice A388_7 ((D71 l1 x9_1).f5).length c388_7)) (ds := []) #[F,F,F,F,F,F,F,F,F,F] (by kernel_rfl) rfl rfl ⟨ZA BK374 0, ZA BK374 1, ZA BK383 0, ZA BK383 1, (ZKS HR1 p388 q388 hy388_0 (ZHK HK)), (ZKS HR1 p388 q388 hy388_1 (ZHK HK)), (ZKS HR1 p388 q388 hy388_2 (ZHK HK)), (ZKS HR1 p388 q388 hy388_3 (ZHK HK)), (ZKS HR1 p388 q388 hy388_4 (ZHK HK)), (ZKS HR1 p388 q388 hy388_5 (ZHK HK)), (ZKS HR1 p388 q388 hy388_6 (ZHK HK)), (ZKS HR1 p388 q388 hy388_7 (ZHK HK))⟩ (fun hHeld => ?_); refine with_tabW spec_l11At.tab7 spec_l11At.bits7 (fun HT_ HW_ => ?_)
  generalize w27.drew = w28 at HO387 BK374 BK375 BK383 HK HB HR388_6 HR388_7 hx388_0 hx388_1 hx388_2 hx388_3 hx388_4 hx388_5 hx388_6 hx388_7 hHeld ⊢
  refine ZU 1 42 #[F,T,F,F,F,F,F,F,F,F] ?_
  refine ZU 2 43 #[F,T,T,F,F,F,F,F,F,F] ?_
  refine ZU 3 44 #[F,T,T,T,F,F,F,F,F,F] ?_
  refine ZU 4 45 #[F,T,T,T,T,F,F,F,F,F] ?_
  refine ZU 7 48 #[F,T,T,T,T,F,F,T,F,F] ?_
  refine ZTK 0 41 #[T,T,T,T,T,F,F,T,F,F] hHeld ?_
  refine ZTK 5 46 #[T,T,T,T,T,T,F,T,F,F] hHeld ?_
  refine ZTK 6 47 #[T,T,T,T,T,T,T,T,F,F] hHeld ?_
  refine one_ (i := 8) (N := some 49) #[T,T,T,T,T,T,T,T,T,F] rfl rfl (one_of HT_.out (by kernel_rfl)) (by decide) (fun K hK => ?_)
  refine ZGO Tryd.func88 #[.agg #[.slice (some ad380) l0_0.length c0_0, .slice A0_1 l0_1.length c0_1], .slice A388_7 ((D71 l1 x9_1).f5).length c388_7, .agg #[.int .i64 t381, .int .i64 t382], .slice Ao29 t385.length co29] ?_
  with_reducible refine (ih k1 (by have := HK1.out; omega) _ _ l0_0 _ _ l0_1 _ _ ((D71 l1 x9_1).f5) t381 t382 (fun k_ => some k_ = (.slice Ao29 t385.length co29 : Value).ownBlock) (.slice Ao29 t385.length co29) t385 t389 w0 _ ?side1 ?side2 ?side3 ?side4 ?side5 ?side6 ?side7 ?side8 A14.out).mono ?_
  (case side1 => repeat (first | (with_reducible first | exact HB.out | apply below_alloc | apply pw_below_drewN | apply below_drew1 | refine below_set ?_ GE374.out | refine below_set ?_ GE375.out | refine below_set ?_ GE383.out) | exact HB.out))
  (case side2 => exact Kd.C_kept_call HR0_0.out (ZHK HK) (fun k_ hs_ => (fun e_ => (HO387.out.1 k_ e_.symm).1) hs_))
  (case side3 => exact HC0_0.out)
  (case side4 => exact Kd.C_kept_call HR0_1.out (ZHK HK) (fun k_ hs_ => (fun e_ => (HO387.out.1 k_ e_.symm).1) hs_))
  (case side5 => exact HC0_1.out)
  (case side6 => exact Kd.C_kept_call (fun W_ k_ => by have hw_ := Kd.kept_slot HR1.out (by have := (of_eq_true p388); have := (of_eq_true q388); omega) (by decide) (Kept.refl _ _) hy388_7 (add_block _ _) k_; obtain ⟨ad_, A6_, c6_, A7_, c7_, e_, m0_, m1_, m2_, m3_, m4_, m5_, m6_, m7_, y6_, z6_, y7_, z7_⟩ := at_T71 (HR1.out W_ k_) (x9_1) (by first | exact of_eq_true p388 | exact p388) (by first | exact of_eq_true q388 | exact q388); cases e_; rw [hw_] at m7_; cases m7_; exact z7_) (ZHK HK) (fun k_ hs_ => (fun e_ => (HO387.out.1 k_ e_.symm).1) hs_))
  (case side7 => exact HC388_7.out)
  (case side8 => exact Kd.R_tight rfl HO387.out)
  rintro e w30 ⟨v390, rfl, ho0, hb, hkp⟩
  refine ZV1 ?_
  have n0_ := AM (blk_kept (ZK BK374.out) hkp (fun hs_ => (fun e_ => (Kd.R_ne HO387.out BK374.out (by decide)) e_) hs_))
  have n1_ := AM (blk_kept (ZK BK375.out) hkp (fun hs_ => (fun e_ => (Kd.R_away HO387.out (fun _ hk => hk.2.1)) e_) hs_))
  have n2_ := AM (blk_kept (ZK BK383.out) hkp (fun hs_ => (fun e_ => (Kd.R_away HO387.out (fun _ hk => hk.2.2)) e_) hs_))
  have n3_ := AM (Kd.R_mono (ok' := fun k_ => (P3_ k_ ∨ w.heap.size ≤ k_) ∧ k_ ≠ gb375 ∧ k_ ≠ gb383) ho0 (fun k_ hk_ => ⟨Or.elim hk_ (fun hs_ => (HO387.out.1 k_ (hs_).symm).1) (fun hn_ => (.inr (Nat.le_trans (by first | exact HK.out.1 | exact (show Kept w _ (fun k_ => P3_ k_) from ZHK HK).1) hn_))), Or.elim hk_ (fun hs_ => fun e_ => (Kd.R_away HO387.out (fun _ hk => hk.2.1)) (by rw [← e_]; exact hs_)) (fun hn_ => (Kd.freshB (g := gb375) (o := .cells #[.int .i64 a2_0, .int .i64 a2_1] 43 (0, 0)) (ZK BK375.out) k_ hn_)), Or.elim hk_ (fun hs_ => fun e_ => (Kd.R_away HO387.out (fun _ hk => hk.2.2)) (by rw [← e_]; exact hs_)) (fun hn_ => (Kd.freshB (g := gb383) (o := .cells #[.int .i64 t381, .int .i64 t382] 43 (0, 0)) (ZK BK383.out) k_ hn_))⟩))
  have n4_ := AM (Kept.then_ (S := (fun k_ => P3_ k_)) (ZHK HK) hkp (fun k_ hs_ => (fun e_ => (HO387.out.1 k_ e_.symm).1) hs_))
  have n5_ := AM (hb)
  clear BK374 BK375 BK383 HK HB HO387
  have BK374 := n0_
  have BK375 := n1_
  have BK383 := n2_
  have HO391 := n3_
  have HK := n4_
  have HB := n5_
  clear n0_ n1_ n2_ n3_ n4_ n5_
  (try clear hb)
  (try clear hkp)
  (try clear ho0)
  refine hK.out _ _ ⟨ZA BK374 0, ZA BK374 1, ZA BK383 0, ZA BK383 1, (ZKS HR1 p388 q388 hy388_0 (ZHK HK)), (ZKS HR1 p388 q388 hy388_1 (ZHK HK)), (ZKS HR1 p388 q388 hy388_2 (ZHK HK)), (ZKS HR1 p388 q388 hy388_3 (ZHK HK)), (ZKS HR1 p388 q388 hy388_4 (ZHK HK)), (ZKS HR1 p388 q388 hy388_5 (ZHK HK)), (ZKS HR1 p388 q388 hy388_6 (ZHK HK)), (ZKS HR1 p388 q388 hy388_7 (ZHK HK))⟩ (fun hHeld => ?_)
  clear hK K
  refine ZNO 49 ?_
  refine ZU 9 3 #[T,T,T,T,T,T,T,T,T,T] ?_
  refine done_ (done_of HT_.out (by kernel_rfl)) ?_
  try go_wp2
  go_roundg k1
  case measure => have := HK1.out; omega
  case rel => exact ⟨(t389), (wrap64 (x9_1 + 1)), ZSM, H', ⟨by have := HK1.out; omega⟩, ⟨ZRm HO391.out (fun _ hk => ⟨hk.1, hk.2.1⟩)⟩, ⟨ZK BK374.out⟩, ⟨ZK BK375.out⟩, ⟨ZHK HK⟩, ⟨ZB⟩⟩)
  ·(
  rw [if_neg c11] at H
  exact absurd H (by simp)))
  ·(
  rw [if_neg c10] at H
  exact absurd H (by simp)))
  ·(
  rw [if_neg c9] at H
  exact absurd H (by simp)))
  ·(
  rw [if_neg c8] at H
  exact absurd H (by simp)))
  ·(
  rw [if_neg c7] at H
  have c7b0 := decide_eq_false c7
  clear c7
  obtain rfl := Option.some.inj H
  go_wp2
  go_ret
  exact ⟨_, ZE, ZRm HO_3.out (fun _ hk => hk.1), ZB, ZHK HK⟩))

end Go.Proofs.YtfcmckomagaiiaaDoor.A
