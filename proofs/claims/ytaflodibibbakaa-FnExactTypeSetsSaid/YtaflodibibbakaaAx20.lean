/- Go functions as Lean functions, and for each its contract; written by wip/tools/pr.py over the kit's print. -/
import Derived.Test.YtaflodibibbakaaAx0
import Derived.Test.YtaflodibibbakaaAx19
namespace Go.Proofs.Ytaflodibibbakaa.A
open Go.RowKit Go.Proofs.YtaflodibibbakaaW.PrintWords Go.Proofs.YtaflodibibbakaaW.PrintLast Go.Proofs.YtaflodibibbakaaW.PrintMore
attribute [local go_sem] max2_int min2_int max_two min_two max_three min_three max_four min_four
set_option linter.unusedVariables false
set_option linter.unusedSimpArgs false
set_option maxHeartbeats 8000000
set_option maxRecDepth 100000

/-! ### spec_l11At: function 45 -/
mutual
def spec_l11At.l0 : Nat → List (S50) → List (S60) → Int → List (S60) → List (S50) → Int → Int → Option ((List (S60)))
 | 0, _, _, _, _, _, _, _ => none
 | k + 1, x1, x3, x9, x409000, x409001, x410000, x410001 => if x9 < (x1.length : Int) then (if x3.length < 8796093022208 then (if 0 ≤ x9 then (if 0 ≤ ((rd_T50 x1 x9).f1) then (if ((rd_T50 x1 x9).f1) < (x409000.length : Int) then ((spec_LabelBoth.f k x410000 x410001 ((rd_T60 x409000 ((rd_T50 x1 x9).f1)).f0) ((rd_T60 x409000 ((rd_T50 x1 x9).f1)).f1)).bind fun bt415 => ((spec_l11At.f k x409000 x409001 ((rd_T50 x1 x9).f4) bt415.1 bt415.2 (x3 ++ [(⟨x410000, x410001⟩ : S60)])).bind fun t419 => ((spec_l11At.f k x409000 x409001 ((rd_T50 x1 x9).f5) bt415.1 bt415.2 t419).bind fun t423 => (spec_l11At.l0 k x1 t423 (wrap64 (x9 + 1)) x409000 x409001 x410000 x410001)))) else (none)) else (none)) else (none)) else (none)) else (some x3)
def spec_l11At.f : Nat → List (S60) → List (S50) → List (S50) → Int → Int → List (S60) → Option ((List (S60)))
 | 0, _, _, _, _, _, _ => none
 | k + 1, l0_0, l0_1, l1, a2_0, a2_1, l3 => spec_l11At.l0 k l1 l3 0 l0_0 l0_1 a2_0 a2_1
end
def spec_l11At.T5 : Bool × List (List Nat × List Nat) := (true, [([], []), ([], []), ([1], [1]), ([], []), ([], []), ([3, 4], [3, 4]), ([5], [5]), ([6], [6]), ([2, 7], [2, 7]), ([8], [8]), ([0, 9], [0, 9]), ([], []), ([11, 10, 10, 0, 1, 2, 3, 4, 5, 6, 7, 8, 9, 10, 11], [10, 11])])
def spec_l11At.B5 : List Nat := [0, 0, 2, 0, 0, 24, 56, 120, 254, 510, 1023, 0, 4095]
theorem spec_l11At.tab5 : rtab .any (opsOf Try.f45 5) = spec_l11At.T5 := by kernel_rfl
theorem spec_l11At.bits5 : waitsOk spec_l11At.T5.2 spec_l11At.B5 = true := by kernel_rfl
def spec_l11At.T6 : Bool × List (List Nat × List Nat) := (true, [([], []), ([], []), ([], []), ([1, 2], [1, 2]), ([3], [3]), ([4], [4]), ([], []), ([], []), ([0, 5, 6, 7], [0, 5, 6, 7]), ([8, 8, 0, 1, 2, 3, 4, 5, 6, 7, 8], [7, 8])])
def spec_l11At.B6 : List Nat := [0, 0, 0, 6, 14, 30, 0, 0, 255, 511]
theorem spec_l11At.tab6 : rtab .any (opsOf Try.f45 6) = spec_l11At.T6 := by kernel_rfl
theorem spec_l11At.bits6 : waitsOk spec_l11At.T6.2 spec_l11At.B6 = true := by kernel_rfl
def spec_l11At.T7 : Bool × List (List Nat × List Nat) := (true, [([], []), ([], []), ([], []), ([1, 2], [1, 2]), ([3], [3]), ([4], [4]), ([], []), ([], []), ([0, 5, 6, 7], [0, 5, 6, 7]), ([8, 8, 0, 1, 2, 3, 4, 5, 6, 7, 8], [7, 8])])
def spec_l11At.B7 : List Nat := [0, 0, 0, 6, 14, 30, 0, 0, 255, 511]
theorem spec_l11At.tab7 : rtab .any (opsOf Try.f45 7) = spec_l11At.T7 := by kernel_rfl
theorem spec_l11At.bits7 : waitsOk spec_l11At.T7.2 spec_l11At.B7 = true := by kernel_rfl
theorem spec_l11At.calls (k : Nat) : ∀ (A0_0 : Option Addr) (c0_0 : Nat) (l0_0 : List (S60)) (A0_1 : Option Addr) (c0_1 : Nat) (l0_1 : List (S50)) (A1 : Option Addr) (c1 : Nat) (l1 : List (S50)) (a2_0 : Int) (a2_1 : Int) (P3_ : Nat → Prop) (u9000_ : Value) (l3 : List (S60)) (r : List (S60)) (w0 w : World) (hB : Below w0.heap.size w0 w) (hr0_0 : ∀ W_, Kept w W_ (fun k_ => P3_ k_) → Kd.C k60 W_ A0_0 l0_0.length l0_0) (hc0_0 : l0_0.length ≤ c0_0) (hr0_1 : ∀ W_, Kept w W_ (fun k_ => P3_ k_) → Kd.C k50 W_ A0_1 l0_1.length l0_1) (hc0_1 : l0_1.length ≤ c0_1) (hr1 : ∀ W_, Kept w W_ (fun k_ => P3_ k_) → Kd.C k50 W_ A1 l1.length l1) (hc1 : l1.length ≤ c1) (ho3 : Kd.R k60 60 w w0.heap.size P3_ u9000_ l3) (h : spec_l11At.f k l0_0 l0_1 l1 a2_0 a2_1 l3 = some r),
  Calls Try.prog 45 #[.agg #[.slice A0_0 l0_0.length c0_0, .slice A0_1 l0_1.length c0_1], .slice A1 l1.length c1, .agg #[.int .i64 a2_0, .int .i64 a2_1], u9000_] w fun e w' => ∃ v0_ : Value, e = .returned (v0_) ∧ Kd.R k60 60 w' w0.heap.size (fun k_ => (P3_ k_ ∨ w.heap.size ≤ k_)) v0_ r ∧ Below w0.heap.size w0 w' ∧ Kept w w' (fun k_ => P3_ k_) := by
 induction k using Nat.strongRecOn with
 | _ k ih =>
 intro A0_0 c0_0 l0_0 A0_1 c0_1 l0_1 A1 c1 l1 a2_0 a2_1 P3_ u9000_ l3 r w0 w hB hr0_0 hc0_0 hr0_1 hc0_1 hr1 hc1 ho3 h
 cases k with
 | zero => exact absurd h (by simp [spec_l11At.f])
 | succ k =>
 simp only [spec_l11At.f] at h
 have hu32 := Try.underlying32
 have hu60 := Try.underlying60
 have HR0_0 := AM hr0_0
 have HC0_0 := AM hc0_0
 clear hr0_0 hc0_0
 have HR0_1 := AM hr0_1
 have HC0_1 := AM hc0_1
 clear hr0_1 hc0_1
 have HR1 := AM hr1
 have HC1 := AM hc1
 clear hr1 hc1
 have HO3 := AM (show Kd.R k60 60 w w0.heap.size (fun k_ => (P3_ k_ ∨ w.heap.size ≤ k_)) u9000_ l3 from Kd.R_mono ho3 (fun k_ hk => (.inl hk)))
 have HK := AM (Kept.refl w (fun k_ => P3_ k_))
 have HW0 := AM hB.size
 have HB := AM hB
 clear hB
 have H : (spec_l11At.l0 k l1 l3 0 l0_0 l0_1 a2_0 a2_1) = some r := h
 clear h
 have H' := AM H
 clear H
 go_enter Try.func45, Try.ntmps45
 go_wp2_with (first | ((with_reducible refine gate_dst (N := 4) rfl ?_); refine ZX (N := 4) (cs := #[.slice A0_0 l0_0.length c0_0, .slice A0_1 l0_1.length c0_1]) (t := 32) ?_; intro gb408 hg w5 hbox hb; have BK408 := AM (hbox); have GW408 := AM ((by rw [hg]; exact (by first | exact HK.out.1 | exact (show Kept w _ (fun k_ => P3_ k_) from ZHK HK).1) : w.heap.size ≤ gb408)); have GE408 : Aside0 (w0.heap.size ≤ gb408) := ZS hg; replace HO3 := AM (Kd.R_below (ZR HO3.out) hb); replace HK := AM (Kept.below (S := (fun k_ => P3_ k_)) (ZHK HK) hb); replace HB := ZT HB hb; clear hb hbox hg) | ((with_reducible refine gate_dst (N := 6) rfl ?_); refine ZX (N := 6) (cs := #[.int .i64 a2_0, .int .i64 a2_1]) (t := 60) ?_; intro gb409 hg w6 hbox hb; have BK409 := AM (hbox); have GW409 := AM ((by rw [hg]; exact (by first | exact HK.out.1 | exact (show Kept w _ (fun k_ => P3_ k_) from ZHK HK).1) : w.heap.size ≤ gb409)); have GE409 : Aside0 (w0.heap.size ≤ gb409) := ZS hg; have NB408_409 : Aside0 (gb408 ≠ gb409) := ZN hg BK408; have NB409_408 : Aside0 (gb409 ≠ gb408) := ZM hg BK408; replace HO3 := AM (Kd.R_below (Kd.R_elderB (ZR HO3.out) gb409 (Nat.le_of_eq hg.symm)) hb); replace BK408 := ZW BK408 hb; replace HK := AM (Kept.below (S := (fun k_ => P3_ k_)) (ZHK HK) hb); replace HB := ZT HB hb; clear hb hbox hg))
 go_loopg [3, 9] k (fun kq v3 v9 w' => ∃ (x3_1 : List (S60)) (x9_1 : Int), v9 = .int .i64 x9_1 ∧ Aside0 (spec_l11At.l0 kq l1 x3_1 x9_1 l0_0 l0_1 a2_0 a2_1 = some r) ∧ Aside0 (kq ≤ k) ∧ Aside0 (Kd.R k60 60 w' w0.heap.size (fun k_ => (P3_ k_ ∨ w.heap.size ≤ k_) ∧ k_ ≠ gb409) v3 x3_1) ∧ Aside0 (w'.heap[gb408]? = some (.cells #[(.slice A0_0 l0_0.length c0_0), (.slice A0_1 l0_1.length c0_1)] 32 (0, 0))) ∧ Aside0 (w'.heap[gb409]? = some (.cells #[.int .i64 a2_0, .int .i64 a2_1] 60 (0, 0))) ∧ Aside0 (Kept w w' (fun k_ => P3_ k_)) ∧ Aside0 (Below w0.heap.size w0 w'))
 case atStart => exact ⟨(l3), (0), (by first | rfl | (simp; done) | (simp [*]; done)), H', ⟨Nat.le_refl _⟩, ⟨ZR HO3.out⟩, ⟨ZK BK408.out⟩, ⟨ZK BK409.out⟩, ⟨ZHK HK⟩, ⟨ZB⟩⟩
 case round => (
 clear H'
 try clear c1
 try clear p2
 try clear c4
 obtain ⟨x3_1, x9_1, rfl, HA, HK1, HO_3, BK408, BK409, HK, HB⟩ := hrel
 cases gk with
 | zero => exact absurd HA.out (by simp [spec_l11At.l0])
 | succ k1 =>
  have H := HA.out
  clear HA
  simp only [spec_l11At.l0] at H
  by_cases c7 : x9_1 < (l1.length : Int)
  ·(
  rw [if_pos c7] at H
  have c7b0 := decide_eq_true c7
  clear c7
  by_cases c8 : x3_1.length < 8796093022208
  ·(
  rw [if_pos c8] at H
  have LMc8 := AM c8
  clear c8
  obtain ⟨y410, hy410⟩ : ∃ y_ : List (S60), y_ = (x3_1 ++ [(⟨a2_0, a2_1⟩ : S60)]) := ⟨_, rfl⟩
  replace H : (if 0 ≤ x9_1 then (if 0 ≤ ((rd_T50 l1 x9_1).f1) then (if ((rd_T50 l1 x9_1).f1) < (l0_0.length : Int) then ((spec_LabelBoth.f k1 a2_0 a2_1 ((rd_T60 l0_0 ((rd_T50 l1 x9_1).f1)).f0) ((rd_T60 l0_0 ((rd_T50 l1 x9_1).f1)).f1)).bind fun bt415 => ((spec_l11At.f k1 l0_0 l0_1 ((rd_T50 l1 x9_1).f4) bt415.1 bt415.2 y410).bind fun t419 => ((spec_l11At.f k1 l0_0 l0_1 ((rd_T50 l1 x9_1).f5) bt415.1 bt415.2 t419).bind fun t423 => (spec_l11At.l0 k1 l1 t423 (wrap64 (x9_1 + 1)) l0_0 l0_1 a2_0 a2_1)))) else (none)) else (none)) else (none)) = some r := by first | (rw [hy410]; with_reducible exact H) | (have H2_ := (Option.bind_some _ _).symm.trans H; rw [hy410]; with_reducible exact H2_) | (have H2_ := (Option.bind_some _ _).symm.trans H; with_reducible exact H2_) | with_reducible exact H | (rw [hy410]; exact H) | exact H
  have Ny410 := AM hy410
  clear hy410
  by_cases c9 : 0 ≤ x9_1
  ·(
  rw [if_pos c9] at H
  have c9b0 := decide_eq_true c9
  clear c9
  by_cases c10 : 0 ≤ ((rd_T50 l1 x9_1).f1)
  ·(
  rw [if_pos c10] at H
  have c10b0 := decide_eq_true c10
  clear c10
  by_cases c11 : ((rd_T50 l1 x9_1).f1) < (l0_0.length : Int)
  ·(
  rw [if_pos c11] at H
  have c11b0 := decide_eq_true c11
  clear c11
  obtain ⟨⟨t415, t416⟩, A12, H⟩ := ZOB H; try dsimp only at H
  obtain ⟨t419, A13, H⟩ := ZOB H; try dsimp only at H
  obtain ⟨t423, A14, H⟩ := ZOB H; try dsimp only at H
  have H' := AM H
  clear H
  have hnb15 := NB409_408.out
  have hnc15 := NB408_409.out
  have hcz16 := ZC2 wr BK409
  have hfz16 := ZF2 BK409
  try go_wp2_with (first | ((with_reducible refine gate_builtin (b := .append) (xs := #[.tmp 17, .tmp 19]) rfl ?_); at_builtin; refine Kd.R_append k60 (w0 := w0) w0.heap.size rfl (.tmp 17) (.tmp 19) 29 60 (.agg #[(.int .i64 0), (.int .i64 0)]) 16 rfl Try.underlying29 info60 rfl (by decide) (by omega) u3 x3_1 (⟨a2_0, a2_1⟩ : S60) [.int .i64 a2_0, .int .i64 a2_1] (fun k_ => (P3_ k_ ∨ w.heap.size ≤ k_) ∧ k_ ≠ gb409) (fun _ => False) rfl rfl ?aP (fun _ hk => hk.elim) ?aF ?aO ?aB ?aS ?aL ?_; (case aP => exact k60_mkM _ _ _ (⟨a2_0, a2_1⟩ : S60)); (case aB => exact (ZB)); (case aF => exact (fun k_ hk => ⟨(.inr (Nat.le_trans (by first | exact HK.out.1 | exact (show Kept w _ (fun k_ => P3_ k_) from ZHK HK).1) hk)), Kd.freshB (g := gb409) (o := .cells #[.int .i64 a2_0, .int .i64 a2_1] 60 (0, 0)) (ZK BK409.out) k_ hk⟩)); (case aO => exact (ZR HO_3.out)); (case aS => exact (below_size (ZB))); (case aL => have := LMc8.out; omega); intro v411 w17 ho hb hg hat; rw [← Ny410.out] at ho; have n0_ := AM (blk_grown (g := gb408) (o := .cells #[.slice A0_0 l0_0.length c0_0, .slice A0_1 l0_1.length c0_1] 32 (0, 0)) (ZK BK408.out) hg (Kd.R_ne HO_3.out BK408.out (by decide))); have n1_ := AM (blk_grown (g := gb409) (o := .cells #[.int .i64 a2_0, .int .i64 a2_1] 60 (0, 0)) (ZK BK409.out) hg (Kd.R_away HO_3.out (fun _ hk => hk.2))); have n2_ := AM (hb); have n3_ := AM (Kept.of_grown (S := (fun k_ => P3_ k_)) hg (ZHK HK) (fun k_ e_ => (HO_3.out.1 k_ e_).1)); have n4_ := AM (ho); clear BK408 BK409 HB HK HO_3; have BK408 := n0_; have BK409 := n1_; have HB := n2_; have HK := n3_; have HO412 := n4_; clear n0_ n1_ n2_ n3_ n4_ ho hb hg hat))
  replace HO412 := AM (Kd.R_drew HO412.out)
  replace BK408 := AM (blk_drew BK408.out)
  replace BK409 := AM (blk_drew BK409.out)
  replace HK := AM (Kept.drew HK.out)
  replace HB := AM (below_drew1 HB.out)
  have p413 : 0 ≤ (x9_1 : Int) := ZD
  have q413 : x9_1 < (l1.length : Int) := ZD
  obtain ⟨ad413, A413_6, c413_6, A413_7, c413_7, e413, hx413_0, hx413_1, hx413_2, hx413_3, hx413_4, hx413_5, hx413_6, hx413_7, hl413_6, hi413_6, hl413_7, hi413_7⟩ := at_T50 (Kd.C_kept_now HR1.out HK.out) x9_1 p413 q413
  have hw413_7 := hx413_7
  have hw413_6 := hx413_6
  have hw413_5 := hx413_5
  have hw413_4 := hx413_4
  have hw413_3 := hx413_3
  have hw413_2 := hx413_2
  have hw413_1 := hx413_1
  have hw413_0 := hx413_0
  cases e413
  have hy413_0 := Kd.kept_slot HR1.out (by omega) (by decide) (ZHK HK) hx413_0 (add_block _ _) (Kept.refl _ _)
  have hy413_1 := Kd.kept_slot HR1.out (by omega) (by decide) (ZHK HK) hx413_1 (add_block _ _) (Kept.refl _ _)
  have hy413_2 := Kd.kept_slot HR1.out (by omega) (by decide) (ZHK HK) hx413_2 (add_block _ _) (Kept.refl _ _)
  have hy413_3 := Kd.kept_slot HR1.out (by omega) (by decide) (ZHK HK) hx413_3 (add_block _ _) (Kept.refl _ _)
  have hy413_4 := Kd.kept_slot HR1.out (by omega) (by decide) (ZHK HK) hx413_4 (add_block _ _) (Kept.refl _ _)
  have hy413_5 := Kd.kept_slot HR1.out (by omega) (by decide) (ZHK HK) hx413_5 (add_block _ _) (Kept.refl _ _)
  have hy413_6 := Kd.kept_slot HR1.out (by omega) (by decide) (ZHK HK) hx413_6 (add_block _ _) (Kept.refl _ _)
  have hy413_7 := Kd.kept_slot HR1.out (by omega) (by decide) (ZHK HK) hx413_7 (add_block _ _) (Kept.refl _ _)
  have HR413_6 := AM hi413_6
  have HC413_6 := AM hl413_6
  clear hi413_6 hl413_6
  have HR413_7 := AM hi413_7
  have HC413_7 := AM hl413_7
  clear hi413_7 hl413_7
  replace p413 := eq_true p413
  replace q413 := eq_true q413
  have p414 : 0 ≤ (((rd_T50 l1 x9_1).f1) : Int) := ZD
  have q414 : ((rd_T50 l1 x9_1).f1) < (l0_0.length : Int) := ZD
  obtain ⟨ad414, e414, hx414_0, hx414_1⟩ := at_T60 (Kd.C_kept_now HR0_0.out HK.out) ((rd_T50 l1 x9_1).f1) p414 q414
  have hw414_1 := hx414_1
  have hw414_0 := hx414_0
  cases e414
  have hy414_0 := Kd.kept_slot HR0_0.out (by omega) (by decide) (ZHK HK) hx414_0 (add_block _ _) (Kept.refl _ _)
  have hy414_1 := Kd.kept_slot HR0_0.out (by omega) (by decide) (ZHK HK) hx414_1 (add_block _ _) (Kept.refl _ _)
  replace p414 := eq_true p414
  replace q414 := eq_true q414
  refine start_ (n := 13) (S := fun w' => w'.cell? ⟨gb409, 0, none⟩ = some (.int .i64 a2_0) ∧ w'.cell? ⟨gb409, 1, none⟩ = some (.int .i64 a2_1) ∧ w'.cell? ⟨gb408, 0, none⟩ = some (.slice (some ad414) l0_0.length c0_0) ∧ w'.cell? ⟨gb408, 1, none⟩ = some (.slice A0_1 l0_1.length c0_1) ∧ w'.cell? (ad413.add ((x9_1).toNat * 8)) = some (.int .i64 ((rd_T50 l1 x9_1).f0)) ∧ w'.cell? ⟨(ad413.add ((x9_1).toNat * 8)).block, (ad413.add ((x9_1).toNat * 8)).off + 1, none⟩ = some (.int .i64 ((rd_T50 l1 x9_1).f1)) ∧ w'.cell? ⟨(ad413.add ((x9_1).toNat * 8)).block, (ad413.add ((x9_1).toNat * 8)).off + 2, none⟩ = some (.int .i64 ((rd_T50 l1 x9_1).f2.f0)) ∧ w'.cell? ⟨(ad413.add ((x9_1).toNat * 8)).block, (ad413.add ((x9_1).toNat * 8)).off + 3, none⟩ = some (.int .i64 ((rd_T50 l1 x9_1).f2.f1)) ∧ w'.cell? ⟨(ad413.add ((x9_1).toNat * 8)).block, (ad413.add ((x9_1).toNat * 8)).off + 4, none⟩ = some (.int .i64 ((rd_T50 l1 x9_1).f2.f2)) ∧ w'.cell? ⟨(ad413.add ((x9_1).toNat * 8)).block, (ad413.add ((x9_1).toNat * 8)).off + 5, none⟩ = some (.int .i64 ((rd_T50 l1 x9_1).f3)) ∧ w'.cell? ⟨(ad413.add ((x9_1).toNat * 8)).block, (ad413.add ((x9_1).toNat * 8)).off + 6, none⟩ = some (.slice A413_6 ((rd_T50 l1 x9_1).f4).length c413_6) ∧ w'.cell? ⟨(ad413.add ((x9_1).toNat * 8)).block, (ad413.add ((x9_1).toNat * 8)).off + 7, none⟩ = some (.slice A413_7 ((rd_T50 l1 x9_1).f5).length c413_7) ∧ w'.cell? (ad414.add ((((rd_T50 l1 x9_1).f1)).toNat * 2)) = some (.int .i64 ((rd_T60 l0_0 ((rd_T50 l1 x9_1).f1)).f0)) ∧ w'.cell? ⟨(ad414.add ((((rd_T50 l1 x9_1).f1)).toNat * 2)).block, (ad414.add ((((rd_T50 l1 x9_1).f1)).toNat * 2)).off + 1, none⟩ = some (.int .i64 ((rd_T60 l0_0 ((rd_T50 l1 x9_1).f1)).f1))) (ds := []) #[F,F,F,F,F,F,F,F,F,F,F,F,F] (by kernel_rfl) rfl rfl ⟨ZA BK409 0, ZA BK409 1, ZA BK408 0, ZA BK408 1, (ZKS HR1 p413 q413 hy413_0 (ZHK HK)), (ZKS HR1 p413 q413 hy413_1 (ZHK HK)), (ZKS HR1 p413 q413 hy413_2 (ZHK HK)), (ZKS HR1 p413 q413 hy413_3 (ZHK HK)), (ZKS HR1 p413 q413 hy413_4 (ZHK HK)), (ZKS HR1 p413 q413 hy413_5 (ZHK HK)), (ZKS HR1 p413 q413 hy413_6 (ZHK HK)), (ZKS HR1 p413 q413 hy413_7 (ZHK HK)), (ZKS HR0_0 p414 q414 hy414_0 (ZHK HK)), (ZKS HR0_0 p414 q414 hy414_1 (ZHK HK))⟩ (fun hHeld => ?_); refine with_tabW spec_l11At.tab5 spec_l11At.bits5 (fun HT_ HW_ => ?_)
  generalize w17.drew = w18 at HO412 BK408 BK409 HK HB HR413_6 HR413_7 hx413_0 hx413_1 hx413_2 hx413_3 hx413_4 hx413_5 hx413_6 hx413_7 hx414_0 hx414_1 hHeld ⊢
  refine ZU 1 22 #[F,T,F,F,F,F,F,F,F,F,F,F,F] ?_
  refine ZU 3 24 #[F,T,F,T,F,F,F,F,F,F,F,F,F] ?_
  refine ZU 4 25 #[F,T,F,T,T,F,F,F,F,F,F,F,F] ?_
  refine ZU 5 26 #[F,T,F,T,T,T,F,F,F,F,F,F,F] ?_
  refine ZU 6 27 #[F,T,F,T,T,T,T,F,F,F,F,F,F] ?_
  refine ZTK 0 21 #[T,T,F,T,T,T,T,F,F,F,F,F,F] hHeld ?_
  refine ZTK 2 23 #[T,T,T,T,T,T,T,F,F,F,F,F,F] hHeld ?_
  refine ZTK 7 28 #[T,T,T,T,T,T,T,T,F,F,F,F,F] hHeld ?_
  refine ZU 8 29 #[T,T,T,T,T,T,T,T,T,F,F,F,F] ?_
  refine ZTK 9 30 #[T,T,T,T,T,T,T,T,T,T,F,F,F] hHeld ?_
  refine join_ (σ := Nat) 1 #[T,T,T,T,T,T,T,T,T,T,T,T,F] (fun s_ => [(31, .agg #[.int .i64 t415, .int .i64 t416]), (10, .pointer (some ⟨s_, 0, none⟩))]) (fun s_ w' => (w'.cell? ⟨gb409, 0, none⟩ = some (.int .i64 a2_0) ∧ w'.cell? ⟨gb409, 1, none⟩ = some (.int .i64 a2_1) ∧ w'.cell? ⟨gb408, 0, none⟩ = some (.slice (some ad414) l0_0.length c0_0) ∧ w'.cell? ⟨gb408, 1, none⟩ = some (.slice A0_1 l0_1.length c0_1) ∧ w'.cell? (ad413.add ((x9_1).toNat * 8)) = some (.int .i64 ((rd_T50 l1 x9_1).f0)) ∧ w'.cell? ⟨(ad413.add ((x9_1).toNat * 8)).block, (ad413.add ((x9_1).toNat * 8)).off + 1, none⟩ = some (.int .i64 ((rd_T50 l1 x9_1).f1)) ∧ w'.cell? ⟨(ad413.add ((x9_1).toNat * 8)).block, (ad413.add ((x9_1).toNat * 8)).off + 2, none⟩ = some (.int .i64 ((rd_T50 l1 x9_1).f2.f0)) ∧ w'.cell? ⟨(ad413.add ((x9_1).toNat * 8)).block, (ad413.add ((x9_1).toNat * 8)).off + 3, none⟩ = some (.int .i64 ((rd_T50 l1 x9_1).f2.f1)) ∧ w'.cell? ⟨(ad413.add ((x9_1).toNat * 8)).block, (ad413.add ((x9_1).toNat * 8)).off + 4, none⟩ = some (.int .i64 ((rd_T50 l1 x9_1).f2.f2)) ∧ w'.cell? ⟨(ad413.add ((x9_1).toNat * 8)).block, (ad413.add ((x9_1).toNat * 8)).off + 5, none⟩ = some (.int .i64 ((rd_T50 l1 x9_1).f3)) ∧ w'.cell? ⟨(ad413.add ((x9_1).toNat * 8)).block, (ad413.add ((x9_1).toNat * 8)).off + 6, none⟩ = some (.slice A413_6 ((rd_T50 l1 x9_1).f4).length c413_6) ∧ w'.cell? ⟨(ad413.add ((x9_1).toNat * 8)).block, (ad413.add ((x9_1).toNat * 8)).off + 7, none⟩ = some (.slice A413_7 ((rd_T50 l1 x9_1).f5).length c413_7) ∧ w'.cell? (ad414.add ((((rd_T50 l1 x9_1).f1)).toNat * 2)) = some (.int .i64 ((rd_T60 l0_0 ((rd_T50 l1 x9_1).f1)).f0)) ∧ w'.cell? ⟨(ad414.add ((((rd_T50 l1 x9_1).f1)).toNat * 2)).block, (ad414.add ((((rd_T50 l1 x9_1).f1)).toNat * 2)).off + 1, none⟩ = some (.int .i64 ((rd_T60 l0_0 ((rd_T50 l1 x9_1).f1)).f1))) ∧ (Kd.R k60 60 w' w0.heap.size (fun k_ => (P3_ k_ ∨ w.heap.size ≤ k_) ∧ k_ ≠ gb409 ∧ k_ ≠ s_) v411 y410) ∧ (w'.heap[gb408]? = some (.cells #[.slice (some ad414) l0_0.length c0_0, .slice A0_1 l0_1.length c0_1] 32 (0, 0))) ∧ (w'.heap[gb409]? = some (.cells #[.int .i64 a2_0, .int .i64 a2_1] 60 (0, 0))) ∧ (w'.heap[s_]? = some (.cells #[.int .i64 0, .int .i64 0] 60 (0, 0))) ∧ (w.heap.size ≤ s_) ∧ (w0.heap.size ≤ s_) ∧ (gb408 ≠ s_) ∧ (s_ ≠ gb408) ∧ (gb409 ≠ s_) ∧ (s_ ≠ gb409) ∧ (Kept w w' (fun k_ => P3_ k_)) ∧ (Below w0.heap.size w0 w')) ?_ ?_
  rotate_left
  ·(
  intro hCont
  refine two_ (i := 10) (j := 11) (Ni := some 31) (Nj := some 10) #[T,T,T,T,T,T,T,T,T,T,T,F,F] #[T,T,T,T,T,T,T,T,T,T,F,T,F] rfl rfl rfl rfl (two_of HT_.out (by kernel_rfl)) (by decide) (by decide) (fun K hK => ?_) (fun K hK => ?_)
  ·(
  skip
  refine ZGO Try.func68 #[.agg #[.int .i64 a2_0, .int .i64 a2_1], .agg #[.int .i64 ((rd_T60 l0_0 ((rd_T50 l1 x9_1).f1)).f0), .int .i64 ((rd_T60 l0_0 ((rd_T50 l1 x9_1).f1)).f1)]] ?_
  with_reducible refine (spec_LabelBoth.calls k1 a2_0 a2_1 ((rd_T60 l0_0 ((rd_T50 l1 x9_1).f1)).f0) ((rd_T60 l0_0 ((rd_T50 l1 x9_1).f1)).f1) t415 t416 _ A12.out).mono ?_
  rintro e w19 ⟨rfl, hb⟩
  refine ⟨_, rfl, ?_⟩
  replace HO412 := AM (Kd.R_below (ZR HO412.out) hb)
  replace BK408 := ZW BK408 hb
  replace BK409 := ZW BK409 hb
  replace HR413_6 := AM (Kd.C_below (ZQ HR413_6.out) hb)
  replace HR413_7 := AM (Kd.C_below (ZQ HR413_7.out) hb)
  replace HK := AM (Kept.below (S := (fun k_ => P3_ k_)) (ZHK HK) hb)
  replace HB := ZT HB hb
  (try clear hb)
  (try clear hb2)
  (try clear hk)
  (try clear hi)
  refine hK.out _ _ ⟨ZA BK409 0, ZA BK409 1, ZA BK408 0, ZA BK408 1, (ZKS HR1 p413 q413 hy413_0 (ZHK HK)), (ZKS HR1 p413 q413 hy413_1 (ZHK HK)), (ZKS HR1 p413 q413 hy413_2 (ZHK HK)), (ZKS HR1 p413 q413 hy413_3 (ZHK HK)), (ZKS HR1 p413 q413 hy413_4 (ZHK HK)), (ZKS HR1 p413 q413 hy413_5 (ZHK HK)), (ZKS HR1 p413 q413 hy413_6 (ZHK HK)), (ZKS HR1 p413 q413 hy413_7 (ZHK HK)), (ZKS HR0_0 p414 q414 hy414_0 (ZHK HK)), (ZKS HR0_0 p414 q414 hy414_1 (ZHK HK))⟩ (fun hHeld => ?_)
  clear hK K
  refine ZNO 31 ?_
  refine one_ (i := 11) (N := some 10) #[T,T,T,T,T,T,T,T,T,T,T,T,F] rfl rfl (one_of HT_.out (by kernel_rfl)) (by decide) (fun K hK => ?_)
  refine box_step ?hg (N := 10) ?hd (cs := #[.int .i64 0, .int .i64 0]) (t := 60) ?hr ?_; (case hd => rfl); (case hg => rfl); (case hr => first | (go_simp; done) | (go_simp; rfl))
  intro gb417 hg w20 hbox hb
  have BK417 := AM (hbox)
  have GW417 := AM ((by rw [hg]; exact (by first | exact HK.out.1 | exact (show Kept w _ (fun k_ => P3_ k_) from ZHK HK).1) : w.heap.size ≤ gb417))
  have GE417 : Aside0 (w0.heap.size ≤ gb417) := ZS hg
  have NB408_417 : Aside0 (gb408 ≠ gb417) := ZN hg BK408
  have NB417_408 : Aside0 (gb417 ≠ gb408) := ZM hg BK408
  have NB409_417 : Aside0 (gb409 ≠ gb417) := ZN hg BK409
  have NB417_409 : Aside0 (gb417 ≠ gb409) := ZM hg BK409
  replace HO412 := AM (Kd.R_below (Kd.R_elderB (ZR HO412.out) gb417 (Nat.le_of_eq hg.symm)) hb)
  replace BK408 := ZW BK408 hb
  replace BK409 := ZW BK409 hb
  replace HR413_6 := AM (Kd.C_below (ZQ HR413_6.out) hb)
  replace HR413_7 := AM (Kd.C_below (ZQ HR413_7.out) hb)
  replace HK := AM (Kept.below (S := (fun k_ => P3_ k_)) (ZHK HK) hb)
  replace HB := ZT HB hb
  clear hb hbox hg
  refine hK.out _ _ ⟨ZA BK409 0, ZA BK409 1, ZA BK408 0, ZA BK408 1, (ZKS HR1 p413 q413 hy413_0 (ZHK HK)), (ZKS HR1 p413 q413 hy413_1 (ZHK HK)), (ZKS HR1 p413 q413 hy413_2 (ZHK HK)), (ZKS HR1 p413 q413 hy413_3 (ZHK HK)), (ZKS HR1 p413 q413 hy413_4 (ZHK HK)), (ZKS HR1 p413 q413 hy413_5 (ZHK HK)), (ZKS HR1 p413 q413 hy413_6 (ZHK HK)), (ZKS HR1 p413 q413 hy413_7 (ZHK HK)), (ZKS HR0_0 p414 q414 hy414_0 (ZHK HK)), (ZKS HR0_0 p414 q414 hy414_1 (ZHK HK))⟩ (fun hHeld => ?_)
  clear hK K
  refine ZNO 10 ?_
  exact norm_ (by simp only [putAll, Act.put, List.setIfInBounds_toArray, List.set_cons_zero, List.set_cons_succ]) (hCont (gb417) _ ⟨hHeld, (by (with_reducible repeat (first | apply Kd.R_alloc | apply Kd.R_drewN | apply Kd.R_drew)); exact Kd.R_mono HO412.out (fun _ hk => ⟨hk.1.1, ⟨hk.1.2, hk.2⟩⟩)), (ZK BK408.out), (ZK BK409.out), (ZK BK417.out), GW417.out, GE417.out, NB408_417.out, NB417_408.out, NB409_417.out, NB417_409.out, (ZHK HK), (ZB)⟩))
  ·(
  skip
  refine box_step ?hg (N := 10) ?hd (cs := #[.int .i64 0, .int .i64 0]) (t := 60) ?hr ?_; (case hd => rfl); (case hg => rfl); (case hr => first | (go_simp; done) | (go_simp; rfl))
  intro gb417 hg w19 hbox hb
  have BK417 := AM (hbox)
  have GW417 := AM ((by rw [hg]; exact (by first | exact HK.out.1 | exact (show Kept w _ (fun k_ => P3_ k_) from ZHK HK).1) : w.heap.size ≤ gb417))
  have GE417 : Aside0 (w0.heap.size ≤ gb417) := ZS hg
  have NB408_417 : Aside0 (gb408 ≠ gb417) := ZN hg BK408
  have NB417_408 : Aside0 (gb417 ≠ gb408) := ZM hg BK408
  have NB409_417 : Aside0 (gb409 ≠ gb417) := ZN hg BK409
  have NB417_409 : Aside0 (gb417 ≠ gb409) := ZM hg BK409
  replace HO412 := AM (Kd.R_below (Kd.R_elderB (ZR HO412.out) gb417 (Nat.le_of_eq hg.symm)) hb)
  replace BK408 := ZW BK408 hb
  replace BK409 := ZW BK409 hb
  replace HR413_6 := AM (Kd.C_below (ZQ HR413_6.out) hb)
  replace HR413_7 := AM (Kd.C_below (ZQ HR413_7.out) hb)
  replace HK := AM (Kept.below (S := (fun k_ => P3_ k_)) (ZHK HK) hb)
  replace HB := ZT HB hb
  clear hb hbox hg
  refine hK.out _ _ ⟨ZA BK409 0, ZA BK409 1, ZA BK408 0, ZA BK408 1, (ZKS HR1 p413 q413 hy413_0 (ZHK HK)), (ZKS HR1 p413 q413 hy413_1 (ZHK HK)), (ZKS HR1 p413 q413 hy413_2 (ZHK HK)), (ZKS HR1 p413 q413 hy413_3 (ZHK HK)), (ZKS HR1 p413 q413 hy413_4 (ZHK HK)), (ZKS HR1 p413 q413 hy413_5 (ZHK HK)), (ZKS HR1 p413 q413 hy413_6 (ZHK HK)), (ZKS HR1 p413 q413 hy413_7 (ZHK HK)), (ZKS HR0_0 p414 q414 hy414_0 (ZHK HK)), (ZKS HR0_0 p414 q414 hy414_1 (ZHK HK))⟩ (fun hHeld => ?_)
  clear hK K
  refine ZNO 10 ?_
  refine one_ (i := 10) (N := some 31) #[T,T,T,T,T,T,T,T,T,T,T,T,F] rfl rfl (one_of HT_.out (by kernel_rfl)) (by decide) (fun K hK => ?_)
  refine ZGO Try.func68 #[.agg #[.int .i64 a2_0, .int .i64 a2_1], .agg #[.int .i64 ((rd_T60 l0_0 ((rd_T50 l1 x9_1).f1)).f0), .int .i64 ((rd_T60 l0_0 ((rd_T50 l1 x9_1).f1)).f1)]] ?_
  with_reducible refine (spec_LabelBoth.calls k1 a2_0 a2_1 ((rd_T60 l0_0 ((rd_T50 l1 x9_1).f1)).f0) ((rd_T60 l0_0 ((rd_T50 l1 x9_1).f1)).f1) t415 t416 _ A12.out).mono ?_
  rintro e w20 ⟨rfl, hb⟩
  refine ⟨_, rfl, ?_⟩
  replace HO412 := AM (Kd.R_below (ZR HO412.out) hb)
  replace BK408 := ZW BK408 hb
  replace BK409 := ZW BK409 hb
  replace HR413_6 := AM (Kd.C_below (ZQ HR413_6.out) hb)
  replace HR413_7 := AM (Kd.C_below (ZQ HR413_7.out) hb)
  replace BK417 := ZW BK417 hb
  replace HK := AM (Kept.below (S := (fun k_ => P3_ k_)) (ZHK HK) hb)
  replace HB := ZT HB hb
  (try clear hb)
  (try clear hb2)
  (try clear hk)
  (try clear hi)
  refine hK.out _ _ ⟨ZA BK409 0, ZA BK409 1, ZA BK408 0, ZA BK408 1, (ZKS HR1 p413 q413 hy413_0 (ZHK HK)), (ZKS HR1 p413 q413 hy413_1 (ZHK HK)), (ZKS HR1 p413 q413 hy413_2 (ZHK HK)), (ZKS HR1 p413 q413 hy413_3 (ZHK HK)), (ZKS HR1 p413 q413 hy413_4 (ZHK HK)), (ZKS HR1 p413 q413 hy413_5 (ZHK HK)), (ZKS HR1 p413 q413 hy413_6 (ZHK HK)), (ZKS HR1 p413 q413 hy413_7 (ZHK HK)), (ZKS HR0_0 p414 q414 hy414_0 (ZHK HK)), (ZKS HR0_0 p414 q414 hy414_1 (ZHK HK))⟩ (fun hHeld => ?_)
  clear hK K
  refine ZNO 31 ?_
  exact norm_ (by simp only [putAll, Act.put, List.setIfInBounds_toArray, List.set_cons_zero, List.set_cons_succ]) (hCont (gb417) _ ⟨hHeld, (by (with_reducible repeat (first | apply Kd.R_alloc | apply Kd.R_drewN | apply Kd.R_drew)); exact Kd.R_mono HO412.out (fun _ hk => ⟨hk.1.1, ⟨hk.1.2, hk.2⟩⟩)), (ZK BK408.out), (ZK BK409.out), (ZK BK417.out), GW417.out, GE417.out, NB408_417.out, NB417_408.out, NB409_417.out, NB417_409.out, (ZHK HK), (ZB)⟩)))
  rintro gb417 w21 ⟨hS_, h0_, h1_, h2_, h3_, h4_, h5_, h6_, h7_, h8_, h9_, h10_, h11_⟩
  try dsimp only at h0_ h1_ h2_ h3_ h4_ h5_ h6_ h7_ h8_ h9_ h10_ h11_
  have n0_ := AM h0_
  have n1_ := AM h1_
  have n2_ := AM h2_
  have n3_ := AM h3_
  have n4_ := AM h4_
  have n5_ := AM h5_
  have n6_ := AM h6_
  have n7_ := AM h7_
  have n8_ := AM h8_
  have n9_ := AM h9_
  have n10_ := AM h10_
  have n11_ := AM h11_
  clear HO412 BK408 BK409 HK HB h0_ h1_ h2_ h3_ h4_ h5_ h6_ h7_ h8_ h9_ h10_ h11_
  have HO412 := n0_
  have BK408 := n1_
  have BK409 := n2_
  have BK417 := n3_
  have GW417 := n4_
  have GE417 := n5_
  have NB408_417 := n6_
  have NB417_408 := n7_
  have NB409_417 := n8_
  have NB417_409 := n9_
  have HK := n10_
  have HB := n11_
  clear n0_ n1_ n2_ n3_ n4_ n5_ n6_ n7_ n8_ n9_ n10_ n11_
  try dsimp only at hS_
  have hHeld := hS_
  refine ZNP ?_
  refine one_ (i := 12) (N := none) #[T,T,T,T,T,T,T,T,T,T,T,T,T] rfl rfl (one_of HT_.out (by kernel_rfl)) (by decide) (fun K hK => ?_)
  have hs22 : w21.cell? ⟨gb417, 0, none⟩ = some (.int .i64 0) := ZA BK417 0
  have hfs22 := blk_frozen BK417.out 0
  have hns22_0 := NB408_417.out
  have hns22_1 := NB409_417.out
  have hms22_0 := NB417_408.out
  have hms22_1 := NB417_409.out
  have hs23 : w21.cell? ⟨gb417, 1, none⟩ = some (.int .i64 0) := ZA BK417 1
  have hfs23 := blk_frozen BK417.out 1
  have hns23_0 := NB408_417.out
  have hns23_1 := NB409_417.out
  have hms23_0 := NB417_408.out
  have hms23_1 := NB417_409.out
  refine skip_ (w1 := ?_) (by rfl) rfl ?_ ?_
  rotate_left
  ·(
  go_simp
  rfl)
  refine hK.out _ _ ⟨((cell_far (p := ⟨gb417, _, none⟩) NB409_417.out _).trans (((cell_far (p := ⟨gb417, _, none⟩) NB409_417.out _).trans (hHeld.1)))), ((cell_far (p := ⟨gb417, _, none⟩) NB409_417.out _).trans (((cell_far (p := ⟨gb417, _, none⟩) NB409_417.out _).trans (hHeld.2.1)))), ((cell_far (p := ⟨gb417, _, none⟩) NB408_417.out _).trans (((cell_far (p := ⟨gb417, _, none⟩) NB408_417.out _).trans (hHeld.2.2.1)))), ((cell_far (p := ⟨gb417, _, none⟩) NB408_417.out _).trans (((cell_far (p := ⟨gb417, _, none⟩) NB408_417.out _).trans (hHeld.2.2.2.1)))), (ZKS HR1 p413 q413 hy413_0 (ZHK HK)), (ZKS HR1 p413 q413 hy413_1 (ZHK HK)), (ZKS HR1 p413 q413 hy413_2 (ZHK HK)), (ZKS HR1 p413 q413 hy413_3 (ZHK HK)), (ZKS HR1 p413 q413 hy413_4 (ZHK HK)), (ZKS HR1 p413 q413 hy413_5 (ZHK HK)), (ZKS HR1 p413 q413 hy413_6 (ZHK HK)), (ZKS HR1 p413 q413 hy413_7 (ZHK HK)), (ZKS HR0_0 p414 q414 hy414_0 (ZHK HK)), (ZKS HR0_0 p414 q414 hy414_1 (ZHK HK))⟩ (fun hHeld => ?_)
  clear hK K
  refine done_ (done_of HT_.out (by kernel_rfl)) ?_
  try go_wp2
  have n0_ : Aside0 (Kd.R k60 60 ((w21.setCell ⟨gb417, 0, none⟩ (.int .i64 t415)).setCell ⟨gb417, 1, none⟩ (.int .i64 t416)) w0.heap.size (fun k_ => (P3_ k_ ∨ w.heap.size ≤ k_) ∧ k_ ≠ gb409 ∧ k_ ≠ gb417) v411 y410) := ⟨by (with_reducible repeat (first | apply Kd.R_alloc | apply Kd.R_drewN | apply Kd.R_drew)); exact Kd.R_mono (Kd.R_far (p := ⟨gb417, 1, none⟩) (Kd.R_far (p := ⟨gb417, 0, none⟩) (Kd.R_mono HO412.out (fun k_ hk => (⟨hk, hk.2.2⟩ : _ ∧ k_ ≠ gb417))) (fun _ hk => hk.2) (.int .i64 t415)) (fun _ hk => hk.2) (.int .i64 t416)) (fun _ hk => ⟨hk.1.1, ⟨hk.1.2.1, hk.1.2.2⟩⟩)⟩
  have n1_ : Aside0 (((w21.setCell ⟨gb417, 0, none⟩ (.int .i64 t415)).setCell ⟨gb417, 1, none⟩ (.int .i64 t416)).heap[gb408]? = some (.cells #[.slice (some ad414) l0_0.length c0_0, .slice A0_1 l0_1.length c0_1] 32 (0, 0))) := ⟨ZZ BK408.out⟩
  have n2_ : Aside0 (((w21.setCell ⟨gb417, 0, none⟩ (.int .i64 t415)).setCell ⟨gb417, 1, none⟩ (.int .i64 t416)).heap[gb409]? = some (.cells #[.int .i64 a2_0, .int .i64 a2_1] 60 (0, 0))) := ⟨ZZ BK409.out⟩
  have n3_ : Aside0 (((w21.setCell ⟨gb417, 0, none⟩ (.int .i64 t415)).setCell ⟨gb417, 1, none⟩ (.int .i64 t416)).heap[gb417]? = some (.cells #[.int .i64 t415, .int .i64 t416] 60 (0, 0))) := ⟨ZZ BK417.out⟩
  have n4_ : Aside0 (Kept w ((w21.setCell ⟨gb417, 0, none⟩ (.int .i64 t415)).setCell ⟨gb417, 1, none⟩ (.int .i64 t416)) (fun k_ => P3_ k_)) := ⟨ZHK HK⟩
  have n5_ : Aside0 (Below w0.heap.size w0 ((w21.setCell ⟨gb417, 0, none⟩ (.int .i64 t415)).setCell ⟨gb417, 1, none⟩ (.int .i64 t416))) := ⟨ZB⟩
  (try clear HO412)
  (try clear BK408)
  (try clear BK409)
  (try clear BK417)
  (try clear HK)
  (try clear HB)
  generalize ((w21.setCell ⟨gb417, 0, none⟩ (.int .i64 t415)).setCell ⟨gb417, 1, none⟩ (.int .i64 t416)) = w24 at n0_ n1_ n2_ n3_ n4_ n5_ ⊢
  have HO412 := n0_
  have BK408 := n1_
  have BK409 := n2_
  have BK417 := n3_
  have HK := n4_
  have HB := n5_
  clear n0_ n1_ n2_ n3_ n4_ n5_
  replace HO412 := AM (Kd.R_drew HO412.out)
  replace BK408 := AM (blk_drew BK408.out)
  replace BK409 := AM (blk_drew BK409.out)
  replace BK417 := AM (blk_drew BK417.out)
  replace HK := AM (Kept.drew HK.out)
  replace HB := AM (below_drew1 HB.out)
  have p418 : 0 ≤ (x9_1 : Int) := ZD
  have q418 : x9_1 < (l1.length : Int) := ZD
  obtain ⟨ad418, A418_6, c418_6, A418_7, c418_7, e418, hx418_0, hx418_1, hx418_2, hx418_3, hx418_4, hx418_5, hx418_6, hx418_7, hl418_6, hi418_6, hl418_7, hi418_7⟩ := at_T50 (Kd.C_kept_now HR1.out HK.out) x9_1 p418 q418
  have hw418_7 := hx418_7
  have hw418_6 := hx418_6
  have hw418_5 := hx418_5
  have hw418_4 := hx418_4
  have hw418_3 := hx418_3
  have hw418_2 := hx418_2
  have hw418_1 := hx418_1
  have hw418_0 := hx418_0
  obtain rfl : ad413 = ad418 := (by injection e418)
  have hy418_0 := Kd.kept_slot HR1.out (by omega) (by decide) (ZHK HK) hx418_0 (add_block _ _) (Kept.refl _ _)
  have hy418_1 := Kd.kept_slot HR1.out (by omega) (by decide) (ZHK HK) hx418_1 (add_block _ _) (Kept.refl _ _)
  have hy418_2 := Kd.kept_slot HR1.out (by omega) (by decide) (ZHK HK) hx418_2 (add_block _ _) (Kept.refl _ _)
  have hy418_3 := Kd.kept_slot HR1.out (by omega) (by decide) (ZHK HK) hx418_3 (add_block _ _) (Kept.refl _ _)
  have hy418_4 := Kd.kept_slot HR1.out (by omega) (by decide) (ZHK HK) hx418_4 (add_block _ _) (Kept.refl _ _)
  have hy418_5 := Kd.kept_slot HR1.out (by omega) (by decide) (ZHK HK) hx418_5 (add_block _ _) (Kept.refl _ _)
  have hy418_6 := Kd.kept_slot HR1.out (by omega) (by decide) (ZHK HK) hx418_6 (add_block _ _) (Kept.refl _ _)
  have hy418_7 := Kd.kept_slot HR1.out (by omega) (by decide) (ZHK HK) hx418_7 (add_block _ _) (Kept.refl _ _)
  have HR418_6 := AM hi418_6
  have HC418_6 := AM hl418_6
  clear hi418_6 hl418_6
  have HR418_7 := AM hi418_7
  have HC418_7 := AM hl418_7
  clear hi418_7 hl418_7
  replace p418 := eq_true p418
  replace q418 := eq_true q418
  obtain ⟨Ao26, co26, eo26⟩ := Kd.R_slice HO412.out
  (first | subst eo26 | (injection eo26 with f1_ f2_ f3_; have f4_ := f1_.symm; have f5_ := f3_.symm; clear f1_ f2_ f3_; subst f4_; subst f5_))
  refine start_ (n := 10) (S := fun w' => w'.cell? ⟨gb408, 0, none⟩ = some (.slice (some ad414) l0_0.length c0_0) ∧ w'.cell? ⟨gb408, 1, none⟩ = some (.slice A0_1 l0_1.length c0_1) ∧ w'.cell? ⟨gb417, 0, none⟩ = some (.int .i64 t415) ∧ w'.cell? ⟨gb417, 1, none⟩ = some (.int .i64 t416) ∧ w'.cell? (ad413.add ((x9_1).toNat * 8)) = some (.int .i64 ((rd_T50 l1 x9_1).f0)) ∧ w'.cell? ⟨(ad413.add ((x9_1).toNat * 8)).block, (ad413.add ((x9_1).toNat * 8)).off + 1, none⟩ = some (.int .i64 ((rd_T50 l1 x9_1).f1)) ∧ w'.cell? ⟨(ad413.add ((x9_1).toNat * 8)).block, (ad413.add ((x9_1).toNat * 8)).off + 2, none⟩ = some (.int .i64 ((rd_T50 l1 x9_1).f2.f0)) ∧ w'.cell? ⟨(ad413.add ((x9_1).toNat * 8)).block, (ad413.add ((x9_1).toNat * 8)).off + 3, none⟩ = some (.int .i64 ((rd_T50 l1 x9_1).f2.f1)) ∧ w'.cell? ⟨(ad413.add ((x9_1).toNat * 8)).block, (ad413.add ((x9_1).toNat * 8)).off + 4, none⟩ = some (.int .i64 ((rd_T50 l1 x9_1).f2.f2)) ∧ w'.cell? ⟨(ad413.add ((x9_1).toNat * 8)).block, (ad413.add ((x9_1).toNat * 8)).off + 5, none⟩ = some (.int .i64 ((rd_T50 l1 x9_1).f3)) ∧ w'.cell? ⟨(ad413.add ((x9_1).toNat * 8)).block, (ad413.add ((x9_1).toNat * 8)).off + 6, none⟩ = some (.slice A418_6 ((rd_T50 l1 x9_1).f4).length c418_6) ∧ w'.cell? ⟨(ad413.add ((x9_1).toNat * 8)).block, (ad413.add ((x9_1).toNat * 8)).off + 7, none⟩ = some (.slice A418_7 ((rd_T50 l1 x9_1).f5).length c418_7)) (ds := []) #[F,F,F,F,F,F,F,F,F,F] (by kernel_rfl) rfl rfl ⟨ZA BK408 0, ZA BK408 1, ZA BK417 0, ZA BK417 1, (ZKS HR1 p418 q418 hy418_0 (ZHK HK)), (ZKS HR1 p418 q418 hy418_1 (ZHK HK)), (ZKS HR1 p418 q418 hy418_2 (ZHK HK)), (ZKS HR1 p418 q418 hy418_3 (ZHK HK)), (ZKS HR1 p418 q418 hy418_4 (ZHK HK)), (ZKS HR1 p418 q418 hy418_5 (ZHK HK)), (ZKS HR1 p418 q418 hy418_6 (ZHK HK)), (ZKS HR1 p418 q418 hy418_7 (ZHK HK))⟩ (fun hHeld => ?_); refine with_tabW spec_l11At.tab6 spec_l11At.bits6 (fun HT_ HW_ => ?_)
  generalize w24.drew = w25 at HO412 BK408 BK409 BK417 HK HB HR418_6 HR418_7 hx418_0 hx418_1 hx418_2 hx418_3 hx418_4 hx418_5 hx418_6 hx418_7 hHeld ⊢
  refine ZU 1 33 #[F,T,F,F,F,F,F,F,F,F] ?_
  refine ZU 2 34 #[F,T,T,F,F,F,F,F,F,F] ?_
  refine ZU 3 35 #[F,T,T,T,F,F,F,F,F,F] ?_
  refine ZU 4 36 #[F,T,T,T,T,F,F,F,F,F] ?_
  refine ZU 7 39 #[F,T,T,T,T,F,F,T,F,F] ?_
  refine ZTK 0 32 #[T,T,T,T,T,F,F,T,F,F] hHeld ?_
  refine ZTK 5 37 #[T,T,T,T,T,T,F,T,F,F] hHeld ?_
  refine ZTK 6 38 #[T,T,T,T,T,T,T,T,F,F] hHeld ?_
  refine one_ (i := 8) (N := some 40) #[T,T,T,T,T,T,T,T,T,F] rfl rfl (one_of HT_.out (by kernel_rfl)) (by decide) (fun K hK => ?_)
  refine ZGO Try.func45 #[.agg #[.slice (some ad414) l0_0.length c0_0, .slice A0_1 l0_1.length c0_1], .slice A418_6 ((rd_T50 l1 x9_1).f4).length c418_6, .agg #[.int .i64 t415, .int .i64 t416], .slice Ao26 y410.length co26] ?_
  with_reducible refine (ih k1 (by have := HK1.out; omega) _ _ l0_0 _ _ l0_1 _ _ ((rd_T50 l1 x9_1).f4) t415 t416 (fun k_ => some k_ = (.slice Ao26 y410.length co26 : Value).ownBlock) (.slice Ao26 y410.length co26) y410 t419 w0 _ ?side1 ?side2 ?side3 ?side4 ?side5 ?side6 ?side7 ?side8 A13.out).mono ?_
  (case side1 => repeat (first | (with_reducible first | exact HB.out | apply below_alloc | apply pw_below_drewN | apply below_drew1 | refine below_set ?_ GE408.out | refine below_set ?_ GE409.out | refine below_set ?_ GE417.out) | exact HB.out))
  (case side2 => exact Kd.C_kept_call HR0_0.out (ZHK HK) (fun k_ hs_ => (fun e_ => (HO412.out.1 k_ e_.symm).1) hs_))
  (case side3 => exact HC0_0.out)
  (case side4 => exact Kd.C_kept_call HR0_1.out (ZHK HK) (fun k_ hs_ => (fun e_ => (HO412.out.1 k_ e_.symm).1) hs_))
  (case side5 => exact HC0_1.out)
  (case side6 => exact Kd.C_kept_call (fun W_ k_ => by have hw_ := Kd.kept_slot HR1.out (by have := (of_eq_true p418); have := (of_eq_true q418); omega) (by decide) (Kept.refl _ _) hy418_6 (add_block _ _) k_; obtain ⟨ad_, A6_, c6_, A7_, c7_, e_, m0_, m1_, m2_, m3_, m4_, m5_, m6_, m7_, y6_, z6_, y7_, z7_⟩ := at_T50 (HR1.out W_ k_) (x9_1) (by first | exact of_eq_true p418 | exact p418) (by first | exact of_eq_true q418 | exact q418); cases e_; rw [hw_] at m6_; cases m6_; exact z6_) (ZHK HK) (fun k_ hs_ => (fun e_ => (HO412.out.1 k_ e_.symm).1) hs_))
  (case side7 => exact HC418_6.out)
  (case side8 => exact Kd.R_tight rfl HO412.out)
  rintro e w27 ⟨v420, rfl, ho0, hb, hkp⟩
  refine ⟨_, rfl, ?_⟩
  have n0_ := AM (blk_kept (ZK BK408.out) hkp (fun hs_ => (fun e_ => (Kd.R_ne HO412.out BK408.out (by decide)) e_) hs_))
  have n1_ := AM (blk_kept (ZK BK409.out) hkp (fun hs_ => (fun e_ => (Kd.R_away HO412.out (fun _ hk => hk.2.1)) e_) hs_))
  have n2_ := AM (blk_kept (ZK BK417.out) hkp (fun hs_ => (fun e_ => (Kd.R_away HO412.out (fun _ hk => hk.2.2)) e_) hs_))
  have n3_ := AM (Kd.R_mono (ok' := fun k_ => (P3_ k_ ∨ w.heap.size ≤ k_) ∧ k_ ≠ gb409 ∧ k_ ≠ gb417) ho0 (fun k_ hk_ => ⟨Or.elim hk_ (fun hs_ => (HO412.out.1 k_ (hs_).symm).1) (fun hn_ => (.inr (Nat.le_trans (by first | exact HK.out.1 | exact (show Kept w _ (fun k_ => P3_ k_) from ZHK HK).1) hn_))), Or.elim hk_ (fun hs_ => fun e_ => (Kd.R_away HO412.out (fun _ hk => hk.2.1)) (by rw [← e_]; exact hs_)) (fun hn_ => (Kd.freshB (g := gb409) (o := .cells #[.int .i64 a2_0, .int .i64 a2_1] 60 (0, 0)) (ZK BK409.out) k_ hn_)), Or.elim hk_ (fun hs_ => fun e_ => (Kd.R_away HO412.out (fun _ hk => hk.2.2)) (by rw [← e_]; exact hs_)) (fun hn_ => (Kd.freshB (g := gb417) (o := .cells #[.int .i64 t415, .int .i64 t416] 60 (0, 0)) (ZK BK417.out) k_ hn_))⟩))
  have n4_ := AM (Kept.then_ (S := (fun k_ => P3_ k_)) (ZHK HK) hkp (fun k_ hs_ => (fun e_ => (HO412.out.1 k_ e_.symm).1) hs_))
  have n5_ := AM (hb)
  clear BK408 BK409 BK417 HK HB HO412
  have BK408 := n0_
  have BK409 := n1_
  have BK417 := n2_
  have HO421 := n3_
  have HK := n4_
  have HB := n5_
  clear n0_ n1_ n2_ n3_ n4_ n5_
  (try clear hb)
  (try clear hkp)
  (try clear ho0)
  refine hK.out _ _ ⟨ZA BK408 0, ZA BK408 1, ZA BK417 0, ZA BK417 1, (ZKS HR1 p418 q418 hy418_0 (ZHK HK)), (ZKS HR1 p418 q418 hy418_1 (ZHK HK)), (ZKS HR1 p418 q418 hy418_2 (ZHK HK)), (ZKS HR1 p418 q418 hy418_3 (ZHK HK)), (ZKS HR1 p418 q418 hy418_4 (ZHK HK)), (ZKS HR1 p418 q418 hy418_5 (ZHK HK)), (ZKS HR1 p418 q418 hy418_6 (ZHK HK)), (ZKS HR1 p418 q418 hy418_7 (ZHK HK))⟩ (fun hHeld => ?_)
  clear hK K
  refine ZNO 40 ?_
  refine ZU 9 3 #[T,T,T,T,T,T,T,T,T,T] ?_
  refine done_ (done_of HT_.out (by kernel_rfl)) ?_
  try go_wp2
  replace HO421 := AM (Kd.R_drew HO421.out)
  replace BK408 := AM (blk_drew BK408.out)
  replace BK409 := AM (blk_drew BK409.out)
  replace BK417 := AM (blk_drew BK417.out)
  replace HK := AM (Kept.drew HK.out)
  replace HB := AM (below_drew1 HB.out)
  have p422 : 0 ≤ (x9_1 : Int) := ZD
  have q422 : x9_1 < (l1.length : Int) := ZD
  obtain ⟨ad422, A422_6, c422_6, A422_7, c422_7, e422, hx422_0, hx422_1, hx422_2, hx422_3, hx422_4, hx422_5, hx422_6, hx422_7, hl422_6, hi422_6, hl422_7, hi422_7⟩ := at_T50 (Kd.C_kept_now HR1.out HK.out) x9_1 p422 q422
  have hw422_7 := hx422_7
  have hw422_6 := hx422_6
  have hw422_5 := hx422_5
  have hw422_4 := hx422_4
  have hw422_3 := hx422_3
  have hw422_2 := hx422_2
  have hw422_1 := hx422_1
  have hw422_0 := hx422_0
  obtain rfl : ad413 = ad422 := (by injection e422)
  have hy422_0 := Kd.kept_slot HR1.out (by omega) (by decide) (ZHK HK) hx422_0 (add_block _ _) (Kept.refl _ _)
  have hy422_1 := Kd.kept_slot HR1.out (by omega) (by decide) (ZHK HK) hx422_1 (add_block _ _) (Kept.refl _ _)
  have hy422_2 := Kd.kept_slot HR1.out (by omega) (by decide) (ZHK HK) hx422_2 (add_block _ _) (Kept.refl _ _)
  have hy422_3 := Kd.kept_slot HR1.out (by omega) (by decide) (ZHK HK) hx422_3 (add_block _ _) (Kept.refl _ _)
  have hy422_4 := Kd.kept_slot HR1.out (by omega) (by decide) (ZHK HK) hx422_4 (add_block _ _) (Kept.refl _ _)
  have hy422_5 := Kd.kept_slot HR1.out (by omega) (by decide) (ZHK HK) hx422_5 (add_block _ _) (Kept.refl _ _)
  have hy422_6 := Kd.kept_slot HR1.out (by omega) (by decide) (ZHK HK) hx422_6 (add_block _ _) (Kept.refl _ _)
  have hy422_7 := Kd.kept_slot HR1.out (by omega) (by decide) (ZHK HK) hx422_7 (add_block _ _) (Kept.refl _ _)
  have HR422_6 := AM hi422_6
  have HC422_6 := AM hl422_6
  clear hi422_6 hl422_6
  have HR422_7 := AM hi422_7
  have HC422_7 := AM hl422_7
  clear hi422_7 hl422_7
  replace p422 := eq_true p422
  replace q422 := eq_true q422
  obtain ⟨Ao29, co29, eo29⟩ := Kd.R_slice HO421.out
  (first | subst eo29 | (injection eo29 with f1_ f2_ f3_; have f4_ := f1_.symm; have f5_ := f3_.symm; clear f1_ f2_ f3_; subst f4_; subst f5_))
  refine start_ (n := 10) (S := fun w' => w'.cell? ⟨gb408, 0, none⟩ = some (.slice (some ad414) l0_0.length c0_0) ∧ w'.cell? ⟨gb408, 1, none⟩ = some (.slice A0_1 l0_1.length c0_1) ∧ w'.cell? ⟨gb417, 0, none⟩ = some (.int .i64 t415) ∧ w'.cell? ⟨gb417, 1, none⟩ = some (.int .i64 t416) ∧ w'.cell? (ad413.add ((x9_1).toNat * 8)) = some (.int .i64 ((rd_T50 l1 x9_1).f0)) ∧ w'.cell? ⟨(ad413.add ((x9_1).toNat * 8)).block, (ad413.add ((x9_1).toNat * 8)).off + 1, none⟩ = some (.int .i64 ((rd_T50 l1 x9_1).f1)) ∧ w'.cell? ⟨(ad413.add ((x9_1).toNat * 8)).block, (ad413.add ((x9_1).toNat * 8)).off + 2, none⟩ = some (.int .i64 ((rd_T50 l1 x9_1).f2.f0)) ∧ w'.cell? ⟨(ad413.add ((x9_1).toNat * 8)).block, (ad413.add ((x9_1).toNat * 8)).off + 3, none⟩ = some (.int .i64 ((rd_T50 l1 x9_1).f2.f1)) ∧ w'.cell? ⟨(ad413.add ((x9_1).toNat * 8)).block, (ad413.add ((x9_1).toNat * 8)).off + 4, none⟩ = some (.int .i64 ((rd_T50 l1 x9_1).f2.f2)) ∧ w'.cell? ⟨(ad413.add ((x9_1).toNat * 8)).block, (ad413.add ((x9_1).toNat * 8)).off + 5, none⟩ = some (.int .i64 ((rd_T50 l1 x9_1).f3)) ∧ w'.cell? ⟨(ad413.add ((x9_1).toNat * 8)).block, (ad413.add ((x9_1).toNat * 8)).off + 6, none⟩ = some (.slice A422_6 ((rd_T50 l1 x9_1).f4).length c422_6) ∧ w'.cell? ⟨(ad413.add ((x9_1).toNat * 8)).block, (ad413.add ((x9_1).toNat * 8)).off + 7, none⟩ = some (.slice A422_7 ((rd_T50 l1 x9_1).f5).length c422_7)) (ds := []) #[F,F,F,F,F,F,F,F,F,F] (by kernel_rfl) rfl rfl ⟨ZA BK408 0, ZA BK408 1, ZA BK417 0, ZA BK417 1, (ZKS HR1 p422 q422 hy422_0 (ZHK HK)), (ZKS HR1 p422 q422 hy422_1 (ZHK HK)), (ZKS HR1 p422 q422 hy422_2 (ZHK HK)), (ZKS HR1 p422 q422 hy422_3 (ZHK HK)), (ZKS HR1 p422 q422 hy422_4 (ZHK HK)), (ZKS HR1 p422 q422 hy422_5 (ZHK HK)), (ZKS HR1 p422 q422 hy422_6 (ZHK HK)), (ZKS HR1 p422 q422 hy422_7 (ZHK HK))⟩ (fun hHeld => ?_); refine with_tabW spec_l11At.tab7 spec_l11At.bits7 (fun HT_ HW_ => ?_)
  generalize w27.drew = w28 at HO421 BK408 BK409 BK417 HK HB HR422_6 HR422_7 hx422_0 hx422_1 hx422_2 hx422_3 hx422_4 hx422_5 hx422_6 hx422_7 hHeld ⊢
  refine ZU 1 42 #[F,T,F,F,F,F,F,F,F,F] ?_
  refine ZU 2 43 #[F,T,T,F,F,F,F,F,F,F] ?_
  refine ZU 3 44 #[F,T,T,T,F,F,F,F,F,F] ?_
  refine ZU 4 45 #[F,T,T,T,T,F,F,F,F,F] ?_
  refine ZU 7 48 #[F,T,T,T,T,F,F,T,F,F] ?_
  refine ZTK 0 41 #[T,T,T,T,T,F,F,T,F,F] hHeld ?_
  refine ZTK 5 46 #[T,T,T,T,T,T,F,T,F,F] hHeld ?_
  refine ZTK 6 47 #[T,T,T,T,T,T,T,T,F,F] hHeld ?_
  refine one_ (i := 8) (N := some 49) #[T,T,T,T,T,T,T,T,T,F] rfl rfl (one_of HT_.out (by kernel_rfl)) (by decide) (fun K hK => ?_)
  refine ZGO Try.func45 #[.agg #[.slice (some ad414) l0_0.length c0_0, .slice A0_1 l0_1.length c0_1], .slice A422_7 ((rd_T50 l1 x9_1).f5).length c422_7, .agg #[.int .i64 t415, .int .i64 t416], .slice Ao29 t419.length co29] ?_
  with_reducible refine (ih k1 (by have := HK1.out; omega) _ _ l0_0 _ _ l0_1 _ _ ((rd_T50 l1 x9_1).f5) t415 t416 (fun k_ => some k_ = (.slice Ao29 t419.length co29 : Value).ownBlock) (.slice Ao29 t419.length co29) t419 t423 w0 _ ?side1 ?side2 ?side3 ?side4 ?side5 ?side6 ?side7 ?side8 A14.out).mono ?_
  (case side1 => repeat (first | (with_reducible first | exact HB.out | apply below_alloc | apply pw_below_drewN | apply below_drew1 | refine below_set ?_ GE408.out | refine below_set ?_ GE409.out | refine below_set ?_ GE417.out) | exact HB.out))
  (case side2 => exact Kd.C_kept_call HR0_0.out (ZHK HK) (fun k_ hs_ => (fun e_ => (HO421.out.1 k_ e_.symm).1) hs_))
  (case side3 => exact HC0_0.out)
  (case side4 => exact Kd.C_kept_call HR0_1.out (ZHK HK) (fun k_ hs_ => (fun e_ => (HO421.out.1 k_ e_.symm).1) hs_))
  (case side5 => exact HC0_1.out)
  (case side6 => exact Kd.C_kept_call (fun W_ k_ => by have hw_ := Kd.kept_slot HR1.out (by have := (of_eq_true p422); have := (of_eq_true q422); omega) (by decide) (Kept.refl _ _) hy422_7 (add_block _ _) k_; obtain ⟨ad_, A6_, c6_, A7_, c7_, e_, m0_, m1_, m2_, m3_, m4_, m5_, m6_, m7_, y6_, z6_, y7_, z7_⟩ := at_T50 (HR1.out W_ k_) (x9_1) (by first | exact of_eq_true p422 | exact p422) (by first | exact of_eq_true q422 | exact q422); cases e_; rw [hw_] at m7_; cases m7_; exact z7_) (ZHK HK) (fun k_ hs_ => (fun e_ => (HO421.out.1 k_ e_.symm).1) hs_))
  (case side7 => exact HC422_7.out)
  (case side8 => exact Kd.R_tight rfl HO421.out)
  rintro e w30 ⟨v424, rfl, ho0, hb, hkp⟩
  refine ⟨_, rfl, ?_⟩
  have n0_ := AM (blk_kept (ZK BK408.out) hkp (fun hs_ => (fun e_ => (Kd.R_ne HO421.out BK408.out (by decide)) e_) hs_))
  have n1_ := AM (blk_kept (ZK BK409.out) hkp (fun hs_ => (fun e_ => (Kd.R_away HO421.out (fun _ hk => hk.2.1)) e_) hs_))
  have n2_ := AM (blk_kept (ZK BK417.out) hkp (fun hs_ => (fun e_ => (Kd.R_away HO421.out (fun _ hk => hk.2.2)) e_) hs_))
  have n3_ := AM (Kd.R_mono (ok' := fun k_ => (P3_ k_ ∨ w.heap.size ≤ k_) ∧ k_ ≠ gb409 ∧ k_ ≠ gb417) ho0 (fun k_ hk_ => ⟨Or.elim hk_ (fun hs_ => (HO421.out.1 k_ (hs_).symm).1) (fun hn_ => (.inr (Nat.le_trans (by first | exact HK.out.1 | exact (show Kept w _ (fun k_ => P3_ k_) from ZHK HK).1) hn_))), Or.elim hk_ (fun hs_ => fun e_ => (Kd.R_away HO421.out (fun _ hk => hk.2.1)) (by rw [← e_]; exact hs_)) (fun hn_ => (Kd.freshB (g := gb409) (o := .cells #[.int .i64 a2_0, .int .i64 a2_1] 60 (0, 0)) (ZK BK409.out) k_ hn_)), Or.elim hk_ (fun hs_ => fun e_ => (Kd.R_away HO421.out (fun _ hk => hk.2.2)) (by rw [← e_]; exact hs_)) (fun hn_ => (Kd.freshB (g := gb417) (o := .cells #[.int .i64 t415, .int .i64 t416] 60 (0, 0)) (ZK BK417.out) k_ hn_))⟩))
  have n4_ := AM (Kept.then_ (S := (fun k_ => P3_ k_)) (ZHK HK) hkp (fun k_ hs_ => (fun e_ => (HO421.out.1 k_ e_.symm).1) hs_))
  have n5_ := AM (hb)
  clear BK408 BK409 BK417 HK HB HO421
  have BK408 := n0_
  have BK409 := n1_
  have BK417 := n2_
  have HO425 := n3_
  have HK := n4_
  have HB := n5_
  clear n0_ n1_ n2_ n3_ n4_ n5_
  (try clear hb)
  (try clear hkp)
  (try clear ho0)
  refine hK.out _ _ ⟨ZA BK408 0, ZA BK408 1, ZA BK417 0, ZA BK417 1, (ZKS HR1 p422 q422 hy422_0 (ZHK HK)), (ZKS HR1 p422 q422 hy422_1 (ZHK HK)), (ZKS HR1 p422 q422 hy422_2 (ZHK HK)), (ZKS HR1 p422 q422 hy422_3 (ZHK HK)), (ZKS HR1 p422 q422 hy422_4 (ZHK HK)), (ZKS HR1 p422 q422 hy422_5 (ZHK HK)), (ZKS HR1 p422 q422 hy422_6 (ZHK HK)), (ZKS HR1 p422 q422 hy422_7 (ZHK HK))⟩ (fun hHeld => ?_)
  clear hK K
  refine ZNO 49 ?_
  refine ZU 9 3 #[T,T,T,T,T,T,T,T,T,T] ?_
  refine done_ (done_of HT_.out (by kernel_rfl)) ?_
  try go_wp2
  go_roundg k1
  case measure => have := HK1.out; omega
  case rel => exact ⟨(t423), (wrap64 (x9_1 + 1)), (by first | rfl | (simp; done) | (simp [*]; done)), H', ⟨by have := HK1.out; omega⟩, ⟨by (with_reducible repeat (first | apply Kd.R_alloc | apply Kd.R_drewN | apply Kd.R_drew)); exact Kd.R_mono HO425.out (fun _ hk => ⟨hk.1, hk.2.1⟩)⟩, ⟨ZK BK408.out⟩, ⟨ZK BK409.out⟩, ⟨ZHK HK⟩, ⟨ZB⟩⟩)
  ·(
  rw [if_neg c11] at H
  exact absurd H (by simp)))
  ·(
  rw [if_neg c10] at H
  exact absurd H (by simp)))
  ·(
  rw [if_neg c9] at H
  exact absurd H (by simp)))
  ·(
  rw [if_neg c8] at H
  exact absurd H (by simp)))
  ·(
  rw [if_neg c7] at H
  have c7b0 := decide_eq_false c7
  clear c7
  obtain rfl := Option.some.inj H
  go_wp2
  go_ret
  exact ⟨_, ZE, by (with_reducible repeat (first | apply Kd.R_alloc | apply Kd.R_drewN | apply Kd.R_drew)); exact Kd.R_mono HO_3.out (fun _ hk => hk.1), ZB, ZHK HK⟩))

end Go.Proofs.Ytaflodibibbakaa.A
