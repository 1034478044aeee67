/- Go functions as Lean functions, and for each its contract; written by wip/tools/pr.py over the kit's print. -/
import Derived.Test.YtaflodibibbakaaAx0
import Derived.Test.YtaflodibibbakaaAx21
namespace Go.Proofs.Ytaflodibibbakaa.A
open Go.RowKit Go.Proofs.YtaflodibibbakaaW.PrintWords Go.Proofs.YtaflodibibbakaaW.PrintLast Go.Proofs.YtaflodibibbakaaW.PrintMore
attribute [local go_sem] max2_int min2_int max_two min_two max_three min_three max_four min_four
set_option linter.unusedVariables false
set_option linter.unusedSimpArgs false
set_option maxHeartbeats 8000000
set_option maxRecDepth 100000

/-! ### impl_Prog_labels: function 74 -/
mutual
def impl_Prog_labels.l0 : Nat → List (S60) → List (S50) → Int → Int → List (S60) → List (S50) → Int → Int → Option ((List (S60)))
 | 0, _, _, _, _, _, _, _, _ => none
 | k + 1, x3, x12, x13, x14, x446000, x446001, x447000, x447001 => if x14 < x13 then (if 0 ≤ x14 then (if x14 < (x12.length : Int) then (if x3.length < 8796093022208 then (if 0 ≤ ((rd_T50 x12 x14).f1) then (if ((rd_T50 x12 x14).f1) < (x446000.length : Int) then ((impl_Label_both.f x447000 x447001 ((rd_T60 x446000 ((rd_T50 x12 x14).f1)).f0) ((rd_T60 x446000 ((rd_T50 x12 x14).f1)).f1)).bind fun bt453 => ((impl_Prog_labels.f k x446000 x446001 ((rd_T50 x12 x14).f4) bt453.1 bt453.2 (x3 ++ [(⟨x447000, x447001⟩ : S60)])).bind fun t456 => ((impl_Prog_labels.f k x446000 x446001 ((rd_T50 x12 x14).f5) bt453.1 bt453.2 t456).bind fun t459 => (impl_Prog_labels.l0 k t459 x12 x13 (wrap64 (x14 + 1)) x446000 x446001 x447000 x447001)))) else (none)) else (none)) else (none)) else (none)) else (none)) else (some x3)
def impl_Prog_labels.f : Nat → List (S60) → List (S50) → List (S50) → Int → Int → List (S60) → Option ((List (S60)))
 | 0, _, _, _, _, _, _ => none
 | k + 1, l0_0, l0_1, l1, a2_0, a2_1, l3 => impl_Prog_labels.l0 k l3 l1 (l1.length : Int) 0 l0_0 l0_1 a2_0 a2_1
end
def impl_Prog_labels.T5 : Bool × List (List Nat × List Nat) := (true, [([], []), ([], []), ([1], [1]), ([], []), ([3], [3]), ([2, 4], [2, 4]), ([5], [5]), ([0, 6], [0, 6]), ([], []), ([8, 7, 7, 0, 1, 2, 3, 4, 5, 6, 7, 8], [7, 8])])
def impl_Prog_labels.B5 : List Nat := [0, 0, 2, 0, 8, 30, 62, 127, 0, 511]
theorem impl_Prog_labels.tab5 : rtab .any (opsOf Try.f74 5) = impl_Prog_labels.T5 := by kernel_rfl
theorem impl_Prog_labels.bits5 : waitsOk impl_Prog_labels.T5.2 impl_Prog_labels.B5 = true := by kernel_rfl
theorem impl_Prog_labels.calls (k : Nat) : ∀ (A0_0 : Option Addr) (c0_0 : Nat) (l0_0 : List (S60)) (A0_1 : Option Addr) (c0_1 : Nat) (l0_1 : List (S50)) (A1 : Option Addr) (c1 : Nat) (l1 : List (S50)) (a2_0 : Int) (a2_1 : Int) (P3_ : Nat → Prop) (u9000_ : Value) (l3 : List (S60)) (r : List (S60)) (w0 w : World) (hB : Below w0.heap.size w0 w) (hr0_0 : ∀ W_, Kept w W_ (fun k_ => P3_ k_) → Kd.C k60 W_ A0_0 l0_0.length l0_0) (hc0_0 : l0_0.length ≤ c0_0) (hr0_1 : ∀ W_, Kept w W_ (fun k_ => P3_ k_) → Kd.C k50 W_ A0_1 l0_1.length l0_1) (hc0_1 : l0_1.length ≤ c0_1) (hr1 : ∀ W_, Kept w W_ (fun k_ => P3_ k_) → Kd.C k50 W_ A1 l1.length l1) (hc1 : l1.length ≤ c1) (ho3 : Kd.R k60 60 w w0.heap.size P3_ u9000_ l3) (h : impl_Prog_labels.f k l0_0 l0_1 l1 a2_0 a2_1 l3 = some r),
  Calls Try.prog 74 #[.agg #[.slice A0_0 l0_0.length c0_0, .slice A0_1 l0_1.length c0_1], .slice A1 l1.length c1, .agg #[.int .i64 a2_0, .int .i64 a2_1], u9000_] w fun e w' => ∃ v0_ : Value, e = .returned (v0_) ∧ Kd.R k60 60 w' w0.heap.size (fun k_ => (P3_ k_ ∨ w.heap.size ≤ k_)) v0_ r ∧ Below w0.heap.size w0 w' ∧ Kept w w' (fun k_ => P3_ k_) := by
 induction k using Nat.strongRecOn with
 | _ k ih =>
 intro A0_0 c0_0 l0_0 A0_1 c0_1 l0_1 A1 c1 l1 a2_0 a2_1 P3_ u9000_ l3 r w0 w hB hr0_0 hc0_0 hr0_1 hc0_1 hr1 hc1 ho3 h
 cases k with
 | zero => exact absurd h (by simp [impl_Prog_labels.f])
 | succ k =>
 simp only [impl_Prog_labels.f] at h
 have hu32 := Try.underlying32
 have hu60 := Try.underlying60
 have hu50 := Try.underlying50
 have HR0_0 := AM hr0_0
 have HC0_0 := AM hc0_0
 clear hr0_0 hc0_0
 have HR0_1 := AM hr0_1
 have HC0_1 := AM hc0_1
 clear hr0_1 hc0_1
 have HR1 := AM hr1
 have HC1 := AM hc1
 clear hr1 hc1
 have HO3 := AM (show Kd.R k60 60 w w0.heap.size (fun k_ => (P3_ k_ ∨ w.heap.size ≤ k_)) u9000_ l3 from Kd.R_mono ho3 (fun k_ hk => (.inl hk)))
 have HK := AM (Kept.refl w (fun k_ => P3_ k_))
 have HW0 := AM hB.size
 have HB := AM hB
 clear hB
 have H : (impl_Prog_labels.l0 k l3 l1 (l1.length : Int) 0 l0_0 l0_1 a2_0 a2_1) = some r := h
 clear h
 have H' := AM H
 clear H
 go_enter Try.func74, Try.ntmps74
 go_wp2_with (first | ((with_reducible refine gate_dst (N := 4) rfl ?_); refine ZX (N := 4) (cs := #[.slice A0_0 l0_0.length c0_0, .slice A0_1 l0_1.length c0_1]) (t := 32) ?_; intro gb445 hg w5 hbox hb; have BK445 := AM (hbox); have GW445 := AM ((by rw [hg]; exact (by first | exact HK.out.1 | exact (show Kept w _ (fun k_ => P3_ k_) from ZHK HK).1) : w.heap.size ≤ gb445)); have GE445 : Aside0 (w0.heap.size ≤ gb445) := ZS hg; replace HO3 := AM (Kd.R_below (ZR HO3.out) hb); replace HK := AM (Kept.below (S := (fun k_ => P3_ k_)) (ZHK HK) hb); replace HB := ZT HB hb; clear hb hbox hg) | ((with_reducible refine gate_dst (N := 6) rfl ?_); refine ZX (N := 6) (cs := #[.int .i64 a2_0, .int .i64 a2_1]) (t := 60) ?_; intro gb446 hg w6 hbox hb; have BK446 := AM (hbox); have GW446 := AM ((by rw [hg]; exact (by first | exact HK.out.1 | exact (show Kept w _ (fun k_ => P3_ k_) from ZHK HK).1) : w.heap.size ≤ gb446)); have GE446 : Aside0 (w0.heap.size ≤ gb446) := ZS hg; have NB445_446 : Aside0 (gb445 ≠ gb446) := ZN hg BK445; have NB446_445 : Aside0 (gb446 ≠ gb445) := ZM hg BK445; replace HO3 := AM (Kd.R_below (Kd.R_elderB (ZR HO3.out) gb446 (Nat.le_of_eq hg.symm)) hb); replace BK445 := ZW BK445 hb; replace HK := AM (Kept.below (S := (fun k_ => P3_ k_)) (ZHK HK) hb); replace HB := ZT HB hb; clear hb hbox hg))
 go_loopg [3, 14] k (fun kq v3 v14 w' => ∃ (x3_1 : List (S60)) (x14_1 : Int), v14 = .int .i64 x14_1 ∧ Aside0 (impl_Prog_labels.l0 kq x3_1 l1 (l1.length : Int) x14_1 l0_0 l0_1 a2_0 a2_1 = some r) ∧ Aside0 (kq ≤ k) ∧ Aside0 (Kd.R k60 60 w' w0.heap.size (fun k_ => (P3_ k_ ∨ w.heap.size ≤ k_) ∧ k_ ≠ gb446) v3 x3_1) ∧ Aside0 (w'.heap[gb445]? = some (.cells #[(.slice A0_0 l0_0.length c0_0), (.slice A0_1 l0_1.length c0_1)] 32 (0, 0))) ∧ Aside0 (w'.heap[gb446]? = some (.cells #[.int .i64 a2_0, .int .i64 a2_1] 60 (0, 0))) ∧ Aside0 (Kept w w' (fun k_ => P3_ k_)) ∧ Aside0 (Below w0.heap.size w0 w'))
 case atStart => exact ⟨(l3), (0), (by first | rfl | (simp; done) | (simp [*]; done)), H', ⟨Nat.le_refl _⟩, ⟨ZR HO3.out⟩, ⟨ZK BK445.out⟩, ⟨ZK BK446.out⟩, ⟨ZHK HK⟩, ⟨ZB⟩⟩
 case round => (
 clear H'
 try clear c1
 try clear p2
 obtain ⟨x3_1, x14_1, rfl, HA, HK1, HO_3, BK445, BK446, HK, HB⟩ := hrel
 cases gk with
 | zero => exact absurd HA.out (by simp [impl_Prog_labels.l0])
 | succ k1 =>
  have H := HA.out
  clear HA
  simp only [impl_Prog_labels.l0] at H
  by_cases c7 : x14_1 < (l1.length : Int)
  ·(
  rw [if_pos c7] at H
  have c7b0 := decide_eq_true c7
  clear c7
  by_cases c8 : 0 ≤ x14_1
  ·(
  rw [if_pos c8] at H
  have c8b0 := decide_eq_true c8
  clear c8
  by_cases c9 : x14_1 < (l1.length : Int)
  ·(
  rw [if_pos c9] at H
  have c9b0 := decide_eq_true c9
  clear c9
  by_cases c10 : x3_1.length < 8796093022208
  ·(
  rw [if_pos c10] at H
  have LMc10 := AM c10
  clear c10
  obtain ⟨y449, hy449⟩ : ∃ y_ : List (S60), y_ = (x3_1 ++ [(⟨a2_0, a2_1⟩ : S60)]) := ⟨_, rfl⟩
  replace H : (if 0 ≤ ((rd_T50 l1 x14_1).f1) then (if ((rd_T50 l1 x14_1).f1) < (l0_0.length : Int) then ((impl_Label_both.f a2_0 a2_1 ((rd_T60 l0_0 ((rd_T50 l1 x14_1).f1)).f0) ((rd_T60 l0_0 ((rd_T50 l1 x14_1).f1)).f1)).bind fun bt453 => ((impl_Prog_labels.f k1 l0_0 l0_1 ((rd_T50 l1 x14_1).f4) bt453.1 bt453.2 y449).bind fun t456 => ((impl_Prog_labels.f k1 l0_0 l0_1 ((rd_T50 l1 x14_1).f5) bt453.1 bt453.2 t456).bind fun t459 => (impl_Prog_labels.l0 k1 t459 l1 (l1.length : Int) (wrap64 (x14_1 + 1)) l0_0 l0_1 a2_0 a2_1)))) else (none)) else (none)) = some r := by first | (rw [hy449]; with_reducible exact H) | (have H2_ := (Option.bind_some _ _).symm.trans H; rw [hy449]; with_reducible exact H2_) | (have H2_ := (Option.bind_some _ _).symm.trans H; with_reducible exact H2_) | with_reducible exact H | (rw [hy449]; exact H) | exact H
  have Ny449 := AM hy449
  clear hy449
  by_cases c11 : 0 ≤ ((rd_T50 l1 x14_1).f1)
  ·(
  rw [if_pos c11] at H
  have c11b0 := decide_eq_true c11
  clear c11
  by_cases c12 : ((rd_T50 l1 x14_1).f1) < (l0_0.length : Int)
  ·(
  rw [if_pos c12] at H
  have c12b0 := decide_eq_true c12
  clear c12
  obtain ⟨⟨t453, t454⟩, A13, H⟩ := ZOB H; try dsimp only at H
  obtain ⟨t456, A14, H⟩ := ZOB H; try dsimp only at H
  obtain ⟨t459, A15, H⟩ := ZOB H; try dsimp only at H
  have H' := AM H
  clear H
  have p447 : 0 ≤ (x14_1 : Int) := ZD
  have q447 : x14_1 < (l1.length : Int) := ZD
  obtain ⟨ad447, A447_6, c447_6, A447_7, c447_7, e447, hx447_0, hx447_1, hx447_2, hx447_3, hx447_4, hx447_5, hx447_6, hx447_7, hl447_6, hi447_6, hl447_7, hi447_7⟩ := at_T50 (Kd.C_kept_now HR1.out HK.out) x14_1 p447 q447
  cases e447
  have hy447_0 := Kd.kept_slot HR1.out (by omega) (by decide) (ZHK HK) hx447_0 (add_block _ _) (Kept.refl _ _)
  have hy447_1 := Kd.kept_slot HR1.out (by omega) (by decide) (ZHK HK) hx447_1 (add_block _ _) (Kept.refl _ _)
  have hy447_2 := Kd.kept_slot HR1.out (by omega) (by decide) (ZHK HK) hx447_2 (add_block _ _) (Kept.refl _ _)
  have hy447_3 := Kd.kept_slot HR1.out (by omega) (by decide) (ZHK HK) hx447_3 (add_block _ _) (Kept.refl _ _)
  have hy447_4 := Kd.kept_slot HR1.out (by omega) (by decide) (ZHK HK) hx447_4 (add_block _ _) (Kept.refl _ _)
  have hy447_5 := Kd.kept_slot HR1.out (by omega) (by decide) (ZHK HK) hx447_5 (add_block _ _) (Kept.refl _ _)
  have hy447_6 := Kd.kept_slot HR1.out (by omega) (by decide) (ZHK HK) hx447_6 (add_block _ _) (Kept.refl _ _)
  have hy447_7 := Kd.kept_slot HR1.out (by omega) (by decide) (ZHK HK) hx447_7 (add_block _ _) (Kept.refl _ _)
  have HR447_6 := AM hi447_6
  have HC447_6 := AM hl447_6
  clear hi447_6 hl447_6
  have HR447_7 := AM hi447_7
  have HC447_7 := AM hl447_7
  clear hi447_7 hl447_7
  replace p447 := eq_true p447
  replace q447 := eq_true q447
  try go_wp2_with (first | ((with_reducible refine gate_dst (N := 10) rfl ?_); refine ZX (N := 10) (cs := #[.int .i64 0, .int .i64 0, .int .i64 0, .int .i64 0, .int .i64 0, .int .i64 0, .slice none 0 0, .slice none 0 0]) (t := 50) ?_; intro gb448 hg w16 hbox hb; have BK448 := AM (hbox); have GW448 := AM ((by rw [hg]; exact (by first | exact HK.out.1 | exact (show Kept w _ (fun k_ => P3_ k_) from ZHK HK).1) : w.heap.size ≤ gb448)); have GE448 : Aside0 (w0.heap.size ≤ gb448) := ZS hg; have NB445_448 : Aside0 (gb445 ≠ gb448) := ZN hg BK445; have NB448_445 : Aside0 (gb448 ≠ gb445) := ZM hg BK445; have NB446_448 : Aside0 (gb446 ≠ gb448) := ZN hg BK446; have NB448_446 : Aside0 (gb448 ≠ gb446) := ZM hg BK446; replace HO_3 := AM (Kd.R_below (ZR HO_3.out) hb); replace BK445 := ZW BK445 hb; replace BK446 := ZW BK446 hb; replace HR447_6 := AM (Kd.C_below (ZQ HR447_6.out) hb); replace HR447_7 := AM (Kd.C_below (ZQ HR447_7.out) hb); replace HK := AM (Kept.below (S := (fun k_ => P3_ k_)) (ZHK HK) hb); replace HB := ZT HB hb; clear hb hbox hg; have hnb17 := NB448_445.out; have hnc17 := NB445_448.out; have hnb18 := NB448_446.out; have hnc18 := NB446_448.out; have hcz19 := ZC8 w16 BK448; have hfz19 := ZF8 BK448; have hnb20 := NB446_445.out; have hnc20 := NB445_446.out; have hcz21 := ZC2 w16 BK446; have hfz21 := ZF2 BK446) | ((with_reducible refine gate_builtin (b := .append) (xs := #[.tmp 18, .tmp 20]) rfl ?_); at_builtin; refine Kd.R_append k60 (w0 := w0) w0.heap.size rfl (.tmp 18) (.tmp 20) 29 60 (.agg #[(.int .i64 0), (.int .i64 0)]) 16 rfl Try.underlying29 info60 rfl (by decide) (by omega) u3 x3_1 (⟨a2_0, a2_1⟩ : S60) [.int .i64 a2_0, .int .i64 a2_1] (fun k_ => (P3_ k_ ∨ w.heap.size ≤ k_) ∧ k_ ≠ gb446) (fun _ => False) rfl (by first | (go_simp; done) | (go_simp; rfl)) ?aP (fun _ hk => hk.elim) ?aF ?aO ?aB ?aS ?aL ?_; (case aP => exact k60_mkM _ _ _ (⟨a2_0, a2_1⟩ : S60)); (case aB => exact (ZB)); (case aF => exact (fun k_ hk => ⟨(.inr (Nat.le_trans (show Kept w _ (fun k_ => P3_ k_) from ZHK HK).1 hk)), Kd.freshB (g := gb446) (o := .cells #[.int .i64 a2_0, .int .i64 a2_1] 60 (0, 0)) (ZZ BK446.out) k_ hk⟩)); (case aO => exact (by (with_reducible repeat (first | apply Kd.R_alloc | apply Kd.R_drewN | apply Kd.R_drew)); exact Kd.R_mono (Kd.R_far (p := ⟨gb448, 7, none⟩) (Kd.R_far (p := ⟨gb448, 6, none⟩) (Kd.R_far (p := ⟨gb448, 5, none⟩) (Kd.R_far (p := ⟨gb448, 4, none⟩) (Kd.R_far (p := ⟨gb448, 3, none⟩) (Kd.R_far (p := ⟨gb448, 2, none⟩) (Kd.R_far (p := ⟨gb448, 1, none⟩) (Kd.R_far (p := ⟨gb448, 0, none⟩) (Kd.R_types HO_3.out BK448.out (by decide)) (fun _ hk => hk.2) (.int .i64 ((rd_T50 l1 x14_1).f0))) (fun _ hk => hk.2) (.int .i64 ((rd_T50 l1 x14_1).f1))) (fun _ hk => hk.2) (.int .i64 ((rd_T50 l1 x14_1).f2.f0))) (fun _ hk => hk.2) (.int .i64 ((rd_T50 l1 x14_1).f2.f1))) (fun _ hk => hk.2) (.int .i64 ((rd_T50 l1 x14_1).f2.f2))) (fun _ hk => hk.2) (.int .i64 ((rd_T50 l1 x14_1).f3))) (fun _ hk => hk.2) (.slice A447_6 ((rd_T50 l1 x14_1).f4).length c447_6)) (fun _ hk => hk.2) (.slice A447_7 ((rd_T50 l1 x14_1).f5).length c447_7)) (fun _ hk => ⟨hk.1.1, hk.1.2⟩))); (case aS => exact (below_size (ZB))); (case aL => have := LMc10.out; omega); intro v450 w22 ho hb hg hat; rw [← Ny449.out] at ho; have n0_ := AM (blk_grown (g := gb445) (o := .cells #[.slice A0_0 l0_0.length c0_0, .slice A0_1 l0_1.length c0_1] 32 (0, 0)) (ZZ BK445.out) hg (Kd.R_ne HO_3.out BK445.out (by decide))); have n1_ := AM (blk_grown (g := gb446) (o := .cells #[.int .i64 a2_0, .int .i64 a2_1] 60 (0, 0)) (ZZ BK446.out) hg (Kd.R_away HO_3.out (fun _ hk => hk.2))); have n2_ := AM (blk_grown (g := gb448) (o := .cells #[.int .i64 ((rd_T50 l1 x14_1).f0), .int .i64 ((rd_T50 l1 x14_1).f1), .int .i64 ((rd_T50 l1 x14_1).f2.f0), .int .i64 ((rd_T50 l1 x14_1).f2.f1), .int .i64 ((rd_T50 l1 x14_1).f2.f2), .int .i64 ((rd_T50 l1 x14_1).f3), .slice A447_6 ((rd_T50 l1 x14_1).f4).length c447_6, .slice A447_7 ((rd_T50 l1 x14_1).f5).length c447_7] 50 (0, 0)) (ZZ BK448.out) hg (Kd.R_ne HO_3.out BK448.out (by decide))); have n3_ := AM (hb); have n4_ := AM (Kept.of_grown (S := (fun k_ => P3_ k_)) hg (ZHK HK) (fun k_ e_ => (HO_3.out.1 k_ e_).1)); have n5_ := AM (ho); clear BK445 BK446 BK448 HB HK HO_3; have BK445 := n0_; have BK446 := n1_; have BK448 := n2_; have HB := n3_; have HK := n4_; have HO451 := n5_; clear n0_ n1_ n2_ n3_ n4_ n5_ ho hb hg hat))
  replace HO451 := AM (Kd.R_drew HO451.out)
  replace BK445 := AM (blk_drew BK445.out)
  replace BK446 := AM (blk_drew BK446.out)
  replace BK448 := AM (blk_drew BK448.out)
  replace HK := AM (Kept.drew HK.out)
  replace HB := AM (below_drew1 HB.out)
  have p452 : 0 ≤ (((rd_T50 l1 x14_1).f1) : Int) := ZD
  have q452 : ((rd_T50 l1 x14_1).f1) < (l0_0.length : Int) := ZD
  obtain ⟨ad452, e452, hx452_0, hx452_1⟩ := at_T60 (Kd.C_kept_now HR0_0.out HK.out) ((rd_T50 l1 x14_1).f1) p452 q452
  have hw452_1 := hx452_1
  have hw452_0 := hx452_0
  cases e452
  have hy452_0 := Kd.kept_slot HR0_0.out (by omega) (by decide) (ZHK HK) hx452_0 (add_block _ _) (Kept.refl _ _)
  have hy452_1 := Kd.kept_slot HR0_0.out (by omega) (by decide) (ZHK HK) hx452_1 (add_block _ _) (Kept.refl _ _)
  replace p452 := eq_true p452
  replace q452 := eq_true q452
  refine start_ (n := 10) (S := fun w' => w'.cell? ⟨gb446, 0, none⟩ = some (.int .i64 a2_0) ∧ w'.cell? ⟨gb446, 1, none⟩ = some (.int .i64 a2_1) ∧ w'.cell? ⟨gb445, 0, none⟩ = some (.slice (some ad452) l0_0.length c0_0) ∧ w'.cell? ⟨gb445, 1, none⟩ = some (.slice A0_1 l0_1.length c0_1) ∧ w'.cell? ⟨gb448, 0, none⟩ = some (.int .i64 ((rd_T50 l1 x14_1).f0)) ∧ w'.cell? ⟨gb448, 1, none⟩ = some (.int .i64 ((rd_T50 l1 x14_1).f1)) ∧ w'.cell? ⟨gb448, 2, none⟩ = some (.int .i64 ((rd_T50 l1 x14_1).f2.f0)) ∧ w'.cell? ⟨gb448, 3, none⟩ = some (.int .i64 ((rd_T50 l1 x14_1).f2.f1)) ∧ w'.cell? ⟨gb448, 4, none⟩ = some (.int .i64 ((rd_T50 l1 x14_1).f2.f2)) ∧ w'.cell? ⟨gb448, 5, none⟩ = some (.int .i64 ((rd_T50 l1 x14_1).f3)) ∧ w'.cell? ⟨gb448, 6, none⟩ = some (.slice A447_6 ((rd_T50 l1 x14_1).f4).length c447_6) ∧ w'.cell? ⟨gb448, 7, none⟩ = some (.slice A447_7 ((rd_T50 l1 x14_1).f5).length c447_7) ∧ w'.cell? (ad452.add ((((rd_T50 l1 x14_1).f1)).toNat * 2)) = some (.int .i64 ((rd_T60 l0_0 ((rd_T50 l1 x14_1).f1)).f0)) ∧ w'.cell? ⟨(ad452.add ((((rd_T50 l1 x14_1).f1)).toNat * 2)).block, (ad452.add ((((rd_T50 l1 x14_1).f1)).toNat * 2)).off + 1, none⟩ = some (.int .i64 ((rd_T60 l0_0 ((rd_T50 l1 x14_1).f1)).f1))) (ds := []) #[F,F,F,F,F,F,F,F,F,F] (by kernel_rfl) rfl rfl ⟨ZA BK446 0, ZA BK446 1, ZA BK445 0, ZA BK445 1, ZA BK448 0, ZA BK448 1, ZA BK448 2, ZA BK448 3, ZA BK448 4, ZA BK448 5, ZA BK448 6, ZA BK448 7, (ZKS HR0_0 p452 q452 hy452_0 (ZHK HK)), (ZKS HR0_0 p452 q452 hy452_1 (ZHK HK))⟩ (fun hHeld => ?_); refine with_tabW impl_Prog_labels.tab5 impl_Prog_labels.bits5 (fun HT_ HW_ => ?_)
  generalize w22.drew = w23 at HO451 BK445 BK446 BK448 HK HB hx452_0 hx452_1 hHeld ⊢
  refine ZU 1 23 #[F,T,F,F,F,F,F,F,F,F] ?_
  refine ZU 3 25 #[F,T,F,T,F,F,F,F,F,F] ?_
  refine ZTK 0 22 #[T,T,F,T,F,F,F,F,F,F] hHeld ?_
  refine ZTK 2 24 #[T,T,T,T,F,F,F,F,F,F] hHeld ?_
  refine ZTK 4 26 #[T,T,T,T,T,F,F,F,F,F] hHeld ?_
  refine ZU 5 27 #[T,T,T,T,T,T,F,F,F,F] ?_
  refine ZTK 6 28 #[T,T,T,T,T,T,T,F,F,F] hHeld ?_
  refine join_ (σ := Nat) 1 #[T,T,T,T,T,T,T,T,T,F] (fun s_ => [(29, .agg #[.int .i64 t453, .int .i64 t454]), (11, .pointer (some ⟨s_, 0, none⟩))]) (fun s_ w' => (w'.cell? ⟨gb446, 0, none⟩ = some (.int .i64 a2_0) ∧ w'.cell? ⟨gb446, 1, none⟩ = some (.int .i64 a2_1) ∧ w'.cell? ⟨gb445, 0, none⟩ = some (.slice (some ad452) l0_0.length c0_0) ∧ w'.cell? ⟨gb445, 1, none⟩ = some (.slice A0_1 l0_1.length c0_1) ∧ w'.cell? ⟨gb448, 0, none⟩ = some (.int .i64 ((rd_T50 l1 x14_1).f0)) ∧ w'.cell? ⟨gb448, 1, none⟩ = some (.int .i64 ((rd_T50 l1 x14_1).f1)) ∧ w'.cell? ⟨gb448, 2, none⟩ = some (.int .i64 ((rd_T50 l1 x14_1).f2.f0)) ∧ w'.cell? ⟨gb448, 3, none⟩ = some (.int .i64 ((rd_T50 l1 x14_1).f2.f1)) ∧ w'.cell? ⟨gb448, 4, none⟩ = some (.int .i64 ((rd_T50 l1 x14_1).f2.f2)) ∧ w'.cell? ⟨gb448, 5, none⟩ = some (.int .i64 ((rd_T50 l1 x14_1).f3)) ∧ w'.cell? ⟨gb448, 6, none⟩ = some (.slice A447_6 ((rd_T50 l1 x14_1).f4).length c447_6) ∧ w'.cell? ⟨gb448, 7, none⟩ = some (.slice A447_7 ((rd_T50 l1 x14_1).f5).length c447_7) ∧ w'.cell? (ad452.add ((((rd_T50 l1 x14_1).f1)).toNat * 2)) = some (.int .i64 ((rd_T60 l0_0 ((rd_T50 l1 x14_1).f1)).f0)) ∧ w'.cell? ⟨(ad452.add ((((rd_T50 l1 x14_1).f1)).toNat * 2)).block, (ad452.add ((((rd_T50 l1 x14_1).f1)).toNat * 2)).off + 1, none⟩ = some (.int .i64 ((rd_T60 l0_0 ((rd_T50 l1 x14_1).f1)).f1))) ∧ (Kd.R k60 60 w' w0.heap.size (fun k_ => (P3_ k_ ∨ w.heap.size ≤ k_) ∧ k_ ≠ gb446 ∧ k_ ≠ s_) v450 y449) ∧ (w'.heap[gb445]? = some (.cells #[.slice (some ad452) l0_0.length c0_0, .slice A0_1 l0_1.length c0_1] 32 (0, 0))) ∧ (w'.heap[gb446]? = some (.cells #[.int .i64 a2_0, .int .i64 a2_1] 60 (0, 0))) ∧ (w'.heap[gb448]? = some (.cells #[.int .i64 ((rd_T50 l1 x14_1).f0), .int .i64 ((rd_T50 l1 x14_1).f1), .int .i64 ((rd_T50 l1 x14_1).f2.f0), .int .i64 ((rd_T50 l1 x14_1).f2.f1), .int .i64 ((rd_T50 l1 x14_1).f2.f2), .int .i64 ((rd_T50 l1 x14_1).f3), .slice A447_6 ((rd_T50 l1 x14_1).f4).length c447_6, .slice A447_7 ((rd_T50 l1 x14_1).f5).length c447_7] 50 (0, 0))) ∧ (w'.heap[s_]? = some (.cells #[.int .i64 0, .int .i64 0] 60 (0, 0))) ∧ (w.heap.size ≤ s_) ∧ (w0.heap.size ≤ s_) ∧ (gb445 ≠ s_) ∧ (s_ ≠ gb445) ∧ (gb446 ≠ s_) ∧ (s_ ≠ gb446) ∧ (gb448 ≠ s_) ∧ (s_ ≠ gb448) ∧ (Kept w w' (fun k_ => P3_ k_)) ∧ (Below w0.heap.size w0 w')) ?_ ?_
  rotate_left
  ·(
  intro hCont
  refine two_ (i := 7) (j := 8) (Ni := some 29) (Nj := some 11) #[T,T,T,T,T,T,T,T,F,F] #[T,T,T,T,T,T,T,F,T,F] rfl rfl rfl rfl (two_of HT_.out (by kernel_rfl)) (by decide) (by decide) (fun K hK => ?_) (fun K hK => ?_)
  ·(
  skip
  refine ZGO Try.func86 #[.agg #[.int .i64 a2_0, .int .i64 a2_1], .agg #[.int .i64 ((rd_T60 l0_0 ((rd_T50 l1 x14_1).f1)).f0), .int .i64 ((rd_T60 l0_0 ((rd_T50 l1 x14_1).f1)).f1)]] ?_
  with_reducible refine (impl_Label_both.calls a2_0 a2_1 ((rd_T60 l0_0 ((rd_T50 l1 x14_1).f1)).f0) ((rd_T60 l0_0 ((rd_T50 l1 x14_1).f1)).f1) t453 t454 _ A13.out).mono ?_
  rintro e w24 ⟨rfl, hb⟩
  refine ⟨_, rfl, ?_⟩
  replace HO451 := AM (Kd.R_below (ZR HO451.out) hb)
  replace BK445 := ZW BK445 hb
  replace BK446 := ZW BK446 hb
  replace BK448 := ZW BK448 hb
  replace HK := AM (Kept.below (S := (fun k_ => P3_ k_)) (ZHK HK) hb)
  replace HB := ZT HB hb
  (try clear hb)
  (try clear hb2)
  (try clear hk)
  (try clear hi)
  refine hK.out _ _ ⟨ZA BK446 0, ZA BK446 1, ZA BK445 0, ZA BK445 1, ZA BK448 0, ZA BK448 1, ZA BK448 2, ZA BK448 3, ZA BK448 4, ZA BK448 5, ZA BK448 6, ZA BK448 7, (ZKS HR0_0 p452 q452 hy452_0 (ZHK HK)), (ZKS HR0_0 p452 q452 hy452_1 (ZHK HK))⟩ (fun hHeld => ?_)
  clear hK K
  refine ZNO 29 ?_
  refine one_ (i := 8) (N := some 11) #[T,T,T,T,T,T,T,T,T,F] rfl rfl (one_of HT_.out (by kernel_rfl)) (by decide) (fun K hK => ?_)
  refine box_step ?hg (N := 11) ?hd (cs := #[.int .i64 0, .int .i64 0]) (t := 60) ?hr ?_; (case hd => rfl); (case hg => rfl); (case hr => first | (go_simp; done) | (go_simp; rfl))
  intro gb455 hg w25 hbox hb
  have BK455 := AM (hbox)
  have GW455 := AM ((by rw [hg]; exact (by first | exact HK.out.1 | exact (show Kept w _ (fun k_ => P3_ k_) from ZHK HK).1) : w.heap.size ≤ gb455))
  have GE455 : Aside0 (w0.heap.size ≤ gb455) := ZS hg
  have NB445_455 : Aside0 (gb445 ≠ gb455) := ZN hg BK445
  have NB455_445 : Aside0 (gb455 ≠ gb445) := ZM hg BK445
  have NB446_455 : Aside0 (gb446 ≠ gb455) := ZN hg BK446
  have NB455_446 : Aside0 (gb455 ≠ gb446) := ZM hg BK446
  have NB448_455 : Aside0 (gb448 ≠ gb455) := ZN hg BK448
  have NB455_448 : Aside0 (gb455 ≠ gb448) := ZM hg BK448
  replace HO451 := AM (Kd.R_below (Kd.R_elderB (ZR HO451.out) gb455 (Nat.le_of_eq hg.symm)) hb)
  replace BK445 := ZW BK445 hb
  replace BK446 := ZW BK446 hb
  replace BK448 := ZW BK448 hb
  replace HK := AM (Kept.below (S := (fun k_ => P3_ k_)) (ZHK HK) hb)
  replace HB := ZT HB hb
  clear hb hbox hg
  refine hK.out _ _ ⟨ZA BK446 0, ZA BK446 1, ZA BK445 0, ZA BK445 1, ZA BK448 0, ZA BK448 1, ZA BK448 2, ZA BK448 3, ZA BK448 4, ZA BK448 5, ZA BK448 6, ZA BK448 7, (ZKS HR0_0 p452 q452 hy452_0 (ZHK HK)), (ZKS HR0_0 p452 q452 hy452_1 (ZHK HK))⟩ (fun hHeld => ?_)
  clear hK K
  refine ZNO 11 ?_
  exact norm_ (by simp only [putAll, Act.put, List.setIfInBounds_toArray, List.set_cons_zero, List.set_cons_succ]) (hCont (gb455) _ ⟨hHeld, (by (with_reducible repeat (first | apply Kd.R_alloc | apply Kd.R_drewN | apply Kd.R_drew)); exact Kd.R_mono HO451.out (fun _ hk => ⟨hk.1.1, ⟨hk.1.2, hk.2⟩⟩)), (ZK BK445.out), (ZK BK446.out), (ZK BK448.out), (ZK BK455.out), GW455.out, GE455.out, NB445_455.out, NB455_445.out, NB446_455.out, NB455_446.out, NB448_455.out, NB455_448.out, (ZHK HK), (ZB)⟩))
  ·(
  skip
  refine box_step ?hg (N := 11) ?hd (cs := #[.int .i64 0, .int .i64 0]) (t := 60) ?hr ?_; (case hd => rfl); (case hg => rfl); (case hr => first | (go_simp; done) | (go_simp; rfl))
  intro gb455 hg w24 hbox hb
  have BK455 := AM (hbox)
  have GW455 := AM ((by rw [hg]; exact (by first | exact HK.out.1 | exact (show Kept w _ (fun k_ => P3_ k_) from ZHK HK).1) : w.heap.size ≤ gb455))
  have GE455 : Aside0 (w0.heap.size ≤ gb455) := ZS hg
  have NB445_455 : Aside0 (gb445 ≠ gb455) := ZN hg BK445
  have NB455_445 : Aside0 (gb455 ≠ gb445) := ZM hg BK445
  have NB446_455 : Aside0 (gb446 ≠ gb455) := ZN hg BK446
  have NB455_446 : Aside0 (gb455 ≠ gb446) := ZM hg BK446
  have NB448_455 : Aside0 (gb448 ≠ gb455) := ZN hg BK448
  have NB455_448 : Aside0 (gb455 ≠ gb448) := ZM hg BK448
  replace HO451 := AM (Kd.R_below (Kd.R_elderB (ZR HO451.out) gb455 (Nat.le_of_eq hg.symm)) hb)
  replace BK445 := ZW BK445 hb
  replace BK446 := ZW BK446 hb
  replace BK448 := ZW BK448 hb
  replace HK := AM (Kept.below (S := (fun k_ => P3_ k_)) (ZHK HK) hb)
  replace HB := ZT HB hb
  clear hb hbox hg
  refine hK.out _ _ ⟨ZA BK446 0, ZA BK446 1, ZA BK445 0, ZA BK445 1, ZA BK448 0, ZA BK448 1, ZA BK448 2, ZA BK448 3, ZA BK448 4, ZA BK448 5, ZA BK448 6, ZA BK448 7, (ZKS HR0_0 p452 q452 hy452_0 (ZHK HK)), (ZKS HR0_0 p452 q452 hy452_1 (ZHK HK))⟩ (fun hHeld => ?_)
  clear hK K
  refine ZNO 11 ?_
  refine one_ (i := 7) (N := some 29) #[T,T,T,T,T,T,T,T,T,F] rfl rfl (one_of HT_.out (by kernel_rfl)) (by decide) (fun K hK => ?_)
  refine ZGO Try.func86 #[.agg #[.int .i64 a2_0, .int .i64 a2_1], .agg #[.int .i64 ((rd_T60 l0_0 ((rd_T50 l1 x14_1).f1)).f0), .int .i64 ((rd_T60 l0_0 ((rd_T50 l1 x14_1).f1)).f1)]] ?_
  with_reducible refine (impl_Label_both.calls a2_0 a2_1 ((rd_T60 l0_0 ((rd_T50 l1 x14_1).f1)).f0) ((rd_T60 l0_0 ((rd_T50 l1 x14_1).f1)).f1) t453 t454 _ A13.out).mono ?_
  rintro e w25 ⟨rfl, hb⟩
  refine ⟨_, rfl, ?_⟩
  replace HO451 := AM (Kd.R_below (ZR HO451.out) hb)
  replace BK445 := ZW BK445 hb
  replace BK446 := ZW BK446 hb
  replace BK448 := ZW BK448 hb
  replace BK455 := ZW BK455 hb
  replace HK := AM (Kept.below (S := (fun k_ => P3_ k_)) (ZHK HK) hb)
  replace HB := ZT HB hb
  (try clear hb)
  (try clear hb2)
  (try clear hk)
  (try clear hi)
  refine hK.out _ _ ⟨ZA BK446 0, ZA BK446 1, ZA BK445 0, ZA BK445 1, ZA BK448 0, ZA BK448 1, ZA BK448 2, ZA BK448 3, ZA BK448 4, ZA BK448 5, ZA BK448 6, ZA BK448 7, (ZKS HR0_0 p452 q452 hy452_0 (ZHK HK)), (ZKS HR0_0 p452 q452 hy452_1 (ZHK HK))⟩ (fun hHeld => ?_)
  clear hK K
  refine ZNO 29 ?_
  exact norm_ (by simp only [putAll, Act.put, List.setIfInBounds_toArray, List.set_cons_zero, List.set_cons_succ]) (hCont (gb455) _ ⟨hHeld, (by (with_reducible repeat (first | apply Kd.R_alloc | apply Kd.R_drewN | apply Kd.R_drew)); exact Kd.R_mono HO451.out (fun _ hk => ⟨hk.1.1, ⟨hk.1.2, hk.2⟩⟩)), (ZK BK445.out), (ZK BK446.out), (ZK BK448.out), (ZK BK455.out), GW455.out, GE455.out, NB445_455.out, NB455_445.out, NB446_455.out, NB455_446.out, NB448_455.out, NB455_448.out, (ZHK HK), (ZB)⟩)))
  rintro gb455 w26 ⟨hS_, h0_, h1_, h2_, h3_, h4_, h5_, h6_, h7_, h8_, h9_, h10_, h11_, h12_, h13_, h14_⟩
  try dsimp only at h0_ h1_ h2_ h3_ h4_ h5_ h6_ h7_ h8_ h9_ h10_ h11_ h12_ h13_ h14_
  have n0_ := AM h0_
  have n1_ := AM h1_
  have n2_ := AM h2_
  have n3_ := AM h3_
  have n4_ := AM h4_
  have n5_ := AM h5_
  have n6_ := AM h6_
  have n7_ := AM h7_
  have n8_ := AM h8_
  have n9_ := AM h9_
  have n10_ := AM h10_
  have n11_ := AM h11_
  have n12_ := AM h12_
  have n13_ := AM h13_
  have n14_ := AM h14_
  clear HO451 BK445 BK446 BK448 HK HB h0_ h1_ h2_ h3_ h4_ h5_ h6_ h7_ h8_ h9_ h10_ h11_ h12_ h13_ h14_
  have HO451 := n0_
  have BK445 := n1_
  have BK446 := n2_
  have BK448 := n3_
  have BK455 := n4_
  have GW455 := n5_
  have GE455 := n6_
  have NB445_455 := n7_
  have NB455_445 := n8_
  have NB446_455 := n9_
  have NB455_446 := n10_
  have NB448_455 := n11_
  have NB455_448 := n12_
  have HK := n13_
  have HB := n14_
  clear n0_ n1_ n2_ n3_ n4_ n5_ n6_ n7_ n8_ n9_ n10_ n11_ n12_ n13_ n14_
  try dsimp only at hS_
  have hHeld := hS_
  refine ZNP ?_
  refine one_ (i := 9) (N := none) #[T,T,T,T,T,T,T,T,T,T] rfl rfl (one_of HT_.out (by kernel_rfl)) (by decide) (fun K hK => ?_)
  have hs27 : w26.cell? ⟨gb455, 0, none⟩ = some (.int .i64 0) := ZA BK455 0
  have hfs27 := blk_frozen BK455.out 0
  have hns27_0 := NB445_455.out
  have hns27_1 := NB446_455.out
  have hns27_2 := NB448_455.out
  have hms27_0 := NB455_445.out
  have hms27_1 := NB455_446.out
  have hms27_2 := NB455_448.out
  have hs28 : w26.cell? ⟨gb455, 1, none⟩ = some (.int .i64 0) := ZA BK455 1
  have hfs28 := blk_frozen BK455.out 1
  have hns28_0 := NB445_455.out
  have hns28_1 := NB446_455.out
  have hns28_2 := NB448_455.out
  have hms28_0 := NB455_445.out
  have hms28_1 := NB455_446.out
  have hms28_2 := NB455_448.out
  refine skip_ (w1 := ?_) (by rfl) rfl ?_ ?_
  rotate_left
  ·(
  go_simp
  rfl)
  refine hK.out _ _ ⟨((cell_far (p := ⟨gb455, _, none⟩) NB446_455.out _).trans (((cell_far (p := ⟨gb455, _, none⟩) NB446_455.out _).trans (hHeld.1)))), ((cell_far (p := ⟨gb455, _, none⟩) NB446_455.out _).trans (((cell_far (p := ⟨gb455, _, none⟩) NB446_455.out _).trans (hHeld.2.1)))), ((cell_far (p := ⟨gb455, _, none⟩) NB445_455.out _).trans (((cell_far (p := ⟨gb455, _, none⟩) NB445_455.out _).trans (hHeld.2.2.1)))), ((cell_far (p := ⟨gb455, _, none⟩) NB445_455.out _).trans (((cell_far (p := ⟨gb455, _, none⟩) NB445_455.out _).trans (hHeld.2.2.2.1)))), ((cell_far (p := ⟨gb455, _, none⟩) NB448_455.out _).trans (((cell_far (p := ⟨gb455, _, none⟩) NB448_455.out _).trans (hHeld.2.2.2.2.1)))), ((cell_far (p := ⟨gb455, _, none⟩) NB448_455.out _).trans (((cell_far (p := ⟨gb455, _, none⟩) NB448_455.out _).trans (hHeld.2.2.2.2.2.1)))), ((cell_far (p := ⟨gb455, _, none⟩) NB448_455.out _).trans (((cell_far (p := ⟨gb455, _, none⟩) NB448_455.out _).trans (hHeld.2.2.2.2.2.2.1)))), ((cell_far (p := ⟨gb455, _, none⟩) NB448_455.out _).trans (((cell_far (p := ⟨gb455, _, none⟩) NB448_455.out _).trans (hHeld.2.2.2.2.2.2.2.1)))), ((cell_far (p := ⟨gb455, _, none⟩) NB448_455.out _).trans (((cell_far (p := ⟨gb455, _, none⟩) NB448_455.out _).trans (hHeld.2.2.2.2.2.2.2.2.1)))), ((cell_far (p := ⟨gb455, _, none⟩) NB448_455.out _).trans (((cell_far (p := ⟨gb455, _, none⟩) NB448_455.out _).trans (hHeld.2.2.2.2.2.2.2.2.2.1)))), ((cell_far (p := ⟨gb455, _, none⟩) NB448_455.out _).trans (((cell_far (p := ⟨gb455, _, none⟩) NB448_455.out _).trans (hHeld.2.2.2.2.2.2.2.2.2.2.1)))), ((cell_far (p := ⟨gb455, _, none⟩) NB448_455.out _).trans (((cell_far (p := ⟨gb455, _, none⟩) NB448_455.out _).trans (hHeld.2.2.2.2.2.2.2.2.2.2.2.1)))), (ZKS HR0_0 p452 q452 hy452_0 (ZHK HK)), (ZKS HR0_0 p452 q452 hy452_1 (ZHK HK))⟩ (fun hHeld => ?_)
  clear hK K
  refine done_ (done_of HT_.out (by kernel_rfl)) ?_
  have n0_ : Aside0 (Kd.R k60 60 ((w26.setCell ⟨gb455, 0, none⟩ (.int .i64 t453)).setCell ⟨gb455, 1, none⟩ (.int .i64 t454)) w0.heap.size (fun k_ => (P3_ k_ ∨ w.heap.size ≤ k_) ∧ k_ ≠ gb446 ∧ k_ ≠ gb455) v450 y449) := ⟨by (with_reducible repeat (first | apply Kd.R_alloc | apply Kd.R_drewN | apply Kd.R_drew)); exact Kd.R_mono (Kd.R_far (p := ⟨gb455, 1, none⟩) (Kd.R_far (p := ⟨gb455, 0, none⟩) (Kd.R_mono HO451.out (fun k_ hk => (⟨hk, hk.2.2⟩ : _ ∧ k_ ≠ gb455))) (fun _ hk => hk.2) (.int .i64 t453)) (fun _ hk => hk.2) (.int .i64 t454)) (fun _ hk => ⟨hk.1.1, ⟨hk.1.2.1, hk.1.2.2⟩⟩)⟩
  have n1_ : Aside0 (((w26.setCell ⟨gb455, 0, none⟩ (.int .i64 t453)).setCell ⟨gb455, 1, none⟩ (.int .i64 t454)).heap[gb445]? = some (.cells #[.slice (some ad452) l0_0.length c0_0, .slice A0_1 l0_1.length c0_1] 32 (0, 0))) := ⟨ZZ BK445.out⟩
  have n2_ : Aside0 (((w26.setCell ⟨gb455, 0, none⟩ (.int .i64 t453)).setCell ⟨gb455, 1, none⟩ (.int .i64 t454)).heap[gb446]? = some (.cells #[.int .i64 a2_0, .int .i64 a2_1] 60 (0, 0))) := ⟨ZZ BK446.out⟩
  have n3_ : Aside0 (((w26.setCell ⟨gb455, 0, none⟩ (.int .i64 t453)).setCell ⟨gb455, 1, none⟩ (.int .i64 t454)).heap[gb448]? = some (.cells #[.int .i64 ((rd_T50 l1 x14_1).f0), .int .i64 ((rd_T50 l1 x14_1).f1), .int .i64 ((rd_T50 l1 x14_1).f2.f0), .int .i64 ((rd_T50 l1 x14_1).f2.f1), .int .i64 ((rd_T50 l1 x14_1).f2.f2), .int .i64 ((rd_T50 l1 x14_1).f3), .slice A447_6 ((rd_T50 l1 x14_1).f4).length c447_6, .slice A447_7 ((rd_T50 l1 x14_1).f5).length c447_7] 50 (0, 0))) := ⟨ZZ BK448.out⟩
  have n4_ : Aside0 (((w26.setCell ⟨gb455, 0, none⟩ (.int .i64 t453)).setCell ⟨gb455, 1, none⟩ (.int .i64 t454)).heap[gb455]? = some (.cells #[.int .i64 t453, .int .i64 t454] 60 (0, 0))) := ⟨ZZ BK455.out⟩
  have n5_ : Aside0 (Kept w ((w26.setCell ⟨gb455, 0, none⟩ (.int .i64 t453)).setCell ⟨gb455, 1, none⟩ (.int .i64 t454)) (fun k_ => P3_ k_)) := ⟨ZHK HK⟩
  have n6_ : Aside0 (Below w0.heap.size w0 ((w26.setCell ⟨gb455, 0, none⟩ (.int .i64 t453)).setCell ⟨gb455, 1, none⟩ (.int .i64 t454))) := ⟨ZB⟩
  (try clear HO451)
  (try clear BK445)
  (try clear BK446)
  (try clear BK448)
  (try clear BK455)
  (try clear HK)
  (try clear HB)
  generalize ((w26.setCell ⟨gb455, 0, none⟩ (.int .i64 t453)).setCell ⟨gb455, 1, none⟩ (.int .i64 t454)) = w29 at n0_ n1_ n2_ n3_ n4_ n5_ n6_ ⊢
  have HO451 := n0_
  have BK445 := n1_
  have BK446 := n2_
  have BK448 := n3_
  have BK455 := n4_
  have HK := n5_
  have HB := n6_
  clear n0_ n1_ n2_ n3_ n4_ n5_ n6_
  have hnb30 := NB445_455.out
  have hnc30 := NB455_445.out
  have hcz31 := ZC2 w29 BK445
  have hfz31 := ZF2 BK445
  have hnb32 := NB448_455.out
  have hnc32 := NB455_448.out
  have hcz33 := ZC8 w29 BK448
  have hfz33 := ZF8 BK448
  have hnb34 := NB455_446.out
  have hnc34 := NB446_455.out
  have hcz35 := ZC2 w29 BK455
  have hfz35 := ZF2 BK455
  obtain ⟨Ao36, co36, eo36⟩ := Kd.R_slice HO451.out
  subst eo36
  try go_wp2_with (first | ((with_reducible refine gate_callee (f := 74) rfl ?_); refine ZGL (some 35) Try.func74 #[.agg #[.slice (some ad452) l0_0.length c0_0, .slice A0_1 l0_1.length c0_1], .slice A447_6 ((rd_T50 l1 x14_1).f4).length c447_6, .agg #[.int .i64 t453, .int .i64 t454], .slice Ao36 y449.length co36] ?_; (with_reducible refine (ih k1 (by have := HK1.out; omega) _ _ l0_0 _ _ l0_1 _ _ ((rd_T50 l1 x14_1).f4) t453 t454 (fun k_ => some k_ = (.slice Ao36 y449.length co36 : Value).ownBlock) (.slice Ao36 y449.length co36) y449 t456 w0 _ ?side1 ?side2 ?side3 ?side4 ?side5 ?side6 ?side7 ?side8 A14.out).mono ?_); (case side1 => repeat (first | (with_reducible first | exact HB.out | apply below_alloc | apply pw_below_drewN | apply below_drew1 | refine below_set ?_ GE445.out | refine below_set ?_ GE446.out | refine below_set ?_ GE448.out | refine below_set ?_ GE455.out) | exact HB.out)); (case side2 => exact Kd.C_kept_call HR0_0.out (ZHK HK) (fun k_ hs_ => (fun e_ => (HO451.out.1 k_ e_.symm).1) hs_)); (case side3 => exact HC0_0.out); (case side4 => exact Kd.C_kept_call HR0_1.out (ZHK HK) (fun k_ hs_ => (fun e_ => (HO451.out.1 k_ e_.symm).1) hs_)); (case side5 => exact HC0_1.out); (case side6 => exact Kd.C_kept_call (fun W_ k_ => by have hw_ := Kd.kept_slot HR1.out (by have := (of_eq_true p447); have := (of_eq_true q447); omega) (by decide) (Kept.refl _ _) hy447_6 (add_block _ _) k_; obtain ⟨ad_, A6_, c6_, A7_, c7_, e_, m0_, m1_, m2_, m3_, m4_, m5_, m6_, m7_, y6_, z6_, y7_, z7_⟩ := at_T50 (HR1.out W_ k_) (x14_1) (by first | exact of_eq_true p447 | exact p447) (by first | exact of_eq_true q447 | exact q447); cases e_; rw [hw_] at m6_; cases m6_; exact z6_) (ZHK HK) (fun k_ hs_ => (fun e_ => (HO451.out.1 k_ e_.symm).1) hs_)); (case side7 => exact HC447_6.out); (case side8 => exact Kd.R_tight rfl HO451.out); rintro e w37 ⟨v457, rfl, ho0, hb, hkp⟩; refine ⟨_, rfl, ?_⟩; have n0_ := AM (blk_kept (ZK BK445.out) hkp (fun hs_ => (fun e_ => (Kd.R_ne HO451.out BK445.out (by decide)) e_) hs_)); have n1_ := AM (blk_kept (ZK BK446.out) hkp (fun hs_ => (fun e_ => (Kd.R_away HO451.out (fun _ hk => hk.2.1)) e_) hs_)); have n2_ := AM (blk_kept (ZK BK448.out) hkp (fun hs_ => (fun e_ => (Kd.R_ne HO451.out BK448.out (by decide)) e_) hs_)); have n3_ := AM (blk_kept (ZK BK455.out) hkp (fun hs_ => (fun e_ => (Kd.R_away HO451.out (fun _ hk => hk.2.2)) e_) hs_)); have n4_ := AM (Kd.R_mono (ok' := fun k_ => (P3_ k_ ∨ w.heap.size ≤ k_) ∧ k_ ≠ gb446 ∧ k_ ≠ gb455) ho0 (fun k_ hk_ => ⟨Or.elim hk_ (fun hs_ => (HO451.out.1 k_ (hs_).symm).1) (fun hn_ => (.inr (Nat.le_trans (by first | exact HK.out.1 | exact (show Kept w _ (fun k_ => P3_ k_) from ZHK HK).1) hn_))), Or.elim hk_ (fun hs_ => fun e_ => (Kd.R_away HO451.out (fun _ hk => hk.2.1)) (by rw [← e_]; exact hs_)) (fun hn_ => (Kd.freshB (g := gb446) (o := .cells #[.int .i64 a2_0, .int .i64 a2_1] 60 (0, 0)) (ZK BK446.out) k_ hn_)), Or.elim hk_ (fun hs_ => fun e_ => (Kd.R_away HO451.out (fun _ hk => hk.2.2)) (by rw [← e_]; exact hs_)) (fun hn_ => (Kd.freshB (g := gb455) (o := .cells #[.int .i64 t453, .int .i64 t454] 60 (0, 0)) (ZK BK455.out) k_ hn_))⟩)); have n5_ := AM (Kept.then_ (S := (fun k_ => P3_ k_)) (ZHK HK) hkp (fun k_ hs_ => (fun e_ => (HO451.out.1 k_ e_.symm).1) hs_)); have n6_ := AM (hb); clear BK445 BK446 BK448 BK455 HK HB HO451; have BK445 := n0_; have BK446 := n1_; have BK448 := n2_; have BK455 := n3_; have HO458 := n4_; have HK := n5_; have HB := n6_; clear n0_ n1_ n2_ n3_ n4_ n5_ n6_; (try clear hb); (try clear hkp); (try clear ho0); have hcz38 := ZC2 w37 BK445; have hfz38 := ZF2 BK445; have hcz39 := ZC8 w37 BK448; have hfz39 := ZF8 BK448; have hcz40 := ZC2 w37 BK455; have hfz40 := ZF2 BK455; obtain ⟨Ao41, co41, eo41⟩ := Kd.R_slice HO458.out; subst eo41) | ((with_reducible refine gate_callee (f := 74) rfl ?_); refine ZGL (some 41) Try.func74 #[.agg #[.slice (some ad452) l0_0.length c0_0, .slice A0_1 l0_1.length c0_1], .slice A447_7 ((rd_T50 l1 x14_1).f5).length c447_7, .agg #[.int .i64 t453, .int .i64 t454], .slice Ao41 t456.length co41] ?_; (with_reducible refine (ih k1 (by have := HK1.out; omega) _ _ l0_0 _ _ l0_1 _ _ ((rd_T50 l1 x14_1).f5) t453 t454 (fun k_ => some k_ = (.slice Ao41 t456.length co41 : Value).ownBlock) (.slice Ao41 t456.length co41) t456 t459 w0 _ ?side1 ?side2 ?side3 ?side4 ?side5 ?side6 ?side7 ?side8 A15.out).mono ?_); (case side1 => repeat (first | (with_reducible first | exact HB.out | apply below_alloc | apply pw_below_drewN | apply below_drew1 | refine below_set ?_ GE445.out | refine below_set ?_ GE446.out | refine below_set ?_ GE448.out | refine below_set ?_ GE455.out) | exact HB.out)); (case side2 => exact Kd.C_kept_call HR0_0.out (ZHK HK) (fun k_ hs_ => (fun e_ => (HO458.out.1 k_ e_.symm).1) hs_)); (case side3 => exact HC0_0.out); (case side4 => exact Kd.C_kept_call HR0_1.out (ZHK HK) (fun k_ hs_ => (fun e_ => (HO458.out.1 k_ e_.symm).1) hs_)); (case side5 => exact HC0_1.out); (case side6 => exact Kd.C_kept_call (fun W_ k_ => by have hw_ := Kd.kept_slot HR1.out (by have := (of_eq_true p447); have := (of_eq_true q447); omega) (by decide) (Kept.refl _ _) hy447_7 (add_block _ _) k_; obtain ⟨ad_, A6_, c6_, A7_, c7_, e_, m0_, m1_, m2_, m3_, m4_, m5_, m6_, m7_, y6_, z6_, y7_, z7_⟩ := at_T50 (HR1.out W_ k_) (x14_1) (by first | exact of_eq_true p447 | exact p447) (by first | exact of_eq_true q447 | exact q447); cases e_; rw [hw_] at m7_; cases m7_; exact z7_) (ZHK HK) (fun k_ hs_ => (fun e_ => (HO458.out.1 k_ e_.symm).1) hs_)); (case side7 => exact HC447_7.out); (case side8 => exact Kd.R_tight rfl HO458.out); rintro e w42 ⟨v460, rfl, ho0, hb, hkp⟩; refine ⟨_, rfl, ?_⟩; have n0_ := AM (blk_kept (ZK BK445.out) hkp (fun hs_ => (fun e_ => (Kd.R_ne HO458.out BK445.out (by decide)) e_) hs_)); have n1_ := AM (blk_kept (ZK BK446.out) hkp (fun hs_ => (fun e_ => (Kd.R_away HO458.out (fun _ hk => hk.2.1)) e_) hs_)); have n2_ := AM (blk_kept (ZK BK448.out) hkp (fun hs_ => (fun e_ => (Kd.R_ne HO458.out BK448.out (by decide)) e_) hs_)); have n3_ := AM (blk_kept (ZK BK455.out) hkp (fun hs_ => (fun e_ => (Kd.R_away HO458.out (fun _ hk => hk.2.2)) e_) hs_)); have n4_ := AM (Kd.R_mono (ok' := fun k_ => (P3_ k_ ∨ w.heap.size ≤ k_) ∧ k_ ≠ gb446 ∧ k_ ≠ gb455) ho0 (fun k_ hk_ => ⟨Or.elim hk_ (fun hs_ => (HO458.out.1 k_ (hs_).symm).1) (fun hn_ => (.inr (Nat.le_trans (by first | exact HK.out.1 | exact (show Kept w _ (fun k_ => P3_ k_) from ZHK HK).1) hn_))), Or.elim hk_ (fun hs_ => fun e_ => (Kd.R_away HO458.out (fun _ hk => hk.2.1)) (by rw [← e_]; exact hs_)) (fun hn_ => (Kd.freshB (g := gb446) (o := .cells #[.int .i64 a2_0, .int .i64 a2_1] 60 (0, 0)) (ZK BK446.out) k_ hn_)), Or.elim hk_ (fun hs_ => fun e_ => (Kd.R_away HO458.out (fun _ hk => hk.2.2)) (by rw [← e_]; exact hs_)) (fun hn_ => (Kd.freshB (g := gb455) (o := .cells #[.int .i64 t453, .int .i64 t454] 60 (0, 0)) (ZK BK455.out) k_ hn_))⟩)); have n5_ := AM (Kept.then_ (S := (fun k_ => P3_ k_)) (ZHK HK) hkp (fun k_ hs_ => (fun e_ => (HO458.out.1 k_ e_.symm).1) hs_)); have n6_ := AM (hb); clear BK445 BK446 BK448 BK455 HK HB HO458; have BK445 := n0_; have BK446 := n1_; have BK448 := n2_; have BK455 := n3_; have HO461 := n4_; have HK := n5_; have HB := n6_; clear n0_ n1_ n2_ n3_ n4_ n5_ n6_; (try clear hb); (try clear hkp); (try clear ho0)))
  go_roundg k1
  case measure => have := HK1.out; omega
  case rel => exact ⟨(t459), (wrap64 (x14_1 + 1)), (by first | rfl | (simp; done) | (simp [*]; done)), H', ⟨by have := HK1.out; omega⟩, ⟨by (with_reducible repeat (first | apply Kd.R_alloc | apply Kd.R_drewN | apply Kd.R_drew)); exact Kd.R_mono HO461.out (fun _ hk => ⟨hk.1, hk.2.1⟩)⟩, ⟨ZK BK445.out⟩, ⟨ZK BK446.out⟩, ⟨ZHK HK⟩, ⟨ZB⟩⟩)
  ·(
  rw [if_neg c12] at H
  exact absurd H (by simp)))
  ·(
  rw [if_neg c11] at H
  exact absurd H (by simp)))
  ·(
  rw [if_neg c10] at H
  exact absurd H (by simp)))
  ·(
  rw [if_neg c9] at H
  exact absurd H (by simp)))
  ·(
  rw [if_neg c8] at H
  exact absurd H (by simp)))
  ·(
  rw [if_neg c7] at H
  have c7b0 := decide_eq_false c7
  clear c7
  obtain rfl := Option.some.inj H
  go_wp2
  go_ret
  exact ⟨_, ZE, by (with_reducible repeat (first | apply Kd.R_alloc | apply Kd.R_drewN | apply Kd.R_drew)); exact Kd.R_mono HO_3.out (fun _ hk => hk.1), ZB, ZHK HK⟩))

end Go.Proofs.Ytaflodibibbakaa.A
