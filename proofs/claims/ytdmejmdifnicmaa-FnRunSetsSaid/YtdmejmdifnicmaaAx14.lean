/- What Go functions compute, as Lean functions, and for each its contract: for every input at which the Lean function answers the call returns that; written by wip/tools/pr.py over the kit's print. -/
import Derived.Test.YtdmejmdifnicmaaAx0
import Derived.Test.YtdmejmdifnicmaaAx13
namespace Go.Proofs.Ytdmejmdifnicmaa.A
open Go.RowKit Go.Proofs.YtdmejmdifnicmaaW.PrintWords Go.Proofs.YtdmejmdifnicmaaW.PrintLast Go.Proofs.YtdmejmdifnicmaaW.PrintMore
attribute [local go_sem] max2_int min2_int max_two min_two max_three min_three max_four min_four   -- for this text's walks alone
set_option linter.unusedVariables false
set_option linter.unusedSimpArgs false

/-! ### spec_l3Do: function 24 -/
mutual
def spec_l3Do.l0 : Nat → List (S66) → Int → List Int → List (S52) → List (S50) → Option (List Int × (List (S52)) × (List (S50)))
 | 0, _, _, _, _, _ => none
 | k + 1, x0, x5, x260000, x260001, x260002 => if x5 < (x0.length : Int) then (if 0 ≤ x5 then (if ((rd_T66 x0 x5).f0) = 1 then ((spec_l3Num.f ((rd_T66 x0 x5).f2.f0) ((rd_T66 x0 x5).f2.f1) ((rd_T66 x0 x5).f2.f2) x260000).bind fun t263 => (if 0 ≤ ((rd_T66 x0 x5).f1) then (if ((rd_T66 x0 x5).f1) < (x260000.length : Int) then (if x260001.length < 8796093022208 then (spec_l3Do.l0 k x0 (wrap64 (x5 + 1)) (x260000.set (((rd_T66 x0 x5).f1) : Int).toNat t263) (x260001 ++ [(⟨(rd_T66 x0 x5).f1, t263⟩ : S52)]) x260002) else (none)) else (none)) else (none))) else (if ((rd_T66 x0 x5).f0) = 3 then (if 0 ≤ ((rd_T66 x0 x5).f1) then (if ((rd_T66 x0 x5).f1) < (x260000.length : Int) then (if x260002.length < 8796093022208 then (spec_l3Do.l0 k x0 (wrap64 (x5 + 1)) x260000 x260001 (x260002 ++ [(⟨(rd_T66 x0 x5).f3, rd x260000 ((rd_T66 x0 x5).f1)⟩ : S50)])) else (none)) else (none)) else (none)) else (if 0 ≤ ((rd_T66 x0 x5).f1) then (if ((rd_T66 x0 x5).f1) < (x260000.length : Int) then (if (rd x260000 ((rd_T66 x0 x5).f1)) = 0 then ((spec_l3Do.f k ((rd_T66 x0 x5).f5) x260000 x260001 x260002).bind fun bt273 => (spec_l3Do.l0 k x0 (wrap64 (x5 + 1)) bt273.1 bt273.2.1 bt273.2.2)) else ((spec_l3Do.f k ((rd_T66 x0 x5).f4) x260000 x260001 x260002).bind fun bt282 => (spec_l3Do.l0 k x0 (wrap64 (x5 + 1)) bt282.1 bt282.2.1 bt282.2.2))) else (none)) else (none)))) else (none)) else (some (x260000, x260001, x260002))
def spec_l3Do.f : Nat → List (S66) → List Int → List (S52) → List (S50) → Option (List Int × (List (S52)) × (List (S50)))
 | 0, _, _, _, _ => none
 | k + 1, l0, l1_0, l1_1, l1_2 => spec_l3Do.l0 k l0 0 l1_0 l1_1 l1_2
end
def spec_l3Do.T14 : Bool × List (List Nat × List Nat) := (true, [([], []), ([0], [0]), ([], []), ([2], [2]), ([], []), ([4], [4]), ([], []), ([6], [6]), ([5, 7], [5, 7]), ([8], [8]), ([3, 9], [3, 9]), ([10], [10]), ([1, 11], [1, 11]), ([0, 1, 2, 3, 4, 5, 6, 7, 8, 9, 10, 11, 12], []), ([13, 12, 12, 0, 1, 2, 3, 4, 5, 6, 7, 8, 9, 10, 11, 12], [12, 13])])
def spec_l3Do.B14 : List Nat := [0, 1, 0, 4, 0, 16, 0, 64, 240, 496, 1020, 2044, 4095, 8191, 16383]
theorem spec_l3Do.tab14 : rtab .any (opsOf Try.f24 14) = spec_l3Do.T14 := by kernel_rfl
theorem spec_l3Do.bits14 : waitsOk spec_l3Do.T14.2 spec_l3Do.B14 = true := by kernel_rfl
set_option maxHeartbeats 8000000 in
set_option maxRecDepth 100000 in
theorem spec_l3Do.calls (k : Nat) : ∀ (A0 : Option Addr) (c0 : Nat) (l0 : List (S66)) (P1_0_ : Nat → Prop) (u9000_ : Value) (l1_0 : List Int) (P1_1_ : Nat → Prop) (u9001_ : Value) (l1_1 : List (S52)) (P1_2_ : Nat → Prop) (u9002_ : Value) (l1_2 : List (S50)) (r1 : List Int) (r2 : List (S52)) (r3 : List (S50)) (w0 w : World) (hB : Below w0.heap.size w0 w) (hr0 : ∀ W_, Kept w W_ (fun k_ => P1_0_ k_ ∨ P1_1_ k_ ∨ P1_2_ k_) → Kd.C k66 W_ A0 l0.length l0) (hc0 : l0.length ≤ c0) (ho1_0 : Kd.R (Kd.int .i64) 3 w w0.heap.size P1_0_ u9000_ l1_0) (ho1_1 : Kd.R k52 52 w w0.heap.size P1_1_ u9001_ l1_1) (ho1_2 : Kd.R k50 50 w w0.heap.size P1_2_ u9002_ l1_2) (h : spec_l3Do.f k l0 l1_0 l1_1 l1_2 = some (r1, r2, r3)),
  Calls Try.prog 24 #[.slice A0 l0.length c0, .agg #[u9000_, u9001_, u9002_]] w fun e w' => ∃ v0_ v1_ v2_ : Value, e = .returned (.agg #[v0_, v1_, v2_]) ∧ Kd.R (Kd.int .i64) 3 w' w0.heap.size (fun k_ => ((P1_0_ k_ ∨ P1_1_ k_ ∨ P1_2_ k_) ∨ w.heap.size ≤ k_)) v0_ r1 ∧ Kd.R k52 52 w' w0.heap.size (fun k_ => ((P1_0_ k_ ∨ P1_1_ k_ ∨ P1_2_ k_) ∨ w.heap.size ≤ k_)) v1_ r2 ∧ Kd.R k50 50 w' w0.heap.size (fun k_ => ((P1_0_ k_ ∨ P1_1_ k_ ∨ P1_2_ k_) ∨ w.heap.size ≤ k_)) v2_ r3 ∧ Below w0.heap.size w0 w' ∧ Kept w w' (fun k_ => P1_0_ k_ ∨ P1_1_ k_ ∨ P1_2_ k_) := by
 induction k using Nat.strongRecOn with
 | _ k ih =>
 intro A0 c0 l0 P1_0_ u9000_ l1_0 P1_1_ u9001_ l1_1 P1_2_ u9002_ l1_2 r1 r2 r3 w0 w hB hr0 hc0 ho1_0 ho1_1 ho1_2 h
 cases k with
 | zero => exact absurd h (by simp [spec_l3Do.f])
 | succ k =>
 simp only [spec_l3Do.f] at h
 have hu27 := Try.underlying27
 have hu66 := Try.underlying66
 have hu64 := Try.underlying64
 have hu52 := Try.underlying52
 have hu50 := Try.underlying50
 have HR0 := Aside0.mk hr0
 have HC0 := Aside0.mk hc0
 clear hr0 hc0
 have HO1_0 := Aside0.mk (show Kd.R (Kd.int .i64) 3 w w0.heap.size (fun k_ => ((P1_0_ k_ ∨ P1_1_ k_ ∨ P1_2_ k_) ∨ w.heap.size ≤ k_)) u9000_ l1_0 from Kd.R_mono ho1_0 (fun k_ hk => (.inl (.inl hk))))
 have HO1_1 := Aside0.mk (show Kd.R k52 52 w w0.heap.size (fun k_ => ((P1_0_ k_ ∨ P1_1_ k_ ∨ P1_2_ k_) ∨ w.heap.size ≤ k_)) u9001_ l1_1 from Kd.R_mono ho1_1 (fun k_ hk => (.inl (.inr (.inl hk)))))
 have HO1_2 := Aside0.mk (show Kd.R k50 50 w w0.heap.size (fun k_ => ((P1_0_ k_ ∨ P1_1_ k_ ∨ P1_2_ k_) ∨ w.heap.size ≤ k_)) u9002_ l1_2 from Kd.R_mono ho1_2 (fun k_ hk => (.inl (.inr (.inr hk)))))
 have HK := Aside0.mk (Kept.refl w (fun k_ => P1_0_ k_ ∨ P1_1_ k_ ∨ P1_2_ k_))
 have HW0 := Aside0.mk hB.size
 have HB := Aside0.mk hB
 clear hB
 have H : (spec_l3Do.l0 k l0 0 l1_0 l1_1 l1_2) = some (r1, r2, r3) := h
 clear h
 have H' := Aside0.mk H
 clear H
 obtain ⟨Ao3, co3, eo3⟩ := Kd.R_slice HO1_0.out
 subst eo3
 obtain ⟨Ao4, co4, eo4⟩ := Kd.R_slice HO1_1.out
 subst eo4
 obtain ⟨Ao5, co5, eo5⟩ := Kd.R_slice HO1_2.out
 subst eo5
 go_enter Try.func24, Try.ntmps24
 go_wp2_with (first | ((with_reducible refine gate_dst (N := 3) rfl ?_); refine ZX (N := 3) (cs := #[.slice Ao3 l1_0.length co3, .slice Ao4 l1_1.length co4, .slice Ao5 l1_2.length co5]) (t := 27) ?_; intro gb259 hg w6 hbox hb; have BK259 := Aside0.mk (hbox); have GW259 := Aside0.mk ((by rw [hg]; exact (by first | exact HK.out.1 | exact (show Kept w _ (fun k_ => P1_0_ k_ ∨ P1_1_ k_ ∨ P1_2_ k_) from ZHK HK).1) : w.heap.size ≤ gb259)); have GE259 : Aside0 (w0.heap.size ≤ gb259) := ZS hg; replace HO1_0 := Aside0.mk (Kd.R_below (ZR HO1_0.out) hb); replace HO1_1 := Aside0.mk (Kd.R_below (ZR HO1_1.out) hb); replace HO1_2 := Aside0.mk (Kd.R_below (ZR HO1_2.out) hb); replace HK := Aside0.mk (Kept.below (S := (fun k_ => P1_0_ k_ ∨ P1_1_ k_ ∨ P1_2_ k_)) (ZHK HK) hb); replace HB := ZT HB hb; clear hb hbox hg) | ((with_reducible refine gate_dst (N := 4) rfl ?_); refine ZX (N := 4) (cs := #[.slice none 0 0, .slice none 0 0, .slice none 0 0]) (t := 27) ?_; intro gb260 hg w7 hbox hb; have BK260 := Aside0.mk (hbox); have GW260 := Aside0.mk ((by rw [hg]; exact (by first | exact HK.out.1 | exact (show Kept w _ (fun k_ => P1_0_ k_ ∨ P1_1_ k_ ∨ P1_2_ k_) from ZHK HK).1) : w.heap.size ≤ gb260)); have GE260 : Aside0 (w0.heap.size ≤ gb260) := ZS hg; have NB259_260 : Aside0 (gb259 ≠ gb260) := ZN hg BK259; have NB260_259 : Aside0 (gb260 ≠ gb259) := ZM hg BK259; replace HO1_0 := Aside0.mk (Kd.R_below (ZR HO1_0.out) hb); replace HO1_1 := Aside0.mk (Kd.R_below (ZR HO1_1.out) hb); replace HO1_2 := Aside0.mk (Kd.R_below (ZR HO1_2.out) hb); replace BK259 := ZW BK259 hb; replace HK := Aside0.mk (Kept.below (S := (fun k_ => P1_0_ k_ ∨ P1_1_ k_ ∨ P1_2_ k_)) (ZHK HK) hb); replace HB := ZT HB hb; clear hb hbox hg))
 go_loopg [5] k (fun kq v5 w' => ∃ (x5_1 : Int) (x260000_1 : List Int) (x260001_1 : List (S52)) (x260002_1 : List (S50)) (u260000 : Value) (u260001 : Value) (u260002 : Value), v5 = .int .i64 x5_1 ∧ Aside0 (spec_l3Do.l0 kq l0 x5_1 x260000_1 x260001_1 x260002_1 = some (r1, r2, r3)) ∧ Aside0 (kq ≤ k) ∧ Aside0 (Kd.R (Kd.int .i64) 3 w' w0.heap.size (fun k_ => ((P1_0_ k_ ∨ P1_1_ k_ ∨ P1_2_ k_) ∨ w.heap.size ≤ k_)) u260000 x260000_1) ∧ Aside0 (Kd.R k52 52 w' w0.heap.size (fun k_ => ((P1_0_ k_ ∨ P1_1_ k_ ∨ P1_2_ k_) ∨ w.heap.size ≤ k_)) u260001 x260001_1) ∧ Aside0 (Kd.R k50 50 w' w0.heap.size (fun k_ => ((P1_0_ k_ ∨ P1_1_ k_ ∨ P1_2_ k_) ∨ w.heap.size ≤ k_)) u260002 x260002_1) ∧ Aside0 (w'.heap[gb259]? = some (.cells #[u260000, u260001, u260002] 27 (0, 0))) ∧ Aside0 (w'.heap[gb260]? = some (.cells #[(.slice none 0 0), (.slice none 0 0), (.slice none 0 0)] 27 (0, 0))) ∧ Aside0 (Kept w w' (fun k_ => P1_0_ k_ ∨ P1_1_ k_ ∨ P1_2_ k_)) ∧ Aside0 (Below w0.heap.size w0 w'))
 case atStart => exact ⟨(0), (l1_0), (l1_1), (l1_2), (.slice Ao3 l1_0.length co3), (.slice Ao4 l1_1.length co4), (.slice Ao5 l1_2.length co5), (by first | rfl | (simp; done) | (simp [*]; done)), H', ⟨Nat.le_refl _⟩, ⟨ZR HO1_0.out⟩, ⟨ZR HO1_1.out⟩, ⟨ZR HO1_2.out⟩, ⟨ZK BK259.out⟩, ⟨ZK BK260.out⟩, ⟨ZHK HK⟩, ⟨ZB⟩⟩
 case round =>
  clear H'
  try clear c2
  try clear p2
  obtain ⟨x5_1, x260000_1, x260001_1, x260002_1, u260000, u260001, u260002, rfl, HA, HK1, HO_260000, HO_260001, HO_260002, BK259, BK260, HK, HB⟩ := hrel
  cases gk with
  | zero => exact absurd HA.out (by simp [spec_l3Do.l0])
  | succ k1 =>
   have H := HA.out
   clear HA
   simp only [spec_l3Do.l0] at H
   by_cases c8 : x5_1 < (l0.length : Int)
   ·rw [if_pos c8] at H
    have c8b0 : decide (x5_1 < (l0.length : Int)) = true := decide_eq_true c8
    clear c8
    by_cases c9 : 0 ≤ x5_1
    ·rw [if_pos c9] at H
     have c9b0 : decide (0 ≤ x5_1) = true := decide_eq_true c9
     clear c9
     by_cases c10 : ((rd_T66 l0 x5_1).f0) = 1
     ·rw [if_pos c10] at H
      have c10b0 : (((rd_T66 l0 x5_1).f0) == 1) = true := beq_iff_eq.mpr c10
      have c10b1 : (((rd_T66 l0 x5_1).f0) != 1) = false := bne_eq_false_iff_eq.mpr c10
      clear c10
      replace H := Option.bind_eq_some_iff.mp H
      obtain ⟨t263, A110, H⟩ := H
      replace H : (if 0 ≤ ((rd_T66 l0 x5_1).f1) then (if ((rd_T66 l0 x5_1).f1) < (x260000_1.length : Int) then (if x260001_1.length < 8796093022208 then (spec_l3Do.l0 k1 l0 (wrap64 (x5_1 + 1)) (x260000_1.set (((rd_T66 l0 x5_1).f1) : Int).toNat t263) (x260001_1 ++ [(⟨(rd_T66 l0 x5_1).f1, t263⟩ : S52)]) x260002_1) else (none)) else (none)) else (none)) = some (r1, r2, r3) := H
      have A11 := Aside0.mk A110
      clear A110
      by_cases c12 : 0 ≤ ((rd_T66 l0 x5_1).f1)
      ·rw [if_pos c12] at H
       have c12b0 : decide (0 ≤ ((rd_T66 l0 x5_1).f1)) = true := decide_eq_true c12
       clear c12
       by_cases c13 : ((rd_T66 l0 x5_1).f1) < (x260000_1.length : Int)
       ·rw [if_pos c13] at H
        have c13b0 : decide (((rd_T66 l0 x5_1).f1) < (x260000_1.length : Int)) = true := decide_eq_true c13
        clear c13
        obtain ⟨y264, hy264⟩ : ∃ y_ : List Int, y_ = (x260000_1.set (((rd_T66 l0 x5_1).f1) : Int).toNat t263) := ⟨_, rfl⟩
        replace H : (if x260001_1.length < 8796093022208 then (spec_l3Do.l0 k1 l0 (wrap64 (x5_1 + 1)) y264 (x260001_1 ++ [(⟨(rd_T66 l0 x5_1).f1, t263⟩ : S52)]) x260002_1) else (none)) = some (r1, r2, r3) := by first | (rw [hy264]; with_reducible exact H) | (have H2_ := (Option.bind_some _ _).symm.trans H; rw [hy264]; with_reducible exact H2_) | (have H2_ := (Option.bind_some _ _).symm.trans H; with_reducible exact H2_) | with_reducible exact H | (rw [hy264]; exact H) | exact H
        have Ny264 := Aside0.mk hy264
        clear hy264
        by_cases c15 : x260001_1.length < 8796093022208
        ·rw [if_pos c15] at H
         have LMc15 := Aside0.mk c15
         clear c15
         obtain ⟨y265, hy265⟩ : ∃ y_ : List (S52), y_ = (x260001_1 ++ [(⟨(rd_T66 l0 x5_1).f1, t263⟩ : S52)]) := ⟨_, rfl⟩
         replace H : (spec_l3Do.l0 k1 l0 (wrap64 (x5_1 + 1)) y264 y265 x260002_1) = some (r1, r2, r3) := by first | (rw [hy265]; with_reducible exact H) | (have H2_ := (Option.bind_some _ _).symm.trans H; rw [hy265]; with_reducible exact H2_) | (have H2_ := (Option.bind_some _ _).symm.trans H; with_reducible exact H2_) | with_reducible exact H | (rw [hy265]; exact H) | exact H
         have Ny265 := Aside0.mk hy265
         clear hy265
         have H' := Aside0.mk H
         clear H
         have p261 : 0 ≤ (x5_1 : Int) := ZD
         have q261 : x5_1 < (l0.length : Int) := ZD
         obtain ⟨ad261, A261_6, c261_6, A261_7, c261_7, e261, hx261_0, hx261_1, hx261_2, hx261_3, hx261_4, hx261_5, hx261_6, hx261_7, hl261_6, hi261_6, hl261_7, hi261_7⟩ := at_T66 (Kd.C_kept_now HR0.out HK.out) x5_1 p261 q261
         cases e261
         have hy261_0 := Kd.kept_slot HR0.out (by omega) (by decide) (ZHK HK) hx261_0 (add_block _ _) (Kept.refl _ _)
         have hy261_1 := Kd.kept_slot HR0.out (by omega) (by decide) (ZHK HK) hx261_1 (add_block _ _) (Kept.refl _ _)
         have hy261_2 := Kd.kept_slot HR0.out (by omega) (by decide) (ZHK HK) hx261_2 (add_block _ _) (Kept.refl _ _)
         have hy261_3 := Kd.kept_slot HR0.out (by omega) (by decide) (ZHK HK) hx261_3 (add_block _ _) (Kept.refl _ _)
         have hy261_4 := Kd.kept_slot HR0.out (by omega) (by decide) (ZHK HK) hx261_4 (add_block _ _) (Kept.refl _ _)
         have hy261_5 := Kd.kept_slot HR0.out (by omega) (by decide) (ZHK HK) hx261_5 (add_block _ _) (Kept.refl _ _)
         have hy261_6 := Kd.kept_slot HR0.out (by omega) (by decide) (ZHK HK) hx261_6 (add_block _ _) (Kept.refl _ _)
         have hy261_7 := Kd.kept_slot HR0.out (by omega) (by decide) (ZHK HK) hx261_7 (add_block _ _) (Kept.refl _ _)
         have HR261_6 := Aside0.mk hi261_6
         have HC261_6 := Aside0.mk hl261_6
         clear hi261_6 hl261_6
         have HR261_7 := Aside0.mk hi261_7
         have HC261_7 := Aside0.mk hl261_7
         clear hi261_7 hl261_7
         replace p261 := eq_true p261
         replace q261 := eq_true q261
         go_wp2_with (first | ((with_reducible refine gate_dst (N := 6) rfl ?_); refine ZX (N := 6) (cs := #[.int .i64 0, .int .i64 0, .int .i64 0, .int .i64 0, .int .i64 0, .int .i64 0, .slice none 0 0, .slice none 0 0]) (t := 66) ?_; intro gb262 hg w16 hbox hb; have BK262 := Aside0.mk (hbox); have GW262 := Aside0.mk ((by rw [hg]; exact (by first | exact HK.out.1 | exact (show Kept w _ (fun k_ => P1_0_ k_ ∨ P1_1_ k_ ∨ P1_2_ k_) from ZHK HK).1) : w.heap.size ≤ gb262)); have GE262 : Aside0 (w0.heap.size ≤ gb262) := ZS hg; have NB259_262 : Aside0 (gb259 ≠ gb262) := ZN hg BK259; have NB262_259 : Aside0 (gb262 ≠ gb259) := ZM hg BK259; have NB260_262 : Aside0 (gb260 ≠ gb262) := ZN hg BK260; have NB262_260 : Aside0 (gb262 ≠ gb260) := ZM hg BK260; replace HO_260000 := Aside0.mk (Kd.R_below (ZR HO_260000.out) hb); replace HO_260001 := Aside0.mk (Kd.R_below (ZR HO_260001.out) hb); replace HO_260002 := Aside0.mk (Kd.R_below (ZR HO_260002.out) hb); replace BK259 := ZW BK259 hb; replace BK260 := ZW BK260 hb; replace HR261_6 := Aside0.mk (Kd.C_below (ZQ HR261_6.out) hb); replace HR261_7 := Aside0.mk (Kd.C_below (ZQ HR261_7.out) hb); replace HK := Aside0.mk (Kept.below (S := (fun k_ => P1_0_ k_ ∨ P1_1_ k_ ∨ P1_2_ k_)) (ZHK HK) hb); replace HB := ZT HB hb; clear hb hbox hg; have hnb17 := NB262_259.out; have hnc17 := NB259_262.out; have hnb18 := NB262_260.out; have hnc18 := NB260_262.out; obtain ⟨hcz19_0, hcz19_1, hcz19_2, hcz19_3, hcz19_4, hcz19_5, hcz19_6, hcz19_7⟩ := ZC8 w16 BK262; obtain ⟨hfz19_0, hfz19_1, hfz19_2, hfz19_3, hfz19_4, hfz19_5, hfz19_6, hfz19_7⟩ := ZF8 BK262; have hnb20 := NB259_260.out; have hnc20 := NB260_259.out; obtain ⟨hcz21_0, hcz21_1, hcz21_2⟩ := ZC3 w16 BK259; obtain ⟨hfz21_0, hfz21_1, hfz21_2⟩ := ZF3 BK259; obtain ⟨Ao22, co22, eo22⟩ := Kd.R_slice HO_260000.out; subst eo22) | ((with_reducible refine gate_callee (f := 29) rfl ?_); refine goesL_ (some 41) rfl rfl Try.func29 (by kernel_rfl) rfl #[.agg #[.int .i64 ((rd_T66 l0 x5_1).f2.f0), .int .i64 ((rd_T66 l0 x5_1).f2.f1), .int .i64 ((rd_T66 l0 x5_1).f2.f2)], .slice Ao22 x260000_1.length co22] rfl ZG ?_; (with_reducible refine (spec_l3Num.calls ((rd_T66 l0 x5_1).f2.f0) ((rd_T66 l0 x5_1).f2.f1) ((rd_T66 l0 x5_1).f2.f2) _ _ x260000_1 t263 _ ?side1 ?side2 A11.out).mono ?_); (case side1 => refine (Kd.R_reads' (e := 3) (base := w0.heap.size) (ok := fun k_ => ((P1_0_ k_ ∨ P1_1_ k_ ∨ P1_2_ k_) ∨ w.heap.size ≤ k_)) (n := x260000_1.length) (c := co22) ?_).2.2; exact (ZR ((Kd.R_mono (Kd.R_far (p := ⟨gb262, 7, none⟩) (Kd.R_far (p := ⟨gb262, 6, none⟩) (Kd.R_far (p := ⟨gb262, 5, none⟩) (Kd.R_far (p := ⟨gb262, 4, none⟩) (Kd.R_far (p := ⟨gb262, 3, none⟩) (Kd.R_far (p := ⟨gb262, 2, none⟩) (Kd.R_far (p := ⟨gb262, 1, none⟩) (Kd.R_far (p := ⟨gb262, 0, none⟩) (Kd.R_types HO_260000.out BK262.out (by decide)) (fun _ hk => hk.2) (.int .i64 ((rd_T66 l0 x5_1).f0))) (fun _ hk => hk.2) (.int .i64 ((rd_T66 l0 x5_1).f1))) (fun _ hk => hk.2) (.int .i64 ((rd_T66 l0 x5_1).f2.f0))) (fun _ hk => hk.2) (.int .i64 ((rd_T66 l0 x5_1).f2.f1))) (fun _ hk => hk.2) (.int .i64 ((rd_T66 l0 x5_1).f2.f2))) (fun _ hk => hk.2) (.int .i64 ((rd_T66 l0 x5_1).f3))) (fun _ hk => hk.2) (.slice A261_6 ((rd_T66 l0 x5_1).f4).length c261_6)) (fun _ hk => hk.2) (.slice A261_7 ((rd_T66 l0 x5_1).f5).length c261_7)) (fun _ h_ => h_.1))))); (case side2 => exact (Kd.R_reads' HO_260000.out).2.1); rintro e w23 ⟨rfl, hb⟩; refine ⟨_, rfl, ?_⟩; replace HO_260000 := Aside0.mk (Kd.R_below (ZR ((Kd.R_mono (Kd.R_far (p := ⟨gb262, 7, none⟩) (Kd.R_far (p := ⟨gb262, 6, none⟩) (Kd.R_far (p := ⟨gb262, 5, none⟩) (Kd.R_far (p := ⟨gb262, 4, none⟩) (Kd.R_far (p := ⟨gb262, 3, none⟩) (Kd.R_far (p := ⟨gb262, 2, none⟩) (Kd.R_far (p := ⟨gb262, 1, none⟩) (Kd.R_far (p := ⟨gb262, 0, none⟩) (Kd.R_types HO_260000.out BK262.out (by decide)) (fun _ hk => hk.2) (.int .i64 ((rd_T66 l0 x5_1).f0))) (fun _ hk => hk.2) (.int .i64 ((rd_T66 l0 x5_1).f1))) (fun _ hk => hk.2) (.int .i64 ((rd_T66 l0 x5_1).f2.f0))) (fun _ hk => hk.2) (.int .i64 ((rd_T66 l0 x5_1).f2.f1))) (fun _ hk => hk.2) (.int .i64 ((rd_T66 l0 x5_1).f2.f2))) (fun _ hk => hk.2) (.int .i64 ((rd_T66 l0 x5_1).f3))) (fun _ hk => hk.2) (.slice A261_6 ((rd_T66 l0 x5_1).f4).length c261_6)) (fun _ hk => hk.2) (.slice A261_7 ((rd_T66 l0 x5_1).f5).length c261_7)) (fun _ h_ => h_.1)))) hb); replace HO_260001 := Aside0.mk (Kd.R_below (ZR ((Kd.R_mono (Kd.R_far (p := ⟨gb262, 7, none⟩) (Kd.R_far (p := ⟨gb262, 6, none⟩) (Kd.R_far (p := ⟨gb262, 5, none⟩) (Kd.R_far (p := ⟨gb262, 4, none⟩) (Kd.R_far (p := ⟨gb262, 3, none⟩) (Kd.R_far (p := ⟨gb262, 2, none⟩) (Kd.R_far (p := ⟨gb262, 1, none⟩) (Kd.R_far (p := ⟨gb262, 0, none⟩) (Kd.R_types HO_260001.out BK262.out (by decide)) (fun _ hk => hk.2) (.int .i64 ((rd_T66 l0 x5_1).f0))) (fun _ hk => hk.2) (.int .i64 ((rd_T66 l0 x5_1).f1))) (fun _ hk => hk.2) (.int .i64 ((rd_T66 l0 x5_1).f2.f0))) (fun _ hk => hk.2) (.int .i64 ((rd_T66 l0 x5_1).f2.f1))) (fun _ hk => hk.2) (.int .i64 ((rd_T66 l0 x5_1).f2.f2))) (fun _ hk => hk.2) (.int .i64 ((rd_T66 l0 x5_1).f3))) (fun _ hk => hk.2) (.slice A261_6 ((rd_T66 l0 x5_1).f4).length c261_6)) (fun _ hk => hk.2) (.slice A261_7 ((rd_T66 l0 x5_1).f5).length c261_7)) (fun _ h_ => h_.1)))) hb); replace HO_260002 := Aside0.mk (Kd.R_below (ZR ((Kd.R_mono (Kd.R_far (p := ⟨gb262, 7, none⟩) (Kd.R_far (p := ⟨gb262, 6, none⟩) (Kd.R_far (p := ⟨gb262, 5, none⟩) (Kd.R_far (p := ⟨gb262, 4, none⟩) (Kd.R_far (p := ⟨gb262, 3, none⟩) (Kd.R_far (p := ⟨gb262, 2, none⟩) (Kd.R_far (p := ⟨gb262, 1, none⟩) (Kd.R_far (p := ⟨gb262, 0, none⟩) (Kd.R_types HO_260002.out BK262.out (by decide)) (fun _ hk => hk.2) (.int .i64 ((rd_T66 l0 x5_1).f0))) (fun _ hk => hk.2) (.int .i64 ((rd_T66 l0 x5_1).f1))) (fun _ hk => hk.2) (.int .i64 ((rd_T66 l0 x5_1).f2.f0))) (fun _ hk => hk.2) (.int .i64 ((rd_T66 l0 x5_1).f2.f1))) (fun _ hk => hk.2) (.int .i64 ((rd_T66 l0 x5_1).f2.f2))) (fun _ hk => hk.2) (.int .i64 ((rd_T66 l0 x5_1).f3))) (fun _ hk => hk.2) (.slice A261_6 ((rd_T66 l0 x5_1).f4).length c261_6)) (fun _ hk => hk.2) (.slice A261_7 ((rd_T66 l0 x5_1).f5).length c261_7)) (fun _ h_ => h_.1)))) hb); replace BK259 := ZV #[.slice Ao22 x260000_1.length co22, u260001, u260002] BK259 hb; replace BK260 := ZV #[.slice none 0 0, .slice none 0 0, .slice none 0 0] BK260 hb; replace HR261_6 := Aside0.mk (Kd.C_below (Kd.C_kept_now (fun W_ k_ => by have hw_ := Kd.kept_slot HR0.out (by have := (of_eq_true p261); have := (of_eq_true q261); omega) (by decide) (Kept.refl _ _) hy261_6 (add_block _ _) k_; obtain ⟨ad_, A6_, c6_, A7_, c7_, e_, m0_, m1_, m2_, m3_, m4_, m5_, m6_, m7_, y6_, z6_, y7_, z7_⟩ := at_T66 (HR0.out W_ k_) (x5_1) (by first | exact of_eq_true p261 | exact p261) (by first | exact of_eq_true q261 | exact q261); cases e_; rw [hw_] at m6_; cases m6_; exact z6_) (ZHK HK)) hb); replace HR261_7 := Aside0.mk (Kd.C_below (Kd.C_kept_now (fun W_ k_ => by have hw_ := Kd.kept_slot HR0.out (by have := (of_eq_true p261); have := (of_eq_true q261); omega) (by decide) (Kept.refl _ _) hy261_7 (add_block _ _) k_; obtain ⟨ad_, A6_, c6_, A7_, c7_, e_, m0_, m1_, m2_, m3_, m4_, m5_, m6_, m7_, y6_, z6_, y7_, z7_⟩ := at_T66 (HR0.out W_ k_) (x5_1) (by first | exact of_eq_true p261 | exact p261) (by first | exact of_eq_true q261 | exact q261); cases e_; rw [hw_] at m7_; cases m7_; exact z7_) (ZHK HK)) hb); replace BK262 := ZV #[.int .i64 ((rd_T66 l0 x5_1).f0), .int .i64 ((rd_T66 l0 x5_1).f1), .int .i64 ((rd_T66 l0 x5_1).f2.f0), .int .i64 ((rd_T66 l0 x5_1).f2.f1), .int .i64 ((rd_T66 l0 x5_1).f2.f2), .int .i64 ((rd_T66 l0 x5_1).f3), .slice A261_6 ((rd_T66 l0 x5_1).f4).length c261_6, .slice A261_7 ((rd_T66 l0 x5_1).f5).length c261_7] BK262 hb; replace HK := Aside0.mk (Kept.below (S := (fun k_ => P1_0_ k_ ∨ P1_1_ k_ ∨ P1_2_ k_)) (ZHK HK) hb); replace HB := ZT HB hb; (try clear hb); (try clear hb2); (try clear hk); (try clear hi); obtain ⟨hcz24_0, hcz24_1, hcz24_2⟩ := ZC3 w23 BK259; obtain ⟨hfz24_0, hfz24_1, hfz24_2⟩ := ZF3 BK259; obtain ⟨hcz25_0, hcz25_1, hcz25_2, hcz25_3, hcz25_4, hcz25_5, hcz25_6, hcz25_7⟩ := ZC8 w23 BK262; obtain ⟨hfz25_0, hfz25_1, hfz25_2, hfz25_3, hfz25_4, hfz25_5, hfz25_6, hfz25_7⟩ := ZF8 BK262; have p14 : 0 ≤ (((rd_T66 l0 x5_1).f1) : Int) := ZD; have q14 : (((rd_T66 l0 x5_1).f1) : Int) < ((x260000_1.length : Int) : Int) := ZD; obtain ⟨go14, co14, eo14, gb14, gl14, cl14, HG14⟩ := Kd.R_form HO_260000.out (by omega); (first | cases eo14 | (injection eo14 with ea_ en_ ec_; (first | subst ea_ | (injection ea_ with ea_; subst ea_)); subst ec_; clear en_)); have GB14 := Aside0.mk gb14; have GG14 := Aside0.mk HG14; clear gb14 gl14 HG14; have HMgo14 := Aside0.mk (show ((P1_0_ go14 ∨ P1_1_ go14 ∨ P1_2_ go14) ∨ w.heap.size ≤ go14) from (HO_260000.out.1 _ rfl)); obtain ⟨hx14_0, hf14_0⟩ := Kd.R_celln 0 HO_260000.out (((rd_T66 l0 x5_1).f1) : Int) p14 q14; replace p14 := eq_true p14; replace q14 := eq_true q14; obtain ⟨hy26_, hz26_⟩ := Kd.R_celln 0 HO_260000.out (((rd_T66 l0 x5_1).f1) : Int) (ZD) (ZD); have HP26 := Kd.R_putg HO_260000.out (((rd_T66 l0 x5_1).f1) : Int) t263) | ((with_reducible refine gate_store (t := 3) (p := 47) rfl ?_); refine store_event (t := 3) (p := 47) (v := ?vo_w27) (w1 := (w23.setCell ⟨go14, (((rd_T66 l0 x5_1).f1) : Int).toNat, none⟩ (.int .i64 t263))) ?hg ?ho ?hn ?hr ?_; (case ho => rfl); (case hg => rfl); (case hn => rfl); (case hr => first | (go_simp; done) | (go_simp; rfl)); intro w27 hw; have hg : w23.grownBy w27 (some go14) := (by rw [hw]; exact HP26.2); have hp_ : Kd.R (Kd.int .i64) 3 w27 w0.heap.size (fun k_ => ((P1_0_ k_ ∨ P1_1_ k_ ∨ P1_2_ k_) ∨ w.heap.size ≤ k_)) (.slice (some ⟨go14, 0, none⟩) x260000_1.length co22) y264 := (by rw [hw, Ny264.out]; exact HP26.1); clear HP26; replace HO_260001 := Aside0.mk (Kd.R_over' (v := (.slice (some ⟨go14, 0, none⟩) x260000_1.length co22)) (ZR HO_260001.out) (Kd.R_typed HO_260000.out) (by decide) hg); replace HO_260002 := Aside0.mk (Kd.R_over' (v := (.slice (some ⟨go14, 0, none⟩) x260000_1.length co22)) (ZR HO_260002.out) (Kd.R_typed HO_260000.out) (by decide) hg); replace BK259 := Aside0.mk (blk_grown (g := gb259) (o := .cells #[.slice (some ⟨go14, 0, none⟩) x260000_1.length co22, u260001, u260002] 27 (0, 0)) (ZK BK259.out) hg (Kd.R_ne HO_260000.out BK259.out (by decide))); replace BK260 := Aside0.mk (blk_grown (g := gb260) (o := .cells #[.slice none 0 0, .slice none 0 0, .slice none 0 0] 27 (0, 0)) (ZK BK260.out) hg (Kd.R_ne HO_260000.out BK260.out (by decide))); replace BK262 := Aside0.mk (blk_grown (g := gb262) (o := .cells #[.int .i64 ((rd_T66 l0 x5_1).f0), .int .i64 ((rd_T66 l0 x5_1).f1), .int .i64 ((rd_T66 l0 x5_1).f2.f0), .int .i64 ((rd_T66 l0 x5_1).f2.f1), .int .i64 ((rd_T66 l0 x5_1).f2.f2), .int .i64 ((rd_T66 l0 x5_1).f3), .slice A261_6 ((rd_T66 l0 x5_1).f4).length c261_6, .slice A261_7 ((rd_T66 l0 x5_1).f5).length c261_7] 66 (0, 0)) (ZK BK262.out) hg (Kd.R_ne HO_260000.out BK262.out (by decide))); replace HB := Aside0.mk ((by rw [hw]; exact below_set (HB.out) GB14.out : Below w0.heap.size w0 w27)); replace HK := Aside0.mk (Kept.of_grown (S := (fun k_ => P1_0_ k_ ∨ P1_1_ k_ ∨ P1_2_ k_)) hg (ZHK HK) (fun k_ e_ => (HO_260000.out.1 k_ e_))); replace HO_260000 := Aside0.mk (hp_); clear hg hw hp_; obtain ⟨hcz28_0, hcz28_1, hcz28_2⟩ := ZC3 w27 BK259; obtain ⟨hfz28_0, hfz28_1, hfz28_2⟩ := ZF3 BK259; obtain ⟨hcz29_0, hcz29_1, hcz29_2, hcz29_3, hcz29_4, hcz29_5, hcz29_6, hcz29_7⟩ := ZC8 w27 BK262; obtain ⟨hfz29_0, hfz29_1, hfz29_2, hfz29_3, hfz29_4, hfz29_5, hfz29_6, hfz29_7⟩ := ZF8 BK262) | ((with_reducible refine gate_builtin (b := .append) (xs := #[.tmp 49, .tmp 54]) rfl ?_); at_builtin; refine Kd.R_append k52 (w0 := w0) w0.heap.size rfl (.tmp 49) (.tmp 54) 24 52 (.agg #[(.int .i64 0), (.int .i64 0)]) 16 rfl Try.underlying24 info52 rfl (by decide) (by omega) u260001 x260001_1 (⟨(rd_T66 l0 x5_1).f1, t263⟩ : S52) [.int .i64 ((rd_T66 l0 x5_1).f1), .int .i64 t263] (fun k_ => ((P1_0_ k_ ∨ P1_1_ k_ ∨ P1_2_ k_) ∨ w.heap.size ≤ k_)) (fun _ => False) rfl rfl ?aP (fun _ hk => hk.elim) ?aF ?aO ?aB ?aS ?aL ?_; (case aP => exact k52_mkM _ _ _ (⟨(rd_T66 l0 x5_1).f1, t263⟩ : S52)); (case aB => exact (ZB)); (case aF => exact (fun k_ hk => (.inr (Nat.le_trans (by first | exact HK.out.1 | exact (show Kept w _ (fun k_ => P1_0_ k_ ∨ P1_1_ k_ ∨ P1_2_ k_) from ZHK HK).1) hk)))); (case aO => exact (ZR HO_260001.out)); (case aS => exact (below_size (ZB))); (case aL => have := LMc15.out; omega); intro v266 w30 ho hb hg hat; rw [← Ny265.out] at ho; have n0_ := Aside0.mk (Kd.R_over' (ZR HO_260000.out) (Kd.R_typed (ZR HO_260001.out)) (by decide) hg); have n1_ := Aside0.mk (Kd.R_over' (ZR HO_260002.out) (Kd.R_typed (ZR HO_260001.out)) (by decide) hg); have n2_ := Aside0.mk (blk_grown (g := gb259) (o := .cells #[.slice (some ⟨go14, 0, none⟩) x260000_1.length co22, u260001, u260002] 27 (0, 0)) (ZK BK259.out) hg (Kd.R_ne HO_260001.out BK259.out (by decide))); have n3_ := Aside0.mk (blk_grown (g := gb260) (o := .cells #[.slice none 0 0, .slice none 0 0, .slice none 0 0] 27 (0, 0)) (ZK BK260.out) hg (Kd.R_ne HO_260001.out BK260.out (by decide))); have n4_ := Aside0.mk (blk_grown (g := gb262) (o := .cells #[.int .i64 ((rd_T66 l0 x5_1).f0), .int .i64 ((rd_T66 l0 x5_1).f1), .int .i64 ((rd_T66 l0 x5_1).f2.f0), .int .i64 ((rd_T66 l0 x5_1).f2.f1), .int .i64 ((rd_T66 l0 x5_1).f2.f2), .int .i64 ((rd_T66 l0 x5_1).f3), .slice A261_6 ((rd_T66 l0 x5_1).f4).length c261_6, .slice A261_7 ((rd_T66 l0 x5_1).f5).length c261_7] 66 (0, 0)) (ZK BK262.out) hg (Kd.R_ne HO_260001.out BK262.out (by decide))); have n5_ := Aside0.mk (hb); have n6_ := Aside0.mk (Kept.of_grown (S := (fun k_ => P1_0_ k_ ∨ P1_1_ k_ ∨ P1_2_ k_)) hg (ZHK HK) (fun k_ e_ => (HO_260001.out.1 k_ e_))); have n7_ := Aside0.mk (ho); clear HO_260000; clear HO_260002; clear BK259; clear BK260; clear BK262; clear HB; clear HK; clear HO_260001; have HO_260000 := n0_; have HO_260002 := n1_; have BK259 := n2_; have BK260 := n3_; have BK262 := n4_; have HB := n5_; have HK := n6_; have HO267 := n7_; clear n0_ n1_ n2_ n3_ n4_ n5_ n6_ n7_; clear ho hb hg hat; obtain ⟨Ao31, co31, eo31⟩ := Kd.R_slice HO267.out; subst eo31; obtain ⟨hcz32_0, hcz32_1, hcz32_2⟩ := ZC3 w30 BK259; obtain ⟨hfz32_0, hfz32_1, hfz32_2⟩ := ZF3 BK259))
         go_roundg k1
         case measure => have := HK1.out; omega
         case rel => exact ⟨(wrap64 (x5_1 + 1)), (y264), (y265), (x260002_1), (.slice (some ⟨go14, 0, none⟩) x260000_1.length co22), (.slice Ao31 y265.length co31), (u260002), (by first | rfl | (simp; done) | (simp [*]; done)), H', ⟨by have := HK1.out; omega⟩, ⟨ZR (Kd.R_mono (Kd.R_far (p := ⟨gb259, 1, none⟩) (Kd.R_types HO_260000.out BK259.out (by decide)) (fun _ hk => hk.2) (.slice Ao31 y265.length co31)) (fun _ hk => hk.1))⟩, ⟨ZR (Kd.R_mono (Kd.R_far (p := ⟨gb259, 1, none⟩) (Kd.R_types HO267.out BK259.out (by decide)) (fun _ hk => hk.2) (.slice Ao31 y265.length co31)) (fun _ hk => hk.1))⟩, ⟨ZR (Kd.R_mono (Kd.R_far (p := ⟨gb259, 1, none⟩) (Kd.R_types HO_260002.out BK259.out (by decide)) (fun _ hk => hk.2) (.slice Ao31 y265.length co31)) (fun _ hk => hk.1))⟩, ⟨ZZ BK259.out⟩, ⟨ZZ BK260.out⟩, ⟨ZHK HK⟩, ⟨ZB⟩⟩
        ·rw [if_neg c15] at H
         exact absurd H (by simp)
       ·rw [if_neg c13] at H
        exact absurd H (by simp)
      ·rw [if_neg c12] at H
       exact absurd H (by simp)
     ·rw [if_neg c10] at H
      have c10b0 : (((rd_T66 l0 x5_1).f0) == 1) = false := beq_eq_false_iff_ne.mpr c10
      have c10b1 : (((rd_T66 l0 x5_1).f0) != 1) = true := bne_iff_ne.mpr c10
      by_cases c33 : ((rd_T66 l0 x5_1).f0) = 3
      ·rw [if_pos c33] at H
       have c33b0 : (((rd_T66 l0 x5_1).f0) == 3) = true := beq_iff_eq.mpr c33
       have c33b1 : (((rd_T66 l0 x5_1).f0) != 3) = false := bne_eq_false_iff_eq.mpr c33
       clear c33
       by_cases c34 : 0 ≤ ((rd_T66 l0 x5_1).f1)
       ·rw [if_pos c34] at H
        have c34b0 : decide (0 ≤ ((rd_T66 l0 x5_1).f1)) = true := decide_eq_true c34
        clear c34
        by_cases c35 : ((rd_T66 l0 x5_1).f1) < (x260000_1.length : Int)
        ·rw [if_pos c35] at H
         have c35b0 : decide (((rd_T66 l0 x5_1).f1) < (x260000_1.length : Int)) = true := decide_eq_true c35
         clear c35
         by_cases c36 : x260002_1.length < 8796093022208
         ·rw [if_pos c36] at H
          have LMc36 := Aside0.mk c36
          clear c36
          obtain ⟨y269, hy269⟩ : ∃ y_ : List (S50), y_ = (x260002_1 ++ [(⟨(rd_T66 l0 x5_1).f3, rd x260000_1 ((rd_T66 l0 x5_1).f1)⟩ : S50)]) := ⟨_, rfl⟩
          replace H : (spec_l3Do.l0 k1 l0 (wrap64 (x5_1 + 1)) x260000_1 x260001_1 y269) = some (r1, r2, r3) := by first | (rw [hy269]; with_reducible exact H) | (have H2_ := (Option.bind_some _ _).symm.trans H; rw [hy269]; with_reducible exact H2_) | (have H2_ := (Option.bind_some _ _).symm.trans H; with_reducible exact H2_) | with_reducible exact H | (rw [hy269]; exact H) | exact H
          have Ny269 := Aside0.mk hy269
          clear hy269
          have H' := Aside0.mk H
          clear H
          have p261 : 0 ≤ (x5_1 : Int) := ZD
          have q261 : x5_1 < (l0.length : Int) := ZD
          obtain ⟨ad261, A261_6, c261_6, A261_7, c261_7, e261, hx261_0, hx261_1, hx261_2, hx261_3, hx261_4, hx261_5, hx261_6, hx261_7, hl261_6, hi261_6, hl261_7, hi261_7⟩ := at_T66 (Kd.C_kept_now HR0.out HK.out) x5_1 p261 q261
          cases e261
          have hy261_0 := Kd.kept_slot HR0.out (by omega) (by decide) (ZHK HK) hx261_0 (add_block _ _) (Kept.refl _ _)
          have hy261_1 := Kd.kept_slot HR0.out (by omega) (by decide) (ZHK HK) hx261_1 (add_block _ _) (Kept.refl _ _)
          have hy261_2 := Kd.kept_slot HR0.out (by omega) (by decide) (ZHK HK) hx261_2 (add_block _ _) (Kept.refl _ _)
          have hy261_3 := Kd.kept_slot HR0.out (by omega) (by decide) (ZHK HK) hx261_3 (add_block _ _) (Kept.refl _ _)
          have hy261_4 := Kd.kept_slot HR0.out (by omega) (by decide) (ZHK HK) hx261_4 (add_block _ _) (Kept.refl _ _)
          have hy261_5 := Kd.kept_slot HR0.out (by omega) (by decide) (ZHK HK) hx261_5 (add_block _ _) (Kept.refl _ _)
          have hy261_6 := Kd.kept_slot HR0.out (by omega) (by decide) (ZHK HK) hx261_6 (add_block _ _) (Kept.refl _ _)
          have hy261_7 := Kd.kept_slot HR0.out (by omega) (by decide) (ZHK HK) hx261_7 (add_block _ _) (Kept.refl _ _)
          have HR261_6 := Aside0.mk hi261_6
          have HC261_6 := Aside0.mk hl261_6
          clear hi261_6 hl261_6
          have HR261_7 := Aside0.mk hi261_7
          have HC261_7 := Aside0.mk hl261_7
          clear hi261_7 hl261_7
          replace p261 := eq_true p261
          replace q261 := eq_true q261
          try go_wp2_with (first | ((with_reducible refine gate_dst (N := 6) rfl ?_); refine ZX (N := 6) (cs := #[.int .i64 0, .int .i64 0, .int .i64 0, .int .i64 0, .int .i64 0, .int .i64 0, .slice none 0 0, .slice none 0 0]) (t := 66) ?_; intro gb262 hg w37 hbox hb; have BK262 := Aside0.mk (hbox); have GW262 := Aside0.mk ((by rw [hg]; exact (by first | exact HK.out.1 | exact (show Kept w _ (fun k_ => P1_0_ k_ ∨ P1_1_ k_ ∨ P1_2_ k_) from ZHK HK).1) : w.heap.size ≤ gb262)); have GE262 : Aside0 (w0.heap.size ≤ gb262) := ZS hg; have NB259_262 : Aside0 (gb259 ≠ gb262) := ZN hg BK259; have NB262_259 : Aside0 (gb262 ≠ gb259) := ZM hg BK259; have NB260_262 : Aside0 (gb260 ≠ gb262) := ZN hg BK260; have NB262_260 : Aside0 (gb262 ≠ gb260) := ZM hg BK260; replace HO_260000 := Aside0.mk (Kd.R_below (ZR HO_260000.out) hb); replace HO_260001 := Aside0.mk (Kd.R_below (ZR HO_260001.out) hb); replace HO_260002 := Aside0.mk (Kd.R_below (ZR HO_260002.out) hb); replace BK259 := ZW BK259 hb; replace BK260 := ZW BK260 hb; replace HR261_6 := Aside0.mk (Kd.C_below (ZQ HR261_6.out) hb); replace HR261_7 := Aside0.mk (Kd.C_below (ZQ HR261_7.out) hb); replace HK := Aside0.mk (Kept.below (S := (fun k_ => P1_0_ k_ ∨ P1_1_ k_ ∨ P1_2_ k_)) (ZHK HK) hb); replace HB := ZT HB hb; clear hb hbox hg; have hnb38 := NB262_259.out; have hnc38 := NB259_262.out; have hnb39 := NB262_260.out; have hnc39 := NB260_262.out; obtain ⟨hcz40_0, hcz40_1, hcz40_2, hcz40_3, hcz40_4, hcz40_5, hcz40_6, hcz40_7⟩ := ZC8 w37 BK262; obtain ⟨hfz40_0, hfz40_1, hfz40_2, hfz40_3, hfz40_4, hfz40_5, hfz40_6, hfz40_7⟩ := ZF8 BK262))
          have n0_ : Aside0 (Kd.R (Kd.int .i64) 3 ((((((((w37.setCell ⟨gb262, 0, none⟩ (.int .i64 ((rd_T66 l0 x5_1).f0))).setCell ⟨gb262, 1, none⟩ (.int .i64 ((rd_T66 l0 x5_1).f1))).setCell ⟨gb262, 2, none⟩ (.int .i64 ((rd_T66 l0 x5_1).f2.f0))).setCell ⟨gb262, 3, none⟩ (.int .i64 ((rd_T66 l0 x5_1).f2.f1))).setCell ⟨gb262, 4, none⟩ (.int .i64 ((rd_T66 l0 x5_1).f2.f2))).setCell ⟨gb262, 5, none⟩ (.int .i64 ((rd_T66 l0 x5_1).f3))).setCell ⟨gb262, 6, none⟩ (.slice A261_6 ((rd_T66 l0 x5_1).f4).length c261_6)).setCell ⟨gb262, 7, none⟩ (.slice A261_7 ((rd_T66 l0 x5_1).f5).length c261_7)) w0.heap.size (fun k_ => ((P1_0_ k_ ∨ P1_1_ k_ ∨ P1_2_ k_) ∨ w.heap.size ≤ k_)) u260000 x260000_1) := ⟨ZR (Kd.R_mono (Kd.R_far (p := ⟨gb262, 7, none⟩) (Kd.R_far (p := ⟨gb262, 6, none⟩) (Kd.R_far (p := ⟨gb262, 5, none⟩) (Kd.R_far (p := ⟨gb262, 4, none⟩) (Kd.R_far (p := ⟨gb262, 3, none⟩) (Kd.R_far (p := ⟨gb262, 2, none⟩) (Kd.R_far (p := ⟨gb262, 1, none⟩) (Kd.R_far (p := ⟨gb262, 0, none⟩) (Kd.R_types HO_260000.out BK262.out (by decide)) (fun _ hk => hk.2) (.int .i64 ((rd_T66 l0 x5_1).f0))) (fun _ hk => hk.2) (.int .i64 ((rd_T66 l0 x5_1).f1))) (fun _ hk => hk.2) (.int .i64 ((rd_T66 l0 x5_1).f2.f0))) (fun _ hk => hk.2) (.int .i64 ((rd_T66 l0 x5_1).f2.f1))) (fun _ hk => hk.2) (.int .i64 ((rd_T66 l0 x5_1).f2.f2))) (fun _ hk => hk.2) (.int .i64 ((rd_T66 l0 x5_1).f3))) (fun _ hk => hk.2) (.slice A261_6 ((rd_T66 l0 x5_1).f4).length c261_6)) (fun _ hk => hk.2) (.slice A261_7 ((rd_T66 l0 x5_1).f5).length c261_7)) (fun _ hk => hk.1))⟩
          have n1_ : Aside0 (Kd.R k52 52 ((((((((w37.setCell ⟨gb262, 0, none⟩ (.int .i64 ((rd_T66 l0 x5_1).f0))).setCell ⟨gb262, 1, none⟩ (.int .i64 ((rd_T66 l0 x5_1).f1))).setCell ⟨gb262, 2, none⟩ (.int .i64 ((rd_T66 l0 x5_1).f2.f0))).setCell ⟨gb262, 3, none⟩ (.int .i64 ((rd_T66 l0 x5_1).f2.f1))).setCell ⟨gb262, 4, none⟩ (.int .i64 ((rd_T66 l0 x5_1).f2.f2))).setCell ⟨gb262, 5, none⟩ (.int .i64 ((rd_T66 l0 x5_1).f3))).setCell ⟨gb262, 6, none⟩ (.slice A261_6 ((rd_T66 l0 x5_1).f4).length c261_6)).setCell ⟨gb262, 7, none⟩ (.slice A261_7 ((rd_T66 l0 x5_1).f5).length c261_7)) w0.heap.size (fun k_ => ((P1_0_ k_ ∨ P1_1_ k_ ∨ P1_2_ k_) ∨ w.heap.size ≤ k_)) u260001 x260001_1) := ⟨ZR (Kd.R_mono (Kd.R_far (p := ⟨gb262, 7, none⟩) (Kd.R_far (p := ⟨gb262, 6, none⟩) (Kd.R_far (p := ⟨gb262, 5, none⟩) (Kd.R_far (p := ⟨gb262, 4, none⟩) (Kd.R_far (p := ⟨gb262, 3, none⟩) (Kd.R_far (p := ⟨gb262, 2, none⟩) (Kd.R_far (p := ⟨gb262, 1, none⟩) (Kd.R_far (p := ⟨gb262, 0, none⟩) (Kd.R_types HO_260001.out BK262.out (by decide)) (fun _ hk => hk.2) (.int .i64 ((rd_T66 l0 x5_1).f0))) (fun _ hk => hk.2) (.int .i64 ((rd_T66 l0 x5_1).f1))) (fun _ hk => hk.2) (.int .i64 ((rd_T66 l0 x5_1).f2.f0))) (fun _ hk => hk.2) (.int .i64 ((rd_T66 l0 x5_1).f2.f1))) (fun _ hk => hk.2) (.int .i64 ((rd_T66 l0 x5_1).f2.f2))) (fun _ hk => hk.2) (.int .i64 ((rd_T66 l0 x5_1).f3))) (fun _ hk => hk.2) (.slice A261_6 ((rd_T66 l0 x5_1).f4).length c261_6)) (fun _ hk => hk.2) (.slice A261_7 ((rd_T66 l0 x5_1).f5).length c261_7)) (fun _ hk => hk.1))⟩
          have n2_ : Aside0 (Kd.R k50 50 ((((((((w37.setCell ⟨gb262, 0, none⟩ (.int .i64 ((rd_T66 l0 x5_1).f0))).setCell ⟨gb262, 1, none⟩ (.int .i64 ((rd_T66 l0 x5_1).f1))).setCell ⟨gb262, 2, none⟩ (.int .i64 ((rd_T66 l0 x5_1).f2.f0))).setCell ⟨gb262, 3, none⟩ (.int .i64 ((rd_T66 l0 x5_1).f2.f1))).setCell ⟨gb262, 4, none⟩ (.int .i64 ((rd_T66 l0 x5_1).f2.f2))).setCell ⟨gb262, 5, none⟩ (.int .i64 ((rd_T66 l0 x5_1).f3))).setCell ⟨gb262, 6, none⟩ (.slice A261_6 ((rd_T66 l0 x5_1).f4).length c261_6)).setCell ⟨gb262, 7, none⟩ (.slice A261_7 ((rd_T66 l0 x5_1).f5).length c261_7)) w0.heap.size (fun k_ => ((P1_0_ k_ ∨ P1_1_ k_ ∨ P1_2_ k_) ∨ w.heap.size ≤ k_)) u260002 x260002_1) := ⟨ZR (Kd.R_mono (Kd.R_far (p := ⟨gb262, 7, none⟩) (Kd.R_far (p := ⟨gb262, 6, none⟩) (Kd.R_far (p := ⟨gb262, 5, none⟩) (Kd.R_far (p := ⟨gb262, 4, none⟩) (Kd.R_far (p := ⟨gb262, 3, none⟩) (Kd.R_far (p := ⟨gb262, 2, none⟩) (Kd.R_far (p := ⟨gb262, 1, none⟩) (Kd.R_far (p := ⟨gb262, 0, none⟩) (Kd.R_types HO_260002.out BK262.out (by decide)) (fun _ hk => hk.2) (.int .i64 ((rd_T66 l0 x5_1).f0))) (fun _ hk => hk.2) (.int .i64 ((rd_T66 l0 x5_1).f1))) (fun _ hk => hk.2) (.int .i64 ((rd_T66 l0 x5_1).f2.f0))) (fun _ hk => hk.2) (.int .i64 ((rd_T66 l0 x5_1).f2.f1))) (fun _ hk => hk.2) (.int .i64 ((rd_T66 l0 x5_1).f2.f2))) (fun _ hk => hk.2) (.int .i64 ((rd_T66 l0 x5_1).f3))) (fun _ hk => hk.2) (.slice A261_6 ((rd_T66 l0 x5_1).f4).length c261_6)) (fun _ hk => hk.2) (.slice A261_7 ((rd_T66 l0 x5_1).f5).length c261_7)) (fun _ hk => hk.1))⟩
          have n3_ : Aside0 (((((((((w37.setCell ⟨gb262, 0, none⟩ (.int .i64 ((rd_T66 l0 x5_1).f0))).setCell ⟨gb262, 1, none⟩ (.int .i64 ((rd_T66 l0 x5_1).f1))).setCell ⟨gb262, 2, none⟩ (.int .i64 ((rd_T66 l0 x5_1).f2.f0))).setCell ⟨gb262, 3, none⟩ (.int .i64 ((rd_T66 l0 x5_1).f2.f1))).setCell ⟨gb262, 4, none⟩ (.int .i64 ((rd_T66 l0 x5_1).f2.f2))).setCell ⟨gb262, 5, none⟩ (.int .i64 ((rd_T66 l0 x5_1).f3))).setCell ⟨gb262, 6, none⟩ (.slice A261_6 ((rd_T66 l0 x5_1).f4).length c261_6)).setCell ⟨gb262, 7, none⟩ (.slice A261_7 ((rd_T66 l0 x5_1).f5).length c261_7)).heap[gb259]? = some (.cells #[u260000, u260001, u260002] 27 (0, 0))) := ⟨ZZ BK259.out⟩
          have n4_ : Aside0 (((((((((w37.setCell ⟨gb262, 0, none⟩ (.int .i64 ((rd_T66 l0 x5_1).f0))).setCell ⟨gb262, 1, none⟩ (.int .i64 ((rd_T66 l0 x5_1).f1))).setCell ⟨gb262, 2, none⟩ (.int .i64 ((rd_T66 l0 x5_1).f2.f0))).setCell ⟨gb262, 3, none⟩ (.int .i64 ((rd_T66 l0 x5_1).f2.f1))).setCell ⟨gb262, 4, none⟩ (.int .i64 ((rd_T66 l0 x5_1).f2.f2))).setCell ⟨gb262, 5, none⟩ (.int .i64 ((rd_T66 l0 x5_1).f3))).setCell ⟨gb262, 6, none⟩ (.slice A261_6 ((rd_T66 l0 x5_1).f4).length c261_6)).setCell ⟨gb262, 7, none⟩ (.slice A261_7 ((rd_T66 l0 x5_1).f5).length c261_7)).heap[gb260]? = some (.cells #[.slice none 0 0, .slice none 0 0, .slice none 0 0] 27 (0, 0))) := ⟨ZZ BK260.out⟩
          have n5_ : Aside0 (((((((((w37.setCell ⟨gb262, 0, none⟩ (.int .i64 ((rd_T66 l0 x5_1).f0))).setCell ⟨gb262, 1, none⟩ (.int .i64 ((rd_T66 l0 x5_1).f1))).setCell ⟨gb262, 2, none⟩ (.int .i64 ((rd_T66 l0 x5_1).f2.f0))).setCell ⟨gb262, 3, none⟩ (.int .i64 ((rd_T66 l0 x5_1).f2.f1))).setCell ⟨gb262, 4, none⟩ (.int .i64 ((rd_T66 l0 x5_1).f2.f2))).setCell ⟨gb262, 5, none⟩ (.int .i64 ((rd_T66 l0 x5_1).f3))).setCell ⟨gb262, 6, none⟩ (.slice A261_6 ((rd_T66 l0 x5_1).f4).length c261_6)).setCell ⟨gb262, 7, none⟩ (.slice A261_7 ((rd_T66 l0 x5_1).f5).length c261_7)).heap[gb262]? = some (.cells #[.int .i64 ((rd_T66 l0 x5_1).f0), .int .i64 ((rd_T66 l0 x5_1).f1), .int .i64 ((rd_T66 l0 x5_1).f2.f0), .int .i64 ((rd_T66 l0 x5_1).f2.f1), .int .i64 ((rd_T66 l0 x5_1).f2.f2), .int .i64 ((rd_T66 l0 x5_1).f3), .slice A261_6 ((rd_T66 l0 x5_1).f4).length c261_6, .slice A261_7 ((rd_T66 l0 x5_1).f5).length c261_7] 66 (0, 0))) := ⟨ZZ BK262.out⟩
          have n6_ : Aside0 (Kept w ((((((((w37.setCell ⟨gb262, 0, none⟩ (.int .i64 ((rd_T66 l0 x5_1).f0))).setCell ⟨gb262, 1, none⟩ (.int .i64 ((rd_T66 l0 x5_1).f1))).setCell ⟨gb262, 2, none⟩ (.int .i64 ((rd_T66 l0 x5_1).f2.f0))).setCell ⟨gb262, 3, none⟩ (.int .i64 ((rd_T66 l0 x5_1).f2.f1))).setCell ⟨gb262, 4, none⟩ (.int .i64 ((rd_T66 l0 x5_1).f2.f2))).setCell ⟨gb262, 5, none⟩ (.int .i64 ((rd_T66 l0 x5_1).f3))).setCell ⟨gb262, 6, none⟩ (.slice A261_6 ((rd_T66 l0 x5_1).f4).length c261_6)).setCell ⟨gb262, 7, none⟩ (.slice A261_7 ((rd_T66 l0 x5_1).f5).length c261_7)) (fun k_ => P1_0_ k_ ∨ P1_1_ k_ ∨ P1_2_ k_)) := ⟨ZHK HK⟩
          have n7_ : Aside0 (Below w0.heap.size w0 ((((((((w37.setCell ⟨gb262, 0, none⟩ (.int .i64 ((rd_T66 l0 x5_1).f0))).setCell ⟨gb262, 1, none⟩ (.int .i64 ((rd_T66 l0 x5_1).f1))).setCell ⟨gb262, 2, none⟩ (.int .i64 ((rd_T66 l0 x5_1).f2.f0))).setCell ⟨gb262, 3, none⟩ (.int .i64 ((rd_T66 l0 x5_1).f2.f1))).setCell ⟨gb262, 4, none⟩ (.int .i64 ((rd_T66 l0 x5_1).f2.f2))).setCell ⟨gb262, 5, none⟩ (.int .i64 ((rd_T66 l0 x5_1).f3))).setCell ⟨gb262, 6, none⟩ (.slice A261_6 ((rd_T66 l0 x5_1).f4).length c261_6)).setCell ⟨gb262, 7, none⟩ (.slice A261_7 ((rd_T66 l0 x5_1).f5).length c261_7))) := ⟨ZB⟩
          (try clear HO_260000)
          (try clear HO_260001)
          (try clear HO_260002)
          (try clear BK259)
          (try clear BK260)
          (try clear BK262)
          (try clear HK)
          (try clear HB)
          generalize ((((((((w37.setCell ⟨gb262, 0, none⟩ (.int .i64 ((rd_T66 l0 x5_1).f0))).setCell ⟨gb262, 1, none⟩ (.int .i64 ((rd_T66 l0 x5_1).f1))).setCell ⟨gb262, 2, none⟩ (.int .i64 ((rd_T66 l0 x5_1).f2.f0))).setCell ⟨gb262, 3, none⟩ (.int .i64 ((rd_T66 l0 x5_1).f2.f1))).setCell ⟨gb262, 4, none⟩ (.int .i64 ((rd_T66 l0 x5_1).f2.f2))).setCell ⟨gb262, 5, none⟩ (.int .i64 ((rd_T66 l0 x5_1).f3))).setCell ⟨gb262, 6, none⟩ (.slice A261_6 ((rd_T66 l0 x5_1).f4).length c261_6)).setCell ⟨gb262, 7, none⟩ (.slice A261_7 ((rd_T66 l0 x5_1).f5).length c261_7)) = w41 at n0_ n1_ n2_ n3_ n4_ n5_ n6_ n7_ ⊢
          have HO_260000 := n0_
          have HO_260001 := n1_
          have HO_260002 := n2_
          have BK259 := n3_
          have BK260 := n4_
          have BK262 := n5_
          have HK := n6_
          have HB := n7_
          clear n0_ n1_ n2_ n3_ n4_ n5_ n6_ n7_
          have n0_ := Aside0.mk (Kd.R_drew HO_260000.out)
          have n1_ := Aside0.mk (Kd.R_drew HO_260001.out)
          have n2_ := Aside0.mk (Kd.R_drew HO_260002.out)
          have n3_ := Aside0.mk (blk_drew BK259.out)
          have n4_ := Aside0.mk (blk_drew BK260.out)
          have n5_ := Aside0.mk (blk_drew BK262.out)
          have n6_ := Aside0.mk (Kept.drew HK.out)
          have n7_ := Aside0.mk (below_drew1 HB.out)
          clear HO_260000
          clear HO_260001
          clear HO_260002
          clear BK259
          clear BK260
          clear BK262
          clear HK
          clear HB
          have HO_260000 := n0_
          have HO_260001 := n1_
          have HO_260002 := n2_
          have BK259 := n3_
          have BK260 := n4_
          have BK262 := n5_
          have HK := n6_
          have HB := n7_
          clear n0_ n1_ n2_ n3_ n4_ n5_ n6_ n7_
          obtain ⟨Ao43, co43, eo43⟩ := Kd.R_slice HO_260000.out
          (first | subst eo43 | (injection eo43 with f1_ f2_ f3_; have f4_ := f1_.symm; have f5_ := f3_.symm; clear f1_ f2_ f3_; subst f4_; subst f5_))
          have p268 : 0 ≤ (((rd_T66 l0 x5_1).f1) : Int) := ZD
          have q268 : ((rd_T66 l0 x5_1).f1) < (x260000_1.length : Int) := ZD
          obtain ⟨ad268, e268, hx268_0⟩ := Kd.at_int (Kd.R_reads' HO_260000.out).2.2 ((rd_T66 l0 x5_1).f1) p268 q268
          cases e268
          replace p268 := eq_true p268
          replace q268 := eq_true q268
          refine start_ (n := 15) (S := fun w' => w'.cell? ⟨gb259, 0, none⟩ = some (.slice (some ad268) x260000_1.length co43) ∧ w'.cell? ⟨gb259, 1, none⟩ = some (u260001) ∧ w'.cell? ⟨gb259, 2, none⟩ = some (u260002) ∧ w'.cell? ⟨gb262, 0, none⟩ = some (.int .i64 ((rd_T66 l0 x5_1).f0)) ∧ w'.cell? ⟨gb262, 1, none⟩ = some (.int .i64 ((rd_T66 l0 x5_1).f1)) ∧ w'.cell? ⟨gb262, 2, none⟩ = some (.int .i64 ((rd_T66 l0 x5_1).f2.f0)) ∧ w'.cell? ⟨gb262, 3, none⟩ = some (.int .i64 ((rd_T66 l0 x5_1).f2.f1)) ∧ w'.cell? ⟨gb262, 4, none⟩ = some (.int .i64 ((rd_T66 l0 x5_1).f2.f2)) ∧ w'.cell? ⟨gb262, 5, none⟩ = some (.int .i64 ((rd_T66 l0 x5_1).f3)) ∧ w'.cell? ⟨gb262, 6, none⟩ = some (.slice A261_6 ((rd_T66 l0 x5_1).f4).length c261_6) ∧ w'.cell? ⟨gb262, 7, none⟩ = some (.slice A261_7 ((rd_T66 l0 x5_1).f5).length c261_7) ∧ w'.cell? (ad268.add (((rd_T66 l0 x5_1).f1)).toNat) = some (.int .i64 (rd x260000_1 ((rd_T66 l0 x5_1).f1)))) (ds := [12, 14]) #[false, false, false, false, false, false, false, false, false, false, false, false, false, false, false] (by kernel_rfl) rfl rfl ⟨(blk_cell BK259.out 0).trans rfl, (blk_cell BK259.out 1).trans rfl, (blk_cell BK259.out 2).trans rfl, (blk_cell BK262.out 0).trans rfl, (blk_cell BK262.out 1).trans rfl, (blk_cell BK262.out 2).trans rfl, (blk_cell BK262.out 3).trans rfl, (blk_cell BK262.out 4).trans rfl, (blk_cell BK262.out 5).trans rfl, (blk_cell BK262.out 6).trans rfl, (blk_cell BK262.out 7).trans rfl, hx268_0⟩ (fun hHeld => ?_); refine with_tabW spec_l3Do.tab14 spec_l3Do.bits14 (fun HT_ HW_ => ?_)
          generalize w41.drew = w42 at HO_260000 HO_260001 HO_260002 BK259 BK260 BK262 HK HB hx268_0 hHeld ⊢
          refine pure_ (i := 0) (N := some 59) (v := ?_) (a' := ?_) #[true, false, false, false, false, false, false, false, false, false, false, false, false, false, false] rfl rfl (any_of HT_.out (by kernel_rfl)) (fun _ _ _ h => h) (Or.inl ⟨by rfl, ?_⟩) ?_ ?_
          rotate_left
          ·intro w'
           go_simp
           with_reducible rfl
          rotate_left
          ·simp only [Act.put, List.setIfInBounds_toArray, List.set_cons_zero, List.set_cons_succ, i64_w, i32_w]
           rfl
          refine pure_ (i := 2) (N := some 61) (v := ?_) (a' := ?_) #[true, false, true, false, false, false, false, false, false, false, false, false, false, false, false] rfl rfl (any_of HT_.out (by kernel_rfl)) (fun _ _ _ h => h) (Or.inl ⟨by rfl, ?_⟩) ?_ ?_
          rotate_left
          ·intro w'
           go_simp
           with_reducible rfl
          rotate_left
          ·simp only [Act.put, List.setIfInBounds_toArray, List.set_cons_zero, List.set_cons_succ, i64_w, i32_w]
           rfl
          refine pure_ (i := 4) (N := some 63) (v := ?_) (a' := ?_) #[true, false, true, false, true, false, false, false, false, false, false, false, false, false, false] rfl rfl (any_of HT_.out (by kernel_rfl)) (fun _ _ _ h => h) (Or.inl ⟨by rfl, ?_⟩) ?_ ?_
          rotate_left
          ·intro w'
           go_simp
           with_reducible rfl
          rotate_left
          ·simp only [Act.put, List.setIfInBounds_toArray, List.set_cons_zero, List.set_cons_succ, i64_w, i32_w]
           rfl
          refine pure_ (i := 6) (N := some 65) (v := ?_) (a' := ?_) #[true, false, true, false, true, false, true, false, false, false, false, false, false, false, false] rfl rfl (any_of HT_.out (by kernel_rfl)) (fun _ _ _ h => h) (Or.inl ⟨by rfl, ?_⟩) ?_ ?_
          rotate_left
          ·intro w'
           go_simp
           with_reducible rfl
          rotate_left
          ·simp only [Act.put, List.setIfInBounds_toArray, List.set_cons_zero, List.set_cons_succ, i64_w, i32_w]
           rfl
          refine take_ (i := 1) (N := some 60) (v := ?_) (a' := ?_) #[true, true, true, false, true, false, true, false, false, false, false, false, false, false, false] rfl rfl (take_ofW HT_.out HW_.out (by kernel_rfl)) (fun _ _ _ h => h) (Or.inl ⟨by rfl, ?_⟩) hHeld ?_ ?_
          rotate_left
          ·rintro w' ⟨s0, s1, s2, s3, s4, s5, s6, s7, s8, s9, s10, s11⟩
           go_simp
           with_reducible rfl
          rotate_left
          ·simp only [Act.put, List.setIfInBounds_toArray, List.set_cons_zero, List.set_cons_succ, i64_w, i32_w]
           rfl
          refine take_ (i := 3) (N := some 62) (v := ?_) (a' := ?_) #[true, true, true, true, true, false, true, false, false, false, false, false, false, false, false] rfl rfl (take_ofW HT_.out HW_.out (by kernel_rfl)) (fun _ _ _ h => h) (Or.inl ⟨by rfl, ?_⟩) hHeld ?_ ?_
          rotate_left
          ·rintro w' ⟨s0, s1, s2, s3, s4, s5, s6, s7, s8, s9, s10, s11⟩
           go_simp
           with_reducible rfl
          rotate_left
          ·simp only [Act.put, List.setIfInBounds_toArray, List.set_cons_zero, List.set_cons_succ, i64_w, i32_w]
           rfl
          refine take_ (i := 5) (N := some 64) (v := ?_) (a' := ?_) #[true, true, true, true, true, true, true, false, false, false, false, false, false, false, false] rfl rfl (take_ofW HT_.out HW_.out (by kernel_rfl)) (fun _ _ _ h => h) (Or.inl ⟨by rfl, ?_⟩) hHeld ?_ ?_
          rotate_left
          ·rintro w' ⟨s0, s1, s2, s3, s4, s5, s6, s7, s8, s9, s10, s11⟩
           go_simp
           with_reducible rfl
          rotate_left
          ·simp only [Act.put, List.setIfInBounds_toArray, List.set_cons_zero, List.set_cons_succ, i64_w, i32_w]
           rfl
          refine take_ (i := 7) (N := some 66) (v := ?_) (a' := ?_) #[true, true, true, true, true, true, true, true, false, false, false, false, false, false, false] rfl rfl (take_ofW HT_.out HW_.out (by kernel_rfl)) (fun _ _ _ h => h) (Or.inl ⟨by rfl, ?_⟩) hHeld ?_ ?_
          rotate_left
          ·rintro w' ⟨s0, s1, s2, s3, s4, s5, s6, s7, s8, s9, s10, s11⟩
           go_simp
           with_reducible rfl
          rotate_left
          ·simp only [Act.put, List.setIfInBounds_toArray, List.set_cons_zero, List.set_cons_succ, i64_w, i32_w]
           rfl
          refine pure_ (i := 8) (N := some 67) (v := ?_) (a' := ?_) #[true, true, true, true, true, true, true, true, true, false, false, false, false, false, false] rfl rfl (any_of HT_.out (by kernel_rfl)) (fun _ _ _ h => h) (Or.inl ⟨by rfl, ?_⟩) ?_ ?_
          rotate_left
          ·intro w'
           go_simp
           with_reducible rfl
          rotate_left
          ·simp only [Act.put, List.setIfInBounds_toArray, List.set_cons_zero, List.set_cons_succ, i64_w, i32_w]
           rfl
          refine take_ (i := 9) (N := some 68) (v := ?_) (a' := ?_) #[true, true, true, true, true, true, true, true, true, true, false, false, false, false, false] rfl rfl (take_ofW HT_.out HW_.out (by kernel_rfl)) (fun _ _ _ h => h) (Or.inl ⟨by rfl, ?_⟩) hHeld ?_ ?_
          rotate_left
          ·rintro w' ⟨s0, s1, s2, s3, s4, s5, s6, s7, s8, s9, s10, s11⟩
           go_simp
           with_reducible rfl
          rotate_left
          ·simp only [Act.put, List.setIfInBounds_toArray, List.set_cons_zero, List.set_cons_succ, i64_w, i32_w]
           rfl
          refine pure_ (i := 10) (N := some 69) (v := ?_) (a' := ?_) #[true, true, true, true, true, true, true, true, true, true, true, false, false, false, false] rfl rfl (any_of HT_.out (by kernel_rfl)) (fun _ _ _ h => h) (Or.inl ⟨by rfl, ?_⟩) ?_ ?_
          rotate_left
          ·intro w'
           go_simp
           with_reducible rfl
          rotate_left
          ·simp only [Act.put, List.setIfInBounds_toArray, List.set_cons_zero, List.set_cons_succ, i64_w, i32_w]
           rfl
          refine one_ (i := 11) (N := some 70) #[true, true, true, true, true, true, true, true, true, true, true, true, false, false, false] rfl rfl (one_of HT_.out (by kernel_rfl)) (by decide) (fun K hK => ?_)
          refine value_ (w1 := ?_) (v := ?_) (by rfl) rfl ?_ ?_
          rotate_left 2
          ·go_simp
           constructor
           ·rfl
           ·rfl
          refine hK.out _ _ ⟨(blk_cell (blk_alloc BK259.out _) 0).trans rfl, (blk_cell (blk_alloc BK259.out _) 1).trans rfl, (blk_cell (blk_alloc BK259.out _) 2).trans rfl, (blk_cell (blk_alloc BK262.out _) 0).trans rfl, (blk_cell (blk_alloc BK262.out _) 1).trans rfl, (blk_cell (blk_alloc BK262.out _) 2).trans rfl, (blk_cell (blk_alloc BK262.out _) 3).trans rfl, (blk_cell (blk_alloc BK262.out _) 4).trans rfl, (blk_cell (blk_alloc BK262.out _) 5).trans rfl, (blk_cell (blk_alloc BK262.out _) 6).trans rfl, (blk_cell (blk_alloc BK262.out _) 7).trans rfl, (World.cell?_alloc_lt _ _ _ (World.block_lt_of_cell? _ _ (hHeld.2.2.2.2.2.2.2.2.2.2.2))).trans (hHeld.2.2.2.2.2.2.2.2.2.2.2)⟩ (fun hHeld => ?_)
          clear hK K
          refine ZNO 70 ?_
          refine last_ (i := 12) (N := some 71) #[true, true, true, true, true, true, true, true, true, true, true, true, true, false, false] rfl rfl (one_of HT_.out (by kernel_rfl)) (by decide) (fun K hK => ?_)
          refine Kd.R_append_step k50 (w0 := w0) w0.heap.size (by rfl) (.tmp 60) (.tmp 70) 25 50 (.agg #[(.int .i64 0), (.int .i64 0)]) 16 rfl Try.underlying25 info50 rfl (by decide) (by omega) u260002 x260002_1 (⟨(rd_T66 l0 x5_1).f3, rd x260000_1 ((rd_T66 l0 x5_1).f1)⟩ : S50) [.int .i64 ((rd_T66 l0 x5_1).f3), .int .i64 (rd x260000_1 ((rd_T66 l0 x5_1).f1))] (fun k_ => ((P1_0_ k_ ∨ P1_1_ k_ ∨ P1_2_ k_) ∨ w.heap.size ≤ k_)) (fun _ => False) rfl rfl ?aP (fun _ hk => hk.elim) ?aF ?aO ?aB ?aS ?aL ?_
          (case aP => exact k50_mkM _ _ _ (⟨(rd_T66 l0 x5_1).f3, rd x260000_1 ((rd_T66 l0 x5_1).f1)⟩ : S50))
          (case aB => exact (ZB))
          (case aF => exact (fun k_ hk => (.inr (Nat.le_trans (by first | exact HK.out.1 | exact (show Kept w _ (fun k_ => P1_0_ k_ ∨ P1_1_ k_ ∨ P1_2_ k_) from ZHK HK).1) hk))))
          (case aO => exact (ZR HO_260002.out))
          (case aS => exact (below_size (ZB)))
          (case aL => have := LMc36.out; omega)
          intro v270 w44 ho hb hg hat
          rw [← Ny269.out] at ho
          have n0_ := Aside0.mk (Kd.R_over' (ZR HO_260000.out) (Kd.R_typed (ZR HO_260002.out)) (by decide) hg)
          have n1_ := Aside0.mk (Kd.R_over' (ZR HO_260001.out) (Kd.R_typed (ZR HO_260002.out)) (by decide) hg)
          have n2_ := Aside0.mk (blk_grown (g := gb259) (o := .cells #[.slice (some ad268) x260000_1.length co43, u260001, u260002] 27 (0, 0)) (ZK BK259.out) hg (Kd.R_ne HO_260002.out BK259.out (by decide)))
          have n3_ := Aside0.mk (blk_grown (g := gb260) (o := .cells #[.slice none 0 0, .slice none 0 0, .slice none 0 0] 27 (0, 0)) (ZK BK260.out) hg (Kd.R_ne HO_260002.out BK260.out (by decide)))
          have n4_ := Aside0.mk (blk_grown (g := gb262) (o := .cells #[.int .i64 ((rd_T66 l0 x5_1).f0), .int .i64 ((rd_T66 l0 x5_1).f1), .int .i64 ((rd_T66 l0 x5_1).f2.f0), .int .i64 ((rd_T66 l0 x5_1).f2.f1), .int .i64 ((rd_T66 l0 x5_1).f2.f2), .int .i64 ((rd_T66 l0 x5_1).f3), .slice A261_6 ((rd_T66 l0 x5_1).f4).length c261_6, .slice A261_7 ((rd_T66 l0 x5_1).f5).length c261_7] 66 (0, 0)) (ZK BK262.out) hg (Kd.R_ne HO_260002.out BK262.out (by decide)))
          have n5_ := Aside0.mk (hb)
          have n6_ := Aside0.mk (Kept.of_grown (S := (fun k_ => P1_0_ k_ ∨ P1_1_ k_ ∨ P1_2_ k_)) hg (ZHK HK) (fun k_ e_ => (HO_260002.out.1 k_ e_)))
          have n7_ := Aside0.mk (ho)
          clear HO_260000
          clear HO_260001
          clear BK259
          clear BK260
          clear BK262
          clear HB
          clear HK
          clear HO_260002
          have HO_260000 := n0_
          have HO_260001 := n1_
          have BK259 := n2_
          have BK260 := n3_
          have BK262 := n4_
          have HB := n5_
          have HK := n6_
          have HO271 := n7_
          clear n0_ n1_ n2_ n3_ n4_ n5_ n6_ n7_
          clear ho hb hg hat
          obtain ⟨Ao45, co45, eo45⟩ := Kd.R_slice HO271.out
          (first | subst eo45 | (injection eo45 with f1_ f2_ f3_; have f4_ := f1_.symm; have f5_ := f3_.symm; clear f1_ f2_ f3_; subst f4_; subst f5_))
          refine hK.out _ _ ?_
          clear hK K
          refine ZNO 71 ?_
          refine pure_ (i := 13) (N := some 72) (v := ?_) (a' := ?_) #[true, true, true, true, true, true, true, true, true, true, true, true, true, true, false] rfl rfl (any_of HT_.out (by kernel_rfl)) (fun _ _ _ h => h) (Or.inl ⟨by rfl, ?_⟩) ?_ ?_
          rotate_left
          ·intro w'
           go_simp
           with_reducible rfl
          rotate_left
          ·simp only [Act.put, List.setIfInBounds_toArray, List.set_cons_zero, List.set_cons_succ, i64_w, i32_w]
           rfl
          refine last_ (i := 14) (N := none) #[true, true, true, true, true, true, true, true, true, true, true, true, true, true, true] rfl rfl (one_of HT_.out (by kernel_rfl)) (by decide) (fun K hK => ?_)
          have hs46 : w44.cell? ⟨gb259, 2, none⟩ = some (u260002) := (blk_cell BK259.out 2).trans rfl
          have hfs46 := blk_frozen BK259.out 2
          have hns46_1 := NB260_259.out
          have hns46_2 := NB262_259.out
          have hms46_1 := NB259_260.out
          have hms46_2 := NB259_262.out
          refine skip_ (w1 := ?_) (by rfl) rfl ?_ ?_
          rotate_left
          ·go_simp
           rfl
          refine hK.out _ _ ?_
          clear hK K
          refine done_ (done_of HT_.out (by kernel_rfl)) ?_
          try go_wp2
          go_roundg k1
          case measure => have := HK1.out; omega
          case rel => exact ⟨(wrap64 (x5_1 + 1)), (x260000_1), (x260001_1), (y269), (.slice (some ad268) x260000_1.length co43), (u260001), (.slice Ao45 y269.length co45), (by first | rfl | (simp; done) | (simp [*]; done)), H', ⟨by have := HK1.out; omega⟩, ⟨ZR (Kd.R_mono (Kd.R_far (p := ⟨gb259, 2, none⟩) (Kd.R_types HO_260000.out BK259.out (by decide)) (fun _ hk => hk.2) (.slice Ao45 y269.length co45)) (fun _ hk => hk.1))⟩, ⟨ZR (Kd.R_mono (Kd.R_far (p := ⟨gb259, 2, none⟩) (Kd.R_types HO_260001.out BK259.out (by decide)) (fun _ hk => hk.2) (.slice Ao45 y269.length co45)) (fun _ hk => hk.1))⟩, ⟨ZR (Kd.R_mono (Kd.R_far (p := ⟨gb259, 2, none⟩) (Kd.R_types HO271.out BK259.out (by decide)) (fun _ hk => hk.2) (.slice Ao45 y269.length co45)) (fun _ hk => hk.1))⟩, ⟨ZZ BK259.out⟩, ⟨ZZ BK260.out⟩, ⟨ZHK HK⟩, ⟨ZB⟩⟩
         ·rw [if_neg c36] at H
          exact absurd H (by simp)
        ·rw [if_neg c35] at H
         exact absurd H (by simp)
       ·rw [if_neg c34] at H
        exact absurd H (by simp)
      ·rw [if_neg c33] at H
       have c33b0 : (((rd_T66 l0 x5_1).f0) == 3) = false := beq_eq_false_iff_ne.mpr c33
       have c33b1 : (((rd_T66 l0 x5_1).f0) != 3) = true := bne_iff_ne.mpr c33
       by_cases c47 : 0 ≤ ((rd_T66 l0 x5_1).f1)
       ·rw [if_pos c47] at H
        have c47b0 : decide (0 ≤ ((rd_T66 l0 x5_1).f1)) = true := decide_eq_true c47
        clear c47
        by_cases c48 : ((rd_T66 l0 x5_1).f1) < (x260000_1.length : Int)
        ·rw [if_pos c48] at H
         have c48b0 : decide (((rd_T66 l0 x5_1).f1) < (x260000_1.length : Int)) = true := decide_eq_true c48
         clear c48
         by_cases c49 : (rd x260000_1 ((rd_T66 l0 x5_1).f1)) = 0
         ·rw [if_pos c49] at H
          have c49b0 : ((rd x260000_1 ((rd_T66 l0 x5_1).f1)) == 0) = true := beq_iff_eq.mpr c49
          have c49b1 : ((rd x260000_1 ((rd_T66 l0 x5_1).f1)) != 0) = false := bne_eq_false_iff_eq.mpr c49
          clear c49
          replace H := Option.bind_eq_some_iff.mp H
          obtain ⟨⟨t273, t276, t279⟩, A500, H⟩ := H
          replace H : (spec_l3Do.l0 k1 l0 (wrap64 (x5_1 + 1)) t273 t276 t279) = some (r1, r2, r3) := H
          have A50 := Aside0.mk A500
          clear A500
          have H' := Aside0.mk H
          clear H
          have p261 : 0 ≤ (x5_1 : Int) := ZD
          have q261 : x5_1 < (l0.length : Int) := ZD
          obtain ⟨ad261, A261_6, c261_6, A261_7, c261_7, e261, hx261_0, hx261_1, hx261_2, hx261_3, hx261_4, hx261_5, hx261_6, hx261_7, hl261_6, hi261_6, hl261_7, hi261_7⟩ := at_T66 (Kd.C_kept_now HR0.out HK.out) x5_1 p261 q261
          cases e261
          have hy261_0 := Kd.kept_slot HR0.out (by omega) (by decide) (ZHK HK) hx261_0 (add_block _ _) (Kept.refl _ _)
          have hy261_1 := Kd.kept_slot HR0.out (by omega) (by decide) (ZHK HK) hx261_1 (add_block _ _) (Kept.refl _ _)
          have hy261_2 := Kd.kept_slot HR0.out (by omega) (by decide) (ZHK HK) hx261_2 (add_block _ _) (Kept.refl _ _)
          have hy261_3 := Kd.kept_slot HR0.out (by omega) (by decide) (ZHK HK) hx261_3 (add_block _ _) (Kept.refl _ _)
          have hy261_4 := Kd.kept_slot HR0.out (by omega) (by decide) (ZHK HK) hx261_4 (add_block _ _) (Kept.refl _ _)
          have hy261_5 := Kd.kept_slot HR0.out (by omega) (by decide) (ZHK HK) hx261_5 (add_block _ _) (Kept.refl _ _)
          have hy261_6 := Kd.kept_slot HR0.out (by omega) (by decide) (ZHK HK) hx261_6 (add_block _ _) (Kept.refl _ _)
          have hy261_7 := Kd.kept_slot HR0.out (by omega) (by decide) (ZHK HK) hx261_7 (add_block _ _) (Kept.refl _ _)
          have HR261_6 := Aside0.mk hi261_6
          have HC261_6 := Aside0.mk hl261_6
          clear hi261_6 hl261_6
          have HR261_7 := Aside0.mk hi261_7
          have HC261_7 := Aside0.mk hl261_7
          clear hi261_7 hl261_7
          replace p261 := eq_true p261
          replace q261 := eq_true q261
          go_wp2_with (first | ((with_reducible refine gate_dst (N := 6) rfl ?_); refine ZX (N := 6) (cs := #[.int .i64 0, .int .i64 0, .int .i64 0, .int .i64 0, .int .i64 0, .int .i64 0, .slice none 0 0, .slice none 0 0]) (t := 66) ?_; intro gb262 hg w51 hbox hb; have BK262 := Aside0.mk (hbox); have GW262 := Aside0.mk ((by rw [hg]; exact (by first | exact HK.out.1 | exact (show Kept w _ (fun k_ => P1_0_ k_ ∨ P1_1_ k_ ∨ P1_2_ k_) from ZHK HK).1) : w.heap.size ≤ gb262)); have GE262 : Aside0 (w0.heap.size ≤ gb262) := ZS hg; have NB259_262 : Aside0 (gb259 ≠ gb262) := ZN hg BK259; have NB262_259 : Aside0 (gb262 ≠ gb259) := ZM hg BK259; have NB260_262 : Aside0 (gb260 ≠ gb262) := ZN hg BK260; have NB262_260 : Aside0 (gb262 ≠ gb260) := ZM hg BK260; replace HO_260000 := Aside0.mk (Kd.R_below (ZR HO_260000.out) hb); replace HO_260001 := Aside0.mk (Kd.R_below (ZR HO_260001.out) hb); replace HO_260002 := Aside0.mk (Kd.R_below (ZR HO_260002.out) hb); replace BK259 := ZW BK259 hb; replace BK260 := ZW BK260 hb; replace HR261_6 := Aside0.mk (Kd.C_below (ZQ HR261_6.out) hb); replace HR261_7 := Aside0.mk (Kd.C_below (ZQ HR261_7.out) hb); replace HK := Aside0.mk (Kept.below (S := (fun k_ => P1_0_ k_ ∨ P1_1_ k_ ∨ P1_2_ k_)) (ZHK HK) hb); replace HB := ZT HB hb; clear hb hbox hg; have hnb52 := NB262_259.out; have hnc52 := NB259_262.out; have hnb53 := NB262_260.out; have hnc53 := NB260_262.out; obtain ⟨hcz54_0, hcz54_1, hcz54_2, hcz54_3, hcz54_4, hcz54_5, hcz54_6, hcz54_7⟩ := ZC8 w51 BK262; obtain ⟨hfz54_0, hfz54_1, hfz54_2, hfz54_3, hfz54_4, hfz54_5, hfz54_6, hfz54_7⟩ := ZF8 BK262; have hnb55 := NB259_260.out; have hnc55 := NB260_259.out; obtain ⟨hcz56_0, hcz56_1, hcz56_2⟩ := ZC3 w51 BK259; obtain ⟨hfz56_0, hfz56_1, hfz56_2⟩ := ZF3 BK259; obtain ⟨Ao57, co57, eo57⟩ := Kd.R_slice HO_260000.out; subst eo57; have p272 : 0 ≤ (((rd_T66 l0 x5_1).f1) : Int) := ZD; have q272 : ((rd_T66 l0 x5_1).f1) < (x260000_1.length : Int) := ZD; obtain ⟨ad272, e272, hx272_0⟩ := Kd.at_int (Kd.R_reads' HO_260000.out).2.2 ((rd_T66 l0 x5_1).f1) p272 q272; cases e272; have hn272_0 : ad272.block ≠ gb262 := Kd.own_blk (Kd.R_ne HO_260000.out BK262.out (by decide)); have hn272_1 : ad272.block ≠ gb262 := Kd.own_blk (Kd.R_ne HO_260000.out BK262.out (by decide)); have hn272_2 : ad272.block ≠ gb262 := Kd.own_blk (Kd.R_ne HO_260000.out BK262.out (by decide)); have hn272_3 : ad272.block ≠ gb262 := Kd.own_blk (Kd.R_ne HO_260000.out BK262.out (by decide)); have hn272_4 : ad272.block ≠ gb262 := Kd.own_blk (Kd.R_ne HO_260000.out BK262.out (by decide)); have hn272_5 : ad272.block ≠ gb262 := Kd.own_blk (Kd.R_ne HO_260000.out BK262.out (by decide)); have hn272_6 : ad272.block ≠ gb262 := Kd.own_blk (Kd.R_ne HO_260000.out BK262.out (by decide)); have hn272_7 : ad272.block ≠ gb262 := Kd.own_blk (Kd.R_ne HO_260000.out BK262.out (by decide)); replace hx272_0 := (cell_far (p := ⟨gb262, 0, none⟩) (ZY hn272_0) (.int .i64 ((rd_T66 l0 x5_1).f0))).trans hx272_0; replace hx272_0 := (cell_far (p := ⟨gb262, 1, none⟩) (ZY hn272_1) (.int .i64 ((rd_T66 l0 x5_1).f1))).trans hx272_0; replace hx272_0 := (cell_far (p := ⟨gb262, 2, none⟩) (ZY hn272_2) (.int .i64 ((rd_T66 l0 x5_1).f2.f0))).trans hx272_0; replace hx272_0 := (cell_far (p := ⟨gb262, 3, none⟩) (ZY hn272_3) (.int .i64 ((rd_T66 l0 x5_1).f2.f1))).trans hx272_0; replace hx272_0 := (cell_far (p := ⟨gb262, 4, none⟩) (ZY hn272_4) (.int .i64 ((rd_T66 l0 x5_1).f2.f2))).trans hx272_0; replace hx272_0 := (cell_far (p := ⟨gb262, 5, none⟩) (ZY hn272_5) (.int .i64 ((rd_T66 l0 x5_1).f3))).trans hx272_0; replace hx272_0 := (cell_far (p := ⟨gb262, 6, none⟩) (ZY hn272_6) (.slice A261_6 ((rd_T66 l0 x5_1).f4).length c261_6)).trans hx272_0; replace hx272_0 := (cell_far (p := ⟨gb262, 7, none⟩) (ZY hn272_7) (.slice A261_7 ((rd_T66 l0 x5_1).f5).length c261_7)).trans hx272_0; clear hn272_0; clear hn272_1; clear hn272_2; clear hn272_3; clear hn272_4; clear hn272_5; clear hn272_6; clear hn272_7; replace p272 := eq_true p272; replace q272 := eq_true q272; obtain ⟨Ao58, co58, eo58⟩ := Kd.R_slice HO_260001.out; subst eo58; obtain ⟨Ao59, co59, eo59⟩ := Kd.R_slice HO_260002.out; subst eo59) | ((with_reducible refine gate_callee (f := 24) rfl ?_); refine goesL_ (some 34) rfl rfl Try.func24 (by kernel_rfl) rfl #[.slice A261_7 ((rd_T66 l0 x5_1).f5).length c261_7, .agg #[.slice (some ad272) x260000_1.length co57, .slice Ao58 x260001_1.length co58, .slice Ao59 x260002_1.length co59]] rfl ZG ?_; (with_reducible refine (ih k1 (by have := HK1.out; omega) _ _ ((rd_T66 l0 x5_1).f5) (fun k_ => some k_ = (.slice (some ad272) x260000_1.length co57 : Value).ownBlock) (.slice (some ad272) x260000_1.length co57) x260000_1 (fun k_ => some k_ = (.slice Ao58 x260001_1.length co58 : Value).ownBlock) (.slice Ao58 x260001_1.length co58) x260001_1 (fun k_ => some k_ = (.slice Ao59 x260002_1.length co59 : Value).ownBlock) (.slice Ao59 x260002_1.length co59) x260002_1 t273 t276 t279 w0 _ ?side1 ?side2 ?side3 ?side4 ?side5 ?side6 A50.out).mono ?_); (case side1 => repeat (first | (with_reducible first | exact HB.out | apply below_alloc | apply pw_below_drewN | apply below_drew1 | refine below_set ?_ GE259.out | refine below_set ?_ GE260.out | refine below_set ?_ GE262.out) | exact HB.out)); (case side2 => exact Kd.C_kept_call (fun W_ k_ => by have hw_ := Kd.kept_slot HR0.out (by have := (of_eq_true p261); have := (of_eq_true q261); omega) (by decide) (Kept.refl _ _) hy261_7 (add_block _ _) k_; obtain ⟨ad_, A6_, c6_, A7_, c7_, e_, m0_, m1_, m2_, m3_, m4_, m5_, m6_, m7_, y6_, z6_, y7_, z7_⟩ := at_T66 (HR0.out W_ k_) (x5_1) (by first | exact of_eq_true p261 | exact p261) (by first | exact of_eq_true q261 | exact q261); cases e_; rw [hw_] at m7_; cases m7_; exact z7_) (ZHK HK) (fun k_ hs_ => Or.elim hs_ (fun e_ => (fun e_ => (HO_260000.out.1 k_ e_.symm)) e_) (fun e_ => Or.elim e_ (fun e_ => (fun e_ => (HO_260001.out.1 k_ e_.symm)) e_) (fun e_ => (fun e_ => (HO_260002.out.1 k_ e_.symm)) e_)))); (case side3 => exact HC261_7.out); (case side4 => exact Kd.R_tight rfl (Kd.R_far (p := ⟨gb262, 7, none⟩) (Kd.R_far (p := ⟨gb262, 6, none⟩) (Kd.R_far (p := ⟨gb262, 5, none⟩) (Kd.R_far (p := ⟨gb262, 4, none⟩) (Kd.R_far (p := ⟨gb262, 3, none⟩) (Kd.R_far (p := ⟨gb262, 2, none⟩) (Kd.R_far (p := ⟨gb262, 1, none⟩) (Kd.R_far (p := ⟨gb262, 0, none⟩) (Kd.R_types HO_260000.out BK262.out (by decide)) (fun _ hk => hk.2) (.int .i64 ((rd_T66 l0 x5_1).f0))) (fun _ hk => hk.2) (.int .i64 ((rd_T66 l0 x5_1).f1))) (fun _ hk => hk.2) (.int .i64 ((rd_T66 l0 x5_1).f2.f0))) (fun _ hk => hk.2) (.int .i64 ((rd_T66 l0 x5_1).f2.f1))) (fun _ hk => hk.2) (.int .i64 ((rd_T66 l0 x5_1).f2.f2))) (fun _ hk => hk.2) (.int .i64 ((rd_T66 l0 x5_1).f3))) (fun _ hk => hk.2) (.slice A261_6 ((rd_T66 l0 x5_1).f4).length c261_6)) (fun _ hk => hk.2) (.slice A261_7 ((rd_T66 l0 x5_1).f5).length c261_7))); (case side5 => exact Kd.R_tight rfl (Kd.R_far (p := ⟨gb262, 7, none⟩) (Kd.R_far (p := ⟨gb262, 6, none⟩) (Kd.R_far (p := ⟨gb262, 5, none⟩) (Kd.R_far (p := ⟨gb262, 4, none⟩) (Kd.R_far (p := ⟨gb262, 3, none⟩) (Kd.R_far (p := ⟨gb262, 2, none⟩) (Kd.R_far (p := ⟨gb262, 1, none⟩) (Kd.R_far (p := ⟨gb262, 0, none⟩) (Kd.R_types HO_260001.out BK262.out (by decide)) (fun _ hk => hk.2) (.int .i64 ((rd_T66 l0 x5_1).f0))) (fun _ hk => hk.2) (.int .i64 ((rd_T66 l0 x5_1).f1))) (fun _ hk => hk.2) (.int .i64 ((rd_T66 l0 x5_1).f2.f0))) (fun _ hk => hk.2) (.int .i64 ((rd_T66 l0 x5_1).f2.f1))) (fun _ hk => hk.2) (.int .i64 ((rd_T66 l0 x5_1).f2.f2))) (fun _ hk => hk.2) (.int .i64 ((rd_T66 l0 x5_1).f3))) (fun _ hk => hk.2) (.slice A261_6 ((rd_T66 l0 x5_1).f4).length c261_6)) (fun _ hk => hk.2) (.slice A261_7 ((rd_T66 l0 x5_1).f5).length c261_7))); (case side6 => exact Kd.R_tight rfl (Kd.R_far (p := ⟨gb262, 7, none⟩) (Kd.R_far (p := ⟨gb262, 6, none⟩) (Kd.R_far (p := ⟨gb262, 5, none⟩) (Kd.R_far (p := ⟨gb262, 4, none⟩) (Kd.R_far (p := ⟨gb262, 3, none⟩) (Kd.R_far (p := ⟨gb262, 2, none⟩) (Kd.R_far (p := ⟨gb262, 1, none⟩) (Kd.R_far (p := ⟨gb262, 0, none⟩) (Kd.R_types HO_260002.out BK262.out (by decide)) (fun _ hk => hk.2) (.int .i64 ((rd_T66 l0 x5_1).f0))) (fun _ hk => hk.2) (.int .i64 ((rd_T66 l0 x5_1).f1))) (fun _ hk => hk.2) (.int .i64 ((rd_T66 l0 x5_1).f2.f0))) (fun _ hk => hk.2) (.int .i64 ((rd_T66 l0 x5_1).f2.f1))) (fun _ hk => hk.2) (.int .i64 ((rd_T66 l0 x5_1).f2.f2))) (fun _ hk => hk.2) (.int .i64 ((rd_T66 l0 x5_1).f3))) (fun _ hk => hk.2) (.slice A261_6 ((rd_T66 l0 x5_1).f4).length c261_6)) (fun _ hk => hk.2) (.slice A261_7 ((rd_T66 l0 x5_1).f5).length c261_7))); rintro e w60 ⟨v274, v277, v280, rfl, ho0, ho1, ho2, hb, hkp⟩; refine ⟨_, rfl, ?_⟩; have n0_ := Aside0.mk (blk_kept (ZZ BK259.out) hkp (fun hs_ => Or.elim hs_ (fun e_ => (fun e_ => (Kd.R_ne HO_260000.out BK259.out (by decide)) e_) e_) (fun e_ => Or.elim e_ (fun e_ => (fun e_ => (Kd.R_ne HO_260001.out BK259.out (by decide)) e_) e_) (fun e_ => (fun e_ => (Kd.R_ne HO_260002.out BK259.out (by decide)) e_) e_)))); have n1_ := Aside0.mk (blk_kept (ZZ BK260.out) hkp (fun hs_ => Or.elim hs_ (fun e_ => (fun e_ => (Kd.R_ne HO_260000.out BK260.out (by decide)) e_) e_) (fun e_ => Or.elim e_ (fun e_ => (fun e_ => (Kd.R_ne HO_260001.out BK260.out (by decide)) e_) e_) (fun e_ => (fun e_ => (Kd.R_ne HO_260002.out BK260.out (by decide)) e_) e_)))); have n2_ := Aside0.mk (blk_kept (ZZ BK262.out) hkp (fun hs_ => Or.elim hs_ (fun e_ => (fun e_ => (Kd.R_ne HO_260000.out BK262.out (by decide)) e_) e_) (fun e_ => Or.elim e_ (fun e_ => (fun e_ => (Kd.R_ne HO_260001.out BK262.out (by decide)) e_) e_) (fun e_ => (fun e_ => (Kd.R_ne HO_260002.out BK262.out (by decide)) e_) e_)))); have n3_ := Aside0.mk (Kd.R_mono (ok' := fun k_ => ((P1_0_ k_ ∨ P1_1_ k_ ∨ P1_2_ k_) ∨ w.heap.size ≤ k_)) ho0 (fun k_ hk_ => Or.elim hk_ (fun hs_ => Or.elim hs_ (fun hs_ => (HO_260000.out.1 k_ (hs_).symm)) (fun hs_ => Or.elim hs_ (fun hs_ => (HO_260001.out.1 k_ (hs_).symm)) (fun hs_ => (HO_260002.out.1 k_ (hs_).symm)))) (fun hn_ => (.inr (Nat.le_trans (show Kept w _ (fun k_ => P1_0_ k_ ∨ P1_1_ k_ ∨ P1_2_ k_) from ZHK HK).1 hn_))))); have n4_ := Aside0.mk (Kd.R_mono (ok' := fun k_ => ((P1_0_ k_ ∨ P1_1_ k_ ∨ P1_2_ k_) ∨ w.heap.size ≤ k_)) ho1 (fun k_ hk_ => Or.elim hk_ (fun hs_ => Or.elim hs_ (fun hs_ => (HO_260000.out.1 k_ (hs_).symm)) (fun hs_ => Or.elim hs_ (fun hs_ => (HO_260001.out.1 k_ (hs_).symm)) (fun hs_ => (HO_260002.out.1 k_ (hs_).symm)))) (fun hn_ => (.inr (Nat.le_trans (show Kept w _ (fun k_ => P1_0_ k_ ∨ P1_1_ k_ ∨ P1_2_ k_) from ZHK HK).1 hn_))))); have n5_ := Aside0.mk (Kd.R_mono (ok' := fun k_ => ((P1_0_ k_ ∨ P1_1_ k_ ∨ P1_2_ k_) ∨ w.heap.size ≤ k_)) ho2 (fun k_ hk_ => Or.elim hk_ (fun hs_ => Or.elim hs_ (fun hs_ => (HO_260000.out.1 k_ (hs_).symm)) (fun hs_ => Or.elim hs_ (fun hs_ => (HO_260001.out.1 k_ (hs_).symm)) (fun hs_ => (HO_260002.out.1 k_ (hs_).symm)))) (fun hn_ => (.inr (Nat.le_trans (show Kept w _ (fun k_ => P1_0_ k_ ∨ P1_1_ k_ ∨ P1_2_ k_) from ZHK HK).1 hn_))))); have n6_ := Aside0.mk (Kept.then_ (S := (fun k_ => P1_0_ k_ ∨ P1_1_ k_ ∨ P1_2_ k_)) (ZHK HK) hkp (fun k_ hs_ => Or.elim hs_ (fun e_ => (fun e_ => (HO_260000.out.1 k_ e_.symm)) e_) (fun e_ => Or.elim e_ (fun e_ => (fun e_ => (HO_260001.out.1 k_ e_.symm)) e_) (fun e_ => (fun e_ => (HO_260002.out.1 k_ e_.symm)) e_)))); have n7_ := Aside0.mk (hb); clear BK259; clear BK260; clear BK262; clear HK; clear HB; clear HO_260000; clear HO_260001; clear HO_260002; have BK259 := n0_; have BK260 := n1_; have BK262 := n2_; have HO275 := n3_; have HO278 := n4_; have HO281 := n5_; have HK := n6_; have HB := n7_; clear n0_ n1_ n2_ n3_ n4_ n5_ n6_ n7_; (try clear hb); (try clear hkp); (try clear ho0); (try clear ho1); (try clear ho2); obtain ⟨Ao61, co61, eo61⟩ := Kd.R_slice HO275.out; subst eo61; obtain ⟨hcz62_0, hcz62_1, hcz62_2⟩ := ZC3 w60 BK259; obtain ⟨hfz62_0, hfz62_1, hfz62_2⟩ := ZF3 BK259; obtain ⟨Ao63, co63, eo63⟩ := Kd.R_slice HO278.out; subst eo63; obtain ⟨Ao64, co64, eo64⟩ := Kd.R_slice HO281.out; subst eo64))
          go_roundg k1
          case measure => have := HK1.out; omega
          case rel => exact ⟨(wrap64 (x5_1 + 1)), (t273), (t276), (t279), (.slice Ao61 t273.length co61), (.slice Ao63 t276.length co63), (.slice Ao64 t279.length co64), (by first | rfl | (simp; done) | (simp [*]; done)), H', ⟨by have := HK1.out; omega⟩, ⟨ZR (Kd.R_mono (Kd.R_far (p := ⟨gb259, 2, none⟩) (Kd.R_far (p := ⟨gb259, 1, none⟩) (Kd.R_far (p := ⟨gb259, 0, none⟩) (Kd.R_types HO275.out BK259.out (by decide)) (fun _ hk => hk.2) (.slice Ao61 t273.length co61)) (fun _ hk => hk.2) (.slice Ao63 t276.length co63)) (fun _ hk => hk.2) (.slice Ao64 t279.length co64)) (fun _ hk => hk.1))⟩, ⟨ZR (Kd.R_mono (Kd.R_far (p := ⟨gb259, 2, none⟩) (Kd.R_far (p := ⟨gb259, 1, none⟩) (Kd.R_far (p := ⟨gb259, 0, none⟩) (Kd.R_types HO278.out BK259.out (by decide)) (fun _ hk => hk.2) (.slice Ao61 t273.length co61)) (fun _ hk => hk.2) (.slice Ao63 t276.length co63)) (fun _ hk => hk.2) (.slice Ao64 t279.length co64)) (fun _ hk => hk.1))⟩, ⟨ZR (Kd.R_mono (Kd.R_far (p := ⟨gb259, 2, none⟩) (Kd.R_far (p := ⟨gb259, 1, none⟩) (Kd.R_far (p := ⟨gb259, 0, none⟩) (Kd.R_types HO281.out BK259.out (by decide)) (fun _ hk => hk.2) (.slice Ao61 t273.length co61)) (fun _ hk => hk.2) (.slice Ao63 t276.length co63)) (fun _ hk => hk.2) (.slice Ao64 t279.length co64)) (fun _ hk => hk.1))⟩, ⟨ZZ BK259.out⟩, ⟨ZZ BK260.out⟩, ⟨ZHK HK⟩, ⟨ZB⟩⟩
         ·rw [if_neg c49] at H
          have c49b0 : ((rd x260000_1 ((rd_T66 l0 x5_1).f1)) == 0) = false := beq_eq_false_iff_ne.mpr c49
          have c49b1 : ((rd x260000_1 ((rd_T66 l0 x5_1).f1)) != 0) = true := bne_iff_ne.mpr c49
          replace H := Option.bind_eq_some_iff.mp H
          obtain ⟨⟨t282, t285, t288⟩, A650, H⟩ := H
          replace H : (spec_l3Do.l0 k1 l0 (wrap64 (x5_1 + 1)) t282 t285 t288) = some (r1, r2, r3) := H
          have A65 := Aside0.mk A650
          clear A650
          have H' := Aside0.mk H
          clear H
          have p261 : 0 ≤ (x5_1 : Int) := ZD
          have q261 : x5_1 < (l0.length : Int) := ZD
          obtain ⟨ad261, A261_6, c261_6, A261_7, c261_7, e261, hx261_0, hx261_1, hx261_2, hx261_3, hx261_4, hx261_5, hx261_6, hx261_7, hl261_6, hi261_6, hl261_7, hi261_7⟩ := at_T66 (Kd.C_kept_now HR0.out HK.out) x5_1 p261 q261
          cases e261
          have hy261_0 := Kd.kept_slot HR0.out (by omega) (by decide) (ZHK HK) hx261_0 (add_block _ _) (Kept.refl _ _)
          have hy261_1 := Kd.kept_slot HR0.out (by omega) (by decide) (ZHK HK) hx261_1 (add_block _ _) (Kept.refl _ _)
          have hy261_2 := Kd.kept_slot HR0.out (by omega) (by decide) (ZHK HK) hx261_2 (add_block _ _) (Kept.refl _ _)
          have hy261_3 := Kd.kept_slot HR0.out (by omega) (by decide) (ZHK HK) hx261_3 (add_block _ _) (Kept.refl _ _)
          have hy261_4 := Kd.kept_slot HR0.out (by omega) (by decide) (ZHK HK) hx261_4 (add_block _ _) (Kept.refl _ _)
          have hy261_5 := Kd.kept_slot HR0.out (by omega) (by decide) (ZHK HK) hx261_5 (add_block _ _) (Kept.refl _ _)
          have hy261_6 := Kd.kept_slot HR0.out (by omega) (by decide) (ZHK HK) hx261_6 (add_block _ _) (Kept.refl _ _)
          have hy261_7 := Kd.kept_slot HR0.out (by omega) (by decide) (ZHK HK) hx261_7 (add_block _ _) (Kept.refl _ _)
          have HR261_6 := Aside0.mk hi261_6
          have HC261_6 := Aside0.mk hl261_6
          clear hi261_6 hl261_6
          have HR261_7 := Aside0.mk hi261_7
          have HC261_7 := Aside0.mk hl261_7
          clear hi261_7 hl261_7
          replace p261 := eq_true p261
          replace q261 := eq_true q261
          go_wp2_with (first | ((with_reducible refine gate_dst (N := 6) rfl ?_); refine ZX (N := 6) (cs := #[.int .i64 0, .int .i64 0, .int .i64 0, .int .i64 0, .int .i64 0, .int .i64 0, .slice none 0 0, .slice none 0 0]) (t := 66) ?_; intro gb262 hg w66 hbox hb; have BK262 := Aside0.mk (hbox); have GW262 := Aside0.mk ((by rw [hg]; exact (by first | exact HK.out.1 | exact (show Kept w _ (fun k_ => P1_0_ k_ ∨ P1_1_ k_ ∨ P1_2_ k_) from ZHK HK).1) : w.heap.size ≤ gb262)); have GE262 : Aside0 (w0.heap.size ≤ gb262) := ZS hg; have NB259_262 : Aside0 (gb259 ≠ gb262) := ZN hg BK259; have NB262_259 : Aside0 (gb262 ≠ gb259) := ZM hg BK259; have NB260_262 : Aside0 (gb260 ≠ gb262) := ZN hg BK260; have NB262_260 : Aside0 (gb262 ≠ gb260) := ZM hg BK260; replace HO_260000 := Aside0.mk (Kd.R_below (ZR HO_260000.out) hb); replace HO_260001 := Aside0.mk (Kd.R_below (ZR HO_260001.out) hb); replace HO_260002 := Aside0.mk (Kd.R_below (ZR HO_260002.out) hb); replace BK259 := ZW BK259 hb; replace BK260 := ZW BK260 hb; replace HR261_6 := Aside0.mk (Kd.C_below (ZQ HR261_6.out) hb); replace HR261_7 := Aside0.mk (Kd.C_below (ZQ HR261_7.out) hb); replace HK := Aside0.mk (Kept.below (S := (fun k_ => P1_0_ k_ ∨ P1_1_ k_ ∨ P1_2_ k_)) (ZHK HK) hb); replace HB := ZT HB hb; clear hb hbox hg; have hnb67 := NB262_259.out; have hnc67 := NB259_262.out; have hnb68 := NB262_260.out; have hnc68 := NB260_262.out; obtain ⟨hcz69_0, hcz69_1, hcz69_2, hcz69_3, hcz69_4, hcz69_5, hcz69_6, hcz69_7⟩ := ZC8 w66 BK262; obtain ⟨hfz69_0, hfz69_1, hfz69_2, hfz69_3, hfz69_4, hfz69_5, hfz69_6, hfz69_7⟩ := ZF8 BK262; have hnb70 := NB259_260.out; have hnc70 := NB260_259.out; obtain ⟨hcz71_0, hcz71_1, hcz71_2⟩ := ZC3 w66 BK259; obtain ⟨hfz71_0, hfz71_1, hfz71_2⟩ := ZF3 BK259; obtain ⟨Ao72, co72, eo72⟩ := Kd.R_slice HO_260000.out; subst eo72; have p272 : 0 ≤ (((rd_T66 l0 x5_1).f1) : Int) := ZD; have q272 : ((rd_T66 l0 x5_1).f1) < (x260000_1.length : Int) := ZD; obtain ⟨ad272, e272, hx272_0⟩ := Kd.at_int (Kd.R_reads' HO_260000.out).2.2 ((rd_T66 l0 x5_1).f1) p272 q272; cases e272; have hn272_0 : ad272.block ≠ gb262 := Kd.own_blk (Kd.R_ne HO_260000.out BK262.out (by decide)); have hn272_1 : ad272.block ≠ gb262 := Kd.own_blk (Kd.R_ne HO_260000.out BK262.out (by decide)); have hn272_2 : ad272.block ≠ gb262 := Kd.own_blk (Kd.R_ne HO_260000.out BK262.out (by decide)); have hn272_3 : ad272.block ≠ gb262 := Kd.own_blk (Kd.R_ne HO_260000.out BK262.out (by decide)); have hn272_4 : ad272.block ≠ gb262 := Kd.own_blk (Kd.R_ne HO_260000.out BK262.out (by decide)); have hn272_5 : ad272.block ≠ gb262 := Kd.own_blk (Kd.R_ne HO_260000.out BK262.out (by decide)); have hn272_6 : ad272.block ≠ gb262 := Kd.own_blk (Kd.R_ne HO_260000.out BK262.out (by decide)); have hn272_7 : ad272.block ≠ gb262 := Kd.own_blk (Kd.R_ne HO_260000.out BK262.out (by decide)); replace hx272_0 := (cell_far (p := ⟨gb262, 0, none⟩) (ZY hn272_0) (.int .i64 ((rd_T66 l0 x5_1).f0))).trans hx272_0; replace hx272_0 := (cell_far (p := ⟨gb262, 1, none⟩) (ZY hn272_1) (.int .i64 ((rd_T66 l0 x5_1).f1))).trans hx272_0; replace hx272_0 := (cell_far (p := ⟨gb262, 2, none⟩) (ZY hn272_2) (.int .i64 ((rd_T66 l0 x5_1).f2.f0))).trans hx272_0; replace hx272_0 := (cell_far (p := ⟨gb262, 3, none⟩) (ZY hn272_3) (.int .i64 ((rd_T66 l0 x5_1).f2.f1))).trans hx272_0; replace hx272_0 := (cell_far (p := ⟨gb262, 4, none⟩) (ZY hn272_4) (.int .i64 ((rd_T66 l0 x5_1).f2.f2))).trans hx272_0; replace hx272_0 := (cell_far (p := ⟨gb262, 5, none⟩) (ZY hn272_5) (.int .i64 ((rd_T66 l0 x5_1).f3))).trans hx272_0; replace hx272_0 := (cell_far (p := ⟨gb262, 6, none⟩) (ZY hn272_6) (.slice A261_6 ((rd_T66 l0 x5_1).f4).length c261_6)).trans hx272_0; replace hx272_0 := (cell_far (p := ⟨gb262, 7, none⟩) (ZY hn272_7) (.slice A261_7 ((rd_T66 l0 x5_1).f5).length c261_7)).trans hx272_0; clear hn272_0; clear hn272_1; clear hn272_2; clear hn272_3; clear hn272_4; clear hn272_5; clear hn272_6; clear hn272_7; replace p272 := eq_true p272; replace q272 := eq_true q272; obtain ⟨Ao73, co73, eo73⟩ := Kd.R_slice HO_260001.out; subst eo73; obtain ⟨Ao74, co74, eo74⟩ := Kd.R_slice HO_260002.out; subst eo74) | ((with_reducible refine gate_callee (f := 24) rfl ?_); refine goesL_ (some 30) rfl rfl Try.func24 (by kernel_rfl) rfl #[.slice A261_6 ((rd_T66 l0 x5_1).f4).length c261_6, .agg #[.slice (some ad272) x260000_1.length co72, .slice Ao73 x260001_1.length co73, .slice Ao74 x260002_1.length co74]] rfl ZG ?_; (with_reducible refine (ih k1 (by have := HK1.out; omega) _ _ ((rd_T66 l0 x5_1).f4) (fun k_ => some k_ = (.slice (some ad272) x260000_1.length co72 : Value).ownBlock) (.slice (some ad272) x260000_1.length co72) x260000_1 (fun k_ => some k_ = (.slice Ao73 x260001_1.length co73 : Value).ownBlock) (.slice Ao73 x260001_1.length co73) x260001_1 (fun k_ => some k_ = (.slice Ao74 x260002_1.length co74 : Value).ownBlock) (.slice Ao74 x260002_1.length co74) x260002_1 t282 t285 t288 w0 _ ?side1 ?side2 ?side3 ?side4 ?side5 ?side6 A65.out).mono ?_); (case side1 => repeat (first | (with_reducible first | exact HB.out | apply below_alloc | apply pw_below_drewN | apply below_drew1 | refine below_set ?_ GE259.out | refine below_set ?_ GE260.out | refine below_set ?_ GE262.out) | exact HB.out)); (case side2 => exact Kd.C_kept_call (fun W_ k_ => by have hw_ := Kd.kept_slot HR0.out (by have := (of_eq_true p261); have := (of_eq_true q261); omega) (by decide) (Kept.refl _ _) hy261_6 (add_block _ _) k_; obtain ⟨ad_, A6_, c6_, A7_, c7_, e_, m0_, m1_, m2_, m3_, m4_, m5_, m6_, m7_, y6_, z6_, y7_, z7_⟩ := at_T66 (HR0.out W_ k_) (x5_1) (by first | exact of_eq_true p261 | exact p261) (by first | exact of_eq_true q261 | exact q261); cases e_; rw [hw_] at m6_; cases m6_; exact z6_) (ZHK HK) (fun k_ hs_ => Or.elim hs_ (fun e_ => (fun e_ => (HO_260000.out.1 k_ e_.symm)) e_) (fun e_ => Or.elim e_ (fun e_ => (fun e_ => (HO_260001.out.1 k_ e_.symm)) e_) (fun e_ => (fun e_ => (HO_260002.out.1 k_ e_.symm)) e_)))); (case side3 => exact HC261_6.out); (case side4 => exact Kd.R_tight rfl (Kd.R_far (p := ⟨gb262, 7, none⟩) (Kd.R_far (p := ⟨gb262, 6, none⟩) (Kd.R_far (p := ⟨gb262, 5, none⟩) (Kd.R_far (p := ⟨gb262, 4, none⟩) (Kd.R_far (p := ⟨gb262, 3, none⟩) (Kd.R_far (p := ⟨gb262, 2, none⟩) (Kd.R_far (p := ⟨gb262, 1, none⟩) (Kd.R_far (p := ⟨gb262, 0, none⟩) (Kd.R_types HO_260000.out BK262.out (by decide)) (fun _ hk => hk.2) (.int .i64 ((rd_T66 l0 x5_1).f0))) (fun _ hk => hk.2) (.int .i64 ((rd_T66 l0 x5_1).f1))) (fun _ hk => hk.2) (.int .i64 ((rd_T66 l0 x5_1).f2.f0))) (fun _ hk => hk.2) (.int .i64 ((rd_T66 l0 x5_1).f2.f1))) (fun _ hk => hk.2) (.int .i64 ((rd_T66 l0 x5_1).f2.f2))) (fun _ hk => hk.2) (.int .i64 ((rd_T66 l0 x5_1).f3))) (fun _ hk => hk.2) (.slice A261_6 ((rd_T66 l0 x5_1).f4).length c261_6)) (fun _ hk => hk.2) (.slice A261_7 ((rd_T66 l0 x5_1).f5).length c261_7))); (case side5 => exact Kd.R_tight rfl (Kd.R_far (p := ⟨gb262, 7, none⟩) (Kd.R_far (p := ⟨gb262, 6, none⟩) (Kd.R_far (p := ⟨gb262, 5, none⟩) (Kd.R_far (p := ⟨gb262, 4, none⟩) (Kd.R_far (p := ⟨gb262, 3, none⟩) (Kd.R_far (p := ⟨gb262, 2, none⟩) (Kd.R_far (p := ⟨gb262, 1, none⟩) (Kd.R_far (p := ⟨gb262, 0, none⟩) (Kd.R_types HO_260001.out BK262.out (by decide)) (fun _ hk => hk.2) (.int .i64 ((rd_T66 l0 x5_1).f0))) (fun _ hk => hk.2) (.int .i64 ((rd_T66 l0 x5_1).f1))) (fun _ hk => hk.2) (.int .i64 ((rd_T66 l0 x5_1).f2.f0))) (fun _ hk => hk.2) (.int .i64 ((rd_T66 l0 x5_1).f2.f1))) (fun _ hk => hk.2) (.int .i64 ((rd_T66 l0 x5_1).f2.f2))) (fun _ hk => hk.2) (.int .i64 ((rd_T66 l0 x5_1).f3))) (fun _ hk => hk.2) (.slice A261_6 ((rd_T66 l0 x5_1).f4).length c261_6)) (fun _ hk => hk.2) (.slice A261_7 ((rd_T66 l0 x5_1).f5).length c261_7))); (case side6 => exact Kd.R_tight rfl (Kd.R_far (p := ⟨gb262, 7, none⟩) (Kd.R_far (p := ⟨gb262, 6, none⟩) (Kd.R_far (p := ⟨gb262, 5, none⟩) (Kd.R_far (p := ⟨gb262, 4, none⟩) (Kd.R_far (p := ⟨gb262, 3, none⟩) (Kd.R_far (p := ⟨gb262, 2, none⟩) (Kd.R_far (p := ⟨gb262, 1, none⟩) (Kd.R_far (p := ⟨gb262, 0, none⟩) (Kd.R_types HO_260002.out BK262.out (by decide)) (fun _ hk => hk.2) (.int .i64 ((rd_T66 l0 x5_1).f0))) (fun _ hk => hk.2) (.int .i64 ((rd_T66 l0 x5_1).f1))) (fun _ hk => hk.2) (.int .i64 ((rd_T66 l0 x5_1).f2.f0))) (fun _ hk => hk.2) (.int .i64 ((rd_T66 l0 x5_1).f2.f1))) (fun _ hk => hk.2) (.int .i64 ((rd_T66 l0 x5_1).f2.f2))) (fun _ hk => hk.2) (.int .i64 ((rd_T66 l0 x5_1).f3))) (fun _ hk => hk.2) (.slice A261_6 ((rd_T66 l0 x5_1).f4).length c261_6)) (fun _ hk => hk.2) (.slice A261_7 ((rd_T66 l0 x5_1).f5).length c261_7))); rintro e w75 ⟨v283, v286, v289, rfl, ho0, ho1, ho2, hb, hkp⟩; refine ⟨_, rfl, ?_⟩; have n0_ := Aside0.mk (blk_kept (ZZ BK259.out) hkp (fun hs_ => Or.elim hs_ (fun e_ => (fun e_ => (Kd.R_ne HO_260000.out BK259.out (by decide)) e_) e_) (fun e_ => Or.elim e_ (fun e_ => (fun e_ => (Kd.R_ne HO_260001.out BK259.out (by decide)) e_) e_) (fun e_ => (fun e_ => (Kd.R_ne HO_260002.out BK259.out (by decide)) e_) e_)))); have n1_ := Aside0.mk (blk_kept (ZZ BK260.out) hkp (fun hs_ => Or.elim hs_ (fun e_ => (fun e_ => (Kd.R_ne HO_260000.out BK260.out (by decide)) e_) e_) (fun e_ => Or.elim e_ (fun e_ => (fun e_ => (Kd.R_ne HO_260001.out BK260.out (by decide)) e_) e_) (fun e_ => (fun e_ => (Kd.R_ne HO_260002.out BK260.out (by decide)) e_) e_)))); have n2_ := Aside0.mk (blk_kept (ZZ BK262.out) hkp (fun hs_ => Or.elim hs_ (fun e_ => (fun e_ => (Kd.R_ne HO_260000.out BK262.out (by decide)) e_) e_) (fun e_ => Or.elim e_ (fun e_ => (fun e_ => (Kd.R_ne HO_260001.out BK262.out (by decide)) e_) e_) (fun e_ => (fun e_ => (Kd.R_ne HO_260002.out BK262.out (by decide)) e_) e_)))); have n3_ := Aside0.mk (Kd.R_mono (ok' := fun k_ => ((P1_0_ k_ ∨ P1_1_ k_ ∨ P1_2_ k_) ∨ w.heap.size ≤ k_)) ho0 (fun k_ hk_ => Or.elim hk_ (fun hs_ => Or.elim hs_ (fun hs_ => (HO_260000.out.1 k_ (hs_).symm)) (fun hs_ => Or.elim hs_ (fun hs_ => (HO_260001.out.1 k_ (hs_).symm)) (fun hs_ => (HO_260002.out.1 k_ (hs_).symm)))) (fun hn_ => (.inr (Nat.le_trans (show Kept w _ (fun k_ => P1_0_ k_ ∨ P1_1_ k_ ∨ P1_2_ k_) from ZHK HK).1 hn_))))); have n4_ := Aside0.mk (Kd.R_mono (ok' := fun k_ => ((P1_0_ k_ ∨ P1_1_ k_ ∨ P1_2_ k_) ∨ w.heap.size ≤ k_)) ho1 (fun k_ hk_ => Or.elim hk_ (fun hs_ => Or.elim hs_ (fun hs_ => (HO_260000.out.1 k_ (hs_).symm)) (fun hs_ => Or.elim hs_ (fun hs_ => (HO_260001.out.1 k_ (hs_).symm)) (fun hs_ => (HO_260002.out.1 k_ (hs_).symm)))) (fun hn_ => (.inr (Nat.le_trans (show Kept w _ (fun k_ => P1_0_ k_ ∨ P1_1_ k_ ∨ P1_2_ k_) from ZHK HK).1 hn_))))); have n5_ := Aside0.mk (Kd.R_mono (ok' := fun k_ => ((P1_0_ k_ ∨ P1_1_ k_ ∨ P1_2_ k_) ∨ w.heap.size ≤ k_)) ho2 (fun k_ hk_ => Or.elim hk_ (fun hs_ => Or.elim hs_ (fun hs_ => (HO_260000.out.1 k_ (hs_).symm)) (fun hs_ => Or.elim hs_ (fun hs_ => (HO_260001.out.1 k_ (hs_).symm)) (fun hs_ => (HO_260002.out.1 k_ (hs_).symm)))) (fun hn_ => (.inr (Nat.le_trans (show Kept w _ (fun k_ => P1_0_ k_ ∨ P1_1_ k_ ∨ P1_2_ k_) from ZHK HK).1 hn_))))); have n6_ := Aside0.mk (Kept.then_ (S := (fun k_ => P1_0_ k_ ∨ P1_1_ k_ ∨ P1_2_ k_)) (ZHK HK) hkp (fun k_ hs_ => Or.elim hs_ (fun e_ => (fun e_ => (HO_260000.out.1 k_ e_.symm)) e_) (fun e_ => Or.elim e_ (fun e_ => (fun e_ => (HO_260001.out.1 k_ e_.symm)) e_) (fun e_ => (fun e_ => (HO_260002.out.1 k_ e_.symm)) e_)))); have n7_ := Aside0.mk (hb); clear BK259; clear BK260; clear BK262; clear HK; clear HB; clear HO_260000; clear HO_260001; clear HO_260002; have BK259 := n0_; have BK260 := n1_; have BK262 := n2_; have HO284 := n3_; have HO287 := n4_; have HO290 := n5_; have HK := n6_; have HB := n7_; clear n0_ n1_ n2_ n3_ n4_ n5_ n6_ n7_; (try clear hb); (try clear hkp); (try clear ho0); (try clear ho1); (try clear ho2); obtain ⟨Ao76, co76, eo76⟩ := Kd.R_slice HO284.out; subst eo76; obtain ⟨hcz77_0, hcz77_1, hcz77_2⟩ := ZC3 w75 BK259; obtain ⟨hfz77_0, hfz77_1, hfz77_2⟩ := ZF3 BK259; obtain ⟨Ao78, co78, eo78⟩ := Kd.R_slice HO287.out; subst eo78; obtain ⟨Ao79, co79, eo79⟩ := Kd.R_slice HO290.out; subst eo79))
          go_roundg k1
          case measure => have := HK1.out; omega
          case rel => exact ⟨(wrap64 (x5_1 + 1)), (t282), (t285), (t288), (.slice Ao76 t282.length co76), (.slice Ao78 t285.length co78), (.slice Ao79 t288.length co79), (by first | rfl | (simp; done) | (simp [*]; done)), H', ⟨by have := HK1.out; omega⟩, ⟨ZR (Kd.R_mono (Kd.R_far (p := ⟨gb259, 2, none⟩) (Kd.R_far (p := ⟨gb259, 1, none⟩) (Kd.R_far (p := ⟨gb259, 0, none⟩) (Kd.R_types HO284.out BK259.out (by decide)) (fun _ hk => hk.2) (.slice Ao76 t282.length co76)) (fun _ hk => hk.2) (.slice Ao78 t285.length co78)) (fun _ hk => hk.2) (.slice Ao79 t288.length co79)) (fun _ hk => hk.1))⟩, ⟨ZR (Kd.R_mono (Kd.R_far (p := ⟨gb259, 2, none⟩) (Kd.R_far (p := ⟨gb259, 1, none⟩) (Kd.R_far (p := ⟨gb259, 0, none⟩) (Kd.R_types HO287.out BK259.out (by decide)) (fun _ hk => hk.2) (.slice Ao76 t282.length co76)) (fun _ hk => hk.2) (.slice Ao78 t285.length co78)) (fun _ hk => hk.2) (.slice Ao79 t288.length co79)) (fun _ hk => hk.1))⟩, ⟨ZR (Kd.R_mono (Kd.R_far (p := ⟨gb259, 2, none⟩) (Kd.R_far (p := ⟨gb259, 1, none⟩) (Kd.R_far (p := ⟨gb259, 0, none⟩) (Kd.R_types HO290.out BK259.out (by decide)) (fun _ hk => hk.2) (.slice Ao76 t282.length co76)) (fun _ hk => hk.2) (.slice Ao78 t285.length co78)) (fun _ hk => hk.2) (.slice Ao79 t288.length co79)) (fun _ hk => hk.1))⟩, ⟨ZZ BK259.out⟩, ⟨ZZ BK260.out⟩, ⟨ZHK HK⟩, ⟨ZB⟩⟩
        ·rw [if_neg c48] at H
         exact absurd H (by simp)
       ·rw [if_neg c47] at H
        exact absurd H (by simp)
    ·rw [if_neg c9] at H
     exact absurd H (by simp)
   ·rw [if_neg c8] at H
    have c8b0 : decide (x5_1 < (l0.length : Int)) = false := decide_eq_false c8
    clear c8
    simp only [Option.some.injEq, Prod.mk.injEq] at H
    obtain ⟨rfl, rfl, rfl⟩ := H
    have hnb80 := NB259_260.out
    have hnc80 := NB260_259.out
    obtain ⟨hcz81_0, hcz81_1, hcz81_2⟩ := ZC3 wr BK259
    obtain ⟨hfz81_0, hfz81_1, hfz81_2⟩ := ZF3 BK259
    obtain ⟨Ao82, co82, eo82⟩ := Kd.R_slice HO_260000.out
    subst eo82
    obtain ⟨hcz83_0, hcz83_1, hcz83_2⟩ := ZC3 wr BK260
    obtain ⟨hfz83_0, hfz83_1, hfz83_2⟩ := ZF3 BK260
    obtain ⟨Ao84, co84, eo84⟩ := Kd.R_slice HO_260001.out
    subst eo84
    obtain ⟨Ao85, co85, eo85⟩ := Kd.R_slice HO_260002.out
    subst eo85
    go_wp2
    refine bodyPost_ret (results_cell_row rfl _ _ gb260 27 #[.slice Ao82 x260000_1.length co82, .slice Ao84 x260001_1.length co84, .slice Ao85 x260002_1.length co85] (0, 0) _ rfl (ZZ BK260.out) Try.underlying27 rfl (by kernel_rfl)) rfl ?_
    exact ⟨_, _, _, ZE, by (with_reducible repeat (first | apply Kd.R_alloc | apply Kd.R_drewN | apply Kd.R_drew)); exact Kd.R_mono (Kd.R_far (p := ⟨gb260, 2, none⟩) (Kd.R_far (p := ⟨gb260, 1, none⟩) (Kd.R_far (p := ⟨gb260, 0, none⟩) (Kd.R_types HO_260000.out BK260.out (by decide)) (fun _ hk => hk.2) (.slice Ao82 x260000_1.length co82)) (fun _ hk => hk.2) (.slice Ao84 x260001_1.length co84)) (fun _ hk => hk.2) (.slice Ao85 x260002_1.length co85)) (fun _ hk => hk.1), by (with_reducible repeat (first | apply Kd.R_alloc | apply Kd.R_drewN | apply Kd.R_drew)); exact Kd.R_mono (Kd.R_far (p := ⟨gb260, 2, none⟩) (Kd.R_far (p := ⟨gb260, 1, none⟩) (Kd.R_far (p := ⟨gb260, 0, none⟩) (Kd.R_types HO_260001.out BK260.out (by decide)) (fun _ hk => hk.2) (.slice Ao82 x260000_1.length co82)) (fun _ hk => hk.2) (.slice Ao84 x260001_1.length co84)) (fun _ hk => hk.2) (.slice Ao85 x260002_1.length co85)) (fun _ hk => hk.1), by (with_reducible repeat (first | apply Kd.R_alloc | apply Kd.R_drewN | apply Kd.R_drew)); exact Kd.R_mono (Kd.R_far (p := ⟨gb260, 2, none⟩) (Kd.R_far (p := ⟨gb260, 1, none⟩) (Kd.R_far (p := ⟨gb260, 0, none⟩) (Kd.R_types HO_260002.out BK260.out (by decide)) (fun _ hk => hk.2) (.slice Ao82 x260000_1.length co82)) (fun _ hk => hk.2) (.slice Ao84 x260001_1.length co84)) (fun _ hk => hk.2) (.slice Ao85 x260002_1.length co85)) (fun _ hk => hk.1), ZB, ZHK HK⟩

end Go.Proofs.Ytdmejmdifnicmaa.A
