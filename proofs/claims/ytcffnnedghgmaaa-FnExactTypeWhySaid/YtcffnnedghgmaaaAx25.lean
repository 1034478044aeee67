/- What Go functions compute, as Lean functions, and for each its contract: for every input at which the Lean function answers the call returns that; written by wip/tools/pr.py over the kit's print. -/
import Derived.Test.YtcffnnedghgmaaaAx0
import Derived.Test.YtcffnnedghgmaaaAx24
namespace Go.Proofs.Ytcffnnedghgmaaa.A
open Go.RowKit Go.Proofs.YtcffnnedghgmaaaW.PrintWords Go.Proofs.YtcffnnedghgmaaaW.PrintLast Go.Proofs.YtcffnnedghgmaaaW.PrintMore
attribute [local go_sem] max2_int min2_int max_two min_two max_three min_three max_four min_four   -- for this text's walks alone
set_option linter.unusedVariables false
set_option linter.unusedSimpArgs false

/-! ### spec_l11At: function 107 -/
mutual
def spec_l11At.l0 : Nat → List (S59) → List (S35) → Int → List (S35) → List (S59) → Int → Int → Option ((List (S35)))
 | 0, _, _, _, _, _, _, _ => none
 | k + 1, x1, x3, x9, x361000, x361001, x362000, x362001 => if x9 < (x1.length : Int) then (if x3.length < 8796093022208 then (if 0 ≤ x9 then (if 0 ≤ ((rd_T59 x1 x9).f1) then (if ((rd_T59 x1 x9).f1) < (x361000.length : Int) then ((spec_LabelBoth.f k x362000 x362001 ((rd_T35 x361000 ((rd_T59 x1 x9).f1)).f0) ((rd_T35 x361000 ((rd_T59 x1 x9).f1)).f1)).bind fun bt367 => ((spec_l11At.f k x361000 x361001 ((rd_T59 x1 x9).f4) bt367.1 bt367.2 (x3 ++ [(⟨x362000, x362001⟩ : S35)])).bind fun t371 => ((spec_l11At.f k x361000 x361001 ((rd_T59 x1 x9).f5) bt367.1 bt367.2 t371).bind fun t375 => (spec_l11At.l0 k x1 t375 (wrap64 (x9 + 1)) x361000 x361001 x362000 x362001)))) else (none)) else (none)) else (none)) else (none)) else (some x3)
def spec_l11At.f : Nat → List (S35) → List (S59) → List (S59) → Int → Int → List (S35) → Option ((List (S35)))
 | 0, _, _, _, _, _, _ => none
 | k + 1, l0_0, l0_1, l1, a2_0, a2_1, l3 => spec_l11At.l0 k l1 l3 0 l0_0 l0_1 a2_0 a2_1
end
def spec_l11At.T5 : Bool × List (List Nat × List Nat) := (true, [([], []), ([], []), ([1], [1]), ([], []), ([], []), ([3, 4], [3, 4]), ([5], [5]), ([6], [6]), ([2, 7], [2, 7]), ([8], [8]), ([0, 9], [0, 9]), ([], []), ([11, 10, 10, 0, 1, 2, 3, 4, 5, 6, 7, 8, 9, 10, 11], [10, 11])])
def spec_l11At.B5 : List Nat := [0, 0, 2, 0, 0, 24, 56, 120, 254, 510, 1023, 0, 4095]
theorem spec_l11At.tab5 : rtab .any (opsOf Try.f107 5) = spec_l11At.T5 := by kernel_rfl
theorem spec_l11At.bits5 : waitsOk spec_l11At.T5.2 spec_l11At.B5 = true := by kernel_rfl
def spec_l11At.T6 : Bool × List (List Nat × List Nat) := (true, [([], []), ([], []), ([], []), ([1, 2], [1, 2]), ([3], [3]), ([4], [4]), ([], []), ([], []), ([0, 5, 6, 7], [0, 5, 6, 7]), ([8, 8, 0, 1, 2, 3, 4, 5, 6, 7, 8], [7, 8])])
def spec_l11At.B6 : List Nat := [0, 0, 0, 6, 14, 30, 0, 0, 255, 511]
theorem spec_l11At.tab6 : rtab .any (opsOf Try.f107 6) = spec_l11At.T6 := by kernel_rfl
theorem spec_l11At.bits6 : waitsOk spec_l11At.T6.2 spec_l11At.B6 = true := by kernel_rfl
def spec_l11At.T7 : Bool × List (List Nat × List Nat) := (true, [([], []), ([], []), ([], []), ([1, 2], [1, 2]), ([3], [3]), ([4], [4]), ([], []), ([], []), ([0, 5, 6, 7], [0, 5, 6, 7]), ([8, 8, 0, 1, 2, 3, 4, 5, 6, 7, 8], [7, 8])])
def spec_l11At.B7 : List Nat := [0, 0, 0, 6, 14, 30, 0, 0, 255, 511]
theorem spec_l11At.tab7 : rtab .any (opsOf Try.f107 7) = spec_l11At.T7 := by kernel_rfl
theorem spec_l11At.bits7 : waitsOk spec_l11At.T7.2 spec_l11At.B7 = true := by kernel_rfl
set_option maxHeartbeats 8000000 in
set_option maxRecDepth 100000 in
theorem spec_l11At.calls (k : Nat) : ∀ (A0_0 : Option Addr) (c0_0 : Nat) (l0_0 : List (S35)) (A0_1 : Option Addr) (c0_1 : Nat) (l0_1 : List (S59)) (A1 : Option Addr) (c1 : Nat) (l1 : List (S59)) (a2_0 : Int) (a2_1 : Int) (P3_ : Nat → Prop) (u9000_ : Value) (l3 : List (S35)) (r : List (S35)) (w0 w : World) (hB : Below w0.heap.size w0 w) (hr0_0 : ∀ W_, Kept w W_ (fun k_ => P3_ k_) → Kd.C k35 W_ A0_0 l0_0.length l0_0) (hc0_0 : l0_0.length ≤ c0_0) (hr0_1 : ∀ W_, Kept w W_ (fun k_ => P3_ k_) → Kd.C k59 W_ A0_1 l0_1.length l0_1) (hc0_1 : l0_1.length ≤ c0_1) (hr1 : ∀ W_, Kept w W_ (fun k_ => P3_ k_) → Kd.C k59 W_ A1 l1.length l1) (hc1 : l1.length ≤ c1) (ho3 : Kd.R k35 35 w w0.heap.size P3_ u9000_ l3) (h : spec_l11At.f k l0_0 l0_1 l1 a2_0 a2_1 l3 = some r),
  Calls Try.prog 107 #[.agg #[.slice A0_0 l0_0.length c0_0, .slice A0_1 l0_1.length c0_1], .slice A1 l1.length c1, .agg #[.int .i64 a2_0, .int .i64 a2_1], u9000_] w fun e w' => ∃ v0_ : Value, e = .returned (v0_) ∧ Kd.R k35 35 w' w0.heap.size (fun k_ => (P3_ k_ ∨ w.heap.size ≤ k_)) v0_ r ∧ Below w0.heap.size w0 w' ∧ Kept w w' (fun k_ => P3_ k_) := by
 induction k using Nat.strongRecOn with
 | _ k ih =>
 intro A0_0 c0_0 l0_0 A0_1 c0_1 l0_1 A1 c1 l1 a2_0 a2_1 P3_ u9000_ l3 r w0 w hB hr0_0 hc0_0 hr0_1 hc0_1 hr1 hc1 ho3 h
 cases k with
 | zero => exact absurd h (by simp [spec_l11At.f])
 | succ k =>
 simp only [spec_l11At.f] at h
 have hu26 := Try.underlying26
 have hu35 := Try.underlying35
 have HR0_0 := Aside0.mk hr0_0
 have HC0_0 := Aside0.mk hc0_0
 clear hr0_0 hc0_0
 have HR0_1 := Aside0.mk hr0_1
 have HC0_1 := Aside0.mk hc0_1
 clear hr0_1 hc0_1
 have HR1 := Aside0.mk hr1
 have HC1 := Aside0.mk hc1
 clear hr1 hc1
 have HO3 := Aside0.mk (show Kd.R k35 35 w w0.heap.size (fun k_ => (P3_ k_ ∨ w.heap.size ≤ k_)) u9000_ l3 from Kd.R_mono ho3 (fun k_ hk => (.inl hk)))
 have HK := Aside0.mk (Kept.refl w (fun k_ => P3_ k_))
 have HW0 := Aside0.mk hB.size
 have HB := Aside0.mk hB
 clear hB
 have H : (spec_l11At.l0 k l1 l3 0 l0_0 l0_1 a2_0 a2_1) = some r := h
 clear h
 have H' := Aside0.mk H
 clear H
 go_enter Try.func107, Try.ntmps107
 go_wp2_with (first | ((with_reducible refine gate_dst (N := 4) rfl ?_); refine ZX (N := 4) (cs := #[.slice A0_0 l0_0.length c0_0, .slice A0_1 l0_1.length c0_1]) (t := 26) ?_; intro gb360 hg w5 hbox hb; have BK360 := Aside0.mk (hbox); have GW360 := Aside0.mk ((by rw [hg]; exact (by first | exact HK.out.1 | exact (show Kept w _ (fun k_ => P3_ k_) from ZH).1) : w.heap.size ≤ gb360)); have GE360 : Aside0 (w0.heap.size ≤ gb360) := ZS hg; replace HO3 := Aside0.mk (Kd.R_below (ZR HO3.out) hb); replace HK := Aside0.mk (Kept.below (S := (fun k_ => P3_ k_)) (ZH) hb); replace HB := ZT hb; clear hb hbox hg) | ((with_reducible refine gate_dst (N := 6) rfl ?_); refine ZX (N := 6) (cs := #[.int .i64 a2_0, .int .i64 a2_1]) (t := 35) ?_; intro gb361 hg w6 hbox hb; have BK361 := Aside0.mk (hbox); have GW361 := Aside0.mk ((by rw [hg]; exact (by first | exact HK.out.1 | exact (show Kept w _ (fun k_ => P3_ k_) from ZH).1) : w.heap.size ≤ gb361)); have GE361 : Aside0 (w0.heap.size ≤ gb361) := ZS hg; have NB360_361 : Aside0 (gb360 ≠ gb361) := ZN hg BK360; have NB361_360 : Aside0 (gb361 ≠ gb360) := ZM hg BK360; replace HO3 := Aside0.mk (Kd.R_below (Kd.R_elderB (ZR HO3.out) gb361 (Nat.le_of_eq hg.symm)) hb); replace BK360 := ZW BK360 hb; replace HK := Aside0.mk (Kept.below (S := (fun k_ => P3_ k_)) (ZH) hb); replace HB := ZT hb; clear hb hbox hg))
 go_loopg [3, 9] k (fun kq v3 v9 w' => ∃ (x3_1 : List (S35)) (x9_1 : Int), v9 = .int .i64 x9_1 ∧ Aside0 (spec_l11At.l0 kq l1 x3_1 x9_1 l0_0 l0_1 a2_0 a2_1 = some r) ∧ Aside0 (kq ≤ k) ∧ Aside0 (Kd.R k35 35 w' w0.heap.size (fun k_ => (P3_ k_ ∨ w.heap.size ≤ k_) ∧ k_ ≠ gb361) v3 x3_1) ∧ Aside0 (w'.heap[gb360]? = some (.cells #[(.slice A0_0 l0_0.length c0_0), (.slice A0_1 l0_1.length c0_1)] 26 (0, 0))) ∧ Aside0 (w'.heap[gb361]? = some (.cells #[.int .i64 a2_0, .int .i64 a2_1] 35 (0, 0))) ∧ Aside0 (Kept w w' (fun k_ => P3_ k_)) ∧ Aside0 (Below w0.heap.size w0 w'))
 case atStart => exact ⟨(l3), (0), (by first | rfl | (simp; done) | (simp [*]; done)), H', ⟨Nat.le_refl _⟩, ⟨ZR HO3.out⟩, ⟨ZK BK360.out⟩, ⟨ZK BK361.out⟩, ⟨ZH⟩, ⟨ZB⟩⟩
 case round =>
  clear H'
  try clear c1
  try clear p2
  obtain ⟨x3_1, x9_1, rfl, HA, HK1, HO_3, BK360, BK361, HK, HB⟩ := hrel
  cases gk with
  | zero => exact absurd HA.out (by simp [spec_l11At.l0])
  | succ k1 =>
   have H := HA.out
   clear HA
   simp only [spec_l11At.l0] at H
   by_cases c7 : x9_1 < (l1.length : Int)
   ·rw [if_pos c7] at H
    have c7b0 : decide (x9_1 < (l1.length : Int)) = true := decide_eq_true c7
    clear c7
    by_cases c8 : x3_1.length < 8796093022208
    ·rw [if_pos c8] at H
     have LMc8 := Aside0.mk c8
     clear c8
     obtain ⟨y362, hy362⟩ : ∃ y_ : List (S35), y_ = (x3_1 ++ [(⟨a2_0, a2_1⟩ : S35)]) := ⟨_, rfl⟩
     replace H : (if 0 ≤ x9_1 then (if 0 ≤ ((rd_T59 l1 x9_1).f1) then (if ((rd_T59 l1 x9_1).f1) < (l0_0.length : Int) then ((spec_LabelBoth.f k1 a2_0 a2_1 ((rd_T35 l0_0 ((rd_T59 l1 x9_1).f1)).f0) ((rd_T35 l0_0 ((rd_T59 l1 x9_1).f1)).f1)).bind fun bt367 => ((spec_l11At.f k1 l0_0 l0_1 ((rd_T59 l1 x9_1).f4) bt367.1 bt367.2 y362).bind fun t371 => ((spec_l11At.f k1 l0_0 l0_1 ((rd_T59 l1 x9_1).f5) bt367.1 bt367.2 t371).bind fun t375 => (spec_l11At.l0 k1 l1 t375 (wrap64 (x9_1 + 1)) l0_0 l0_1 a2_0 a2_1)))) else (none)) else (none)) else (none)) = some r := by first | (rw [hy362]; with_reducible exact H) | (have H2_ := (Option.bind_some _ _).symm.trans H; rw [hy362]; with_reducible exact H2_) | (have H2_ := (Option.bind_some _ _).symm.trans H; with_reducible exact H2_) | with_reducible exact H | (rw [hy362]; exact H) | exact H
     have Ny362 := Aside0.mk hy362
     clear hy362
     by_cases c9 : 0 ≤ x9_1
     ·rw [if_pos c9] at H
      have c9b0 : decide (0 ≤ x9_1) = true := decide_eq_true c9
      clear c9
      by_cases c10 : 0 ≤ ((rd_T59 l1 x9_1).f1)
      ·rw [if_pos c10] at H
       have c10b0 : decide (0 ≤ ((rd_T59 l1 x9_1).f1)) = true := decide_eq_true c10
       clear c10
       by_cases c11 : ((rd_T59 l1 x9_1).f1) < (l0_0.length : Int)
       ·rw [if_pos c11] at H
        have c11b0 : decide (((rd_T59 l1 x9_1).f1) < (l0_0.length : Int)) = true := decide_eq_true c11
        clear c11
        replace H := Option.bind_eq_some_iff.mp H
        obtain ⟨⟨t367, t368⟩, A120, H⟩ := H
        replace H : ((spec_l11At.f k1 l0_0 l0_1 ((rd_T59 l1 x9_1).f4) t367 t368 y362).bind fun t371 => ((spec_l11At.f k1 l0_0 l0_1 ((rd_T59 l1 x9_1).f5) t367 t368 t371).bind fun t375 => (spec_l11At.l0 k1 l1 t375 (wrap64 (x9_1 + 1)) l0_0 l0_1 a2_0 a2_1))) = some r := H
        have A12 := Aside0.mk A120
        clear A120
        replace H := Option.bind_eq_some_iff.mp H
        obtain ⟨t371, A130, H⟩ := H
        replace H : ((spec_l11At.f k1 l0_0 l0_1 ((rd_T59 l1 x9_1).f5) t367 t368 t371).bind fun t375 => (spec_l11At.l0 k1 l1 t375 (wrap64 (x9_1 + 1)) l0_0 l0_1 a2_0 a2_1)) = some r := H
        have A13 := Aside0.mk A130
        clear A130
        replace H := Option.bind_eq_some_iff.mp H
        obtain ⟨t375, A140, H⟩ := H
        replace H : (spec_l11At.l0 k1 l1 t375 (wrap64 (x9_1 + 1)) l0_0 l0_1 a2_0 a2_1) = some r := H
        have A14 := Aside0.mk A140
        clear A140
        have H' := Aside0.mk H
        clear H
        have hnb15 := NB361_360.out
        have hnc15 := NB360_361.out
        obtain ⟨hcz16_0, hcz16_1⟩ := ZC2 wr BK361
        obtain ⟨hfz16_0, hfz16_1⟩ := ZF2 BK361
        try go_wp2_with (first | ((with_reducible refine gate_builtin (b := .append) (xs := #[.tmp 17, .tmp 19]) rfl ?_); at_builtin; refine Kd.R_append k35 (w0 := w0) w0.heap.size rfl (.tmp 17) (.tmp 19) 23 35 (.agg #[(.int .i64 0), (.int .i64 0)]) 16 rfl Try.underlying23 info35 rfl (by decide) (by omega) u3 x3_1 (⟨a2_0, a2_1⟩ : S35) [.int .i64 a2_0, .int .i64 a2_1] (fun k_ => (P3_ k_ ∨ w.heap.size ≤ k_) ∧ k_ ≠ gb361) (fun _ => False) rfl rfl ?aP (fun _ hk => hk.elim) ?aF ?aO ?aB ?aS ?aL ?_; (case aP => exact k35_mkM _ _ _ (⟨a2_0, a2_1⟩ : S35)); (case aB => exact (ZB)); (case aF => exact (fun k_ hk => ⟨(.inr (Nat.le_trans (by first | exact HK.out.1 | exact (show Kept w _ (fun k_ => P3_ k_) from ZH).1) hk)), Kd.freshB (g := gb361) (o := .cells #[.int .i64 a2_0, .int .i64 a2_1] 35 (0, 0)) (ZK BK361.out) k_ hk⟩)); (case aO => exact (ZR HO_3.out)); (case aS => exact (below_size (ZB))); (case aL => have := LMc8.out; omega); intro v363 w17 ho hb hg hat; rw [← Ny362.out] at ho; have n0_ := Aside0.mk (blk_grown (g := gb360) (o := .cells #[.slice A0_0 l0_0.length c0_0, .slice A0_1 l0_1.length c0_1] 26 (0, 0)) (ZK BK360.out) hg (Kd.R_ne HO_3.out BK360.out (by decide))); have n1_ := Aside0.mk (blk_grown (g := gb361) (o := .cells #[.int .i64 a2_0, .int .i64 a2_1] 35 (0, 0)) (ZK BK361.out) hg (Kd.R_away HO_3.out (fun _ hk => hk.2))); have n2_ := Aside0.mk (hb); have n3_ := Aside0.mk (Kept.of_grown (S := (fun k_ => P3_ k_)) hg (ZH) (fun k_ e_ => (HO_3.out.1 k_ e_).1)); have n4_ := Aside0.mk (ho); clear BK360; clear BK361; clear HB; clear HK; clear HO_3; have BK360 := n0_; have BK361 := n1_; have HB := n2_; have HK := n3_; have HO364 := n4_; clear n0_ n1_ n2_ n3_ n4_; clear ho hb hg hat))
        have n0_ := Aside0.mk (Kd.R_drew HO364.out)
        have n1_ := Aside0.mk (blk_drew BK360.out)
        have n2_ := Aside0.mk (blk_drew BK361.out)
        have n3_ := Aside0.mk (Kept.drew HK.out)
        have n4_ := Aside0.mk (below_drew1 HB.out)
        clear HO364
        clear BK360
        clear BK361
        clear HK
        clear HB
        have HO364 := n0_
        have BK360 := n1_
        have BK361 := n2_
        have HK := n3_
        have HB := n4_
        clear n0_ n1_ n2_ n3_ n4_
        have p365 : 0 ≤ (x9_1 : Int) := ZD
        have q365 : x9_1 < (l1.length : Int) := ZD
        obtain ⟨ad365, A365_6, c365_6, A365_7, c365_7, e365, hx365_0, hx365_1, hx365_2, hx365_3, hx365_4, hx365_5, hx365_6, hx365_7, hl365_6, hi365_6, hl365_7, hi365_7⟩ := at_T59 (Kd.C_kept_now HR1.out HK.out) x9_1 p365 q365
        have hw365_7 := hx365_7
        have hw365_6 := hx365_6
        have hw365_5 := hx365_5
        have hw365_4 := hx365_4
        have hw365_3 := hx365_3
        have hw365_2 := hx365_2
        have hw365_1 := hx365_1
        have hw365_0 := hx365_0
        cases e365
        have hy365_0 := Kd.kept_slot HR1.out (by omega) (by decide) (ZH) hx365_0 (add_block _ _) (Kept.refl _ _)
        have hy365_1 := Kd.kept_slot HR1.out (by omega) (by decide) (ZH) hx365_1 (add_block _ _) (Kept.refl _ _)
        have hy365_2 := Kd.kept_slot HR1.out (by omega) (by decide) (ZH) hx365_2 (add_block _ _) (Kept.refl _ _)
        have hy365_3 := Kd.kept_slot HR1.out (by omega) (by decide) (ZH) hx365_3 (add_block _ _) (Kept.refl _ _)
        have hy365_4 := Kd.kept_slot HR1.out (by omega) (by decide) (ZH) hx365_4 (add_block _ _) (Kept.refl _ _)
        have hy365_5 := Kd.kept_slot HR1.out (by omega) (by decide) (ZH) hx365_5 (add_block _ _) (Kept.refl _ _)
        have hy365_6 := Kd.kept_slot HR1.out (by omega) (by decide) (ZH) hx365_6 (add_block _ _) (Kept.refl _ _)
        have hy365_7 := Kd.kept_slot HR1.out (by omega) (by decide) (ZH) hx365_7 (add_block _ _) (Kept.refl _ _)
        have HR365_6 := Aside0.mk hi365_6
        have HC365_6 := Aside0.mk hl365_6
        clear hi365_6 hl365_6
        have HR365_7 := Aside0.mk hi365_7
        have HC365_7 := Aside0.mk hl365_7
        clear hi365_7 hl365_7
        replace p365 := eq_true p365
        replace q365 := eq_true q365
        have p366 : 0 ≤ (((rd_T59 l1 x9_1).f1) : Int) := ZD
        have q366 : ((rd_T59 l1 x9_1).f1) < (l0_0.length : Int) := ZD
        obtain ⟨ad366, e366, hx366_0, hx366_1⟩ := at_T35 (Kd.C_kept_now HR0_0.out HK.out) ((rd_T59 l1 x9_1).f1) p366 q366
        have hw366_1 := hx366_1
        have hw366_0 := hx366_0
        cases e366
        have hy366_0 := Kd.kept_slot HR0_0.out (by omega) (by decide) (ZH) hx366_0 (add_block _ _) (Kept.refl _ _)
        have hy366_1 := Kd.kept_slot HR0_0.out (by omega) (by decide) (ZH) hx366_1 (add_block _ _) (Kept.refl _ _)
        replace p366 := eq_true p366
        replace q366 := eq_true q366
        refine start_ (n := 13) (S := fun w' => w'.cell? ⟨gb361, 0, none⟩ = some (.int .i64 a2_0) ∧ w'.cell? ⟨gb361, 1, none⟩ = some (.int .i64 a2_1) ∧ w'.cell? ⟨gb360, 0, none⟩ = some (.slice (some ad366) l0_0.length c0_0) ∧ w'.cell? ⟨gb360, 1, none⟩ = some (.slice A0_1 l0_1.length c0_1) ∧ w'.cell? (ad365.add ((x9_1).toNat * 8)) = some (.int .i64 ((rd_T59 l1 x9_1).f0)) ∧ w'.cell? ⟨(ad365.add ((x9_1).toNat * 8)).block, (ad365.add ((x9_1).toNat * 8)).off + 1, none⟩ = some (.int .i64 ((rd_T59 l1 x9_1).f1)) ∧ w'.cell? ⟨(ad365.add ((x9_1).toNat * 8)).block, (ad365.add ((x9_1).toNat * 8)).off + 2, none⟩ = some (.int .i64 ((rd_T59 l1 x9_1).f2.f0)) ∧ w'.cell? ⟨(ad365.add ((x9_1).toNat * 8)).block, (ad365.add ((x9_1).toNat * 8)).off + 3, none⟩ = some (.int .i64 ((rd_T59 l1 x9_1).f2.f1)) ∧ w'.cell? ⟨(ad365.add ((x9_1).toNat * 8)).block, (ad365.add ((x9_1).toNat * 8)).off + 4, none⟩ = some (.int .i64 ((rd_T59 l1 x9_1).f2.f2)) ∧ w'.cell? ⟨(ad365.add ((x9_1).toNat * 8)).block, (ad365.add ((x9_1).toNat * 8)).off + 5, none⟩ = some (.int .i64 ((rd_T59 l1 x9_1).f3)) ∧ w'.cell? ⟨(ad365.add ((x9_1).toNat * 8)).block, (ad365.add ((x9_1).toNat * 8)).off + 6, none⟩ = some (.slice A365_6 ((rd_T59 l1 x9_1).f4).length c365_6) ∧ w'.cell? ⟨(ad365.add ((x9_1).toNat * 8)).block, (ad365.add ((x9_1).toNat * 8)).off + 7, none⟩ = some (.slice A365_7 ((rd_T59 l1 x9_1).f5).length c365_7) ∧ w'.cell? (ad366.add ((((rd_T59 l1 x9_1).f1)).toNat * 2)) = some (.int .i64 ((rd_T35 l0_0 ((rd_T59 l1 x9_1).f1)).f0)) ∧ w'.cell? ⟨(ad366.add ((((rd_T59 l1 x9_1).f1)).toNat * 2)).block, (ad366.add ((((rd_T59 l1 x9_1).f1)).toNat * 2)).off + 1, none⟩ = some (.int .i64 ((rd_T35 l0_0 ((rd_T59 l1 x9_1).f1)).f1))) (ds := []) #[false, false, false, false, false, false, false, false, false, false, false, false, false] (by kernel_rfl) rfl rfl ⟨(blk_cell BK361.out 0).trans rfl, (blk_cell BK361.out 1).trans rfl, (blk_cell BK360.out 0).trans rfl, (blk_cell BK360.out 1).trans rfl, (Kd.kept_slot HR1.out (by have := of_eq_true p365; have := of_eq_true q365; omega) (by decide) (Kept.refl _ _) hy365_0 (add_block _ _) (ZH)), (Kd.kept_slot HR1.out (by have := of_eq_true p365; have := of_eq_true q365; omega) (by decide) (Kept.refl _ _) hy365_1 (add_block _ _) (ZH)), (Kd.kept_slot HR1.out (by have := of_eq_true p365; have := of_eq_true q365; omega) (by decide) (Kept.refl _ _) hy365_2 (add_block _ _) (ZH)), (Kd.kept_slot HR1.out (by have := of_eq_true p365; have := of_eq_true q365; omega) (by decide) (Kept.refl _ _) hy365_3 (add_block _ _) (ZH)), (Kd.kept_slot HR1.out (by have := of_eq_true p365; have := of_eq_true q365; omega) (by decide) (Kept.refl _ _) hy365_4 (add_block _ _) (ZH)), (Kd.kept_slot HR1.out (by have := of_eq_true p365; have := of_eq_true q365; omega) (by decide) (Kept.refl _ _) hy365_5 (add_block _ _) (ZH)), (Kd.kept_slot HR1.out (by have := of_eq_true p365; have := of_eq_true q365; omega) (by decide) (Kept.refl _ _) hy365_6 (add_block _ _) (ZH)), (Kd.kept_slot HR1.out (by have := of_eq_true p365; have := of_eq_true q365; omega) (by decide) (Kept.refl _ _) hy365_7 (add_block _ _) (ZH)), (Kd.kept_slot HR0_0.out (by have := of_eq_true p366; have := of_eq_true q366; omega) (by decide) (Kept.refl _ _) hy366_0 (add_block _ _) (ZH)), (Kd.kept_slot HR0_0.out (by have := of_eq_true p366; have := of_eq_true q366; omega) (by decide) (Kept.refl _ _) hy366_1 (add_block _ _) (ZH))⟩ (fun hHeld => ?_); refine with_tabW spec_l11At.tab5 spec_l11At.bits5 (fun HT_ HW_ => ?_)
        generalize w17.drew = w18 at HO364 BK360 BK361 HK HB HR365_6 HR365_7 hx365_0 hx365_1 hx365_2 hx365_3 hx365_4 hx365_5 hx365_6 hx365_7 hx366_0 hx366_1 hHeld ⊢
        refine pure_ (i := 1) (N := some 22) (v := ?_) (a' := ?_) #[false, true, false, false, false, false, false, false, false, false, false, false, false] rfl rfl (any_of HT_.out (by kernel_rfl)) (fun _ _ _ h => h) (Or.inl ⟨by rfl, ?_⟩) ?_ ?_
        rotate_left
        ·intro w'
         go_simp
         with_reducible rfl
        rotate_left
        ·simp only [Act.put, List.setIfInBounds_toArray, List.set_cons_zero, List.set_cons_succ, i64_w, i32_w]
         rfl
        refine pure_ (i := 3) (N := some 24) (v := ?_) (a' := ?_) #[false, true, false, true, false, false, false, false, false, false, false, false, false] rfl rfl (any_of HT_.out (by kernel_rfl)) (fun _ _ _ h => h) (Or.inl ⟨by rfl, ?_⟩) ?_ ?_
        rotate_left
        ·intro w'
         go_simp
         with_reducible rfl
        rotate_left
        ·simp only [Act.put, List.setIfInBounds_toArray, List.set_cons_zero, List.set_cons_succ, i64_w, i32_w]
         rfl
        refine pure_ (i := 4) (N := some 25) (v := ?_) (a' := ?_) #[false, true, false, true, true, false, false, false, false, false, false, false, false] rfl rfl (any_of HT_.out (by kernel_rfl)) (fun _ _ _ h => h) (Or.inl ⟨by rfl, ?_⟩) ?_ ?_
        rotate_left
        ·intro w'
         go_simp
         with_reducible rfl
        rotate_left
        ·simp only [Act.put, List.setIfInBounds_toArray, List.set_cons_zero, List.set_cons_succ, i64_w, i32_w]
         rfl
        refine pure_ (i := 5) (N := some 26) (v := ?_) (a' := ?_) #[false, true, false, true, true, true, false, false, false, false, false, false, false] rfl rfl (any_of HT_.out (by kernel_rfl)) (fun _ _ _ h => h) (Or.inl ⟨by rfl, ?_⟩) ?_ ?_
        rotate_left
        ·intro w'
         go_simp
         with_reducible rfl
        rotate_left
        ·simp only [Act.put, List.setIfInBounds_toArray, List.set_cons_zero, List.set_cons_succ, i64_w, i32_w]
         rfl
        refine pure_ (i := 6) (N := some 27) (v := ?_) (a' := ?_) #[false, true, false, true, true, true, true, false, false, false, false, false, false] rfl rfl (any_of HT_.out (by kernel_rfl)) (fun _ _ _ h => h) (Or.inl ⟨by rfl, ?_⟩) ?_ ?_
        rotate_left
        ·intro w'
         go_simp
         with_reducible rfl
        rotate_left
        ·simp only [Act.put, List.setIfInBounds_toArray, List.set_cons_zero, List.set_cons_succ, i64_w, i32_w]
         rfl
        refine take_ (i := 0) (N := some 21) (v := ?_) (a' := ?_) #[true, true, false, true, true, true, true, false, false, false, false, false, false] rfl rfl (take_ofW HT_.out HW_.out (by kernel_rfl)) (fun _ _ _ h => h) (Or.inl ⟨by rfl, ?_⟩) hHeld ?_ ?_
        rotate_left
        ·rintro w' ⟨s0, s1, s2, s3, s4, s5, s6, s7, s8, s9, s10, s11, s12, s13⟩
         go_simp
         with_reducible rfl
        rotate_left
        ·simp only [Act.put, List.setIfInBounds_toArray, List.set_cons_zero, List.set_cons_succ, i64_w, i32_w]
         rfl
        refine take_ (i := 2) (N := some 23) (v := ?_) (a' := ?_) #[true, true, true, true, true, true, true, false, false, false, false, false, false] rfl rfl (take_ofW HT_.out HW_.out (by kernel_rfl)) (fun _ _ _ h => h) (Or.inl ⟨by rfl, ?_⟩) hHeld ?_ ?_
        rotate_left
        ·rintro w' ⟨s0, s1, s2, s3, s4, s5, s6, s7, s8, s9, s10, s11, s12, s13⟩
         go_simp
         with_reducible rfl
        rotate_left
        ·simp only [Act.put, List.setIfInBounds_toArray, List.set_cons_zero, List.set_cons_succ, i64_w, i32_w]
         rfl
        refine take_ (i := 7) (N := some 28) (v := ?_) (a' := ?_) #[true, true, true, true, true, true, true, true, false, false, false, false, false] rfl rfl (take_ofW HT_.out HW_.out (by kernel_rfl)) (fun _ _ _ h => h) (Or.inl ⟨by rfl, ?_⟩) hHeld ?_ ?_
        rotate_left
        ·rintro w' ⟨s0, s1, s2, s3, s4, s5, s6, s7, s8, s9, s10, s11, s12, s13⟩
         go_simp
         with_reducible rfl
        rotate_left
        ·simp only [Act.put, List.setIfInBounds_toArray, List.set_cons_zero, List.set_cons_succ, i64_w, i32_w]
         rfl
        refine pure_ (i := 8) (N := some 29) (v := ?_) (a' := ?_) #[true, true, true, true, true, true, true, true, true, false, false, false, false] rfl rfl (any_of HT_.out (by kernel_rfl)) (fun _ _ _ h => h) (Or.inl ⟨by rfl, ?_⟩) ?_ ?_
        rotate_left
        ·intro w'
         go_simp
         with_reducible rfl
        rotate_left
        ·simp only [Act.put, List.setIfInBounds_toArray, List.set_cons_zero, List.set_cons_succ, i64_w, i32_w]
         rfl
        refine take_ (i := 9) (N := some 30) (v := ?_) (a' := ?_) #[true, true, true, true, true, true, true, true, true, true, false, false, false] rfl rfl (take_ofW HT_.out HW_.out (by kernel_rfl)) (fun _ _ _ h => h) (Or.inl ⟨by rfl, ?_⟩) hHeld ?_ ?_
        rotate_left
        ·rintro w' ⟨s0, s1, s2, s3, s4, s5, s6, s7, s8, s9, s10, s11, s12, s13⟩
         go_simp
         with_reducible rfl
        rotate_left
        ·simp only [Act.put, List.setIfInBounds_toArray, List.set_cons_zero, List.set_cons_succ, i64_w, i32_w]
         rfl
        refine join_ (σ := Nat) 1 #[true, true, true, true, true, true, true, true, true, true, true, true, false] (fun s_ => [(31, .agg #[.int .i64 t367, .int .i64 t368]), (10, .pointer (some ⟨s_, 0, none⟩))]) (fun s_ w' => (w'.cell? ⟨gb361, 0, none⟩ = some (.int .i64 a2_0) ∧ w'.cell? ⟨gb361, 1, none⟩ = some (.int .i64 a2_1) ∧ w'.cell? ⟨gb360, 0, none⟩ = some (.slice (some ad366) l0_0.length c0_0) ∧ w'.cell? ⟨gb360, 1, none⟩ = some (.slice A0_1 l0_1.length c0_1) ∧ w'.cell? (ad365.add ((x9_1).toNat * 8)) = some (.int .i64 ((rd_T59 l1 x9_1).f0)) ∧ w'.cell? ⟨(ad365.add ((x9_1).toNat * 8)).block, (ad365.add ((x9_1).toNat * 8)).off + 1, none⟩ = some (.int .i64 ((rd_T59 l1 x9_1).f1)) ∧ w'.cell? ⟨(ad365.add ((x9_1).toNat * 8)).block, (ad365.add ((x9_1).toNat * 8)).off + 2, none⟩ = some (.int .i64 ((rd_T59 l1 x9_1).f2.f0)) ∧ w'.cell? ⟨(ad365.add ((x9_1).toNat * 8)).block, (ad365.add ((x9_1).toNat * 8)).off + 3, none⟩ = some (.int .i64 ((rd_T59 l1 x9_1).f2.f1)) ∧ w'.cell? ⟨(ad365.add ((x9_1).toNat * 8)).block, (ad365.add ((x9_1).toNat * 8)).off + 4, none⟩ = some (.int .i64 ((rd_T59 l1 x9_1).f2.f2)) ∧ w'.cell? ⟨(ad365.add ((x9_1).toNat * 8)).block, (ad365.add ((x9_1).toNat * 8)).off + 5, none⟩ = some (.int .i64 ((rd_T59 l1 x9_1).f3)) ∧ w'.cell? ⟨(ad365.add ((x9_1).toNat * 8)).block, (ad365.add ((x9_1).toNat * 8)).off + 6, none⟩ = some (.slice A365_6 ((rd_T59 l1 x9_1).f4).length c365_6) ∧ w'.cell? ⟨(ad365.add ((x9_1).toNat * 8)).block, (ad365.add ((x9_1).toNat * 8)).off + 7, none⟩ = some (.slice A365_7 ((rd_T59 l1 x9_1).f5).length c365_7) ∧ w'.cell? (ad366.add ((((rd_T59 l1 x9_1).f1)).toNat * 2)) = some (.int .i64 ((rd_T35 l0_0 ((rd_T59 l1 x9_1).f1)).f0)) ∧ w'.cell? ⟨(ad366.add ((((rd_T59 l1 x9_1).f1)).toNat * 2)).block, (ad366.add ((((rd_T59 l1 x9_1).f1)).toNat * 2)).off + 1, none⟩ = some (.int .i64 ((rd_T35 l0_0 ((rd_T59 l1 x9_1).f1)).f1))) ∧ (Kd.R k35 35 w' w0.heap.size (fun k_ => (P3_ k_ ∨ w.heap.size ≤ k_) ∧ k_ ≠ gb361 ∧ k_ ≠ s_) v363 y362) ∧ (w'.heap[gb360]? = some (.cells #[.slice (some ad366) l0_0.length c0_0, .slice A0_1 l0_1.length c0_1] 26 (0, 0))) ∧ (w'.heap[gb361]? = some (.cells #[.int .i64 a2_0, .int .i64 a2_1] 35 (0, 0))) ∧ (w'.heap[s_]? = some (.cells #[.int .i64 0, .int .i64 0] 35 (0, 0))) ∧ (w.heap.size ≤ s_) ∧ (w0.heap.size ≤ s_) ∧ (gb360 ≠ s_) ∧ (s_ ≠ gb360) ∧ (gb361 ≠ s_) ∧ (s_ ≠ gb361) ∧ (Kept w w' (fun k_ => P3_ k_)) ∧ (Below w0.heap.size w0 w')) ?_ ?_
        rotate_left
        ·intro hCont
         refine two_ (i := 10) (j := 11) (Ni := some 31) (Nj := some 10) #[true, true, true, true, true, true, true, true, true, true, true, false, false] #[true, true, true, true, true, true, true, true, true, true, false, true, false] rfl rfl rfl rfl (two_of HT_.out (by kernel_rfl)) (by decide) (by decide) (fun K hK => ?_) (fun K hK => ?_)
         ·skip
          refine goes_ Try.func135 (by kernel_rfl) rfl #[.agg #[.int .i64 a2_0, .int .i64 a2_1], .agg #[.int .i64 ((rd_T35 l0_0 ((rd_T59 l1 x9_1).f1)).f0), .int .i64 ((rd_T35 l0_0 ((rd_T59 l1 x9_1).f1)).f1)]] (by rfl) rfl rfl ZG ?_
          with_reducible refine (spec_LabelBoth.calls k1 a2_0 a2_1 ((rd_T35 l0_0 ((rd_T59 l1 x9_1).f1)).f0) ((rd_T35 l0_0 ((rd_T59 l1 x9_1).f1)).f1) t367 t368 _ A12.out).mono ?_
          rintro e w19 ⟨rfl, hb⟩
          refine ⟨_, rfl, ?_⟩
          have n0_ := Aside0.mk (Kd.R_below (ZR HO364.out) hb)
          have n1_ := ZW BK360 hb
          have n2_ := ZW BK361 hb
          have n3_ := Aside0.mk (Kd.C_below (ZQ HR365_6.out) hb)
          have n4_ := Aside0.mk (Kd.C_below (ZQ HR365_7.out) hb)
          have n5_ := Aside0.mk (Kept.below (S := (fun k_ => P3_ k_)) (ZH) hb)
          have n6_ := ZT hb
          clear HO364
          clear BK360
          clear BK361
          clear HR365_6
          clear HR365_7
          clear HK
          clear HB
          have HO364 := n0_
          have BK360 := n1_
          have BK361 := n2_
          have HR365_6 := n3_
          have HR365_7 := n4_
          have HK := n5_
          have HB := n6_
          clear n0_ n1_ n2_ n3_ n4_ n5_ n6_
          (try clear hb)
          (try clear hb2)
          (try clear hk)
          (try clear hi)
          refine hK.out _ _ ⟨(blk_cell BK361.out 0).trans rfl, (blk_cell BK361.out 1).trans rfl, (blk_cell BK360.out 0).trans rfl, (blk_cell BK360.out 1).trans rfl, (Kd.kept_slot HR1.out (by have := of_eq_true p365; have := of_eq_true q365; omega) (by decide) (Kept.refl _ _) hy365_0 (add_block _ _) (ZH)), (Kd.kept_slot HR1.out (by have := of_eq_true p365; have := of_eq_true q365; omega) (by decide) (Kept.refl _ _) hy365_1 (add_block _ _) (ZH)), (Kd.kept_slot HR1.out (by have := of_eq_true p365; have := of_eq_true q365; omega) (by decide) (Kept.refl _ _) hy365_2 (add_block _ _) (ZH)), (Kd.kept_slot HR1.out (by have := of_eq_true p365; have := of_eq_true q365; omega) (by decide) (Kept.refl _ _) hy365_3 (add_block _ _) (ZH)), (Kd.kept_slot HR1.out (by have := of_eq_true p365; have := of_eq_true q365; omega) (by decide) (Kept.refl _ _) hy365_4 (add_block _ _) (ZH)), (Kd.kept_slot HR1.out (by have := of_eq_true p365; have := of_eq_true q365; omega) (by decide) (Kept.refl _ _) hy365_5 (add_block _ _) (ZH)), (Kd.kept_slot HR1.out (by have := of_eq_true p365; have := of_eq_true q365; omega) (by decide) (Kept.refl _ _) hy365_6 (add_block _ _) (ZH)), (Kd.kept_slot HR1.out (by have := of_eq_true p365; have := of_eq_true q365; omega) (by decide) (Kept.refl _ _) hy365_7 (add_block _ _) (ZH)), (Kd.kept_slot HR0_0.out (by have := of_eq_true p366; have := of_eq_true q366; omega) (by decide) (Kept.refl _ _) hy366_0 (add_block _ _) (ZH)), (Kd.kept_slot HR0_0.out (by have := of_eq_true p366; have := of_eq_true q366; omega) (by decide) (Kept.refl _ _) hy366_1 (add_block _ _) (ZH))⟩ (fun hHeld => ?_)
          clear hK K
          refine ZNO 31 ?_
          refine one_ (i := 11) (N := some 10) #[true, true, true, true, true, true, true, true, true, true, true, true, false] rfl rfl (one_of HT_.out (by kernel_rfl)) (by decide) (fun K hK => ?_)
          refine box_step ?hg (N := 10) ?hd (cs := #[.int .i64 0, .int .i64 0]) (t := 35) ?hr ?_; (case hd => rfl); (case hg => rfl); (case hr => first | (go_simp; done) | (go_simp; rfl))
          intro gb369 hg w20 hbox hb
          have n0_ := Aside0.mk (Kd.R_below (Kd.R_elderB (ZR HO364.out) gb369 (Nat.le_of_eq hg.symm)) hb)
          have n1_ := ZW BK360 hb
          have n2_ := ZW BK361 hb
          have n3_ := Aside0.mk (Kd.C_below (ZQ HR365_6.out) hb)
          have n4_ := Aside0.mk (Kd.C_below (ZQ HR365_7.out) hb)
          have n5_ := Aside0.mk (Kept.below (S := (fun k_ => P3_ k_)) (ZH) hb)
          have n6_ := ZT hb
          have n7_ := Aside0.mk (hbox)
          have n8_ := Aside0.mk ((by rw [hg]; exact (by first | exact HK.out.1 | exact (show Kept w _ (fun k_ => P3_ k_) from ZH).1) : w.heap.size ≤ gb369))
          have n9_ : Aside0 (w0.heap.size ≤ gb369) := ZS hg
          have n10_ : Aside0 (gb360 ≠ gb369) := ZN hg BK360
          have n11_ : Aside0 (gb369 ≠ gb360) := ZM hg BK360
          have n12_ : Aside0 (gb361 ≠ gb369) := ZN hg BK361
          have n13_ : Aside0 (gb369 ≠ gb361) := ZM hg BK361
          clear HO364
          clear BK360
          clear BK361
          clear HR365_6
          clear HR365_7
          clear HK
          clear HB
          have HO364 := n0_
          have BK360 := n1_
          have BK361 := n2_
          have HR365_6 := n3_
          have HR365_7 := n4_
          have HK := n5_
          have HB := n6_
          have BK369 := n7_
          have GW369 := n8_
          have GE369 := n9_
          have NB360_369 := n10_
          have NB369_360 := n11_
          have NB361_369 := n12_
          have NB369_361 := n13_
          clear n0_ n1_ n2_ n3_ n4_ n5_ n6_ n7_ n8_ n9_ n10_ n11_ n12_ n13_
          clear hb hbox hg
          refine hK.out _ _ ⟨(blk_cell BK361.out 0).trans rfl, (blk_cell BK361.out 1).trans rfl, (blk_cell BK360.out 0).trans rfl, (blk_cell BK360.out 1).trans rfl, (Kd.kept_slot HR1.out (by have := of_eq_true p365; have := of_eq_true q365; omega) (by decide) (Kept.refl _ _) hy365_0 (add_block _ _) (ZH)), (Kd.kept_slot HR1.out (by have := of_eq_true p365; have := of_eq_true q365; omega) (by decide) (Kept.refl _ _) hy365_1 (add_block _ _) (ZH)), (Kd.kept_slot HR1.out (by have := of_eq_true p365; have := of_eq_true q365; omega) (by decide) (Kept.refl _ _) hy365_2 (add_block _ _) (ZH)), (Kd.kept_slot HR1.out (by have := of_eq_true p365; have := of_eq_true q365; omega) (by decide) (Kept.refl _ _) hy365_3 (add_block _ _) (ZH)), (Kd.kept_slot HR1.out (by have := of_eq_true p365; have := of_eq_true q365; omega) (by decide) (Kept.refl _ _) hy365_4 (add_block _ _) (ZH)), (Kd.kept_slot HR1.out (by have := of_eq_true p365; have := of_eq_true q365; omega) (by decide) (Kept.refl _ _) hy365_5 (add_block _ _) (ZH)), (Kd.kept_slot HR1.out (by have := of_eq_true p365; have := of_eq_true q365; omega) (by decide) (Kept.refl _ _) hy365_6 (add_block _ _) (ZH)), (Kd.kept_slot HR1.out (by have := of_eq_true p365; have := of_eq_true q365; omega) (by decide) (Kept.refl _ _) hy365_7 (add_block _ _) (ZH)), (Kd.kept_slot HR0_0.out (by have := of_eq_true p366; have := of_eq_true q366; omega) (by decide) (Kept.refl _ _) hy366_0 (add_block _ _) (ZH)), (Kd.kept_slot HR0_0.out (by have := of_eq_true p366; have := of_eq_true q366; omega) (by decide) (Kept.refl _ _) hy366_1 (add_block _ _) (ZH))⟩ (fun hHeld => ?_)
          clear hK K
          refine ZNO 10 ?_
          exact norm_ (by simp only [putAll, Act.put, List.setIfInBounds_toArray, List.set_cons_zero, List.set_cons_succ]) (hCont (gb369) _ ⟨hHeld, (by (with_reducible repeat (first | apply Kd.R_alloc | apply Kd.R_drewN | apply Kd.R_drew)); exact Kd.R_mono HO364.out (fun _ hk => ⟨hk.1.1, ⟨hk.1.2, hk.2⟩⟩)), (ZK BK360.out), (ZK BK361.out), (ZK BK369.out), GW369.out, GE369.out, NB360_369.out, NB369_360.out, NB361_369.out, NB369_361.out, (ZH), (ZB)⟩)
         ·skip
          refine box_step ?hg (N := 10) ?hd (cs := #[.int .i64 0, .int .i64 0]) (t := 35) ?hr ?_; (case hd => rfl); (case hg => rfl); (case hr => first | (go_simp; done) | (go_simp; rfl))
          intro gb369 hg w19 hbox hb
          have n0_ := Aside0.mk (Kd.R_below (Kd.R_elderB (ZR HO364.out) gb369 (Nat.le_of_eq hg.symm)) hb)
          have n1_ := ZW BK360 hb
          have n2_ := ZW BK361 hb
          have n3_ := Aside0.mk (Kd.C_below (ZQ HR365_6.out) hb)
          have n4_ := Aside0.mk (Kd.C_below (ZQ HR365_7.out) hb)
          have n5_ := Aside0.mk (Kept.below (S := (fun k_ => P3_ k_)) (ZH) hb)
          have n6_ := ZT hb
          have n7_ := Aside0.mk (hbox)
          have n8_ := Aside0.mk ((by rw [hg]; exact (by first | exact HK.out.1 | exact (show Kept w _ (fun k_ => P3_ k_) from ZH).1) : w.heap.size ≤ gb369))
          have n9_ : Aside0 (w0.heap.size ≤ gb369) := ZS hg
          have n10_ : Aside0 (gb360 ≠ gb369) := ZN hg BK360
          have n11_ : Aside0 (gb369 ≠ gb360) := ZM hg BK360
          have n12_ : Aside0 (gb361 ≠ gb369) := ZN hg BK361
          have n13_ : Aside0 (gb369 ≠ gb361) := ZM hg BK361
          clear HO364
          clear BK360
          clear BK361
          clear HR365_6
          clear HR365_7
          clear HK
          clear HB
          have HO364 := n0_
          have BK360 := n1_
          have BK361 := n2_
          have HR365_6 := n3_
          have HR365_7 := n4_
          have HK := n5_
          have HB := n6_
          have BK369 := n7_
          have GW369 := n8_
          have GE369 := n9_
          have NB360_369 := n10_
          have NB369_360 := n11_
          have NB361_369 := n12_
          have NB369_361 := n13_
          clear n0_ n1_ n2_ n3_ n4_ n5_ n6_ n7_ n8_ n9_ n10_ n11_ n12_ n13_
          clear hb hbox hg
          refine hK.out _ _ ⟨(blk_cell BK361.out 0).trans rfl, (blk_cell BK361.out 1).trans rfl, (blk_cell BK360.out 0).trans rfl, (blk_cell BK360.out 1).trans rfl, (Kd.kept_slot HR1.out (by have := of_eq_true p365; have := of_eq_true q365; omega) (by decide) (Kept.refl _ _) hy365_0 (add_block _ _) (ZH)), (Kd.kept_slot HR1.out (by have := of_eq_true p365; have := of_eq_true q365; omega) (by decide) (Kept.refl _ _) hy365_1 (add_block _ _) (ZH)), (Kd.kept_slot HR1.out (by have := of_eq_true p365; have := of_eq_true q365; omega) (by decide) (Kept.refl _ _) hy365_2 (add_block _ _) (ZH)), (Kd.kept_slot HR1.out (by have := of_eq_true p365; have := of_eq_true q365; omega) (by decide) (Kept.refl _ _) hy365_3 (add_block _ _) (ZH)), (Kd.kept_slot HR1.out (by have := of_eq_true p365; have := of_eq_true q365; omega) (by decide) (Kept.refl _ _) hy365_4 (add_block _ _) (ZH)), (Kd.kept_slot HR1.out (by have := of_eq_true p365; have := of_eq_true q365; omega) (by decide) (Kept.refl _ _) hy365_5 (add_block _ _) (ZH)), (Kd.kept_slot HR1.out (by have := of_eq_true p365; have := of_eq_true q365; omega) (by decide) (Kept.refl _ _) hy365_6 (add_block _ _) (ZH)), (Kd.kept_slot HR1.out (by have := of_eq_true p365; have := of_eq_true q365; omega) (by decide) (Kept.refl _ _) hy365_7 (add_block _ _) (ZH)), (Kd.kept_slot HR0_0.out (by have := of_eq_true p366; have := of_eq_true q366; omega) (by decide) (Kept.refl _ _) hy366_0 (add_block _ _) (ZH)), (Kd.kept_slot HR0_0.out (by have := of_eq_true p366; have := of_eq_true q366; omega) (by decide) (Kept.refl _ _) hy366_1 (add_block _ _) (ZH))⟩ (fun hHeld => ?_)
          clear hK K
          refine ZNO 10 ?_
          refine one_ (i := 10) (N := some 31) #[true, true, true, true, true, true, true, true, true, true, true, true, false] rfl rfl (one_of HT_.out (by kernel_rfl)) (by decide) (fun K hK => ?_)
          refine goes_ Try.func135 (by kernel_rfl) rfl #[.agg #[.int .i64 a2_0, .int .i64 a2_1], .agg #[.int .i64 ((rd_T35 l0_0 ((rd_T59 l1 x9_1).f1)).f0), .int .i64 ((rd_T35 l0_0 ((rd_T59 l1 x9_1).f1)).f1)]] (by rfl) rfl rfl ZG ?_
          with_reducible refine (spec_LabelBoth.calls k1 a2_0 a2_1 ((rd_T35 l0_0 ((rd_T59 l1 x9_1).f1)).f0) ((rd_T35 l0_0 ((rd_T59 l1 x9_1).f1)).f1) t367 t368 _ A12.out).mono ?_
          rintro e w20 ⟨rfl, hb⟩
          refine ⟨_, rfl, ?_⟩
          have n0_ := Aside0.mk (Kd.R_below (ZR HO364.out) hb)
          have n1_ := ZW BK360 hb
          have n2_ := ZW BK361 hb
          have n3_ := Aside0.mk (Kd.C_below (ZQ HR365_6.out) hb)
          have n4_ := Aside0.mk (Kd.C_below (ZQ HR365_7.out) hb)
          have n5_ := ZW BK369 hb
          have n6_ := Aside0.mk (Kept.below (S := (fun k_ => P3_ k_)) (ZH) hb)
          have n7_ := ZT hb
          clear HO364
          clear BK360
          clear BK361
          clear HR365_6
          clear HR365_7
          clear BK369
          clear HK
          clear HB
          have HO364 := n0_
          have BK360 := n1_
          have BK361 := n2_
          have HR365_6 := n3_
          have HR365_7 := n4_
          have BK369 := n5_
          have HK := n6_
          have HB := n7_
          clear n0_ n1_ n2_ n3_ n4_ n5_ n6_ n7_
          (try clear hb)
          (try clear hb2)
          (try clear hk)
          (try clear hi)
          refine hK.out _ _ ⟨(blk_cell BK361.out 0).trans rfl, (blk_cell BK361.out 1).trans rfl, (blk_cell BK360.out 0).trans rfl, (blk_cell BK360.out 1).trans rfl, (Kd.kept_slot HR1.out (by have := of_eq_true p365; have := of_eq_true q365; omega) (by decide) (Kept.refl _ _) hy365_0 (add_block _ _) (ZH)), (Kd.kept_slot HR1.out (by have := of_eq_true p365; have := of_eq_true q365; omega) (by decide) (Kept.refl _ _) hy365_1 (add_block _ _) (ZH)), (Kd.kept_slot HR1.out (by have := of_eq_true p365; have := of_eq_true q365; omega) (by decide) (Kept.refl _ _) hy365_2 (add_block _ _) (ZH)), (Kd.kept_slot HR1.out (by have := of_eq_true p365; have := of_eq_true q365; omega) (by decide) (Kept.refl _ _) hy365_3 (add_block _ _) (ZH)), (Kd.kept_slot HR1.out (by have := of_eq_true p365; have := of_eq_true q365; omega) (by decide) (Kept.refl _ _) hy365_4 (add_block _ _) (ZH)), (Kd.kept_slot HR1.out (by have := of_eq_true p365; have := of_eq_true q365; omega) (by decide) (Kept.refl _ _) hy365_5 (add_block _ _) (ZH)), (Kd.kept_slot HR1.out (by have := of_eq_true p365; have := of_eq_true q365; omega) (by decide) (Kept.refl _ _) hy365_6 (add_block _ _) (ZH)), (Kd.kept_slot HR1.out (by have := of_eq_true p365; have := of_eq_true q365; omega) (by decide) (Kept.refl _ _) hy365_7 (add_block _ _) (ZH)), (Kd.kept_slot HR0_0.out (by have := of_eq_true p366; have := of_eq_true q366; omega) (by decide) (Kept.refl _ _) hy366_0 (add_block _ _) (ZH)), (Kd.kept_slot HR0_0.out (by have := of_eq_true p366; have := of_eq_true q366; omega) (by decide) (Kept.refl _ _) hy366_1 (add_block _ _) (ZH))⟩ (fun hHeld => ?_)
          clear hK K
          refine ZNO 31 ?_
          exact norm_ (by simp only [putAll, Act.put, List.setIfInBounds_toArray, List.set_cons_zero, List.set_cons_succ]) (hCont (gb369) _ ⟨hHeld, (by (with_reducible repeat (first | apply Kd.R_alloc | apply Kd.R_drewN | apply Kd.R_drew)); exact Kd.R_mono HO364.out (fun _ hk => ⟨hk.1.1, ⟨hk.1.2, hk.2⟩⟩)), (ZK BK360.out), (ZK BK361.out), (ZK BK369.out), GW369.out, GE369.out, NB360_369.out, NB369_360.out, NB361_369.out, NB369_361.out, (ZH), (ZB)⟩)
        rintro gb369 w21 ⟨hS_, h0_, h1_, h2_, h3_, h4_, h5_, h6_, h7_, h8_, h9_, h10_, h11_⟩
        have n0_ : Aside0 (Kd.R k35 35 w21 w0.heap.size (fun k_ => (P3_ k_ ∨ w.heap.size ≤ k_) ∧ k_ ≠ gb361 ∧ k_ ≠ gb369) v363 y362) := ⟨h0_⟩
        have n1_ : Aside0 (w21.heap[gb360]? = some (.cells #[.slice (some ad366) l0_0.length c0_0, .slice A0_1 l0_1.length c0_1] 26 (0, 0))) := ⟨h1_⟩
        have n2_ : Aside0 (w21.heap[gb361]? = some (.cells #[.int .i64 a2_0, .int .i64 a2_1] 35 (0, 0))) := ⟨h2_⟩
        have n3_ : Aside0 (w21.heap[gb369]? = some (.cells #[.int .i64 0, .int .i64 0] 35 (0, 0))) := ⟨h3_⟩
        have n4_ : Aside0 (w.heap.size ≤ gb369) := ⟨h4_⟩
        have n5_ : Aside0 (w0.heap.size ≤ gb369) := ⟨h5_⟩
        have n6_ : Aside0 (gb360 ≠ gb369) := ⟨h6_⟩
        have n7_ : Aside0 (gb369 ≠ gb360) := ⟨h7_⟩
        have n8_ : Aside0 (gb361 ≠ gb369) := ⟨h8_⟩
        have n9_ : Aside0 (gb369 ≠ gb361) := ⟨h9_⟩
        have n10_ : Aside0 (Kept w w21 (fun k_ => P3_ k_)) := ⟨h10_⟩
        have n11_ : Aside0 (Below w0.heap.size w0 w21) := ⟨h11_⟩
        clear HO364
        clear BK360
        clear BK361
        clear HK
        clear HB
        clear h0_ h1_ h2_ h3_ h4_ h5_ h6_ h7_ h8_ h9_ h10_ h11_
        have HO364 := n0_
        have BK360 := n1_
        have BK361 := n2_
        have BK369 := n3_
        have GW369 := n4_
        have GE369 := n5_
        have NB360_369 := n6_
        have NB369_360 := n7_
        have NB361_369 := n8_
        have NB369_361 := n9_
        have HK := n10_
        have HB := n11_
        clear n0_ n1_ n2_ n3_ n4_ n5_ n6_ n7_ n8_ n9_ n10_ n11_
        have hHeld : w21.cell? ⟨gb361, 0, none⟩ = some (.int .i64 a2_0) ∧ w21.cell? ⟨gb361, 1, none⟩ = some (.int .i64 a2_1) ∧ w21.cell? ⟨gb360, 0, none⟩ = some (.slice (some ad366) l0_0.length c0_0) ∧ w21.cell? ⟨gb360, 1, none⟩ = some (.slice A0_1 l0_1.length c0_1) ∧ w21.cell? (ad365.add ((x9_1).toNat * 8)) = some (.int .i64 ((rd_T59 l1 x9_1).f0)) ∧ w21.cell? ⟨(ad365.add ((x9_1).toNat * 8)).block, (ad365.add ((x9_1).toNat * 8)).off + 1, none⟩ = some (.int .i64 ((rd_T59 l1 x9_1).f1)) ∧ w21.cell? ⟨(ad365.add ((x9_1).toNat * 8)).block, (ad365.add ((x9_1).toNat * 8)).off + 2, none⟩ = some (.int .i64 ((rd_T59 l1 x9_1).f2.f0)) ∧ w21.cell? ⟨(ad365.add ((x9_1).toNat * 8)).block, (ad365.add ((x9_1).toNat * 8)).off + 3, none⟩ = some (.int .i64 ((rd_T59 l1 x9_1).f2.f1)) ∧ w21.cell? ⟨(ad365.add ((x9_1).toNat * 8)).block, (ad365.add ((x9_1).toNat * 8)).off + 4, none⟩ = some (.int .i64 ((rd_T59 l1 x9_1).f2.f2)) ∧ w21.cell? ⟨(ad365.add ((x9_1).toNat * 8)).block, (ad365.add ((x9_1).toNat * 8)).off + 5, none⟩ = some (.int .i64 ((rd_T59 l1 x9_1).f3)) ∧ w21.cell? ⟨(ad365.add ((x9_1).toNat * 8)).block, (ad365.add ((x9_1).toNat * 8)).off + 6, none⟩ = some (.slice A365_6 ((rd_T59 l1 x9_1).f4).length c365_6) ∧ w21.cell? ⟨(ad365.add ((x9_1).toNat * 8)).block, (ad365.add ((x9_1).toNat * 8)).off + 7, none⟩ = some (.slice A365_7 ((rd_T59 l1 x9_1).f5).length c365_7) ∧ w21.cell? (ad366.add ((((rd_T59 l1 x9_1).f1)).toNat * 2)) = some (.int .i64 ((rd_T35 l0_0 ((rd_T59 l1 x9_1).f1)).f0)) ∧ w21.cell? ⟨(ad366.add ((((rd_T59 l1 x9_1).f1)).toNat * 2)).block, (ad366.add ((((rd_T59 l1 x9_1).f1)).toNat * 2)).off + 1, none⟩ = some (.int .i64 ((rd_T35 l0_0 ((rd_T59 l1 x9_1).f1)).f1)) := hS_
        refine norm_ (a' := ?_) ?_ ?_
        rotate_left
        ·simp only [putAll, Act.put, List.setIfInBounds_toArray, List.set_cons_zero, List.set_cons_succ]
         rfl
        refine one_ (i := 12) (N := none) #[true, true, true, true, true, true, true, true, true, true, true, true, true] rfl rfl (one_of HT_.out (by kernel_rfl)) (by decide) (fun K hK => ?_)
        have hs22 : w21.cell? ⟨gb369, 0, none⟩ = some (.int .i64 0) := (blk_cell BK369.out 0).trans rfl
        have hfs22 := blk_frozen BK369.out 0
        have hns22_0 := NB360_369.out
        have hns22_1 := NB361_369.out
        have hms22_0 := NB369_360.out
        have hms22_1 := NB369_361.out
        have hs23 : w21.cell? ⟨gb369, 1, none⟩ = some (.int .i64 0) := (blk_cell BK369.out 1).trans rfl
        have hfs23 := blk_frozen BK369.out 1
        have hns23_0 := NB360_369.out
        have hns23_1 := NB361_369.out
        have hms23_0 := NB369_360.out
        have hms23_1 := NB369_361.out
        refine skip_ (w1 := ?_) (by rfl) rfl ?_ ?_
        rotate_left
        ·go_simp
         rfl
        refine hK.out _ _ ⟨((cell_far (p := ⟨gb369, _, none⟩) NB361_369.out _).trans (((cell_far (p := ⟨gb369, _, none⟩) NB361_369.out _).trans (hHeld.1)))), ((cell_far (p := ⟨gb369, _, none⟩) NB361_369.out _).trans (((cell_far (p := ⟨gb369, _, none⟩) NB361_369.out _).trans (hHeld.2.1)))), ((cell_far (p := ⟨gb369, _, none⟩) NB360_369.out _).trans (((cell_far (p := ⟨gb369, _, none⟩) NB360_369.out _).trans (hHeld.2.2.1)))), ((cell_far (p := ⟨gb369, _, none⟩) NB360_369.out _).trans (((cell_far (p := ⟨gb369, _, none⟩) NB360_369.out _).trans (hHeld.2.2.2.1)))), (Kd.kept_slot HR1.out (by have := of_eq_true p365; have := of_eq_true q365; omega) (by decide) (Kept.refl _ _) hy365_0 (add_block _ _) (ZH)), (Kd.kept_slot HR1.out (by have := of_eq_true p365; have := of_eq_true q365; omega) (by decide) (Kept.refl _ _) hy365_1 (add_block _ _) (ZH)), (Kd.kept_slot HR1.out (by have := of_eq_true p365; have := of_eq_true q365; omega) (by decide) (Kept.refl _ _) hy365_2 (add_block _ _) (ZH)), (Kd.kept_slot HR1.out (by have := of_eq_true p365; have := of_eq_true q365; omega) (by decide) (Kept.refl _ _) hy365_3 (add_block _ _) (ZH)), (Kd.kept_slot HR1.out (by have := of_eq_true p365; have := of_eq_true q365; omega) (by decide) (Kept.refl _ _) hy365_4 (add_block _ _) (ZH)), (Kd.kept_slot HR1.out (by have := of_eq_true p365; have := of_eq_true q365; omega) (by decide) (Kept.refl _ _) hy365_5 (add_block _ _) (ZH)), (Kd.kept_slot HR1.out (by have := of_eq_true p365; have := of_eq_true q365; omega) (by decide) (Kept.refl _ _) hy365_6 (add_block _ _) (ZH)), (Kd.kept_slot HR1.out (by have := of_eq_true p365; have := of_eq_true q365; omega) (by decide) (Kept.refl _ _) hy365_7 (add_block _ _) (ZH)), (Kd.kept_slot HR0_0.out (by have := of_eq_true p366; have := of_eq_true q366; omega) (by decide) (Kept.refl _ _) hy366_0 (add_block _ _) (ZH)), (Kd.kept_slot HR0_0.out (by have := of_eq_true p366; have := of_eq_true q366; omega) (by decide) (Kept.refl _ _) hy366_1 (add_block _ _) (ZH))⟩ (fun hHeld => ?_)
        clear hK K
        refine done_ (done_of HT_.out (by kernel_rfl)) ?_
        try go_wp2
        have n0_ : Aside0 (Kd.R k35 35 ((w21.setCell ⟨gb369, 0, none⟩ (.int .i64 t367)).setCell ⟨gb369, 1, none⟩ (.int .i64 t368)) w0.heap.size (fun k_ => (P3_ k_ ∨ w.heap.size ≤ k_) ∧ k_ ≠ gb361 ∧ k_ ≠ gb369) v363 y362) := ⟨by (with_reducible repeat (first | apply Kd.R_alloc | apply Kd.R_drewN | apply Kd.R_drew)); exact Kd.R_mono (Kd.R_far (p := ⟨gb369, 1, none⟩) (Kd.R_far (p := ⟨gb369, 0, none⟩) (Kd.R_mono HO364.out (fun k_ hk => (⟨hk, hk.2.2⟩ : _ ∧ k_ ≠ gb369))) (fun _ hk => hk.2) (.int .i64 t367)) (fun _ hk => hk.2) (.int .i64 t368)) (fun _ hk => ⟨hk.1.1, ⟨hk.1.2.1, hk.1.2.2⟩⟩)⟩
        have n1_ : Aside0 (((w21.setCell ⟨gb369, 0, none⟩ (.int .i64 t367)).setCell ⟨gb369, 1, none⟩ (.int .i64 t368)).heap[gb360]? = some (.cells #[.slice (some ad366) l0_0.length c0_0, .slice A0_1 l0_1.length c0_1] 26 (0, 0))) := ⟨ZZ BK360.out⟩
        have n2_ : Aside0 (((w21.setCell ⟨gb369, 0, none⟩ (.int .i64 t367)).setCell ⟨gb369, 1, none⟩ (.int .i64 t368)).heap[gb361]? = some (.cells #[.int .i64 a2_0, .int .i64 a2_1] 35 (0, 0))) := ⟨ZZ BK361.out⟩
        have n3_ : Aside0 (((w21.setCell ⟨gb369, 0, none⟩ (.int .i64 t367)).setCell ⟨gb369, 1, none⟩ (.int .i64 t368)).heap[gb369]? = some (.cells #[.int .i64 t367, .int .i64 t368] 35 (0, 0))) := ⟨ZZ BK369.out⟩
        have n4_ : Aside0 (Kept w ((w21.setCell ⟨gb369, 0, none⟩ (.int .i64 t367)).setCell ⟨gb369, 1, none⟩ (.int .i64 t368)) (fun k_ => P3_ k_)) := ⟨ZH⟩
        have n5_ : Aside0 (Below w0.heap.size w0 ((w21.setCell ⟨gb369, 0, none⟩ (.int .i64 t367)).setCell ⟨gb369, 1, none⟩ (.int .i64 t368))) := ⟨ZB⟩
        (try clear HO364)
        (try clear BK360)
        (try clear BK361)
        (try clear BK369)
        (try clear HK)
        (try clear HB)
        generalize ((w21.setCell ⟨gb369, 0, none⟩ (.int .i64 t367)).setCell ⟨gb369, 1, none⟩ (.int .i64 t368)) = w24 at n0_ n1_ n2_ n3_ n4_ n5_ ⊢
        have HO364 := n0_
        have BK360 := n1_
        have BK361 := n2_
        have BK369 := n3_
        have HK := n4_
        have HB := n5_
        clear n0_ n1_ n2_ n3_ n4_ n5_
        have n0_ := Aside0.mk (Kd.R_drew HO364.out)
        have n1_ := Aside0.mk (blk_drew BK360.out)
        have n2_ := Aside0.mk (blk_drew BK361.out)
        have n3_ := Aside0.mk (blk_drew BK369.out)
        have n4_ := Aside0.mk (Kept.drew HK.out)
        have n5_ := Aside0.mk (below_drew1 HB.out)
        clear HO364
        clear BK360
        clear BK361
        clear BK369
        clear HK
        clear HB
        have HO364 := n0_
        have BK360 := n1_
        have BK361 := n2_
        have BK369 := n3_
        have HK := n4_
        have HB := n5_
        clear n0_ n1_ n2_ n3_ n4_ n5_
        have p370 : 0 ≤ (x9_1 : Int) := ZD
        have q370 : x9_1 < (l1.length : Int) := ZD
        obtain ⟨ad370, A370_6, c370_6, A370_7, c370_7, e370, hx370_0, hx370_1, hx370_2, hx370_3, hx370_4, hx370_5, hx370_6, hx370_7, hl370_6, hi370_6, hl370_7, hi370_7⟩ := at_T59 (Kd.C_kept_now HR1.out HK.out) x9_1 p370 q370
        have hw370_7 := hx370_7
        have hw370_6 := hx370_6
        have hw370_5 := hx370_5
        have hw370_4 := hx370_4
        have hw370_3 := hx370_3
        have hw370_2 := hx370_2
        have hw370_1 := hx370_1
        have hw370_0 := hx370_0
        obtain rfl : ad365 = ad370 := (by injection e370)
        have hy370_0 := Kd.kept_slot HR1.out (by omega) (by decide) (ZH) hx370_0 (add_block _ _) (Kept.refl _ _)
        have hy370_1 := Kd.kept_slot HR1.out (by omega) (by decide) (ZH) hx370_1 (add_block _ _) (Kept.refl _ _)
        have hy370_2 := Kd.kept_slot HR1.out (by omega) (by decide) (ZH) hx370_2 (add_block _ _) (Kept.refl _ _)
        have hy370_3 := Kd.kept_slot HR1.out (by omega) (by decide) (ZH) hx370_3 (add_block _ _) (Kept.refl _ _)
        have hy370_4 := Kd.kept_slot HR1.out (by omega) (by decide) (ZH) hx370_4 (add_block _ _) (Kept.refl _ _)
        have hy370_5 := Kd.kept_slot HR1.out (by omega) (by decide) (ZH) hx370_5 (add_block _ _) (Kept.refl _ _)
        have hy370_6 := Kd.kept_slot HR1.out (by omega) (by decide) (ZH) hx370_6 (add_block _ _) (Kept.refl _ _)
        have hy370_7 := Kd.kept_slot HR1.out (by omega) (by decide) (ZH) hx370_7 (add_block _ _) (Kept.refl _ _)
        have HR370_6 := Aside0.mk hi370_6
        have HC370_6 := Aside0.mk hl370_6
        clear hi370_6 hl370_6
        have HR370_7 := Aside0.mk hi370_7
        have HC370_7 := Aside0.mk hl370_7
        clear hi370_7 hl370_7
        replace p370 := eq_true p370
        replace q370 := eq_true q370
        obtain ⟨Ao26, co26, eo26⟩ := Kd.R_slice HO364.out
        (first | subst eo26 | (injection eo26 with f1_ f2_ f3_; have f4_ := f1_.symm; have f5_ := f3_.symm; clear f1_ f2_ f3_; subst f4_; subst f5_))
        refine start_ (n := 10) (S := fun w' => w'.cell? ⟨gb360, 0, none⟩ = some (.slice (some ad366) l0_0.length c0_0) ∧ w'.cell? ⟨gb360, 1, none⟩ = some (.slice A0_1 l0_1.length c0_1) ∧ w'.cell? ⟨gb369, 0, none⟩ = some (.int .i64 t367) ∧ w'.cell? ⟨gb369, 1, none⟩ = some (.int .i64 t368) ∧ w'.cell? (ad365.add ((x9_1).toNat * 8)) = some (.int .i64 ((rd_T59 l1 x9_1).f0)) ∧ w'.cell? ⟨(ad365.add ((x9_1).toNat * 8)).block, (ad365.add ((x9_1).toNat * 8)).off + 1, none⟩ = some (.int .i64 ((rd_T59 l1 x9_1).f1)) ∧ w'.cell? ⟨(ad365.add ((x9_1).toNat * 8)).block, (ad365.add ((x9_1).toNat * 8)).off + 2, none⟩ = some (.int .i64 ((rd_T59 l1 x9_1).f2.f0)) ∧ w'.cell? ⟨(ad365.add ((x9_1).toNat * 8)).block, (ad365.add ((x9_1).toNat * 8)).off + 3, none⟩ = some (.int .i64 ((rd_T59 l1 x9_1).f2.f1)) ∧ w'.cell? ⟨(ad365.add ((x9_1).toNat * 8)).block, (ad365.add ((x9_1).toNat * 8)).off + 4, none⟩ = some (.int .i64 ((rd_T59 l1 x9_1).f2.f2)) ∧ w'.cell? ⟨(ad365.add ((x9_1).toNat * 8)).block, (ad365.add ((x9_1).toNat * 8)).off + 5, none⟩ = some (.int .i64 ((rd_T59 l1 x9_1).f3)) ∧ w'.cell? ⟨(ad365.add ((x9_1).toNat * 8)).block, (ad365.add ((x9_1).toNat * 8)).off + 6, none⟩ = some (.slice A370_6 ((rd_T59 l1 x9_1).f4).length c370_6) ∧ w'.cell? ⟨(ad365.add ((x9_1).toNat * 8)).block, (ad365.add ((x9_1).toNat * 8)).off + 7, none⟩ = some (.slice A370_7 ((rd_T59 l1 x9_1).f5).length c370_7)) (ds := []) #[false, false, false, false, false, false, false, false, false, false] (by kernel_rfl) rfl rfl ⟨(blk_cell BK360.out 0).trans rfl, (blk_cell BK360.out 1).trans rfl, (blk_cell BK369.out 0).trans rfl, (blk_cell BK369.out 1).trans rfl, (Kd.kept_slot HR1.out (by have := of_eq_true p370; have := of_eq_true q370; omega) (by decide) (Kept.refl _ _) hy370_0 (add_block _ _) (ZH)), (Kd.kept_slot HR1.out (by have := of_eq_true p370; have := of_eq_true q370; omega) (by decide) (Kept.refl _ _) hy370_1 (add_block _ _) (ZH)), (Kd.kept_slot HR1.out (by have := of_eq_true p370; have := of_eq_true q370; omega) (by decide) (Kept.refl _ _) hy370_2 (add_block _ _) (ZH)), (Kd.kept_slot HR1.out (by have := of_eq_true p370; have := of_eq_true q370; omega) (by decide) (Kept.refl _ _) hy370_3 (add_block _ _) (ZH)), (Kd.kept_slot HR1.out (by have := of_eq_true p370; have := of_eq_true q370; omega) (by decide) (Kept.refl _ _) hy370_4 (add_block _ _) (ZH)), (Kd.kept_slot HR1.out (by have := of_eq_true p370; have := of_eq_true q370; omega) (by decide) (Kept.refl _ _) hy370_5 (add_block _ _) (ZH)), (Kd.kept_slot HR1.out (by have := of_eq_true p370; have := of_eq_true q370; omega) (by decide) (Kept.refl _ _) hy370_6 (add_block _ _) (ZH)), (Kd.kept_slot HR1.out (by have := of_eq_true p370; have := of_eq_true q370; omega) (by decide) (Kept.refl _ _) hy370_7 (add_block _ _) (ZH))⟩ (fun hHeld => ?_); refine with_tabW spec_l11At.tab6 spec_l11At.bits6 (fun HT_ HW_ => ?_)
        generalize w24.drew = w25 at HO364 BK360 BK361 BK369 HK HB HR370_6 HR370_7 hx370_0 hx370_1 hx370_2 hx370_3 hx370_4 hx370_5 hx370_6 hx370_7 hHeld ⊢
        refine pure_ (i := 1) (N := some 33) (v := ?_) (a' := ?_) #[false, true, false, false, false, false, false, false, false, false] rfl rfl (any_of HT_.out (by kernel_rfl)) (fun _ _ _ h => h) (Or.inl ⟨by rfl, ?_⟩) ?_ ?_
        rotate_left
        ·intro w'
         go_simp
         with_reducible rfl
        rotate_left
        ·simp only [Act.put, List.setIfInBounds_toArray, List.set_cons_zero, List.set_cons_succ, i64_w, i32_w]
         rfl
        refine pure_ (i := 2) (N := some 34) (v := ?_) (a' := ?_) #[false, true, true, false, false, false, false, false, false, false] rfl rfl (any_of HT_.out (by kernel_rfl)) (fun _ _ _ h => h) (Or.inl ⟨by rfl, ?_⟩) ?_ ?_
        rotate_left
        ·intro w'
         go_simp
         with_reducible rfl
        rotate_left
        ·simp only [Act.put, List.setIfInBounds_toArray, List.set_cons_zero, List.set_cons_succ, i64_w, i32_w]
         rfl
        refine pure_ (i := 3) (N := some 35) (v := ?_) (a' := ?_) #[false, true, true, true, false, false, false, false, false, false] rfl rfl (any_of HT_.out (by kernel_rfl)) (fun _ _ _ h => h) (Or.inl ⟨by rfl, ?_⟩) ?_ ?_
        rotate_left
        ·intro w'
         go_simp
         with_reducible rfl
        rotate_left
        ·simp only [Act.put, List.setIfInBounds_toArray, List.set_cons_zero, List.set_cons_succ, i64_w, i32_w]
         rfl
        refine pure_ (i := 4) (N := some 36) (v := ?_) (a' := ?_) #[false, true, true, true, true, false, false, false, false, false] rfl rfl (any_of HT_.out (by kernel_rfl)) (fun _ _ _ h => h) (Or.inl ⟨by rfl, ?_⟩) ?_ ?_
        rotate_left
        ·intro w'
         go_simp
         with_reducible rfl
        rotate_left
        ·simp only [Act.put, List.setIfInBounds_toArray, List.set_cons_zero, List.set_cons_succ, i64_w, i32_w]
         rfl
        refine pure_ (i := 7) (N := some 39) (v := ?_) (a' := ?_) #[false, true, true, true, true, false, false, true, false, false] rfl rfl (any_of HT_.out (by kernel_rfl)) (fun _ _ _ h => h) (Or.inl ⟨by rfl, ?_⟩) ?_ ?_
        rotate_left
        ·intro w'
         go_simp
         with_reducible rfl
        rotate_left
        ·simp only [Act.put, List.setIfInBounds_toArray, List.set_cons_zero, List.set_cons_succ, i64_w, i32_w]
         rfl
        refine take_ (i := 0) (N := some 32) (v := ?_) (a' := ?_) #[true, true, true, true, true, false, false, true, false, false] rfl rfl (take_ofW HT_.out HW_.out (by kernel_rfl)) (fun _ _ _ h => h) (Or.inl ⟨by rfl, ?_⟩) hHeld ?_ ?_
        rotate_left
        ·rintro w' ⟨s0, s1, s2, s3, s4, s5, s6, s7, s8, s9, s10, s11⟩
         go_simp
         with_reducible rfl
        rotate_left
        ·simp only [Act.put, List.setIfInBounds_toArray, List.set_cons_zero, List.set_cons_succ, i64_w, i32_w]
         rfl
        refine take_ (i := 5) (N := some 37) (v := ?_) (a' := ?_) #[true, true, true, true, true, true, false, true, false, false] rfl rfl (take_ofW HT_.out HW_.out (by kernel_rfl)) (fun _ _ _ h => h) (Or.inl ⟨by rfl, ?_⟩) hHeld ?_ ?_
        rotate_left
        ·rintro w' ⟨s0, s1, s2, s3, s4, s5, s6, s7, s8, s9, s10, s11⟩
         go_simp
         with_reducible rfl
        rotate_left
        ·simp only [Act.put, List.setIfInBounds_toArray, List.set_cons_zero, List.set_cons_succ, i64_w, i32_w]
         rfl
        refine take_ (i := 6) (N := some 38) (v := ?_) (a' := ?_) #[true, true, true, true, true, true, true, true, false, false] rfl rfl (take_ofW HT_.out HW_.out (by kernel_rfl)) (fun _ _ _ h => h) (Or.inl ⟨by rfl, ?_⟩) hHeld ?_ ?_
        rotate_left
        ·rintro w' ⟨s0, s1, s2, s3, s4, s5, s6, s7, s8, s9, s10, s11⟩
         go_simp
         with_reducible rfl
        rotate_left
        ·simp only [Act.put, List.setIfInBounds_toArray, List.set_cons_zero, List.set_cons_succ, i64_w, i32_w]
         rfl
        refine one_ (i := 8) (N := some 40) #[true, true, true, true, true, true, true, true, true, false] rfl rfl (one_of HT_.out (by kernel_rfl)) (by decide) (fun K hK => ?_)
        refine goes_ Try.func107 (by kernel_rfl) rfl #[.agg #[.slice (some ad366) l0_0.length c0_0, .slice A0_1 l0_1.length c0_1], .slice A370_6 ((rd_T59 l1 x9_1).f4).length c370_6, .agg #[.int .i64 t367, .int .i64 t368], .slice Ao26 y362.length co26] (by rfl) rfl rfl ZG ?_
        with_reducible refine (ih k1 (by have := HK1.out; omega) _ _ l0_0 _ _ l0_1 _ _ ((rd_T59 l1 x9_1).f4) t367 t368 (fun k_ => some k_ = (.slice Ao26 y362.length co26 : Value).ownBlock) (.slice Ao26 y362.length co26) y362 t371 w0 _ ?side1 ?side2 ?side3 ?side4 ?side5 ?side6 ?side7 ?side8 A13.out).mono ?_
        (case side1 => repeat (first | (with_reducible first | exact HB.out | apply below_alloc | apply pw_below_drewN | apply below_drew1 | refine below_set ?_ GE360.out | refine below_set ?_ GE361.out | refine below_set ?_ GE369.out) | exact HB.out))
        (case side2 => exact Kd.C_kept_call HR0_0.out (ZH) (fun k_ hs_ => (fun e_ => (HO364.out.1 k_ e_.symm).1) hs_))
        (case side3 => exact HC0_0.out)
        (case side4 => exact Kd.C_kept_call HR0_1.out (ZH) (fun k_ hs_ => (fun e_ => (HO364.out.1 k_ e_.symm).1) hs_))
        (case side5 => exact HC0_1.out)
        (case side6 => exact Kd.C_kept_call (fun W_ k_ => by have hw_ := Kd.kept_slot HR1.out (by have := (of_eq_true p370); have := (of_eq_true q370); omega) (by decide) (Kept.refl _ _) hy370_6 (add_block _ _) k_; obtain ⟨ad_, A6_, c6_, A7_, c7_, e_, m0_, m1_, m2_, m3_, m4_, m5_, m6_, m7_, y6_, z6_, y7_, z7_⟩ := at_T59 (HR1.out W_ k_) (x9_1) (by first | exact of_eq_true p370 | exact p370) (by first | exact of_eq_true q370 | exact q370); cases e_; rw [hw_] at m6_; cases m6_; exact z6_) (ZH) (fun k_ hs_ => (fun e_ => (HO364.out.1 k_ e_.symm).1) hs_))
        (case side7 => exact HC370_6.out)
        (case side8 => exact Kd.R_tight rfl HO364.out)
        rintro e w27 ⟨v372, rfl, ho0, hb, hkp⟩
        refine ⟨_, rfl, ?_⟩
        have n0_ := Aside0.mk (blk_kept (ZK BK360.out) hkp (fun hs_ => (fun e_ => (Kd.R_ne HO364.out BK360.out (by decide)) e_) hs_))
        have n1_ := Aside0.mk (blk_kept (ZK BK361.out) hkp (fun hs_ => (fun e_ => (Kd.R_away HO364.out (fun _ hk => hk.2.1)) e_) hs_))
        have n2_ := Aside0.mk (blk_kept (ZK BK369.out) hkp (fun hs_ => (fun e_ => (Kd.R_away HO364.out (fun _ hk => hk.2.2)) e_) hs_))
        have n3_ := Aside0.mk (Kd.R_mono (ok' := fun k_ => (P3_ k_ ∨ w.heap.size ≤ k_) ∧ k_ ≠ gb361 ∧ k_ ≠ gb369) ho0 (fun k_ hk_ => ⟨Or.elim hk_ (fun hs_ => (HO364.out.1 k_ (hs_).symm).1) (fun hn_ => (.inr (Nat.le_trans (by first | exact HK.out.1 | exact (show Kept w _ (fun k_ => P3_ k_) from ZH).1) hn_))), Or.elim hk_ (fun hs_ => fun e_ => (Kd.R_away HO364.out (fun _ hk => hk.2.1)) (by rw [← e_]; exact hs_)) (fun hn_ => (Kd.freshB (g := gb361) (o := .cells #[.int .i64 a2_0, .int .i64 a2_1] 35 (0, 0)) (ZK BK361.out) k_ hn_)), Or.elim hk_ (fun hs_ => fun e_ => (Kd.R_away HO364.out (fun _ hk => hk.2.2)) (by rw [← e_]; exact hs_)) (fun hn_ => (Kd.freshB (g := gb369) (o := .cells #[.int .i64 t367, .int .i64 t368] 35 (0, 0)) (ZK BK369.out) k_ hn_))⟩))
        have n4_ := Aside0.mk (Kept.then_ (S := (fun k_ => P3_ k_)) (ZH) hkp (fun k_ hs_ => (fun e_ => (HO364.out.1 k_ e_.symm).1) hs_))
        have n5_ := Aside0.mk (hb)
        clear BK360
        clear BK361
        clear BK369
        clear HK
        clear HB
        clear HO364
        have BK360 := n0_
        have BK361 := n1_
        have BK369 := n2_
        have HO373 := n3_
        have HK := n4_
        have HB := n5_
        clear n0_ n1_ n2_ n3_ n4_ n5_
        (try clear hb)
        (try clear hkp)
        (try clear ho0)
        refine hK.out _ _ ⟨(blk_cell BK360.out 0).trans rfl, (blk_cell BK360.out 1).trans rfl, (blk_cell BK369.out 0).trans rfl, (blk_cell BK369.out 1).trans rfl, (Kd.kept_slot HR1.out (by have := of_eq_true p370; have := of_eq_true q370; omega) (by decide) (Kept.refl _ _) hy370_0 (add_block _ _) (ZH)), (Kd.kept_slot HR1.out (by have := of_eq_true p370; have := of_eq_true q370; omega) (by decide) (Kept.refl _ _) hy370_1 (add_block _ _) (ZH)), (Kd.kept_slot HR1.out (by have := of_eq_true p370; have := of_eq_true q370; omega) (by decide) (Kept.refl _ _) hy370_2 (add_block _ _) (ZH)), (Kd.kept_slot HR1.out (by have := of_eq_true p370; have := of_eq_true q370; omega) (by decide) (Kept.refl _ _) hy370_3 (add_block _ _) (ZH)), (Kd.kept_slot HR1.out (by have := of_eq_true p370; have := of_eq_true q370; omega) (by decide) (Kept.refl _ _) hy370_4 (add_block _ _) (ZH)), (Kd.kept_slot HR1.out (by have := of_eq_true p370; have := of_eq_true q370; omega) (by decide) (Kept.refl _ _) hy370_5 (add_block _ _) (ZH)), (Kd.kept_slot HR1.out (by have := of_eq_true p370; have := of_eq_true q370; omega) (by decide) (Kept.refl _ _) hy370_6 (add_block _ _) (ZH)), (Kd.kept_slot HR1.out (by have := of_eq_true p370; have := of_eq_true q370; omega) (by decide) (Kept.refl _ _) hy370_7 (add_block _ _) (ZH))⟩ (fun hHeld => ?_)
        clear hK K
        refine ZNO 40 ?_
        refine pure_ (i := 9) (N := some 3) (v := ?_) (a' := ?_) #[true, true, true, true, true, true, true, true, true, true] rfl rfl (any_of HT_.out (by kernel_rfl)) (fun _ _ _ h => h) (Or.inl ⟨by rfl, ?_⟩) ?_ ?_
        rotate_left
        ·intro w'
         go_simp
         with_reducible rfl
        rotate_left
        ·simp only [Act.put, List.setIfInBounds_toArray, List.set_cons_zero, List.set_cons_succ, i64_w, i32_w]
         rfl
        refine done_ (done_of HT_.out (by kernel_rfl)) ?_
        try go_wp2
        have n0_ := Aside0.mk (Kd.R_drew HO373.out)
        have n1_ := Aside0.mk (blk_drew BK360.out)
        have n2_ := Aside0.mk (blk_drew BK361.out)
        have n3_ := Aside0.mk (blk_drew BK369.out)
        have n4_ := Aside0.mk (Kept.drew HK.out)
        have n5_ := Aside0.mk (below_drew1 HB.out)
        clear HO373
        clear BK360
        clear BK361
        clear BK369
        clear HK
        clear HB
        have HO373 := n0_
        have BK360 := n1_
        have BK361 := n2_
        have BK369 := n3_
        have HK := n4_
        have HB := n5_
        clear n0_ n1_ n2_ n3_ n4_ n5_
        have p374 : 0 ≤ (x9_1 : Int) := ZD
        have q374 : x9_1 < (l1.length : Int) := ZD
        obtain ⟨ad374, A374_6, c374_6, A374_7, c374_7, e374, hx374_0, hx374_1, hx374_2, hx374_3, hx374_4, hx374_5, hx374_6, hx374_7, hl374_6, hi374_6, hl374_7, hi374_7⟩ := at_T59 (Kd.C_kept_now HR1.out HK.out) x9_1 p374 q374
        have hw374_7 := hx374_7
        have hw374_6 := hx374_6
        have hw374_5 := hx374_5
        have hw374_4 := hx374_4
        have hw374_3 := hx374_3
        have hw374_2 := hx374_2
        have hw374_1 := hx374_1
        have hw374_0 := hx374_0
        obtain rfl : ad365 = ad374 := (by injection e374)
        have hy374_0 := Kd.kept_slot HR1.out (by omega) (by decide) (ZH) hx374_0 (add_block _ _) (Kept.refl _ _)
        have hy374_1 := Kd.kept_slot HR1.out (by omega) (by decide) (ZH) hx374_1 (add_block _ _) (Kept.refl _ _)
        have hy374_2 := Kd.kept_slot HR1.out (by omega) (by decide) (ZH) hx374_2 (add_block _ _) (Kept.refl _ _)
        have hy374_3 := Kd.kept_slot HR1.out (by omega) (by decide) (ZH) hx374_3 (add_block _ _) (Kept.refl _ _)
        have hy374_4 := Kd.kept_slot HR1.out (by omega) (by decide) (ZH) hx374_4 (add_block _ _) (Kept.refl _ _)
        have hy374_5 := Kd.kept_slot HR1.out (by omega) (by decide) (ZH) hx374_5 (add_block _ _) (Kept.refl _ _)
        have hy374_6 := Kd.kept_slot HR1.out (by omega) (by decide) (ZH) hx374_6 (add_block _ _) (Kept.refl _ _)
        have hy374_7 := Kd.kept_slot HR1.out (by omega) (by decide) (ZH) hx374_7 (add_block _ _) (Kept.refl _ _)
        have HR374_6 := Aside0.mk hi374_6
        have HC374_6 := Aside0.mk hl374_6
        clear hi374_6 hl374_6
        have HR374_7 := Aside0.mk hi374_7
        have HC374_7 := Aside0.mk hl374_7
        clear hi374_7 hl374_7
        replace p374 := eq_true p374
        replace q374 := eq_true q374
        obtain ⟨Ao29, co29, eo29⟩ := Kd.R_slice HO373.out
        (first | subst eo29 | (injection eo29 with f1_ f2_ f3_; have f4_ := f1_.symm; have f5_ := f3_.symm; clear f1_ f2_ f3_; subst f4_; subst f5_))
        refine start_ (n := 10) (S := fun w' => w'.cell? ⟨gb360, 0, none⟩ = some (.slice (some ad366) l0_0.length c0_0) ∧ w'.cell? ⟨gb360, 1, none⟩ = some (.slice A0_1 l0_1.length c0_1) ∧ w'.cell? ⟨gb369, 0, none⟩ = some (.int .i64 t367) ∧ w'.cell? ⟨gb369, 1, none⟩ = some (.int .i64 t368) ∧ w'.cell? (ad365.add ((x9_1).toNat * 8)) = some (.int .i64 ((rd_T59 l1 x9_1).f0)) ∧ w'.cell? ⟨(ad365.add ((x9_1).toNat * 8)).block, (ad365.add ((x9_1).toNat * 8)).off + 1, none⟩ = some (.int .i64 ((rd_T59 l1 x9_1).f1)) ∧ w'.cell? ⟨(ad365.add ((x9_1).toNat * 8)).block, (ad365.add ((x9_1).toNat * 8)).off + 2, none⟩ = some (.int .i64 ((rd_T59 l1 x9_1).f2.f0)) ∧ w'.cell? ⟨(ad365.add ((x9_1).toNat * 8)).block, (ad365.add ((x9_1).toNat * 8)).off + 3, none⟩ = some (.int .i64 ((rd_T59 l1 x9_1).f2.f1)) ∧ w'.cell? ⟨(ad365.add ((x9_1).toNat * 8)).block, (ad365.add ((x9_1).toNat * 8)).off + 4, none⟩ = some (.int .i64 ((rd_T59 l1 x9_1).f2.f2)) ∧ w'.cell? ⟨(ad365.add ((x9_1).toNat * 8)).block, (ad365.add ((x9_1).toNat * 8)).off + 5, none⟩ = some (.int .i64 ((rd_T59 l1 x9_1).f3)) ∧ w'.cell? ⟨(ad365.add ((x9_1).toNat * 8)).block, (ad365.add ((x9_1).toNat * 8)).off + 6, none⟩ = some (.slice A374_6 ((rd_T59 l1 x9_1).f4).length c374_6) ∧ w'.cell? ⟨(ad365.add ((x9_1).toNat * 8)).block, (ad365.add ((x9_1).toNat * 8)).off + 7, none⟩ = some (.slice A374_7 ((rd_T59 l1 x9_1).f5).length c374_7)) (ds := []) #[false, false, false, false, false, false, false, false, false, false] (by kernel_rfl) rfl rfl ⟨(blk_cell BK360.out 0).trans rfl, (blk_cell BK360.out 1).trans rfl, (blk_cell BK369.out 0).trans rfl, (blk_cell BK369.out 1).trans rfl, (Kd.kept_slot HR1.out (by have := of_eq_true p374; have := of_eq_true q374; omega) (by decide) (Kept.refl _ _) hy374_0 (add_block _ _) (ZH)), (Kd.kept_slot HR1.out (by have := of_eq_true p374; have := of_eq_true q374; omega) (by decide) (Kept.refl _ _) hy374_1 (add_block _ _) (ZH)), (Kd.kept_slot HR1.out (by have := of_eq_true p374; have := of_eq_true q374; omega) (by decide) (Kept.refl _ _) hy374_2 (add_block _ _) (ZH)), (Kd.kept_slot HR1.out (by have := of_eq_true p374; have := of_eq_true q374; omega) (by decide) (Kept.refl _ _) hy374_3 (add_block _ _) (ZH)), (Kd.kept_slot HR1.out (by have := of_eq_true p374; have := of_eq_true q374; omega) (by decide) (Kept.refl _ _) hy374_4 (add_block _ _) (ZH)), (Kd.kept_slot HR1.out (by have := of_eq_true p374; have := of_eq_true q374; omega) (by decide) (Kept.refl _ _) hy374_5 (add_block _ _) (ZH)), (Kd.kept_slot HR1.out (by have := of_eq_true p374; have := of_eq_true q374; omega) (by decide) (Kept.refl _ _) hy374_6 (add_block _ _) (ZH)), (Kd.kept_slot HR1.out (by have := of_eq_true p374; have := of_eq_true q374; omega) (by decide) (Kept.refl _ _) hy374_7 (add_block _ _) (ZH))⟩ (fun hHeld => ?_); refine with_tabW spec_l11At.tab7 spec_l11At.bits7 (fun HT_ HW_ => ?_)
        generalize w27.drew = w28 at HO373 BK360 BK361 BK369 HK HB HR374_6 HR374_7 hx374_0 hx374_1 hx374_2 hx374_3 hx374_4 hx374_5 hx374_6 hx374_7 hHeld ⊢
        refine pure_ (i := 1) (N := some 42) (v := ?_) (a' := ?_) #[false, true, false, false, false, false, false, false, false, false] rfl rfl (any_of HT_.out (by kernel_rfl)) (fun _ _ _ h => h) (Or.inl ⟨by rfl, ?_⟩) ?_ ?_
        rotate_left
        ·intro w'
         go_simp
         with_reducible rfl
        rotate_left
        ·simp only [Act.put, List.setIfInBounds_toArray, List.set_cons_zero, List.set_cons_succ, i64_w, i32_w]
         rfl
        refine pure_ (i := 2) (N := some 43) (v := ?_) (a' := ?_) #[false, true, true, false, false, false, false, false, false, false] rfl rfl (any_of HT_.out (by kernel_rfl)) (fun _ _ _ h => h) (Or.inl ⟨by rfl, ?_⟩) ?_ ?_
        rotate_left
        ·intro w'
         go_simp
         with_reducible rfl
        rotate_left
        ·simp only [Act.put, List.setIfInBounds_toArray, List.set_cons_zero, List.set_cons_succ, i64_w, i32_w]
         rfl
        refine pure_ (i := 3) (N := some 44) (v := ?_) (a' := ?_) #[false, true, true, true, false, false, false, false, false, false] rfl rfl (any_of HT_.out (by kernel_rfl)) (fun _ _ _ h => h) (Or.inl ⟨by rfl, ?_⟩) ?_ ?_
        rotate_left
        ·intro w'
         go_simp
         with_reducible rfl
        rotate_left
        ·simp only [Act.put, List.setIfInBounds_toArray, List.set_cons_zero, List.set_cons_succ, i64_w, i32_w]
         rfl
        refine pure_ (i := 4) (N := some 45) (v := ?_) (a' := ?_) #[false, true, true, true, true, false, false, false, false, false] rfl rfl (any_of HT_.out (by kernel_rfl)) (fun _ _ _ h => h) (Or.inl ⟨by rfl, ?_⟩) ?_ ?_
        rotate_left
        ·intro w'
         go_simp
         with_reducible rfl
        rotate_left
        ·simp only [Act.put, List.setIfInBounds_toArray, List.set_cons_zero, List.set_cons_succ, i64_w, i32_w]
         rfl
        refine pure_ (i := 7) (N := some 48) (v := ?_) (a' := ?_) #[false, true, true, true, true, false, false, true, false, false] rfl rfl (any_of HT_.out (by kernel_rfl)) (fun _ _ _ h => h) (Or.inl ⟨by rfl, ?_⟩) ?_ ?_
        rotate_left
        ·intro w'
         go_simp
         with_reducible rfl
        rotate_left
        ·simp only [Act.put, List.setIfInBounds_toArray, List.set_cons_zero, List.set_cons_succ, i64_w, i32_w]
         rfl
        refine take_ (i := 0) (N := some 41) (v := ?_) (a' := ?_) #[true, true, true, true, true, false, false, true, false, false] rfl rfl (take_ofW HT_.out HW_.out (by kernel_rfl)) (fun _ _ _ h => h) (Or.inl ⟨by rfl, ?_⟩) hHeld ?_ ?_
        rotate_left
        ·rintro w' ⟨s0, s1, s2, s3, s4, s5, s6, s7, s8, s9, s10, s11⟩
         go_simp
         with_reducible rfl
        rotate_left
        ·simp only [Act.put, List.setIfInBounds_toArray, List.set_cons_zero, List.set_cons_succ, i64_w, i32_w]
         rfl
        refine take_ (i := 5) (N := some 46) (v := ?_) (a' := ?_) #[true, true, true, true, true, true, false, true, false, false] rfl rfl (take_ofW HT_.out HW_.out (by kernel_rfl)) (fun _ _ _ h => h) (Or.inl ⟨by rfl, ?_⟩) hHeld ?_ ?_
        rotate_left
        ·rintro w' ⟨s0, s1, s2, s3, s4, s5, s6, s7, s8, s9, s10, s11⟩
         go_simp
         with_reducible rfl
        rotate_left
        ·simp only [Act.put, List.setIfInBounds_toArray, List.set_cons_zero, List.set_cons_succ, i64_w, i32_w]
         rfl
        refine take_ (i := 6) (N := some 47) (v := ?_) (a' := ?_) #[true, true, true, true, true, true, true, true, false, false] rfl rfl (take_ofW HT_.out HW_.out (by kernel_rfl)) (fun _ _ _ h => h) (Or.inl ⟨by rfl, ?_⟩) hHeld ?_ ?_
        rotate_left
        ·rintro w' ⟨s0, s1, s2, s3, s4, s5, s6, s7, s8, s9, s10, s11⟩
         go_simp
         with_reducible rfl
        rotate_left
        ·simp only [Act.put, List.setIfInBounds_toArray, List.set_cons_zero, List.set_cons_succ, i64_w, i32_w]
         rfl
        refine one_ (i := 8) (N := some 49) #[true, true, true, true, true, true, true, true, true, false] rfl rfl (one_of HT_.out (by kernel_rfl)) (by decide) (fun K hK => ?_)
        refine goes_ Try.func107 (by kernel_rfl) rfl #[.agg #[.slice (some ad366) l0_0.length c0_0, .slice A0_1 l0_1.length c0_1], .slice A374_7 ((rd_T59 l1 x9_1).f5).length c374_7, .agg #[.int .i64 t367, .int .i64 t368], .slice Ao29 t371.length co29] (by rfl) rfl rfl ZG ?_
        with_reducible refine (ih k1 (by have := HK1.out; omega) _ _ l0_0 _ _ l0_1 _ _ ((rd_T59 l1 x9_1).f5) t367 t368 (fun k_ => some k_ = (.slice Ao29 t371.length co29 : Value).ownBlock) (.slice Ao29 t371.length co29) t371 t375 w0 _ ?side1 ?side2 ?side3 ?side4 ?side5 ?side6 ?side7 ?side8 A14.out).mono ?_
        (case side1 => repeat (first | (with_reducible first | exact HB.out | apply below_alloc | apply pw_below_drewN | apply below_drew1 | refine below_set ?_ GE360.out | refine below_set ?_ GE361.out | refine below_set ?_ GE369.out) | exact HB.out))
        (case side2 => exact Kd.C_kept_call HR0_0.out (ZH) (fun k_ hs_ => (fun e_ => (HO373.out.1 k_ e_.symm).1) hs_))
        (case side3 => exact HC0_0.out)
        (case side4 => exact Kd.C_kept_call HR0_1.out (ZH) (fun k_ hs_ => (fun e_ => (HO373.out.1 k_ e_.symm).1) hs_))
        (case side5 => exact HC0_1.out)
        (case side6 => exact Kd.C_kept_call (fun W_ k_ => by have hw_ := Kd.kept_slot HR1.out (by have := (of_eq_true p374); have := (of_eq_true q374); omega) (by decide) (Kept.refl _ _) hy374_7 (add_block _ _) k_; obtain ⟨ad_, A6_, c6_, A7_, c7_, e_, m0_, m1_, m2_, m3_, m4_, m5_, m6_, m7_, y6_, z6_, y7_, z7_⟩ := at_T59 (HR1.out W_ k_) (x9_1) (by first | exact of_eq_true p374 | exact p374) (by first | exact of_eq_true q374 | exact q374); cases e_; rw [hw_] at m7_; cases m7_; exact z7_) (ZH) (fun k_ hs_ => (fun e_ => (HO373.out.1 k_ e_.symm).1) hs_))
        (case side7 => exact HC374_7.out)
        (case side8 => exact Kd.R_tight rfl HO373.out)
        rintro e w30 ⟨v376, rfl, ho0, hb, hkp⟩
        refine ⟨_, rfl, ?_⟩
        have n0_ := Aside0.mk (blk_kept (ZK BK360.out) hkp (fun hs_ => (fun e_ => (Kd.R_ne HO373.out BK360.out (by decide)) e_) hs_))
        have n1_ := Aside0.mk (blk_kept (ZK BK361.out) hkp (fun hs_ => (fun e_ => (Kd.R_away HO373.out (fun _ hk => hk.2.1)) e_) hs_))
        have n2_ := Aside0.mk (blk_kept (ZK BK369.out) hkp (fun hs_ => (fun e_ => (Kd.R_away HO373.out (fun _ hk => hk.2.2)) e_) hs_))
        have n3_ := Aside0.mk (Kd.R_mono (ok' := fun k_ => (P3_ k_ ∨ w.heap.size ≤ k_) ∧ k_ ≠ gb361 ∧ k_ ≠ gb369) ho0 (fun k_ hk_ => ⟨Or.elim hk_ (fun hs_ => (HO373.out.1 k_ (hs_).symm).1) (fun hn_ => (.inr (Nat.le_trans (by first | exact HK.out.1 | exact (show Kept w _ (fun k_ => P3_ k_) from ZH).1) hn_))), Or.elim hk_ (fun hs_ => fun e_ => (Kd.R_away HO373.out (fun _ hk => hk.2.1)) (by rw [← e_]; exact hs_)) (fun hn_ => (Kd.freshB (g := gb361) (o := .cells #[.int .i64 a2_0, .int .i64 a2_1] 35 (0, 0)) (ZK BK361.out) k_ hn_)), Or.elim hk_ (fun hs_ => fun e_ => (Kd.R_away HO373.out (fun _ hk => hk.2.2)) (by rw [← e_]; exact hs_)) (fun hn_ => (Kd.freshB (g := gb369) (o := .cells #[.int .i64 t367, .int .i64 t368] 35 (0, 0)) (ZK BK369.out) k_ hn_))⟩))
        have n4_ := Aside0.mk (Kept.then_ (S := (fun k_ => P3_ k_)) (ZH) hkp (fun k_ hs_ => (fun e_ => (HO373.out.1 k_ e_.symm).1) hs_))
        have n5_ := Aside0.mk (hb)
        clear BK360
        clear BK361
        clear BK369
        clear HK
        clear HB
        clear HO373
        have BK360 := n0_
        have BK361 := n1_
        have BK369 := n2_
        have HO377 := n3_
        have HK := n4_
        have HB := n5_
        clear n0_ n1_ n2_ n3_ n4_ n5_
        (try clear hb)
        (try clear hkp)
        (try clear ho0)
        refine hK.out _ _ ⟨(blk_cell BK360.out 0).trans rfl, (blk_cell BK360.out 1).trans rfl, (blk_cell BK369.out 0).trans rfl, (blk_cell BK369.out 1).trans rfl, (Kd.kept_slot HR1.out (by have := of_eq_true p374; have := of_eq_true q374; omega) (by decide) (Kept.refl _ _) hy374_0 (add_block _ _) (ZH)), (Kd.kept_slot HR1.out (by have := of_eq_true p374; have := of_eq_true q374; omega) (by decide) (Kept.refl _ _) hy374_1 (add_block _ _) (ZH)), (Kd.kept_slot HR1.out (by have := of_eq_true p374; have := of_eq_true q374; omega) (by decide) (Kept.refl _ _) hy374_2 (add_block _ _) (ZH)), (Kd.kept_slot HR1.out (by have := of_eq_true p374; have := of_eq_true q374; omega) (by decide) (Kept.refl _ _) hy374_3 (add_block _ _) (ZH)), (Kd.kept_slot HR1.out (by have := of_eq_true p374; have := of_eq_true q374; omega) (by decide) (Kept.refl _ _) hy374_4 (add_block _ _) (ZH)), (Kd.kept_slot HR1.out (by have := of_eq_true p374; have := of_eq_true q374; omega) (by decide) (Kept.refl _ _) hy374_5 (add_block _ _) (ZH)), (Kd.kept_slot HR1.out (by have := of_eq_true p374; have := of_eq_true q374; omega) (by decide) (Kept.refl _ _) hy374_6 (add_block _ _) (ZH)), (Kd.kept_slot HR1.out (by have := of_eq_true p374; have := of_eq_true q374; omega) (by decide) (Kept.refl _ _) hy374_7 (add_block _ _) (ZH))⟩ (fun hHeld => ?_)
        clear hK K
        refine ZNO 49 ?_
        refine pure_ (i := 9) (N := some 3) (v := ?_) (a' := ?_) #[true, true, true, true, true, true, true, true, true, true] rfl rfl (any_of HT_.out (by kernel_rfl)) (fun _ _ _ h => h) (Or.inl ⟨by rfl, ?_⟩) ?_ ?_
        rotate_left
        ·intro w'
         go_simp
         with_reducible rfl
        rotate_left
        ·simp only [Act.put, List.setIfInBounds_toArray, List.set_cons_zero, List.set_cons_succ, i64_w, i32_w]
         rfl
        refine done_ (done_of HT_.out (by kernel_rfl)) ?_
        try go_wp2
        go_roundg k1
        case measure => have := HK1.out; omega
        case rel => exact ⟨(t375), (wrap64 (x9_1 + 1)), (by first | rfl | (simp; done) | (simp [*]; done)), H', ⟨by have := HK1.out; omega⟩, ⟨by (with_reducible repeat (first | apply Kd.R_alloc | apply Kd.R_drewN | apply Kd.R_drew)); exact Kd.R_mono HO377.out (fun _ hk => ⟨hk.1, hk.2.1⟩)⟩, ⟨ZK BK360.out⟩, ⟨ZK BK361.out⟩, ⟨ZH⟩, ⟨ZB⟩⟩
       ·rw [if_neg c11] at H
        exact absurd H (by simp)
      ·rw [if_neg c10] at H
       exact absurd H (by simp)
     ·rw [if_neg c9] at H
      exact absurd H (by simp)
    ·rw [if_neg c8] at H
     exact absurd H (by simp)
   ·rw [if_neg c7] at H
    have c7b0 : decide (x9_1 < (l1.length : Int)) = false := decide_eq_false c7
    clear c7
    obtain rfl := Option.some.inj H
    go_wp2
    go_ret
    exact ⟨_, ZE, by (with_reducible repeat (first | apply Kd.R_alloc | apply Kd.R_drewN | apply Kd.R_drew)); exact Kd.R_mono HO_3.out (fun _ hk => hk.1), ZB, ZH⟩

end Go.Proofs.Ytcffnnedghgmaaa.A
