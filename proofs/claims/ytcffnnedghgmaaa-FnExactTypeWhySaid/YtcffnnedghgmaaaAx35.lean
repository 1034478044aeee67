/- What Go functions compute, as Lean functions, and for each its contract: for every input at which the Lean function answers the call returns that; written by wip/tools/pr.py over the kit's print. -/
import Derived.Test.YtcffnnedghgmaaaAx0
import Derived.Test.YtcffnnedghgmaaaAx34
namespace Go.Proofs.Ytcffnnedghgmaaa.A
open Go.RowKit Go.Proofs.YtcffnnedghgmaaaW.PrintWords Go.Proofs.YtcffnnedghgmaaaW.PrintLast Go.Proofs.YtcffnnedghgmaaaW.PrintMore
attribute [local go_sem] max2_int min2_int max_two min_two max_three min_three max_four min_four   -- for this text's walks alone
set_option linter.unusedVariables false
set_option linter.unusedSimpArgs false

/-! ### impl_Prog_labels: function 120 -/
mutual
def impl_Prog_labels.l0 : Nat → List (S35) → List (S59) → Int → Int → List (S35) → List (S59) → Int → Int → Option ((List (S35)))
 | 0, _, _, _, _, _, _, _, _ => none
 | k + 1, x3, x12, x13, x14, x492000, x492001, x493000, x493001 => if x14 < x13 then (if 0 ≤ x14 then (if x14 < (x12.length : Int) then (if x3.length < 8796093022208 then (if 0 ≤ ((rd_T59 x12 x14).f1) then (if ((rd_T59 x12 x14).f1) < (x492000.length : Int) then ((impl_Label_both.f x493000 x493001 ((rd_T35 x492000 ((rd_T59 x12 x14).f1)).f0) ((rd_T35 x492000 ((rd_T59 x12 x14).f1)).f1)).bind fun bt499 => ((impl_Prog_labels.f k x492000 x492001 ((rd_T59 x12 x14).f4) bt499.1 bt499.2 (x3 ++ [(⟨x493000, x493001⟩ : S35)])).bind fun t502 => ((impl_Prog_labels.f k x492000 x492001 ((rd_T59 x12 x14).f5) bt499.1 bt499.2 t502).bind fun t505 => (impl_Prog_labels.l0 k t505 x12 x13 (wrap64 (x14 + 1)) x492000 x492001 x493000 x493001)))) else (none)) else (none)) else (none)) else (none)) else (none)) else (some x3)
def impl_Prog_labels.f : Nat → List (S35) → List (S59) → List (S59) → Int → Int → List (S35) → Option ((List (S35)))
 | 0, _, _, _, _, _, _ => none
 | k + 1, l0_0, l0_1, l1, a2_0, a2_1, l3 => impl_Prog_labels.l0 k l3 l1 (l1.length : Int) 0 l0_0 l0_1 a2_0 a2_1
end
def impl_Prog_labels.T5 : Bool × List (List Nat × List Nat) := (true, [([], []), ([], []), ([1], [1]), ([], []), ([3], [3]), ([2, 4], [2, 4]), ([5], [5]), ([0, 6], [0, 6]), ([], []), ([8, 7, 7, 0, 1, 2, 3, 4, 5, 6, 7, 8], [7, 8])])
def impl_Prog_labels.B5 : List Nat := [0, 0, 2, 0, 8, 30, 62, 127, 0, 511]
theorem impl_Prog_labels.tab5 : rtab .any (opsOf Try.f120 5) = impl_Prog_labels.T5 := by kernel_rfl
theorem impl_Prog_labels.bits5 : waitsOk impl_Prog_labels.T5.2 impl_Prog_labels.B5 = true := by kernel_rfl
set_option maxHeartbeats 8000000 in
set_option maxRecDepth 100000 in
theorem impl_Prog_labels.calls (k : Nat) : ∀ (A0_0 : Option Addr) (c0_0 : Nat) (l0_0 : List (S35)) (A0_1 : Option Addr) (c0_1 : Nat) (l0_1 : List (S59)) (A1 : Option Addr) (c1 : Nat) (l1 : List (S59)) (a2_0 : Int) (a2_1 : Int) (P3_ : Nat → Prop) (u9000_ : Value) (l3 : List (S35)) (r : List (S35)) (w0 w : World) (hB : Below w0.heap.size w0 w) (hr0_0 : ∀ W_, Kept w W_ (fun k_ => P3_ k_) → Kd.C k35 W_ A0_0 l0_0.length l0_0) (hc0_0 : l0_0.length ≤ c0_0) (hr0_1 : ∀ W_, Kept w W_ (fun k_ => P3_ k_) → Kd.C k59 W_ A0_1 l0_1.length l0_1) (hc0_1 : l0_1.length ≤ c0_1) (hr1 : ∀ W_, Kept w W_ (fun k_ => P3_ k_) → Kd.C k59 W_ A1 l1.length l1) (hc1 : l1.length ≤ c1) (ho3 : Kd.R k35 35 w w0.heap.size P3_ u9000_ l3) (h : impl_Prog_labels.f k l0_0 l0_1 l1 a2_0 a2_1 l3 = some r),
  Calls Try.prog 120 #[.agg #[.slice A0_0 l0_0.length c0_0, .slice A0_1 l0_1.length c0_1], .slice A1 l1.length c1, .agg #[.int .i64 a2_0, .int .i64 a2_1], u9000_] w fun e w' => ∃ v0_ : Value, e = .returned (v0_) ∧ Kd.R k35 35 w' w0.heap.size (fun k_ => (P3_ k_ ∨ w.heap.size ≤ k_)) v0_ r ∧ Below w0.heap.size w0 w' ∧ Kept w w' (fun k_ => P3_ k_) := by
 induction k using Nat.strongRecOn with
 | _ k ih =>
 intro A0_0 c0_0 l0_0 A0_1 c0_1 l0_1 A1 c1 l1 a2_0 a2_1 P3_ u9000_ l3 r w0 w hB hr0_0 hc0_0 hr0_1 hc0_1 hr1 hc1 ho3 h
 cases k with
 | zero => exact absurd h (by simp [impl_Prog_labels.f])
 | succ k =>
 simp only [impl_Prog_labels.f] at h
 have hu26 := Try.underlying26
 have hu35 := Try.underlying35
 have hu59 := Try.underlying59
 have HR0_0 := Aside0.mk hr0_0
 have HC0_0 := Aside0.mk hc0_0
 clear hr0_0 hc0_0
 have HR0_1 := Aside0.mk hr0_1
 have HC0_1 := Aside0.mk hc0_1
 clear hr0_1 hc0_1
 have HR1 := Aside0.mk hr1
 have HC1 := Aside0.mk hc1
 clear hr1 hc1
 have HO3 := Aside0.mk (show Kd.R k35 35 w w0.heap.size (fun k_ => (P3_ k_ ∨ w.heap.size ≤ k_)) u9000_ l3 from Kd.R_mono ho3 (fun k_ hk => (.inl hk)))
 have HK := Aside0.mk (Kept.refl w (fun k_ => P3_ k_))
 have HW0 := Aside0.mk hB.size
 have HB := Aside0.mk hB
 clear hB
 have H : (impl_Prog_labels.l0 k l3 l1 (l1.length : Int) 0 l0_0 l0_1 a2_0 a2_1) = some r := h
 clear h
 have H' := Aside0.mk H
 clear H
 go_enter Try.func120, Try.ntmps120
 go_wp2_with (first | ((with_reducible refine gate_dst (N := 4) rfl ?_); refine ZX (N := 4) (cs := #[.slice A0_0 l0_0.length c0_0, .slice A0_1 l0_1.length c0_1]) (t := 26) ?_; intro gb491 hg w5 hbox hb; have BK491 := Aside0.mk (hbox); have GW491 := Aside0.mk ((by rw [hg]; exact (by first | exact HK.out.1 | exact (show Kept w _ (fun k_ => P3_ k_) from ZH).1) : w.heap.size ≤ gb491)); have GE491 : Aside0 (w0.heap.size ≤ gb491) := ZS hg; replace HO3 := Aside0.mk (Kd.R_below (ZR HO3.out) hb); replace HK := Aside0.mk (Kept.below (S := (fun k_ => P3_ k_)) (ZH) hb); replace HB := ZT hb; clear hb hbox hg) | ((with_reducible refine gate_dst (N := 6) rfl ?_); refine ZX (N := 6) (cs := #[.int .i64 a2_0, .int .i64 a2_1]) (t := 35) ?_; intro gb492 hg w6 hbox hb; have BK492 := Aside0.mk (hbox); have GW492 := Aside0.mk ((by rw [hg]; exact (by first | exact HK.out.1 | exact (show Kept w _ (fun k_ => P3_ k_) from ZH).1) : w.heap.size ≤ gb492)); have GE492 : Aside0 (w0.heap.size ≤ gb492) := ZS hg; have NB491_492 : Aside0 (gb491 ≠ gb492) := ZN hg BK491; have NB492_491 : Aside0 (gb492 ≠ gb491) := ZM hg BK491; replace HO3 := Aside0.mk (Kd.R_below (Kd.R_elderB (ZR HO3.out) gb492 (Nat.le_of_eq hg.symm)) hb); replace BK491 := ZW BK491 hb; replace HK := Aside0.mk (Kept.below (S := (fun k_ => P3_ k_)) (ZH) hb); replace HB := ZT hb; clear hb hbox hg))
 go_loopg [3, 14] k (fun kq v3 v14 w' => ∃ (x3_1 : List (S35)) (x14_1 : Int), v14 = .int .i64 x14_1 ∧ Aside0 (impl_Prog_labels.l0 kq x3_1 l1 (l1.length : Int) x14_1 l0_0 l0_1 a2_0 a2_1 = some r) ∧ Aside0 (kq ≤ k) ∧ Aside0 (Kd.R k35 35 w' w0.heap.size (fun k_ => (P3_ k_ ∨ w.heap.size ≤ k_) ∧ k_ ≠ gb492) v3 x3_1) ∧ Aside0 (w'.heap[gb491]? = some (.cells #[(.slice A0_0 l0_0.length c0_0), (.slice A0_1 l0_1.length c0_1)] 26 (0, 0))) ∧ Aside0 (w'.heap[gb492]? = some (.cells #[.int .i64 a2_0, .int .i64 a2_1] 35 (0, 0))) ∧ Aside0 (Kept w w' (fun k_ => P3_ k_)) ∧ Aside0 (Below w0.heap.size w0 w'))
 case atStart => exact ⟨(l3), (0), (by first | rfl | (simp; done) | (simp [*]; done)), H', ⟨Nat.le_refl _⟩, ⟨ZR HO3.out⟩, ⟨ZK BK491.out⟩, ⟨ZK BK492.out⟩, ⟨ZH⟩, ⟨ZB⟩⟩
 case round =>
  clear H'
  try clear c1
  try clear p2
  obtain ⟨x3_1, x14_1, rfl, HA, HK1, HO_3, BK491, BK492, HK, HB⟩ := hrel
  cases gk with
  | zero => exact absurd HA.out (by simp [impl_Prog_labels.l0])
  | succ k1 =>
   have H := HA.out
   clear HA
   simp only [impl_Prog_labels.l0] at H
   by_cases c7 : x14_1 < (l1.length : Int)
   ·rw [if_pos c7] at H
    have c7b0 : decide (x14_1 < (l1.length : Int)) = true := decide_eq_true c7
    clear c7
    by_cases c8 : 0 ≤ x14_1
    ·rw [if_pos c8] at H
     have c8b0 : decide (0 ≤ x14_1) = true := decide_eq_true c8
     clear c8
     by_cases c9 : x14_1 < (l1.length : Int)
     ·rw [if_pos c9] at H
      have c9b0 : decide (x14_1 < (l1.length : Int)) = true := decide_eq_true c9
      clear c9
      by_cases c10 : x3_1.length < 8796093022208
      ·rw [if_pos c10] at H
       have LMc10 := Aside0.mk c10
       clear c10
       obtain ⟨y495, hy495⟩ : ∃ y_ : List (S35), y_ = (x3_1 ++ [(⟨a2_0, a2_1⟩ : S35)]) := ⟨_, rfl⟩
       replace H : (if 0 ≤ ((rd_T59 l1 x14_1).f1) then (if ((rd_T59 l1 x14_1).f1) < (l0_0.length : Int) then ((impl_Label_both.f a2_0 a2_1 ((rd_T35 l0_0 ((rd_T59 l1 x14_1).f1)).f0) ((rd_T35 l0_0 ((rd_T59 l1 x14_1).f1)).f1)).bind fun bt499 => ((impl_Prog_labels.f k1 l0_0 l0_1 ((rd_T59 l1 x14_1).f4) bt499.1 bt499.2 y495).bind fun t502 => ((impl_Prog_labels.f k1 l0_0 l0_1 ((rd_T59 l1 x14_1).f5) bt499.1 bt499.2 t502).bind fun t505 => (impl_Prog_labels.l0 k1 t505 l1 (l1.length : Int) (wrap64 (x14_1 + 1)) l0_0 l0_1 a2_0 a2_1)))) else (none)) else (none)) = some r := by first | (rw [hy495]; with_reducible exact H) | (have H2_ := (Option.bind_some _ _).symm.trans H; rw [hy495]; with_reducible exact H2_) | (have H2_ := (Option.bind_some _ _).symm.trans H; with_reducible exact H2_) | with_reducible exact H | (rw [hy495]; exact H) | exact H
       have Ny495 := Aside0.mk hy495
       clear hy495
       by_cases c11 : 0 ≤ ((rd_T59 l1 x14_1).f1)
       ·rw [if_pos c11] at H
        have c11b0 : decide (0 ≤ ((rd_T59 l1 x14_1).f1)) = true := decide_eq_true c11
        clear c11
        by_cases c12 : ((rd_T59 l1 x14_1).f1) < (l0_0.length : Int)
        ·rw [if_pos c12] at H
         have c12b0 : decide (((rd_T59 l1 x14_1).f1) < (l0_0.length : Int)) = true := decide_eq_true c12
         clear c12
         replace H := Option.bind_eq_some_iff.mp H
         obtain ⟨⟨t499, t500⟩, A130, H⟩ := H
         replace H : ((impl_Prog_labels.f k1 l0_0 l0_1 ((rd_T59 l1 x14_1).f4) t499 t500 y495).bind fun t502 => ((impl_Prog_labels.f k1 l0_0 l0_1 ((rd_T59 l1 x14_1).f5) t499 t500 t502).bind fun t505 => (impl_Prog_labels.l0 k1 t505 l1 (l1.length : Int) (wrap64 (x14_1 + 1)) l0_0 l0_1 a2_0 a2_1))) = some r := H
         have A13 := Aside0.mk A130
         clear A130
         replace H := Option.bind_eq_some_iff.mp H
         obtain ⟨t502, A140, H⟩ := H
         replace H : ((impl_Prog_labels.f k1 l0_0 l0_1 ((rd_T59 l1 x14_1).f5) t499 t500 t502).bind fun t505 => (impl_Prog_labels.l0 k1 t505 l1 (l1.length : Int) (wrap64 (x14_1 + 1)) l0_0 l0_1 a2_0 a2_1)) = some r := H
         have A14 := Aside0.mk A140
         clear A140
         replace H := Option.bind_eq_some_iff.mp H
         obtain ⟨t505, A150, H⟩ := H
         replace H : (impl_Prog_labels.l0 k1 t505 l1 (l1.length : Int) (wrap64 (x14_1 + 1)) l0_0 l0_1 a2_0 a2_1) = some r := H
         have A15 := Aside0.mk A150
         clear A150
         have H' := Aside0.mk H
         clear H
         have p493 : 0 ≤ (x14_1 : Int) := ZD
         have q493 : x14_1 < (l1.length : Int) := ZD
         obtain ⟨ad493, A493_6, c493_6, A493_7, c493_7, e493, hx493_0, hx493_1, hx493_2, hx493_3, hx493_4, hx493_5, hx493_6, hx493_7, hl493_6, hi493_6, hl493_7, hi493_7⟩ := at_T59 (Kd.C_kept_now HR1.out HK.out) x14_1 p493 q493
         cases e493
         have hy493_0 := Kd.kept_slot HR1.out (by omega) (by decide) (ZH) hx493_0 (add_block _ _) (Kept.refl _ _)
         have hy493_1 := Kd.kept_slot HR1.out (by omega) (by decide) (ZH) hx493_1 (add_block _ _) (Kept.refl _ _)
         have hy493_2 := Kd.kept_slot HR1.out (by omega) (by decide) (ZH) hx493_2 (add_block _ _) (Kept.refl _ _)
         have hy493_3 := Kd.kept_slot HR1.out (by omega) (by decide) (ZH) hx493_3 (add_block _ _) (Kept.refl _ _)
         have hy493_4 := Kd.kept_slot HR1.out (by omega) (by decide) (ZH) hx493_4 (add_block _ _) (Kept.refl _ _)
         have hy493_5 := Kd.kept_slot HR1.out (by omega) (by decide) (ZH) hx493_5 (add_block _ _) (Kept.refl _ _)
         have hy493_6 := Kd.kept_slot HR1.out (by omega) (by decide) (ZH) hx493_6 (add_block _ _) (Kept.refl _ _)
         have hy493_7 := Kd.kept_slot HR1.out (by omega) (by decide) (ZH) hx493_7 (add_block _ _) (Kept.refl _ _)
         have HR493_6 := Aside0.mk hi493_6
         have HC493_6 := Aside0.mk hl493_6
         clear hi493_6 hl493_6
         have HR493_7 := Aside0.mk hi493_7
         have HC493_7 := Aside0.mk hl493_7
         clear hi493_7 hl493_7
         replace p493 := eq_true p493
         replace q493 := eq_true q493
         try go_wp2_with (first | ((with_reducible refine gate_dst (N := 10) rfl ?_); refine ZX (N := 10) (cs := #[.int .i64 0, .int .i64 0, .int .i64 0, .int .i64 0, .int .i64 0, .int .i64 0, .slice none 0 0, .slice none 0 0]) (t := 59) ?_; intro gb494 hg w16 hbox hb; have BK494 := Aside0.mk (hbox); have GW494 := Aside0.mk ((by rw [hg]; exact (by first | exact HK.out.1 | exact (show Kept w _ (fun k_ => P3_ k_) from ZH).1) : w.heap.size ≤ gb494)); have GE494 : Aside0 (w0.heap.size ≤ gb494) := ZS hg; have NB491_494 : Aside0 (gb491 ≠ gb494) := ZN hg BK491; have NB494_491 : Aside0 (gb494 ≠ gb491) := ZM hg BK491; have NB492_494 : Aside0 (gb492 ≠ gb494) := ZN hg BK492; have NB494_492 : Aside0 (gb494 ≠ gb492) := ZM hg BK492; replace HO_3 := Aside0.mk (Kd.R_below (ZR HO_3.out) hb); replace BK491 := ZW BK491 hb; replace BK492 := ZW BK492 hb; replace HR493_6 := Aside0.mk (Kd.C_below (ZQ HR493_6.out) hb); replace HR493_7 := Aside0.mk (Kd.C_below (ZQ HR493_7.out) hb); replace HK := Aside0.mk (Kept.below (S := (fun k_ => P3_ k_)) (ZH) hb); replace HB := ZT hb; clear hb hbox hg; have hnb17 := NB494_491.out; have hnc17 := NB491_494.out; have hnb18 := NB494_492.out; have hnc18 := NB492_494.out; obtain ⟨hcz19_0, hcz19_1, hcz19_2, hcz19_3, hcz19_4, hcz19_5, hcz19_6, hcz19_7⟩ := ZC8 w16 BK494; obtain ⟨hfz19_0, hfz19_1, hfz19_2, hfz19_3, hfz19_4, hfz19_5, hfz19_6, hfz19_7⟩ := ZF8 BK494; have hnb20 := NB492_491.out; have hnc20 := NB491_492.out; obtain ⟨hcz21_0, hcz21_1⟩ := ZC2 w16 BK492; obtain ⟨hfz21_0, hfz21_1⟩ := ZF2 BK492) | ((with_reducible refine gate_builtin (b := .append) (xs := #[.tmp 18, .tmp 20]) rfl ?_); at_builtin; refine Kd.R_append k35 (w0 := w0) w0.heap.size rfl (.tmp 18) (.tmp 20) 23 35 (.agg #[(.int .i64 0), (.int .i64 0)]) 16 rfl Try.underlying23 info35 rfl (by decide) (by omega) u3 x3_1 (⟨a2_0, a2_1⟩ : S35) [.int .i64 a2_0, .int .i64 a2_1] (fun k_ => (P3_ k_ ∨ w.heap.size ≤ k_) ∧ k_ ≠ gb492) (fun _ => False) rfl (by first | (go_simp; done) | (go_simp; rfl)) ?aP (fun _ hk => hk.elim) ?aF ?aO ?aB ?aS ?aL ?_; (case aP => exact k35_mkM _ _ _ (⟨a2_0, a2_1⟩ : S35)); (case aB => exact (ZB)); (case aF => exact (fun k_ hk => ⟨(.inr (Nat.le_trans (show Kept w _ (fun k_ => P3_ k_) from ZH).1 hk)), Kd.freshB (g := gb492) (o := .cells #[.int .i64 a2_0, .int .i64 a2_1] 35 (0, 0)) (ZZ BK492.out) k_ hk⟩)); (case aO => exact (by (with_reducible repeat (first | apply Kd.R_alloc | apply Kd.R_drewN | apply Kd.R_drew)); exact Kd.R_mono (Kd.R_far (p := ⟨gb494, 7, none⟩) (Kd.R_far (p := ⟨gb494, 6, none⟩) (Kd.R_far (p := ⟨gb494, 5, none⟩) (Kd.R_far (p := ⟨gb494, 4, none⟩) (Kd.R_far (p := ⟨gb494, 3, none⟩) (Kd.R_far (p := ⟨gb494, 2, none⟩) (Kd.R_far (p := ⟨gb494, 1, none⟩) (Kd.R_far (p := ⟨gb494, 0, none⟩) (Kd.R_types HO_3.out BK494.out (by decide)) (fun _ hk => hk.2) (.int .i64 ((rd_T59 l1 x14_1).f0))) (fun _ hk => hk.2) (.int .i64 ((rd_T59 l1 x14_1).f1))) (fun _ hk => hk.2) (.int .i64 ((rd_T59 l1 x14_1).f2.f0))) (fun _ hk => hk.2) (.int .i64 ((rd_T59 l1 x14_1).f2.f1))) (fun _ hk => hk.2) (.int .i64 ((rd_T59 l1 x14_1).f2.f2))) (fun _ hk => hk.2) (.int .i64 ((rd_T59 l1 x14_1).f3))) (fun _ hk => hk.2) (.slice A493_6 ((rd_T59 l1 x14_1).f4).length c493_6)) (fun _ hk => hk.2) (.slice A493_7 ((rd_T59 l1 x14_1).f5).length c493_7)) (fun _ hk => ⟨hk.1.1, hk.1.2⟩))); (case aS => exact (below_size (ZB))); (case aL => have := LMc10.out; omega); intro v496 w22 ho hb hg hat; rw [← Ny495.out] at ho; have n0_ := Aside0.mk (blk_grown (g := gb491) (o := .cells #[.slice A0_0 l0_0.length c0_0, .slice A0_1 l0_1.length c0_1] 26 (0, 0)) (ZZ BK491.out) hg (Kd.R_ne HO_3.out BK491.out (by decide))); have n1_ := Aside0.mk (blk_grown (g := gb492) (o := .cells #[.int .i64 a2_0, .int .i64 a2_1] 35 (0, 0)) (ZZ BK492.out) hg (Kd.R_away HO_3.out (fun _ hk => hk.2))); have n2_ := Aside0.mk (blk_grown (g := gb494) (o := .cells #[.int .i64 ((rd_T59 l1 x14_1).f0), .int .i64 ((rd_T59 l1 x14_1).f1), .int .i64 ((rd_T59 l1 x14_1).f2.f0), .int .i64 ((rd_T59 l1 x14_1).f2.f1), .int .i64 ((rd_T59 l1 x14_1).f2.f2), .int .i64 ((rd_T59 l1 x14_1).f3), .slice A493_6 ((rd_T59 l1 x14_1).f4).length c493_6, .slice A493_7 ((rd_T59 l1 x14_1).f5).length c493_7] 59 (0, 0)) (ZZ BK494.out) hg (Kd.R_ne HO_3.out BK494.out (by decide))); have n3_ := Aside0.mk (hb); have n4_ := Aside0.mk (Kept.of_grown (S := (fun k_ => P3_ k_)) hg (ZH) (fun k_ e_ => (HO_3.out.1 k_ e_).1)); have n5_ := Aside0.mk (ho); clear BK491; clear BK492; clear BK494; clear HB; clear HK; clear HO_3; have BK491 := n0_; have BK492 := n1_; have BK494 := n2_; have HB := n3_; have HK := n4_; have HO497 := n5_; clear n0_ n1_ n2_ n3_ n4_ n5_; clear ho hb hg hat))
         have n0_ := Aside0.mk (Kd.R_drew HO497.out)
         have n1_ := Aside0.mk (blk_drew BK491.out)
         have n2_ := Aside0.mk (blk_drew BK492.out)
         have n3_ := Aside0.mk (blk_drew BK494.out)
         have n4_ := Aside0.mk (Kept.drew HK.out)
         have n5_ := Aside0.mk (below_drew1 HB.out)
         clear HO497
         clear BK491
         clear BK492
         clear BK494
         clear HK
         clear HB
         have HO497 := n0_
         have BK491 := n1_
         have BK492 := n2_
         have BK494 := n3_
         have HK := n4_
         have HB := n5_
         clear n0_ n1_ n2_ n3_ n4_ n5_
         have p498 : 0 ≤ (((rd_T59 l1 x14_1).f1) : Int) := ZD
         have q498 : ((rd_T59 l1 x14_1).f1) < (l0_0.length : Int) := ZD
         obtain ⟨ad498, e498, hx498_0, hx498_1⟩ := at_T35 (Kd.C_kept_now HR0_0.out HK.out) ((rd_T59 l1 x14_1).f1) p498 q498
         have hw498_1 := hx498_1
         have hw498_0 := hx498_0
         cases e498
         have hy498_0 := Kd.kept_slot HR0_0.out (by omega) (by decide) (ZH) hx498_0 (add_block _ _) (Kept.refl _ _)
         have hy498_1 := Kd.kept_slot HR0_0.out (by omega) (by decide) (ZH) hx498_1 (add_block _ _) (Kept.refl _ _)
         replace p498 := eq_true p498
         replace q498 := eq_true q498
         refine start_ (n := 10) (S := fun w' => w'.cell? ⟨gb492, 0, none⟩ = some (.int .i64 a2_0) ∧ w'.cell? ⟨gb492, 1, none⟩ = some (.int .i64 a2_1) ∧ w'.cell? ⟨gb491, 0, none⟩ = some (.slice (some ad498) l0_0.length c0_0) ∧ w'.cell? ⟨gb491, 1, none⟩ = some (.slice A0_1 l0_1.length c0_1) ∧ w'.cell? ⟨gb494, 0, none⟩ = some (.int .i64 ((rd_T59 l1 x14_1).f0)) ∧ w'.cell? ⟨gb494, 1, none⟩ = some (.int .i64 ((rd_T59 l1 x14_1).f1)) ∧ w'.cell? ⟨gb494, 2, none⟩ = some (.int .i64 ((rd_T59 l1 x14_1).f2.f0)) ∧ w'.cell? ⟨gb494, 3, none⟩ = some (.int .i64 ((rd_T59 l1 x14_1).f2.f1)) ∧ w'.cell? ⟨gb494, 4, none⟩ = some (.int .i64 ((rd_T59 l1 x14_1).f2.f2)) ∧ w'.cell? ⟨gb494, 5, none⟩ = some (.int .i64 ((rd_T59 l1 x14_1).f3)) ∧ w'.cell? ⟨gb494, 6, none⟩ = some (.slice A493_6 ((rd_T59 l1 x14_1).f4).length c493_6) ∧ w'.cell? ⟨gb494, 7, none⟩ = some (.slice A493_7 ((rd_T59 l1 x14_1).f5).length c493_7) ∧ w'.cell? (ad498.add ((((rd_T59 l1 x14_1).f1)).toNat * 2)) = some (.int .i64 ((rd_T35 l0_0 ((rd_T59 l1 x14_1).f1)).f0)) ∧ w'.cell? ⟨(ad498.add ((((rd_T59 l1 x14_1).f1)).toNat * 2)).block, (ad498.add ((((rd_T59 l1 x14_1).f1)).toNat * 2)).off + 1, none⟩ = some (.int .i64 ((rd_T35 l0_0 ((rd_T59 l1 x14_1).f1)).f1))) (ds := []) #[false, false, false, false, false, false, false, false, false, false] (by kernel_rfl) rfl rfl ⟨(blk_cell BK492.out 0).trans rfl, (blk_cell BK492.out 1).trans rfl, (blk_cell BK491.out 0).trans rfl, (blk_cell BK491.out 1).trans rfl, (blk_cell BK494.out 0).trans rfl, (blk_cell BK494.out 1).trans rfl, (blk_cell BK494.out 2).trans rfl, (blk_cell BK494.out 3).trans rfl, (blk_cell BK494.out 4).trans rfl, (blk_cell BK494.out 5).trans rfl, (blk_cell BK494.out 6).trans rfl, (blk_cell BK494.out 7).trans rfl, (Kd.kept_slot HR0_0.out (by have := of_eq_true p498; have := of_eq_true q498; omega) (by decide) (Kept.refl _ _) hy498_0 (add_block _ _) (ZH)), (Kd.kept_slot HR0_0.out (by have := of_eq_true p498; have := of_eq_true q498; omega) (by decide) (Kept.refl _ _) hy498_1 (add_block _ _) (ZH))⟩ (fun hHeld => ?_); refine with_tabW impl_Prog_labels.tab5 impl_Prog_labels.bits5 (fun HT_ HW_ => ?_)
         generalize w22.drew = w23 at HO497 BK491 BK492 BK494 HK HB hx498_0 hx498_1 hHeld ⊢
         refine pure_ (i := 1) (N := some 23) (v := ?_) (a' := ?_) #[false, true, false, false, false, false, false, false, false, false] rfl rfl (any_of HT_.out (by kernel_rfl)) (fun _ _ _ h => h) (Or.inl ⟨by rfl, ?_⟩) ?_ ?_
         rotate_left
         ·intro w'
          go_simp
          with_reducible rfl
         rotate_left
         ·simp only [Act.put, List.setIfInBounds_toArray, List.set_cons_zero, List.set_cons_succ, i64_w, i32_w]
          rfl
         refine pure_ (i := 3) (N := some 25) (v := ?_) (a' := ?_) #[false, true, false, true, false, false, false, false, false, false] rfl rfl (any_of HT_.out (by kernel_rfl)) (fun _ _ _ h => h) (Or.inl ⟨by rfl, ?_⟩) ?_ ?_
         rotate_left
         ·intro w'
          go_simp
          with_reducible rfl
         rotate_left
         ·simp only [Act.put, List.setIfInBounds_toArray, List.set_cons_zero, List.set_cons_succ, i64_w, i32_w]
          rfl
         refine take_ (i := 0) (N := some 22) (v := ?_) (a' := ?_) #[true, true, false, true, false, false, false, false, false, false] rfl rfl (take_ofW HT_.out HW_.out (by kernel_rfl)) (fun _ _ _ h => h) (Or.inl ⟨by rfl, ?_⟩) hHeld ?_ ?_
         rotate_left
         ·rintro w' ⟨s0, s1, s2, s3, s4, s5, s6, s7, s8, s9, s10, s11, s12, s13⟩
          go_simp
          with_reducible rfl
         rotate_left
         ·simp only [Act.put, List.setIfInBounds_toArray, List.set_cons_zero, List.set_cons_succ, i64_w, i32_w]
          rfl
         refine take_ (i := 2) (N := some 24) (v := ?_) (a' := ?_) #[true, true, true, true, false, false, false, false, false, false] rfl rfl (take_ofW HT_.out HW_.out (by kernel_rfl)) (fun _ _ _ h => h) (Or.inl ⟨by rfl, ?_⟩) hHeld ?_ ?_
         rotate_left
         ·rintro w' ⟨s0, s1, s2, s3, s4, s5, s6, s7, s8, s9, s10, s11, s12, s13⟩
          go_simp
          with_reducible rfl
         rotate_left
         ·simp only [Act.put, List.setIfInBounds_toArray, List.set_cons_zero, List.set_cons_succ, i64_w, i32_w]
          rfl
         refine take_ (i := 4) (N := some 26) (v := ?_) (a' := ?_) #[true, true, true, true, true, false, false, false, false, false] rfl rfl (take_ofW HT_.out HW_.out (by kernel_rfl)) (fun _ _ _ h => h) (Or.inl ⟨by rfl, ?_⟩) hHeld ?_ ?_
         rotate_left
         ·rintro w' ⟨s0, s1, s2, s3, s4, s5, s6, s7, s8, s9, s10, s11, s12, s13⟩
          go_simp
          with_reducible rfl
         rotate_left
         ·simp only [Act.put, List.setIfInBounds_toArray, List.set_cons_zero, List.set_cons_succ, i64_w, i32_w]
          rfl
         refine pure_ (i := 5) (N := some 27) (v := ?_) (a' := ?_) #[true, true, true, true, true, true, false, false, false, false] rfl rfl (any_of HT_.out (by kernel_rfl)) (fun _ _ _ h => h) (Or.inl ⟨by rfl, ?_⟩) ?_ ?_
         rotate_left
         ·intro w'
          go_simp
          with_reducible rfl
         rotate_left
         ·simp only [Act.put, List.setIfInBounds_toArray, List.set_cons_zero, List.set_cons_succ, i64_w, i32_w]
          rfl
         refine take_ (i := 6) (N := some 28) (v := ?_) (a' := ?_) #[true, true, true, true, true, true, true, false, false, false] rfl rfl (take_ofW HT_.out HW_.out (by kernel_rfl)) (fun _ _ _ h => h) (Or.inl ⟨by rfl, ?_⟩) hHeld ?_ ?_
         rotate_left
         ·rintro w' ⟨s0, s1, s2, s3, s4, s5, s6, s7, s8, s9, s10, s11, s12, s13⟩
          go_simp
          with_reducible rfl
         rotate_left
         ·simp only [Act.put, List.setIfInBounds_toArray, List.set_cons_zero, List.set_cons_succ, i64_w, i32_w]
          rfl
         refine join_ (σ := Nat) 1 #[true, true, true, true, true, true, true, true, true, false] (fun s_ => [(29, .agg #[.int .i64 t499, .int .i64 t500]), (11, .pointer (some ⟨s_, 0, none⟩))]) (fun s_ w' => (w'.cell? ⟨gb492, 0, none⟩ = some (.int .i64 a2_0) ∧ w'.cell? ⟨gb492, 1, none⟩ = some (.int .i64 a2_1) ∧ w'.cell? ⟨gb491, 0, none⟩ = some (.slice (some ad498) l0_0.length c0_0) ∧ w'.cell? ⟨gb491, 1, none⟩ = some (.slice A0_1 l0_1.length c0_1) ∧ w'.cell? ⟨gb494, 0, none⟩ = some (.int .i64 ((rd_T59 l1 x14_1).f0)) ∧ w'.cell? ⟨gb494, 1, none⟩ = some (.int .i64 ((rd_T59 l1 x14_1).f1)) ∧ w'.cell? ⟨gb494, 2, none⟩ = some (.int .i64 ((rd_T59 l1 x14_1).f2.f0)) ∧ w'.cell? ⟨gb494, 3, none⟩ = some (.int .i64 ((rd_T59 l1 x14_1).f2.f1)) ∧ w'.cell? ⟨gb494, 4, none⟩ = some (.int .i64 ((rd_T59 l1 x14_1).f2.f2)) ∧ w'.cell? ⟨gb494, 5, none⟩ = some (.int .i64 ((rd_T59 l1 x14_1).f3)) ∧ w'.cell? ⟨gb494, 6, none⟩ = some (.slice A493_6 ((rd_T59 l1 x14_1).f4).length c493_6) ∧ w'.cell? ⟨gb494, 7, none⟩ = some (.slice A493_7 ((rd_T59 l1 x14_1).f5).length c493_7) ∧ w'.cell? (ad498.add ((((rd_T59 l1 x14_1).f1)).toNat * 2)) = some (.int .i64 ((rd_T35 l0_0 ((rd_T59 l1 x14_1).f1)).f0)) ∧ w'.cell? ⟨(ad498.add ((((rd_T59 l1 x14_1).f1)).toNat * 2)).block, (ad498.add ((((rd_T59 l1 x14_1).f1)).toNat * 2)).off + 1, none⟩ = some (.int .i64 ((rd_T35 l0_0 ((rd_T59 l1 x14_1).f1)).f1))) ∧ (Kd.R k35 35 w' w0.heap.size (fun k_ => (P3_ k_ ∨ w.heap.size ≤ k_) ∧ k_ ≠ gb492 ∧ k_ ≠ s_) v496 y495) ∧ (w'.heap[gb491]? = some (.cells #[.slice (some ad498) l0_0.length c0_0, .slice A0_1 l0_1.length c0_1] 26 (0, 0))) ∧ (w'.heap[gb492]? = some (.cells #[.int .i64 a2_0, .int .i64 a2_1] 35 (0, 0))) ∧ (w'.heap[gb494]? = some (.cells #[.int .i64 ((rd_T59 l1 x14_1).f0), .int .i64 ((rd_T59 l1 x14_1).f1), .int .i64 ((rd_T59 l1 x14_1).f2.f0), .int .i64 ((rd_T59 l1 x14_1).f2.f1), .int .i64 ((rd_T59 l1 x14_1).f2.f2), .int .i64 ((rd_T59 l1 x14_1).f3), .slice A493_6 ((rd_T59 l1 x14_1).f4).length c493_6, .slice A493_7 ((rd_T59 l1 x14_1).f5).length c493_7] 59 (0, 0))) ∧ (w'.heap[s_]? = some (.cells #[.int .i64 0, .int .i64 0] 35 (0, 0))) ∧ (w.heap.size ≤ s_) ∧ (w0.heap.size ≤ s_) ∧ (gb491 ≠ s_) ∧ (s_ ≠ gb491) ∧ (gb492 ≠ s_) ∧ (s_ ≠ gb492) ∧ (gb494 ≠ s_) ∧ (s_ ≠ gb494) ∧ (Kept w w' (fun k_ => P3_ k_)) ∧ (Below w0.heap.size w0 w')) ?_ ?_
         rotate_left
         ·intro hCont
          refine two_ (i := 7) (j := 8) (Ni := some 29) (Nj := some 11) #[true, true, true, true, true, true, true, true, false, false] #[true, true, true, true, true, true, true, false, true, false] rfl rfl rfl rfl (two_of HT_.out (by kernel_rfl)) (by decide) (by decide) (fun K hK => ?_) (fun K hK => ?_)
          ·skip
           refine goes_ Try.func143 (by kernel_rfl) rfl #[.agg #[.int .i64 a2_0, .int .i64 a2_1], .agg #[.int .i64 ((rd_T35 l0_0 ((rd_T59 l1 x14_1).f1)).f0), .int .i64 ((rd_T35 l0_0 ((rd_T59 l1 x14_1).f1)).f1)]] (by rfl) rfl rfl ZG ?_
           with_reducible refine (impl_Label_both.calls a2_0 a2_1 ((rd_T35 l0_0 ((rd_T59 l1 x14_1).f1)).f0) ((rd_T35 l0_0 ((rd_T59 l1 x14_1).f1)).f1) t499 t500 _ A13.out).mono ?_
           rintro e w24 ⟨rfl, hb⟩
           refine ⟨_, rfl, ?_⟩
           have n0_ := Aside0.mk (Kd.R_below (ZR HO497.out) hb)
           have n1_ := ZW BK491 hb
           have n2_ := ZW BK492 hb
           have n3_ := ZW BK494 hb
           have n4_ := Aside0.mk (Kept.below (S := (fun k_ => P3_ k_)) (ZH) hb)
           have n5_ := ZT hb
           clear HO497
           clear BK491
           clear BK492
           clear BK494
           clear HK
           clear HB
           have HO497 := n0_
           have BK491 := n1_
           have BK492 := n2_
           have BK494 := n3_
           have HK := n4_
           have HB := n5_
           clear n0_ n1_ n2_ n3_ n4_ n5_
           (try clear hb)
           (try clear hb2)
           (try clear hk)
           (try clear hi)
           refine hK.out _ _ ⟨(blk_cell BK492.out 0).trans rfl, (blk_cell BK492.out 1).trans rfl, (blk_cell BK491.out 0).trans rfl, (blk_cell BK491.out 1).trans rfl, (blk_cell BK494.out 0).trans rfl, (blk_cell BK494.out 1).trans rfl, (blk_cell BK494.out 2).trans rfl, (blk_cell BK494.out 3).trans rfl, (blk_cell BK494.out 4).trans rfl, (blk_cell BK494.out 5).trans rfl, (blk_cell BK494.out 6).trans rfl, (blk_cell BK494.out 7).trans rfl, (Kd.kept_slot HR0_0.out (by have := of_eq_true p498; have := of_eq_true q498; omega) (by decide) (Kept.refl _ _) hy498_0 (add_block _ _) (ZH)), (Kd.kept_slot HR0_0.out (by have := of_eq_true p498; have := of_eq_true q498; omega) (by decide) (Kept.refl _ _) hy498_1 (add_block _ _) (ZH))⟩ (fun hHeld => ?_)
           clear hK K
           refine ZNO 29 ?_
           refine one_ (i := 8) (N := some 11) #[true, true, true, true, true, true, true, true, true, false] rfl rfl (one_of HT_.out (by kernel_rfl)) (by decide) (fun K hK => ?_)
           refine box_step ?hg (N := 11) ?hd (cs := #[.int .i64 0, .int .i64 0]) (t := 35) ?hr ?_; (case hd => rfl); (case hg => rfl); (case hr => first | (go_simp; done) | (go_simp; rfl))
           intro gb501 hg w25 hbox hb
           have n0_ := Aside0.mk (Kd.R_below (Kd.R_elderB (ZR HO497.out) gb501 (Nat.le_of_eq hg.symm)) hb)
           have n1_ := ZW BK491 hb
           have n2_ := ZW BK492 hb
           have n3_ := ZW BK494 hb
           have n4_ := Aside0.mk (Kept.below (S := (fun k_ => P3_ k_)) (ZH) hb)
           have n5_ := ZT hb
           have n6_ := Aside0.mk (hbox)
           have n7_ := Aside0.mk ((by rw [hg]; exact (by first | exact HK.out.1 | exact (show Kept w _ (fun k_ => P3_ k_) from ZH).1) : w.heap.size ≤ gb501))
           have n8_ : Aside0 (w0.heap.size ≤ gb501) := ZS hg
           have n9_ : Aside0 (gb491 ≠ gb501) := ZN hg BK491
           have n10_ : Aside0 (gb501 ≠ gb491) := ZM hg BK491
           have n11_ : Aside0 (gb492 ≠ gb501) := ZN hg BK492
           have n12_ : Aside0 (gb501 ≠ gb492) := ZM hg BK492
           have n13_ : Aside0 (gb494 ≠ gb501) := ZN hg BK494
           have n14_ : Aside0 (gb501 ≠ gb494) := ZM hg BK494
           clear HO497
           clear BK491
           clear BK492
           clear BK494
           clear HK
           clear HB
           have HO497 := n0_
           have BK491 := n1_
           have BK492 := n2_
           have BK494 := n3_
           have HK := n4_
           have HB := n5_
           have BK501 := n6_
           have GW501 := n7_
           have GE501 := n8_
           have NB491_501 := n9_
           have NB501_491 := n10_
           have NB492_501 := n11_
           have NB501_492 := n12_
           have NB494_501 := n13_
           have NB501_494 := n14_
           clear n0_ n1_ n2_ n3_ n4_ n5_ n6_ n7_ n8_ n9_ n10_ n11_ n12_ n13_ n14_
           clear hb hbox hg
           refine hK.out _ _ ⟨(blk_cell BK492.out 0).trans rfl, (blk_cell BK492.out 1).trans rfl, (blk_cell BK491.out 0).trans rfl, (blk_cell BK491.out 1).trans rfl, (blk_cell BK494.out 0).trans rfl, (blk_cell BK494.out 1).trans rfl, (blk_cell BK494.out 2).trans rfl, (blk_cell BK494.out 3).trans rfl, (blk_cell BK494.out 4).trans rfl, (blk_cell BK494.out 5).trans rfl, (blk_cell BK494.out 6).trans rfl, (blk_cell BK494.out 7).trans rfl, (Kd.kept_slot HR0_0.out (by have := of_eq_true p498; have := of_eq_true q498; omega) (by decide) (Kept.refl _ _) hy498_0 (add_block _ _) (ZH)), (Kd.kept_slot HR0_0.out (by have := of_eq_true p498; have := of_eq_true q498; omega) (by decide) (Kept.refl _ _) hy498_1 (add_block _ _) (ZH))⟩ (fun hHeld => ?_)
           clear hK K
           refine ZNO 11 ?_
           exact norm_ (by simp only [putAll, Act.put, List.setIfInBounds_toArray, List.set_cons_zero, List.set_cons_succ]) (hCont (gb501) _ ⟨hHeld, (by (with_reducible repeat (first | apply Kd.R_alloc | apply Kd.R_drewN | apply Kd.R_drew)); exact Kd.R_mono HO497.out (fun _ hk => ⟨hk.1.1, ⟨hk.1.2, hk.2⟩⟩)), (ZK BK491.out), (ZK BK492.out), (ZK BK494.out), (ZK BK501.out), GW501.out, GE501.out, NB491_501.out, NB501_491.out, NB492_501.out, NB501_492.out, NB494_501.out, NB501_494.out, (ZH), (ZB)⟩)
          ·skip
           refine box_step ?hg (N := 11) ?hd (cs := #[.int .i64 0, .int .i64 0]) (t := 35) ?hr ?_; (case hd => rfl); (case hg => rfl); (case hr => first | (go_simp; done) | (go_simp; rfl))
           intro gb501 hg w24 hbox hb
           have n0_ := Aside0.mk (Kd.R_below (Kd.R_elderB (ZR HO497.out) gb501 (Nat.le_of_eq hg.symm)) hb)
           have n1_ := ZW BK491 hb
           have n2_ := ZW BK492 hb
           have n3_ := ZW BK494 hb
           have n4_ := Aside0.mk (Kept.below (S := (fun k_ => P3_ k_)) (ZH) hb)
           have n5_ := ZT hb
           have n6_ := Aside0.mk (hbox)
           have n7_ := Aside0.mk ((by rw [hg]; exact (by first | exact HK.out.1 | exact (show Kept w _ (fun k_ => P3_ k_) from ZH).1) : w.heap.size ≤ gb501))
           have n8_ : Aside0 (w0.heap.size ≤ gb501) := ZS hg
           have n9_ : Aside0 (gb491 ≠ gb501) := ZN hg BK491
           have n10_ : Aside0 (gb501 ≠ gb491) := ZM hg BK491
           have n11_ : Aside0 (gb492 ≠ gb501) := ZN hg BK492
           have n12_ : Aside0 (gb501 ≠ gb492) := ZM hg BK492
           have n13_ : Aside0 (gb494 ≠ gb501) := ZN hg BK494
           have n14_ : Aside0 (gb501 ≠ gb494) := ZM hg BK494
           clear HO497
           clear BK491
           clear BK492
           clear BK494
           clear HK
           clear HB
           have HO497 := n0_
           have BK491 := n1_
           have BK492 := n2_
           have BK494 := n3_
           have HK := n4_
           have HB := n5_
           have BK501 := n6_
           have GW501 := n7_
           have GE501 := n8_
           have NB491_501 := n9_
           have NB501_491 := n10_
           have NB492_501 := n11_
           have NB501_492 := n12_
           have NB494_501 := n13_
           have NB501_494 := n14_
           clear n0_ n1_ n2_ n3_ n4_ n5_ n6_ n7_ n8_ n9_ n10_ n11_ n12_ n13_ n14_
           clear hb hbox hg
           refine hK.out _ _ ⟨(blk_cell BK492.out 0).trans rfl, (blk_cell BK492.out 1).trans rfl, (blk_cell BK491.out 0).trans rfl, (blk_cell BK491.out 1).trans rfl, (blk_cell BK494.out 0).trans rfl, (blk_cell BK494.out 1).trans rfl, (blk_cell BK494.out 2).trans rfl, (blk_cell BK494.out 3).trans rfl, (blk_cell BK494.out 4).trans rfl, (blk_cell BK494.out 5).trans rfl, (blk_cell BK494.out 6).trans rfl, (blk_cell BK494.out 7).trans rfl, (Kd.kept_slot HR0_0.out (by have := of_eq_true p498; have := of_eq_true q498; omega) (by decide) (Kept.refl _ _) hy498_0 (add_block _ _) (ZH)), (Kd.kept_slot HR0_0.out (by have := of_eq_true p498; have := of_eq_true q498; omega) (by decide) (Kept.refl _ _) hy498_1 (add_block _ _) (ZH))⟩ (fun hHeld => ?_)
           clear hK K
           refine ZNO 11 ?_
           refine one_ (i := 7) (N := some 29) #[true, true, true, true, true, true, true, true, true, false] rfl rfl (one_of HT_.out (by kernel_rfl)) (by decide) (fun K hK => ?_)
           refine goes_ Try.func143 (by kernel_rfl) rfl #[.agg #[.int .i64 a2_0, .int .i64 a2_1], .agg #[.int .i64 ((rd_T35 l0_0 ((rd_T59 l1 x14_1).f1)).f0), .int .i64 ((rd_T35 l0_0 ((rd_T59 l1 x14_1).f1)).f1)]] (by rfl) rfl rfl ZG ?_
           with_reducible refine (impl_Label_both.calls a2_0 a2_1 ((rd_T35 l0_0 ((rd_T59 l1 x14_1).f1)).f0) ((rd_T35 l0_0 ((rd_T59 l1 x14_1).f1)).f1) t499 t500 _ A13.out).mono ?_
           rintro e w25 ⟨rfl, hb⟩
           refine ⟨_, rfl, ?_⟩
           have n0_ := Aside0.mk (Kd.R_below (ZR HO497.out) hb)
           have n1_ := ZW BK491 hb
           have n2_ := ZW BK492 hb
           have n3_ := ZW BK494 hb
           have n4_ := ZW BK501 hb
           have n5_ := Aside0.mk (Kept.below (S := (fun k_ => P3_ k_)) (ZH) hb)
           have n6_ := ZT hb
           clear HO497
           clear BK491
           clear BK492
           clear BK494
           clear BK501
           clear HK
           clear HB
           have HO497 := n0_
           have BK491 := n1_
           have BK492 := n2_
           have BK494 := n3_
           have BK501 := n4_
           have HK := n5_
           have HB := n6_
           clear n0_ n1_ n2_ n3_ n4_ n5_ n6_
           (try clear hb)
           (try clear hb2)
           (try clear hk)
           (try clear hi)
           refine hK.out _ _ ⟨(blk_cell BK492.out 0).trans rfl, (blk_cell BK492.out 1).trans rfl, (blk_cell BK491.out 0).trans rfl, (blk_cell BK491.out 1).trans rfl, (blk_cell BK494.out 0).trans rfl, (blk_cell BK494.out 1).trans rfl, (blk_cell BK494.out 2).trans rfl, (blk_cell BK494.out 3).trans rfl, (blk_cell BK494.out 4).trans rfl, (blk_cell BK494.out 5).trans rfl, (blk_cell BK494.out 6).trans rfl, (blk_cell BK494.out 7).trans rfl, (Kd.kept_slot HR0_0.out (by have := of_eq_true p498; have := of_eq_true q498; omega) (by decide) (Kept.refl _ _) hy498_0 (add_block _ _) (ZH)), (Kd.kept_slot HR0_0.out (by have := of_eq_true p498; have := of_eq_true q498; omega) (by decide) (Kept.refl _ _) hy498_1 (add_block _ _) (ZH))⟩ (fun hHeld => ?_)
           clear hK K
           refine ZNO 29 ?_
           exact norm_ (by simp only [putAll, Act.put, List.setIfInBounds_toArray, List.set_cons_zero, List.set_cons_succ]) (hCont (gb501) _ ⟨hHeld, (by (with_reducible repeat (first | apply Kd.R_alloc | apply Kd.R_drewN | apply Kd.R_drew)); exact Kd.R_mono HO497.out (fun _ hk => ⟨hk.1.1, ⟨hk.1.2, hk.2⟩⟩)), (ZK BK491.out), (ZK BK492.out), (ZK BK494.out), (ZK BK501.out), GW501.out, GE501.out, NB491_501.out, NB501_491.out, NB492_501.out, NB501_492.out, NB494_501.out, NB501_494.out, (ZH), (ZB)⟩)
         rintro gb501 w26 ⟨hS_, h0_, h1_, h2_, h3_, h4_, h5_, h6_, h7_, h8_, h9_, h10_, h11_, h12_, h13_, h14_⟩
         have n0_ : Aside0 (Kd.R k35 35 w26 w0.heap.size (fun k_ => (P3_ k_ ∨ w.heap.size ≤ k_) ∧ k_ ≠ gb492 ∧ k_ ≠ gb501) v496 y495) := ⟨h0_⟩
         have n1_ : Aside0 (w26.heap[gb491]? = some (.cells #[.slice (some ad498) l0_0.length c0_0, .slice A0_1 l0_1.length c0_1] 26 (0, 0))) := ⟨h1_⟩
         have n2_ : Aside0 (w26.heap[gb492]? = some (.cells #[.int .i64 a2_0, .int .i64 a2_1] 35 (0, 0))) := ⟨h2_⟩
         have n3_ : Aside0 (w26.heap[gb494]? = some (.cells #[.int .i64 ((rd_T59 l1 x14_1).f0), .int .i64 ((rd_T59 l1 x14_1).f1), .int .i64 ((rd_T59 l1 x14_1).f2.f0), .int .i64 ((rd_T59 l1 x14_1).f2.f1), .int .i64 ((rd_T59 l1 x14_1).f2.f2), .int .i64 ((rd_T59 l1 x14_1).f3), .slice A493_6 ((rd_T59 l1 x14_1).f4).length c493_6, .slice A493_7 ((rd_T59 l1 x14_1).f5).length c493_7] 59 (0, 0))) := ⟨h3_⟩
         have n4_ : Aside0 (w26.heap[gb501]? = some (.cells #[.int .i64 0, .int .i64 0] 35 (0, 0))) := ⟨h4_⟩
         have n5_ : Aside0 (w.heap.size ≤ gb501) := ⟨h5_⟩
         have n6_ : Aside0 (w0.heap.size ≤ gb501) := ⟨h6_⟩
         have n7_ : Aside0 (gb491 ≠ gb501) := ⟨h7_⟩
         have n8_ : Aside0 (gb501 ≠ gb491) := ⟨h8_⟩
         have n9_ : Aside0 (gb492 ≠ gb501) := ⟨h9_⟩
         have n10_ : Aside0 (gb501 ≠ gb492) := ⟨h10_⟩
         have n11_ : Aside0 (gb494 ≠ gb501) := ⟨h11_⟩
         have n12_ : Aside0 (gb501 ≠ gb494) := ⟨h12_⟩
         have n13_ : Aside0 (Kept w w26 (fun k_ => P3_ k_)) := ⟨h13_⟩
         have n14_ : Aside0 (Below w0.heap.size w0 w26) := ⟨h14_⟩
         clear HO497
         clear BK491
         clear BK492
         clear BK494
         clear HK
         clear HB
         clear h0_ h1_ h2_ h3_ h4_ h5_ h6_ h7_ h8_ h9_ h10_ h11_ h12_ h13_ h14_
         have HO497 := n0_
         have BK491 := n1_
         have BK492 := n2_
         have BK494 := n3_
         have BK501 := n4_
         have GW501 := n5_
         have GE501 := n6_
         have NB491_501 := n7_
         have NB501_491 := n8_
         have NB492_501 := n9_
         have NB501_492 := n10_
         have NB494_501 := n11_
         have NB501_494 := n12_
         have HK := n13_
         have HB := n14_
         clear n0_ n1_ n2_ n3_ n4_ n5_ n6_ n7_ n8_ n9_ n10_ n11_ n12_ n13_ n14_
         have hHeld : w26.cell? ⟨gb492, 0, none⟩ = some (.int .i64 a2_0) ∧ w26.cell? ⟨gb492, 1, none⟩ = some (.int .i64 a2_1) ∧ w26.cell? ⟨gb491, 0, none⟩ = some (.slice (some ad498) l0_0.length c0_0) ∧ w26.cell? ⟨gb491, 1, none⟩ = some (.slice A0_1 l0_1.length c0_1) ∧ w26.cell? ⟨gb494, 0, none⟩ = some (.int .i64 ((rd_T59 l1 x14_1).f0)) ∧ w26.cell? ⟨gb494, 1, none⟩ = some (.int .i64 ((rd_T59 l1 x14_1).f1)) ∧ w26.cell? ⟨gb494, 2, none⟩ = some (.int .i64 ((rd_T59 l1 x14_1).f2.f0)) ∧ w26.cell? ⟨gb494, 3, none⟩ = some (.int .i64 ((rd_T59 l1 x14_1).f2.f1)) ∧ w26.cell? ⟨gb494, 4, none⟩ = some (.int .i64 ((rd_T59 l1 x14_1).f2.f2)) ∧ w26.cell? ⟨gb494, 5, none⟩ = some (.int .i64 ((rd_T59 l1 x14_1).f3)) ∧ w26.cell? ⟨gb494, 6, none⟩ = some (.slice A493_6 ((rd_T59 l1 x14_1).f4).length c493_6) ∧ w26.cell? ⟨gb494, 7, none⟩ = some (.slice A493_7 ((rd_T59 l1 x14_1).f5).length c493_7) ∧ w26.cell? (ad498.add ((((rd_T59 l1 x14_1).f1)).toNat * 2)) = some (.int .i64 ((rd_T35 l0_0 ((rd_T59 l1 x14_1).f1)).f0)) ∧ w26.cell? ⟨(ad498.add ((((rd_T59 l1 x14_1).f1)).toNat * 2)).block, (ad498.add ((((rd_T59 l1 x14_1).f1)).toNat * 2)).off + 1, none⟩ = some (.int .i64 ((rd_T35 l0_0 ((rd_T59 l1 x14_1).f1)).f1)) := hS_
         refine norm_ (a' := ?_) ?_ ?_
         rotate_left
         ·simp only [putAll, Act.put, List.setIfInBounds_toArray, List.set_cons_zero, List.set_cons_succ]
          rfl
         refine one_ (i := 9) (N := none) #[true, true, true, true, true, true, true, true, true, true] rfl rfl (one_of HT_.out (by kernel_rfl)) (by decide) (fun K hK => ?_)
         have hs27 : w26.cell? ⟨gb501, 0, none⟩ = some (.int .i64 0) := (blk_cell BK501.out 0).trans rfl
         have hfs27 := blk_frozen BK501.out 0
         have hns27_0 := NB491_501.out
         have hns27_1 := NB492_501.out
         have hns27_2 := NB494_501.out
         have hms27_0 := NB501_491.out
         have hms27_1 := NB501_492.out
         have hms27_2 := NB501_494.out
         have hs28 : w26.cell? ⟨gb501, 1, none⟩ = some (.int .i64 0) := (blk_cell BK501.out 1).trans rfl
         have hfs28 := blk_frozen BK501.out 1
         have hns28_0 := NB491_501.out
         have hns28_1 := NB492_501.out
         have hns28_2 := NB494_501.out
         have hms28_0 := NB501_491.out
         have hms28_1 := NB501_492.out
         have hms28_2 := NB501_494.out
         refine skip_ (w1 := ?_) (by rfl) rfl ?_ ?_
         rotate_left
         ·go_simp
          rfl
         refine hK.out _ _ ⟨((cell_far (p := ⟨gb501, _, none⟩) NB492_501.out _).trans (((cell_far (p := ⟨gb501, _, none⟩) NB492_501.out _).trans (hHeld.1)))), ((cell_far (p := ⟨gb501, _, none⟩) NB492_501.out _).trans (((cell_far (p := ⟨gb501, _, none⟩) NB492_501.out _).trans (hHeld.2.1)))), ((cell_far (p := ⟨gb501, _, none⟩) NB491_501.out _).trans (((cell_far (p := ⟨gb501, _, none⟩) NB491_501.out _).trans (hHeld.2.2.1)))), ((cell_far (p := ⟨gb501, _, none⟩) NB491_501.out _).trans (((cell_far (p := ⟨gb501, _, none⟩) NB491_501.out _).trans (hHeld.2.2.2.1)))), ((cell_far (p := ⟨gb501, _, none⟩) NB494_501.out _).trans (((cell_far (p := ⟨gb501, _, none⟩) NB494_501.out _).trans (hHeld.2.2.2.2.1)))), ((cell_far (p := ⟨gb501, _, none⟩) NB494_501.out _).trans (((cell_far (p := ⟨gb501, _, none⟩) NB494_501.out _).trans (hHeld.2.2.2.2.2.1)))), ((cell_far (p := ⟨gb501, _, none⟩) NB494_501.out _).trans (((cell_far (p := ⟨gb501, _, none⟩) NB494_501.out _).trans (hHeld.2.2.2.2.2.2.1)))), ((cell_far (p := ⟨gb501, _, none⟩) NB494_501.out _).trans (((cell_far (p := ⟨gb501, _, none⟩) NB494_501.out _).trans (hHeld.2.2.2.2.2.2.2.1)))), ((cell_far (p := ⟨gb501, _, none⟩) NB494_501.out _).trans (((cell_far (p := ⟨gb501, _, none⟩) NB494_501.out _).trans (hHeld.2.2.2.2.2.2.2.2.1)))), ((cell_far (p := ⟨gb501, _, none⟩) NB494_501.out _).trans (((cell_far (p := ⟨gb501, _, none⟩) NB494_501.out _).trans (hHeld.2.2.2.2.2.2.2.2.2.1)))), ((cell_far (p := ⟨gb501, _, none⟩) NB494_501.out _).trans (((cell_far (p := ⟨gb501, _, none⟩) NB494_501.out _).trans (hHeld.2.2.2.2.2.2.2.2.2.2.1)))), ((cell_far (p := ⟨gb501, _, none⟩) NB494_501.out _).trans (((cell_far (p := ⟨gb501, _, none⟩) NB494_501.out _).trans (hHeld.2.2.2.2.2.2.2.2.2.2.2.1)))), (Kd.kept_slot HR0_0.out (by have := of_eq_true p498; have := of_eq_true q498; omega) (by decide) (Kept.refl _ _) hy498_0 (add_block _ _) (ZH)), (Kd.kept_slot HR0_0.out (by have := of_eq_true p498; have := of_eq_true q498; omega) (by decide) (Kept.refl _ _) hy498_1 (add_block _ _) (ZH))⟩ (fun hHeld => ?_)
         clear hK K
         refine done_ (done_of HT_.out (by kernel_rfl)) ?_
         have n0_ : Aside0 (Kd.R k35 35 ((w26.setCell ⟨gb501, 0, none⟩ (.int .i64 t499)).setCell ⟨gb501, 1, none⟩ (.int .i64 t500)) w0.heap.size (fun k_ => (P3_ k_ ∨ w.heap.size ≤ k_) ∧ k_ ≠ gb492 ∧ k_ ≠ gb501) v496 y495) := ⟨by (with_reducible repeat (first | apply Kd.R_alloc | apply Kd.R_drewN | apply Kd.R_drew)); exact Kd.R_mono (Kd.R_far (p := ⟨gb501, 1, none⟩) (Kd.R_far (p := ⟨gb501, 0, none⟩) (Kd.R_mono HO497.out (fun k_ hk => (⟨hk, hk.2.2⟩ : _ ∧ k_ ≠ gb501))) (fun _ hk => hk.2) (.int .i64 t499)) (fun _ hk => hk.2) (.int .i64 t500)) (fun _ hk => ⟨hk.1.1, ⟨hk.1.2.1, hk.1.2.2⟩⟩)⟩
         have n1_ : Aside0 (((w26.setCell ⟨gb501, 0, none⟩ (.int .i64 t499)).setCell ⟨gb501, 1, none⟩ (.int .i64 t500)).heap[gb491]? = some (.cells #[.slice (some ad498) l0_0.length c0_0, .slice A0_1 l0_1.length c0_1] 26 (0, 0))) := ⟨ZZ BK491.out⟩
         have n2_ : Aside0 (((w26.setCell ⟨gb501, 0, none⟩ (.int .i64 t499)).setCell ⟨gb501, 1, none⟩ (.int .i64 t500)).heap[gb492]? = some (.cells #[.int .i64 a2_0, .int .i64 a2_1] 35 (0, 0))) := ⟨ZZ BK492.out⟩
         have n3_ : Aside0 (((w26.setCell ⟨gb501, 0, none⟩ (.int .i64 t499)).setCell ⟨gb501, 1, none⟩ (.int .i64 t500)).heap[gb494]? = some (.cells #[.int .i64 ((rd_T59 l1 x14_1).f0), .int .i64 ((rd_T59 l1 x14_1).f1), .int .i64 ((rd_T59 l1 x14_1).f2.f0), .int .i64 ((rd_T59 l1 x14_1).f2.f1), .int .i64 ((rd_T59 l1 x14_1).f2.f2), .int .i64 ((rd_T59 l1 x14_1).f3), .slice A493_6 ((rd_T59 l1 x14_1).f4).length c493_6, .slice A493_7 ((rd_T59 l1 x14_1).f5).length c493_7] 59 (0, 0))) := ⟨ZZ BK494.out⟩
         have n4_ : Aside0 (((w26.setCell ⟨gb501, 0, none⟩ (.int .i64 t499)).setCell ⟨gb501, 1, none⟩ (.int .i64 t500)).heap[gb501]? = some (.cells #[.int .i64 t499, .int .i64 t500] 35 (0, 0))) := ⟨ZZ BK501.out⟩
         have n5_ : Aside0 (Kept w ((w26.setCell ⟨gb501, 0, none⟩ (.int .i64 t499)).setCell ⟨gb501, 1, none⟩ (.int .i64 t500)) (fun k_ => P3_ k_)) := ⟨ZH⟩
         have n6_ : Aside0 (Below w0.heap.size w0 ((w26.setCell ⟨gb501, 0, none⟩ (.int .i64 t499)).setCell ⟨gb501, 1, none⟩ (.int .i64 t500))) := ⟨ZB⟩
         (try clear HO497)
         (try clear BK491)
         (try clear BK492)
         (try clear BK494)
         (try clear BK501)
         (try clear HK)
         (try clear HB)
         generalize ((w26.setCell ⟨gb501, 0, none⟩ (.int .i64 t499)).setCell ⟨gb501, 1, none⟩ (.int .i64 t500)) = w29 at n0_ n1_ n2_ n3_ n4_ n5_ n6_ ⊢
         have HO497 := n0_
         have BK491 := n1_
         have BK492 := n2_
         have BK494 := n3_
         have BK501 := n4_
         have HK := n5_
         have HB := n6_
         clear n0_ n1_ n2_ n3_ n4_ n5_ n6_
         have hnb30 := NB491_501.out
         have hnc30 := NB501_491.out
         obtain ⟨hcz31_0, hcz31_1⟩ := ZC2 w29 BK491
         obtain ⟨hfz31_0, hfz31_1⟩ := ZF2 BK491
         have hnb32 := NB494_501.out
         have hnc32 := NB501_494.out
         obtain ⟨hcz33_0, hcz33_1, hcz33_2, hcz33_3, hcz33_4, hcz33_5, hcz33_6, hcz33_7⟩ := ZC8 w29 BK494
         obtain ⟨hfz33_0, hfz33_1, hfz33_2, hfz33_3, hfz33_4, hfz33_5, hfz33_6, hfz33_7⟩ := ZF8 BK494
         have hnb34 := NB501_492.out
         have hnc34 := NB492_501.out
         obtain ⟨hcz35_0, hcz35_1⟩ := ZC2 w29 BK501
         obtain ⟨hfz35_0, hfz35_1⟩ := ZF2 BK501
         obtain ⟨Ao36, co36, eo36⟩ := Kd.R_slice HO497.out
         subst eo36
         try go_wp2_with (first | ((with_reducible refine gate_callee (f := 120) rfl ?_); refine goesL_ (some 35) rfl rfl Try.func120 (by kernel_rfl) rfl #[.agg #[.slice (some ad498) l0_0.length c0_0, .slice A0_1 l0_1.length c0_1], .slice A493_6 ((rd_T59 l1 x14_1).f4).length c493_6, .agg #[.int .i64 t499, .int .i64 t500], .slice Ao36 y495.length co36] rfl ZG ?_; (with_reducible refine (ih k1 (by have := HK1.out; omega) _ _ l0_0 _ _ l0_1 _ _ ((rd_T59 l1 x14_1).f4) t499 t500 (fun k_ => some k_ = (.slice Ao36 y495.length co36 : Value).ownBlock) (.slice Ao36 y495.length co36) y495 t502 w0 _ ?side1 ?side2 ?side3 ?side4 ?side5 ?side6 ?side7 ?side8 A14.out).mono ?_); (case side1 => repeat (first | (with_reducible first | exact HB.out | apply below_alloc | apply pw_below_drewN | apply below_drew1 | refine below_set ?_ GE491.out | refine below_set ?_ GE492.out | refine below_set ?_ GE494.out | refine below_set ?_ GE501.out) | exact HB.out)); (case side2 => exact Kd.C_kept_call HR0_0.out (ZH) (fun k_ hs_ => (fun e_ => (HO497.out.1 k_ e_.symm).1) hs_)); (case side3 => exact HC0_0.out); (case side4 => exact Kd.C_kept_call HR0_1.out (ZH) (fun k_ hs_ => (fun e_ => (HO497.out.1 k_ e_.symm).1) hs_)); (case side5 => exact HC0_1.out); (case side6 => exact Kd.C_kept_call (fun W_ k_ => by have hw_ := Kd.kept_slot HR1.out (by have := (of_eq_true p493); have := (of_eq_true q493); omega) (by decide) (Kept.refl _ _) hy493_6 (add_block _ _) k_; obtain ⟨ad_, A6_, c6_, A7_, c7_, e_, m0_, m1_, m2_, m3_, m4_, m5_, m6_, m7_, y6_, z6_, y7_, z7_⟩ := at_T59 (HR1.out W_ k_) (x14_1) (by first | exact of_eq_true p493 | exact p493) (by first | exact of_eq_true q493 | exact q493); cases e_; rw [hw_] at m6_; cases m6_; exact z6_) (ZH) (fun k_ hs_ => (fun e_ => (HO497.out.1 k_ e_.symm).1) hs_)); (case side7 => exact HC493_6.out); (case side8 => exact Kd.R_tight rfl HO497.out); rintro e w37 ⟨v503, rfl, ho0, hb, hkp⟩; refine ⟨_, rfl, ?_⟩; have n0_ := Aside0.mk (blk_kept (ZK BK491.out) hkp (fun hs_ => (fun e_ => (Kd.R_ne HO497.out BK491.out (by decide)) e_) hs_)); have n1_ := Aside0.mk (blk_kept (ZK BK492.out) hkp (fun hs_ => (fun e_ => (Kd.R_away HO497.out (fun _ hk => hk.2.1)) e_) hs_)); have n2_ := Aside0.mk (blk_kept (ZK BK494.out) hkp (fun hs_ => (fun e_ => (Kd.R_ne HO497.out BK494.out (by decide)) e_) hs_)); have n3_ := Aside0.mk (blk_kept (ZK BK501.out) hkp (fun hs_ => (fun e_ => (Kd.R_away HO497.out (fun _ hk => hk.2.2)) e_) hs_)); have n4_ := Aside0.mk (Kd.R_mono (ok' := fun k_ => (P3_ k_ ∨ w.heap.size ≤ k_) ∧ k_ ≠ gb492 ∧ k_ ≠ gb501) ho0 (fun k_ hk_ => ⟨Or.elim hk_ (fun hs_ => (HO497.out.1 k_ (hs_).symm).1) (fun hn_ => (.inr (Nat.le_trans (by first | exact HK.out.1 | exact (show Kept w _ (fun k_ => P3_ k_) from ZH).1) hn_))), Or.elim hk_ (fun hs_ => fun e_ => (Kd.R_away HO497.out (fun _ hk => hk.2.1)) (by rw [← e_]; exact hs_)) (fun hn_ => (Kd.freshB (g := gb492) (o := .cells #[.int .i64 a2_0, .int .i64 a2_1] 35 (0, 0)) (ZK BK492.out) k_ hn_)), Or.elim hk_ (fun hs_ => fun e_ => (Kd.R_away HO497.out (fun _ hk => hk.2.2)) (by rw [← e_]; exact hs_)) (fun hn_ => (Kd.freshB (g := gb501) (o := .cells #[.int .i64 t499, .int .i64 t500] 35 (0, 0)) (ZK BK501.out) k_ hn_))⟩)); have n5_ := Aside0.mk (Kept.then_ (S := (fun k_ => P3_ k_)) (ZH) hkp (fun k_ hs_ => (fun e_ => (HO497.out.1 k_ e_.symm).1) hs_)); have n6_ := Aside0.mk (hb); clear BK491; clear BK492; clear BK494; clear BK501; clear HK; clear HB; clear HO497; have BK491 := n0_; have BK492 := n1_; have BK494 := n2_; have BK501 := n3_; have HO504 := n4_; have HK := n5_; have HB := n6_; clear n0_ n1_ n2_ n3_ n4_ n5_ n6_; (try clear hb); (try clear hkp); (try clear ho0); obtain ⟨hcz38_0, hcz38_1⟩ := ZC2 w37 BK491; obtain ⟨hfz38_0, hfz38_1⟩ := ZF2 BK491; obtain ⟨hcz39_0, hcz39_1, hcz39_2, hcz39_3, hcz39_4, hcz39_5, hcz39_6, hcz39_7⟩ := ZC8 w37 BK494; obtain ⟨hfz39_0, hfz39_1, hfz39_2, hfz39_3, hfz39_4, hfz39_5, hfz39_6, hfz39_7⟩ := ZF8 BK494; obtain ⟨hcz40_0, hcz40_1⟩ := ZC2 w37 BK501; obtain ⟨hfz40_0, hfz40_1⟩ := ZF2 BK501; obtain ⟨Ao41, co41, eo41⟩ := Kd.R_slice HO504.out; subst eo41) | ((with_reducible refine gate_callee (f := 120) rfl ?_); refine goesL_ (some 41) rfl rfl Try.func120 (by kernel_rfl) rfl #[.agg #[.slice (some ad498) l0_0.length c0_0, .slice A0_1 l0_1.length c0_1], .slice A493_7 ((rd_T59 l1 x14_1).f5).length c493_7, .agg #[.int .i64 t499, .int .i64 t500], .slice Ao41 t502.length co41] rfl ZG ?_; (with_reducible refine (ih k1 (by have := HK1.out; omega) _ _ l0_0 _ _ l0_1 _ _ ((rd_T59 l1 x14_1).f5) t499 t500 (fun k_ => some k_ = (.slice Ao41 t502.length co41 : Value).ownBlock) (.slice Ao41 t502.length co41) t502 t505 w0 _ ?side1 ?side2 ?side3 ?side4 ?side5 ?side6 ?side7 ?side8 A15.out).mono ?_); (case side1 => repeat (first | (with_reducible first | exact HB.out | apply below_alloc | apply pw_below_drewN | apply below_drew1 | refine below_set ?_ GE491.out | refine below_set ?_ GE492.out | refine below_set ?_ GE494.out | refine below_set ?_ GE501.out) | exact HB.out)); (case side2 => exact Kd.C_kept_call HR0_0.out (ZH) (fun k_ hs_ => (fun e_ => (HO504.out.1 k_ e_.symm).1) hs_)); (case side3 => exact HC0_0.out); (case side4 => exact Kd.C_kept_call HR0_1.out (ZH) (fun k_ hs_ => (fun e_ => (HO504.out.1 k_ e_.symm).1) hs_)); (case side5 => exact HC0_1.out); (case side6 => exact Kd.C_kept_call (fun W_ k_ => by have hw_ := Kd.kept_slot HR1.out (by have := (of_eq_true p493); have := (of_eq_true q493); omega) (by decide) (Kept.refl _ _) hy493_7 (add_block _ _) k_; obtain ⟨ad_, A6_, c6_, A7_, c7_, e_, m0_, m1_, m2_, m3_, m4_, m5_, m6_, m7_, y6_, z6_, y7_, z7_⟩ := at_T59 (HR1.out W_ k_) (x14_1) (by first | exact of_eq_true p493 | exact p493) (by first | exact of_eq_true q493 | exact q493); cases e_; rw [hw_] at m7_; cases m7_; exact z7_) (ZH) (fun k_ hs_ => (fun e_ => (HO504.out.1 k_ e_.symm).1) hs_)); (case side7 => exact HC493_7.out); (case side8 => exact Kd.R_tight rfl HO504.out); rintro e w42 ⟨v506, rfl, ho0, hb, hkp⟩; refine ⟨_, rfl, ?_⟩; have n0_ := Aside0.mk (blk_kept (ZK BK491.out) hkp (fun hs_ => (fun e_ => (Kd.R_ne HO504.out BK491.out (by decide)) e_) hs_)); have n1_ := Aside0.mk (blk_kept (ZK BK492.out) hkp (fun hs_ => (fun e_ => (Kd.R_away HO504.out (fun _ hk => hk.2.1)) e_) hs_)); have n2_ := Aside0.mk (blk_kept (ZK BK494.out) hkp (fun hs_ => (fun e_ => (Kd.R_ne HO504.out BK494.out (by decide)) e_) hs_)); have n3_ := Aside0.mk (blk_kept (ZK BK501.out) hkp (fun hs_ => (fun e_ => (Kd.R_away HO504.out (fun _ hk => hk.2.2)) e_) hs_)); have n4_ := Aside0.mk (Kd.R_mono (ok' := fun k_ => (P3_ k_ ∨ w.heap.size ≤ k_) ∧ k_ ≠ gb492 ∧ k_ ≠ gb501) ho0 (fun k_ hk_ => ⟨Or.elim hk_ (fun hs_ => (HO504.out.1 k_ (hs_).symm).1) (fun hn_ => (.inr (Nat.le_trans (by first | exact HK.out.1 | exact (show Kept w _ (fun k_ => P3_ k_) from ZH).1) hn_))), Or.elim hk_ (fun hs_ => fun e_ => (Kd.R_away HO504.out (fun _ hk => hk.2.1)) (by rw [← e_]; exact hs_)) (fun hn_ => (Kd.freshB (g := gb492) (o := .cells #[.int .i64 a2_0, .int .i64 a2_1] 35 (0, 0)) (ZK BK492.out) k_ hn_)), Or.elim hk_ (fun hs_ => fun e_ => (Kd.R_away HO504.out (fun _ hk => hk.2.2)) (by rw [← e_]; exact hs_)) (fun hn_ => (Kd.freshB (g := gb501) (o := .cells #[.int .i64 t499, .int .i64 t500] 35 (0, 0)) (ZK BK501.out) k_ hn_))⟩)); have n5_ := Aside0.mk (Kept.then_ (S := (fun k_ => P3_ k_)) (ZH) hkp (fun k_ hs_ => (fun e_ => (HO504.out.1 k_ e_.symm).1) hs_)); have n6_ := Aside0.mk (hb); clear BK491; clear BK492; clear BK494; clear BK501; clear HK; clear HB; clear HO504; have BK491 := n0_; have BK492 := n1_; have BK494 := n2_; have BK501 := n3_; have HO507 := n4_; have HK := n5_; have HB := n6_; clear n0_ n1_ n2_ n3_ n4_ n5_ n6_; (try clear hb); (try clear hkp); (try clear ho0)))
         go_roundg k1
         case measure => have := HK1.out; omega
         case rel => exact ⟨(t505), (wrap64 (x14_1 + 1)), (by first | rfl | (simp; done) | (simp [*]; done)), H', ⟨by have := HK1.out; omega⟩, ⟨by (with_reducible repeat (first | apply Kd.R_alloc | apply Kd.R_drewN | apply Kd.R_drew)); exact Kd.R_mono HO507.out (fun _ hk => ⟨hk.1, hk.2.1⟩)⟩, ⟨ZK BK491.out⟩, ⟨ZK BK492.out⟩, ⟨ZH⟩, ⟨ZB⟩⟩
        ·rw [if_neg c12] at H
         exact absurd H (by simp)
       ·rw [if_neg c11] at H
        exact absurd H (by simp)
      ·rw [if_neg c10] at H
       exact absurd H (by simp)
     ·rw [if_neg c9] at H
      exact absurd H (by simp)
    ·rw [if_neg c8] at H
     exact absurd H (by simp)
   ·rw [if_neg c7] at H
    have c7b0 : decide (x14_1 < (l1.length : Int)) = false := decide_eq_false c7
    clear c7
    obtain rfl := Option.some.inj H
    go_wp2
    go_ret
    exact ⟨_, ZE, by (with_reducible repeat (first | apply Kd.R_alloc | apply Kd.R_drewN | apply Kd.R_drew)); exact Kd.R_mono HO_3.out (fun _ hk => hk.1), ZB, ZH⟩

end Go.Proofs.Ytcffnnedghgmaaa.A
