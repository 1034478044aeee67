/- What Go functions compute, as Lean functions, and for each its contract: for every input at which the Lean function answers the call returns that; written by wip/tools/pr.py over the kit's print. -/
import Derived.Test.YtdmejmdifnicmaaAx0
import Derived.Test.YtdmejmdifnicmaaAx3
import Derived.Test.YtdmejmdifnicmaaAx5
namespace Go.Proofs.Ytdmejmdifnicmaa.A
open Go.RowKit Go.Proofs.YtdmejmdifnicmaaW.PrintWords Go.Proofs.YtdmejmdifnicmaaW.PrintLast Go.Proofs.YtdmejmdifnicmaaW.PrintMore
attribute [local go_sem] max2_int min2_int max_two min_two max_three min_three max_four min_four   -- for this text's walks alone
set_option linter.unusedVariables false
set_option linter.unusedSimpArgs false

/-! ### spec_l71Steps: function 21 -/
mutual
def spec_l71Steps.l0 : Nat → Int → Int → List (S66) → Int → List Int → Int → Option ((List (S66)) × Int)
 | 0, _, _, _, _, _, _ => none
 | k + 1, x2, x3, x9, x10, x1000, x1001 => if x10 > 0 then ((spec_l6Rd_pick.f k x1000 x1001 x3).bind fun bt141 => ((spec_l6Rd_pick.f k x1000 bt141.2 5).bind fun bt144 => (if bt144.1 = 0 then ((spec_l6Rd_pick.f k x1000 bt144.2 3).bind fun bt146 => (if 3 = 1 then ((spec_l71Val.f k x1000 bt146.2 x3).bind fun bt148 => (if x9.length < 1466015503701 then (spec_l71Steps.l0 k x2 x3 (x9 ++ [(⟨3, bt141.1, (⟨bt148.1, bt148.2.1, bt148.2.2.1⟩ : S64), bt146.1, ([] : List (S66)), ([] : List (S66))⟩ : S66)]) (wrap64 (x10 - 1)) x1000 bt148.2.2.2) else (none))) else (if x9.length < 1466015503701 then (spec_l71Steps.l0 k x2 x3 (x9 ++ [(⟨3, bt141.1, (⟨0, 0, 0⟩ : S64), bt146.1, ([] : List (S66)), ([] : List (S66))⟩ : S66)]) (wrap64 (x10 - 1)) x1000 bt146.2) else (none)))) else (if bt144.1 = 1 then (spec_l71Steps.j1 k x2 x3 x9 x10 (bt144.1 == 1) x1000 bt144.2 1 bt141.1 0 0 0 0) else (spec_l71Steps.j1 k x2 x3 x9 x10 (bt144.1 == 2) x1000 bt144.2 1 bt141.1 0 0 0 0))))) else (some (x9, x1001))
def spec_l71Steps.j1 : Nat → Int → Int → List (S66) → Int → Bool → List Int → Int → Int → Int → Int → Int → Int → Int → Option ((List (S66)) × Int)
 | 0, _, _, _, _, _, _, _, _, _, _, _, _, _ => none
 | k + 1, x2, x3, x9, x10, x33, x1000, x1001, x144000, x144001, x144002, x144003, x144004, x144005 => if x33 = true then (if x2 > 1 then ((spec_l71Steps.f k x1000 x1001 2 (wrap64 (x2 - 1)) x3).bind fun bt158 => ((spec_l71Steps.f k x1000 bt158.2 2 (wrap64 (x2 - 1)) x3).bind fun bt162 => (if 2 = 1 then ((spec_l71Val.f k x1000 bt162.2 x3).bind fun bt166 => (if x9.length < 1466015503701 then (spec_l71Steps.l0 k x2 x3 (x9 ++ [(⟨2, x144001, (⟨bt166.1, bt166.2.1, bt166.2.2.1⟩ : S64), x144005, bt158.1, bt162.1⟩ : S66)]) (wrap64 (x10 - 1)) x1000 bt166.2.2.2) else (none))) else (if x9.length < 1466015503701 then (spec_l71Steps.l0 k x2 x3 (x9 ++ [(⟨2, x144001, (⟨x144002, x144003, x144004⟩ : S64), x144005, bt158.1, bt162.1⟩ : S66)]) (wrap64 (x10 - 1)) x1000 bt162.2) else (none))))) else (if x144000 = 1 then ((spec_l71Val.f k x1000 x1001 x3).bind fun bt176 => (if x9.length < 1466015503701 then (spec_l71Steps.l0 k x2 x3 (x9 ++ [(⟨x144000, x144001, (⟨bt176.1, bt176.2.1, bt176.2.2.1⟩ : S64), x144005, ([] : List (S66)), ([] : List (S66))⟩ : S66)]) (wrap64 (x10 - 1)) x1000 bt176.2.2.2) else (none))) else (if x9.length < 1466015503701 then (spec_l71Steps.l0 k x2 x3 (x9 ++ [(⟨x144000, x144001, (⟨x144002, x144003, x144004⟩ : S64), x144005, ([] : List (S66)), ([] : List (S66))⟩ : S66)]) (wrap64 (x10 - 1)) x1000 x1001) else (none)))) else (if x144000 = 1 then ((spec_l71Val.f k x1000 x1001 x3).bind fun bt186 => (if x9.length < 1466015503701 then (spec_l71Steps.l0 k x2 x3 (x9 ++ [(⟨x144000, x144001, (⟨bt186.1, bt186.2.1, bt186.2.2.1⟩ : S64), x144005, ([] : List (S66)), ([] : List (S66))⟩ : S66)]) (wrap64 (x10 - 1)) x1000 bt186.2.2.2) else (none))) else (if x9.length < 1466015503701 then (spec_l71Steps.l0 k x2 x3 (x9 ++ [(⟨x144000, x144001, (⟨x144002, x144003, x144004⟩ : S64), x144005, ([] : List (S66)), ([] : List (S66))⟩ : S66)]) (wrap64 (x10 - 1)) x1000 x1001) else (none)))
def spec_l71Steps.f : Nat → List Int → Int → Int → Int → Int → Option ((List (S66)) × Int)
 | 0, _, _, _, _, _ => none
 | k + 1, s0_0, s0_1, a1, a2, a3 => (spec_l6Rd_pick.f k s0_0 s0_1 (wrap64 (a1 + 1))).bind fun bt139 => (spec_l71Steps.l0 k a2 a3 (([] : List (S66))) bt139.1 s0_0 bt139.2)
end
theorem spec_l71Steps.grown_ {w0 W0 W W1 : World} {g : Nat} {f0 : List Int} {f1 : Int} {row : Option Nat} (B : Aside0 (IsS55 w0 W0 g f0 f1)) (hg : W.grownBy W1 row) (hne : some g ≠ row) (t : IsS55 w0 W0 g f0 f1 → IsS55 w0 W g f0 f1 := by intro h_; repeat (first | (with_reducible first | exact h_ | apply IsS55.alloc | apply IsS55.drewN | apply IsS55.drew | apply IsS55.set_1 | refine IsS55.far ?_ (Aside0.out (by first | with_reducible assumption | (dsimp only; with_reducible assumption))) _) | exact h_)) : IsS55 w0 W1 g f0 f1 := IsS55.grown (t B.out) hg hne
set_option maxHeartbeats 8000000 in
set_option maxRecDepth 100000 in
theorem spec_l71Steps.calls (k : Nat) : ∀ (g : Nat) (s0_0 : List Int) (s0_1 : Int) (a1 : Int) (a2 : Int) (a3 : Int) (r1 : List (S66)) (r2 : Int) (w0 w : World) (hI : IsS55 w0 w g s0_0 s0_1) (hB : Below w0.heap.size w0 w) (h : spec_l71Steps.f k s0_0 s0_1 a1 a2 a3 = some (r1, r2)),
  Calls Try.prog 21 #[.pointer (some ⟨g, 0, none⟩), .int .i64 a1, .int .i64 a2, .int .i64 a3] w fun e w' => ∃ v0_ : Value, e = .returned (v0_) ∧ Kd.R k66 66 w' w.heap.size (fun _ => True) v0_ r1 ∧ IsS55 w0 w' g s0_0 r2 ∧ Below w0.heap.size w0 w' ∧ KeepBut w w' g none := by
 induction k using Nat.strongRecOn with
 | _ k ih =>
 intro g s0_0 s0_1 a1 a2 a3 r1 r2 w0 w hI hB h
 cases k with
 | zero => exact absurd h (by simp [spec_l71Steps.f])
 | succ k =>
 simp only [spec_l71Steps.f] at h
 have hu66 := Try.underlying66
 have hu64 := Try.underlying64
 have HI0 := Aside0.mk hI
 have HK := Aside0.mk (KeepBut.refl w g none)
 have HL := Aside0.mk hB.size
 clear hI
 have HW0 := Aside0.mk hB.size
 have HB := Aside0.mk hB
 clear hB
 have H : ((spec_l6Rd_pick.f k s0_0 s0_1 (wrap64 (a1 + 1))).bind fun bt139 => (spec_l71Steps.l0 k a2 a3 (([] : List (S66))) bt139.1 s0_0 bt139.2)) = some (r1, r2) := h
 clear h
 obtain ⟨y136, hy136⟩ : ∃ y_ : List (S66), y_ = (([] : List (S66))) := ⟨_, rfl⟩
 replace H : ((spec_l6Rd_pick.f k s0_0 s0_1 (wrap64 (a1 + 1))).bind fun bt139 => (spec_l71Steps.l0 k a2 a3 y136 bt139.1 s0_0 bt139.2)) = some (r1, r2) := by first | (rw [hy136]; with_reducible exact H) | (have H2_ := (Option.bind_some _ _).symm.trans H; rw [hy136]; with_reducible exact H2_) | (have H2_ := (Option.bind_some _ _).symm.trans H; with_reducible exact H2_) | with_reducible exact H | (rw [hy136]; exact H) | exact H
 have Ny136 := Aside0.mk hy136
 clear hy136
 replace H := Option.bind_eq_some_iff.mp H
 obtain ⟨⟨t139, t140⟩, A50, H⟩ := H
 replace H : (spec_l71Steps.l0 k a2 a3 y136 t139 s0_0 t140) = some (r1, r2) := H
 have A5 := Aside0.mk A50
 clear A50
 have H' := Aside0.mk H
 clear H
 go_enter Try.func21, Try.ntmps21
 go_wp2_with (first | ((with_reducible refine gate_dst (N := 12) rfl ?_); refine Kd.R_lit k66 _ 66 ?hg (N := 12) ?hd (xs := ([] : List (S66))) (inner := []) (ok := fun _ => True) (okp := fun _ => True) ?hr ?hp (fun _ hk => hk) trivial (Below.refl _ _) (Nat.le_refl _) (by simp) ?_; (case hd => rfl); (case hg => rfl); (case hr => first | (go_simp; done) | (go_simp; rfl)); (case hp => exact (Reps.none _ _)); intro v137 w6 ho7 hb hg_ hnew_; clear hg_ hnew_; (first | rw [← Ny136.out] at ho7 | (simp only [Int.reduceToNat] at ho7; rw [← Ny136.out] at ho7)); have HO138 := Aside0.mk (Kd.R_lower ho7 (keep_size (w := w) (g := g) (row := none) (ZJ))); replace HK := ZKT HK (KeepBut.of_below hb g none); replace HB := ZTI HB hb; replace HI0 := Aside0.mk (IsS55.below (ZI) hb); clear hb ho7) | ((with_reducible refine gate_callee (f := 17) rfl ?_); refine goesL_ (some 16) rfl rfl Try.func17 (by kernel_rfl) rfl #[.pointer (some ⟨g, 0, none⟩), .int .i64 (wrap64 (a1 + 1))] rfl ZG ?_; (with_reducible refine (spec_l6Rd_pick.calls k g s0_0 s0_1 (wrap64 (a1 + 1)) t139 t140 w0 _ ?side1 ?side2 A5.out).mono ?_); (case side1 => exact ZI); (case side2 => exact ZBI); rintro e w8 ⟨rfl, hi, hb, hk⟩; refine ⟨_, rfl, ?_⟩; replace HO138 := Aside0.mk (Kd.R_mono (Kd.R_keep (IsS55.apart (show IsS55 w0 _ g s0_0 s0_1 from ZI) (ZR HO138.out) (by decide)) hk (fun _ h => h.2)) (fun _ h => h.1)); replace HK := ZKT HK hk; replace HB := Aside0.mk (hb); replace HI0 := Aside0.mk (hi); (try clear hb); (try clear hb2); (try clear hk); (try clear hi)))
 go_loopg [9, 10] k (fun kq v9 v10 w' => ∃ (x9_1 : List (S66)) (x10_1 : Int) (x1001_1 : Int), v10 = .int .i64 x10_1 ∧ Aside0 (spec_l71Steps.l0 kq a2 a3 x9_1 x10_1 s0_0 x1001_1 = some (r1, r2)) ∧ Aside0 (kq ≤ k) ∧ Aside0 (Kd.R k66 66 w' w.heap.size (fun _ => True) v9 x9_1) ∧ Aside0 (IsS55 w0 w' g s0_0 x1001_1) ∧ Aside0 (KeepBut w w' g none) ∧ Aside0 (Below w0.heap.size w0 w'))
 case atStart => exact ⟨(y136), (t139), (t140), (by first | rfl | (simp; done) | (simp [*]; done)), H', ⟨Nat.le_refl _⟩, ⟨ZR HO138.out⟩, ⟨ZI⟩, ⟨ZJ⟩, ⟨ZBI⟩⟩
 case round =>
  clear H'
  try clear c1
  try clear c2
  try clear p2
  try clear p6
  obtain ⟨x9_1, x10_1, x1001_1, rfl, HA, HK1, HO_9, HI0, HK, HB⟩ := hrel
  cases gk with
  | zero => exact absurd HA.out (by simp [spec_l71Steps.l0])
  | succ k1 =>
   have H := HA.out
   clear HA
   simp only [spec_l71Steps.l0] at H
   by_cases c9 : x10_1 > 0
   ·rw [if_pos c9] at H
    have c9b0 : decide (0 < x10_1) = true := decide_eq_true c9
    clear c9
    replace H := Option.bind_eq_some_iff.mp H
    obtain ⟨⟨t141, t142⟩, A100, H⟩ := H
    replace H : ((spec_l6Rd_pick.f k1 s0_0 t142 5).bind fun bt144 => (if bt144.1 = 0 then ((spec_l6Rd_pick.f k1 s0_0 bt144.2 3).bind fun bt146 => (if 3 = 1 then ((spec_l71Val.f k1 s0_0 bt146.2 a3).bind fun bt148 => (if x9_1.length < 1466015503701 then (spec_l71Steps.l0 k1 a2 a3 (x9_1 ++ [(⟨3, t141, (⟨bt148.1, bt148.2.1, bt148.2.2.1⟩ : S64), bt146.1, ([] : List (S66)), ([] : List (S66))⟩ : S66)]) (wrap64 (x10_1 - 1)) s0_0 bt148.2.2.2) else (none))) else (if x9_1.length < 1466015503701 then (spec_l71Steps.l0 k1 a2 a3 (x9_1 ++ [(⟨3, t141, (⟨0, 0, 0⟩ : S64), bt146.1, ([] : List (S66)), ([] : List (S66))⟩ : S66)]) (wrap64 (x10_1 - 1)) s0_0 bt146.2) else (none)))) else (if bt144.1 = 1 then (spec_l71Steps.j1 k1 a2 a3 x9_1 x10_1 (bt144.1 == 1) s0_0 bt144.2 1 t141 0 0 0 0) else (spec_l71Steps.j1 k1 a2 a3 x9_1 x10_1 (bt144.1 == 2) s0_0 bt144.2 1 t141 0 0 0 0)))) = some (r1, r2) := H
    have A10 := Aside0.mk A100
    clear A100
    replace H := Option.bind_eq_some_iff.mp H
    obtain ⟨⟨t144, t145⟩, A110, H⟩ := H
    replace H : (if t144 = 0 then ((spec_l6Rd_pick.f k1 s0_0 t145 3).bind fun bt146 => (if 3 = 1 then ((spec_l71Val.f k1 s0_0 bt146.2 a3).bind fun bt148 => (if x9_1.length < 1466015503701 then (spec_l71Steps.l0 k1 a2 a3 (x9_1 ++ [(⟨3, t141, (⟨bt148.1, bt148.2.1, bt148.2.2.1⟩ : S64), bt146.1, ([] : List (S66)), ([] : List (S66))⟩ : S66)]) (wrap64 (x10_1 - 1)) s0_0 bt148.2.2.2) else (none))) else (if x9_1.length < 1466015503701 then (spec_l71Steps.l0 k1 a2 a3 (x9_1 ++ [(⟨3, t141, (⟨0, 0, 0⟩ : S64), bt146.1, ([] : List (S66)), ([] : List (S66))⟩ : S66)]) (wrap64 (x10_1 - 1)) s0_0 bt146.2) else (none)))) else (if t144 = 1 then (spec_l71Steps.j1 k1 a2 a3 x9_1 x10_1 (t144 == 1) s0_0 t145 1 t141 0 0 0 0) else (spec_l71Steps.j1 k1 a2 a3 x9_1 x10_1 (t144 == 2) s0_0 t145 1 t141 0 0 0 0))) = some (r1, r2) := H
    have A11 := Aside0.mk A110
    clear A110
    by_cases c12 : t144 = 0
    ·rw [if_pos c12] at H
     have c12b0 : (t144 == 0) = true := beq_iff_eq.mpr c12
     have c12b1 : (t144 != 0) = false := bne_eq_false_iff_eq.mpr c12
     clear c12
     replace H := Option.bind_eq_some_iff.mp H
     obtain ⟨⟨t146, t147⟩, A130, H⟩ := H
     replace H : (if 3 = 1 then ((spec_l71Val.f k1 s0_0 t147 a3).bind fun bt148 => (if x9_1.length < 1466015503701 then (spec_l71Steps.l0 k1 a2 a3 (x9_1 ++ [(⟨3, t141, (⟨bt148.1, bt148.2.1, bt148.2.2.1⟩ : S64), t146, ([] : List (S66)), ([] : List (S66))⟩ : S66)]) (wrap64 (x10_1 - 1)) s0_0 bt148.2.2.2) else (none))) else (if x9_1.length < 1466015503701 then (spec_l71Steps.l0 k1 a2 a3 (x9_1 ++ [(⟨3, t141, (⟨0, 0, 0⟩ : S64), t146, ([] : List (S66)), ([] : List (S66))⟩ : S66)]) (wrap64 (x10_1 - 1)) s0_0 t147) else (none))) = some (r1, r2) := H
     have A13 := Aside0.mk A130
     clear A130
     by_cases c14 : 3 = 1
     ·exact absurd c14 (by decide)
     ·rw [if_neg c14] at H
      have c14b0 : (3 == 1) = false := beq_eq_false_iff_ne.mpr c14
      have c14b1 : (3 != 1) = true := bne_iff_ne.mpr c14
      by_cases c28 : x9_1.length < 1466015503701
      ·rw [if_pos c28] at H
       have LMc28 := Aside0.mk c28
       clear c28
       obtain ⟨y155, hy155⟩ : ∃ y_ : List (S66), y_ = (x9_1 ++ [(⟨3, t141, (⟨0, 0, 0⟩ : S64), t146, ([] : List (S66)), ([] : List (S66))⟩ : S66)]) := ⟨_, rfl⟩
       replace H : (spec_l71Steps.l0 k1 a2 a3 y155 (wrap64 (x10_1 - 1)) s0_0 t147) = some (r1, r2) := by first | (rw [hy155]; with_reducible exact H) | (have H2_ := (Option.bind_some _ _).symm.trans H; rw [hy155]; with_reducible exact H2_) | (have H2_ := (Option.bind_some _ _).symm.trans H; with_reducible exact H2_) | with_reducible exact H | (rw [hy155]; exact H) | exact H
       have Ny155 := Aside0.mk hy155
       clear hy155
       have H' := Aside0.mk H
       clear H
       go_wp2_with (first | ((with_reducible refine gate_callee (f := 17) rfl ?_); refine goesL_ (some 23) rfl rfl Try.func17 (by kernel_rfl) rfl #[.pointer (some ⟨g, 0, none⟩), .int .i64 a3] rfl ZG ?_; (with_reducible refine (spec_l6Rd_pick.calls k1 g s0_0 x1001_1 a3 t141 t142 w0 _ ?side1 ?side2 A10.out).mono ?_); (case side1 => exact ZI); (case side2 => exact ZBI); rintro e w29 ⟨rfl, hi, hb, hk⟩; refine ⟨_, rfl, ?_⟩; replace HO_9 := Aside0.mk (Kd.R_mono (Kd.R_keep (IsS55.apart (show IsS55 w0 _ g s0_0 x1001_1 from ZI) (ZR HO_9.out) (by decide)) hk (fun _ h => h.2)) (fun _ h => h.1)); replace HK := ZKT HK hk; replace HB := Aside0.mk (hb); replace HI0 := Aside0.mk (hi); (try clear hb); (try clear hb2); (try clear hk); (try clear hi)) | ((with_reducible refine gate_dst (N := 11) rfl ?_); refine ZX (N := 11) (cs := #[.int .i64 0, .int .i64 0, .int .i64 0, .int .i64 0, .int .i64 0, .int .i64 0, .slice none 0 0, .slice none 0 0]) (t := 66) ?_; intro gb143 hg w30 hbox hb; have BK143 := Aside0.mk (hbox); have GW143 := Aside0.mk ((by rw [hg]; exact (keep_size (w := w) (g := g) (row := none) (ZJ)) : w.heap.size ≤ gb143)); have GE143 := Aside0.mk ((Nat.le_trans HW0.out (by rw [hg]; exact (keep_size (w := w) (g := g) (row := none) (ZJ)) : w.heap.size ≤ gb143) : w0.heap.size ≤ gb143)); have NB0_143 := Aside0.mk ((by rw [hg]; exact Nat.ne_of_lt (IsS55.lt (show IsS55 w0 _ g s0_0 t142 from ZI)) : g ≠ gb143)); have NB143_0 := Aside0.mk ((by rw [hg]; exact Nat.ne_of_gt (IsS55.lt (show IsS55 w0 _ g s0_0 t142 from ZI)) : gb143 ≠ g)); replace HO_9 := Aside0.mk (Kd.R_below (Kd.R_elderB (ZR HO_9.out) gb143 (Nat.le_of_eq hg.symm)) hb); replace HK := ZKT HK (KeepBut.of_below hb g none); replace HB := ZTI HB hb; replace HI0 := Aside0.mk (IsS55.below (ZI) hb); clear hb hbox hg; have hnb31 := NB143_0.out; have hnc31 := NB0_143.out; obtain ⟨hcz32_0, hcz32_1, hcz32_2, hcz32_3, hcz32_4, hcz32_5, hcz32_6, hcz32_7⟩ := ZC8 w30 BK143; obtain ⟨hfz32_0, hfz32_1, hfz32_2, hfz32_3, hfz32_4, hfz32_5, hfz32_6, hfz32_7⟩ := ZF8 BK143) | ((with_reducible refine gate_callee (f := 17) rfl ?_); refine goesL_ (some 26) rfl rfl Try.func17 (by kernel_rfl) rfl #[.pointer (some ⟨g, 0, none⟩), .int .i64 5] rfl ZG ?_; (with_reducible refine (spec_l6Rd_pick.calls k1 g s0_0 t142 5 t144 t145 w0 _ ?side1 ?side2 A11.out).mono ?_); (case side1 => exact ZI); (case side2 => exact ZBI); rintro e w33 ⟨rfl, hi, hb, hk⟩; refine ⟨_, rfl, ?_⟩; replace HO_9 := Aside0.mk (Kd.R_mono (Kd.R_keep (IsS55.apart (show IsS55 w0 _ g s0_0 t142 from ZI) (by (with_reducible repeat (first | apply Kd.R_alloc | apply Kd.R_drewN | apply Kd.R_drew)); exact (Kd.R_mono (Kd.R_far (p := ⟨gb143, 7, none⟩) (Kd.R_far (p := ⟨gb143, 6, none⟩) (Kd.R_far (p := ⟨gb143, 5, none⟩) (Kd.R_far (p := ⟨gb143, 4, none⟩) (Kd.R_far (p := ⟨gb143, 3, none⟩) (Kd.R_far (p := ⟨gb143, 2, none⟩) (Kd.R_far (p := ⟨gb143, 1, none⟩) (Kd.R_far (p := ⟨gb143, 0, none⟩) (Kd.R_mono HO_9.out (fun k_ hk => (⟨hk, hk.2⟩ : _ ∧ k_ ≠ gb143))) (fun _ hk => hk.2) (.int .i64 1)) (fun _ hk => hk.2) (.int .i64 t141)) (fun _ hk => hk.2) (.int .i64 0)) (fun _ hk => hk.2) (.int .i64 0)) (fun _ hk => hk.2) (.int .i64 0)) (fun _ hk => hk.2) (.int .i64 0)) (fun _ hk => hk.2) (.slice none 0 0)) (fun _ hk => hk.2) (.slice none 0 0)) (fun _ h_ => h_.1))) (by decide)) hk (fun _ h => h.2)) (fun _ h => h.1)); replace BK143 := ZLV #[.int .i64 1, .int .i64 t141, .int .i64 0, .int .i64 0, .int .i64 0, .int .i64 0, .slice none 0 0, .slice none 0 0] hk BK143 NB143_0; replace HK := ZKT HK hk; replace HB := Aside0.mk (hb); replace HI0 := Aside0.mk (hi); (try clear hb); (try clear hb2); (try clear hk); (try clear hi); obtain ⟨hcz34_0, hcz34_1, hcz34_2, hcz34_3, hcz34_4, hcz34_5, hcz34_6, hcz34_7⟩ := ZC8 w33 BK143; obtain ⟨hfz34_0, hfz34_1, hfz34_2, hfz34_3, hfz34_4, hfz34_5, hfz34_6, hfz34_7⟩ := ZF8 BK143) | ((with_reducible refine gate_callee (f := 17) rfl ?_); refine goesL_ (some 31) rfl rfl Try.func17 (by kernel_rfl) rfl #[.pointer (some ⟨g, 0, none⟩), .int .i64 3] rfl ZG ?_; (with_reducible refine (spec_l6Rd_pick.calls k1 g s0_0 t145 3 t146 t147 w0 _ ?side1 ?side2 A13.out).mono ?_); (case side1 => exact ZI); (case side2 => exact ZBI); rintro e w35 ⟨rfl, hi, hb, hk⟩; refine ⟨_, rfl, ?_⟩; replace HO_9 := Aside0.mk (Kd.R_mono (Kd.R_keep (IsS55.apart (show IsS55 w0 _ g s0_0 t145 from ZI) (by (with_reducible repeat (first | apply Kd.R_alloc | apply Kd.R_drewN | apply Kd.R_drew)); exact (Kd.R_mono (Kd.R_far (p := ⟨gb143, 0, none⟩) (Kd.R_mono HO_9.out (fun k_ hk => (⟨hk, hk.2⟩ : _ ∧ k_ ≠ gb143))) (fun _ hk => hk.2) (.int .i64 3)) (fun _ h_ => h_.1))) (by decide)) hk (fun _ h => h.2)) (fun _ h => h.1)); replace BK143 := ZLV #[.int .i64 3, .int .i64 t141, .int .i64 0, .int .i64 0, .int .i64 0, .int .i64 0, .slice none 0 0, .slice none 0 0] hk BK143 NB143_0; replace HK := ZKT HK hk; replace HB := Aside0.mk (hb); replace HI0 := Aside0.mk (hi); (try clear hb); (try clear hb2); (try clear hk); (try clear hi); obtain ⟨hcz36_0, hcz36_1, hcz36_2, hcz36_3, hcz36_4, hcz36_5, hcz36_6, hcz36_7⟩ := ZC8 w35 BK143; obtain ⟨hfz36_0, hfz36_1, hfz36_2, hfz36_3, hfz36_4, hfz36_5, hfz36_6, hfz36_7⟩ := ZF8 BK143) | ((with_reducible refine gate_builtin (b := .append) (xs := #[.tmp 58, .tmp 60]) rfl ?_); at_builtin; refine Kd.R_append k66 w.heap.size rfl (.tmp 58) (.tmp 60) 41 66 (.agg #[(.int .i64 0), (.int .i64 0), (.int .i64 0), (.int .i64 0), (.int .i64 0), (.int .i64 0), (.slice none 0 0), (.slice none 0 0)]) 96 rfl Try.underlying41 info66 rfl (by decide) (by omega) u9 x9_1 (⟨3, t141, (⟨0, 0, 0⟩ : S64), t146, ([] : List (S66)), ([] : List (S66))⟩ : S66) [.int .i64 3, .int .i64 t141, .int .i64 0, .int .i64 0, .int .i64 0, .int .i64 t146, .slice none 0 0, .slice none 0 0] (fun k_ => k_ ≠ gb143) (fun k_ => ((fun k_ => k_ ≠ gb143)) k_ ∧ some k_ ≠ (u9 : Value).ownBlock) rfl (by first | (go_simp; done) | (go_simp; rfl)) ?aP (fun _ hk => hk) ?aF ?aO (Below.refl _ _) ?aS ?aL ?_; (case aP => exact k66_mkM _ _ _ (⟨3, t141, (⟨0, 0, 0⟩ : S64), t146, ([] : List (S66)), ([] : List (S66))⟩ : S66) (Kd.R_nil _ _ _ _ _) (Kd.R_nil _ _ _ _ _)); (case aF => exact (fun k_ hk => Kd.freshB (g := gb143) (o := .cells #[.int .i64 3, .int .i64 t141, .int .i64 0, .int .i64 0, .int .i64 0, .int .i64 t146, .slice none 0 0, .slice none 0 0] 66 (0, 0)) (ZZ BK143.out) k_ hk)); (case aO => exact (by (with_reducible repeat (first | apply Kd.R_alloc | apply Kd.R_drewN | apply Kd.R_drew)); exact Kd.R_mono (Kd.R_far (p := ⟨gb143, 5, none⟩) (Kd.R_mono HO_9.out (fun k_ hk => (⟨hk, hk.2⟩ : _ ∧ k_ ≠ gb143))) (fun _ hk => hk.2) (.int .i64 t146)) (fun _ hk => hk.1.2))); (case aS => exact (keep_size (w := w) (g := g) (row := none) (ZJ))); (case aL => have := LMc28.out; omega); intro v156 w37 ho hb hg hat; rw [← Ny155.out] at ho; have n0_ := Aside0.mk (spec_l71Steps.grown_ HI0 hg (IsS55.own_ne HI0.out HO_9.out (by decide))); have n1_ := Aside0.mk (blk_grown (g := gb143) (o := .cells #[.int .i64 3, .int .i64 t141, .int .i64 0, .int .i64 0, .int .i64 0, .int .i64 t146, .slice none 0 0, .slice none 0 0] 66 (0, 0)) (ZZ BK143.out) hg (Kd.R_away HO_9.out (fun _ hk => hk.2))); have n2_ := Aside0.mk (below_weaken (ZBI) HL.out hb); have n3_ := Aside0.mk (KeepBut.trans (ZJ) (KeepBut.of_grown hg g) (Kd.R_base2 HO_9.out)); have n4_ := Aside0.mk (ho); clear HI0; clear BK143; clear HB; clear HK; clear HO_9; have HI0 := n0_; have BK143 := n1_; have HB := n2_; have HK := n3_; have HO157 := n4_; clear n0_ n1_ n2_ n3_ n4_; clear ho hb hg hat))
       go_roundg k1
       case measure => have := HK1.out; omega
       case rel => exact ⟨(y155), (wrap64 (x10_1 - 1)), (t147), (by first | rfl | (simp; done) | (simp [*]; done)), H', ⟨by have := HK1.out; omega⟩, ⟨ZR (Kd.R_mono HO157.out (fun _ hk => trivial))⟩, ⟨ZI⟩, ⟨ZJ⟩, ⟨ZBI⟩⟩
      ·rw [if_neg c28] at H
       exact absurd H (by simp)
    ·rw [if_neg c12] at H
     have c12b0 : (t144 == 0) = false := beq_eq_false_iff_ne.mpr c12
     have c12b1 : (t144 != 0) = true := bne_iff_ne.mpr c12
     have HC38 := Aside0.mk H
     clear H
     go_upto_if 33 with (first | ((with_reducible refine gate_callee (f := 17) rfl ?_); refine goesL_ (some 23) rfl rfl Try.func17 (by kernel_rfl) rfl #[.pointer (some ⟨g, 0, none⟩), .int .i64 a3] rfl ZG ?_; (with_reducible refine (spec_l6Rd_pick.calls k1 g s0_0 x1001_1 a3 t141 t142 w0 _ ?side1 ?side2 A10.out).mono ?_); (case side1 => exact ZI); (case side2 => exact ZBI); rintro e w39 ⟨rfl, hi, hb, hk⟩; refine ⟨_, rfl, ?_⟩; replace HO_9 := Aside0.mk (Kd.R_mono (Kd.R_keep (IsS55.apart (show IsS55 w0 _ g s0_0 x1001_1 from ZI) (ZR HO_9.out) (by decide)) hk (fun _ h => h.2)) (fun _ h => h.1)); replace HK := ZKT HK hk; replace HB := Aside0.mk (hb); replace HI0 := Aside0.mk (hi); (try clear hb); (try clear hb2); (try clear hk); (try clear hi)) | ((with_reducible refine gate_dst (N := 11) rfl ?_); refine ZX (N := 11) (cs := #[.int .i64 0, .int .i64 0, .int .i64 0, .int .i64 0, .int .i64 0, .int .i64 0, .slice none 0 0, .slice none 0 0]) (t := 66) ?_; intro gb143 hg w40 hbox hb; have BK143 := Aside0.mk (hbox); have GW143 := Aside0.mk ((by rw [hg]; exact (keep_size (w := w) (g := g) (row := none) (ZJ)) : w.heap.size ≤ gb143)); have GE143 := Aside0.mk ((Nat.le_trans HW0.out (by rw [hg]; exact (keep_size (w := w) (g := g) (row := none) (ZJ)) : w.heap.size ≤ gb143) : w0.heap.size ≤ gb143)); have NB0_143 := Aside0.mk ((by rw [hg]; exact Nat.ne_of_lt (IsS55.lt (show IsS55 w0 _ g s0_0 t142 from ZI)) : g ≠ gb143)); have NB143_0 := Aside0.mk ((by rw [hg]; exact Nat.ne_of_gt (IsS55.lt (show IsS55 w0 _ g s0_0 t142 from ZI)) : gb143 ≠ g)); replace HO_9 := Aside0.mk (Kd.R_below (Kd.R_elderB (ZR HO_9.out) gb143 (Nat.le_of_eq hg.symm)) hb); replace HK := ZKT HK (KeepBut.of_below hb g none); replace HB := ZTI HB hb; replace HI0 := Aside0.mk (IsS55.below (ZI) hb); clear hb hbox hg; have hnb41 := NB143_0.out; have hnc41 := NB0_143.out; obtain ⟨hcz42_0, hcz42_1, hcz42_2, hcz42_3, hcz42_4, hcz42_5, hcz42_6, hcz42_7⟩ := ZC8 w40 BK143; obtain ⟨hfz42_0, hfz42_1, hfz42_2, hfz42_3, hfz42_4, hfz42_5, hfz42_6, hfz42_7⟩ := ZF8 BK143) | ((with_reducible refine gate_callee (f := 17) rfl ?_); refine goesL_ (some 26) rfl rfl Try.func17 (by kernel_rfl) rfl #[.pointer (some ⟨g, 0, none⟩), .int .i64 5] rfl ZG ?_; (with_reducible refine (spec_l6Rd_pick.calls k1 g s0_0 t142 5 t144 t145 w0 _ ?side1 ?side2 A11.out).mono ?_); (case side1 => exact ZI); (case side2 => exact ZBI); rintro e w43 ⟨rfl, hi, hb, hk⟩; refine ⟨_, rfl, ?_⟩; replace HO_9 := Aside0.mk (Kd.R_mono (Kd.R_keep (IsS55.apart (show IsS55 w0 _ g s0_0 t142 from ZI) (by (with_reducible repeat (first | apply Kd.R_alloc | apply Kd.R_drewN | apply Kd.R_drew)); exact (Kd.R_mono (Kd.R_far (p := ⟨gb143, 7, none⟩) (Kd.R_far (p := ⟨gb143, 6, none⟩) (Kd.R_far (p := ⟨gb143, 5, none⟩) (Kd.R_far (p := ⟨gb143, 4, none⟩) (Kd.R_far (p := ⟨gb143, 3, none⟩) (Kd.R_far (p := ⟨gb143, 2, none⟩) (Kd.R_far (p := ⟨gb143, 1, none⟩) (Kd.R_far (p := ⟨gb143, 0, none⟩) (Kd.R_mono HO_9.out (fun k_ hk => (⟨hk, hk.2⟩ : _ ∧ k_ ≠ gb143))) (fun _ hk => hk.2) (.int .i64 1)) (fun _ hk => hk.2) (.int .i64 t141)) (fun _ hk => hk.2) (.int .i64 0)) (fun _ hk => hk.2) (.int .i64 0)) (fun _ hk => hk.2) (.int .i64 0)) (fun _ hk => hk.2) (.int .i64 0)) (fun _ hk => hk.2) (.slice none 0 0)) (fun _ hk => hk.2) (.slice none 0 0)) (fun _ h_ => h_.1))) (by decide)) hk (fun _ h => h.2)) (fun _ h => h.1)); replace BK143 := ZLV #[.int .i64 1, .int .i64 t141, .int .i64 0, .int .i64 0, .int .i64 0, .int .i64 0, .slice none 0 0, .slice none 0 0] hk BK143 NB143_0; replace HK := ZKT HK hk; replace HB := Aside0.mk (hb); replace HI0 := Aside0.mk (hi); (try clear hb); (try clear hb2); (try clear hk); (try clear hi)))
     (try simp only [Act.put, List.setIfInBounds_toArray, List.set_cons_zero, List.set_cons_succ])
     go_cut [33] (fun v33 wc => ∃ (kq : Nat) (x33_37 : Bool), v33 = .bool x33_37 ∧ Aside0 (spec_l71Steps.j1 kq a2 a3 x9_1 x10_1 x33_37 s0_0 t145 1 t141 0 0 0 0 = some (r1, r2)) ∧ Aside0 (kq ≤ k1) ∧ Aside0 (Kd.R k66 66 wc w.heap.size (fun k_ => k_ ≠ gb143) u9 x9_1) ∧ Aside0 (wc.heap[gb143]? = some (.cells #[.int .i64 1, .int .i64 t141, .int .i64 0, .int .i64 0, .int .i64 0, .int .i64 0, (.slice none 0 0), (.slice none 0 0)] 66 (0, 0))) ∧ Aside0 (IsS55 w0 wc g s0_0 t145) ∧ Aside0 (KeepBut w wc g none) ∧ Aside0 (Below w0.heap.size w0 wc))
     case first =>
      have H := HC38.out
      clear HC38
      by_cases c44 : t144 = 1
      ·rw [if_pos c44] at H
       have c44b0 : (t144 == 1) = true := beq_iff_eq.mpr c44
       have c44b1 : (t144 != 1) = false := bne_eq_false_iff_eq.mpr c44
       clear c44
       (first | rw [c44b0] | (simp only [i64_w, i32_w]; rw [c44b0]) | skip)
       have H' := Aside0.mk H
       clear H
       go_wp2
       go_meet
       case rel => exact ⟨_, ((t144 == 1)), (by first | rfl | (simp; done) | (simp [*]; done)), H', ⟨by have := HK1.out; first | omega | exact Nat.le_refl _⟩, ⟨ZR (Kd.R_mono HO_9.out (fun _ hk => hk.2))⟩, ⟨ZK BK143.out⟩, ⟨ZI⟩, ⟨ZJ⟩, ⟨ZBI⟩⟩
      ·rw [if_neg c44] at H
       have c44b0 : (t144 == 1) = false := beq_eq_false_iff_ne.mpr c44
       have c44b1 : (t144 != 1) = true := bne_iff_ne.mpr c44
       (first | rw [c44b0] | (simp only [i64_w, i32_w]; rw [c44b0]) | skip)
       have H' := Aside0.mk H
       clear H
       go_wp2
       go_meet
       case rel => exact ⟨_, ((t144 == 2)), (by first | rfl | (simp; done) | (simp [*]; done)), H', ⟨by have := HK1.out; first | omega | exact Nat.le_refl _⟩, ⟨ZR (Kd.R_mono HO_9.out (fun _ hk => hk.2))⟩, ⟨ZK BK143.out⟩, ⟨ZI⟩, ⟨ZJ⟩, ⟨ZBI⟩⟩
     case rest =>
      clear HC38
      try clear c1
      try clear c2
      try clear p2
      try clear c3
      try clear c4
      try clear p6
      try clear c9
      try clear c9b0
      try clear c12
      try clear c12b0
      try clear c12b1
      try clear c14
      try clear c14b0
      try clear c14b1
      try clear c16
      try clear c17
      try clear c19
      try clear c21
      try clear c25
      try clear c28
      try clear c31
      try clear c41
      try clear c44
      try clear c44b0
      try clear c44b1
      try clear hcz20_0
      try clear hcz20_1
      try clear hcz20_2
      try clear hcz20_3
      try clear hcz20_4
      try clear hcz20_5
      try clear hcz20_6
      try clear hcz20_7
      try clear hcz22_0
      try clear hcz22_1
      try clear hcz22_2
      try clear hcz22_3
      try clear hcz22_4
      try clear hcz22_5
      try clear hcz22_6
      try clear hcz22_7
      try clear hcz24_0
      try clear hcz24_1
      try clear hcz24_2
      try clear hcz24_3
      try clear hcz24_4
      try clear hcz24_5
      try clear hcz24_6
      try clear hcz24_7
      try clear hcz26_0
      try clear hcz26_1
      try clear hcz26_2
      try clear hcz26_3
      try clear hcz26_4
      try clear hcz26_5
      try clear hcz26_6
      try clear hcz26_7
      try clear hcz32_0
      try clear hcz32_1
      try clear hcz32_2
      try clear hcz32_3
      try clear hcz32_4
      try clear hcz32_5
      try clear hcz32_6
      try clear hcz32_7
      try clear hcz34_0
      try clear hcz34_1
      try clear hcz34_2
      try clear hcz34_3
      try clear hcz34_4
      try clear hcz34_5
      try clear hcz34_6
      try clear hcz34_7
      try clear hcz36_0
      try clear hcz36_1
      try clear hcz36_2
      try clear hcz36_3
      try clear hcz36_4
      try clear hcz36_5
      try clear hcz36_6
      try clear hcz36_7
      try clear hcz42_0
      try clear hcz42_1
      try clear hcz42_2
      try clear hcz42_3
      try clear hcz42_4
      try clear hcz42_5
      try clear hcz42_6
      try clear hcz42_7
      try clear hfz20_0
      try clear hfz20_1
      try clear hfz20_2
      try clear hfz20_3
      try clear hfz20_4
      try clear hfz20_5
      try clear hfz20_6
      try clear hfz20_7
      try clear hfz22_0
      try clear hfz22_1
      try clear hfz22_2
      try clear hfz22_3
      try clear hfz22_4
      try clear hfz22_5
      try clear hfz22_6
      try clear hfz22_7
      try clear hfz24_0
      try clear hfz24_1
      try clear hfz24_2
      try clear hfz24_3
      try clear hfz24_4
      try clear hfz24_5
      try clear hfz24_6
      try clear hfz24_7
      try clear hfz26_0
      try clear hfz26_1
      try clear hfz26_2
      try clear hfz26_3
      try clear hfz26_4
      try clear hfz26_5
      try clear hfz26_6
      try clear hfz26_7
      try clear hfz32_0
      try clear hfz32_1
      try clear hfz32_2
      try clear hfz32_3
      try clear hfz32_4
      try clear hfz32_5
      try clear hfz32_6
      try clear hfz32_7
      try clear hfz34_0
      try clear hfz34_1
      try clear hfz34_2
      try clear hfz34_3
      try clear hfz34_4
      try clear hfz34_5
      try clear hfz34_6
      try clear hfz34_7
      try clear hfz36_0
      try clear hfz36_1
      try clear hfz36_2
      try clear hfz36_3
      try clear hfz36_4
      try clear hfz36_5
      try clear hfz36_6
      try clear hfz36_7
      try clear hfz42_0
      try clear hfz42_1
      try clear hfz42_2
      try clear hfz42_3
      try clear hfz42_4
      try clear hfz42_5
      try clear hfz42_6
      try clear hfz42_7
      try clear p2
      try clear p6
      obtain ⟨kq, x33_37, rfl, HA, HJ37, HO_9, BK143, HI0, HK, HB⟩ := hcut
      cases kq with
      | zero => exact absurd HA.out (by simp [spec_l71Steps.j1])
      | succ kj37 =>
       have H := HA.out
       clear HA
       simp only [spec_l71Steps.j1] at H
       by_cases c45 : x33_37 = true
       ·subst c45
        have H1 : (if a2 > 1 then ((spec_l71Steps.f kj37 s0_0 t145 2 (wrap64 (a2 - 1)) a3).bind fun bt158 => ((spec_l71Steps.f kj37 s0_0 bt158.2 2 (wrap64 (a2 - 1)) a3).bind fun bt162 => (if 2 = 1 then ((spec_l71Val.f kj37 s0_0 bt162.2 a3).bind fun bt166 => (if x9_1.length < 1466015503701 then (spec_l71Steps.l0 kj37 a2 a3 (x9_1 ++ [(⟨2, t141, (⟨bt166.1, bt166.2.1, bt166.2.2.1⟩ : S64), 0, bt158.1, bt162.1⟩ : S66)]) (wrap64 (x10_1 - 1)) s0_0 bt166.2.2.2) else (none))) else (if x9_1.length < 1466015503701 then (spec_l71Steps.l0 kj37 a2 a3 (x9_1 ++ [(⟨2, t141, (⟨0, 0, 0⟩ : S64), 0, bt158.1, bt162.1⟩ : S66)]) (wrap64 (x10_1 - 1)) s0_0 bt162.2) else (none))))) else (if 1 = 1 then ((spec_l71Val.f kj37 s0_0 t145 a3).bind fun bt176 => (if x9_1.length < 1466015503701 then (spec_l71Steps.l0 kj37 a2 a3 (x9_1 ++ [(⟨1, t141, (⟨bt176.1, bt176.2.1, bt176.2.2.1⟩ : S64), 0, ([] : List (S66)), ([] : List (S66))⟩ : S66)]) (wrap64 (x10_1 - 1)) s0_0 bt176.2.2.2) else (none))) else (if x9_1.length < 1466015503701 then (spec_l71Steps.l0 kj37 a2 a3 (x9_1 ++ [(⟨1, t141, (⟨0, 0, 0⟩ : S64), 0, ([] : List (S66)), ([] : List (S66))⟩ : S66)]) (wrap64 (x10_1 - 1)) s0_0 t145) else (none)))) = some (r1, r2) := by rw [if_pos rfl] at H; exact H
        clear H
        have H := H1
        clear H1
        by_cases c46 : a2 > 1
        ·rw [if_pos c46] at H
         have c46b0 : decide (1 < a2) = true := decide_eq_true c46
         clear c46
         replace H := Option.bind_eq_some_iff.mp H
         obtain ⟨⟨t158, t161⟩, A470, H⟩ := H
         replace H : ((spec_l71Steps.f kj37 s0_0 t161 2 (wrap64 (a2 - 1)) a3).bind fun bt162 => (if 2 = 1 then ((spec_l71Val.f kj37 s0_0 bt162.2 a3).bind fun bt166 => (if x9_1.length < 1466015503701 then (spec_l71Steps.l0 kj37 a2 a3 (x9_1 ++ [(⟨2, t141, (⟨bt166.1, bt166.2.1, bt166.2.2.1⟩ : S64), 0, t158, bt162.1⟩ : S66)]) (wrap64 (x10_1 - 1)) s0_0 bt166.2.2.2) else (none))) else (if x9_1.length < 1466015503701 then (spec_l71Steps.l0 kj37 a2 a3 (x9_1 ++ [(⟨2, t141, (⟨0, 0, 0⟩ : S64), 0, t158, bt162.1⟩ : S66)]) (wrap64 (x10_1 - 1)) s0_0 bt162.2) else (none)))) = some (r1, r2) := H
         have A47 := Aside0.mk A470
         clear A470
         replace H := Option.bind_eq_some_iff.mp H
         obtain ⟨⟨t162, t165⟩, A480, H⟩ := H
         replace H : (if 2 = 1 then ((spec_l71Val.f kj37 s0_0 t165 a3).bind fun bt166 => (if x9_1.length < 1466015503701 then (spec_l71Steps.l0 kj37 a2 a3 (x9_1 ++ [(⟨2, t141, (⟨bt166.1, bt166.2.1, bt166.2.2.1⟩ : S64), 0, t158, t162⟩ : S66)]) (wrap64 (x10_1 - 1)) s0_0 bt166.2.2.2) else (none))) else (if x9_1.length < 1466015503701 then (spec_l71Steps.l0 kj37 a2 a3 (x9_1 ++ [(⟨2, t141, (⟨0, 0, 0⟩ : S64), 0, t158, t162⟩ : S66)]) (wrap64 (x10_1 - 1)) s0_0 t165) else (none))) = some (r1, r2) := H
         have A48 := Aside0.mk A480
         clear A480
         by_cases c49 : 2 = 1
         ·exact absurd c49 (by decide)
         ·rw [if_neg c49] at H
          have c49b0 : (2 == 1) = false := beq_eq_false_iff_ne.mpr c49
          have c49b1 : (2 != 1) = true := bne_iff_ne.mpr c49
          by_cases c65 : x9_1.length < 1466015503701
          ·rw [if_pos c65] at H
           have LMc65 := Aside0.mk c65
           clear c65
           obtain ⟨y173, hy173⟩ : ∃ y_ : List (S66), y_ = (x9_1 ++ [(⟨2, t141, (⟨0, 0, 0⟩ : S64), 0, t158, t162⟩ : S66)]) := ⟨_, rfl⟩
           replace H : (spec_l71Steps.l0 kj37 a2 a3 y173 (wrap64 (x10_1 - 1)) s0_0 t165) = some (r1, r2) := by first | (rw [hy173]; with_reducible exact H) | (have H2_ := (Option.bind_some _ _).symm.trans H; rw [hy173]; with_reducible exact H2_) | (have H2_ := (Option.bind_some _ _).symm.trans H; with_reducible exact H2_) | with_reducible exact H | (rw [hy173]; exact H) | exact H
           have Ny173 := Aside0.mk hy173
           clear hy173
           have H' := Aside0.mk H
           clear H
           have hnb66 := NB143_0.out
           have hnc66 := NB0_143.out
           obtain ⟨hcz67_0, hcz67_1, hcz67_2, hcz67_3, hcz67_4, hcz67_5, hcz67_6, hcz67_7⟩ := ZC8 wc BK143
           obtain ⟨hfz67_0, hfz67_1, hfz67_2, hfz67_3, hfz67_4, hfz67_5, hfz67_6, hfz67_7⟩ := ZF8 BK143
           go_wp2_with (first | ((with_reducible refine gate_callee (f := 21) rfl ?_); refine goesL_ (some 43) rfl rfl Try.func21 (by kernel_rfl) rfl #[.pointer (some ⟨g, 0, none⟩), .int .i64 2, .int .i64 (wrap64 (a2 - 1)), .int .i64 a3] rfl ZG ?_; (with_reducible refine (ih kj37 (by have := HK1.out; have := HJ37.out; omega) g s0_0 t145 2 (wrap64 (a2 - 1)) a3 t158 t161 w0 _ ?side1 ?side2 A47.out).mono ?_); (case side1 => exact ZI); (case side2 => exact ZBI); rintro e w68 ⟨v159, rfl, ho0, hi, hb, hk⟩; refine ⟨_, rfl, ?_⟩; have HO160 := Aside0.mk (Kd.R_lower (Kd.R_newB (Kd.R_new' ho0 (Kd.R_lt (by (with_reducible repeat (first | apply Kd.R_alloc | apply Kd.R_drewN | apply Kd.R_drew)); exact (Kd.R_mono (Kd.R_far (p := ⟨gb143, 0, none⟩) (Kd.R_mono HO_9.out (fun k_ hk => (⟨hk, hk⟩ : _ ∧ k_ ≠ gb143))) (fun _ hk => hk.2) (.int .i64 2)) (fun _ h_ => h_.1))))) (g := gb143) (o := .cells #[.int .i64 2, .int .i64 t141, .int .i64 0, .int .i64 0, .int .i64 0, .int .i64 0, .slice none 0 0, .slice none 0 0] 66 (0, 0)) (ZZ BK143.out)) (keep_size (w := w) (g := g) (row := none) (ZJ))); replace HO_9 := Aside0.mk (Kd.R_mono (Kd.R_told (Kd.R_oldK (IsS55.apart (show IsS55 w0 _ g s0_0 t145 from ZI) (by (with_reducible repeat (first | apply Kd.R_alloc | apply Kd.R_drewN | apply Kd.R_drew)); exact (Kd.R_mono (Kd.R_far (p := ⟨gb143, 0, none⟩) (Kd.R_mono HO_9.out (fun k_ hk => (⟨hk, hk⟩ : _ ∧ k_ ≠ gb143))) (fun _ hk => hk.2) (.int .i64 2)) (fun _ h_ => h_.1))) (by decide)) hk) (Kd.R_base ho0)) (fun _ h_ => h_.1)); replace BK143 := ZLV #[.int .i64 2, .int .i64 t141, .int .i64 0, .int .i64 0, .int .i64 0, .int .i64 0, .slice none 0 0, .slice none 0 0] hk BK143 NB143_0; replace HK := ZKT HK hk; replace HB := Aside0.mk (hb); replace HI0 := Aside0.mk (hi); (try clear hb); (try clear hb2); (try clear hk); (try clear hi); (try clear ho0); obtain ⟨Ao69, co69, eo69⟩ := Kd.R_slice HO160.out; subst eo69; obtain ⟨hcz70_0, hcz70_1, hcz70_2, hcz70_3, hcz70_4, hcz70_5, hcz70_6, hcz70_7⟩ := ZC8 w68 BK143; obtain ⟨hfz70_0, hfz70_1, hfz70_2, hfz70_3, hfz70_4, hfz70_5, hfz70_6, hfz70_7⟩ := ZF8 BK143) | ((with_reducible refine gate_callee (f := 21) rfl ?_); refine goesL_ (some 49) rfl rfl Try.func21 (by kernel_rfl) rfl #[.pointer (some ⟨g, 0, none⟩), .int .i64 2, .int .i64 (wrap64 (a2 - 1)), .int .i64 a3] rfl ZG ?_; (with_reducible refine (ih kj37 (by have := HK1.out; have := HJ37.out; omega) g s0_0 t161 2 (wrap64 (a2 - 1)) a3 t162 t165 w0 _ ?side1 ?side2 A48.out).mono ?_); (case side1 => exact ZI); (case side2 => exact ZBI); rintro e w71 ⟨v163, rfl, ho0, hi, hb, hk⟩; refine ⟨_, rfl, ?_⟩; have HO164 := Aside0.mk (Kd.R_lower (Kd.R_newB (Kd.R_new' (Kd.R_new' ho0 (Kd.R_lt (by (with_reducible repeat (first | apply Kd.R_alloc | apply Kd.R_drewN | apply Kd.R_drew)); exact (Kd.R_mono (Kd.R_far (p := ⟨gb143, 6, none⟩) (Kd.R_mono HO_9.out (fun k_ hk => (⟨hk, hk.1⟩ : _ ∧ k_ ≠ gb143))) (fun _ hk => hk.2) (.slice Ao69 t158.length co69)) (fun _ h_ => h_.1))))) (Kd.R_lt (by (with_reducible repeat (first | apply Kd.R_alloc | apply Kd.R_drewN | apply Kd.R_drew)); exact (Kd.R_mono (Kd.R_far (p := ⟨gb143, 6, none⟩) (Kd.R_mono HO160.out (fun k_ hk => (⟨hk, hk.2⟩ : _ ∧ k_ ≠ gb143))) (fun _ hk => hk.2) (.slice Ao69 t158.length co69)) (fun _ h_ => h_.1))))) (g := gb143) (o := .cells #[.int .i64 2, .int .i64 t141, .int .i64 0, .int .i64 0, .int .i64 0, .int .i64 0, .slice Ao69 t158.length co69, .slice none 0 0] 66 (0, 0)) (ZZ BK143.out)) (keep_size (w := w) (g := g) (row := none) (ZJ))); replace HO_9 := Aside0.mk (Kd.R_mono (Kd.R_told (Kd.R_oldK (IsS55.apart (show IsS55 w0 _ g s0_0 t161 from ZI) (by (with_reducible repeat (first | apply Kd.R_alloc | apply Kd.R_drewN | apply Kd.R_drew)); exact (Kd.R_mono (Kd.R_far (p := ⟨gb143, 6, none⟩) (Kd.R_mono HO_9.out (fun k_ hk => (⟨hk, hk.1⟩ : _ ∧ k_ ≠ gb143))) (fun _ hk => hk.2) (.slice Ao69 t158.length co69)) (fun _ h_ => h_.1))) (by decide)) hk) (Kd.R_base ho0)) (fun _ h_ => h_.1)); replace BK143 := ZLV #[.int .i64 2, .int .i64 t141, .int .i64 0, .int .i64 0, .int .i64 0, .int .i64 0, .slice Ao69 t158.length co69, .slice none 0 0] hk BK143 NB143_0; replace HO160 := Aside0.mk (Kd.R_mono (Kd.R_told (Kd.R_oldK (IsS55.apart (show IsS55 w0 _ g s0_0 t161 from ZI) (by (with_reducible repeat (first | apply Kd.R_alloc | apply Kd.R_drewN | apply Kd.R_drew)); exact (Kd.R_mono (Kd.R_far (p := ⟨gb143, 6, none⟩) (Kd.R_mono HO160.out (fun k_ hk => (⟨hk, hk.2⟩ : _ ∧ k_ ≠ gb143))) (fun _ hk => hk.2) (.slice Ao69 t158.length co69)) (fun _ h_ => h_.1))) (by decide)) hk) (Kd.R_base ho0)) (fun _ h_ => h_.1)); replace HK := ZKT HK hk; replace HB := Aside0.mk (hb); replace HI0 := Aside0.mk (hi); (try clear hb); (try clear hb2); (try clear hk); (try clear hi); (try clear ho0); obtain ⟨Ao72, co72, eo72⟩ := Kd.R_slice HO164.out; subst eo72; obtain ⟨hcz73_0, hcz73_1, hcz73_2, hcz73_3, hcz73_4, hcz73_5, hcz73_6, hcz73_7⟩ := ZC8 w71 BK143; obtain ⟨hfz73_0, hfz73_1, hfz73_2, hfz73_3, hfz73_4, hfz73_5, hfz73_6, hfz73_7⟩ := ZF8 BK143) | ((with_reducible refine gate_store (t := 41) (p := 50) rfl ?_); refine store_event (t := 41) (p := 50) (v := ?vo_w74) (w1 := (w71.setCell ⟨gb143, 7, none⟩ (.slice Ao72 t162.length co72))) ?hg ?ho ?hn ?hr ?_; (case ho => rfl); (case hg => rfl); (case hn => rfl); (case hr => first | (go_simp; done) | (go_simp; rfl)); intro w74 hw; have n0_ : Aside0 (Kd.R k66 66 w74 w.heap.size (fun k_ => some k_ ≠ (.slice Ao69 t158.length co69 : Value).ownBlock ∧ some k_ ≠ (.slice Ao72 t162.length co72 : Value).ownBlock ∧ k_ ≠ gb143) u9 x9_1) := ⟨(by rw [hw]; exact (by (with_reducible repeat (first | apply Kd.R_alloc | apply Kd.R_drewN | apply Kd.R_drew)); exact Kd.R_mono (Kd.R_far (p := ⟨gb143, 7, none⟩) (Kd.R_mono HO_9.out (fun k_ hk => (⟨hk, hk.1.1⟩ : _ ∧ k_ ≠ gb143))) (fun _ hk => hk.2) (.slice Ao72 t162.length co72)) (fun _ hk => ⟨hk.1.1.2, ⟨hk.1.2, hk.1.1.1⟩⟩)))⟩; have n1_ : Aside0 (Kd.R k66 66 w74 w.heap.size (fun k_ => some k_ ≠ (u9 : Value).ownBlock ∧ some k_ ≠ (.slice Ao72 t162.length co72 : Value).ownBlock ∧ k_ ≠ gb143) (.slice Ao69 t158.length co69) t158) := ⟨(by rw [hw]; exact (by (with_reducible repeat (first | apply Kd.R_alloc | apply Kd.R_drewN | apply Kd.R_drew)); exact Kd.R_mono (Kd.R_far (p := ⟨gb143, 7, none⟩) (Kd.R_mono HO160.out (fun k_ hk => (⟨hk, hk.1.2⟩ : _ ∧ k_ ≠ gb143))) (fun _ hk => hk.2) (.slice Ao72 t162.length co72)) (fun _ hk => ⟨hk.1.1.1.2, ⟨hk.1.2, hk.1.1.2⟩⟩)))⟩; have n2_ : Aside0 (Kd.R k66 66 w74 w.heap.size (fun k_ => some k_ ≠ (u9 : Value).ownBlock ∧ some k_ ≠ (.slice Ao69 t158.length co69 : Value).ownBlock ∧ k_ ≠ gb143) (.slice Ao72 t162.length co72) t162) := ⟨(by rw [hw]; exact (by (with_reducible repeat (first | apply Kd.R_alloc | apply Kd.R_drewN | apply Kd.R_drew)); exact Kd.R_mono (Kd.R_far (p := ⟨gb143, 7, none⟩) (Kd.R_mono HO164.out (fun k_ hk => (⟨hk, hk.2⟩ : _ ∧ k_ ≠ gb143))) (fun _ hk => hk.2) (.slice Ao72 t162.length co72)) (fun _ hk => ⟨hk.1.1.1.2, ⟨hk.1.1.2, hk.1.2⟩⟩)))⟩; have n3_ : Aside0 (w74.heap[gb143]? = some (.cells #[.int .i64 2, .int .i64 t141, .int .i64 0, .int .i64 0, .int .i64 0, .int .i64 0, .slice Ao69 t158.length co69, .slice Ao72 t162.length co72] 66 (0, 0))) := ⟨(by rw [hw]; exact (ZZ BK143.out))⟩; have n4_ : Aside0 (IsS55 w0 w74 g s0_0 t165) := ⟨(by rw [hw]; exact (ZI))⟩; have n5_ : Aside0 (KeepBut w w74 g none) := ⟨(by rw [hw]; exact (ZJ))⟩; have n6_ : Aside0 (Below w0.heap.size w0 w74) := ⟨(by rw [hw]; exact (ZBI))⟩; clear hw; clear HO_9; clear HO160; clear HO164; clear BK143; clear HI0; clear HK; clear HB; have HO_9 := n0_; have HO160 := n1_; have HO164 := n2_; have BK143 := n3_; have HI0 := n4_; have HK := n5_; have HB := n6_; clear n0_ n1_ n2_ n3_ n4_ n5_ n6_; obtain ⟨hcz75_0, hcz75_1, hcz75_2, hcz75_3, hcz75_4, hcz75_5, hcz75_6, hcz75_7⟩ := ZC8 w74 BK143; obtain ⟨hfz75_0, hfz75_1, hfz75_2, hfz75_3, hfz75_4, hfz75_5, hfz75_6, hfz75_7⟩ := ZF8 BK143) | ((with_reducible refine gate_builtin (b := .append) (xs := #[.tmp 58, .tmp 60]) rfl ?_); at_builtin; refine Kd.R_append k66 w.heap.size rfl (.tmp 58) (.tmp 60) 41 66 (.agg #[(.int .i64 0), (.int .i64 0), (.int .i64 0), (.int .i64 0), (.int .i64 0), (.int .i64 0), (.slice none 0 0), (.slice none 0 0)]) 96 rfl Try.underlying41 info66 rfl (by decide) (by omega) u9 x9_1 (⟨2, t141, (⟨0, 0, 0⟩ : S64), 0, t158, t162⟩ : S66) [.int .i64 2, .int .i64 t141, .int .i64 0, .int .i64 0, .int .i64 0, .int .i64 0, .slice Ao69 t158.length co69, .slice Ao72 t162.length co72] (fun k_ => k_ ≠ gb143) (fun k_ => ((fun k_ => k_ ≠ gb143)) k_ ∧ some k_ ≠ (u9 : Value).ownBlock) rfl rfl ?aP (fun _ hk => hk) ?aF ?aO (Below.refl _ _) ?aS ?aL ?_; (case aP => exact k66_mkM _ _ _ (⟨2, t141, (⟨0, 0, 0⟩ : S64), 0, t158, t162⟩ : S66) (Kd.R_mono (HO160.out) (fun k_ hk => ⟨hk.2.2, hk.1⟩)) (Kd.R_mono (HO164.out) (fun k_ hk => ⟨hk.2.2, hk.1⟩))); (case aF => exact (fun k_ hk => Kd.freshB (g := gb143) (o := .cells #[.int .i64 2, .int .i64 t141, .int .i64 0, .int .i64 0, .int .i64 0, .int .i64 0, .slice Ao69 t158.length co69, .slice Ao72 t162.length co72] 66 (0, 0)) (ZK BK143.out) k_ hk)); (case aO => exact (ZR (Kd.R_mono HO_9.out (fun _ hk => hk.2.2)))); (case aS => exact (keep_size (w := w) (g := g) (row := none) (ZJ))); (case aL => have := LMc65.out; omega); intro v174 w76 ho hb hg hat; rw [← Ny173.out] at ho; have n0_ := Aside0.mk (blk_grown (g := gb143) (o := .cells #[.int .i64 2, .int .i64 t141, .int .i64 0, .int .i64 0, .int .i64 0, .int .i64 0, .slice Ao69 t158.length co69, .slice Ao72 t162.length co72] 66 (0, 0)) (ZK BK143.out) hg (Kd.R_away HO_9.out (fun _ hk => hk.2.2))); have n1_ := Aside0.mk (spec_l71Steps.grown_ HI0 hg (IsS55.own_ne HI0.out HO_9.out (by decide))); have n2_ := Aside0.mk (below_weaken (ZBI) HL.out hb); have n3_ := Aside0.mk (KeepBut.trans (ZJ) (KeepBut.of_grown hg g) (Kd.R_base2 HO_9.out)); have n4_ := Aside0.mk (ho); clear BK143; clear HI0; clear HB; clear HK; clear HO_9; clear HO160; clear HO164; have BK143 := n0_; have HI0 := n1_; have HB := n2_; have HK := n3_; have HO175 := n4_; clear n0_ n1_ n2_ n3_ n4_; clear ho hb hg hat))
           go_roundg kj37
           case measure => have := HK1.out; have := HJ37.out; omega
           case rel => exact ⟨(y173), (wrap64 (x10_1 - 1)), (t165), (by first | rfl | (simp; done) | (simp [*]; done)), H', ⟨by have := HK1.out; have := HJ37.out; omega⟩, ⟨ZR (Kd.R_mono HO175.out (fun _ hk => trivial))⟩, ⟨ZI⟩, ⟨ZJ⟩, ⟨ZBI⟩⟩
          ·rw [if_neg c65] at H
           exact absurd H (by simp)
        ·rw [if_neg c46] at H
         have c46b0 : decide (1 < a2) = false := decide_eq_false c46
         clear c46
         by_cases c77 : 1 = 1
         ·rw [if_pos c77] at H
          have c77b0 : (1 == 1) = true := beq_iff_eq.mpr c77
          have c77b1 : (1 != 1) = false := bne_eq_false_iff_eq.mpr c77
          clear c77
          replace H := Option.bind_eq_some_iff.mp H
          obtain ⟨⟨t176, t177, t178, t179⟩, A780, H⟩ := H
          replace H : (if x9_1.length < 1466015503701 then (spec_l71Steps.l0 kj37 a2 a3 (x9_1 ++ [(⟨1, t141, (⟨t176, t177, t178⟩ : S64), 0, ([] : List (S66)), ([] : List (S66))⟩ : S66)]) (wrap64 (x10_1 - 1)) s0_0 t179) else (none)) = some (r1, r2) := H
          have A78 := Aside0.mk A780
          clear A780
          by_cases c79 : x9_1.length < 1466015503701
          ·rw [if_pos c79] at H
           have LMc79 := Aside0.mk c79
           clear c79
           obtain ⟨y180, hy180⟩ : ∃ y_ : List (S66), y_ = (x9_1 ++ [(⟨1, t141, (⟨t176, t177, t178⟩ : S64), 0, ([] : List (S66)), ([] : List (S66))⟩ : S66)]) := ⟨_, rfl⟩
           replace H : (spec_l71Steps.l0 kj37 a2 a3 y180 (wrap64 (x10_1 - 1)) s0_0 t179) = some (r1, r2) := by first | (rw [hy180]; with_reducible exact H) | (have H2_ := (Option.bind_some _ _).symm.trans H; rw [hy180]; with_reducible exact H2_) | (have H2_ := (Option.bind_some _ _).symm.trans H; with_reducible exact H2_) | with_reducible exact H | (rw [hy180]; exact H) | exact H
           have Ny180 := Aside0.mk hy180
           clear hy180
           have H' := Aside0.mk H
           clear H
           have hnb80 := NB143_0.out
           have hnc80 := NB0_143.out
           obtain ⟨hcz81_0, hcz81_1, hcz81_2, hcz81_3, hcz81_4, hcz81_5, hcz81_6, hcz81_7⟩ := ZC8 wc BK143
           obtain ⟨hfz81_0, hfz81_1, hfz81_2, hfz81_3, hfz81_4, hfz81_5, hfz81_6, hfz81_7⟩ := ZF8 BK143
           go_wp2_with (first | ((with_reducible refine gate_callee (f := 25) rfl ?_); refine goesL_ (some 56) rfl rfl Try.func25 (by kernel_rfl) rfl #[.pointer (some ⟨g, 0, none⟩), .int .i64 a3] rfl ZG ?_; (with_reducible refine (spec_l71Val.calls kj37 g s0_0 t145 a3 t176 t177 t178 t179 w0 _ ?side1 ?side2 A78.out).mono ?_); (case side1 => exact ZI); (case side2 => exact ZBI); rintro e w82 ⟨rfl, hi, hb, hk⟩; refine ⟨_, rfl, ?_⟩; replace HO_9 := Aside0.mk (Kd.R_mono (Kd.R_keep (IsS55.apart (show IsS55 w0 _ g s0_0 t145 from ZI) (ZR HO_9.out) (by decide)) hk (fun _ h => h.2)) (fun _ h => h.1)); replace BK143 := ZL hk BK143 NB143_0; replace HK := ZKT HK hk; replace HB := Aside0.mk (hb); replace HI0 := Aside0.mk (hi); (try clear hb); (try clear hb2); (try clear hk); (try clear hi); obtain ⟨hcz83_0, hcz83_1, hcz83_2, hcz83_3, hcz83_4, hcz83_5, hcz83_6, hcz83_7⟩ := ZC8 w82 BK143; obtain ⟨hfz83_0, hfz83_1, hfz83_2, hfz83_3, hfz83_4, hfz83_5, hfz83_6, hfz83_7⟩ := ZF8 BK143) | ((with_reducible refine gate_builtin (b := .append) (xs := #[.tmp 58, .tmp 60]) rfl ?_); at_builtin; refine Kd.R_append k66 w.heap.size rfl (.tmp 58) (.tmp 60) 41 66 (.agg #[(.int .i64 0), (.int .i64 0), (.int .i64 0), (.int .i64 0), (.int .i64 0), (.int .i64 0), (.slice none 0 0), (.slice none 0 0)]) 96 rfl Try.underlying41 info66 rfl (by decide) (by omega) u9 x9_1 (⟨1, t141, (⟨t176, t177, t178⟩ : S64), 0, ([] : List (S66)), ([] : List (S66))⟩ : S66) [.int .i64 1, .int .i64 t141, .int .i64 t176, .int .i64 t177, .int .i64 t178, .int .i64 0, .slice none 0 0, .slice none 0 0] (fun k_ => k_ ≠ gb143) (fun k_ => ((fun k_ => k_ ≠ gb143)) k_ ∧ some k_ ≠ (u9 : Value).ownBlock) rfl (by first | (go_simp; done) | (go_simp; rfl)) ?aP (fun _ hk => hk) ?aF ?aO (Below.refl _ _) ?aS ?aL ?_; (case aP => exact k66_mkM _ _ _ (⟨1, t141, (⟨t176, t177, t178⟩ : S64), 0, ([] : List (S66)), ([] : List (S66))⟩ : S66) (Kd.R_nil _ _ _ _ _) (Kd.R_nil _ _ _ _ _)); (case aF => exact (fun k_ hk => Kd.freshB (g := gb143) (o := .cells #[.int .i64 1, .int .i64 t141, .int .i64 t176, .int .i64 t177, .int .i64 t178, .int .i64 0, .slice none 0 0, .slice none 0 0] 66 (0, 0)) (ZZ BK143.out) k_ hk)); (case aO => exact (by (with_reducible repeat (first | apply Kd.R_alloc | apply Kd.R_drewN | apply Kd.R_drew)); exact Kd.R_mono (Kd.R_far (p := ⟨gb143, 4, none⟩) (Kd.R_far (p := ⟨gb143, 3, none⟩) (Kd.R_far (p := ⟨gb143, 2, none⟩) (Kd.R_mono HO_9.out (fun k_ hk => (⟨hk, hk⟩ : _ ∧ k_ ≠ gb143))) (fun _ hk => hk.2) (.int .i64 t176)) (fun _ hk => hk.2) (.int .i64 t177)) (fun _ hk => hk.2) (.int .i64 t178)) (fun _ hk => hk.1))); (case aS => exact (keep_size (w := w) (g := g) (row := none) (ZJ))); (case aL => have := LMc79.out; omega); intro v181 w84 ho hb hg hat; rw [← Ny180.out] at ho; have n0_ := Aside0.mk (blk_grown (g := gb143) (o := .cells #[.int .i64 1, .int .i64 t141, .int .i64 t176, .int .i64 t177, .int .i64 t178, .int .i64 0, .slice none 0 0, .slice none 0 0] 66 (0, 0)) (ZZ BK143.out) hg (Kd.R_away HO_9.out (fun _ hk => hk))); have n1_ := Aside0.mk (spec_l71Steps.grown_ HI0 hg (IsS55.own_ne HI0.out HO_9.out (by decide))); have n2_ := Aside0.mk (below_weaken (ZBI) HL.out hb); have n3_ := Aside0.mk (KeepBut.trans (ZJ) (KeepBut.of_grown hg g) (Kd.R_base2 HO_9.out)); have n4_ := Aside0.mk (ho); clear BK143; clear HI0; clear HB; clear HK; clear HO_9; have BK143 := n0_; have HI0 := n1_; have HB := n2_; have HK := n3_; have HO182 := n4_; clear n0_ n1_ n2_ n3_ n4_; clear ho hb hg hat))
           go_roundg kj37
           case measure => have := HK1.out; have := HJ37.out; omega
           case rel => exact ⟨(y180), (wrap64 (x10_1 - 1)), (t179), (by first | rfl | (simp; done) | (simp [*]; done)), H', ⟨by have := HK1.out; have := HJ37.out; omega⟩, ⟨ZR (Kd.R_mono HO182.out (fun _ hk => trivial))⟩, ⟨ZI⟩, ⟨ZJ⟩, ⟨ZBI⟩⟩
          ·rw [if_neg c79] at H
           exact absurd H (by simp)
         ·exact absurd rfl c77
       ·replace c45 := Bool.eq_false_iff.mpr c45
        subst c45
        have H1 : (if 1 = 1 then ((spec_l71Val.f kj37 s0_0 t145 a3).bind fun bt186 => (if x9_1.length < 1466015503701 then (spec_l71Steps.l0 kj37 a2 a3 (x9_1 ++ [(⟨1, t141, (⟨bt186.1, bt186.2.1, bt186.2.2.1⟩ : S64), 0, ([] : List (S66)), ([] : List (S66))⟩ : S66)]) (wrap64 (x10_1 - 1)) s0_0 bt186.2.2.2) else (none))) else (if x9_1.length < 1466015503701 then (spec_l71Steps.l0 kj37 a2 a3 (x9_1 ++ [(⟨1, t141, (⟨0, 0, 0⟩ : S64), 0, ([] : List (S66)), ([] : List (S66))⟩ : S66)]) (wrap64 (x10_1 - 1)) s0_0 t145) else (none))) = some (r1, r2) := by rw [if_neg (show ¬ (false = true) by decide)] at H; exact H
        clear H
        have H := H1
        clear H1
        by_cases c89 : 1 = 1
        ·rw [if_pos c89] at H
         have c89b0 : (1 == 1) = true := beq_iff_eq.mpr c89
         have c89b1 : (1 != 1) = false := bne_eq_false_iff_eq.mpr c89
         clear c89
         replace H := Option.bind_eq_some_iff.mp H
         obtain ⟨⟨t186, t187, t188, t189⟩, A900, H⟩ := H
         replace H : (if x9_1.length < 1466015503701 then (spec_l71Steps.l0 kj37 a2 a3 (x9_1 ++ [(⟨1, t141, (⟨t186, t187, t188⟩ : S64), 0, ([] : List (S66)), ([] : List (S66))⟩ : S66)]) (wrap64 (x10_1 - 1)) s0_0 t189) else (none)) = some (r1, r2) := H
         have A90 := Aside0.mk A900
         clear A900
         by_cases c91 : x9_1.length < 1466015503701
         ·rw [if_pos c91] at H
          have LMc91 := Aside0.mk c91
          clear c91
          obtain ⟨y190, hy190⟩ : ∃ y_ : List (S66), y_ = (x9_1 ++ [(⟨1, t141, (⟨t186, t187, t188⟩ : S64), 0, ([] : List (S66)), ([] : List (S66))⟩ : S66)]) := ⟨_, rfl⟩
          replace H : (spec_l71Steps.l0 kj37 a2 a3 y190 (wrap64 (x10_1 - 1)) s0_0 t189) = some (r1, r2) := by first | (rw [hy190]; with_reducible exact H) | (have H2_ := (Option.bind_some _ _).symm.trans H; rw [hy190]; with_reducible exact H2_) | (have H2_ := (Option.bind_some _ _).symm.trans H; with_reducible exact H2_) | with_reducible exact H | (rw [hy190]; exact H) | exact H
          have Ny190 := Aside0.mk hy190
          clear hy190
          have H' := Aside0.mk H
          clear H
          have hnb92 := NB143_0.out
          have hnc92 := NB0_143.out
          obtain ⟨hcz93_0, hcz93_1, hcz93_2, hcz93_3, hcz93_4, hcz93_5, hcz93_6, hcz93_7⟩ := ZC8 wc BK143
          obtain ⟨hfz93_0, hfz93_1, hfz93_2, hfz93_3, hfz93_4, hfz93_5, hfz93_6, hfz93_7⟩ := ZF8 BK143
          go_wp2_with (first | ((with_reducible refine gate_callee (f := 25) rfl ?_); refine goesL_ (some 56) rfl rfl Try.func25 (by kernel_rfl) rfl #[.pointer (some ⟨g, 0, none⟩), .int .i64 a3] rfl ZG ?_; (with_reducible refine (spec_l71Val.calls kj37 g s0_0 t145 a3 t186 t187 t188 t189 w0 _ ?side1 ?side2 A90.out).mono ?_); (case side1 => exact ZI); (case side2 => exact ZBI); rintro e w94 ⟨rfl, hi, hb, hk⟩; refine ⟨_, rfl, ?_⟩; replace HO_9 := Aside0.mk (Kd.R_mono (Kd.R_keep (IsS55.apart (show IsS55 w0 _ g s0_0 t145 from ZI) (ZR HO_9.out) (by decide)) hk (fun _ h => h.2)) (fun _ h => h.1)); replace BK143 := ZL hk BK143 NB143_0; replace HK := ZKT HK hk; replace HB := Aside0.mk (hb); replace HI0 := Aside0.mk (hi); (try clear hb); (try clear hb2); (try clear hk); (try clear hi); obtain ⟨hcz95_0, hcz95_1, hcz95_2, hcz95_3, hcz95_4, hcz95_5, hcz95_6, hcz95_7⟩ := ZC8 w94 BK143; obtain ⟨hfz95_0, hfz95_1, hfz95_2, hfz95_3, hfz95_4, hfz95_5, hfz95_6, hfz95_7⟩ := ZF8 BK143) | ((with_reducible refine gate_builtin (b := .append) (xs := #[.tmp 58, .tmp 60]) rfl ?_); at_builtin; refine Kd.R_append k66 w.heap.size rfl (.tmp 58) (.tmp 60) 41 66 (.agg #[(.int .i64 0), (.int .i64 0), (.int .i64 0), (.int .i64 0), (.int .i64 0), (.int .i64 0), (.slice none 0 0), (.slice none 0 0)]) 96 rfl Try.underlying41 info66 rfl (by decide) (by omega) u9 x9_1 (⟨1, t141, (⟨t186, t187, t188⟩ : S64), 0, ([] : List (S66)), ([] : List (S66))⟩ : S66) [.int .i64 1, .int .i64 t141, .int .i64 t186, .int .i64 t187, .int .i64 t188, .int .i64 0, .slice none 0 0, .slice none 0 0] (fun k_ => k_ ≠ gb143) (fun k_ => ((fun k_ => k_ ≠ gb143)) k_ ∧ some k_ ≠ (u9 : Value).ownBlock) rfl (by first | (go_simp; done) | (go_simp; rfl)) ?aP (fun _ hk => hk) ?aF ?aO (Below.refl _ _) ?aS ?aL ?_; (case aP => exact k66_mkM _ _ _ (⟨1, t141, (⟨t186, t187, t188⟩ : S64), 0, ([] : List (S66)), ([] : List (S66))⟩ : S66) (Kd.R_nil _ _ _ _ _) (Kd.R_nil _ _ _ _ _)); (case aF => exact (fun k_ hk => Kd.freshB (g := gb143) (o := .cells #[.int .i64 1, .int .i64 t141, .int .i64 t186, .int .i64 t187, .int .i64 t188, .int .i64 0, .slice none 0 0, .slice none 0 0] 66 (0, 0)) (ZZ BK143.out) k_ hk)); (case aO => exact (by (with_reducible repeat (first | apply Kd.R_alloc | apply Kd.R_drewN | apply Kd.R_drew)); exact Kd.R_mono (Kd.R_far (p := ⟨gb143, 4, none⟩) (Kd.R_far (p := ⟨gb143, 3, none⟩) (Kd.R_far (p := ⟨gb143, 2, none⟩) (Kd.R_mono HO_9.out (fun k_ hk => (⟨hk, hk⟩ : _ ∧ k_ ≠ gb143))) (fun _ hk => hk.2) (.int .i64 t186)) (fun _ hk => hk.2) (.int .i64 t187)) (fun _ hk => hk.2) (.int .i64 t188)) (fun _ hk => hk.1))); (case aS => exact (keep_size (w := w) (g := g) (row := none) (ZJ))); (case aL => have := LMc91.out; omega); intro v191 w96 ho hb hg hat; rw [← Ny190.out] at ho; have n0_ := Aside0.mk (blk_grown (g := gb143) (o := .cells #[.int .i64 1, .int .i64 t141, .int .i64 t186, .int .i64 t187, .int .i64 t188, .int .i64 0, .slice none 0 0, .slice none 0 0] 66 (0, 0)) (ZZ BK143.out) hg (Kd.R_away HO_9.out (fun _ hk => hk))); have n1_ := Aside0.mk (spec_l71Steps.grown_ HI0 hg (IsS55.own_ne HI0.out HO_9.out (by decide))); have n2_ := Aside0.mk (below_weaken (ZBI) HL.out hb); have n3_ := Aside0.mk (KeepBut.trans (ZJ) (KeepBut.of_grown hg g) (Kd.R_base2 HO_9.out)); have n4_ := Aside0.mk (ho); clear BK143; clear HI0; clear HB; clear HK; clear HO_9; have BK143 := n0_; have HI0 := n1_; have HB := n2_; have HK := n3_; have HO192 := n4_; clear n0_ n1_ n2_ n3_ n4_; clear ho hb hg hat))
          go_roundg kj37
          case measure => have := HK1.out; have := HJ37.out; omega
          case rel => exact ⟨(y190), (wrap64 (x10_1 - 1)), (t189), (by first | rfl | (simp; done) | (simp [*]; done)), H', ⟨by have := HK1.out; have := HJ37.out; omega⟩, ⟨ZR (Kd.R_mono HO192.out (fun _ hk => trivial))⟩, ⟨ZI⟩, ⟨ZJ⟩, ⟨ZBI⟩⟩
         ·rw [if_neg c91] at H
          exact absurd H (by simp)
        ·exact absurd rfl c89
   ·rw [if_neg c9] at H
    have c9b0 : decide (0 < x10_1) = false := decide_eq_false c9
    clear c9
    simp only [Option.some.injEq, Prod.mk.injEq] at H
    obtain ⟨rfl, rfl⟩ := H
    go_wp2
    go_ret
    exact ⟨_, ZE, by (with_reducible repeat (first | apply Kd.R_alloc | apply Kd.R_drewN | apply Kd.R_drew)); exact HO_9.out, ZI, ZBI, ZJ⟩

end Go.Proofs.Ytdmejmdifnicmaa.A
