/- What Go functions compute, as Lean functions, and for each its contract: for every input at which the Lean function answers the call returns that; written by wip/tools/pr.py over the kit's print. -/
import Derived.Test.YtcffnnedghgmaaaAx0
import Derived.Test.YtcffnnedghgmaaaAx2
import Derived.Test.YtcffnnedghgmaaaAx6
import Derived.Test.YtcffnnedghgmaaaAx8
namespace Go.Proofs.Ytcffnnedghgmaaa.A
open Go.RowKit Go.Proofs.YtcffnnedghgmaaaW.PrintWords Go.Proofs.YtcffnnedghgmaaaW.PrintLast Go.Proofs.YtcffnnedghgmaaaW.PrintMore
attribute [local go_sem] max2_int min2_int max_two min_two max_three min_three max_four min_four   -- for this text's walks alone
set_option linter.unusedVariables false
set_option linter.unusedSimpArgs false

/-! ### spec_l71Steps: function 123 -/
mutual
def spec_l71Steps.l0 : Nat → Int → Int → List (S59) → Int → List Int → Int → Option ((List (S59)) × Int)
 | 0, _, _, _, _, _, _ => none
 | k + 1, x2, x3, x9, x10, x1000, x1001 => if x10 > 0 then ((spec_l6Rd_pick.f k x1000 x1001 x3).bind fun bt173 => ((spec_l6Rd_pick.f k x1000 bt173.2 5).bind fun bt176 => (if bt176.1 = 0 then ((spec_l6Rd_pick.f k x1000 bt176.2 3).bind fun bt178 => (if 3 = 1 then ((spec_l71Val.f k x1000 bt178.2 x3).bind fun bt180 => (if x9.length < 1466015503701 then (spec_l71Steps.l0 k x2 x3 (x9 ++ [(⟨3, bt173.1, (⟨bt180.1, bt180.2.1, bt180.2.2.1⟩ : S57), bt178.1, ([] : List (S59)), ([] : List (S59))⟩ : S59)]) (wrap64 (x10 - 1)) x1000 bt180.2.2.2) else (none))) else (if x9.length < 1466015503701 then (spec_l71Steps.l0 k x2 x3 (x9 ++ [(⟨3, bt173.1, (⟨0, 0, 0⟩ : S57), bt178.1, ([] : List (S59)), ([] : List (S59))⟩ : S59)]) (wrap64 (x10 - 1)) x1000 bt178.2) else (none)))) else (if bt176.1 = 1 then (spec_l71Steps.j1 k x2 x3 x9 x10 (bt176.1 == 1) x1000 bt176.2 1 bt173.1 0 0 0 0) else (spec_l71Steps.j1 k x2 x3 x9 x10 (bt176.1 == 2) x1000 bt176.2 1 bt173.1 0 0 0 0))))) else (some (x9, x1001))
def spec_l71Steps.j1 : Nat → Int → Int → List (S59) → Int → Bool → List Int → Int → Int → Int → Int → Int → Int → Int → Option ((List (S59)) × Int)
 | 0, _, _, _, _, _, _, _, _, _, _, _, _, _ => none
 | k + 1, x2, x3, x9, x10, x33, x1000, x1001, x176000, x176001, x176002, x176003, x176004, x176005 => if x33 = true then (if x2 > 1 then ((spec_l71Steps.f k x1000 x1001 2 (wrap64 (x2 - 1)) x3).bind fun bt190 => ((spec_l71Steps.f k x1000 bt190.2 2 (wrap64 (x2 - 1)) x3).bind fun bt194 => (if 2 = 1 then ((spec_l71Val.f k x1000 bt194.2 x3).bind fun bt198 => (if x9.length < 1466015503701 then (spec_l71Steps.l0 k x2 x3 (x9 ++ [(⟨2, x176001, (⟨bt198.1, bt198.2.1, bt198.2.2.1⟩ : S57), x176005, bt190.1, bt194.1⟩ : S59)]) (wrap64 (x10 - 1)) x1000 bt198.2.2.2) else (none))) else (if x9.length < 1466015503701 then (spec_l71Steps.l0 k x2 x3 (x9 ++ [(⟨2, x176001, (⟨x176002, x176003, x176004⟩ : S57), x176005, bt190.1, bt194.1⟩ : S59)]) (wrap64 (x10 - 1)) x1000 bt194.2) else (none))))) else (if x176000 = 1 then ((spec_l71Val.f k x1000 x1001 x3).bind fun bt208 => (if x9.length < 1466015503701 then (spec_l71Steps.l0 k x2 x3 (x9 ++ [(⟨x176000, x176001, (⟨bt208.1, bt208.2.1, bt208.2.2.1⟩ : S57), x176005, ([] : List (S59)), ([] : List (S59))⟩ : S59)]) (wrap64 (x10 - 1)) x1000 bt208.2.2.2) else (none))) else (if x9.length < 1466015503701 then (spec_l71Steps.l0 k x2 x3 (x9 ++ [(⟨x176000, x176001, (⟨x176002, x176003, x176004⟩ : S57), x176005, ([] : List (S59)), ([] : List (S59))⟩ : S59)]) (wrap64 (x10 - 1)) x1000 x1001) else (none)))) else (if x176000 = 1 then ((spec_l71Val.f k x1000 x1001 x3).bind fun bt218 => (if x9.length < 1466015503701 then (spec_l71Steps.l0 k x2 x3 (x9 ++ [(⟨x176000, x176001, (⟨bt218.1, bt218.2.1, bt218.2.2.1⟩ : S57), x176005, ([] : List (S59)), ([] : List (S59))⟩ : S59)]) (wrap64 (x10 - 1)) x1000 bt218.2.2.2) else (none))) else (if x9.length < 1466015503701 then (spec_l71Steps.l0 k x2 x3 (x9 ++ [(⟨x176000, x176001, (⟨x176002, x176003, x176004⟩ : S57), x176005, ([] : List (S59)), ([] : List (S59))⟩ : S59)]) (wrap64 (x10 - 1)) x1000 x1001) else (none)))
def spec_l71Steps.f : Nat → List Int → Int → Int → Int → Int → Option ((List (S59)) × Int)
 | 0, _, _, _, _, _ => none
 | k + 1, s0_0, s0_1, a1, a2, a3 => (spec_l6Rd_pick.f k s0_0 s0_1 (wrap64 (a1 + 1))).bind fun bt171 => (spec_l71Steps.l0 k a2 a3 (([] : List (S59))) bt171.1 s0_0 bt171.2)
end
theorem spec_l71Steps.grown_ {w0 W0 W W1 : World} {g : Nat} {f0 : List Int} {f1 : Int} {row : Option Nat} (B : Aside0 (IsS101 w0 W0 g f0 f1)) (hg : W.grownBy W1 row) (hne : some g ≠ row) (t : IsS101 w0 W0 g f0 f1 → IsS101 w0 W g f0 f1 := by intro h_; repeat (first | (with_reducible first | exact h_ | apply IsS101.alloc | apply IsS101.drewN | apply IsS101.drew | apply IsS101.set_1 | refine IsS101.far ?_ (Aside0.out (by first | with_reducible assumption | (dsimp only; with_reducible assumption))) _) | exact h_)) : IsS101 w0 W1 g f0 f1 := IsS101.grown (t B.out) hg hne
set_option maxHeartbeats 8000000 in
set_option maxRecDepth 100000 in
theorem spec_l71Steps.calls (k : Nat) : ∀ (g : Nat) (s0_0 : List Int) (s0_1 : Int) (a1 : Int) (a2 : Int) (a3 : Int) (r1 : List (S59)) (r2 : Int) (w0 w : World) (hI : IsS101 w0 w g s0_0 s0_1) (hB : Below w0.heap.size w0 w) (h : spec_l71Steps.f k s0_0 s0_1 a1 a2 a3 = some (r1, r2)),
  Calls Try.prog 123 #[.pointer (some ⟨g, 0, none⟩), .int .i64 a1, .int .i64 a2, .int .i64 a3] w fun e w' => ∃ v0_ : Value, e = .returned (v0_) ∧ Kd.R k59 59 w' w.heap.size (fun _ => True) v0_ r1 ∧ IsS101 w0 w' g s0_0 r2 ∧ Below w0.heap.size w0 w' ∧ KeepBut w w' g none := by
 induction k using Nat.strongRecOn with
 | _ k ih =>
 intro g s0_0 s0_1 a1 a2 a3 r1 r2 w0 w hI hB h
 cases k with
 | zero => exact absurd h (by simp [spec_l71Steps.f])
 | succ k =>
 simp only [spec_l71Steps.f] at h
 have hu59 := Try.underlying59
 have hu57 := Try.underlying57
 have HI0 := Aside0.mk hI
 have HK := Aside0.mk (KeepBut.refl w g none)
 have HL := Aside0.mk hB.size
 clear hI
 have HW0 := Aside0.mk hB.size
 have HB := Aside0.mk hB
 clear hB
 have H : ((spec_l6Rd_pick.f k s0_0 s0_1 (wrap64 (a1 + 1))).bind fun bt171 => (spec_l71Steps.l0 k a2 a3 (([] : List (S59))) bt171.1 s0_0 bt171.2)) = some (r1, r2) := h
 clear h
 obtain ⟨y168, hy168⟩ : ∃ y_ : List (S59), y_ = (([] : List (S59))) := ⟨_, rfl⟩
 replace H : ((spec_l6Rd_pick.f k s0_0 s0_1 (wrap64 (a1 + 1))).bind fun bt171 => (spec_l71Steps.l0 k a2 a3 y168 bt171.1 s0_0 bt171.2)) = some (r1, r2) := by first | (rw [hy168]; with_reducible exact H) | (have H2_ := (Option.bind_some _ _).symm.trans H; rw [hy168]; with_reducible exact H2_) | (have H2_ := (Option.bind_some _ _).symm.trans H; with_reducible exact H2_) | with_reducible exact H | (rw [hy168]; exact H) | exact H
 have Ny168 := Aside0.mk hy168
 clear hy168
 replace H := Option.bind_eq_some_iff.mp H
 obtain ⟨⟨t171, t172⟩, A50, H⟩ := H
 replace H : (spec_l71Steps.l0 k a2 a3 y168 t171 s0_0 t172) = some (r1, r2) := H
 have A5 := Aside0.mk A50
 clear A50
 have H' := Aside0.mk H
 clear H
 go_enter Try.func123, Try.ntmps123
 go_wp2_with (first | ((with_reducible refine gate_dst (N := 12) rfl ?_); refine Kd.R_lit k59 _ 59 ?hg (N := 12) ?hd (xs := ([] : List (S59))) (inner := []) (ok := fun _ => True) (okp := fun _ => True) ?hr ?hp (fun _ hk => hk) trivial (Below.refl _ _) (Nat.le_refl _) (by simp) ?_; (case hd => rfl); (case hg => rfl); (case hr => first | (go_simp; done) | (go_simp; rfl)); (case hp => exact (Reps.none _ _)); intro v169 w6 ho7 hb hg_ hnew_; clear hg_ hnew_; (first | rw [← Ny168.out] at ho7 | (simp only [Int.reduceToNat] at ho7; rw [← Ny168.out] at ho7)); have HO170 := Aside0.mk (Kd.R_lower ho7 (keep_size (w := w) (g := g) (row := none) (ZJ))); replace HK := ZKT HK (KeepBut.of_below hb g none); replace HB := ZTI HB hb; replace HI0 := Aside0.mk (IsS101.below (ZI) hb); clear hb ho7) | ((with_reducible refine gate_callee (f := 85) rfl ?_); refine goesL_ (some 16) rfl rfl Try.func85 (by kernel_rfl) rfl #[.pointer (some ⟨g, 0, none⟩), .int .i64 (wrap64 (a1 + 1))] rfl ZG ?_; (with_reducible refine (spec_l6Rd_pick.calls k g s0_0 s0_1 (wrap64 (a1 + 1)) t171 t172 w0 _ ?side1 ?side2 A5.out).mono ?_); (case side1 => exact ZI); (case side2 => exact ZBI); rintro e w8 ⟨rfl, hi, hb, hk⟩; refine ⟨_, rfl, ?_⟩; replace HO170 := Aside0.mk (Kd.R_mono (Kd.R_keep (IsS101.apart (show IsS101 w0 _ g s0_0 s0_1 from ZI) (ZR HO170.out) (by decide)) hk (fun _ h => h.2)) (fun _ h => h.1)); replace HK := ZKT HK hk; replace HB := Aside0.mk (hb); replace HI0 := Aside0.mk (hi); (try clear hb); (try clear hb2); (try clear hk); (try clear hi)))
 go_loopg [9, 10] k (fun kq v9 v10 w' => ∃ (x9_1 : List (S59)) (x10_1 : Int) (x1001_1 : Int), v10 = .int .i64 x10_1 ∧ Aside0 (spec_l71Steps.l0 kq a2 a3 x9_1 x10_1 s0_0 x1001_1 = some (r1, r2)) ∧ Aside0 (kq ≤ k) ∧ Aside0 (Kd.R k59 59 w' w.heap.size (fun _ => True) v9 x9_1) ∧ Aside0 (IsS101 w0 w' g s0_0 x1001_1) ∧ Aside0 (KeepBut w w' g none) ∧ Aside0 (Below w0.heap.size w0 w'))
 case atStart => exact ⟨(y168), (t171), (t172), (by first | rfl | (simp; done) | (simp [*]; done)), H', ⟨Nat.le_refl _⟩, ⟨ZR HO170.out⟩, ⟨ZI⟩, ⟨ZJ⟩, ⟨ZBI⟩⟩
 case round =>
  clear H'
  try clear c1
  try clear p2
  try clear p6
  try clear c8
  obtain ⟨x9_1, x10_1, x1001_1, rfl, HA, HK1, HO_9, HI0, HK, HB⟩ := hrel
  cases gk with
  | zero => exact absurd HA.out (by simp [spec_l71Steps.l0])
  | succ k1 =>
   have H := HA.out
   clear HA
   simp only [spec_l71Steps.l0] at H
   by_cases c9 : x10_1 > 0
   ·rw [if_pos c9] at H
    have c9b0 : decide (0 < x10_1) = true := decide_eq_true c9
    clear c9
    replace H := Option.bind_eq_some_iff.mp H
    obtain ⟨⟨t173, t174⟩, A100, H⟩ := H
    replace H : ((spec_l6Rd_pick.f k1 s0_0 t174 5).bind fun bt176 => (if bt176.1 = 0 then ((spec_l6Rd_pick.f k1 s0_0 bt176.2 3).bind fun bt178 => (if 3 = 1 then ((spec_l71Val.f k1 s0_0 bt178.2 a3).bind fun bt180 => (if x9_1.length < 1466015503701 then (spec_l71Steps.l0 k1 a2 a3 (x9_1 ++ [(⟨3, t173, (⟨bt180.1, bt180.2.1, bt180.2.2.1⟩ : S57), bt178.1, ([] : List (S59)), ([] : List (S59))⟩ : S59)]) (wrap64 (x10_1 - 1)) s0_0 bt180.2.2.2) else (none))) else (if x9_1.length < 1466015503701 then (spec_l71Steps.l0 k1 a2 a3 (x9_1 ++ [(⟨3, t173, (⟨0, 0, 0⟩ : S57), bt178.1, ([] : List (S59)), ([] : List (S59))⟩ : S59)]) (wrap64 (x10_1 - 1)) s0_0 bt178.2) else (none)))) else (if bt176.1 = 1 then (spec_l71Steps.j1 k1 a2 a3 x9_1 x10_1 (bt176.1 == 1) s0_0 bt176.2 1 t173 0 0 0 0) else (spec_l71Steps.j1 k1 a2 a3 x9_1 x10_1 (bt176.1 == 2) s0_0 bt176.2 1 t173 0 0 0 0)))) = some (r1, r2) := H
    have A10 := Aside0.mk A100
    clear A100
    replace H := Option.bind_eq_some_iff.mp H
    obtain ⟨⟨t176, t177⟩, A110, H⟩ := H
    replace H : (if t176 = 0 then ((spec_l6Rd_pick.f k1 s0_0 t177 3).bind fun bt178 => (if 3 = 1 then ((spec_l71Val.f k1 s0_0 bt178.2 a3).bind fun bt180 => (if x9_1.length < 1466015503701 then (spec_l71Steps.l0 k1 a2 a3 (x9_1 ++ [(⟨3, t173, (⟨bt180.1, bt180.2.1, bt180.2.2.1⟩ : S57), bt178.1, ([] : List (S59)), ([] : List (S59))⟩ : S59)]) (wrap64 (x10_1 - 1)) s0_0 bt180.2.2.2) else (none))) else (if x9_1.length < 1466015503701 then (spec_l71Steps.l0 k1 a2 a3 (x9_1 ++ [(⟨3, t173, (⟨0, 0, 0⟩ : S57), bt178.1, ([] : List (S59)), ([] : List (S59))⟩ : S59)]) (wrap64 (x10_1 - 1)) s0_0 bt178.2) else (none)))) else (if t176 = 1 then (spec_l71Steps.j1 k1 a2 a3 x9_1 x10_1 (t176 == 1) s0_0 t177 1 t173 0 0 0 0) else (spec_l71Steps.j1 k1 a2 a3 x9_1 x10_1 (t176 == 2) s0_0 t177 1 t173 0 0 0 0))) = some (r1, r2) := H
    have A11 := Aside0.mk A110
    clear A110
    by_cases c12 : t176 = 0
    ·rw [if_pos c12] at H
     have c12b0 : (t176 == 0) = true := beq_iff_eq.mpr c12
     have c12b1 : (t176 != 0) = false := bne_eq_false_iff_eq.mpr c12
     clear c12
     replace H := Option.bind_eq_some_iff.mp H
     obtain ⟨⟨t178, t179⟩, A130, H⟩ := H
     replace H : (if 3 = 1 then ((spec_l71Val.f k1 s0_0 t179 a3).bind fun bt180 => (if x9_1.length < 1466015503701 then (spec_l71Steps.l0 k1 a2 a3 (x9_1 ++ [(⟨3, t173, (⟨bt180.1, bt180.2.1, bt180.2.2.1⟩ : S57), t178, ([] : List (S59)), ([] : List (S59))⟩ : S59)]) (wrap64 (x10_1 - 1)) s0_0 bt180.2.2.2) else (none))) else (if x9_1.length < 1466015503701 then (spec_l71Steps.l0 k1 a2 a3 (x9_1 ++ [(⟨3, t173, (⟨0, 0, 0⟩ : S57), t178, ([] : List (S59)), ([] : List (S59))⟩ : S59)]) (wrap64 (x10_1 - 1)) s0_0 t179) else (none))) = some (r1, r2) := H
     have A13 := Aside0.mk A130
     clear A130
     by_cases c14 : 3 = 1
     ·exact absurd c14 (by decide)
     ·rw [if_neg c14] at H
      have c14b0 : (3 == 1) = false := beq_eq_false_iff_ne.mpr c14
      have c14b1 : (3 != 1) = true := bne_iff_ne.mpr c14
      by_cases c28 : x9_1.length < 1466015503701
      ·rw [if_pos c28] at H
       have LMc28 := Aside0.mk c28
       clear c28
       obtain ⟨y187, hy187⟩ : ∃ y_ : List (S59), y_ = (x9_1 ++ [(⟨3, t173, (⟨0, 0, 0⟩ : S57), t178, ([] : List (S59)), ([] : List (S59))⟩ : S59)]) := ⟨_, rfl⟩
       replace H : (spec_l71Steps.l0 k1 a2 a3 y187 (wrap64 (x10_1 - 1)) s0_0 t179) = some (r1, r2) := by first | (rw [hy187]; with_reducible exact H) | (have H2_ := (Option.bind_some _ _).symm.trans H; rw [hy187]; with_reducible exact H2_) | (have H2_ := (Option.bind_some _ _).symm.trans H; with_reducible exact H2_) | with_reducible exact H | (rw [hy187]; exact H) | exact H
       have Ny187 := Aside0.mk hy187
       clear hy187
       have H' := Aside0.mk H
       clear H
       go_wp2_with (first | ((with_reducible refine gate_callee (f := 85) rfl ?_); refine goesL_ (some 23) rfl rfl Try.func85 (by kernel_rfl) rfl #[.pointer (some ⟨g, 0, none⟩), .int .i64 a3] rfl ZG ?_; (with_reducible refine (spec_l6Rd_pick.calls k1 g s0_0 x1001_1 a3 t173 t174 w0 _ ?side1 ?side2 A10.out).mono ?_); (case side1 => exact ZI); (case side2 => exact ZBI); rintro e w29 ⟨rfl, hi, hb, hk⟩; refine ⟨_, rfl, ?_⟩; replace HO_9 := Aside0.mk (Kd.R_mono (Kd.R_keep (IsS101.apart (show IsS101 w0 _ g s0_0 x1001_1 from ZI) (ZR HO_9.out) (by decide)) hk (fun _ h => h.2)) (fun _ h => h.1)); replace HK := ZKT HK hk; replace HB := Aside0.mk (hb); replace HI0 := Aside0.mk (hi); (try clear hb); (try clear hb2); (try clear hk); (try clear hi)) | ((with_reducible refine gate_dst (N := 11) rfl ?_); refine ZX (N := 11) (cs := #[.int .i64 0, .int .i64 0, .int .i64 0, .int .i64 0, .int .i64 0, .int .i64 0, .slice none 0 0, .slice none 0 0]) (t := 59) ?_; intro gb175 hg w30 hbox hb; have BK175 := Aside0.mk (hbox); have GW175 := Aside0.mk ((by rw [hg]; exact (keep_size (w := w) (g := g) (row := none) (ZJ)) : w.heap.size ≤ gb175)); have GE175 := Aside0.mk ((Nat.le_trans HW0.out (by rw [hg]; exact (keep_size (w := w) (g := g) (row := none) (ZJ)) : w.heap.size ≤ gb175) : w0.heap.size ≤ gb175)); have NB0_175 := Aside0.mk ((by rw [hg]; exact Nat.ne_of_lt (IsS101.lt (show IsS101 w0 _ g s0_0 t174 from ZI)) : g ≠ gb175)); have NB175_0 := Aside0.mk ((by rw [hg]; exact Nat.ne_of_gt (IsS101.lt (show IsS101 w0 _ g s0_0 t174 from ZI)) : gb175 ≠ g)); replace HO_9 := Aside0.mk (Kd.R_below (Kd.R_elderB (ZR HO_9.out) gb175 (Nat.le_of_eq hg.symm)) hb); replace HK := ZKT HK (KeepBut.of_below hb g none); replace HB := ZTI HB hb; replace HI0 := Aside0.mk (IsS101.below (ZI) hb); clear hb hbox hg; have hnb31 := NB175_0.out; have hnc31 := NB0_175.out; obtain ⟨hcz32_0, hcz32_1, hcz32_2, hcz32_3, hcz32_4, hcz32_5, hcz32_6, hcz32_7⟩ := ZC8 w30 BK175; obtain ⟨hfz32_0, hfz32_1, hfz32_2, hfz32_3, hfz32_4, hfz32_5, hfz32_6, hfz32_7⟩ := ZF8 BK175) | ((with_reducible refine gate_callee (f := 85) rfl ?_); refine goesL_ (some 26) rfl rfl Try.func85 (by kernel_rfl) rfl #[.pointer (some ⟨g, 0, none⟩), .int .i64 5] rfl ZG ?_; (with_reducible refine (spec_l6Rd_pick.calls k1 g s0_0 t174 5 t176 t177 w0 _ ?side1 ?side2 A11.out).mono ?_); (case side1 => exact ZI); (case side2 => exact ZBI); rintro e w33 ⟨rfl, hi, hb, hk⟩; refine ⟨_, rfl, ?_⟩; replace HO_9 := Aside0.mk (Kd.R_mono (Kd.R_keep (IsS101.apart (show IsS101 w0 _ g s0_0 t174 from ZI) (by (with_reducible repeat (first | apply Kd.R_alloc | apply Kd.R_drewN | apply Kd.R_drew)); exact (Kd.R_mono (Kd.R_far (p := ⟨gb175, 7, none⟩) (Kd.R_far (p := ⟨gb175, 6, none⟩) (Kd.R_far (p := ⟨gb175, 5, none⟩) (Kd.R_far (p := ⟨gb175, 4, none⟩) (Kd.R_far (p := ⟨gb175, 3, none⟩) (Kd.R_far (p := ⟨gb175, 2, none⟩) (Kd.R_far (p := ⟨gb175, 1, none⟩) (Kd.R_far (p := ⟨gb175, 0, none⟩) (Kd.R_mono HO_9.out (fun k_ hk => (⟨hk, hk.2⟩ : _ ∧ k_ ≠ gb175))) (fun _ hk => hk.2) (.int .i64 1)) (fun _ hk => hk.2) (.int .i64 t173)) (fun _ hk => hk.2) (.int .i64 0)) (fun _ hk => hk.2) (.int .i64 0)) (fun _ hk => hk.2) (.int .i64 0)) (fun _ hk => hk.2) (.int .i64 0)) (fun _ hk => hk.2) (.slice none 0 0)) (fun _ hk => hk.2) (.slice none 0 0)) (fun _ h_ => h_.1))) (by decide)) hk (fun _ h => h.2)) (fun _ h => h.1)); replace BK175 := ZLV #[.int .i64 1, .int .i64 t173, .int .i64 0, .int .i64 0, .int .i64 0, .int .i64 0, .slice none 0 0, .slice none 0 0] hk BK175 NB175_0; replace HK := ZKT HK hk; replace HB := Aside0.mk (hb); replace HI0 := Aside0.mk (hi); (try clear hb); (try clear hb2); (try clear hk); (try clear hi); obtain ⟨hcz34_0, hcz34_1, hcz34_2, hcz34_3, hcz34_4, hcz34_5, hcz34_6, hcz34_7⟩ := ZC8 w33 BK175; obtain ⟨hfz34_0, hfz34_1, hfz34_2, hfz34_3, hfz34_4, hfz34_5, hfz34_6, hfz34_7⟩ := ZF8 BK175) | ((with_reducible refine gate_callee (f := 85) rfl ?_); refine goesL_ (some 31) rfl rfl Try.func85 (by kernel_rfl) rfl #[.pointer (some ⟨g, 0, none⟩), .int .i64 3] rfl ZG ?_; (with_reducible refine (spec_l6Rd_pick.calls k1 g s0_0 t177 3 t178 t179 w0 _ ?side1 ?side2 A13.out).mono ?_); (case side1 => exact ZI); (case side2 => exact ZBI); rintro e w35 ⟨rfl, hi, hb, hk⟩; refine ⟨_, rfl, ?_⟩; replace HO_9 := Aside0.mk (Kd.R_mono (Kd.R_keep (IsS101.apart (show IsS101 w0 _ g s0_0 t177 from ZI) (by (with_reducible repeat (first | apply Kd.R_alloc | apply Kd.R_drewN | apply Kd.R_drew)); exact (Kd.R_mono (Kd.R_far (p := ⟨gb175, 0, none⟩) (Kd.R_mono HO_9.out (fun k_ hk => (⟨hk, hk.2⟩ : _ ∧ k_ ≠ gb175))) (fun _ hk => hk.2) (.int .i64 3)) (fun _ h_ => h_.1))) (by decide)) hk (fun _ h => h.2)) (fun _ h => h.1)); replace BK175 := ZLV #[.int .i64 3, .int .i64 t173, .int .i64 0, .int .i64 0, .int .i64 0, .int .i64 0, .slice none 0 0, .slice none 0 0] hk BK175 NB175_0; replace HK := ZKT HK hk; replace HB := Aside0.mk (hb); replace HI0 := Aside0.mk (hi); (try clear hb); (try clear hb2); (try clear hk); (try clear hi); obtain ⟨hcz36_0, hcz36_1, hcz36_2, hcz36_3, hcz36_4, hcz36_5, hcz36_6, hcz36_7⟩ := ZC8 w35 BK175; obtain ⟨hfz36_0, hfz36_1, hfz36_2, hfz36_3, hfz36_4, hfz36_5, hfz36_6, hfz36_7⟩ := ZF8 BK175) | ((with_reducible refine gate_builtin (b := .append) (xs := #[.tmp 58, .tmp 60]) rfl ?_); at_builtin; refine Kd.R_append k59 w.heap.size rfl (.tmp 58) (.tmp 60) 24 59 (.agg #[(.int .i64 0), (.int .i64 0), (.int .i64 0), (.int .i64 0), (.int .i64 0), (.int .i64 0), (.slice none 0 0), (.slice none 0 0)]) 96 rfl Try.underlying24 info59 rfl (by decide) (by omega) u9 x9_1 (⟨3, t173, (⟨0, 0, 0⟩ : S57), t178, ([] : List (S59)), ([] : List (S59))⟩ : S59) [.int .i64 3, .int .i64 t173, .int .i64 0, .int .i64 0, .int .i64 0, .int .i64 t178, .slice none 0 0, .slice none 0 0] (fun k_ => k_ ≠ gb175) (fun k_ => ((fun k_ => k_ ≠ gb175)) k_ ∧ some k_ ≠ (u9 : Value).ownBlock) rfl (by first | (go_simp; done) | (go_simp; rfl)) ?aP (fun _ hk => hk) ?aF ?aO (Below.refl _ _) ?aS ?aL ?_; (case aP => exact k59_mkM _ _ _ (⟨3, t173, (⟨0, 0, 0⟩ : S57), t178, ([] : List (S59)), ([] : List (S59))⟩ : S59) (Kd.R_nil _ _ _ _ _) (Kd.R_nil _ _ _ _ _)); (case aF => exact (fun k_ hk => Kd.freshB (g := gb175) (o := .cells #[.int .i64 3, .int .i64 t173, .int .i64 0, .int .i64 0, .int .i64 0, .int .i64 t178, .slice none 0 0, .slice none 0 0] 59 (0, 0)) (ZZ BK175.out) k_ hk)); (case aO => exact (by (with_reducible repeat (first | apply Kd.R_alloc | apply Kd.R_drewN | apply Kd.R_drew)); exact Kd.R_mono (Kd.R_far (p := ⟨gb175, 5, none⟩) (Kd.R_mono HO_9.out (fun k_ hk => (⟨hk, hk.2⟩ : _ ∧ k_ ≠ gb175))) (fun _ hk => hk.2) (.int .i64 t178)) (fun _ hk => hk.1.2))); (case aS => exact (keep_size (w := w) (g := g) (row := none) (ZJ))); (case aL => have := LMc28.out; omega); intro v188 w37 ho hb hg hat; rw [← Ny187.out] at ho; have n0_ := Aside0.mk (spec_l71Steps.grown_ HI0 hg (IsS101.own_ne HI0.out HO_9.out (by decide))); have n1_ := Aside0.mk (blk_grown (g := gb175) (o := .cells #[.int .i64 3, .int .i64 t173, .int .i64 0, .int .i64 0, .int .i64 0, .int .i64 t178, .slice none 0 0, .slice none 0 0] 59 (0, 0)) (ZZ BK175.out) hg (Kd.R_away HO_9.out (fun _ hk => hk.2))); have n2_ := Aside0.mk (below_weaken (ZBI) HL.out hb); have n3_ := Aside0.mk (KeepBut.trans (ZJ) (KeepBut.of_grown hg g) (Kd.R_base2 HO_9.out)); have n4_ := Aside0.mk (ho); clear HI0; clear BK175; clear HB; clear HK; clear HO_9; have HI0 := n0_; have BK175 := n1_; have HB := n2_; have HK := n3_; have HO189 := n4_; clear n0_ n1_ n2_ n3_ n4_; clear ho hb hg hat))
       go_roundg k1
       case measure => have := HK1.out; omega
       case rel => exact ⟨(y187), (wrap64 (x10_1 - 1)), (t179), (by first | rfl | (simp; done) | (simp [*]; done)), H', ⟨by have := HK1.out; omega⟩, ⟨ZR (Kd.R_mono HO189.out (fun _ hk => trivial))⟩, ⟨ZI⟩, ⟨ZJ⟩, ⟨ZBI⟩⟩
      ·rw [if_neg c28] at H
       exact absurd H (by simp)
    ·rw [if_neg c12] at H
     have c12b0 : (t176 == 0) = false := beq_eq_false_iff_ne.mpr c12
     have c12b1 : (t176 != 0) = true := bne_iff_ne.mpr c12
     have HC38 := Aside0.mk H
     clear H
     go_upto_if 33 with (first | ((with_reducible refine gate_callee (f := 85) rfl ?_); refine goesL_ (some 23) rfl rfl Try.func85 (by kernel_rfl) rfl #[.pointer (some ⟨g, 0, none⟩), .int .i64 a3] rfl ZG ?_; (with_reducible refine (spec_l6Rd_pick.calls k1 g s0_0 x1001_1 a3 t173 t174 w0 _ ?side1 ?side2 A10.out).mono ?_); (case side1 => exact ZI); (case side2 => exact ZBI); rintro e w39 ⟨rfl, hi, hb, hk⟩; refine ⟨_, rfl, ?_⟩; replace HO_9 := Aside0.mk (Kd.R_mono (Kd.R_keep (IsS101.apart (show IsS101 w0 _ g s0_0 x1001_1 from ZI) (ZR HO_9.out) (by decide)) hk (fun _ h => h.2)) (fun _ h => h.1)); replace HK := ZKT HK hk; replace HB := Aside0.mk (hb); replace HI0 := Aside0.mk (hi); (try clear hb); (try clear hb2); (try clear hk); (try clear hi)) | ((with_reducible refine gate_dst (N := 11) rfl ?_); refine ZX (N := 11) (cs := #[.int .i64 0, .int .i64 0, .int .i64 0, .int .i64 0, .int .i64 0, .int .i64 0, .slice none 0 0, .slice none 0 0]) (t := 59) ?_; intro gb175 hg w40 hbox hb; have BK175 := Aside0.mk (hbox); have GW175 := Aside0.mk ((by rw [hg]; exact (keep_size (w := w) (g := g) (row := none) (ZJ)) : w.heap.size ≤ gb175)); have GE175 := Aside0.mk ((Nat.le_trans HW0.out (by rw [hg]; exact (keep_size (w := w) (g := g) (row := none) (ZJ)) : w.heap.size ≤ gb175) : w0.heap.size ≤ gb175)); have NB0_175 := Aside0.mk ((by rw [hg]; exact Nat.ne_of_lt (IsS101.lt (show IsS101 w0 _ g s0_0 t174 from ZI)) : g ≠ gb175)); have NB175_0 := Aside0.mk ((by rw [hg]; exact Nat.ne_of_gt (IsS101.lt (show IsS101 w0 _ g s0_0 t174 from ZI)) : gb175 ≠ g)); replace HO_9 := Aside0.mk (Kd.R_below (Kd.R_elderB (ZR HO_9.out) gb175 (Nat.le_of_eq hg.symm)) hb); replace HK := ZKT HK (KeepBut.of_below hb g none); replace HB := ZTI HB hb; replace HI0 := Aside0.mk (IsS101.below (ZI) hb); clear hb hbox hg; have hnb41 := NB175_0.out; have hnc41 := NB0_175.out; obtain ⟨hcz42_0, hcz42_1, hcz42_2, hcz42_3, hcz42_4, hcz42_5, hcz42_6, hcz42_7⟩ := ZC8 w40 BK175; obtain ⟨hfz42_0, hfz42_1, hfz42_2, hfz42_3, hfz42_4, hfz42_5, hfz42_6, hfz42_7⟩ := ZF8 BK175) | ((with_reducible refine gate_callee (f := 85) rfl ?_); refine goesL_ (some 26) rfl rfl Try.func85 (by kernel_rfl) rfl #[.pointer (some ⟨g, 0, none⟩), .int .i64 5] rfl ZG ?_; (with_reducible refine (spec_l6Rd_pick.calls k1 g s0_0 t174 5 t176 t177 w0 _ ?side1 ?side2 A11.out).mono ?_); (case side1 => exact ZI); (case side2 => exact ZBI); rintro e w43 ⟨rfl, hi, hb, hk⟩; refine ⟨_, rfl, ?_⟩; replace HO_9 := Aside0.mk (Kd.R_mono (Kd.R_keep (IsS101.apart (show IsS101 w0 _ g s0_0 t174 from ZI) (by (with_reducible repeat (first | apply Kd.R_alloc | apply Kd.R_drewN | apply Kd.R_drew)); exact (Kd.R_mono (Kd.R_far (p := ⟨gb175, 7, none⟩) (Kd.R_far (p := ⟨gb175, 6, none⟩) (Kd.R_far (p := ⟨gb175, 5, none⟩) (Kd.R_far (p := ⟨gb175, 4, none⟩) (Kd.R_far (p := ⟨gb175, 3, none⟩) (Kd.R_far (p := ⟨gb175, 2, none⟩) (Kd.R_far (p := ⟨gb175, 1, none⟩) (Kd.R_far (p := ⟨gb175, 0, none⟩) (Kd.R_mono HO_9.out (fun k_ hk => (⟨hk, hk.2⟩ : _ ∧ k_ ≠ gb175))) (fun _ hk => hk.2) (.int .i64 1)) (fun _ hk => hk.2) (.int .i64 t173)) (fun _ hk => hk.2) (.int .i64 0)) (fun _ hk => hk.2) (.int .i64 0)) (fun _ hk => hk.2) (.int .i64 0)) (fun _ hk => hk.2) (.int .i64 0)) (fun _ hk => hk.2) (.slice none 0 0)) (fun _ hk => hk.2) (.slice none 0 0)) (fun _ h_ => h_.1))) (by decide)) hk (fun _ h => h.2)) (fun _ h => h.1)); replace BK175 := ZLV #[.int .i64 1, .int .i64 t173, .int .i64 0, .int .i64 0, .int .i64 0, .int .i64 0, .slice none 0 0, .slice none 0 0] hk BK175 NB175_0; replace HK := ZKT HK hk; replace HB := Aside0.mk (hb); replace HI0 := Aside0.mk (hi); (try clear hb); (try clear hb2); (try clear hk); (try clear hi)))
     (try simp only [Act.put, List.setIfInBounds_toArray, List.set_cons_zero, List.set_cons_succ])
     go_cut [33] (fun v33 wc => ∃ (kq : Nat) (x33_37 : Bool), v33 = .bool x33_37 ∧ Aside0 (spec_l71Steps.j1 kq a2 a3 x9_1 x10_1 x33_37 s0_0 t177 1 t173 0 0 0 0 = some (r1, r2)) ∧ Aside0 (kq ≤ k1) ∧ Aside0 (Kd.R k59 59 wc w.heap.size (fun k_ => k_ ≠ gb175) u9 x9_1) ∧ Aside0 (wc.heap[gb175]? = some (.cells #[.int .i64 1, .int .i64 t173, .int .i64 0, .int .i64 0, .int .i64 0, .int .i64 0, (.slice none 0 0), (.slice none 0 0)] 59 (0, 0))) ∧ Aside0 (IsS101 w0 wc g s0_0 t177) ∧ Aside0 (KeepBut w wc g none) ∧ Aside0 (Below w0.heap.size w0 wc))
     case first =>
      have H := HC38.out
      clear HC38
      by_cases c44 : t176 = 1
      ·rw [if_pos c44] at H
       have c44b0 : (t176 == 1) = true := beq_iff_eq.mpr c44
       have c44b1 : (t176 != 1) = false := bne_eq_false_iff_eq.mpr c44
       clear c44
       (first | rw [c44b0] | (simp only [i64_w, i32_w]; rw [c44b0]) | skip)
       have H' := Aside0.mk H
       clear H
       go_wp2
       go_meet
       case rel => exact ⟨_, ((t176 == 1)), (by first | rfl | (simp; done) | (simp [*]; done)), H', ⟨by have := HK1.out; first | omega | exact Nat.le_refl _⟩, ⟨ZR (Kd.R_mono HO_9.out (fun _ hk => hk.2))⟩, ⟨ZK BK175.out⟩, ⟨ZI⟩, ⟨ZJ⟩, ⟨ZBI⟩⟩
      ·rw [if_neg c44] at H
       have c44b0 : (t176 == 1) = false := beq_eq_false_iff_ne.mpr c44
       have c44b1 : (t176 != 1) = true := bne_iff_ne.mpr c44
       (first | rw [c44b0] | (simp only [i64_w, i32_w]; rw [c44b0]) | skip)
       have H' := Aside0.mk H
       clear H
       go_wp2
       go_meet
       case rel => exact ⟨_, ((t176 == 2)), (by first | rfl | (simp; done) | (simp [*]; done)), H', ⟨by have := HK1.out; first | omega | exact Nat.le_refl _⟩, ⟨ZR (Kd.R_mono HO_9.out (fun _ hk => hk.2))⟩, ⟨ZK BK175.out⟩, ⟨ZI⟩, ⟨ZJ⟩, ⟨ZBI⟩⟩
     case rest =>
      clear HC38
      try clear c1
      try clear c2
      try clear p2
      try clear c3
      try clear c4
      try clear p6
      try clear c8
      try clear c9
      try clear c9b0
      try clear c12
      try clear c12b0
      try clear c12b1
      try clear c14
      try clear c14b0
      try clear c14b1
      try clear c16
      try clear c19
      try clear c28
      try clear c31
      try clear c41
      try clear c44
      try clear c44b0
      try clear c44b1
      try clear hcz20_0
      try clear hcz20_1
      try clear hcz20_2
      try clear hcz20_3
      try clear hcz20_4
      try clear hcz20_5
      try clear hcz20_6
      try clear hcz20_7
      try clear hcz22_0
      try clear hcz22_1
      try clear hcz22_2
      try clear hcz22_3
      try clear hcz22_4
      try clear hcz22_5
      try clear hcz22_6
      try clear hcz22_7
      try clear hcz24_0
      try clear hcz24_1
      try clear hcz24_2
      try clear hcz24_3
      try clear hcz24_4
      try clear hcz24_5
      try clear hcz24_6
      try clear hcz24_7
      try clear hcz26_0
      try clear hcz26_1
      try clear hcz26_2
      try clear hcz26_3
      try clear hcz26_4
      try clear hcz26_5
      try clear hcz26_6
      try clear hcz26_7
      try clear hcz32_0
      try clear hcz32_1
      try clear hcz32_2
      try clear hcz32_3
      try clear hcz32_4
      try clear hcz32_5
      try clear hcz32_6
      try clear hcz32_7
      try clear hcz34_0
      try clear hcz34_1
      try clear hcz34_2
      try clear hcz34_3
      try clear hcz34_4
      try clear hcz34_5
      try clear hcz34_6
      try clear hcz34_7
      try clear hcz36_0
      try clear hcz36_1
      try clear hcz36_2
      try clear hcz36_3
      try clear hcz36_4
      try clear hcz36_5
      try clear hcz36_6
      try clear hcz36_7
      try clear hcz42_0
      try clear hcz42_1
      try clear hcz42_2
      try clear hcz42_3
      try clear hcz42_4
      try clear hcz42_5
      try clear hcz42_6
      try clear hcz42_7
      try clear hfz20_0
      try clear hfz20_1
      try clear hfz20_2
      try clear hfz20_3
      try clear hfz20_4
      try clear hfz20_5
      try clear hfz20_6
      try clear hfz20_7
      try clear hfz22_0
      try clear hfz22_1
      try clear hfz22_2
      try clear hfz22_3
      try clear hfz22_4
      try clear hfz22_5
      try clear hfz22_6
      try clear hfz22_7
      try clear hfz24_0
      try clear hfz24_1
      try clear hfz24_2
      try clear hfz24_3
      try clear hfz24_4
      try clear hfz24_5
      try clear hfz24_6
      try clear hfz24_7
      try clear hfz26_0
      try clear hfz26_1
      try clear hfz26_2
      try clear hfz26_3
      try clear hfz26_4
      try clear hfz26_5
      try clear hfz26_6
      try clear hfz26_7
      try clear hfz32_0
      try clear hfz32_1
      try clear hfz32_2
      try clear hfz32_3
      try clear hfz32_4
      try clear hfz32_5
      try clear hfz32_6
      try clear hfz32_7
      try clear hfz34_0
      try clear hfz34_1
      try clear hfz34_2
      try clear hfz34_3
      try clear hfz34_4
      try clear hfz34_5
      try clear hfz34_6
      try clear hfz34_7
      try clear hfz36_0
      try clear hfz36_1
      try clear hfz36_2
      try clear hfz36_3
      try clear hfz36_4
      try clear hfz36_5
      try clear hfz36_6
      try clear hfz36_7
      try clear hfz42_0
      try clear hfz42_1
      try clear hfz42_2
      try clear hfz42_3
      try clear hfz42_4
      try clear hfz42_5
      try clear hfz42_6
      try clear hfz42_7
      try clear p2
      try clear p6
      obtain ⟨kq, x33_37, rfl, HA, HJ37, HO_9, BK175, HI0, HK, HB⟩ := hcut
      cases kq with
      | zero => exact absurd HA.out (by simp [spec_l71Steps.j1])
      | succ kj37 =>
       have H := HA.out
       clear HA
       simp only [spec_l71Steps.j1] at H
       by_cases c45 : x33_37 = true
       ·subst c45
        have H1 : (if a2 > 1 then ((spec_l71Steps.f kj37 s0_0 t177 2 (wrap64 (a2 - 1)) a3).bind fun bt190 => ((spec_l71Steps.f kj37 s0_0 bt190.2 2 (wrap64 (a2 - 1)) a3).bind fun bt194 => (if 2 = 1 then ((spec_l71Val.f kj37 s0_0 bt194.2 a3).bind fun bt198 => (if x9_1.length < 1466015503701 then (spec_l71Steps.l0 kj37 a2 a3 (x9_1 ++ [(⟨2, t173, (⟨bt198.1, bt198.2.1, bt198.2.2.1⟩ : S57), 0, bt190.1, bt194.1⟩ : S59)]) (wrap64 (x10_1 - 1)) s0_0 bt198.2.2.2) else (none))) else (if x9_1.length < 1466015503701 then (spec_l71Steps.l0 kj37 a2 a3 (x9_1 ++ [(⟨2, t173, (⟨0, 0, 0⟩ : S57), 0, bt190.1, bt194.1⟩ : S59)]) (wrap64 (x10_1 - 1)) s0_0 bt194.2) else (none))))) else (if 1 = 1 then ((spec_l71Val.f kj37 s0_0 t177 a3).bind fun bt208 => (if x9_1.length < 1466015503701 then (spec_l71Steps.l0 kj37 a2 a3 (x9_1 ++ [(⟨1, t173, (⟨bt208.1, bt208.2.1, bt208.2.2.1⟩ : S57), 0, ([] : List (S59)), ([] : List (S59))⟩ : S59)]) (wrap64 (x10_1 - 1)) s0_0 bt208.2.2.2) else (none))) else (if x9_1.length < 1466015503701 then (spec_l71Steps.l0 kj37 a2 a3 (x9_1 ++ [(⟨1, t173, (⟨0, 0, 0⟩ : S57), 0, ([] : List (S59)), ([] : List (S59))⟩ : S59)]) (wrap64 (x10_1 - 1)) s0_0 t177) else (none)))) = some (r1, r2) := by rw [if_pos rfl] at H; exact H
        clear H
        have H := H1
        clear H1
        by_cases c46 : a2 > 1
        ·rw [if_pos c46] at H
         have c46b0 : decide (1 < a2) = true := decide_eq_true c46
         clear c46
         replace H := Option.bind_eq_some_iff.mp H
         obtain ⟨⟨t190, t193⟩, A470, H⟩ := H
         replace H : ((spec_l71Steps.f kj37 s0_0 t193 2 (wrap64 (a2 - 1)) a3).bind fun bt194 => (if 2 = 1 then ((spec_l71Val.f kj37 s0_0 bt194.2 a3).bind fun bt198 => (if x9_1.length < 1466015503701 then (spec_l71Steps.l0 kj37 a2 a3 (x9_1 ++ [(⟨2, t173, (⟨bt198.1, bt198.2.1, bt198.2.2.1⟩ : S57), 0, t190, bt194.1⟩ : S59)]) (wrap64 (x10_1 - 1)) s0_0 bt198.2.2.2) else (none))) else (if x9_1.length < 1466015503701 then (spec_l71Steps.l0 kj37 a2 a3 (x9_1 ++ [(⟨2, t173, (⟨0, 0, 0⟩ : S57), 0, t190, bt194.1⟩ : S59)]) (wrap64 (x10_1 - 1)) s0_0 bt194.2) else (none)))) = some (r1, r2) := H
         have A47 := Aside0.mk A470
         clear A470
         replace H := Option.bind_eq_some_iff.mp H
         obtain ⟨⟨t194, t197⟩, A480, H⟩ := H
         replace H : (if 2 = 1 then ((spec_l71Val.f kj37 s0_0 t197 a3).bind fun bt198 => (if x9_1.length < 1466015503701 then (spec_l71Steps.l0 kj37 a2 a3 (x9_1 ++ [(⟨2, t173, (⟨bt198.1, bt198.2.1, bt198.2.2.1⟩ : S57), 0, t190, t194⟩ : S59)]) (wrap64 (x10_1 - 1)) s0_0 bt198.2.2.2) else (none))) else (if x9_1.length < 1466015503701 then (spec_l71Steps.l0 kj37 a2 a3 (x9_1 ++ [(⟨2, t173, (⟨0, 0, 0⟩ : S57), 0, t190, t194⟩ : S59)]) (wrap64 (x10_1 - 1)) s0_0 t197) else (none))) = some (r1, r2) := H
         have A48 := Aside0.mk A480
         clear A480
         by_cases c49 : 2 = 1
         ·exact absurd c49 (by decide)
         ·rw [if_neg c49] at H
          have c49b0 : (2 == 1) = false := beq_eq_false_iff_ne.mpr c49
          have c49b1 : (2 != 1) = true := bne_iff_ne.mpr c49
          by_cases c65 : x9_1.length < 1466015503701
          ·rw [if_pos c65] at H
           have LMc65 := Aside0.mk c65
           clear c65
           obtain ⟨y205, hy205⟩ : ∃ y_ : List (S59), y_ = (x9_1 ++ [(⟨2, t173, (⟨0, 0, 0⟩ : S57), 0, t190, t194⟩ : S59)]) := ⟨_, rfl⟩
           replace H : (spec_l71Steps.l0 kj37 a2 a3 y205 (wrap64 (x10_1 - 1)) s0_0 t197) = some (r1, r2) := by first | (rw [hy205]; with_reducible exact H) | (have H2_ := (Option.bind_some _ _).symm.trans H; rw [hy205]; with_reducible exact H2_) | (have H2_ := (Option.bind_some _ _).symm.trans H; with_reducible exact H2_) | with_reducible exact H | (rw [hy205]; exact H) | exact H
           have Ny205 := Aside0.mk hy205
           clear hy205
           have H' := Aside0.mk H
           clear H
           have hnb66 := NB175_0.out
           have hnc66 := NB0_175.out
           obtain ⟨hcz67_0, hcz67_1, hcz67_2, hcz67_3, hcz67_4, hcz67_5, hcz67_6, hcz67_7⟩ := ZC8 wc BK175
           obtain ⟨hfz67_0, hfz67_1, hfz67_2, hfz67_3, hfz67_4, hfz67_5, hfz67_6, hfz67_7⟩ := ZF8 BK175
           go_wp2_with (first | ((with_reducible refine gate_callee (f := 123) rfl ?_); refine goesL_ (some 43) rfl rfl Try.func123 (by kernel_rfl) rfl #[.pointer (some ⟨g, 0, none⟩), .int .i64 2, .int .i64 (wrap64 (a2 - 1)), .int .i64 a3] rfl ZG ?_; (with_reducible refine (ih kj37 (by have := HK1.out; have := HJ37.out; omega) g s0_0 t177 2 (wrap64 (a2 - 1)) a3 t190 t193 w0 _ ?side1 ?side2 A47.out).mono ?_); (case side1 => exact ZI); (case side2 => exact ZBI); rintro e w68 ⟨v191, rfl, ho0, hi, hb, hk⟩; refine ⟨_, rfl, ?_⟩; have HO192 := Aside0.mk (Kd.R_lower (Kd.R_newB (Kd.R_new' ho0 (Kd.R_lt (by (with_reducible repeat (first | apply Kd.R_alloc | apply Kd.R_drewN | apply Kd.R_drew)); exact (Kd.R_mono (Kd.R_far (p := ⟨gb175, 0, none⟩) (Kd.R_mono HO_9.out (fun k_ hk => (⟨hk, hk⟩ : _ ∧ k_ ≠ gb175))) (fun _ hk => hk.2) (.int .i64 2)) (fun _ h_ => h_.1))))) (g := gb175) (o := .cells #[.int .i64 2, .int .i64 t173, .int .i64 0, .int .i64 0, .int .i64 0, .int .i64 0, .slice none 0 0, .slice none 0 0] 59 (0, 0)) (ZZ BK175.out)) (keep_size (w := w) (g := g) (row := none) (ZJ))); replace HO_9 := Aside0.mk (Kd.R_mono (Kd.R_told (Kd.R_oldK (IsS101.apart (show IsS101 w0 _ g s0_0 t177 from ZI) (by (with_reducible repeat (first | apply Kd.R_alloc | apply Kd.R_drewN | apply Kd.R_drew)); exact (Kd.R_mono (Kd.R_far (p := ⟨gb175, 0, none⟩) (Kd.R_mono HO_9.out (fun k_ hk => (⟨hk, hk⟩ : _ ∧ k_ ≠ gb175))) (fun _ hk => hk.2) (.int .i64 2)) (fun _ h_ => h_.1))) (by decide)) hk) (Kd.R_base ho0)) (fun _ h_ => h_.1)); replace BK175 := ZLV #[.int .i64 2, .int .i64 t173, .int .i64 0, .int .i64 0, .int .i64 0, .int .i64 0, .slice none 0 0, .slice none 0 0] hk BK175 NB175_0; replace HK := ZKT HK hk; replace HB := Aside0.mk (hb); replace HI0 := Aside0.mk (hi); (try clear hb); (try clear hb2); (try clear hk); (try clear hi); (try clear ho0); obtain ⟨Ao69, co69, eo69⟩ := Kd.R_slice HO192.out; subst eo69; obtain ⟨hcz70_0, hcz70_1, hcz70_2, hcz70_3, hcz70_4, hcz70_5, hcz70_6, hcz70_7⟩ := ZC8 w68 BK175; obtain ⟨hfz70_0, hfz70_1, hfz70_2, hfz70_3, hfz70_4, hfz70_5, hfz70_6, hfz70_7⟩ := ZF8 BK175) | ((with_reducible refine gate_callee (f := 123) rfl ?_); refine goesL_ (some 49) rfl rfl Try.func123 (by kernel_rfl) rfl #[.pointer (some ⟨g, 0, none⟩), .int .i64 2, .int .i64 (wrap64 (a2 - 1)), .int .i64 a3] rfl ZG ?_; (with_reducible refine (ih kj37 (by have := HK1.out; have := HJ37.out; omega) g s0_0 t193 2 (wrap64 (a2 - 1)) a3 t194 t197 w0 _ ?side1 ?side2 A48.out).mono ?_); (case side1 => exact ZI); (case side2 => exact ZBI); rintro e w71 ⟨v195, rfl, ho0, hi, hb, hk⟩; refine ⟨_, rfl, ?_⟩; have HO196 := Aside0.mk (Kd.R_lower (Kd.R_newB (Kd.R_new' (Kd.R_new' ho0 (Kd.R_lt (by (with_reducible repeat (first | apply Kd.R_alloc | apply Kd.R_drewN | apply Kd.R_drew)); exact (Kd.R_mono (Kd.R_far (p := ⟨gb175, 6, none⟩) (Kd.R_mono HO_9.out (fun k_ hk => (⟨hk, hk.1⟩ : _ ∧ k_ ≠ gb175))) (fun _ hk => hk.2) (.slice Ao69 t190.length co69)) (fun _ h_ => h_.1))))) (Kd.R_lt (by (with_reducible repeat (first | apply Kd.R_alloc | apply Kd.R_drewN | apply Kd.R_drew)); exact (Kd.R_mono (Kd.R_far (p := ⟨gb175, 6, none⟩) (Kd.R_mono HO192.out (fun k_ hk => (⟨hk, hk.2⟩ : _ ∧ k_ ≠ gb175))) (fun _ hk => hk.2) (.slice Ao69 t190.length co69)) (fun _ h_ => h_.1))))) (g := gb175) (o := .cells #[.int .i64 2, .int .i64 t173, .int .i64 0, .int .i64 0, .int .i64 0, .int .i64 0, .slice Ao69 t190.length co69, .slice none 0 0] 59 (0, 0)) (ZZ BK175.out)) (keep_size (w := w) (g := g) (row := none) (ZJ))); replace HO_9 := Aside0.mk (Kd.R_mono (Kd.R_told (Kd.R_oldK (IsS101.apart (show IsS101 w0 _ g s0_0 t193 from ZI) (by (with_reducible repeat (first | apply Kd.R_alloc | apply Kd.R_drewN | apply Kd.R_drew)); exact (Kd.R_mono (Kd.R_far (p := ⟨gb175, 6, none⟩) (Kd.R_mono HO_9.out (fun k_ hk => (⟨hk, hk.1⟩ : _ ∧ k_ ≠ gb175))) (fun _ hk => hk.2) (.slice Ao69 t190.length co69)) (fun _ h_ => h_.1))) (by decide)) hk) (Kd.R_base ho0)) (fun _ h_ => h_.1)); replace BK175 := ZLV #[.int .i64 2, .int .i64 t173, .int .i64 0, .int .i64 0, .int .i64 0, .int .i64 0, .slice Ao69 t190.length co69, .slice none 0 0] hk BK175 NB175_0; replace HO192 := Aside0.mk (Kd.R_mono (Kd.R_told (Kd.R_oldK (IsS101.apart (show IsS101 w0 _ g s0_0 t193 from ZI) (by (with_reducible repeat (first | apply Kd.R_alloc | apply Kd.R_drewN | apply Kd.R_drew)); exact (Kd.R_mono (Kd.R_far (p := ⟨gb175, 6, none⟩) (Kd.R_mono HO192.out (fun k_ hk => (⟨hk, hk.2⟩ : _ ∧ k_ ≠ gb175))) (fun _ hk => hk.2) (.slice Ao69 t190.length co69)) (fun _ h_ => h_.1))) (by decide)) hk) (Kd.R_base ho0)) (fun _ h_ => h_.1)); replace HK := ZKT HK hk; replace HB := Aside0.mk (hb); replace HI0 := Aside0.mk (hi); (try clear hb); (try clear hb2); (try clear hk); (try clear hi); (try clear ho0); obtain ⟨Ao72, co72, eo72⟩ := Kd.R_slice HO196.out; subst eo72; obtain ⟨hcz73_0, hcz73_1, hcz73_2, hcz73_3, hcz73_4, hcz73_5, hcz73_6, hcz73_7⟩ := ZC8 w71 BK175; obtain ⟨hfz73_0, hfz73_1, hfz73_2, hfz73_3, hfz73_4, hfz73_5, hfz73_6, hfz73_7⟩ := ZF8 BK175) | ((with_reducible refine gate_store (t := 24) (p := 50) rfl ?_); refine store_event (t := 24) (p := 50) (v := ?vo_w74) (w1 := (w71.setCell ⟨gb175, 7, none⟩ (.slice Ao72 t194.length co72))) ?hg ?ho ?hn ?hr ?_; (case ho => rfl); (case hg => rfl); (case hn => rfl); (case hr => first | (go_simp; done) | (go_simp; rfl)); intro w74 hw; have n0_ : Aside0 (Kd.R k59 59 w74 w.heap.size (fun k_ => some k_ ≠ (.slice Ao69 t190.length co69 : Value).ownBlock ∧ some k_ ≠ (.slice Ao72 t194.length co72 : Value).ownBlock ∧ k_ ≠ gb175) u9 x9_1) := ⟨(by rw [hw]; exact (by (with_reducible repeat (first | apply Kd.R_alloc | apply Kd.R_drewN | apply Kd.R_drew)); exact Kd.R_mono (Kd.R_far (p := ⟨gb175, 7, none⟩) (Kd.R_mono HO_9.out (fun k_ hk => (⟨hk, hk.1.1⟩ : _ ∧ k_ ≠ gb175))) (fun _ hk => hk.2) (.slice Ao72 t194.length co72)) (fun _ hk => ⟨hk.1.1.2, ⟨hk.1.2, hk.1.1.1⟩⟩)))⟩; have n1_ : Aside0 (Kd.R k59 59 w74 w.heap.size (fun k_ => some k_ ≠ (u9 : Value).ownBlock ∧ some k_ ≠ (.slice Ao72 t194.length co72 : Value).ownBlock ∧ k_ ≠ gb175) (.slice Ao69 t190.length co69) t190) := ⟨(by rw [hw]; exact (by (with_reducible repeat (first | apply Kd.R_alloc | apply Kd.R_drewN | apply Kd.R_drew)); exact Kd.R_mono (Kd.R_far (p := ⟨gb175, 7, none⟩) (Kd.R_mono HO192.out (fun k_ hk => (⟨hk, hk.1.2⟩ : _ ∧ k_ ≠ gb175))) (fun _ hk => hk.2) (.slice Ao72 t194.length co72)) (fun _ hk => ⟨hk.1.1.1.2, ⟨hk.1.2, hk.1.1.2⟩⟩)))⟩; have n2_ : Aside0 (Kd.R k59 59 w74 w.heap.size (fun k_ => some k_ ≠ (u9 : Value).ownBlock ∧ some k_ ≠ (.slice Ao69 t190.length co69 : Value).ownBlock ∧ k_ ≠ gb175) (.slice Ao72 t194.length co72) t194) := ⟨(by rw [hw]; exact (by (with_reducible repeat (first | apply Kd.R_alloc | apply Kd.R_drewN | apply Kd.R_drew)); exact Kd.R_mono (Kd.R_far (p := ⟨gb175, 7, none⟩) (Kd.R_mono HO196.out (fun k_ hk => (⟨hk, hk.2⟩ : _ ∧ k_ ≠ gb175))) (fun _ hk => hk.2) (.slice Ao72 t194.length co72)) (fun _ hk => ⟨hk.1.1.1.2, ⟨hk.1.1.2, hk.1.2⟩⟩)))⟩; have n3_ : Aside0 (w74.heap[gb175]? = some (.cells #[.int .i64 2, .int .i64 t173, .int .i64 0, .int .i64 0, .int .i64 0, .int .i64 0, .slice Ao69 t190.length co69, .slice Ao72 t194.length co72] 59 (0, 0))) := ⟨(by rw [hw]; exact (ZZ BK175.out))⟩; have n4_ : Aside0 (IsS101 w0 w74 g s0_0 t197) := ⟨(by rw [hw]; exact (ZI))⟩; have n5_ : Aside0 (KeepBut w w74 g none) := ⟨(by rw [hw]; exact (ZJ))⟩; have n6_ : Aside0 (Below w0.heap.size w0 w74) := ⟨(by rw [hw]; exact (ZBI))⟩; clear hw; clear HO_9; clear HO192; clear HO196; clear BK175; clear HI0; clear HK; clear HB; have HO_9 := n0_; have HO192 := n1_; have HO196 := n2_; have BK175 := n3_; have HI0 := n4_; have HK := n5_; have HB := n6_; clear n0_ n1_ n2_ n3_ n4_ n5_ n6_; obtain ⟨hcz75_0, hcz75_1, hcz75_2, hcz75_3, hcz75_4, hcz75_5, hcz75_6, hcz75_7⟩ := ZC8 w74 BK175; obtain ⟨hfz75_0, hfz75_1, hfz75_2, hfz75_3, hfz75_4, hfz75_5, hfz75_6, hfz75_7⟩ := ZF8 BK175) | ((with_reducible refine gate_builtin (b := .append) (xs := #[.tmp 58, .tmp 60]) rfl ?_); at_builtin; refine Kd.R_append k59 w.heap.size rfl (.tmp 58) (.tmp 60) 24 59 (.agg #[(.int .i64 0), (.int .i64 0), (.int .i64 0), (.int .i64 0), (.int .i64 0), (.int .i64 0), (.slice none 0 0), (.slice none 0 0)]) 96 rfl Try.underlying24 info59 rfl (by decide) (by omega) u9 x9_1 (⟨2, t173, (⟨0, 0, 0⟩ : S57), 0, t190, t194⟩ : S59) [.int .i64 2, .int .i64 t173, .int .i64 0, .int .i64 0, .int .i64 0, .int .i64 0, .slice Ao69 t190.length co69, .slice Ao72 t194.length co72] (fun k_ => k_ ≠ gb175) (fun k_ => ((fun k_ => k_ ≠ gb175)) k_ ∧ some k_ ≠ (u9 : Value).ownBlock) rfl rfl ?aP (fun _ hk => hk) ?aF ?aO (Below.refl _ _) ?aS ?aL ?_; (case aP => exact k59_mkM _ _ _ (⟨2, t173, (⟨0, 0, 0⟩ : S57), 0, t190, t194⟩ : S59) (Kd.R_mono (HO192.out) (fun k_ hk => ⟨hk.2.2, hk.1⟩)) (Kd.R_mono (HO196.out) (fun k_ hk => ⟨hk.2.2, hk.1⟩))); (case aF => exact (fun k_ hk => Kd.freshB (g := gb175) (o := .cells #[.int .i64 2, .int .i64 t173, .int .i64 0, .int .i64 0, .int .i64 0, .int .i64 0, .slice Ao69 t190.length co69, .slice Ao72 t194.length co72] 59 (0, 0)) (ZK BK175.out) k_ hk)); (case aO => exact (ZR (Kd.R_mono HO_9.out (fun _ hk => hk.2.2)))); (case aS => exact (keep_size (w := w) (g := g) (row := none) (ZJ))); (case aL => have := LMc65.out; omega); intro v206 w76 ho hb hg hat; rw [← Ny205.out] at ho; have n0_ := Aside0.mk (blk_grown (g := gb175) (o := .cells #[.int .i64 2, .int .i64 t173, .int .i64 0, .int .i64 0, .int .i64 0, .int .i64 0, .slice Ao69 t190.length co69, .slice Ao72 t194.length co72] 59 (0, 0)) (ZK BK175.out) hg (Kd.R_away HO_9.out (fun _ hk => hk.2.2))); have n1_ := Aside0.mk (spec_l71Steps.grown_ HI0 hg (IsS101.own_ne HI0.out HO_9.out (by decide))); have n2_ := Aside0.mk (below_weaken (ZBI) HL.out hb); have n3_ := Aside0.mk (KeepBut.trans (ZJ) (KeepBut.of_grown hg g) (Kd.R_base2 HO_9.out)); have n4_ := Aside0.mk (ho); clear BK175; clear HI0; clear HB; clear HK; clear HO_9; clear HO192; clear HO196; have BK175 := n0_; have HI0 := n1_; have HB := n2_; have HK := n3_; have HO207 := n4_; clear n0_ n1_ n2_ n3_ n4_; clear ho hb hg hat))
           go_roundg kj37
           case measure => have := HK1.out; have := HJ37.out; omega
           case rel => exact ⟨(y205), (wrap64 (x10_1 - 1)), (t197), (by first | rfl | (simp; done) | (simp [*]; done)), H', ⟨by have := HK1.out; have := HJ37.out; omega⟩, ⟨ZR (Kd.R_mono HO207.out (fun _ hk => trivial))⟩, ⟨ZI⟩, ⟨ZJ⟩, ⟨ZBI⟩⟩
          ·rw [if_neg c65] at H
           exact absurd H (by simp)
        ·rw [if_neg c46] at H
         have c46b0 : decide (1 < a2) = false := decide_eq_false c46
         clear c46
         by_cases c77 : 1 = 1
         ·rw [if_pos c77] at H
          have c77b0 : (1 == 1) = true := beq_iff_eq.mpr c77
          have c77b1 : (1 != 1) = false := bne_eq_false_iff_eq.mpr c77
          clear c77
          replace H := Option.bind_eq_some_iff.mp H
          obtain ⟨⟨t208, t209, t210, t211⟩, A780, H⟩ := H
          replace H : (if x9_1.length < 1466015503701 then (spec_l71Steps.l0 kj37 a2 a3 (x9_1 ++ [(⟨1, t173, (⟨t208, t209, t210⟩ : S57), 0, ([] : List (S59)), ([] : List (S59))⟩ : S59)]) (wrap64 (x10_1 - 1)) s0_0 t211) else (none)) = some (r1, r2) := H
          have A78 := Aside0.mk A780
          clear A780
          by_cases c79 : x9_1.length < 1466015503701
          ·rw [if_pos c79] at H
           have LMc79 := Aside0.mk c79
           clear c79
           obtain ⟨y212, hy212⟩ : ∃ y_ : List (S59), y_ = (x9_1 ++ [(⟨1, t173, (⟨t208, t209, t210⟩ : S57), 0, ([] : List (S59)), ([] : List (S59))⟩ : S59)]) := ⟨_, rfl⟩
           replace H : (spec_l71Steps.l0 kj37 a2 a3 y212 (wrap64 (x10_1 - 1)) s0_0 t211) = some (r1, r2) := by first | (rw [hy212]; with_reducible exact H) | (have H2_ := (Option.bind_some _ _).symm.trans H; rw [hy212]; with_reducible exact H2_) | (have H2_ := (Option.bind_some _ _).symm.trans H; with_reducible exact H2_) | with_reducible exact H | (rw [hy212]; exact H) | exact H
           have Ny212 := Aside0.mk hy212
           clear hy212
           have H' := Aside0.mk H
           clear H
           have hnb80 := NB175_0.out
           have hnc80 := NB0_175.out
           obtain ⟨hcz81_0, hcz81_1, hcz81_2, hcz81_3, hcz81_4, hcz81_5, hcz81_6, hcz81_7⟩ := ZC8 wc BK175
           obtain ⟨hfz81_0, hfz81_1, hfz81_2, hfz81_3, hfz81_4, hfz81_5, hfz81_6, hfz81_7⟩ := ZF8 BK175
           go_wp2_with (first | ((with_reducible refine gate_callee (f := 144) rfl ?_); refine goesL_ (some 56) rfl rfl Try.func144 (by kernel_rfl) rfl #[.pointer (some ⟨g, 0, none⟩), .int .i64 a3] rfl ZG ?_; (with_reducible refine (spec_l71Val.calls kj37 g s0_0 t177 a3 t208 t209 t210 t211 w0 _ ?side1 ?side2 A78.out).mono ?_); (case side1 => exact ZI); (case side2 => exact ZBI); rintro e w82 ⟨rfl, hi, hb, hk⟩; refine ⟨_, rfl, ?_⟩; replace HO_9 := Aside0.mk (Kd.R_mono (Kd.R_keep (IsS101.apart (show IsS101 w0 _ g s0_0 t177 from ZI) (ZR HO_9.out) (by decide)) hk (fun _ h => h.2)) (fun _ h => h.1)); replace BK175 := ZL hk BK175 NB175_0; replace HK := ZKT HK hk; replace HB := Aside0.mk (hb); replace HI0 := Aside0.mk (hi); (try clear hb); (try clear hb2); (try clear hk); (try clear hi); obtain ⟨hcz83_0, hcz83_1, hcz83_2, hcz83_3, hcz83_4, hcz83_5, hcz83_6, hcz83_7⟩ := ZC8 w82 BK175; obtain ⟨hfz83_0, hfz83_1, hfz83_2, hfz83_3, hfz83_4, hfz83_5, hfz83_6, hfz83_7⟩ := ZF8 BK175) | ((with_reducible refine gate_builtin (b := .append) (xs := #[.tmp 58, .tmp 60]) rfl ?_); at_builtin; refine Kd.R_append k59 w.heap.size rfl (.tmp 58) (.tmp 60) 24 59 (.agg #[(.int .i64 0), (.int .i64 0), (.int .i64 0), (.int .i64 0), (.int .i64 0), (.int .i64 0), (.slice none 0 0), (.slice none 0 0)]) 96 rfl Try.underlying24 info59 rfl (by decide) (by omega) u9 x9_1 (⟨1, t173, (⟨t208, t209, t210⟩ : S57), 0, ([] : List (S59)), ([] : List (S59))⟩ : S59) [.int .i64 1, .int .i64 t173, .int .i64 t208, .int .i64 t209, .int .i64 t210, .int .i64 0, .slice none 0 0, .slice none 0 0] (fun k_ => k_ ≠ gb175) (fun k_ => ((fun k_ => k_ ≠ gb175)) k_ ∧ some k_ ≠ (u9 : Value).ownBlock) rfl (by first | (go_simp; done) | (go_simp; rfl)) ?aP (fun _ hk => hk) ?aF ?aO (Below.refl _ _) ?aS ?aL ?_; (case aP => exact k59_mkM _ _ _ (⟨1, t173, (⟨t208, t209, t210⟩ : S57), 0, ([] : List (S59)), ([] : List (S59))⟩ : S59) (Kd.R_nil _ _ _ _ _) (Kd.R_nil _ _ _ _ _)); (case aF => exact (fun k_ hk => Kd.freshB (g := gb175) (o := .cells #[.int .i64 1, .int .i64 t173, .int .i64 t208, .int .i64 t209, .int .i64 t210, .int .i64 0, .slice none 0 0, .slice none 0 0] 59 (0, 0)) (ZZ BK175.out) k_ hk)); (case aO => exact (by (with_reducible repeat (first | apply Kd.R_alloc | apply Kd.R_drewN | apply Kd.R_drew)); exact Kd.R_mono (Kd.R_far (p := ⟨gb175, 4, none⟩) (Kd.R_far (p := ⟨gb175, 3, none⟩) (Kd.R_far (p := ⟨gb175, 2, none⟩) (Kd.R_mono HO_9.out (fun k_ hk => (⟨hk, hk⟩ : _ ∧ k_ ≠ gb175))) (fun _ hk => hk.2) (.int .i64 t208)) (fun _ hk => hk.2) (.int .i64 t209)) (fun _ hk => hk.2) (.int .i64 t210)) (fun _ hk => hk.1))); (case aS => exact (keep_size (w := w) (g := g) (row := none) (ZJ))); (case aL => have := LMc79.out; omega); intro v213 w84 ho hb hg hat; rw [← Ny212.out] at ho; have n0_ := Aside0.mk (blk_grown (g := gb175) (o := .cells #[.int .i64 1, .int .i64 t173, .int .i64 t208, .int .i64 t209, .int .i64 t210, .int .i64 0, .slice none 0 0, .slice none 0 0] 59 (0, 0)) (ZZ BK175.out) hg (Kd.R_away HO_9.out (fun _ hk => hk))); have n1_ := Aside0.mk (spec_l71Steps.grown_ HI0 hg (IsS101.own_ne HI0.out HO_9.out (by decide))); have n2_ := Aside0.mk (below_weaken (ZBI) HL.out hb); have n3_ := Aside0.mk (KeepBut.trans (ZJ) (KeepBut.of_grown hg g) (Kd.R_base2 HO_9.out)); have n4_ := Aside0.mk (ho); clear BK175; clear HI0; clear HB; clear HK; clear HO_9; have BK175 := n0_; have HI0 := n1_; have HB := n2_; have HK := n3_; have HO214 := n4_; clear n0_ n1_ n2_ n3_ n4_; clear ho hb hg hat))
           go_roundg kj37
           case measure => have := HK1.out; have := HJ37.out; omega
           case rel => exact ⟨(y212), (wrap64 (x10_1 - 1)), (t211), (by first | rfl | (simp; done) | (simp [*]; done)), H', ⟨by have := HK1.out; have := HJ37.out; omega⟩, ⟨ZR (Kd.R_mono HO214.out (fun _ hk => trivial))⟩, ⟨ZI⟩, ⟨ZJ⟩, ⟨ZBI⟩⟩
          ·rw [if_neg c79] at H
           exact absurd H (by simp)
         ·exact absurd rfl c77
       ·replace c45 := Bool.eq_false_iff.mpr c45
        subst c45
        have H1 : (if 1 = 1 then ((spec_l71Val.f kj37 s0_0 t177 a3).bind fun bt218 => (if x9_1.length < 1466015503701 then (spec_l71Steps.l0 kj37 a2 a3 (x9_1 ++ [(⟨1, t173, (⟨bt218.1, bt218.2.1, bt218.2.2.1⟩ : S57), 0, ([] : List (S59)), ([] : List (S59))⟩ : S59)]) (wrap64 (x10_1 - 1)) s0_0 bt218.2.2.2) else (none))) else (if x9_1.length < 1466015503701 then (spec_l71Steps.l0 kj37 a2 a3 (x9_1 ++ [(⟨1, t173, (⟨0, 0, 0⟩ : S57), 0, ([] : List (S59)), ([] : List (S59))⟩ : S59)]) (wrap64 (x10_1 - 1)) s0_0 t177) else (none))) = some (r1, r2) := by rw [if_neg (show ¬ (false = true) by decide)] at H; exact H
        clear H
        have H := H1
        clear H1
        by_cases c89 : 1 = 1
        ·rw [if_pos c89] at H
         have c89b0 : (1 == 1) = true := beq_iff_eq.mpr c89
         have c89b1 : (1 != 1) = false := bne_eq_false_iff_eq.mpr c89
         clear c89
         replace H := Option.bind_eq_some_iff.mp H
         obtain ⟨⟨t218, t219, t220, t221⟩, A900, H⟩ := H
         replace H : (if x9_1.length < 1466015503701 then (spec_l71Steps.l0 kj37 a2 a3 (x9_1 ++ [(⟨1, t173, (⟨t218, t219, t220⟩ : S57), 0, ([] : List (S59)), ([] : List (S59))⟩ : S59)]) (wrap64 (x10_1 - 1)) s0_0 t221) else (none)) = some (r1, r2) := H
         have A90 := Aside0.mk A900
         clear A900
         by_cases c91 : x9_1.length < 1466015503701
         ·rw [if_pos c91] at H
          have LMc91 := Aside0.mk c91
          clear c91
          obtain ⟨y222, hy222⟩ : ∃ y_ : List (S59), y_ = (x9_1 ++ [(⟨1, t173, (⟨t218, t219, t220⟩ : S57), 0, ([] : List (S59)), ([] : List (S59))⟩ : S59)]) := ⟨_, rfl⟩
          replace H : (spec_l71Steps.l0 kj37 a2 a3 y222 (wrap64 (x10_1 - 1)) s0_0 t221) = some (r1, r2) := by first | (rw [hy222]; with_reducible exact H) | (have H2_ := (Option.bind_some _ _).symm.trans H; rw [hy222]; with_reducible exact H2_) | (have H2_ := (Option.bind_some _ _).symm.trans H; with_reducible exact H2_) | with_reducible exact H | (rw [hy222]; exact H) | exact H
          have Ny222 := Aside0.mk hy222
          clear hy222
          have H' := Aside0.mk H
          clear H
          have hnb92 := NB175_0.out
          have hnc92 := NB0_175.out
          obtain ⟨hcz93_0, hcz93_1, hcz93_2, hcz93_3, hcz93_4, hcz93_5, hcz93_6, hcz93_7⟩ := ZC8 wc BK175
          obtain ⟨hfz93_0, hfz93_1, hfz93_2, hfz93_3, hfz93_4, hfz93_5, hfz93_6, hfz93_7⟩ := ZF8 BK175
          go_wp2_with (first | ((with_reducible refine gate_callee (f := 144) rfl ?_); refine goesL_ (some 56) rfl rfl Try.func144 (by kernel_rfl) rfl #[.pointer (some ⟨g, 0, none⟩), .int .i64 a3] rfl ZG ?_; (with_reducible refine (spec_l71Val.calls kj37 g s0_0 t177 a3 t218 t219 t220 t221 w0 _ ?side1 ?side2 A90.out).mono ?_); (case side1 => exact ZI); (case side2 => exact ZBI); rintro e w94 ⟨rfl, hi, hb, hk⟩; refine ⟨_, rfl, ?_⟩; replace HO_9 := Aside0.mk (Kd.R_mono (Kd.R_keep (IsS101.apart (show IsS101 w0 _ g s0_0 t177 from ZI) (ZR HO_9.out) (by decide)) hk (fun _ h => h.2)) (fun _ h => h.1)); replace BK175 := ZL hk BK175 NB175_0; replace HK := ZKT HK hk; replace HB := Aside0.mk (hb); replace HI0 := Aside0.mk (hi); (try clear hb); (try clear hb2); (try clear hk); (try clear hi); obtain ⟨hcz95_0, hcz95_1, hcz95_2, hcz95_3, hcz95_4, hcz95_5, hcz95_6, hcz95_7⟩ := ZC8 w94 BK175; obtain ⟨hfz95_0, hfz95_1, hfz95_2, hfz95_3, hfz95_4, hfz95_5, hfz95_6, hfz95_7⟩ := ZF8 BK175) | ((with_reducible refine gate_builtin (b := .append) (xs := #[.tmp 58, .tmp 60]) rfl ?_); at_builtin; refine Kd.R_append k59 w.heap.size rfl (.tmp 58) (.tmp 60) 24 59 (.agg #[(.int .i64 0), (.int .i64 0), (.int .i64 0), (.int .i64 0), (.int .i64 0), (.int .i64 0), (.slice none 0 0), (.slice none 0 0)]) 96 rfl Try.underlying24 info59 rfl (by decide) (by omega) u9 x9_1 (⟨1, t173, (⟨t218, t219, t220⟩ : S57), 0, ([] : List (S59)), ([] : List (S59))⟩ : S59) [.int .i64 1, .int .i64 t173, .int .i64 t218, .int .i64 t219, .int .i64 t220, .int .i64 0, .slice none 0 0, .slice none 0 0] (fun k_ => k_ ≠ gb175) (fun k_ => ((fun k_ => k_ ≠ gb175)) k_ ∧ some k_ ≠ (u9 : Value).ownBlock) rfl (by first | (go_simp; done) | (go_simp; rfl)) ?aP (fun _ hk => hk) ?aF ?aO (Below.refl _ _) ?aS ?aL ?_; (case aP => exact k59_mkM _ _ _ (⟨1, t173, (⟨t218, t219, t220⟩ : S57), 0, ([] : List (S59)), ([] : List (S59))⟩ : S59) (Kd.R_nil _ _ _ _ _) (Kd.R_nil _ _ _ _ _)); (case aF => exact (fun k_ hk => Kd.freshB (g := gb175) (o := .cells #[.int .i64 1, .int .i64 t173, .int .i64 t218, .int .i64 t219, .int .i64 t220, .int .i64 0, .slice none 0 0, .slice none 0 0] 59 (0, 0)) (ZZ BK175.out) k_ hk)); (case aO => exact (by (with_reducible repeat (first | apply Kd.R_alloc | apply Kd.R_drewN | apply Kd.R_drew)); exact Kd.R_mono (Kd.R_far (p := ⟨gb175, 4, none⟩) (Kd.R_far (p := ⟨gb175, 3, none⟩) (Kd.R_far (p := ⟨gb175, 2, none⟩) (Kd.R_mono HO_9.out (fun k_ hk => (⟨hk, hk⟩ : _ ∧ k_ ≠ gb175))) (fun _ hk => hk.2) (.int .i64 t218)) (fun _ hk => hk.2) (.int .i64 t219)) (fun _ hk => hk.2) (.int .i64 t220)) (fun _ hk => hk.1))); (case aS => exact (keep_size (w := w) (g := g) (row := none) (ZJ))); (case aL => have := LMc91.out; omega); intro v223 w96 ho hb hg hat; rw [← Ny222.out] at ho; have n0_ := Aside0.mk (blk_grown (g := gb175) (o := .cells #[.int .i64 1, .int .i64 t173, .int .i64 t218, .int .i64 t219, .int .i64 t220, .int .i64 0, .slice none 0 0, .slice none 0 0] 59 (0, 0)) (ZZ BK175.out) hg (Kd.R_away HO_9.out (fun _ hk => hk))); have n1_ := Aside0.mk (spec_l71Steps.grown_ HI0 hg (IsS101.own_ne HI0.out HO_9.out (by decide))); have n2_ := Aside0.mk (below_weaken (ZBI) HL.out hb); have n3_ := Aside0.mk (KeepBut.trans (ZJ) (KeepBut.of_grown hg g) (Kd.R_base2 HO_9.out)); have n4_ := Aside0.mk (ho); clear BK175; clear HI0; clear HB; clear HK; clear HO_9; have BK175 := n0_; have HI0 := n1_; have HB := n2_; have HK := n3_; have HO224 := n4_; clear n0_ n1_ n2_ n3_ n4_; clear ho hb hg hat))
          go_roundg kj37
          case measure => have := HK1.out; have := HJ37.out; omega
          case rel => exact ⟨(y222), (wrap64 (x10_1 - 1)), (t221), (by first | rfl | (simp; done) | (simp [*]; done)), H', ⟨by have := HK1.out; have := HJ37.out; omega⟩, ⟨ZR (Kd.R_mono HO224.out (fun _ hk => trivial))⟩, ⟨ZI⟩, ⟨ZJ⟩, ⟨ZBI⟩⟩
         ·rw [if_neg c91] at H
          exact absurd H (by simp)
        ·exact absurd rfl c89
   ·rw [if_neg c9] at H
    have c9b0 : decide (0 < x10_1) = false := decide_eq_false c9
    clear c9
    simp only [Option.some.injEq, Prod.mk.injEq] at H
    obtain ⟨rfl, rfl⟩ := H
    go_wp2
    go_ret
    exact ⟨_, ZE, by (with_reducible repeat (first | apply Kd.R_alloc | apply Kd.R_drewN | apply Kd.R_drew)); exact HO_9.out, ZI, ZBI, ZJ⟩

end Go.Proofs.Ytcffnnedghgmaaa.A
