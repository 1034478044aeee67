/- By wip/tools/pr.py: Go functions as Lean functions, with contracts. -/
import Derived.Test.YthidgkfgdkjghaaAx0
import Derived.Test.YthidgkfgdkjghaaAx5
namespace Go.Proofs.Ythidgkfgdkjghaa.A
open Go.RowKit Go.Proofs.YthidgkfgdkjghaaW.PrintWords Go.Proofs.YthidgkfgdkjghaaW.PrintLast Go.Proofs.YthidgkfgdkjghaaW.PrintMore
attribute [local go_sem] max2_int min2_int max_two min_two max_three min_three max_four min_four
set_option linter.unusedVariables false
set_option linter.unusedSimpArgs false
set_option maxHeartbeats 8000000
set_option maxRecDepth 100000

/-! ### spec_l71Steps: function 61 -/
mutual
def spec_l71Steps.l0 : Nat → Int → Int → List (S32) → Int → List Int → Int → Option ((List (S32)) × Int)
 | 0, _, _, _, _, _, _ => none
 | k + 1, x2, x3, x9, x10, x1000, x1001 => if x10 > 0 then ((spec_l6Rd_pick.f k x1000 x1001 x3).bind fun bt170 => ((spec_l6Rd_pick.f k x1000 bt170.2 5).bind fun bt173 => (if bt173.1 = 0 then ((spec_l6Rd_pick.f k x1000 bt173.2 3).bind fun bt175 => (if 3 = 1 then ((spec_l71Val.f k x1000 bt175.2 x3).bind fun bt177 => (if x9.length < 1466015503701 then (spec_l71Steps.l0 k x2 x3 (x9 ++ [(⟨3, bt170.1, (⟨bt177.1, bt177.2.1, bt177.2.2.1⟩ : S30), bt175.1, ([] : List (S32)), ([] : List (S32))⟩ : S32)]) (wrap64 (x10 - 1)) x1000 bt177.2.2.2) else (none))) else (if x9.length < 1466015503701 then (spec_l71Steps.l0 k x2 x3 (x9 ++ [(⟨3, bt170.1, (⟨0, 0, 0⟩ : S30), bt175.1, ([] : List (S32)), ([] : List (S32))⟩ : S32)]) (wrap64 (x10 - 1)) x1000 bt175.2) else (none)))) else (if bt173.1 = 1 then (spec_l71Steps.j1 k x2 x3 x9 x10 (bt173.1 == 1) x1000 bt173.2 1 bt170.1 0 0 0 0) else (spec_l71Steps.j1 k x2 x3 x9 x10 (bt173.1 == 2) x1000 bt173.2 1 bt170.1 0 0 0 0))))) else (some (x9, x1001))
def spec_l71Steps.j1 : Nat → Int → Int → List (S32) → Int → Bool → List Int → Int → Int → Int → Int → Int → Int → Int → Option ((List (S32)) × Int)
 | 0, _, _, _, _, _, _, _, _, _, _, _, _, _ => none
 | k + 1, x2, x3, x9, x10, x33, x1000, x1001, x173000, x173001, x173002, x173003, x173004, x173005 => if x33 = true then (if x2 > 1 then ((spec_l71Steps.f k x1000 x1001 2 (wrap64 (x2 - 1)) x3).bind fun bt187 => ((spec_l71Steps.f k x1000 bt187.2 2 (wrap64 (x2 - 1)) x3).bind fun bt191 => (if 2 = 1 then ((spec_l71Val.f k x1000 bt191.2 x3).bind fun bt195 => (if x9.length < 1466015503701 then (spec_l71Steps.l0 k x2 x3 (x9 ++ [(⟨2, x173001, (⟨bt195.1, bt195.2.1, bt195.2.2.1⟩ : S30), x173005, bt187.1, bt191.1⟩ : S32)]) (wrap64 (x10 - 1)) x1000 bt195.2.2.2) else (none))) else (if x9.length < 1466015503701 then (spec_l71Steps.l0 k x2 x3 (x9 ++ [(⟨2, x173001, (⟨x173002, x173003, x173004⟩ : S30), x173005, bt187.1, bt191.1⟩ : S32)]) (wrap64 (x10 - 1)) x1000 bt191.2) else (none))))) else (if x173000 = 1 then ((spec_l71Val.f k x1000 x1001 x3).bind fun bt205 => (if x9.length < 1466015503701 then (spec_l71Steps.l0 k x2 x3 (x9 ++ [(⟨x173000, x173001, (⟨bt205.1, bt205.2.1, bt205.2.2.1⟩ : S30), x173005, ([] : List (S32)), ([] : List (S32))⟩ : S32)]) (wrap64 (x10 - 1)) x1000 bt205.2.2.2) else (none))) else (if x9.length < 1466015503701 then (spec_l71Steps.l0 k x2 x3 (x9 ++ [(⟨x173000, x173001, (⟨x173002, x173003, x173004⟩ : S30), x173005, ([] : List (S32)), ([] : List (S32))⟩ : S32)]) (wrap64 (x10 - 1)) x1000 x1001) else (none)))) else (if x173000 = 1 then ((spec_l71Val.f k x1000 x1001 x3).bind fun bt215 => (if x9.length < 1466015503701 then (spec_l71Steps.l0 k x2 x3 (x9 ++ [(⟨x173000, x173001, (⟨bt215.1, bt215.2.1, bt215.2.2.1⟩ : S30), x173005, ([] : List (S32)), ([] : List (S32))⟩ : S32)]) (wrap64 (x10 - 1)) x1000 bt215.2.2.2) else (none))) else (if x9.length < 1466015503701 then (spec_l71Steps.l0 k x2 x3 (x9 ++ [(⟨x173000, x173001, (⟨x173002, x173003, x173004⟩ : S30), x173005, ([] : List (S32)), ([] : List (S32))⟩ : S32)]) (wrap64 (x10 - 1)) x1000 x1001) else (none)))
def spec_l71Steps.f : Nat → List Int → Int → Int → Int → Int → Option ((List (S32)) × Int)
 | 0, _, _, _, _, _ => none
 | k + 1, s0_0, s0_1, a1, a2, a3 => (spec_l6Rd_pick.f k s0_0 s0_1 (wrap64 (a1 + 1))).bind fun bt168 => (spec_l71Steps.l0 k a2 a3 (([] : List (S32))) bt168.1 s0_0 bt168.2)
end
theorem spec_l71Steps.grown_ {w0 W0 W W1 : World} {g : Nat} {f0 : List Int} {f1 : Int} {row : Option Nat} (B : Za (IsS64 w0 W0 g f0 f1)) (hg : W.grownBy W1 row) (hne : some g ≠ row) (t : IsS64 w0 W0 g f0 f1 → IsS64 w0 W g f0 f1 := by intro h_; repeat (first | (with_reducible first | exact h_ | apply IsS64.alloc | apply IsS64.drewN | apply IsS64.drew | apply IsS64.set_1 | refine IsS64.far ?_ (Za.out (by first | with_reducible assumption | (dsimp only; with_reducible assumption))) _) | exact h_)) : IsS64 w0 W1 g f0 f1 := IsS64.grown (t B.out) hg hne
theorem spec_l71Steps.calls (k : Nat) : ∀ (g : Nat) (s0_0 : List Int) (s0_1 : Int) (a1 : Int) (a2 : Int) (a3 : Int) (r1 : List (S32)) (r2 : Int) (w0 w : World) (hI : IsS64 w0 w g s0_0 s0_1) (hB : Below w0.heap.size w0 w) (h : spec_l71Steps.f k s0_0 s0_1 a1 a2 a3 = some (r1, r2)),
  Calls Try.prog 61 #[.pointer (some ⟨g, 0, none⟩), .int .i64 a1, .int .i64 a2, .int .i64 a3] w fun e w' => ∃ v0_ : Value, e = .returned (v0_) ∧ Kd.R k32 32 w' w.heap.size (fun _ => True) v0_ r1 ∧ IsS64 w0 w' g s0_0 r2 ∧ Below w0.heap.size w0 w' ∧ KeepBut w w' g none := by
 induction k using Nat.strongRecOn with
 | _ k ih =>
 intro g s0_0 s0_1 a1 a2 a3 r1 r2 w0 w hI hB h
 cases k with
 | zero => exact absurd h (by simp [spec_l71Steps.f])
 | succ k =>
 simp only [spec_l71Steps.f] at h
 have hu32 := Try.underlying32
 have hu30 := Try.underlying30
 have HI0 := AM hI
 have HK := AM (KeepBut.refl w g none)
 have HL := AM hB.size
 clear hI
 have HW0 := AM hB.size
 have HB := AM hB
 clear hB
 have H : ((spec_l6Rd_pick.f k s0_0 s0_1 (wrap64 (a1 + 1))).bind fun bt168 => (spec_l71Steps.l0 k a2 a3 (([] : List (S32))) bt168.1 s0_0 bt168.2)) = some (r1, r2) := h
 clear h
 obtain ⟨y165, hy165⟩ : ∃ y_ : List (S32), y_ = (([] : List (S32))) := ⟨_, rfl⟩
 replace H : ((spec_l6Rd_pick.f k s0_0 s0_1 (wrap64 (a1 + 1))).bind fun bt168 => (spec_l71Steps.l0 k a2 a3 y165 bt168.1 s0_0 bt168.2)) = some (r1, r2) := by first | (rw [hy165]; with_reducible exact H) | (have H2_ := (Option.bind_some _ _).symm.trans H; rw [hy165]; with_reducible exact H2_) | (have H2_ := (Option.bind_some _ _).symm.trans H; with_reducible exact H2_) | with_reducible exact H | (rw [hy165]; exact H) | exact H
 have Ny165 := AM hy165
 clear hy165
 obtain ⟨⟨t168, t169⟩, A5, H⟩ := ZOB H
 replace H : (spec_l71Steps.l0 k a2 a3 y165 t168 s0_0 t169) = some (r1, r2) := H
 have H' := AM H
 clear H
 go_enter Try.func61, Try.ntmps61
 go_wp2_with (first | ((with_reducible refine gate_dst (N := 12) rfl ?_); refine Kd.R_lit k32 _ 32 ?hg (N := 12) ?hd (xs := ([] : List (S32))) (inner := []) (ok := fun _ => True) (okp := fun _ => True) ?hr ?hp (fun _ hk => hk) trivial (Below.refl _ _) (Nat.le_refl _) (by simp) ?_; (case hd => rfl); (case hg => rfl); (case hr => first | (go_simp; done) | (go_simp; rfl)); (case hp => exact (Reps.none _ _)); intro v166 w6 ho7 hb hg_ hnew_; clear hg_ hnew_; (first | rw [← Ny165.out] at ho7 | (simp only [Int.reduceToNat] at ho7; rw [← Ny165.out] at ho7)); have HO167 := AM (Kd.R_lower ho7 (keep_size (w := w) (g := g) (row := none) (ZJ))); replace HK := ZKT HK (KeepBut.of_below hb g none); replace HB := ZTI HB hb; replace HI0 := AM (IsS64.below (ZI) hb); clear hb ho7) | ((with_reducible refine gate_callee (f := 39) rfl ?_); refine ZGL (some 16) Try.func39 #[.pointer (some ⟨g, 0, none⟩), .int .i64 (wrap64 (a1 + 1))] ?_; (with_reducible refine (spec_l6Rd_pick.calls k g s0_0 s0_1 (wrap64 (a1 + 1)) t168 t169 w0 _ ?side1 ?side2 A5.out).mono ?_); (case side1 => exact ZI); (case side2 => exact ZBI); rintro e w8 ⟨rfl, hi, hb, hk⟩; refine ⟨_, rfl, ?_⟩; replace HO167 := AM (Kd.R_mono (Kd.R_keep (IsS64.apart (show IsS64 w0 _ g s0_0 s0_1 from ZI) (ZR HO167.out) (by decide)) hk (fun _ h => h.2)) (fun _ h => h.1)); replace HK := ZKT HK hk; replace HB := AM (hb); replace HI0 := AM (hi); clear hb hk hi))
 go_loopg [9, 10] k (fun kq v9 v10 w' => ∃ (x9_1 : List (S32)) (x10_1 : Int) (x1001_1 : Int), v10 = .int .i64 x10_1 ∧ Za (spec_l71Steps.l0 kq a2 a3 x9_1 x10_1 s0_0 x1001_1 = some (r1, r2)) ∧ Za (kq ≤ k) ∧ Za (Kd.R k32 32 w' w.heap.size (fun _ => True) v9 x9_1) ∧ Za (IsS64 w0 w' g s0_0 x1001_1) ∧ Za (KeepBut w w' g none) ∧ Za (Below w0.heap.size w0 w'))
 case atStart => exact ⟨(y165), (t168), (t169), (by first | rfl | (simp; done) | (simp [*]; done)), H', ⟨Nat.le_refl _⟩, ⟨ZR HO167.out⟩, ⟨ZI⟩, ⟨ZJ⟩, ⟨ZBI⟩⟩
 case round => (
 clear H'
 try clear p2
 try clear c3
 try clear c6
 try clear p6
 obtain ⟨x9_1, x10_1, x1001_1, rfl, HA, HK1, HO_9, HI0, HK, HB⟩ := hrel
 cases gk with
 | zero => exact absurd HA.out (by simp [spec_l71Steps.l0])
 | succ k1 =>
  have H := HA.out
  clear HA
  simp only [spec_l71Steps.l0] at H
  by_cases c9 : x10_1 > 0
  ·(
  rw [if_pos c9] at H
  have c9b0 := decide_eq_true c9
  clear c9
  obtain ⟨⟨t170, t171⟩, A10, H⟩ := ZOB H
  replace H : ((spec_l6Rd_pick.f k1 s0_0 t171 5).bind fun bt173 => (if bt173.1 = 0 then ((spec_l6Rd_pick.f k1 s0_0 bt173.2 3).bind fun bt175 => (if 3 = 1 then ((spec_l71Val.f k1 s0_0 bt175.2 a3).bind fun bt177 => (if x9_1.length < 1466015503701 then (spec_l71Steps.l0 k1 a2 a3 (x9_1 ++ [(⟨3, t170, (⟨bt177.1, bt177.2.1, bt177.2.2.1⟩ : S30), bt175.1, ([] : List (S32)), ([] : List (S32))⟩ : S32)]) (wrap64 (x10_1 - 1)) s0_0 bt177.2.2.2) else (none))) else (if x9_1.length < 1466015503701 then (spec_l71Steps.l0 k1 a2 a3 (x9_1 ++ [(⟨3, t170, (⟨0, 0, 0⟩ : S30), bt175.1, ([] : List (S32)), ([] : List (S32))⟩ : S32)]) (wrap64 (x10_1 - 1)) s0_0 bt175.2) else (none)))) else (if bt173.1 = 1 then (spec_l71Steps.j1 k1 a2 a3 x9_1 x10_1 (bt173.1 == 1) s0_0 bt173.2 1 t170 0 0 0 0) else (spec_l71Steps.j1 k1 a2 a3 x9_1 x10_1 (bt173.1 == 2) s0_0 bt173.2 1 t170 0 0 0 0)))) = some (r1, r2) := H
  obtain ⟨⟨t173, t174⟩, A11, H⟩ := ZOB H
  replace H : (if t173 = 0 then ((spec_l6Rd_pick.f k1 s0_0 t174 3).bind fun bt175 => (if 3 = 1 then ((spec_l71Val.f k1 s0_0 bt175.2 a3).bind fun bt177 => (if x9_1.length < 1466015503701 then (spec_l71Steps.l0 k1 a2 a3 (x9_1 ++ [(⟨3, t170, (⟨bt177.1, bt177.2.1, bt177.2.2.1⟩ : S30), bt175.1, ([] : List (S32)), ([] : List (S32))⟩ : S32)]) (wrap64 (x10_1 - 1)) s0_0 bt177.2.2.2) else (none))) else (if x9_1.length < 1466015503701 then (spec_l71Steps.l0 k1 a2 a3 (x9_1 ++ [(⟨3, t170, (⟨0, 0, 0⟩ : S30), bt175.1, ([] : List (S32)), ([] : List (S32))⟩ : S32)]) (wrap64 (x10_1 - 1)) s0_0 bt175.2) else (none)))) else (if t173 = 1 then (spec_l71Steps.j1 k1 a2 a3 x9_1 x10_1 (t173 == 1) s0_0 t174 1 t170 0 0 0 0) else (spec_l71Steps.j1 k1 a2 a3 x9_1 x10_1 (t173 == 2) s0_0 t174 1 t170 0 0 0 0))) = some (r1, r2) := H
  by_cases c12 : t173 = 0
  ·(
  rw [if_pos c12] at H
  have c12b0 := beq_iff_eq.mpr c12
  have c12b1 := bne_eq_false_iff_eq.mpr c12
  clear c12
  obtain ⟨⟨t175, t176⟩, A13, H⟩ := ZOB H
  replace H : (if 3 = 1 then ((spec_l71Val.f k1 s0_0 t176 a3).bind fun bt177 => (if x9_1.length < 1466015503701 then (spec_l71Steps.l0 k1 a2 a3 (x9_1 ++ [(⟨3, t170, (⟨bt177.1, bt177.2.1, bt177.2.2.1⟩ : S30), t175, ([] : List (S32)), ([] : List (S32))⟩ : S32)]) (wrap64 (x10_1 - 1)) s0_0 bt177.2.2.2) else (none))) else (if x9_1.length < 1466015503701 then (spec_l71Steps.l0 k1 a2 a3 (x9_1 ++ [(⟨3, t170, (⟨0, 0, 0⟩ : S30), t175, ([] : List (S32)), ([] : List (S32))⟩ : S32)]) (wrap64 (x10_1 - 1)) s0_0 t176) else (none))) = some (r1, r2) := H
  by_cases c14 : 3 = 1
  ·exact absurd c14 (by decide)
  ·(
  rw [if_neg c14] at H
  have c14b0 := beq_eq_false_iff_ne.mpr c14
  have c14b1 := bne_iff_ne.mpr c14
  by_cases c28 : x9_1.length < 1466015503701
  ·(
  rw [if_pos c28] at H
  have LMc28 := AM c28
  clear c28
  obtain ⟨y184, hy184⟩ : ∃ y_ : List (S32), y_ = (x9_1 ++ [(⟨3, t170, (⟨0, 0, 0⟩ : S30), t175, ([] : List (S32)), ([] : List (S32))⟩ : S32)]) := ⟨_, rfl⟩
  replace H : (spec_l71Steps.l0 k1 a2 a3 y184 (wrap64 (x10_1 - 1)) s0_0 t176) = some (r1, r2) := by first | (rw [hy184]; with_reducible exact H) | (have H2_ := (Option.bind_some _ _).symm.trans H; rw [hy184]; with_reducible exact H2_) | (have H2_ := (Option.bind_some _ _).symm.trans H; with_reducible exact H2_) | with_reducible exact H | (rw [hy184]; exact H) | exact H
  have Ny184 := AM hy184
  clear hy184
  have H' := AM H
  clear H
  go_wp2_with (first | ((with_reducible refine gate_callee (f := 39) rfl ?_); refine ZGL (some 23) Try.func39 #[.pointer (some ⟨g, 0, none⟩), .int .i64 a3] ?_; (with_reducible refine (spec_l6Rd_pick.calls k1 g s0_0 x1001_1 a3 t170 t171 w0 _ ?side1 ?side2 A10.out).mono ?_); (case side1 => exact ZI); (case side2 => exact ZBI); rintro e w29 ⟨rfl, hi, hb, hk⟩; refine ⟨_, rfl, ?_⟩; replace HO_9 := AM (Kd.R_mono (Kd.R_keep (IsS64.apart (show IsS64 w0 _ g s0_0 x1001_1 from ZI) (ZR HO_9.out) (by decide)) hk (fun _ h => h.2)) (fun _ h => h.1)); replace HK := ZKT HK hk; replace HB := AM (hb); replace HI0 := AM (hi); clear hb hk hi) | ((with_reducible refine gate_dst (N := 11) rfl ?_); refine ZX (N := 11) (cs := #[.int .i64 0, .int .i64 0, .int .i64 0, .int .i64 0, .int .i64 0, .int .i64 0, .slice none 0 0, .slice none 0 0]) (t := 32) ?_; intro gb172 hg w30 hbox hb; have BK172 := AM (hbox); have GW172 := AM ((by rw [hg]; exact (keep_size (w := w) (g := g) (row := none) (ZJ)) : w.heap.size ≤ gb172)); have GE172 := AM ((Nat.le_trans HW0.out (by rw [hg]; exact (keep_size (w := w) (g := g) (row := none) (ZJ)) : w.heap.size ≤ gb172) : w0.heap.size ≤ gb172)); have NB0_172 := AM ((by rw [hg]; exact Nat.ne_of_lt (IsS64.lt (show IsS64 w0 _ g s0_0 t171 from ZI)) : g ≠ gb172)); have NB172_0 := AM ((by rw [hg]; exact Nat.ne_of_gt (IsS64.lt (show IsS64 w0 _ g s0_0 t171 from ZI)) : gb172 ≠ g)); replace HO_9 := AM (Kd.R_below (Kd.R_elderB (ZR HO_9.out) gb172 (Nat.le_of_eq hg.symm)) hb); replace HK := ZKT HK (KeepBut.of_below hb g none); replace HB := ZTI HB hb; replace HI0 := AM (IsS64.below (ZI) hb); clear hb hbox hg; have hnb31 := NB172_0.out; have hnc31 := NB0_172.out; have hcz32 := ZC8 w30 BK172; have hfz32 := ZF8 BK172) | ((with_reducible refine gate_callee (f := 39) rfl ?_); refine ZGL (some 26) Try.func39 #[.pointer (some ⟨g, 0, none⟩), .int .i64 5] ?_; (with_reducible refine (spec_l6Rd_pick.calls k1 g s0_0 t171 5 t173 t174 w0 _ ?side1 ?side2 A11.out).mono ?_); (case side1 => exact ZI); (case side2 => exact ZBI); rintro e w33 ⟨rfl, hi, hb, hk⟩; refine ⟨_, rfl, ?_⟩; replace HO_9 := AM (Kd.R_mono (Kd.R_keep (IsS64.apart (show IsS64 w0 _ g s0_0 t171 from ZI) (by (with_reducible repeat (first | apply Kd.R_alloc | apply Kd.R_drewN | apply Kd.R_drew)); exact (Kd.R_mono (Kd.R_far (p := ⟨gb172, 7, none⟩) (Kd.R_far (p := ⟨gb172, 6, none⟩) (Kd.R_far (p := ⟨gb172, 5, none⟩) (Kd.R_far (p := ⟨gb172, 4, none⟩) (Kd.R_far (p := ⟨gb172, 3, none⟩) (Kd.R_far (p := ⟨gb172, 2, none⟩) (Kd.R_far (p := ⟨gb172, 1, none⟩) (Kd.R_far (p := ⟨gb172, 0, none⟩) (Kd.R_mono HO_9.out (fun k_ hk => (⟨hk, hk.2⟩ : _ ∧ k_ ≠ gb172))) (fun _ hk => hk.2) (.int .i64 1)) (fun _ hk => hk.2) (.int .i64 t170)) (fun _ hk => hk.2) (.int .i64 0)) (fun _ hk => hk.2) (.int .i64 0)) (fun _ hk => hk.2) (.int .i64 0)) (fun _ hk => hk.2) (.int .i64 0)) (fun _ hk => hk.2) (.slice none 0 0)) (fun _ hk => hk.2) (.slice none 0 0)) (fun _ h_ => h_.1))) (by decide)) hk (fun _ h => h.2)) (fun _ h => h.1)); replace BK172 := ZLV #[.int .i64 1, .int .i64 t170, .int .i64 0, .int .i64 0, .int .i64 0, .int .i64 0, .slice none 0 0, .slice none 0 0] hk BK172 NB172_0; replace HK := ZKT HK hk; replace HB := AM (hb); replace HI0 := AM (hi); clear hb hk hi; have hcz34 := ZC8 w33 BK172; have hfz34 := ZF8 BK172) | ((with_reducible refine gate_callee (f := 39) rfl ?_); refine ZGL (some 31) Try.func39 #[.pointer (some ⟨g, 0, none⟩), .int .i64 3] ?_; (with_reducible refine (spec_l6Rd_pick.calls k1 g s0_0 t174 3 t175 t176 w0 _ ?side1 ?side2 A13.out).mono ?_); (case side1 => exact ZI); (case side2 => exact ZBI); rintro e w35 ⟨rfl, hi, hb, hk⟩; refine ⟨_, rfl, ?_⟩; replace HO_9 := AM (Kd.R_mono (Kd.R_keep (IsS64.apart (show IsS64 w0 _ g s0_0 t174 from ZI) (by (with_reducible repeat (first | apply Kd.R_alloc | apply Kd.R_drewN | apply Kd.R_drew)); exact (Kd.R_mono (Kd.R_far (p := ⟨gb172, 0, none⟩) (Kd.R_mono HO_9.out (fun k_ hk => (⟨hk, hk.2⟩ : _ ∧ k_ ≠ gb172))) (fun _ hk => hk.2) (.int .i64 3)) (fun _ h_ => h_.1))) (by decide)) hk (fun _ h => h.2)) (fun _ h => h.1)); replace BK172 := ZLV #[.int .i64 3, .int .i64 t170, .int .i64 0, .int .i64 0, .int .i64 0, .int .i64 0, .slice none 0 0, .slice none 0 0] hk BK172 NB172_0; replace HK := ZKT HK hk; replace HB := AM (hb); replace HI0 := AM (hi); clear hb hk hi; have hcz36 := ZC8 w35 BK172; have hfz36 := ZF8 BK172) | ((with_reducible refine gate_builtin (b := .append) (xs := #[.tmp 58, .tmp 60]) rfl ?_); at_builtin; refine Kd.R_append k32 w.heap.size rfl (.tmp 58) (.tmp 60) 24 32 (.agg #[(.int .i64 0), (.int .i64 0), (.int .i64 0), (.int .i64 0), (.int .i64 0), (.int .i64 0), (.slice none 0 0), (.slice none 0 0)]) 96 rfl Try.underlying24 info32 rfl (by decide) (by omega) u9 x9_1 (⟨3, t170, (⟨0, 0, 0⟩ : S30), t175, ([] : List (S32)), ([] : List (S32))⟩ : S32) [.int .i64 3, .int .i64 t170, .int .i64 0, .int .i64 0, .int .i64 0, .int .i64 t175, .slice none 0 0, .slice none 0 0] (fun k_ => k_ ≠ gb172) (fun k_ => ((fun k_ => k_ ≠ gb172)) k_ ∧ some k_ ≠ (u9 : Value).ownBlock) rfl (by first | (go_simp; done) | (go_simp; rfl)) ?aP (fun _ hk => hk) ?aF ?aO (Below.refl _ _) ?aS ?aL ?_; (case aP => exact k32_mkM _ _ _ (⟨3, t170, (⟨0, 0, 0⟩ : S30), t175, ([] : List (S32)), ([] : List (S32))⟩ : S32) (Kd.R_nil _ _ _ _ _) (Kd.R_nil _ _ _ _ _)); (case aF => exact (fun k_ hk => Kd.freshB (g := gb172) (o := .cells #[.int .i64 3, .int .i64 t170, .int .i64 0, .int .i64 0, .int .i64 0, .int .i64 t175, .slice none 0 0, .slice none 0 0] 32 (0, 0)) (ZZ BK172.out) k_ hk)); (case aO => exact (by (with_reducible repeat (first | apply Kd.R_alloc | apply Kd.R_drewN | apply Kd.R_drew)); exact Kd.R_mono (Kd.R_far (p := ⟨gb172, 5, none⟩) (Kd.R_mono HO_9.out (fun k_ hk => (⟨hk, hk.2⟩ : _ ∧ k_ ≠ gb172))) (fun _ hk => hk.2) (.int .i64 t175)) (fun _ hk => hk.1.2))); (case aS => exact (keep_size (w := w) (g := g) (row := none) (ZJ))); (case aL => have := LMc28.out; omega); intro v185 w37 ho hb hg hat; rw [← Ny184.out] at ho; have n0_ := AM (spec_l71Steps.grown_ HI0 hg (IsS64.own_ne HI0.out HO_9.out (by decide))); have n1_ := AM (blk_grown (g := gb172) (o := .cells #[.int .i64 3, .int .i64 t170, .int .i64 0, .int .i64 0, .int .i64 0, .int .i64 t175, .slice none 0 0, .slice none 0 0] 32 (0, 0)) (ZZ BK172.out) hg (Kd.R_away HO_9.out (fun _ hk => hk.2))); have n2_ := AM (below_weaken (ZBI) HL.out hb); have n3_ := AM (KeepBut.trans (ZJ) (KeepBut.of_grown hg g) (Kd.R_base2 HO_9.out)); have n4_ := AM (ho); clear HI0 BK172 HB HK HO_9; have HI0 := n0_; have BK172 := n1_; have HB := n2_; have HK := n3_; have HO186 := n4_; clear n0_ n1_ n2_ n3_ n4_ ho hb hg hat))
  go_roundg k1
  case measure => have := HK1.out; omega
  case rel => exact ⟨(y184), (wrap64 (x10_1 - 1)), (t176), (by first | rfl | (simp; done) | (simp [*]; done)), H', ⟨by have := HK1.out; omega⟩, ⟨ZR (Kd.R_mono HO186.out (fun _ hk => trivial))⟩, ⟨ZI⟩, ⟨ZJ⟩, ⟨ZBI⟩⟩)
  ·(
  rw [if_neg c28] at H
  exact absurd H (by simp))))
  ·(
  rw [if_neg c12] at H
  have c12b0 := beq_eq_false_iff_ne.mpr c12
  have c12b1 := bne_iff_ne.mpr c12
  have HC38 := AM H
  clear H
  go_upto_if 33 with (first | ((with_reducible refine gate_callee (f := 39) rfl ?_); refine ZGL (some 23) Try.func39 #[.pointer (some ⟨g, 0, none⟩), .int .i64 a3] ?_; (with_reducible refine (spec_l6Rd_pick.calls k1 g s0_0 x1001_1 a3 t170 t171 w0 _ ?side1 ?side2 A10.out).mono ?_); (case side1 => exact ZI); (case side2 => exact ZBI); rintro e w39 ⟨rfl, hi, hb, hk⟩; refine ⟨_, rfl, ?_⟩; replace HO_9 := AM (Kd.R_mono (Kd.R_keep (IsS64.apart (show IsS64 w0 _ g s0_0 x1001_1 from ZI) (ZR HO_9.out) (by decide)) hk (fun _ h => h.2)) (fun _ h => h.1)); replace HK := ZKT HK hk; replace HB := AM (hb); replace HI0 := AM (hi); clear hb hk hi) | ((with_reducible refine gate_dst (N := 11) rfl ?_); refine ZX (N := 11) (cs := #[.int .i64 0, .int .i64 0, .int .i64 0, .int .i64 0, .int .i64 0, .int .i64 0, .slice none 0 0, .slice none 0 0]) (t := 32) ?_; intro gb172 hg w40 hbox hb; have BK172 := AM (hbox); have GW172 := AM ((by rw [hg]; exact (keep_size (w := w) (g := g) (row := none) (ZJ)) : w.heap.size ≤ gb172)); have GE172 := AM ((Nat.le_trans HW0.out (by rw [hg]; exact (keep_size (w := w) (g := g) (row := none) (ZJ)) : w.heap.size ≤ gb172) : w0.heap.size ≤ gb172)); have NB0_172 := AM ((by rw [hg]; exact Nat.ne_of_lt (IsS64.lt (show IsS64 w0 _ g s0_0 t171 from ZI)) : g ≠ gb172)); have NB172_0 := AM ((by rw [hg]; exact Nat.ne_of_gt (IsS64.lt (show IsS64 w0 _ g s0_0 t171 from ZI)) : gb172 ≠ g)); replace HO_9 := AM (Kd.R_below (Kd.R_elderB (ZR HO_9.out) gb172 (Nat.le_of_eq hg.symm)) hb); replace HK := ZKT HK (KeepBut.of_below hb g none); replace HB := ZTI HB hb; replace HI0 := AM (IsS64.below (ZI) hb); clear hb hbox hg; have hnb41 := NB172_0.out; have hnc41 := NB0_172.out; have hcz42 := ZC8 w40 BK172; have hfz42 := ZF8 BK172) | ((with_reducible refine gate_callee (f := 39) rfl ?_); refine ZGL (some 26) Try.func39 #[.pointer (some ⟨g, 0, none⟩), .int .i64 5] ?_; (with_reducible refine (spec_l6Rd_pick.calls k1 g s0_0 t171 5 t173 t174 w0 _ ?side1 ?side2 A11.out).mono ?_); (case side1 => exact ZI); (case side2 => exact ZBI); rintro e w43 ⟨rfl, hi, hb, hk⟩; refine ⟨_, rfl, ?_⟩; replace HO_9 := AM (Kd.R_mono (Kd.R_keep (IsS64.apart (show IsS64 w0 _ g s0_0 t171 from ZI) (by (with_reducible repeat (first | apply Kd.R_alloc | apply Kd.R_drewN | apply Kd.R_drew)); exact (Kd.R_mono (Kd.R_far (p := ⟨gb172, 7, none⟩) (Kd.R_far (p := ⟨gb172, 6, none⟩) (Kd.R_far (p := ⟨gb172, 5, none⟩) (Kd.R_far (p := ⟨gb172, 4, none⟩) (Kd.R_far (p := ⟨gb172, 3, none⟩) (Kd.R_far (p := ⟨gb172, 2, none⟩) (Kd.R_far (p := ⟨gb172, 1, none⟩) (Kd.R_far (p := ⟨gb172, 0, none⟩) (Kd.R_mono HO_9.out (fun k_ hk => (⟨hk, hk.2⟩ : _ ∧ k_ ≠ gb172))) (fun _ hk => hk.2) (.int .i64 1)) (fun _ hk => hk.2) (.int .i64 t170)) (fun _ hk => hk.2) (.int .i64 0)) (fun _ hk => hk.2) (.int .i64 0)) (fun _ hk => hk.2) (.int .i64 0)) (fun _ hk => hk.2) (.int .i64 0)) (fun _ hk => hk.2) (.slice none 0 0)) (fun _ hk => hk.2) (.slice none 0 0)) (fun _ h_ => h_.1))) (by decide)) hk (fun _ h => h.2)) (fun _ h => h.1)); replace BK172 := ZLV #[.int .i64 1, .int .i64 t170, .int .i64 0, .int .i64 0, .int .i64 0, .int .i64 0, .slice none 0 0, .slice none 0 0] hk BK172 NB172_0; replace HK := ZKT HK hk; replace HB := AM (hb); replace HI0 := AM (hi); clear hb hk hi))
  (try simp only [Act.put, List.setIfInBounds_toArray, List.set_cons_zero, List.set_cons_succ])
  go_cut [33] (fun v33 wc => ∃ (kq : Nat) (x33_37 : Bool), v33 = .bool x33_37 ∧ Za (spec_l71Steps.j1 kq a2 a3 x9_1 x10_1 x33_37 s0_0 t174 1 t170 0 0 0 0 = some (r1, r2)) ∧ Za (kq ≤ k1) ∧ Za (Kd.R k32 32 wc w.heap.size (fun k_ => k_ ≠ gb172) u9 x9_1) ∧ Za (wc.heap[gb172]? = some (.cells #[.int .i64 1, .int .i64 t170, .int .i64 0, .int .i64 0, .int .i64 0, .int .i64 0, (.slice none 0 0), (.slice none 0 0)] 32 (0, 0))) ∧ Za (IsS64 w0 wc g s0_0 t174) ∧ Za (KeepBut w wc g none) ∧ Za (Below w0.heap.size w0 wc))
  case first => (
  have H := HC38.out
  clear HC38
  by_cases c44 : t173 = 1
  ·(
  rw [if_pos c44] at H
  have c44b0 := beq_iff_eq.mpr c44
  have c44b1 := bne_eq_false_iff_eq.mpr c44
  clear c44
  (first | rw [c44b0] | (simp only [i64_w, i32_w]; rw [c44b0]) | skip)
  have H' := AM H
  clear H
  go_wp2
  go_meet
  case rel => exact ⟨_, ((t173 == 1)), (by first | rfl | (simp; done) | (simp [*]; done)), H', ⟨by have := HK1.out; first | omega | exact Nat.le_refl _⟩, ⟨ZR (Kd.R_mono HO_9.out (fun _ hk => hk.2))⟩, ⟨ZK BK172.out⟩, ⟨ZI⟩, ⟨ZJ⟩, ⟨ZBI⟩⟩)
  ·(
  rw [if_neg c44] at H
  have c44b0 := beq_eq_false_iff_ne.mpr c44
  have c44b1 := bne_iff_ne.mpr c44
  (first | rw [c44b0] | (simp only [i64_w, i32_w]; rw [c44b0]) | skip)
  have H' := AM H
  clear H
  go_wp2
  go_meet
  case rel => exact ⟨_, ((t173 == 2)), (by first | rfl | (simp; done) | (simp [*]; done)), H', ⟨by have := HK1.out; first | omega | exact Nat.le_refl _⟩, ⟨ZR (Kd.R_mono HO_9.out (fun _ hk => hk.2))⟩, ⟨ZK BK172.out⟩, ⟨ZI⟩, ⟨ZJ⟩, ⟨ZBI⟩⟩))
  case rest => (
  clear HC38
  try clear c1
  try clear c2
  try clear p2
  try clear c3
  try clear c4
  try clear c6
  try clear p6
  try clear c8
  try clear c9
  try clear c9b0
  try clear c12
  try clear c12b0
  try clear c12b1
  try clear c14
  try clear c14b0
  try clear c14b1
  try clear c16
  try clear c19
  try clear c28
  try clear c31
  try clear c39
  try clear c41
  try clear c44
  try clear c44b0
  try clear c44b1
  try clear hcz20
  try clear hcz22
  try clear hcz24
  try clear hcz26
  try clear hcz32
  try clear hcz34
  try clear hcz36
  try clear hcz42
  try clear hfz20
  try clear hfz22
  try clear hfz24
  try clear hfz26
  try clear hfz32
  try clear hfz34
  try clear hfz36
  try clear hfz42
  try clear p2
  try clear p6
  obtain ⟨kq, x33_37, rfl, HA, HJ37, HO_9, BK172, HI0, HK, HB⟩ := hcut
  cases kq with
  | zero => exact absurd HA.out (by simp [spec_l71Steps.j1])
  | succ kj37 =>
   have H := HA.out
   clear HA
   simp only [spec_l71Steps.j1] at H
   by_cases c45 : x33_37 = true
   ·(
   subst c45
   have H1 : (if a2 > 1 then ((spec_l71Steps.f kj37 s0_0 t174 2 (wrap64 (a2 - 1)) a3).bind fun bt187 => ((spec_l71Steps.f kj37 s0_0 bt187.2 2 (wrap64 (a2 - 1)) a3).bind fun bt191 => (if 2 = 1 then ((spec_l71Val.f kj37 s0_0 bt191.2 a3).bind fun bt195 => (if x9_1.length < 1466015503701 then (spec_l71Steps.l0 kj37 a2 a3 (x9_1 ++ [(⟨2, t170, (⟨bt195.1, bt195.2.1, bt195.2.2.1⟩ : S30), 0, bt187.1, bt191.1⟩ : S32)]) (wrap64 (x10_1 - 1)) s0_0 bt195.2.2.2) else (none))) else (if x9_1.length < 1466015503701 then (spec_l71Steps.l0 kj37 a2 a3 (x9_1 ++ [(⟨2, t170, (⟨0, 0, 0⟩ : S30), 0, bt187.1, bt191.1⟩ : S32)]) (wrap64 (x10_1 - 1)) s0_0 bt191.2) else (none))))) else (if 1 = 1 then ((spec_l71Val.f kj37 s0_0 t174 a3).bind fun bt205 => (if x9_1.length < 1466015503701 then (spec_l71Steps.l0 kj37 a2 a3 (x9_1 ++ [(⟨1, t170, (⟨bt205.1, bt205.2.1, bt205.2.2.1⟩ : S30), 0, ([] : List (S32)), ([] : List (S32))⟩ : S32)]) (wrap64 (x10_1 - 1)) s0_0 bt205.2.2.2) else (none))) else (if x9_1.length < 1466015503701 then (spec_l71Steps.l0 kj37 a2 a3 (x9_1 ++ [(⟨1, t170, (⟨0, 0, 0⟩ : S30), 0, ([] : List (S32)), ([] : List (S32))⟩ : S32)]) (wrap64 (x10_1 - 1)) s0_0 t174) else (none)))) = some (r1, r2) := by rw [if_pos rfl] at H; exact H
   clear H
   have H := H1
   clear H1
   by_cases c46 : a2 > 1
   ·(
   rw [if_pos c46] at H
   have c46b0 := decide_eq_true c46
   clear c46
   obtain ⟨⟨t187, t190⟩, A47, H⟩ := ZOB H
   replace H : ((spec_l71Steps.f kj37 s0_0 t190 2 (wrap64 (a2 - 1)) a3).bind fun bt191 => (if 2 = 1 then ((spec_l71Val.f kj37 s0_0 bt191.2 a3).bind fun bt195 => (if x9_1.length < 1466015503701 then (spec_l71Steps.l0 kj37 a2 a3 (x9_1 ++ [(⟨2, t170, (⟨bt195.1, bt195.2.1, bt195.2.2.1⟩ : S30), 0, t187, bt191.1⟩ : S32)]) (wrap64 (x10_1 - 1)) s0_0 bt195.2.2.2) else (none))) else (if x9_1.length < 1466015503701 then (spec_l71Steps.l0 kj37 a2 a3 (x9_1 ++ [(⟨2, t170, (⟨0, 0, 0⟩ : S30), 0, t187, bt191.1⟩ : S32)]) (wrap64 (x10_1 - 1)) s0_0 bt191.2) else (none)))) = some (r1, r2) := H
   obtain ⟨⟨t191, t194⟩, A48, H⟩ := ZOB H
   replace H : (if 2 = 1 then ((spec_l71Val.f kj37 s0_0 t194 a3).bind fun bt195 => (if x9_1.length < 1466015503701 then (spec_l71Steps.l0 kj37 a2 a3 (x9_1 ++ [(⟨2, t170, (⟨bt195.1, bt195.2.1, bt195.2.2.1⟩ : S30), 0, t187, t191⟩ : S32)]) (wrap64 (x10_1 - 1)) s0_0 bt195.2.2.2) else (none))) else (if x9_1.length < 1466015503701 then (spec_l71Steps.l0 kj37 a2 a3 (x9_1 ++ [(⟨2, t170, (⟨0, 0, 0⟩ : S30), 0, t187, t191⟩ : S32)]) (wrap64 (x10_1 - 1)) s0_0 t194) else (none))) = some (r1, r2) := H
   by_cases c49 : 2 = 1
   ·exact absurd c49 (by decide)
   ·(
   rw [if_neg c49] at H
   have c49b0 := beq_eq_false_iff_ne.mpr c49
   have c49b1 := bne_iff_ne.mpr c49
   by_cases c65 : x9_1.length < 1466015503701
   ·(
   rw [if_pos c65] at H
   have LMc65 := AM c65
   clear c65
   obtain ⟨y202, hy202⟩ : ∃ y_ : List (S32), y_ = (x9_1 ++ [(⟨2, t170, (⟨0, 0, 0⟩ : S30), 0, t187, t191⟩ : S32)]) := ⟨_, rfl⟩
   replace H : (spec_l71Steps.l0 kj37 a2 a3 y202 (wrap64 (x10_1 - 1)) s0_0 t194) = some (r1, r2) := by first | (rw [hy202]; with_reducible exact H) | (have H2_ := (Option.bind_some _ _).symm.trans H; rw [hy202]; with_reducible exact H2_) | (have H2_ := (Option.bind_some _ _).symm.trans H; with_reducible exact H2_) | with_reducible exact H | (rw [hy202]; exact H) | exact H
   have Ny202 := AM hy202
   clear hy202
   have H' := AM H
   clear H
   have hnb66 := NB172_0.out
   have hnc66 := NB0_172.out
   have hcz67 := ZC8 wc BK172
   have hfz67 := ZF8 BK172
   go_wp2_with (first | ((with_reducible refine gate_callee (f := 61) rfl ?_); refine ZGL (some 43) Try.func61 #[.pointer (some ⟨g, 0, none⟩), .int .i64 2, .int .i64 (wrap64 (a2 - 1)), .int .i64 a3] ?_; (with_reducible refine (ih kj37 (by have := HK1.out; have := HJ37.out; omega) g s0_0 t174 2 (wrap64 (a2 - 1)) a3 t187 t190 w0 _ ?side1 ?side2 A47.out).mono ?_); (case side1 => exact ZI); (case side2 => exact ZBI); rintro e w68 ⟨v188, rfl, ho0, hi, hb, hk⟩; refine ⟨_, rfl, ?_⟩; have HO189 := AM (Kd.R_lower (Kd.R_newB (Kd.R_new' ho0 (Kd.R_lt (by (with_reducible repeat (first | apply Kd.R_alloc | apply Kd.R_drewN | apply Kd.R_drew)); exact (Kd.R_mono (Kd.R_far (p := ⟨gb172, 0, none⟩) (Kd.R_mono HO_9.out (fun k_ hk => (⟨hk, hk⟩ : _ ∧ k_ ≠ gb172))) (fun _ hk => hk.2) (.int .i64 2)) (fun _ h_ => h_.1))))) (g := gb172) (o := .cells #[.int .i64 2, .int .i64 t170, .int .i64 0, .int .i64 0, .int .i64 0, .int .i64 0, .slice none 0 0, .slice none 0 0] 32 (0, 0)) (ZZ BK172.out)) (keep_size (w := w) (g := g) (row := none) (ZJ))); replace HO_9 := AM (Kd.R_mono (Kd.R_told (Kd.R_oldK (IsS64.apart (show IsS64 w0 _ g s0_0 t174 from ZI) (by (with_reducible repeat (first | apply Kd.R_alloc | apply Kd.R_drewN | apply Kd.R_drew)); exact (Kd.R_mono (Kd.R_far (p := ⟨gb172, 0, none⟩) (Kd.R_mono HO_9.out (fun k_ hk => (⟨hk, hk⟩ : _ ∧ k_ ≠ gb172))) (fun _ hk => hk.2) (.int .i64 2)) (fun _ h_ => h_.1))) (by decide)) hk) (Kd.R_base ho0)) (fun _ h_ => h_.1)); replace BK172 := ZLV #[.int .i64 2, .int .i64 t170, .int .i64 0, .int .i64 0, .int .i64 0, .int .i64 0, .slice none 0 0, .slice none 0 0] hk BK172 NB172_0; replace HK := ZKT HK hk; replace HB := AM (hb); replace HI0 := AM (hi); clear hb hk hi; (try clear ho0); obtain ⟨Ao69, co69, eo69⟩ := Kd.R_slice HO189.out; subst eo69; have hcz70 := ZC8 w68 BK172; have hfz70 := ZF8 BK172) | ((with_reducible refine gate_callee (f := 61) rfl ?_); refine ZGL (some 49) Try.func61 #[.pointer (some ⟨g, 0, none⟩), .int .i64 2, .int .i64 (wrap64 (a2 - 1)), .int .i64 a3] ?_; (with_reducible refine (ih kj37 (by have := HK1.out; have := HJ37.out; omega) g s0_0 t190 2 (wrap64 (a2 - 1)) a3 t191 t194 w0 _ ?side1 ?side2 A48.out).mono ?_); (case side1 => exact ZI); (case side2 => exact ZBI); rintro e w71 ⟨v192, rfl, ho0, hi, hb, hk⟩; refine ⟨_, rfl, ?_⟩; have HO193 := AM (Kd.R_lower (Kd.R_newB (Kd.R_new' (Kd.R_new' ho0 (Kd.R_lt (by (with_reducible repeat (first | apply Kd.R_alloc | apply Kd.R_drewN | apply Kd.R_drew)); exact (Kd.R_mono (Kd.R_far (p := ⟨gb172, 6, none⟩) (Kd.R_mono HO_9.out (fun k_ hk => (⟨hk, hk.1⟩ : _ ∧ k_ ≠ gb172))) (fun _ hk => hk.2) (.slice Ao69 t187.length co69)) (fun _ h_ => h_.1))))) (Kd.R_lt (by (with_reducible repeat (first | apply Kd.R_alloc | apply Kd.R_drewN | apply Kd.R_drew)); exact (Kd.R_mono (Kd.R_far (p := ⟨gb172, 6, none⟩) (Kd.R_mono HO189.out (fun k_ hk => (⟨hk, hk.2⟩ : _ ∧ k_ ≠ gb172))) (fun _ hk => hk.2) (.slice Ao69 t187.length co69)) (fun _ h_ => h_.1))))) (g := gb172) (o := .cells #[.int .i64 2, .int .i64 t170, .int .i64 0, .int .i64 0, .int .i64 0, .int .i64 0, .slice Ao69 t187.length co69, .slice none 0 0] 32 (0, 0)) (ZZ BK172.out)) (keep_size (w := w) (g := g) (row := none) (ZJ))); replace HO_9 := AM (Kd.R_mono (Kd.R_told (Kd.R_oldK (IsS64.apart (show IsS64 w0 _ g s0_0 t190 from ZI) (by (with_reducible repeat (first | apply Kd.R_alloc | apply Kd.R_drewN | apply Kd.R_drew)); exact (Kd.R_mono (Kd.R_far (p := ⟨gb172, 6, none⟩) (Kd.R_mono HO_9.out (fun k_ hk => (⟨hk, hk.1⟩ : _ ∧ k_ ≠ gb172))) (fun _ hk => hk.2) (.slice Ao69 t187.length co69)) (fun _ h_ => h_.1))) (by decide)) hk) (Kd.R_base ho0)) (fun _ h_ => h_.1)); replace BK172 := ZLV #[.int .i64 2, .int .i64 t170, .int .i64 0, .int .i64 0, .int .i64 0, .int .i64 0, .slice Ao69 t187.length co69, .slice none 0 0] hk BK172 NB172_0; replace HO189 := AM (Kd.R_mono (Kd.R_told (Kd.R_oldK (IsS64.apart (show IsS64 w0 _ g s0_0 t190 from ZI) (by (with_reducible repeat (first | apply Kd.R_alloc | apply Kd.R_drewN | apply Kd.R_drew)); exact (Kd.R_mono (Kd.R_far (p := ⟨gb172, 6, none⟩) (Kd.R_mono HO189.out (fun k_ hk => (⟨hk, hk.2⟩ : _ ∧ k_ ≠ gb172))) (fun _ hk => hk.2) (.slice Ao69 t187.length co69)) (fun _ h_ => h_.1))) (by decide)) hk) (Kd.R_base ho0)) (fun _ h_ => h_.1)); replace HK := ZKT HK hk; replace HB := AM (hb); replace HI0 := AM (hi); clear hb hk hi; (try clear ho0); obtain ⟨Ao72, co72, eo72⟩ := Kd.R_slice HO193.out; subst eo72; have hcz73 := ZC8 w71 BK172; have hfz73 := ZF8 BK172) | ((with_reducible refine gate_store (t := 24) (p := 50) rfl ?_); refine store_event (t := 24) (p := 50) (v := ?vo_w74) (w1 := (w71.setCell ⟨gb172, 7, none⟩ (.slice Ao72 t191.length co72))) ?hg ?ho ?hn ?hr ?_; (case ho => rfl); (case hg => rfl); (case hn => rfl); (case hr => first | (go_simp; done) | (go_simp; rfl)); intro w74 hw; have n0_ : Za (Kd.R k32 32 w74 w.heap.size (fun k_ => some k_ ≠ (.slice Ao69 t187.length co69 : Value).ownBlock ∧ some k_ ≠ (.slice Ao72 t191.length co72 : Value).ownBlock ∧ k_ ≠ gb172) u9 x9_1) := ⟨(by rw [hw]; exact (by (with_reducible repeat (first | apply Kd.R_alloc | apply Kd.R_drewN | apply Kd.R_drew)); exact Kd.R_mono (Kd.R_far (p := ⟨gb172, 7, none⟩) (Kd.R_mono HO_9.out (fun k_ hk => (⟨hk, hk.1.1⟩ : _ ∧ k_ ≠ gb172))) (fun _ hk => hk.2) (.slice Ao72 t191.length co72)) (fun _ hk => ⟨hk.1.1.2, ⟨hk.1.2, hk.1.1.1⟩⟩)))⟩; have n1_ : Za (Kd.R k32 32 w74 w.heap.size (fun k_ => some k_ ≠ (u9 : Value).ownBlock ∧ some k_ ≠ (.slice Ao72 t191.length co72 : Value).ownBlock ∧ k_ ≠ gb172) (.slice Ao69 t187.length co69) t187) := ⟨(by rw [hw]; exact (by (with_reducible repeat (first | apply Kd.R_alloc | apply Kd.R_drewN | apply Kd.R_drew)); exact Kd.R_mono (Kd.R_far (p := ⟨gb172, 7, none⟩) (Kd.R_mono HO189.out (fun k_ hk => (⟨hk, hk.1.2⟩ : _ ∧ k_ ≠ gb172))) (fun _ hk => hk.2) (.slice Ao72 t191.length co72)) (fun _ hk => ⟨hk.1.1.1.2, ⟨hk.1.2, hk.1.1.2⟩⟩)))⟩; have n2_ : Za (Kd.R k32 32 w74 w.heap.size (fun k_ => some k_ ≠ (u9 : Value).ownBlock ∧ some k_ ≠ (.slice Ao69 t187.length co69 : Value).ownBlock ∧ k_ ≠ gb172) (.slice Ao72 t191.length co72) t191) := ⟨(by rw [hw]; exact (by (with_reducible repeat (first | apply Kd.R_alloc | apply Kd.R_drewN | apply Kd.R_drew)); exact Kd.R_mono (Kd.R_far (p := ⟨gb172, 7, none⟩) (Kd.R_mono HO193.out (fun k_ hk => (⟨hk, hk.2⟩ : _ ∧ k_ ≠ gb172))) (fun _ hk => hk.2) (.slice Ao72 t191.length co72)) (fun _ hk => ⟨hk.1.1.1.2, ⟨hk.1.1.2, hk.1.2⟩⟩)))⟩; have n3_ : Za (w74.heap[gb172]? = some (.cells #[.int .i64 2, .int .i64 t170, .int .i64 0, .int .i64 0, .int .i64 0, .int .i64 0, .slice Ao69 t187.length co69, .slice Ao72 t191.length co72] 32 (0, 0))) := ⟨(by rw [hw]; exact (ZZ BK172.out))⟩; have n4_ : Za (IsS64 w0 w74 g s0_0 t194) := ⟨(by rw [hw]; exact (ZI))⟩; have n5_ : Za (KeepBut w w74 g none) := ⟨(by rw [hw]; exact (ZJ))⟩; have n6_ : Za (Below w0.heap.size w0 w74) := ⟨(by rw [hw]; exact (ZBI))⟩; clear hw HO_9 HO189 HO193 BK172 HI0 HK HB; have HO_9 := n0_; have HO189 := n1_; have HO193 := n2_; have BK172 := n3_; have HI0 := n4_; have HK := n5_; have HB := n6_; clear n0_ n1_ n2_ n3_ n4_ n5_ n6_; have hcz75 := ZC8 w74 BK172; have hfz75 := ZF8 BK172) | ((with_reducible refine gate_builtin (b := .append) (xs := #[.tmp 58, .tmp 60]) rfl ?_); at_builtin; refine Kd.R_append k32 w.heap.size rfl (.tmp 58) (.tmp 60) 24 32 (.agg #[(.int .i64 0), (.int .i64 0), (.int .i64 0), (.int .i64 0), (.int .i64 0), (.int .i64 0), (.slice none 0 0), (.slice none 0 0)]) 96 rfl Try.underlying24 info32 rfl (by decide) (by omega) u9 x9_1 (⟨2, t170, (⟨0, 0, 0⟩ : S30), 0, t187, t191⟩ : S32) [.int .i64 2, .int .i64 t170, .int .i64 0, .int .i64 0, .int .i64 0, .int .i64 0, .slice Ao69 t187.length co69, .slice Ao72 t191.length co72] (fun k_ => k_ ≠ gb172) (fun k_ => ((fun k_ => k_ ≠ gb172)) k_ ∧ some k_ ≠ (u9 : Value).ownBlock) rfl rfl ?aP (fun _ hk => hk) ?aF ?aO (Below.refl _ _) ?aS ?aL ?_; (case aP => exact k32_mkM _ _ _ (⟨2, t170, (⟨0, 0, 0⟩ : S30), 0, t187, t191⟩ : S32) (Kd.R_mono (HO189.out) (fun k_ hk => ⟨hk.2.2, hk.1⟩)) (Kd.R_mono (HO193.out) (fun k_ hk => ⟨hk.2.2, hk.1⟩))); (case aF => exact (fun k_ hk => Kd.freshB (g := gb172) (o := .cells #[.int .i64 2, .int .i64 t170, .int .i64 0, .int .i64 0, .int .i64 0, .int .i64 0, .slice Ao69 t187.length co69, .slice Ao72 t191.length co72] 32 (0, 0)) (ZK BK172.out) k_ hk)); (case aO => exact (ZR (Kd.R_mono HO_9.out (fun _ hk => hk.2.2)))); (case aS => exact (keep_size (w := w) (g := g) (row := none) (ZJ))); (case aL => have := LMc65.out; omega); intro v203 w76 ho hb hg hat; rw [← Ny202.out] at ho; have n0_ := AM (blk_grown (g := gb172) (o := .cells #[.int .i64 2, .int .i64 t170, .int .i64 0, .int .i64 0, .int .i64 0, .int .i64 0, .slice Ao69 t187.length co69, .slice Ao72 t191.length co72] 32 (0, 0)) (ZK BK172.out) hg (Kd.R_away HO_9.out (fun _ hk => hk.2.2))); have n1_ := AM (spec_l71Steps.grown_ HI0 hg (IsS64.own_ne HI0.out HO_9.out (by decide))); have n2_ := AM (below_weaken (ZBI) HL.out hb); have n3_ := AM (KeepBut.trans (ZJ) (KeepBut.of_grown hg g) (Kd.R_base2 HO_9.out)); have n4_ := AM (ho); clear BK172 HI0 HB HK HO_9 HO189 HO193; have BK172 := n0_; have HI0 := n1_; have HB := n2_; have HK := n3_; have HO204 := n4_; clear n0_ n1_ n2_ n3_ n4_ ho hb hg hat))
   go_roundg kj37
   case measure => have := HK1.out; have := HJ37.out; omega
   case rel => exact ⟨(y202), (wrap64 (x10_1 - 1)), (t194), (by first | rfl | (simp; done) | (simp [*]; done)), H', ⟨by have := HK1.out; have := HJ37.out; omega⟩, ⟨ZR (Kd.R_mono HO204.out (fun _ hk => trivial))⟩, ⟨ZI⟩, ⟨ZJ⟩, ⟨ZBI⟩⟩)
   ·(
   rw [if_neg c65] at H
   exact absurd H (by simp))))
   ·(
   rw [if_neg c46] at H
   have c46b0 := decide_eq_false c46
   clear c46
   by_cases c77 : 1 = 1
   ·(
   rw [if_pos c77] at H
   have c77b0 := beq_iff_eq.mpr c77
   have c77b1 := bne_eq_false_iff_eq.mpr c77
   clear c77
   obtain ⟨⟨t205, t206, t207, t208⟩, A78, H⟩ := ZOB H
   replace H : (if x9_1.length < 1466015503701 then (spec_l71Steps.l0 kj37 a2 a3 (x9_1 ++ [(⟨1, t170, (⟨t205, t206, t207⟩ : S30), 0, ([] : List (S32)), ([] : List (S32))⟩ : S32)]) (wrap64 (x10_1 - 1)) s0_0 t208) else (none)) = some (r1, r2) := H
   by_cases c79 : x9_1.length < 1466015503701
   ·(
   rw [if_pos c79] at H
   have LMc79 := AM c79
   clear c79
   obtain ⟨y209, hy209⟩ : ∃ y_ : List (S32), y_ = (x9_1 ++ [(⟨1, t170, (⟨t205, t206, t207⟩ : S30), 0, ([] : List (S32)), ([] : List (S32))⟩ : S32)]) := ⟨_, rfl⟩
   replace H : (spec_l71Steps.l0 kj37 a2 a3 y209 (wrap64 (x10_1 - 1)) s0_0 t208) = some (r1, r2) := by first | (rw [hy209]; with_reducible exact H) | (have H2_ := (Option.bind_some _ _).symm.trans H; rw [hy209]; with_reducible exact H2_) | (have H2_ := (Option.bind_some _ _).symm.trans H; with_reducible exact H2_) | with_reducible exact H | (rw [hy209]; exact H) | exact H
   have Ny209 := AM hy209
   clear hy209
   have H' := AM H
   clear H
   have hnb80 := NB172_0.out
   have hnc80 := NB0_172.out
   have hcz81 := ZC8 wc BK172
   have hfz81 := ZF8 BK172
   go_wp2_with (first | ((with_reducible refine gate_callee (f := 82) rfl ?_); refine ZGL (some 56) Try.func82 #[.pointer (some ⟨g, 0, none⟩), .int .i64 a3] ?_; (with_reducible refine (spec_l71Val.calls kj37 g s0_0 t174 a3 t205 t206 t207 t208 w0 _ ?side1 ?side2 A78.out).mono ?_); (case side1 => exact ZI); (case side2 => exact ZBI); rintro e w82 ⟨rfl, hi, hb, hk⟩; refine ⟨_, rfl, ?_⟩; replace HO_9 := AM (Kd.R_mono (Kd.R_keep (IsS64.apart (show IsS64 w0 _ g s0_0 t174 from ZI) (ZR HO_9.out) (by decide)) hk (fun _ h => h.2)) (fun _ h => h.1)); replace BK172 := ZL hk BK172 NB172_0; replace HK := ZKT HK hk; replace HB := AM (hb); replace HI0 := AM (hi); clear hb hk hi; have hcz83 := ZC8 w82 BK172; have hfz83 := ZF8 BK172) | ((with_reducible refine gate_builtin (b := .append) (xs := #[.tmp 58, .tmp 60]) rfl ?_); at_builtin; refine Kd.R_append k32 w.heap.size rfl (.tmp 58) (.tmp 60) 24 32 (.agg #[(.int .i64 0), (.int .i64 0), (.int .i64 0), (.int .i64 0), (.int .i64 0), (.int .i64 0), (.slice none 0 0), (.slice none 0 0)]) 96 rfl Try.underlying24 info32 rfl (by decide) (by omega) u9 x9_1 (⟨1, t170, (⟨t205, t206, t207⟩ : S30), 0, ([] : List (S32)), ([] : List (S32))⟩ : S32) [.int .i64 1, .int .i64 t170, .int .i64 t205, .int .i64 t206, .int .i64 t207, .int .i64 0, .slice none 0 0, .slice none 0 0] (fun k_ => k_ ≠ gb172) (fun k_ => ((fun k_ => k_ ≠ gb172)) k_ ∧ some k_ ≠ (u9 : Value).ownBlock) rfl (by first | (go_simp; done) | (go_simp; rfl)) ?aP (fun _ hk => hk) ?aF ?aO (Below.refl _ _) ?aS ?aL ?_; (case aP => exact k32_mkM _ _ _ (⟨1, t170, (⟨t205, t206, t207⟩ : S30), 0, ([] : List (S32)), ([] : List (S32))⟩ : S32) (Kd.R_nil _ _ _ _ _) (Kd.R_nil _ _ _ _ _)); (case aF => exact (fun k_ hk => Kd.freshB (g := gb172) (o := .cells #[.int .i64 1, .int .i64 t170, .int .i64 t205, .int .i64 t206, .int .i64 t207, .int .i64 0, .slice none 0 0, .slice none 0 0] 32 (0, 0)) (ZZ BK172.out) k_ hk)); (case aO => exact (by (with_reducible repeat (first | apply Kd.R_alloc | apply Kd.R_drewN | apply Kd.R_drew)); exact Kd.R_mono (Kd.R_far (p := ⟨gb172, 4, none⟩) (Kd.R_far (p := ⟨gb172, 3, none⟩) (Kd.R_far (p := ⟨gb172, 2, none⟩) (Kd.R_mono HO_9.out (fun k_ hk => (⟨hk, hk⟩ : _ ∧ k_ ≠ gb172))) (fun _ hk => hk.2) (.int .i64 t205)) (fun _ hk => hk.2) (.int .i64 t206)) (fun _ hk => hk.2) (.int .i64 t207)) (fun _ hk => hk.1))); (case aS => exact (keep_size (w := w) (g := g) (row := none) (ZJ))); (case aL => have := LMc79.out; omega); intro v210 w84 ho hb hg hat; rw [← Ny209.out] at ho; have n0_ := AM (blk_grown (g := gb172) (o := .cells #[.int .i64 1, .int .i64 t170, .int .i64 t205, .int .i64 t206, .int .i64 t207, .int .i64 0, .slice none 0 0, .slice none 0 0] 32 (0, 0)) (ZZ BK172.out) hg (Kd.R_away HO_9.out (fun _ hk => hk))); have n1_ := AM (spec_l71Steps.grown_ HI0 hg (IsS64.own_ne HI0.out HO_9.out (by decide))); have n2_ := AM (below_weaken (ZBI) HL.out hb); have n3_ := AM (KeepBut.trans (ZJ) (KeepBut.of_grown hg g) (Kd.R_base2 HO_9.out)); have n4_ := AM (ho); clear BK172 HI0 HB HK HO_9; have BK172 := n0_; have HI0 := n1_; have HB := n2_; have HK := n3_; have HO211 := n4_; clear n0_ n1_ n2_ n3_ n4_ ho hb hg hat))
   go_roundg kj37
   case measure => have := HK1.out; have := HJ37.out; omega
   case rel => exact ⟨(y209), (wrap64 (x10_1 - 1)), (t208), (by first | rfl | (simp; done) | (simp [*]; done)), H', ⟨by have := HK1.out; have := HJ37.out; omega⟩, ⟨ZR (Kd.R_mono HO211.out (fun _ hk => trivial))⟩, ⟨ZI⟩, ⟨ZJ⟩, ⟨ZBI⟩⟩)
   ·(
   rw [if_neg c79] at H
   exact absurd H (by simp)))
   ·exact absurd rfl c77))
   ·(
   replace c45 := Bool.eq_false_iff.mpr c45
   subst c45
   have H1 : (if 1 = 1 then ((spec_l71Val.f kj37 s0_0 t174 a3).bind fun bt215 => (if x9_1.length < 1466015503701 then (spec_l71Steps.l0 kj37 a2 a3 (x9_1 ++ [(⟨1, t170, (⟨bt215.1, bt215.2.1, bt215.2.2.1⟩ : S30), 0, ([] : List (S32)), ([] : List (S32))⟩ : S32)]) (wrap64 (x10_1 - 1)) s0_0 bt215.2.2.2) else (none))) else (if x9_1.length < 1466015503701 then (spec_l71Steps.l0 kj37 a2 a3 (x9_1 ++ [(⟨1, t170, (⟨0, 0, 0⟩ : S30), 0, ([] : List (S32)), ([] : List (S32))⟩ : S32)]) (wrap64 (x10_1 - 1)) s0_0 t174) else (none))) = some (r1, r2) := by rw [if_neg ZFT] at H; exact H
   clear H
   have H := H1
   clear H1
   by_cases c89 : 1 = 1
   ·(
   rw [if_pos c89] at H
   have c89b0 := beq_iff_eq.mpr c89
   have c89b1 := bne_eq_false_iff_eq.mpr c89
   clear c89
   obtain ⟨⟨t215, t216, t217, t218⟩, A90, H⟩ := ZOB H
   replace H : (if x9_1.length < 1466015503701 then (spec_l71Steps.l0 kj37 a2 a3 (x9_1 ++ [(⟨1, t170, (⟨t215, t216, t217⟩ : S30), 0, ([] : List (S32)), ([] : List (S32))⟩ : S32)]) (wrap64 (x10_1 - 1)) s0_0 t218) else (none)) = some (r1, r2) := H
   by_cases c91 : x9_1.length < 1466015503701
   ·(
   rw [if_pos c91] at H
   have LMc91 := AM c91
   clear c91
   obtain ⟨y219, hy219⟩ : ∃ y_ : List (S32), y_ = (x9_1 ++ [(⟨1, t170, (⟨t215, t216, t217⟩ : S30), 0, ([] : List (S32)), ([] : List (S32))⟩ : S32)]) := ⟨_, rfl⟩
   replace H : (spec_l71Steps.l0 kj37 a2 a3 y219 (wrap64 (x10_1 - 1)) s0_0 t218) = some (r1, r2) := by first | (rw [hy219]; with_reducible exact H) | (have H2_ := (Option.bind_some _ _).symm.trans H; rw [hy219]; with_reducible exact H2_) | (have H2_ := (Option.bind_some _ _).symm.trans H; with_reducible exact H2_) | with_reducible exact H | (rw [hy219]; exact H) | exact H
   have Ny219 := AM hy219
   clear hy219
   have H' := AM H
   clear H
   have hnb92 := NB172_0.out
   have hnc92 := NB0_172.out
   have hcz93 := ZC8 wc BK172
   have hfz93 := ZF8 BK172
   go_wp2_with (first | ((with_reducible refine gate_callee (f := 82) rfl ?_); refine ZGL (some 56) Try.func82 #[.pointer (some ⟨g, 0, none⟩), .int .i64 a3] ?_; (with_reducible refine (spec_l71Val.calls kj37 g s0_0 t174 a3 t215 t216 t217 t218 w0 _ ?side1 ?side2 A90.out).mono ?_); (case side1 => exact ZI); (case side2 => exact ZBI); rintro e w94 ⟨rfl, hi, hb, hk⟩; refine ⟨_, rfl, ?_⟩; replace HO_9 := AM (Kd.R_mono (Kd.R_keep (IsS64.apart (show IsS64 w0 _ g s0_0 t174 from ZI) (ZR HO_9.out) (by decide)) hk (fun _ h => h.2)) (fun _ h => h.1)); replace BK172 := ZL hk BK172 NB172_0; replace HK := ZKT HK hk; replace HB := AM (hb); replace HI0 := AM (hi); clear hb hk hi; have hcz95 := ZC8 w94 BK172; have hfz95 := ZF8 BK172) | ((with_reducible refine gate_builtin (b := .append) (xs := #[.tmp 58, .tmp 60]) rfl ?_); at_builtin; refine Kd.R_append k32 w.heap.size rfl (.tmp 58) (.tmp 60) 24 32 (.agg #[(.int .i64 0), (.int .i64 0), (.int .i64 0), (.int .i64 0), (.int .i64 0), (.int .i64 0), (.slice none 0 0), (.slice none 0 0)]) 96 rfl Try.underlying24 info32 rfl (by decide) (by omega) u9 x9_1 (⟨1, t170, (⟨t215, t216, t217⟩ : S30), 0, ([] : List (S32)), ([] : List (S32))⟩ : S32) [.int .i64 1, .int .i64 t170, .int .i64 t215, .int .i64 t216, .int .i64 t217, .int .i64 0, .slice none 0 0, .slice none 0 0] (fun k_ => k_ ≠ gb172) (fun k_ => ((fun k_ => k_ ≠ gb172)) k_ ∧ some k_ ≠ (u9 : Value).ownBlock) rfl (by first | (go_simp; done) | (go_simp; rfl)) ?aP (fun _ hk => hk) ?aF ?aO (Below.refl _ _) ?aS ?aL ?_; (case aP => exact k32_mkM _ _ _ (⟨1, t170, (⟨t215, t216, t217⟩ : S30), 0, ([] : List (S32)), ([] : List (S32))⟩ : S32) (Kd.R_nil _ _ _ _ _) (Kd.R_nil _ _ _ _ _)); (case aF => exact (fun k_ hk => Kd.freshB (g := gb172) (o := .cells #[.int .i64 1, .int .i64 t170, .int .i64 t215, .int .i64 t216, .int .i64 t217, .int .i64 0, .slice none 0 0, .slice none 0 0] 32 (0, 0)) (ZZ BK172.out) k_ hk)); (case aO => exact (by (with_reducible repeat (first | apply Kd.R_alloc | apply Kd.R_drewN | apply Kd.R_drew)); exact Kd.R_mono (Kd.R_far (p := ⟨gb172, 4, none⟩) (Kd.R_far (p := ⟨gb172, 3, none⟩) (Kd.R_far (p := ⟨gb172, 2, none⟩) (Kd.R_mono HO_9.out (fun k_ hk => (⟨hk, hk⟩ : _ ∧ k_ ≠ gb172))) (fun _ hk => hk.2) (.int .i64 t215)) (fun _ hk => hk.2) (.int .i64 t216)) (fun _ hk => hk.2) (.int .i64 t217)) (fun _ hk => hk.1))); (case aS => exact (keep_size (w := w) (g := g) (row := none) (ZJ))); (case aL => have := LMc91.out; omega); intro v220 w96 ho hb hg hat; rw [← Ny219.out] at ho; have n0_ := AM (blk_grown (g := gb172) (o := .cells #[.int .i64 1, .int .i64 t170, .int .i64 t215, .int .i64 t216, .int .i64 t217, .int .i64 0, .slice none 0 0, .slice none 0 0] 32 (0, 0)) (ZZ BK172.out) hg (Kd.R_away HO_9.out (fun _ hk => hk))); have n1_ := AM (spec_l71Steps.grown_ HI0 hg (IsS64.own_ne HI0.out HO_9.out (by decide))); have n2_ := AM (below_weaken (ZBI) HL.out hb); have n3_ := AM (KeepBut.trans (ZJ) (KeepBut.of_grown hg g) (Kd.R_base2 HO_9.out)); have n4_ := AM (ho); clear BK172 HI0 HB HK HO_9; have BK172 := n0_; have HI0 := n1_; have HB := n2_; have HK := n3_; have HO221 := n4_; clear n0_ n1_ n2_ n3_ n4_ ho hb hg hat))
   go_roundg kj37
   case measure => have := HK1.out; have := HJ37.out; omega
   case rel => exact ⟨(y219), (wrap64 (x10_1 - 1)), (t218), (by first | rfl | (simp; done) | (simp [*]; done)), H', ⟨by have := HK1.out; have := HJ37.out; omega⟩, ⟨ZR (Kd.R_mono HO221.out (fun _ hk => trivial))⟩, ⟨ZI⟩, ⟨ZJ⟩, ⟨ZBI⟩⟩)
   ·(
   rw [if_neg c91] at H
   exact absurd H (by simp)))
   ·exact absurd rfl c89))))
  ·(
  rw [if_neg c9] at H
  have c9b0 := decide_eq_false c9
  clear c9
  simp only [Option.some.injEq, Prod.mk.injEq] at H
  obtain ⟨rfl, rfl⟩ := H
  go_wp2
  go_ret
  exact ⟨_, ZE, by (with_reducible repeat (first | apply Kd.R_alloc | apply Kd.R_drewN | apply Kd.R_drew)); exact HO_9.out, ZI, ZBI, ZJ⟩))


/-! ### spec_l71Prog: function 40 -/
mutual
def spec_l71Prog.l0 : Nat → Int → List Int → Int → Option ((List (S39)) × (List (S32)) × Int)
 | 0, _, _, _ => none
 | k + 1, x3, x1000, x1001 => if x3 < 20 then ((spec_l6Rd_pick.f k x1000 x1001 4).bind fun bt233 => (spec_l71Prog.l1 k x3 (wrap64 (1 + bt233.1)) x1000 bt233.2 (([] : List (S39))))) else (some ((([(⟨7, 0⟩ : S39)] : List (S39))), ([] : List (S32)), x1001))
def spec_l71Prog.l1 : Nat → Int → Int → List Int → Int → List (S39) → Option ((List (S39)) × (List (S32)) × Int)
 | 0, _, _, _, _, _ => none
 | k + 1, x3, x5, x1000, x1001, x233000 => if x5 > 0 then ((spec_l71Label.f k x1000 x1001).bind fun bt235 => (if x233000.length < 8796093022208 then (spec_l71Prog.l1 k x3 (wrap64 (x5 - 1)) x1000 bt235.2.2 (x233000 ++ [(⟨bt235.1, bt235.2.1⟩ : S39)])) else (none))) else ((spec_l71Steps.f k x1000 x1001 4 3 (x233000.length : Int)).bind fun bt241 => ((spec_ProgOk.f k x233000 bt241.1).bind fun t245 => (if t245 = true then (some (x233000, bt241.1, bt241.2)) else (spec_l71Prog.l0 k (wrap64 (x3 + 1)) x1000 bt241.2))))
end
def spec_l71Prog.f (k : Nat) (s0_0 : List Int) (s0_1 : Int) : Option ((List (S39)) × (List (S32)) × Int) := spec_l71Prog.l0 k 0 s0_0 s0_1
def spec_l71Prog.T8 : Bool × List (List Nat × List Nat) := (true, [([], []), ([0], [0]), ([], []), ([2], [2]), ([3], [3]), ([1, 4, 3], [1, 4]), ([0, 1, 2, 3, 4, 5], []), ([6, 5, 5, 0, 1, 2, 3, 4, 5], [5, 6])])
def spec_l71Prog.B8 : List Nat := [0, 1, 0, 4, 12, 31, 63, 127]
theorem spec_l71Prog.tab8 : rtab .any (opsOf Try.f40 8) = spec_l71Prog.T8 := by kernel_rfl
theorem spec_l71Prog.bits8 : waitsOk spec_l71Prog.T8.2 spec_l71Prog.B8 = true := by kernel_rfl
theorem spec_l71Prog.calls (k : Nat) (g : Nat) (s0_0 : List Int) (s0_1 : Int) (r1 : List (S39)) (r2 : List (S32)) (r3 : Int) (w0 w : World) (hI : IsS64 w0 w g s0_0 s0_1) (hB : Below w0.heap.size w0 w) (h : spec_l71Prog.f k s0_0 s0_1 = some (r1, r2, r3)) :
  Calls Try.prog 40 #[.pointer (some ⟨g, 0, none⟩)] w fun e w' => ∃ v0_ v1_ : Value, e = .returned (.agg #[v0_, v1_]) ∧ Kd.R k39 39 w' w.heap.size (fun _ => True) v0_ r1 ∧ Kd.R k32 32 w' w.heap.size (fun _ => True) v1_ r2 ∧ IsS64 w0 w' g s0_0 r3 ∧ Below w0.heap.size w0 w' ∧ KeepBut w w' g none := by
 have hu26 := Try.underlying26
 have hu39 := Try.underlying39
 have HI0 := AM hI
 have HK := AM (KeepBut.refl w g none)
 have HL := AM hB.size
 clear hI
 have HW0 := AM hB.size
 have HB := AM hB
 clear hB
 have H := h
 unfold spec_l71Prog.f at H
 clear h
 have H' := AM H
 clear H
 go_enter Try.func40, Try.ntmps40
 go_wp2_with (first | ((with_reducible refine gate_dst (N := 2) rfl ?_); refine ZX (N := 2) (cs := #[.slice none 0 0, .slice none 0 0]) (t := 26) ?_; intro gb225 hg w2 hbox hb; have BK225 := AM (hbox); have GW225 := AM ((by rw [hg]; exact (keep_size (w := w) (g := g) (row := none) (ZJ)) : w.heap.size ≤ gb225)); have GE225 := AM ((Nat.le_trans HW0.out (by rw [hg]; exact (keep_size (w := w) (g := g) (row := none) (ZJ)) : w.heap.size ≤ gb225) : w0.heap.size ≤ gb225)); have NB0_225 := AM ((by rw [hg]; exact Nat.ne_of_lt (IsS64.lt (show IsS64 w0 _ g s0_0 s0_1 from ZI)) : g ≠ gb225)); have NB225_0 := AM ((by rw [hg]; exact Nat.ne_of_gt (IsS64.lt (show IsS64 w0 _ g s0_0 s0_1 from ZI)) : gb225 ≠ g)); replace HK := ZKT HK (KeepBut.of_below hb g none); replace HB := ZTI HB hb; replace HI0 := AM (IsS64.below (ZI) hb); clear hb hbox hg))
 go_loopg [3] k (fun kq v3 w' => ∃ (x3_1 : Int) (x1001_1 : Int), v3 = .int .i64 x3_1 ∧ Za (spec_l71Prog.l0 kq x3_1 s0_0 x1001_1 = some (r1, r2, r3)) ∧ Za (kq ≤ k) ∧ Za (w'.heap[gb225]? = some (.cells #[(.slice none 0 0), (.slice none 0 0)] 26 (0, 0))) ∧ Za (IsS64 w0 w' g s0_0 x1001_1) ∧ Za (KeepBut w w' g none) ∧ Za (Below w0.heap.size w0 w'))
 case atStart => exact ⟨(0), (s0_1), (by first | rfl | (simp; done) | (simp [*]; done)), H', ⟨Nat.le_refl _⟩, ⟨ZK BK225.out⟩, ⟨ZI⟩, ⟨ZJ⟩, ⟨ZBI⟩⟩
 case round => (
 clear H'
 try clear p2
 obtain ⟨x3_1, x1001_1, rfl, HA, HK1, BK225, HI0, HK, HB⟩ := hrel
 cases gk with
 | zero => exact absurd HA.out (by simp [spec_l71Prog.l0])
 | succ k1 =>
  have H := HA.out
  clear HA
  simp only [spec_l71Prog.l0] at H
  by_cases c3 : x3_1 < 20
  ·(
  rw [if_pos c3] at H
  have c3b0 := decide_eq_true c3
  clear c3
  obtain ⟨y229, hy229⟩ : ∃ y_ : List (S39), y_ = (([] : List (S39))) := ⟨_, rfl⟩
  replace H : ((spec_l6Rd_pick.f k1 s0_0 x1001_1 4).bind fun bt233 => (spec_l71Prog.l1 k1 x3_1 (wrap64 (1 + bt233.1)) s0_0 bt233.2 y229)) = some (r1, r2, r3) := by first | (rw [hy229]; with_reducible exact H) | (have H2_ := (Option.bind_some _ _).symm.trans H; rw [hy229]; with_reducible exact H2_) | (have H2_ := (Option.bind_some _ _).symm.trans H; with_reducible exact H2_) | with_reducible exact H | (rw [hy229]; exact H) | exact H
  have Ny229 := AM hy229
  clear hy229
  obtain ⟨⟨t233, t234⟩, A4, H⟩ := ZOB H; try dsimp only at H
  have H' := AM H
  clear H
  go_wp2_with (first | ((with_reducible refine gate_dst (N := 10) rfl ?_); refine Kd.R_lit k39 _ 39 ?hg (N := 10) ?hd (xs := ([] : List (S39))) (inner := []) (ok := fun _ => True) (okp := fun _ => True) ?hr ?hp (fun _ hk => hk) trivial (Below.refl _ _) (Nat.le_refl _) (by simp) ?_; (case hd => rfl); (case hg => rfl); (case hr => first | (go_simp; done) | (go_simp; rfl)); (case hp => exact (Reps.none _ _)); intro v230 w5 ho6 hb hg_ hnew_; clear hg_ hnew_; (first | rw [← Ny229.out] at ho6 | (simp only [Int.reduceToNat] at ho6; rw [← Ny229.out] at ho6)); have HO231 := AM (Kd.R_lower ho6 (keep_size (w := w) (g := g) (row := none) (ZJ))); replace BK225 := ZW BK225 hb; replace HK := ZKT HK (KeepBut.of_below hb g none); replace HB := ZTI HB hb; replace HI0 := AM (IsS64.below (ZI) hb); clear hb ho6; obtain ⟨Ao7, co7, eo7⟩ := Kd.R_slice HO231.out; subst eo7) | ((with_reducible refine gate_dst (N := 4) rfl ?_); refine ZX (N := 4) (cs := #[.slice none 0 0, .slice none 0 0]) (t := 26) ?_; intro gb232 hg w8 hbox hb; have BK232 := AM (hbox); have GW232 := AM ((by rw [hg]; exact (keep_size (w := w) (g := g) (row := none) (ZJ)) : w.heap.size ≤ gb232)); have GE232 := AM ((Nat.le_trans HW0.out (by rw [hg]; exact (keep_size (w := w) (g := g) (row := none) (ZJ)) : w.heap.size ≤ gb232) : w0.heap.size ≤ gb232)); have NB225_232 : Za (gb225 ≠ gb232) := ZN hg BK225; have NB232_225 : Za (gb232 ≠ gb225) := ZM hg BK225; have NB0_232 := AM ((by rw [hg]; exact Nat.ne_of_lt (IsS64.lt (show IsS64 w0 _ g s0_0 x1001_1 from ZI)) : g ≠ gb232)); have NB232_0 := AM ((by rw [hg]; exact Nat.ne_of_gt (IsS64.lt (show IsS64 w0 _ g s0_0 x1001_1 from ZI)) : gb232 ≠ g)); replace HO231 := AM (Kd.R_below (ZR HO231.out) hb); replace BK225 := ZW BK225 hb; replace HK := ZKT HK (KeepBut.of_below hb g none); replace HB := ZTI HB hb; replace HI0 := AM (IsS64.below (ZI) hb); clear hb hbox hg; have hnb9 := NB232_225.out; have hnc9 := NB225_232.out; have hnb10 := NB232_0.out; have hnc10 := NB0_232.out; have hcz11 := ZC2 w8 BK232; have hfz11 := ZF2 BK232) | ((with_reducible refine gate_callee (f := 39) rfl ?_); refine ZGL (some 13) Try.func39 #[.pointer (some ⟨g, 0, none⟩), .int .i64 4] ?_; (with_reducible refine (spec_l6Rd_pick.calls k1 g s0_0 x1001_1 4 t233 t234 w0 _ ?side1 ?side2 A4.out).mono ?_); (case side1 => exact ZI); (case side2 => exact ZBI); rintro e w12 ⟨rfl, hi, hb, hk⟩; refine ⟨_, rfl, ?_⟩; replace BK225 := ZLV #[.slice none 0 0, .slice none 0 0] hk BK225 NB225_0; replace HO231 := AM (Kd.R_mono (Kd.R_keep (IsS64.apart (show IsS64 w0 _ g s0_0 x1001_1 from ZI) (ZR ((Kd.R_mono (Kd.R_far (p := ⟨gb232, 1, none⟩) (Kd.R_far (p := ⟨gb232, 0, none⟩) (Kd.R_types HO231.out BK232.out (by decide)) (fun _ hk => hk.2) (.slice Ao7 y229.length co7)) (fun _ hk => hk.2) (.slice none 0 0)) (fun _ h_ => h_.1)))) (by decide)) hk (fun _ h => h.2)) (fun _ h => h.1)); replace BK232 := ZLV #[.slice Ao7 y229.length co7, .slice none 0 0] hk BK232 NB232_0; replace HK := ZKT HK hk; replace HB := AM (hb); replace HI0 := AM (hi); clear hb hk hi))
  go_loopg [5] k1 (fun kq v5 w' => ∃ (x5_2 : Int) (x1001_2 : Int) (x233000_2 : List (S39)) (u233000 : Value), v5 = .int .i64 x5_2 ∧ Za (spec_l71Prog.l1 kq x3_1 x5_2 s0_0 x1001_2 x233000_2 = some (r1, r2, r3)) ∧ Za (kq ≤ k1) ∧ Za (Kd.R k39 39 w' w.heap.size (fun _ => True) u233000 x233000_2) ∧ Za (w'.heap[gb225]? = some (.cells #[(.slice none 0 0), (.slice none 0 0)] 26 (0, 0))) ∧ Za (w'.heap[gb232]? = some (.cells #[u233000, (.slice none 0 0)] 26 (0, 0))) ∧ Za (IsS64 w0 w' g s0_0 x1001_2) ∧ Za (KeepBut w w' g none) ∧ Za (Below w0.heap.size w0 w'))
  case atStart => exact ⟨(wrap64 (1 + t233)), (t234), (y229), (.slice Ao7 y229.length co7), (by first | rfl | (simp; done) | (simp [*]; done)), H', ⟨Nat.le_refl _⟩, ⟨ZR HO231.out⟩, ⟨ZK BK225.out⟩, ⟨ZK BK232.out⟩, ⟨ZI⟩, ⟨ZJ⟩, ⟨ZBI⟩⟩
  case round => (
  clear H'
  try clear c1
  try clear p2
  try clear c3
  try clear c3b0
  try clear c4
  try clear p6
  try clear c9
  try clear c10
  try clear hcz11
  try clear hfz11
  try clear p2
  obtain ⟨x5_2, x1001_2, x233000_2, u233000, rfl, HA, HK2, HO_233000, BK225, BK232, HI0, HK, HB⟩ := hrel
  cases gk with
  | zero => exact absurd HA.out (by simp [spec_l71Prog.l1])
  | succ k2 =>
   have H := HA.out
   clear HA
   simp only [spec_l71Prog.l1] at H
   by_cases c13 : x5_2 > 0
   ·(
   rw [if_pos c13] at H
   have c13b0 := decide_eq_true c13
   clear c13
   obtain ⟨⟨t235, t236, t237⟩, A14, H⟩ := ZOB H; try dsimp only at H
   by_cases c15 : x233000_2.length < 8796093022208
   ·(
   rw [if_pos c15] at H
   have LMc15 := AM c15
   clear c15
   obtain ⟨y238, hy238⟩ : ∃ y_ : List (S39), y_ = (x233000_2 ++ [(⟨t235, t236⟩ : S39)]) := ⟨_, rfl⟩
   replace H : (spec_l71Prog.l1 k2 x3_1 (wrap64 (x5_2 - 1)) s0_0 t237 y238) = some (r1, r2, r3) := by first | (rw [hy238]; with_reducible exact H) | (have H2_ := (Option.bind_some _ _).symm.trans H; rw [hy238]; with_reducible exact H2_) | (have H2_ := (Option.bind_some _ _).symm.trans H; with_reducible exact H2_) | with_reducible exact H | (rw [hy238]; exact H) | exact H
   have Ny238 := AM hy238
   clear hy238
   have H' := AM H
   clear H
   try go_wp2
   replace HO_233000 := AM (Kd.R_drew HO_233000.out)
   replace BK225 := AM (blk_drew BK225.out)
   replace BK232 := AM (blk_drew BK232.out)
   replace HI0 := AM (IsS64.drew HI0.out)
   replace HK := AM (keep_drew HK.out)
   replace HB := AM (below_drew1 HB.out)
   refine start_ (n := 8) (S := fun w' => w'.cell? ⟨gb232, 0, none⟩ = some (u233000) ∧ w'.cell? ⟨gb232, 1, none⟩ = some (.slice none 0 0)) (ds := [7]) #[F,F,F,F,F,F,F,F] (by kernel_rfl) rfl rfl ⟨ZA BK232 0, ZA BK232 1⟩ (fun hHeld => ?_); refine with_tabW spec_l71Prog.tab8 spec_l71Prog.bits8 (fun HT_ HW_ => ?_)
   generalize wr.drew = w16 at HO_233000 BK225 BK232 HI0 HK HB hHeld ⊢
   refine ZU 0 19 #[T,F,F,F,F,F,F,F] ?_
   refine ZU 2 21 #[T,F,T,F,F,F,F,F] ?_
   refine ZTK 1 20 #[T,T,T,F,F,F,F,F] hHeld ?_
   refine one_ (i := 3) (N := some 22) #[T,T,T,T,F,F,F,F] rfl rfl (one_of HT_.out (by kernel_rfl)) (by decide) (fun K hK => ?_)
   refine ZGO Try.func60 #[.pointer (some ⟨g, 0, none⟩)] ?_
   with_reducible refine (spec_l71Label.calls k2 g s0_0 x1001_2 t235 t236 t237 w0 _ ?side1 ?side2 A14.out).mono ?_
   (case side1 => exact ZI)
   (case side2 => exact ZBI)
   rintro e w17 ⟨rfl, hi, hb, hk⟩
   refine ⟨_, rfl, ?_⟩
   replace HO_233000 := AM (Kd.R_mono (Kd.R_keep (IsS64.apart (show IsS64 w0 _ g s0_0 x1001_2 from ZI) (ZR HO_233000.out) (by decide)) hk (fun _ h => h.2)) (fun _ h => h.1))
   replace BK225 := ZL hk BK225 NB225_0
   replace BK232 := ZL hk BK232 NB232_0
   replace HK := ZKT HK hk
   replace HB := AM (hb)
   replace HI0 := AM (hi)
   (try clear hb)
   (try clear hb2)
   (try clear hk)
   (try clear hi)
   refine hK.out _ _ ⟨ZA BK232 0, ZA BK232 1⟩ (fun hHeld => ?_)
   clear hK K
   refine ZNO 22 ?_
   refine one_ (i := 4) (N := some 23) #[T,T,T,T,T,F,F,F] rfl rfl (one_of HT_.out (by kernel_rfl)) (by decide) (fun K hK => ?_)
   refine value_ (w1 := ?_) (v := ?_) (by rfl) rfl ?_ ?_
   rotate_left 2
   ·(
   go_simp
   constructor
   ·rfl
   ·rfl)
   refine hK.out _ _ ⟨(blk_cell (blk_alloc BK232.out _) 0).trans rfl, (blk_cell (blk_alloc BK232.out _) 1).trans rfl⟩ (fun hHeld => ?_)
   clear hK K
   refine ZNO 23 ?_
   refine one_ (i := 5) (N := some 24) #[T,T,T,T,T,T,F,F] rfl rfl (one_of HT_.out (by kernel_rfl)) (by decide) (fun K hK => ?_)
   refine Kd.R_append_step k39 w.heap.size (by rfl) (.tmp 20) (.tmp 23) 23 39 (.agg #[(.int .i64 0), (.int .i64 0)]) 16 rfl Try.underlying23 info39 rfl (by decide) (by omega) u233000 x233000_2 (⟨t235, t236⟩ : S39) [.int .i64 t235, .int .i64 t236] (fun _ => True) (fun _ => False) rfl rfl ?aP (fun _ hk => hk.elim) ?aF ?aO (Below.refl _ _) ?aS ?aL ?_
   (case aP => exact k39_mkM _ _ _ (⟨t235, t236⟩ : S39))
   (case aF => exact (fun _ _ => trivial))
   (case aO => exact (ZR HO_233000.out))
   (case aS => exact (keep_size (w := w) (g := g) (row := none) (ZJ)))
   (case aL => have := LMc15.out; omega)
   intro v239 w18 ho hb hg hat
   rw [← Ny238.out] at ho
   have n0_ := AM (blk_grown (g := gb225) (o := .cells #[.slice none 0 0, .slice none 0 0] 26 (0, 0)) (ZK BK225.out) hg (Kd.R_ne HO_233000.out BK225.out (by decide)))
   have n1_ := AM (blk_grown (g := gb232) (o := .cells #[u233000, .slice none 0 0] 26 (0, 0)) (ZK BK232.out) hg (Kd.R_ne HO_233000.out BK232.out (by decide)))
   have n2_ := AM (IsS64.grown (ZI) hg (IsS64.own_ne HI0.out HO_233000.out (by decide)))
   have n3_ := AM (below_weaken (ZBI) HL.out hb)
   have n4_ := AM (KeepBut.trans (ZJ) (KeepBut.of_grown hg g) (Kd.R_base2 HO_233000.out))
   have n5_ := AM (ho)
   clear BK225 BK232 HI0 HB HK HO_233000
   have BK225 := n0_
   have BK232 := n1_
   have HI0 := n2_
   have HB := n3_
   have HK := n4_
   have HO240 := n5_
   clear n0_ n1_ n2_ n3_ n4_ n5_ ho hb hg hat
   obtain ⟨Ao19, co19, eo19⟩ := Kd.R_slice HO240.out
   (first | subst eo19 | (injection eo19 with f1_ f2_ f3_; have f4_ := f1_.symm; have f5_ := f3_.symm; clear f1_ f2_ f3_; subst f4_; subst f5_))
   refine hK.out _ _ ⟨ZA BK232 0, ZA BK232 1⟩ (fun hHeld => ?_)
   clear hK K
   refine ZNO 24 ?_
   refine ZU 6 25 #[T,T,T,T,T,T,T,F] ?_
   refine last_ (i := 7) (N := none) #[T,T,T,T,T,T,T,T] rfl rfl (one_of HT_.out (by kernel_rfl)) (by decide) (fun K hK => ?_)
   have hs20 : w18.cell? ⟨gb232, 0, none⟩ = some (u233000) := ZA BK232 0
   have hfs20 := blk_frozen BK232.out 0
   have hns20_0 := NB225_232.out
   have hms20_0 := NB232_225.out
   refine skip_ (w1 := ?_) (by rfl) rfl ?_ ?_
   rotate_left
   ·(
   go_simp
   rfl)
   refine hK.out _ _ ?_
   clear hK K
   refine done_ (done_of HT_.out (by kernel_rfl)) ?_
   try go_wp2
   go_roundg k2
   case measure => have := HK1.out; have := HK2.out; omega
   case rel => exact ⟨(wrap64 (x5_2 - 1)), (t237), (y238), (.slice Ao19 y238.length co19), (by first | rfl | (simp; done) | (simp [*]; done)), H', ⟨by have := HK1.out; have := HK2.out; omega⟩, ⟨ZR (Kd.R_mono (Kd.R_far (p := ⟨gb232, 0, none⟩) (Kd.R_types HO240.out BK232.out (by decide)) (fun _ hk => hk.2) (.slice Ao19 y238.length co19)) (fun _ hk => trivial))⟩, ⟨ZZ BK225.out⟩, ⟨ZZ BK232.out⟩, ⟨ZI⟩, ⟨ZJ⟩, ⟨ZBI⟩⟩)
   ·(
   rw [if_neg c15] at H
   exact absurd H (by simp)))
   ·(
   rw [if_neg c13] at H
   have c13b0 := decide_eq_false c13
   clear c13
   obtain ⟨⟨t241, t244⟩, A21, H⟩ := ZOB H; try dsimp only at H
   obtain ⟨t245, A22, H⟩ := ZOB H; try dsimp only at H
   by_cases c23 : t245 = true
   ·(
   subst c23
   have H1 := H; rw [if_pos rfl] at H1
   clear H
   have H := H1
   clear H1
   simp only [Option.some.injEq, Prod.mk.injEq] at H
   obtain ⟨rfl, rfl, rfl⟩ := H
   have hnb24 := NB232_225.out
   have hnc24 := NB225_232.out
   have hnb25 := NB232_0.out
   have hnc25 := NB0_232.out
   have hcz26 := ZC2 wr BK232
   have hfz26 := ZF2 BK232
   obtain ⟨Ao27, co27, eo27⟩ := Kd.R_slice HO_233000.out
   subst eo27
   go_wp2_with (first | ((with_reducible refine gate_callee (f := 61) rfl ?_); refine ZGL (some 30) Try.func61 #[.pointer (some ⟨g, 0, none⟩), .int .i64 4, .int .i64 3, .int .i64 (x233000_2.length : Int)] ?_; (with_reducible refine (spec_l71Steps.calls k2 g s0_0 x1001_2 4 3 (x233000_2.length : Int) t241 t244 w0 _ ?side1 ?side2 A21.out).mono ?_); (case side1 => exact ZI); (case side2 => exact ZBI); rintro e w28 ⟨v242, rfl, ho0, hi, hb, hk⟩; refine ⟨_, rfl, ?_⟩; have HO243 := AM (Kd.R_lower ho0 (keep_size (w := w) (g := g) (row := none) (ZJ))); replace HO_233000 := AM (Kd.R_mono (Kd.R_keep (IsS64.apart (show IsS64 w0 _ g s0_0 x1001_2 from ZI) (ZR HO_233000.out) (by decide)) hk (fun _ h => h.2)) (fun _ h => h.1)); replace BK225 := ZL hk BK225 NB225_0; replace BK232 := ZL hk BK232 NB232_0; replace HK := ZKT HK hk; replace HB := AM (hb); replace HI0 := AM (hi); clear hb hk hi; (try clear ho0); obtain ⟨Ao29, co29, eo29⟩ := Kd.R_slice HO243.out; subst eo29; have hcz30 := ZC2 w28 BK232; have hfz30 := ZF2 BK232) | ((with_reducible refine gate_callee (f := 19) rfl ?_); refine ZGL (some 33) Try.func19 #[.agg #[.slice Ao27 x233000_2.length co27, .slice Ao29 t241.length co29]] ?_; (with_reducible refine (spec_ProgOk.calls k2 _ _ x233000_2 _ _ t241 true _ ?side1 ?side2 ?side3 ?side4 A22.out).mono ?_); (case side1 => refine (Kd.R_reads' (e := 39) (base := w.heap.size) (ok := fun k_ => True) (n := x233000_2.length) (c := co27) ?_).2.2; exact (ZR ((Kd.R_mono (Kd.R_far (p := ⟨gb232, 1, none⟩) (Kd.R_types HO_233000.out BK232.out (by decide)) (fun _ hk => hk.2) (.slice Ao29 t241.length co29)) (fun _ h_ => h_.1))))); (case side2 => exact (Kd.R_reads' HO_233000.out).2.1); (case side3 => refine (Kd.R_reads' (e := 32) (base := w.heap.size) (ok := fun k_ => True) (n := t241.length) (c := co29) ?_).2.2; exact (ZR ((Kd.R_mono (Kd.R_far (p := ⟨gb232, 1, none⟩) (Kd.R_types HO243.out BK232.out (by decide)) (fun _ hk => hk.2) (.slice Ao29 t241.length co29)) (fun _ h_ => h_.1))))); (case side4 => exact (Kd.R_reads' HO243.out).2.1); rintro e w31 ⟨rfl, hb⟩; refine ⟨_, rfl, ?_⟩; replace HO_233000 := AM (Kd.R_below (ZR ((Kd.R_mono (Kd.R_far (p := ⟨gb232, 1, none⟩) (Kd.R_types HO_233000.out BK232.out (by decide)) (fun _ hk => hk.2) (.slice Ao29 t241.length co29)) (fun _ h_ => h_.1)))) hb); replace HO243 := AM (Kd.R_below (ZR ((Kd.R_mono (Kd.R_far (p := ⟨gb232, 1, none⟩) (Kd.R_types HO243.out BK232.out (by decide)) (fun _ hk => hk.2) (.slice Ao29 t241.length co29)) (fun _ h_ => h_.1)))) hb); replace BK225 := ZV #[.slice none 0 0, .slice none 0 0] BK225 hb; replace BK232 := ZV #[.slice Ao27 x233000_2.length co27, .slice Ao29 t241.length co29] BK232 hb; replace HK := ZKT HK (KeepBut.of_below hb g none); replace HB := ZTI HB hb; replace HI0 := AM (IsS64.below (show IsS64 w0 (w28.setCell ⟨gb232, 1, none⟩ (.slice Ao29 t241.length co29)) g s0_0 t244 from ZI) hb); clear hb; have hcz32 := ZC2 w31 BK232; have hfz32 := ZF2 BK232; have hnb33 := NB225_0.out; have hnc33 := NB0_225.out; have hcz34 := ZC2 w31 BK225; have hfz34 := ZF2 BK225))
   refine bodyPost_ret (results_cell_row rfl _ _ gb225 26 #[.slice Ao27 x233000_2.length co27, .slice Ao29 t241.length co29] (0, 0) _ rfl (ZZ BK225.out) Try.underlying26 rfl (by kernel_rfl)) rfl ?_
   exact ⟨_, _, ZE, by (with_reducible repeat (first | apply Kd.R_alloc | apply Kd.R_drewN | apply Kd.R_drew)); exact Kd.R_mono (Kd.R_far (p := ⟨gb225, 1, none⟩) (Kd.R_far (p := ⟨gb225, 0, none⟩) (Kd.R_types HO_233000.out BK225.out (by decide)) (fun _ hk => hk.2) (.slice Ao27 x233000_2.length co27)) (fun _ hk => hk.2) (.slice Ao29 t241.length co29)) (fun _ hk => trivial), by (with_reducible repeat (first | apply Kd.R_alloc | apply Kd.R_drewN | apply Kd.R_drew)); exact Kd.R_mono (Kd.R_far (p := ⟨gb225, 1, none⟩) (Kd.R_far (p := ⟨gb225, 0, none⟩) (Kd.R_types HO243.out BK225.out (by decide)) (fun _ hk => hk.2) (.slice Ao27 x233000_2.length co27)) (fun _ hk => hk.2) (.slice Ao29 t241.length co29)) (fun _ hk => trivial), ZI, ZBI, ZJ⟩)
   ·(
   replace c23 := Bool.eq_false_iff.mpr c23
   subst c23
   have H1 := H; rw [if_neg ZFT] at H1
   clear H
   have H := H1
   clear H1
   have H' := AM H
   clear H
   have hnb35 := NB232_225.out
   have hnc35 := NB225_232.out
   have hnb36 := NB232_0.out
   have hnc36 := NB0_232.out
   have hcz37 := ZC2 wr BK232
   have hfz37 := ZF2 BK232
   obtain ⟨Ao38, co38, eo38⟩ := Kd.R_slice HO_233000.out
   subst eo38
   go_wp2_with (first | ((with_reducible refine gate_callee (f := 61) rfl ?_); refine ZGL (some 30) Try.func61 #[.pointer (some ⟨g, 0, none⟩), .int .i64 4, .int .i64 3, .int .i64 (x233000_2.length : Int)] ?_; (with_reducible refine (spec_l71Steps.calls k2 g s0_0 x1001_2 4 3 (x233000_2.length : Int) t241 t244 w0 _ ?side1 ?side2 A21.out).mono ?_); (case side1 => exact ZI); (case side2 => exact ZBI); rintro e w39 ⟨v242, rfl, ho0, hi, hb, hk⟩; refine ⟨_, rfl, ?_⟩; have HO243 := AM (Kd.R_lower ho0 (keep_size (w := w) (g := g) (row := none) (ZJ))); replace HO_233000 := AM (Kd.R_mono (Kd.R_keep (IsS64.apart (show IsS64 w0 _ g s0_0 x1001_2 from ZI) (ZR HO_233000.out) (by decide)) hk (fun _ h => h.2)) (fun _ h => h.1)); replace BK225 := ZL hk BK225 NB225_0; replace BK232 := ZL hk BK232 NB232_0; replace HK := ZKT HK hk; replace HB := AM (hb); replace HI0 := AM (hi); clear hb hk hi; (try clear ho0); obtain ⟨Ao40, co40, eo40⟩ := Kd.R_slice HO243.out; subst eo40; have hcz41 := ZC2 w39 BK232; have hfz41 := ZF2 BK232) | ((with_reducible refine gate_callee (f := 19) rfl ?_); refine ZGL (some 33) Try.func19 #[.agg #[.slice Ao38 x233000_2.length co38, .slice Ao40 t241.length co40]] ?_; (with_reducible refine (spec_ProgOk.calls k2 _ _ x233000_2 _ _ t241 false _ ?side1 ?side2 ?side3 ?side4 A22.out).mono ?_); (case side1 => refine (Kd.R_reads' (e := 39) (base := w.heap.size) (ok := fun k_ => True) (n := x233000_2.length) (c := co38) ?_).2.2; exact (ZR ((Kd.R_mono (Kd.R_far (p := ⟨gb232, 1, none⟩) (Kd.R_types HO_233000.out BK232.out (by decide)) (fun _ hk => hk.2) (.slice Ao40 t241.length co40)) (fun _ h_ => h_.1))))); (case side2 => exact (Kd.R_reads' HO_233000.out).2.1); (case side3 => refine (Kd.R_reads' (e := 32) (base := w.heap.size) (ok := fun k_ => True) (n := t241.length) (c := co40) ?_).2.2; exact (ZR ((Kd.R_mono (Kd.R_far (p := ⟨gb232, 1, none⟩) (Kd.R_types HO243.out BK232.out (by decide)) (fun _ hk => hk.2) (.slice Ao40 t241.length co40)) (fun _ h_ => h_.1))))); (case side4 => exact (Kd.R_reads' HO243.out).2.1); rintro e w42 ⟨rfl, hb⟩; refine ⟨_, rfl, ?_⟩; replace HO_233000 := AM (Kd.R_below (ZR ((Kd.R_mono (Kd.R_far (p := ⟨gb232, 1, none⟩) (Kd.R_types HO_233000.out BK232.out (by decide)) (fun _ hk => hk.2) (.slice Ao40 t241.length co40)) (fun _ h_ => h_.1)))) hb); replace HO243 := AM (Kd.R_below (ZR ((Kd.R_mono (Kd.R_far (p := ⟨gb232, 1, none⟩) (Kd.R_types HO243.out BK232.out (by decide)) (fun _ hk => hk.2) (.slice Ao40 t241.length co40)) (fun _ h_ => h_.1)))) hb); replace BK225 := ZV #[.slice none 0 0, .slice none 0 0] BK225 hb; replace BK232 := ZV #[.slice Ao38 x233000_2.length co38, .slice Ao40 t241.length co40] BK232 hb; replace HK := ZKT HK (KeepBut.of_below hb g none); replace HB := ZTI HB hb; replace HI0 := AM (IsS64.below (show IsS64 w0 (w39.setCell ⟨gb232, 1, none⟩ (.slice Ao40 t241.length co40)) g s0_0 t244 from ZI) hb); clear hb))
   go_roundg k2
   case measure => have := HK1.out; have := HK2.out; omega
   case rel => exact ⟨(wrap64 (x3_1 + 1)), (t244), (by first | rfl | (simp; done) | (simp [*]; done)), H', ⟨by have := HK1.out; have := HK2.out; omega⟩, ⟨ZK BK225.out⟩, ⟨ZI⟩, ⟨ZJ⟩, ⟨ZBI⟩⟩))))
  ·(
  rw [if_neg c3] at H
  have c3b0 := decide_eq_false c3
  clear c3
  obtain ⟨y226, hy226⟩ : ∃ y_ : List (S39), y_ = (([(⟨7, 0⟩ : S39)] : List (S39))) := ⟨_, rfl⟩
  replace H : (some (y226, ([] : List (S32)), x1001_1)) = some (r1, r2, r3) := by first | (rw [hy226]; with_reducible exact H) | (have H2_ := (Option.bind_some _ _).symm.trans H; rw [hy226]; with_reducible exact H2_) | (have H2_ := (Option.bind_some _ _).symm.trans H; with_reducible exact H2_) | with_reducible exact H | (rw [hy226]; exact H) | exact H
  have Ny226 := AM hy226
  clear hy226
  simp only [Option.some.injEq, Prod.mk.injEq] at H
  obtain ⟨rfl, rfl, rfl⟩ := H
  go_wp2_with (first | ((with_reducible refine gate_dst (N := 36) rfl ?_); refine Kd.R_lit k39 _ 39 ?hg (N := 36) ?hd (xs := ([(⟨7, 0⟩ : S39)] : List (S39))) (inner := [.int .i64 7, .int .i64 0]) (ok := fun _ => True) (okp := fun _ => True) ?hr ?hp (fun _ hk => hk) trivial (Below.refl _ _) (Nat.le_refl _) (by simp) ?_; (case hd => rfl); (case hg => rfl); (case hr => first | (go_simp; done) | (go_simp; rfl)); (case hp => exact (Reps.c2 (show Kd.M k39 _ _ _ (⟨7, 0⟩ : S39) [.int .i64 7, .int .i64 0] from (k39_mkM _ _ _ (⟨7, 0⟩ : S39) )) (Reps.none _ _))); intro v227 w43 ho44 hb hg_ hnew_; clear hg_ hnew_; (first | rw [← Ny226.out] at ho44 | (simp only [Int.reduceToNat] at ho44; rw [← Ny226.out] at ho44)); have HO228 := AM (Kd.R_lower ho44 (keep_size (w := w) (g := g) (row := none) (ZJ))); replace BK225 := ZW BK225 hb; replace HK := ZKT HK (KeepBut.of_below hb g none); replace HB := ZTI HB hb; replace HI0 := AM (IsS64.below (ZI) hb); clear hb ho44; obtain ⟨Ao45, co45, eo45⟩ := Kd.R_slice HO228.out; subst eo45; have hnb46 := NB225_0.out; have hnc46 := NB0_225.out; have hcz47 := ZC2 w43 BK225; have hfz47 := ZF2 BK225))
  refine bodyPost_ret (results_cell_row rfl _ _ gb225 26 #[.slice Ao45 y226.length co45, .slice none 0 0] (0, 0) _ rfl (ZZ BK225.out) Try.underlying26 rfl (by kernel_rfl)) rfl ?_
  exact ⟨_, _, ZE, by (with_reducible repeat (first | apply Kd.R_alloc | apply Kd.R_drewN | apply Kd.R_drew)); exact Kd.R_mono (Kd.R_far (p := ⟨gb225, 1, none⟩) (Kd.R_far (p := ⟨gb225, 0, none⟩) (Kd.R_types HO228.out BK225.out (by decide)) (fun _ hk => hk.2) (.slice Ao45 y226.length co45)) (fun _ hk => hk.2) (.slice none 0 0)) (fun _ hk => trivial), by first | exact Kd.R_nil _ _ _ _ _ | exact Kd.N_nil _ _ _ _ _ | exact Kd.V_nil _ _ _ _ _ | exact Kd.Q_nil _ _ _ _ _ | exact Kd.S_nil _ _ _ _ _, ZI, ZBI, ZJ⟩))

/-! ### spec_l1Has: function 50 -/
def spec_l1Has.f (a0 : Int) (a1 : Int) : Option (Bool) := if a1 ≥ 0 then (if a1 < 3 then (if 0 ≤ a1 then (some ((Int.tmod (shr .i64 a0 a1) 2) == 1)) else (none)) else (some false)) else (some false)
theorem spec_l1Has.calls (a0 : Int) (a1 : Int) (r : Bool) (w : World) (h : spec_l1Has.f a0 a1 = some r) :
  Calls Try.prog 50 #[.int .i64 a0, .int .i64 a1] w fun e w' => e = .returned (.bool r) ∧ Drawn0 w w' := by
 have H := h
 unfold spec_l1Has.f at H
 clear h
 by_cases c3 : a1 ≥ 0
 ·(
 rw [if_pos c3] at H
 have c3b0 := decide_eq_true c3
 clear c3
 by_cases c4 : a1 < 3
 ·(
 rw [if_pos c4] at H
 have c4b0 := decide_eq_true c4
 clear c4
 by_cases c5 : 0 ≤ a1
 ·(
 rw [if_pos c5] at H
 have c5b0 := eq_true c5
 have c5b1 := decide_eq_true c5
 clear c5
 obtain ⟨ji6, hji6⟩ : ∃ j_ : Int, (shr .i64 a0 a1) = j_ := ⟨_, rfl⟩
 replace H : (some ((Int.tmod (ji6) 2) == 1)) = some r := by first | (rw [hji6] at H; exact H) | (simp only [hji6] at H ⊢; exact H)
 have hji6_ : (a0 / 2 ^ min a1.toNat 64) = ji6 := hji6
 have hji6z : a1 ≤ 64 → (a0 / 2 ^ a1.toNat) = ji6 := shr_small hji6
 obtain rfl := Option.some.inj H
 go_enter Try.func50, Try.ntmps50
 go_wp2
 go_ret
 exact ⟨by first | rfl | (simp; done) | (simp only [← hji6] <;> (first | rfl | simp)) | (simp [*]; done), by repeat (first | exact Drawn0.refl _ | apply Drawn0.step)⟩)
 ·(
 rw [if_neg c5] at H
 exact absurd H (by simp)))
 ·(
 rw [if_neg c4] at H
 have c4b0 := decide_eq_false c4
 clear c4
 obtain rfl := Option.some.inj H
 go_enter Try.func50, Try.ntmps50
 go_wp2
 go_ret
 exact ⟨by first | rfl | (simp; done) | (simp [*]; done), by repeat (first | exact Drawn0.refl _ | apply Drawn0.step)⟩))
 ·(
 rw [if_neg c3] at H
 have c3b0 := decide_eq_false c3
 clear c3
 obtain rfl := Option.some.inj H
 go_enter Try.func50, Try.ntmps50
 go_wp2
 go_ret
 exact ⟨by first | rfl | (simp; done) | (simp [*]; done), by repeat (first | exact Drawn0.refl _ | apply Drawn0.step)⟩)

/-! ### spec_l1Both: function 65 -/
def spec_l1Both.l0 : Nat → Int → Int → Int → Int → Option (Int)
 | 0, _, _, _, _ => none
 | k + 1, x0, x1, x5, x6 => if x6 < 3 then ((spec_l1Has.f x0 x6).bind fun t246 => (if t246 = true then ((spec_l1Has.f x1 x6).bind fun t247 => (if t247 = true then (if 0 ≤ x6 then (spec_l1Both.l0 k x0 x1 (wrap64 (x5 + (shl .i64 1 x6))) (wrap64 (x6 + 1))) else (none)) else (spec_l1Both.l0 k x0 x1 x5 (wrap64 (x6 + 1))))) else (spec_l1Both.l0 k x0 x1 x5 (wrap64 (x6 + 1))))) else (some x5)
def spec_l1Both.f (k : Nat) (a0 : Int) (a1 : Int) : Option (Int) := spec_l1Both.l0 k a0 a1 0 0
theorem spec_l1Both.mono_l : ∀ k, (∀ y0 y1 y2 y3, LeO (spec_l1Both.l0 k y0 y1 y2 y3) (spec_l1Both.l0 (k + 1) y0 y1 y2 y3))
 | 0 => fun _ _ _ _ r h => by simp [spec_l1Both.l0] at h
 | k + 1 => by
  have ih0 := spec_l1Both.mono_l k
  ·intro y0 y1 y2 y3
   unfold spec_l1Both.l0
   repeat' first
   | (with_reducible exact ih0 _ _ _ _)
   | (with_reducible exact LeO.refl _)
   | (with_reducible exact LeO.none _)
   | (with_reducible refine LeO.ite ?_ ?_)
   | (with_reducible refine LeO.bind ?_ (fun _ => ?_))
   | exact ih0 _ _ _ _
   | exact LeO.none _
   | refine LeO.ite ?_ ?_
   | refine LeO.bind ?_ (fun _ => ?_)
theorem spec_l1Both.mono : ∀ a0 a1 k, LeO (spec_l1Both.f k a0 a1) (spec_l1Both.f (k + 1) a0 a1) := by
 intro a0 a1 k
 have ih0 := spec_l1Both.mono_l k
 unfold spec_l1Both.f
 repeat' first
   | (with_reducible exact ih0 _ _ _ _)
   | (with_reducible exact LeO.refl _)
   | (with_reducible exact LeO.none _)
   | (with_reducible refine LeO.ite ?_ ?_)
   | (with_reducible refine LeO.bind ?_ (fun _ => ?_))
   | exact ih0 _ _ _ _
   | exact LeO.none _
   | refine LeO.ite ?_ ?_
   | refine LeO.bind ?_ (fun _ => ?_)
theorem spec_l1Both.calls (k : Nat) (a0 : Int) (a1 : Int) (r : Int) (w : World) (h : spec_l1Both.f k a0 a1 = some r) :
  Calls Try.prog 65 #[.int .i64 a0, .int .i64 a1] w fun e w' => e = .returned (.int .i64 r) ∧ Drawn0 w w' := by
 have H := h
 unfold spec_l1Both.f at H
 clear h
 have H' := AM H
 clear H
 go_enter Try.func65, Try.ntmps65
 go_wp2
 go_loopg [5, 6] k (fun kq v5 v6 w' => ∃ (x5_1 : Int) (x6_1 : Int), v5 = .int .i64 x5_1 ∧ v6 = .int .i64 x6_1 ∧ Za (spec_l1Both.l0 kq a0 a1 x5_1 x6_1 = some r) ∧ Za (kq ≤ k) ∧ Drawn0 w w')
 case atStart => exact ⟨(0), (0), (by first | rfl | (simp; done) | (simp [*]; done)), (by first | rfl | (simp; done) | (simp [*]; done)), H', ⟨Nat.le_refl _⟩, by repeat (first | exact Drawn0.refl _ | apply Drawn0.step)⟩
 case round => (
 clear H'
 try clear p2
 obtain ⟨x5_1, x6_1, rfl, rfl, HA, HK1, ⟨m1, rfl⟩⟩ := hrel
 cases gk with
 | zero => exact absurd HA.out (by simp [spec_l1Both.l0])
 | succ k1 =>
  have H := HA.out
  clear HA
  simp only [spec_l1Both.l0] at H
  by_cases c3 : x6_1 < 3
  ·(
  rw [if_pos c3] at H
  have c3b0 := decide_eq_true c3
  clear c3
  obtain ⟨t246, A4, H⟩ := ZOB H; try dsimp only at H
  by_cases c5 : t246 = true
  ·(
  subst c5
  have H1 := H; rw [if_pos rfl] at H1
  clear H
  have H := H1
  clear H1
  obtain ⟨t247, A6, H⟩ := ZOB H; try dsimp only at H
  by_cases c7 : t247 = true
  ·(
  subst c7
  have H1 := H; rw [if_pos rfl] at H1
  clear H
  have H := H1
  clear H1
  by_cases c8 : 0 ≤ x6_1
  ·(
  rw [if_pos c8] at H
  have c8b0 := eq_true c8
  have c8b1 := decide_eq_true c8
  clear c8
  obtain ⟨ji9, hji9⟩ : ∃ j_ : Int, (shl .i64 1 x6_1) = j_ := ⟨_, rfl⟩
  replace H : (spec_l1Both.l0 k1 a0 a1 (wrap64 (x5_1 + (ji9))) (wrap64 (x6_1 + 1))) = some r := by first | (rw [hji9] at H; exact H) | (simp only [hji9] at H ⊢; exact H)
  (try rw [hji9] at A4)
  (try rw [hji9] at A6)
  have hji9_ : (IntKind.i64.wrap (1 * 2 ^ min x6_1.toNat 64)) = ji9 := hji9
  have hji9z : x6_1 ≤ 64 → (IntKind.i64.wrap (1 * 2 ^ x6_1.toNat)) = ji9 := shl_small hji9
  have hji9u : (IntKind.i64.wrap (2 ^ min x6_1.toNat 64)) = ji9 := by have h_ := hji9_; rw [Int.one_mul] at h_; exact h_
  have hji9v : x6_1 ≤ 64 → (IntKind.i64.wrap (2 ^ x6_1.toNat)) = ji9 := fun hle_ => by have h_ := hji9z hle_; rw [Int.one_mul] at h_; exact h_
  have hji9y : (wrap64 (1 * 2 ^ min x6_1.toNat 64)) = ji9 := (i64_w _).symm.trans hji9_
  have hji9x : x6_1 ≤ 64 → (wrap64 (1 * 2 ^ x6_1.toNat)) = ji9 := fun h_ => (i64_w _).symm.trans (hji9z h_)
  have H' := AM H
  clear H
  go_wp2_with (first | ((with_reducible refine gate_callee (f := 50) rfl ?_); refine ZGL (some 13) Try.func50 #[.int .i64 a0, .int .i64 x6_1] ?_; (with_reducible refine (spec_l1Has.calls a0 x6_1 true _ A4.out).mono ?_); rintro e w' ⟨rfl, ⟨nd, rfl⟩⟩; refine ⟨_, rfl, ?_⟩) | (go_at_call 50; (with_reducible refine (spec_l1Has.calls a1 x6_1 true _ A6.out).mono ?_); rintro e w' ⟨rfl, ⟨nd, rfl⟩⟩))
  go_roundg k1
  case measure => have := HK1.out; omega
  case rel => exact ⟨(wrap64 (x5_1 + (ji9))), (wrap64 (x6_1 + 1)), (by first | rfl | (simp; done) | (simp only [← hji9] <;> (first | rfl | simp)) | (simp [*]; done)), (by first | rfl | (simp; done) | (simp [*]; done)), H', ⟨by have := HK1.out; omega⟩, by repeat (first | exact Drawn0.refl _ | apply Drawn0.step)⟩)
  ·(
  rw [if_neg c8] at H
  exact absurd H (by simp)))
  ·(
  replace c7 := Bool.eq_false_iff.mpr c7
  subst c7
  have H1 := H; rw [if_neg ZFT] at H1
  clear H
  have H := H1
  clear H1
  have H' := AM H
  clear H
  go_wp2_with (first | ((with_reducible refine gate_callee (f := 50) rfl ?_); refine ZGL (some 13) Try.func50 #[.int .i64 a0, .int .i64 x6_1] ?_; (with_reducible refine (spec_l1Has.calls a0 x6_1 true _ A4.out).mono ?_); rintro e w' ⟨rfl, ⟨nd, rfl⟩⟩; refine ⟨_, rfl, ?_⟩) | (go_at_call 50; (with_reducible refine (spec_l1Has.calls a1 x6_1 false _ A6.out).mono ?_); rintro e w' ⟨rfl, ⟨nd, rfl⟩⟩))
  go_roundg k1
  case measure => have := HK1.out; omega
  case rel => exact ⟨(x5_1), (wrap64 (x6_1 + 1)), (by first | rfl | (simp; done) | (simp [*]; done)), (by first | rfl | (simp; done) | (simp [*]; done)), H', ⟨by have := HK1.out; omega⟩, by repeat (first | exact Drawn0.refl _ | apply Drawn0.step)⟩))
  ·(
  replace c5 := Bool.eq_false_iff.mpr c5
  subst c5
  have H1 := H; rw [if_neg ZFT] at H1
  clear H
  have H := H1
  clear H1
  have H' := AM H
  clear H
  go_wp2_with (first | ((with_reducible refine gate_callee (f := 50) rfl ?_); refine ZGL (some 13) Try.func50 #[.int .i64 a0, .int .i64 x6_1] ?_; (with_reducible refine (spec_l1Has.calls a0 x6_1 false _ A4.out).mono ?_); rintro e w' ⟨rfl, ⟨nd, rfl⟩⟩; refine ⟨_, rfl, ?_⟩))
  go_roundg k1
  case measure => have := HK1.out; omega
  case rel => exact ⟨(x5_1), (wrap64 (x6_1 + 1)), (by first | rfl | (simp; done) | (simp [*]; done)), (by first | rfl | (simp; done) | (simp [*]; done)), H', ⟨by have := HK1.out; omega⟩, by repeat (first | exact Drawn0.refl _ | apply Drawn0.step)⟩))
  ·(
  rw [if_neg c3] at H
  have c3b0 := decide_eq_false c3
  clear c3
  obtain rfl := Option.some.inj H
  go_wp2
  go_ret
  exact ⟨by first | rfl | (simp; done) | (simp [*]; done), by repeat (first | exact Drawn0.refl _ | apply Drawn0.step)⟩))


/-! ### spec_LabelBoth: function 63 -/
def spec_LabelBoth.j0 : Nat → Bool → Int → Int → Int → Int → Option (Int × Int)
 | 0, _, _, _, _, _ => none
 | k + 1, x12, x249000, x249001, x250000, x250001 => if x12 = true then (some (0, 0)) else ((spec_l1Both.f k x249000 x250000).bind fun t253 => ((spec_l1Both.f k x249001 x250001).bind fun t254 => (some (t253, t254))))
def spec_LabelBoth.f (k : Nat) (a0_0 : Int) (a0_1 : Int) (a1_0 : Int) (a1_1 : Int) : Option (Int × Int) := (spec_LabelOk.f a0_0 a0_1).bind fun t251 => (if t251 = true then ((spec_LabelOk.f a1_0 a1_1).bind fun t252 => (spec_LabelBoth.j0 k (!t252) a0_0 a0_1 a1_0 a1_1)) else (spec_LabelBoth.j0 k true a0_0 a0_1 a1_0 a1_1))
def spec_LabelBoth.T3 : Bool × List (List Nat × List Nat) := (true, [([], []), ([0], [0]), ([], []), ([2], [2]), ([1, 3], [1, 3]), ([], []), ([5], [5]), ([], []), ([7], [7]), ([6, 8, 4], [6, 8]), ([4, 9], [4, 9]), ([10, 9, 0, 1, 2, 3, 4, 5, 6, 7, 8, 9, 10], [10])])
def spec_LabelBoth.B3 : List Nat := [0, 1, 0, 4, 15, 0, 32, 0, 128, 511, 1023, 2047]
theorem spec_LabelBoth.tab3 : rtab .any (opsOf Try.f63 3) = spec_LabelBoth.T3 := by kernel_rfl
theorem spec_LabelBoth.bits3 : waitsOk spec_LabelBoth.T3.2 spec_LabelBoth.B3 = true := by kernel_rfl
theorem spec_LabelBoth.calls (k : Nat) (a0_0 : Int) (a0_1 : Int) (a1_0 : Int) (a1_1 : Int) (r1 : Int) (r2 : Int) (w : World) (h : spec_LabelBoth.f k a0_0 a0_1 a1_0 a1_1 = some (r1, r2)) :
  Calls Try.prog 63 #[.agg #[.int .i64 a0_0, .int .i64 a0_1], .agg #[.int .i64 a1_0, .int .i64 a1_1]] w fun e w' => e = .returned (.agg #[.int .i64 r1, .int .i64 r2]) ∧ Below w.heap.size w w' := by
 have hu39 := Try.underlying39
 have HB := AM (Below.refl w.heap.size w)
 have H := h
 unfold spec_LabelBoth.f at H
 clear h
 have HC3 := AM H
 clear H
 go_enter Try.func63, Try.ntmps63
 go_upto_region 1 with (first | ((with_reducible refine gate_dst (N := 2) rfl ?_); refine ZX (N := 2) (cs := #[.int .i64 a0_0, .int .i64 a0_1]) (t := 39) ?_; intro gb248 hg w4 hbox hb; have BK248 := AM (hbox); have GW248 : Za (w.heap.size ≤ gb248) := ZS hg; replace HB := ZT HB hb; clear hb hbox hg) | ((with_reducible refine gate_dst (N := 3) rfl ?_); refine ZX (N := 3) (cs := #[.int .i64 a1_0, .int .i64 a1_1]) (t := 39) ?_; intro gb249 hg w5 hbox hb; have BK249 := AM (hbox); have GW249 : Za (w.heap.size ≤ gb249) := ZS hg; have NB248_249 : Za (gb248 ≠ gb249) := ZN hg BK248; have NB249_248 : Za (gb249 ≠ gb248) := ZM hg BK248; replace BK248 := ZW BK248 hb; replace HB := ZT HB hb; clear hb hbox hg) | ((with_reducible refine gate_dst (N := 4) rfl ?_); refine ZX (N := 4) (cs := #[.int .i64 0, .int .i64 0]) (t := 39) ?_; intro gb250 hg w6 hbox hb; have BK250 := AM (hbox); have GW250 : Za (w.heap.size ≤ gb250) := ZS hg; have NB248_250 : Za (gb248 ≠ gb250) := ZN hg BK248; have NB250_248 : Za (gb250 ≠ gb248) := ZM hg BK248; have NB249_250 : Za (gb249 ≠ gb250) := ZN hg BK249; have NB250_249 : Za (gb250 ≠ gb249) := ZM hg BK249; replace BK248 := ZW BK248 hb; replace BK249 := ZW BK249 hb; replace HB := ZT HB hb; clear hb hbox hg))
 (try simp only [Act.put, List.setIfInBounds_toArray, List.set_cons_zero, List.set_cons_succ])
 go_cut [12] (fun v12 wc => ∃ (kq : Nat) (x12_2 : Bool), v12 = .bool x12_2 ∧ Za (spec_LabelBoth.j0 kq x12_2 a0_0 a0_1 a1_0 a1_1 = some (r1, r2)) ∧ Za (kq ≤ k) ∧ Za (wc.heap[gb248]? = some (.cells #[.int .i64 a0_0, .int .i64 a0_1] 39 (0, 0))) ∧ Za (wc.heap[gb249]? = some (.cells #[.int .i64 a1_0, .int .i64 a1_1] 39 (0, 0))) ∧ Za (wc.heap[gb250]? = some (.cells #[.int .i64 0, .int .i64 0] 39 (0, 0))) ∧ Za (Below w.heap.size w wc))
 case first => (
 have H := HC3.out
 clear HC3
 obtain ⟨t251, A7, H⟩ := ZOB H; try dsimp only at H
 by_cases c8 : t251 = true
 ·(
 subst c8
 have H1 := H; rw [if_pos rfl] at H1
 clear H
 have H := H1
 clear H1
 obtain ⟨t252, A9, H⟩ := ZOB H; try dsimp only at H
 have H' := AM H
 clear H
 have hnb10 := NB248_249.out
 have hnc10 := NB249_248.out
 have hnb11 := NB248_250.out
 have hnc11 := NB250_248.out
 have hcz12 := ZC2 w6 BK248
 have hfz12 := ZF2 BK248
 go_wp2_with (first | ((with_reducible refine gate_callee (f := 44) rfl ?_); refine ZGL (some 6) Try.func44 #[.agg #[.int .i64 a0_0, .int .i64 a0_1]] ?_; (with_reducible refine (spec_LabelOk.calls a0_0 a0_1 true _ A7.out).mono ?_); rintro e w13 ⟨rfl, hb⟩; refine ⟨_, rfl, ?_⟩; replace BK248 := ZW BK248 hb; replace BK249 := ZW BK249 hb; replace BK250 := ZW BK250 hb; replace HB := ZT HB hb; clear hb; have hnb14 := NB249_250.out; have hnc14 := NB250_249.out; have hcz15 := ZC2 w13 BK249; have hfz15 := ZF2 BK249) | (go_at_call 44; (with_reducible refine (spec_LabelOk.calls a1_0 a1_1 t252 _ A9.out).mono ?_); rintro e w16 ⟨rfl, hb⟩; replace BK248 := ZW BK248 hb; replace BK249 := ZW BK249 hb; replace BK250 := ZW BK250 hb; replace HB := ZT HB hb; clear hb))
 go_meet
 case rel => exact ⟨_, (!t252), (by first | rfl | (simp; done) | (simp [*]; done)), H', ⟨by first | omega | exact Nat.le_refl _⟩, ⟨ZK BK248.out⟩, ⟨ZK BK249.out⟩, ⟨ZK BK250.out⟩, ⟨ZB⟩⟩)
 ·(
 replace c8 := Bool.eq_false_iff.mpr c8
 subst c8
 have H1 := H; rw [if_neg ZFT] at H1
 clear H
 have H := H1
 clear H1
 have H' := AM H
 clear H
 have hnb17 := NB248_249.out
 have hnc17 := NB249_248.out
 have hnb18 := NB248_250.out
 have hnc18 := NB250_248.out
 have hcz19 := ZC2 w6 BK248
 have hfz19 := ZF2 BK248
 go_wp2_with (first | ((with_reducible refine gate_callee (f := 44) rfl ?_); refine ZGL (some 6) Try.func44 #[.agg #[.int .i64 a0_0, .int .i64 a0_1]] ?_; (with_reducible refine (spec_LabelOk.calls a0_0 a0_1 false _ A7.out).mono ?_); rintro e w20 ⟨rfl, hb⟩; refine ⟨_, rfl, ?_⟩; replace BK248 := ZW BK248 hb; replace BK249 := ZW BK249 hb; replace BK250 := ZW BK250 hb; replace HB := ZT HB hb; clear hb))
 go_meet
 case rel => exact ⟨_, (true), (by first | rfl | (simp; done) | (simp [*]; done)), H', ⟨by first | omega | exact Nat.le_refl _⟩, ⟨ZK BK248.out⟩, ⟨ZK BK249.out⟩, ⟨ZK BK250.out⟩, ⟨ZB⟩⟩))
 case rest => (
 clear HC3
 try clear c1
 try clear p2
 try clear c4
 try clear c6
 try clear c8
 try clear c10
 try clear c11
 try clear c14
 try clear c17
 try clear c18
 try clear hcz12
 try clear hcz15
 try clear hcz19
 try clear hfz12
 try clear hfz15
 try clear hfz19
 obtain ⟨kq, x12_2, rfl, HA, HJ2, BK248, BK249, BK250, HB⟩ := hcut
 cases kq with
 | zero => exact absurd HA.out (by simp [spec_LabelBoth.j0])
 | succ kj2 =>
  have H := HA.out
  clear HA
  simp only [spec_LabelBoth.j0] at H
  by_cases c21 : x12_2 = true
  ·(
  subst c21
  have H1 := H; rw [if_pos rfl] at H1
  clear H
  have H := H1
  clear H1
  simp only [Option.some.injEq, Prod.mk.injEq] at H
  obtain ⟨rfl, rfl⟩ := H
  have hnb22 := NB250_248.out
  have hnc22 := NB248_250.out
  have hnb23 := NB250_249.out
  have hnc23 := NB249_250.out
  have hcz24 := ZC2 wc BK250
  have hfz24 := ZF2 BK250
  go_wp2
  refine bodyPost_ret (results_cell_row rfl _ _ gb250 39 #[.int .i64 0, .int .i64 0] (0, 0) _ rfl (ZZ BK250.out) Try.underlying39 rfl (by kernel_rfl)) rfl ?_
  exact ⟨ZE, ZB⟩)
  ·(
  replace c21 := Bool.eq_false_iff.mpr c21
  subst c21
  have H1 := H; rw [if_neg ZFT] at H1
  clear H
  have H := H1
  clear H1
  obtain ⟨t253, A25, H⟩ := ZOB H; try dsimp only at H
  obtain ⟨t254, A26, H⟩ := ZOB H; try dsimp only at H
  simp only [Option.some.injEq, Prod.mk.injEq] at H
  obtain ⟨rfl, rfl⟩ := H
  try go_wp2
  replace BK248 := AM (blk_drew BK248.out)
  replace BK249 := AM (blk_drew BK249.out)
  replace BK250 := AM (blk_drew BK250.out)
  replace HB := AM (below_drew1 HB.out)
  refine start_ (n := 12) (S := fun w' => w'.cell? ⟨gb248, 0, none⟩ = some (.int .i64 a0_0) ∧ w'.cell? ⟨gb248, 1, none⟩ = some (.int .i64 a0_1) ∧ w'.cell? ⟨gb249, 0, none⟩ = some (.int .i64 a1_0) ∧ w'.cell? ⟨gb249, 1, none⟩ = some (.int .i64 a1_1)) (ds := []) #[F,F,F,F,F,F,F,F,F,F,F,F] (by kernel_rfl) rfl rfl ⟨ZA BK248 0, ZA BK248 1, ZA BK249 0, ZA BK249 1⟩ (fun hHeld => ?_); refine with_tabW spec_LabelBoth.tab3 spec_LabelBoth.bits3 (fun HT_ HW_ => ?_)
  generalize wc.drew = w27 at BK248 BK249 BK250 HB hHeld ⊢
  refine ZU 0 14 #[T,F,F,F,F,F,F,F,F,F,F,F] ?_
  refine ZU 2 16 #[T,F,T,F,F,F,F,F,F,F,F,F] ?_
  refine ZU 5 19 #[T,F,T,F,F,T,F,F,F,F,F,F] ?_
  refine ZU 7 21 #[T,F,T,F,F,T,F,T,F,F,F,F] ?_
  refine ZTK 1 15 #[T,T,T,F,F,T,F,T,F,F,F,F] hHeld ?_
  refine ZTK 3 17 #[T,T,T,T,F,T,F,T,F,F,F,F] hHeld ?_
  refine ZTK 6 20 #[T,T,T,T,F,T,T,T,F,F,F,F] hHeld ?_
  refine ZTK 8 22 #[T,T,T,T,F,T,T,T,T,F,F,F] hHeld ?_
  refine one_ (i := 4) (N := some 18) #[T,T,T,T,T,T,T,T,T,F,F,F] rfl rfl (one_of HT_.out (by kernel_rfl)) (by decide) (fun K hK => ?_)
  refine ZGO Try.func65 #[.int .i64 a0_0, .int .i64 a1_0] ?_
  with_reducible refine (spec_l1Both.calls kj2 a0_0 a1_0 t253 _ A25.out).mono ?_
  rintro e w' ⟨rfl, ⟨nd, rfl⟩⟩
  refine ⟨_, rfl, ?_⟩
  refine hK.out _ _ ⟨ZA BK248 0, ZA BK248 1, ZA BK249 0, ZA BK249 1⟩ (fun hHeld => ?_)
  clear hK K
  refine ZNO 18 ?_
  refine one_ (i := 9) (N := some 23) #[T,T,T,T,T,T,T,T,T,T,F,F] rfl rfl (one_of HT_.out (by kernel_rfl)) (by decide) (fun K hK => ?_)
  refine ZGO Try.func65 #[.int .i64 a0_1, .int .i64 a1_1] ?_
  with_reducible refine (spec_l1Both.calls kj2 a0_1 a1_1 t254 _ A26.out).mono ?_
  rintro e w' ⟨rfl, ⟨nd, rfl⟩⟩
  refine ⟨_, rfl, ?_⟩
  refine hK.out _ _ ⟨ZA BK248 0, ZA BK248 1, ZA BK249 0, ZA BK249 1⟩ (fun hHeld => ?_)
  clear hK K
  refine ZNO 23 ?_
  refine ZU 10 24 #[T,T,T,T,T,T,T,T,T,T,T,F] ?_
  refine one_ (i := 11) (N := none) #[T,T,T,T,T,T,T,T,T,T,T,T] rfl rfl (one_of HT_.out (by kernel_rfl)) (by decide) (fun K hK => ?_)
  have hs28 : w27.cell? ⟨gb250, 0, none⟩ = some (.int .i64 0) := ZA BK250 0
  have hfs28 := blk_frozen BK250.out 0
  have hns28_0 := NB248_250.out
  have hns28_1 := NB249_250.out
  have hms28_0 := NB250_248.out
  have hms28_1 := NB250_249.out
  have hs29 : w27.cell? ⟨gb250, 1, none⟩ = some (.int .i64 0) := ZA BK250 1
  have hfs29 := blk_frozen BK250.out 1
  have hns29_0 := NB248_250.out
  have hns29_1 := NB249_250.out
  have hms29_0 := NB250_248.out
  have hms29_1 := NB250_249.out
  refine skip_ (w1 := ?_) (by rfl) rfl ?_ ?_
  rotate_left
  ·(
  go_simp
  rfl)
  refine hK.out _ _ ⟨((cell_far (p := ⟨gb250, _, none⟩) NB248_250.out _).trans (((cell_far (p := ⟨gb250, _, none⟩) NB248_250.out _).trans (hHeld.1)))), ((cell_far (p := ⟨gb250, _, none⟩) NB248_250.out _).trans (((cell_far (p := ⟨gb250, _, none⟩) NB248_250.out _).trans (hHeld.2.1)))), ((cell_far (p := ⟨gb250, _, none⟩) NB249_250.out _).trans (((cell_far (p := ⟨gb250, _, none⟩) NB249_250.out _).trans (hHeld.2.2.1)))), ((cell_far (p := ⟨gb250, _, none⟩) NB249_250.out _).trans (((cell_far (p := ⟨gb250, _, none⟩) NB249_250.out _).trans (hHeld.2.2.2))))⟩ (fun hHeld => ?_)
  clear hK K
  refine done_ (done_of HT_.out (by kernel_rfl)) ?_
  try go_wp2
  refine bodyPost_ret (results_cell_row rfl _ _ gb250 39 #[.int .i64 t253, .int .i64 t254] (0, 0) _ rfl (ZZ BK250.out) Try.underlying39 rfl (by kernel_rfl)) rfl ?_
  exact ⟨ZE, ZB⟩))

end Go.Proofs.Ythidgkfgdkjghaa.A
