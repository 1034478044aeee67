/- Go functions as Lean functions, and for each its contract; written by wip/tools/pr.py over the kit's print. -/
import Derived.Test.YtkkdeojbkfjlpaaAx0
import Derived.Test.YtkkdeojbkfjlpaaAx9
import Derived.Test.YtkkdeojbkfjlpaaAx14
namespace Go.Proofs.Ytkkdeojbkfjlpaa.A
open Go.RowKit Go.Proofs.YtkkdeojbkfjlpaaW.PrintWords Go.Proofs.YtkkdeojbkfjlpaaW.PrintLast Go.Proofs.YtkkdeojbkfjlpaaW.PrintMore
attribute [local go_sem] max2_int min2_int max_two min_two max_three min_three max_four min_four
set_option linter.unusedVariables false
set_option linter.unusedSimpArgs false
set_option maxHeartbeats 8000000
set_option maxRecDepth 100000

/-! ### spec_l71Steps: function 63 -/
mutual
def spec_l71Steps.l0 : Nat → Int → Int → List (S40) → Int → List Int → Int → Option ((List (S40)) × Int)
 | 0, _, _, _, _, _, _ => none
 | k + 1, x2, x3, x9, x10, x1000, x1001 => if x10 > 0 then ((spec_l6Rd_pick.f k x1000 x1001 x3).bind fun bt278 => ((spec_l6Rd_pick.f k x1000 bt278.2 5).bind fun bt281 => (if bt281.1 = 0 then ((spec_l6Rd_pick.f k x1000 bt281.2 3).bind fun bt283 => (if 3 = 1 then ((spec_l71Val.f k x1000 bt283.2 x3).bind fun bt285 => (if x9.length < 1466015503701 then (spec_l71Steps.l0 k x2 x3 (x9 ++ [(⟨3, bt278.1, (⟨bt285.1, bt285.2.1, bt285.2.2.1⟩ : S38), bt283.1, ([] : List (S40)), ([] : List (S40))⟩ : S40)]) (wrap64 (x10 - 1)) x1000 bt285.2.2.2) else (none))) else (if x9.length < 1466015503701 then (spec_l71Steps.l0 k x2 x3 (x9 ++ [(⟨3, bt278.1, (⟨0, 0, 0⟩ : S38), bt283.1, ([] : List (S40)), ([] : List (S40))⟩ : S40)]) (wrap64 (x10 - 1)) x1000 bt283.2) else (none)))) else (if bt281.1 = 1 then (spec_l71Steps.j1 k x2 x3 x9 x10 (bt281.1 == 1) x1000 bt281.2 1 bt278.1 0 0 0 0) else (spec_l71Steps.j1 k x2 x3 x9 x10 (bt281.1 == 2) x1000 bt281.2 1 bt278.1 0 0 0 0))))) else (some (x9, x1001))
def spec_l71Steps.j1 : Nat → Int → Int → List (S40) → Int → Bool → List Int → Int → Int → Int → Int → Int → Int → Int → Option ((List (S40)) × Int)
 | 0, _, _, _, _, _, _, _, _, _, _, _, _, _ => none
 | k + 1, x2, x3, x9, x10, x33, x1000, x1001, x281000, x281001, x281002, x281003, x281004, x281005 => if x33 = true then (if x2 > 1 then ((spec_l71Steps.f k x1000 x1001 2 (wrap64 (x2 - 1)) x3).bind fun bt295 => ((spec_l71Steps.f k x1000 bt295.2 2 (wrap64 (x2 - 1)) x3).bind fun bt299 => (if 2 = 1 then ((spec_l71Val.f k x1000 bt299.2 x3).bind fun bt303 => (if x9.length < 1466015503701 then (spec_l71Steps.l0 k x2 x3 (x9 ++ [(⟨2, x281001, (⟨bt303.1, bt303.2.1, bt303.2.2.1⟩ : S38), x281005, bt295.1, bt299.1⟩ : S40)]) (wrap64 (x10 - 1)) x1000 bt303.2.2.2) else (none))) else (if x9.length < 1466015503701 then (spec_l71Steps.l0 k x2 x3 (x9 ++ [(⟨2, x281001, (⟨x281002, x281003, x281004⟩ : S38), x281005, bt295.1, bt299.1⟩ : S40)]) (wrap64 (x10 - 1)) x1000 bt299.2) else (none))))) else (if x281000 = 1 then ((spec_l71Val.f k x1000 x1001 x3).bind fun bt313 => (if x9.length < 1466015503701 then (spec_l71Steps.l0 k x2 x3 (x9 ++ [(⟨x281000, x281001, (⟨bt313.1, bt313.2.1, bt313.2.2.1⟩ : S38), x281005, ([] : List (S40)), ([] : List (S40))⟩ : S40)]) (wrap64 (x10 - 1)) x1000 bt313.2.2.2) else (none))) else (if x9.length < 1466015503701 then (spec_l71Steps.l0 k x2 x3 (x9 ++ [(⟨x281000, x281001, (⟨x281002, x281003, x281004⟩ : S38), x281005, ([] : List (S40)), ([] : List (S40))⟩ : S40)]) (wrap64 (x10 - 1)) x1000 x1001) else (none)))) else (if x281000 = 1 then ((spec_l71Val.f k x1000 x1001 x3).bind fun bt323 => (if x9.length < 1466015503701 then (spec_l71Steps.l0 k x2 x3 (x9 ++ [(⟨x281000, x281001, (⟨bt323.1, bt323.2.1, bt323.2.2.1⟩ : S38), x281005, ([] : List (S40)), ([] : List (S40))⟩ : S40)]) (wrap64 (x10 - 1)) x1000 bt323.2.2.2) else (none))) else (if x9.length < 1466015503701 then (spec_l71Steps.l0 k x2 x3 (x9 ++ [(⟨x281000, x281001, (⟨x281002, x281003, x281004⟩ : S38), x281005, ([] : List (S40)), ([] : List (S40))⟩ : S40)]) (wrap64 (x10 - 1)) x1000 x1001) else (none)))
def spec_l71Steps.f : Nat → List Int → Int → Int → Int → Int → Option ((List (S40)) × Int)
 | 0, _, _, _, _, _ => none
 | k + 1, s0_0, s0_1, a1, a2, a3 => (spec_l6Rd_pick.f k s0_0 s0_1 (wrap64 (a1 + 1))).bind fun bt276 => (spec_l71Steps.l0 k a2 a3 (([] : List (S40))) bt276.1 s0_0 bt276.2)
end
theorem spec_l71Steps.grown_ {w0 W0 W W1 : World} {g : Nat} {f0 : List Int} {f1 : Int} {row : Option Nat} (B : Za (IsS64 w0 W0 g f0 f1)) (hg : W.grownBy W1 row) (hne : some g ≠ row) (t : IsS64 w0 W0 g f0 f1 → IsS64 w0 W g f0 f1 := by intro h_; repeat (first | (with_reducible first | exact h_ | apply IsS64.alloc | apply IsS64.drewN | apply IsS64.drew | apply IsS64.set_1 | refine IsS64.far ?_ (Za.out (by first | with_reducible assumption | (dsimp only; with_reducible assumption))) _) | exact h_)) : IsS64 w0 W1 g f0 f1 := IsS64.grown (t B.out) hg hne
theorem spec_l71Steps.calls (k : Nat) : ∀ (g : Nat) (s0_0 : List Int) (s0_1 : Int) (a1 : Int) (a2 : Int) (a3 : Int) (r1 : List (S40)) (r2 : Int) (w0 w : World) (hI : IsS64 w0 w g s0_0 s0_1) (hB : Below w0.heap.size w0 w) (h : spec_l71Steps.f k s0_0 s0_1 a1 a2 a3 = some (r1, r2)),
  Calls Try.prog 63 #[.pointer (some ⟨g, 0, none⟩), .int .i64 a1, .int .i64 a2, .int .i64 a3] w fun e w' => ∃ v0_ : Value, e = .returned (v0_) ∧ Kd.R k40 40 w' w.heap.size (fun _ => True) v0_ r1 ∧ IsS64 w0 w' g s0_0 r2 ∧ Below w0.heap.size w0 w' ∧ KeepBut w w' g none := by
 induction k using Nat.strongRecOn with
 | _ k ih =>
 intro g s0_0 s0_1 a1 a2 a3 r1 r2 w0 w hI hB h
 cases k with
 | zero => exact absurd h (by simp [spec_l71Steps.f])
 | succ k =>
 simp only [spec_l71Steps.f] at h
 have hu40 := Try.underlying40
 have hu38 := Try.underlying38
 have HI0 := AM hI
 have HK := AM (KeepBut.refl w g none)
 have HL := AM hB.size
 clear hI
 have HW0 := AM hB.size
 have HB := AM hB
 clear hB
 have H : ((spec_l6Rd_pick.f k s0_0 s0_1 (wrap64 (a1 + 1))).bind fun bt276 => (spec_l71Steps.l0 k a2 a3 (([] : List (S40))) bt276.1 s0_0 bt276.2)) = some (r1, r2) := h
 clear h
 obtain ⟨y273, hy273⟩ : ∃ y_ : List (S40), y_ = (([] : List (S40))) := ⟨_, rfl⟩
 replace H : ((spec_l6Rd_pick.f k s0_0 s0_1 (wrap64 (a1 + 1))).bind fun bt276 => (spec_l71Steps.l0 k a2 a3 y273 bt276.1 s0_0 bt276.2)) = some (r1, r2) := by rw [hy273]; exact H
 have Ny273 := AM hy273
 clear hy273
 obtain ⟨⟨t276, t277⟩, A5, H⟩ := ZOB H
 replace H : (spec_l71Steps.l0 k a2 a3 y273 t276 s0_0 t277) = some (r1, r2) := H
 have H' := AM H
 clear H
 go_enter Try.func63, Try.ntmps63
 go_wp2_with (first | ((with_reducible refine gate_dst (N := 12) rfl ?_); refine Kd.R_lit k40 _ 40 ?hg (N := 12) ?hd (xs := ([] : List (S40))) (inner := []) (ok := fun _ => True) (okp := fun _ => True) ?hr ?hp (fun _ hk => hk) trivial (Below.refl _ _) (Nat.le_refl _) (by simp) ?_; (case hd => rfl); (case hg => rfl); (case hr => first | (go_simp; done) | (go_simp; rfl)); (case hp => exact (Reps.none _ _)); intro v274 w6 ho7 hb hg_ hnew_; clear hg_ hnew_; (first | rw [← Ny273.out] at ho7 | (simp only [Int.reduceToNat] at ho7; rw [← Ny273.out] at ho7)); have HO275 := AM (Kd.R_lower ho7 (keep_size (w := w) (g := g) (row := none) (ZJ))); replace HK := ZKT HK (KeepBut.of_below hb g none); replace HB := ZTI HB hb; replace HI0 := AM (IsS64.below (ZI) hb); clear hb ho7) | ((with_reducible refine gate_callee (f := 38) rfl ?_); refine ZGL (some 16) Try.func38 #[.pointer (some ⟨g, 0, none⟩), .int .i64 (wrap64 (a1 + 1))] ?_; (with_reducible refine (spec_l6Rd_pick.calls k g s0_0 s0_1 (wrap64 (a1 + 1)) t276 t277 w0 _ ?side1 ?side2 A5.out).mono ?_); (case side1 => exact ZI); (case side2 => exact ZBI); rintro e w8 ⟨rfl, hi, hb, hk⟩; refine ZV1 ?_; replace HO275 := AM (Kd.R_mono (Kd.R_keep (IsS64.apart (show IsS64 w0 _ g s0_0 s0_1 from ZI) (ZR HO275.out) (by decide)) hk (fun _ h => h.2)) (fun _ h => h.1)); replace HK := ZKT HK hk; replace HB := AM (hb); replace HI0 := AM (hi); clear hb hk hi))
 go_loopg [9, 10] k (fun kq v9 v10 w' => ∃ (x9_1 : List (S40)) (x10_1 : Int) (x1001_1 : Int), v10 = .int .i64 x10_1 ∧ Za (spec_l71Steps.l0 kq a2 a3 x9_1 x10_1 s0_0 x1001_1 = some (r1, r2)) ∧ Za (kq ≤ k) ∧ Za (Kd.R k40 40 w' w.heap.size (fun _ => True) v9 x9_1) ∧ Za (IsS64 w0 w' g s0_0 x1001_1) ∧ Za (KeepBut w w' g none) ∧ Za (Below w0.heap.size w0 w'))
 case atStart => exact ⟨(y273), (t276), (t277), ZSM, H', ⟨Nat.le_refl _⟩, ⟨ZR HO275.out⟩, ⟨ZI⟩, ⟨ZJ⟩, ⟨ZBI⟩⟩
 case round => (
 clear H'
 try clear p2
 try clear c3
 try clear c6
 try clear p6
 obtain ⟨x9_1, x10_1, x1001_1, rfl, HA, HK1, HO_9, HI0, HK, HB⟩ := hrel
 cases gk with
 | zero => exact absurd HA.out (by simp [spec_l71Steps.l0])
 | succ k1 =>
  have H := HA.out
  clear HA
  simp only [spec_l71Steps.l0] at H
  by_cases c9 : x10_1 > 0
  ·(
  rw [if_pos c9] at H
  have c9b0 := decide_eq_true c9
  clear c9
  obtain ⟨⟨t278, t279⟩, A10, H⟩ := ZOB H
  replace H : ((spec_l6Rd_pick.f k1 s0_0 t279 5).bind fun bt281 => (if bt281.1 = 0 then ((spec_l6Rd_pick.f k1 s0_0 bt281.2 3).bind fun bt283 => (if 3 = 1 then ((spec_l71Val.f k1 s0_0 bt283.2 a3).bind fun bt285 => (if x9_1.length < 1466015503701 then (spec_l71Steps.l0 k1 a2 a3 (x9_1 ++ [(⟨3, t278, (⟨bt285.1, bt285.2.1, bt285.2.2.1⟩ : S38), bt283.1, ([] : List (S40)), ([] : List (S40))⟩ : S40)]) (wrap64 (x10_1 - 1)) s0_0 bt285.2.2.2) else (none))) else (if x9_1.length < 1466015503701 then (spec_l71Steps.l0 k1 a2 a3 (x9_1 ++ [(⟨3, t278, (⟨0, 0, 0⟩ : S38), bt283.1, ([] : List (S40)), ([] : List (S40))⟩ : S40)]) (wrap64 (x10_1 - 1)) s0_0 bt283.2) else (none)))) else (if bt281.1 = 1 then (spec_l71Steps.j1 k1 a2 a3 x9_1 x10_1 (bt281.1 == 1) s0_0 bt281.2 1 t278 0 0 0 0) else (spec_l71Steps.j1 k1 a2 a3 x9_1 x10_1 (bt281.1 == 2) s0_0 bt281.2 1 t278 0 0 0 0)))) = some (r1, r2) := H
  obtain ⟨⟨t281, t282⟩, A11, H⟩ := ZOB H
  replace H : (if t281 = 0 then ((spec_l6Rd_pick.f k1 s0_0 t282 3).bind fun bt283 => (if 3 = 1 then ((spec_l71Val.f k1 s0_0 bt283.2 a3).bind fun bt285 => (if x9_1.length < 1466015503701 then (spec_l71Steps.l0 k1 a2 a3 (x9_1 ++ [(⟨3, t278, (⟨bt285.1, bt285.2.1, bt285.2.2.1⟩ : S38), bt283.1, ([] : List (S40)), ([] : List (S40))⟩ : S40)]) (wrap64 (x10_1 - 1)) s0_0 bt285.2.2.2) else (none))) else (if x9_1.length < 1466015503701 then (spec_l71Steps.l0 k1 a2 a3 (x9_1 ++ [(⟨3, t278, (⟨0, 0, 0⟩ : S38), bt283.1, ([] : List (S40)), ([] : List (S40))⟩ : S40)]) (wrap64 (x10_1 - 1)) s0_0 bt283.2) else (none)))) else (if t281 = 1 then (spec_l71Steps.j1 k1 a2 a3 x9_1 x10_1 (t281 == 1) s0_0 t282 1 t278 0 0 0 0) else (spec_l71Steps.j1 k1 a2 a3 x9_1 x10_1 (t281 == 2) s0_0 t282 1 t278 0 0 0 0))) = some (r1, r2) := H
  by_cases c12 : t281 = 0
  ·(
  rw [if_pos c12] at H
  have c12b0 := beq_iff_eq.mpr c12
  have c12b1 := bne_eq_false_iff_eq.mpr c12
  clear c12
  obtain ⟨⟨t283, t284⟩, A13, H⟩ := ZOB H
  replace H : (if 3 = 1 then ((spec_l71Val.f k1 s0_0 t284 a3).bind fun bt285 => (if x9_1.length < 1466015503701 then (spec_l71Steps.l0 k1 a2 a3 (x9_1 ++ [(⟨3, t278, (⟨bt285.1, bt285.2.1, bt285.2.2.1⟩ : S38), t283, ([] : List (S40)), ([] : List (S40))⟩ : S40)]) (wrap64 (x10_1 - 1)) s0_0 bt285.2.2.2) else (none))) else (if x9_1.length < 1466015503701 then (spec_l71Steps.l0 k1 a2 a3 (x9_1 ++ [(⟨3, t278, (⟨0, 0, 0⟩ : S38), t283, ([] : List (S40)), ([] : List (S40))⟩ : S40)]) (wrap64 (x10_1 - 1)) s0_0 t284) else (none))) = some (r1, r2) := H
  by_cases c14 : 3 = 1
  ·exact absurd c14 (by decide)
  ·(
  rw [if_neg c14] at H
  have c14b0 := beq_eq_false_iff_ne.mpr c14
  have c14b1 := bne_iff_ne.mpr c14
  by_cases c28 : x9_1.length < 1466015503701
  ·(
  rw [if_pos c28] at H
  have LMc28 := AM c28
  clear c28
  obtain ⟨y292, hy292⟩ : ∃ y_ : List (S40), y_ = (x9_1 ++ [(⟨3, t278, (⟨0, 0, 0⟩ : S38), t283, ([] : List (S40)), ([] : List (S40))⟩ : S40)]) := ⟨_, rfl⟩
  replace H : (spec_l71Steps.l0 k1 a2 a3 y292 (wrap64 (x10_1 - 1)) s0_0 t284) = some (r1, r2) := by rw [hy292]; exact H
  have Ny292 := AM hy292
  clear hy292
  have H' := AM H
  clear H
  go_wp2_with (first | ((with_reducible refine gate_callee (f := 38) rfl ?_); refine ZGL (some 23) Try.func38 #[.pointer (some ⟨g, 0, none⟩), .int .i64 a3] ?_; (with_reducible refine (spec_l6Rd_pick.calls k1 g s0_0 x1001_1 a3 t278 t279 w0 _ ?side1 ?side2 A10.out).mono ?_); (case side1 => exact ZI); (case side2 => exact ZBI); rintro e w29 ⟨rfl, hi, hb, hk⟩; refine ZV1 ?_; replace HO_9 := AM (Kd.R_mono (Kd.R_keep (IsS64.apart (show IsS64 w0 _ g s0_0 x1001_1 from ZI) (ZR HO_9.out) (by decide)) hk (fun _ h => h.2)) (fun _ h => h.1)); replace HK := ZKT HK hk; replace HB := AM (hb); replace HI0 := AM (hi); clear hb hk hi) | ((with_reducible refine gate_dst (N := 11) rfl ?_); refine ZX (N := 11) (cs := #[.int .i64 0, .int .i64 0, .int .i64 0, .int .i64 0, .int .i64 0, .int .i64 0, .slice none 0 0, .slice none 0 0]) (t := 40) ?_; intro gb280 hg w30 hbox hb; have BK280 := AM (hbox); have GW280 := AM ((by rw [hg]; exact (keep_size (w := w) (g := g) (row := none) (ZJ)) : w.heap.size ≤ gb280)); have GE280 := AM ((Nat.le_trans HW0.out (by rw [hg]; exact (keep_size (w := w) (g := g) (row := none) (ZJ)) : w.heap.size ≤ gb280) : w0.heap.size ≤ gb280)); have NB0_280 := AM ((by rw [hg]; exact Nat.ne_of_lt (IsS64.lt (show IsS64 w0 _ g s0_0 t279 from ZI)) : g ≠ gb280)); have NB280_0 := AM ((by rw [hg]; exact Nat.ne_of_gt (IsS64.lt (show IsS64 w0 _ g s0_0 t279 from ZI)) : gb280 ≠ g)); replace HO_9 := AM (Kd.R_below (Kd.R_elderB (ZR HO_9.out) gb280 (Nat.le_of_eq hg.symm)) hb); replace HK := ZKT HK (KeepBut.of_below hb g none); replace HB := ZTI HB hb; replace HI0 := AM (IsS64.below (ZI) hb); clear hb hbox hg; have hnb31 := NB280_0.out; have hnc31 := NB0_280.out; have hcz32 := ZC8 w30 BK280) | ((with_reducible refine gate_callee (f := 38) rfl ?_); refine ZGL (some 26) Try.func38 #[.pointer (some ⟨g, 0, none⟩), .int .i64 5] ?_; (with_reducible refine (spec_l6Rd_pick.calls k1 g s0_0 t279 5 t281 t282 w0 _ ?side1 ?side2 A11.out).mono ?_); (case side1 => exact ZI); (case side2 => exact ZBI); rintro e w33 ⟨rfl, hi, hb, hk⟩; refine ZV1 ?_; replace HO_9 := AM (Kd.R_mono (Kd.R_keep (IsS64.apart (show IsS64 w0 _ g s0_0 t279 from ZI) (by (with_reducible repeat (first | apply Kd.R_alloc | apply Kd.R_drewN | apply Kd.R_drew)); exact (ZRf (Kd.R_mono HO_9.out (fun k_ hk => (⟨hk, hk.2⟩ : _ ∧ k_ ≠ gb280))) (fun _ h_ => ⟨h_.2, h_.1⟩))) (by decide)) hk (fun _ h => h.2)) (fun _ h => h.1)); replace BK280 := ZLV #[.int .i64 1, .int .i64 t278, .int .i64 0, .int .i64 0, .int .i64 0, .int .i64 0, .slice none 0 0, .slice none 0 0] hk BK280 NB280_0; replace HK := ZKT HK hk; replace HB := AM (hb); replace HI0 := AM (hi); clear hb hk hi; have hcz34 := ZC8 w33 BK280) | ((with_reducible refine gate_callee (f := 38) rfl ?_); refine ZGL (some 31) Try.func38 #[.pointer (some ⟨g, 0, none⟩), .int .i64 3] ?_; (with_reducible refine (spec_l6Rd_pick.calls k1 g s0_0 t282 3 t283 t284 w0 _ ?side1 ?side2 A13.out).mono ?_); (case side1 => exact ZI); (case side2 => exact ZBI); rintro e w35 ⟨rfl, hi, hb, hk⟩; refine ZV1 ?_; replace HO_9 := AM (Kd.R_mono (Kd.R_keep (IsS64.apart (show IsS64 w0 _ g s0_0 t282 from ZI) (by (with_reducible repeat (first | apply Kd.R_alloc | apply Kd.R_drewN | apply Kd.R_drew)); exact (ZRf (Kd.R_mono HO_9.out (fun k_ hk => (⟨hk, hk.2⟩ : _ ∧ k_ ≠ gb280))) (fun _ h_ => ⟨h_.2, h_.1⟩))) (by decide)) hk (fun _ h => h.2)) (fun _ h => h.1)); replace BK280 := ZLV #[.int .i64 3, .int .i64 t278, .int .i64 0, .int .i64 0, .int .i64 0, .int .i64 0, .slice none 0 0, .slice none 0 0] hk BK280 NB280_0; replace HK := ZKT HK hk; replace HB := AM (hb); replace HI0 := AM (hi); clear hb hk hi; have hcz36 := ZC8 w35 BK280) | ((with_reducible refine gate_builtin (b := .append) (xs := #[.tmp 58, .tmp 60]) rfl ?_); at_builtin; refine Kd.R_append k40 w.heap.size rfl (.tmp 58) (.tmp 60) 24 40 (.agg #[(.int .i64 0), (.int .i64 0), (.int .i64 0), (.int .i64 0), (.int .i64 0), (.int .i64 0), (.slice none 0 0), (.slice none 0 0)]) 96 rfl Try.underlying24 info40 rfl (by decide) (by omega) u9 x9_1 (⟨3, t278, (⟨0, 0, 0⟩ : S38), t283, ([] : List (S40)), ([] : List (S40))⟩ : S40) [.int .i64 3, .int .i64 t278, .int .i64 0, .int .i64 0, .int .i64 0, .int .i64 t283, .slice none 0 0, .slice none 0 0] (fun k_ => k_ ≠ gb280) (fun k_ => ((fun k_ => k_ ≠ gb280)) k_ ∧ some k_ ≠ (u9 : Value).ownBlock) rfl (by first | (go_simp; done) | (go_simp; rfl)) ?aP (fun _ hk => hk) ?aF ?aO (Below.refl _ _) ?aS ?aL ?_; (case aP => exact k40_mkM _ _ _ (⟨3, t278, (⟨0, 0, 0⟩ : S38), t283, ([] : List (S40)), ([] : List (S40))⟩ : S40) (Kd.R_nil _ _ _ _ _) (Kd.R_nil _ _ _ _ _)); (case aF => exact (fun k_ hk => Kd.freshB (g := gb280) (o := .cells #[.int .i64 3, .int .i64 t278, .int .i64 0, .int .i64 0, .int .i64 0, .int .i64 t283, .slice none 0 0, .slice none 0 0] 40 (0, 0)) (ZZ BK280.out) k_ hk)); (case aO => exact (ZRf (Kd.R_mono HO_9.out (fun k_ hk => (⟨hk, hk.2⟩ : _ ∧ k_ ≠ gb280))) (fun _ hk => ⟨hk.2, hk.1.2⟩))); (case aS => exact (keep_size (w := w) (g := g) (row := none) (ZJ))); (case aL => have := LMc28.out; omega); intro v293 w37 ho hb hg hat; rw [← Ny292.out] at ho; have n0_ := AM (spec_l71Steps.grown_ HI0 hg (IsS64.own_ne HI0.out HO_9.out (by decide))); have n1_ := AM (blk_grown (g := gb280) (o := .cells #[.int .i64 3, .int .i64 t278, .int .i64 0, .int .i64 0, .int .i64 0, .int .i64 t283, .slice none 0 0, .slice none 0 0] 40 (0, 0)) (ZZ BK280.out) hg (Kd.R_away HO_9.out (fun _ hk => hk.2))); have n2_ := AM (below_weaken (ZBI) HL.out hb); have n3_ := AM (KeepBut.trans (ZJ) (KeepBut.of_grown hg g) (Kd.R_base2 HO_9.out)); have n4_ := AM (ho); clear HI0 BK280 HB HK HO_9; have HI0 := n0_; have BK280 := n1_; have HB := n2_; have HK := n3_; have HO294 := n4_; clear n0_ n1_ n2_ n3_ n4_ ho hb hg hat))
  go_roundg k1
  case measure => have := HK1.out; omega
  case rel => exact ⟨(y292), (wrap64 (x10_1 - 1)), (t284), ZSM, H', ⟨by have := HK1.out; omega⟩, ⟨ZR (Kd.R_mono HO294.out (fun _ hk => trivial))⟩, ⟨ZI⟩, ⟨ZJ⟩, ⟨ZBI⟩⟩)
  ·(
  rw [if_neg c28] at H
  exact absurd H (by simp))))
  ·(
  rw [if_neg c12] at H
  have c12b0 := beq_eq_false_iff_ne.mpr c12
  have c12b1 := bne_iff_ne.mpr c12
  have HC38 := AM H
  clear H
  go_upto_if 33 with (first | ((with_reducible refine gate_callee (f := 38) rfl ?_); refine ZGL (some 23) Try.func38 #[.pointer (some ⟨g, 0, none⟩), .int .i64 a3] ?_; (with_reducible refine (spec_l6Rd_pick.calls k1 g s0_0 x1001_1 a3 t278 t279 w0 _ ?side1 ?side2 A10.out).mono ?_); (case side1 => exact ZI); (case side2 => exact ZBI); rintro e w39 ⟨rfl, hi, hb, hk⟩; refine ZV1 ?_; replace HO_9 := AM (Kd.R_mono (Kd.R_keep (IsS64.apart (show IsS64 w0 _ g s0_0 x1001_1 from ZI) (ZR HO_9.out) (by decide)) hk (fun _ h => h.2)) (fun _ h => h.1)); replace HK := ZKT HK hk; replace HB := AM (hb); replace HI0 := AM (hi); clear hb hk hi) | ((with_reducible refine gate_dst (N := 11) rfl ?_); refine ZX (N := 11) (cs := #[.int .i64 0, .int .i64 0, .int .i64 0, .int .i64 0, .int .i64 0, .int .i64 0, .slice none 0 0, .slice none 0 0]) (t := 40) ?_; intro gb280 hg w40 hbox hb; have BK280 := AM (hbox); have GW280 := AM ((by rw [hg]; exact (keep_size (w := w) (g := g) (row := none) (ZJ)) : w.heap.size ≤ gb280)); have GE280 := AM ((Nat.le_trans HW0.out (by rw [hg]; exact (keep_size (w := w) (g := g) (row := none) (ZJ)) : w.heap.size ≤ gb280) : w0.heap.size ≤ gb280)); have NB0_280 := AM ((by rw [hg]; exact Nat.ne_of_lt (IsS64.lt (show IsS64 w0 _ g s0_0 t279 from ZI)) : g ≠ gb280)); have NB280_0 := AM ((by rw [hg]; exact Nat.ne_of_gt (IsS64.lt (show IsS64 w0 _ g s0_0 t279 from ZI)) : gb280 ≠ g)); replace HO_9 := AM (Kd.R_below (Kd.R_elderB (ZR HO_9.out) gb280 (Nat.le_of_eq hg.symm)) hb); replace HK := ZKT HK (KeepBut.of_below hb g none); replace HB := ZTI HB hb; replace HI0 := AM (IsS64.below (ZI) hb); clear hb hbox hg; have hnb41 := NB280_0.out; have hnc41 := NB0_280.out; have hcz42 := ZC8 w40 BK280) | ((with_reducible refine gate_callee (f := 38) rfl ?_); refine ZGL (some 26) Try.func38 #[.pointer (some ⟨g, 0, none⟩), .int .i64 5] ?_; (with_reducible refine (spec_l6Rd_pick.calls k1 g s0_0 t279 5 t281 t282 w0 _ ?side1 ?side2 A11.out).mono ?_); (case side1 => exact ZI); (case side2 => exact ZBI); rintro e w43 ⟨rfl, hi, hb, hk⟩; refine ZV1 ?_; replace HO_9 := AM (Kd.R_mono (Kd.R_keep (IsS64.apart (show IsS64 w0 _ g s0_0 t279 from ZI) (by (with_reducible repeat (first | apply Kd.R_alloc | apply Kd.R_drewN | apply Kd.R_drew)); exact (ZRf (Kd.R_mono HO_9.out (fun k_ hk => (⟨hk, hk.2⟩ : _ ∧ k_ ≠ gb280))) (fun _ h_ => ⟨h_.2, h_.1⟩))) (by decide)) hk (fun _ h => h.2)) (fun _ h => h.1)); replace BK280 := ZLV #[.int .i64 1, .int .i64 t278, .int .i64 0, .int .i64 0, .int .i64 0, .int .i64 0, .slice none 0 0, .slice none 0 0] hk BK280 NB280_0; replace HK := ZKT HK hk; replace HB := AM (hb); replace HI0 := AM (hi); clear hb hk hi))
  (try simp only [Act.put, List.setIfInBounds_toArray, List.set_cons_zero, List.set_cons_succ])
  go_cut [33] (fun v33 wc => ∃ (kq : Nat) (x33_37 : Bool), v33 = .bool x33_37 ∧ Za (spec_l71Steps.j1 kq a2 a3 x9_1 x10_1 x33_37 s0_0 t282 1 t278 0 0 0 0 = some (r1, r2)) ∧ Za (kq ≤ k1) ∧ Za (Kd.R k40 40 wc w.heap.size (fun k_ => k_ ≠ gb280) u9 x9_1) ∧ Za (wc.heap[gb280]? = some (.cells #[.int .i64 1, .int .i64 t278, .int .i64 0, .int .i64 0, .int .i64 0, .int .i64 0, (.slice none 0 0), (.slice none 0 0)] 40 (0, 0))) ∧ Za (IsS64 w0 wc g s0_0 t282) ∧ Za (KeepBut w wc g none) ∧ Za (Below w0.heap.size w0 wc))
  case first => (
  have H := HC38.out
  clear HC38
  by_cases c44 : t281 = 1
  ·(
  rw [if_pos c44] at H
  have c44b0 := beq_iff_eq.mpr c44
  have c44b1 := bne_eq_false_iff_eq.mpr c44
  clear c44
  (first | rw [c44b0] | (simp only [i64_w, i32_w]; rw [c44b0]) | skip)
  have H' := AM H
  clear H
  go_wp2
  go_meet
  case rel => exact ⟨_, ((t281 == 1)), ZSM, H', ⟨by have := HK1.out; first | omega | exact Nat.le_refl _⟩, ⟨ZR (Kd.R_mono HO_9.out (fun _ hk => hk.2))⟩, ⟨ZK BK280.out⟩, ⟨ZI⟩, ⟨ZJ⟩, ⟨ZBI⟩⟩)
  ·(
  rw [if_neg c44] at H
  have c44b0 := beq_eq_false_iff_ne.mpr c44
  have c44b1 := bne_iff_ne.mpr c44
  (first | rw [c44b0] | (simp only [i64_w, i32_w]; rw [c44b0]) | skip)
  have H' := AM H
  clear H
  go_wp2
  go_meet
  case rel => exact ⟨_, ((t281 == 2)), ZSM, H', ⟨by have := HK1.out; first | omega | exact Nat.le_refl _⟩, ⟨ZR (Kd.R_mono HO_9.out (fun _ hk => hk.2))⟩, ⟨ZK BK280.out⟩, ⟨ZI⟩, ⟨ZJ⟩, ⟨ZBI⟩⟩))
  case rest => (
  clear HC38
  try clear c1
  try clear c2
  try clear p2
  try clear c3
  try clear c4
  try clear c6
  try clear p6
  try clear c8
  try clear c9
  try clear c9b0
  try clear c12
  try clear c12b0
  try clear c12b1
  try clear c14
  try clear c14b0
  try clear c14b1
  try clear c16
  try clear c19
  try clear c28
  try clear c31
  try clear c38
  try clear c41
  try clear c44
  try clear c44b0
  try clear c44b1
  try clear hcz20
  try clear hcz22
  try clear hcz24
  try clear hcz26
  try clear hcz32
  try clear hcz34
  try clear hcz36
  try clear hcz42
  try clear p2
  try clear p6
  obtain ⟨kq, x33_37, rfl, HA, HJ37, HO_9, BK280, HI0, HK, HB⟩ := hcut
  cases kq with
  | zero => exact absurd HA.out (by simp [spec_l71Steps.j1])
  | succ kj37 =>
   have H := HA.out
   clear HA
   simp only [spec_l71Steps.j1] at H
   by_cases c45 : x33_37 = true
   ·(
   subst c45
   have H1 : (if a2 > 1 then ((spec_l71Steps.f kj37 s0_0 t282 2 (wrap64 (a2 - 1)) a3).bind fun bt295 => ((spec_l71Steps.f kj37 s0_0 bt295.2 2 (wrap64 (a2 - 1)) a3).bind fun bt299 => (if 2 = 1 then ((spec_l71Val.f kj37 s0_0 bt299.2 a3).bind fun bt303 => (if x9_1.length < 1466015503701 then (spec_l71Steps.l0 kj37 a2 a3 (x9_1 ++ [(⟨2, t278, (⟨bt303.1, bt303.2.1, bt303.2.2.1⟩ : S38), 0, bt295.1, bt299.1⟩ : S40)]) (wrap64 (x10_1 - 1)) s0_0 bt303.2.2.2) else (none))) else (if x9_1.length < 1466015503701 then (spec_l71Steps.l0 kj37 a2 a3 (x9_1 ++ [(⟨2, t278, (⟨0, 0, 0⟩ : S38), 0, bt295.1, bt299.1⟩ : S40)]) (wrap64 (x10_1 - 1)) s0_0 bt299.2) else (none))))) else (if 1 = 1 then ((spec_l71Val.f kj37 s0_0 t282 a3).bind fun bt313 => (if x9_1.length < 1466015503701 then (spec_l71Steps.l0 kj37 a2 a3 (x9_1 ++ [(⟨1, t278, (⟨bt313.1, bt313.2.1, bt313.2.2.1⟩ : S38), 0, ([] : List (S40)), ([] : List (S40))⟩ : S40)]) (wrap64 (x10_1 - 1)) s0_0 bt313.2.2.2) else (none))) else (if x9_1.length < 1466015503701 then (spec_l71Steps.l0 kj37 a2 a3 (x9_1 ++ [(⟨1, t278, (⟨0, 0, 0⟩ : S38), 0, ([] : List (S40)), ([] : List (S40))⟩ : S40)]) (wrap64 (x10_1 - 1)) s0_0 t282) else (none)))) = some (r1, r2) := by rw [if_pos rfl] at H; exact H
   clear H
   have H := H1
   clear H1
   by_cases c46 : a2 > 1
   ·(
   rw [if_pos c46] at H
   have c46b0 := decide_eq_true c46
   clear c46
   obtain ⟨⟨t295, t298⟩, A47, H⟩ := ZOB H
   replace H : ((spec_l71Steps.f kj37 s0_0 t298 2 (wrap64 (a2 - 1)) a3).bind fun bt299 => (if 2 = 1 then ((spec_l71Val.f kj37 s0_0 bt299.2 a3).bind fun bt303 => (if x9_1.length < 1466015503701 then (spec_l71Steps.l0 kj37 a2 a3 (x9_1 ++ [(⟨2, t278, (⟨bt303.1, bt303.2.1, bt303.2.2.1⟩ : S38), 0, t295, bt299.1⟩ : S40)]) (wrap64 (x10_1 - 1)) s0_0 bt303.2.2.2) else (none))) else (if x9_1.length < 1466015503701 then (spec_l71Steps.l0 kj37 a2 a3 (x9_1 ++ [(⟨2, t278, (⟨0, 0, 0⟩ : S38), 0, t295, bt299.1⟩ : S40)]) (wrap64 (x10_1 - 1)) s0_0 bt299.2) else (none)))) = some (r1, r2) := H
   obtain ⟨⟨t299, t302⟩, A48, H⟩ := ZOB H
   replace H : (if 2 = 1 then ((spec_l71Val.f kj37 s0_0 t302 a3).bind fun bt303 => (if x9_1.length < 1466015503701 then (spec_l71Steps.l0 kj37 a2 a3 (x9_1 ++ [(⟨2, t278, (⟨bt303.1, bt303.2.1, bt303.2.2.1⟩ : S38), 0, t295, t299⟩ : S40)]) (wrap64 (x10_1 - 1)) s0_0 bt303.2.2.2) else (none))) else (if x9_1.length < 1466015503701 then (spec_l71Steps.l0 kj37 a2 a3 (x9_1 ++ [(⟨2, t278, (⟨0, 0, 0⟩ : S38), 0, t295, t299⟩ : S40)]) (wrap64 (x10_1 - 1)) s0_0 t302) else (none))) = some (r1, r2) := H
   by_cases c49 : 2 = 1
   ·exact absurd c49 (by decide)
   ·(
   rw [if_neg c49] at H
   have c49b0 := beq_eq_false_iff_ne.mpr c49
   have c49b1 := bne_iff_ne.mpr c49
   by_cases c65 : x9_1.length < 1466015503701
   ·(
   rw [if_pos c65] at H
   have LMc65 := AM c65
   clear c65
   obtain ⟨y310, hy310⟩ : ∃ y_ : List (S40), y_ = (x9_1 ++ [(⟨2, t278, (⟨0, 0, 0⟩ : S38), 0, t295, t299⟩ : S40)]) := ⟨_, rfl⟩
   replace H : (spec_l71Steps.l0 kj37 a2 a3 y310 (wrap64 (x10_1 - 1)) s0_0 t302) = some (r1, r2) := by rw [hy310]; exact H
   have Ny310 := AM hy310
   clear hy310
   have H' := AM H
   clear H
   have hnb66 := NB280_0.out
   have hnc66 := NB0_280.out
   have hcz67 := ZC8 wc BK280
   go_wp2_with (first | ((with_reducible refine gate_callee (f := 63) rfl ?_); refine ZGL (some 43) Try.func63 #[.pointer (some ⟨g, 0, none⟩), .int .i64 2, .int .i64 (wrap64 (a2 - 1)), .int .i64 a3] ?_; (with_reducible refine (ih kj37 (by have := HK1.out; have := HJ37.out; omega) g s0_0 t282 2 (wrap64 (a2 - 1)) a3 t295 t298 w0 _ ?side1 ?side2 A47.out).mono ?_); (case side1 => exact ZI); (case side2 => exact ZBI); rintro e w68 ⟨v296, rfl, ho0, hi, hb, hk⟩; refine ZV1 ?_; have HO297 := AM (Kd.R_lower (Kd.R_newB (Kd.R_new' ho0 (Kd.R_lt (by (with_reducible repeat (first | apply Kd.R_alloc | apply Kd.R_drewN | apply Kd.R_drew)); exact (ZRf (Kd.R_mono HO_9.out (fun k_ hk => (⟨hk, hk⟩ : _ ∧ k_ ≠ gb280))) (fun _ h_ => ⟨h_.2, h_.1⟩))))) (g := gb280) (o := .cells #[.int .i64 2, .int .i64 t278, .int .i64 0, .int .i64 0, .int .i64 0, .int .i64 0, .slice none 0 0, .slice none 0 0] 40 (0, 0)) (ZZ BK280.out)) (keep_size (w := w) (g := g) (row := none) (ZJ))); replace HO_9 := AM (Kd.R_mono (Kd.R_told (Kd.R_oldK (IsS64.apart (show IsS64 w0 _ g s0_0 t282 from ZI) (by (with_reducible repeat (first | apply Kd.R_alloc | apply Kd.R_drewN | apply Kd.R_drew)); exact (ZRf (Kd.R_mono HO_9.out (fun k_ hk => (⟨hk, hk⟩ : _ ∧ k_ ≠ gb280))) (fun _ h_ => ⟨h_.2, h_.1⟩))) (by decide)) hk) (Kd.R_base ho0)) (fun _ h_ => h_.1)); replace BK280 := ZLV #[.int .i64 2, .int .i64 t278, .int .i64 0, .int .i64 0, .int .i64 0, .int .i64 0, .slice none 0 0, .slice none 0 0] hk BK280 NB280_0; replace HK := ZKT HK hk; replace HB := AM (hb); replace HI0 := AM (hi); clear hb hk hi; (try clear ho0); obtain ⟨Ao69, co69, eo69⟩ := Kd.R_slice HO297.out; subst eo69; have hcz70 := ZC8 w68 BK280) | ((with_reducible refine gate_callee (f := 63) rfl ?_); refine ZGL (some 49) Try.func63 #[.pointer (some ⟨g, 0, none⟩), .int .i64 2, .int .i64 (wrap64 (a2 - 1)), .int .i64 a3] ?_; (with_reducible refine (ih kj37 (by have := HK1.out; have := HJ37.out; omega) g s0_0 t298 2 (wrap64 (a2 - 1)) a3 t299 t302 w0 _ ?side1 ?side2 A48.out).mono ?_); (case side1 => exact ZI); (case side2 => exact ZBI); rintro e w71 ⟨v300, rfl, ho0, hi, hb, hk⟩; refine ZV1 ?_; have HO301 := AM (Kd.R_lower (Kd.R_newB (Kd.R_new' (Kd.R_new' ho0 (Kd.R_lt (by (with_reducible repeat (first | apply Kd.R_alloc | apply Kd.R_drewN | apply Kd.R_drew)); exact (ZRf (Kd.R_mono HO_9.out (fun k_ hk => (⟨hk, hk.1⟩ : _ ∧ k_ ≠ gb280))) (fun _ h_ => ⟨h_.2, h_.1⟩))))) (Kd.R_lt (by (with_reducible repeat (first | apply Kd.R_alloc | apply Kd.R_drewN | apply Kd.R_drew)); exact (ZRf (Kd.R_mono HO297.out (fun k_ hk => (⟨hk, hk.2⟩ : _ ∧ k_ ≠ gb280))) (fun _ h_ => ⟨h_.2, h_.1⟩))))) (g := gb280) (o := .cells #[.int .i64 2, .int .i64 t278, .int .i64 0, .int .i64 0, .int .i64 0, .int .i64 0, .slice Ao69 t295.length co69, .slice none 0 0] 40 (0, 0)) (ZZ BK280.out)) (keep_size (w := w) (g := g) (row := none) (ZJ))); replace HO_9 := AM (Kd.R_mono (Kd.R_told (Kd.R_oldK (IsS64.apart (show IsS64 w0 _ g s0_0 t298 from ZI) (by (with_reducible repeat (first | apply Kd.R_alloc | apply Kd.R_drewN | apply Kd.R_drew)); exact (ZRf (Kd.R_mono HO_9.out (fun k_ hk => (⟨hk, hk.1⟩ : _ ∧ k_ ≠ gb280))) (fun _ h_ => ⟨h_.2, h_.1⟩))) (by decide)) hk) (Kd.R_base ho0)) (fun _ h_ => h_.1)); replace BK280 := ZLV #[.int .i64 2, .int .i64 t278, .int .i64 0, .int .i64 0, .int .i64 0, .int .i64 0, .slice Ao69 t295.length co69, .slice none 0 0] hk BK280 NB280_0; replace HO297 := AM (Kd.R_mono (Kd.R_told (Kd.R_oldK (IsS64.apart (show IsS64 w0 _ g s0_0 t298 from ZI) (by (with_reducible repeat (first | apply Kd.R_alloc | apply Kd.R_drewN | apply Kd.R_drew)); exact (ZRf (Kd.R_mono HO297.out (fun k_ hk => (⟨hk, hk.2⟩ : _ ∧ k_ ≠ gb280))) (fun _ h_ => ⟨h_.2, h_.1⟩))) (by decide)) hk) (Kd.R_base ho0)) (fun _ h_ => h_.1)); replace HK := ZKT HK hk; replace HB := AM (hb); replace HI0 := AM (hi); clear hb hk hi; (try clear ho0); obtain ⟨Ao72, co72, eo72⟩ := Kd.R_slice HO301.out; subst eo72; have hcz73 := ZC8 w71 BK280) | ((with_reducible refine gate_store (t := 24) (p := 50) rfl ?_); refine store_event (t := 24) (p := 50) (v := ?vo_w74) (w1 := (w71.setCell ⟨gb280, 7, none⟩ (.slice Ao72 t299.length co72))) ?hg ?ho ?hn ?hr ?_; (case ho => rfl); (case hg => rfl); (case hn => rfl); (case hr => first | (go_simp; done) | (go_simp; rfl)); intro w74 hw; have n0_ : Za (Kd.R k40 40 w74 w.heap.size (fun k_ => some k_ ≠ (.slice Ao69 t295.length co69 : Value).ownBlock ∧ some k_ ≠ (.slice Ao72 t299.length co72 : Value).ownBlock ∧ k_ ≠ gb280) u9 x9_1) := ⟨(by rw [hw]; exact (ZRf (Kd.R_mono HO_9.out (fun k_ hk => (⟨hk, hk.1.1⟩ : _ ∧ k_ ≠ gb280))) (fun _ hk => ⟨hk.2, ⟨hk.1.1.2, ⟨hk.1.2, hk.1.1.1⟩⟩⟩)))⟩; have n1_ : Za (Kd.R k40 40 w74 w.heap.size (fun k_ => some k_ ≠ (u9 : Value).ownBlock ∧ some k_ ≠ (.slice Ao72 t299.length co72 : Value).ownBlock ∧ k_ ≠ gb280) (.slice Ao69 t295.length co69) t295) := ⟨(by rw [hw]; exact (ZRf (Kd.R_mono HO297.out (fun k_ hk => (⟨hk, hk.1.2⟩ : _ ∧ k_ ≠ gb280))) (fun _ hk => ⟨hk.2, ⟨hk.1.1.1.2, ⟨hk.1.2, hk.1.1.2⟩⟩⟩)))⟩; have n2_ : Za (Kd.R k40 40 w74 w.heap.size (fun k_ => some k_ ≠ (u9 : Value).ownBlock ∧ some k_ ≠ (.slice Ao69 t295.length co69 : Value).ownBlock ∧ k_ ≠ gb280) (.slice Ao72 t299.length co72) t299) := ⟨(by rw [hw]; exact (ZRf (Kd.R_mono HO301.out (fun k_ hk => (⟨hk, hk.2⟩ : _ ∧ k_ ≠ gb280))) (fun _ hk => ⟨hk.2, ⟨hk.1.1.1.2, ⟨hk.1.1.2, hk.1.2⟩⟩⟩)))⟩; have n3_ : Za (w74.heap[gb280]? = some (.cells #[.int .i64 2, .int .i64 t278, .int .i64 0, .int .i64 0, .int .i64 0, .int .i64 0, .slice Ao69 t295.length co69, .slice Ao72 t299.length co72] 40 (0, 0))) := ⟨(by rw [hw]; exact (ZZ BK280.out))⟩; have n4_ : Za (IsS64 w0 w74 g s0_0 t302) := ⟨(by rw [hw]; exact (ZI))⟩; have n5_ : Za (KeepBut w w74 g none) := ⟨(by rw [hw]; exact (ZJ))⟩; have n6_ : Za (Below w0.heap.size w0 w74) := ⟨(by rw [hw]; exact (ZBI))⟩; clear hw HO_9 HO297 HO301 BK280 HI0 HK HB; have HO_9 := n0_; have HO297 := n1_; have HO301 := n2_; have BK280 := n3_; have HI0 := n4_; have HK := n5_; have HB := n6_; clear n0_ n1_ n2_ n3_ n4_ n5_ n6_; have hcz75 := ZC8 w74 BK280) | ((with_reducible refine gate_builtin (b := .append) (xs := #[.tmp 58, .tmp 60]) rfl ?_); at_builtin; refine Kd.R_append k40 w.heap.size rfl (.tmp 58) (.tmp 60) 24 40 (.agg #[(.int .i64 0), (.int .i64 0), (.int .i64 0), (.int .i64 0), (.int .i64 0), (.int .i64 0), (.slice none 0 0), (.slice none 0 0)]) 96 rfl Try.underlying24 info40 rfl (by decide) (by omega) u9 x9_1 (⟨2, t278, (⟨0, 0, 0⟩ : S38), 0, t295, t299⟩ : S40) [.int .i64 2, .int .i64 t278, .int .i64 0, .int .i64 0, .int .i64 0, .int .i64 0, .slice Ao69 t295.length co69, .slice Ao72 t299.length co72] (fun k_ => k_ ≠ gb280) (fun k_ => ((fun k_ => k_ ≠ gb280)) k_ ∧ some k_ ≠ (u9 : Value).ownBlock) rfl rfl ?aP (fun _ hk => hk) ?aF ?aO (Below.refl _ _) ?aS ?aL ?_; (case aP => exact k40_mkM _ _ _ (⟨2, t278, (⟨0, 0, 0⟩ : S38), 0, t295, t299⟩ : S40) (Kd.R_mono (HO297.out) (fun k_ hk => ⟨hk.2.2, hk.1⟩)) (Kd.R_mono (HO301.out) (fun k_ hk => ⟨hk.2.2, hk.1⟩))); (case aF => exact (fun k_ hk => Kd.freshB (g := gb280) (o := .cells #[.int .i64 2, .int .i64 t278, .int .i64 0, .int .i64 0, .int .i64 0, .int .i64 0, .slice Ao69 t295.length co69, .slice Ao72 t299.length co72] 40 (0, 0)) (ZK BK280.out) k_ hk)); (case aO => exact (ZR (Kd.R_mono HO_9.out (fun _ hk => hk.2.2)))); (case aS => exact (keep_size (w := w) (g := g) (row := none) (ZJ))); (case aL => have := LMc65.out; omega); intro v311 w76 ho hb hg hat; rw [← Ny310.out] at ho; have n0_ := AM (blk_grown (g := gb280) (o := .cells #[.int .i64 2, .int .i64 t278, .int .i64 0, .int .i64 0, .int .i64 0, .int .i64 0, .slice Ao69 t295.length co69, .slice Ao72 t299.length co72] 40 (0, 0)) (ZK BK280.out) hg (Kd.R_away HO_9.out (fun _ hk => hk.2.2))); have n1_ := AM (spec_l71Steps.grown_ HI0 hg (IsS64.own_ne HI0.out HO_9.out (by decide))); have n2_ := AM (below_weaken (ZBI) HL.out hb); have n3_ := AM (KeepBut.trans (ZJ) (KeepBut.of_grown hg g) (Kd.R_base2 HO_9.out)); have n4_ := AM (ho); clear BK280 HI0 HB HK HO_9 HO297 HO301; have BK280 := n0_; have HI0 := n1_; have HB := n2_; have HK := n3_; have HO312 := n4_; clear n0_ n1_ n2_ n3_ n4_ ho hb hg hat))
   go_roundg kj37
   case measure => have := HK1.out; have := HJ37.out; omega
   case rel => exact ⟨(y310), (wrap64 (x10_1 - 1)), (t302), ZSM, H', ⟨by have := HK1.out; have := HJ37.out; omega⟩, ⟨ZR (Kd.R_mono HO312.out (fun _ hk => trivial))⟩, ⟨ZI⟩, ⟨ZJ⟩, ⟨ZBI⟩⟩)
   ·(
   rw [if_neg c65] at H
   exact absurd H (by simp))))
   ·(
   rw [if_neg c46] at H
   have c46b0 := decide_eq_false c46
   clear c46
   by_cases c77 : 1 = 1
   ·(
   rw [if_pos c77] at H
   have c77b0 := beq_iff_eq.mpr c77
   have c77b1 := bne_eq_false_iff_eq.mpr c77
   clear c77
   obtain ⟨⟨t313, t314, t315, t316⟩, A78, H⟩ := ZOB H
   replace H : (if x9_1.length < 1466015503701 then (spec_l71Steps.l0 kj37 a2 a3 (x9_1 ++ [(⟨1, t278, (⟨t313, t314, t315⟩ : S38), 0, ([] : List (S40)), ([] : List (S40))⟩ : S40)]) (wrap64 (x10_1 - 1)) s0_0 t316) else (none)) = some (r1, r2) := H
   by_cases c79 : x9_1.length < 1466015503701
   ·(
   rw [if_pos c79] at H
   have LMc79 := AM c79
   clear c79
   obtain ⟨y317, hy317⟩ : ∃ y_ : List (S40), y_ = (x9_1 ++ [(⟨1, t278, (⟨t313, t314, t315⟩ : S38), 0, ([] : List (S40)), ([] : List (S40))⟩ : S40)]) := ⟨_, rfl⟩
   replace H : (spec_l71Steps.l0 kj37 a2 a3 y317 (wrap64 (x10_1 - 1)) s0_0 t316) = some (r1, r2) := by rw [hy317]; exact H
   have Ny317 := AM hy317
   clear hy317
   have H' := AM H
   clear H
   have hnb80 := NB280_0.out
   have hnc80 := NB0_280.out
   have hcz81 := ZC8 wc BK280
   go_wp2_with (first | ((with_reducible refine gate_callee (f := 81) rfl ?_); refine ZGL (some 56) Try.func81 #[.pointer (some ⟨g, 0, none⟩), .int .i64 a3] ?_; (with_reducible refine (spec_l71Val.calls kj37 g s0_0 t282 a3 t313 t314 t315 t316 w0 _ ?side1 ?side2 A78.out).mono ?_); (case side1 => exact ZI); (case side2 => exact ZBI); rintro e w82 ⟨rfl, hi, hb, hk⟩; refine ZV1 ?_; replace HO_9 := AM (Kd.R_mono (Kd.R_keep (IsS64.apart (show IsS64 w0 _ g s0_0 t282 from ZI) (ZR HO_9.out) (by decide)) hk (fun _ h => h.2)) (fun _ h => h.1)); replace BK280 := ZL hk BK280 NB280_0; replace HK := ZKT HK hk; replace HB := AM (hb); replace HI0 := AM (hi); clear hb hk hi; have hcz83 := ZC8 w82 BK280) | ((with_reducible refine gate_builtin (b := .append) (xs := #[.tmp 58, .tmp 60]) rfl ?_); at_builtin; refine Kd.R_append k40 w.heap.size rfl (.tmp 58) (.tmp 60) 24 40 (.agg #[(.int .i64 0), (.int .i64 0), (.int .i64 0), (.int .i64 0), (.int .i64 0), (.int .i64 0), (.slice none 0 0), (.slice none 0 0)]) 96 rfl Try.underlying24 info40 rfl (by decide) (by omega) u9 x9_1 (⟨1, t278, (⟨t313, t314, t315⟩ : S38), 0, ([] : List (S40)), ([] : List (S40))⟩ : S40) [.int .i64 1, .int .i64 t278, .int .i64 t313, .int .i64 t314, .int .i64 t315, .int .i64 0, .slice none 0 0, .slice none 0 0] (fun k_ => k_ ≠ gb280) (fun k_ => ((fun k_ => k_ ≠ gb280)) k_ ∧ some k_ ≠ (u9 : Value).ownBlock) rfl (by first | (go_simp; done) | (go_simp; rfl)) ?aP (fun _ hk => hk) ?aF ?aO (Below.refl _ _) ?aS ?aL ?_; (case aP => exact k40_mkM _ _ _ (⟨1, t278, (⟨t313, t314, t315⟩ : S38), 0, ([] : List (S40)), ([] : List (S40))⟩ : S40) (Kd.R_nil _ _ _ _ _) (Kd.R_nil _ _ _ _ _)); (case aF => exact (fun k_ hk => Kd.freshB (g := gb280) (o := .cells #[.int .i64 1, .int .i64 t278, .int .i64 t313, .int .i64 t314, .int .i64 t315, .int .i64 0, .slice none 0 0, .slice none 0 0] 40 (0, 0)) (ZZ BK280.out) k_ hk)); (case aO => exact (ZRf (Kd.R_mono HO_9.out (fun k_ hk => (⟨hk, hk⟩ : _ ∧ k_ ≠ gb280))) (fun _ hk => ⟨hk.2, hk.1⟩))); (case aS => exact (keep_size (w := w) (g := g) (row := none) (ZJ))); (case aL => have := LMc79.out; omega); intro v318 w84 ho hb hg hat; rw [← Ny317.out] at ho; have n0_ := AM (blk_grown (g := gb280) (o := .cells #[.int .i64 1, .int .i64 t278, .int .i64 t313, .int .i64 t314, .int .i64 t315, .int .i64 0, .slice none 0 0, .slice none 0 0] 40 (0, 0)) (ZZ BK280.out) hg (Kd.R_away HO_9.out (fun _ hk => hk))); have n1_ := AM (spec_l71Steps.grown_ HI0 hg (IsS64.own_ne HI0.out HO_9.out (by decide))); have n2_ := AM (below_weaken (ZBI) HL.out hb); have n3_ := AM (KeepBut.trans (ZJ) (KeepBut.of_grown hg g) (Kd.R_base2 HO_9.out)); have n4_ := AM (ho); clear BK280 HI0 HB HK HO_9; have BK280 := n0_; have HI0 := n1_; have HB := n2_; have HK := n3_; have HO319 := n4_; clear n0_ n1_ n2_ n3_ n4_ ho hb hg hat))
   go_roundg kj37
   case measure => have := HK1.out; have := HJ37.out; omega
   case rel => exact ⟨(y317), (wrap64 (x10_1 - 1)), (t316), ZSM, H', ⟨by have := HK1.out; have := HJ37.out; omega⟩, ⟨ZR (Kd.R_mono HO319.out (fun _ hk => trivial))⟩, ⟨ZI⟩, ⟨ZJ⟩, ⟨ZBI⟩⟩)
   ·(
   rw [if_neg c79] at H
   exact absurd H (by simp)))
   ·exact absurd rfl c77))
   ·(
   replace c45 := Bool.eq_false_iff.mpr c45
   subst c45
   have H1 : (if 1 = 1 then ((spec_l71Val.f kj37 s0_0 t282 a3).bind fun bt323 => (if x9_1.length < 1466015503701 then (spec_l71Steps.l0 kj37 a2 a3 (x9_1 ++ [(⟨1, t278, (⟨bt323.1, bt323.2.1, bt323.2.2.1⟩ : S38), 0, ([] : List (S40)), ([] : List (S40))⟩ : S40)]) (wrap64 (x10_1 - 1)) s0_0 bt323.2.2.2) else (none))) else (if x9_1.length < 1466015503701 then (spec_l71Steps.l0 kj37 a2 a3 (x9_1 ++ [(⟨1, t278, (⟨0, 0, 0⟩ : S38), 0, ([] : List (S40)), ([] : List (S40))⟩ : S40)]) (wrap64 (x10_1 - 1)) s0_0 t282) else (none))) = some (r1, r2) := by rw [if_neg ZFT] at H; exact H
   clear H
   have H := H1
   clear H1
   by_cases c89 : 1 = 1
   ·(
   rw [if_pos c89] at H
   have c89b0 := beq_iff_eq.mpr c89
   have c89b1 := bne_eq_false_iff_eq.mpr c89
   clear c89
   obtain ⟨⟨t323, t324, t325, t326⟩, A90, H⟩ := ZOB H
   replace H : (if x9_1.length < 1466015503701 then (spec_l71Steps.l0 kj37 a2 a3 (x9_1 ++ [(⟨1, t278, (⟨t323, t324, t325⟩ : S38), 0, ([] : List (S40)), ([] : List (S40))⟩ : S40)]) (wrap64 (x10_1 - 1)) s0_0 t326) else (none)) = some (r1, r2) := H
   by_cases c91 : x9_1.length < 1466015503701
   ·(
   rw [if_pos c91] at H
   have LMc91 := AM c91
   clear c91
   obtain ⟨y327, hy327⟩ : ∃ y_ : List (S40), y_ = (x9_1 ++ [(⟨1, t278, (⟨t323, t324, t325⟩ : S38), 0, ([] : List (S40)), ([] : List (S40))⟩ : S40)]) := ⟨_, rfl⟩
   replace H : (spec_l71Steps.l0 kj37 a2 a3 y327 (wrap64 (x10_1 - 1)) s0_0 t326) = some (r1, r2) := by rw [hy327]; exact H
   have Ny327 := AM hy327
   clear hy327
   have H' := AM H
   clear H
   have hnb92 := NB280_0.out
   have hnc92 := NB0_280.out
   have hcz93 := ZC8 wc BK280
   go_wp2_with (first | ((with_reducible refine gate_callee (f := 81) rfl ?_); refine ZGL (some 56) Try.func81 #[.pointer (some ⟨g, 0, none⟩), .int .i64 a3] ?_; (with_reducible refine (spec_l71Val.calls kj37 g s0_0 t282 a3 t323 t324 t325 t326 w0 _ ?side1 ?side2 A90.out).mono ?_); (case side1 => exact ZI); (case side2 => exact ZBI); rintro e w94 ⟨rfl, hi, hb, hk⟩; refine ZV1 ?_; replace HO_9 := AM (Kd.R_mono (Kd.R_keep (IsS64.apart (show IsS64 w0 _ g s0_0 t282 from ZI) (ZR HO_9.out) (by decide)) hk (fun _ h => h.2)) (fun _ h => h.1)); replace BK280 := ZL hk BK280 NB280_0; replace HK := ZKT HK hk; replace HB := AM (hb); replace HI0 := AM (hi); clear hb hk hi; have hcz95 := ZC8 w94 BK280) | ((with_reducible refine gate_builtin (b := .append) (xs := #[.tmp 58, .tmp 60]) rfl ?_); at_builtin; refine Kd.R_append k40 w.heap.size rfl (.tmp 58) (.tmp 60) 24 40 (.agg #[(.int .i64 0), (.int .i64 0), (.int .i64 0), (.int .i64 0), (.int .i64 0), (.int .i64 0), (.slice none 0 0), (.slice none 0 0)]) 96 rfl Try.underlying24 info40 rfl (by decide) (by omega) u9 x9_1 (⟨1, t278, (⟨t323, t324, t325⟩ : S38), 0, ([] : List (S40)), ([] : List (S40))⟩ : S40) [.int .i64 1, .int .i64 t278, .int .i64 t323, .int .i64 t324, .int .i64 t325, .int .i64 0, .slice none 0 0, .slice none 0 0] (fun k_ => k_ ≠ gb280) (fun k_ => ((fun k_ => k_ ≠ gb280)) k_ ∧ some k_ ≠ (u9 : Value).ownBlock) rfl (by first | (go_simp; done) | (go_simp; rfl)) ?aP (fun _ hk => hk) ?aF ?aO (Below.refl _ _) ?aS ?aL ?_; (case aP => exact k40_mkM _ _ _ (⟨1, t278, (⟨t323, t324, t325⟩ : S38), 0, ([] : List (S40)), ([] : List (S40))⟩ : S40) (Kd.R_nil _ _ _ _ _) (Kd.R_nil _ _ _ _ _)); (case aF => exact (fun k_ hk => Kd.freshB (g := gb280) (o := .cells #[.int .i64 1, .int .i64 t278, .int .i64 t323, .int .i64 t324, .int .i64 t325, .int .i64 0, .slice none 0 0, .slice none 0 0] 40 (0, 0)) (ZZ BK280.out) k_ hk)); (case aO => exact (ZRf (Kd.R_mono HO_9.out (fun k_ hk => (⟨hk, hk⟩ : _ ∧ k_ ≠ gb280))) (fun _ hk => ⟨hk.2, hk.1⟩))); (case aS => exact (keep_size (w := w) (g := g) (row := none) (ZJ))); (case aL => have := LMc91.out; omega); intro v328 w96 ho hb hg hat; rw [← Ny327.out] at ho; have n0_ := AM (blk_grown (g := gb280) (o := .cells #[.int .i64 1, .int .i64 t278, .int .i64 t323, .int .i64 t324, .int .i64 t325, .int .i64 0, .slice none 0 0, .slice none 0 0] 40 (0, 0)) (ZZ BK280.out) hg (Kd.R_away HO_9.out (fun _ hk => hk))); have n1_ := AM (spec_l71Steps.grown_ HI0 hg (IsS64.own_ne HI0.out HO_9.out (by decide))); have n2_ := AM (below_weaken (ZBI) HL.out hb); have n3_ := AM (KeepBut.trans (ZJ) (KeepBut.of_grown hg g) (Kd.R_base2 HO_9.out)); have n4_ := AM (ho); clear BK280 HI0 HB HK HO_9; have BK280 := n0_; have HI0 := n1_; have HB := n2_; have HK := n3_; have HO329 := n4_; clear n0_ n1_ n2_ n3_ n4_ ho hb hg hat))
   go_roundg kj37
   case measure => have := HK1.out; have := HJ37.out; omega
   case rel => exact ⟨(y327), (wrap64 (x10_1 - 1)), (t326), ZSM, H', ⟨by have := HK1.out; have := HJ37.out; omega⟩, ⟨ZR (Kd.R_mono HO329.out (fun _ hk => trivial))⟩, ⟨ZI⟩, ⟨ZJ⟩, ⟨ZBI⟩⟩)
   ·(
   rw [if_neg c91] at H
   exact absurd H (by simp)))
   ·exact absurd rfl c89))))
  ·(
  rw [if_neg c9] at H
  have c9b0 := decide_eq_false c9
  clear c9
  simp only [Option.some.injEq, Prod.mk.injEq] at H
  obtain ⟨rfl, rfl⟩ := H
  go_wp2
  go_ret
  exact ⟨_, ZE, by (with_reducible repeat (first | apply Kd.R_alloc | apply Kd.R_drewN | apply Kd.R_drew)); exact HO_9.out, ZI, ZBI, ZJ⟩))

end Go.Proofs.Ytkkdeojbkfjlpaa.A
