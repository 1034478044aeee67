/- Go functions as Lean functions, and for each its contract; written by wip/tools/pr.py over the kit's print. -/
import Derived.Test.YtfcmckomagaiiaaDoorAx0
import Derived.Test.YtfcmckomagaiiaaDoorAx13
import Derived.Test.YtfcmckomagaiiaaDoorAx15
namespace Go.Proofs.YtfcmckomagaiiaaDoor.A
open Go.RowKit Go.Proofs.YtfcmckomagaiiaaDoorW.PrintWords Go.Proofs.YtfcmckomagaiiaaDoorW.PrintLast Go.Proofs.YtfcmckomagaiiaaDoorW.PrintMore
attribute [local go_sem] max2_int min2_int max_two min_two max_three min_three max_four min_four
set_option linter.unusedVariables false
set_option linter.unusedSimpArgs false
set_option maxHeartbeats 8000000
set_option maxRecDepth 100000

/-! ### spec_l71Steps: function 69 -/
mutual
def spec_l71Steps.l0 : Nat → Int → Int → List (S71) → Int → List Int → Int → Option ((List (S71)) × Int)
 | 0, _, _, _, _, _, _ => none
 | k + 1, x2, x3, x9, x10, x1000, x1001 => if x10 > 0 then ((spec_l6Rd_pick.f k x1000 x1001 x3).bind fun bt268 => ((spec_l6Rd_pick.f k x1000 bt268.2 5).bind fun bt271 => (if bt271.1 = 0 then ((spec_l6Rd_pick.f k x1000 bt271.2 3).bind fun bt273 => (if 3 = 1 then ((spec_l71Val.f k x1000 bt273.2 x3).bind fun bt275 => (if x9.length < 1466015503701 then (spec_l71Steps.l0 k x2 x3 (x9 ++ [(⟨3, bt268.1, (⟨bt275.1, bt275.2.1, bt275.2.2.1⟩ : S69), bt273.1, ([] : List (S71)), ([] : List (S71))⟩ : S71)]) (wrap64 (x10 - 1)) x1000 bt275.2.2.2) else (none))) else (if x9.length < 1466015503701 then (spec_l71Steps.l0 k x2 x3 (x9 ++ [(⟨3, bt268.1, (⟨0, 0, 0⟩ : S69), bt273.1, ([] : List (S71)), ([] : List (S71))⟩ : S71)]) (wrap64 (x10 - 1)) x1000 bt273.2) else (none)))) else (if bt271.1 = 1 then (spec_l71Steps.j1 k x2 x3 x9 x10 (bt271.1 == 1) x1000 bt271.2 1 bt268.1 0 0 0 0) else (spec_l71Steps.j1 k x2 x3 x9 x10 (bt271.1 == 2) x1000 bt271.2 1 bt268.1 0 0 0 0))))) else (some (x9, x1001))
def spec_l71Steps.j1 : Nat → Int → Int → List (S71) → Int → Bool → List Int → Int → Int → Int → Int → Int → Int → Int → Option ((List (S71)) × Int)
 | 0, _, _, _, _, _, _, _, _, _, _, _, _, _ => none
 | k + 1, x2, x3, x9, x10, x33, x1000, x1001, x271000, x271001, x271002, x271003, x271004, x271005 => if x33 = true then (if x2 > 1 then ((spec_l71Steps.f k x1000 x1001 2 (wrap64 (x2 - 1)) x3).bind fun bt285 => ((spec_l71Steps.f k x1000 bt285.2 2 (wrap64 (x2 - 1)) x3).bind fun bt289 => (if 2 = 1 then ((spec_l71Val.f k x1000 bt289.2 x3).bind fun bt293 => (if x9.length < 1466015503701 then (spec_l71Steps.l0 k x2 x3 (x9 ++ [(⟨2, x271001, (⟨bt293.1, bt293.2.1, bt293.2.2.1⟩ : S69), x271005, bt285.1, bt289.1⟩ : S71)]) (wrap64 (x10 - 1)) x1000 bt293.2.2.2) else (none))) else (if x9.length < 1466015503701 then (spec_l71Steps.l0 k x2 x3 (x9 ++ [(⟨2, x271001, (⟨x271002, x271003, x271004⟩ : S69), x271005, bt285.1, bt289.1⟩ : S71)]) (wrap64 (x10 - 1)) x1000 bt289.2) else (none))))) else (if x271000 = 1 then ((spec_l71Val.f k x1000 x1001 x3).bind fun bt303 => (if x9.length < 1466015503701 then (spec_l71Steps.l0 k x2 x3 (x9 ++ [(⟨x271000, x271001, (⟨bt303.1, bt303.2.1, bt303.2.2.1⟩ : S69), x271005, ([] : List (S71)), ([] : List (S71))⟩ : S71)]) (wrap64 (x10 - 1)) x1000 bt303.2.2.2) else (none))) else (if x9.length < 1466015503701 then (spec_l71Steps.l0 k x2 x3 (x9 ++ [(⟨x271000, x271001, (⟨x271002, x271003, x271004⟩ : S69), x271005, ([] : List (S71)), ([] : List (S71))⟩ : S71)]) (wrap64 (x10 - 1)) x1000 x1001) else (none)))) else (if x271000 = 1 then ((spec_l71Val.f k x1000 x1001 x3).bind fun bt313 => (if x9.length < 1466015503701 then (spec_l71Steps.l0 k x2 x3 (x9 ++ [(⟨x271000, x271001, (⟨bt313.1, bt313.2.1, bt313.2.2.1⟩ : S69), x271005, ([] : List (S71)), ([] : List (S71))⟩ : S71)]) (wrap64 (x10 - 1)) x1000 bt313.2.2.2) else (none))) else (if x9.length < 1466015503701 then (spec_l71Steps.l0 k x2 x3 (x9 ++ [(⟨x271000, x271001, (⟨x271002, x271003, x271004⟩ : S69), x271005, ([] : List (S71)), ([] : List (S71))⟩ : S71)]) (wrap64 (x10 - 1)) x1000 x1001) else (none)))
def spec_l71Steps.f : Nat → List Int → Int → Int → Int → Int → Option ((List (S71)) × Int)
 | 0, _, _, _, _, _ => none
 | k + 1, s0_0, s0_1, a1, a2, a3 => (spec_l6Rd_pick.f k s0_0 s0_1 (wrap64 (a1 + 1))).bind fun bt266 => (spec_l71Steps.l0 k a2 a3 (([] : List (S71))) bt266.1 s0_0 bt266.2)
end
theorem spec_l71Steps.grown_ {w0 W0 W W1 : World} {g : Nat} {f0 : List Int} {f1 : Int} {row : Option Nat} (B : Za (IsS84 w0 W0 g f0 f1)) (hg : W.grownBy W1 row) (hne : some g ≠ row) (t : IsS84 w0 W0 g f0 f1 → IsS84 w0 W g f0 f1 := by intro h_; repeat (first | (with_reducible first | exact h_ | apply IsS84.alloc | apply IsS84.drewN | apply IsS84.drew | apply IsS84.set_1 | refine IsS84.far ?_ (Za.out (by first | with_reducible assumption | (dsimp only; with_reducible assumption))) _) | exact h_)) : IsS84 w0 W1 g f0 f1 := IsS84.grown (t B.out) hg hne
theorem spec_l71Steps.calls (k : Nat) : ∀ (g : Nat) (s0_0 : List Int) (s0_1 : Int) (a1 : Int) (a2 : Int) (a3 : Int) (r1 : List (S71)) (r2 : Int) (w0 w : World) (hI : IsS84 w0 w g s0_0 s0_1) (hB : Below w0.heap.size w0 w) (h : spec_l71Steps.f k s0_0 s0_1 a1 a2 a3 = some (r1, r2)),
  Calls Tryd.prog 69 #[.pointer (some ⟨g, 0, none⟩), .int .i64 a1, .int .i64 a2, .int .i64 a3] w fun e w' => ∃ v0_ : Value, e = .returned (v0_) ∧ Kd.R k71 71 w' w.heap.size (fun _ => True) v0_ r1 ∧ IsS84 w0 w' g s0_0 r2 ∧ Below w0.heap.size w0 w' ∧ KeepBut w w' g none := by
 induction k using Nat.strongRecOn with
 | _ k ih =>
 intro g s0_0 s0_1 a1 a2 a3 r1 r2 w0 w hI hB h
 cases k with
 | zero => exact absurd h (by simp [spec_l71Steps.f])
 | succ k =>
 simp only [spec_l71Steps.f] at h
 have hu71 := Tryd.underlying71
 have hu69 := Tryd.underlying69
 have HI0 := AM hI
 have HK := AM (KeepBut.refl w g none)
 have HL := AM hB.size
 clear hI
 have HW0 := AM hB.size
 have HB := AM hB
 clear hB
 have H : ((spec_l6Rd_pick.f k s0_0 s0_1 (wrap64 (a1 + 1))).bind fun bt266 => (spec_l71Steps.l0 k a2 a3 (([] : List (S71))) bt266.1 s0_0 bt266.2)) = some (r1, r2) := h
 clear h
 obtain ⟨y263, hy263⟩ : ∃ y_ : List (S71), y_ = (([] : List (S71))) := ⟨_, rfl⟩
 replace H : ((spec_l6Rd_pick.f k s0_0 s0_1 (wrap64 (a1 + 1))).bind fun bt266 => (spec_l71Steps.l0 k a2 a3 y263 bt266.1 s0_0 bt266.2)) = some (r1, r2) := by rw [hy263]; exact H
 have Ny263 := AM hy263
 clear hy263
 obtain ⟨⟨t266, t267⟩, A5, H⟩ := ZOB H
 replace H : (spec_l71Steps.l0 k a2 a3 y263 t266 s0_0 t267) = some (r1, r2) := H
 have H' := AM H
 clear H
 go_enter Tryd.func69, Tryd.ntmps69
 go_wp2_with (first | ((with_reducible refine gate_dst (N := 12) rfl ?_); refine Kd.R_lit k71 _ 71 ?hg (N := 12) ?hd (xs := ([] : List (S71))) (inner := []) (ok := fun _ => True) (okp := fun _ => True) ?hr ?hp (fun _ hk => hk) trivial (Below.refl _ _) (Nat.le_refl _) (by simp) ?_; (case hd => rfl); (case hg => rfl); (case hr => first | (go_simp; done) | (go_simp; rfl)); (case hp => exact (Reps.none _ _)); intro v264 w6 ho7 hb hg_ hnew_; clear hg_ hnew_; (first | rw [← Ny263.out] at ho7 | (simp only [Int.reduceToNat] at ho7; rw [← Ny263.out] at ho7)); have HO265 := AM (Kd.R_lower ho7 (keep_size (w := w) (g := g) (row := none) (ZJ))); replace HK := ZKT HK (KeepBut.of_below hb g none); replace HB := ZTI HB hb; replace HI0 := AM (IsS84.below (ZI) hb); clear hb ho7) | ((with_reducible refine gate_callee (f := 52) rfl ?_); refine ZGL (some 16) Tryd.func52 #[.pointer (some ⟨g, 0, none⟩), .int .i64 (wrap64 (a1 + 1))] ?_; (with_reducible refine (spec_l6Rd_pick.calls k g s0_0 s0_1 (wrap64 (a1 + 1)) t266 t267 w0 _ ?side1 ?side2 A5.out).mono ?_); (case side1 => exact ZI); (case side2 => exact ZBI); rintro e w8 ⟨rfl, hi, hb, hk⟩; refine ZV1 ?_; replace HO265 := AM (Kd.R_mono (Kd.R_keep (IsS84.apart (show IsS84 w0 _ g s0_0 s0_1 from ZI) (ZR HO265.out) (by decide)) hk (fun _ h => h.2)) (fun _ h => h.1)); replace HK := ZKT HK hk; replace HB := AM (hb); replace HI0 := AM (hi); clear hb hk hi))
 go_loopg [9, 10] k (fun kq v9 v10 w' => ∃ (x9_1 : List (S71)) (x10_1 : Int) (x1001_1 : Int), v10 = .int .i64 x10_1 ∧ Za (spec_l71Steps.l0 kq a2 a3 x9_1 x10_1 s0_0 x1001_1 = some (r1, r2)) ∧ Za (kq ≤ k) ∧ Za (Kd.R k71 71 w' w.heap.size (fun _ => True) v9 x9_1) ∧ Za (IsS84 w0 w' g s0_0 x1001_1) ∧ Za (KeepBut w w' g none) ∧ Za (Below w0.heap.size w0 w'))
 case atStart => exact ⟨(y263), (t266), (t267), ZSM, H', ⟨Nat.le_refl _⟩, ⟨ZR HO265.out⟩, ⟨ZI⟩, ⟨ZJ⟩, ⟨ZBI⟩⟩
 case round => (
 clear H'
 try clear p2
 try clear c5
 try clear c6
 try clear p6
 obtain ⟨x9_1, x10_1, x1001_1, rfl, HA, HK1, HO_9, HI0, HK, HB⟩ := hrel
 cases gk with
 | zero => exact absurd HA.out (by simp [spec_l71Steps.l0])
 | succ k1 =>
  have H := HA.out
  clear HA
  simp only [spec_l71Steps.l0] at H
  by_cases c9 : x10_1 > 0
  ·(
  rw [if_pos c9] at H
  have c9b0 := decide_eq_true c9
  clear c9
  obtain ⟨⟨t268, t269⟩, A10, H⟩ := ZOB H
  replace H : ((spec_l6Rd_pick.f k1 s0_0 t269 5).bind fun bt271 => (if bt271.1 = 0 then ((spec_l6Rd_pick.f k1 s0_0 bt271.2 3).bind fun bt273 => (if 3 = 1 then ((spec_l71Val.f k1 s0_0 bt273.2 a3).bind fun bt275 => (if x9_1.length < 1466015503701 then (spec_l71Steps.l0 k1 a2 a3 (x9_1 ++ [(⟨3, t268, (⟨bt275.1, bt275.2.1, bt275.2.2.1⟩ : S69), bt273.1, ([] : List (S71)), ([] : List (S71))⟩ : S71)]) (wrap64 (x10_1 - 1)) s0_0 bt275.2.2.2) else (none))) else (if x9_1.length < 1466015503701 then (spec_l71Steps.l0 k1 a2 a3 (x9_1 ++ [(⟨3, t268, (⟨0, 0, 0⟩ : S69), bt273.1, ([] : List (S71)), ([] : List (S71))⟩ : S71)]) (wrap64 (x10_1 - 1)) s0_0 bt273.2) else (none)))) else (if bt271.1 = 1 then (spec_l71Steps.j1 k1 a2 a3 x9_1 x10_1 (bt271.1 == 1) s0_0 bt271.2 1 t268 0 0 0 0) else (spec_l71Steps.j1 k1 a2 a3 x9_1 x10_1 (bt271.1 == 2) s0_0 bt271.2 1 t268 0 0 0 0)))) = some (r1, r2) := H
  obtain ⟨⟨t271, t272⟩, A11, H⟩ := ZOB H
  replace H : (if t271 = 0 then ((spec_l6Rd_pick.f k1 s0_0 t272 3).bind fun bt273 => (if 3 = 1 then ((spec_l71Val.f k1 s0_0 bt273.2 a3).bind fun bt275 => (if x9_1.length < 1466015503701 then (spec_l71Steps.l0 k1 a2 a3 (x9_1 ++ [(⟨3, t268, (⟨bt275.1, bt275.2.1, bt275.2.2.1⟩ : S69), bt273.1, ([] : List (S71)), ([] : List (S71))⟩ : S71)]) (wrap64 (x10_1 - 1)) s0_0 bt275.2.2.2) else (none))) else (if x9_1.length < 1466015503701 then (spec_l71Steps.l0 k1 a2 a3 (x9_1 ++ [(⟨3, t268, (⟨0, 0, 0⟩ : S69), bt273.1, ([] : List (S71)), ([] : List (S71))⟩ : S71)]) (wrap64 (x10_1 - 1)) s0_0 bt273.2) else (none)))) else (if t271 = 1 then (spec_l71Steps.j1 k1 a2 a3 x9_1 x10_1 (t271 == 1) s0_0 t272 1 t268 0 0 0 0) else (spec_l71Steps.j1 k1 a2 a3 x9_1 x10_1 (t271 == 2) s0_0 t272 1 t268 0 0 0 0))) = some (r1, r2) := H
  by_cases c12 : t271 = 0
  ·(
  rw [if_pos c12] at H
  have c12b0 := beq_iff_eq.mpr c12
  have c12b1 := bne_eq_false_iff_eq.mpr c12
  clear c12
  obtain ⟨⟨t273, t274⟩, A13, H⟩ := ZOB H
  replace H : (if 3 = 1 then ((spec_l71Val.f k1 s0_0 t274 a3).bind fun bt275 => (if x9_1.length < 1466015503701 then (spec_l71Steps.l0 k1 a2 a3 (x9_1 ++ [(⟨3, t268, (⟨bt275.1, bt275.2.1, bt275.2.2.1⟩ : S69), t273, ([] : List (S71)), ([] : List (S71))⟩ : S71)]) (wrap64 (x10_1 - 1)) s0_0 bt275.2.2.2) else (none))) else (if x9_1.length < 1466015503701 then (spec_l71Steps.l0 k1 a2 a3 (x9_1 ++ [(⟨3, t268, (⟨0, 0, 0⟩ : S69), t273, ([] : List (S71)), ([] : List (S71))⟩ : S71)]) (wrap64 (x10_1 - 1)) s0_0 t274) else (none))) = some (r1, r2) := H
  by_cases c14 : 3 = 1
  ·exact absurd c14 (by decide)
  ·(
  rw [if_neg c14] at H
  have c14b0 := beq_eq_false_iff_ne.mpr c14
  have c14b1 := bne_iff_ne.mpr c14
  by_cases c28 : x9_1.length < 1466015503701
  ·(
  rw [if_pos c28] at H
  have LMc28 := AM c28
  clear c28
  obtain ⟨y282, hy282⟩ : ∃ y_ : List (S71), y_ = (x9_1 ++ [(⟨3, t268, (⟨0, 0, 0⟩ : S69), t273, ([] : List (S71)), ([] : List (S71))⟩ : S71)]) := ⟨_, rfl⟩
  replace H : (spec_l71Steps.l0 k1 a2 a3 y282 (wrap64 (x10_1 - 1)) s0_0 t274) = some (r1, r2) := by rw [hy282]; exact H
  have Ny282 := AM hy282
  clear hy282
  have H' := AM H
  clear H
  go_wp2_with (first | ((with_reducible refine gate_callee (f := 52) rfl ?_); refine ZGL (some 23) Tryd.func52 #[.pointer (some ⟨g, 0, none⟩), .int .i64 a3] ?_; (with_reducible refine (spec_l6Rd_pick.calls k1 g s0_0 x1001_1 a3 t268 t269 w0 _ ?side1 ?side2 A10.out).mono ?_); (case side1 => exact ZI); (case side2 => exact ZBI); rintro e w29 ⟨rfl, hi, hb, hk⟩; refine ZV1 ?_; replace HO_9 := AM (Kd.R_mono (Kd.R_keep (IsS84.apart (show IsS84 w0 _ g s0_0 x1001_1 from ZI) (ZR HO_9.out) (by decide)) hk (fun _ h => h.2)) (fun _ h => h.1)); replace HK := ZKT HK hk; replace HB := AM (hb); replace HI0 := AM (hi); clear hb hk hi) | ((with_reducible refine gate_dst (N := 11) rfl ?_); refine ZX (N := 11) (cs := #[.int .i64 0, .int .i64 0, .int .i64 0, .int .i64 0, .int .i64 0, .int .i64 0, .slice none 0 0, .slice none 0 0]) (t := 71) ?_; intro gb270 hg w30 hbox hb; have BK270 := AM (hbox); have GW270 := AM ((by rw [hg]; exact (keep_size (w := w) (g := g) (row := none) (ZJ)) : w.heap.size ≤ gb270)); have GE270 := AM ((Nat.le_trans HW0.out (by rw [hg]; exact (keep_size (w := w) (g := g) (row := none) (ZJ)) : w.heap.size ≤ gb270) : w0.heap.size ≤ gb270)); have NB0_270 := AM ((by rw [hg]; exact Nat.ne_of_lt (IsS84.lt (show IsS84 w0 _ g s0_0 t269 from ZI)) : g ≠ gb270)); have NB270_0 := AM ((by rw [hg]; exact Nat.ne_of_gt (IsS84.lt (show IsS84 w0 _ g s0_0 t269 from ZI)) : gb270 ≠ g)); replace HO_9 := AM (Kd.R_below (Kd.R_elderB (ZR HO_9.out) gb270 (Nat.le_of_eq hg.symm)) hb); replace HK := ZKT HK (KeepBut.of_below hb g none); replace HB := ZTI HB hb; replace HI0 := AM (IsS84.below (ZI) hb); clear hb hbox hg; have hnb31 := NB270_0.out; have hnc31 := NB0_270.out; have hcz32 := ZC8 w30 BK270) | ((with_reducible refine gate_callee (f := 52) rfl ?_); refine ZGL (some 26) Tryd.func52 #[.pointer (some ⟨g, 0, none⟩), .int .i64 5] ?_; (with_reducible refine (spec_l6Rd_pick.calls k1 g s0_0 t269 5 t271 t272 w0 _ ?side1 ?side2 A11.out).mono ?_); (case side1 => exact ZI); (case side2 => exact ZBI); rintro e w33 ⟨rfl, hi, hb, hk⟩; refine ZV1 ?_; replace HO_9 := AM (Kd.R_mono (Kd.R_keep (IsS84.apart (show IsS84 w0 _ g s0_0 t269 from ZI) (by (with_reducible repeat (first | apply Kd.R_alloc | apply Kd.R_drewN | apply Kd.R_drew)); exact (ZRf (Kd.R_mono HO_9.out (fun k_ hk => (⟨hk, hk.2⟩ : _ ∧ k_ ≠ gb270))) (fun _ h_ => ⟨h_.2, h_.1⟩))) (by decide)) hk (fun _ h => h.2)) (fun _ h => h.1)); replace BK270 := ZLV #[.int .i64 1, .int .i64 t268, .int .i64 0, .int .i64 0, .int .i64 0, .int .i64 0, .slice none 0 0, .slice none 0 0] hk BK270 NB270_0; replace HK := ZKT HK hk; replace HB := AM (hb); replace HI0 := AM (hi); clear hb hk hi; have hcz34 := ZC8 w33 BK270) | ((with_reducible refine gate_callee (f := 52) rfl ?_); refine ZGL (some 31) Tryd.func52 #[.pointer (some ⟨g, 0, none⟩), .int .i64 3] ?_; (with_reducible refine (spec_l6Rd_pick.calls k1 g s0_0 t272 3 t273 t274 w0 _ ?side1 ?side2 A13.out).mono ?_); (case side1 => exact ZI); (case side2 => exact ZBI); rintro e w35 ⟨rfl, hi, hb, hk⟩; refine ZV1 ?_; replace HO_9 := AM (Kd.R_mono (Kd.R_keep (IsS84.apart (show IsS84 w0 _ g s0_0 t272 from ZI) (by (with_reducible repeat (first | apply Kd.R_alloc | apply Kd.R_drewN | apply Kd.R_drew)); exact (ZRf (Kd.R_mono HO_9.out (fun k_ hk => (⟨hk, hk.2⟩ : _ ∧ k_ ≠ gb270))) (fun _ h_ => ⟨h_.2, h_.1⟩))) (by decide)) hk (fun _ h => h.2)) (fun _ h => h.1)); replace BK270 := ZLV #[.int .i64 3, .int .i64 t268, .int .i64 0, .int .i64 0, .int .i64 0, .int .i64 0, .slice none 0 0, .slice none 0 0] hk BK270 NB270_0; replace HK := ZKT HK hk; replace HB := AM (hb); replace HI0 := AM (hi); clear hb hk hi; have hcz36 := ZC8 w35 BK270) | ((with_reducible refine gate_builtin (b := .append) (xs := #[.tmp 58, .tmp 60]) rfl ?_); at_builtin; refine Kd.R_append k71 w.heap.size rfl (.tmp 58) (.tmp 60) 29 71 (.agg #[(.int .i64 0), (.int .i64 0), (.int .i64 0), (.int .i64 0), (.int .i64 0), (.int .i64 0), (.slice none 0 0), (.slice none 0 0)]) 96 rfl Tryd.underlying29 info71 rfl (by decide) (by omega) u9 x9_1 (⟨3, t268, (⟨0, 0, 0⟩ : S69), t273, ([] : List (S71)), ([] : List (S71))⟩ : S71) [.int .i64 3, .int .i64 t268, .int .i64 0, .int .i64 0, .int .i64 0, .int .i64 t273, .slice none 0 0, .slice none 0 0] (fun k_ => k_ ≠ gb270) (fun k_ => ((fun k_ => k_ ≠ gb270)) k_ ∧ some k_ ≠ (u9 : Value).ownBlock) rfl (by first | (go_simp; done) | (go_simp; rfl)) ?aP (fun _ hk => hk) ?aF ?aO (Below.refl _ _) ?aS ?aL ?_; (case aP => exact k71_mkM _ _ _ (⟨3, t268, (⟨0, 0, 0⟩ : S69), t273, ([] : List (S71)), ([] : List (S71))⟩ : S71) (Kd.R_nil _ _ _ _ _) (Kd.R_nil _ _ _ _ _)); (case aF => exact (fun k_ hk => Kd.freshB (g := gb270) (o := .cells #[.int .i64 3, .int .i64 t268, .int .i64 0, .int .i64 0, .int .i64 0, .int .i64 t273, .slice none 0 0, .slice none 0 0] 71 (0, 0)) (ZZ BK270.out) k_ hk)); (case aO => exact (ZRf (Kd.R_mono HO_9.out (fun k_ hk => (⟨hk, hk.2⟩ : _ ∧ k_ ≠ gb270))) (fun _ hk => ⟨hk.2, hk.1.2⟩))); (case aS => exact (keep_size (w := w) (g := g) (row := none) (ZJ))); (case aL => have := LMc28.out; omega); intro v283 w37 ho hb hg hat; rw [← Ny282.out] at ho; have n0_ := AM (spec_l71Steps.grown_ HI0 hg (IsS84.own_ne HI0.out HO_9.out (by decide))); have n1_ := AM (blk_grown (g := gb270) (o := .cells #[.int .i64 3, .int .i64 t268, .int .i64 0, .int .i64 0, .int .i64 0, .int .i64 t273, .slice none 0 0, .slice none 0 0] 71 (0, 0)) (ZZ BK270.out) hg (Kd.R_away HO_9.out (fun _ hk => hk.2))); have n2_ := AM (below_weaken (ZBI) HL.out hb); have n3_ := AM (KeepBut.trans (ZJ) (KeepBut.of_grown hg g) (Kd.R_base2 HO_9.out)); have n4_ := AM (ho); clear HI0 BK270 HB HK HO_9; have HI0 := n0_; have BK270 := n1_; have HB := n2_; have HK := n3_; have HO284 := n4_; clear n0_ n1_ n2_ n3_ n4_ ho hb hg hat))
  go_roundg k1
  case measure => have := HK1.out; omega
  case rel => exact ⟨(y282), (wrap64 (x10_1 - 1)), (t274), ZSM, H', ⟨by have := HK1.out; omega⟩, ⟨ZR (Kd.R_mono HO284.out (fun _ hk => trivial))⟩, ⟨ZI⟩, ⟨ZJ⟩, ⟨ZBI⟩⟩)
  ·(
  rw [if_neg c28] at H
  exact absurd H (by simp))))
  ·(
  rw [if_neg c12] at H
  have c12b0 := beq_eq_false_iff_ne.mpr c12
  have c12b1 := bne_iff_ne.mpr c12
  have HC38 := AM H
  clear H
  go_upto_if 33 with (first | ((with_reducible refine gate_callee (f := 52) rfl ?_); refine ZGL (some 23) Tryd.func52 #[.pointer (some ⟨g, 0, none⟩), .int .i64 a3] ?_; (with_reducible refine (spec_l6Rd_pick.calls k1 g s0_0 x1001_1 a3 t268 t269 w0 _ ?side1 ?side2 A10.out).mono ?_); (case side1 => exact ZI); (case side2 => exact ZBI); rintro e w39 ⟨rfl, hi, hb, hk⟩; refine ZV1 ?_; replace HO_9 := AM (Kd.R_mono (Kd.R_keep (IsS84.apart (show IsS84 w0 _ g s0_0 x1001_1 from ZI) (ZR HO_9.out) (by decide)) hk (fun _ h => h.2)) (fun _ h => h.1)); replace HK := ZKT HK hk; replace HB := AM (hb); replace HI0 := AM (hi); clear hb hk hi) | ((with_reducible refine gate_dst (N := 11) rfl ?_); refine ZX (N := 11) (cs := #[.int .i64 0, .int .i64 0, .int .i64 0, .int .i64 0, .int .i64 0, .int .i64 0, .slice none 0 0, .slice none 0 0]) (t := 71) ?_; intro gb270 hg w40 hbox hb; have BK270 := AM (hbox); have GW270 := AM ((by rw [hg]; exact (keep_size (w := w) (g := g) (row := none) (ZJ)) : w.heap.size ≤ gb270)); have GE270 := AM ((Nat.le_trans HW0.out (by rw [hg]; exact (keep_size (w := w) (g := g) (row := none) (ZJ)) : w.heap.size ≤ gb270) : w0.heap.size ≤ gb270)); have NB0_270 := AM ((by rw [hg]; exact Nat.ne_of_lt (IsS84.lt (show IsS84 w0 _ g s0_0 t269 from ZI)) : g ≠ gb270)); have NB270_0 := AM ((by rw [hg]; exact Nat.ne_of_gt (IsS84.lt (show IsS84 w0 _ g s0_0 t269 from ZI)) : gb270 ≠ g)); replace HO_9 := AM (Kd.R_below (Kd.R_elderB (ZR HO_9.out) gb270 (Nat.le_of_eq hg.symm)) hb); replace HK := ZKT HK (KeepBut.of_below hb g none); replace HB := ZTI HB hb; replace HI0 := AM (IsS84.below (ZI) hb); clear hb hbox hg; have hnb41 := NB270_0.out; have hnc41 := NB0_270.out; have hcz42 := ZC8 w40 BK270) | ((with_reducible refine gate_callee (f := 52) rfl ?_); refine ZGL (some 26) Tryd.func52 #[.pointer (some ⟨g, 0, none⟩), .int .i64 5] ?_; (with_reducible refine (spec_l6Rd_pick.calls k1 g s0_0 t269 5 t271 t272 w0 _ ?side1 ?side2 A11.out).mono ?_); (case side1 => exact ZI); (case side2 => exact ZBI); rintro e w43 ⟨rfl, hi, hb, hk⟩; refine ZV1 ?_; replace HO_9 := AM (Kd.R_mono (Kd.R_keep (IsS84.apart (show IsS84 w0 _ g s0_0 t269 from ZI) (by (with_reducible repeat (first | apply Kd.R_alloc | apply Kd.R_drewN | apply Kd.R_drew)); exact (ZRf (Kd.R_mono HO_9.out (fun k_ hk => (⟨hk, hk.2⟩ : _ ∧ k_ ≠ gb270))) (fun _ h_ => ⟨h_.2, h_.1⟩))) (by decide)) hk (fun _ h => h.2)) (fun _ h => h.1)); replace BK270 := ZLV #[.int .i64 1, .int .i64 t268, .int .i64 0, .int .i64 0, .int .i64 0, .int .i64 0, .slice none 0 0, .slice none 0 0] hk BK270 NB270_0; replace HK := ZKT HK hk; replace HB := AM (hb); replace HI0 := AM (hi); clear hb hk hi))
  (try simp only [Act.put, List.setIfInBounds_toArray, List.set_cons_zero, List.set_cons_succ])
  go_cut [33] (fun v33 wc => ∃ (kq : Nat) (x33_37 : Bool), v33 = .bool x33_37 ∧ Za (spec_l71Steps.j1 kq a2 a3 x9_1 x10_1 x33_37 s0_0 t272 1 t268 0 0 0 0 = some (r1, r2)) ∧ Za (kq ≤ k1) ∧ Za (Kd.R k71 71 wc w.heap.size (fun k_ => k_ ≠ gb270) u9 x9_1) ∧ Za (wc.heap[gb270]? = some (.cells #[.int .i64 1, .int .i64 t268, .int .i64 0, .int .i64 0, .int .i64 0, .int .i64 0, (.slice none 0 0), (.slice none 0 0)] 71 (0, 0))) ∧ Za (IsS84 w0 wc g s0_0 t272) ∧ Za (KeepBut w wc g none) ∧ Za (Below w0.heap.size w0 wc))
  case first => (
  have H := HC38.out
  clear HC38
  by_cases c44 : t271 = 1
  ·(
  rw [if_pos c44] at H
  have c44b0 := beq_iff_eq.mpr c44
  have c44b1 := bne_eq_false_iff_eq.mpr c44
  clear c44
  (first | rw [c44b0] | (simp only [i64_w, i32_w]; rw [c44b0]) | skip)
  have H' := AM H
  clear H
  go_wp2
  go_meet
  case rel => exact ⟨_, ((t271 == 1)), ZSM, H', ⟨by have := HK1.out; first | omega | exact Nat.le_refl _⟩, ⟨ZR (Kd.R_mono HO_9.out (fun _ hk => hk.2))⟩, ⟨ZK BK270.out⟩, ⟨ZI⟩, ⟨ZJ⟩, ⟨ZBI⟩⟩)
  ·(
  rw [if_neg c44] at H
  have c44b0 := beq_eq_false_iff_ne.mpr c44
  have c44b1 := bne_iff_ne.mpr c44
  (first | rw [c44b0] | (simp only [i64_w, i32_w]; rw [c44b0]) | skip)
  have H' := AM H
  clear H
  go_wp2
  go_meet
  case rel => exact ⟨_, ((t271 == 2)), ZSM, H', ⟨by have := HK1.out; first | omega | exact Nat.le_refl _⟩, ⟨ZR (Kd.R_mono HO_9.out (fun _ hk => hk.2))⟩, ⟨ZK BK270.out⟩, ⟨ZI⟩, ⟨ZJ⟩, ⟨ZBI⟩⟩))
  case rest => (
  clear HC38
  try clear c1
  try clear c2
  try clear p2
  try clear c3
  try clear c4
  try clear c5
  try clear c6
  try clear p6
  try clear c8
  try clear c9
  try clear c9b0
  try clear c12
  try clear c12b0
  try clear c12b1
  try clear c14
  try clear c14b0
  try clear c14b1
  try clear c16
  try clear c19
  try clear c28
  try clear c31
  try clear c41
  try clear c44
  try clear c44b0
  try clear c44b1
  try clear hcz20
  try clear hcz22
  try clear hcz24
  try clear hcz26
  try clear hcz32
  try clear hcz34
  try clear hcz36
  try clear hcz42
  try clear p2
  try clear p6
  obtain ⟨kq, x33_37, rfl, HA, HJ37, HO_9, BK270, HI0, HK, HB⟩ := hcut
  cases kq with
  | zero => exact absurd HA.out (by simp [spec_l71Steps.j1])
  | succ kj37 =>
   have H := HA.out
   clear HA
   simp only [spec_l71Steps.j1] at H
   by_cases c45 : x33_37 = true
   ·(
   subst c45
   have H1 : (if a2 > 1 then ((spec_l71Steps.f kj37 s0_0 t272 2 (wrap64 (a2 - 1)) a3).bind fun bt285 => ((spec_l71Steps.f kj37 s0_0 bt285.2 2 (wrap64 (a2 - 1)) a3).bind fun bt289 => (if 2 = 1 then ((spec_l71Val.f kj37 s0_0 bt289.2 a3).bind fun bt293 => (if x9_1.length < 1466015503701 then (spec_l71Steps.l0 kj37 a2 a3 (x9_1 ++ [(⟨2, t268, (⟨bt293.1, bt293.2.1, bt293.2.2.1⟩ : S69), 0, bt285.1, bt289.1⟩ : S71)]) (wrap64 (x10_1 - 1)) s0_0 bt293.2.2.2) else (none))) else (if x9_1.length < 1466015503701 then (spec_l71Steps.l0 kj37 a2 a3 (x9_1 ++ [(⟨2, t268, (⟨0, 0, 0⟩ : S69), 0, bt285.1, bt289.1⟩ : S71)]) (wrap64 (x10_1 - 1)) s0_0 bt289.2) else (none))))) else (if 1 = 1 then ((spec_l71Val.f kj37 s0_0 t272 a3).bind fun bt303 => (if x9_1.length < 1466015503701 then (spec_l71Steps.l0 kj37 a2 a3 (x9_1 ++ [(⟨1, t268, (⟨bt303.1, bt303.2.1, bt303.2.2.1⟩ : S69), 0, ([] : List (S71)), ([] : List (S71))⟩ : S71)]) (wrap64 (x10_1 - 1)) s0_0 bt303.2.2.2) else (none))) else (if x9_1.length < 1466015503701 then (spec_l71Steps.l0 kj37 a2 a3 (x9_1 ++ [(⟨1, t268, (⟨0, 0, 0⟩ : S69), 0, ([] : List (S71)), ([] : List (S71))⟩ : S71)]) (wrap64 (x10_1 - 1)) s0_0 t272) else (none)))) = some (r1, r2) := by rw [if_pos rfl] at H; exact H
   clear H
   have H := H1
   clear H1
   by_cases c46 : a2 > 1
   ·(
   rw [if_pos c46] at H
   have c46b0 := decide_eq_true c46
   clear c46
   obtain ⟨⟨t285, t288⟩, A47, H⟩ := ZOB H
   replace H : ((spec_l71Steps.f kj37 s0_0 t288 2 (wrap64 (a2 - 1)) a3).bind fun bt289 => (if 2 = 1 then ((spec_l71Val.f kj37 s0_0 bt289.2 a3).bind fun bt293 => (if x9_1.length < 1466015503701 then (spec_l71Steps.l0 kj37 a2 a3 (x9_1 ++ [(⟨2, t268, (⟨bt293.1, bt293.2.1, bt293.2.2.1⟩ : S69), 0, t285, bt289.1⟩ : S71)]) (wrap64 (x10_1 - 1)) s0_0 bt293.2.2.2) else (none))) else (if x9_1.length < 1466015503701 then (spec_l71Steps.l0 kj37 a2 a3 (x9_1 ++ [(⟨2, t268, (⟨0, 0, 0⟩ : S69), 0, t285, bt289.1⟩ : S71)]) (wrap64 (x10_1 - 1)) s0_0 bt289.2) else (none)))) = some (r1, r2) := H
   obtain ⟨⟨t289, t292⟩, A48, H⟩ := ZOB H
   replace H : (if 2 = 1 then ((spec_l71Val.f kj37 s0_0 t292 a3).bind fun bt293 => (if x9_1.length < 1466015503701 then (spec_l71Steps.l0 kj37 a2 a3 (x9_1 ++ [(⟨2, t268, (⟨bt293.1, bt293.2.1, bt293.2.2.1⟩ : S69), 0, t285, t289⟩ : S71)]) (wrap64 (x10_1 - 1)) s0_0 bt293.2.2.2) else (none))) else (if x9_1.length < 1466015503701 then (spec_l71Steps.l0 kj37 a2 a3 (x9_1 ++ [(⟨2, t268, (⟨0, 0, 0⟩ : S69), 0, t285, t289⟩ : S71)]) (wrap64 (x10_1 - 1)) s0_0 t292) else (none))) = some (r1, r2) := H
   by_cases c49 : 2 = 1
   ·exact absurd c49 (by decide)
   ·(
   rw [if_neg c49] at H
   have c49b0 := beq_eq_false_iff_ne.mpr c49
   have c49b1 := bne_iff_ne.mpr c49
   by_cases c65 : x9_1.length < 1466015503701
   ·(
   rw [if_pos c65] at H
   have LMc65 := AM c65
   clear c65
   obtain ⟨y300, hy300⟩ : ∃ y_ : List (S71), y_ = (x9_1 ++ [(⟨2, t268, (⟨0, 0, 0⟩ : S69), 0, t285, t289⟩ : S71)]) := ⟨_, rfl⟩
   replace H : (spec_l71Steps.l0 kj37 a2 a3 y300 (wrap64 (x10_1 - 1)) s0_0 t292) = some (r1, r2) := by rw [hy300]; exact H
   have Ny300 := AM hy300
   clear hy300
   have H' := AM H
   clear H
   have hnb66 := NB270_0.out
   have hnc66 := NB0_270.out
   have hcz67 := ZC8 wc BK270
   go_wp2_with (first | ((with_reducible refine gate_callee (f := 69) rfl ?_); refine ZGL (some 43) Tryd.func69 #[.pointer (some ⟨g, 0, none⟩), .int .i64 2, .int .i64 (wrap64 (a2 - 1)), .int .i64 a3] ?_; (with_reducible refine (ih kj37 (by have := HK1.out; have := HJ37.out; omega) g s0_0 t272 2 (wrap64 (a2 - 1)) a3 t285 t288 w0 _ ?side1 ?side2 A47.out).mono ?_); (case side1 => exact ZI); (case side2 => exact ZBI); rintro e w68 ⟨v286, rfl, ho0, hi, hb, hk⟩; refine ZV1 ?_; have HO287 := AM (Kd.R_lower (Kd.R_newB (Kd.R_new' ho0 (Kd.R_lt (by (with_reducible repeat (first | apply Kd.R_alloc | apply Kd.R_drewN | apply Kd.R_drew)); exact (ZRf (Kd.R_mono HO_9.out (fun k_ hk => (⟨hk, hk⟩ : _ ∧ k_ ≠ gb270))) (fun _ h_ => ⟨h_.2, h_.1⟩))))) (g := gb270) (o := .cells #[.int .i64 2, .int .i64 t268, .int .i64 0, .int .i64 0, .int .i64 0, .int .i64 0, .slice none 0 0, .slice none 0 0] 71 (0, 0)) (ZZ BK270.out)) (keep_size (w := w) (g := g) (row := none) (ZJ))); replace HO_9 := AM (Kd.R_mono (Kd.R_told (Kd.R_oldK (IsS84.apart (show IsS84 w0 _ g s0_0 t272 from ZI) (by (with_reducible repeat (first | apply Kd.R_alloc | apply Kd.R_drewN | apply Kd.R_drew)); exact (ZRf (Kd.R_mono HO_9.out (fun k_ hk => (⟨hk, hk⟩ : _ ∧ k_ ≠ gb270))) (fun _ h_ => ⟨h_.2, h_.1⟩))) (by decide)) hk) (Kd.R_base ho0)) (fun _ h_ => h_.1)); replace BK270 := ZLV #[.int .i64 2, .int .i64 t268, .int .i64 0, .int .i64 0, .int .i64 0, .int .i64 0, .slice none 0 0, .slice none 0 0] hk BK270 NB270_0; replace HK := ZKT HK hk; replace HB := AM (hb); replace HI0 := AM (hi); clear hb hk hi; (try clear ho0); obtain ⟨Ao69, co69, eo69⟩ := Kd.R_slice HO287.out; subst eo69; have hcz70 := ZC8 w68 BK270) | ((with_reducible refine gate_callee (f := 69) rfl ?_); refine ZGL (some 49) Tryd.func69 #[.pointer (some ⟨g, 0, none⟩), .int .i64 2, .int .i64 (wrap64 (a2 - 1)), .int .i64 a3] ?_; (with_reducible refine (ih kj37 (by have := HK1.out; have := HJ37.out; omega) g s0_0 t288 2 (wrap64 (a2 - 1)) a3 t289 t292 w0 _ ?side1 ?side2 A48.out).mono ?_); (case side1 => exact ZI); (case side2 => exact ZBI); rintro e w71 ⟨v290, rfl, ho0, hi, hb, hk⟩; refine ZV1 ?_; have HO291 := AM (Kd.R_lower (Kd.R_newB (Kd.R_new' (Kd.R_new' ho0 (Kd.R_lt (by (with_reducible repeat (first | apply Kd.R_alloc | apply Kd.R_drewN | apply Kd.R_drew)); exact (ZRf (Kd.R_mono HO_9.out (fun k_ hk => (⟨hk, hk.1⟩ : _ ∧ k_ ≠ gb270))) (fun _ h_ => ⟨h_.2, h_.1⟩))))) (Kd.R_lt (by (with_reducible repeat (first | apply Kd.R_alloc | apply Kd.R_drewN | apply Kd.R_drew)); exact (ZRf (Kd.R_mono HO287.out (fun k_ hk => (⟨hk, hk.2⟩ : _ ∧ k_ ≠ gb270))) (fun _ h_ => ⟨h_.2, h_.1⟩))))) (g := gb270) (o := .cells #[.int .i64 2, .int .i64 t268, .int .i64 0, .int .i64 0, .int .i64 0, .int .i64 0, .slice Ao69 t285.length co69, .slice none 0 0] 71 (0, 0)) (ZZ BK270.out)) (keep_size (w := w) (g := g) (row := none) (ZJ))); replace HO_9 := AM (Kd.R_mono (Kd.R_told (Kd.R_oldK (IsS84.apart (show IsS84 w0 _ g s0_0 t288 from ZI) (by (with_reducible repeat (first | apply Kd.R_alloc | apply Kd.R_drewN | apply Kd.R_drew)); exact (ZRf (Kd.R_mono HO_9.out (fun k_ hk => (⟨hk, hk.1⟩ : _ ∧ k_ ≠ gb270))) (fun _ h_ => ⟨h_.2, h_.1⟩))) (by decide)) hk) (Kd.R_base ho0)) (fun _ h_ => h_.1)); replace BK270 := ZLV #[.int .i64 2, .int .i64 t268, .int .i64 0, .int .i64 0, .int .i64 0, .int .i64 0, .slice Ao69 t285.length co69, .slice none 0 0] hk BK270 NB270_0; replace HO287 := AM (Kd.R_mono (Kd.R_told (Kd.R_oldK (IsS84.apart (show IsS84 w0 _ g s0_0 t288 from ZI) (by (with_reducible repeat (first | apply Kd.R_alloc | apply Kd.R_drewN | apply Kd.R_drew)); exact (ZRf (Kd.R_mono HO287.out (fun k_ hk => (⟨hk, hk.2⟩ : _ ∧ k_ ≠ gb270))) (fun _ h_ => ⟨h_.2, h_.1⟩))) (by decide)) hk) (Kd.R_base ho0)) (fun _ h_ => h_.1)); replace HK := ZKT HK hk; replace HB := AM (hb); replace HI0 := AM (hi); clear hb hk hi; (try clear ho0); obtain ⟨Ao72, co72, eo72⟩ := Kd.R_slice HO291.out; subst eo72; have hcz73 := ZC8 w71 BK270) | ((with_reducible refine gate_store (t := 29) (p := 50) rfl ?_); refine store_event (t := 29) (p := 50) (v := ?vo_w74) (w1 := (w71.setCell ⟨gb270, 7, none⟩ (.slice Ao72 t289.length co72))) ?hg ?ho ?hn ?hr ?_; (case ho => rfl); (case hg => rfl); (case hn => rfl); (case hr => first | (go_simp; done) | (go_simp; rfl)); intro w74 hw; have n0_ : Za (Kd.R k71 71 w74 w.heap.size (fun k_ => some k_ ≠ (.slice Ao69 t285.length co69 : Value).ownBlock ∧ some k_ ≠ (.slice Ao72 t289.length co72 : Value).ownBlock ∧ k_ ≠ gb270) u9 x9_1) := ⟨(by rw [hw]; exact (ZRf (Kd.R_mono HO_9.out (fun k_ hk => (⟨hk, hk.1.1⟩ : _ ∧ k_ ≠ gb270))) (fun _ hk => ⟨hk.2, ⟨hk.1.1.2, ⟨hk.1.2, hk.1.1.1⟩⟩⟩)))⟩; have n1_ : Za (Kd.R k71 71 w74 w.heap.size (fun k_ => some k_ ≠ (u9 : Value).ownBlock ∧ some k_ ≠ (.slice Ao72 t289.length co72 : Value).ownBlock ∧ k_ ≠ gb270) (.slice Ao69 t285.length co69) t285) := ⟨(by rw [hw]; exact (ZRf (Kd.R_mono HO287.out (fun k_ hk => (⟨hk, hk.1.2⟩ : _ ∧ k_ ≠ gb270))) (fun _ hk => ⟨hk.2, ⟨hk.1.1.1.2, ⟨hk.1.2, hk.1.1.2⟩⟩⟩)))⟩; have n2_ : Za (Kd.R k71 71 w74 w.heap.size (fun k_ => some k_ ≠ (u9 : Value).ownBlock ∧ some k_ ≠ (.slice Ao69 t285.length co69 : Value).ownBlock ∧ k_ ≠ gb270) (.slice Ao72 t289.length co72) t289) := ⟨(by rw [hw]; exact (ZRf (Kd.R_mono HO291.out (fun k_ hk => (⟨hk, hk.2⟩ : _ ∧ k_ ≠ gb270))) (fun _ hk => ⟨hk.2, ⟨hk.1.1.1.2, ⟨hk.1.1.2, hk.1.2⟩⟩⟩)))⟩; have n3_ : Za (w74.heap[gb270]? = some (.cells #[.int .i64 2, .int .i64 t268, .int .i64 0, .int .i64 0, .int .i64 0, .int .i64 0, .slice Ao69 t285.length co69, .slice Ao72 t289.length co72] 71 (0, 0))) := ⟨(by rw [hw]; exact (ZZ BK270.out))⟩; have n4_ : Za (IsS84 w0 w74 g s0_0 t292) := ⟨(by rw [hw]; exact (ZI))⟩; have n5_ : Za (KeepBut w w74 g none) := ⟨(by rw [hw]; exact (ZJ))⟩; have n6_ : Za (Below w0.heap.size w0 w74) := ⟨(by rw [hw]; exact (ZBI))⟩; clear hw HO_9 HO287 HO291 BK270 HI0 HK HB; have HO_9 := n0_; have HO287 := n1_; have HO291 := n2_; have BK270 := n3_; have HI0 := n4_; have HK := n5_; have HB := n6_; clear n0_ n1_ n2_ n3_ n4_ n5_ n6_; have hcz75 := ZC8 w74 BK270) | ((with_reducible refine gate_builtin (b := .append) (xs := #[.tmp 58, .tmp 60]) rfl ?_); at_builtin; refine Kd.R_append k71 w.heap.size rfl (.tmp 58) (.tmp 60) 29 71 (.agg #[(.int .i64 0), (.int .i64 0), (.int .i64 0), (.int .i64 0), (.int .i64 0), (.int .i64 0), (.slice none 0 0), (.slice none 0 0)]) 96 rfl Tryd.underlying29 info71 rfl (by decide) (by omega) u9 x9_1 (⟨2, t268, (⟨0, 0, 0⟩ : S69), 0, t285, t289⟩ : S71) [.int .i64 2, .int .i64 t268, .int .i64 0, .int .i64 0, .int .i64 0, .int .i64 0, .slice Ao69 t285.length co69, .slice Ao72 t289.length co72] (fun k_ => k_ ≠ gb270) (fun k_ => ((fun k_ => k_ ≠ gb270)) k_ ∧ some k_ ≠ (u9 : Value).ownBlock) rfl rfl ?aP (fun _ hk => hk) ?aF ?aO (Below.refl _ _) ?aS ?aL ?_; (case aP => exact k71_mkM _ _ _ (⟨2, t268, (⟨0, 0, 0⟩ : S69), 0, t285, t289⟩ : S71) (Kd.R_mono (HO287.out) (fun k_ hk => ⟨hk.2.2, hk.1⟩)) (Kd.R_mono (HO291.out) (fun k_ hk => ⟨hk.2.2, hk.1⟩))); (case aF => exact (fun k_ hk => Kd.freshB (g := gb270) (o := .cells #[.int .i64 2, .int .i64 t268, .int .i64 0, .int .i64 0, .int .i64 0, .int .i64 0, .slice Ao69 t285.length co69, .slice Ao72 t289.length co72] 71 (0, 0)) (ZK BK270.out) k_ hk)); (case aO => exact (ZR (Kd.R_mono HO_9.out (fun _ hk => hk.2.2)))); (case aS => exact (keep_size (w := w) (g := g) (row := none) (ZJ))); (case aL => have := LMc65.out; omega); intro v301 w76 ho hb hg hat; rw [← Ny300.out] at ho; have n0_ := AM (blk_grown (g := gb270) (o := .cells #[.int .i64 2, .int .i64 t268, .int .i64 0, .int .i64 0, .int .i64 0, .int .i64 0, .slice Ao69 t285.length co69, .slice Ao72 t289.length co72] 71 (0, 0)) (ZK BK270.out) hg (Kd.R_away HO_9.out (fun _ hk => hk.2.2))); have n1_ := AM (spec_l71Steps.grown_ HI0 hg (IsS84.own_ne HI0.out HO_9.out (by decide))); have n2_ := AM (below_weaken (ZBI) HL.out hb); have n3_ := AM (KeepBut.trans (ZJ) (KeepBut.of_grown hg g) (Kd.R_base2 HO_9.out)); have n4_ := AM (ho); clear BK270 HI0 HB HK HO_9 HO287 HO291; have BK270 := n0_; have HI0 := n1_; have HB := n2_; have HK := n3_; have HO302 := n4_; clear n0_ n1_ n2_ n3_ n4_ ho hb hg hat))
   go_roundg kj37
   case measure => have := HK1.out; have := HJ37.out; omega
   case rel => exact ⟨(y300), (wrap64 (x10_1 - 1)), (t292), ZSM, H', ⟨by have := HK1.out; have := HJ37.out; omega⟩, ⟨ZR (Kd.R_mono HO302.out (fun _ hk => trivial))⟩, ⟨ZI⟩, ⟨ZJ⟩, ⟨ZBI⟩⟩)
   ·(
   rw [if_neg c65] at H
   exact absurd H (by simp))))
   ·(
   rw [if_neg c46] at H
   have c46b0 := decide_eq_false c46
   clear c46
   by_cases c77 : 1 = 1
   ·(
   rw [if_pos c77] at H
   have c77b0 := beq_iff_eq.mpr c77
   have c77b1 := bne_eq_false_iff_eq.mpr c77
   clear c77
   obtain ⟨⟨t303, t304, t305, t306⟩, A78, H⟩ := ZOB H
   replace H : (if x9_1.length < 1466015503701 then (spec_l71Steps.l0 kj37 a2 a3 (x9_1 ++ [(⟨1, t268, (⟨t303, t304, t305⟩ : S69), 0, ([] : List (S71)), ([] : List (S71))⟩ : S71)]) (wrap64 (x10_1 - 1)) s0_0 t306) else (none)) = some (r1, r2) := H
   by_cases c79 : x9_1.length < 1466015503701
   ·(
   rw [if_pos c79] at H
   have LMc79 := AM c79
   clear c79
   obtain ⟨y307, hy307⟩ : ∃ y_ : List (S71), y_ = (x9_1 ++ [(⟨1, t268, (⟨t303, t304, t305⟩ : S69), 0, ([] : List (S71)), ([] : List (S71))⟩ : S71)]) := ⟨_, rfl⟩
   replace H : (spec_l71Steps.l0 kj37 a2 a3 y307 (wrap64 (x10_1 - 1)) s0_0 t306) = some (r1, r2) := by rw [hy307]; exact H
   have Ny307 := AM hy307
   clear hy307
   have H' := AM H
   clear H
   have hnb80 := NB270_0.out
   have hnc80 := NB0_270.out
   have hcz81 := ZC8 wc BK270
   go_wp2_with (first | ((with_reducible refine gate_callee (f := 80) rfl ?_); refine ZGL (some 56) Tryd.func80 #[.pointer (some ⟨g, 0, none⟩), .int .i64 a3] ?_; (with_reducible refine (spec_l71Val.calls kj37 g s0_0 t272 a3 t303 t304 t305 t306 w0 _ ?side1 ?side2 A78.out).mono ?_); (case side1 => exact ZI); (case side2 => exact ZBI); rintro e w82 ⟨rfl, hi, hb, hk⟩; refine ZV1 ?_; replace HO_9 := AM (Kd.R_mono (Kd.R_keep (IsS84.apart (show IsS84 w0 _ g s0_0 t272 from ZI) (ZR HO_9.out) (by decide)) hk (fun _ h => h.2)) (fun _ h => h.1)); replace BK270 := ZL hk BK270 NB270_0; replace HK := ZKT HK hk; replace HB := AM (hb); replace HI0 := AM (hi); clear hb hk hi; have hcz83 := ZC8 w82 BK270) | ((with_reducible refine gate_builtin (b := .append) (xs := #[.tmp 58, .tmp 60]) rfl ?_); at_builtin; refine Kd.R_append k71 w.heap.size rfl (.tmp 58) (.tmp 60) 29 71 (.agg #[(.int .i64 0), (.int .i64 0), (.int .i64 0), (.int .i64 0), (.int .i64 0), (.int .i64 0), (.slice none 0 0), (.slice none 0 0)]) 96 rfl Tryd.underlying29 info71 rfl (by decide) (by omega) u9 x9_1 (⟨1, t268, (⟨t303, t304, t305⟩ : S69), 0, ([] : List (S71)), ([] : List (S71))⟩ : S71) [.int .i64 1, .int .i64 t268, .int .i64 t303, .int .i64 t304, .int .i64 t305, .int .i64 0, .slice none 0 0, .slice none 0 0] (fun k_ => k_ ≠ gb270) (fun k_ => ((fun k_ => k_ ≠ gb270)) k_ ∧ some k_ ≠ (u9 : Value).ownBlock) rfl (by first | (go_simp; done) | (go_simp; rfl)) ?aP (fun _ hk => hk) ?aF ?aO (Below.refl _ _) ?aS ?aL ?_; (case aP => exact k71_mkM _ _ _ (⟨1, t268, (⟨t303, t304, t305⟩ : S69), 0, ([] : List (S71)), ([] : List (S71))⟩ : S71) (Kd.R_nil _ _ _ _ _) (Kd.R_nil _ _ _ _ _)); (case aF => exact (fun k_ hk => Kd.freshB (g := gb270) (o := .cells #[.int .i64 1, .int .i64 t268, .int .i64 t303, .int .i64 t304, .int .i64 t305, .int .i64 0, .slice none 0 0, .slice none 0 0] 71 (0, 0)) (ZZ BK270.out) k_ hk)); (case aO => exact (ZRf (Kd.R_mono HO_9.out (fun k_ hk => (⟨hk, hk⟩ : _ ∧ k_ ≠ gb270))) (fun _ hk => ⟨hk.2, hk.1⟩))); (case aS => exact (keep_size (w := w) (g := g) (row := none) (ZJ))); (case aL => have := LMc79.out; omega); intro v308 w84 ho hb hg hat; rw [← Ny307.out] at ho; have n0_ := AM (blk_grown (g := gb270) (o := .cells #[.int .i64 1, .int .i64 t268, .int .i64 t303, .int .i64 t304, .int .i64 t305, .int .i64 0, .slice none 0 0, .slice none 0 0] 71 (0, 0)) (ZZ BK270.out) hg (Kd.R_away HO_9.out (fun _ hk => hk))); have n1_ := AM (spec_l71Steps.grown_ HI0 hg (IsS84.own_ne HI0.out HO_9.out (by decide))); have n2_ := AM (below_weaken (ZBI) HL.out hb); have n3_ := AM (KeepBut.trans (ZJ) (KeepBut.of_grown hg g) (Kd.R_base2 HO_9.out)); have n4_ := AM (ho); clear BK270 HI0 HB HK HO_9; have BK270 := n0_; have HI0 := n1_; have HB := n2_; have HK := n3_; have HO309 := n4_; clear n0_ n1_ n2_ n3_ n4_ ho hb hg hat))
   go_roundg kj37
   case measure => have := HK1.out; have := HJ37.out; omega
   case rel => exact ⟨(y307), (wrap64 (x10_1 - 1)), (t306), ZSM, H', ⟨by have := HK1.out; have := HJ37.out; omega⟩, ⟨ZR (Kd.R_mono HO309.out (fun _ hk => trivial))⟩, ⟨ZI⟩, ⟨ZJ⟩, ⟨ZBI⟩⟩)
   ·(
   rw [if_neg c79] at H
   exact absurd H (by simp)))
   ·exact absurd rfl c77))
   ·(
   replace c45 := Bool.eq_false_iff.mpr c45
   subst c45
   have H1 : (if 1 = 1 then ((spec_l71Val.f kj37 s0_0 t272 a3).bind fun bt313 => (if x9_1.length < 1466015503701 then (spec_l71Steps.l0 kj37 a2 a3 (x9_1 ++ [(⟨1, t268, (⟨bt313.1, bt313.2.1, bt313.2.2.1⟩ : S69), 0, ([] : List (S71)), ([] : List (S71))⟩ : S71)]) (wrap64 (x10_1 - 1)) s0_0 bt313.2.2.2) else (none))) else (if x9_1.length < 1466015503701 then (spec_l71Steps.l0 kj37 a2 a3 (x9_1 ++ [(⟨1, t268, (⟨0, 0, 0⟩ : S69), 0, ([] : List (S71)), ([] : List (S71))⟩ : S71)]) (wrap64 (x10_1 - 1)) s0_0 t272) else (none))) = some (r1, r2) := by rw [if_neg ZFT] at H; exact H
   clear H
   have H := H1
   clear H1
   by_cases c89 : 1 = 1
   ·(
   rw [if_pos c89] at H
   have c89b0 := beq_iff_eq.mpr c89
   have c89b1 := bne_eq_false_iff_eq.mpr c89
   clear c89
   obtain ⟨⟨t313, t314, t315, t316⟩, A90, H⟩ := ZOB H
   replace H : (if x9_1.length < 1466015503701 then (spec_l71Steps.l0 kj37 a2 a3 (x9_1 ++ [(⟨1, t268, (⟨t313, t314, t315⟩ : S69), 0, ([] : List (S71)), ([] : List (S71))⟩ : S71)]) (wrap64 (x10_1 - 1)) s0_0 t316) else (none)) = some (r1, r2) := H
   by_cases c91 : x9_1.length < 1466015503701
   ·(
   rw [if_pos c91] at H
   have LMc91 := AM c91
   clear c91
   obtain ⟨y317, hy317⟩ : ∃ y_ : List (S71), y_ = (x9_1 ++ [(⟨1, t268, (⟨t313, t314, t315⟩ : S69), 0, ([] : List (S71)), ([] : List (S71))⟩ : S71)]) := ⟨_, rfl⟩
   replace H : (spec_l71Steps.l0 kj37 a2 a3 y317 (wrap64 (x10_1 - 1)) s0_0 t316) = some (r1, r2) := by rw [hy317]; exact H
   have Ny317 := AM hy317
   clear hy317
   have H' := AM H
   clear H
   have hnb92 := NB270_0.out
   have hnc92 := NB0_270.out
   have hcz93 := ZC8 wc BK270
   go_wp2_with (first | ((with_reducible refine gate_callee (f := 80) rfl ?_); refine ZGL (some 56) Tryd.func80 #[.pointer (some ⟨g, 0, none⟩), .int .i64 a3] ?_; (with_reducible refine (spec_l71Val.calls kj37 g s0_0 t272 a3 t313 t314 t315 t316 w0 _ ?side1 ?side2 A90.out).mono ?_); (case side1 => exact ZI); (case side2 => exact ZBI); rintro e w94 ⟨rfl, hi, hb, hk⟩; refine ZV1 ?_; replace HO_9 := AM (Kd.R_mono (Kd.R_keep (IsS84.apart (show IsS84 w0 _ g s0_0 t272 from ZI) (ZR HO_9.out) (by decide)) hk (fun _ h => h.2)) (fun _ h => h.1)); replace BK270 := ZL hk BK270 NB270_0; replace HK := ZKT HK hk; replace HB := AM (hb); replace HI0 := AM (hi); clear hb hk hi; have hcz95 := ZC8 w94 BK270) | ((with_reducible refine gate_builtin (b := .append) (xs := #[.tmp 58, .tmp 60]) rfl ?_); at_builtin; refine Kd.R_append k71 w.heap.size rfl (.tmp 58) (.tmp 60) 29 71 (.agg #[(.int .i64 0), (.int .i64 0), (.int .i64 0), (.int .i64 0), (.int .i64 0), (.int .i64 0), (.slice none 0 0), (.slice none 0 0)]) 96 rfl Tryd.underlying29 info71 rfl (by decide) (by omega) u9 x9_1 (⟨1, t268, (⟨t313, t314, t315⟩ : S69), 0, ([] : List (S71)), ([] : List (S71))⟩ : S71) [.int .i64 1, .int .i64 t268, .int .i64 t313, .int .i64 t314, .int .i64 t315, .int .i64 0, .slice none 0 0, .slice none 0 0] (fun k_ => k_ ≠ gb270) (fun k_ => ((fun k_ => k_ ≠ gb270)) k_ ∧ some k_ ≠ (u9 : Value).ownBlock) rfl (by first | (go_simp; done) | (go_simp; rfl)) ?aP (fun _ hk => hk) ?aF ?aO (Below.refl _ _) ?aS ?aL ?_; (case aP => exact k71_mkM _ _ _ (⟨1, t268, (⟨t313, t314, t315⟩ : S69), 0, ([] : List (S71)), ([] : List (S71))⟩ : S71) (Kd.R_nil _ _ _ _ _) (Kd.R_nil _ _ _ _ _)); (case aF => exact (fun k_ hk => Kd.freshB (g := gb270) (o := .cells #[.int .i64 1, .int .i64 t268, .int .i64 t313, .int .i64 t314, .int .i64 t315, .int .i64 0, .slice none 0 0, .slice none 0 0] 71 (0, 0)) (ZZ BK270.out) k_ hk)); (case aO => exact (ZRf (Kd.R_mono HO_9.out (fun k_ hk => (⟨hk, hk⟩ : _ ∧ k_ ≠ gb270))) (fun _ hk => ⟨hk.2, hk.1⟩))); (case aS => exact (keep_size (w := w) (g := g) (row := none) (ZJ))); (case aL => have := LMc91.out; omega); intro v318 w96 ho hb hg hat; rw [← Ny317.out] at ho; have n0_ := AM (blk_grown (g := gb270) (o := .cells #[.int .i64 1, .int .i64 t268, .int .i64 t313, .int .i64 t314, .int .i64 t315, .int .i64 0, .slice none 0 0, .slice none 0 0] 71 (0, 0)) (ZZ BK270.out) hg (Kd.R_away HO_9.out (fun _ hk => hk))); have n1_ := AM (spec_l71Steps.grown_ HI0 hg (IsS84.own_ne HI0.out HO_9.out (by decide))); have n2_ := AM (below_weaken (ZBI) HL.out hb); have n3_ := AM (KeepBut.trans (ZJ) (KeepBut.of_grown hg g) (Kd.R_base2 HO_9.out)); have n4_ := AM (ho); clear BK270 HI0 HB HK HO_9; have BK270 := n0_; have HI0 := n1_; have HB := n2_; have HK := n3_; have HO319 := n4_; clear n0_ n1_ n2_ n3_ n4_ ho hb hg hat))
   go_roundg kj37
   case measure => have := HK1.out; have := HJ37.out; omega
   case rel => exact ⟨(y317), (wrap64 (x10_1 - 1)), (t316), ZSM, H', ⟨by have := HK1.out; have := HJ37.out; omega⟩, ⟨ZR (Kd.R_mono HO319.out (fun _ hk => trivial))⟩, ⟨ZI⟩, ⟨ZJ⟩, ⟨ZBI⟩⟩)
   ·(
   rw [if_neg c91] at H
   exact absurd H (by simp)))
   ·exact absurd rfl c89))))
  ·(
  rw [if_neg c9] at H
  have c9b0 := decide_eq_false c9
  clear c9
  simp only [Option.some.injEq, Prod.mk.injEq] at H
  obtain ⟨rfl, rfl⟩ := H
  go_wp2
  go_ret
  exact ⟨_, ZE, by (with_reducible repeat (first | apply Kd.R_alloc | apply Kd.R_drewN | apply Kd.R_drew)); exact HO_9.out, ZI, ZBI, ZJ⟩))

end Go.Proofs.YtfcmckomagaiiaaDoor.A
