/- Go functions as Lean functions, and for each its contract; written by wip/tools/pr.py over the kit's print. -/
import Derived.Test.YtfcmckomagaiiaaDoorAx0
import Derived.Test.YtfcmckomagaiiaaDoorAx13
namespace Go.Proofs.YtfcmckomagaiiaaDoor.A
open Go.RowKit Go.Proofs.YtfcmckomagaiiaaDoorW.PrintWords Go.Proofs.YtfcmckomagaiiaaDoorW.PrintLast Go.Proofs.YtfcmckomagaiiaaDoorW.PrintMore
attribute [local go_sem] max2_int min2_int max_two min_two max_three min_three max_four min_four
set_option linter.unusedVariables false
set_option linter.unusedSimpArgs false
set_option maxHeartbeats 8000000
set_option maxRecDepth 100000

/-! ### spec_l71Label: function 68 -/
def spec_l71Label.f (k : Nat) (s0_0 : List Int) (s0_1 : Int) : Option (Int × Int × Int) := (some (([7, 7, 3, 5, 6, 1, 2, 4, 0] : List Int) : List Int)).bind fun y235 => ((spec_l6Rd_pick.f k s0_0 s0_1 9).bind fun bt238 => (if 0 ≤ bt238.1 then (if bt238.1 < (y235.length : Int) then ((some (([0, 0, 1, 2, 4, 3, 7, 5, 6] : List Int) : List Int)).bind fun y241 => ((spec_l6Rd_pick.f k s0_0 bt238.2 9).bind fun bt244 => (if 0 ≤ bt244.1 then (if bt244.1 < (y241.length : Int) then (some (rd y235 bt238.1, rd y241 bt244.1, bt244.2)) else (none)) else (none)))) else (none)) else (none)))
def spec_l71Label.T1 : Bool × List (List Nat × List Nat) := (true, [([], []), ([], []), ([1], [1]), ([0, 2], [0, 2]), ([3], [3]), ([], []), ([], []), ([6, 2], [6]), ([5, 7], [5, 7]), ([8], [8]), ([4, 9], [4, 9]), ([], []), ([11, 10, 7, 0, 1, 2, 3, 4, 5, 6, 7, 8, 9, 10, 11], [10, 11])])
theorem spec_l71Label.tab1 : rtab .any (opsOf Tryd.f68 1) = spec_l71Label.T1 := by kernel_rfl
theorem spec_l71Label.keep_far {w W : World} {g : Nat} {row : Option Nat} (h : KeepBut w W g row) {p : Addr} (hp : w.heap.size ≤ p.block) (u : Value) : KeepBut w (W.setCell p u) g row :=
 ⟨by simpa [World.setCell] using h.1, fun i hi hg hr => (Below.heap_setCell W p u i (by omega)).trans (h.2 i hi hg hr)⟩
theorem spec_l71Label.got_of {T : List (List Nat × List Nat)} {l : List Bool} {i : Nat} {r : List Nat × List Nat} (h : readyT T l = []) (hl : i < l.length) (hr : T[i]? = some r) (hd : ∀ j ∈ r.1, l.getD j false = true) : l.getD i false = true := by
 have hi : i < T.length := (List.getElem?_eq_some_iff.1 hr).1
 unfold readyT at h
 rw [List.filter_eq_nil_iff] at h
 have h1 := h i (List.mem_range.2 hi)
 have h2 : l.getD i true = l.getD i false := by
  rw [List.getD_eq_getElem?_getD, List.getD_eq_getElem?_getD, List.getElem?_eq_getElem hl]
  rfl
 unfold readyAt at h1
 rw [hr, h2] at h1
 cases hq : l.getD i false with
 | true => rfl
 | false =>
  rw [hq] at h1
  exact absurd (by rw [Bool.and_eq_true]; exact ⟨rfl, List.all_eq_true.2 hd⟩) h1
/-- What holds of each part of the region that may be done: l tells what is done. -/
def spec_l71Label.Inv (w0 w : World) (g gb : Nat) (s : List Int) (p p1 p2 t1 t2 : Int) (l : List Bool) (a : Act) (W : World) : Prop :=
 (a.tmps.size = 16 ∧ a.defers = [] ∧ a.eval (.tmp 0) = .pointer (some ⟨g, 0, none⟩) ∧ a.eval (.tmp 2) = .pointer (some ⟨gb, 0, none⟩)) ∧
 (l.getD 12 false = true → ∀ j, j < 12 → l.getD j false = true) ∧
 ((l.getD 3 false = true → l.getD 0 false = true) ∧ (l.getD 8 false = true → l.getD 5 false = true) ∧ (l.getD 7 false = true → l.getD 2 false = true)) ∧   -- icl_
 (l.getD 1 false = true → a.eval (.tmp 5) = .pointer (some ⟨g, 0, none⟩)) ∧
 (l.getD 2 false = true → a.eval (.tmp 6) = .int .i64 t1) ∧
 (l.getD 4 false = true → a.eval (.tmp 8) = .int .i64 (rd [7, 7, 3, 5, 6, 1, 2, 4, 0] t1)) ∧
 (l.getD 6 false = true → a.eval (.tmp 10) = .pointer (some ⟨g, 0, none⟩)) ∧
 (l.getD 7 false = true → a.eval (.tmp 11) = .int .i64 t2) ∧
 (l.getD 9 false = true → a.eval (.tmp 13) = .int .i64 (rd [0, 0, 1, 2, 4, 3, 7, 5, 6] t2)) ∧
 (l.getD 10 false = true → a.eval (.tmp 14) = .agg #[.int .i64 (rd [7, 7, 3, 5, 6, 1, 2, 4, 0] t1), .int .i64 (rd [0, 0, 1, 2, 4, 3, 7, 5, 6] t2)]) ∧
 (l.getD 0 false = true → l.getD 12 false = false → ∃ b, a.eval (.tmp 4) = .slice (some ⟨b, 0, none⟩) 9 9 ∧ W.heap[b]? = some (.cells #[.int .i64 7, .int .i64 7, .int .i64 3, .int .i64 5, .int .i64 6, .int .i64 1, .int .i64 2, .int .i64 4, .int .i64 0] 3 (0, 0)) ∧ g ≠ b ∧ (l.getD 3 false = true → a.eval (.tmp 7) = .pointer (some ⟨b, t1.toNat, none⟩))) ∧
 (l.getD 5 false = true → l.getD 12 false = false → ∃ b, a.eval (.tmp 9) = .slice (some ⟨b, 0, none⟩) 9 9 ∧ W.heap[b]? = some (.cells #[.int .i64 0, .int .i64 0, .int .i64 1, .int .i64 2, .int .i64 4, .int .i64 3, .int .i64 7, .int .i64 5, .int .i64 6] 3 (0, 0)) ∧ g ≠ b ∧ (l.getD 8 false = true → a.eval (.tmp 12) = .pointer (some ⟨b, t2.toNat, none⟩))) ∧
 (l.getD 11 false = true → ∃ b, a.eval (.tmp 3) = .pointer (some ⟨b, 0, none⟩) ∧ W.heap[b]? = some (.cells (if l.getD 12 false = true then #[.int .i64 (rd [7, 7, 3, 5, 6, 1, 2, 4, 0] t1), .int .i64 (rd [0, 0, 1, 2, 4, 3, 7, 5, 6] t2)] else #[.int .i64 0, .int .i64 0]) 43 (0, 0)) ∧ w.heap.size ≤ b ∧ w0.heap.size ≤ b ∧ g ≠ b ∧ gb ≠ b) ∧
 IsS84 w0 W g s (if l.getD 7 false = true then p2 else if l.getD 2 false = true then p1 else p) ∧
 W.heap[gb]? = some (.cells #[.int .i64 0, .int .i64 0] 43 (0, 0)) ∧ KeepBut w W g none ∧ Below w0.heap.size w0 W
theorem spec_l71Label.calls (k : Nat) (g : Nat) (s0_0 : List Int) (s0_1 : Int) (r1 : Int) (r2 : Int) (r3 : Int) (w0 w : World) (hI : IsS84 w0 w g s0_0 s0_1) (hB : Below w0.heap.size w0 w) (h : spec_l71Label.f k s0_0 s0_1 = some (r1, r2, r3)) :
  Calls Tryd.prog 68 #[.pointer (some ⟨g, 0, none⟩)] w fun e w' => e = .returned (.agg #[.int .i64 r1, .int .i64 r2]) ∧ IsS84 w0 w' g s0_0 r3 ∧ Below w0.heap.size w0 w' ∧ KeepBut w w' g none := by
 have hu := Tryd.underlying43
 have hD : Za ((spec_l6Rd_pick.f k s0_0 s0_1 9).bind (fun bt => (if 0 ≤ bt.1 then (if bt.1 < (([7, 7, 3, 5, 6, 1, 2, 4, 0] : List Int).length : Int) then ((spec_l6Rd_pick.f k s0_0 bt.2 9).bind fun bt2 => (if 0 ≤ bt2.1 then (if bt2.1 < (([0, 0, 1, 2, 4, 3, 7, 5, 6] : List Int).length : Int) then (some (rd [7, 7, 3, 5, 6, 1, 2, 4, 0] bt.1, rd [0, 0, 1, 2, 4, 3, 7, 5, 6] bt2.1, bt2.2)) else (none)) else (none))) else (none)) else (none))) = some (r1, r2, r3)) := ⟨h⟩
 clear h
 have X : ∃ t1 p1 t2 p2, Za (spec_l6Rd_pick.f k s0_0 s0_1 9 = some (t1, p1)) ∧ Za (spec_l6Rd_pick.f k s0_0 p1 9 = some (t2, p2)) ∧ (0 ≤ t1 ∧ t1 < 9) ∧ (0 ≤ t2 ∧ t2 < 9) ∧ r1 = rd [7, 7, 3, 5, 6, 1, 2, 4, 0] t1 ∧ r2 = rd [0, 0, 1, 2, 4, 3, 7, 5, 6] t2 ∧ r3 = p2 := by
  obtain ⟨⟨t1, p1⟩, h1, H⟩ := Option.bind_eq_some_iff.mp hD.out
  by_cases c1 : 0 ≤ t1
  ·by_cases c2 : t1 < 9
   ·have H2 : ((spec_l6Rd_pick.f k s0_0 p1 9).bind fun bt2 => (if 0 ≤ bt2.1 then (if bt2.1 < (([0, 0, 1, 2, 4, 3, 7, 5, 6] : List Int).length : Int) then (some (rd [7, 7, 3, 5, 6, 1, 2, 4, 0] t1, rd [0, 0, 1, 2, 4, 3, 7, 5, 6] bt2.1, bt2.2)) else (none)) else (none))) = some (r1, r2, r3) := by
     simpa [c1, c2] using H
    obtain ⟨⟨t2, p2⟩, h2, H3⟩ := Option.bind_eq_some_iff.mp H2
    by_cases c3 : 0 ≤ t2
    ·by_cases c4 : t2 < 9
     ·simp [c3, c4] at H3
      exact ⟨t1, p1, t2, p2, ⟨h1⟩, ⟨h2⟩, ⟨c1, c2⟩, ⟨c3, c4⟩, H3.1.symm, H3.2.1.symm, H3.2.2.symm⟩
     ·simp [c3, c4] at H3
    ·simp [c3] at H3
   ·simp [c1, c2] at H
  ·simp [c1] at H
 clear hD
 obtain ⟨t1, p1, t2, p2, A1, A2, ⟨b1, b2⟩, ⟨b3, b4⟩, rfl, rfl, rfl⟩ := X
 have HI := AM hI
 have HB := AM hB
 have HL := AM (IsS84.lt hI)
 clear hI hB
 go_enter Tryd.func68, Tryd.ntmps68
 go_wp2_with (first | ((with_reducible refine gate_dst (N := 2) rfl ?_); refine ZX (N := 2) (cs := #[.int .i64 0, .int .i64 0]) (t := 43) ?_; intro gb hg w1 hbox hb; have BK := AM hbox; have HB1 := AM hb; have HG := AM hg; clear hbox hb hg))
 have L1 : Za (w.heap.size ≤ gb) := ⟨by rw [HG.out]; exact Nat.le_refl _⟩
 have L2 : Za (w0.heap.size ≤ gb) := ⟨Nat.le_trans HB.out.size L1.out⟩
 have L3 : Za (g ≠ gb) := ⟨by have := HL.out; have := L1.out; omega⟩
 refine region_inv (n := 13) (by kernel_rfl) spec_l71Label.tab1 rfl (spec_l71Label.Inv w0 w g gb s0_0 s0_1 p1 r3 t1 t2) ?_ ?_ ?_
 ·(
 unfold spec_l71Label.Inv
 refine ⟨⟨rfl, rfl, rfl, rfl⟩, by simp, by simp, by simp, by simp, by simp, by simp, by simp, by simp, by simp, by simp, by simp, by simp, ?_, ?_, ?_, ?_⟩
 ·exact IsS84.drew (IsS84.below HI.out HB1.out)
 ·exact blk_drew BK.out
 ·exact keep_drew (KeepBut.of_below HB1.out g none)
 ·exact below_drew1 (below_step HB.out HB1.out))
 ·(
 intro i o l a W ho hl hr hI K hK
 have hi : i < 13 := (Array.getElem?_eq_some_iff.1 ho).1
 obtain ⟨⟨z1, z2, z3, z4⟩, ic, ⟨k3, k8, k7⟩, i1, i2, i4, i6, i7, i9, i10, i0, i5, i11, iS, iB, iK, iW⟩ := hI
 have gW : g < W.heap.size := IsS84.lt iS
 have wW : w.heap.size ≤ W.heap.size := iK.1
 have w0W : w0.heap.size ≤ W.heap.size := iW.size
 have gbW : gb < W.heap.size := blk_lt iB
 have c12 : i < 12 → l.getD 12 false = false := by
  intro h12
  cases hq : l.getD 12 false with
  | false => rfl
  | true => exact absurd (ic hq i h12) (by rw [undone hr (by omega)]; decide)
 have cases_ : i = 0 ∨ i = 1 ∨ i = 2 ∨ i = 3 ∨ i = 4 ∨ i = 5 ∨ i = 6 ∨ i = 7 ∨ i = 8 ∨ i = 9 ∨ i = 10 ∨ i = 11 ∨ i = 12 := by omega
 rcases cases_ with rfl | rfl | rfl | rfl | rfl | rfl | rfl | rfl | rfl | rfl | rfl | rfl | rfl
 ·(
 have c := c12 (by omega)
 have hn := undone hr (by omega)
 obtain ⟨_, hd⟩ := ready_of hr rfl
 simp only [List.getElem?_toArray, List.getElem?_cons_succ, List.getElem?_cons_zero, Option.some.injEq] at ho
 subst ho
 refine event_step rfl (v := .slice (some ⟨W.heap.size, 0, none⟩) 9 9) (w1 := W.alloc (.cells #[.int .i64 7, .int .i64 7, .int .i64 3, .int .i64 5, .int .i64 6, .int .i64 1, .int .i64 2, .int .i64 4, .int .i64 0] 3 (0, 0))) ?_ (hK _ _ ?_)
 ·(
 clear i0 i1 i2 i4 i5 i6 i7 i9 i10 i11 iS iB iK iW ic c12 hK K k3 k8 k7 BK HB1 HG L1 L2 L3 HI HB HL A1 A2
 first | (go_simp; done) | (go_simp; rfl))
 ·(
 unfold spec_l71Label.Inv
 simp only [getD_set (show 0 < l.length by omega), eval_put (show 4 < a.tmps.size by omega), size_put, defers_put, Nat.reduceEqDiff, if_false, if_true]
 exact ⟨⟨z1, z2, z3, z4⟩, fun h => absurd h (by rw [c]; decide), ⟨by first | exact True.intro | exact fun _ => trivial, k8, k7⟩, i1, i2, i4, i6, i7, i9, i10, fun _ _ => ⟨W.heap.size, rfl, blk_new W _, by omega, fun h => absurd (k3 h) (by rw [hn]; decide)⟩, fun h h2 => (i5 h h2).elim fun b q => ⟨b, q.1, blk_alloc q.2.1 _, q.2.2⟩, fun h => (i11 h).elim fun b q => ⟨b, q.1, blk_alloc q.2.1 _, q.2.2⟩, IsS84.alloc iS _, blk_alloc iB _, keep_alloc iK _, below_alloc iW _⟩))
 ·(
 have c := c12 (by omega)
 have hn := undone hr (by omega)
 obtain ⟨_, hd⟩ := ready_of hr rfl
 simp only [List.getElem?_toArray, List.getElem?_cons_succ, List.getElem?_cons_zero, Option.some.injEq] at ho
 subst ho
 refine event_step rfl (v := .pointer (some ⟨g, 0, none⟩)) (w1 := W) ?_ (hK _ _ ?_)
 ·(
 clear i0 i1 i2 i4 i5 i6 i7 i9 i10 i11 iS iB iK iW ic c12 hK K k3 k8 k7 BK HB1 HG L1 L2 L3 HI HB HL A1 A2
 generalize a.eval = ρ at *
 first | (go_simp; done) | (go_simp; rfl))
 ·(
 unfold spec_l71Label.Inv
 simp only [getD_set (show 1 < l.length by omega), eval_put (show 5 < a.tmps.size by omega), size_put, defers_put, Nat.reduceEqDiff, if_false, if_true]
 exact ⟨⟨z1, z2, z3, z4⟩, fun h => absurd h (by rw [c]; decide), ⟨k3, k8, k7⟩, (by first | exact True.intro | exact fun _ => True.intro | exact fun _ => rfl), i2, i4, i6, i7, i9, i10, i0, i5, i11, iS, iB, iK, iW⟩))
 ·(
 have c := c12 (by omega)
 have hn := undone hr (by omega)
 obtain ⟨_, hd⟩ := ready_of hr rfl
 simp only [List.getElem?_toArray, List.getElem?_cons_succ, List.getElem?_cons_zero, Option.some.injEq] at ho
 subst ho
 have e := i1 (hd 1 (by decide))
 have c7 : l.getD 7 false = false := by
  cases hq : l.getD 7 false with
  | false => rfl
  | true => exact absurd (k7 hq) (by rw [hn]; decide)
 rw [c7, hn] at iS
 simp only [Bool.false_eq_true, if_false, if_true] at iS
 refine goes_ Tryd.func52 (by kernel_rfl) rfl #[.pointer (some ⟨g, 0, none⟩), .int .i64 9] rfl rfl rfl (by simp only [List.map_toArray, List.map_cons, List.map_nil, e]; rfl) ?_
 refine (spec_l6Rd_pick.calls k g s0_0 s0_1 9 t1 p1 w0 W iS iW A1.out).mono ?_
 rintro e_ W2 ⟨rfl, hS, hB, hk⟩
 refine ⟨_, rfl, hK _ _ ?_⟩
 unfold spec_l71Label.Inv
 simp only [getD_set (show 2 < l.length by omega), eval_put (show 6 < a.tmps.size by omega), size_put, defers_put, Nat.reduceEqDiff, if_false, if_true, c7, Bool.false_eq_true]
 exact ⟨⟨z1, z2, z3, z4⟩, fun h => absurd h (by rw [c]; decide), ⟨k3, k8, by first | exact True.intro | (intros; exact True.intro)⟩, i1, (by first | exact True.intro | exact fun _ => True.intro | exact fun _ => rfl), i4, i6, (by first | exact True.intro | exact fun h => h.elim), i9, i10, fun h h2 => (i0 h h2).elim fun b q => ⟨b, q.1, hk.blk q.2.1 (Ne.symm q.2.2.1) (by simp), q.2.2⟩, fun h h2 => (i5 h h2).elim fun b q => ⟨b, q.1, hk.blk q.2.1 (Ne.symm q.2.2.1) (by simp), q.2.2⟩, fun h => (i11 h).elim fun b q => ⟨b, q.1, hk.blk q.2.1 (Ne.symm q.2.2.2.2.1) (by simp), q.2.2⟩, hS, hk.blk iB (Ne.symm L3.out) (by simp), iK.trans hk (.inl rfl), hB⟩)
 ·(
 have c := c12 (by omega)
 have hn := undone hr (by omega)
 obtain ⟨_, hd⟩ := ready_of hr rfl
 simp only [List.getElem?_toArray, List.getElem?_cons_succ, List.getElem?_cons_zero, Option.some.injEq] at ho
 subst ho
 obtain ⟨b, q1, q2, q3, q4⟩ := i0 (hd 0 (by decide)) c
 have e6 := i2 (hd 2 (by decide))
 have dd := hd 0 (by decide)
 refine event_step rfl (v := .pointer (some ⟨b, t1.toNat, none⟩)) (w1 := W) ?_ (hK _ _ ?_)
 ·(
 clear q2 q4 dd hd hn c i0 i1 i2 i4 i5 i6 i7 i9 i10 i11 iS iB iK iW ic c12 hK K k3 k8 k7 BK HB1 HG L1 L2 L3 HI HB HL A1 A2
 generalize a.eval = ρ at *
 first | (go_simp; done) | (go_simp; rfl))
 ·(
 unfold spec_l71Label.Inv
 simp only [getD_set (show 3 < l.length by omega), eval_put (show 7 < a.tmps.size by omega), size_put, defers_put, Nat.reduceEqDiff, if_false, if_true]
 exact ⟨⟨z1, z2, z3, z4⟩, fun h => absurd h (by rw [c]; decide), ⟨fun _ => dd, k8, k7⟩, i1, i2, i4, i6, i7, i9, i10, fun _ _ => ⟨b, q1, q2, q3, fun _ => rfl⟩, i5, i11, iS, iB, iK, iW⟩))
 ·(
 have c := c12 (by omega)
 have hn := undone hr (by omega)
 obtain ⟨_, hd⟩ := ready_of hr rfl
 simp only [List.getElem?_toArray, List.getElem?_cons_succ, List.getElem?_cons_zero, Option.some.injEq] at ho
 subst ho
 obtain ⟨b, q1, q2, q3, q4⟩ := i0 (k3 (hd 3 (by decide))) c
 have e7 := q4 (hd 3 (by decide))
 have hc : W.cell? ⟨b, t1.toNat, none⟩ = some (.int .i64 (rd [7, 7, 3, 5, 6, 1, 2, 4, 0] t1)) := by
  rw [blk_cell q2]
  have cases_ : t1 = 0 ∨ t1 = 1 ∨ t1 = 2 ∨ t1 = 3 ∨ t1 = 4 ∨ t1 = 5 ∨ t1 = 6 ∨ t1 = 7 ∨ t1 = 8 := by omega
  rcases cases_ with h | h | h | h | h | h | h | h | h <;> rw [h] <;> rfl
 refine event_step rfl (v := .int .i64 (rd [7, 7, 3, 5, 6, 1, 2, 4, 0] t1)) (w1 := W) ?_ (hK _ _ ?_)
 ·(
 clear q1 q2 q3 q4 hd hn c i0 i1 i2 i4 i5 i6 i7 i9 i10 i11 iS iB iK iW ic c12 hK K k3 k8 k7 BK HB1 HG L1 L2 L3 HI HB HL A1 A2
 generalize rd [7, 7, 3, 5, 6, 1, 2, 4, 0] t1 = x at *
 generalize a.eval = ρ at *
 first | (go_simp; done) | (go_simp; rfl))
 ·(
 unfold spec_l71Label.Inv
 simp only [getD_set (show 4 < l.length by omega), eval_put (show 8 < a.tmps.size by omega), size_put, defers_put, Nat.reduceEqDiff, if_false, if_true]
 exact ⟨⟨z1, z2, z3, z4⟩, fun h => absurd h (by rw [c]; decide), ⟨k3, k8, k7⟩, i1, i2, (by first | exact True.intro | exact fun _ => True.intro | exact fun _ => rfl), i6, i7, i9, i10, i0, i5, i11, iS, iB, iK, iW⟩))
 ·(
 have c := c12 (by omega)
 have hn := undone hr (by omega)
 obtain ⟨_, hd⟩ := ready_of hr rfl
 simp only [List.getElem?_toArray, List.getElem?_cons_succ, List.getElem?_cons_zero, Option.some.injEq] at ho
 subst ho
 refine event_step rfl (v := .slice (some ⟨W.heap.size, 0, none⟩) 9 9) (w1 := W.alloc (.cells #[.int .i64 0, .int .i64 0, .int .i64 1, .int .i64 2, .int .i64 4, .int .i64 3, .int .i64 7, .int .i64 5, .int .i64 6] 3 (0, 0))) ?_ (hK _ _ ?_)
 ·(
 clear i0 i1 i2 i4 i5 i6 i7 i9 i10 i11 iS iB iK iW ic c12 hK K k3 k8 k7 BK HB1 HG L1 L2 L3 HI HB HL A1 A2
 first | (go_simp; done) | (go_simp; rfl))
 ·(
 unfold spec_l71Label.Inv
 simp only [getD_set (show 5 < l.length by omega), eval_put (show 9 < a.tmps.size by omega), size_put, defers_put, Nat.reduceEqDiff, if_false, if_true]
 exact ⟨⟨z1, z2, z3, z4⟩, fun h => absurd h (by rw [c]; decide), ⟨k3, by first | exact True.intro | exact fun _ => trivial, k7⟩, i1, i2, i4, i6, i7, i9, i10, fun h h2 => (i0 h h2).elim fun b q => ⟨b, q.1, blk_alloc q.2.1 _, q.2.2⟩, fun _ _ => ⟨W.heap.size, rfl, blk_new W _, by omega, fun h => absurd (k8 h) (by rw [hn]; decide)⟩, fun h => (i11 h).elim fun b q => ⟨b, q.1, blk_alloc q.2.1 _, q.2.2⟩, IsS84.alloc iS _, blk_alloc iB _, keep_alloc iK _, below_alloc iW _⟩))
 ·(
 have c := c12 (by omega)
 have hn := undone hr (by omega)
 obtain ⟨_, hd⟩ := ready_of hr rfl
 simp only [List.getElem?_toArray, List.getElem?_cons_succ, List.getElem?_cons_zero, Option.some.injEq] at ho
 subst ho
 refine event_step rfl (v := .pointer (some ⟨g, 0, none⟩)) (w1 := W) ?_ (hK _ _ ?_)
 ·(
 clear i0 i1 i2 i4 i5 i6 i7 i9 i10 i11 iS iB iK iW ic c12 hK K k3 k8 k7 BK HB1 HG L1 L2 L3 HI HB HL A1 A2
 generalize a.eval = ρ at *
 first | (go_simp; done) | (go_simp; rfl))
 ·(
 unfold spec_l71Label.Inv
 simp only [getD_set (show 6 < l.length by omega), eval_put (show 10 < a.tmps.size by omega), size_put, defers_put, Nat.reduceEqDiff, if_false, if_true]
 exact ⟨⟨z1, z2, z3, z4⟩, fun h => absurd h (by rw [c]; decide), ⟨k3, k8, k7⟩, i1, i2, i4, (by first | exact True.intro | exact fun _ => True.intro | exact fun _ => rfl), i7, i9, i10, i0, i5, i11, iS, iB, iK, iW⟩))
 ·(
 have c := c12 (by omega)
 have hn := undone hr (by omega)
 obtain ⟨_, hd⟩ := ready_of hr rfl
 simp only [List.getElem?_toArray, List.getElem?_cons_succ, List.getElem?_cons_zero, Option.some.injEq] at ho
 subst ho
 have e := i6 (hd 6 (by decide))
 have c2 := hd 2 (by decide)
 rw [hn, c2] at iS
 simp only [Bool.false_eq_true, if_false, if_true] at iS
 refine goes_ Tryd.func52 (by kernel_rfl) rfl #[.pointer (some ⟨g, 0, none⟩), .int .i64 9] rfl rfl rfl (by simp only [List.map_toArray, List.map_cons, List.map_nil, e]; rfl) ?_
 refine (spec_l6Rd_pick.calls k g s0_0 p1 9 t2 r3 w0 W iS iW A2.out).mono ?_
 rintro e_ W2 ⟨rfl, hS, hB, hk⟩
 refine ⟨_, rfl, hK _ _ ?_⟩
 unfold spec_l71Label.Inv
 simp only [getD_set (show 7 < l.length by omega), eval_put (show 11 < a.tmps.size by omega), size_put, defers_put, Nat.reduceEqDiff, if_false, if_true]
 exact ⟨⟨z1, z2, z3, z4⟩, fun h => absurd h (by rw [c]; decide), ⟨k3, k8, by first | exact c2 | exact fun _ => c2⟩, i1, i2, i4, i6, (by first | exact True.intro | exact fun _ => True.intro | exact fun _ => rfl), i9, i10, fun h h2 => (i0 h h2).elim fun b q => ⟨b, q.1, hk.blk q.2.1 (Ne.symm q.2.2.1) (by simp), q.2.2⟩, fun h h2 => (i5 h h2).elim fun b q => ⟨b, q.1, hk.blk q.2.1 (Ne.symm q.2.2.1) (by simp), q.2.2⟩, fun h => (i11 h).elim fun b q => ⟨b, q.1, hk.blk q.2.1 (Ne.symm q.2.2.2.2.1) (by simp), q.2.2⟩, hS, hk.blk iB (Ne.symm L3.out) (by simp), iK.trans hk (.inl rfl), hB⟩)
 ·(
 have c := c12 (by omega)
 have hn := undone hr (by omega)
 obtain ⟨_, hd⟩ := ready_of hr rfl
 simp only [List.getElem?_toArray, List.getElem?_cons_succ, List.getElem?_cons_zero, Option.some.injEq] at ho
 subst ho
 obtain ⟨b, q1, q2, q3, q4⟩ := i5 (hd 5 (by decide)) c
 have e6 := i7 (hd 7 (by decide))
 have dd := hd 5 (by decide)
 refine event_step rfl (v := .pointer (some ⟨b, t2.toNat, none⟩)) (w1 := W) ?_ (hK _ _ ?_)
 ·(
 clear q2 q4 dd hd hn c i0 i1 i2 i4 i5 i6 i7 i9 i10 i11 iS iB iK iW ic c12 hK K k3 k8 k7 BK HB1 HG L1 L2 L3 HI HB HL A1 A2
 generalize a.eval = ρ at *
 first | (go_simp; done) | (go_simp; rfl))
 ·(
 unfold spec_l71Label.Inv
 simp only [getD_set (show 8 < l.length by omega), eval_put (show 12 < a.tmps.size by omega), size_put, defers_put, Nat.reduceEqDiff, if_false, if_true]
 exact ⟨⟨z1, z2, z3, z4⟩, fun h => absurd h (by rw [c]; decide), ⟨k3, fun _ => dd, k7⟩, i1, i2, i4, i6, i7, i9, i10, i0, fun _ _ => ⟨b, q1, q2, q3, fun _ => rfl⟩, i11, iS, iB, iK, iW⟩))
 ·(
 have c := c12 (by omega)
 have hn := undone hr (by omega)
 obtain ⟨_, hd⟩ := ready_of hr rfl
 simp only [List.getElem?_toArray, List.getElem?_cons_succ, List.getElem?_cons_zero, Option.some.injEq] at ho
 subst ho
 obtain ⟨b, q1, q2, q3, q4⟩ := i5 (k8 (hd 8 (by decide))) c
 have e7 := q4 (hd 8 (by decide))
 have hc : W.cell? ⟨b, t2.toNat, none⟩ = some (.int .i64 (rd [0, 0, 1, 2, 4, 3, 7, 5, 6] t2)) := by
  rw [blk_cell q2]
  have cases_ : t2 = 0 ∨ t2 = 1 ∨ t2 = 2 ∨ t2 = 3 ∨ t2 = 4 ∨ t2 = 5 ∨ t2 = 6 ∨ t2 = 7 ∨ t2 = 8 := by omega
  rcases cases_ with h | h | h | h | h | h | h | h | h <;> rw [h] <;> rfl
 refine event_step rfl (v := .int .i64 (rd [0, 0, 1, 2, 4, 3, 7, 5, 6] t2)) (w1 := W) ?_ (hK _ _ ?_)
 ·(
 clear q1 q2 q3 q4 hd hn c i0 i1 i2 i4 i5 i6 i7 i9 i10 i11 iS iB iK iW ic c12 hK K k3 k8 k7 BK HB1 HG L1 L2 L3 HI HB HL A1 A2
 generalize rd [0, 0, 1, 2, 4, 3, 7, 5, 6] t2 = x at *
 generalize a.eval = ρ at *
 first | (go_simp; done) | (go_simp; rfl))
 ·(
 unfold spec_l71Label.Inv
 simp only [getD_set (show 9 < l.length by omega), eval_put (show 13 < a.tmps.size by omega), size_put, defers_put, Nat.reduceEqDiff, if_false, if_true]
 exact ⟨⟨z1, z2, z3, z4⟩, fun h => absurd h (by rw [c]; decide), ⟨k3, k8, k7⟩, i1, i2, i4, i6, i7, (by first | exact True.intro | exact fun _ => True.intro | exact fun _ => rfl), i10, i0, i5, i11, iS, iB, iK, iW⟩))
 ·(
 have c := c12 (by omega)
 have hn := undone hr (by omega)
 obtain ⟨_, hd⟩ := ready_of hr rfl
 simp only [List.getElem?_toArray, List.getElem?_cons_succ, List.getElem?_cons_zero, Option.some.injEq] at ho
 subst ho
 have e8 := i4 (hd 4 (by decide))
 have e13 := i9 (hd 9 (by decide))
 refine event_step rfl (v := .agg #[.int .i64 (rd [7, 7, 3, 5, 6, 1, 2, 4, 0] t1), .int .i64 (rd [0, 0, 1, 2, 4, 3, 7, 5, 6] t2)]) (w1 := W) ?_ (hK _ _ ?_)
 ·(
 clear hd hn c i0 i1 i2 i4 i5 i6 i7 i9 i10 i11 iS iB iK iW ic c12 hK K k3 k8 k7 BK HB1 HG L1 L2 L3 HI HB HL A1 A2
 generalize rd [7, 7, 3, 5, 6, 1, 2, 4, 0] t1 = x at *
 generalize rd [0, 0, 1, 2, 4, 3, 7, 5, 6] t2 = y at *
 generalize a.eval = ρ at *
 first | (go_simp; done) | (go_simp; rfl))
 ·(
 unfold spec_l71Label.Inv
 simp only [getD_set (show 10 < l.length by omega), eval_put (show 14 < a.tmps.size by omega), size_put, defers_put, Nat.reduceEqDiff, if_false, if_true]
 exact ⟨⟨z1, z2, z3, z4⟩, fun h => absurd h (by rw [c]; decide), ⟨k3, k8, k7⟩, i1, i2, i4, i6, i7, i9, (by first | exact True.intro | exact fun _ => True.intro | exact fun _ => rfl), i0, i5, i11, iS, iB, iK, iW⟩))
 ·(
 have c := c12 (by omega)
 have hn := undone hr (by omega)
 obtain ⟨_, hd⟩ := ready_of hr rfl
 simp only [List.getElem?_toArray, List.getElem?_cons_succ, List.getElem?_cons_zero, Option.some.injEq] at ho
 subst ho
 refine event_step rfl (v := .pointer (some ⟨W.heap.size, 0, none⟩)) (w1 := W.alloc (.cells #[.int .i64 0, .int .i64 0] 43 (0, 0))) ?_ (hK _ _ ?_)
 ·(
 clear i0 i1 i2 i4 i5 i6 i7 i9 i10 i11 iS iB iK iW ic c12 hK K k3 k8 k7 BK HB1 HG L1 L2 L3 HI HB HL A1 A2
 first | (go_simp; done) | (go_simp; rfl))
 ·(
 unfold spec_l71Label.Inv
 simp only [getD_set (show 11 < l.length by omega), eval_put (show 3 < a.tmps.size by omega), size_put, defers_put, Nat.reduceEqDiff, if_false, if_true]
 exact ⟨⟨z1, z2, z3, z4⟩, fun h => absurd h (by rw [c]; decide), ⟨k3, k8, k7⟩, i1, i2, i4, i6, i7, i9, i10, fun h h2 => (i0 h h2).elim fun b q => ⟨b, q.1, blk_alloc q.2.1 _, q.2.2⟩, fun h h2 => (i5 h h2).elim fun b q => ⟨b, q.1, blk_alloc q.2.1 _, q.2.2⟩, fun _ => ⟨W.heap.size, rfl, by rw [c]; exact blk_new W _, wW, w0W, by omega, by omega⟩, IsS84.alloc iS _, blk_alloc iB _, keep_alloc iK _, below_alloc iW _⟩))
 ·(
 have hn := undone hr (by omega)
 obtain ⟨_, hd⟩ := ready_of hr rfl
 simp only [List.getElem?_toArray, List.getElem?_cons_succ, List.getElem?_cons_zero, Option.some.injEq] at ho
 subst ho
 have d : ∀ j, j < 12 → l.getD j false = true := by
  intro j hj
  have cases_ : j = 0 ∨ j = 1 ∨ j = 2 ∨ j = 3 ∨ j = 4 ∨ j = 5 ∨ j = 6 ∨ j = 7 ∨ j = 8 ∨ j = 9 ∨ j = 10 ∨ j = 11 := by omega
  rcases cases_ with rfl | rfl | rfl | rfl | rfl | rfl | rfl | rfl | rfl | rfl | rfl | rfl <;> exact hd _ (by decide)
 obtain ⟨b, q1, q2, q3, q4, q5, q6⟩ := i11 (d 11 (by omega))
 rw [hn] at q2
 simp only [Bool.false_eq_true, if_false] at q2
 have e14 := i10 (d 10 (by omega))
 have m0 : W.cell? ⟨b, 0, none⟩ = some (.int .i64 0) := (blk_cell q2 0).trans rfl
 have m1 : W.cell? ⟨b, 1, none⟩ = some (.int .i64 0) := (blk_cell q2 1).trans rfl
 have f0 := blk_frozen q2 0
 have f1 := blk_frozen q2 1
 refine skip_ rfl rfl (w1 := (W.setCell ⟨b, 0, none⟩ (.int .i64 (rd [7, 7, 3, 5, 6, 1, 2, 4, 0] t1))).setCell ⟨b, 1, none⟩ (.int .i64 (rd [0, 0, 1, 2, 4, 3, 7, 5, 6] t2))) ?_ (hK _ _ ?_)
 ·(
 clear hd hn d q2 q3 q4 q5 q6 i0 i1 i2 i4 i5 i6 i7 i9 i10 i11 iS iB iK iW ic c12 hK K k3 k8 k7 BK HB1 HG L1 L2 L3 HI HB HL A1 A2
 generalize rd [7, 7, 3, 5, 6, 1, 2, 4, 0] t1 = x at *
 generalize rd [0, 0, 1, 2, 4, 3, 7, 5, 6] t2 = y at *
 generalize a.eval = ρ at *
 first | (go_simp; done) | (go_simp; rfl))
 ·(
 unfold spec_l71Label.Inv
 have far : ∀ {x : Nat} {o : Array Value} {t : TypeId}, W.heap[x]? = some (.cells o t (0, 0)) → x ≠ b → ((W.setCell ⟨b, 0, none⟩ (.int .i64 (rd [7, 7, 3, 5, 6, 1, 2, 4, 0] t1))).setCell ⟨b, 1, none⟩ (.int .i64 (rd [0, 0, 1, 2, 4, 3, 7, 5, 6] t2))).heap[x]? = some (.cells o t (0, 0)) := fun h hne => blk_far (blk_far h (p := ⟨b, 0, none⟩) hne _) (p := ⟨b, 1, none⟩) hne _
 simp only [getD_set (show 12 < l.length by omega), Nat.reduceEqDiff, if_false, if_true]
 exact ⟨⟨z1, z2, z3, z4⟩, fun _ j hj => by rw [if_neg (by omega)]; exact d j hj, ⟨k3, k8, k7⟩, i1, i2, i4, i6, i7, i9, i10, fun _ h => absurd h (by decide), fun _ h => absurd h (by decide), fun _ => ⟨b, q1, blk_put (blk_put q2 0 _ rfl) 1 _ rfl, q3, q4, q5, q6⟩,
  IsS84.far (p := ⟨b, 1, none⟩) (IsS84.far (p := ⟨b, 0, none⟩) iS q5 _) q5 _, far iB q6, spec_l71Label.keep_far (p := ⟨b, 1, none⟩) (spec_l71Label.keep_far (p := ⟨b, 0, none⟩) iK q3 _) q3 _, below_set (below_set iW q4) q4⟩)))
 ·(
 intro l a W hl hr hI
 have got : ∀ {i : Nat} {r : List Nat × List Nat}, i < l.length → spec_l71Label.T1.2[i]? = some r → (∀ j ∈ r.1, l.getD j false = true) → l.getD i false = true := fun h1 h2 h3 => spec_l71Label.got_of hr h1 h2 h3
 have hall : ∀ j, j < 13 → l.getD j false = true := by
  have d0 := got (i := 0) (by omega) rfl (by intro j hj; simp at hj)
  have d1 := got (i := 1) (by omega) rfl (by intro j hj; simp at hj)
  have d5 := got (i := 5) (by omega) rfl (by intro j hj; simp at hj)
  have d6 := got (i := 6) (by omega) rfl (by intro j hj; simp at hj)
  have d11 := got (i := 11) (by omega) rfl (by intro j hj; simp at hj)
  have d2 := got (i := 2) (by omega) rfl (by intro j hj; simp only [List.mem_cons, List.not_mem_nil, or_false] at hj; rw [hj]; exact d1)
  have d3 := got (i := 3) (by omega) rfl (by intro j hj; simp only [List.mem_cons, List.not_mem_nil, or_false] at hj; rcases hj with hj | hj <;> rw [hj] <;> assumption)
  have d4 := got (i := 4) (by omega) rfl (by intro j hj; simp only [List.mem_cons, List.not_mem_nil, or_false] at hj; rw [hj]; exact d3)
  have d7 := got (i := 7) (by omega) rfl (by intro j hj; simp only [List.mem_cons, List.not_mem_nil, or_false] at hj; rcases hj with hj | hj <;> rw [hj] <;> assumption)
  have d8 := got (i := 8) (by omega) rfl (by intro j hj; simp only [List.mem_cons, List.not_mem_nil, or_false] at hj; rcases hj with hj | hj <;> rw [hj] <;> assumption)
  have d9 := got (i := 9) (by omega) rfl (by intro j hj; simp only [List.mem_cons, List.not_mem_nil, or_false] at hj; rw [hj]; exact d8)
  have d10 := got (i := 10) (by omega) rfl (by intro j hj; simp only [List.mem_cons, List.not_mem_nil, or_false] at hj; rcases hj with hj | hj <;> rw [hj] <;> assumption)
  have d12 := got (i := 12) (by omega) rfl (by intro j hj; simp only [List.mem_cons, List.not_mem_nil, or_false] at hj; rcases hj with hj | hj | hj | hj | hj | hj | hj | hj | hj | hj | hj | hj | hj | hj | hj <;> rw [hj] <;> assumption)
  intro j hj
  have cases_ : j = 0 ∨ j = 1 ∨ j = 2 ∨ j = 3 ∨ j = 4 ∨ j = 5 ∨ j = 6 ∨ j = 7 ∨ j = 8 ∨ j = 9 ∨ j = 10 ∨ j = 11 ∨ j = 12 := by omega
  rcases cases_ with rfl | rfl | rfl | rfl | rfl | rfl | rfl | rfl | rfl | rfl | rfl | rfl | rfl <;> assumption
 obtain ⟨⟨z1, z2, z3, z4⟩, -, -, -, -, -, -, -, -, -, -, -, i11, iS, iB, iK, iW⟩ := hI
 obtain ⟨b, q1, q2, q3, q4, q5, q6⟩ := i11 (hall 11 (by omega))
 rw [hall 12 (by omega)] at q2
 rw [hall 7 (by omega)] at iS
 simp only [if_true] at q2 iS
 clear i11 hall got hr hl
 obtain ⟨T, D⟩ := a
 obtain ⟨T⟩ := T
 obtain ⟨x0, x1, x2, x3, x4, x5, x6, x7, x8, x9, x10, x11, x12, x13, x14, x15, rfl⟩ : ∃ x0 x1 x2 x3 x4 x5 x6 x7 x8 x9 x10 x11 x12 x13 x14 x15, T = [x0, x1, x2, x3, x4, x5, x6, x7, x8, x9, x10, x11, x12, x13, x14, x15] := by
  match T, z1 with
  | [x0, x1, x2, x3, x4, x5, x6, x7, x8, x9, x10, x11, x12, x13, x14, x15], _ => exact ⟨_, _, _, _, _, _, _, _, _, _, _, _, _, _, _, _, rfl⟩
 have e2 : x2 = .pointer (some ⟨gb, 0, none⟩) := z4
 have e3 : x3 = .pointer (some ⟨b, 0, none⟩) := q1
 have e4 : D = [] := z2
 subst e2 e3 e4
 clear z1 z2 z3 z4 q1
 have m0 : W.cell? ⟨b, 0, none⟩ = some (.int .i64 (rd [7, 7, 3, 5, 6, 1, 2, 4, 0] t1)) := (blk_cell q2 0).trans rfl
 have m1 : W.cell? ⟨b, 1, none⟩ = some (.int .i64 (rd [0, 0, 1, 2, 4, 3, 7, 5, 6] t2)) := (blk_cell q2 1).trans rfl
 have n0 : W.cell? ⟨gb, 0, none⟩ = some (.int .i64 0) := (blk_cell iB 0).trans rfl
 have n1 : W.cell? ⟨gb, 1, none⟩ = some (.int .i64 0) := (blk_cell iB 1).trans rfl
 have f0 := blk_frozen iB 0
 have f1 := blk_frozen iB 1
 have L1' := L1.out
 have L2' := L2.out
 have L3' := L3.out
 have P1 := blk_put (cs := #[.int .i64 (rd [7, 7, 3, 5, 6, 1, 2, 4, 0] t1), .int .i64 0]) (blk_put iB 0 (.int .i64 (rd [7, 7, 3, 5, 6, 1, 2, 4, 0] t1)) rfl) 1 (.int .i64 (rd [0, 0, 1, 2, 4, 3, 7, 5, 6] t2)) rfl
 have P2 := IsS84.far (p := ⟨gb, 1, none⟩) (IsS84.far (p := ⟨gb, 0, none⟩) iS L3' (.int .i64 (rd [7, 7, 3, 5, 6, 1, 2, 4, 0] t1))) L3' (.int .i64 (rd [0, 0, 1, 2, 4, 3, 7, 5, 6] t2))
 have P3 := below_set (g := gb) (j := 1) (v := .int .i64 (rd [0, 0, 1, 2, 4, 3, 7, 5, 6] t2)) (below_set (g := gb) (j := 0) (v := .int .i64 (rd [7, 7, 3, 5, 6, 1, 2, 4, 0] t1)) iW L2') L2'
 have P4 := spec_l71Label.keep_far (p := ⟨gb, 1, none⟩) (spec_l71Label.keep_far (p := ⟨gb, 0, none⟩) iK L1' (.int .i64 (rd [7, 7, 3, 5, 6, 1, 2, 4, 0] t1))) L1' (.int .i64 (rd [0, 0, 1, 2, 4, 3, 7, 5, 6] t2))
 clear HI HB HL HG BK HB1 A1 A2 q2 q3 q4 q5 q6 iS iB iK iW
 go_wp2
 refine bodyPost_ret (results_cell_row rfl _ _ gb 43 #[.int .i64 (rd [7, 7, 3, 5, 6, 1, 2, 4, 0] t1), .int .i64 (rd [0, 0, 1, 2, 4, 3, 7, 5, 6] t2)] (0, 0) _ rfl P1 hu rfl (by kernel_rfl)) rfl ?_
 exact ⟨rfl, P2, P3, P4⟩)

end Go.Proofs.YtfcmckomagaiiaaDoor.A
