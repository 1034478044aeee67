/- Go functions as Lean functions, and for each its contract; written by wip/tools/pr.py over the kit's print. -/
import Derived.Test.YthidgkfgdkjghaaAx0
import Derived.Test.YthidgkfgdkjghaaAx3
import Derived.Test.YthidgkfgdkjghaaAx17
namespace Go.Proofs.Ythidgkfgdkjghaa.A
open Go.RowKit Go.Proofs.YthidgkfgdkjghaaW.PrintWords Go.Proofs.YthidgkfgdkjghaaW.PrintLast Go.Proofs.YthidgkfgdkjghaaW.PrintMore
attribute [local go_sem] max2_int min2_int max_two min_two max_three min_three max_four min_four
set_option linter.unusedVariables false
set_option linter.unusedSimpArgs false
set_option maxHeartbeats 8000000
set_option maxRecDepth 100000

/-! ### spec_l71Bent: function 56 -/
mutual
def spec_l71Bent.l0 : Nat → List Int → Int → List (S39) → List (S32) → Option ((List (S39)) × (List (S32)) × Int)
 | 0, _, _, _, _ => none
 | k + 1, x1000, x1001, x434000, x434001 => if (x434001.length : Int) ≤ 8 then (if x434001.length < 1466015503701 then (spec_l71Bent.l0 k x1000 x1001 x434000 (x434001 ++ [(⟨3, 0, (⟨0, 0, 0⟩ : S30), 0, ([] : List (S32)), ([] : List (S32))⟩ : S32)])) else (none)) else (some (x434000, x434001, x1001))
def spec_l71Bent.l1 : Nat → Int → List Int → Int → List (S39) → List (S32) → Option ((List (S39)) × (List (S32)) × Int)
 | 0, _, _, _, _, _ => none
 | k + 1, x6, x1000, x1001, x434000, x434001 => if x6 < 4 then (spec_l71Bent.l1 k (wrap64 (x6 + 1)) x1000 x1001 x434000 (([(⟨2, 0, (⟨0, 0, 0⟩ : S30), 0, x434001, ([] : List (S32))⟩ : S32)] : List (S32)))) else (some (x434000, x434001, x1001))
end
def spec_l71Bent.f (k : Nat) (s0_0 : List Int) (s0_1 : Int) (l1_0 : List (S39)) (l1_1 : List (S32)) : Option ((List (S39)) × (List (S32)) × Int) := (some (([] : List (S39)) : List (S39))).bind fun y424 => (if y424.length + l1_0.length < 8796093022208 then ((some (y424 ++ l1_0 : List (S39))).bind fun y427 => ((spec_l2Copy.f k l1_1).bind fun t430 => ((spec_l6Rd_pick.f k s0_0 s0_1 8).bind fun bt434 => (if bt434.1 = 0 then (if 0 < (y427.length : Int) then (some ((y427.set (0 : Int).toNat (⟨8, (rd_T39 y427 0).f1⟩ : S39)), t430, bt434.2)) else (none)) else (if bt434.1 = 1 then ((spec_l6Rd_pick.f k s0_0 bt434.2 6).bind fun bt437 => (if t430.length < 1466015503701 then (some (y427, (t430 ++ [(⟨wrap64 (bt437.1 - 1), 0, (⟨0, 0, 0⟩ : S30), 0, ([] : List (S32)), ([] : List (S32))⟩ : S32)]), bt437.2)) else (none))) else (if bt434.1 = 2 then (if t430.length < 1466015503701 then (some (y427, (t430 ++ [(⟨1, (y427.length : Int), (⟨1, 0, 0⟩ : S30), 0, ([] : List (S32)), ([] : List (S32))⟩ : S32)]), bt434.2)) else (none)) else (if bt434.1 = 3 then ((some (([1, 1, 2, 3, 0, 5] : List Int) : List Int)).bind fun y445 => ((spec_l6Rd_pick.f k s0_0 bt434.2 6).bind fun bt448 => (if 0 ≤ bt448.1 then (if bt448.1 < (y445.length : Int) then ((some (([10, (-1), 4] : List Int) : List Int)).bind fun y451 => ((spec_l6Rd_pick.f k s0_0 bt448.2 3).bind fun bt454 => (if 0 ≤ bt454.1 then (if bt454.1 < (y451.length : Int) then (if t430.length < 1466015503701 then (some (y427, (t430 ++ [(⟨1, 0, (⟨rd y445 bt448.1, rd y451 bt454.1, 0⟩ : S30), 0, ([] : List (S32)), ([] : List (S32))⟩ : S32)]), bt454.2)) else (none)) else (none)) else (none)))) else (none)) else (none)))) else (if bt434.1 = 4 then (spec_l71Bent.l0 k s0_0 bt434.2 y427 t430) else (if bt434.1 = 5 then (spec_l71Bent.l1 k 0 s0_0 bt434.2 y427 t430) else (if bt434.1 = 6 then ((some (([(⟨0, 0⟩ : S39), (⟨0, 0⟩ : S39), (⟨0, 0⟩ : S39), (⟨0, 0⟩ : S39)] : List (S39)) : List (S39))).bind fun y466 => (if y427.length + y466.length < 8796093022208 then (some ((y427 ++ y466), t430, bt434.2)) else (none))) else (if t430.length < 1466015503701 then (some (y427, (t430 ++ [(⟨3, 0, (⟨0, 0, 0⟩ : S30), 3, ([] : List (S32)), ([] : List (S32))⟩ : S32)]), bt434.2)) else (none)))))))))))) else (none))
def spec_l71Bent.T1 : Bool × List (List Nat × List Nat) := (true, [([], []), ([], []), ([1], [1]), ([0, 2], [0, 2]), ([], []), ([4], [4]), ([5, 3], [5]), ([3, 6], [3, 6]), ([], []), ([8, 7, 6, 0, 1, 2, 3, 4, 5, 6, 7, 8], [7, 8])])
def spec_l71Bent.B1 : List Nat := [0, 0, 2, 7, 0, 16, 63, 127, 0, 511]
theorem spec_l71Bent.tab1 : rtab .any (opsOf Try.f56 1) = spec_l71Bent.T1 := by kernel_rfl
theorem spec_l71Bent.bits1 : waitsOk spec_l71Bent.T1.2 spec_l71Bent.B1 = true := by kernel_rfl
def spec_l71Bent.T7 : Bool × List (List Nat × List Nat) := (true, [([], []), ([0], [0]), ([], []), ([2], [2]), ([3], [3]), ([4], [4]), ([5], [5]), ([1, 6, 3], [1, 6]), ([0, 1, 2, 3, 4, 5, 6, 7], []), ([8, 7, 7, 0, 1, 2, 3, 4, 5, 6, 7], [7, 8])])
def spec_l71Bent.B7 : List Nat := [0, 1, 0, 4, 12, 28, 60, 127, 255, 511]
theorem spec_l71Bent.tab7 : rtab .any (opsOf Try.f56 7) = spec_l71Bent.T7 := by kernel_rfl
theorem spec_l71Bent.bits7 : waitsOk spec_l71Bent.T7.2 spec_l71Bent.B7 = true := by kernel_rfl
def spec_l71Bent.T11 : Bool × List (List Nat × List Nat) := (true, [([], []), ([0], [0]), ([], []), ([], []), ([3], [3]), ([2, 4], [2, 4]), ([5], [5]), ([], []), ([], []), ([8, 4], [8]), ([7, 9], [7, 9]), ([10], [10]), ([6, 11], [6, 11]), ([12], [12]), ([13], [13]), ([1, 14, 9], [1, 14]), ([0, 1, 2, 3, 4, 5, 6, 7, 8, 9, 10, 11, 12, 13, 14, 15], []), ([16, 15, 15, 0, 1, 2, 3, 4, 5, 6, 7, 8, 9, 10, 11, 12, 13, 14, 15], [15, 16])])
def spec_l71Bent.B11 : List Nat := [0, 1, 0, 0, 8, 28, 60, 0, 0, 280, 920, 1944, 4092, 8188, 16380, 32767, 65535, 131071]
theorem spec_l71Bent.tab11 : rtab .any (opsOf Try.f56 11) = spec_l71Bent.T11 := by kernel_rfl
theorem spec_l71Bent.bits11 : waitsOk spec_l71Bent.T11.2 spec_l71Bent.B11 = true := by kernel_rfl
/-- What holds of each part of the region's first operations that may be done: l tells what is done. -/
def spec_l71Bent.Inv (w0 W0 : World) (g : Nat) (s : List Int) (p p1 p2 t1 t2 : Int) (a0 : Act) (l : List Bool) (a : Act) (W : World) : Prop :=
 ((l.getD 0 false = true ∧ l.getD 1 false = true ∧ l.getD 3 false = true ∧ l.getD 8 false = true) ∧ l.getD 12 false = false ∧ l.getD 13 false = false ∧ l.getD 14 false = false ∧ l.getD 15 false = false ∧ l.getD 16 false = false ∧ l.getD 17 false = false) ∧
 Cl spec_l71Bent.T11.2 l ∧ Same [56, 58, 59, 60, 61, 63, 64, 65] a0 a ∧
 (l.getD 4 false = true → a.eval (.tmp 58) = .int .i64 t1) ∧ (l.getD 6 false = true → a.eval (.tmp 60) = .int .i64 (rd [1, 1, 2, 3, 0, 5] t1)) ∧
 (l.getD 9 false = true → a.eval (.tmp 63) = .int .i64 t2) ∧ (l.getD 11 false = true → a.eval (.tmp 65) = .int .i64 (rd [10, (-1), 4] t2)) ∧
 (l.getD 2 false = true → ∃ b, a.eval (.tmp 56) = .slice (some ⟨b, 0, none⟩) 6 6 ∧ W.heap[b]? = some (.cells #[.int .i64 1, .int .i64 1, .int .i64 2, .int .i64 3, .int .i64 0, .int .i64 5] 3 (0, 0)) ∧ g ≠ b ∧ W0.heap.size ≤ b ∧ (l.getD 5 false = true → a.eval (.tmp 59) = .pointer (some ⟨b, t1.toNat, none⟩))) ∧
 (l.getD 7 false = true → ∃ b, a.eval (.tmp 61) = .slice (some ⟨b, 0, none⟩) 3 3 ∧ W.heap[b]? = some (.cells #[.int .i64 10, .int .i64 (-1), .int .i64 4] 3 (0, 0)) ∧ g ≠ b ∧ W0.heap.size ≤ b ∧ (l.getD 10 false = true → a.eval (.tmp 64) = .pointer (some ⟨b, t2.toNat, none⟩))) ∧
 IsS64 w0 W g s (if l.getD 9 false = true then p2 else if l.getD 4 false = true then p1 else p) ∧ KeepBut W0 W g none ∧ Below w0.heap.size w0 W
/-- When the first operations are done. -/
def spec_l71Bent.stop (l : List Bool) : Bool := l.getD 6 false && l.getD 11 false
theorem spec_l71Bent.rows {l : List Bool} (h : Cl spec_l71Bent.T11.2 l) : (l.getD 6 false = true → l.getD 5 false = true) ∧ (l.getD 5 false = true → l.getD 2 false = true ∧ l.getD 4 false = true) ∧ (l.getD 11 false = true → l.getD 10 false = true) ∧ (l.getD 10 false = true → l.getD 7 false = true ∧ l.getD 9 false = true) ∧ (l.getD 9 false = true → l.getD 4 false = true) :=
 ⟨fun e => h 6 _ rfl e 5 (by decide), fun e => ⟨h 5 _ rfl e 2 (by decide), h 5 _ rfl e 4 (by decide)⟩, fun e => h 11 _ rfl e 10 (by decide), fun e => ⟨h 10 _ rfl e 7 (by decide), h 10 _ rfl e 9 (by decide)⟩, fun e => h 9 _ rfl e 4 (by decide)⟩
set_option maxHeartbeats 8000000 in
set_option maxRecDepth 100000 in
theorem spec_l71Bent.pre {ops : Array Oper} {Q : Exit → Act → World → Prop} {S : World → Prop} {w0 W0 : World} {g k : Nat} {s : List Int} {p p1 p2 t1 t2 : Int} {a0 : Act}
  (HT : rtab .any ops = spec_l71Bent.T11)
  (o2 : ∃ po af, ops[2]? = some ⟨some 56, .buildSlice 78 6 #[(0, .const (.int .i64 1)), (1, .const (.int .i64 1)), (2, .const (.int .i64 2)), (3, .const (.int .i64 3)), (4, .const (.int .i64 0)), (5, .const (.int .i64 5))], 78, po, af, none⟩)
  (o4 : ∃ ts po af, ops[4]? = some ⟨some 58, .call { callee := .value (.func 39), args := #[.tmp 57, .const (.int .i64 6)], argTypes := ts }, 3, po, af, none⟩)
  (o5 : ∃ po af, ops[5]? = some ⟨some 59, .indexAddr 78 (.tmp 56) (.tmp 58), 0, po, af, none⟩) (o6 : ∃ po af, ops[6]? = some ⟨some 60, .load 3 (.tmp 59), 3, po, af, none⟩)
  (o7 : ∃ po af, ops[7]? = some ⟨some 61, .buildSlice 78 3 #[(0, .const (.int .i64 10)), (1, .const (.int .i64 (-1))), (2, .const (.int .i64 4))], 78, po, af, none⟩)
  (o9 : ∃ ts po af, ops[9]? = some ⟨some 63, .call { callee := .value (.func 39), args := #[.tmp 62, .const (.int .i64 3)], argTypes := ts }, 3, po, af, none⟩)
  (o10 : ∃ po af, ops[10]? = some ⟨some 64, .indexAddr 78 (.tmp 61) (.tmp 63), 0, po, af, none⟩) (o11 : ∃ po af, ops[11]? = some ⟨some 65, .load 3 (.tmp 64), 3, po, af, none⟩)
  (hn : ops.size = 18) (A1 : spec_l6Rd_pick.f k s p 6 = some (t1, p1)) (A2 : spec_l6Rd_pick.f k s p1 3 = some (t2, p2)) (b1 : 0 ≤ t1) (b2 : t1 < 6) (b3 : 0 ≤ t2) (b4 : t2 < 3)
  (e57 : a0.eval (.tmp 57) = .pointer (some ⟨g, 0, none⟩)) (e62 : a0.eval (.tmp 62) = .pointer (some ⟨g, 0, none⟩)) (hz : 66 ≤ a0.tmps.size)
  (hS : ∀ W, KeepBut W0 W g none → S W) (HI : IsS64 w0 W0 g s p) (HB : Below w0.heap.size w0 W0)
  (fin : ∀ b b' W, b ≠ b' → W0.heap.size ≤ b → W0.heap.size ≤ b' → W.heap[b]? = some (.cells #[.int .i64 1, .int .i64 1, .int .i64 2, .int .i64 3, .int .i64 0, .int .i64 5] 3 (0, 0)) → W.heap[b']? = some (.cells #[.int .i64 10, .int .i64 (-1), .int .i64 4] 3 (0, 0)) → IsS64 w0 W g s p2 → KeepBut W0 W g none → Below w0.heap.size w0 W →
   wpAnyLast Try.prog .any ops Q S [17] 6 #[T,T,T,T,T,T,T,T,T,T,T,T,F,F,F,F,F,F] (putAll a0 [(56, .slice (some ⟨b, 0, none⟩) 6 6), (58, .int .i64 t1), (60, .int .i64 (rd [1, 1, 2, 3, 0, 5] t1)), (61, .slice (some ⟨b', 0, none⟩) 3 3), (63, .int .i64 t2), (65, .int .i64 (rd [10, (-1), 4] t2)), (59, .pointer (some ((⟨b, 0, none⟩ : Addr).add t1.toNat))), (64, .pointer (some ((⟨b', 0, none⟩ : Addr).add t2.toNat)))]) W) :
  wpAnyLast Try.prog .any ops Q S [17] 14 #[T,T,F,T,F,F,F,F,T,F,F,F,F,F,F,F,F,F] a0 W0 := by
 have gl := IsS64.lt HI
 refine last_inv (n := 18) HT (spec_l71Bent.Inv w0 W0 g s p p1 p2 t1 t2 a0) spec_l71Bent.stop (fun l a W h => hS W h.2.2.2.2.2.2.2.2.2.2.1) ?_ ?_ ?_ 14 _ a0 W0 rfl (by decide) ?_
 · -- some operation may be done
  intro l a W hl hs hI
  obtain ⟨⟨⟨h0, h1, h3, h8⟩, _⟩, hc, _⟩ := hI
  obtain ⟨r6, r5, r11, r10, r9⟩ := spec_l71Bent.rows hc
  intro hr
  have got : ∀ {i : Nat} {r : List Nat × List Nat}, i < l.length → spec_l71Bent.T11.2[i]? = some r → (∀ j ∈ r.1, l.getD j false = true) → l.getD i false = true := by
   intro i r hi hri hd
   cases hq : l.getD i false with
   | true => rfl
   | false =>
    have : i ∈ readyT spec_l71Bent.T11.2 l := by
     unfold readyT
     rw [List.mem_filter, List.mem_range]
     refine ⟨(List.getElem?_eq_some_iff.1 hri).1, ?_⟩
     unfold readyAt
     rw [hri, Bool.and_eq_true, Bool.not_eq_true', List.all_eq_true]
     refine ⟨?_, hd⟩
     rw [List.getD_eq_getElem?_getD, List.getElem?_eq_getElem hi] at hq ⊢
     exact hq
    rw [hr] at this
    cases this
  have d2 := got (i := 2) (by omega) rfl (by intro j hj; simp at hj)
  have d7 := got (i := 7) (by omega) rfl (by intro j hj; simp at hj)
  have d4 := got (i := 4) (by omega) rfl (by intro j hj; simp only [List.mem_cons, List.not_mem_nil, or_false] at hj; rw [hj]; exact h3)
  have d9 := got (i := 9) (by omega) rfl (by intro j hj; simp only [List.mem_cons, List.not_mem_nil, or_false] at hj; rcases hj with hj | hj <;> rw [hj] <;> assumption)
  have d5 := got (i := 5) (by omega) rfl (by intro j hj; simp only [List.mem_cons, List.not_mem_nil, or_false] at hj; rcases hj with hj | hj <;> rw [hj] <;> assumption)
  have d6 := got (i := 6) (by omega) rfl (by intro j hj; simp only [List.mem_cons, List.not_mem_nil, or_false] at hj; rw [hj]; exact d5)
  have d10 := got (i := 10) (by omega) rfl (by intro j hj; simp only [List.mem_cons, List.not_mem_nil, or_false] at hj; rcases hj with hj | hj <;> rw [hj] <;> assumption)
  have d11 := got (i := 11) (by omega) rfl (by intro j hj; simp only [List.mem_cons, List.not_mem_nil, or_false] at hj; rw [hj]; exact d10)
  rw [spec_l71Bent.stop, d6, d11] at hs
  cases hs
 · -- one operation
  intro i o l a W ho hl hr hs hI K hK
  have hi : i < 18 := hn ▸ (Array.getElem?_eq_some_iff.1 ho).1
  have cl := hI.2.1
  obtain ⟨⟨⟨h0, h1, h3, h8⟩, h12, h13, h14, h15, h16, h17⟩, _, sm, i4, i6, i9, i11, i2, i7, iS, iK, iW⟩ := hI
  obtain ⟨r6, r5, r11, r10, r9⟩ := spec_l71Bent.rows cl
  have hu := undone hr (by omega)
  have cl' := cl_set cl hr (by omega)
  have hz' : 66 ≤ a.tmps.size := by rw [sm.1]; exact hz
  have gW : g < W.heap.size := IsS64.lt iS
  have wW : W0.heap.size ≤ W.heap.size := iK.1
  have cases_ : i = 0 ∨ i = 1 ∨ i = 2 ∨ i = 3 ∨ i = 4 ∨ i = 5 ∨ i = 6 ∨ i = 7 ∨ i = 8 ∨ i = 9 ∨ i = 10 ∨ i = 11 ∨ i = 12 ∨ i = 13 ∨ i = 14 ∨ i = 15 ∨ i = 16 ∨ i = 17 := by omega
  rcases cases_ with rfl | rfl | rfl | rfl | rfl | rfl | rfl | rfl | rfl | rfl | rfl | rfl | rfl | rfl | rfl | rfl | rfl | rfl
  ·exact absurd h0 (by rw [hu]; decide)
  ·exact absurd h1 (by rw [hu]; decide)
  ·skip
   obtain ⟨po, af, e_⟩ := o2
   rw [e_] at ho
   obtain rfl := Option.some.inj ho
   clear e_ ho
   refine event_step rfl (v := .slice (some ⟨W.heap.size, 0, none⟩) 6 6) (w1 := W.alloc (.cells #[.int .i64 1, .int .i64 1, .int .i64 2, .int .i64 3, .int .i64 0, .int .i64 5] 3 (0, 0))) ?_ (hK _ _ ?_)
   ·clear i4 i6 i9 i11 i2 i7 iS iK iW cl cl' r6 r5 r11 r10 r9 sm hs hr hK K fin HI HB hS A1 A2 o4 o5 o6 o7 o9 o10 o11 h0 h1 h3 h8 h12 h13 h14 h15 h16 h17 hu HT
    first | (go_simp; done) | (go_simp; rfl)
   ·unfold spec_l71Bent.Inv
    simp only [getD_set (show 2 < l.length by omega), eval_put (show 56 < a.tmps.size by omega), Nat.reduceEqDiff, if_false, if_true]
    exact ⟨⟨⟨h0, h1, h3, h8⟩, h12, h13, h14, h15, h16, h17⟩, cl', sm.put (by decide) (by omega) _, i4, i6, i9, i11, fun _ => ⟨W.heap.size, rfl, blk_new W _, by omega, wW, fun h => absurd (r5 h).1 (by rw [hu]; decide)⟩, fun h => (i7 h).elim fun b q => ⟨b, q.1, blk_alloc q.2.1 _, q.2.2⟩, IsS64.alloc iS _, keep_alloc iK _, below_alloc iW _⟩
  ·exact absurd h3 (by rw [hu]; decide)
  ·skip
   obtain ⟨ts, po, af, e_⟩ := o4
   rw [e_] at ho
   obtain rfl := Option.some.inj ho
   clear e_ ho
   have e := (sm.2.2 57 (by decide)).trans e57
   have c9 : l.getD 9 false = false := by
    cases hq : l.getD 9 false with
    | false => rfl
    | true => exact absurd (r9 hq) (by rw [hu]; decide)
   rw [c9, hu] at iS
   simp only [Bool.false_eq_true, if_false, if_true] at iS
   refine goes_ Try.func39 (by kernel_rfl) rfl #[.pointer (some ⟨g, 0, none⟩), .int .i64 6] rfl rfl rfl (by simp only [List.map_toArray, List.map_cons, List.map_nil, e]; rfl) ?_
   refine (spec_l6Rd_pick.calls k g s p 6 t1 p1 w0 W iS iW A1).mono ?_
   rintro e_ W2 ⟨rfl, hS2, hB, hk⟩
   refine ⟨_, rfl, hK _ _ ?_⟩
   unfold spec_l71Bent.Inv
   simp only [getD_set (show 4 < l.length by omega), eval_put (show 58 < a.tmps.size by omega), Nat.reduceEqDiff, if_false, if_true, c9, Bool.false_eq_true]
   exact ⟨⟨⟨h0, h1, h3, h8⟩, h12, h13, h14, h15, h16, h17⟩, cl', sm.put (by decide) (by omega) _, (by first | exact True.intro | exact fun _ => True.intro | exact fun _ => rfl), i6, (by first | exact fun h => absurd h (by rw [c9]; decide) | exact fun h => h.elim), i11, fun h => (i2 h).elim fun b q => ⟨b, q.1, hk.blk q.2.1 (Ne.symm q.2.2.1) (by simp), q.2.2⟩, fun h => (i7 h).elim fun b q => ⟨b, q.1, hk.blk q.2.1 (Ne.symm q.2.2.1) (by simp), q.2.2⟩, hS2, iK.trans hk (.inl rfl), hB⟩
  ·skip
   obtain ⟨po, af, e_⟩ := o5
   rw [e_] at ho
   obtain rfl := Option.some.inj ho
   clear e_ ho
   have hd := (ready_of hr rfl).2
   have ev := i4 (hd 4 (by decide))
   obtain ⟨b, q1, q2, q3, q4, q5⟩ := i2 (hd 2 (by decide))
   refine event_step rfl (v := .pointer (some ⟨b, t1.toNat, none⟩)) (w1 := W) ?_ (hK _ _ ?_)
   ·clear q2 q5 hd; clear i4 i6 i9 i11 i2 i7 iS iK iW cl cl' r6 r5 r11 r10 r9 sm hs hr hK K fin HI HB hS A1 A2 o2 o4 o6 o7 o9 o10 o11 h0 h1 h3 h8 h12 h13 h14 h15 h16 h17 hu HT
    generalize a.eval = ρ at *
    first | (go_simp; done) | (go_simp; rfl)
   ·unfold spec_l71Bent.Inv
    simp only [getD_set (show 5 < l.length by omega), eval_put (show 59 < a.tmps.size by omega), Nat.reduceEqDiff, if_false, if_true]
    exact ⟨⟨⟨h0, h1, h3, h8⟩, h12, h13, h14, h15, h16, h17⟩, cl', sm.put (by decide) (by omega) _, i4, i6, i9, i11, fun _ => ⟨b, q1, q2, q3, q4, fun _ => rfl⟩, i7, iS, iK, iW⟩
  ·skip
   obtain ⟨po, af, e_⟩ := o6
   rw [e_] at ho
   obtain rfl := Option.some.inj ho
   clear e_ ho
   have hd := (ready_of hr rfl).2
   have d5 := hd 5 (by decide)
   obtain ⟨b, q1, q2, q3, q4, q5⟩ := i2 (r5 d5).1
   have e7 := q5 d5
   have hc : W.cell? ⟨b, t1.toNat, none⟩ = some (.int .i64 (rd [1, 1, 2, 3, 0, 5] t1)) := by
    rw [blk_cell q2]
    have cases_ : t1 = 0 ∨ t1 = 1 ∨ t1 = 2 ∨ t1 = 3 ∨ t1 = 4 ∨ t1 = 5 := by omega
    rcases cases_ with h | h | h | h | h | h <;> rw [h] <;> rfl
   refine event_step rfl (v := .int .i64 (rd [1, 1, 2, 3, 0, 5] t1)) (w1 := W) ?_ (hK _ _ ?_)
   ·clear q1 q2 q3 q4 q5 hd d5; clear i4 i6 i9 i11 i2 i7 iS iK iW cl cl' r6 r5 r11 r10 r9 sm hs hr hK K fin HI HB hS A1 A2 o2 o4 o5 o7 o9 o10 o11 h0 h1 h3 h8 h12 h13 h14 h15 h16 h17 hu HT
    generalize rd [1, 1, 2, 3, 0, 5] t1 = x at *
    generalize a.eval = ρ at *
    first | (go_simp; done) | (go_simp; rfl)
   ·unfold spec_l71Bent.Inv
    simp only [getD_set (show 6 < l.length by omega), eval_put (show 60 < a.tmps.size by omega), Nat.reduceEqDiff, if_false, if_true]
    exact ⟨⟨⟨h0, h1, h3, h8⟩, h12, h13, h14, h15, h16, h17⟩, cl', sm.put (by decide) (by omega) _, i4, (by first | exact True.intro | exact fun _ => True.intro | exact fun _ => rfl), i9, i11, i2, i7, iS, iK, iW⟩
  ·skip
   obtain ⟨po, af, e_⟩ := o7
   rw [e_] at ho
   obtain rfl := Option.some.inj ho
   clear e_ ho
   refine event_step rfl (v := .slice (some ⟨W.heap.size, 0, none⟩) 3 3) (w1 := W.alloc (.cells #[.int .i64 10, .int .i64 (-1), .int .i64 4] 3 (0, 0))) ?_ (hK _ _ ?_)
   ·clear i4 i6 i9 i11 i2 i7 iS iK iW cl cl' r6 r5 r11 r10 r9 sm hs hr hK K fin HI HB hS A1 A2 o2 o4 o5 o6 o9 o10 o11 h0 h1 h3 h8 h12 h13 h14 h15 h16 h17 hu HT
    first | (go_simp; done) | (go_simp; rfl)
   ·unfold spec_l71Bent.Inv
    simp only [getD_set (show 7 < l.length by omega), eval_put (show 61 < a.tmps.size by omega), Nat.reduceEqDiff, if_false, if_true]
    exact ⟨⟨⟨h0, h1, h3, h8⟩, h12, h13, h14, h15, h16, h17⟩, cl', sm.put (by decide) (by omega) _, i4, i6, i9, i11, fun h => (i2 h).elim fun b q => ⟨b, q.1, blk_alloc q.2.1 _, q.2.2⟩, fun _ => ⟨W.heap.size, rfl, blk_new W _, by omega, wW, fun h => absurd (r10 h).1 (by rw [hu]; decide)⟩, IsS64.alloc iS _, keep_alloc iK _, below_alloc iW _⟩
  ·exact absurd h8 (by rw [hu]; decide)
  ·skip
   obtain ⟨ts, po, af, e_⟩ := o9
   rw [e_] at ho
   obtain rfl := Option.some.inj ho
   clear e_ ho
   have e := (sm.2.2 62 (by decide)).trans e62
   have c4 := (ready_of hr rfl).2 4 (by decide)
   rw [hu, c4] at iS
   simp only [Bool.false_eq_true, if_false, if_true] at iS
   refine goes_ Try.func39 (by kernel_rfl) rfl #[.pointer (some ⟨g, 0, none⟩), .int .i64 3] rfl rfl rfl (by simp only [List.map_toArray, List.map_cons, List.map_nil, e]; rfl) ?_
   refine (spec_l6Rd_pick.calls k g s p1 3 t2 p2 w0 W iS iW A2).mono ?_
   rintro e_ W2 ⟨rfl, hS2, hB, hk⟩
   refine ⟨_, rfl, hK _ _ ?_⟩
   unfold spec_l71Bent.Inv
   simp only [getD_set (show 9 < l.length by omega), eval_put (show 63 < a.tmps.size by omega), Nat.reduceEqDiff, if_false, if_true]
   exact ⟨⟨⟨h0, h1, h3, h8⟩, h12, h13, h14, h15, h16, h17⟩, cl', sm.put (by decide) (by omega) _, i4, i6, (by first | exact True.intro | exact fun _ => True.intro | exact fun _ => rfl), i11, fun h => (i2 h).elim fun b q => ⟨b, q.1, hk.blk q.2.1 (Ne.symm q.2.2.1) (by simp), q.2.2⟩, fun h => (i7 h).elim fun b q => ⟨b, q.1, hk.blk q.2.1 (Ne.symm q.2.2.1) (by simp), q.2.2⟩, hS2, iK.trans hk (.inl rfl), hB⟩
  ·skip
   obtain ⟨po, af, e_⟩ := o10
   rw [e_] at ho
   obtain rfl := Option.some.inj ho
   clear e_ ho
   have hd := (ready_of hr rfl).2
   have ev := i9 (hd 9 (by decide))
   obtain ⟨b, q1, q2, q3, q4, q5⟩ := i7 (hd 7 (by decide))
   refine event_step rfl (v := .pointer (some ⟨b, t2.toNat, none⟩)) (w1 := W) ?_ (hK _ _ ?_)
   ·clear q2 q5 hd; clear i4 i6 i9 i11 i2 i7 iS iK iW cl cl' r6 r5 r11 r10 r9 sm hs hr hK K fin HI HB hS A1 A2 o2 o4 o5 o6 o7 o9 o11 h0 h1 h3 h8 h12 h13 h14 h15 h16 h17 hu HT
    generalize a.eval = ρ at *
    first | (go_simp; done) | (go_simp; rfl)
   ·unfold spec_l71Bent.Inv
    simp only [getD_set (show 10 < l.length by omega), eval_put (show 64 < a.tmps.size by omega), Nat.reduceEqDiff, if_false, if_true]
    exact ⟨⟨⟨h0, h1, h3, h8⟩, h12, h13, h14, h15, h16, h17⟩, cl', sm.put (by decide) (by omega) _, i4, i6, i9, i11, i2, fun _ => ⟨b, q1, q2, q3, q4, fun _ => rfl⟩, iS, iK, iW⟩
  ·skip
   obtain ⟨po, af, e_⟩ := o11
   rw [e_] at ho
   obtain rfl := Option.some.inj ho
   clear e_ ho
   have hd := (ready_of hr rfl).2
   have d5 := hd 10 (by decide)
   obtain ⟨b, q1, q2, q3, q4, q5⟩ := i7 (r10 d5).1
   have e7 := q5 d5
   have hc : W.cell? ⟨b, t2.toNat, none⟩ = some (.int .i64 (rd [10, (-1), 4] t2)) := by
    rw [blk_cell q2]
    have cases_ : t2 = 0 ∨ t2 = 1 ∨ t2 = 2 := by omega
    rcases cases_ with h | h | h <;> rw [h] <;> rfl
   refine event_step rfl (v := .int .i64 (rd [10, (-1), 4] t2)) (w1 := W) ?_ (hK _ _ ?_)
   ·clear q1 q2 q3 q4 q5 hd d5; clear i4 i6 i9 i11 i2 i7 iS iK iW cl cl' r6 r5 r11 r10 r9 sm hs hr hK K fin HI HB hS A1 A2 o2 o4 o5 o6 o7 o9 o10 h0 h1 h3 h8 h12 h13 h14 h15 h16 h17 hu HT
    generalize rd [10, (-1), 4] t2 = x at *
    generalize a.eval = ρ at *
    first | (go_simp; done) | (go_simp; rfl)
   ·unfold spec_l71Bent.Inv
    simp only [getD_set (show 11 < l.length by omega), eval_put (show 65 < a.tmps.size by omega), Nat.reduceEqDiff, if_false, if_true]
    exact ⟨⟨⟨h0, h1, h3, h8⟩, h12, h13, h14, h15, h16, h17⟩, cl', sm.put (by decide) (by omega) _, i4, i6, i9, (by first | exact True.intro | exact fun _ => True.intro | exact fun _ => rfl), i2, i7, iS, iK, iW⟩
  ·have d := (ready_of hr (r := ([6, 11], [6, 11])) rfl).2
   rw [spec_l71Bent.stop, d 6 (by decide), d 11 (by decide)] at hs
   cases hs
  ·exact absurd ((ready_of hr rfl).2 12 (by decide)) (by rw [h12]; decide)
  ·exact absurd ((ready_of hr rfl).2 13 (by decide)) (by rw [h13]; decide)
  ·exact absurd ((ready_of hr rfl).2 14 (by decide)) (by rw [h14]; decide)
  ·exact absurd ((ready_of hr rfl).2 12 (by decide)) (by rw [h12]; decide)
  ·exact absurd ((ready_of hr rfl).2 12 (by decide)) (by rw [h12]; decide)
 · -- all done
  intro fuel l a W hl hs hc hI
  obtain ⟨⟨⟨h0, h1, h3, h8⟩, h12, h13, h14, h15, h16, h17⟩, cl, sm, i4, i6, i9, i11, i2, i7, iS, iK, iW⟩ := hI
  obtain ⟨r6, r5, r11, r10, r9⟩ := spec_l71Bent.rows cl
  rw [spec_l71Bent.stop, Bool.and_eq_true] at hs
  have d6 := hs.1
  have d11 := hs.2
  have d5 := r6 d6
  have d2 := (r5 d5).1
  have d4 := (r5 d5).2
  have d10 := r11 d11
  have d7 := (r10 d10).1
  have d9 := (r10 d10).2
  obtain ⟨b, q1, q2, q3, q4, q5⟩ := i2 d2
  obtain ⟨b', u1, u2, u3, u4, u5⟩ := i7 d7
  have v1 := i4 d4
  have v2 := i6 d6
  have v3 := i9 d9
  have v4 := i11 d11
  have v5 := q5 d5
  have v6 := u5 d10
  rw [d9] at iS
  simp only [if_true] at iS
  have hne : b ≠ b' := by
   rintro rfl
   rw [q2] at u2
   exact absurd u2 (by simp)
  clear i4 i6 i9 i11 i2 i7 q5 u5 cl r6 r5 r11 r10 r9 hs
  have hl2 : l = [true, true, true, true, true, true, true, true, true, true, true, true, false, false, false, false, false, false] := by
   match l, hl with
   | [x0, x1, x2, x3, x4, x5, x6, x7, x8, x9, x10, x11, x12, x13, x14, x15, x16, x17], _ =>
    simp only [List.getD_cons_zero, List.getD_cons_succ] at *
    simp only [*]
  subst hl2
  obtain rfl : fuel = 6 := hc.symm.trans (by decide)
  have e := fin b b' W hne q4 u4 q2 u2 iS iK iW
  have ea : a = putAll a0 [(56, .slice (some ⟨b, 0, none⟩) 6 6), (58, .int .i64 t1), (60, .int .i64 (rd [1, 1, 2, 3, 0, 5] t1)), (61, .slice (some ⟨b', 0, none⟩) 3 3), (63, .int .i64 t2), (65, .int .i64 (rd [10, (-1), 4] t2)), (59, .pointer (some ((⟨b, 0, none⟩ : Addr).add t1.toNat))), (64, .pointer (some ((⟨b', 0, none⟩ : Addr).add t2.toNat)))] := by
   refine act_ext (by simp only [putAll, size_put]; exact sm.1) (by simp only [putAll, defers_put]; exact sm.2.1) fun m => ?_
   have w5 : (⟨b, 0, none⟩ : Addr).add t1.toNat = ⟨b, t1.toNat, none⟩ := by unfold Addr.add; split <;> simp_all
   have w6 : (⟨b', 0, none⟩ : Addr).add t2.toNat = ⟨b', t2.toNat, none⟩ := by unfold Addr.add; split <;> simp_all
   simp only [putAll]
   rw [eval_put (by (try simp only [size_put]); omega), eval_put (by (try simp only [size_put]); omega), eval_put (by (try simp only [size_put]); omega), eval_put (by (try simp only [size_put]); omega), eval_put (by (try simp only [size_put]); omega), eval_put (by (try simp only [size_put]); omega), eval_put (by (try simp only [size_put]); omega), eval_put (by (try simp only [size_put]); omega)]
   by_cases hm : m ∈ [56, 58, 59, 60, 61, 63, 64, 65]
   ·simp only [List.mem_cons, List.not_mem_nil, or_false] at hm
    rcases hm with rfl | rfl | rfl | rfl | rfl | rfl | rfl | rfl <;> simp only [q1, u1, v1, v2, v3, v4, v5, v6, w5, w6, Nat.reduceEqDiff, if_false, if_true]
   ·rw [sm.2.2 m hm]
    simp only [List.mem_cons, List.not_mem_nil, or_false, not_or] at hm
    obtain ⟨n1, n2, n3, n4, n5, n6, n7, n8⟩ := hm
    simp only [Ne.symm n1, Ne.symm n2, Ne.symm n3, Ne.symm n4, Ne.symm n5, Ne.symm n6, Ne.symm n7, Ne.symm n8, if_false]
  rw [ea]
  exact e
 · -- at the start
  unfold spec_l71Bent.Inv
  refine ⟨⟨⟨rfl, rfl, rfl, rfl⟩, rfl, rfl, rfl, rfl, rfl, rfl⟩, ?_, ⟨rfl, rfl, fun _ _ => rfl⟩, fun h => absurd h (by decide), fun h => absurd h (by decide), fun h => absurd h (by decide), fun h => absurd h (by decide), fun h => absurd h (by decide), fun h => absurd h (by decide), HI, KeepBut.refl _ _ _, HB⟩
  intro j r hj hl q hq
  have cj : j < 18 := (List.getElem?_eq_some_iff.1 hj).1
  have cases_ : j = 0 ∨ j = 1 ∨ j = 3 ∨ j = 8 ∨ (j = 2 ∨ j = 4 ∨ j = 5 ∨ j = 6 ∨ j = 7 ∨ j = 9 ∨ j = 10 ∨ j = 11 ∨ j = 12 ∨ j = 13 ∨ j = 14 ∨ j = 15 ∨ j = 16 ∨ j = 17) := by omega
  rcases cases_ with rfl | rfl | rfl | rfl | h
  ·obtain rfl := Option.some.inj hj; cases hq
  ·obtain rfl := Option.some.inj hj
   simp only [List.mem_cons, List.not_mem_nil, or_false] at hq
   subst hq
   rfl
  ·obtain rfl := Option.some.inj hj; cases hq
  ·obtain rfl := Option.some.inj hj; cases hq
  ·rcases h with rfl | rfl | rfl | rfl | rfl | rfl | rfl | rfl | rfl | rfl | rfl | rfl | rfl | rfl <;> exact absurd hl (by decide)
theorem spec_l71Bent.calls (k : Nat) (g : Nat) (s0_0 : List Int) (s0_1 : Int) (A1_0 : Option Addr) (c1_0 : Nat) (l1_0 : List (S39)) (A1_1 : Option Addr) (c1_1 : Nat) (l1_1 : List (S32)) (r1 : List (S39)) (r2 : List (S32)) (r3 : Int) (w0 w : World) (hI : IsS64 w0 w g s0_0 s0_1) (hB : Below w0.heap.size w0 w) (hr1_0 : ∀ W_, KeepBut w W_ g none → Kd.C k39 W_ A1_0 l1_0.length l1_0) (hc1_0 : l1_0.length ≤ c1_0) (hr1_1 : ∀ W_, KeepBut w W_ g none → Kd.C k32 W_ A1_1 l1_1.length l1_1) (hc1_1 : l1_1.length ≤ c1_1) (h : spec_l71Bent.f k s0_0 s0_1 l1_0 l1_1 = some (r1, r2, r3)) :
  Calls Try.prog 56 #[.pointer (some ⟨g, 0, none⟩), .agg #[.slice A1_0 l1_0.length c1_0, .slice A1_1 l1_1.length c1_1]] w fun e w' => ∃ v0_ v1_ : Value, e = .returned (.agg #[v0_, v1_]) ∧ Kd.R k39 39 w' w.heap.size (fun k_ => (w.heap.size ≤ k_)) v0_ r1 ∧ Kd.N k32 32 w' w.heap.size (fun k_ => (w.heap.size ≤ k_) ∧ some k_ ≠ (v0_ : Value).ownBlock) v1_ r2 ∧ IsS64 w0 w' g s0_0 r3 ∧ Below w0.heap.size w0 w' ∧ KeepBut w w' g none := by
 have hu26 := Try.underlying26
 have hu32 := Try.underlying32
 have hu30 := Try.underlying30
 have hu39 := Try.underlying39
 have HR1_0 := AM hr1_0
 have HC1_0 := AM hc1_0
 clear hr1_0 hc1_0
 have HR1_1 := AM hr1_1
 have HC1_1 := AM hc1_1
 clear hr1_1 hc1_1
 have HI0 := AM hI
 have HK := AM (KeepBut.refl w g none)
 have HL := AM hB.size
 clear hI
 have HW0 := AM hB.size
 have HB := AM hB
 clear hB
 have H := h
 unfold spec_l71Bent.f at H
 clear h
 obtain ⟨y424, hy424⟩ : ∃ y_ : List (S39), y_ = (([] : List (S39))) := ⟨_, rfl⟩
 replace H : (if y424.length + l1_0.length < 8796093022208 then ((some (y424 ++ l1_0 : List (S39))).bind fun y427 => ((spec_l2Copy.f k l1_1).bind fun t430 => ((spec_l6Rd_pick.f k s0_0 s0_1 8).bind fun bt434 => (if bt434.1 = 0 then (if 0 < (y427.length : Int) then (some ((y427.set (0 : Int).toNat (⟨8, (rd_T39 y427 0).f1⟩ : S39)), t430, bt434.2)) else (none)) else (if bt434.1 = 1 then ((spec_l6Rd_pick.f k s0_0 bt434.2 6).bind fun bt437 => (if t430.length < 1466015503701 then (some (y427, (t430 ++ [(⟨wrap64 (bt437.1 - 1), 0, (⟨0, 0, 0⟩ : S30), 0, ([] : List (S32)), ([] : List (S32))⟩ : S32)]), bt437.2)) else (none))) else (if bt434.1 = 2 then (if t430.length < 1466015503701 then (some (y427, (t430 ++ [(⟨1, (y427.length : Int), (⟨1, 0, 0⟩ : S30), 0, ([] : List (S32)), ([] : List (S32))⟩ : S32)]), bt434.2)) else (none)) else (if bt434.1 = 3 then ((some (([1, 1, 2, 3, 0, 5] : List Int) : List Int)).bind fun y445 => ((spec_l6Rd_pick.f k s0_0 bt434.2 6).bind fun bt448 => (if 0 ≤ bt448.1 then (if bt448.1 < (y445.length : Int) then ((some (([10, (-1), 4] : List Int) : List Int)).bind fun y451 => ((spec_l6Rd_pick.f k s0_0 bt448.2 3).bind fun bt454 => (if 0 ≤ bt454.1 then (if bt454.1 < (y451.length : Int) then (if t430.length < 1466015503701 then (some (y427, (t430 ++ [(⟨1, 0, (⟨rd y445 bt448.1, rd y451 bt454.1, 0⟩ : S30), 0, ([] : List (S32)), ([] : List (S32))⟩ : S32)]), bt454.2)) else (none)) else (none)) else (none)))) else (none)) else (none)))) else (if bt434.1 = 4 then (spec_l71Bent.l0 k s0_0 bt434.2 y427 t430) else (if bt434.1 = 5 then (spec_l71Bent.l1 k 0 s0_0 bt434.2 y427 t430) else (if bt434.1 = 6 then ((some (([(⟨0, 0⟩ : S39), (⟨0, 0⟩ : S39), (⟨0, 0⟩ : S39), (⟨0, 0⟩ : S39)] : List (S39)) : List (S39))).bind fun y466 => (if y427.length + y466.length < 8796093022208 then (some ((y427 ++ y466), t430, bt434.2)) else (none))) else (if t430.length < 1466015503701 then (some (y427, (t430 ++ [(⟨3, 0, (⟨0, 0, 0⟩ : S30), 3, ([] : List (S32)), ([] : List (S32))⟩ : S32)]), bt434.2)) else (none)))))))))))) else (none)) = some (r1, r2, r3) := by first | (rw [hy424]; with_reducible exact H) | (have H2_ := (Option.bind_some _ _).symm.trans H; rw [hy424]; with_reducible exact H2_) | (have H2_ := (Option.bind_some _ _).symm.trans H; with_reducible exact H2_) | with_reducible exact H | (rw [hy424]; exact H) | exact H
 have Ny424 := AM hy424
 clear hy424
 by_cases c3 : y424.length + l1_0.length < 8796093022208
 focus (
 rw [if_pos c3] at H
 have LMc3 := AM c3
 clear c3
 obtain ⟨y427, hy427⟩ : ∃ y_ : List (S39), y_ = (y424 ++ l1_0) := ⟨_, rfl⟩
 replace H : ((spec_l2Copy.f k l1_1).bind fun t430 => ((spec_l6Rd_pick.f k s0_0 s0_1 8).bind fun bt434 => (if bt434.1 = 0 then (if 0 < (y427.length : Int) then (some ((y427.set (0 : Int).toNat (⟨8, (rd_T39 y427 0).f1⟩ : S39)), t430, bt434.2)) else (none)) else (if bt434.1 = 1 then ((spec_l6Rd_pick.f k s0_0 bt434.2 6).bind fun bt437 => (if t430.length < 1466015503701 then (some (y427, (t430 ++ [(⟨wrap64 (bt437.1 - 1), 0, (⟨0, 0, 0⟩ : S30), 0, ([] : List (S32)), ([] : List (S32))⟩ : S32)]), bt437.2)) else (none))) else (if bt434.1 = 2 then (if t430.length < 1466015503701 then (some (y427, (t430 ++ [(⟨1, (y427.length : Int), (⟨1, 0, 0⟩ : S30), 0, ([] : List (S32)), ([] : List (S32))⟩ : S32)]), bt434.2)) else (none)) else (if bt434.1 = 3 then ((some (([1, 1, 2, 3, 0, 5] : List Int) : List Int)).bind fun y445 => ((spec_l6Rd_pick.f k s0_0 bt434.2 6).bind fun bt448 => (if 0 ≤ bt448.1 then (if bt448.1 < (y445.length : Int) then ((some (([10, (-1), 4] : List Int) : List Int)).bind fun y451 => ((spec_l6Rd_pick.f k s0_0 bt448.2 3).bind fun bt454 => (if 0 ≤ bt454.1 then (if bt454.1 < (y451.length : Int) then (if t430.length < 1466015503701 then (some (y427, (t430 ++ [(⟨1, 0, (⟨rd y445 bt448.1, rd y451 bt454.1, 0⟩ : S30), 0, ([] : List (S32)), ([] : List (S32))⟩ : S32)]), bt454.2)) else (none)) else (none)) else (none)))) else (none)) else (none)))) else (if bt434.1 = 4 then (spec_l71Bent.l0 k s0_0 bt434.2 y427 t430) else (if bt434.1 = 5 then (spec_l71Bent.l1 k 0 s0_0 bt434.2 y427 t430) else (if bt434.1 = 6 then ((some (([(⟨0, 0⟩ : S39), (⟨0, 0⟩ : S39), (⟨0, 0⟩ : S39), (⟨0, 0⟩ : S39)] : List (S39)) : List (S39))).bind fun y466 => (if y427.length + y466.length < 8796093022208 then (some ((y427 ++ y466), t430, bt434.2)) else (none))) else (if t430.length < 1466015503701 then (some (y427, (t430 ++ [(⟨3, 0, (⟨0, 0, 0⟩ : S30), 3, ([] : List (S32)), ([] : List (S32))⟩ : S32)]), bt434.2)) else (none))))))))))) = some (r1, r2, r3) := by first | (rw [hy427]; with_reducible exact H) | (have H2_ := (Option.bind_some _ _).symm.trans H; rw [hy427]; with_reducible exact H2_) | (have H2_ := (Option.bind_some _ _).symm.trans H; with_reducible exact H2_) | with_reducible exact H | (rw [hy427]; exact H) | exact H
 have Ny427 := AM hy427
 clear hy427
 obtain ⟨t430, A4, H⟩ := ZOB H; try dsimp only at H
 obtain ⟨⟨t434, t435⟩, A5, H⟩ := ZOB H; try dsimp only at H
 by_cases c6 : t434 = 0
 focus (
 rw [if_pos c6] at H
 have c6b0 := beq_iff_eq.mpr c6
 have c6b1 := bne_eq_false_iff_eq.mpr c6
 clear c6
 by_cases c7 : 0 < (y427.length : Int)
 focus (
 rw [if_pos c7] at H
 have c7b0 := decide_eq_true c7
 have c7b1 : decide (0 < y427.length) = true := decide_eq_true (by omega)
 clear c7
 obtain ⟨y436, hy436⟩ : ∃ y_ : List (S39), y_ = (y427.set (0 : Int).toNat (⟨8, (rd_T39 y427 0).f1⟩ : S39)) := ⟨_, rfl⟩
 replace H : (some (y436, t430, t435)) = some (r1, r2, r3) := by first | (rw [hy436]; with_reducible exact H) | (have H2_ := (Option.bind_some _ _).symm.trans H; rw [hy436]; with_reducible exact H2_) | (have H2_ := (Option.bind_some _ _).symm.trans H; with_reducible exact H2_) | with_reducible exact H | (rw [hy436]; exact H) | exact H
 have Ny436 := AM hy436
 clear hy436
 simp only [Option.some.injEq, Prod.mk.injEq] at H
 obtain ⟨rfl, rfl, rfl⟩ := H
 have tag0_ : Aside0 True := ⟨trivial⟩)
 rotate_left
 focus (
 exact ZNE H c7))
 rotate_left
 focus (
 rw [if_neg c6] at H
 have c6b0 := beq_eq_false_iff_ne.mpr c6
 have c6b1 := bne_iff_ne.mpr c6
 by_cases c35 : t434 = 1
 focus (
 rw [if_pos c35] at H
 have c35b0 := beq_iff_eq.mpr c35
 have c35b1 := bne_eq_false_iff_eq.mpr c35
 clear c35
 obtain ⟨⟨t437, t438⟩, A36, H⟩ := ZOB H; try dsimp only at H
 by_cases c37 : t430.length < 1466015503701
 focus (
 rw [if_pos c37] at H
 have LMc37 := AM c37
 clear c37
 obtain ⟨y439, hy439⟩ : ∃ y_ : List (S32), y_ = (t430 ++ [(⟨wrap64 (t437 - 1), 0, (⟨0, 0, 0⟩ : S30), 0, ([] : List (S32)), ([] : List (S32))⟩ : S32)]) := ⟨_, rfl⟩
 replace H : (some (y427, y439, t438)) = some (r1, r2, r3) := by first | (rw [hy439]; with_reducible exact H) | (have H2_ := (Option.bind_some _ _).symm.trans H; rw [hy439]; with_reducible exact H2_) | (have H2_ := (Option.bind_some _ _).symm.trans H; with_reducible exact H2_) | with_reducible exact H | (rw [hy439]; exact H) | exact H
 have Ny439 := AM hy439
 clear hy439
 simp only [Option.some.injEq, Prod.mk.injEq] at H
 obtain ⟨rfl, rfl, rfl⟩ := H
 have tag1_ : Aside0 True := ⟨trivial⟩)
 rotate_left
 focus (
 exact ZNE H c37))
 rotate_left
 focus (
 rw [if_neg c35] at H
 have c35b0 := beq_eq_false_iff_ne.mpr c35
 have c35b1 := bne_iff_ne.mpr c35
 by_cases c66 : t434 = 2
 focus (
 rw [if_pos c66] at H
 have c66b0 := beq_iff_eq.mpr c66
 have c66b1 := bne_eq_false_iff_eq.mpr c66
 clear c66
 by_cases c67 : t430.length < 1466015503701
 focus (
 rw [if_pos c67] at H
 have LMc67 := AM c67
 clear c67
 obtain ⟨y442, hy442⟩ : ∃ y_ : List (S32), y_ = (t430 ++ [(⟨1, (y427.length : Int), (⟨1, 0, 0⟩ : S30), 0, ([] : List (S32)), ([] : List (S32))⟩ : S32)]) := ⟨_, rfl⟩
 replace H : (some (y427, y442, t435)) = some (r1, r2, r3) := by first | (rw [hy442]; with_reducible exact H) | (have H2_ := (Option.bind_some _ _).symm.trans H; rw [hy442]; with_reducible exact H2_) | (have H2_ := (Option.bind_some _ _).symm.trans H; with_reducible exact H2_) | with_reducible exact H | (rw [hy442]; exact H) | exact H
 have Ny442 := AM hy442
 clear hy442
 simp only [Option.some.injEq, Prod.mk.injEq] at H
 obtain ⟨rfl, rfl, rfl⟩ := H
 have tag2_ : Aside0 True := ⟨trivial⟩)
 rotate_left
 focus (
 exact ZNE H c67))
 rotate_left
 focus (
 rw [if_neg c66] at H
 have c66b0 := beq_eq_false_iff_ne.mpr c66
 have c66b1 := bne_iff_ne.mpr c66
 by_cases c94 : t434 = 3
 focus (
 rw [if_pos c94] at H
 have c94b0 := beq_iff_eq.mpr c94
 have c94b1 := bne_eq_false_iff_eq.mpr c94
 clear c94
 obtain ⟨y445, hy445⟩ : ∃ y_ : List Int, y_ = (([1, 1, 2, 3, 0, 5] : List Int)) := ⟨_, rfl⟩
 replace H : ((spec_l6Rd_pick.f k s0_0 t435 6).bind fun bt448 => (if 0 ≤ bt448.1 then (if bt448.1 < (y445.length : Int) then ((some (([10, (-1), 4] : List Int) : List Int)).bind fun y451 => ((spec_l6Rd_pick.f k s0_0 bt448.2 3).bind fun bt454 => (if 0 ≤ bt454.1 then (if bt454.1 < (y451.length : Int) then (if t430.length < 1466015503701 then (some (y427, (t430 ++ [(⟨1, 0, (⟨rd y445 bt448.1, rd y451 bt454.1, 0⟩ : S30), 0, ([] : List (S32)), ([] : List (S32))⟩ : S32)]), bt454.2)) else (none)) else (none)) else (none)))) else (none)) else (none))) = some (r1, r2, r3) := by first | (rw [hy445]; with_reducible exact H) | (have H2_ := (Option.bind_some _ _).symm.trans H; rw [hy445]; with_reducible exact H2_) | (have H2_ := (Option.bind_some _ _).symm.trans H; with_reducible exact H2_) | with_reducible exact H | (rw [hy445]; exact H) | exact H
 have Ny445 := AM hy445
 clear hy445
 obtain ⟨⟨t448, t449⟩, A95, H⟩ := ZOB H; try dsimp only at H
 by_cases c96 : 0 ≤ t448
 focus (
 rw [if_pos c96] at H
 have c96b0 := decide_eq_true c96
 clear c96
 by_cases c97 : t448 < (y445.length : Int)
 focus (
 rw [if_pos c97] at H
 have c97b0 := decide_eq_true c97
 clear c97
 obtain ⟨y451, hy451⟩ : ∃ y_ : List Int, y_ = (([10, (-1), 4] : List Int)) := ⟨_, rfl⟩
 replace H : ((spec_l6Rd_pick.f k s0_0 t449 3).bind fun bt454 => (if 0 ≤ bt454.1 then (if bt454.1 < (y451.length : Int) then (if t430.length < 1466015503701 then (some (y427, (t430 ++ [(⟨1, 0, (⟨rd y445 t448, rd y451 bt454.1, 0⟩ : S30), 0, ([] : List (S32)), ([] : List (S32))⟩ : S32)]), bt454.2)) else (none)) else (none)) else (none))) = some (r1, r2, r3) := by first | (rw [hy451]; with_reducible exact H) | (have H2_ := (Option.bind_some _ _).symm.trans H; rw [hy451]; with_reducible exact H2_) | (have H2_ := (Option.bind_some _ _).symm.trans H; with_reducible exact H2_) | with_reducible exact H | (rw [hy451]; exact H) | exact H
 have Ny451 := AM hy451
 clear hy451
 obtain ⟨⟨t454, t455⟩, A98, H⟩ := ZOB H; try dsimp only at H
 by_cases c99 : 0 ≤ t454
 focus (
 rw [if_pos c99] at H
 have c99b0 := decide_eq_true c99
 clear c99
 by_cases c100 : t454 < (y451.length : Int)
 focus (
 rw [if_pos c100] at H
 have c100b0 := decide_eq_true c100
 clear c100
 by_cases c101 : t430.length < 1466015503701
 focus (
 rw [if_pos c101] at H
 have LMc101 := AM c101
 clear c101
 obtain ⟨y457, hy457⟩ : ∃ y_ : List (S32), y_ = (t430 ++ [(⟨1, 0, (⟨rd y445 t448, rd y451 t454, 0⟩ : S30), 0, ([] : List (S32)), ([] : List (S32))⟩ : S32)]) := ⟨_, rfl⟩
 replace H : (some (y427, y457, t455)) = some (r1, r2, r3) := by first | (rw [hy457]; with_reducible exact H) | (have H2_ := (Option.bind_some _ _).symm.trans H; rw [hy457]; with_reducible exact H2_) | (have H2_ := (Option.bind_some _ _).symm.trans H; with_reducible exact H2_) | with_reducible exact H | (rw [hy457]; exact H) | exact H
 have Ny457 := AM hy457
 clear hy457
 simp only [Option.some.injEq, Prod.mk.injEq] at H
 obtain ⟨rfl, rfl, rfl⟩ := H
 have tag3_ : Aside0 True := ⟨trivial⟩)
 rotate_left
 focus (
 exact ZNE H c101))
 rotate_left
 focus (
 exact ZNE H c100))
 rotate_left
 focus (
 exact ZNE H c99))
 rotate_left
 focus (
 exact ZNE H c97))
 rotate_left
 focus (
 exact ZNE H c96))
 rotate_left
 focus (
 rw [if_neg c94] at H
 have c94b0 := beq_eq_false_iff_ne.mpr c94
 have c94b1 := bne_iff_ne.mpr c94
 by_cases c140 : t434 = 4
 focus (
 rw [if_pos c140] at H
 have c140b0 := beq_iff_eq.mpr c140
 have c140b1 := bne_eq_false_iff_eq.mpr c140
 clear c140
 have H' := AM H
 clear H
 have tag4_ : Aside0 True := ⟨trivial⟩)
 rotate_left
 focus (
 rw [if_neg c140] at H
 have c140b0 := beq_eq_false_iff_ne.mpr c140
 have c140b1 := bne_iff_ne.mpr c140
 by_cases c175 : t434 = 5
 focus (
 rw [if_pos c175] at H
 have c175b0 := beq_iff_eq.mpr c175
 have c175b1 := bne_eq_false_iff_eq.mpr c175
 clear c175
 have H' := AM H
 clear H
 have tag5_ : Aside0 True := ⟨trivial⟩)
 rotate_left
 focus (
 rw [if_neg c175] at H
 have c175b0 := beq_eq_false_iff_ne.mpr c175
 have c175b1 := bne_iff_ne.mpr c175
 by_cases c210 : t434 = 6
 focus (
 rw [if_pos c210] at H
 have c210b0 := beq_iff_eq.mpr c210
 have c210b1 := bne_eq_false_iff_eq.mpr c210
 clear c210
 obtain ⟨y466, hy466⟩ : ∃ y_ : List (S39), y_ = (([(⟨0, 0⟩ : S39), (⟨0, 0⟩ : S39), (⟨0, 0⟩ : S39), (⟨0, 0⟩ : S39)] : List (S39))) := ⟨_, rfl⟩
 replace H : (if y427.length + y466.length < 8796093022208 then (some ((y427 ++ y466), t430, t435)) else (none)) = some (r1, r2, r3) := by first | (rw [hy466]; with_reducible exact H) | (have H2_ := (Option.bind_some _ _).symm.trans H; rw [hy466]; with_reducible exact H2_) | (have H2_ := (Option.bind_some _ _).symm.trans H; with_reducible exact H2_) | with_reducible exact H | (rw [hy466]; exact H) | exact H
 have Ny466 := AM hy466
 clear hy466
 by_cases c211 : y427.length + y466.length < 8796093022208
 focus (
 rw [if_pos c211] at H
 have LMc211 := AM c211
 clear c211
 obtain ⟨y469, hy469⟩ : ∃ y_ : List (S39), y_ = (y427 ++ y466) := ⟨_, rfl⟩
 replace H : (some (y469, t430, t435)) = some (r1, r2, r3) := by first | (rw [hy469]; with_reducible exact H) | (have H2_ := (Option.bind_some _ _).symm.trans H; rw [hy469]; with_reducible exact H2_) | (have H2_ := (Option.bind_some _ _).symm.trans H; with_reducible exact H2_) | with_reducible exact H | (rw [hy469]; exact H) | exact H
 have Ny469 := AM hy469
 clear hy469
 simp only [Option.some.injEq, Prod.mk.injEq] at H
 obtain ⟨rfl, rfl, rfl⟩ := H
 have tag6_ : Aside0 True := ⟨trivial⟩)
 rotate_left
 focus (
 exact ZNE H c211))
 rotate_left
 focus (
 rw [if_neg c210] at H
 have c210b0 := beq_eq_false_iff_ne.mpr c210
 have c210b1 := bne_iff_ne.mpr c210
 by_cases c241 : t430.length < 1466015503701
 focus (
 rw [if_pos c241] at H
 have LMc241 := AM c241
 clear c241
 obtain ⟨y472, hy472⟩ : ∃ y_ : List (S32), y_ = (t430 ++ [(⟨3, 0, (⟨0, 0, 0⟩ : S30), 3, ([] : List (S32)), ([] : List (S32))⟩ : S32)]) := ⟨_, rfl⟩
 replace H : (some (y427, y472, t435)) = some (r1, r2, r3) := by first | (rw [hy472]; with_reducible exact H) | (have H2_ := (Option.bind_some _ _).symm.trans H; rw [hy472]; with_reducible exact H2_) | (have H2_ := (Option.bind_some _ _).symm.trans H; with_reducible exact H2_) | with_reducible exact H | (rw [hy472]; exact H) | exact H
 have Ny472 := AM hy472
 clear hy472
 simp only [Option.some.injEq, Prod.mk.injEq] at H
 obtain ⟨rfl, rfl, rfl⟩ := H
 have tag7_ : Aside0 True := ⟨trivial⟩)
 rotate_left
 focus (
 exact ZNE H c241))
 rotate_left)
 rotate_left 2)
 rotate_left 3)
 rotate_left 4)
 rotate_left 5)
 rotate_left 6)
 rotate_left 7)
 rotate_left 8
 focus (
 exact ZNE H c3)
 all_goals (
 go_enter Try.func56, Try.ntmps56
 try go_wp2_with (first | ((with_reducible refine gate_dst (N := 3) rfl ?_); refine ZX (N := 3) (cs := #[.slice A1_0 l1_0.length c1_0, .slice A1_1 l1_1.length c1_1]) (t := 26) ?_; intro gbq0 hg wq0 hbox hb; have BKq0 := AM (hbox); have GWq0 := AM ((by rw [hg]; exact (keep_size (w := w) (g := g) (row := none) (ZJ)) : w.heap.size ≤ gbq0)); have GEq0 := AM ((Nat.le_trans HW0.out (by rw [hg]; exact (keep_size (w := w) (g := g) (row := none) (ZJ)) : w.heap.size ≤ gbq0) : w0.heap.size ≤ gbq0)); have NBq0_422 := AM ((by rw [hg]; exact Nat.ne_of_lt (IsS64.lt (show IsS64 w0 _ g s0_0 s0_1 from ZI)) : g ≠ gbq0)); have NBq1_0 := AM ((by rw [hg]; exact Nat.ne_of_gt (IsS64.lt (show IsS64 w0 _ g s0_0 s0_1 from ZI)) : gbq0 ≠ g)); replace HK := ZKT HK (KeepBut.of_below hb g none); replace HB := ZTI HB hb; replace HI0 := AM (IsS64.below (ZI) hb); clear hb hbox hg) | ((with_reducible refine gate_dst (N := 4) rfl ?_); refine ZX (N := 4) (cs := #[.slice none 0 0, .slice none 0 0]) (t := 26) ?_; intro gbq1 hg wq1 hbox hb; have BKq1 := AM (hbox); have GWq1 := AM ((by rw [hg]; exact (keep_size (w := w) (g := g) (row := none) (ZJ)) : w.heap.size ≤ gbq1)); have GEq1 := AM ((Nat.le_trans HW0.out (by rw [hg]; exact (keep_size (w := w) (g := g) (row := none) (ZJ)) : w.heap.size ≤ gbq1) : w0.heap.size ≤ gbq1)); have NBq1_423 : Aside0 (gbq0 ≠ gbq1) := ZN hg BKq0; have NBq2_422 : Aside0 (gbq1 ≠ gbq0) := ZM hg BKq0; have NBq0_423 := AM ((by rw [hg]; exact Nat.ne_of_lt (IsS64.lt (show IsS64 w0 _ g s0_0 s0_1 from ZI)) : g ≠ gbq1)); have NBq2_0 := AM ((by rw [hg]; exact Nat.ne_of_gt (IsS64.lt (show IsS64 w0 _ g s0_0 s0_1 from ZI)) : gbq1 ≠ g)); replace BKq0 := ZW BKq0 hb; replace HK := ZKT HK (KeepBut.of_below hb g none); replace HB := ZTI HB hb; replace HI0 := AM (IsS64.below (ZI) hb); clear hb hbox hg))
 replace BKq0 := AM (blk_drew BKq0.out)
 replace BKq1 := AM (blk_drew BKq1.out)
 replace HI0 := AM (IsS64.drew HI0.out)
 replace HK := AM (keep_drew HK.out)
 replace HB := AM (below_drew1 HB.out)
 refine start_ (n := 10) (S := fun w' => w'.cell? ⟨gbq0, 0, none⟩ = some (.slice A1_0 l1_0.length c1_0) ∧ w'.cell? ⟨gbq0, 1, none⟩ = some (.slice A1_1 l1_1.length c1_1)) (ds := []) #[F,F,F,F,F,F,F,F,F,F] (by kernel_rfl) rfl rfl ⟨ZA BKq0 0, ZA BKq0 1⟩ (fun hHeld => ?_); refine with_tabW spec_l71Bent.tab1 spec_l71Bent.bits1 (fun HT_ HW_ => ?_)
 generalize wq1.drew = wq2 at BKq0 BKq1 HI0 HK HB hHeld ⊢
 refine ZU 1 8 #[F,T,F,F,F,F,F,F,F,F] ?_
 refine ZU 4 11 #[F,T,F,F,T,F,F,F,F,F] ?_
 refine ZTK 2 9 #[F,T,T,F,T,F,F,F,F,F] hHeld ?_
 refine ZTK 5 12 #[F,T,T,F,T,T,F,F,F,F] hHeld ?_
 refine join_ (σ := Value × Value × Value × Nat) 1 #[T,T,T,T,T,T,T,T,T,F] (fun s_ => [(7, s_.1), (10, s_.2.1), (13, s_.2.2.1), (5, .pointer (some ⟨s_.2.2.2, 0, none⟩)), (14, .agg #[s_.2.1, s_.2.2.1])]) (fun s_ w' => (w'.cell? ⟨gbq0, 0, none⟩ = some (.slice A1_0 l1_0.length c1_0) ∧ w'.cell? ⟨gbq0, 1, none⟩ = some (.slice A1_1 l1_1.length c1_1)) ∧ (Kd.R k39 39 w' w.heap.size (fun k_ => (w.heap.size ≤ k_)) s_.2.1 y427) ∧ (Kd.N k32 32 w' w.heap.size (fun k_ => (w.heap.size ≤ k_) ∧ some k_ ≠ (s_.2.1 : Value).ownBlock ∧ k_ ≠ g ∧ k_ ≠ gbq0 ∧ k_ ≠ gbq1 ∧ k_ ≠ s_.2.2.2) s_.2.2.1 t430) ∧ (w'.heap[gbq0]? = some (.cells #[.slice A1_0 l1_0.length c1_0, .slice A1_1 l1_1.length c1_1] 26 (0, 0))) ∧ (w'.heap[gbq1]? = some (.cells #[.slice none 0 0, .slice none 0 0] 26 (0, 0))) ∧ (w'.heap[s_.2.2.2]? = some (.cells #[.slice none 0 0, .slice none 0 0] 26 (0, 0))) ∧ (w.heap.size ≤ s_.2.2.2) ∧ (w0.heap.size ≤ s_.2.2.2) ∧ (g ≠ s_.2.2.2) ∧ (s_.2.2.2 ≠ g) ∧ (gbq0 ≠ s_.2.2.2) ∧ (s_.2.2.2 ≠ gbq0) ∧ (gbq1 ≠ s_.2.2.2) ∧ (s_.2.2.2 ≠ gbq1) ∧ (IsS64 w0 w' g s0_0 s0_1) ∧ (KeepBut w w' g none) ∧ (Below w0.heap.size w0 w')) ?_ ?_
 rotate_left
 ·(
 intro hCont
 refine two_ (i := 0) (j := 8) (Ni := some 7) (Nj := some 5) #[T,T,T,F,T,T,F,F,F,F] #[F,T,T,F,T,T,F,F,T,F] rfl rfl rfl rfl (two_of HT_.out (by kernel_rfl)) (by decide) (by decide) (fun K hK => ?_) (fun K hK => ?_)
 ·(
 skip
 refine Kd.R_lit_step k39 _ 39 ?hg (N := 7) ?hd (xs := ([] : List (S39))) (inner := []) (ok := fun _ => True) (okp := fun _ => True) ?hr ?hp (fun _ hk => hk) trivial (Below.refl _ _) (Nat.le_refl _) (by simp) ?_; (case hd => rfl); (case hg => rfl); (case hr => first | (go_simp; done) | (go_simp; rfl)); (case hp => exact (Reps.none _ _))
 intro vq0 wq3 hoq0 hb hg_ hnew_
 clear hg_ hnew_
 (first | rw [← Ny424.out] at hoq0 | (simp only [Int.reduceToNat] at hoq0; rw [← Ny424.out] at hoq0))
 have HOq0 := AM (Kd.R_lower (Kd.R_newM (M := fun k_ => (w.heap.size ≤ k_)) hoq0 (keep_size (w := w) (g := g) (row := none) (ZJ)) (fun k_ h_ => h_)) (keep_size (w := w) (g := g) (row := none) (ZJ)))
 replace BKq0 := ZW BKq0 hb
 replace BKq1 := ZW BKq1 hb
 replace HK := ZKT HK (KeepBut.of_below hb g none)
 replace HB := ZTI HB hb
 replace HI0 := AM (IsS64.below (ZI) hb)
 clear hb hoq0
 refine hK.out _ _ ⟨ZA BKq0 0, ZA BKq0 1⟩ (fun hHeld => ?_)
 clear hK K
 refine ZNO 7 ?_
 refine two_ (i := 3) (j := 8) (Ni := some 10) (Nj := some 5) #[T,T,T,T,T,T,F,F,F,F] #[T,T,T,F,T,T,F,F,T,F] rfl rfl rfl rfl (two_of HT_.out (by kernel_rfl)) (by decide) (by decide) (fun K hK => ?_) (fun K hK => ?_)
 ·(
 skip
 refine Kd.R_append_rows_step k39 w.heap.size (by rfl) (.tmp 7) (.tmp 9) 23 39 (.agg #[(.int .i64 0), (.int .i64 0)]) 16 rfl Try.underlying23 info39 rfl (by decide) (by omega) vq0 y424 l1_0 _ _ _ (fun k_ => (w.heap.size ≤ k_)) (fun _ => False) rfl rfl ?aO ?aR (fun _ _ h => h) (fun _ h => h.elim) ?aF (Below.refl _ _) ?aS ?aL ?_
 (case aR => exact Kd.C_foot_now HR1_0.out (ZJ))
 (case aF => exact (fun k_ hk => (Nat.le_trans (keep_size (w := w) (g := g) (row := none) (ZJ)) hk)))
 (case aO => exact (ZR (Kd.R_mono HOq0.out (fun _ hk => hk.1))))
 (case aS => exact (keep_size (w := w) (g := g) (row := none) (ZJ)))
 (case aL => have := LMc3.out; omega)
 intro vq1 wq4 ho hb hg hat
 rw [← Ny427.out] at ho
 have nq0_ := AM (IsS64.grown (ZI) hg (IsS64.own_ne HI0.out HOq0.out (by decide)))
 have nq1_ := AM (blk_grown (g := gbq0) (o := .cells #[.slice A1_0 l1_0.length c1_0, .slice A1_1 l1_1.length c1_1] 26 (0, 0)) (ZK BKq0.out) hg (Kd.R_ne HOq0.out BKq0.out (by decide)))
 have nq2_ := AM (blk_grown (g := gbq1) (o := .cells #[.slice none 0 0, .slice none 0 0] 26 (0, 0)) (ZK BKq1.out) hg (Kd.R_ne HOq0.out BKq1.out (by decide)))
 have nq3_ := AM (below_weaken (ZBI) HL.out hb)
 have nq4_ := AM (KeepBut.trans (ZJ) (KeepBut.of_grown hg g) (Kd.R_base2 HOq0.out))
 have nq5_ := AM (ho)
 clear HI0 BKq0 BKq1 HB HK HOq0
 have HI0 := nq0_
 have BKq0 := nq1_
 have BKq1 := nq2_
 have HB := nq3_
 have HK := nq4_
 have HOq1 := nq5_
 clear nq0_ nq1_ nq2_ nq3_ nq4_ nq5_ ho hb hg hat
 refine hK.out _ _ ⟨ZA BKq0 0, ZA BKq0 1⟩ (fun hHeld => ?_)
 clear hK K
 refine ZNO 10 ?_
 refine two_ (i := 6) (j := 8) (Ni := some 13) (Nj := some 5) #[T,T,T,T,T,T,T,F,F,F] #[T,T,T,T,T,T,F,F,T,F] rfl rfl rfl rfl (two_of HT_.out (by kernel_rfl)) (by decide) (by decide) (fun K hK => ?_) (fun K hK => ?_)
 ·(
 skip
 refine ZGO Try.func77 #[.slice A1_1 l1_1.length c1_1] ?_
 with_reducible refine (spec_l2Copy.calls k _ _ l1_1 t430 _ ?side1 ?side2 A4.out).mono ?_
 (case side1 => exact Kd.C_foot_now HR1_1.out (ZJ))
 (case side2 => exact HC1_1.out)
 rintro e wq5 ⟨vq2, rfl, hoq1, hb⟩
 refine ⟨_, rfl, ?_⟩
 have HOq2 := AM (Kd.N_lower (Kd.N_mono (ok' := fun k_ => (w.heap.size ≤ k_) ∧ some k_ ≠ (vq1 : Value).ownBlock ∧ k_ ≠ gbq0 ∧ k_ ≠ gbq1 ∧ k_ ≠ g) (Kd.R_N (Kd.R_bound hoq1)) (fun k_ hk_ => ⟨(Nat.le_trans (keep_size (w := w) (g := g) (row := none) (ZJ)) hk_.2.1), (Kd.fresh' (Kd.R_lt (ZR HOq1.out)) k_ hk_.2.1), (Kd.freshB (g := gbq0) (o := .cells #[.slice A1_0 l1_0.length c1_0, .slice A1_1 l1_1.length c1_1] 26 (0, 0)) (ZK BKq0.out) k_ hk_.2.1), (Kd.freshB (g := gbq1) (o := .cells #[.slice none 0 0, .slice none 0 0] 26 (0, 0)) (ZK BKq1.out) k_ hk_.2.1), (IsS64.fresh (ZI) k_ hk_.2.1)⟩)) (keep_size (w := w) (g := g) (row := none) (ZJ)))
 replace HOq1 := AM (Kd.R_below (ZR HOq1.out) hb)
 replace BKq0 := ZW BKq0 hb
 replace BKq1 := ZW BKq1 hb
 replace HK := ZKT HK (KeepBut.of_below hb g none)
 replace HB := ZTI HB hb
 replace HI0 := AM (IsS64.below (ZI) hb)
 (try clear hb)
 (try clear hb2)
 (try clear hk)
 (try clear hi)
 (try clear hoq1)
 obtain ⟨Aoq0, coq0, eoq0⟩ := Kd.N_slice HOq2.out
 (first | subst eoq0 | (injection eoq0 with f1_ f2_ f3_; have fq0_ := f1_.symm; have fq1_ := f3_.symm; clear f1_ f2_ f3_; subst fq0_; subst fq1_))
 obtain ⟨Aoq1, coq1, eoq1⟩ := Kd.R_slice HOq1.out
 (first | subst eoq1 | (injection eoq1 with f1_ f2_ f3_; have fq0_ := f1_.symm; have fq1_ := f3_.symm; clear f1_ f2_ f3_; subst fq0_; subst fq1_))
 refine hK.out _ _ ⟨ZA BKq0 0, ZA BKq0 1⟩ (fun hHeld => ?_)
 clear hK K
 refine ZNO 13 ?_
 refine ZU 7 14 #[T,T,T,T,T,T,T,T,F,F] ?_
 refine one_ (i := 8) (N := some 5) #[T,T,T,T,T,T,T,T,T,F] rfl rfl (one_of HT_.out (by kernel_rfl)) (by decide) (fun K hK => ?_)
 refine box_step ?hg (N := 5) ?hd (cs := #[.slice none 0 0, .slice none 0 0]) (t := 26) ?hr ?_; (case hd => rfl); (case hg => rfl); (case hr => first | (go_simp; done) | (go_simp; rfl))
 intro gbq2 hg wq6 hbox hb
 have BKq2 := AM (hbox)
 have GWq2 := AM ((by rw [hg]; exact (keep_size (w := w) (g := g) (row := none) (ZJ)) : w.heap.size ≤ gbq2))
 have GEq2 := AM ((Nat.le_trans HW0.out (by rw [hg]; exact (keep_size (w := w) (g := g) (row := none) (ZJ)) : w.heap.size ≤ gbq2) : w0.heap.size ≤ gbq2))
 have NBq1_433 : Aside0 (gbq0 ≠ gbq2) := ZN hg BKq0
 have NBq3_422 : Aside0 (gbq2 ≠ gbq0) := ZM hg BKq0
 have NBq2_433 : Aside0 (gbq1 ≠ gbq2) := ZN hg BKq1
 have NBq3_423 : Aside0 (gbq2 ≠ gbq1) := ZM hg BKq1
 have NBq0_433 := AM ((by rw [hg]; exact Nat.ne_of_lt (IsS64.lt (show IsS64 w0 _ g s0_0 s0_1 from ZI)) : g ≠ gbq2))
 have NBq3_0 := AM ((by rw [hg]; exact Nat.ne_of_gt (IsS64.lt (show IsS64 w0 _ g s0_0 s0_1 from ZI)) : gbq2 ≠ g))
 replace HOq1 := AM (Kd.R_below (ZR HOq1.out) hb)
 replace HOq2 := AM (Kd.N_below (Kd.N_elderB (ZRN HOq2.out) gbq2 (Nat.le_of_eq hg.symm)) hb)
 replace BKq0 := ZW BKq0 hb
 replace BKq1 := ZW BKq1 hb
 replace HK := ZKT HK (KeepBut.of_below hb g none)
 replace HB := ZTI HB hb
 replace HI0 := AM (IsS64.below (ZI) hb)
 clear hb hbox hg
 refine hK.out _ _ ⟨ZA BKq0 0, ZA BKq0 1⟩ (fun hHeld => ?_)
 clear hK K
 refine ZNO 5 ?_
 exact norm_ (by simp only [putAll, Act.put, List.setIfInBounds_toArray, List.set_cons_zero, List.set_cons_succ]) (hCont (vq0, .slice Aoq1 y427.length coq1, .slice Aoq0 t430.length coq0, gbq2) _ ⟨hHeld, (ZR HOq1.out), (by (with_reducible repeat (first | apply Kd.N_alloc | apply Kd.N_drewN | apply Kd.N_drew)); exact Kd.N_mono HOq2.out (fun _ hk => ⟨hk.1.1, ⟨hk.1.2.1, ⟨hk.1.2.2.2.2, ⟨hk.1.2.2.1, ⟨hk.1.2.2.2.1, hk.2⟩⟩⟩⟩⟩)), (ZK BKq0.out), (ZK BKq1.out), (ZK BKq2.out), GWq2.out, GEq2.out, NBq0_433.out, NBq3_0.out, NBq1_433.out, NBq3_422.out, NBq2_433.out, NBq3_423.out, (ZI), (ZJ), (ZBI)⟩))
 ·(
 skip
 refine box_step ?hg (N := 5) ?hd (cs := #[.slice none 0 0, .slice none 0 0]) (t := 26) ?hr ?_; (case hd => rfl); (case hg => rfl); (case hr => first | (go_simp; done) | (go_simp; rfl))
 intro gbq2 hg wq5 hbox hb
 have BKq2 := AM (hbox)
 have GWq2 := AM ((by rw [hg]; exact (keep_size (w := w) (g := g) (row := none) (ZJ)) : w.heap.size ≤ gbq2))
 have GEq2 := AM ((Nat.le_trans HW0.out (by rw [hg]; exact (keep_size (w := w) (g := g) (row := none) (ZJ)) : w.heap.size ≤ gbq2) : w0.heap.size ≤ gbq2))
 have NBq1_433 : Aside0 (gbq0 ≠ gbq2) := ZN hg BKq0
 have NBq3_422 : Aside0 (gbq2 ≠ gbq0) := ZM hg BKq0
 have NBq2_433 : Aside0 (gbq1 ≠ gbq2) := ZN hg BKq1
 have NBq3_423 : Aside0 (gbq2 ≠ gbq1) := ZM hg BKq1
 have NBq0_433 := AM ((by rw [hg]; exact Nat.ne_of_lt (IsS64.lt (show IsS64 w0 _ g s0_0 s0_1 from ZI)) : g ≠ gbq2))
 have NBq3_0 := AM ((by rw [hg]; exact Nat.ne_of_gt (IsS64.lt (show IsS64 w0 _ g s0_0 s0_1 from ZI)) : gbq2 ≠ g))
 replace HOq1 := AM (Kd.R_below (ZR HOq1.out) hb)
 replace BKq0 := ZW BKq0 hb
 replace BKq1 := ZW BKq1 hb
 replace HK := ZKT HK (KeepBut.of_below hb g none)
 replace HB := ZTI HB hb
 replace HI0 := AM (IsS64.below (ZI) hb)
 clear hb hbox hg
 refine hK.out _ _ ⟨ZA BKq0 0, ZA BKq0 1⟩ (fun hHeld => ?_)
 clear hK K
 refine ZNO 5 ?_
 refine one_ (i := 6) (N := some 13) #[T,T,T,T,T,T,T,F,T,F] rfl rfl (one_of HT_.out (by kernel_rfl)) (by decide) (fun K hK => ?_)
 refine ZGO Try.func77 #[.slice A1_1 l1_1.length c1_1] ?_
 with_reducible refine (spec_l2Copy.calls k _ _ l1_1 t430 _ ?side1 ?side2 A4.out).mono ?_
 (case side1 => exact Kd.C_foot_now HR1_1.out (ZJ))
 (case side2 => exact HC1_1.out)
 rintro e wq7 ⟨vq2, rfl, hoq1, hb⟩
 refine ⟨_, rfl, ?_⟩
 have HOq2 := AM (Kd.N_lower (Kd.N_mono (ok' := fun k_ => (w.heap.size ≤ k_) ∧ some k_ ≠ (vq1 : Value).ownBlock ∧ k_ ≠ gbq0 ∧ k_ ≠ gbq1 ∧ k_ ≠ gbq2 ∧ k_ ≠ g) (Kd.R_N (Kd.R_bound hoq1)) (fun k_ hk_ => ⟨(Nat.le_trans (keep_size (w := w) (g := g) (row := none) (ZJ)) hk_.2.1), (Kd.fresh' (Kd.R_lt (ZR HOq1.out)) k_ hk_.2.1), (Kd.freshB (g := gbq0) (o := .cells #[.slice A1_0 l1_0.length c1_0, .slice A1_1 l1_1.length c1_1] 26 (0, 0)) (ZK BKq0.out) k_ hk_.2.1), (Kd.freshB (g := gbq1) (o := .cells #[.slice none 0 0, .slice none 0 0] 26 (0, 0)) (ZK BKq1.out) k_ hk_.2.1), (Kd.freshB (g := gbq2) (o := .cells #[.slice none 0 0, .slice none 0 0] 26 (0, 0)) (ZK BKq2.out) k_ hk_.2.1), (IsS64.fresh (ZI) k_ hk_.2.1)⟩)) (keep_size (w := w) (g := g) (row := none) (ZJ)))
 replace HOq1 := AM (Kd.R_below (ZR HOq1.out) hb)
 replace BKq0 := ZW BKq0 hb
 replace BKq1 := ZW BKq1 hb
 replace BKq2 := ZW BKq2 hb
 replace HK := ZKT HK (KeepBut.of_below hb g none)
 replace HB := ZTI HB hb
 replace HI0 := AM (IsS64.below (ZI) hb)
 (try clear hb)
 (try clear hb2)
 (try clear hk)
 (try clear hi)
 (try clear hoq1)
 obtain ⟨Aoq1, coq1, eoq1⟩ := Kd.N_slice HOq2.out
 (first | subst eoq1 | (injection eoq1 with f1_ f2_ f3_; have fq0_ := f1_.symm; have fq1_ := f3_.symm; clear f1_ f2_ f3_; subst fq0_; subst fq1_))
 obtain ⟨Aoq2, coq2, eoq2⟩ := Kd.R_slice HOq1.out
 (first | subst eoq2 | (injection eoq2 with f1_ f2_ f3_; have fq0_ := f1_.symm; have fq1_ := f3_.symm; clear f1_ f2_ f3_; subst fq0_; subst fq1_))
 refine hK.out _ _ ⟨ZA BKq0 0, ZA BKq0 1⟩ (fun hHeld => ?_)
 clear hK K
 refine ZNO 13 ?_
 refine ZU 7 14 #[T,T,T,T,T,T,T,T,T,F] ?_
 exact norm_ (by simp only [putAll, Act.put, List.setIfInBounds_toArray, List.set_cons_zero, List.set_cons_succ]) (hCont (vq0, .slice Aoq2 y427.length coq2, .slice Aoq1 t430.length coq1, gbq2) _ ⟨hHeld, (ZR HOq1.out), (by (with_reducible repeat (first | apply Kd.N_alloc | apply Kd.N_drewN | apply Kd.N_drew)); exact Kd.N_mono HOq2.out (fun _ hk => ⟨hk.1, ⟨hk.2.1, ⟨hk.2.2.2.2.2, ⟨hk.2.2.1, ⟨hk.2.2.2.1, hk.2.2.2.2.1⟩⟩⟩⟩⟩)), (ZK BKq0.out), (ZK BKq1.out), (ZK BKq2.out), GWq2.out, GEq2.out, NBq0_433.out, NBq3_0.out, NBq1_433.out, NBq3_422.out, NBq2_433.out, NBq3_423.out, (ZI), (ZJ), (ZBI)⟩)))
 ·(
 skip
 refine box_step ?hg (N := 5) ?hd (cs := #[.slice none 0 0, .slice none 0 0]) (t := 26) ?hr ?_; (case hd => rfl); (case hg => rfl); (case hr => first | (go_simp; done) | (go_simp; rfl))
 intro gbq2 hg wq4 hbox hb
 have BKq2 := AM (hbox)
 have GWq2 := AM ((by rw [hg]; exact (keep_size (w := w) (g := g) (row := none) (ZJ)) : w.heap.size ≤ gbq2))
 have GEq2 := AM ((Nat.le_trans HW0.out (by rw [hg]; exact (keep_size (w := w) (g := g) (row := none) (ZJ)) : w.heap.size ≤ gbq2) : w0.heap.size ≤ gbq2))
 have NBq1_433 : Aside0 (gbq0 ≠ gbq2) := ZN hg BKq0
 have NBq3_422 : Aside0 (gbq2 ≠ gbq0) := ZM hg BKq0
 have NBq2_433 : Aside0 (gbq1 ≠ gbq2) := ZN hg BKq1
 have NBq3_423 : Aside0 (gbq2 ≠ gbq1) := ZM hg BKq1
 have NBq0_433 := AM ((by rw [hg]; exact Nat.ne_of_lt (IsS64.lt (show IsS64 w0 _ g s0_0 s0_1 from ZI)) : g ≠ gbq2))
 have NBq3_0 := AM ((by rw [hg]; exact Nat.ne_of_gt (IsS64.lt (show IsS64 w0 _ g s0_0 s0_1 from ZI)) : gbq2 ≠ g))
 replace HOq0 := AM (Kd.R_below (ZR HOq0.out) hb)
 replace BKq0 := ZW BKq0 hb
 replace BKq1 := ZW BKq1 hb
 replace HK := ZKT HK (KeepBut.of_below hb g none)
 replace HB := ZTI HB hb
 replace HI0 := AM (IsS64.below (ZI) hb)
 clear hb hbox hg
 refine hK.out _ _ ⟨ZA BKq0 0, ZA BKq0 1⟩ (fun hHeld => ?_)
 clear hK K
 refine ZNO 5 ?_
 refine one_ (i := 3) (N := some 10) #[T,T,T,T,T,T,F,F,T,F] rfl rfl (one_of HT_.out (by kernel_rfl)) (by decide) (fun K hK => ?_)
 refine Kd.R_append_rows_step k39 w.heap.size (by rfl) (.tmp 7) (.tmp 9) 23 39 (.agg #[(.int .i64 0), (.int .i64 0)]) 16 rfl Try.underlying23 info39 rfl (by decide) (by omega) vq0 y424 l1_0 _ _ _ (fun k_ => (w.heap.size ≤ k_)) (fun _ => False) rfl rfl ?aO ?aR (fun _ _ h => h) (fun _ h => h.elim) ?aF (Below.refl _ _) ?aS ?aL ?_
 (case aR => exact Kd.C_foot_now HR1_0.out (ZJ))
 (case aF => exact (fun k_ hk => (Nat.le_trans (keep_size (w := w) (g := g) (row := none) (ZJ)) hk)))
 (case aO => exact (ZR (Kd.R_mono HOq0.out (fun _ hk => hk.1))))
 (case aS => exact (keep_size (w := w) (g := g) (row := none) (ZJ)))
 (case aL => have := LMc3.out; omega)
 intro vq1 wq5 ho hb hg hat
 rw [← Ny427.out] at ho
 have nq0_ := AM (IsS64.grown (ZI) hg (IsS64.own_ne HI0.out HOq0.out (by decide)))
 have nq1_ := AM (blk_grown (g := gbq0) (o := .cells #[.slice A1_0 l1_0.length c1_0, .slice A1_1 l1_1.length c1_1] 26 (0, 0)) (ZK BKq0.out) hg (Kd.R_ne HOq0.out BKq0.out (by decide)))
 have nq2_ := AM (blk_grown (g := gbq1) (o := .cells #[.slice none 0 0, .slice none 0 0] 26 (0, 0)) (ZK BKq1.out) hg (Kd.R_ne HOq0.out BKq1.out (by decide)))
 have nq3_ := AM (blk_grown (g := gbq2) (o := .cells #[.slice none 0 0, .slice none 0 0] 26 (0, 0)) (ZK BKq2.out) hg (Kd.R_ne HOq0.out BKq2.out (by decide)))
 have nq4_ := AM (below_weaken (ZBI) HL.out hb)
 have nq5_ := AM (KeepBut.trans (ZJ) (KeepBut.of_grown hg g) (Kd.R_base2 HOq0.out))
 have nq6_ := AM (ho)
 clear HI0 BKq0 BKq1 BKq2 HB HK HOq0
 have HI0 := nq0_
 have BKq0 := nq1_
 have BKq1 := nq2_
 have BKq2 := nq3_
 have HB := nq4_
 have HK := nq5_
 have HOq1 := nq6_
 clear nq0_ nq1_ nq2_ nq3_ nq4_ nq5_ nq6_ ho hb hg hat
 refine hK.out _ _ ⟨ZA BKq0 0, ZA BKq0 1⟩ (fun hHeld => ?_)
 clear hK K
 refine ZNO 10 ?_
 refine one_ (i := 6) (N := some 13) #[T,T,T,T,T,T,T,F,T,F] rfl rfl (one_of HT_.out (by kernel_rfl)) (by decide) (fun K hK => ?_)
 refine ZGO Try.func77 #[.slice A1_1 l1_1.length c1_1] ?_
 with_reducible refine (spec_l2Copy.calls k _ _ l1_1 t430 _ ?side1 ?side2 A4.out).mono ?_
 (case side1 => exact Kd.C_foot_now HR1_1.out (ZJ))
 (case side2 => exact HC1_1.out)
 rintro e wq7 ⟨vq2, rfl, hoq1, hb⟩
 refine ⟨_, rfl, ?_⟩
 have HOq2 := AM (Kd.N_lower (Kd.N_mono (ok' := fun k_ => (w.heap.size ≤ k_) ∧ some k_ ≠ (vq1 : Value).ownBlock ∧ k_ ≠ gbq0 ∧ k_ ≠ gbq1 ∧ k_ ≠ gbq2 ∧ k_ ≠ g) (Kd.R_N (Kd.R_bound hoq1)) (fun k_ hk_ => ⟨(Nat.le_trans (keep_size (w := w) (g := g) (row := none) (ZJ)) hk_.2.1), (Kd.fresh' (Kd.R_lt (ZR HOq1.out)) k_ hk_.2.1), (Kd.freshB (g := gbq0) (o := .cells #[.slice A1_0 l1_0.length c1_0, .slice A1_1 l1_1.length c1_1] 26 (0, 0)) (ZK BKq0.out) k_ hk_.2.1), (Kd.freshB (g := gbq1) (o := .cells #[.slice none 0 0, .slice none 0 0] 26 (0, 0)) (ZK BKq1.out) k_ hk_.2.1), (Kd.freshB (g := gbq2) (o := .cells #[.slice none 0 0, .slice none 0 0] 26 (0, 0)) (ZK BKq2.out) k_ hk_.2.1), (IsS64.fresh (ZI) k_ hk_.2.1)⟩)) (keep_size (w := w) (g := g) (row := none) (ZJ)))
 replace HOq1 := AM (Kd.R_below (ZR HOq1.out) hb)
 replace BKq0 := ZW BKq0 hb
 replace BKq1 := ZW BKq1 hb
 replace BKq2 := ZW BKq2 hb
 replace HK := ZKT HK (KeepBut.of_below hb g none)
 replace HB := ZTI HB hb
 replace HI0 := AM (IsS64.below (ZI) hb)
 (try clear hb)
 (try clear hb2)
 (try clear hk)
 (try clear hi)
 (try clear hoq1)
 obtain ⟨Aoq1, coq1, eoq1⟩ := Kd.N_slice HOq2.out
 (first | subst eoq1 | (injection eoq1 with f1_ f2_ f3_; have fq0_ := f1_.symm; have fq1_ := f3_.symm; clear f1_ f2_ f3_; subst fq0_; subst fq1_))
 obtain ⟨Aoq2, coq2, eoq2⟩ := Kd.R_slice HOq1.out
 (first | subst eoq2 | (injection eoq2 with f1_ f2_ f3_; have fq0_ := f1_.symm; have fq1_ := f3_.symm; clear f1_ f2_ f3_; subst fq0_; subst fq1_))
 refine hK.out _ _ ⟨ZA BKq0 0, ZA BKq0 1⟩ (fun hHeld => ?_)
 clear hK K
 refine ZNO 13 ?_
 refine ZU 7 14 #[T,T,T,T,T,T,T,T,T,F] ?_
 exact norm_ (by simp only [putAll, Act.put, List.setIfInBounds_toArray, List.set_cons_zero, List.set_cons_succ]) (hCont (vq0, .slice Aoq2 y427.length coq2, .slice Aoq1 t430.length coq1, gbq2) _ ⟨hHeld, (ZR HOq1.out), (by (with_reducible repeat (first | apply Kd.N_alloc | apply Kd.N_drewN | apply Kd.N_drew)); exact Kd.N_mono HOq2.out (fun _ hk => ⟨hk.1, ⟨hk.2.1, ⟨hk.2.2.2.2.2, ⟨hk.2.2.1, ⟨hk.2.2.2.1, hk.2.2.2.2.1⟩⟩⟩⟩⟩)), (ZK BKq0.out), (ZK BKq1.out), (ZK BKq2.out), GWq2.out, GEq2.out, NBq0_433.out, NBq3_0.out, NBq1_433.out, NBq3_422.out, NBq2_433.out, NBq3_423.out, (ZI), (ZJ), (ZBI)⟩)))
 ·(
 skip
 refine box_step ?hg (N := 5) ?hd (cs := #[.slice none 0 0, .slice none 0 0]) (t := 26) ?hr ?_; (case hd => rfl); (case hg => rfl); (case hr => first | (go_simp; done) | (go_simp; rfl))
 intro gbq2 hg wq3 hbox hb
 have BKq2 := AM (hbox)
 have GWq2 := AM ((by rw [hg]; exact (keep_size (w := w) (g := g) (row := none) (ZJ)) : w.heap.size ≤ gbq2))
 have GEq2 := AM ((Nat.le_trans HW0.out (by rw [hg]; exact (keep_size (w := w) (g := g) (row := none) (ZJ)) : w.heap.size ≤ gbq2) : w0.heap.size ≤ gbq2))
 have NBq1_433 : Aside0 (gbq0 ≠ gbq2) := ZN hg BKq0
 have NBq3_422 : Aside0 (gbq2 ≠ gbq0) := ZM hg BKq0
 have NBq2_433 : Aside0 (gbq1 ≠ gbq2) := ZN hg BKq1
 have NBq3_423 : Aside0 (gbq2 ≠ gbq1) := ZM hg BKq1
 have NBq0_433 := AM ((by rw [hg]; exact Nat.ne_of_lt (IsS64.lt (show IsS64 w0 _ g s0_0 s0_1 from ZI)) : g ≠ gbq2))
 have NBq3_0 := AM ((by rw [hg]; exact Nat.ne_of_gt (IsS64.lt (show IsS64 w0 _ g s0_0 s0_1 from ZI)) : gbq2 ≠ g))
 replace BKq0 := ZW BKq0 hb
 replace BKq1 := ZW BKq1 hb
 replace HK := ZKT HK (KeepBut.of_below hb g none)
 replace HB := ZTI HB hb
 replace HI0 := AM (IsS64.below (ZI) hb)
 clear hb hbox hg
 refine hK.out _ _ ⟨ZA BKq0 0, ZA BKq0 1⟩ (fun hHeld => ?_)
 clear hK K
 refine ZNO 5 ?_
 refine one_ (i := 0) (N := some 7) #[T,T,T,F,T,T,F,F,T,F] rfl rfl (one_of HT_.out (by kernel_rfl)) (by decide) (fun K hK => ?_)
 refine Kd.R_lit_step k39 _ 39 ?hg (N := 7) ?hd (xs := ([] : List (S39))) (inner := []) (ok := fun _ => True) (okp := fun _ => True) ?hr ?hp (fun _ hk => hk) trivial (Below.refl _ _) (Nat.le_refl _) (by simp) ?_; (case hd => rfl); (case hg => rfl); (case hr => first | (go_simp; done) | (go_simp; rfl)); (case hp => exact (Reps.none _ _))
 intro vq0 wq8 hoq2 hb hg_ hnew_
 clear hg_ hnew_
 (first | rw [← Ny424.out] at hoq2 | (simp only [Int.reduceToNat] at hoq2; rw [← Ny424.out] at hoq2))
 have HOq0 := AM (Kd.R_lower (Kd.R_newM (M := fun k_ => (w.heap.size ≤ k_)) hoq2 (keep_size (w := w) (g := g) (row := none) (ZJ)) (fun k_ h_ => h_)) (keep_size (w := w) (g := g) (row := none) (ZJ)))
 replace BKq0 := ZW BKq0 hb
 replace BKq1 := ZW BKq1 hb
 replace BKq2 := ZW BKq2 hb
 replace HK := ZKT HK (KeepBut.of_below hb g none)
 replace HB := ZTI HB hb
 replace HI0 := AM (IsS64.below (ZI) hb)
 clear hb hoq2
 refine hK.out _ _ ⟨ZA BKq0 0, ZA BKq0 1⟩ (fun hHeld => ?_)
 clear hK K
 refine ZNO 7 ?_
 refine one_ (i := 3) (N := some 10) #[T,T,T,T,T,T,F,F,T,F] rfl rfl (one_of HT_.out (by kernel_rfl)) (by decide) (fun K hK => ?_)
 refine Kd.R_append_rows_step k39 w.heap.size (by rfl) (.tmp 7) (.tmp 9) 23 39 (.agg #[(.int .i64 0), (.int .i64 0)]) 16 rfl Try.underlying23 info39 rfl (by decide) (by omega) vq0 y424 l1_0 _ _ _ (fun k_ => (w.heap.size ≤ k_)) (fun _ => False) rfl rfl ?aO ?aR (fun _ _ h => h) (fun _ h => h.elim) ?aF (Below.refl _ _) ?aS ?aL ?_
 (case aR => exact Kd.C_foot_now HR1_0.out (ZJ))
 (case aF => exact (fun k_ hk => (Nat.le_trans (keep_size (w := w) (g := g) (row := none) (ZJ)) hk)))
 (case aO => exact (ZR (Kd.R_mono HOq0.out (fun _ hk => hk.1))))
 (case aS => exact (keep_size (w := w) (g := g) (row := none) (ZJ)))
 (case aL => have := LMc3.out; omega)
 intro vq1 wq5 ho hb hg hat
 rw [← Ny427.out] at ho
 have nq0_ := AM (IsS64.grown (ZI) hg (IsS64.own_ne HI0.out HOq0.out (by decide)))
 have nq1_ := AM (blk_grown (g := gbq0) (o := .cells #[.slice A1_0 l1_0.length c1_0, .slice A1_1 l1_1.length c1_1] 26 (0, 0)) (ZK BKq0.out) hg (Kd.R_ne HOq0.out BKq0.out (by decide)))
 have nq2_ := AM (blk_grown (g := gbq1) (o := .cells #[.slice none 0 0, .slice none 0 0] 26 (0, 0)) (ZK BKq1.out) hg (Kd.R_ne HOq0.out BKq1.out (by decide)))
 have nq3_ := AM (blk_grown (g := gbq2) (o := .cells #[.slice none 0 0, .slice none 0 0] 26 (0, 0)) (ZK BKq2.out) hg (Kd.R_ne HOq0.out BKq2.out (by decide)))
 have nq4_ := AM (below_weaken (ZBI) HL.out hb)
 have nq5_ := AM (KeepBut.trans (ZJ) (KeepBut.of_grown hg g) (Kd.R_base2 HOq0.out))
 have nq6_ := AM (ho)
 clear HI0 BKq0 BKq1 BKq2 HB HK HOq0
 have HI0 := nq0_
 have BKq0 := nq1_
 have BKq1 := nq2_
 have BKq2 := nq3_
 have HB := nq4_
 have HK := nq5_
 have HOq1 := nq6_
 clear nq0_ nq1_ nq2_ nq3_ nq4_ nq5_ nq6_ ho hb hg hat
 refine hK.out _ _ ⟨ZA BKq0 0, ZA BKq0 1⟩ (fun hHeld => ?_)
 clear hK K
 refine ZNO 10 ?_
 refine one_ (i := 6) (N := some 13) #[T,T,T,T,T,T,T,F,T,F] rfl rfl (one_of HT_.out (by kernel_rfl)) (by decide) (fun K hK => ?_)
 refine ZGO Try.func77 #[.slice A1_1 l1_1.length c1_1] ?_
 with_reducible refine (spec_l2Copy.calls k _ _ l1_1 t430 _ ?side1 ?side2 A4.out).mono ?_
 (case side1 => exact Kd.C_foot_now HR1_1.out (ZJ))
 (case side2 => exact HC1_1.out)
 rintro e wq7 ⟨vq2, rfl, hoq1, hb⟩
 refine ⟨_, rfl, ?_⟩
 have HOq2 := AM (Kd.N_lower (Kd.N_mono (ok' := fun k_ => (w.heap.size ≤ k_) ∧ some k_ ≠ (vq1 : Value).ownBlock ∧ k_ ≠ gbq0 ∧ k_ ≠ gbq1 ∧ k_ ≠ gbq2 ∧ k_ ≠ g) (Kd.R_N (Kd.R_bound hoq1)) (fun k_ hk_ => ⟨(Nat.le_trans (keep_size (w := w) (g := g) (row := none) (ZJ)) hk_.2.1), (Kd.fresh' (Kd.R_lt (ZR HOq1.out)) k_ hk_.2.1), (Kd.freshB (g := gbq0) (o := .cells #[.slice A1_0 l1_0.length c1_0, .slice A1_1 l1_1.length c1_1] 26 (0, 0)) (ZK BKq0.out) k_ hk_.2.1), (Kd.freshB (g := gbq1) (o := .cells #[.slice none 0 0, .slice none 0 0] 26 (0, 0)) (ZK BKq1.out) k_ hk_.2.1), (Kd.freshB (g := gbq2) (o := .cells #[.slice none 0 0, .slice none 0 0] 26 (0, 0)) (ZK BKq2.out) k_ hk_.2.1), (IsS64.fresh (ZI) k_ hk_.2.1)⟩)) (keep_size (w := w) (g := g) (row := none) (ZJ)))
 replace HOq1 := AM (Kd.R_below (ZR HOq1.out) hb)
 replace BKq0 := ZW BKq0 hb
 replace BKq1 := ZW BKq1 hb
 replace BKq2 := ZW BKq2 hb
 replace HK := ZKT HK (KeepBut.of_below hb g none)
 replace HB := ZTI HB hb
 replace HI0 := AM (IsS64.below (ZI) hb)
 (try clear hb)
 (try clear hb2)
 (try clear hk)
 (try clear hi)
 (try clear hoq1)
 obtain ⟨Aoq1, coq1, eoq1⟩ := Kd.N_slice HOq2.out
 (first | subst eoq1 | (injection eoq1 with f1_ f2_ f3_; have fq0_ := f1_.symm; have fq1_ := f3_.symm; clear f1_ f2_ f3_; subst fq0_; subst fq1_))
 obtain ⟨Aoq2, coq2, eoq2⟩ := Kd.R_slice HOq1.out
 (first | subst eoq2 | (injection eoq2 with f1_ f2_ f3_; have fq0_ := f1_.symm; have fq1_ := f3_.symm; clear f1_ f2_ f3_; subst fq0_; subst fq1_))
 refine hK.out _ _ ⟨ZA BKq0 0, ZA BKq0 1⟩ (fun hHeld => ?_)
 clear hK K
 refine ZNO 13 ?_
 refine ZU 7 14 #[T,T,T,T,T,T,T,T,T,F] ?_
 exact norm_ (by simp only [putAll, Act.put, List.setIfInBounds_toArray, List.set_cons_zero, List.set_cons_succ]) (hCont (vq0, .slice Aoq2 y427.length coq2, .slice Aoq1 t430.length coq1, gbq2) _ ⟨hHeld, (ZR HOq1.out), (by (with_reducible repeat (first | apply Kd.N_alloc | apply Kd.N_drewN | apply Kd.N_drew)); exact Kd.N_mono HOq2.out (fun _ hk => ⟨hk.1, ⟨hk.2.1, ⟨hk.2.2.2.2.2, ⟨hk.2.2.1, ⟨hk.2.2.2.1, hk.2.2.2.2.1⟩⟩⟩⟩⟩)), (ZK BKq0.out), (ZK BKq1.out), (ZK BKq2.out), GWq2.out, GEq2.out, NBq0_433.out, NBq3_0.out, NBq1_433.out, NBq3_422.out, NBq2_433.out, NBq3_423.out, (ZI), (ZJ), (ZBI)⟩)))
 rintro ⟨vq0, vq1, vq2, gbq2⟩ wq9 ⟨hS_, hq0_, hq1_, hq2_, hq3_, hq4_, hq5_, hq6_, hq7_, hq8_, hq9_, hq10_, hq11_, hq12_, hq13_, hq14_, hq15_⟩
 try dsimp only at hq0_ hq1_ hq2_ hq3_ hq4_ hq5_ hq6_ hq7_ hq8_ hq9_ hq10_ hq11_ hq12_ hq13_ hq14_ hq15_
 have nq0_ := AM hq0_
 have nq1_ := AM hq1_
 have nq2_ := AM hq2_
 have nq3_ := AM hq3_
 have nq4_ := AM hq4_
 have nq5_ := AM hq5_
 have nq6_ := AM hq6_
 have nq7_ := AM hq7_
 have nq8_ := AM hq8_
 have nq9_ := AM hq9_
 have nq10_ := AM hq10_
 have nq11_ := AM hq11_
 have nq12_ := AM hq12_
 have nq13_ := AM hq13_
 have nq14_ := AM hq14_
 have nq15_ := AM hq15_
 clear BKq0 BKq1 HI0 HK HB hq0_ hq1_ hq2_ hq3_ hq4_ hq5_ hq6_ hq7_ hq8_ hq9_ hq10_ hq11_ hq12_ hq13_ hq14_ hq15_
 have HOq1 := nq0_
 have HOq2 := nq1_
 have BKq0 := nq2_
 have BKq1 := nq3_
 have BKq2 := nq4_
 have GWq2 := nq5_
 have GEq2 := nq6_
 have NBq0_433 := nq7_
 have NBq3_0 := nq8_
 have NBq1_433 := nq9_
 have NBq3_422 := nq10_
 have NBq2_433 := nq11_
 have NBq3_423 := nq12_
 have HI0 := nq13_
 have HK := nq14_
 have HB := nq15_
 clear nq0_ nq1_ nq2_ nq3_ nq4_ nq5_ nq6_ nq7_ nq8_ nq9_ nq10_ nq11_ nq12_ nq13_ nq14_ nq15_
 try dsimp only at hS_
 have hHeld := hS_
 obtain ⟨Aoq3, coq3, eoq3⟩ := Kd.N_slice HOq2.out
 (first | subst eoq3 | (injection eoq3 with f1_ f2_ f3_; have fq0_ := f1_.symm; have fq1_ := f3_.symm; clear f1_ f2_ f3_; subst fq0_; subst fq1_))
 obtain ⟨Aoq4, coq4, eoq4⟩ := Kd.R_slice HOq1.out
 (first | subst eoq4 | (injection eoq4 with f1_ f2_ f3_; have fq0_ := f1_.symm; have fq1_ := f3_.symm; clear f1_ f2_ f3_; subst fq0_; subst fq1_))
 refine ZNP ?_
 refine one_ (i := 9) (N := none) #[T,T,T,T,T,T,T,T,T,T] rfl rfl (one_of HT_.out (by kernel_rfl)) (by decide) (fun K hK => ?_)
 have hsq0 : wq9.cell? ⟨gbq2, 0, none⟩ = some (.slice none 0 0) := ZA BKq2 0
 have hfsq0 := blk_frozen BKq2.out 0
 have hnsq0_0 := NBq1_433.out
 have hnsq0_1 := NBq2_433.out
 have hmsq0_0 := NBq3_422.out
 have hmsq0_1 := NBq3_423.out
 have hsq1 : wq9.cell? ⟨gbq2, 1, none⟩ = some (.slice none 0 0) := ZA BKq2 1
 have hfsq1 := blk_frozen BKq2.out 1
 have hnsq1_0 := NBq1_433.out
 have hnsq1_1 := NBq2_433.out
 have hmsq1_0 := NBq3_422.out
 have hmsq1_1 := NBq3_423.out
 refine skip_ (w1 := ?_) (by rfl) rfl ?_ ?_
 rotate_left
 ·(
 go_simp
 rfl)
 refine hK.out _ _ ⟨((cell_far (p := ⟨gbq2, _, none⟩) NBq1_433.out _).trans (((cell_far (p := ⟨gbq2, _, none⟩) NBq1_433.out _).trans (hHeld.1)))), ((cell_far (p := ⟨gbq2, _, none⟩) NBq1_433.out _).trans (((cell_far (p := ⟨gbq2, _, none⟩) NBq1_433.out _).trans (hHeld.2))))⟩ (fun hHeld => ?_)
 clear hK K
 refine done_ (done_of HT_.out (by kernel_rfl)) ?_
 first
 | (
 (have z_ := tag0_; clear z_)
 try go_wp2_with (first | ((with_reducible refine gate_callee (f := 39) rfl ?_); refine ZGL (some 16) Try.func39 #[.pointer (some ⟨g, 0, none⟩), .int .i64 8] ?_; (with_reducible refine (spec_l6Rd_pick.calls k g s0_0 s0_1 8 t434 t435 w0 _ ?side1 ?side2 A5.out).mono ?_); (case side1 => exact ZI); (case side2 => exact ZBI); rintro e wq10 ⟨rfl, hi, hb, hk⟩; refine ⟨_, rfl, ?_⟩; replace BKq0 := ZLV #[.slice A1_0 l1_0.length c1_0, .slice A1_1 l1_1.length c1_1] hk BKq0 NBq1_0; replace BKq1 := ZLV #[.slice none 0 0, .slice none 0 0] hk BKq1 NBq2_0; replace HOq1 := AM (Kd.R_mono (Kd.R_keep (IsS64.apart (show IsS64 w0 _ g s0_0 s0_1 from ZI) (ZR ((Kd.R_mono (Kd.R_far (p := ⟨gbq2, 1, none⟩) (Kd.R_far (p := ⟨gbq2, 0, none⟩) (Kd.R_types HOq1.out BKq2.out (by decide)) (fun _ hk => hk.2) (.slice Aoq4 y427.length coq4)) (fun _ hk => hk.2) (.slice Aoq3 t430.length coq3)) (fun _ h_ => h_.1)))) (by decide)) hk (fun _ h => h.2)) (fun _ h => h.1)); replace HOq2 := AM (Kd.N_mono (Kd.N_keep (Kd.N_mono (ok := fun k_ => (((w.heap.size ≤ k_)) ∧ (some k_ ≠ (.slice Aoq4 y427.length coq4 : Value).ownBlock ∧ (k_ ≠ g ∧ (k_ ≠ gbq0 ∧ (k_ ≠ gbq1 ∧ k_ ≠ gbq2)))))) (by (with_reducible repeat (first | apply Kd.N_alloc | apply Kd.N_drewN | apply Kd.N_drew)); exact (Kd.N_mono (Kd.N_far (p := ⟨gbq2, 1, none⟩) (Kd.N_far (p := ⟨gbq2, 0, none⟩) (Kd.N_mono HOq2.out (fun k_ hk => (⟨hk, hk.2.2.2.2.2⟩ : _ ∧ k_ ≠ gbq2))) (fun _ hk => hk.2) (.slice Aoq4 y427.length coq4)) (fun _ hk => hk.2) (.slice Aoq3 t430.length coq3)) (fun _ h_ => h_.1))) (fun k_ hk_ => (⟨hk_, hk_.2.2.1⟩ : _ ∧ k_ ≠ g))) hk (fun _ h => h.2)) (fun _ h => h.1)); replace BKq2 := ZLV #[.slice Aoq4 y427.length coq4, .slice Aoq3 t430.length coq3] hk BKq2 NBq3_0; replace HK := ZKT HK hk; replace HB := AM (hb); replace HI0 := AM (hi); clear hb hk hi; have hnbq0 := NBq3_422.out; have hncq0 := NBq1_433.out; have hnbq1 := NBq3_423.out; have hncq1 := NBq2_433.out; have hnbq2 := NBq3_0.out; have hncq2 := NBq0_433.out; have hczq0 := ZC2 wq10 BKq2; have hfzq0 := ZF2 BKq2; have pq0 : 0 ≤ (0 : Int) := (by omega); have qq0 : (0 : Int) < ((y427.length : Int) : Int) := ZD; have qiq0 : (0 < y427.length) = True := eq_true (by omega); obtain ⟨goq0, coq5, eoq5, gbq3, glq0, clq0, HGq0⟩ := Kd.R_form HOq1.out (by omega); (first | cases eoq5 | (injection eoq5 with ea_ en_ ec_; (first | subst ea_ | (injection ea_ with ea_; subst ea_)); subst ec_; clear en_)); have GBq0 := AM gbq3; have GGq0 := AM HGq0; clear gbq3 glq0 HGq0; obtain ⟨ceq0, hclq0, hMq0, hccq0, hfrq0⟩ := Kd.R_elem HOq1.out z39 (0 : Int) pq0 qq0; obtain rfl := k39_openM hMq0; have hxq0_0 : wq10.cell? ⟨goq0, (0 : Int).toNat * 2, none⟩ = some (.int .i64 ((rd_T39 y427 0).f0)) := hccq0 0 _ rfl; have hxq0_1 : wq10.cell? ⟨goq0, (0 : Int).toNat * 2 + 1, none⟩ = some (.int .i64 ((rd_T39 y427 0).f1)) := hccq0 1 _ rfl; have hfq0_0 : wq10.frozen? ⟨goq0, (0 : Int).toNat * 2, none⟩ = false := hfrq0 0; have hfq0_1 : wq10.frozen? ⟨goq0, (0 : Int).toNat * 2 + 1, none⟩ = false := hfrq0 1; clear hclq0 hccq0 hfrq0 hMq0; (try rw [show ((0 : Int)).toNat = 0 from rfl] at hxq0_0); (try simp only [Nat.reduceMul, Nat.zero_mul, Nat.zero_add, Nat.reduceAdd] at hxq0_0); (try rw [show ((0 : Int)).toNat = 0 from rfl] at hfq0_0); (try simp only [Nat.reduceMul, Nat.zero_mul, Nat.zero_add, Nat.reduceAdd] at hfq0_0); (try rw [show ((0 : Int)).toNat = 0 from rfl] at hxq0_1); (try simp only [Nat.reduceMul, Nat.zero_mul, Nat.zero_add, Nat.reduceAdd] at hxq0_1); (try rw [show ((0 : Int)).toNat = 0 from rfl] at hfq0_1); (try simp only [Nat.reduceMul, Nat.zero_mul, Nat.zero_add, Nat.reduceAdd] at hfq0_1); replace pq0 := eq_true pq0; replace qq0 := eq_true qq0; have HXq0 := AM (show Kd.R k39 39 wq10 w.heap.size (fun k_ => (w.heap.size ≤ k_)) (.slice (some ⟨goq0, 0, none⟩) y427.length coq4) y427 from (ZR HOq1.out)); obtain ⟨ceq1, hclq1, hMq1, hccq1, hfrq1⟩ := Kd.R_elem HXq0.out z39 (0 : Int) (by omega) (by have h_ : (0 : Int) < ((y427.length : Int) : Int) := ZD; first | exact h_ | (have e_ := (Kd.R_reads' HOq1.out).1; omega) | simpa using h_); obtain rfl := k39_openM hMq1; have HPq0 := Kd.R_seg HXq0.out (0 : Int) (by omega) (by have h_ : (0 : Int) < ((y427.length : Int) : Int) := ZD; first | exact h_ | (have e_ := (Kd.R_reads' HOq1.out).1; omega) | simpa using h_) (seg := [.int .i64 8]) (j := 0) hclq1 hccq1 (show 1 ≤ 2 from by decide) (x' := (⟨8, (rd_T39 y427 0).f1⟩ : S39)) (k39_mkM _ _ _ (⟨8, (rd_T39 y427 0).f1⟩ : S39) ) (fun _ hk => hk); have hxq1_0 := hccq1 0 _ rfl; (try simp only [show (k39).sz = 2 from rfl, Nat.mul_one, Nat.add_zero] at hxq1_0); (try rw [show ((0 : Int)).toNat = 0 from rfl] at hxq1_0); (try simp only [Nat.reduceMul, Nat.zero_mul, Nat.zero_add, Nat.reduceAdd] at hxq1_0); have hfq1_0 := hfrq1 0; (try simp only [show (k39).sz = 2 from rfl, Nat.mul_one, Nat.add_zero] at hfq1_0); (try rw [show ((0 : Int)).toNat = 0 from rfl] at hfq1_0); (try simp only [Nat.reduceMul, Nat.zero_mul, Nat.zero_add, Nat.reduceAdd] at hfq1_0); clear hclq1 hccq1 hfrq1 hMq1) | ((with_reducible refine gate_store (t := 3) (p := 28) rfl ?_); refine store_event (t := 3) (p := 28) (v := ?vo_w30) (w1 := (wq10.setCell ⟨goq0, 0, none⟩ (.int .i64 8))) ?hg ?ho ?hn ?hr ?_; (case ho => rfl); (case hg => rfl); (case hn => rfl); (case hr => first | (go_simp; done) | (go_simp; rfl)); intro wq11 hw; have hg : wq10.grownBy wq11 (some goq0) := (by rw [hw]; exact HPq0.2); have hp_ : Kd.R k39 39 wq11 w.heap.size (fun k_ => (w.heap.size ≤ k_)) (.slice (some ⟨goq0, 0, none⟩) y427.length coq4) y436 := (by rw [hw, Ny436.out]; exact HPq0.1); clear HPq0; replace HI0 := AM (IsS64.grown (ZI) hg (IsS64.own_ne HI0.out HOq1.out (by decide))); replace BKq0 := AM (blk_grown (g := gbq0) (o := .cells #[.slice A1_0 l1_0.length c1_0, .slice A1_1 l1_1.length c1_1] 26 (0, 0)) (ZK BKq0.out) hg (Kd.R_ne HOq1.out BKq0.out (by decide))); replace BKq1 := AM (blk_grown (g := gbq1) (o := .cells #[.slice none 0 0, .slice none 0 0] 26 (0, 0)) (ZK BKq1.out) hg (Kd.R_ne HOq1.out BKq1.out (by decide))); replace HOq2 := AM (Kd.N_afterv (v := (.slice (some ⟨goq0, 0, none⟩) y427.length coq4)) (v1 := (.slice (some ⟨goq0, 0, none⟩) y427.length coq4)) (ok := (fun k_ => (w.heap.size ≤ k_) ∧ k_ ≠ g ∧ k_ ≠ gbq0 ∧ k_ ≠ gbq1 ∧ k_ ≠ gbq2)) (by (with_reducible repeat (first | apply Kd.N_alloc | apply Kd.N_drewN | apply Kd.N_drew)); exact Kd.N_mono HOq2.out (fun _ hk => ⟨⟨hk.1, ⟨hk.2.2.1, ⟨hk.2.2.2.1, ⟨hk.2.2.2.2.1, hk.2.2.2.2.2⟩⟩⟩⟩, hk.2.1⟩)) hg (.inl rfl)); replace BKq2 := AM (blk_grown (g := gbq2) (o := .cells #[.slice (some ⟨goq0, 0, none⟩) y427.length coq4, .slice Aoq3 t430.length coq3] 26 (0, 0)) (ZK BKq2.out) hg (Kd.R_ne HOq1.out BKq2.out (by decide))); replace HB := AM ((by rw [hw]; exact below_set (HB.out) (Nat.le_trans HL.out GBq0.out) : Below w0.heap.size w0 wq11)); replace HK := AM (KeepBut.trans (ZJ) (KeepBut.of_grown hg g) (Kd.R_base2 HOq1.out)); replace HOq1 := AM (hp_); clear hg hw hp_; have hczq1 := ZC2 wq11 BKq2; have hfzq1 := ZF2 BKq2; have hnbq3 := NBq2_422.out; have hncq3 := NBq1_423.out; have hnbq4 := NBq2_0.out; have hncq4 := NBq0_423.out; have hczq2 := ZC2 wq11 BKq1; have hfzq2 := ZF2 BKq1))
 refine bodyPost_ret (results_cell_row rfl _ _ gbq1 26 #[.slice (some ⟨goq0, 0, none⟩) y427.length coq4, .slice Aoq3 t430.length coq3] (0, 0) _ rfl (ZZ BKq1.out) Try.underlying26 rfl (by kernel_rfl)) rfl ?_
 exact ⟨_, _, ZE, by (with_reducible repeat (first | apply Kd.R_alloc | apply Kd.R_drewN | apply Kd.R_drew)); exact Kd.R_mono (Kd.R_far (p := ⟨gbq1, 1, none⟩) (Kd.R_far (p := ⟨gbq1, 0, none⟩) (Kd.R_types HOq1.out BKq1.out (by decide)) (fun _ hk => hk.2) (.slice (some ⟨goq0, 0, none⟩) y427.length coq4)) (fun _ hk => hk.2) (.slice Aoq3 t430.length coq3)) (fun _ hk => hk.1), by (with_reducible repeat (first | apply Kd.N_alloc | apply Kd.N_drewN | apply Kd.N_drew)); exact Kd.N_mono (Kd.N_far (p := ⟨gbq1, 1, none⟩) (Kd.N_far (p := ⟨gbq1, 0, none⟩) (Kd.N_mono HOq2.out (fun k_ hk => (⟨hk, hk.1.2.2.2.1⟩ : _ ∧ k_ ≠ gbq1))) (fun _ hk => hk.2) (.slice (some ⟨goq0, 0, none⟩) y427.length coq4)) (fun _ hk => hk.2) (.slice Aoq3 t430.length coq3)) (fun _ hk => ⟨hk.1.1.1, hk.1.2⟩), ZI, ZBI, ZJ⟩)
 | (
 (first | (have z_ := tag1_; clear z_) | (have z_ := tag3_; clear z_) | (have z_ := tag4_; clear z_) | (have z_ := tag5_; clear z_))
 try go_wp2_with (first | ((with_reducible refine gate_callee (f := 39) rfl ?_); refine ZGL (some 16) Try.func39 #[.pointer (some ⟨g, 0, none⟩), .int .i64 8] ?_; (with_reducible refine (spec_l6Rd_pick.calls k g s0_0 s0_1 8 t434 t435 w0 _ ?side1 ?side2 A5.out).mono ?_); (case side1 => exact ZI); (case side2 => exact ZBI); rintro e wq10 ⟨rfl, hi, hb, hk⟩; refine ⟨_, rfl, ?_⟩; replace BKq0 := ZLV #[.slice A1_0 l1_0.length c1_0, .slice A1_1 l1_1.length c1_1] hk BKq0 NBq1_0; replace BKq1 := ZLV #[.slice none 0 0, .slice none 0 0] hk BKq1 NBq2_0; replace HOq1 := AM (Kd.R_mono (Kd.R_keep (IsS64.apart (show IsS64 w0 _ g s0_0 s0_1 from ZI) (ZR ((Kd.R_mono (Kd.R_far (p := ⟨gbq2, 1, none⟩) (Kd.R_far (p := ⟨gbq2, 0, none⟩) (Kd.R_types HOq1.out BKq2.out (by decide)) (fun _ hk => hk.2) (.slice Aoq4 y427.length coq4)) (fun _ hk => hk.2) (.slice Aoq3 t430.length coq3)) (fun _ h_ => h_.1)))) (by decide)) hk (fun _ h => h.2)) (fun _ h => h.1)); replace HOq2 := AM (Kd.N_mono (Kd.N_keep (Kd.N_mono (ok := fun k_ => (((w.heap.size ≤ k_)) ∧ (some k_ ≠ (.slice Aoq4 y427.length coq4 : Value).ownBlock ∧ (k_ ≠ g ∧ (k_ ≠ gbq0 ∧ (k_ ≠ gbq1 ∧ k_ ≠ gbq2)))))) (by (with_reducible repeat (first | apply Kd.N_alloc | apply Kd.N_drewN | apply Kd.N_drew)); exact (Kd.N_mono (Kd.N_far (p := ⟨gbq2, 1, none⟩) (Kd.N_far (p := ⟨gbq2, 0, none⟩) (Kd.N_mono HOq2.out (fun k_ hk => (⟨hk, hk.2.2.2.2.2⟩ : _ ∧ k_ ≠ gbq2))) (fun _ hk => hk.2) (.slice Aoq4 y427.length coq4)) (fun _ hk => hk.2) (.slice Aoq3 t430.length coq3)) (fun _ h_ => h_.1))) (fun k_ hk_ => (⟨hk_, hk_.2.2.1⟩ : _ ∧ k_ ≠ g))) hk (fun _ h => h.2)) (fun _ h => h.1)); replace BKq2 := ZLV #[.slice Aoq4 y427.length coq4, .slice Aoq3 t430.length coq3] hk BKq2 NBq3_0; replace HK := ZKT HK hk; replace HB := AM (hb); replace HI0 := AM (hi); clear hb hk hi))
 first
 | (
 (have z_ := tag1_; clear z_)
 replace HOq1 := AM (Kd.R_drew HOq1.out)
 replace HOq2 := AM (Kd.N_drew HOq2.out)
 replace BKq0 := AM (blk_drew BKq0.out)
 replace BKq1 := AM (blk_drew BKq1.out)
 replace BKq2 := AM (blk_drew BKq2.out)
 replace HI0 := AM (IsS64.drew HI0.out)
 replace HK := AM (keep_drew HK.out)
 replace HB := AM (below_drew1 HB.out)
 refine start_ (n := 10) (S := fun w' => w'.cell? ⟨gbq2, 0, none⟩ = some (.slice Aoq4 y427.length coq4) ∧ w'.cell? ⟨gbq2, 1, none⟩ = some (.slice Aoq3 t430.length coq3)) (ds := [9]) #[F,F,F,F,F,F,F,F,F,F] (by kernel_rfl) rfl rfl ⟨ZA BKq2 0, ZA BKq2 1⟩ (fun hHeld => ?_); refine with_tabW spec_l71Bent.tab7 spec_l71Bent.bits7 (fun HT_ HW_ => ?_)
 generalize wq10.drew = wq11 at HOq1 HOq2 BKq0 BKq1 BKq2 HI0 HK HB hHeld ⊢
 refine ZU 0 31 #[T,F,F,F,F,F,F,F,F,F] ?_
 refine ZU 2 33 #[T,F,T,F,F,F,F,F,F,F] ?_
 refine ZTK 1 32 #[T,T,T,F,F,F,F,F,F,F] hHeld ?_
 refine one_ (i := 3) (N := some 34) #[T,T,T,T,F,F,F,F,F,F] rfl rfl (one_of HT_.out (by kernel_rfl)) (by decide) (fun K hK => ?_)
 refine ZGO Try.func39 #[.pointer (some ⟨g, 0, none⟩), .int .i64 6] ?_
 with_reducible refine (spec_l6Rd_pick.calls k g s0_0 t435 6 t437 t438 w0 _ ?side1 ?side2 A36.out).mono ?_
 (case side1 => exact ZI)
 (case side2 => exact ZBI)
 rintro e wq12 ⟨rfl, hi, hb, hk⟩
 refine ⟨_, rfl, ?_⟩
 replace BKq0 := ZL hk BKq0 NBq1_0
 replace BKq1 := ZL hk BKq1 NBq2_0
 replace HOq1 := AM (Kd.R_mono (Kd.R_keep (IsS64.apart (show IsS64 w0 _ g s0_0 t435 from ZI) (ZR HOq1.out) (by decide)) hk (fun _ h => h.2)) (fun _ h => h.1))
 replace HOq2 := AM (Kd.N_mono (Kd.N_keep (Kd.N_mono (ok := fun k_ => (((w.heap.size ≤ k_)) ∧ (some k_ ≠ (.slice Aoq4 y427.length coq4 : Value).ownBlock ∧ (k_ ≠ g ∧ (k_ ≠ gbq0 ∧ (k_ ≠ gbq1 ∧ k_ ≠ gbq2)))))) (ZRN HOq2.out) (fun k_ hk_ => (⟨hk_, hk_.2.2.1⟩ : _ ∧ k_ ≠ g))) hk (fun _ h => h.2)) (fun _ h => h.1))
 replace BKq2 := ZL hk BKq2 NBq3_0
 replace HK := ZKT HK hk
 replace HB := AM (hb)
 replace HI0 := AM (hi)
 (try clear hb)
 (try clear hb2)
 (try clear hk)
 (try clear hi)
 refine hK.out _ _ ⟨ZA BKq2 0, ZA BKq2 1⟩ (fun hHeld => ?_)
 clear hK K
 refine ZNO 34 ?_
 refine ZU 4 35 #[T,T,T,T,T,F,F,F,F,F] ?_
 refine ZU 5 36 #[T,T,T,T,T,T,F,F,F,F] ?_
 refine one_ (i := 6) (N := some 37) #[T,T,T,T,T,T,T,F,F,F] rfl rfl (one_of HT_.out (by kernel_rfl)) (by decide) (fun K hK => ?_)
 refine value_ (w1 := ?_) (v := ?_) (by rfl) rfl ?_ ?_
 rotate_left 2
 ·(
 go_simp
 constructor
 ·rfl
 ·rfl)
 refine hK.out _ _ ⟨(blk_cell (blk_alloc BKq2.out _) 0).trans rfl, (blk_cell (blk_alloc BKq2.out _) 1).trans rfl⟩ (fun hHeld => ?_)
 clear hK K
 refine ZNO 37 ?_
 refine one_ (i := 7) (N := some 38) #[T,T,T,T,T,T,T,T,F,F] rfl rfl (one_of HT_.out (by kernel_rfl)) (by decide) (fun K hK => ?_)
 refine Kd.N_append_step k32 w.heap.size (by rfl) (.tmp 32) (.tmp 37) 24 32 (.agg #[(.int .i64 0), (.int .i64 0), (.int .i64 0), (.int .i64 0), (.int .i64 0), (.int .i64 0), (.slice none 0 0), (.slice none 0 0)]) 96 rfl Try.underlying24 info32 rfl (by decide) (by omega) (.slice Aoq3 t430.length coq3) t430 (⟨wrap64 (t437 - 1), 0, (⟨0, 0, 0⟩ : S30), 0, ([] : List (S32)), ([] : List (S32))⟩ : S32) [.int .i64 (wrap64 (t437 - 1)), .int .i64 0, .int .i64 0, .int .i64 0, .int .i64 0, .int .i64 0, .slice none 0 0, .slice none 0 0] (fun k_ => (w.heap.size ≤ k_) ∧ some k_ ≠ (.slice Aoq4 y427.length coq4 : Value).ownBlock ∧ k_ ≠ gbq0 ∧ k_ ≠ gbq1 ∧ k_ ≠ gbq2 ∧ k_ ≠ g) (fun k_ => ((fun k_ => (w.heap.size ≤ k_) ∧ some k_ ≠ (.slice Aoq4 y427.length coq4 : Value).ownBlock ∧ k_ ≠ gbq0 ∧ k_ ≠ gbq1 ∧ k_ ≠ gbq2 ∧ k_ ≠ g)) k_ ∧ some k_ ≠ (.slice Aoq3 t430.length coq3 : Value).ownBlock) rfl rfl ?aP (fun _ hk => hk) ?aF ?aO (Below.refl _ _) ?aS ?aL ?_
 (case aP => exact (k32_mkF _ _ (⟨wrap64 (t437 - 1), 0, (⟨0, 0, 0⟩ : S30), 0, ([] : List (S32)), ([] : List (S32))⟩ : S32) (Nat.le_refl _) (Kd.F_nil _ _ _) (Nat.le_refl _) (Kd.F_nil _ _ _)))
 (case aF => exact (fun k_ hk => ⟨(Nat.le_trans (keep_size (w := w) (g := g) (row := none) (ZJ)) hk), Kd.fresh' (Kd.R_lt (ZR HOq1.out)) k_ hk, Kd.freshB (g := gbq0) (o := .cells #[.slice A1_0 l1_0.length c1_0, .slice A1_1 l1_1.length c1_1] 26 (0, 0)) (ZK BKq0.out) k_ hk, Kd.freshB (g := gbq1) (o := .cells #[.slice none 0 0, .slice none 0 0] 26 (0, 0)) (ZK BKq1.out) k_ hk, Kd.freshB (g := gbq2) (o := .cells #[.slice Aoq4 y427.length coq4, .slice Aoq3 t430.length coq3] 26 (0, 0)) (ZK BKq2.out) k_ hk, IsS64.fresh (ZI) k_ hk⟩))
 (case aO => exact (by (with_reducible repeat (first | apply Kd.N_alloc | apply Kd.N_drewN | apply Kd.N_drew)); exact Kd.N_mono HOq2.out (fun _ hk => ⟨hk.1, ⟨hk.2.1, ⟨hk.2.2.2.1, ⟨hk.2.2.2.2.1, ⟨hk.2.2.2.2.2, hk.2.2.1⟩⟩⟩⟩⟩)))
 (case aS => exact (keep_size (w := w) (g := g) (row := none) (ZJ)))
 (case aL => have := LMc37.out; omega)
 intro vq3 wq13 ho hb hg hat
 rw [← Ny439.out] at ho
 have nq0_ := AM (IsS64.grown (ZI) hg (IsS64.own_neN HI0.out HOq2.out (by decide)))
 have nq1_ := AM (blk_grown (g := gbq0) (o := .cells #[.slice A1_0 l1_0.length c1_0, .slice A1_1 l1_1.length c1_1] 26 (0, 0)) (ZK BKq0.out) hg (Kd.N_ne HOq2.out BKq0.out (by decide)))
 have nq2_ := AM (blk_grown (g := gbq1) (o := .cells #[.slice none 0 0, .slice none 0 0] 26 (0, 0)) (ZK BKq1.out) hg (Kd.N_ne HOq2.out BKq1.out (by decide)))
 have nq3_ := AM (Kd.R_over' (ZR HOq1.out) (Kd.N_typed (ZRN HOq2.out)) (by decide) hg)
 have nq4_ := AM (blk_grown (g := gbq2) (o := .cells #[.slice Aoq4 y427.length coq4, .slice Aoq3 t430.length coq3] 26 (0, 0)) (ZK BKq2.out) hg (Kd.N_ne HOq2.out BKq2.out (by decide)))
 have nq5_ := AM (below_weaken (ZBI) HL.out hb)
 have nq6_ := AM (KeepBut.trans (ZJ) (KeepBut.of_grown hg g) (Kd.N_base2 HOq2.out))
 have nq7_ := AM (ho)
 clear HI0 BKq0 BKq1 HOq1 BKq2 HB HK HOq2
 have HI0 := nq0_
 have BKq0 := nq1_
 have BKq1 := nq2_
 have HOq1 := nq3_
 have BKq2 := nq4_
 have HB := nq5_
 have HK := nq6_
 have HOq3 := nq7_
 clear nq0_ nq1_ nq2_ nq3_ nq4_ nq5_ nq6_ nq7_ ho hb hg hat
 obtain ⟨Aoq5, coq5, eoq5⟩ := Kd.N_slice HOq3.out
 (first | subst eoq5 | (injection eoq5 with f1_ f2_ f3_; have fq0_ := f1_.symm; have fq1_ := f3_.symm; clear f1_ f2_ f3_; subst fq0_; subst fq1_))
 refine hK.out _ _ ⟨ZA BKq2 0, ZA BKq2 1⟩ (fun hHeld => ?_)
 clear hK K
 refine ZNO 38 ?_
 refine ZU 8 39 #[T,T,T,T,T,T,T,T,T,F] ?_
 refine last_ (i := 9) (N := none) #[T,T,T,T,T,T,T,T,T,T] rfl rfl (one_of HT_.out (by kernel_rfl)) (by decide) (fun K hK => ?_)
 have hsq2 : wq13.cell? ⟨gbq2, 1, none⟩ = some (.slice Aoq3 t430.length coq3) := ZA BKq2 1
 have hfsq2 := blk_frozen BKq2.out 1
 have hnsq2_0 := NBq1_433.out
 have hnsq2_1 := NBq2_433.out
 have hmsq2_0 := NBq3_422.out
 have hmsq2_1 := NBq3_423.out
 refine skip_ (w1 := ?_) (by rfl) rfl ?_ ?_
 rotate_left
 ·(
 go_simp
 rfl)
 refine hK.out _ _ ?_
 clear hK K
 refine done_ (done_of HT_.out (by kernel_rfl)) ?_
 have hnbq0 := NBq3_422.out
 have hncq0 := NBq1_433.out
 have hnbq1 := NBq3_423.out
 have hncq1 := NBq2_433.out
 have hnbq2 := NBq3_0.out
 have hncq2 := NBq0_433.out
 have hczq0 := ZC2 wq13 BKq2
 have hfzq0 := ZF2 BKq2
 have hnbq3 := NBq2_422.out
 have hncq3 := NBq1_423.out
 have hnbq4 := NBq2_0.out
 have hncq4 := NBq0_423.out
 have hczq1 := ZC2 wq13 BKq1
 have hfzq1 := ZF2 BKq1
 try go_wp2
 refine bodyPost_ret (results_cell_row rfl _ _ gbq1 26 #[.slice Aoq4 y427.length coq4, .slice Aoq5 y439.length coq5] (0, 0) _ rfl (ZZ BKq1.out) Try.underlying26 rfl (by kernel_rfl)) rfl ?_
 exact ⟨_, _, ZE, by (with_reducible repeat (first | apply Kd.R_alloc | apply Kd.R_drewN | apply Kd.R_drew)); exact Kd.R_mono (Kd.R_far (p := ⟨gbq1, 1, none⟩) (Kd.R_far (p := ⟨gbq1, 0, none⟩) (Kd.R_far (p := ⟨gbq2, 1, none⟩) (Kd.R_types (Kd.R_types HOq1.out BKq2.out (by decide)) BKq1.out (by decide)) (fun _ hk => hk.1.2) (.slice Aoq5 y439.length coq5)) (fun _ hk => hk.2) (.slice Aoq4 y427.length coq4)) (fun _ hk => hk.2) (.slice Aoq5 y439.length coq5)) (fun _ hk => hk.1.1), by (with_reducible repeat (first | apply Kd.N_alloc | apply Kd.N_drewN | apply Kd.N_drew)); exact Kd.N_mono (Kd.N_far (p := ⟨gbq1, 1, none⟩) (Kd.N_far (p := ⟨gbq1, 0, none⟩) (Kd.N_far (p := ⟨gbq2, 1, none⟩) (Kd.N_mono (Kd.N_mono HOq3.out (fun k_ hk => (⟨hk, hk.2.2.2.2.1⟩ : _ ∧ k_ ≠ gbq2))) (fun k_ hk => (⟨hk, hk.1.2.2.2.1⟩ : _ ∧ k_ ≠ gbq1))) (fun _ hk => hk.1.2) (.slice Aoq5 y439.length coq5)) (fun _ hk => hk.2) (.slice Aoq4 y427.length coq4)) (fun _ hk => hk.2) (.slice Aoq5 y439.length coq5)) (fun _ hk => ⟨hk.1.1.1, hk.1.1.2.1⟩), ZI, ZBI, ZJ⟩)
 | (
 (have z_ := tag3_; clear z_)
 have piq0 : (0 ≤ (t448 : Int)) = True := eq_true (ZD)
 have qiq0 : (t448 < (y445.length : Int)) = True := eq_true (ZD)
 have piq1 : (0 ≤ (t454 : Int)) = True := eq_true (ZD)
 have qiq1 : (t454 < (y451.length : Int)) = True := eq_true (ZD)
 replace HOq1 := AM (Kd.R_drew HOq1.out)
 replace HOq2 := AM (Kd.N_drew HOq2.out)
 replace BKq0 := AM (blk_drew BKq0.out)
 replace BKq1 := AM (blk_drew BKq1.out)
 replace BKq2 := AM (blk_drew BKq2.out)
 replace HI0 := AM (IsS64.drew HI0.out)
 replace HK := AM (keep_drew HK.out)
 replace HB := AM (below_drew1 HB.out)
 refine start_ (n := 18) (S := fun w' => w'.cell? ⟨gbq2, 0, none⟩ = some (.slice Aoq4 y427.length coq4) ∧ w'.cell? ⟨gbq2, 1, none⟩ = some (.slice Aoq3 t430.length coq3)) (ds := [17]) #[F,F,F,F,F,F,F,F,F,F,F,F,F,F,F,F,F,F] (by kernel_rfl) rfl rfl ⟨ZA BKq2 0, ZA BKq2 1⟩ (fun hHeld => ?_); refine with_tabW spec_l71Bent.tab11 spec_l71Bent.bits11 (fun HT_ HW_ => ?_)
 generalize wq10.drew = wq11 at HOq1 HOq2 BKq0 BKq1 BKq2 HI0 HK HB hHeld ⊢
 refine ZU 0 54 #[T,F,F,F,F,F,F,F,F,F,F,F,F,F,F,F,F,F] ?_
 refine ZU 3 57 #[T,F,F,T,F,F,F,F,F,F,F,F,F,F,F,F,F,F] ?_
 refine ZU 8 62 #[T,F,F,T,F,F,F,F,T,F,F,F,F,F,F,F,F,F] ?_
 refine ZTK 1 55 #[T,T,F,T,F,F,F,F,T,F,F,F,F,F,F,F,F,F] hHeld ?_
 refine join_ (σ := Value × Addr × Value × Addr) 6 #[T,T,T,T,T,T,T,T,T,T,T,T,F,F,F,F,F,F] (fun s_ => [(56, s_.1), (58, .int .i64 t448), (60, .int .i64 (rd y445 t448)), (61, s_.2.2.1), (63, .int .i64 t454), (65, .int .i64 (rd y451 t454)), (59, .pointer (some (s_.2.1.add (t448).toNat))), (64, .pointer (some (s_.2.2.2.add (t454).toNat)))]) (fun s_ w' => (w'.cell? ⟨gbq2, 0, none⟩ = some (.slice Aoq4 y427.length coq4) ∧ w'.cell? ⟨gbq2, 1, none⟩ = some (.slice Aoq3 t430.length coq3)) ∧ (Kd.R k39 39 w' w.heap.size (fun k_ => (w.heap.size ≤ k_)) (.slice Aoq4 y427.length coq4) y427) ∧ (Kd.N k32 32 w' w.heap.size (fun k_ => (w.heap.size ≤ k_) ∧ some k_ ≠ (.slice Aoq4 y427.length coq4 : Value).ownBlock ∧ some k_ ≠ (s_.1 : Value).ownBlock ∧ some k_ ≠ (s_.2.2.1 : Value).ownBlock ∧ k_ ≠ g ∧ k_ ≠ gbq0 ∧ k_ ≠ gbq1 ∧ k_ ≠ gbq2) (.slice Aoq3 t430.length coq3) t430) ∧ (Kd.R (Kd.int .i64) 3 w' w.heap.size (fun k_ => (w.heap.size ≤ k_) ∧ some k_ ≠ (s_.2.2.1 : Value).ownBlock) s_.1 y445) ∧ (Kd.R (Kd.int .i64) 3 w' w.heap.size (fun k_ => (w.heap.size ≤ k_) ∧ some k_ ≠ (s_.1 : Value).ownBlock) s_.2.2.1 y451) ∧ (∃ c_, (s_.1 : Value) = .slice (some s_.2.1) y445.length c_) ∧ (∃ c_, (s_.2.2.1 : Value) = .slice (some s_.2.2.2) y451.length c_) ∧ (w'.heap[gbq0]? = some (.cells #[.slice A1_0 l1_0.length c1_0, .slice A1_1 l1_1.length c1_1] 26 (0, 0))) ∧ (w'.heap[gbq1]? = some (.cells #[.slice none 0 0, .slice none 0 0] 26 (0, 0))) ∧ (w'.heap[gbq2]? = some (.cells #[.slice Aoq4 y427.length coq4, .slice Aoq3 t430.length coq3] 26 (0, 0))) ∧ (IsS64 w0 w' g s0_0 t455) ∧ (KeepBut w w' g none) ∧ (Below w0.heap.size w0 w')) ?_ ?_
 rotate_left
 ·(
 intro hJq0_4_6_7_9_11
 have hy1 := Ny445.out
 have hy2 := Ny451.out
 subst hy1 hy2
 have sz := HK.out.1
 refine spec_l71Bent.pre (k := k) HT_.out ⟨_, _, rfl⟩ ⟨_, _, _, rfl⟩ ⟨_, _, rfl⟩ ⟨_, _, rfl⟩ ⟨_, _, rfl⟩ ⟨_, _, _, rfl⟩ ⟨_, _, rfl⟩ ⟨_, _, rfl⟩ rfl A95.out A98.out (of_eq_true piq0) (by have h_ := of_eq_true qiq0; simpa using h_) (of_eq_true piq1) (by have h_ := of_eq_true qiq1; simpa using h_) rfl rfl (by simp) (fun W hk => have hb := hk.blk BKq2.out NBq3_0.out (by simp); ⟨(blk_cell hb 0).trans rfl, (blk_cell hb 1).trans rfl⟩) HI0.out HB.out (fun b b' W hne hb1 hb2 q u hI2 hk hB2 => ?_)
 have bk := hk.blk BKq2.out NBq3_0.out (by simp)
 exact hJq0_4_6_7_9_11 (.slice (some ⟨b, 0, none⟩) 6 6, ⟨b, 0, none⟩, .slice (some ⟨b', 0, none⟩) 3 3, ⟨b', 0, none⟩) W ⟨⟨(blk_cell bk 0).trans rfl, (blk_cell bk 1).trans rfl⟩, Kd.R_mono (Kd.R_keep (IsS64.apart HI0.out HOq1.out (by decide)) hk (fun _ h => h.2)) (fun _ h => h.1),
  Kd.N_mono (Kd.N_oldK (Kd.N_mono HOq2.out (fun k_ h => (⟨h, h.2.2.1⟩ : _ ∧ k_ ≠ g))) hk) (fun _ h => ⟨h.1.1, h.1.2.1, ne_own h.2 hb1, ne_own h.2 hb2, h.1.2.2⟩),
  Kd.R_cells q (Nat.le_trans sz hb1) rfl (by decide) ⟨Nat.le_trans sz hb1, fun e => hne (by simpa [Value.ownBlock] using e)⟩, Kd.R_cells u (Nat.le_trans sz hb2) rfl (by decide) ⟨Nat.le_trans sz hb2, fun e => hne (by simpa [Value.ownBlock] using e.symm)⟩,
  ⟨6, rfl⟩, ⟨3, rfl⟩, hk.blk BKq0.out NBq1_0.out (by simp), hk.blk BKq1.out NBq2_0.out (by simp), bk, hI2, HK.out.trans hk (.inl rfl), hB2⟩)
 rintro ⟨vq3, adz_vq1, vq4, adz_vq0⟩ wq22 ⟨hS_, hq0_, hq1_, hq2_, hq3_, hq4_, hq5_, hq6_, hq7_, hq8_, hq9_, hq10_, hq11_⟩
 try dsimp only at hq0_ hq1_ hq2_ hq3_ hq4_ hq5_ hq6_ hq7_ hq8_ hq9_ hq10_ hq11_
 have nq0_ := AM hq0_
 have nq1_ := AM hq1_
 have nq2_ := AM hq2_
 have nq3_ := AM hq3_
 have nq4_ := AM hq4_
 have nq5_ := AM hq5_
 have nq6_ := AM hq6_
 have nq7_ := AM hq7_
 have nq8_ := AM hq8_
 have nq9_ := AM hq9_
 have nq10_ := AM hq10_
 have nq11_ := AM hq11_
 clear HOq1 HOq2 BKq0 BKq1 BKq2 HI0 HK HB hq0_ hq1_ hq2_ hq3_ hq4_ hq5_ hq6_ hq7_ hq8_ hq9_ hq10_ hq11_
 have HOq1 := nq0_
 have HOq2 := nq1_
 have HOq3 := nq2_
 have HOq4 := nq3_
 have HA_HOq1 := nq4_
 have HA_HOq0 := nq5_
 have BKq0 := nq6_
 have BKq1 := nq7_
 have BKq2 := nq8_
 have HI0 := nq9_
 have HK := nq10_
 have HB := nq11_
 clear nq0_ nq1_ nq2_ nq3_ nq4_ nq5_ nq6_ nq7_ nq8_ nq9_ nq10_ nq11_
 try dsimp only at hS_
 have hHeld := hS_
 obtain ⟨coq11, eoq11⟩ := HA_HOq1.out
 clear HA_HOq1
 subst eoq11
 obtain ⟨coq12, eoq12⟩ := HA_HOq0.out
 clear HA_HOq0
 subst eoq12
 refine ZNP ?_
 refine ZU 12 66 #[T,T,T,T,T,T,T,T,T,T,T,T,T,F,F,F,F,F] ?_
 refine ZU 13 67 #[T,T,T,T,T,T,T,T,T,T,T,T,T,T,F,F,F,F] ?_
 refine one_ (i := 14) (N := some 68) #[T,T,T,T,T,T,T,T,T,T,T,T,T,T,T,F,F,F] rfl rfl (one_of HT_.out (by kernel_rfl)) (by decide) (fun K hK => ?_)
 refine value_ (w1 := ?_) (v := ?_) (by rfl) rfl ?_ ?_
 rotate_left 2
 ·(
 go_simp
 constructor
 ·rfl
 ·rfl)
 refine hK.out _ _ ⟨(blk_cell (blk_alloc BKq2.out _) 0).trans rfl, (blk_cell (blk_alloc BKq2.out _) 1).trans rfl⟩ (fun hHeld => ?_)
 clear hK K
 refine ZNO 68 ?_
 refine one_ (i := 15) (N := some 69) #[T,T,T,T,T,T,T,T,T,T,T,T,T,T,T,T,F,F] rfl rfl (one_of HT_.out (by kernel_rfl)) (by decide) (fun K hK => ?_)
 refine Kd.N_append_step k32 w.heap.size (by rfl) (.tmp 55) (.tmp 68) 24 32 (.agg #[(.int .i64 0), (.int .i64 0), (.int .i64 0), (.int .i64 0), (.int .i64 0), (.int .i64 0), (.slice none 0 0), (.slice none 0 0)]) 96 rfl Try.underlying24 info32 rfl (by decide) (by omega) (.slice Aoq3 t430.length coq3) t430 (⟨1, 0, (⟨rd y445 t448, rd y451 t454, 0⟩ : S30), 0, ([] : List (S32)), ([] : List (S32))⟩ : S32) [.int .i64 1, .int .i64 0, .int .i64 (rd y445 t448), .int .i64 (rd y451 t454), .int .i64 0, .int .i64 0, .slice none 0 0, .slice none 0 0] (fun k_ => (w.heap.size ≤ k_) ∧ some k_ ≠ (.slice Aoq4 y427.length coq4 : Value).ownBlock ∧ some k_ ≠ (.slice (some adz_vq1) y445.length coq11 : Value).ownBlock ∧ some k_ ≠ (.slice (some adz_vq0) y451.length coq12 : Value).ownBlock ∧ k_ ≠ gbq0 ∧ k_ ≠ gbq1 ∧ k_ ≠ gbq2 ∧ k_ ≠ g) (fun k_ => ((fun k_ => (w.heap.size ≤ k_) ∧ some k_ ≠ (.slice Aoq4 y427.length coq4 : Value).ownBlock ∧ some k_ ≠ (.slice (some adz_vq1) y445.length coq11 : Value).ownBlock ∧ some k_ ≠ (.slice (some adz_vq0) y451.length coq12 : Value).ownBlock ∧ k_ ≠ gbq0 ∧ k_ ≠ gbq1 ∧ k_ ≠ gbq2 ∧ k_ ≠ g)) k_ ∧ some k_ ≠ (.slice Aoq3 t430.length coq3 : Value).ownBlock) rfl rfl ?aP (fun _ hk => hk) ?aF ?aO (Below.refl _ _) ?aS ?aL ?_
 (case aP => exact (k32_mkF _ _ (⟨1, 0, (⟨rd y445 t448, rd y451 t454, 0⟩ : S30), 0, ([] : List (S32)), ([] : List (S32))⟩ : S32) (Nat.le_refl _) (Kd.F_nil _ _ _) (Nat.le_refl _) (Kd.F_nil _ _ _)))
 (case aF => exact (fun k_ hk => ⟨(Nat.le_trans (keep_size (w := w) (g := g) (row := none) (ZJ)) hk), Kd.fresh' (Kd.R_lt (ZR HOq1.out)) k_ hk, Kd.fresh' (Kd.R_lt (ZR HOq3.out)) k_ hk, Kd.fresh' (Kd.R_lt (ZR HOq4.out)) k_ hk, Kd.freshB (g := gbq0) (o := .cells #[.slice A1_0 l1_0.length c1_0, .slice A1_1 l1_1.length c1_1] 26 (0, 0)) (ZK BKq0.out) k_ hk, Kd.freshB (g := gbq1) (o := .cells #[.slice none 0 0, .slice none 0 0] 26 (0, 0)) (ZK BKq1.out) k_ hk, Kd.freshB (g := gbq2) (o := .cells #[.slice Aoq4 y427.length coq4, .slice Aoq3 t430.length coq3] 26 (0, 0)) (ZK BKq2.out) k_ hk, IsS64.fresh (ZI) k_ hk⟩))
 (case aO => exact (by (with_reducible repeat (first | apply Kd.N_alloc | apply Kd.N_drewN | apply Kd.N_drew)); exact Kd.N_mono HOq2.out (fun _ hk => ⟨hk.1, ⟨hk.2.1, ⟨hk.2.2.1, ⟨hk.2.2.2.1, ⟨hk.2.2.2.2.2.1, ⟨hk.2.2.2.2.2.2.1, ⟨hk.2.2.2.2.2.2.2, hk.2.2.2.2.1⟩⟩⟩⟩⟩⟩⟩)))
 (case aS => exact (keep_size (w := w) (g := g) (row := none) (ZJ)))
 (case aL => have := LMc101.out; omega)
 intro vq5 wq23 ho hb hg hat
 rw [← Ny457.out] at ho
 have nq0_ := AM (IsS64.grown (ZI) hg (IsS64.own_neN HI0.out HOq2.out (by decide)))
 have nq1_ := AM (blk_grown (g := gbq0) (o := .cells #[.slice A1_0 l1_0.length c1_0, .slice A1_1 l1_1.length c1_1] 26 (0, 0)) (ZK BKq0.out) hg (Kd.N_ne HOq2.out BKq0.out (by decide)))
 have nq2_ := AM (blk_grown (g := gbq1) (o := .cells #[.slice none 0 0, .slice none 0 0] 26 (0, 0)) (ZK BKq1.out) hg (Kd.N_ne HOq2.out BKq1.out (by decide)))
 have nq3_ := AM (Kd.R_over' (ZR HOq1.out) (Kd.N_typed (ZRN HOq2.out)) (by decide) hg)
 have nq4_ := AM (blk_grown (g := gbq2) (o := .cells #[.slice Aoq4 y427.length coq4, .slice Aoq3 t430.length coq3] 26 (0, 0)) (ZK BKq2.out) hg (Kd.N_ne HOq2.out BKq2.out (by decide)))
 have nq5_ := AM (Kd.R_over' (ZR HOq3.out) (Kd.N_typed (ZRN HOq2.out)) (by decide) hg)
 have nq6_ := AM (Kd.R_over' (ZR HOq4.out) (Kd.N_typed (ZRN HOq2.out)) (by decide) hg)
 have nq7_ := AM (below_weaken (ZBI) HL.out hb)
 have nq8_ := AM (KeepBut.trans (ZJ) (KeepBut.of_grown hg g) (Kd.N_base2 HOq2.out))
 have nq9_ := AM (ho)
 clear HI0 BKq0 BKq1 HOq1 BKq2 HOq3 HOq4 HB HK HOq2
 have HI0 := nq0_
 have BKq0 := nq1_
 have BKq1 := nq2_
 have HOq1 := nq3_
 have BKq2 := nq4_
 have HOq3 := nq5_
 have HOq4 := nq6_
 have HB := nq7_
 have HK := nq8_
 have HOq5 := nq9_
 clear nq0_ nq1_ nq2_ nq3_ nq4_ nq5_ nq6_ nq7_ nq8_ nq9_ ho hb hg hat
 obtain ⟨Aoq11, coq13, eoq13⟩ := Kd.N_slice HOq5.out
 (first | subst eoq13 | (injection eoq13 with f1_ f2_ f3_; have fq0_ := f1_.symm; have fq1_ := f3_.symm; clear f1_ f2_ f3_; subst fq0_; subst fq1_))
 refine hK.out _ _ ⟨ZA BKq2 0, ZA BKq2 1⟩ (fun hHeld => ?_)
 clear hK K
 refine ZNO 69 ?_
 refine ZU 16 70 #[T,T,T,T,T,T,T,T,T,T,T,T,T,T,T,T,T,F] ?_
 refine last_ (i := 17) (N := none) #[T,T,T,T,T,T,T,T,T,T,T,T,T,T,T,T,T,T] rfl rfl (one_of HT_.out (by kernel_rfl)) (by decide) (fun K hK => ?_)
 have hsq2 : wq23.cell? ⟨gbq2, 1, none⟩ = some (.slice Aoq3 t430.length coq3) := ZA BKq2 1
 have hfsq2 := blk_frozen BKq2.out 1
 have hnsq2_0 := NBq1_433.out
 have hnsq2_1 := NBq2_433.out
 have hmsq2_0 := NBq3_422.out
 have hmsq2_1 := NBq3_423.out
 refine skip_ (w1 := ?_) (by rfl) rfl ?_ ?_
 rotate_left
 ·(
 go_simp
 rfl)
 refine hK.out _ _ ?_
 clear hK K
 refine done_ (done_of HT_.out (by kernel_rfl)) ?_
 have hnbq0 := NBq3_422.out
 have hncq0 := NBq1_433.out
 have hnbq1 := NBq3_423.out
 have hncq1 := NBq2_433.out
 have hnbq2 := NBq3_0.out
 have hncq2 := NBq0_433.out
 have hczq0 := ZC2 wq23 BKq2
 have hfzq0 := ZF2 BKq2
 have hnbq3 := NBq2_422.out
 have hncq3 := NBq1_423.out
 have hnbq4 := NBq2_0.out
 have hncq4 := NBq0_423.out
 have hczq1 := ZC2 wq23 BKq1
 have hfzq1 := ZF2 BKq1
 try go_wp2
 refine bodyPost_ret (results_cell_row rfl _ _ gbq1 26 #[.slice Aoq4 y427.length coq4, .slice Aoq11 y457.length coq13] (0, 0) _ rfl (ZZ BKq1.out) Try.underlying26 rfl (by kernel_rfl)) rfl ?_
 exact ⟨_, _, ZE, by (with_reducible repeat (first | apply Kd.R_alloc | apply Kd.R_drewN | apply Kd.R_drew)); exact Kd.R_mono (Kd.R_far (p := ⟨gbq1, 1, none⟩) (Kd.R_far (p := ⟨gbq1, 0, none⟩) (Kd.R_far (p := ⟨gbq2, 1, none⟩) (Kd.R_types (Kd.R_types HOq1.out BKq2.out (by decide)) BKq1.out (by decide)) (fun _ hk => hk.1.2) (.slice Aoq11 y457.length coq13)) (fun _ hk => hk.2) (.slice Aoq4 y427.length coq4)) (fun _ hk => hk.2) (.slice Aoq11 y457.length coq13)) (fun _ hk => hk.1.1), by (with_reducible repeat (first | apply Kd.N_alloc | apply Kd.N_drewN | apply Kd.N_drew)); exact Kd.N_mono (Kd.N_far (p := ⟨gbq1, 1, none⟩) (Kd.N_far (p := ⟨gbq1, 0, none⟩) (Kd.N_far (p := ⟨gbq2, 1, none⟩) (Kd.N_mono (Kd.N_mono HOq5.out (fun k_ hk => (⟨hk, hk.2.2.2.2.2.2.1⟩ : _ ∧ k_ ≠ gbq2))) (fun k_ hk => (⟨hk, hk.1.2.2.2.2.2.1⟩ : _ ∧ k_ ≠ gbq1))) (fun _ hk => hk.1.2) (.slice Aoq11 y457.length coq13)) (fun _ hk => hk.2) (.slice Aoq4 y427.length coq4)) (fun _ hk => hk.2) (.slice Aoq11 y457.length coq13)) (fun _ hk => ⟨hk.1.1.1, hk.1.1.2.1⟩), ZI, ZBI, ZJ⟩)
 | (
 (have z_ := tag4_; clear z_)
 go_loopg [] k (fun kq w' => ∃ (xq0_1 : List (S32)) (uq0 : Value), Aside0 (spec_l71Bent.l0 kq s0_0 t435 y427 xq0_1 = some (r1, r2, r3)) ∧ Aside0 (kq ≤ k) ∧ Aside0 (Kd.R k39 39 w' w.heap.size (fun k_ => (w.heap.size ≤ k_)) (.slice Aoq4 y427.length coq4) y427) ∧ Aside0 (Kd.N k32 32 w' w.heap.size (fun k_ => (w.heap.size ≤ k_) ∧ some k_ ≠ ((.slice Aoq4 y427.length coq4) : Value).ownBlock ∧ k_ ≠ gbq0 ∧ k_ ≠ gbq1 ∧ k_ ≠ gbq2 ∧ k_ ≠ g) uq0 xq0_1) ∧ Aside0 (w'.heap[gbq0]? = some (.cells #[(.slice A1_0 l1_0.length c1_0), (.slice A1_1 l1_1.length c1_1)] 26 (0, 0))) ∧ Aside0 (w'.heap[gbq1]? = some (.cells #[(.slice none 0 0), (.slice none 0 0)] 26 (0, 0))) ∧ Aside0 (w'.heap[gbq2]? = some (.cells #[(.slice Aoq4 y427.length coq4), uq0] 26 (0, 0))) ∧ Aside0 (IsS64 w0 w' g s0_0 t435) ∧ Aside0 (KeepBut w w' g none) ∧ Aside0 (Below w0.heap.size w0 w'))
 case atStart => exact ⟨(t430), (.slice Aoq3 t430.length coq3), H', ⟨Nat.le_refl _⟩, ⟨ZR HOq1.out⟩, ⟨by (with_reducible repeat (first | apply Kd.N_alloc | apply Kd.N_drewN | apply Kd.N_drew)); exact Kd.N_mono HOq2.out (fun _ hk => ⟨hk.1, ⟨hk.2.1, ⟨hk.2.2.2.1, ⟨hk.2.2.2.2.1, ⟨hk.2.2.2.2.2, hk.2.2.1⟩⟩⟩⟩⟩)⟩, ⟨ZK BKq0.out⟩, ⟨ZK BKq1.out⟩, ⟨ZK BKq2.out⟩, ⟨ZI⟩, ⟨ZJ⟩, ⟨ZBI⟩⟩
 case round => (
 clear H'
 try clear c1
 try clear p2
 try clear c3
 try clear c7
 try clear c39
 try clear c77
 obtain ⟨xq0_1, uq0, HA, HKq0, HO_q0, HO_q1, BKq0, BKq1, BKq2, HI0, HK, HB⟩ := hrel
 cases gk with
 | zero => exact absurd HA.out (by simp [spec_l71Bent.l0])
 | succ k1 =>
  have H := HA.out
  clear HA
  simp only [spec_l71Bent.l0] at H
  by_cases c157 : (xq0_1.length : Int) ≤ 8
  ·(
  rw [if_pos c157] at H
  have cq0b0 : decide ((xq0_1.length : Int) ≤ 8) = true := decide_eq_true c157
  have cq0b1 : decide (xq0_1.length ≤ 8) = true := decide_eq_true (by omega)
  clear c157
  by_cases c158 : xq0_1.length < 1466015503701
  ·(
  rw [if_pos c158] at H
  have LMcq0 := AM c158
  clear c158
  obtain ⟨yq0, hyq0⟩ : ∃ y_ : List (S32), y_ = (xq0_1 ++ [(⟨3, 0, (⟨0, 0, 0⟩ : S30), 0, ([] : List (S32)), ([] : List (S32))⟩ : S32)]) := ⟨_, rfl⟩
  replace H : (spec_l71Bent.l0 k1 s0_0 t435 y427 yq0) = some (r1, r2, r3) := by first | (rw [hyq0]; with_reducible exact H) | (have H2_ := (Option.bind_some _ _).symm.trans H; rw [hyq0]; with_reducible exact H2_) | (have H2_ := (Option.bind_some _ _).symm.trans H; with_reducible exact H2_) | with_reducible exact H | (rw [hyq0]; exact H) | exact H
  have Nyq0 := AM hyq0
  clear hyq0
  have H' := AM H
  clear H
  have hnbq0 := NBq3_422.out
  have hncq0 := NBq1_433.out
  have hnbq1 := NBq3_423.out
  have hncq1 := NBq2_433.out
  have hnbq2 := NBq3_0.out
  have hncq2 := NBq0_433.out
  have hczq0 := ZC2 wr BKq2
  have hfzq0 := ZF2 BKq2
  obtain ⟨Aoq5, coq5, eoq5⟩ := Kd.N_slice HO_q1.out
  subst eoq5
  go_wp2_with (first | ((with_reducible refine gate_builtin (b := .append) (xs := #[.tmp 78, .tmp 80]) rfl ?_); at_builtin; refine Kd.N_append k32 w.heap.size rfl (.tmp 78) (.tmp 80) 24 32 (.agg #[(.int .i64 0), (.int .i64 0), (.int .i64 0), (.int .i64 0), (.int .i64 0), (.int .i64 0), (.slice none 0 0), (.slice none 0 0)]) 96 rfl Try.underlying24 info32 rfl (by decide) (by omega) (.slice Aoq5 xq0_1.length coq5) xq0_1 (⟨3, 0, (⟨0, 0, 0⟩ : S30), 0, ([] : List (S32)), ([] : List (S32))⟩ : S32) [.int .i64 3, .int .i64 0, .int .i64 0, .int .i64 0, .int .i64 0, .int .i64 0, .slice none 0 0, .slice none 0 0] (fun k_ => (w.heap.size ≤ k_) ∧ some k_ ≠ (.slice Aoq4 y427.length coq4 : Value).ownBlock ∧ k_ ≠ gbq0 ∧ k_ ≠ gbq1 ∧ k_ ≠ gbq2 ∧ k_ ≠ g) (fun k_ => ((fun k_ => (w.heap.size ≤ k_) ∧ some k_ ≠ (.slice Aoq4 y427.length coq4 : Value).ownBlock ∧ k_ ≠ gbq0 ∧ k_ ≠ gbq1 ∧ k_ ≠ gbq2 ∧ k_ ≠ g)) k_ ∧ some k_ ≠ (.slice Aoq5 xq0_1.length coq5 : Value).ownBlock) rfl rfl ?aP (fun _ hk => hk) ?aF ?aO (Below.refl _ _) ?aS ?aL ?_; (case aP => exact (k32_mkF _ _ (⟨3, 0, (⟨0, 0, 0⟩ : S30), 0, ([] : List (S32)), ([] : List (S32))⟩ : S32) (Nat.le_refl _) (Kd.F_nil _ _ _) (Nat.le_refl _) (Kd.F_nil _ _ _))); (case aF => exact (fun k_ hk => ⟨(Nat.le_trans (keep_size (w := w) (g := g) (row := none) (ZJ)) hk), Kd.fresh' (Kd.R_lt (ZR HO_q0.out)) k_ hk, Kd.freshB (g := gbq0) (o := .cells #[.slice A1_0 l1_0.length c1_0, .slice A1_1 l1_1.length c1_1] 26 (0, 0)) (ZK BKq0.out) k_ hk, Kd.freshB (g := gbq1) (o := .cells #[.slice none 0 0, .slice none 0 0] 26 (0, 0)) (ZK BKq1.out) k_ hk, Kd.freshB (g := gbq2) (o := .cells #[.slice Aoq4 y427.length coq4, .slice Aoq5 xq0_1.length coq5] 26 (0, 0)) (ZK BKq2.out) k_ hk, IsS64.fresh (ZI) k_ hk⟩)); (case aO => exact (ZRN HO_q1.out)); (case aS => exact (keep_size (w := w) (g := g) (row := none) (ZJ))); (case aL => have := LMcq0.out; omega); intro vq3 wq11 ho hb hg hat; rw [← Nyq0.out] at ho; have nq0_ := AM (Kd.R_over' (ZR HO_q0.out) (Kd.N_typed (ZRN HO_q1.out)) (by decide) hg); have nq1_ := AM (blk_grown (g := gbq0) (o := .cells #[.slice A1_0 l1_0.length c1_0, .slice A1_1 l1_1.length c1_1] 26 (0, 0)) (ZK BKq0.out) hg (Kd.N_ne HO_q1.out BKq0.out (by decide))); have nq2_ := AM (blk_grown (g := gbq1) (o := .cells #[.slice none 0 0, .slice none 0 0] 26 (0, 0)) (ZK BKq1.out) hg (Kd.N_ne HO_q1.out BKq1.out (by decide))); have nq3_ := AM (blk_grown (g := gbq2) (o := .cells #[.slice Aoq4 y427.length coq4, .slice Aoq5 xq0_1.length coq5] 26 (0, 0)) (ZK BKq2.out) hg (Kd.N_ne HO_q1.out BKq2.out (by decide))); have nq4_ := AM (IsS64.grown (ZI) hg (IsS64.own_neN HI0.out HO_q1.out (by decide))); have nq5_ := AM (below_weaken (ZBI) HL.out hb); have nq6_ := AM (KeepBut.trans (ZJ) (KeepBut.of_grown hg g) (Kd.N_base2 HO_q1.out)); have nq7_ := AM (ho); clear HO_q0 BKq0 BKq1 BKq2 HI0 HB HK HO_q1; have HO_q0 := nq0_; have BKq0 := nq1_; have BKq1 := nq2_; have BKq2 := nq3_; have HI0 := nq4_; have HB := nq5_; have HK := nq6_; have HOq3 := nq7_; clear nq0_ nq1_ nq2_ nq3_ nq4_ nq5_ nq6_ nq7_ ho hb hg hat; obtain ⟨Aoq6, coq6, eoq6⟩ := Kd.N_slice HOq3.out; subst eoq6; have hczq1 := ZC2 wq11 BKq2; have hfzq1 := ZF2 BKq2))
  go_roundg k1
  case measure => have := HKq0.out; omega
  case rel => exact ⟨(yq0), (.slice Aoq6 yq0.length coq6), H', ⟨by have := HKq0.out; omega⟩, ⟨ZR (Kd.R_mono (Kd.R_far (p := ⟨gbq2, 1, none⟩) (Kd.R_types HO_q0.out BKq2.out (by decide)) (fun _ hk => hk.2) (.slice Aoq6 yq0.length coq6)) (fun _ hk => hk.1))⟩, ⟨by (with_reducible repeat (first | apply Kd.N_alloc | apply Kd.N_drewN | apply Kd.N_drew)); exact Kd.N_mono (Kd.N_far (p := ⟨gbq2, 1, none⟩) (Kd.N_mono HOq3.out (fun k_ hk => (⟨hk, hk.2.2.2.2.1⟩ : _ ∧ k_ ≠ gbq2))) (fun _ hk => hk.2) (.slice Aoq6 yq0.length coq6)) (fun _ hk => ⟨hk.1.1, ⟨hk.1.2.1, ⟨hk.1.2.2.1, ⟨hk.1.2.2.2.1, ⟨hk.1.2.2.2.2.1, hk.1.2.2.2.2.2⟩⟩⟩⟩⟩)⟩, ⟨ZZ BKq0.out⟩, ⟨ZZ BKq1.out⟩, ⟨ZZ BKq2.out⟩, ⟨ZI⟩, ⟨ZJ⟩, ⟨ZBI⟩⟩)
  ·(
  rw [if_neg c158] at H
  exact absurd H (by simp)))
  ·(
  rw [if_neg c157] at H
  have cq0b0 : decide ((xq0_1.length : Int) ≤ 8) = false := decide_eq_false c157
  have cq0b1 : decide (xq0_1.length ≤ 8) = false := decide_eq_false (by omega)
  clear c157
  simp only [Option.some.injEq, Prod.mk.injEq] at H
  obtain ⟨rfl, rfl, rfl⟩ := H
  have hnbq3 := NBq3_422.out
  have hncq3 := NBq1_433.out
  have hnbq4 := NBq3_423.out
  have hncq4 := NBq2_433.out
  have hnbq5 := NBq3_0.out
  have hncq5 := NBq0_433.out
  have hczq2 := ZC2 wr BKq2
  have hfzq2 := ZF2 BKq2
  obtain ⟨Aoq7, coq7, eoq7⟩ := Kd.N_slice HO_q1.out
  subst eoq7
  have hnbq6 := NBq2_422.out
  have hncq6 := NBq1_423.out
  have hnbq7 := NBq2_0.out
  have hncq7 := NBq0_423.out
  have hczq3 := ZC2 wr BKq1
  have hfzq3 := ZF2 BKq1
  go_wp2
  refine bodyPost_ret (results_cell_row rfl _ _ gbq1 26 #[.slice Aoq4 y427.length coq4, .slice Aoq7 xq0_1.length coq7] (0, 0) _ rfl (ZZ BKq1.out) Try.underlying26 rfl (by kernel_rfl)) rfl ?_
  exact ⟨_, _, ZE, by (with_reducible repeat (first | apply Kd.R_alloc | apply Kd.R_drewN | apply Kd.R_drew)); exact Kd.R_mono (Kd.R_far (p := ⟨gbq1, 1, none⟩) (Kd.R_far (p := ⟨gbq1, 0, none⟩) (Kd.R_types HO_q0.out BKq1.out (by decide)) (fun _ hk => hk.2) (.slice Aoq4 y427.length coq4)) (fun _ hk => hk.2) (.slice Aoq7 xq0_1.length coq7)) (fun _ hk => hk.1), by (with_reducible repeat (first | apply Kd.N_alloc | apply Kd.N_drewN | apply Kd.N_drew)); exact Kd.N_mono (Kd.N_far (p := ⟨gbq1, 1, none⟩) (Kd.N_far (p := ⟨gbq1, 0, none⟩) (Kd.N_mono HO_q1.out (fun k_ hk => (⟨hk, hk.2.2.2.1⟩ : _ ∧ k_ ≠ gbq1))) (fun _ hk => hk.2) (.slice Aoq4 y427.length coq4)) (fun _ hk => hk.2) (.slice Aoq7 xq0_1.length coq7)) (fun _ hk => ⟨hk.1.1, hk.1.2.1⟩), ZI, ZBI, ZJ⟩)))
 | (
 (have z_ := tag5_; clear z_)
 go_loopg [6] k (fun kq v6 w' => ∃ (xq0_1 : Int) (xq1_1 : List (S32)) (uq0 : Value), v6 = .int .i64 xq0_1 ∧ Aside0 (spec_l71Bent.l1 kq xq0_1 s0_0 t435 y427 xq1_1 = some (r1, r2, r3)) ∧ Aside0 (kq ≤ k) ∧ Aside0 (Kd.R k39 39 w' w.heap.size (fun k_ => (w.heap.size ≤ k_)) (.slice Aoq4 y427.length coq4) y427) ∧ Aside0 (Kd.N k32 32 w' w.heap.size (fun k_ => (w.heap.size ≤ k_) ∧ some k_ ≠ ((.slice Aoq4 y427.length coq4) : Value).ownBlock ∧ k_ ≠ gbq0 ∧ k_ ≠ gbq1 ∧ k_ ≠ gbq2 ∧ k_ ≠ g) uq0 xq1_1) ∧ Aside0 (w'.heap[gbq0]? = some (.cells #[(.slice A1_0 l1_0.length c1_0), (.slice A1_1 l1_1.length c1_1)] 26 (0, 0))) ∧ Aside0 (w'.heap[gbq1]? = some (.cells #[(.slice none 0 0), (.slice none 0 0)] 26 (0, 0))) ∧ Aside0 (w'.heap[gbq2]? = some (.cells #[(.slice Aoq4 y427.length coq4), uq0] 26 (0, 0))) ∧ Aside0 (IsS64 w0 w' g s0_0 t435) ∧ Aside0 (KeepBut w w' g none) ∧ Aside0 (Below w0.heap.size w0 w'))
 case atStart => exact ⟨(0), (t430), (.slice Aoq3 t430.length coq3), (by first | rfl | (simp; done) | (simp [*]; done)), H', ⟨Nat.le_refl _⟩, ⟨ZR HOq1.out⟩, ⟨by (with_reducible repeat (first | apply Kd.N_alloc | apply Kd.N_drewN | apply Kd.N_drew)); exact Kd.N_mono HOq2.out (fun _ hk => ⟨hk.1, ⟨hk.2.1, ⟨hk.2.2.2.1, ⟨hk.2.2.2.2.1, ⟨hk.2.2.2.2.2, hk.2.2.1⟩⟩⟩⟩⟩)⟩, ⟨ZK BKq0.out⟩, ⟨ZK BKq1.out⟩, ⟨ZK BKq2.out⟩, ⟨ZI⟩, ⟨ZJ⟩, ⟨ZBI⟩⟩
 case round => (
 clear H'
 try clear c1
 try clear p2
 try clear c3
 try clear c7
 try clear c39
 try clear c77
 obtain ⟨xq0_1, xq1_1, uq0, rfl, HA, HKq0, HO_q0, HO_q1, BKq0, BKq1, BKq2, HI0, HK, HB⟩ := hrel
 cases gk with
 | zero => exact absurd HA.out (by simp [spec_l71Bent.l1])
 | succ k1 =>
  have H := HA.out
  clear HA
  simp only [spec_l71Bent.l1] at H
  by_cases c192 : xq0_1 < 4
  ·(
  rw [if_pos c192] at H
  have cq0b0 : decide (xq0_1 < 4) = true := decide_eq_true c192
  clear c192
  obtain ⟨yq0, hyq0⟩ : ∃ y_ : List (S32), y_ = (([(⟨2, 0, (⟨0, 0, 0⟩ : S30), 0, xq1_1, ([] : List (S32))⟩ : S32)] : List (S32))) := ⟨_, rfl⟩
  replace H : (spec_l71Bent.l1 k1 (wrap64 (xq0_1 + 1)) s0_0 t435 y427 yq0) = some (r1, r2, r3) := by first | (rw [hyq0]; with_reducible exact H) | (have H2_ := (Option.bind_some _ _).symm.trans H; rw [hyq0]; with_reducible exact H2_) | (have H2_ := (Option.bind_some _ _).symm.trans H; with_reducible exact H2_) | with_reducible exact H | (rw [hyq0]; exact H) | exact H
  have Nyq0 := AM hyq0
  clear hyq0
  have H' := AM H
  clear H
  have hnbq0 := NBq3_422.out
  have hncq0 := NBq1_433.out
  have hnbq1 := NBq3_423.out
  have hncq1 := NBq2_433.out
  have hnbq2 := NBq3_0.out
  have hncq2 := NBq0_433.out
  have hczq0 := ZC2 wr BKq2
  have hfzq0 := ZF2 BKq2
  obtain ⟨Aoq5, coq5, eoq5⟩ := Kd.N_slice HO_q1.out
  subst eoq5
  go_wp2_with (first | ((with_reducible refine gate_dst (N := 92) rfl ?_); refine Kd.N_lit k32 _ 32 ?hg (N' := 92) ?hd (xs := ([(⟨2, 0, (⟨0, 0, 0⟩ : S30), 0, xq1_1, ([] : List (S32))⟩ : S32)] : List (S32))) (inner := [.int .i64 2, .int .i64 0, .int .i64 0, .int .i64 0, .int .i64 0, .int .i64 0, .slice Aoq5 xq1_1.length coq5, .slice none 0 0]) (ok := (fun k_ => (w.heap.size ≤ k_) ∧ some k_ ≠ (.slice Aoq4 y427.length coq4 : Value).ownBlock ∧ k_ ≠ gbq0 ∧ k_ ≠ gbq1 ∧ k_ ≠ gbq2 ∧ k_ ≠ g)) (okp := (fun k_ => (w.heap.size ≤ k_) ∧ some k_ ≠ (.slice Aoq4 y427.length coq4 : Value).ownBlock ∧ k_ ≠ gbq0 ∧ k_ ≠ gbq1 ∧ k_ ≠ gbq2 ∧ k_ ≠ g)) ?hr ?hp (fun _ hk => hk) ((show ∀ k_, wr.heap.size ≤ k_ → (fun k_ => (w.heap.size ≤ k_) ∧ some k_ ≠ (.slice Aoq4 y427.length coq4 : Value).ownBlock ∧ k_ ≠ gbq0 ∧ k_ ≠ gbq1 ∧ k_ ≠ gbq2 ∧ k_ ≠ g) k_ from fun k_ hk => ⟨(Nat.le_trans (keep_size (w := w) (g := g) (row := none) (ZJ)) hk), Kd.fresh' (Kd.R_lt (ZR HO_q0.out)) k_ hk, Kd.freshB (g := gbq0) (o := .cells #[.slice A1_0 l1_0.length c1_0, .slice A1_1 l1_1.length c1_1] 26 (0, 0)) (ZK BKq0.out) k_ hk, Kd.freshB (g := gbq1) (o := .cells #[.slice none 0 0, .slice none 0 0] 26 (0, 0)) (ZK BKq1.out) k_ hk, Kd.freshB (g := gbq2) (o := .cells #[.slice Aoq4 y427.length coq4, .slice Aoq5 xq1_1.length coq5] 26 (0, 0)) (ZK BKq2.out) k_ hk, IsS64.fresh (ZI) k_ hk⟩) _ (Nat.le_refl _)) (Below.refl _ _) (Nat.le_refl _) (by simp) ?_; (case hd => rfl); (case hg => rfl); (case hr => first | (go_simp; done) | (go_simp; rfl)); (case hp => exact (Reps.c8 (show Kd.FK k32 _ _ (⟨2, 0, (⟨0, 0, 0⟩ : S30), 0, xq1_1, ([] : List (S32))⟩ : S32) [.int .i64 2, .int .i64 0, .int .i64 0, .int .i64 0, .int .i64 0, .int .i64 0, .slice Aoq5 xq1_1.length coq5, .slice none 0 0] from (k32_mkF _ _ (⟨2, 0, (⟨0, 0, 0⟩ : S30), 0, xq1_1, ([] : List (S32))⟩ : S32) (Kd.N_reads' (Kd.N_mono (ok' := (fun k_ => (w.heap.size ≤ k_) ∧ some k_ ≠ (.slice Aoq4 y427.length coq4 : Value).ownBlock ∧ k_ ≠ gbq0 ∧ k_ ≠ gbq1 ∧ k_ ≠ gbq2 ∧ k_ ≠ g)) (HO_q1.out) (fun k_ hk => ⟨hk.1, ⟨hk.2.1, ⟨hk.2.2.1, ⟨hk.2.2.2.1, ⟨hk.2.2.2.2.1, hk.2.2.2.2.2⟩⟩⟩⟩⟩))).2.1 (Kd.N_F (Kd.N_mono (ok' := (fun k_ => (w.heap.size ≤ k_) ∧ some k_ ≠ (.slice Aoq4 y427.length coq4 : Value).ownBlock ∧ k_ ≠ gbq0 ∧ k_ ≠ gbq1 ∧ k_ ≠ gbq2 ∧ k_ ≠ g)) (HO_q1.out) (fun k_ hk => ⟨hk.1, ⟨hk.2.1, ⟨hk.2.2.1, ⟨hk.2.2.2.1, ⟨hk.2.2.2.2.1, hk.2.2.2.2.2⟩⟩⟩⟩⟩))) (Nat.le_refl _) (Kd.F_nil _ _ _))) (Reps.none _ _))); intro vq3 wq11 hoq3 hb hg_ hnew_; clear hg_ hnew_; (first | rw [← Nyq0.out] at hoq3 | (simp only [Int.reduceToNat] at hoq3; rw [← Nyq0.out] at hoq3)); have nq0_ := AM (Kd.R_below (ZR HO_q0.out) hb); have nq1_ := AM (Kd.N_lower hoq3 (keep_size (w := w) (g := g) (row := none) (ZJ))); have nq2_ := ZW BKq0 hb; have nq3_ := ZW BKq1 hb; have nq4_ := ZW BKq2 hb; have nq5_ := AM (IsS64.below (ZI) hb); have nq6_ := ZKT HK (KeepBut.of_below hb g none); have nq7_ := ZTI HB hb; clear HO_q0 BKq0 BKq1 BKq2 HI0 HK HB HO_q1; have HO_q0 := nq0_; have HOq3 := nq1_; have BKq0 := nq2_; have BKq1 := nq3_; have BKq2 := nq4_; have HI0 := nq5_; have HK := nq6_; have HB := nq7_; clear nq0_ nq1_ nq2_ nq3_ nq4_ nq5_ nq6_ nq7_ hb hoq3; obtain ⟨Aoq6, coq6, eoq6⟩ := Kd.N_slice HOq3.out; subst eoq6; have hczq1 := ZC2 wq11 BKq2; have hfzq1 := ZF2 BKq2))
  go_roundg k1
  case measure => have := HKq0.out; omega
  case rel => exact ⟨(wrap64 (xq0_1 + 1)), (yq0), (.slice Aoq6 yq0.length coq6), (by first | rfl | (simp; done) | (simp [*]; done)), H', ⟨by have := HKq0.out; omega⟩, ⟨ZR (Kd.R_mono (Kd.R_far (p := ⟨gbq2, 1, none⟩) (Kd.R_types HO_q0.out BKq2.out (by decide)) (fun _ hk => hk.2) (.slice Aoq6 yq0.length coq6)) (fun _ hk => hk.1))⟩, ⟨by (with_reducible repeat (first | apply Kd.N_alloc | apply Kd.N_drewN | apply Kd.N_drew)); exact Kd.N_mono (Kd.N_far (p := ⟨gbq2, 1, none⟩) (Kd.N_mono HOq3.out (fun k_ hk => (⟨hk, hk.2.2.2.2.1⟩ : _ ∧ k_ ≠ gbq2))) (fun _ hk => hk.2) (.slice Aoq6 yq0.length coq6)) (fun _ hk => ⟨hk.1.1, ⟨hk.1.2.1, ⟨hk.1.2.2.1, ⟨hk.1.2.2.2.1, ⟨hk.1.2.2.2.2.1, hk.1.2.2.2.2.2⟩⟩⟩⟩⟩)⟩, ⟨ZZ BKq0.out⟩, ⟨ZZ BKq1.out⟩, ⟨ZZ BKq2.out⟩, ⟨ZI⟩, ⟨ZJ⟩, ⟨ZBI⟩⟩)
  ·(
  rw [if_neg c192] at H
  have cq0b0 : decide (xq0_1 < 4) = false := decide_eq_false c192
  clear c192
  simp only [Option.some.injEq, Prod.mk.injEq] at H
  obtain ⟨rfl, rfl, rfl⟩ := H
  have hnbq3 := NBq3_422.out
  have hncq3 := NBq1_433.out
  have hnbq4 := NBq3_423.out
  have hncq4 := NBq2_433.out
  have hnbq5 := NBq3_0.out
  have hncq5 := NBq0_433.out
  have hczq2 := ZC2 wr BKq2
  have hfzq2 := ZF2 BKq2
  have hnbq6 := NBq2_422.out
  have hncq6 := NBq1_423.out
  have hnbq7 := NBq2_0.out
  have hncq7 := NBq0_423.out
  have hczq3 := ZC2 wr BKq1
  have hfzq3 := ZF2 BKq1
  obtain ⟨Aoq7, coq7, eoq7⟩ := Kd.N_slice HO_q1.out
  subst eoq7
  go_wp2
  refine bodyPost_ret (results_cell_row rfl _ _ gbq1 26 #[.slice Aoq4 y427.length coq4, .slice Aoq7 xq1_1.length coq7] (0, 0) _ rfl (ZZ BKq1.out) Try.underlying26 rfl (by kernel_rfl)) rfl ?_
  exact ⟨_, _, ZE, by (with_reducible repeat (first | apply Kd.R_alloc | apply Kd.R_drewN | apply Kd.R_drew)); exact Kd.R_mono (Kd.R_far (p := ⟨gbq1, 1, none⟩) (Kd.R_far (p := ⟨gbq1, 0, none⟩) (Kd.R_types HO_q0.out BKq1.out (by decide)) (fun _ hk => hk.2) (.slice Aoq4 y427.length coq4)) (fun _ hk => hk.2) (.slice Aoq7 xq1_1.length coq7)) (fun _ hk => hk.1), by (with_reducible repeat (first | apply Kd.N_alloc | apply Kd.N_drewN | apply Kd.N_drew)); exact Kd.N_mono (Kd.N_far (p := ⟨gbq1, 1, none⟩) (Kd.N_far (p := ⟨gbq1, 0, none⟩) (Kd.N_mono HO_q1.out (fun k_ hk => (⟨hk, hk.2.2.2.1⟩ : _ ∧ k_ ≠ gbq1))) (fun _ hk => hk.2) (.slice Aoq4 y427.length coq4)) (fun _ hk => hk.2) (.slice Aoq7 xq1_1.length coq7)) (fun _ hk => ⟨hk.1.1, hk.1.2.1⟩), ZI, ZBI, ZJ⟩))))
 | (
 (have z_ := tag2_; clear z_)
 try go_wp2_with (first | ((with_reducible refine gate_callee (f := 39) rfl ?_); refine ZGL (some 16) Try.func39 #[.pointer (some ⟨g, 0, none⟩), .int .i64 8] ?_; (with_reducible refine (spec_l6Rd_pick.calls k g s0_0 s0_1 8 t434 t435 w0 _ ?side1 ?side2 A5.out).mono ?_); (case side1 => exact ZI); (case side2 => exact ZBI); rintro e wq10 ⟨rfl, hi, hb, hk⟩; refine ⟨_, rfl, ?_⟩; replace BKq0 := ZLV #[.slice A1_0 l1_0.length c1_0, .slice A1_1 l1_1.length c1_1] hk BKq0 NBq1_0; replace BKq1 := ZLV #[.slice none 0 0, .slice none 0 0] hk BKq1 NBq2_0; replace HOq1 := AM (Kd.R_mono (Kd.R_keep (IsS64.apart (show IsS64 w0 _ g s0_0 s0_1 from ZI) (ZR ((Kd.R_mono (Kd.R_far (p := ⟨gbq2, 1, none⟩) (Kd.R_far (p := ⟨gbq2, 0, none⟩) (Kd.R_types HOq1.out BKq2.out (by decide)) (fun _ hk => hk.2) (.slice Aoq4 y427.length coq4)) (fun _ hk => hk.2) (.slice Aoq3 t430.length coq3)) (fun _ h_ => h_.1)))) (by decide)) hk (fun _ h => h.2)) (fun _ h => h.1)); replace HOq2 := AM (Kd.N_mono (Kd.N_keep (Kd.N_mono (ok := fun k_ => (((w.heap.size ≤ k_)) ∧ (some k_ ≠ (.slice Aoq4 y427.length coq4 : Value).ownBlock ∧ (k_ ≠ g ∧ (k_ ≠ gbq0 ∧ (k_ ≠ gbq1 ∧ k_ ≠ gbq2)))))) (by (with_reducible repeat (first | apply Kd.N_alloc | apply Kd.N_drewN | apply Kd.N_drew)); exact (Kd.N_mono (Kd.N_far (p := ⟨gbq2, 1, none⟩) (Kd.N_far (p := ⟨gbq2, 0, none⟩) (Kd.N_mono HOq2.out (fun k_ hk => (⟨hk, hk.2.2.2.2.2⟩ : _ ∧ k_ ≠ gbq2))) (fun _ hk => hk.2) (.slice Aoq4 y427.length coq4)) (fun _ hk => hk.2) (.slice Aoq3 t430.length coq3)) (fun _ h_ => h_.1))) (fun k_ hk_ => (⟨hk_, hk_.2.2.1⟩ : _ ∧ k_ ≠ g))) hk (fun _ h => h.2)) (fun _ h => h.1)); replace BKq2 := ZLV #[.slice Aoq4 y427.length coq4, .slice Aoq3 t430.length coq3] hk BKq2 NBq3_0; replace HK := ZKT HK hk; replace HB := AM (hb); replace HI0 := AM (hi); clear hb hk hi; have hnbq0 := NBq3_422.out; have hncq0 := NBq1_433.out; have hnbq1 := NBq3_423.out; have hncq1 := NBq2_433.out; have hnbq2 := NBq3_0.out; have hncq2 := NBq0_433.out; have hczq0 := ZC2 wq10 BKq2; have hfzq0 := ZF2 BKq2) | ((with_reducible refine gate_builtin (b := .append) (xs := #[.tmp 43, .tmp 49]) rfl ?_); at_builtin; refine Kd.N_append k32 w.heap.size rfl (.tmp 43) (.tmp 49) 24 32 (.agg #[(.int .i64 0), (.int .i64 0), (.int .i64 0), (.int .i64 0), (.int .i64 0), (.int .i64 0), (.slice none 0 0), (.slice none 0 0)]) 96 rfl Try.underlying24 info32 rfl (by decide) (by omega) (.slice Aoq3 t430.length coq3) t430 (⟨1, (y427.length : Int), (⟨1, 0, 0⟩ : S30), 0, ([] : List (S32)), ([] : List (S32))⟩ : S32) [.int .i64 1, .int .i64 (y427.length : Int), .int .i64 1, .int .i64 0, .int .i64 0, .int .i64 0, .slice none 0 0, .slice none 0 0] (fun k_ => (w.heap.size ≤ k_) ∧ some k_ ≠ (.slice Aoq4 y427.length coq4 : Value).ownBlock ∧ k_ ≠ gbq0 ∧ k_ ≠ gbq1 ∧ k_ ≠ gbq2 ∧ k_ ≠ g) (fun k_ => ((fun k_ => (w.heap.size ≤ k_) ∧ some k_ ≠ (.slice Aoq4 y427.length coq4 : Value).ownBlock ∧ k_ ≠ gbq0 ∧ k_ ≠ gbq1 ∧ k_ ≠ gbq2 ∧ k_ ≠ g)) k_ ∧ some k_ ≠ (.slice Aoq3 t430.length coq3 : Value).ownBlock) rfl rfl ?aP (fun _ hk => hk) ?aF ?aO (Below.refl _ _) ?aS ?aL ?_; (case aP => exact (k32_mkF _ _ (⟨1, (y427.length : Int), (⟨1, 0, 0⟩ : S30), 0, ([] : List (S32)), ([] : List (S32))⟩ : S32) (Nat.le_refl _) (Kd.F_nil _ _ _) (Nat.le_refl _) (Kd.F_nil _ _ _))); (case aF => exact (fun k_ hk => ⟨(Nat.le_trans (keep_size (w := w) (g := g) (row := none) (ZJ)) hk), Kd.fresh' (Kd.R_lt (ZR HOq1.out)) k_ hk, Kd.freshB (g := gbq0) (o := .cells #[.slice A1_0 l1_0.length c1_0, .slice A1_1 l1_1.length c1_1] 26 (0, 0)) (ZK BKq0.out) k_ hk, Kd.freshB (g := gbq1) (o := .cells #[.slice none 0 0, .slice none 0 0] 26 (0, 0)) (ZK BKq1.out) k_ hk, Kd.freshB (g := gbq2) (o := .cells #[.slice Aoq4 y427.length coq4, .slice Aoq3 t430.length coq3] 26 (0, 0)) (ZK BKq2.out) k_ hk, IsS64.fresh (ZI) k_ hk⟩)); (case aO => exact (by (with_reducible repeat (first | apply Kd.N_alloc | apply Kd.N_drewN | apply Kd.N_drew)); exact Kd.N_mono HOq2.out (fun _ hk => ⟨hk.1, ⟨hk.2.1, ⟨hk.2.2.2.1, ⟨hk.2.2.2.2.1, ⟨hk.2.2.2.2.2, hk.2.2.1⟩⟩⟩⟩⟩))); (case aS => exact (keep_size (w := w) (g := g) (row := none) (ZJ))); (case aL => have := LMc67.out; omega); intro vq3 wq11 ho hb hg hat; rw [← Ny442.out] at ho; have nq0_ := AM (IsS64.grown (ZI) hg (IsS64.own_neN HI0.out HOq2.out (by decide))); have nq1_ := AM (blk_grown (g := gbq0) (o := .cells #[.slice A1_0 l1_0.length c1_0, .slice A1_1 l1_1.length c1_1] 26 (0, 0)) (ZK BKq0.out) hg (Kd.N_ne HOq2.out BKq0.out (by decide))); have nq2_ := AM (blk_grown (g := gbq1) (o := .cells #[.slice none 0 0, .slice none 0 0] 26 (0, 0)) (ZK BKq1.out) hg (Kd.N_ne HOq2.out BKq1.out (by decide))); have nq3_ := AM (Kd.R_over' (ZR HOq1.out) (Kd.N_typed (ZRN HOq2.out)) (by decide) hg); have nq4_ := AM (blk_grown (g := gbq2) (o := .cells #[.slice Aoq4 y427.length coq4, .slice Aoq3 t430.length coq3] 26 (0, 0)) (ZK BKq2.out) hg (Kd.N_ne HOq2.out BKq2.out (by decide))); have nq5_ := AM (below_weaken (ZBI) HL.out hb); have nq6_ := AM (KeepBut.trans (ZJ) (KeepBut.of_grown hg g) (Kd.N_base2 HOq2.out)); have nq7_ := AM (ho); clear HI0 BKq0 BKq1 HOq1 BKq2 HB HK HOq2; have HI0 := nq0_; have BKq0 := nq1_; have BKq1 := nq2_; have HOq1 := nq3_; have BKq2 := nq4_; have HB := nq5_; have HK := nq6_; have HOq3 := nq7_; clear nq0_ nq1_ nq2_ nq3_ nq4_ nq5_ nq6_ nq7_ ho hb hg hat; obtain ⟨Aoq5, coq5, eoq5⟩ := Kd.N_slice HOq3.out; subst eoq5; have hczq1 := ZC2 wq11 BKq2; have hfzq1 := ZF2 BKq2; have hnbq3 := NBq2_422.out; have hncq3 := NBq1_423.out; have hnbq4 := NBq2_0.out; have hncq4 := NBq0_423.out; have hczq2 := ZC2 wq11 BKq1; have hfzq2 := ZF2 BKq1))
 refine bodyPost_ret (results_cell_row rfl _ _ gbq1 26 #[.slice Aoq4 y427.length coq4, .slice Aoq5 y442.length coq5] (0, 0) _ rfl (ZZ BKq1.out) Try.underlying26 rfl (by kernel_rfl)) rfl ?_
 exact ⟨_, _, ZE, by (with_reducible repeat (first | apply Kd.R_alloc | apply Kd.R_drewN | apply Kd.R_drew)); exact Kd.R_mono (Kd.R_far (p := ⟨gbq1, 1, none⟩) (Kd.R_far (p := ⟨gbq1, 0, none⟩) (Kd.R_far (p := ⟨gbq2, 1, none⟩) (Kd.R_types (Kd.R_types HOq1.out BKq2.out (by decide)) BKq1.out (by decide)) (fun _ hk => hk.1.2) (.slice Aoq5 y442.length coq5)) (fun _ hk => hk.2) (.slice Aoq4 y427.length coq4)) (fun _ hk => hk.2) (.slice Aoq5 y442.length coq5)) (fun _ hk => hk.1.1), by (with_reducible repeat (first | apply Kd.N_alloc | apply Kd.N_drewN | apply Kd.N_drew)); exact Kd.N_mono (Kd.N_far (p := ⟨gbq1, 1, none⟩) (Kd.N_far (p := ⟨gbq1, 0, none⟩) (Kd.N_far (p := ⟨gbq2, 1, none⟩) (Kd.N_mono (Kd.N_mono HOq3.out (fun k_ hk => (⟨hk, hk.2.2.2.2.1⟩ : _ ∧ k_ ≠ gbq2))) (fun k_ hk => (⟨hk, hk.1.2.2.2.1⟩ : _ ∧ k_ ≠ gbq1))) (fun _ hk => hk.1.2) (.slice Aoq5 y442.length coq5)) (fun _ hk => hk.2) (.slice Aoq4 y427.length coq4)) (fun _ hk => hk.2) (.slice Aoq5 y442.length coq5)) (fun _ hk => ⟨hk.1.1.1, hk.1.1.2.1⟩), ZI, ZBI, ZJ⟩)
 | (
 (have z_ := tag6_; clear z_)
 try go_wp2_with (first | ((with_reducible refine gate_callee (f := 39) rfl ?_); refine ZGL (some 16) Try.func39 #[.pointer (some ⟨g, 0, none⟩), .int .i64 8] ?_; (with_reducible refine (spec_l6Rd_pick.calls k g s0_0 s0_1 8 t434 t435 w0 _ ?side1 ?side2 A5.out).mono ?_); (case side1 => exact ZI); (case side2 => exact ZBI); rintro e wq10 ⟨rfl, hi, hb, hk⟩; refine ⟨_, rfl, ?_⟩; replace BKq0 := ZLV #[.slice A1_0 l1_0.length c1_0, .slice A1_1 l1_1.length c1_1] hk BKq0 NBq1_0; replace BKq1 := ZLV #[.slice none 0 0, .slice none 0 0] hk BKq1 NBq2_0; replace HOq1 := AM (Kd.R_mono (Kd.R_keep (IsS64.apart (show IsS64 w0 _ g s0_0 s0_1 from ZI) (ZR ((Kd.R_mono (Kd.R_far (p := ⟨gbq2, 1, none⟩) (Kd.R_far (p := ⟨gbq2, 0, none⟩) (Kd.R_types HOq1.out BKq2.out (by decide)) (fun _ hk => hk.2) (.slice Aoq4 y427.length coq4)) (fun _ hk => hk.2) (.slice Aoq3 t430.length coq3)) (fun _ h_ => h_.1)))) (by decide)) hk (fun _ h => h.2)) (fun _ h => h.1)); replace HOq2 := AM (Kd.N_mono (Kd.N_keep (Kd.N_mono (ok := fun k_ => (((w.heap.size ≤ k_)) ∧ (some k_ ≠ (.slice Aoq4 y427.length coq4 : Value).ownBlock ∧ (k_ ≠ g ∧ (k_ ≠ gbq0 ∧ (k_ ≠ gbq1 ∧ k_ ≠ gbq2)))))) (by (with_reducible repeat (first | apply Kd.N_alloc | apply Kd.N_drewN | apply Kd.N_drew)); exact (Kd.N_mono (Kd.N_far (p := ⟨gbq2, 1, none⟩) (Kd.N_far (p := ⟨gbq2, 0, none⟩) (Kd.N_mono HOq2.out (fun k_ hk => (⟨hk, hk.2.2.2.2.2⟩ : _ ∧ k_ ≠ gbq2))) (fun _ hk => hk.2) (.slice Aoq4 y427.length coq4)) (fun _ hk => hk.2) (.slice Aoq3 t430.length coq3)) (fun _ h_ => h_.1))) (fun k_ hk_ => (⟨hk_, hk_.2.2.1⟩ : _ ∧ k_ ≠ g))) hk (fun _ h => h.2)) (fun _ h => h.1)); replace BKq2 := ZLV #[.slice Aoq4 y427.length coq4, .slice Aoq3 t430.length coq3] hk BKq2 NBq3_0; replace HK := ZKT HK hk; replace HB := AM (hb); replace HI0 := AM (hi); clear hb hk hi; have hnbq0 := NBq3_422.out; have hncq0 := NBq1_433.out; have hnbq1 := NBq3_423.out; have hncq1 := NBq2_433.out; have hnbq2 := NBq3_0.out; have hncq2 := NBq0_433.out; have hczq0 := ZC2 wq10 BKq2; have hfzq0 := ZF2 BKq2) | ((with_reducible refine gate_dst (N := 102) rfl ?_); refine Kd.R_lit k39 _ 39 ?hg (N := 102) ?hd (xs := ([(⟨0, 0⟩ : S39), (⟨0, 0⟩ : S39), (⟨0, 0⟩ : S39), (⟨0, 0⟩ : S39)] : List (S39))) (inner := [.int .i64 0, .int .i64 0, .int .i64 0, .int .i64 0, .int .i64 0, .int .i64 0, .int .i64 0, .int .i64 0]) (ok := fun _ => True) (okp := fun _ => True) ?hr ?hp (fun _ hk => hk) trivial (Below.refl _ _) (Nat.le_refl _) (by simp) ?_; (case hd => rfl); (case hg => rfl); (case hr => first | (go_simp; done) | (go_simp; rfl)); (case hp => exact (Reps.c2 (show Kd.M k39 _ _ _ (⟨0, 0⟩ : S39) [.int .i64 0, .int .i64 0] from (k39_mkM _ _ _ (⟨0, 0⟩ : S39) )) (Reps.c2 (show Kd.M k39 _ _ _ (⟨0, 0⟩ : S39) [.int .i64 0, .int .i64 0] from (k39_mkM _ _ _ (⟨0, 0⟩ : S39) )) (Reps.c2 (show Kd.M k39 _ _ _ (⟨0, 0⟩ : S39) [.int .i64 0, .int .i64 0] from (k39_mkM _ _ _ (⟨0, 0⟩ : S39) )) (Reps.c2 (show Kd.M k39 _ _ _ (⟨0, 0⟩ : S39) [.int .i64 0, .int .i64 0] from (k39_mkM _ _ _ (⟨0, 0⟩ : S39) )) (Reps.none _ _)))))); intro vq3 wq11 hoq3 hb hg_ hnew_; clear hg_ hnew_; (first | rw [← Ny466.out] at hoq3 | (simp only [Int.reduceToNat] at hoq3; rw [← Ny466.out] at hoq3)); have HOq3 := AM (Kd.R_lower (Kd.R_new' (Kd.R_newM (M := fun k_ => (w.heap.size ≤ k_)) hoq3 (keep_size (w := w) (g := g) (row := none) (ZJ)) (fun k_ h_ => h_)) (Kd.R_lt (ZR HOq1.out))) (keep_size (w := w) (g := g) (row := none) (ZJ))); replace HOq1 := AM (Kd.R_elder' (ZR HOq1.out) (Kd.R_base hoq3) hb); replace HOq2 := AM (Kd.N_elder' (ZRN HOq2.out) (Kd.R_base hoq3) hb); replace BKq0 := ZW BKq0 hb; replace BKq1 := ZW BKq1 hb; replace BKq2 := ZW BKq2 hb; replace HK := ZKT HK (KeepBut.of_below hb g none); replace HB := ZTI HB hb; replace HI0 := AM (IsS64.below (ZI) hb); clear hb hoq3; obtain ⟨Aoq5, coq5, eoq5⟩ := Kd.R_slice HOq3.out; subst eoq5) | ((with_reducible refine gate_builtin (b := .append) (xs := #[.tmp 97, .tmp 102]) rfl ?_); at_builtin; refine Kd.R_append_rows k39 w.heap.size rfl (.tmp 97) (.tmp 102) 23 39 (.agg #[(.int .i64 0), (.int .i64 0)]) 16 rfl Try.underlying23 info39 rfl (by decide) (by omega) (.slice Aoq4 y427.length coq4) y427 y466 _ _ _ (fun k_ => (w.heap.size ≤ k_) ∧ some k_ ≠ (.slice Aoq5 y466.length coq5 : Value).ownBlock) (fun _ => False) rfl rfl ?aO ?aR (fun _ _ h => h) (fun _ h => h.elim) ?aF (Below.refl _ _) ?aS ?aL ?_; (case aR => exact ZQ ((Kd.R_reads' HOq3.out).2.2)); (case aF => exact (fun k_ hk => ⟨(Nat.le_trans (keep_size (w := w) (g := g) (row := none) (ZJ)) hk), Kd.fresh' (Kd.R_lt (ZR HOq3.out)) k_ hk⟩)); (case aO => exact (ZR HOq1.out)); (case aS => exact (keep_size (w := w) (g := g) (row := none) (ZJ))); (case aL => have := LMc211.out; omega); intro vq4 wq12 ho hb hg hat; rw [← Ny469.out] at ho; have nq0_ := AM (IsS64.grown (ZI) hg (IsS64.own_ne HI0.out HOq1.out (by decide))); have nq1_ := AM (blk_grown (g := gbq0) (o := .cells #[.slice A1_0 l1_0.length c1_0, .slice A1_1 l1_1.length c1_1] 26 (0, 0)) (ZK BKq0.out) hg (Kd.R_ne HOq1.out BKq0.out (by decide))); have nq2_ := AM (blk_grown (g := gbq1) (o := .cells #[.slice none 0 0, .slice none 0 0] 26 (0, 0)) (ZK BKq1.out) hg (Kd.R_ne HOq1.out BKq1.out (by decide))); have nq3_ := AM (Kd.N_afterv (ok := (fun k_ => (w.heap.size ≤ k_) ∧ some k_ ≠ (.slice Aoq5 y466.length coq5 : Value).ownBlock ∧ k_ ≠ g ∧ k_ ≠ gbq0 ∧ k_ ≠ gbq1 ∧ k_ ≠ gbq2)) (by (with_reducible repeat (first | apply Kd.N_alloc | apply Kd.N_drewN | apply Kd.N_drew)); exact Kd.N_mono HOq2.out (fun _ hk => ⟨⟨hk.1.1, ⟨hk.2, ⟨hk.1.2.2.1, ⟨hk.1.2.2.2.1, ⟨hk.1.2.2.2.2.1, hk.1.2.2.2.2.2⟩⟩⟩⟩⟩, hk.1.2.1⟩)) hg hat); have nq4_ := AM (blk_grown (g := gbq2) (o := .cells #[.slice Aoq4 y427.length coq4, .slice Aoq3 t430.length coq3] 26 (0, 0)) (ZK BKq2.out) hg (Kd.R_ne HOq1.out BKq2.out (by decide))); have nq5_ := AM (Kd.R_after (ok := (fun k_ => (w.heap.size ≤ k_))) (by (with_reducible repeat (first | apply Kd.R_alloc | apply Kd.R_drewN | apply Kd.R_drew)); exact Kd.R_mono HOq3.out (fun _ hk => ⟨hk.1.1, hk.2⟩)) hg hat); have nq6_ := AM (below_weaken (ZBI) HL.out hb); have nq7_ := AM (KeepBut.trans (ZJ) (KeepBut.of_grown hg g) (Kd.R_base2 HOq1.out)); have nq8_ := AM (ho); clear HI0 BKq0 BKq1 HOq2 BKq2 HOq3 HB HK HOq1; have HI0 := nq0_; have BKq0 := nq1_; have BKq1 := nq2_; have HOq2 := nq3_; have BKq2 := nq4_; have HOq3 := nq5_; have HB := nq6_; have HK := nq7_; have HOq4 := nq8_; clear nq0_ nq1_ nq2_ nq3_ nq4_ nq5_ nq6_ nq7_ nq8_ ho hb hg hat; obtain ⟨Aoq6, coq6, eoq6⟩ := Kd.R_slice HOq4.out; subst eoq6; have hczq1 := ZC2 wq12 BKq2; have hfzq1 := ZF2 BKq2; have hnbq3 := NBq2_422.out; have hncq3 := NBq1_423.out; have hnbq4 := NBq2_0.out; have hncq4 := NBq0_423.out; have hczq2 := ZC2 wq12 BKq1; have hfzq2 := ZF2 BKq1))
 refine bodyPost_ret (results_cell_row rfl _ _ gbq1 26 #[.slice Aoq6 y469.length coq6, .slice Aoq3 t430.length coq3] (0, 0) _ rfl (ZZ BKq1.out) Try.underlying26 rfl (by kernel_rfl)) rfl ?_
 exact ⟨_, _, ZE, by (with_reducible repeat (first | apply Kd.R_alloc | apply Kd.R_drewN | apply Kd.R_drew)); exact Kd.R_mono (Kd.R_far (p := ⟨gbq1, 1, none⟩) (Kd.R_far (p := ⟨gbq1, 0, none⟩) (Kd.R_far (p := ⟨gbq2, 0, none⟩) (Kd.R_types (Kd.R_types HOq4.out BKq2.out (by decide)) BKq1.out (by decide)) (fun _ hk => hk.1.2) (.slice Aoq6 y469.length coq6)) (fun _ hk => hk.2) (.slice Aoq6 y469.length coq6)) (fun _ hk => hk.2) (.slice Aoq3 t430.length coq3)) (fun _ hk => hk.1.1.1), by (with_reducible repeat (first | apply Kd.N_alloc | apply Kd.N_drewN | apply Kd.N_drew)); exact Kd.N_mono (Kd.N_far (p := ⟨gbq1, 1, none⟩) (Kd.N_far (p := ⟨gbq1, 0, none⟩) (Kd.N_far (p := ⟨gbq2, 0, none⟩) (Kd.N_mono (Kd.N_mono HOq2.out (fun k_ hk => (⟨hk, hk.1.2.2.2.2.2⟩ : _ ∧ k_ ≠ gbq2))) (fun k_ hk => (⟨hk, hk.1.1.2.2.2.2.1⟩ : _ ∧ k_ ≠ gbq1))) (fun _ hk => hk.1.2) (.slice Aoq6 y469.length coq6)) (fun _ hk => hk.2) (.slice Aoq6 y469.length coq6)) (fun _ hk => hk.2) (.slice Aoq3 t430.length coq3)) (fun _ hk => ⟨hk.1.1.1.1, hk.1.1.2⟩), ZI, ZBI, ZJ⟩)
 | (
 (have z_ := tag7_; clear z_)
 try go_wp2_with (first | ((with_reducible refine gate_callee (f := 39) rfl ?_); refine ZGL (some 16) Try.func39 #[.pointer (some ⟨g, 0, none⟩), .int .i64 8] ?_; (with_reducible refine (spec_l6Rd_pick.calls k g s0_0 s0_1 8 t434 t435 w0 _ ?side1 ?side2 A5.out).mono ?_); (case side1 => exact ZI); (case side2 => exact ZBI); rintro e wq10 ⟨rfl, hi, hb, hk⟩; refine ⟨_, rfl, ?_⟩; replace BKq0 := ZLV #[.slice A1_0 l1_0.length c1_0, .slice A1_1 l1_1.length c1_1] hk BKq0 NBq1_0; replace BKq1 := ZLV #[.slice none 0 0, .slice none 0 0] hk BKq1 NBq2_0; replace HOq1 := AM (Kd.R_mono (Kd.R_keep (IsS64.apart (show IsS64 w0 _ g s0_0 s0_1 from ZI) (ZR ((Kd.R_mono (Kd.R_far (p := ⟨gbq2, 1, none⟩) (Kd.R_far (p := ⟨gbq2, 0, none⟩) (Kd.R_types HOq1.out BKq2.out (by decide)) (fun _ hk => hk.2) (.slice Aoq4 y427.length coq4)) (fun _ hk => hk.2) (.slice Aoq3 t430.length coq3)) (fun _ h_ => h_.1)))) (by decide)) hk (fun _ h => h.2)) (fun _ h => h.1)); replace HOq2 := AM (Kd.N_mono (Kd.N_keep (Kd.N_mono (ok := fun k_ => (((w.heap.size ≤ k_)) ∧ (some k_ ≠ (.slice Aoq4 y427.length coq4 : Value).ownBlock ∧ (k_ ≠ g ∧ (k_ ≠ gbq0 ∧ (k_ ≠ gbq1 ∧ k_ ≠ gbq2)))))) (by (with_reducible repeat (first | apply Kd.N_alloc | apply Kd.N_drewN | apply Kd.N_drew)); exact (Kd.N_mono (Kd.N_far (p := ⟨gbq2, 1, none⟩) (Kd.N_far (p := ⟨gbq2, 0, none⟩) (Kd.N_mono HOq2.out (fun k_ hk => (⟨hk, hk.2.2.2.2.2⟩ : _ ∧ k_ ≠ gbq2))) (fun _ hk => hk.2) (.slice Aoq4 y427.length coq4)) (fun _ hk => hk.2) (.slice Aoq3 t430.length coq3)) (fun _ h_ => h_.1))) (fun k_ hk_ => (⟨hk_, hk_.2.2.1⟩ : _ ∧ k_ ≠ g))) hk (fun _ h => h.2)) (fun _ h => h.1)); replace BKq2 := ZLV #[.slice Aoq4 y427.length coq4, .slice Aoq3 t430.length coq3] hk BKq2 NBq3_0; replace HK := ZKT HK hk; replace HB := AM (hb); replace HI0 := AM (hi); clear hb hk hi; have hnbq0 := NBq3_422.out; have hncq0 := NBq1_433.out; have hnbq1 := NBq3_423.out; have hncq1 := NBq2_433.out; have hnbq2 := NBq3_0.out; have hncq2 := NBq0_433.out; have hczq0 := ZC2 wq10 BKq2; have hfzq0 := ZF2 BKq2) | ((with_reducible refine gate_builtin (b := .append) (xs := #[.tmp 18, .tmp 20]) rfl ?_); at_builtin; refine Kd.N_append k32 w.heap.size rfl (.tmp 18) (.tmp 20) 24 32 (.agg #[(.int .i64 0), (.int .i64 0), (.int .i64 0), (.int .i64 0), (.int .i64 0), (.int .i64 0), (.slice none 0 0), (.slice none 0 0)]) 96 rfl Try.underlying24 info32 rfl (by decide) (by omega) (.slice Aoq3 t430.length coq3) t430 (⟨3, 0, (⟨0, 0, 0⟩ : S30), 3, ([] : List (S32)), ([] : List (S32))⟩ : S32) [.int .i64 3, .int .i64 0, .int .i64 0, .int .i64 0, .int .i64 0, .int .i64 3, .slice none 0 0, .slice none 0 0] (fun k_ => (w.heap.size ≤ k_) ∧ some k_ ≠ (.slice Aoq4 y427.length coq4 : Value).ownBlock ∧ k_ ≠ gbq0 ∧ k_ ≠ gbq1 ∧ k_ ≠ gbq2 ∧ k_ ≠ g) (fun k_ => ((fun k_ => (w.heap.size ≤ k_) ∧ some k_ ≠ (.slice Aoq4 y427.length coq4 : Value).ownBlock ∧ k_ ≠ gbq0 ∧ k_ ≠ gbq1 ∧ k_ ≠ gbq2 ∧ k_ ≠ g)) k_ ∧ some k_ ≠ (.slice Aoq3 t430.length coq3 : Value).ownBlock) rfl rfl ?aP (fun _ hk => hk) ?aF ?aO (Below.refl _ _) ?aS ?aL ?_; (case aP => exact (k32_mkF _ _ (⟨3, 0, (⟨0, 0, 0⟩ : S30), 3, ([] : List (S32)), ([] : List (S32))⟩ : S32) (Nat.le_refl _) (Kd.F_nil _ _ _) (Nat.le_refl _) (Kd.F_nil _ _ _))); (case aF => exact (fun k_ hk => ⟨(Nat.le_trans (keep_size (w := w) (g := g) (row := none) (ZJ)) hk), Kd.fresh' (Kd.R_lt (ZR HOq1.out)) k_ hk, Kd.freshB (g := gbq0) (o := .cells #[.slice A1_0 l1_0.length c1_0, .slice A1_1 l1_1.length c1_1] 26 (0, 0)) (ZK BKq0.out) k_ hk, Kd.freshB (g := gbq1) (o := .cells #[.slice none 0 0, .slice none 0 0] 26 (0, 0)) (ZK BKq1.out) k_ hk, Kd.freshB (g := gbq2) (o := .cells #[.slice Aoq4 y427.length coq4, .slice Aoq3 t430.length coq3] 26 (0, 0)) (ZK BKq2.out) k_ hk, IsS64.fresh (ZI) k_ hk⟩)); (case aO => exact (by (with_reducible repeat (first | apply Kd.N_alloc | apply Kd.N_drewN | apply Kd.N_drew)); exact Kd.N_mono HOq2.out (fun _ hk => ⟨hk.1, ⟨hk.2.1, ⟨hk.2.2.2.1, ⟨hk.2.2.2.2.1, ⟨hk.2.2.2.2.2, hk.2.2.1⟩⟩⟩⟩⟩))); (case aS => exact (keep_size (w := w) (g := g) (row := none) (ZJ))); (case aL => have := LMc241.out; omega); intro vq3 wq11 ho hb hg hat; rw [← Ny472.out] at ho; have nq0_ := AM (IsS64.grown (ZI) hg (IsS64.own_neN HI0.out HOq2.out (by decide))); have nq1_ := AM (blk_grown (g := gbq0) (o := .cells #[.slice A1_0 l1_0.length c1_0, .slice A1_1 l1_1.length c1_1] 26 (0, 0)) (ZK BKq0.out) hg (Kd.N_ne HOq2.out BKq0.out (by decide))); have nq2_ := AM (blk_grown (g := gbq1) (o := .cells #[.slice none 0 0, .slice none 0 0] 26 (0, 0)) (ZK BKq1.out) hg (Kd.N_ne HOq2.out BKq1.out (by decide))); have nq3_ := AM (Kd.R_over' (ZR HOq1.out) (Kd.N_typed (ZRN HOq2.out)) (by decide) hg); have nq4_ := AM (blk_grown (g := gbq2) (o := .cells #[.slice Aoq4 y427.length coq4, .slice Aoq3 t430.length coq3] 26 (0, 0)) (ZK BKq2.out) hg (Kd.N_ne HOq2.out BKq2.out (by decide))); have nq5_ := AM (below_weaken (ZBI) HL.out hb); have nq6_ := AM (KeepBut.trans (ZJ) (KeepBut.of_grown hg g) (Kd.N_base2 HOq2.out)); have nq7_ := AM (ho); clear HI0 BKq0 BKq1 HOq1 BKq2 HB HK HOq2; have HI0 := nq0_; have BKq0 := nq1_; have BKq1 := nq2_; have HOq1 := nq3_; have BKq2 := nq4_; have HB := nq5_; have HK := nq6_; have HOq3 := nq7_; clear nq0_ nq1_ nq2_ nq3_ nq4_ nq5_ nq6_ nq7_ ho hb hg hat; obtain ⟨Aoq5, coq5, eoq5⟩ := Kd.N_slice HOq3.out; subst eoq5; have hczq1 := ZC2 wq11 BKq2; have hfzq1 := ZF2 BKq2; have hnbq3 := NBq2_422.out; have hncq3 := NBq1_423.out; have hnbq4 := NBq2_0.out; have hncq4 := NBq0_423.out; have hczq2 := ZC2 wq11 BKq1; have hfzq2 := ZF2 BKq1))
 refine bodyPost_ret (results_cell_row rfl _ _ gbq1 26 #[.slice Aoq4 y427.length coq4, .slice Aoq5 y472.length coq5] (0, 0) _ rfl (ZZ BKq1.out) Try.underlying26 rfl (by kernel_rfl)) rfl ?_
 exact ⟨_, _, ZE, by (with_reducible repeat (first | apply Kd.R_alloc | apply Kd.R_drewN | apply Kd.R_drew)); exact Kd.R_mono (Kd.R_far (p := ⟨gbq1, 1, none⟩) (Kd.R_far (p := ⟨gbq1, 0, none⟩) (Kd.R_far (p := ⟨gbq2, 1, none⟩) (Kd.R_types (Kd.R_types HOq1.out BKq2.out (by decide)) BKq1.out (by decide)) (fun _ hk => hk.1.2) (.slice Aoq5 y472.length coq5)) (fun _ hk => hk.2) (.slice Aoq4 y427.length coq4)) (fun _ hk => hk.2) (.slice Aoq5 y472.length coq5)) (fun _ hk => hk.1.1), by (with_reducible repeat (first | apply Kd.N_alloc | apply Kd.N_drewN | apply Kd.N_drew)); exact Kd.N_mono (Kd.N_far (p := ⟨gbq1, 1, none⟩) (Kd.N_far (p := ⟨gbq1, 0, none⟩) (Kd.N_far (p := ⟨gbq2, 1, none⟩) (Kd.N_mono (Kd.N_mono HOq3.out (fun k_ hk => (⟨hk, hk.2.2.2.2.1⟩ : _ ∧ k_ ≠ gbq2))) (fun k_ hk => (⟨hk, hk.1.2.2.2.1⟩ : _ ∧ k_ ≠ gbq1))) (fun _ hk => hk.1.2) (.slice Aoq5 y472.length coq5)) (fun _ hk => hk.2) (.slice Aoq4 y427.length coq4)) (fun _ hk => hk.2) (.slice Aoq5 y472.length coq5)) (fun _ hk => ⟨hk.1.1.1, hk.1.1.2.1⟩), ZI, ZBI, ZJ⟩))

end Go.Proofs.Ythidgkfgdkjghaa.A
