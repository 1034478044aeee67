/- Plain facts on what the functions compute, several texts in one: see wip/pure. -/
import Derived.Test.YtfcmckomagaiiaaDoorAx13
import Derived.Test.YtfcmckomagaiiaaDoorAx28
import Derived.Test.YtfcmckomagaiiaaDoorMA
import Derived.Test.YtfcmckomagaiiaaDoorAx14
import Derived.Test.YtfcmckomagaiiaaDoorAx0
import Derived.Test.YtfcmckomagaiiaaDoorAx15
import Derived.Test.YtfcmckomagaiiaaDoorAx16
import Derived.Test.YtfcmckomagaiiaaDoorAx17
import Derived.Test.YtfcmckomagaiiaaDoorAx27
namespace Go.Proofs.YtfcmckomagaiiaaDoor.A
open Go.RowKit Go.Proofs.YtfcmckomagaiiaaDoorW.PrintWords Go.Proofs.YtfcmckomagaiiaaDoorW.PrintLast Go.Proofs.YtfcmckomagaiiaaDoorW.PrintMore
/-- What is read of a code: bytes, 2000 at most. -/
def Code_ (b : List Int) : Prop := (∀ x ∈ b, 0 ≤ x ∧ x ≤ 255) ∧ b.length ≤ 2000
theorem rd_byte {b : List Int} (hb : Code_ b) (i : Int) : 0 ≤ rd b i ∧ rd b i ≤ 255 := by
 unfold rd
 rw [List.getD_eq_getElem?_getD]
 cases h : b[i.toNat]? with
 | none => exact ⟨Int.le_refl _, by simp⟩
 | some x => exact hb.1 x (List.mem_of_getElem? h)
theorem xor_nonneg {a b : Int} (h0 : 0 ≤ a) (h1 : a < 4611686018427387904) (h2 : 0 ≤ b) (h3 : b < 4611686018427387904) : 0 ≤ Go.bits .xor .i64 a b := by
 obtain ⟨x, rfl⟩ := Int.eq_ofNat_of_zero_le h0
 obtain ⟨y, rfl⟩ := Int.eq_ofNat_of_zero_le h2
 have hx : x < 2 ^ 62 := by omega
 have hy : y < 2 ^ 62 := by omega
 have hx' : x % 2 ^ IntKind.i64.bits = x := Nat.mod_eq_of_lt (Nat.lt_of_lt_of_le hx (by decide))
 have hy' : y % 2 ^ IntKind.i64.bits = y := Nat.mod_eq_of_lt (Nat.lt_of_lt_of_le hy (by decide))
 have hz : x ^^^ y < 2 ^ 62 := Nat.xor_lt_two_pow hx hy
 simp only [bits, BitVec.ofInt_natCast, BitVec.toNat_xor, BitVec.toNat_ofNat, hx', hy']
 rw [IntWalk.i64_in _ ⟨by omega, by omega⟩]
 exact Int.natCast_nonneg _
theorem pick_ev {b : List Int} (hb : Code_ b) (p n : Int) (hp : 0 ≤ p) (hp2 : p ≤ 1000000000) (hn : 1 ≤ n) (hn2 : n ≤ 1000000) :
  ∃ r, Ev (fun k => spec_l6Rd_pick.f k b p n) (r, p + 1) ∧ 0 ≤ r ∧ r < n := by
 have e1 : ¬ n < 1 := by omega
 have e2 : wrap64 (p + 1) = p + 1 := wr (by omega) (by omega)
 have e3 : wrap64 (p + 1 - 1) = p := by rw [wr (by omega) (by omega)]; omega
 have e4 : ¬ n = 0 := by omega
 simp only [spec_l6Rd_pick.f, e1, if_false, e2]
 by_cases h0 : b.length = 0
 ·refine ⟨0, Ev.succ_ (Ev.all_ fun k => ?_), by omega, by omega⟩
  simp [spec_l6Rd_pick.j0, h0]
 have h0' : ¬ (b.length : Int) = 0 := by omega
 have hl := hb.2
 by_cases h1 : p < (b.length : Int)
 ·have hr := rd_byte hb p
  refine ⟨Int.tmod (rd b p) n, Ev.succ_ (Ev.all_ fun k => ?_), Int.tmod_nonneg _ hr.1, Int.tmod_lt_of_pos _ (by omega)⟩
  have e5 : wrap64 (rd b p) = rd b p := wr (by omega) (by omega)
  have e6 : ((b.length : Int) == 0) = false := by simpa using h0
  simp only [spec_l6Rd_pick.j0, e3, e4, e5, e6, h1, hp, if_true, if_false, Bool.false_eq_true]
 ·have m0 : 0 ≤ Int.tmod p (b.length : Int) := Int.tmod_nonneg _ hp
  have m1 : Int.tmod p (b.length : Int) < (b.length : Int) := Int.tmod_lt_of_pos _ (by omega)
  have e7 : wrap64 (p * 7) = p * 7 := wr (by omega) (by omega)
  have e8 : wrap64 (p * 7 + 3) = p * 7 + 3 := wr (by omega) (by omega)
  have m2 : 0 ≤ Int.tmod (p * 7 + 3) (b.length : Int) := Int.tmod_nonneg _ (by omega)
  have m3 : Int.tmod (p * 7 + 3) (b.length : Int) < (b.length : Int) := Int.tmod_lt_of_pos _ (by omega)
  have r1 := rd_byte hb (Int.tmod p (b.length : Int))
  have r2 := rd_byte hb (Int.tmod (p * 7 + 3) (b.length : Int))
  generalize hA : rd b (Int.tmod p (b.length : Int)) = A at r1
  generalize hB : rd b (Int.tmod (p * 7 + 3) (b.length : Int)) = B at r2
  have q0 : 0 ≤ Int.tdiv p (b.length : Int) := Int.tdiv_nonneg hp (by omega)
  have q1 : Int.tdiv p (b.length : Int) ≤ p := Int.tdiv_le_self _ hp
  generalize hQ : Int.tdiv p (b.length : Int) = Q at q0 q1
  have w1 : wrap64 A = A := wr (by omega) (by omega)
  have w2 : wrap64 (A * 131) = A * 131 := wr (by omega) (by omega)
  have w3 : wrap64 B = B := wr (by omega) (by omega)
  have w4 : wrap64 (B * 1117) = B * 1117 := wr (by omega) (by omega)
  have w5 : wrap64 (A * 131 + B * 1117) = A * 131 + B * 1117 := wr (by omega) (by omega)
  have w6 : wrap64 (p * 29) = p * 29 := wr (by omega) (by omega)
  have w7 : wrap64 (A * 131 + B * 1117 + p * 29) = A * 131 + B * 1117 + p * 29 := wr (by omega) (by omega)
  have w8 : wrap64 Q = Q := wr (by omega) (by omega)
  have w9 : wrap64 (Q * 53) = Q * 53 := wr (by omega) (by omega)
  have w10 : wrap64 (A * 131 + B * 1117 + p * 29 + Q * 53) = A * 131 + B * 1117 + p * 29 + Q * 53 := wr (by omega) (by omega)
  have x0 : 0 ≤ A * 131 + B * 1117 + p * 29 + Q * 53 := by omega
  have x1 : A * 131 + B * 1117 + p * 29 + Q * 53 < 4611686018427387904 := by omega
  generalize hX : A * 131 + B * 1117 + p * 29 + Q * 53 = X at w10 x0 x1
  have y0 : 0 ≤ Int.tdiv X 64 := Int.tdiv_nonneg x0 (by omega)
  have y1 : Int.tdiv X 64 ≤ X := Int.tdiv_le_self _ x0
  have w11 : wrap64 (Int.tdiv X 64) = Int.tdiv X 64 := wr (by omega) (by omega)
  have x2 := xor_nonneg x0 x1 y0 (by omega)
  refine ⟨Int.tmod (Go.bits .xor .i64 X (Int.tdiv X 64)) n, Ev.succ_ (Ev.all_ fun k => ?_), Int.tmod_nonneg _ x2, Int.tmod_lt_of_pos _ (by omega)⟩
  have e6 : ((b.length : Int) == 0) = false := by simpa using h0
  simp only [spec_l6Rd_pick.j0, e3, e4, e6, e7, e8, h0', h1, m0, m1, m2, m3, hA, hB, hQ, w1, w2, w3, w4, w5, w6, w7, w8, w9, hX, w10, w11, if_true, if_false, Bool.false_eq_true]
theorem open_ev {l : List Int} (hl : ∀ x ∈ l, 0 ≤ x ∧ x ≤ 255) : ∃ b, Code_ b ∧ spec_l6Open.f l = some (b, 0) := by
 unfold spec_l6Open.f
 by_cases h : (l.length : Int) > 2000
 ·have h' : (2000 : Int) ≤ (l.length : Int) := by omega
  exact ⟨l.take 2000, ⟨fun x hx => hl x (List.mem_of_mem_take hx), by simp; omega⟩, by simp only [h, h', if_true]⟩
 ·exact ⟨l, ⟨hl, by omega⟩, by simp only [h, if_false]⟩
theorem u8_of {x : Int} (h : (Lit.int .u8 x).wf = true) : 0 ≤ x ∧ x ≤ 255 := by
 simp [Lit.wf, IntKind.min, IntKind.max, IntKind.signed, IntKind.bits] at h
 omega
end Go.Proofs.YtfcmckomagaiiaaDoor.A
namespace Go.Proofs.YtfcmckomagaiiaaDoor.A
open Go.RowKit Go.Proofs.YtfcmckomagaiiaaDoorW.PrintWords Go.Proofs.YtfcmckomagaiiaaDoorW.PrintLast Go.Proofs.YtfcmckomagaiiaaDoorW.PrintMore
theorem tab_know (r : Int) (h0 : 0 ≤ r) (h1 : r < 9) : isS (rd [7, 7, 3, 5, 6, 1, 2, 4, 0] r) = true := by
 have : r = 0 ∨ r = 1 ∨ r = 2 ∨ r = 3 ∨ r = 4 ∨ r = 5 ∨ r = 6 ∨ r = 7 ∨ r = 8 := by omega
 rcases this with rfl | rfl | rfl | rfl | rfl | rfl | rfl | rfl | rfl <;> decide
theorem tab_trust (r : Int) (h0 : 0 ≤ r) (h1 : r < 9) : isS (rd [0, 0, 1, 2, 4, 3, 7, 5, 6] r) = true := by
 have : r = 0 ∨ r = 1 ∨ r = 2 ∨ r = 3 ∨ r = 4 ∨ r = 5 ∨ r = 6 ∨ r = 7 ∨ r = 8 := by omega
 rcases this with rfl | rfl | rfl | rfl | rfl | rfl | rfl | rfl | rfl <;> decide
theorem label_ev {b : List Int} (hb : Code_ b) (p : Int) (hp : 0 ≤ p) (hp2 : p ≤ 999999990) :
  ∃ x y, isS x = true ∧ isS y = true ∧ Ev (fun k => spec_l71Label.f k b p) (x, y, p + 1 + 1) := by
 obtain ⟨r1, h1, a1, b1⟩ := pick_ev hb p 9 hp (by omega) (by omega) (by omega)
 obtain ⟨r2, h2, a2, b2⟩ := pick_ev hb (p + 1) 9 (by omega) (by omega) (by omega) (by omega)
 refine ⟨_, _, tab_know r1 a1 b1, tab_trust r2 a2 b2, ?_⟩
 have c1 : r1 < (([7, 7, 3, 5, 6, 1, 2, 4, 0] : List Int).length : Int) := b1
 have c2 : r2 < (([0, 0, 1, 2, 4, 3, 7, 5, 6] : List Int).length : Int) := b2
 simp only [spec_l71Label.f, Option.bind_some]
 refine Ev.bind h1 ?_
 simp only [a1, c1, if_true]
 refine Ev.bind h2 ?_
 simp only [a2, c2, if_true]
 exact Ev.all_ fun _ => rfl
end Go.Proofs.YtfcmckomagaiiaaDoor.A
namespace Go.Proofs.YtfcmckomagaiiaaDoor.A
open Go.RowKit Go.Proofs.YtfcmckomagaiiaaDoorW.PrintWords Go.Proofs.YtfcmckomagaiiaaDoorW.PrintLast Go.Proofs.YtfcmckomagaiiaaDoorW.PrintMore
theorem val_ev {b : List Int} (hb : Code_ b) (p n : Int) (hp : 0 ≤ p) (hp2 : p ≤ 900000000) (hn : 1 ≤ n) (hn2 : n ≤ 1000) :
  ∃ x y z q, Ev (fun k => spec_l71Val.f k b p n) (x, y, z, q) ∧ p ≤ q ∧ q ≤ p + 3 := by
 obtain ⟨r, h, a, c⟩ := pick_ev hb p 5 hp (by omega) (by omega) (by omega)
 by_cases h0 : r = 0
 ·obtain ⟨r1, h1, _, _⟩ := pick_ev hb (p + 1) 10 (by omega) (by omega) (by omega) (by omega)
  refine ⟨1, r1, 0, p + 1 + 1, ?_, by omega, by omega⟩
  unfold spec_l71Val.f
  refine Ev.bind h ?_
  simp only [h0, if_true]
  exact Ev.bind h1 (Ev.now _)
 ·obtain ⟨r1, h1, _, _⟩ := pick_ev hb (p + 1) n (by omega) (by omega) hn (by omega)
  obtain ⟨r2, h2, _, _⟩ := pick_ev hb (p + 1 + 1) n (by omega) (by omega) hn (by omega)
  by_cases h12 : r = 1 ∨ r = 2
  ·refine ⟨2, r1, 0, p + 1 + 1, ?_, by omega, by omega⟩
   unfold spec_l71Val.f
   refine Ev.bind h ?_
   simp only [h0, if_false]
   rcases h12 with e | e
   ·simp only [e, if_true, beq_self_eq_true]
    refine Ev.succ_ ?_
    simp only [spec_l71Val.j0, if_true]
    exact Ev.bind h1 (Ev.now _)
   ·simp only [e, show ¬ (2 : Int) = 1 by omega, if_false, beq_self_eq_true]
    refine Ev.succ_ ?_
    simp only [spec_l71Val.j0, if_true]
    exact Ev.bind h1 (Ev.now _)
  ·have n1 : ¬ r = 1 := by omega
   have n2 : (r == 2) = false := by simp; omega
   by_cases h3 : r = 3
   ·refine ⟨3, r1, r2, p + 1 + 1 + 1, ?_, by omega, by omega⟩
    unfold spec_l71Val.f
    refine Ev.bind h ?_
    simp only [h0, n1, n2, if_false]
    refine Ev.succ_ ?_
    simp only [spec_l71Val.j0, h3, Bool.false_eq_true, if_false, if_true]
    exact Ev.bind h1 (Ev.bind h2 (Ev.now _))
   ·refine ⟨4, r1, r2, p + 1 + 1 + 1, ?_, by omega, by omega⟩
    unfold spec_l71Val.f
    refine Ev.bind h ?_
    simp only [h0, n1, n2, if_false]
    refine Ev.succ_ ?_
    simp only [spec_l71Val.j0, h3, Bool.false_eq_true, if_false]
    exact Ev.bind h1 (Ev.bind h2 (Ev.now _))
theorem steps_loop {b : List Int} (hb : Code_ b) (n : Int) (hn : 1 ≤ n) (hn2 : n ≤ 1000) (deep : Int) (hd0 : 0 ≤ deep) (hd : deep ≤ 10) (B C X : Nat) (Y G : Int) (hX : X ≤ 1000000) (hG : G ≤ 800000000) (hY : Y ≤ G)
  (sub : deep > 1 → ∀ p : Int, 0 ≤ p → p ≤ G → ∃ l q, Ev (fun k => spec_l71Steps.f k b p 2 (deep - 1) n) (l, q) ∧ nTs l ≤ B ∧ p ≤ q ∧ q ≤ p + (C : Int)) :
  ∀ (c : Nat) (acc : List S71) (p : Int), c ≤ 1000 → nTs acc + c * (1 + 2 * B) ≤ X → 0 ≤ p → p + ((c * (5 + 2 * C) : Nat) : Int) ≤ Y → ∃ l q, Ev (fun k => spec_l71Steps.l0 k deep n acc (c : Int) b p) (l, q) ∧ nTs l ≤ X ∧ p ≤ q ∧ q ≤ Y := by
 intro c
 induction c with
 | zero =>
  intro acc p hc hx hp hy
  refine ⟨acc, p, Ev.succ_ (Ev.all_ fun k => ?_), by omega, by omega, by omega⟩
  simp only [spec_l71Steps.l0, show ¬ (((0 : Nat) : Int) > 0) by omega, if_false]
 | succ c ih =>
  intro acc p hc hx hp hy
  rw [Nat.succ_mul] at hx hy
  have hlen := nTs_length acc
  have g1 : ((c + 1 : Nat) : Int) > 0 := by omega
  have g2 : acc.length < 1466015503701 := by omega
  have g3 : wrap64 (((c + 1 : Nat) : Int) - 1) = ((c : Nat) : Int) := by rw [wr (by omega) (by omega)]; omega
  have g4 : wrap64 (deep - 1) = deep - 1 := wr (by omega) (by omega)
  -- one more step at hand: the rest
  have go : ∀ (s : S71) (q : Int), nTs s.f4 + nTs s.f5 ≤ 2 * B → p ≤ q → q ≤ p + ((5 + 2 * C : Nat) : Int) → ∃ l q', Ev (fun k => spec_l71Steps.l0 k deep n (acc ++ [s]) (c : Int) b q) (l, q') ∧ nTs l ≤ X ∧ p ≤ q' ∧ q' ≤ Y := by
   intro s q hs hq1 hq2
   obtain ⟨l, q', e, a1, a2, a3⟩ := ih (acc ++ [s]) q (by omega) (by rw [nTs_append, nTs_one]; omega) (by omega) (by omega)
   exact ⟨l, q', e, a1, by omega, a3⟩
  obtain ⟨r1, h1, _, _⟩ := pick_ev hb p n hp (by omega) hn (by omega)
  obtain ⟨r2, h2, b2, c2⟩ := pick_ev hb (p + 1) 5 (by omega) (by omega) (by omega) (by omega)
  have set1 : ∀ m : Int, ∃ l q', Ev (fun k => (spec_l71Val.f k b (p + 1 + 1) n).bind fun bt => spec_l71Steps.l0 k deep n (acc ++ [(⟨1, r1, (⟨bt.1, bt.2.1, bt.2.2.1⟩ : S69), m, [], []⟩ : S71)]) (c : Int) b bt.2.2.2) (l, q') ∧ nTs l ≤ X ∧ p ≤ q' ∧ q' ≤ Y := by
   intro m
   obtain ⟨x, y, z, q, e, e1, e2⟩ := val_ev hb (p + 1 + 1) n (by omega) (by omega) hn hn2
   obtain ⟨l, q', f, f1, f2, f3⟩ := go ⟨1, r1, ⟨x, y, z⟩, m, [], []⟩ q (by simp [nTs_nil]) (by omega) (by omega)
   exact ⟨l, q', Ev.bind e f, f1, f2, f3⟩
  by_cases k0 : r2 = 0
  ·obtain ⟨r3, h3, _, _⟩ := pick_ev hb (p + 1 + 1) 3 (by omega) (by omega) (by omega) (by omega)
   obtain ⟨l, q', f, f1, f2, f3⟩ := go ⟨3, r1, ⟨0, 0, 0⟩, r3, [], []⟩ (p + 1 + 1 + 1) (by simp [nTs_nil]) (by omega) (by omega)
   refine ⟨l, q', Ev.succ_ ?_, f1, f2, f3⟩
   simp only [spec_l71Steps.l0, g1, if_true]
   refine Ev.bind h1 (Ev.bind h2 ?_)
   simp only [k0, if_true]
   refine Ev.bind h3 ?_
   simp only [g2, g3, if_true]
   exact f
  ·by_cases k12 : r2 = 1 ∨ r2 = 2
   ·have jj : ∀ (l : List S71) (q' : Int), Ev (fun k => spec_l71Steps.j1 k deep n acc ((c + 1 : Nat) : Int) true b (p + 1 + 1) 1 r1 0 0 0 0) (l, q') → Ev (fun k => spec_l71Steps.l0 k deep n acc ((c + 1 : Nat) : Int) b p) (l, q') := by
     intro l q' e
     refine Ev.succ_ ?_
     simp only [spec_l71Steps.l0, g1, if_true]
     refine Ev.bind h1 (Ev.bind h2 ?_)
     rcases k12 with e1 | e1
     ·simp only [e1, show ¬ (1 : Int) = 0 by omega, if_false, if_true, beq_self_eq_true]; exact e
     ·simp only [e1, show ¬ (2 : Int) = 0 by omega, show ¬ (2 : Int) = 1 by omega, if_false, beq_self_eq_true]; exact e
    by_cases kd : deep > 1
    ·obtain ⟨l1, q1, e1, n1, m1, o1⟩ := sub kd (p + 1 + 1) (by omega) (by omega)
     obtain ⟨l2, q2, e2, n2, m2, o2⟩ := sub kd q1 (by omega) (by omega)
     obtain ⟨l, q', f, f1, f2, f3⟩ := go ⟨2, r1, ⟨0, 0, 0⟩, 0, l1, l2⟩ q2 (by simp; omega) (by omega) (by omega)
     refine ⟨l, q', jj _ _ (Ev.succ_ ?_), f1, f2, f3⟩
     simp only [spec_l71Steps.j1, kd, g4, if_true]
     refine Ev.bind e1 (Ev.bind e2 ?_)
     simp only [g2, g3, if_true]
     exact f
    ·obtain ⟨l, q', f, f1, f2, f3⟩ := set1 0
     refine ⟨l, q', jj _ _ (Ev.succ_ ?_), f1, f2, f3⟩
     simp only [spec_l71Steps.j1, kd, g2, g3, if_false, if_true]
     exact f
   ·obtain ⟨l, q', f, f1, f2, f3⟩ := set1 0
    refine ⟨l, q', Ev.succ_ ?_, f1, f2, f3⟩
    have n1 : ¬ r2 = 1 := by omega
    have n2 : (r2 == 2) = false := by simp; omega
    simp only [spec_l71Steps.l0, g1, if_true]
    refine Ev.bind h1 (Ev.bind h2 ?_)
    simp only [k0, n1, n2, if_false]
    refine Ev.succ_ ?_
    simp only [spec_l71Steps.j1, Bool.false_eq_true, g2, g3, if_false, if_true]
    exact f
theorem steps_of {b : List Int} (hb : Code_ b) (n : Int) (hn : 1 ≤ n) (hn2 : n ≤ 1000) (deep : Int) (hd0 : 0 ≤ deep) (hd : deep ≤ 10) (B C : Nat) (hB : B ≤ 1000) (hC : C ≤ 1000) (most : Nat) (hm : most ≤ 10) (G : Int) (hG : G ≤ 800000000)
  (sub : deep > 1 → ∀ p : Int, 0 ≤ p → p ≤ G → ∃ l q, Ev (fun k => spec_l71Steps.f k b p 2 (deep - 1) n) (l, q) ∧ nTs l ≤ B ∧ p ≤ q ∧ q ≤ p + (C : Int)) (p : Int) (hp : 0 ≤ p) (hp2 : p ≤ G - 30000) :
  ∃ l q, Ev (fun k => spec_l71Steps.f k b p (most : Int) deep n) (l, q) ∧ nTs l ≤ most * (1 + 2 * B) ∧ p ≤ q ∧ q ≤ p + 1 + ((most * (5 + 2 * C) : Nat) : Int) := by
 have w : wrap64 ((most : Int) + 1) = (most : Int) + 1 := wr (by omega) (by omega)
 obtain ⟨r, h, a, c⟩ := pick_ev hb p ((most : Int) + 1) hp (by omega) (by omega) (by omega)
 have hr : r = ((r.toNat : Nat) : Int) := by omega
 have hr2 : r.toNat ≤ most := by omega
 have m1 : r.toNat * (1 + 2 * B) ≤ most * (1 + 2 * B) := Nat.mul_le_mul_right _ hr2
 have m2 : r.toNat * (5 + 2 * C) ≤ most * (5 + 2 * C) := Nat.mul_le_mul_right _ hr2
 have m3 : most * (1 + 2 * B) ≤ 10 * 2001 := Nat.mul_le_mul hm (by omega)
 have m4 : most * (5 + 2 * C) ≤ 10 * 2005 := Nat.mul_le_mul hm (by omega)
 obtain ⟨l, q, e, e1, e2, e3⟩ := steps_loop hb n hn hn2 deep hd0 hd B C (most * (1 + 2 * B)) (p + 1 + ((most * (5 + 2 * C) : Nat) : Int)) G (by omega) hG (by omega) sub r.toNat [] (p + 1) (by omega) (by rw [nTs_nil]; omega) (by omega) (by omega)
 refine ⟨l, q, Ev.succ_ ?_, e1, by omega, e3⟩
 simp only [spec_l71Steps.f, w]
 refine Ev.bind h ?_
 rw [← hr] at e
 exact e
theorem steps3_ev {b : List Int} (hb : Code_ b) (n : Int) (hn : 1 ≤ n) (hn2 : n ≤ 1000) (p : Int) (hp : 0 ≤ p) (hp2 : p ≤ 500000000) :
  ∃ l q, Ev (fun k => spec_l71Steps.f k b p 4 3 n) (l, q) ∧ nTs l ≤ 84 ∧ p ≤ q ∧ q ≤ p + 461 := by
 have s1 : ∀ p : Int, 0 ≤ p → p ≤ 799970000 → ∃ l q, Ev (fun k => spec_l71Steps.f k b p 2 1 n) (l, q) ∧ nTs l ≤ 2 ∧ p ≤ q ∧ q ≤ p + ((11 : Nat) : Int) := by
  intro p hp hp2
  obtain ⟨l, q, e, e1, e2, e3⟩ := steps_of hb n hn hn2 1 (by omega) (by omega) 0 0 (by omega) (by omega) 2 (by omega) 800000000 (by omega) (fun h => absurd h (by omega)) p hp (by omega)
  exact ⟨l, q, e, by omega, e2, by omega⟩
 have s2 : ∀ p : Int, 0 ≤ p → p ≤ 799940000 → ∃ l q, Ev (fun k => spec_l71Steps.f k b p 2 2 n) (l, q) ∧ nTs l ≤ 10 ∧ p ≤ q ∧ q ≤ p + ((55 : Nat) : Int) := by
  intro p hp hp2
  obtain ⟨l, q, e, e1, e2, e3⟩ := steps_of hb n hn hn2 2 (by omega) (by omega) 2 11 (by omega) (by omega) 2 (by omega) 799970000 (by omega) (fun _ => s1) p hp (by omega)
  exact ⟨l, q, e, by omega, e2, by omega⟩
 obtain ⟨l, q, e, e1, e2, e3⟩ := steps_of hb n hn hn2 3 (by omega) (by omega) 10 55 (by omega) (by omega) 4 (by omega) 799940000 (by omega) (fun _ => s2) p hp (by omega)
 exact ⟨l, q, e, by omega, e2, by omega⟩
/-- A drawn program in form. -/
theorem prog_ev {b : List Int} (hb : Code_ b) (p : Int) (hp : 0 ≤ p) (hp2 : p ≤ 400000000) :
  ∃ L S q, Ev (fun k => spec_l71Prog.f k b p) (L, S, q) ∧ 1 ≤ L.length ∧ L.length ≤ 4 ∧ nTs S ≤ 84 ∧ p ≤ q ∧ q ≤ p + 10000 := by
 have l0 : ∀ (d i : Nat) (p : Int), i + d = 20 → 0 ≤ p → p ≤ 400000000 + 10000 - 480 * d → ∃ L S q, Ev (fun k => spec_l71Prog.l0 k (i : Int) b p) (L, S, q) ∧ 1 ≤ L.length ∧ L.length ≤ 4 ∧ nTs S ≤ 84 ∧ p ≤ q ∧ q ≤ p + 480 * d := by
  intro d
  induction d with
  | zero =>
   intro i p hi hp hp2
   refine ⟨[⟨7, 0⟩], [], p, Ev.succ_ (Ev.all_ fun k => ?_), by simp, by simp, by rw [nTs_nil]; omega, by omega, by omega⟩
   simp only [spec_l71Prog.l0, show ¬ ((i : Int) < 20) by omega, if_false]
  | succ d ih =>
   intro i p hi hp hp2
   have hw : wrap64 ((i : Int) + 1) = ((i + 1 : Nat) : Int) := by rw [wr (by omega) (by omega)]; omega
   have l1 : ∀ (c : Nat) (acc : List S43) (p' : Int), 1 ≤ acc.length + c → acc.length + c ≤ 4 → p + 1 ≤ p' → p' + 2 * c ≤ p + 1 + 8 → ∃ L S q, Ev (fun k => spec_l71Prog.l1 k (i : Int) (c : Int) b p' acc) (L, S, q) ∧ 1 ≤ L.length ∧ L.length ≤ 4 ∧ nTs S ≤ 84 ∧ p ≤ q ∧ q ≤ p + 480 * ((d + 1 : Nat) : Int) := by
    intro c
    induction c with
    | zero =>
     intro acc p' h1 h4 hq hq2
     obtain ⟨S, q, e, e1, e2, e3⟩ := steps3_ev hb (acc.length : Int) (by omega) (by omega) p' (by omega) (by omega)
     have ok := sp_progOk acc S (by omega) (by omega)
     cases hk : progB acc S with
     | true =>
      refine ⟨acc, S, q, Ev.succ_ ?_, by omega, by omega, e1, by omega, by omega⟩
      simp only [spec_l71Prog.l1, show ¬ (((0 : Nat) : Int) > 0) by omega, if_false]
      refine Ev.bind e (Ev.bind ok ?_)
      simp only [hk, if_true]
      exact Ev.now _
     | false =>
      obtain ⟨L, S', q', f, f1, f2, f3, f4, f5⟩ := ih (i + 1) q (by omega) (by omega) (by omega)
      refine ⟨L, S', q', Ev.succ_ ?_, f1, f2, f3, by omega, by omega⟩
      simp only [spec_l71Prog.l1, show ¬ (((0 : Nat) : Int) > 0) by omega, if_false]
      refine Ev.bind e (Ev.bind ok ?_)
      simp only [hk, hw, Bool.false_eq_true, if_false]
      exact f
    | succ c ihc =>
     intro acc p' h1 h4 hq hq2
     obtain ⟨x, y, _, _, e⟩ := label_ev hb p' (by omega) (by omega)
     obtain ⟨L, S, q, f, f1, f2, f3, f4, f5⟩ := ihc (acc ++ [⟨x, y⟩]) (p' + 1 + 1) (by simp; omega) (by simp; omega) (by omega) (by omega)
     refine ⟨L, S, q, Ev.succ_ ?_, f1, f2, f3, f4, f5⟩
     have g1 : ((c + 1 : Nat) : Int) > 0 := by omega
     have g2 : acc.length < 8796093022208 := by omega
     have g3 : wrap64 (((c + 1 : Nat) : Int) - 1) = ((c : Nat) : Int) := by rw [wr (by omega) (by omega)]; omega
     simp only [spec_l71Prog.l1, g1, g2, g3, if_true]
     refine Ev.bind e ?_
     exact f
   obtain ⟨r, h, a, c⟩ := pick_ev hb p 4 hp (by omega) (by omega) (by omega)
   obtain ⟨L, S, q, f, f1, f2, f3, f4, f5⟩ := l1 (1 + r.toNat) [] (p + 1) (by simp) (by simp; omega) (by omega) (by omega)
   refine ⟨L, S, q, Ev.succ_ ?_, f1, f2, f3, f4, f5⟩
   have g : wrap64 (1 + r) = ((1 + r.toNat : Nat) : Int) := by rw [wr (by omega) (by omega)]; omega
   simp only [spec_l71Prog.l0, show (i : Int) < 20 by omega, if_true]
   refine Ev.bind h ?_
   simp only [g]
   exact f
 obtain ⟨L, S, q, f, f1, f2, f3, f4, f5⟩ := l0 20 0 p (by omega) hp (by omega)
 exact ⟨L, S, q, f, f1, f2, f3, f4, by omega⟩
end Go.Proofs.YtfcmckomagaiiaaDoor.A
namespace Go.Proofs.YtfcmckomagaiiaaDoor.A
open Go.RowKit Go.Proofs.YtfcmckomagaiiaaDoorW.PrintWords Go.Proofs.YtfcmckomagaiiaaDoorW.PrintLast Go.Proofs.YtfcmckomagaiiaaDoorW.PrintMore
theorem bent_l0 {b : List Int} (p : Int) (L : List S43) : ∀ (d : Nat) (S : List S71), S.length + d = 9 ∨ d = 0 ∧ 9 ≤ S.length → nTs S + d ≤ 100000 → ∃ S', Ev (fun k => spec_l71Bent.l0 k b p L S) (L, S', p) ∧ nTs S' ≤ nTs S + d := by
 intro d
 induction d with
 | zero =>
  intro S h hn
  refine ⟨S, Ev.succ_ (Ev.all_ fun k => ?_), by omega⟩
  simp only [spec_l71Bent.l0, show ¬ ((S.length : Int) ≤ 8) by omega, if_false]
 | succ d ih =>
  intro S h hn
  obtain ⟨S', e, e1⟩ := ih (S ++ [⟨3, 0, ⟨0, 0, 0⟩, 0, [], []⟩]) (Or.inl (by simp only [List.length_append, List.length_cons, List.length_nil]; omega)) (by rw [nTs_append, nTs_one]; simp only [nTs_nil]; omega)
  rw [nTs_append, nTs_one] at e1
  simp only [nTs_nil] at e1
  refine ⟨S', Ev.succ_ ?_, by omega⟩
  have g : S.length < 1466015503701 := by have := nTs_length S; omega
  simp only [spec_l71Bent.l0, show (S.length : Int) ≤ 8 by omega, g, if_true]
  exact e
theorem bent_l1 {b : List Int} (p : Int) (L : List S43) : ∀ (d i : Nat) (S : List S71), i + d = 4 → ∃ S', Ev (fun k => spec_l71Bent.l1 k (i : Int) b p L S) (L, S', p) ∧ nTs S' ≤ nTs S + d := by
 intro d
 induction d with
 | zero =>
  intro i S h
  refine ⟨S, Ev.succ_ (Ev.all_ fun k => ?_), by omega⟩
  simp only [spec_l71Bent.l1, show ¬ ((i : Int) < 4) by omega, if_false]
 | succ d ih =>
  intro i S h
  obtain ⟨S', e, e1⟩ := ih (i + 1) [⟨2, 0, ⟨0, 0, 0⟩, 0, S, []⟩] (by omega)
  rw [nTs_one] at e1
  simp only [nTs_nil] at e1
  refine ⟨S', Ev.succ_ ?_, by omega⟩
  have g : wrap64 ((i : Int) + 1) = ((i + 1 : Nat) : Int) := by rw [wr (by omega) (by omega)]; omega
  simp only [spec_l71Bent.l1, show (i : Int) < 4 by omega, g, if_true]
  exact e
theorem bent_ev {b : List Int} (hb : Code_ b) (p : Int) (hp : 0 ≤ p) (hp2 : p ≤ 500000000) (L : List S43) (S : List S71) (h1 : 1 ≤ L.length) (h4 : L.length ≤ 4) (hS : nTs S ≤ 1000) :
  ∃ L' S' q, Ev (fun k => spec_l71Bent.f k b p L S) (L', S', q) ∧ L'.length ≤ 8 ∧ nTs S' ≤ 2000 ∧ p ≤ q ∧ q ≤ p + 10 := by
 obtain ⟨r, h, a, c⟩ := pick_ev hb p 8 hp (by omega) (by omega) (by omega)
 have g0 : ([] : List S43).length + L.length < 8796093022208 := by simp; omega
 have gS : S.length < 1466015503701 := by have := nTs_length S; omega
 have cp := copy_ev S (by omega)
 have app : ∀ s : S71, nTs s.f4 + nTs s.f5 = 0 → nTs (S ++ [s]) ≤ 2000 := by
  intro s hs
  rw [nTs_append, nTs_one]
  omega
 have start : ∀ (L' : List S43) (S' : List S71) (q : Int), Ev (fun k => (if r = 0 then (if 0 < (L.length : Int) then (some ((L.set (0 : Int).toNat (⟨8, (D43 L 0).f1⟩ : S43)), S, p + 1)) else (none)) else (if r = 1 then ((spec_l6Rd_pick.f k b (p + 1) 6).bind fun bt278 => (if S.length < 1466015503701 then (some (L, (S ++ [(⟨wrap64 (bt278.1 - 1), 0, (⟨0, 0, 0⟩ : S69), 0, [], []⟩ : S71)]), bt278.2)) else (none))) else (if r = 2 then (if S.length < 1466015503701 then (some (L, (S ++ [(⟨1, (L.length : Int), (⟨1, 0, 0⟩ : S69), 0, [], []⟩ : S71)]), p + 1)) else (none)) else (if r = 3 then ((spec_l6Rd_pick.f k b (p + 1) 6).bind fun bt289 => (if 0 ≤ bt289.1 then (if bt289.1 < (([1, 1, 2, 3, 0, 5] : List Int).length : Int) then ((spec_l6Rd_pick.f k b bt289.2 3).bind fun bt295 => (if 0 ≤ bt295.1 then (if bt295.1 < (([10, (-1), 4] : List Int).length : Int) then (if S.length < 1466015503701 then (some (L, (S ++ [(⟨1, 0, (⟨rd [1, 1, 2, 3, 0, 5] bt289.1, rd [10, (-1), 4] bt295.1, 0⟩ : S69), 0, [], []⟩ : S71)]), bt295.2)) else (none)) else (none)) else (none))) else (none)) else (none))) else (if r = 4 then (spec_l71Bent.l0 k b (p + 1) L S) else (if r = 5 then (spec_l71Bent.l1 k 0 b (p + 1) L S) else (if r = 6 then (if L.length + ([(⟨0, 0⟩ : S43), (⟨0, 0⟩ : S43), (⟨0, 0⟩ : S43), (⟨0, 0⟩ : S43)]).length < 8796093022208 then (some ((L ++ [(⟨0, 0⟩ : S43), (⟨0, 0⟩ : S43), (⟨0, 0⟩ : S43), (⟨0, 0⟩ : S43)]), S, p + 1)) else (none)) else (if S.length < 1466015503701 then (some (L, (S ++ [(⟨3, 0, (⟨0, 0, 0⟩ : S69), 3, [], []⟩ : S71)]), p + 1)) else (none)))))))))) (L', S', q) → Ev (fun k => spec_l71Bent.f k b p L S) (L', S', q) := by
  intro L' S' q e
  unfold spec_l71Bent.f
  simp only [Option.bind_some, g0, if_true, List.nil_append]
  exact Ev.bind cp (Ev.bind h e)
 by_cases c0 : r = 0
 ·refine ⟨L.set (0 : Int).toNat (⟨8, (D43 L 0).f1⟩ : S43), S, p + 1, start _ _ _ ?_, ?_, by omega, by omega, by omega⟩
  ·simp only [c0, if_true, show 0 < (L.length : Int) by omega]
   exact Ev.now _
  ·simp; omega
 by_cases c1 : r = 1
 ·obtain ⟨r2, h2, _, _⟩ := pick_ev hb (p + 1) 6 (by omega) (by omega) (by omega) (by omega)
  refine ⟨L, S ++ [⟨wrap64 (r2 - 1), 0, ⟨0, 0, 0⟩, 0, [], []⟩], p + 1 + 1, start _ _ _ ?_, by omega, app ⟨wrap64 (r2 - 1), 0, ⟨0, 0, 0⟩, 0, [], []⟩ (by simp [nTs_nil]), by omega, by omega⟩
  simp only [c1, show ¬ (1 : Int) = 0 by omega, gS, if_true, if_false]
  exact Ev.bind h2 (Ev.now _)
 by_cases c2 : r = 2
 ·refine ⟨L, S ++ [⟨1, (L.length : Int), ⟨1, 0, 0⟩, 0, [], []⟩], p + 1, start _ _ _ ?_, by omega, app ⟨1, (L.length : Int), ⟨1, 0, 0⟩, 0, [], []⟩ (by simp [nTs_nil]), by omega, by omega⟩
  simp only [c2, show ¬ (2 : Int) = 0 by omega, show ¬ (2 : Int) = 1 by omega, gS, if_true, if_false]
  exact Ev.now _
 by_cases c3 : r = 3
 ·obtain ⟨r2, h2, a2, b2⟩ := pick_ev hb (p + 1) 6 (by omega) (by omega) (by omega) (by omega)
  obtain ⟨r3, h3, a3, b3⟩ := pick_ev hb (p + 1 + 1) 3 (by omega) (by omega) (by omega) (by omega)
  refine ⟨L, S ++ [⟨1, 0, ⟨rd [1, 1, 2, 3, 0, 5] r2, rd [10, (-1), 4] r3, 0⟩, 0, [], []⟩], p + 1 + 1 + 1, start _ _ _ ?_, by omega, app ⟨1, 0, ⟨rd [1, 1, 2, 3, 0, 5] r2, rd [10, (-1), 4] r3, 0⟩, 0, [], []⟩ (by simp [nTs_nil]), by omega, by omega⟩
  have d2 : r2 < (([1, 1, 2, 3, 0, 5] : List Int).length : Int) := b2
  have d3 : r3 < (([10, (-1), 4] : List Int).length : Int) := b3
  simp only [c3, show ¬ (3 : Int) = 0 by omega, show ¬ (3 : Int) = 1 by omega, show ¬ (3 : Int) = 2 by omega, if_true, if_false]
  refine Ev.bind h2 ?_
  simp only [a2, d2, if_true]
  refine Ev.bind h3 ?_
  simp only [a3, d3, gS, if_true]
  exact Ev.now _
 by_cases c4 : r = 4
 ·by_cases hl : S.length ≤ 8
  ·obtain ⟨S', e, e1⟩ := bent_l0 (b := b) (p + 1) L (9 - S.length) S (by omega) (by omega)
   refine ⟨L, S', p + 1, start _ _ _ ?_, by omega, by omega, by omega, by omega⟩
   simp only [c4, show ¬ (4 : Int) = 0 by omega, show ¬ (4 : Int) = 1 by omega, show ¬ (4 : Int) = 2 by omega, show ¬ (4 : Int) = 3 by omega, if_true, if_false]
   exact e
  ·obtain ⟨S', e, e1⟩ := bent_l0 (b := b) (p + 1) L 0 S (by omega) (by omega)
   refine ⟨L, S', p + 1, start _ _ _ ?_, by omega, by omega, by omega, by omega⟩
   simp only [c4, show ¬ (4 : Int) = 0 by omega, show ¬ (4 : Int) = 1 by omega, show ¬ (4 : Int) = 2 by omega, show ¬ (4 : Int) = 3 by omega, if_true, if_false]
   exact e
 by_cases c5 : r = 5
 ·obtain ⟨S', e, e1⟩ := bent_l1 (b := b) (p + 1) L 4 0 S (by omega)
  refine ⟨L, S', p + 1, start _ _ _ ?_, by omega, by omega, by omega, by omega⟩
  simp only [c5, show ¬ (5 : Int) = 0 by omega, show ¬ (5 : Int) = 1 by omega, show ¬ (5 : Int) = 2 by omega, show ¬ (5 : Int) = 3 by omega, show ¬ (5 : Int) = 4 by omega, if_true, if_false]
  exact e
 by_cases c6 : r = 6
 ·have d : L.length + ([(⟨0, 0⟩ : S43), (⟨0, 0⟩ : S43), (⟨0, 0⟩ : S43), (⟨0, 0⟩ : S43)]).length < 8796093022208 := by simp; omega
  refine ⟨L ++ [⟨0, 0⟩, ⟨0, 0⟩, ⟨0, 0⟩, ⟨0, 0⟩], S, p + 1, start _ _ _ ?_, ?_, by omega, by omega, by omega⟩
  ·simp only [c6, d, if_true]
   exact Ev.now _
  ·simp; omega
 ·refine ⟨L, S ++ [⟨3, 0, ⟨0, 0, 0⟩, 3, [], []⟩], p + 1, start _ _ _ ?_, by omega, app ⟨3, 0, ⟨0, 0, 0⟩, 3, [], []⟩ (by simp [nTs_nil]), by omega, by omega⟩
  simp only [c0, c1, c2, c3, c4, c5, c6, gS, if_true, if_false]
  exact Ev.now _
end Go.Proofs.YtfcmckomagaiiaaDoor.A
