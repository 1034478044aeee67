/- The law FnProgAt: steps are counted as they stand, for the program and the number that every code draws; codes of more than 1048576 bytes are asked nothing. -/
import Derived.Test.YtkkdeojbkfjlpaaBx0
import Derived.Test.YtkkdeojbkfjlpaaBx19
import Derived.Test.YtkkdeojbkfjlpaaBx26
import Derived.Test.YtkkdeojbkfjlpaaBx27
import Derived.Test.YtkkdeojbkfjlpaaStmFnProgAt
import Derived.Test.YtkkdeojbkfjlpaaME
import Derived.Test.YtkkdeojbkfjlpaaMD
-- uses StmFnProgAt AtEv OkEv LcEv
namespace Go.Proofs.Ytkkdeojbkfjlpaa.Pure
open Go.RowKit Go.Proofs.YtkkdeojbkfjlpaaW.PrintWords Go.Proofs.YtkkdeojbkfjlpaaW.PrintLast Go.Proofs.YtkkdeojbkfjlpaaW.PrintMore Go.Proofs.Ytkkdeojbkfjlpaa.B
theorem rd_head (x : S40) (r : List S40) : D40 (x :: r) 0 = x := rfl
theorem rd_tail (x : S40) (r : List S40) {n : Int} (h : 1 ≤ n) : D40 (x :: r) n = D40 r (n - 1) := by
 obtain ⟨m, rfl⟩ : ∃ m : Nat, n = ((m + 1 : Nat) : Int) := ⟨(n - 1).toNat, by omega⟩
 have e : ((m + 1 : Nat) : Int) - 1 = (m : Int) := by omega
 rw [e]
 simp only [D40, Int.toNat_natCast, List.getD_cons_succ]
theorem rd_left (a b : List S40) {n : Int} (h0 : 0 ≤ n) (h : n < a.length) : D40 (a ++ b) n = D40 a n := by
 obtain ⟨m, rfl⟩ : ∃ m : Nat, n = (m : Int) := ⟨n.toNat, by omega⟩
 simp only [D40, Int.toNat_natCast, List.getD_eq_getElem?_getD]
 rw [List.getElem?_append_left (by omega)]
theorem rd_right (a b : List S40) {n : Int} (h : (a.length : Int) ≤ n) : D40 (a ++ b) n = D40 b (n - a.length) := by
 obtain ⟨m, rfl⟩ : ∃ m : Nat, n = (m : Int) := ⟨n.toNat, by omega⟩
 have e : ((m : Int) - (a.length : Int)).toNat = m - a.length := by omega
 simp only [D40, Int.toNat_natCast, List.getD_eq_getElem?_getD, e]
 rw [List.getElem?_append_right (by omega)]
theorem prog_iff {L : List S35} {S : List S40} : progB L S = true ↔ L.length ≤ 4 ∧ L.all (fun x => okL x.f0 x.f1) = true ∧ okTs L.length S 3 = true ∧ nTs S ≤ 8 := by
 unfold progB
 rw [Bool.and_eq_true, Bool.and_eq_true, Bool.and_eq_true, decide_eq_true_eq, decide_eq_true_eq]
theorem prog_in {L : List S35} {x : S40} {r : List S40} (h : progB L (x :: r) = true) : progB L (x.f4 ++ x.f5) = true := by
 obtain ⟨a, b, c, d⟩ := prog_iff.1 h
 obtain ⟨c4, c5⟩ := okT_sub (okTs_mem c List.mem_cons_self)
 have e := nTs_mem (s := x) (l := x :: r) List.mem_cons_self
 exact prog_iff.2 ⟨a, b, by rw [okTs_append, c4, c5]; rfl, by rw [nTs_append]; omega⟩
theorem lc_self (s : S40) (h : nTs [s] ≤ 1048576) : Ev (fun k => laws_lcSteps.f k [(⟨s.f0, s.f1, (⟨s.f2.f0, s.f2.f1, s.f2.f2⟩ : S38), s.f3, s.f4, s.f5⟩ : S40)] [s]) true := by
 rw [eta_s]
 exact Ev.eq_ (lc_ev [s] h [s]) (same_yes rfl)
theorem at_end (L : List S35) (S0 : List S40) (x : S40) (r : List S40) (n : Int) (hp : progB L (x :: r) = true) (h0 : 0 ≤ n) (h1 : n < (nTs [x] : Int)) (s : S40) (hs : s = D40 (alTs (x :: r)) n) :
  Ev (fun k => laws_FnProgAt.j2 k n (x :: r) L S0 s.f0 s.f1 s.f2.f0 s.f2.f1 s.f2.f2 s.f3 s.f4 s.f5) true := by
 have hn := (progB_parts hp).2.2.2
 have hc := nTs_cons x r
 have ho := nTs_one x
 refine Ev.succ_ ?_
 have l1 : (1 : Int) ≤ ((x :: r).length : Int) := by rw [List.length_cons]; omega
 have l0 : (0 : Int) < ((x :: r).length : Int) := by omega
 have e : alTs (x :: r) = x :: (alTs (x.f4 ++ x.f5) ++ alTs r) := by rw [alTs, alT_eq, alTs_append]; simp
 rw [e] at hs
 by_cases c : n = 0
 ·subst c
  rw [rd_head] at hs
  subst hs
  simp only [laws_FnProgAt.j2, l1, if_true, List.take_succ_cons, List.take_zero]
  exact Ev.bind (lc_self s (by omega)) (Ev.now _)
 ·have p := prog_in hp
  have n4 := nTs_length x.f4
  have n5 := nTs_length x.f5
  have c1 : ([] : List S40).length + x.f4.length < 1466015503701 := by rw [List.length_nil]; omega
  have c2 : ([] ++ x.f4 : List S40).length + x.f5.length < 1466015503701 := by rw [List.nil_append]; omega
  have w1 : wrap64 (n - 1) = n - 1 := wr (by omega) (by omega)
  have ha := nTs_append x.f4 x.f5
  rw [rd_tail _ _ (by omega), rd_left _ _ (by omega) (by rw [alTs_length, ha]; omega)] at hs
  have hb : atB L (x.f4 ++ x.f5) (n - 1) = true := by
   unfold atB
   rw [p, decide_eq_true (show 0 ≤ n - 1 by omega), decide_eq_true (show n - 1 ≤ (nTs (x.f4 ++ x.f5) : Int) - 1 by rw [ha]; omega)]
   rfl
  have iv := im_atV L (x.f4 ++ x.f5) (n - 1) (by have := (progB_parts hp).1; omega) (by rw [ha]; omega)
  rw [atV, if_pos hb, ← hs, outT] at iv
  have sm : nTs [s] ≤ 1048576 := by
   have hm : s ∈ alTs (x.f4 ++ x.f5) := by
    rw [hs]
    obtain ⟨m, hm⟩ : ∃ m : Nat, n - 1 = (m : Int) := ⟨(n - 1).toNat, by omega⟩
    rw [hm]
    exact rdS_mem (by rw [alTs_length, ha]; omega)
   have := alT_le _ s hm
   rw [ha] at this
   omega
  simp only [laws_FnProgAt.j2, c, l0, rd_head, if_true, if_false, Option.bind_some, c1, c2, w1]
  rw [List.nil_append]
  refine Ev.bind iv ?_
  simp only [if_true]
  simp only [eta_s]
  exact Ev.bind (Ev.eq_ (lc_ev [s] sm [s]) (same_yes rfl)) (Ev.now _)
theorem at_loop (L : List S35) (S0 : List S40) (s : S40) : ∀ (rest : List S40) (n : Int), progB L rest = true → 0 ≤ n → n < (nTs rest : Int) → s = D40 (alTs rest) n →
  Ev (fun k => laws_FnProgAt.l0 k n rest L S0 s.f0 s.f1 s.f2.f0 s.f2.f1 s.f2.f2 s.f3 s.f4 s.f5) true := by
 intro rest
 induction rest with
 | nil => intro n _ h0 h1 _; rw [nTs_nil] at h1; omega
 | cons x r ih =>
  intro n hp h0 h1 hs
  have hn := (progB_parts hp).2.2.2
  have h4 := (progB_parts hp).1
  have hc := nTs_cons x r
  have ho := nTs_one x
  obtain ⟨px, pr⟩ := prog_part (a := [x]) (b := r) hp
  refine Ev.succ_ ?_
  have l1 : (1 : Int) ≤ ((x :: r).length : Int) := by rw [List.length_cons]; omega
  have l0 : ((x :: r).length : Int) > 0 := by omega
  simp only [laws_FnProgAt.l0, l1, l0, if_true, List.take_succ_cons, List.take_zero, List.drop_succ_cons, List.drop_zero]
  refine Ev.bind (Ev.eq_ (im_sizeP L [x] (by omega) (by omega)) (sizeP_ok px)) ?_
  by_cases c : n < (nTs [x] : Int)
  ·simp only [c, if_true]
   exact at_end L S0 x r n hp h0 c s hs
  ·have w1 : wrap64 (n - (nTs [x] : Int)) = n - (nTs [x] : Int) := wr (by omega) (by omega)
   simp only [c, if_false, w1]
   refine ih (n - (nTs [x] : Int)) pr (by omega) (by omega) ?_
   have e : alTs (x :: r) = alTs [x] ++ alTs r := alTs_append [x] r
   have ln := alTs_length [x]
   rw [hs, e, rd_right _ _ (by rw [ln]; omega), ln]
theorem FnProgAt : laws_FnProgAt.Stm := by
 intro l w
 refine Ev.rounds ?_
 have hl : ∀ x ∈ l, 0 ≤ x ∧ x ≤ 255 := fun x hx => u8_of (w.2 x hx)
 unfold laws_FnProgAt.f
 by_cases c : (l.length : Int) > 1048576
 ·simp only [c, if_true]
  exact Ev.now _
 simp only [c, if_false]
 obtain ⟨b, hb, h0⟩ := open_ev hl
 obtain ⟨L, S, q, e, e1, e2, e3, e4⟩ := any_ev hb 0 (by omega) (by omega)
 have hz : -1 ≤ sizeP L S ∧ sizeP L S ≤ 2000 := by
  unfold sizeP
  split <;> omega
 have w3 : wrap64 (sizeP L S + 3) = sizeP L S + 3 := wr (by omega) (by omega)
 obtain ⟨r, h, _, _⟩ := pick_ev hb q (sizeP L S + 3) (by omega) (by omega) (by omega) (by omega)
 have ed : Ev (fun k => spec_DrawProgAt.f k l) (L, S, wrap64 (r - 1)) := by
  unfold spec_DrawProgAt.f
  rw [h0]
  simp only [Option.bind_some]
  refine Ev.bind e (Ev.bind (sp_sizeP L S (by omega) (by omega)) ?_)
  simp only [w3]
  exact Ev.bind h (Ev.now _)
 generalize wrap64 (r - 1) = n at ed
 refine Ev.bind ed (Ev.bind (sp_atV L S n (by omega) (by omega)) (Ev.bind (im_atV L S n (by omega) (by omega)) ?_))
 simp only [bne_self_eq_false, Bool.false_eq_true, if_false]
 cases hk : atB L S n with
 | false =>
  have hz' : nTs [z40] ≤ 1048576 := by decide
  have ev : Ev (fun k => laws_lcSteps.f k [(⟨z40.f0, z40.f1, (⟨z40.f2.f0, z40.f2.f1, z40.f2.f2⟩ : S38), z40.f3, z40.f4, z40.f5⟩ : S40)] [(⟨z40.f0, z40.f1, (⟨z40.f2.f0, z40.f2.f1, z40.f2.f2⟩ : S38), z40.f3, z40.f4, z40.f5⟩ : S40)]) true := lc_self z40 hz'
  simp only [atV, hk, Bool.false_eq_true, if_false, outT]
  refine Ev.bind ev ?_
  simp only [if_true, Bool.not_false]
  refine Ev.succ_ ?_
  simp only [laws_FnProgAt.j0, if_true, beq_self_eq_true]
  exact Ev.bind ev (Ev.now _)
 | true =>
  have hk' := hk
  unfold atB at hk'
  rw [Bool.and_eq_true, Bool.and_eq_true, decide_eq_true_eq, decide_eq_true_eq] at hk'
  obtain ⟨hp, n0, n1⟩ := hk'
  obtain ⟨s, hs⟩ : ∃ s, s = D40 (alTs S) n := ⟨_, rfl⟩
  have sm : nTs [s] ≤ 1048576 := by
   have hm : s ∈ alTs S := by
    rw [hs]
    obtain ⟨m, hm⟩ : ∃ m : Nat, n = (m : Int) := ⟨n.toNat, by omega⟩
    rw [hm]
    exact rdS_mem (by rw [alTs_length]; omega)
   have := alT_le _ s hm
   omega
  simp only [atV, hk, if_true, outT, ← hs]
  simp only [eta_s]
  have ev := Ev.eq_ (lc_ev [s] sm [s]) (same_yes rfl)
  refine Ev.bind ev ?_
  simp only [if_true, Bool.not_true]
  refine Ev.succ_ ?_
  simp only [laws_FnProgAt.j0, Bool.false_eq_true, if_false]
  by_cases d : n = 0
  ·subst d
   cases S with
   | nil => rw [nTs_nil] at n1; omega
   | cons x r =>
    have l1 : (1 : Int) ≤ ((x :: r).length : Int) := by rw [List.length_cons]; omega
    rw [alTs, alT_eq, List.cons_append, rd_head] at hs
    subst hs
    simp only [l1, if_true, List.take_succ_cons, List.take_zero, eta_s]
    exact Ev.bind ev (Ev.now _)
  ·simp only [d, if_false]
   exact at_loop L S s S n hp n0 (by omega) hs
end Go.Proofs.Ytkkdeojbkfjlpaa.Pure
