/- The law FnExactNumsOk: NumsOk of the program is the reference's, for all arguments; without conditions. -/
import Derived.Test.YtcffnnedghgmaaaAx0
import Derived.Test.YtcffnnedghgmaaaAx3
import Derived.Test.YtcffnnedghgmaaaAx27
import Derived.Test.YtcffnnedghgmaaaAx28
import Derived.Test.YtcffnnedghgmaaaAx30
import Derived.Test.YtcffnnedghgmaaaStmFnExactNumsOk
import Derived.Test.YtcffnnedghgmaaaProgAll
import Derived.Test.YtcffnnedghgmaaaIntS
-- uses StmFnExactNumsOk ProgAll IntS
namespace Go.Proofs.Ytcffnnedghgmaaa.Pure
open Go.RowKit Go.Proofs.YtcffnnedghgmaaaW.PrintWords Go.Proofs.YtcffnnedghgmaaaW.PrintLast Go.Proofs.YtcffnnedghgmaaaW.PrintMore Go.Proofs.Ytcffnnedghgmaaa.A
theorem rdI_drop {l : List Int} {n : Nat} (h : n < l.length) : l.drop n = rd l (n : Int) :: l.drop (n + 1) := by
  simp only [rd, Int.toNat_natCast]
  exact drop_cons l n _ h
def numB (x : Int) : Bool := decide (0 ≤ x) && decide (x ≤ 9)
theorem sp_numsOk (a : List S35) (b : List S59) (l : List Int) (ha : a.length ≤ 1048576) (hb : nTs b ≤ 1048576) (hl : l.length ≤ 1048576) :
    Ev (fun k => spec_NumsOk.f k a b l) (l.all numB && (progB a b && decide (l.length = a.length))) := by
  have loop : ∀ (d n : Nat), n + d = l.length → Ev (fun k => spec_NumsOk.l0 k l (n : Int)) ((l.drop n).all numB) := by
    intro d
    induction d with
    | zero =>
      intro n hn
      refine Ev.succ_ (Ev.all_ fun k => ?_)
      have h1 : ¬ ((n : Int) < (l.length : Int)) := by omega
      simp only [spec_NumsOk.l0, h1, if_false]
      rw [List.drop_of_length_le (by omega)]
      rfl
    | succ d ih =>
      intro n hn
      refine Ev.succ_ ?_
      have h1 : (n : Int) < (l.length : Int) := by omega
      have h2 : (0 : Int) ≤ (n : Int) := by omega
      have h4 : wrap64 ((n : Int) + 1) = ((n + 1 : Nat) : Int) := by rw [wr (by omega) (by omega)]; omega
      rw [rdI_drop (l := l) (n := n) (by omega), List.all_cons]
      simp only [spec_NumsOk.l0, h1, h2, h4, if_true, sp_in, Option.bind_some]
      have e : (decide (0 ≤ rd l (n : Int)) && decide (rd l (n : Int) ≤ 9)) = numB (rd l (n : Int)) := rfl
      rw [e]
      cases numB (rd l (n : Int)) with
      | false => simp only [Bool.false_eq_true, if_false, Bool.false_and]; exact Ev.now _
      | true => simp only [if_true, Bool.true_and]; exact ih (n + 1) (by omega)
  have l0 := loop l.length 0 (by omega)
  rw [List.drop_zero] at l0
  unfold spec_NumsOk.f
  refine Ev.bind (sp_progOk a b ha hb) ?_
  cases progB a b with
  | false =>
    simp only [Bool.false_eq_true, if_false, Bool.false_and, Bool.and_false]
    refine Ev.succ_ (Ev.all_ fun k => ?_)
    simp only [spec_NumsOk.j0, if_true]
  | true =>
    simp only [if_true, Bool.true_and]
    refine Ev.succ_ ?_
    by_cases c : l.length = a.length
    · simp only [spec_NumsOk.j0, c, bne_self_eq_false, Bool.false_eq_true, if_false, decide_true, Bool.and_true]
      exact l0
    · have : ((l.length : Int) != (a.length : Int)) = true := by simp; omega
      simp only [spec_NumsOk.j0, this, if_true, c, decide_false, Bool.and_false]
      exact Ev.now _
theorem im_numsOk (a : List S35) (b : List S59) (l : List Int) (ha : a.length ≤ 1048576) (hb : nTs b ≤ 1048576) (hl : l.length ≤ 1048576) :
    Ev (fun k => impl_NumsOk.f k a b l) (l.all numB && (progB a b && decide (l.length = a.length))) := by
  have loop : ∀ (d n : Nat), n + d = l.length → Ev (fun k => impl_NumsOk.l0 k l l (l.length : Int) (n : Int) a b) ((l.drop n).all numB && (progB a b && decide (l.length = a.length))) := by
    intro d
    induction d with
    | zero =>
      intro n hn
      refine Ev.succ_ ?_
      have h1 : ¬ ((n : Int) < (l.length : Int)) := by omega
      simp only [impl_NumsOk.l0, h1, if_false]
      rw [List.drop_of_length_le (by omega)]
      simp only [List.all_nil, Bool.true_and]
      refine Ev.bind (im_progOk a b ha hb) ?_
      cases progB a b with
      | false => simp only [Bool.false_eq_true, if_false, Bool.false_and]; exact Ev.now _
      | true =>
        simp only [if_true, Bool.true_and]
        refine Ev.eq_ (Ev.now _) ?_
        by_cases c : l.length = a.length
        · simp [c]
        · have : ¬ (l.length : Int) = (a.length : Int) := by omega
          simp [c, this]
    | succ d ih =>
      intro n hn
      refine Ev.succ_ ?_
      have h1 : (n : Int) < (l.length : Int) := by omega
      have h2 : (0 : Int) ≤ (n : Int) := by omega
      have h4 : wrap64 ((n : Int) + 1) = ((n + 1 : Nat) : Int) := by rw [wr (by omega) (by omega)]; omega
      rw [rdI_drop (l := l) (n := n) (by omega), List.all_cons]
      simp only [impl_NumsOk.l0, h1, h2, h4, if_true, impl_isNum.f, im_in, Option.bind_some]
      have e : (decide (0 ≤ rd l (n : Int)) && decide (rd l (n : Int) ≤ 9)) = numB (rd l (n : Int)) := rfl
      rw [e]
      cases numB (rd l (n : Int)) with
      | false => simp only [Bool.false_eq_true, if_false, Bool.false_and]; exact Ev.now _
      | true => simp only [if_true, Bool.true_and]; exact ih (n + 1) (by omega)
  unfold impl_NumsOk.f
  simpa using loop l.length 0 (by omega)
theorem FnExactNumsOk : laws_FnExactNumsOk.Stm := by
  intro a b l w1 w2 _
  refine Ev.rounds ?_
  unfold laws_FnExactNumsOk.f
  by_cases c : (l.length : Int) > 1048576
  · simp only [c, if_true]
    exact Ev.now _
  simp only [c, if_false]
  have hl : l.length ≤ 1048576 := by omega
  rcases szProg_ev a b w1.1 w2 with hs | ⟨r, hr, hs, l1, l2⟩
  · refine Ev.bind hs ?_
    simp only [show (-1 : Int) < 0 by omega, if_true]
    exact Ev.now _
  · refine Ev.bind hs ?_
    have n1 : ¬ r < 0 := by omega
    simp only [n1, if_false]
    have tp := toProg_ev a b l1 l2
    have ti := toIntS_ev l (by omega)
    have l1' : (a.map cvLabel).length ≤ 1048576 := by simpa using l1
    refine Ev.bind tp (Ev.bind ti (Ev.bind (sp_numsOk _ _ _ l1' l2 hl) (Ev.bind tp (Ev.bind ti (Ev.bind (im_numsOk _ _ _ l1' l2 hl) ?_)))))
    simp only [bne_self_eq_false, Bool.false_eq_true, if_false]
    refine Ev.bind tp (Ev.bind (eqProg_ev _ _ l1' l2) ?_)
    simp only [if_true]
    refine Ev.bind ti (Ev.bind (eqIntS_ev _ (by omega)) ?_)
    simp only [if_true]
    exact Ev.now _
end Go.Proofs.Ytcffnnedghgmaaa.Pure
