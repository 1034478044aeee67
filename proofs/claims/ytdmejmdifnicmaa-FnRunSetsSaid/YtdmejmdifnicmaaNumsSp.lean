/- Plain facts: numbers are in form, for the reference. -/
import Derived.Test.YtdmejmdifnicmaaAx0
import Derived.Test.YtdmejmdifnicmaaAx13
import Derived.Test.YtdmejmdifnicmaaProgB
-- uses ProgB
namespace Go.Proofs.Ytdmejmdifnicmaa.A
open Go.RowKit Go.Proofs.YtdmejmdifnicmaaW.PrintWords Go.Proofs.YtdmejmdifnicmaaW.PrintLast Go.Proofs.YtdmejmdifnicmaaW.PrintMore
theorem rdI_drop {l : List Int} {n : Nat} (h : n < l.length) : l.drop n = rd l (n : Int) :: l.drop (n + 1) := by
  simp only [rd, Int.toNat_natCast]
  exact drop_cons l n _ h
def numB (x : Int) : Bool := decide (0 ≤ x) && decide (x ≤ 9)
theorem sp_numsOk (a : List S57) (b : List S66) (l : List Int) (ha : a.length ≤ 1048576) (hb : nTs b ≤ 1048576) (hl : l.length ≤ 1048576) :
    Ev (fun k => spec_NumsOk.f k a b l) (l.all numB && (progB a b && decide (l.length = a.length))) := by
  have loop : ∀ (d n : Nat), n + d = l.length → Ev (fun k => spec_NumsOk.l0 k l (n : Int)) ((l.drop n).all numB) := by
    intro d
    induction d with
    | zero =>
      intro n hn
      refine Ev.succ_ (Ev.all_ fun k => ?_)
      have h1 : ¬ ((n : Int) < (l.length : Int)) := by omega
      simp only [spec_NumsOk.l0, h1, if_false]
      rw [List.drop_of_length_le (by omega)]
      rfl
    | succ d ih =>
      intro n hn
      refine Ev.succ_ ?_
      have h1 : (n : Int) < (l.length : Int) := by omega
      have h2 : (0 : Int) ≤ (n : Int) := by omega
      have h4 : wrap64 ((n : Int) + 1) = ((n + 1 : Nat) : Int) := by rw [wr (by omega) (by omega)]; omega
      rw [rdI_drop (l := l) (n := n) (by omega), List.all_cons]
      simp only [spec_NumsOk.l0, h1, h2, h4, if_true, sp_in, Option.bind_some]
      have e : (decide (0 ≤ rd l (n : Int)) && decide (rd l (n : Int) ≤ 9)) = numB (rd l (n : Int)) := rfl
      rw [e]
      cases numB (rd l (n : Int)) with
      | false => simp only [Bool.false_eq_true, if_false, Bool.false_and]; exact Ev.now _
      | true => simp only [if_true, Bool.true_and]; exact ih (n + 1) (by omega)
  have l0 := loop l.length 0 (by omega)
  rw [List.drop_zero] at l0
  unfold spec_NumsOk.f
  refine Ev.bind (sp_progOk a b ha hb) ?_
  cases progB a b with
  | false =>
    simp only [Bool.false_eq_true, if_false, Bool.false_and, Bool.and_false]
    refine Ev.succ_ (Ev.all_ fun k => ?_)
    simp only [spec_NumsOk.j0, if_true]
  | true =>
    simp only [if_true, Bool.true_and]
    refine Ev.succ_ ?_
    by_cases c : l.length = a.length
    · simp only [spec_NumsOk.j0, c, bne_self_eq_false, Bool.false_eq_true, if_false, decide_true, Bool.and_true]
      exact l0
    · have : ((l.length : Int) != (a.length : Int)) = true := by simp; omega
      simp only [spec_NumsOk.j0, this, if_true, c, decide_false, Bool.and_false]
      exact Ev.now _
end Go.Proofs.Ytdmejmdifnicmaa.A
