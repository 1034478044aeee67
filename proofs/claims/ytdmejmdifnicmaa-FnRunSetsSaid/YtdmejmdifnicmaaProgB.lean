/- Plain facts: a program is in form, for the program and for the reference. -/
import Derived.Test.YtdmejmdifnicmaaAx0
import Derived.Test.YtdmejmdifnicmaaAx11
import Derived.Test.YtdmejmdifnicmaaStepsOk
import Derived.Test.YtdmejmdifnicmaaLabOk
-- uses StepsOk LabOk
namespace Go.Proofs.Ytdmejmdifnicmaa.A
open Go.RowKit Go.Proofs.YtdmejmdifnicmaaW.PrintWords Go.Proofs.YtdmejmdifnicmaaW.PrintLast Go.Proofs.YtdmejmdifnicmaaW.PrintMore
/-- A program is in form. -/
def progB (a : List S57) (b : List S66) : Bool :=
  decide (a.length ≤ 4) && (a.all (fun x => okL x.f0 x.f1) && (okTs a.length b 3 && decide (nTs b ≤ 8)))
theorem rdLab_drop {l : List S57} {n : Nat} (h : n < l.length) : l.drop n = rd_T57 l (n : Int) :: l.drop (n + 1) := by
  simp only [rd_T57, Int.toNat_natCast]
  exact drop_cons l n _ h
theorem sp_progOk (a : List S57) (b : List S66) (ha : a.length ≤ 1048576) (hb : nTs b ≤ 1048576) : Ev (fun k => spec_ProgOk.f k a b) (progB a b) := by
  unfold spec_ProgOk.f progB
  by_cases c : (a.length : Int) > 4
  · have c' : ¬ a.length ≤ 4 := by omega
    simp only [c, c', if_true, decide_false, Bool.false_and]
    exact Ev.now _
  · have c' : a.length ≤ 4 := by omega
    simp only [c, c', if_false, decide_true, Bool.true_and]
    have loop : ∀ (d n : Nat), n + d = a.length → Ev (fun k => spec_ProgOk.l0 k (n : Int) a b) ((a.drop n).all (fun x => okL x.f0 x.f1) && (okTs a.length b 3 && decide (nTs b ≤ 8))) := by
      intro d
      induction d with
      | zero =>
        intro n hn
        refine Ev.succ_ ?_
        have h1 : ¬ ((n : Int) < (a.length : Int)) := by omega
        simp only [spec_ProgOk.l0, h1, if_false]
        rw [List.drop_of_length_le (by omega)]
        simp only [List.all_nil, Bool.true_and]
        refine Ev.bind (sp_steps a b ha b hb 3 (by omega) (by omega)) ?_
        cases okTs a.length b 3 with
        | false => simp only [Bool.false_eq_true, if_false, Bool.false_and]; exact Ev.now _
        | true =>
          simp only [if_true, Bool.true_and]
          refine Ev.bind (sp_count b hb) ?_
          exact Ev.eq_ (Ev.now _) (by simp only [decide_eq_decide]; omega)
      | succ d ih =>
        intro n hn
        refine Ev.succ_ ?_
        have h1 : (n : Int) < (a.length : Int) := by omega
        have h2 : (0 : Int) ≤ (n : Int) := by omega
        have h4 : wrap64 ((n : Int) + 1) = ((n + 1 : Nat) : Int) := by rw [wr (by omega) (by omega)]; omega
        rw [rdLab_drop (l := a) (n := n) (by omega), List.all_cons]
        simp only [spec_ProgOk.l0, h1, h2, h4, if_true, sp_ok, Option.bind_some]
        cases okL (rd_T57 a (n : Int)).f0 (rd_T57 a (n : Int)).f1 with
        | false => simp only [Bool.false_eq_true, if_false, Bool.false_and]; exact Ev.now _
        | true => simp only [if_true, Bool.true_and]; exact ih (n + 1) (by omega)
    exact loop a.length 0 (by omega)
end Go.Proofs.Ytdmejmdifnicmaa.A
