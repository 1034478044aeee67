/- Plain facts: a program is in form, for the program and for the reference. -/
import Derived.Test.YtaflodibibbakaaBx0
import Derived.Test.YtaflodibibbakaaBx10
import Derived.Test.YtaflodibibbakaaBx12
import Derived.Test.YtaflodibibbakaaBx15
import Derived.Test.YtaflodibibbakaaStepsOk
import Derived.Test.YtaflodibibbakaaLabOk
-- uses StepsOk LabOk
namespace Go.Proofs.Ytaflodibibbakaa.B
open Go.RowKit Go.Proofs.YtaflodibibbakaaW.PrintWords Go.Proofs.YtaflodibibbakaaW.PrintLast Go.Proofs.YtaflodibibbakaaW.PrintMore
/-- A program is in form. -/
def progB (a : List S60) (b : List S50) : Bool :=
 decide (a.length ≤ 4) && (a.all (fun x => okL x.f0 x.f1) && (okTs a.length b 3 && decide (nTs b ≤ 8)))
theorem rdLab_drop {l : List S60} {n : Nat} (h : n < l.length) : l.drop n = rd_T60 l (n : Int) :: l.drop (n + 1) := by
 simp only [rd_T60, Int.toNat_natCast]
 exact drop_cons l n _ h
theorem sp_progOk (a : List S60) (b : List S50) (ha : a.length ≤ 1048576) (hb : nTs b ≤ 1048576) : Ev (fun k => spec_ProgOk.f k a b) (progB a b) := by
 unfold spec_ProgOk.f progB
 by_cases c : (a.length : Int) > 4
 ·have c' : ¬ a.length ≤ 4 := by omega
  simp only [c, c', if_true, decide_false, Bool.false_and]
  exact Ev.now _
 ·have c' : a.length ≤ 4 := by omega
  simp only [c, c', if_false, decide_true, Bool.true_and]
  have loop : ∀ (d n : Nat), n + d = a.length → Ev (fun k => spec_ProgOk.l0 k (n : Int) a b) ((a.drop n).all (fun x => okL x.f0 x.f1) && (okTs a.length b 3 && decide (nTs b ≤ 8))) := by
   intro d
   induction d with
   | zero =>
    intro n hn
    refine Ev.succ_ ?_
    have h1 : ¬ ((n : Int) < (a.length : Int)) := by omega
    simp only [spec_ProgOk.l0, h1, if_false]
    rw [List.drop_of_length_le (by omega)]
    simp only [List.all_nil, Bool.true_and]
    refine Ev.bind (sp_steps a b ha b hb 3 (by omega) (by omega)) ?_
    cases okTs a.length b 3 with
    | false => simp only [Bool.false_eq_true, if_false, Bool.false_and]; exact Ev.now _
    | true =>
     simp only [if_true, Bool.true_and]
     refine Ev.bind (sp_count b hb) ?_
     exact Ev.eq_ (Ev.now _) (by simp only [decide_eq_decide]; omega)
   | succ d ih =>
    intro n hn
    refine Ev.succ_ ?_
    have h1 : (n : Int) < (a.length : Int) := by omega
    have h2 : (0 : Int) ≤ (n : Int) := by omega
    have h4 : wrap64 ((n : Int) + 1) = ((n + 1 : Nat) : Int) := by rw [wr (by omega) (by omega)]; omega
    rw [rdLab_drop (l := a) (n := n) (by omega), List.all_cons]
    simp only [spec_ProgOk.l0, h1, h2, h4, if_true, sp_ok, Option.bind_some]
    cases okL (rd_T60 a (n : Int)).f0 (rd_T60 a (n : Int)).f1 with
    | false => simp only [Bool.false_eq_true, if_false, Bool.false_and]; exact Ev.now _
    | true => simp only [if_true, Bool.true_and]; exact ih (n + 1) (by omega)
  exact loop a.length 0 (by omega)
theorem im_contains (a : List S60) (ha : a.length ≤ 1048576) : Ev (fun k => impl_Label_70.f k a) (!a.all (fun x => okL x.f0 x.f1)) := by
 unfold impl_Label_70.f impl_Label_82.f
 have loop : ∀ (d n : Nat), n + d = a.length → ∃ r : Int, Ev (fun k => impl_Label_82.l0 k a (a.length : Int) (n : Int)) r ∧ decide (r ≥ 0) = !(a.drop n).all (fun x => okL x.f0 x.f1) := by
  intro d
  induction d with
  | zero =>
   intro n hn
   have h1 : ¬ ((n : Int) < (a.length : Int)) := by omega
   refine ⟨-1, Ev.succ_ (Ev.all_ fun k => by simp only [impl_Label_82.l0, h1, if_false]), ?_⟩
   rw [List.drop_of_length_le (by omega)]
   simp
  | succ d ih =>
   intro n hn
   have h1 : (n : Int) < (a.length : Int) := by omega
   have h2 : (0 : Int) ≤ (n : Int) := by omega
   have h4 : wrap64 ((n : Int) + 1) = ((n + 1 : Nat) : Int) := by rw [wr (by omega) (by omega)]; omega
   rw [rdLab_drop (l := a) (n := n) (by omega), List.all_cons]
   obtain ⟨r, e, hr⟩ := ih (n + 1) (by omega)
   cases hk : okL (rd_T60 a (n : Int)).f0 (rd_T60 a (n : Int)).f1 with
   | false =>
    refine ⟨(n : Int), Ev.succ_ (Ev.all_ fun k => by simp only [impl_Label_82.l0, h1, h2, if_true, impl_ProgOk_1.f, im_ok, Option.bind_some, hk, Bool.not_false]), ?_⟩
    simp
   | true =>
    refine ⟨r, Ev.succ_ ?_, by simpa using hr⟩
    simp only [impl_Label_82.l0, h1, h2, h4, if_true, impl_ProgOk_1.f, im_ok, Option.bind_some, hk, Bool.not_true, Bool.false_eq_true, if_false]
    exact e
 obtain ⟨r, e, hr⟩ := loop a.length 0 (by omega)
 exact Ev.bind e (Ev.eq_ (Ev.now _) (by simpa using hr))
theorem im_progOk (a : List S60) (b : List S50) (ha : a.length ≤ 1048576) (hb : nTs b ≤ 1048576) : Ev (fun k => impl_ProgOk.f k a b) (progB a b) := by
 unfold impl_ProgOk.f progB
 by_cases c : (a.length : Int) ≤ 4
 ·have c' : a.length ≤ 4 := by omega
  simp only [c, c', if_true, decide_true, Bool.true_and]
  refine Ev.bind (im_contains a ha) ?_
  cases a.all (fun x => okL x.f0 x.f1) with
  | false => simp only [Bool.not_false, if_true, Bool.false_and]; exact Ev.now _
  | true =>
   simp only [Bool.not_true, Bool.false_eq_true, if_false, Bool.true_and]
   refine Ev.bind (im_steps a b ha b hb 3 (by omega) (by omega)) ?_
   cases okTs a.length b 3 with
   | false => simp only [Bool.false_eq_true, if_false, Bool.false_and]; exact Ev.now _
   | true =>
    simp only [if_true, Bool.true_and]
    refine Ev.bind (im_size b hb) ?_
    exact Ev.eq_ (Ev.now _) (by simp only [decide_eq_decide]; omega)
 ·have c' : ¬ a.length ≤ 4 := by omega
  simp only [c, c', if_false, decide_false, Bool.false_and]
  exact Ev.now _
end Go.Proofs.Ytaflodibibbakaa.B
