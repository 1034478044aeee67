/- Plain facts on what the functions compute, several texts in one: see wip/pure. -/
import Derived.Test.YtkkdeojbkfjlpaaBx0
import Derived.Test.YtkkdeojbkfjlpaaBx19
import Derived.Test.YtkkdeojbkfjlpaaBx25
import Derived.Test.YtkkdeojbkfjlpaaMA
import Derived.Test.YtkkdeojbkfjlpaaMD
import Derived.Test.YtkkdeojbkfjlpaaMC
import Derived.Test.YtkkdeojbkfjlpaaBx26
namespace Go.Proofs.Ytkkdeojbkfjlpaa.B
open Go.RowKit Go.Proofs.YtkkdeojbkfjlpaaW.PrintWords Go.Proofs.YtkkdeojbkfjlpaaW.PrintLast Go.Proofs.YtkkdeojbkfjlpaaW.PrintMore
/-- Is there a step with that number? -/
def atB (L : List S35) (S : List S40) (n : Int) : Bool := progB L S && (decide (0 ≤ n) && decide (n ≤ (nTs S : Int) - 1))
/-- A step's cells, and whether there is one. -/
def outT (s : S40) (b : Bool) : Int × Int × Int × Int × Int × Int × List S40 × List S40 × Bool := (s.f0, s.f1, s.f2.f0, s.f2.f1, s.f2.f2, s.f3, s.f4, s.f5, b)
def atV (L : List S35) (S : List S40) (n : Int) : Int × Int × Int × Int × Int × Int × List S40 × List S40 × Bool := if atB L S n = true then outT (D40 (alTs S) n) true else outT z40 false
theorem nTs_le {B : Nat} : ∀ l : List S40, (∀ s ∈ l, nTs [s] ≤ B) → nTs l ≤ l.length * B := by
 intro l
 induction l with
 | nil => intro _; rw [nTs_nil]; omega
 | cons s r ih =>
  intro h
  have h1 := h s (by simp)
  have h2 := ih (fun x hx => h x (List.mem_cons_of_mem _ hx))
  rw [nTs_one] at h1
  rw [nTs_cons, List.length_cons, Nat.succ_mul]
  omega
theorem alT_le : ∀ l : List S40, ∀ s ∈ alTs l, nTs [s] ≤ nTs l := by
 refine tree_ind fun l ih => ?_
 induction l with
 | nil => intro s h; rw [alTs] at h; cases h
 | cons x r ih2 =>
  intro s h
  rw [alTs, alT_eq] at h
  have e0 := nTs_cons x r
  rcases List.mem_append.1 h with h | h
  ·rcases List.mem_cons.1 h with h | h
   ·subst h; have e1 := nTs_one s; omega
   ·have i := ih x (by simp)
    rcases List.mem_append.1 h with h | h
    ·have := i.1 s h; omega
    ·have := i.2 s h; omega
  ·have := ih2 (fun y hy => ih y (List.mem_cons_of_mem _ hy)) s h
   omega
theorem alTs_small {L : List S35} {S : List S40} (h : progB L S = true) : nTs (alTs S) ≤ 64 := by
 have h8 := (progB_parts h).2.2.2
 have h1 := nTs_le (alTs S) (alT_le S)
 rw [alTs_length] at h1
 exact Nat.le_trans h1 (Nat.mul_le_mul h8 h8)
theorem sp_atV (L : List S35) (S : List S40) (n : Int) (h1 : L.length ≤ 1048576) (h2 : nTs S ≤ 1048576) : Ev (fun k => spec_ProgAt.f k L S n) (atV L S n) := by
 unfold spec_ProgAt.f
 refine Ev.bind (sp_progOk L S h1 h2) ?_
 cases hk : progB L S with
 | false =>
  simp only [Bool.false_eq_true, if_false]
  refine Ev.succ_ ?_
  simp only [spec_ProgAt.j0, if_true, atV, atB, hk, Bool.false_and, Bool.false_eq_true, if_false]
  exact Ev.now _
 | true =>
  simp only [if_true]
  refine Ev.bind (sp_count S h2) ?_
  have w1 : wrap64 ((nTs S : Int) - 1) = (nTs S : Int) - 1 := wr (by omega) (by omega)
  rw [w1, sp_in]
  simp only [Option.bind_some]
  refine Ev.succ_ ?_
  cases hn : (decide (0 ≤ n) && decide (n ≤ (nTs S : Int) - 1)) with
  | false =>
   simp only [spec_ProgAt.j0, Bool.not_false, if_true, atV, atB, hk, hn, Bool.and_false, Bool.false_eq_true, if_false]
   exact Ev.now _
  | true =>
   have hn1 : 0 ≤ n ∧ n ≤ (nTs S : Int) - 1 := by simpa using hn
   have c2 : n < ((alTs S).length : Int) := by rw [alTs_length]; omega
   simp only [spec_ProgAt.j0, Bool.not_true, Bool.false_eq_true, if_false, atV, atB, hk, hn, Bool.and_self, if_true]
   refine Ev.bind (sp_all S h2) (Ev.bind (copy_ev _ (by have := alTs_small hk; omega)) ?_)
   simp only [hn1.1, c2, if_true]
   exact Ev.now _
theorem im_atV (L : List S35) (S : List S40) (n : Int) (h1 : L.length ≤ 1048576) (h2 : nTs S ≤ 1048576) : Ev (fun k => impl_ProgAt.f k L S n) (atV L S n) := by
 unfold impl_ProgAt.f
 refine Ev.bind (im_progOk L S h1 h2) ?_
 cases hk : progB L S with
 | false =>
  simp only [Bool.false_eq_true, if_false]
  refine Ev.succ_ ?_
  simp only [impl_ProgAt.j0, if_true, atV, atB, hk, Bool.false_and, Bool.false_eq_true, if_false]
  exact Ev.now _
 | true =>
  simp only [if_true]
  refine Ev.bind (im_size S h2) ?_
  have w1 : wrap64 ((nTs S : Int) - 1) = (nTs S : Int) - 1 := wr (by omega) (by omega)
  rw [w1, im_in]
  simp only [Option.bind_some]
  refine Ev.succ_ ?_
  cases hn : (decide (0 ≤ n) && decide (n ≤ (nTs S : Int) - 1)) with
  | false =>
   simp only [impl_ProgAt.j0, Bool.not_false, if_true, atV, atB, hk, hn, Bool.and_false, Bool.false_eq_true, if_false]
   exact Ev.now _
  | true =>
   have hn1 : 0 ≤ n ∧ n ≤ (nTs S : Int) - 1 := by simpa using hn
   have c2 : n < ((alTs S).length : Int) := by rw [alTs_length]; omega
   simp only [impl_ProgAt.j0, Bool.not_true, Bool.false_eq_true, if_false, atV, atB, hk, hn, Bool.and_self, if_true]
   refine Ev.bind (im_all S h2) ?_
   simp only [hn1.1, c2, if_true, eta_st]
   have hm : D40 (alTs S) n ∈ alTs S := by
    have hl : n.toNat < (alTs S).length := by omega
    simp only [D40, List.getD_eq_getElem?_getD, List.getElem?_eq_getElem hl, Option.getD_some]
    exact List.getElem_mem hl
   have hs := alT_le S _ hm
   refine Ev.bind (clone_ev _ (by omega)) ?_
   exact Ev.now _
end Go.Proofs.Ytkkdeojbkfjlpaa.B
namespace Go.Proofs.Ytkkdeojbkfjlpaa.B
open Go.RowKit Go.Proofs.YtkkdeojbkfjlpaaW.PrintWords Go.Proofs.YtkkdeojbkfjlpaaW.PrintLast Go.Proofs.YtkkdeojbkfjlpaaW.PrintMore
/-- Are the two the same? -/
noncomputable def same {α : Type} (a b : α) : Bool := @decide (a = b) (Classical.propDecidable _)
theorem same_yes {α : Type} {a b : α} (h : a = b) : same a b = true := @decide_eq_true _ (Classical.propDecidable _) h
theorem same_no {α : Type} {a b : α} (h : ¬ a = b) : same a b = false := @decide_eq_false _ (Classical.propDecidable _) h
theorem step_ext {s t : S40} (h0 : s.f0 = t.f0) (h1 : s.f1 = t.f1) (h2 : s.f2 = t.f2) (h3 : s.f3 = t.f3) (h4 : s.f4 = t.f4) (h5 : s.f5 = t.f5) : s = t := by
 cases s; cases t
 simp only at h0 h1 h2 h3 h4 h5
 subst h0 h1 h2 h3 h4 h5
 rfl
theorem val_ext {s t : S38} (h : (!(s.f0 == t.f0) || (!(s.f1 == t.f1) || !(s.f2 == t.f2))) = false) : s = t := by
 simp only [Bool.or_eq_false_iff, Bool.not_eq_false', beq_iff_eq] at h
 cases s; cases t
 simp only at h
 obtain ⟨rfl, rfl, rfl⟩ := h
 rfl
theorem val_self (s : S38) : (!(s.f0 == s.f0) || (!(s.f1 == s.f1) || !(s.f2 == s.f2))) = false := by simp
theorem lc_ev : ∀ a : List S40, nTs a ≤ 1048576 → ∀ b : List S40, Ev (fun k => laws_lcSteps.f k a b) (same a b) := by
 refine tree_ind fun a ih ha b => ?_
 have hlen := nTs_length a
 refine Ev.succ_ ?_
 simp only [laws_lcSteps.f]
 by_cases hl : (a.length : Int) = (b.length : Int)
 case neg =>
  simp only [hl, if_false]
  exact Ev.eq_ (Ev.now _) (same_no (fun e => hl (by rw [e]))).symm
 simp only [hl, if_true]
 have loop : ∀ (d i : Nat), i + d = a.length → Ev (fun k => laws_lcSteps.l0 k a b (i : Int)) (same (a.drop i) (b.drop i)) := by
  intro d
  induction d with
  | zero =>
   intro i hi
   refine Ev.succ_ (Ev.all_ fun k => ?_)
   have h1 : ¬ ((i : Int) < (a.length : Int)) := by omega
   simp only [laws_lcSteps.l0, h1, if_false]
   rw [same_yes]
   rw [List.drop_of_length_le (by omega), List.drop_of_length_le (by omega)]
  | succ d ih2 =>
   intro i hi
   refine Ev.succ_ ?_
   have h1 : (i : Int) < (a.length : Int) := by omega
   have h2 : (0 : Int) ≤ (i : Int) := by omega
   have h3 : (i : Int) < (b.length : Int) := by omega
   have h4 : wrap64 ((i : Int) + 1) = ((i + 1 : Nat) : Int) := by rw [wr (by omega) (by omega)]; omega
   have hm := rdS_mem (l := a) (n := i) (by omega)
   have hs := nTs_mem hm
   obtain ⟨i4, i5⟩ := ih _ hm
   have next := ih2 (i + 1) (by omega)
   rw [rdS_drop (l := a) (n := i) (by omega), rdS_drop (l := b) (n := i) (by omega)]
   simp only [laws_lcSteps.l0, h1, h2, h3, h4, if_true]
   generalize D40 a (i : Int) = s at *
   generalize D40 b (i : Int) = t at *
   have no : ∀ {p : Prop}, (s = t → p) → ¬ p → same (s :: a.drop (i + 1)) (t :: b.drop (i + 1)) = false := fun h c => same_no (fun e => c (h (by injection e)))
   by_cases c0 : s.f0 = t.f0
   case neg => simp only [c0, if_false]; exact Ev.eq_ (Ev.now _) (no (fun e => by rw [e]) c0).symm
   by_cases c1 : s.f1 = t.f1
   case neg => simp only [c0, c1, if_true, if_false]; exact Ev.eq_ (Ev.now _) (no (fun e => by rw [e]) c1).symm
   cases c2 : (!(s.f2.f0 == t.f2.f0) || (!(s.f2.f1 == t.f2.f1) || !(s.f2.f2 == t.f2.f2))) with
   | true =>
    simp only [c0, c1, if_true]
    exact Ev.eq_ (Ev.now _) (no (p := s.f2 = t.f2) (fun e => by rw [e]) (fun e => by rw [e, val_self] at c2; cases c2)).symm
   | false =>
   have e2 := val_ext c2
   by_cases c3 : s.f3 = t.f3
   case neg => simp only [c0, c1, c3, Bool.false_eq_true, if_true, if_false]; exact Ev.eq_ (Ev.now _) (no (fun e => by rw [e]) c3).symm
   simp only [c0, c1, c3, Bool.false_eq_true, if_true, if_false]
   refine Ev.bind (i4 (by omega) t.f4) ?_
   by_cases c4 : s.f4 = t.f4
   case neg => simp only [same_no c4, Bool.false_eq_true, if_false]; exact Ev.eq_ (Ev.now _) (no (fun e => by rw [e]) c4).symm
   simp only [same_yes c4, if_true]
   refine Ev.bind (i5 (by omega) t.f5) ?_
   by_cases c5 : s.f5 = t.f5
   case neg => simp only [same_no c5, Bool.false_eq_true, if_false]; exact Ev.eq_ (Ev.now _) (no (fun e => by rw [e]) c5).symm
   simp only [same_yes c5, if_true]
   refine Ev.eq_ next ?_
   rw [step_ext c0 c1 e2 c3 c4 c5]
   by_cases c6 : a.drop (i + 1) = b.drop (i + 1)
   ·rw [same_yes c6, same_yes (by rw [c6])]
   ·rw [same_no c6, same_no (fun e => c6 (by injection e))]
 have := loop a.length 0 (by omega)
 rw [List.drop_zero, List.drop_zero] at this
 exact this
end Go.Proofs.Ytkkdeojbkfjlpaa.B
