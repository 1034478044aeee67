/- Plain facts on the step with a number, for the program and for the reference. -/
import Derived.Test.YtaflodibibbakaaBx0
import Derived.Test.YtaflodibibbakaaBx11
import Derived.Test.YtaflodibibbakaaBx17
import Derived.Test.YtaflodibibbakaaCopy
import Derived.Test.YtaflodibibbakaaSizeEv
import Derived.Test.YtaflodibibbakaaTypeIm
-- uses Copy SizeEv TypeIm
namespace Go.Proofs.Ytaflodibibbakaa.B
open Go.RowKit Go.Proofs.YtaflodibibbakaaW.PrintWords Go.Proofs.YtaflodibibbakaaW.PrintLast Go.Proofs.YtaflodibibbakaaW.PrintMore
/-- Is there a step with that number? -/
def atB (L : List S60) (S : List S50) (n : Int) : Bool := progB L S && (decide (0 ≤ n) && decide (n ≤ (nTs S : Int) - 1))
/-- A step's cells, and whether there is one. -/
def outT (s : S50) (b : Bool) : Int × Int × Int × Int × Int × Int × List S50 × List S50 × Bool := (s.f0, s.f1, s.f2.f0, s.f2.f1, s.f2.f2, s.f3, s.f4, s.f5, b)
def atV (L : List S60) (S : List S50) (n : Int) : Int × Int × Int × Int × Int × Int × List S50 × List S50 × Bool := if atB L S n = true then outT (rd_T50 (alTs S) n) true else outT z50 false
theorem nTs_le {B : Nat} : ∀ l : List S50, (∀ s ∈ l, nTs [s] ≤ B) → nTs l ≤ l.length * B := by
 intro l
 induction l with
 | nil => intro _; rw [nTs_nil]; omega
 | cons s r ih =>
  intro h
  have h1 := h s (by simp)
  have h2 := ih (fun x hx => h x (List.mem_cons_of_mem _ hx))
  rw [nTs_one] at h1
  rw [nTs_cons, List.length_cons, Nat.succ_mul]
  omega
theorem alT_le : ∀ l : List S50, ∀ s ∈ alTs l, nTs [s] ≤ nTs l := by
 refine tree_ind fun l ih => ?_
 induction l with
 | nil => intro s h; rw [alTs] at h; cases h
 | cons x r ih2 =>
  intro s h
  rw [alTs, alT_eq] at h
  have e0 := nTs_cons x r
  rcases List.mem_append.1 h with h | h
  ·rcases List.mem_cons.1 h with h | h
   ·subst h; have e1 := nTs_one s; omega
   ·have i := ih x (by simp)
    rcases List.mem_append.1 h with h | h
    ·have := i.1 s h; omega
    ·have := i.2 s h; omega
  ·have := ih2 (fun y hy => ih y (List.mem_cons_of_mem _ hy)) s h
   omega
theorem alTs_small {L : List S60} {S : List S50} (h : progB L S = true) : nTs (alTs S) ≤ 64 := by
 have h8 := (progB_parts h).2.2.2
 have h1 := nTs_le (alTs S) (alT_le S)
 rw [alTs_length] at h1
 exact Nat.le_trans h1 (Nat.mul_le_mul h8 h8)
theorem sp_atV (L : List S60) (S : List S50) (n : Int) (h1 : L.length ≤ 1048576) (h2 : nTs S ≤ 1048576) : Ev (fun k => spec_ProgAt.f k L S n) (atV L S n) := by
 unfold spec_ProgAt.f
 refine Ev.bind (sp_progOk L S h1 h2) ?_
 cases hk : progB L S with
 | false =>
  simp only [Bool.false_eq_true, if_false]
  refine Ev.succ_ ?_
  simp only [spec_ProgAt.j0, if_true, atV, atB, hk, Bool.false_and, Bool.false_eq_true, if_false]
  exact Ev.now _
 | true =>
  simp only [if_true]
  refine Ev.bind (sp_count S h2) ?_
  have w1 : wrap64 ((nTs S : Int) - 1) = (nTs S : Int) - 1 := wr (by omega) (by omega)
  rw [w1, sp_in]
  simp only [Option.bind_some]
  refine Ev.succ_ ?_
  cases hn : (decide (0 ≤ n) && decide (n ≤ (nTs S : Int) - 1)) with
  | false =>
   simp only [spec_ProgAt.j0, Bool.not_false, if_true, atV, atB, hk, hn, Bool.and_false, Bool.false_eq_true, if_false]
   exact Ev.now _
  | true =>
   have hn1 : 0 ≤ n ∧ n ≤ (nTs S : Int) - 1 := by simpa using hn
   have c2 : n < ((alTs S).length : Int) := by rw [alTs_length]; omega
   simp only [spec_ProgAt.j0, Bool.not_true, Bool.false_eq_true, if_false, atV, atB, hk, hn, Bool.and_self, if_true]
   refine Ev.bind (sp_all S h2) (Ev.bind (copy_ev _ (by have := alTs_small hk; omega)) ?_)
   simp only [hn1.1, c2, if_true]
   exact Ev.now _
theorem im_atV (L : List S60) (S : List S50) (n : Int) (h1 : L.length ≤ 1048576) (h2 : nTs S ≤ 1048576) : Ev (fun k => impl_ProgAt.f k L S n) (atV L S n) := by
 unfold impl_ProgAt.f
 refine Ev.bind (im_progOk L S h1 h2) ?_
 cases hk : progB L S with
 | false =>
  simp only [Bool.false_eq_true, if_false]
  refine Ev.succ_ ?_
  simp only [impl_ProgAt.j0, if_true, atV, atB, hk, Bool.false_and, Bool.false_eq_true, if_false]
  exact Ev.now _
 | true =>
  simp only [if_true]
  refine Ev.bind (im_size S h2) ?_
  have w1 : wrap64 ((nTs S : Int) - 1) = (nTs S : Int) - 1 := wr (by omega) (by omega)
  rw [w1, im_in]
  simp only [Option.bind_some]
  refine Ev.succ_ ?_
  cases hn : (decide (0 ≤ n) && decide (n ≤ (nTs S : Int) - 1)) with
  | false =>
   simp only [impl_ProgAt.j0, Bool.not_false, if_true, atV, atB, hk, hn, Bool.and_false, Bool.false_eq_true, if_false]
   exact Ev.now _
  | true =>
   have hn1 : 0 ≤ n ∧ n ≤ (nTs S : Int) - 1 := by simpa using hn
   have c2 : n < ((alTs S).length : Int) := by rw [alTs_length]; omega
   simp only [impl_ProgAt.j0, Bool.not_true, Bool.false_eq_true, if_false, atV, atB, hk, hn, Bool.and_self, if_true]
   refine Ev.bind (im_all S h2) ?_
   simp only [hn1.1, c2, if_true, eta_st]
   have hm : rd_T50 (alTs S) n ∈ alTs S := by
    have hl : n.toNat < (alTs S).length := by omega
    simp only [rd_T50, List.getD_eq_getElem?_getD, List.getElem?_eq_getElem hl, Option.getD_some]
    exact List.getElem_mem hl
   have hs := alT_le S _ hm
   refine Ev.bind (clone_ev _ (by omega)) ?_
   exact Ev.now _
end Go.Proofs.Ytaflodibibbakaa.B
