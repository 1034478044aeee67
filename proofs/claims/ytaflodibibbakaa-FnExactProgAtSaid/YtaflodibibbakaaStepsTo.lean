/- Plain facts on steps with steps in them: their size, their copy, themselves equal to themselves. -/
import Derived.Test.YtaflodibibbakaaBx0
import Derived.Test.YtaflodibibbakaaBx2
import Derived.Test.YtaflodibibbakaaBx3
import Derived.Test.YtaflodibibbakaaBx4
import Derived.Test.YtaflodibibbakaaBx5
import Derived.Test.YtaflodibibbakaaRdS
import Derived.Test.YtaflodibibbakaaTreeL
import Derived.Test.YtaflodibibbakaaTy
-- uses RdS TreeL Ty
namespace Go.Proofs.Ytaflodibibbakaa.B
open Go.RowKit Go.Proofs.YtaflodibibbakaaW.PrintWords Go.Proofs.YtaflodibibbakaaW.PrintLast Go.Proofs.YtaflodibibbakaaW.PrintMore
/-- All slices are of a length that a machine bears. -/
def WL (l : List S79) : Prop := l.length ≤ maxLen ∧ ∀ y ∈ l, W79 y
theorem WL.sub {l : List S79} (h : WL l) {s : S79} (hs : s ∈ l) : WL s.f4 ∧ WL s.f5 := by
 cases h.2 s hs with
 | mk _ _ _ _ _ a b c d => exact ⟨⟨a, b⟩, ⟨c, d⟩⟩
theorem rdL_mem {l : List S79} {n : Nat} (h : n < l.length) : rd_T79 l (n : Int) ∈ l := by
 simp only [rd_T79, Int.toNat_natCast, List.getD_eq_getElem?_getD, List.getElem?_eq_getElem h, Option.getD_some]
 exact List.getElem_mem h
theorem rdL_drop {l : List S79} {n : Nat} (h : n < l.length) : l.drop n = rd_T79 l (n : Int) :: l.drop (n + 1) := by
 simp only [rd_T79, Int.toNat_natCast]
 exact drop_cons l n _ h
theorem szStep_ev {a b : List S79} {m : Int} (h0 : 0 ≤ m) (hm : m ≤ 1048576) (c1 c2 c3 c4 c5 c6 : Int)
  (ha : ∀ m : Int, 0 ≤ m → m ≤ 1048576 → Ev (fun k => laws_szStepS.f k a m) (szR m (nTs (cvTs a))))
  (hb : ∀ m : Int, 0 ≤ m → m ≤ 1048576 → Ev (fun k => laws_szStepS.f k b m) (szR m (nTs (cvTs b)))) :
  Ev (fun k => laws_szStep.g k (laws_szStepS.f k) c1 c2 c3 c4 c5 c6 a b m) (szR m (nTs (cvTs a) + nTs (cvTs b))) := by
 unfold laws_szStep.g
 refine Ev.bind (ha m h0 hm) ?_
 by_cases c : (nTs (cvTs a) : Int) ≤ m
 ·have e1 : szR m (nTs (cvTs a)) = m - nTs (cvTs a) := if_pos c
  have n1 : ¬ (m - (nTs (cvTs a) : Int) < 0) := by omega
  rw [e1]
  simp only [n1, if_false]
  refine Ev.bind (hb _ (by omega) (by omega)) ?_
  by_cases c' : (nTs (cvTs b) : Int) ≤ m - nTs (cvTs a)
  ·have e2 : szR (m - nTs (cvTs a)) (nTs (cvTs b)) = m - nTs (cvTs a) - nTs (cvTs b) := if_pos c'
   have e3 : szR m (nTs (cvTs a) + nTs (cvTs b)) = m - nTs (cvTs a) - nTs (cvTs b) := by unfold szR; rw [if_pos (by omega)]; omega
   have n2 : ¬ (m - (nTs (cvTs a) : Int) - nTs (cvTs b) < 0) := by omega
   rw [e2, e3]
   simp only [n2, if_false]
   exact Ev.now _
  ·have e2 : szR (m - nTs (cvTs a)) (nTs (cvTs b)) = -1 := if_neg c'
   have e3 : szR m (nTs (cvTs a) + nTs (cvTs b)) = -1 := if_neg (by omega)
   rw [e2, e3]
   exact Ev.now _
 ·have e1 : szR m (nTs (cvTs a)) = -1 := if_neg c
  have e3 : szR m (nTs (cvTs a) + nTs (cvTs b)) = -1 := if_neg (by omega)
  rw [e1, e3]
  exact Ev.now _
theorem szS_ev : ∀ l : List S79, WL l → ∀ m : Int, 0 ≤ m → m ≤ 1048576 → Ev (fun k => laws_szStepS.f k l m) (szR m (nTs (cvTs l))) := by
 refine treeL_ind fun l ih hw m h0 hm => ?_
 have hl : l.length ≤ 9223372036854775807 := by have := hw.1; unfold maxLen at this; omega
 have w1 : wrap64 (m - (l.length : Int)) = m - (l.length : Int) := wr (by omega) (by omega)
 have hlen := nTs_length (cvTs l)
 rw [cvTs_length] at hlen
 refine Ev.succ_ ?_
 simp only [laws_szStepS.f, w1]
 by_cases c : m - (l.length : Int) < 0
 ·simp only [c, if_true]
  exact Ev.eq_ (Ev.now _) (by unfold szR; rw [if_neg (by omega)])
 ·simp only [c, if_false]
  have loop : ∀ (d n : Nat) (q : Int), n + d = l.length → 0 ≤ q → q ≤ 1048576 → Ev (fun k => laws_szStepS.l0 k l q (n : Int)) (szR q (nTs (cvTs (l.drop n)) - d)) := by
   intro d
   induction d with
   | zero =>
    intro n q hn q0 q1
    refine Ev.succ_ (Ev.all_ fun k => ?_)
    have h1 : ¬ ((n : Int) < (l.length : Int)) := by omega
    simp only [laws_szStepS.l0, h1, if_false]
    rw [List.drop_of_length_le (by omega), cvTs, nTs_nil]
    unfold szR
    rw [if_pos (by simpa using q0)]
    simp
   | succ d ih2 =>
    intro n q hn q0 q1
    refine Ev.succ_ ?_
    have h1 : (n : Int) < (l.length : Int) := by omega
    have h2 : (0 : Int) ≤ (n : Int) := by omega
    have h4 : wrap64 ((n : Int) + 1) = ((n + 1 : Nat) : Int) := by rw [wr (by omega) (by omega)]; omega
    have hm := rdL_mem (l := l) (n := n) (by omega)
    have hd := rdL_drop (l := l) (n := n) (by omega)
    obtain ⟨i4, i5⟩ := ih _ hm
    obtain ⟨j4, j5⟩ := hw.sub hm
    simp only [laws_szStepS.l0, h1, h2, h4, if_true]
    refine Ev.bind (szStep_ev q0 q1 _ _ _ _ _ _ (i4 j4) (i5 j5)) ?_
    have hr := nTs_length (cvTs (l.drop (n + 1)))
    rw [cvTs_length, List.length_drop] at hr
    have hc : nTs (cvTs (l.drop n)) = 1 + (nTs (cvTs (rd_T79 l (n : Int)).f4) + nTs (cvTs (rd_T79 l (n : Int)).f5)) + nTs (cvTs (l.drop (n + 1))) := by
     rw [hd, cvTs, nTs_cons, cvT_eq]
    rw [hc]
    generalize nTs (cvTs (rd_T79 l (n : Int)).f4) + nTs (cvTs (rd_T79 l (n : Int)).f5) = x
    by_cases c' : (x : Int) ≤ q
    ·have e1 : szR q x = q - x := if_pos c'
     have n1 : ¬ (q - (x : Int) < 0) := by omega
     rw [e1]
     simp only [n1, if_false]
     refine Ev.eq_ (ih2 (n + 1) (q - x) (by omega) (by omega) (by omega)) ?_
     unfold szR
     by_cases c2 : ((nTs (cvTs (l.drop (n + 1))) - d : Nat) : Int) ≤ q - x
     ·rw [if_pos c2, if_pos (by omega)]; omega
     ·rw [if_neg c2, if_neg (by omega)]
    ·have e1 : szR q x = -1 := if_neg c'
     rw [e1]
     exact Ev.eq_ (Ev.now _) (by unfold szR; rw [if_neg (by omega)])
  refine Ev.eq_ (loop l.length 0 _ (by omega) (by omega) (by omega)) ?_
  rw [List.drop_zero]
  unfold szR
  by_cases c2 : ((nTs (cvTs l) - l.length : Nat) : Int) ≤ m - l.length
  ·rw [if_pos c2, if_pos (by omega)]; omega
  ·rw [if_neg c2, if_neg (by omega)]
theorem toSteps_ev : ∀ l : List S79, nTs (cvTs l) ≤ 1048576 → Ev (fun k => laws_toStepS.f k l) (cvTs l) := by
 refine treeL_ind fun l ih hl => ?_
 have hlen := nTs_length (cvTs l)
 rw [cvTs_length] at hlen
 have hsub : ∀ s ∈ l, nTs (cvTs s.f4) ≤ 1048576 ∧ nTs (cvTs s.f5) ≤ 1048576 := by
  intro s hs
  have hm : cvT s ∈ cvTs l := by rw [cvTs_map]; exact List.mem_map_of_mem hs
  have := nTs_mem hm
  rw [cvT_eq] at this
  simp only at this
  exact ⟨by omega, by omega⟩
 have loop : ∀ (d n : Nat) (acc : List S50), n + d = l.length → acc.length = l.length → acc.take n = (cvTs l).take n → Ev (fun k => laws_toStepS.l0 k l acc (n : Int)) (cvTs l) := by
  intro d
  induction d with
  | zero =>
   intro n acc hn ha ht
   refine Ev.succ_ (Ev.all_ fun k => ?_)
   have h1 : ¬ ((n : Int) < (l.length : Int)) := by omega
   simp only [laws_toStepS.l0, h1, if_false]
   rw [List.take_of_length_le (by omega), List.take_of_length_le (by rw [cvTs_length]; omega)] at ht
   rw [ht]
  | succ d ih2 =>
   intro n acc hn ha ht
   refine Ev.succ_ ?_
   have h1 : (n : Int) < (l.length : Int) := by omega
   have h2 : (0 : Int) ≤ (n : Int) := by omega
   have h3 : (n : Int) < (acc.length : Int) := by omega
   have h4 : wrap64 ((n : Int) + 1) = ((n + 1 : Nat) : Int) := by rw [wr (by omega) (by omega)]; omega
   have hm := rdL_mem (l := l) (n := n) (by omega)
   obtain ⟨i4, i5⟩ := ih _ hm
   obtain ⟨j4, j5⟩ := hsub _ hm
   simp only [laws_toStepS.l0, h1, h2, h4, if_true]
   refine Ev.bind (a := ((rd_T79 l n).f0, (rd_T79 l n).f1, (rd_T79 l n).f2.f0, (rd_T79 l n).f2.f1, (rd_T79 l n).f2.f2, (rd_T79 l n).f3, cvTs (rd_T79 l n).f4, cvTs (rd_T79 l n).f5)) ?_ ?_
   ·simp only [laws_toStep.g, laws_toVal.f, Option.bind_some]
    exact Ev.bind (i4 j4) (Ev.bind (i5 j5) (Ev.now _))
   ·simp only [h3, if_true, Int.toNat_natCast]
    refine ih2 (n + 1) _ (by omega) (by simpa using ha) ?_
    have hn1 : n < acc.length := by omega
    have hn2 : n < l.length := by omega
    rw [List.take_succ_eq_append_getElem (by simpa using hn1), List.take_succ_eq_append_getElem (by rw [cvTs_length]; exact hn2), List.take_set_of_le (Nat.le_refl _), ht]
    simp [cvTs_map, rd_T79, List.getD_eq_getElem?_getD, List.getElem?_eq_getElem hn2, cvT_eq, cvVal]
 refine Ev.succ_ ?_
 have h1 : (0 : Int) ≤ (l.length : Int) := by omega
 have h2 : l.length ≤ 2932031007402 := by omega
 simp only [laws_toStepS.f, h1, h2, Int.toNat_natCast, if_true]
 exact loop l.length 0 _ (by omega) (by simp) (by simp)
theorem eqSteps_ev : ∀ l : List S50, nTs l ≤ 1048576 → Ev (fun k => laws_eqStepS.f k l l) true := by
 refine tree_ind fun l ih hl => ?_
 have hlen := nTs_length l
 have loop : ∀ (d n : Nat), n + d = l.length → Ev (fun k => laws_eqStepS.l0 k l l (n : Int)) true := by
  intro d
  induction d with
  | zero =>
   intro n hn
   refine Ev.succ_ (Ev.all_ fun k => ?_)
   have h1 : ¬ ((n : Int) < (l.length : Int)) := by omega
   simp only [laws_eqStepS.l0, h1, if_false]
  | succ d ih2 =>
   intro n hn
   refine Ev.succ_ ?_
   have h1 : (n : Int) < (l.length : Int) := by omega
   have h2 : (0 : Int) ≤ (n : Int) := by omega
   have h4 : wrap64 ((n : Int) + 1) = ((n + 1 : Nat) : Int) := by rw [wr (by omega) (by omega)]; omega
   have hm := rdS_mem (l := l) (n := n) (by omega)
   obtain ⟨i4, i5⟩ := ih _ hm
   have hs := nTs_mem hm
   simp only [laws_eqStepS.l0, h1, h2, h4, if_true]
   refine Ev.bind (a := true) ?_ ?_
   ·simp only [laws_eqStep.g, laws_eqVal.f, Option.bind_some, if_true]
    refine Ev.bind (i4 (by omega)) ?_
    simp only [if_true]
    refine Ev.bind (i5 (by omega)) ?_
    simp only [if_true]
    exact Ev.now _
   ·simp only [if_true]
    exact ih2 (n + 1) (by omega)
 refine Ev.succ_ ?_
 simp only [laws_eqStepS.f, if_true]
 exact loop l.length 0 (by omega)
end Go.Proofs.Ytaflodibibbakaa.B
