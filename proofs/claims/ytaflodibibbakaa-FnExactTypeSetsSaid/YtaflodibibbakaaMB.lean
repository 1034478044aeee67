/- Plain facts on what the functions compute, several texts in one: see wip/pure. -/
import Derived.Test.YtaflodibibbakaaAx0
import Derived.Test.YtaflodibibbakaaAx2
import Derived.Test.YtaflodibibbakaaAx5
import Derived.Test.YtaflodibibbakaaAx6
import Derived.Test.YtaflodibibbakaaAx11
import Derived.Test.YtaflodibibbakaaAx12
import Derived.Test.YtaflodibibbakaaMA
import Derived.Test.YtaflodibibbakaaTy
import Derived.Test.YtaflodibibbakaaAx3
import Derived.Test.YtaflodibibbakaaAx4
import Derived.Test.YtaflodibibbakaaAx7
import Derived.Test.YtaflodibibbakaaAx8
import Derived.Test.YtaflodibibbakaaAx9
import Derived.Test.YtaflodibibbakaaAx10
import Derived.Test.YtaflodibibbakaaAx13
namespace Go.Proofs.Ytaflodibibbakaa.A
open Go.RowKit Go.Proofs.YtaflodibibbakaaW.PrintWords Go.Proofs.YtaflodibibbakaaW.PrintLast Go.Proofs.YtaflodibibbakaaW.PrintMore
/-- All slices are of a length that a machine bears. -/
def WL (l : List S79) : Prop := l.length ≤ maxLen ∧ ∀ y ∈ l, W79 y
theorem WL.sub {l : List S79} (h : WL l) {s : S79} (hs : s ∈ l) : WL s.f4 ∧ WL s.f5 := by
 cases h.2 s hs with
 | mk _ _ _ _ _ a b c d => exact ⟨⟨a, b⟩, ⟨c, d⟩⟩
theorem rdL_mem {l : List S79} {n : Nat} (h : n < l.length) : rd_T79 l (n : Int) ∈ l := by
 simp only [rd_T79, Int.toNat_natCast, List.getD_eq_getElem?_getD, List.getElem?_eq_getElem h, Option.getD_some]
 exact List.getElem_mem h
theorem rdL_drop {l : List S79} {n : Nat} (h : n < l.length) : l.drop n = rd_T79 l (n : Int) :: l.drop (n + 1) := by
 simp only [rd_T79, Int.toNat_natCast]
 exact drop_cons l n _ h
theorem szStep_ev {a b : List S79} {m : Int} (h0 : 0 ≤ m) (hm : m ≤ 1048576) (c1 c2 c3 c4 c5 c6 : Int)
  (ha : ∀ m : Int, 0 ≤ m → m ≤ 1048576 → Ev (fun k => laws_szStepS.f k a m) (szR m (nTs (cvTs a))))
  (hb : ∀ m : Int, 0 ≤ m → m ≤ 1048576 → Ev (fun k => laws_szStepS.f k b m) (szR m (nTs (cvTs b)))) :
  Ev (fun k => laws_szStep.g k (laws_szStepS.f k) c1 c2 c3 c4 c5 c6 a b m) (szR m (nTs (cvTs a) + nTs (cvTs b))) := by
 unfold laws_szStep.g
 refine Ev.bind (ha m h0 hm) ?_
 by_cases c : (nTs (cvTs a) : Int) ≤ m
 ·have e1 : szR m (nTs (cvTs a)) = m - nTs (cvTs a) := if_pos c
  have n1 : ¬ (m - (nTs (cvTs a) : Int) < 0) := by omega
  rw [e1]
  simp only [n1, if_false]
  refine Ev.bind (hb _ (by omega) (by omega)) ?_
  by_cases c' : (nTs (cvTs b) : Int) ≤ m - nTs (cvTs a)
  ·have e2 : szR (m - nTs (cvTs a)) (nTs (cvTs b)) = m - nTs (cvTs a) - nTs (cvTs b) := if_pos c'
   have e3 : szR m (nTs (cvTs a) + nTs (cvTs b)) = m - nTs (cvTs a) - nTs (cvTs b) := by unfold szR; rw [if_pos (by omega)]; omega
   have n2 : ¬ (m - (nTs (cvTs a) : Int) - nTs (cvTs b) < 0) := by omega
   rw [e2, e3]
   simp only [n2, if_false]
   exact Ev.now _
  ·have e2 : szR (m - nTs (cvTs a)) (nTs (cvTs b)) = -1 := if_neg c'
   have e3 : szR m (nTs (cvTs a) + nTs (cvTs b)) = -1 := if_neg (by omega)
   rw [e2, e3]
   exact Ev.now _
 ·have e1 : szR m (nTs (cvTs a)) = -1 := if_neg c
  have e3 : szR m (nTs (cvTs a) + nTs (cvTs b)) = -1 := if_neg (by omega)
  rw [e1, e3]
  exact Ev.now _
theorem szS_ev : ∀ l : List S79, WL l → ∀ m : Int, 0 ≤ m → m ≤ 1048576 → Ev (fun k => laws_szStepS.f k l m) (szR m (nTs (cvTs l))) := by
 refine treeL_ind fun l ih hw m h0 hm => ?_
 have hl : l.length ≤ 9223372036854775807 := by have := hw.1; unfold maxLen at this; omega
 have w1 : wrap64 (m - (l.length : Int)) = m - (l.length : Int) := wr (by omega) (by omega)
 have hlen := nTs_length (cvTs l)
 rw [cvTs_length] at hlen
 refine Ev.succ_ ?_
 simp only [laws_szStepS.f, w1]
 by_cases c : m - (l.length : Int) < 0
 ·simp only [c, if_true]
  exact Ev.eq_ (Ev.now _) (by unfold szR; rw [if_neg (by omega)])
 ·simp only [c, if_false]
  have loop : ∀ (d n : Nat) (q : Int), n + d = l.length → 0 ≤ q → q ≤ 1048576 → Ev (fun k => laws_szStepS.l0 k l q (n : Int)) (szR q (nTs (cvTs (l.drop n)) - d)) := by
   intro d
   induction d with
   | zero =>
    intro n q hn q0 q1
    refine Ev.succ_ (Ev.all_ fun k => ?_)
    have h1 : ¬ ((n : Int) < (l.length : Int)) := by omega
    simp only [laws_szStepS.l0, h1, if_false]
    rw [List.drop_of_length_le (by omega), cvTs, nTs_nil]
    unfold szR
    rw [if_pos (by simpa using q0)]
    simp
   | succ d ih2 =>
    intro n q hn q0 q1
    refine Ev.succ_ ?_
    have h1 : (n : Int) < (l.length : Int) := by omega
    have h2 : (0 : Int) ≤ (n : Int) := by omega
    have h4 : wrap64 ((n : Int) + 1) = ((n + 1 : Nat) : Int) := by rw [wr (by omega) (by omega)]; omega
    have hm := rdL_mem (l := l) (n := n) (by omega)
    have hd := rdL_drop (l := l) (n := n) (by omega)
    obtain ⟨i4, i5⟩ := ih _ hm
    obtain ⟨j4, j5⟩ := hw.sub hm
    simp only [laws_szStepS.l0, h1, h2, h4, if_true]
    refine Ev.bind (szStep_ev q0 q1 _ _ _ _ _ _ (i4 j4) (i5 j5)) ?_
    have hr := nTs_length (cvTs (l.drop (n + 1)))
    rw [cvTs_length, List.length_drop] at hr
    have hc : nTs (cvTs (l.drop n)) = 1 + (nTs (cvTs (rd_T79 l (n : Int)).f4) + nTs (cvTs (rd_T79 l (n : Int)).f5)) + nTs (cvTs (l.drop (n + 1))) := by
     rw [hd, cvTs, nTs_cons, cvT_eq]
    rw [hc]
    generalize nTs (cvTs (rd_T79 l (n : Int)).f4) + nTs (cvTs (rd_T79 l (n : Int)).f5) = x
    by_cases c' : (x : Int) ≤ q
    ·have e1 : szR q x = q - x := if_pos c'
     have n1 : ¬ (q - (x : Int) < 0) := by omega
     rw [e1]
     simp only [n1, if_false]
     refine Ev.eq_ (ih2 (n + 1) (q - x) (by omega) (by omega) (by omega)) ?_
     unfold szR
     by_cases c2 : ((nTs (cvTs (l.drop (n + 1))) - d : Nat) : Int) ≤ q - x
     ·rw [if_pos c2, if_pos (by omega)]; omega
     ·rw [if_neg c2, if_neg (by omega)]
    ·have e1 : szR q x = -1 := if_neg c'
     rw [e1]
     exact Ev.eq_ (Ev.now _) (by unfold szR; rw [if_neg (by omega)])
  refine Ev.eq_ (loop l.length 0 _ (by omega) (by omega) (by omega)) ?_
  rw [List.drop_zero]
  unfold szR
  by_cases c2 : ((nTs (cvTs l) - l.length : Nat) : Int) ≤ m - l.length
  ·rw [if_pos c2, if_pos (by omega)]; omega
  ·rw [if_neg c2, if_neg (by omega)]
theorem toSteps_ev : ∀ l : List S79, nTs (cvTs l) ≤ 1048576 → Ev (fun k => laws_toStepS.f k l) (cvTs l) := by
 refine treeL_ind fun l ih hl => ?_
 have hlen := nTs_length (cvTs l)
 rw [cvTs_length] at hlen
 have hsub : ∀ s ∈ l, nTs (cvTs s.f4) ≤ 1048576 ∧ nTs (cvTs s.f5) ≤ 1048576 := by
  intro s hs
  have hm : cvT s ∈ cvTs l := by rw [cvTs_map]; exact List.mem_map_of_mem hs
  have := nTs_mem hm
  rw [cvT_eq] at this
  simp only at this
  exact ⟨by omega, by omega⟩
 have loop : ∀ (d n : Nat) (acc : List S50), n + d = l.length → acc.length = l.length → acc.take n = (cvTs l).take n → Ev (fun k => laws_toStepS.l0 k l acc (n : Int)) (cvTs l) := by
  intro d
  induction d with
  | zero =>
   intro n acc hn ha ht
   refine Ev.succ_ (Ev.all_ fun k => ?_)
   have h1 : ¬ ((n : Int) < (l.length : Int)) := by omega
   simp only [laws_toStepS.l0, h1, if_false]
   rw [List.take_of_length_le (by omega), List.take_of_length_le (by rw [cvTs_length]; omega)] at ht
   rw [ht]
  | succ d ih2 =>
   intro n acc hn ha ht
   refine Ev.succ_ ?_
   have h1 : (n : Int) < (l.length : Int) := by omega
   have h2 : (0 : Int) ≤ (n : Int) := by omega
   have h3 : (n : Int) < (acc.length : Int) := by omega
   have h4 : wrap64 ((n : Int) + 1) = ((n + 1 : Nat) : Int) := by rw [wr (by omega) (by omega)]; omega
   have hm := rdL_mem (l := l) (n := n) (by omega)
   obtain ⟨i4, i5⟩ := ih _ hm
   obtain ⟨j4, j5⟩ := hsub _ hm
   simp only [laws_toStepS.l0, h1, h2, h4, if_true]
   refine Ev.bind (a := ((rd_T79 l n).f0, (rd_T79 l n).f1, (rd_T79 l n).f2.f0, (rd_T79 l n).f2.f1, (rd_T79 l n).f2.f2, (rd_T79 l n).f3, cvTs (rd_T79 l n).f4, cvTs (rd_T79 l n).f5)) ?_ ?_
   ·simp only [laws_toStep.g, laws_toVal.f, Option.bind_some]
    exact Ev.bind (i4 j4) (Ev.bind (i5 j5) (Ev.now _))
   ·simp only [h3, if_true, Int.toNat_natCast]
    refine ih2 (n + 1) _ (by omega) (by simpa using ha) ?_
    have hn1 : n < acc.length := by omega
    have hn2 : n < l.length := by omega
    rw [List.take_succ_eq_append_getElem (by simpa using hn1), List.take_succ_eq_append_getElem (by rw [cvTs_length]; exact hn2), List.take_set_of_le (Nat.le_refl _), ht]
    simp [cvTs_map, rd_T79, List.getD_eq_getElem?_getD, List.getElem?_eq_getElem hn2, cvT_eq, cvVal]
 refine Ev.succ_ ?_
 have h1 : (0 : Int) ≤ (l.length : Int) := by omega
 have h2 : l.length ≤ 2932031007402 := by omega
 simp only [laws_toStepS.f, h1, h2, Int.toNat_natCast, if_true]
 exact loop l.length 0 _ (by omega) (by simp) (by simp)
theorem eqSteps_ev : ∀ l : List S50, nTs l ≤ 1048576 → Ev (fun k => laws_eqStepS.f k l l) true := by
 refine tree_ind fun l ih hl => ?_
 have hlen := nTs_length l
 have loop : ∀ (d n : Nat), n + d = l.length → Ev (fun k => laws_eqStepS.l0 k l l (n : Int)) true := by
  intro d
  induction d with
  | zero =>
   intro n hn
   refine Ev.succ_ (Ev.all_ fun k => ?_)
   have h1 : ¬ ((n : Int) < (l.length : Int)) := by omega
   simp only [laws_eqStepS.l0, h1, if_false]
  | succ d ih2 =>
   intro n hn
   refine Ev.succ_ ?_
   have h1 : (n : Int) < (l.length : Int) := by omega
   have h2 : (0 : Int) ≤ (n : Int) := by omega
   have h4 : wrap64 ((n : Int) + 1) = ((n + 1 : Nat) : Int) := by rw [wr (by omega) (by omega)]; omega
   have hm := rdS_mem (l := l) (n := n) (by omega)
   obtain ⟨i4, i5⟩ := ih _ hm
   have hs := nTs_mem hm
   simp only [laws_eqStepS.l0, h1, h2, h4, if_true]
   refine Ev.bind (a := true) ?_ ?_
   ·simp only [laws_eqStep.g, laws_eqVal.f, Option.bind_some, if_true]
    refine Ev.bind (i4 (by omega)) ?_
    simp only [if_true]
    refine Ev.bind (i5 (by omega)) ?_
    simp only [if_true]
    exact Ev.now _
   ·simp only [if_true]
    exact ih2 (n + 1) (by omega)
 refine Ev.succ_ ?_
 simp only [laws_eqStepS.f, if_true]
 exact loop l.length 0 (by omega)
end Go.Proofs.Ytaflodibibbakaa.A
namespace Go.Proofs.Ytaflodibibbakaa.A
open Go.RowKit Go.Proofs.YtaflodibibbakaaW.PrintWords Go.Proofs.YtaflodibibbakaaW.PrintLast Go.Proofs.YtaflodibibbakaaW.PrintMore
theorem okT_eq (n : Int) (s : S50) (d : Int) : okT n s d = (decide (1 ≤ d) && (varB n s.f1 &&
     (if s.f0 = 1 then valB n s.f2 && (s.f3 == 0 && (s.f4.isEmpty && s.f5.isEmpty))
      else if s.f0 = 3 then (s.f2.f0 == 0 && (s.f2.f1 == 0 && s.f2.f2 == 0)) && (hostB s.f3 && (s.f4.isEmpty && s.f5.isEmpty))
      else if s.f0 = 2 then (s.f2.f0 == 0 && (s.f2.f1 == 0 && s.f2.f2 == 0)) && (s.f3 == 0 && (okTs n s.f4 (d - 1) && okTs n s.f5 (d - 1))) else false))) := by
  cases s; rw [okT]
theorem sp_in (n a b : Int) : spec_l6In.f n a b = some (decide (a ≤ n) && decide (n ≤ b)) := by
  unfold spec_l6In.f
  by_cases h : n ≥ a <;> simp [h]
theorem im_in (n a b : Int) : impl_in.f n a b = some (decide (a ≤ n) && decide (n ≤ b)) := by
  unfold impl_in.f
  by_cases h : a ≤ n <;> simp [h]
theorem sp_var (L : List S60) (S : List S50) (v : Int) (h : L.length ≤ 1048576) : spec_l2Var.f L S v = some (varB L.length v) := by
  unfold spec_l2Var.f varB
  rw [sp_in, wr (by omega) (by omega)]
  rfl
theorem im_var (L : List S60) (S : List S50) (v : Int) (h : L.length ≤ 1048576) : impl_Prog_isVar.f L S v = some (varB L.length v) := by
  unfold impl_Prog_isVar.f varB
  rw [im_in, wr (by omega) (by omega)]
  rfl
theorem sp_val (L : List S60) (S : List S50) (x : S48) (h : L.length ≤ 1048576) : Ev (fun k => spec_l2Val.f k L S x.f0 x.f1 x.f2) (valB L.length x) := by
  unfold spec_l2Val.f valB
  by_cases h1 : x.f0 = 1
  · simp only [h1, if_true, sp_in, Option.bind_some]
    refine Ev.all_ fun k => ?_
    cases decide (0 ≤ x.f1) <;> cases decide (x.f1 ≤ 9) <;> rfl
  · by_cases h2 : x.f0 = 2
    · simp only [h2, if_true, sp_var L S _ h, Option.bind_some]
      refine Ev.all_ fun k => ?_
      cases varB L.length x.f1 <;> rfl
    · simp only [h1, h2, if_false]
      by_cases h3 : x.f0 = 3
      · simp only [h3, if_true]
        refine Ev.succ_ (Ev.all_ fun k => ?_)
        simp only [spec_l2Val.j0, sp_var L S _ h, Option.bind_some]
        cases varB L.length x.f1 <;> cases varB L.length x.f2 <;> simp
      · simp only [h3, if_false]
        refine Ev.succ_ (Ev.all_ fun k => ?_)
        simp only [spec_l2Val.j0, sp_var L S _ h, Option.bind_some]
        by_cases h4 : x.f0 = 4
        · cases varB L.length x.f1 <;> cases varB L.length x.f2 <;> simp [h4]
        · simp [h4]
theorem im_val (L : List S60) (S : List S50) (x : S48) (h : L.length ≤ 1048576) : impl_Prog_valOk.f L S x.f0 x.f1 x.f2 = some (valB L.length x) := by
  unfold impl_Prog_valOk.f valB impl_isNum.f
  simp only [im_in, im_var L S _ h, Option.bind_some]
  by_cases h1 : x.f0 = 1
  · simp only [h1, if_true]
    cases decide (0 ≤ x.f1) <;> cases decide (x.f1 ≤ 9) <;> rfl
  · by_cases h2 : x.f0 = 2
    · simp only [h2, if_true]
      cases varB L.length x.f1 <;> rfl
    · by_cases h3 : x.f0 = 3
      · simp only [h3, if_true]
        cases varB L.length x.f1 <;> cases varB L.length x.f2 <;> simp
      · by_cases h4 : x.f0 = 4
        · simp only [h4, if_true]
          cases varB L.length x.f1 <;> cases varB L.length x.f2 <;> simp
        · simp [h1, h2, h3, h4]
theorem im_host (x : Int) : impl_isHost.f x = some (hostB x) := by
  unfold impl_isHost.f hostB
  rw [im_in]
  rfl
theorem len0 (a b : List S50) (ha : a.length ≤ 1048576) (hb : b.length ≤ 1048576) : (wrap64 ((a.length : Int) + (b.length : Int)) == 0) = (a.isEmpty && b.isEmpty) := by
  rw [wr (by omega) (by omega)]
  cases a <;> cases b <;> simp <;> omega
theorem len1 (a b : List S50) (ha : a.length ≤ 1048576) (hb : b.length ≤ 1048576) : decide (wrap64 ((a.length : Int) + (b.length : Int)) > 0) = !(a.isEmpty && b.isEmpty) := by
  rw [wr (by omega) (by omega)]
  cases a <;> cases b <;> simp <;> omega
theorem sp_steps (L : List S60) (S : List S50) (hL : L.length ≤ 1048576) : ∀ l : List S50, nTs l ≤ 1048576 → ∀ q : Int, 0 ≤ q → q ≤ 3 → Ev (fun k => spec_l2Steps.f k L S l q) (okTs L.length l q) := by
  refine tree_ind fun l ih hl q q0 q1 => ?_
  have hlen := nTs_length l
  have loop : ∀ (d n : Nat), n + d = l.length → Ev (fun k => spec_l2Steps.l0 k l q (n : Int) L S) (okTs L.length (l.drop n) q) := by
    intro d
    induction d with
    | zero =>
      intro n hn
      refine Ev.succ_ (Ev.all_ fun k => ?_)
      have h1 : ¬ ((n : Int) < (l.length : Int)) := by omega
      simp only [spec_l2Steps.l0, h1, if_false]
      rw [List.drop_of_length_le (by omega), okTs]
    | succ d ih2 =>
      intro n hn
      refine Ev.succ_ ?_
      have h1 : (n : Int) < (l.length : Int) := by omega
      have h2 : (0 : Int) ≤ (n : Int) := by omega
      have h4 : wrap64 ((n : Int) + 1) = ((n + 1 : Nat) : Int) := by rw [wr (by omega) (by omega)]; omega
      have hm := rdS_mem (l := l) (n := n) (by omega)
      rw [rdS_drop (l := l) (n := n) (by omega), okTs]
      obtain ⟨i4, i5⟩ := ih _ hm
      have hs := nTs_mem hm
      simp only [spec_l2Steps.l0, h1, h2, h4, if_true]
      generalize rd_T50 l (n : Int) = s at *
      have g4 := nTs_length s.f4
      have g5 := nTs_length s.f5
      have step : Ev (fun k => spec_l2Step.g k (spec_l2Steps.f k) L S s.f0 s.f1 s.f2.f0 s.f2.f1 s.f2.f2 s.f3 s.f4 s.f5 q) (okT L.length s q) := by
        rw [okT_eq]
        unfold spec_l2Step.g
        by_cases hq : q < 1
        · have hq' : ¬ 1 ≤ q := by omega
          simp only [hq, hq', if_true, decide_false, Bool.false_and]
          exact Ev.now _
        · have hq' : 1 ≤ q := by omega
          simp only [hq, hq', if_false, decide_true, Bool.true_and, sp_var L S _ hL, Option.bind_some]
          cases hv : varB L.length s.f1 with
          | false => simp only [Bool.false_eq_true, if_false, Bool.false_and]; exact Ev.now _
          | true =>
            simp only [if_true, Bool.true_and]
            by_cases k1 : s.f0 = 1
            · simp only [k1, if_true]
              refine Ev.bind (sp_val L S s.f2 hL) ?_
              cases valB L.length s.f2 with
              | false => simp only [Bool.false_eq_true, if_false, Bool.false_and]; exact Ev.now _
              | true =>
                simp only [if_true, Bool.true_and, len0 s.f4 s.f5 (by omega) (by omega)]
                refine Ev.all_ fun k => ?_
                by_cases k3 : s.f3 = 0 <;> simp [k3]
            · by_cases k3 : s.f0 = 3
              · simp only [k3, if_true, show ¬ (3 : Int) = 1 by omega, if_false, sp_in, Option.bind_some, len0 s.f4 s.f5 (by omega) (by omega)]
                refine Ev.all_ fun k => ?_
                unfold hostB
                cases (s.f2.f0 == 0 && (s.f2.f1 == 0 && s.f2.f2 == 0)) with
                | false => simp
                | true => cases decide (0 ≤ s.f3) <;> cases decide (s.f3 ≤ 2) <;> simp
              · by_cases k2 : s.f0 = 2
                · simp only [k2, if_true, show ¬ (2 : Int) = 1 by omega, show ¬ (2 : Int) = 3 by omega, if_false]
                  have hw : wrap64 (q - 1) = q - 1 := wr (by omega) (by omega)
                  cases (s.f2.f0 == 0 && (s.f2.f1 == 0 && s.f2.f2 == 0)) with
                  | false => simp only [Bool.false_eq_true, if_false, Bool.false_and]; exact Ev.now _
                  | true =>
                    simp only [if_true, Bool.true_and, hw]
                    by_cases k3' : s.f3 = 0
                    · simp only [k3', if_true, beq_self_eq_true, Bool.true_and]
                      refine Ev.bind (i4 (by omega) (q - 1) (by omega) (by omega)) ?_
                      cases okTs L.length s.f4 (q - 1) with
                      | false => simp only [Bool.false_eq_true, if_false, Bool.false_and]; exact Ev.now _
                      | true =>
                        simp only [if_true, Bool.true_and]
                        exact Ev.bind (i5 (by omega) (q - 1) (by omega) (by omega)) (Ev.now _)
                    · have : (s.f3 == 0) = false := by simpa using k3'
                      simp only [k3', if_false, this, Bool.false_and]
                      exact Ev.now _
                · simp only [k1, k2, k3, if_false]
                  exact Ev.now _
      refine Ev.bind step ?_
      cases okT L.length s q with
      | false => simp only [Bool.false_eq_true, if_false, Bool.false_and]; exact Ev.now _
      | true => simp only [if_true, Bool.true_and]; exact ih2 (n + 1) (by omega)
  refine Ev.succ_ ?_
  simp only [spec_l2Steps.f]
  exact loop l.length 0 (by omega)
theorem im_steps (L : List S60) (S : List S50) (hL : L.length ≤ 1048576) : ∀ l : List S50, nTs l ≤ 1048576 → ∀ q : Int, 0 ≤ q → q ≤ 3 → Ev (fun k => impl_Prog_stepsOk.f k L S l q) (okTs L.length l q) := by
  refine tree_ind fun l ih hl q q0 q1 => ?_
  have hlen := nTs_length l
  have loop : ∀ (d n : Nat), n + d = l.length → Ev (fun k => impl_Prog_stepsOk.l0 k q l (l.length : Int) (n : Int) L S) (okTs L.length (l.drop n) q) := by
    intro d
    induction d with
    | zero =>
      intro n hn
      refine Ev.succ_ (Ev.all_ fun k => ?_)
      have h1 : ¬ ((n : Int) < (l.length : Int)) := by omega
      simp only [impl_Prog_stepsOk.l0, h1, if_false]
      rw [List.drop_of_length_le (by omega), okTs]
    | succ d ih2 =>
      intro n hn
      refine Ev.succ_ ?_
      have h1 : (n : Int) < (l.length : Int) := by omega
      have h2 : (0 : Int) ≤ (n : Int) := by omega
      have h4 : wrap64 ((n : Int) + 1) = ((n + 1 : Nat) : Int) := by rw [wr (by omega) (by omega)]; omega
      have hm := rdS_mem (l := l) (n := n) (by omega)
      rw [rdS_drop (l := l) (n := n) (by omega), okTs]
      obtain ⟨i4, i5⟩ := ih _ hm
      have hs := nTs_mem hm
      simp only [impl_Prog_stepsOk.l0, h1, h2, if_true]
      generalize rd_T50 l (n : Int) = s at *
      have g4 := nTs_length s.f4
      have g5 := nTs_length s.f5
      have bad : ∀ c1 c2 c3 c4 c5 c6 c7 c8, Ev (fun k => impl_Prog_stepsOk.j1 k q l (l.length : Int) (n : Int) true L S c1 c2 c3 c4 c5 c6 c7 c8) false := fun _ _ _ _ _ _ _ _ => Ev.succ_ (Ev.all_ fun k => by simp only [impl_Prog_stepsOk.j1, if_true])
      rw [okT_eq]
      by_cases hq : q < 1
      · have hq' : ¬ 1 ≤ q := by omega
        simp only [hq, hq', if_true, decide_false, Bool.false_and]
        exact bad _ _ _ _ _ _ _ _
      · have hq' : 1 ≤ q := by omega
        simp only [hq, hq', if_false, decide_true, Bool.true_and, im_var L S _ hL, Option.bind_some]
        cases hv : varB L.length s.f1 with
        | false => simp only [Bool.false_eq_true, if_false, Bool.false_and]; exact bad _ _ _ _ _ _ _ _
        | true =>
          simp only [if_true, Bool.true_and, len1 s.f4 s.f5 (by omega) (by omega)]
          have hx : (!(s.f2.f0 == 0) || (!(s.f2.f1 == 0) || !(s.f2.f2 == 0))) = !(s.f2.f0 == 0 && (s.f2.f1 == 0 && s.f2.f2 == 0)) := by
            cases (s.f2.f0 == 0) <;> cases (s.f2.f1 == 0) <;> cases (s.f2.f2 == 0) <;> rfl
          rw [hx]
          by_cases k1 : s.f0 = 1
          · simp only [k1, if_true, show ¬ (1 : Int) = 3 by omega, show ¬ (1 : Int) = 2 by omega, if_false]
            by_cases k3' : s.f3 = 0
            · simp only [k3', if_true, beq_self_eq_true, Bool.true_and]
              cases he : (s.f4.isEmpty && s.f5.isEmpty) with
              | false => simp only [Bool.not_false, Bool.and_false, Bool.false_and]; exact bad _ _ _ _ _ _ _ _
              | true =>
                refine Ev.succ_ ?_
                simp only [Bool.not_true, impl_Prog_stepsOk.j1, Bool.false_eq_true, if_false, if_true, im_val L S s.f2 hL, Option.bind_some, Bool.and_true, h4]
                cases valB L.length s.f2 with
                | false => simp only [Bool.false_eq_true, if_false, Bool.false_and]; exact Ev.now _
                | true => simp only [if_true, Bool.true_and]; exact ih2 (n + 1) (by omega)
            · have : (s.f3 == 0) = false := by simpa using k3'
              simp only [k3', if_false, this, Bool.false_and, Bool.and_false]
              exact bad _ _ _ _ _ _ _ _
          · simp only [k1, if_false]
            cases hz : (s.f2.f0 == 0 && (s.f2.f1 == 0 && s.f2.f2 == 0)) with
            | false =>
              simp only [Bool.not_false, if_true, Bool.false_and, ite_self]
              exact bad _ _ _ _ _ _ _ _
            | true =>
              simp only [Bool.not_true, Bool.false_eq_true, if_false, Bool.true_and]
              by_cases k3 : s.f0 = 3
              · simp only [k3, if_true, show ¬ (3 : Int) = 2 by omega, if_false]
                cases he : (s.f4.isEmpty && s.f5.isEmpty) with
                | false => simp only [Bool.not_false, Bool.and_false, Bool.false_and]; exact bad _ _ _ _ _ _ _ _
                | true =>
                  refine Ev.succ_ ?_
                  simp only [Bool.not_true, impl_Prog_stepsOk.j1, Bool.false_eq_true, if_false, if_true, im_host, Option.bind_some, Bool.and_true, h4, show ¬ (3 : Int) = 1 by omega, show ¬ (3 : Int) = 2 by omega]
                  cases hostB s.f3 with
                  | false => simp only [Bool.false_eq_true, if_false, Bool.false_and]; exact Ev.now _
                  | true => simp only [if_true, Bool.true_and]; exact ih2 (n + 1) (by omega)
              · simp only [k3, if_false]
                by_cases k3' : s.f3 = 0
                · simp only [k3', if_true, beq_self_eq_true, Bool.true_and]
                  by_cases k2 : s.f0 = 2
                  · have hw : wrap64 (q - 1) = q - 1 := wr (by omega) (by omega)
                    simp only [k2, if_true]
                    refine Ev.succ_ ?_
                    simp only [impl_Prog_stepsOk.j1, Bool.false_eq_true, if_false, if_true, h4, hw, show ¬ (2 : Int) = 1 by omega]
                    refine Ev.bind (i4 (by omega) (q - 1) (by omega) (by omega)) ?_
                    cases okTs L.length s.f4 (q - 1) with
                    | false => simp only [Bool.false_eq_true, if_false, Bool.false_and]; exact Ev.now _
                    | true =>
                      simp only [if_true, Bool.true_and]
                      refine Ev.bind (i5 (by omega) (q - 1) (by omega) (by omega)) ?_
                      cases okTs L.length s.f5 (q - 1) with
                      | false => simp only [Bool.false_eq_true, if_false, Bool.false_and]; exact Ev.now _
                      | true => simp only [if_true, Bool.true_and]; exact ih2 (n + 1) (by omega)
                  · simp only [k2, if_false, Bool.false_and]
                    cases he : (s.f4.isEmpty && s.f5.isEmpty) with
                    | false => exact bad _ _ _ _ _ _ _ _
                    | true =>
                      refine Ev.succ_ (Ev.all_ fun k => ?_)
                      simp only [Bool.not_true, impl_Prog_stepsOk.j1, Bool.false_eq_true, if_false, k1, k2, k3]
                · have : (s.f3 == 0) = false := by simpa using k3'
                  simp only [k3', if_false, this, Bool.false_and, ite_self]
                  exact bad _ _ _ _ _ _ _ _
  refine Ev.succ_ ?_
  simp only [impl_Prog_stepsOk.f]
  exact loop l.length 0 (by omega)
theorem sp_count : ∀ l : List S50, nTs l ≤ 1048576 → Ev (fun k => spec_l2Count.f k l) (nTs l : Int) := by
  refine tree_ind fun l ih hl => ?_
  have hlen := nTs_length l
  have loop : ∀ (d n : Nat) (x : Int), n + d = l.length → 0 ≤ x → x + nTs (l.drop n) ≤ 1048576 → Ev (fun k => spec_l2Count.l0 k l x (n : Int)) (x + nTs (l.drop n)) := by
    intro d
    induction d with
    | zero =>
      intro n x hn x0 x1
      refine Ev.succ_ (Ev.all_ fun k => ?_)
      have h1 : ¬ ((n : Int) < (l.length : Int)) := by omega
      simp only [spec_l2Count.l0, h1, if_false]
      rw [List.drop_of_length_le (by omega), nTs_nil]
      simp
    | succ d ih2 =>
      intro n x hn x0 x1
      refine Ev.succ_ ?_
      have h1 : (n : Int) < (l.length : Int) := by omega
      have h2 : (0 : Int) ≤ (n : Int) := by omega
      have h4 : wrap64 ((n : Int) + 1) = ((n + 1 : Nat) : Int) := by rw [wr (by omega) (by omega)]; omega
      have hm := rdS_mem (l := l) (n := n) (by omega)
      rw [rdS_drop (l := l) (n := n) (by omega), nTs_cons] at x1 ⊢
      obtain ⟨i4, i5⟩ := ih _ hm
      have hs := nTs_mem hm
      simp only [spec_l2Count.l0, h1, h2, h4, if_true]
      generalize rd_T50 l (n : Int) = s at *
      refine Ev.bind (i4 (by omega)) (Ev.bind (i5 (by omega)) ?_)
      have e : wrap64 (wrap64 (wrap64 (x + 1) + (nTs s.f4 : Int)) + (nTs s.f5 : Int)) = x + 1 + nTs s.f4 + nTs s.f5 := by
        rw [wr (a := x + 1) (by omega) (by omega), wr (a := x + 1 + (nTs s.f4 : Int)) (by omega) (by omega), wr (by omega) (by omega)]
      rw [e]
      exact Ev.eq_ (ih2 (n + 1) _ (by omega) (by omega) (by omega)) (by omega)
  refine Ev.succ_ ?_
  simp only [spec_l2Count.f]
  exact Ev.eq_ (loop l.length 0 0 (by omega) (by omega) (by rw [List.drop_zero]; omega)) (by rw [List.drop_zero]; omega)
theorem im_size : ∀ l : List S50, nTs l ≤ 1048576 → Ev (fun k => impl_size.f k l) (nTs l : Int) := by
  refine tree_ind fun l ih hl => ?_
  have hlen := nTs_length l
  have loop : ∀ (d n : Nat) (x : Int), n + d = l.length → 0 ≤ x → x + nTs (l.drop n) ≤ 1048576 + d → Ev (fun k => impl_size.l0 k x l (l.length : Int) (n : Int)) (x + nTs (l.drop n) - d) := by
    intro d
    induction d with
    | zero =>
      intro n x hn x0 x1
      refine Ev.succ_ (Ev.all_ fun k => ?_)
      have h1 : ¬ ((n : Int) < (l.length : Int)) := by omega
      simp only [impl_size.l0, h1, if_false]
      rw [List.drop_of_length_le (by omega), nTs_nil]
      simp
    | succ d ih2 =>
      intro n x hn x0 x1
      refine Ev.succ_ ?_
      have h1 : (n : Int) < (l.length : Int) := by omega
      have h2 : (0 : Int) ≤ (n : Int) := by omega
      have h4 : wrap64 ((n : Int) + 1) = ((n + 1 : Nat) : Int) := by rw [wr (by omega) (by omega)]; omega
      have hm := rdS_mem (l := l) (n := n) (by omega)
      rw [rdS_drop (l := l) (n := n) (by omega), nTs_cons] at x1 ⊢
      obtain ⟨i4, i5⟩ := ih _ hm
      have hs := nTs_mem hm
      simp only [impl_size.l0, h1, h2, h4, if_true]
      generalize rd_T50 l (n : Int) = s at *
      refine Ev.bind (i4 (by omega)) (Ev.bind (i5 (by omega)) ?_)
      have e : wrap64 (x + wrap64 ((nTs s.f4 : Int) + (nTs s.f5 : Int))) = x + (nTs s.f4 + nTs s.f5) := by
        rw [wr (a := (nTs s.f4 : Int) + (nTs s.f5 : Int)) (by omega) (by omega), wr (by omega) (by omega)]
      rw [e]
      exact Ev.eq_ (ih2 (n + 1) _ (by omega) (by omega) (by omega)) (by omega)
  refine Ev.succ_ ?_
  simp only [impl_size.f]
  exact Ev.eq_ (loop l.length 0 _ (by omega) (by omega) (by rw [List.drop_zero]; omega)) (by rw [List.drop_zero]; omega)
end Go.Proofs.Ytaflodibibbakaa.A
namespace Go.Proofs.Ytaflodibibbakaa.A
open Go.RowKit Go.Proofs.YtaflodibibbakaaW.PrintWords Go.Proofs.YtaflodibibbakaaW.PrintLast Go.Proofs.YtaflodibibbakaaW.PrintMore
def cvLabel (x : S83) : S60 := ⟨x.f0, x.f1⟩
theorem toLabelS_loop (l : List S83) (hl : l.length ≤ 1099511627776) (d : Nat) : ∀ (n : Nat) (acc : List S60), n + d = l.length → acc.length = l.length → acc.take n = (l.map cvLabel).take n →
  Ev (fun k => laws_toLabelS.l0 k l acc (n : Int)) (l.map cvLabel) := by
 induction d with
 | zero =>
  intro n acc hn ha ht
  refine Ev.succ_ (Ev.all_ fun k => ?_)
  have h1 : ¬ ((n : Int) < (l.length : Int)) := by omega
  simp only [laws_toLabelS.l0, h1, if_false]
  rw [List.take_of_length_le (by omega), List.take_of_length_le (by simp; omega)] at ht
  rw [ht]
 | succ d ih =>
  intro n acc hn ha ht
  refine Ev.succ_ ?_
  have h1 : (n : Int) < (l.length : Int) := by omega
  have h2 : (0 : Int) ≤ (n : Int) := by omega
  have h3 : (n : Int) < (acc.length : Int) := by omega
  have h4 : wrap64 ((n : Int) + 1) = ((n + 1 : Nat) : Int) := by rw [wr (by omega) (by omega)]; omega
  simp only [laws_toLabelS.l0, h1, h2, h3, h4, if_true, Int.toNat_natCast, laws_toLabel.f, Option.bind_some]
  refine ih (n + 1) _ (by omega) (by simpa using ha) ?_
  have hn1 : n < acc.length := by omega
  have hn2 : n < l.length := by omega
  rw [List.take_succ_eq_append_getElem (by simpa using hn1), List.take_succ_eq_append_getElem (by simpa using hn2), List.take_set_of_le (Nat.le_refl _), ht]
  simp [rd_T83, List.getD_eq_getElem?_getD, List.getElem?_eq_getElem hn2, cvLabel]
theorem toLabelS_ev (l : List S83) (hl : l.length ≤ 1099511627776) : Ev (fun k => laws_toLabelS.f k l) (l.map cvLabel) := by
 have h1 : (0 : Int) ≤ (l.length : Int) := by omega
 have h2 : l.length ≤ 17592186044416 := by omega
 simp only [laws_toLabelS.f, h1, h2, Int.toNat_natCast, if_true]
 exact toLabelS_loop l hl l.length 0 _ (by omega) (by simp) (by simp)
theorem eqLabel_loop (l : List S60) (hl : l.length ≤ 1099511627776) (d : Nat) : ∀ n : Nat, n + d = l.length → Ev (fun k => laws_eqLabelS.l0 k l l (n : Int)) true := by
 induction d with
 | zero =>
  intro n hn
  refine Ev.succ_ (Ev.all_ fun k => ?_)
  have h1 : ¬ ((n : Int) < (l.length : Int)) := by omega
  simp only [laws_eqLabelS.l0, h1, if_false]
 | succ d ih =>
  intro n hn
  refine Ev.succ_ ?_
  have h1 : (n : Int) < (l.length : Int) := by omega
  have h2 : (0 : Int) ≤ (n : Int) := by omega
  have h4 : wrap64 ((n : Int) + 1) = ((n + 1 : Nat) : Int) := by rw [wr (by omega) (by omega)]; omega
  simp only [laws_eqLabelS.l0, h1, h2, h4, if_true, laws_eqLabel.f, Option.bind_some]
  exact ih (n + 1) (by omega)
theorem eqLabelS_ev (l : List S60) (hl : l.length ≤ 1099511627776) : Ev (fun k => laws_eqLabelS.f k l l) true := by
 simp only [laws_eqLabelS.f, if_true]
 exact eqLabel_loop l hl l.length 0 (by omega)
end Go.Proofs.Ytaflodibibbakaa.A
namespace Go.Proofs.Ytaflodibibbakaa.A
open Go.RowKit Go.Proofs.YtaflodibibbakaaW.PrintWords Go.Proofs.YtaflodibibbakaaW.PrintLast Go.Proofs.YtaflodibibbakaaW.PrintMore
/-- A program is in form. -/
def progB (a : List S60) (b : List S50) : Bool :=
 decide (a.length ≤ 4) && (a.all (fun x => okL x.f0 x.f1) && (okTs a.length b 3 && decide (nTs b ≤ 8)))
theorem rdLab_drop {l : List S60} {n : Nat} (h : n < l.length) : l.drop n = rd_T60 l (n : Int) :: l.drop (n + 1) := by
 simp only [rd_T60, Int.toNat_natCast]
 exact drop_cons l n _ h
theorem sp_progOk (a : List S60) (b : List S50) (ha : a.length ≤ 1048576) (hb : nTs b ≤ 1048576) : Ev (fun k => spec_ProgOk.f k a b) (progB a b) := by
 unfold spec_ProgOk.f progB
 by_cases c : (a.length : Int) > 4
 ·have c' : ¬ a.length ≤ 4 := by omega
  simp only [c, c', if_true, decide_false, Bool.false_and]
  exact Ev.now _
 ·have c' : a.length ≤ 4 := by omega
  simp only [c, c', if_false, decide_true, Bool.true_and]
  have loop : ∀ (d n : Nat), n + d = a.length → Ev (fun k => spec_ProgOk.l0 k (n : Int) a b) ((a.drop n).all (fun x => okL x.f0 x.f1) && (okTs a.length b 3 && decide (nTs b ≤ 8))) := by
   intro d
   induction d with
   | zero =>
    intro n hn
    refine Ev.succ_ ?_
    have h1 : ¬ ((n : Int) < (a.length : Int)) := by omega
    simp only [spec_ProgOk.l0, h1, if_false]
    rw [List.drop_of_length_le (by omega)]
    simp only [List.all_nil, Bool.true_and]
    refine Ev.bind (sp_steps a b ha b hb 3 (by omega) (by omega)) ?_
    cases okTs a.length b 3 with
    | false => simp only [Bool.false_eq_true, if_false, Bool.false_and]; exact Ev.now _
    | true =>
     simp only [if_true, Bool.true_and]
     refine Ev.bind (sp_count b hb) ?_
     exact Ev.eq_ (Ev.now _) (by simp only [decide_eq_decide]; omega)
   | succ d ih =>
    intro n hn
    refine Ev.succ_ ?_
    have h1 : (n : Int) < (a.length : Int) := by omega
    have h2 : (0 : Int) ≤ (n : Int) := by omega
    have h4 : wrap64 ((n : Int) + 1) = ((n + 1 : Nat) : Int) := by rw [wr (by omega) (by omega)]; omega
    rw [rdLab_drop (l := a) (n := n) (by omega), List.all_cons]
    simp only [spec_ProgOk.l0, h1, h2, h4, if_true, sp_ok, Option.bind_some]
    cases okL (rd_T60 a (n : Int)).f0 (rd_T60 a (n : Int)).f1 with
    | false => simp only [Bool.false_eq_true, if_false, Bool.false_and]; exact Ev.now _
    | true => simp only [if_true, Bool.true_and]; exact ih (n + 1) (by omega)
  exact loop a.length 0 (by omega)
theorem im_contains (a : List S60) (ha : a.length ≤ 1048576) : Ev (fun k => impl_Label_70.f k a) (!a.all (fun x => okL x.f0 x.f1)) := by
 unfold impl_Label_70.f impl_Label_82.f
 have loop : ∀ (d n : Nat), n + d = a.length → ∃ r : Int, Ev (fun k => impl_Label_82.l0 k a (a.length : Int) (n : Int)) r ∧ decide (r ≥ 0) = !(a.drop n).all (fun x => okL x.f0 x.f1) := by
  intro d
  induction d with
  | zero =>
   intro n hn
   have h1 : ¬ ((n : Int) < (a.length : Int)) := by omega
   refine ⟨-1, Ev.succ_ (Ev.all_ fun k => by simp only [impl_Label_82.l0, h1, if_false]), ?_⟩
   rw [List.drop_of_length_le (by omega)]
   simp
  | succ d ih =>
   intro n hn
   have h1 : (n : Int) < (a.length : Int) := by omega
   have h2 : (0 : Int) ≤ (n : Int) := by omega
   have h4 : wrap64 ((n : Int) + 1) = ((n + 1 : Nat) : Int) := by rw [wr (by omega) (by omega)]; omega
   rw [rdLab_drop (l := a) (n := n) (by omega), List.all_cons]
   obtain ⟨r, e, hr⟩ := ih (n + 1) (by omega)
   cases hk : okL (rd_T60 a (n : Int)).f0 (rd_T60 a (n : Int)).f1 with
   | false =>
    refine ⟨(n : Int), Ev.succ_ (Ev.all_ fun k => by simp only [impl_Label_82.l0, h1, h2, if_true, impl_ProgOk_1.f, im_ok, Option.bind_some, hk, Bool.not_false]), ?_⟩
    simp
   | true =>
    refine ⟨r, Ev.succ_ ?_, by simpa using hr⟩
    simp only [impl_Label_82.l0, h1, h2, h4, if_true, impl_ProgOk_1.f, im_ok, Option.bind_some, hk, Bool.not_true, Bool.false_eq_true, if_false]
    exact e
 obtain ⟨r, e, hr⟩ := loop a.length 0 (by omega)
 exact Ev.bind e (Ev.eq_ (Ev.now _) (by simpa using hr))
theorem im_progOk (a : List S60) (b : List S50) (ha : a.length ≤ 1048576) (hb : nTs b ≤ 1048576) : Ev (fun k => impl_ProgOk.f k a b) (progB a b) := by
 unfold impl_ProgOk.f progB
 by_cases c : (a.length : Int) ≤ 4
 ·have c' : a.length ≤ 4 := by omega
  simp only [c, c', if_true, decide_true, Bool.true_and]
  refine Ev.bind (im_contains a ha) ?_
  cases a.all (fun x => okL x.f0 x.f1) with
  | false => simp only [Bool.not_false, if_true, Bool.false_and]; exact Ev.now _
  | true =>
   simp only [Bool.not_true, Bool.false_eq_true, if_false, Bool.true_and]
   refine Ev.bind (im_steps a b ha b hb 3 (by omega) (by omega)) ?_
   cases okTs a.length b 3 with
   | false => simp only [Bool.false_eq_true, if_false, Bool.false_and]; exact Ev.now _
   | true =>
    simp only [if_true, Bool.true_and]
    refine Ev.bind (im_size b hb) ?_
    exact Ev.eq_ (Ev.now _) (by simp only [decide_eq_decide]; omega)
 ·have c' : ¬ a.length ≤ 4 := by omega
  simp only [c, c', if_false, decide_false, Bool.false_and]
  exact Ev.now _
end Go.Proofs.Ytaflodibibbakaa.A
namespace Go.Proofs.Ytaflodibibbakaa.A
open Go.RowKit Go.Proofs.YtaflodibibbakaaW.PrintWords Go.Proofs.YtaflodibibbakaaW.PrintLast Go.Proofs.YtaflodibibbakaaW.PrintMore
theorem szProg_ev (a : List S83) (b : List S79) (h1 : a.length ≤ maxLen) (h2 : WL b) :
  Ev (fun k => laws_szProg.f k a b 1048576) (-1) ∨ (∃ r : Int, 0 ≤ r ∧ Ev (fun k => laws_szProg.f k a b 1048576) r ∧ a.length ≤ 1048576 ∧ nTs (cvTs b) ≤ 1048576) := by
 unfold maxLen at h1
 have w1 : wrap64 (1048576 - (a.length : Int)) = 1048576 - (a.length : Int) := wr (by omega) (by omega)
 unfold laws_szProg.f laws_szLabelS.f
 rw [w1]
 by_cases c1 : 1048576 - (a.length : Int) < 0
 ·left; simp [c1]; exact Ev.now _
 ·simp only [c1, if_false, Option.bind_some]
  have e := szS_ev b h2 (1048576 - (a.length : Int)) (by omega) (by omega)
  by_cases c2 : (nTs (cvTs b) : Int) ≤ 1048576 - (a.length : Int)
  ·right
   have e2 : szR (1048576 - (a.length : Int)) (nTs (cvTs b)) = 1048576 - (a.length : Int) - nTs (cvTs b) := if_pos c2
   have n2 : ¬ (1048576 - (a.length : Int) - (nTs (cvTs b) : Int) < 0) := by omega
   rw [e2] at e
   refine ⟨1048576 - (a.length : Int) - nTs (cvTs b), by omega, Ev.bind e ?_, by omega, by omega⟩
   simp only [n2, if_false]
   exact Ev.now _
  ·left
   have e2 : szR (1048576 - (a.length : Int)) (nTs (cvTs b)) = -1 := if_neg c2
   rw [e2] at e
   refine Ev.bind e ?_
   simp only [show (-1 : Int) < 0 by omega, if_true]
   exact Ev.now _
theorem toProg_ev (a : List S83) (b : List S79) (h1 : a.length ≤ 1048576) (h2 : nTs (cvTs b) ≤ 1048576) : Ev (fun k => laws_toProg.f k a b) (a.map cvLabel, cvTs b) := by
 unfold laws_toProg.f
 exact Ev.bind (toLabelS_ev a (by omega)) (Ev.bind (toSteps_ev b h2) (Ev.now _))
theorem eqProg_ev (a : List S60) (b : List S50) (h1 : a.length ≤ 1048576) (h2 : nTs b ≤ 1048576) : Ev (fun k => laws_eqProg.f k a b a b) true := by
 unfold laws_eqProg.f
 refine Ev.bind (eqLabelS_ev a (by omega)) ?_
 simp only [if_true]
 refine Ev.bind (eqSteps_ev b h2) ?_
 simp only [if_true]
 exact Ev.now _
end Go.Proofs.Ytaflodibibbakaa.A
