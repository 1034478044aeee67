/- Plain facts: steps are in form, and so many, for the program and for the reference. -/
import Derived.Test.YtaflodibibbakaaBx0
import Derived.Test.YtaflodibibbakaaBx8
import Derived.Test.YtaflodibibbakaaBx9
import Derived.Test.YtaflodibibbakaaBx12
import Derived.Test.YtaflodibibbakaaBx13
import Derived.Test.YtaflodibibbakaaBx14
import Derived.Test.YtaflodibibbakaaRdS
import Derived.Test.YtaflodibibbakaaLabOk
-- uses RdS LabOk
namespace Go.Proofs.Ytaflodibibbakaa.B
open Go.RowKit Go.Proofs.YtaflodibibbakaaW.PrintWords Go.Proofs.YtaflodibibbakaaW.PrintLast Go.Proofs.YtaflodibibbakaaW.PrintMore
theorem okT_eq (n : Int) (s : S50) (d : Int) : okT n s d = (decide (1 ≤ d) && (varB n s.f1 &&
     (if s.f0 = 1 then valB n s.f2 && (s.f3 == 0 && (s.f4.isEmpty && s.f5.isEmpty))
      else if s.f0 = 3 then (s.f2.f0 == 0 && (s.f2.f1 == 0 && s.f2.f2 == 0)) && (hostB s.f3 && (s.f4.isEmpty && s.f5.isEmpty))
      else if s.f0 = 2 then (s.f2.f0 == 0 && (s.f2.f1 == 0 && s.f2.f2 == 0)) && (s.f3 == 0 && (okTs n s.f4 (d - 1) && okTs n s.f5 (d - 1))) else false))) := by
  cases s; rw [okT]
theorem sp_in (n a b : Int) : spec_l6In.f n a b = some (decide (a ≤ n) && decide (n ≤ b)) := by
  unfold spec_l6In.f
  by_cases h : n ≥ a <;> simp [h]
theorem im_in (n a b : Int) : impl_in.f n a b = some (decide (a ≤ n) && decide (n ≤ b)) := by
  unfold impl_in.f
  by_cases h : a ≤ n <;> simp [h]
theorem sp_var (L : List S60) (S : List S50) (v : Int) (h : L.length ≤ 1048576) : spec_l2Var.f L S v = some (varB L.length v) := by
  unfold spec_l2Var.f varB
  rw [sp_in, wr (by omega) (by omega)]
  rfl
theorem im_var (L : List S60) (S : List S50) (v : Int) (h : L.length ≤ 1048576) : impl_Prog_isVar.f L S v = some (varB L.length v) := by
  unfold impl_Prog_isVar.f varB
  rw [im_in, wr (by omega) (by omega)]
  rfl
theorem sp_val (L : List S60) (S : List S50) (x : S48) (h : L.length ≤ 1048576) : Ev (fun k => spec_l2Val.f k L S x.f0 x.f1 x.f2) (valB L.length x) := by
  unfold spec_l2Val.f valB
  by_cases h1 : x.f0 = 1
  · simp only [h1, if_true, sp_in, Option.bind_some]
    refine Ev.all_ fun k => ?_
    cases decide (0 ≤ x.f1) <;> cases decide (x.f1 ≤ 9) <;> rfl
  · by_cases h2 : x.f0 = 2
    · simp only [h2, if_true, sp_var L S _ h, Option.bind_some]
      refine Ev.all_ fun k => ?_
      cases varB L.length x.f1 <;> rfl
    · simp only [h1, h2, if_false]
      by_cases h3 : x.f0 = 3
      · simp only [h3, if_true]
        refine Ev.succ_ (Ev.all_ fun k => ?_)
        simp only [spec_l2Val.j0, sp_var L S _ h, Option.bind_some]
        cases varB L.length x.f1 <;> cases varB L.length x.f2 <;> simp
      · simp only [h3, if_false]
        refine Ev.succ_ (Ev.all_ fun k => ?_)
        simp only [spec_l2Val.j0, sp_var L S _ h, Option.bind_some]
        by_cases h4 : x.f0 = 4
        · cases varB L.length x.f1 <;> cases varB L.length x.f2 <;> simp [h4]
        · simp [h4]
theorem im_val (L : List S60) (S : List S50) (x : S48) (h : L.length ≤ 1048576) : impl_Prog_valOk.f L S x.f0 x.f1 x.f2 = some (valB L.length x) := by
  unfold impl_Prog_valOk.f valB impl_isNum.f
  simp only [im_in, im_var L S _ h, Option.bind_some]
  by_cases h1 : x.f0 = 1
  · simp only [h1, if_true]
    cases decide (0 ≤ x.f1) <;> cases decide (x.f1 ≤ 9) <;> rfl
  · by_cases h2 : x.f0 = 2
    · simp only [h2, if_true]
      cases varB L.length x.f1 <;> rfl
    · by_cases h3 : x.f0 = 3
      · simp only [h3, if_true]
        cases varB L.length x.f1 <;> cases varB L.length x.f2 <;> simp
      · by_cases h4 : x.f0 = 4
        · simp only [h4, if_true]
          cases varB L.length x.f1 <;> cases varB L.length x.f2 <;> simp
        · simp [h1, h2, h3, h4]
theorem im_host (x : Int) : impl_isHost.f x = some (hostB x) := by
  unfold impl_isHost.f hostB
  rw [im_in]
  rfl
theorem len0 (a b : List S50) (ha : a.length ≤ 1048576) (hb : b.length ≤ 1048576) : (wrap64 ((a.length : Int) + (b.length : Int)) == 0) = (a.isEmpty && b.isEmpty) := by
  rw [wr (by omega) (by omega)]
  cases a <;> cases b <;> simp <;> omega
theorem len1 (a b : List S50) (ha : a.length ≤ 1048576) (hb : b.length ≤ 1048576) : decide (wrap64 ((a.length : Int) + (b.length : Int)) > 0) = !(a.isEmpty && b.isEmpty) := by
  rw [wr (by omega) (by omega)]
  cases a <;> cases b <;> simp <;> omega
theorem sp_steps (L : List S60) (S : List S50) (hL : L.length ≤ 1048576) : ∀ l : List S50, nTs l ≤ 1048576 → ∀ q : Int, 0 ≤ q → q ≤ 3 → Ev (fun k => spec_l2Steps.f k L S l q) (okTs L.length l q) := by
  refine tree_ind fun l ih hl q q0 q1 => ?_
  have hlen := nTs_length l
  have loop : ∀ (d n : Nat), n + d = l.length → Ev (fun k => spec_l2Steps.l0 k l q (n : Int) L S) (okTs L.length (l.drop n) q) := by
    intro d
    induction d with
    | zero =>
      intro n hn
      refine Ev.succ_ (Ev.all_ fun k => ?_)
      have h1 : ¬ ((n : Int) < (l.length : Int)) := by omega
      simp only [spec_l2Steps.l0, h1, if_false]
      rw [List.drop_of_length_le (by omega), okTs]
    | succ d ih2 =>
      intro n hn
      refine Ev.succ_ ?_
      have h1 : (n : Int) < (l.length : Int) := by omega
      have h2 : (0 : Int) ≤ (n : Int) := by omega
      have h4 : wrap64 ((n : Int) + 1) = ((n + 1 : Nat) : Int) := by rw [wr (by omega) (by omega)]; omega
      have hm := rdS_mem (l := l) (n := n) (by omega)
      rw [rdS_drop (l := l) (n := n) (by omega), okTs]
      obtain ⟨i4, i5⟩ := ih _ hm
      have hs := nTs_mem hm
      simp only [spec_l2Steps.l0, h1, h2, h4, if_true]
      generalize rd_T50 l (n : Int) = s at *
      have g4 := nTs_length s.f4
      have g5 := nTs_length s.f5
      have step : Ev (fun k => spec_l2Step.g k (spec_l2Steps.f k) L S s.f0 s.f1 s.f2.f0 s.f2.f1 s.f2.f2 s.f3 s.f4 s.f5 q) (okT L.length s q) := by
        rw [okT_eq]
        unfold spec_l2Step.g
        by_cases hq : q < 1
        · have hq' : ¬ 1 ≤ q := by omega
          simp only [hq, hq', if_true, decide_false, Bool.false_and]
          exact Ev.now _
        · have hq' : 1 ≤ q := by omega
          simp only [hq, hq', if_false, decide_true, Bool.true_and, sp_var L S _ hL, Option.bind_some]
          cases hv : varB L.length s.f1 with
          | false => simp only [Bool.false_eq_true, if_false, Bool.false_and]; exact Ev.now _
          | true =>
            simp only [if_true, Bool.true_and]
            by_cases k1 : s.f0 = 1
            · simp only [k1, if_true]
              refine Ev.bind (sp_val L S s.f2 hL) ?_
              cases valB L.length s.f2 with
              | false => simp only [Bool.false_eq_true, if_false, Bool.false_and]; exact Ev.now _
              | true =>
                simp only [if_true, Bool.true_and, len0 s.f4 s.f5 (by omega) (by omega)]
                refine Ev.all_ fun k => ?_
                by_cases k3 : s.f3 = 0 <;> simp [k3]
            · by_cases k3 : s.f0 = 3
              · simp only [k3, if_true, show ¬ (3 : Int) = 1 by omega, if_false, sp_in, Option.bind_some, len0 s.f4 s.f5 (by omega) (by omega)]
                refine Ev.all_ fun k => ?_
                unfold hostB
                cases (s.f2.f0 == 0 && (s.f2.f1 == 0 && s.f2.f2 == 0)) with
                | false => simp
                | true => cases decide (0 ≤ s.f3) <;> cases decide (s.f3 ≤ 2) <;> simp
              · by_cases k2 : s.f0 = 2
                · simp only [k2, if_true, show ¬ (2 : Int) = 1 by omega, show ¬ (2 : Int) = 3 by omega, if_false]
                  have hw : wrap64 (q - 1) = q - 1 := wr (by omega) (by omega)
                  cases (s.f2.f0 == 0 && (s.f2.f1 == 0 && s.f2.f2 == 0)) with
                  | false => simp only [Bool.false_eq_true, if_false, Bool.false_and]; exact Ev.now _
                  | true =>
                    simp only [if_true, Bool.true_and, hw]
                    by_cases k3' : s.f3 = 0
                    · simp only [k3', if_true, beq_self_eq_true, Bool.true_and]
                      refine Ev.bind (i4 (by omega) (q - 1) (by omega) (by omega)) ?_
                      cases okTs L.length s.f4 (q - 1) with
                      | false => simp only [Bool.false_eq_true, if_false, Bool.false_and]; exact Ev.now _
                      | true =>
                        simp only [if_true, Bool.true_and]
                        exact Ev.bind (i5 (by omega) (q - 1) (by omega) (by omega)) (Ev.now _)
                    · have : (s.f3 == 0) = false := by simpa using k3'
                      simp only [k3', if_false, this, Bool.false_and]
                      exact Ev.now _
                · simp only [k1, k2, k3, if_false]
                  exact Ev.now _
      refine Ev.bind step ?_
      cases okT L.length s q with
      | false => simp only [Bool.false_eq_true, if_false, Bool.false_and]; exact Ev.now _
      | true => simp only [if_true, Bool.true_and]; exact ih2 (n + 1) (by omega)
  refine Ev.succ_ ?_
  simp only [spec_l2Steps.f]
  exact loop l.length 0 (by omega)
theorem im_steps (L : List S60) (S : List S50) (hL : L.length ≤ 1048576) : ∀ l : List S50, nTs l ≤ 1048576 → ∀ q : Int, 0 ≤ q → q ≤ 3 → Ev (fun k => impl_Prog_stepsOk.f k L S l q) (okTs L.length l q) := by
  refine tree_ind fun l ih hl q q0 q1 => ?_
  have hlen := nTs_length l
  have loop : ∀ (d n : Nat), n + d = l.length → Ev (fun k => impl_Prog_stepsOk.l0 k q l (l.length : Int) (n : Int) L S) (okTs L.length (l.drop n) q) := by
    intro d
    induction d with
    | zero =>
      intro n hn
      refine Ev.succ_ (Ev.all_ fun k => ?_)
      have h1 : ¬ ((n : Int) < (l.length : Int)) := by omega
      simp only [impl_Prog_stepsOk.l0, h1, if_false]
      rw [List.drop_of_length_le (by omega), okTs]
    | succ d ih2 =>
      intro n hn
      refine Ev.succ_ ?_
      have h1 : (n : Int) < (l.length : Int) := by omega
      have h2 : (0 : Int) ≤ (n : Int) := by omega
      have h4 : wrap64 ((n : Int) + 1) = ((n + 1 : Nat) : Int) := by rw [wr (by omega) (by omega)]; omega
      have hm := rdS_mem (l := l) (n := n) (by omega)
      rw [rdS_drop (l := l) (n := n) (by omega), okTs]
      obtain ⟨i4, i5⟩ := ih _ hm
      have hs := nTs_mem hm
      simp only [impl_Prog_stepsOk.l0, h1, h2, if_true]
      generalize rd_T50 l (n : Int) = s at *
      have g4 := nTs_length s.f4
      have g5 := nTs_length s.f5
      have bad : ∀ c1 c2 c3 c4 c5 c6 c7 c8, Ev (fun k => impl_Prog_stepsOk.j1 k q l (l.length : Int) (n : Int) true L S c1 c2 c3 c4 c5 c6 c7 c8) false := fun _ _ _ _ _ _ _ _ => Ev.succ_ (Ev.all_ fun k => by simp only [impl_Prog_stepsOk.j1, if_true])
      rw [okT_eq]
      by_cases hq : q < 1
      · have hq' : ¬ 1 ≤ q := by omega
        simp only [hq, hq', if_true, decide_false, Bool.false_and]
        exact bad _ _ _ _ _ _ _ _
      · have hq' : 1 ≤ q := by omega
        simp only [hq, hq', if_false, decide_true, Bool.true_and, im_var L S _ hL, Option.bind_some]
        cases hv : varB L.length s.f1 with
        | false => simp only [Bool.false_eq_true, if_false, Bool.false_and]; exact bad _ _ _ _ _ _ _ _
        | true =>
          simp only [if_true, Bool.true_and, len1 s.f4 s.f5 (by omega) (by omega)]
          have hx : (!(s.f2.f0 == 0) || (!(s.f2.f1 == 0) || !(s.f2.f2 == 0))) = !(s.f2.f0 == 0 && (s.f2.f1 == 0 && s.f2.f2 == 0)) := by
            cases (s.f2.f0 == 0) <;> cases (s.f2.f1 == 0) <;> cases (s.f2.f2 == 0) <;> rfl
          rw [hx]
          by_cases k1 : s.f0 = 1
          · simp only [k1, if_true, show ¬ (1 : Int) = 3 by omega, show ¬ (1 : Int) = 2 by omega, if_false]
            by_cases k3' : s.f3 = 0
            · simp only [k3', if_true, beq_self_eq_true, Bool.true_and]
              cases he : (s.f4.isEmpty && s.f5.isEmpty) with
              | false => simp only [Bool.not_false, Bool.and_false, Bool.false_and]; exact bad _ _ _ _ _ _ _ _
              | true =>
                refine Ev.succ_ ?_
                simp only [Bool.not_true, impl_Prog_stepsOk.j1, Bool.false_eq_true, if_false, if_true, im_val L S s.f2 hL, Option.bind_some, Bool.and_true, h4]
                cases valB L.length s.f2 with
                | false => simp only [Bool.false_eq_true, if_false, Bool.false_and]; exact Ev.now _
                | true => simp only [if_true, Bool.true_and]; exact ih2 (n + 1) (by omega)
            · have : (s.f3 == 0) = false := by simpa using k3'
              simp only [k3', if_false, this, Bool.false_and, Bool.and_false]
              exact bad _ _ _ _ _ _ _ _
          · simp only [k1, if_false]
            cases hz : (s.f2.f0 == 0 && (s.f2.f1 == 0 && s.f2.f2 == 0)) with
            | false =>
              simp only [Bool.not_false, if_true, Bool.false_and, ite_self]
              exact bad _ _ _ _ _ _ _ _
            | true =>
              simp only [Bool.not_true, Bool.false_eq_true, if_false, Bool.true_and]
              by_cases k3 : s.f0 = 3
              · simp only [k3, if_true, show ¬ (3 : Int) = 2 by omega, if_false]
                cases he : (s.f4.isEmpty && s.f5.isEmpty) with
                | false => simp only [Bool.not_false, Bool.and_false, Bool.false_and]; exact bad _ _ _ _ _ _ _ _
                | true =>
                  refine Ev.succ_ ?_
                  simp only [Bool.not_true, impl_Prog_stepsOk.j1, Bool.false_eq_true, if_false, if_true, im_host, Option.bind_some, Bool.and_true, h4, show ¬ (3 : Int) = 1 by omega, show ¬ (3 : Int) = 2 by omega]
                  cases hostB s.f3 with
                  | false => simp only [Bool.false_eq_true, if_false, Bool.false_and]; exact Ev.now _
                  | true => simp only [if_true, Bool.true_and]; exact ih2 (n + 1) (by omega)
              · simp only [k3, if_false]
                by_cases k3' : s.f3 = 0
                · simp only [k3', if_true, beq_self_eq_true, Bool.true_and]
                  by_cases k2 : s.f0 = 2
                  · have hw : wrap64 (q - 1) = q - 1 := wr (by omega) (by omega)
                    simp only [k2, if_true]
                    refine Ev.succ_ ?_
                    simp only [impl_Prog_stepsOk.j1, Bool.false_eq_true, if_false, if_true, h4, hw, show ¬ (2 : Int) = 1 by omega]
                    refine Ev.bind (i4 (by omega) (q - 1) (by omega) (by omega)) ?_
                    cases okTs L.length s.f4 (q - 1) with
                    | false => simp only [Bool.false_eq_true, if_false, Bool.false_and]; exact Ev.now _
                    | true =>
                      simp only [if_true, Bool.true_and]
                      refine Ev.bind (i5 (by omega) (q - 1) (by omega) (by omega)) ?_
                      cases okTs L.length s.f5 (q - 1) with
                      | false => simp only [Bool.false_eq_true, if_false, Bool.false_and]; exact Ev.now _
                      | true => simp only [if_true, Bool.true_and]; exact ih2 (n + 1) (by omega)
                  · simp only [k2, if_false, Bool.false_and]
                    cases he : (s.f4.isEmpty && s.f5.isEmpty) with
                    | false => exact bad _ _ _ _ _ _ _ _
                    | true =>
                      refine Ev.succ_ (Ev.all_ fun k => ?_)
                      simp only [Bool.not_true, impl_Prog_stepsOk.j1, Bool.false_eq_true, if_false, k1, k2, k3]
                · have : (s.f3 == 0) = false := by simpa using k3'
                  simp only [k3', if_false, this, Bool.false_and, ite_self]
                  exact bad _ _ _ _ _ _ _ _
  refine Ev.succ_ ?_
  simp only [impl_Prog_stepsOk.f]
  exact loop l.length 0 (by omega)
theorem sp_count : ∀ l : List S50, nTs l ≤ 1048576 → Ev (fun k => spec_l2Count.f k l) (nTs l : Int) := by
  refine tree_ind fun l ih hl => ?_
  have hlen := nTs_length l
  have loop : ∀ (d n : Nat) (x : Int), n + d = l.length → 0 ≤ x → x + nTs (l.drop n) ≤ 1048576 → Ev (fun k => spec_l2Count.l0 k l x (n : Int)) (x + nTs (l.drop n)) := by
    intro d
    induction d with
    | zero =>
      intro n x hn x0 x1
      refine Ev.succ_ (Ev.all_ fun k => ?_)
      have h1 : ¬ ((n : Int) < (l.length : Int)) := by omega
      simp only [spec_l2Count.l0, h1, if_false]
      rw [List.drop_of_length_le (by omega), nTs_nil]
      simp
    | succ d ih2 =>
      intro n x hn x0 x1
      refine Ev.succ_ ?_
      have h1 : (n : Int) < (l.length : Int) := by omega
      have h2 : (0 : Int) ≤ (n : Int) := by omega
      have h4 : wrap64 ((n : Int) + 1) = ((n + 1 : Nat) : Int) := by rw [wr (by omega) (by omega)]; omega
      have hm := rdS_mem (l := l) (n := n) (by omega)
      rw [rdS_drop (l := l) (n := n) (by omega), nTs_cons] at x1 ⊢
      obtain ⟨i4, i5⟩ := ih _ hm
      have hs := nTs_mem hm
      simp only [spec_l2Count.l0, h1, h2, h4, if_true]
      generalize rd_T50 l (n : Int) = s at *
      refine Ev.bind (i4 (by omega)) (Ev.bind (i5 (by omega)) ?_)
      have e : wrap64 (wrap64 (wrap64 (x + 1) + (nTs s.f4 : Int)) + (nTs s.f5 : Int)) = x + 1 + nTs s.f4 + nTs s.f5 := by
        rw [wr (a := x + 1) (by omega) (by omega), wr (a := x + 1 + (nTs s.f4 : Int)) (by omega) (by omega), wr (by omega) (by omega)]
      rw [e]
      exact Ev.eq_ (ih2 (n + 1) _ (by omega) (by omega) (by omega)) (by omega)
  refine Ev.succ_ ?_
  simp only [spec_l2Count.f]
  exact Ev.eq_ (loop l.length 0 0 (by omega) (by omega) (by rw [List.drop_zero]; omega)) (by rw [List.drop_zero]; omega)
theorem im_size : ∀ l : List S50, nTs l ≤ 1048576 → Ev (fun k => impl_size.f k l) (nTs l : Int) := by
  refine tree_ind fun l ih hl => ?_
  have hlen := nTs_length l
  have loop : ∀ (d n : Nat) (x : Int), n + d = l.length → 0 ≤ x → x + nTs (l.drop n) ≤ 1048576 + d → Ev (fun k => impl_size.l0 k x l (l.length : Int) (n : Int)) (x + nTs (l.drop n) - d) := by
    intro d
    induction d with
    | zero =>
      intro n x hn x0 x1
      refine Ev.succ_ (Ev.all_ fun k => ?_)
      have h1 : ¬ ((n : Int) < (l.length : Int)) := by omega
      simp only [impl_size.l0, h1, if_false]
      rw [List.drop_of_length_le (by omega), nTs_nil]
      simp
    | succ d ih2 =>
      intro n x hn x0 x1
      refine Ev.succ_ ?_
      have h1 : (n : Int) < (l.length : Int) := by omega
      have h2 : (0 : Int) ≤ (n : Int) := by omega
      have h4 : wrap64 ((n : Int) + 1) = ((n + 1 : Nat) : Int) := by rw [wr (by omega) (by omega)]; omega
      have hm := rdS_mem (l := l) (n := n) (by omega)
      rw [rdS_drop (l := l) (n := n) (by omega), nTs_cons] at x1 ⊢
      obtain ⟨i4, i5⟩ := ih _ hm
      have hs := nTs_mem hm
      simp only [impl_size.l0, h1, h2, h4, if_true]
      generalize rd_T50 l (n : Int) = s at *
      refine Ev.bind (i4 (by omega)) (Ev.bind (i5 (by omega)) ?_)
      have e : wrap64 (x + wrap64 ((nTs s.f4 : Int) + (nTs s.f5 : Int))) = x + (nTs s.f4 + nTs s.f5) := by
        rw [wr (a := (nTs s.f4 : Int) + (nTs s.f5 : Int)) (by omega) (by omega), wr (by omega) (by omega)]
      rw [e]
      exact Ev.eq_ (ih2 (n + 1) _ (by omega) (by omega) (by omega)) (by omega)
  refine Ev.succ_ ?_
  simp only [impl_size.f]
  exact Ev.eq_ (loop l.length 0 _ (by omega) (by omega) (by rw [List.drop_zero]; omega)) (by rw [List.drop_zero]; omega)
end Go.Proofs.Ytaflodibibbakaa.B
