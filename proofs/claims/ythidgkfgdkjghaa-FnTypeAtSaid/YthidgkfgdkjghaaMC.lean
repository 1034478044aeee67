/- Plain facts on what the functions compute, several texts in one: see wip/pure. -/
import Derived.Test.YthidgkfgdkjghaaAx0
import Derived.Test.YthidgkfgdkjghaaAx19
import Derived.Test.YthidgkfgdkjghaaAx26
import Derived.Test.YthidgkfgdkjghaaAx29
import Derived.Test.YthidgkfgdkjghaaMB
namespace Go.Proofs.Ythidgkfgdkjghaa.A
open Go.RowKit Go.Proofs.YthidgkfgdkjghaaW.PrintWords Go.Proofs.YthidgkfgdkjghaaW.PrintLast Go.Proofs.YthidgkfgdkjghaaW.PrintMore
theorem im_labels (L : List S39) (S : List S32) : ∀ (l : List S32) (p q : Int) (out : List S39), good L.length l → out.length + nTs l ≤ 1048576 → Ev (fun k => impl_Prog_labels.f k L S l p q out) (out ++ laTs L l p q) := by
 refine tree_ind fun l ih p q out hg hl => ?_
 have hlen := nTs_length l
 have loop : ∀ (d n : Nat) (out : List S39), n + d = l.length → out.length + nTs (l.drop n) ≤ 1048576 → Ev (fun k => impl_Prog_labels.l0 k out l (l.length : Int) (n : Int) L S p q) (out ++ laTs L (l.drop n) p q) := by
  intro d
  induction d with
  | zero =>
   intro n out hn _
   refine Ev.succ_ (Ev.all_ fun k => ?_)
   have h1 : ¬ ((n : Int) < (l.length : Int)) := by omega
   simp only [impl_Prog_labels.l0, h1, if_false]
   rw [List.drop_of_length_le (by omega), laTs, List.append_nil]
  | succ d ih2 =>
   intro n out hn ho
   refine Ev.succ_ ?_
   have h1 : (n : Int) < (l.length : Int) := by omega
   have h2 : (0 : Int) ≤ (n : Int) := by omega
   have h4 : wrap64 ((n : Int) + 1) = ((n + 1 : Nat) : Int) := by rw [wr (by omega) (by omega)]; omega
   have hm := rdS_mem (l := l) (n := n) (by omega)
   have hs := good_mem hg hm
   obtain ⟨i4, i5⟩ := ih _ hm
   rw [rdS_drop (l := l) (n := n) (by omega), nTs_cons] at ho
   rw [rdS_drop (l := l) (n := n) (by omega), laTs, laT_eq]
   have hv := var_lt hs.1.1
   have h5 : out.length < 8796093022208 := by omega
   simp only [impl_Prog_labels.l0, h1, h2, h4, h5, hv.1, hv.2, if_true, impl_Label_both.f, Option.bind_some]
   generalize D32 l (n : Int) = s at *
   have l4 := laTs_length L s.f4 (bA p (D39 L s.f1).f0) (bA q (D39 L s.f1).f1)
   have l5 := laTs_length L s.f5 (bA p (D39 L s.f1).f0) (bA q (D39 L s.f1).f1)
   refine Ev.bind (i4 _ _ _ hs.2.1 (by simp; omega)) (Ev.bind (i5 _ _ _ hs.2.2 (by simp only [List.length_append, List.length_cons, List.length_nil]; unfold bA at l4; omega)) ?_)
   refine Ev.eq_ (ih2 (n + 1) _ (by omega) (by simp only [List.length_append, List.length_cons, List.length_nil]; unfold bA at l4 l5; omega)) ?_
   unfold bA
   simp [List.append_assoc]
 refine Ev.succ_ ?_
 simp only [impl_Prog_labels.f]
 exact loop l.length 0 out (by omega) (by rw [List.drop_zero]; omega)
theorem im_all : ∀ l : List S32, nTs l ≤ 1048576 → Ev (fun k => impl_all.f k l) (alTs l) := by
 refine tree_ind fun l ih hl => ?_
 have hlen := nTs_length l
 have loop : ∀ (d n : Nat) (out : List S32), n + d = l.length → out.length + nTs (l.drop n) ≤ 1048576 → Ev (fun k => impl_all.l0 k out l (l.length : Int) (n : Int)) (out ++ alTs (l.drop n)) := by
  intro d
  induction d with
  | zero =>
   intro n out hn _
   refine Ev.succ_ (Ev.all_ fun k => ?_)
   have h1 : ¬ ((n : Int) < (l.length : Int)) := by omega
   simp only [impl_all.l0, h1, if_false]
   rw [List.drop_of_length_le (by omega), alTs, List.append_nil]
  | succ d ih2 =>
   intro n out hn ho
   refine Ev.succ_ ?_
   have h1 : (n : Int) < (l.length : Int) := by omega
   have h2 : (0 : Int) ≤ (n : Int) := by omega
   have h4 : wrap64 ((n : Int) + 1) = ((n + 1 : Nat) : Int) := by rw [wr (by omega) (by omega)]; omega
   have hm := rdS_mem (l := l) (n := n) (by omega)
   have hs := nTs_mem hm
   obtain ⟨i4, i5⟩ := ih _ hm
   rw [rdS_drop (l := l) (n := n) (by omega), nTs_cons] at ho
   rw [rdS_drop (l := l) (n := n) (by omega), alTs, alT_eq]
   have h5 : out.length < 1466015503701 := by omega
   simp only [impl_all.l0, h1, h2, h4, h5, if_true, Option.bind_some]
   generalize D32 l (n : Int) = s at *
   simp only [eta_s]
   have l4 := alTs_length s.f4
   have l5 := alTs_length s.f5
   refine Ev.bind (i4 (by omega)) ?_
   have h6 : (out ++ [s]).length + (alTs s.f4).length < 1466015503701 := by simp; omega
   simp only [h6, if_true]
   refine Ev.bind (i5 (by omega)) ?_
   have h7 : ((out ++ [s]) ++ alTs s.f4).length + (alTs s.f5).length < 1466015503701 := by simp only [List.length_append, List.length_cons, List.length_nil]; omega
   simp only [h7, if_true]
   refine Ev.eq_ (ih2 (n + 1) _ (by omega) (by simp only [List.length_append, List.length_cons, List.length_nil]; omega)) ?_
   simp [List.append_assoc]
 refine Ev.succ_ ?_
 simp only [impl_all.f]
 simpa using loop l.length 0 [] (by omega) (by rw [List.drop_zero]; simp; omega)
theorem im_hasB (s h : Int) : impl_has.f s h = some (hasB s h) := by
 unfold impl_has.f hasB
 rw [im_host]
 cases e : hostB h with
 | false => rfl
 | true =>
  unfold hostB at e
  simp only [Bool.and_eq_true, decide_eq_true_eq] at e
  simp [e.1]
theorem src_loop (L : List S39) (S : List S32) (vs : List Int) (hv : ∀ v ∈ vs, varB L.length v = true) (hl : vs.length ≤ 1048576) : ∀ (d n : Nat) (p q : Int), n + d = vs.length →
  Ev (fun k => impl_Prog_source.l0 k vs (vs.length : Int) (n : Int) L S p q) (foldS L (vs.drop n) p q) := by
 intro d
 induction d with
 | zero =>
  intro n p q hn
  refine Ev.succ_ (Ev.all_ fun k => ?_)
  have h1 : ¬ ((n : Int) < (vs.length : Int)) := by omega
  simp only [impl_Prog_source.l0, h1, if_false]
  rw [List.drop_of_length_le (by omega), foldS]
 | succ d ih =>
  intro n p q hn
  refine Ev.succ_ ?_
  have h1 : (n : Int) < (vs.length : Int) := by omega
  have h2 : (0 : Int) ≤ (n : Int) := by omega
  have h4 : wrap64 ((n : Int) + 1) = ((n + 1 : Nat) : Int) := by rw [wr (by omega) (by omega)]; omega
  have hn' : n < vs.length := by omega
  have h5 : vs.drop n = rd vs (n : Int) :: vs.drop (n + 1) := by
   simp only [rd, Int.toNat_natCast]
   exact drop_cons vs n _ hn'
  have hm : rd vs (n : Int) ∈ vs := by
   simp only [rd, Int.toNat_natCast, List.getD_eq_getElem?_getD, List.getElem?_eq_getElem hn', Option.getD_some]
   exact List.getElem_mem hn'
  have hv' := var_lt (hv _ hm)
  simp only [impl_Prog_source.l0, h1, h2, h4, hv'.1, hv'.2, if_true, impl_Label_both.f, Option.bind_some]
  rw [h5, foldS]
  exact ih (n + 1) _ _ (by omega)
theorem im_source (L : List S39) (S : List S32) (s : S32) (h : valB L.length s.f2 = true) (p q : Int) :
  Ev (fun k => impl_Prog_source.f k L S s.f0 s.f1 s.f2.f0 s.f2.f1 s.f2.f2 s.f3 s.f4 s.f5 p q) (foldS L (varsOf s.f2) p q) := by
 have hv : impl_Val_vars.f s.f2.f0 s.f2.f1 s.f2.f2 = some (varsOf s.f2) ∧ (∀ v ∈ varsOf s.f2, varB L.length v = true) ∧ (varsOf s.f2).length ≤ 1048576 := by
  unfold impl_Val_vars.f varsOf
  unfold valB at h
  by_cases h2 : s.f2.f0 = 2
  ·simp [h2] at h ⊢
   exact h.1
  ·by_cases h3 : s.f2.f0 = 3
   ·simp [h3] at h ⊢
    exact h
   ·by_cases h4 : s.f2.f0 = 4
    ·simp [h4] at h ⊢
     exact h
    ·simp [h2, h3, h4]
 unfold impl_Prog_source.f
 rw [hv.1]
 simp only [Option.bind_some]
 simpa using src_loop L S (varsOf s.f2) hv.2.1 hv.2.2 (varsOf s.f2).length 0 p q (by omega)
theorem im_why_loop (L : List S39) (S : List S32) (a : List S32) (m : List S39) (ha : a.length ≤ 1048576) (hm : m.length = a.length)
  (hs : ∀ s ∈ a, stepG L.length s) : ∀ (d n : Nat), n + d = a.length → Ev (fun k => impl_Prog_why.l0 k m a (a.length : Int) (n : Int) L S) (whyR L (a.drop n) (m.drop n) (n : Int)) := by
 intro d
 induction d with
 | zero =>
  intro n hn
  refine Ev.succ_ (Ev.all_ fun k => ?_)
  have h1 : ¬ ((n : Int) < (a.length : Int)) := by omega
  simp only [impl_Prog_why.l0, h1, if_false]
  rw [List.drop_of_length_le (by omega)]
  rfl
 | succ d ih =>
  intro n hn
  refine Ev.succ_ ?_
  have h1 : (n : Int) < (a.length : Int) := by omega
  have h2 : (0 : Int) ≤ (n : Int) := by omega
  have h3 : (n : Int) < (m.length : Int) := by omega
  have h4 : wrap64 ((n : Int) + 1) = ((n + 1 : Nat) : Int) := by rw [wr (by omega) (by omega)]; omega
  have e := hs _ (rdS_mem (l := a) (n := n) (by omega))
  have hn' : n < m.length := by omega
  rw [rdS_drop (l := a) (n := n) (by omega), rdLab_drop (l := m) (n := n) hn', whyR]
  have next := Ev.eq_ (ih (n + 1) (by omega)) (q := whyR L (a.drop (n + 1)) (m.drop (n + 1)) ((n : Int) + 1)) (by norm_cast)
  simp only [impl_Prog_why.l0, h1, h2, h3, h4, if_true]
  generalize D32 a (n : Int) = s at *
  generalize D39 m (n : Int) = x at *
  have lt := var_lt e.1
  unfold fineB
  simp only [lt.1, lt.2, if_true]
  by_cases h1' : s.f0 = 1
  ·simp only [h1', if_true]
   have src := im_source L S s (e.2.1 h1') x.f0 x.f1
   rw [h1'] at src
   refine Ev.bind src ?_
   simp only [impl_Label_flows.f, im_within, Option.bind_some]
   cases wi (D39 L s.f1).f0 (foldS L (varsOf s.f2) x.f0 x.f1).1 with
   | false => simp only [Bool.false_eq_true, if_false, Option.bind_some, Bool.false_and]; exact Ev.now _
   | true =>
    simp only [if_true, Option.bind_some, Bool.true_and]
    cases wi (D39 L s.f1).f1 (foldS L (varsOf s.f2) x.f0 x.f1).2 with
    | false => simp only [Bool.false_eq_true, if_false]; exact Ev.now _
    | true => simp only [if_true]; exact next
  ·by_cases h3' : s.f0 = 3
   ·simp only [h3', show ¬ (3 : Int) = 1 by omega, if_false, if_true, im_hasB, Option.bind_some]
    cases hasB x.f0 s.f3 with
    | false => simp only [Bool.false_eq_true, if_false, Bool.false_and]; exact Ev.now _
    | true =>
     simp only [if_true, Bool.true_and]
     cases hasB (D39 L s.f1).f0 s.f3 with
     | false => simp only [Bool.false_eq_true, if_false]; exact Ev.now _
     | true => simp only [if_true]; exact next
   ·simp only [h1', h3', if_false, if_true]
    exact next
theorem im_at (L : List S39) (S : List S32) (h : progB L S = true) : Ev (fun k => impl_Prog_at.f k L S) (laTs L S 7 7) := by
 obtain ⟨h1, h2, h3, h4⟩ := progB_parts h
 unfold impl_Prog_at.f
 simp only [impl_everybody.f, Option.bind_some]
 exact Ev.bind (im_labels L S S 7 7 [] h3 (by simp; omega)) (Ev.now _)
theorem im_why (L : List S39) (S : List S32) (h : progB L S = true) : Ev (fun k => impl_Prog_why.f k L S) (whyP L S) := by
 obtain ⟨h1, h2, h3, h4⟩ := progB_parts h
 unfold impl_Prog_why.f
 refine Ev.bind (im_at L S h) (Ev.bind (im_all S (by omega)) ?_)
 have la := alTs_length S
 have ll := laTs_length L S 7 7
 simpa [whyP] using im_why_loop L S (alTs S) (laTs L S 7 7) (by omega) (by omega) (alTs_good _ S h3) (alTs S).length 0 (by omega)
end Go.Proofs.Ythidgkfgdkjghaa.A
namespace Go.Proofs.Ythidgkfgdkjghaa.A
open Go.RowKit Go.Proofs.YthidgkfgdkjghaaW.PrintWords Go.Proofs.YthidgkfgdkjghaaW.PrintLast Go.Proofs.YthidgkfgdkjghaaW.PrintMore
/-- A program is fine. -/
def typeB (L : List S39) (S : List S32) : Bool := if progB L S = true then !(whyP L S).2 else false
theorem sp_typeB (L : List S39) (S : List S32) (h1 : L.length ≤ 1048576) (h2 : nTs S ≤ 1048576) : Ev (fun k => spec_TypeOk.f k L S) (typeB L S) := by
 unfold spec_TypeOk.f typeB
 refine Ev.bind (sp_typeWhy _ _ h1 h2) (Ev.bind (sp_progOk _ _ h1 h2) ?_)
 cases progB L S with
 | false => simp only [Bool.false_eq_true, if_false]; exact Ev.now _
 | true => simp only [if_true]; exact Ev.now _
theorem im_typeB (L : List S39) (S : List S32) (h1 : L.length ≤ 1048576) (h2 : nTs S ≤ 1048576) : Ev (fun k => impl_TypeOk.f k L S) (typeB L S) := by
 unfold impl_TypeOk.f typeB
 refine Ev.bind (im_progOk _ _ h1 h2) ?_
 cases h : progB L S with
 | false => simp only [Bool.false_eq_true, if_false]; exact Ev.now _
 | true => simp only [if_true]; exact Ev.bind (im_why _ _ h) (Ev.now _)
theorem drawTypeOk_ev {l : List Int} (hl : ∀ x ∈ l, 0 ≤ x ∧ x ≤ 255) : ∃ L S, Ev (fun k => spec_DrawTypeOk.f k l) (L, S) ∧ L.length ≤ 8 ∧ nTs S ≤ 2000 := by
 obtain ⟨b, hb, h0⟩ := open_ev hl
 obtain ⟨L, S, q, e, e1, e2, -, -⟩ := any_ev hb 0 (by omega) (by omega)
 refine ⟨L, S, ?_, e1, e2⟩
 unfold spec_DrawTypeOk.f
 rw [h0]
 simp only [Option.bind_some]
 exact Ev.bind e (Ev.now _)
theorem whyR_two (L : List S39) : ∀ (a : List S32) (m : List S39) (i : Int), m.length = a.length → (whyR L a m i).2 = !(a.zip m).all (fun x => fineB L x.1 x.2) := by
 intro a
 induction a with
 | nil => intro m i h; cases m <;> simp [whyR]
 | cons s r ih =>
  intro m i h
  cases m with
  | nil => simp at h
  | cons x m =>
   simp only [List.length_cons] at h
   have := ih m (i + 1) (by omega)
   simp only [whyR, List.zip_cons_cons, List.all_cons]
   cases fineB L s x with
   | false => simp
   | true => simp [this]
theorem alTs_append (a b : List S32) : alTs (a ++ b) = alTs a ++ alTs b := by
 induction a with
 | nil => rw [List.nil_append, alTs, List.nil_append]
 | cons s r ih => rw [List.cons_append, alTs, alTs, ih, List.append_assoc]
theorem laTs_append (L : List S39) (a b : List S32) (p q : Int) : laTs L (a ++ b) p q = laTs L a p q ++ laTs L b p q := by
 induction a with
 | nil => rw [List.nil_append, laTs, List.nil_append]
 | cons s r ih => rw [List.cons_append, laTs, laTs, ih, List.append_assoc]
/-- All steps are fine, from what is known on. -/
def allB (L : List S39) (S : List S32) (p q : Int) : Bool := ((alTs S).zip (laTs L S p q)).all (fun x => fineB L x.1 x.2)
theorem typeB_ok {L : List S39} {S : List S32} (h : progB L S = true) : typeB L S = allB L S 7 7 := by
 rw [typeB, if_pos h, whyP, whyR_two L _ _ _ (by rw [laTs_length, alTs_length]), Bool.not_not, allB]
theorem typeB_no {L : List S39} {S : List S32} (h : progB L S = false) : typeB L S = false := if_neg (by rw [h]; decide)
theorem allB_append (L : List S39) (a b : List S32) (p q : Int) : allB L (a ++ b) p q = (allB L a p q && allB L b p q) := by
 unfold allB
 rw [alTs_append, laTs_append, List.zip_append (by rw [laTs_length, alTs_length]), List.all_append]
theorem okTs_append (n : Int) (a b : List S32) (d : Int) : okTs n (a ++ b) d = (okTs n a d && okTs n b d) := by
 induction a with
 | nil => rw [List.nil_append, okTs, Bool.true_and]
 | cons s r ih => rw [List.cons_append, okTs, okTs, ih, Bool.and_assoc]
theorem prog_part {L : List S39} {a b : List S32} (h : progB L (a ++ b) = true) : progB L a = true ∧ progB L b = true := by
 unfold progB at h ⊢
 rw [okTs_append, nTs_append] at h
 simp only [Bool.and_eq_true, decide_eq_true_eq] at h ⊢
 exact ⟨⟨h.1, h.2.1, h.2.2.1.1, by omega⟩, ⟨h.1, h.2.1, h.2.2.1.2, by omega⟩⟩
end Go.Proofs.Ythidgkfgdkjghaa.A
