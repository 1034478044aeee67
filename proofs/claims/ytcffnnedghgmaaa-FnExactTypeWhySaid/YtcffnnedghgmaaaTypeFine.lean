/- Plain facts on which step is the first that is not fine: the program's answer is the reference's. -/
import Derived.Test.YtcffnnedghgmaaaAx0
import Derived.Test.YtcffnnedghgmaaaAx5
import Derived.Test.YtcffnnedghgmaaaAx23
import Derived.Test.YtcffnnedghgmaaaAx24
import Derived.Test.YtcffnnedghgmaaaAx26
import Derived.Test.YtcffnnedghgmaaaAx29
import Derived.Test.YtcffnnedghgmaaaAx30
import Derived.Test.YtcffnnedghgmaaaAx31
import Derived.Test.YtcffnnedghgmaaaAx34
import Derived.Test.YtcffnnedghgmaaaAx36
import Derived.Test.YtcffnnedghgmaaaAx37
import Derived.Test.YtcffnnedghgmaaaAx38
import Derived.Test.YtcffnnedghgmaaaTypeAll
-- uses TypeAll
namespace Go.Proofs.Ytcffnnedghgmaaa.A
open Go.RowKit Go.Proofs.YtcffnnedghgmaaaW.PrintWords Go.Proofs.YtcffnnedghgmaaaW.PrintLast Go.Proofs.YtcffnnedghgmaaaW.PrintMore
def hasB (s h : Int) : Bool := hostB h && (Go.bits .and .i64 (shr .i64 s h) 1 == 1)
theorem im_hasB (s h : Int) : impl_has.f s h = some (hasB s h) := by
  unfold impl_has.f hasB
  rw [im_host]
  cases e : hostB h with
  | false => rfl
  | true =>
    unfold hostB at e
    simp only [Bool.and_eq_true, decide_eq_true_eq] at e
    simp [e.1]
theorem has_fin : ∀ (x : Fin 8) (h : Fin 3), spec_l1Has.f (x.val : Int) (h.val : Int) = some (hasB (x.val : Int) (h.val : Int)) := by decide +kernel
theorem has_and : ∀ (x y : Fin 8) (h : Fin 3), hasB (bA (x.val : Int) (y.val : Int)) (h.val : Int) = (hasB (x.val : Int) (h.val : Int) && hasB (y.val : Int) (h.val : Int)) := by decide +kernel
theorem bA_assoc_fin : ∀ x y z : Fin 8, bA (x.val : Int) (bA (y.val : Int) (z.val : Int)) = bA (bA (x.val : Int) (y.val : Int)) (z.val : Int) := by decide +kernel
theorem bA_seven : ∀ x : Fin 8, bA 7 (x.val : Int) = (x.val : Int) ∧ bA (x.val : Int) 7 = (x.val : Int) := by decide +kernel
theorem as_host {h : Int} (e : hostB h = true) : ∃ x : Fin 3, h = (x.val : Int) := by
  unfold hostB at e
  simp only [Bool.and_eq_true, decide_eq_true_eq] at e
  exact ⟨⟨h.toNat, by omega⟩, by simp; omega⟩
theorem bA_assoc {a b c : Int} (ha : isS a = true) (hb : isS b = true) (hc : isS c = true) : bA a (bA b c) = bA (bA a b) c := by
  obtain ⟨x, rfl⟩ := as_fin ha
  obtain ⟨y, rfl⟩ := as_fin hb
  obtain ⟨z, rfl⟩ := as_fin hc
  exact bA_assoc_fin x y z
theorem bA_7l {a : Int} (ha : isS a = true) : bA 7 a = a := by
  obtain ⟨x, rfl⟩ := as_fin ha
  exact (bA_seven x).1
theorem bA_7r {a : Int} (ha : isS a = true) : bA a 7 = a := by
  obtain ⟨x, rfl⟩ := as_fin ha
  exact (bA_seven x).2
theorem isS7 : isS 7 = true := by decide
theorem ok77 : okL 7 7 = true := by decide
theorem both_ev {a b c d : Int} (h : okL a b = true) (h' : okL c d = true) : Ev (fun k => spec_LabelBoth.f k a b c d) (bA a c, bA b d) := by
  have e := Ev.from_ 6 (fun k hk => sp_both a b c d k hk)
  unfold bothL at e
  rw [h, h'] at e
  exact e
/-- What is made of some variables. -/
def foldS (L : List S35) : List Int → Int → Int → Int × Int
  | [], p, q => (p, q)
  | v :: r, p, q => foldS L r (bA p (rd_T35 L v).f0) (bA q (rd_T35 L v).f1)
theorem src_loop (L : List S35) (S : List S59) (vs : List Int) (hv : ∀ v ∈ vs, varB L.length v = true) (hl : vs.length ≤ 1048576) : ∀ (d n : Nat) (p q : Int), n + d = vs.length →
    Ev (fun k => impl_Prog_source.l0 k vs (vs.length : Int) (n : Int) L S p q) (foldS L (vs.drop n) p q) := by
  intro d
  induction d with
  | zero =>
    intro n p q hn
    refine Ev.succ_ (Ev.all_ fun k => ?_)
    have h1 : ¬ ((n : Int) < (vs.length : Int)) := by omega
    simp only [impl_Prog_source.l0, h1, if_false]
    rw [List.drop_of_length_le (by omega), foldS]
  | succ d ih =>
    intro n p q hn
    refine Ev.succ_ ?_
    have h1 : (n : Int) < (vs.length : Int) := by omega
    have h2 : (0 : Int) ≤ (n : Int) := by omega
    have h4 : wrap64 ((n : Int) + 1) = ((n + 1 : Nat) : Int) := by rw [wr (by omega) (by omega)]; omega
    have hn' : n < vs.length := by omega
    have h5 : vs.drop n = rd vs (n : Int) :: vs.drop (n + 1) := by
      simp only [rd, Int.toNat_natCast]
      exact drop_cons vs n _ hn'
    have hm : rd vs (n : Int) ∈ vs := by
      simp only [rd, Int.toNat_natCast, List.getD_eq_getElem?_getD, List.getElem?_eq_getElem hn', Option.getD_some]
      exact List.getElem_mem hn'
    have hv' := var_lt (hv _ hm)
    simp only [impl_Prog_source.l0, h1, h2, h4, hv'.1, hv'.2, if_true, impl_Label_both.f, Option.bind_some]
    rw [h5, foldS]
    exact ih (n + 1) _ _ (by omega)
def varsOf (x : S57) : List Int := if x.f0 = 2 then [x.f1] else if x.f0 = 3 ∨ x.f0 = 4 then [x.f1, x.f2] else []
theorem im_source (L : List S35) (S : List S59) (s : S59) (h : valB L.length s.f2 = true) (p q : Int) :
    Ev (fun k => impl_Prog_source.f k L S s.f0 s.f1 s.f2.f0 s.f2.f1 s.f2.f2 s.f3 s.f4 s.f5 p q) (foldS L (varsOf s.f2) p q) := by
  have hv : impl_Val_vars.f s.f2.f0 s.f2.f1 s.f2.f2 = some (varsOf s.f2) ∧ (∀ v ∈ varsOf s.f2, varB L.length v = true) ∧ (varsOf s.f2).length ≤ 1048576 := by
    unfold impl_Val_vars.f varsOf
    unfold valB at h
    by_cases h2 : s.f2.f0 = 2
    · simp [h2] at h ⊢
      exact h.1
    · by_cases h3 : s.f2.f0 = 3
      · simp [h3] at h ⊢
        exact h
      · by_cases h4 : s.f2.f0 = 4
        · simp [h4] at h ⊢
          exact h
        · simp [h2, h3, h4]
  unfold impl_Prog_source.f
  rw [hv.1]
  simp only [Option.bind_some]
  simpa using src_loop L S (varsOf s.f2) hv.2.1 hv.2.2 (varsOf s.f2).length 0 p q (by omega)
/-- The label of a value. -/
def valL (L : List S35) (x : S57) : Int × Int := foldS L (varsOf x) 7 7
theorem sp_valL (L : List S35) (S : List S59) (hL : L.all (fun x => okL x.f0 x.f1) = true) (x : S57) (h : valB L.length x = true) :
    Ev (fun k => spec_l11Val.f k L S x.f0 x.f1 x.f2) (valL L x) := by
  unfold spec_l11Val.f spec_l11Any.f spec_l1All.f valL varsOf
  simp only [Option.bind_some]
  unfold valB at h
  by_cases h1 : x.f0 = 1
  · simp only [h1, if_true, show ¬ (1 : Int) = 3 by omega, show ¬ (1 : Int) = 4 by omega, show ¬ (1 : Int) = 2 by omega, if_false, or_self, foldS]
    exact Ev.now _
  · rw [if_neg h1] at h
    by_cases h2 : x.f0 = 2
    · rw [if_pos h2] at h
      simp only [Bool.and_eq_true] at h
      have a := rdLab_ok hL h.1
      have lt := var_lt h.1
      simp only [h2, show ¬ (2 : Int) = 1 by omega, show ¬ (2 : Int) = 3 by omega, show ¬ (2 : Int) = 4 by omega, if_false, if_true, lt.1, lt.2, foldS]
      exact Ev.bind (both_ev ok77 a) (Ev.now _)
    · rw [if_neg h2] at h
      by_cases h34 : x.f0 = 3 ∨ x.f0 = 4
      · rw [if_pos h34] at h
        simp only [Bool.and_eq_true] at h
        have a := rdLab_ok hL h.1
        have b := rdLab_ok hL h.2
        have lt := var_lt h.1
        have lt' := var_lt h.2
        have ok' : okL (bA 7 (rd_T35 L x.f1).f0) (bA 7 (rd_T35 L x.f1).f1) = true := okL_iff.2 ⟨isS_bA isS7 (okL_iff.1 a).1, isS_bA isS7 (okL_iff.1 a).2⟩
        simp only [h1, h2, h34, if_false, if_true, lt.1, lt.2, lt'.1, lt'.2, foldS]
        refine Ev.bind (both_ev ok77 a) ?_
        by_cases h3 : x.f0 = 3
        · simp only [h3, if_true]
          exact Ev.bind (both_ev ok' b) (Ev.now _)
        · have h4 : x.f0 = 4 := by omega
          simp only [h4, show ¬ (4 : Int) = 3 by omega, if_false, if_true]
          exact Ev.bind (both_ev ok' b) (Ev.now _)
      · rw [if_neg h34] at h
        exact absurd h (by decide)
theorem valL_ok {L : List S35} (hL : L.all (fun x => okL x.f0 x.f1) = true) {x : S57} (h : valB L.length x = true) {p q : Int} (hp : okL p q = true) :
    okL (valL L x).1 (valL L x).2 = true ∧ (bA p (valL L x).1, bA q (valL L x).2) = foldS L (varsOf x) p q ∧ okL (foldS L (varsOf x) p q).1 (foldS L (varsOf x) p q).2 = true := by
  rw [okL_iff] at hp
  unfold valL varsOf
  unfold valB at h
  by_cases h1 : x.f0 = 1
  · simp only [h1, show ¬ (1 : Int) = 3 by omega, show ¬ (1 : Int) = 4 by omega, show ¬ (1 : Int) = 2 by omega, if_false, or_self, foldS]
    exact ⟨ok77, by rw [bA_7r hp.1, bA_7r hp.2], okL_iff.2 hp⟩
  · rw [if_neg h1] at h
    by_cases h2 : x.f0 = 2
    · rw [if_pos h2] at h
      simp only [Bool.and_eq_true] at h
      have a := okL_iff.1 (rdLab_ok hL h.1)
      simp only [h2, if_true, foldS]
      rw [bA_7l a.1, bA_7l a.2]
      exact ⟨okL_iff.2 a, rfl, okL_iff.2 ⟨isS_bA hp.1 a.1, isS_bA hp.2 a.2⟩⟩
    · rw [if_neg h2] at h
      by_cases h34 : x.f0 = 3 ∨ x.f0 = 4
      · rw [if_pos h34] at h
        simp only [Bool.and_eq_true] at h
        have a := okL_iff.1 (rdLab_ok hL h.1)
        have b := okL_iff.1 (rdLab_ok hL h.2)
        simp only [h2, h34, if_true, if_false, foldS]
        rw [bA_7l a.1, bA_7l a.2, bA_assoc hp.1 a.1 b.1, bA_assoc hp.2 a.2 b.2]
        exact ⟨okL_iff.2 ⟨isS_bA a.1 b.1, isS_bA a.2 b.2⟩, rfl, okL_iff.2 ⟨isS_bA (isS_bA hp.1 a.1) b.1, isS_bA (isS_bA hp.2 a.2) b.2⟩⟩
      · rw [if_neg h34] at h
        exact absurd h (by decide)
/-- A step is fine. -/
def fineB (L : List S35) (s : S59) (x : S35) : Bool :=
  if s.f0 = 1 then wi (rd_T35 L s.f1).f0 (foldS L (varsOf s.f2) x.f0 x.f1).1 && wi (rd_T35 L s.f1).f1 (foldS L (varsOf s.f2) x.f0 x.f1).2
  else if s.f0 = 3 then hasB x.f0 s.f3 && hasB (rd_T35 L s.f1).f0 s.f3 else true
theorem sp_fine (L : List S35) (S : List S59) (hL : L.all (fun x => okL x.f0 x.f1) = true) (s : S59) (hs : stepG L.length s) (x : S35) (hx : okL x.f0 x.f1 = true) :
    Ev (fun k => spec_l11Fine.f k L S s.f0 s.f1 s.f2.f0 s.f2.f1 s.f2.f2 s.f3 s.f4 s.f5 x.f0 x.f1) (fineB L s x) := by
  unfold spec_l11Fine.f fineB
  have lt := var_lt hs.1
  have t := rdLab_ok hL hs.1
  by_cases h1 : s.f0 = 1
  · have hv := hs.2.1 h1
    obtain ⟨o1, o2, o3⟩ := valL_ok hL hv hx
    simp only [h1, if_true, lt.1, lt.2]
    refine Ev.bind (sp_valL L S hL s.f2 hv) (Ev.bind (both_ev hx o1) ?_)
    rw [o2]
    refine Ev.bind (Ev.from_ 5 (fun k hk => sp_flows _ _ _ _ k hk)) ?_
    refine Ev.eq_ (Ev.now _) ?_
    unfold flowsB
    rw [o3, t]
    rfl
  · by_cases h3 : s.f0 = 3
    · have hh := hs.2.2 h3
      obtain ⟨hq, he⟩ := as_host hh
      have hx' := okL_iff.1 hx
      have t' := okL_iff.1 t
      simp only [h3, show ¬ (3 : Int) = 1 by omega, if_false, if_true, lt.1, lt.2]
      refine Ev.bind (Ev.from_ 5 (fun k hk => sp_both1 hx'.1 t'.1 k hk)) ?_
      obtain ⟨a, ea⟩ := as_fin hx'.1
      obtain ⟨b, eb⟩ := as_fin t'.1
      obtain ⟨c, ec⟩ := as_fin (isS_bA hx'.1 t'.1)
      have e := has_fin c hq
      rw [← ec, ← he] at e
      rw [e]
      simp only [Option.bind_some]
      refine Ev.eq_ (Ev.now _) ?_
      rw [ea, eb, he]
      exact has_and a b hq
    · simp only [h1, h3, if_false]
      exact Ev.now _
/-- The first that is not fine, from a place on. -/
def whyR (L : List S35) : List S59 → List S35 → Int → Int × Bool
  | s :: r, x :: m, i => if fineB L s x then whyR L r m (i + 1) else (i, true)
  | _, _, _ => (0, false)
theorem sp_why_loop (L : List S35) (S : List S59) (hL : L.all (fun x => okL x.f0 x.f1) = true) (a : List S59) (m : List S35) (ha : a.length ≤ 1048576) (hm : m.length = a.length)
    (hs : ∀ s ∈ a, stepG L.length s) (hx : ∀ x ∈ m, okL x.f0 x.f1 = true) : ∀ (d n : Nat), n + d = a.length → Ev (fun k => spec_TypeWhy.l0 k a m (n : Int) L S) (whyR L (a.drop n) (m.drop n) (n : Int)) := by
  intro d
  induction d with
  | zero =>
    intro n hn
    refine Ev.succ_ (Ev.all_ fun k => ?_)
    have h1 : ¬ ((n : Int) < (a.length : Int)) := by omega
    simp only [spec_TypeWhy.l0, h1, if_false]
    rw [List.drop_of_length_le (by omega)]
    rfl
  | succ d ih =>
    intro n hn
    refine Ev.succ_ ?_
    have h1 : (n : Int) < (a.length : Int) := by omega
    have h2 : (0 : Int) ≤ (n : Int) := by omega
    have h3 : (n : Int) < (m.length : Int) := by omega
    have h4 : wrap64 ((n : Int) + 1) = ((n + 1 : Nat) : Int) := by rw [wr (by omega) (by omega)]; omega
    have e := rdS_mem (l := a) (n := n) (by omega)
    have hn' : n < m.length := by omega
    have f : rd_T35 m (n : Int) ∈ m := by
      simp only [rd_T35, Int.toNat_natCast, List.getD_eq_getElem?_getD, List.getElem?_eq_getElem hn', Option.getD_some]
      exact List.getElem_mem hn'
    rw [rdS_drop (l := a) (n := n) (by omega), rdLab_drop (l := m) (n := n) hn', whyR]
    simp only [spec_TypeWhy.l0, h1, h2, h3, h4, if_true]
    refine Ev.bind (sp_fine L S hL _ (hs _ e) _ (hx _ f)) ?_
    cases fineB L (rd_T59 a (n : Int)) (rd_T35 m (n : Int)) with
    | false => simp only [Bool.false_eq_true, if_false]; exact Ev.now _
    | true => simp only [if_true]; exact Ev.eq_ (ih (n + 1) (by omega)) (by norm_cast)
theorem im_why_loop (L : List S35) (S : List S59) (a : List S59) (m : List S35) (ha : a.length ≤ 1048576) (hm : m.length = a.length)
    (hs : ∀ s ∈ a, stepG L.length s) : ∀ (d n : Nat), n + d = a.length → Ev (fun k => impl_Prog_why.l0 k m a (a.length : Int) (n : Int) L S) (whyR L (a.drop n) (m.drop n) (n : Int)) := by
  intro d
  induction d with
  | zero =>
    intro n hn
    refine Ev.succ_ (Ev.all_ fun k => ?_)
    have h1 : ¬ ((n : Int) < (a.length : Int)) := by omega
    simp only [impl_Prog_why.l0, h1, if_false]
    rw [List.drop_of_length_le (by omega)]
    rfl
  | succ d ih =>
    intro n hn
    refine Ev.succ_ ?_
    have h1 : (n : Int) < (a.length : Int) := by omega
    have h2 : (0 : Int) ≤ (n : Int) := by omega
    have h3 : (n : Int) < (m.length : Int) := by omega
    have h4 : wrap64 ((n : Int) + 1) = ((n + 1 : Nat) : Int) := by rw [wr (by omega) (by omega)]; omega
    have e := hs _ (rdS_mem (l := a) (n := n) (by omega))
    have hn' : n < m.length := by omega
    rw [rdS_drop (l := a) (n := n) (by omega), rdLab_drop (l := m) (n := n) hn', whyR]
    have next := Ev.eq_ (ih (n + 1) (by omega)) (q := whyR L (a.drop (n + 1)) (m.drop (n + 1)) ((n : Int) + 1)) (by norm_cast)
    simp only [impl_Prog_why.l0, h1, h2, h3, h4, if_true]
    generalize rd_T59 a (n : Int) = s at *
    generalize rd_T35 m (n : Int) = x at *
    have lt := var_lt e.1
    unfold fineB
    simp only [lt.1, lt.2, if_true]
    by_cases h1' : s.f0 = 1
    · simp only [h1', if_true]
      have src := im_source L S s (e.2.1 h1') x.f0 x.f1
      rw [h1'] at src
      refine Ev.bind src ?_
      simp only [impl_Label_flows.f, im_within, Option.bind_some]
      cases wi (rd_T35 L s.f1).f0 (foldS L (varsOf s.f2) x.f0 x.f1).1 with
      | false => simp only [Bool.false_eq_true, if_false, Option.bind_some, Bool.false_and]; exact Ev.now _
      | true =>
        simp only [if_true, Option.bind_some, Bool.true_and]
        cases wi (rd_T35 L s.f1).f1 (foldS L (varsOf s.f2) x.f0 x.f1).2 with
        | false => simp only [Bool.false_eq_true, if_false]; exact Ev.now _
        | true => simp only [if_true]; exact next
    · by_cases h3' : s.f0 = 3
      · simp only [h3', show ¬ (3 : Int) = 1 by omega, if_false, if_true, im_hasB, Option.bind_some]
        cases hasB x.f0 s.f3 with
        | false => simp only [Bool.false_eq_true, if_false, Bool.false_and]; exact Ev.now _
        | true =>
          simp only [if_true, Bool.true_and]
          cases hasB (rd_T35 L s.f1).f0 s.f3 with
          | false => simp only [Bool.false_eq_true, if_false]; exact Ev.now _
          | true => simp only [if_true]; exact next
      · simp only [h1', h3', if_false, if_true]
        exact next
/-- TypeWhy of a program that is in form. -/
def whyP (L : List S35) (S : List S59) : Int × Bool := whyR L (alTs S) (laTs L S 7 7) 0
theorem progB_parts {L : List S35} {S : List S59} (h : progB L S = true) : L.length ≤ 4 ∧ L.all (fun x => okL x.f0 x.f1) = true ∧ good L.length S ∧ nTs S ≤ 8 := by
  unfold progB at h
  simp only [Bool.and_eq_true, decide_eq_true_eq] at h
  exact ⟨h.1, h.2.1, ⟨3, h.2.2.1⟩, h.2.2.2⟩
theorem sp_typeAt (L : List S35) (S : List S59) (h : progB L S = true) : Ev (fun k => spec_TypeAt.f k L S) (laTs L S 7 7) := by
  obtain ⟨h1, h2, h3, h4⟩ := progB_parts h
  unfold spec_TypeAt.f
  refine Ev.bind (sp_progOk L S (by omega) (by omega)) ?_
  rw [h]
  simp only [if_true, spec_l11Any.f, spec_l1All.f, Option.bind_some]
  exact Ev.bind (sp_at L S h2 S 7 7 [] h3 ok77 (by simp; omega)) (Ev.now _)
theorem im_at (L : List S35) (S : List S59) (h : progB L S = true) : Ev (fun k => impl_Prog_at.f k L S) (laTs L S 7 7) := by
  obtain ⟨h1, h2, h3, h4⟩ := progB_parts h
  unfold impl_Prog_at.f
  simp only [impl_everybody.f, Option.bind_some]
  exact Ev.bind (im_labels L S S 7 7 [] h3 (by simp; omega)) (Ev.now _)
theorem sp_typeWhy (L : List S35) (S : List S59) (ha : L.length ≤ 1048576) (hb : nTs S ≤ 1048576) : Ev (fun k => spec_TypeWhy.f k L S) (if progB L S = true then whyP L S else (0, false)) := by
  unfold spec_TypeWhy.f
  refine Ev.bind (sp_progOk L S ha hb) ?_
  cases h : progB L S with
  | false => simp only [Bool.false_eq_true, if_false]; exact Ev.now _
  | true =>
    obtain ⟨h1, h2, h3, h4⟩ := progB_parts h
    simp only [if_true]
    refine Ev.bind (sp_all S hb) (Ev.bind (sp_typeAt L S h) ?_)
    have la := alTs_length S
    have ll := laTs_length L S 7 7
    simpa [whyP] using sp_why_loop L S h2 (alTs S) (laTs L S 7 7) (by omega) (by omega) (alTs_good _ S h3) (laTs_ok h2 S 7 7 h3 ok77) (alTs S).length 0 (by omega)
theorem im_why (L : List S35) (S : List S59) (h : progB L S = true) : Ev (fun k => impl_Prog_why.f k L S) (whyP L S) := by
  obtain ⟨h1, h2, h3, h4⟩ := progB_parts h
  unfold impl_Prog_why.f
  refine Ev.bind (im_at L S h) (Ev.bind (im_all S (by omega)) ?_)
  have la := alTs_length S
  have ll := laTs_length L S 7 7
  simpa [whyP] using im_why_loop L S (alTs S) (laTs L S 7 7) (by omega) (by omega) (alTs_good _ S h3) (alTs S).length 0 (by omega)
end Go.Proofs.Ytcffnnedghgmaaa.A
