/- Plain facts on labels of steps being done, and on which step is the first that is not fine: the program's answers are the reference's. -/
import Derived.Test.YtaflodibibbakaaBx0
import Derived.Test.YtaflodibibbakaaBx10
import Derived.Test.YtaflodibibbakaaProgB
import Derived.Test.YtaflodibibbakaaSpBo
import Derived.Test.YtaflodibibbakaaSpFl
import Derived.Test.YtaflodibibbakaaGood
-- uses ProgB SpBo SpFl Good
namespace Go.Proofs.Ytaflodibibbakaa.B
open Go.RowKit Go.Proofs.YtaflodibibbakaaW.PrintWords Go.Proofs.YtaflodibibbakaaW.PrintLast Go.Proofs.YtaflodibibbakaaW.PrintMore
mutual
def alT : S50 → List S50
 | ⟨k, v, x, h, a, b⟩ => ⟨k, v, x, h, a, b⟩ :: (alTs a ++ alTs b)
/-- All steps as they are counted. -/
def alTs : List S50 → List S50
 | [] => []
 | s :: r => alT s ++ alTs r
end
theorem alT_eq (s : S50) : alT s = s :: (alTs s.f4 ++ alTs s.f5) := by cases s; rw [alT]
theorem alTs_length : ∀ l : List S50, (alTs l).length = nTs l := by
 refine tree_ind fun l ih => ?_
 induction l with
 | nil => rw [alTs, nTs_nil]; rfl
 | cons s r ihr =>
  have h := ih s (List.mem_cons_self)
  rw [alTs, alT_eq, nTs_cons]
  simp only [List.length_append, List.length_cons, h.1, h.2, ihr (fun t ht => ih t (List.mem_cons_of_mem _ ht))]
  omega
theorem alTs_good (n : Int) : ∀ l : List S50, good n l → ∀ s ∈ alTs l, stepG n s := by
 refine tree_ind fun l ih hg => ?_
 have hm : ∀ t ∈ l, stepG n t ∧ good n t.f4 ∧ good n t.f5 := fun t ht => good_mem hg ht
 clear hg
 induction l with
 | nil => intro s hs; rw [alTs] at hs; cases hs
 | cons a r ihr =>
  intro s hs
  rw [alTs, alT_eq] at hs
  have h := ih a List.mem_cons_self
  have g := hm a List.mem_cons_self
  simp only [List.cons_append, List.mem_cons, List.mem_append] at hs
  rcases hs with e | (e | e) | e
  ·subst e; exact g.1
  ·exact h.1 g.2.1 s e
  ·exact h.2 g.2.2 s e
  ·exact ihr (fun t ht => ih t (List.mem_cons_of_mem _ ht)) (fun t ht => hm t (List.mem_cons_of_mem _ ht)) s e
mutual
def laT (L : List S60) : S50 → Int → Int → List S60
 | ⟨_, v, _, _, a, b⟩, p, q => ⟨p, q⟩ :: (laTs L a (bA p (rd_T60 L v).f0) (bA q (rd_T60 L v).f1) ++ laTs L b (bA p (rd_T60 L v).f0) (bA q (rd_T60 L v).f1))
/-- The labels of steps being done. -/
def laTs (L : List S60) : List S50 → Int → Int → List S60
 | [], _, _ => []
 | s :: r, p, q => laT L s p q ++ laTs L r p q
end
theorem laT_eq (L : List S60) (s : S50) (p q : Int) : laT L s p q = ⟨p, q⟩ :: (laTs L s.f4 (bA p (rd_T60 L s.f1).f0) (bA q (rd_T60 L s.f1).f1) ++ laTs L s.f5 (bA p (rd_T60 L s.f1).f0) (bA q (rd_T60 L s.f1).f1)) := by cases s; rw [laT]
theorem laTs_length (L : List S60) : ∀ (l : List S50) (p q : Int), (laTs L l p q).length = nTs l := by
 refine tree_ind fun l ih => ?_
 induction l with
 | nil => intro p q; rw [laTs, nTs_nil]; rfl
 | cons s r ihr =>
  intro p q
  have h := ih s (List.mem_cons_self)
  rw [laTs, laT_eq, nTs_cons]
  simp only [List.length_append, List.length_cons, h.1, h.2, ihr (fun t ht => ih t (List.mem_cons_of_mem _ ht))]
  omega
theorem bA_is : ∀ x y : Fin 8, isS (bA (x.val : Int) (y.val : Int)) = true := by decide +kernel
theorem isS_bA {a b : Int} (ha : isS a = true) (hb : isS b = true) : isS (bA a b) = true := by
 obtain ⟨x, rfl⟩ := as_fin ha
 obtain ⟨y, rfl⟩ := as_fin hb
 exact bA_is x y
theorem okL_iff {a b : Int} : okL a b = true ↔ isS a = true ∧ isS b = true := by simp [okL]
theorem rdLab_ok {L : List S60} (hL : L.all (fun x => okL x.f0 x.f1) = true) {v : Int} (h : varB L.length v = true) : okL (rd_T60 L v).f0 (rd_T60 L v).f1 = true := by
 unfold varB at h
 simp only [Bool.and_eq_true, decide_eq_true_eq] at h
 have hv : v.toNat < L.length := by omega
 simp only [rd_T60, List.getD_eq_getElem?_getD, List.getElem?_eq_getElem hv, Option.getD_some]
 exact List.all_eq_true.1 hL _ (List.getElem_mem hv)
theorem laTs_ok {L : List S60} (hL : L.all (fun x => okL x.f0 x.f1) = true) : ∀ (l : List S50) (p q : Int), good L.length l → okL p q = true → ∀ x ∈ laTs L l p q, okL x.f0 x.f1 = true := by
 refine tree_ind fun l ih p q hg => ?_
 have hm : ∀ t ∈ l, stepG L.length t ∧ good L.length t.f4 ∧ good L.length t.f5 := fun t ht => good_mem hg ht
 clear hg
 intro hp
 induction l with
 | nil => intro x hx; rw [laTs] at hx; cases hx
 | cons a r ihr =>
  intro x hx
  rw [laTs, laT_eq] at hx
  have h := ih a List.mem_cons_self
  have g := hm a List.mem_cons_self
  have ok := rdLab_ok hL g.1.1
  rw [okL_iff] at ok hp
  have ok' : okL (bA p (rd_T60 L a.f1).f0) (bA q (rd_T60 L a.f1).f1) = true := okL_iff.2 ⟨isS_bA hp.1 ok.1, isS_bA hp.2 ok.2⟩
  simp only [List.cons_append, List.mem_cons, List.mem_append] at hx
  rcases hx with e | (e | e) | e
  ·subst e; exact okL_iff.2 hp
  ·exact h.1 _ _ g.2.1 ok' x e
  ·exact h.2 _ _ g.2.2 ok' x e
  ·exact ihr (fun t ht => ih t (List.mem_cons_of_mem _ ht)) (fun t ht => hm t (List.mem_cons_of_mem _ ht)) x e
theorem eta_s (s : S50) : (⟨s.f0, s.f1, (⟨s.f2.f0, s.f2.f1, s.f2.f2⟩ : S48), s.f3, s.f4, s.f5⟩ : S50) = s := by cases s; rfl
theorem sp_all : ∀ l : List S50, nTs l ≤ 1048576 → Ev (fun k => spec_l2All.f k l) (alTs l) := by
 refine tree_ind fun l ih hl => ?_
 have hlen := nTs_length l
 have loop : ∀ (d n : Nat) (out : List S50), n + d = l.length → out.length + nTs (l.drop n) ≤ 1048576 → Ev (fun k => spec_l2All.l0 k l out (n : Int)) (out ++ alTs (l.drop n)) := by
  intro d
  induction d with
  | zero =>
   intro n out hn _
   refine Ev.succ_ (Ev.all_ fun k => ?_)
   have h1 : ¬ ((n : Int) < (l.length : Int)) := by omega
   simp only [spec_l2All.l0, h1, if_false]
   rw [List.drop_of_length_le (by omega), alTs, List.append_nil]
  | succ d ih2 =>
   intro n out hn ho
   refine Ev.succ_ ?_
   have h1 : (n : Int) < (l.length : Int) := by omega
   have h2 : (0 : Int) ≤ (n : Int) := by omega
   have h4 : wrap64 ((n : Int) + 1) = ((n + 1 : Nat) : Int) := by rw [wr (by omega) (by omega)]; omega
   have hm := rdS_mem (l := l) (n := n) (by omega)
   have hs := nTs_mem hm
   obtain ⟨i4, i5⟩ := ih _ hm
   rw [rdS_drop (l := l) (n := n) (by omega), nTs_cons] at ho
   rw [rdS_drop (l := l) (n := n) (by omega), alTs, alT_eq]
   have h5 : out.length < 1466015503701 := by omega
   simp only [spec_l2All.l0, h1, h2, h4, h5, if_true, Option.bind_some]
   generalize rd_T50 l (n : Int) = s at *
   simp only [eta_s]
   have l4 := alTs_length s.f4
   have l5 := alTs_length s.f5
   refine Ev.bind (i4 (by omega)) ?_
   have h6 : (out ++ [s]).length + (alTs s.f4).length < 1466015503701 := by simp; omega
   simp only [h6, if_true]
   refine Ev.bind (i5 (by omega)) ?_
   have h7 : ((out ++ [s]) ++ alTs s.f4).length + (alTs s.f5).length < 1466015503701 := by simp only [List.length_append, List.length_cons, List.length_nil]; omega
   simp only [h7, if_true]
   refine Ev.eq_ (ih2 (n + 1) _ (by omega) (by simp only [List.length_append, List.length_cons, List.length_nil]; omega)) ?_
   simp [List.append_assoc]
 refine Ev.succ_ ?_
 simp only [spec_l2All.f]
 simpa using loop l.length 0 [] (by omega) (by rw [List.drop_zero]; simp; omega)
end Go.Proofs.Ytaflodibibbakaa.B
