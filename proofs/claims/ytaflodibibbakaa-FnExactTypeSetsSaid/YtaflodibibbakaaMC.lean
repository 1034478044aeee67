/- Plain facts on what the functions compute, several texts in one: see wip/pure. -/
import Derived.Test.YtaflodibibbakaaAx19
import Derived.Test.YtaflodibibbakaaMA
import Derived.Test.YtaflodibibbakaaAx0
import Derived.Test.YtaflodibibbakaaMB
import Derived.Test.YtaflodibibbakaaAx20
import Derived.Test.YtaflodibibbakaaAx25
import Derived.Test.YtaflodibibbakaaAx2
import Derived.Test.YtaflodibibbakaaAx5
import Derived.Test.YtaflodibibbakaaAx21
import Derived.Test.YtaflodibibbakaaAx10
import Derived.Test.YtaflodibibbakaaAx22
import Derived.Test.YtaflodibibbakaaAx23
import Derived.Test.YtaflodibibbakaaAx27
import Derived.Test.YtaflodibibbakaaAx26
import Derived.Test.YtaflodibibbakaaAx28
import Derived.Test.YtaflodibibbakaaAx29
namespace Go.Proofs.Ytaflodibibbakaa.A
open Go.RowKit Go.Proofs.YtaflodibibbakaaW.PrintWords Go.Proofs.YtaflodibibbakaaW.PrintLast Go.Proofs.YtaflodibibbakaaW.PrintMore
def bA (a b : Int) : Int := Go.bits .and .i64 a b
theorem bA_fin : ∀ x y : Fin 8, spec_l1Both.f 5 (x.val : Int) (y.val : Int) = some (bA (x.val : Int) (y.val : Int)) := by decide +kernel
theorem sp_both1 {a b : Int} (ha : isS a = true) (hb : isS b = true) (k : Nat) (hk : 5 ≤ k) : spec_l1Both.f k a b = some (bA a b) := by
 obtain ⟨x, rfl⟩ := as_fin ha
 obtain ⟨y, rfl⟩ := as_fin hb
 exact at_rounds (spec_l1Both.mono _ _) hk (bA_fin x y)
def bothL (a0 a1 b0 b1 : Int) : Int × Int := if okL a0 a1 && okL b0 b1 then (bA a0 b0, bA a1 b1) else (0, 0)
theorem sp_both (a0 a1 b0 b1 : Int) (k : Nat) (hk : 6 ≤ k) : spec_LabelBoth.f k a0 a1 b0 b1 = some (bothL a0 a1 b0 b1) := by
 obtain ⟨k, rfl⟩ : ∃ m, k = m + 1 := ⟨k - 1, by omega⟩
 unfold spec_LabelBoth.f bothL
 rw [sp_ok, sp_ok]
 cases h1 : okL a0 a1 <;> cases h2 : okL b0 b1 <;> simp [spec_LabelBoth.j0]
 have h1' : isS a0 = true ∧ isS a1 = true := by simpa [okL] using h1
 have h2' : isS b0 = true ∧ isS b1 = true := by simpa [okL] using h2
 rw [sp_both1 h1'.1 h2'.1 k (by omega), sp_both1 h1'.2 h2'.2 k (by omega)]
 rfl
end Go.Proofs.Ytaflodibibbakaa.A
namespace Go.Proofs.Ytaflodibibbakaa.A
open Go.RowKit Go.Proofs.YtaflodibibbakaaW.PrintWords Go.Proofs.YtaflodibibbakaaW.PrintLast Go.Proofs.YtaflodibibbakaaW.PrintMore
/-- One set is within another one. -/
def wi (a b : Int) : Bool := Go.bits .andNot .i64 a b == 0
def flowsB (a0 a1 b0 b1 : Int) : Bool := okL a0 a1 && (okL b0 b1 && (wi b0 a0 && wi b1 a1))
end Go.Proofs.Ytaflodibibbakaa.A
namespace Go.Proofs.Ytaflodibibbakaa.A
open Go.RowKit Go.Proofs.YtaflodibibbakaaW.PrintWords Go.Proofs.YtaflodibibbakaaW.PrintLast Go.Proofs.YtaflodibibbakaaW.PrintMore
/-- What is known of a step of a program that is in form. -/
def stepG (n : Int) (s : S50) : Prop := varB n s.f1 = true ∧ (s.f0 = 1 → valB n s.f2 = true) ∧ (s.f0 = 3 → hostB s.f3 = true)
/-- Steps in form, at some depth. -/
def good (n : Int) (l : List S50) : Prop := ∃ d, okTs n l d = true
theorem good_nil (n : Int) : good n [] := ⟨0, by rw [okTs]⟩
theorem good_of_empty (n : Int) {l : List S50} (h : l.isEmpty = true) : good n l := by
 rw [List.isEmpty_iff] at h; subst h; exact good_nil n
theorem okT_good {n : Int} {s : S50} {d : Int} (h : okT n s d = true) : stepG n s ∧ good n s.f4 ∧ good n s.f5 := by
 rw [okT_eq, Bool.and_eq_true, Bool.and_eq_true] at h
 obtain ⟨_, hv, h⟩ := h
 by_cases k1 : s.f0 = 1
 ·rw [if_pos k1] at h
  simp only [Bool.and_eq_true] at h
  exact ⟨⟨hv, fun _ => h.1, fun k3 => by omega⟩, good_of_empty n h.2.2.1, good_of_empty n h.2.2.2⟩
 ·rw [if_neg k1] at h
  by_cases k3 : s.f0 = 3
  ·rw [if_pos k3] at h
   simp only [Bool.and_eq_true] at h
   exact ⟨⟨hv, fun k => absurd k k1, fun _ => h.2.1⟩, good_of_empty n h.2.2.1, good_of_empty n h.2.2.2⟩
  ·rw [if_neg k3] at h
   by_cases k2 : s.f0 = 2
   ·rw [if_pos k2] at h
    simp only [Bool.and_eq_true] at h
    exact ⟨⟨hv, fun k => absurd k k1, fun k => absurd k k3⟩, ⟨_, h.2.2.1⟩, ⟨_, h.2.2.2⟩⟩
   ·rw [if_neg k2] at h
    exact absurd h (by decide)
theorem good_mem {n : Int} {l : List S50} (h : good n l) {s : S50} (hs : s ∈ l) : stepG n s ∧ good n s.f4 ∧ good n s.f5 := by
 obtain ⟨d, h⟩ := h
 induction l with
 | nil => cases hs
 | cons a r ih =>
  rw [okTs, Bool.and_eq_true] at h
  rcases List.mem_cons.1 hs with e | e
  ·subst e; exact okT_good h.1
  ·exact ih e h.2
theorem var_lt {n v : Int} (h : varB n v = true) : 0 ≤ v ∧ v < n := by
 unfold varB at h
 simp only [Bool.and_eq_true, decide_eq_true_eq] at h
 omega
end Go.Proofs.Ytaflodibibbakaa.A
namespace Go.Proofs.Ytaflodibibbakaa.A
open Go.RowKit Go.Proofs.YtaflodibibbakaaW.PrintWords Go.Proofs.YtaflodibibbakaaW.PrintLast Go.Proofs.YtaflodibibbakaaW.PrintMore
mutual
def alT : S50 → List S50
 | ⟨k, v, x, h, a, b⟩ => ⟨k, v, x, h, a, b⟩ :: (alTs a ++ alTs b)
/-- All steps as they are counted. -/
def alTs : List S50 → List S50
 | [] => []
 | s :: r => alT s ++ alTs r
end
theorem alT_eq (s : S50) : alT s = s :: (alTs s.f4 ++ alTs s.f5) := by cases s; rw [alT]
theorem alTs_length : ∀ l : List S50, (alTs l).length = nTs l := by
 refine tree_ind fun l ih => ?_
 induction l with
 | nil => rw [alTs, nTs_nil]; rfl
 | cons s r ihr =>
  have h := ih s (List.mem_cons_self)
  rw [alTs, alT_eq, nTs_cons]
  simp only [List.length_append, List.length_cons, h.1, h.2, ihr (fun t ht => ih t (List.mem_cons_of_mem _ ht))]
  omega
theorem alTs_good (n : Int) : ∀ l : List S50, good n l → ∀ s ∈ alTs l, stepG n s := by
 refine tree_ind fun l ih hg => ?_
 have hm : ∀ t ∈ l, stepG n t ∧ good n t.f4 ∧ good n t.f5 := fun t ht => good_mem hg ht
 clear hg
 induction l with
 | nil => intro s hs; rw [alTs] at hs; cases hs
 | cons a r ihr =>
  intro s hs
  rw [alTs, alT_eq] at hs
  have h := ih a List.mem_cons_self
  have g := hm a List.mem_cons_self
  simp only [List.cons_append, List.mem_cons, List.mem_append] at hs
  rcases hs with e | (e | e) | e
  ·subst e; exact g.1
  ·exact h.1 g.2.1 s e
  ·exact h.2 g.2.2 s e
  ·exact ihr (fun t ht => ih t (List.mem_cons_of_mem _ ht)) (fun t ht => hm t (List.mem_cons_of_mem _ ht)) s e
mutual
def laT (L : List S60) : S50 → Int → Int → List S60
 | ⟨_, v, _, _, a, b⟩, p, q => ⟨p, q⟩ :: (laTs L a (bA p (rd_T60 L v).f0) (bA q (rd_T60 L v).f1) ++ laTs L b (bA p (rd_T60 L v).f0) (bA q (rd_T60 L v).f1))
/-- The labels of steps being done. -/
def laTs (L : List S60) : List S50 → Int → Int → List S60
 | [], _, _ => []
 | s :: r, p, q => laT L s p q ++ laTs L r p q
end
theorem laT_eq (L : List S60) (s : S50) (p q : Int) : laT L s p q = ⟨p, q⟩ :: (laTs L s.f4 (bA p (rd_T60 L s.f1).f0) (bA q (rd_T60 L s.f1).f1) ++ laTs L s.f5 (bA p (rd_T60 L s.f1).f0) (bA q (rd_T60 L s.f1).f1)) := by cases s; rw [laT]
theorem laTs_length (L : List S60) : ∀ (l : List S50) (p q : Int), (laTs L l p q).length = nTs l := by
 refine tree_ind fun l ih => ?_
 induction l with
 | nil => intro p q; rw [laTs, nTs_nil]; rfl
 | cons s r ihr =>
  intro p q
  have h := ih s (List.mem_cons_self)
  rw [laTs, laT_eq, nTs_cons]
  simp only [List.length_append, List.length_cons, h.1, h.2, ihr (fun t ht => ih t (List.mem_cons_of_mem _ ht))]
  omega
theorem bA_is : ∀ x y : Fin 8, isS (bA (x.val : Int) (y.val : Int)) = true := by decide +kernel
theorem isS_bA {a b : Int} (ha : isS a = true) (hb : isS b = true) : isS (bA a b) = true := by
 obtain ⟨x, rfl⟩ := as_fin ha
 obtain ⟨y, rfl⟩ := as_fin hb
 exact bA_is x y
theorem okL_iff {a b : Int} : okL a b = true ↔ isS a = true ∧ isS b = true := by simp [okL]
theorem rdLab_ok {L : List S60} (hL : L.all (fun x => okL x.f0 x.f1) = true) {v : Int} (h : varB L.length v = true) : okL (rd_T60 L v).f0 (rd_T60 L v).f1 = true := by
 unfold varB at h
 simp only [Bool.and_eq_true, decide_eq_true_eq] at h
 have hv : v.toNat < L.length := by omega
 simp only [rd_T60, List.getD_eq_getElem?_getD, List.getElem?_eq_getElem hv, Option.getD_some]
 exact List.all_eq_true.1 hL _ (List.getElem_mem hv)
theorem laTs_ok {L : List S60} (hL : L.all (fun x => okL x.f0 x.f1) = true) : ∀ (l : List S50) (p q : Int), good L.length l → okL p q = true → ∀ x ∈ laTs L l p q, okL x.f0 x.f1 = true := by
 refine tree_ind fun l ih p q hg => ?_
 have hm : ∀ t ∈ l, stepG L.length t ∧ good L.length t.f4 ∧ good L.length t.f5 := fun t ht => good_mem hg ht
 clear hg
 intro hp
 induction l with
 | nil => intro x hx; rw [laTs] at hx; cases hx
 | cons a r ihr =>
  intro x hx
  rw [laTs, laT_eq] at hx
  have h := ih a List.mem_cons_self
  have g := hm a List.mem_cons_self
  have ok := rdLab_ok hL g.1.1
  rw [okL_iff] at ok hp
  have ok' : okL (bA p (rd_T60 L a.f1).f0) (bA q (rd_T60 L a.f1).f1) = true := okL_iff.2 ⟨isS_bA hp.1 ok.1, isS_bA hp.2 ok.2⟩
  simp only [List.cons_append, List.mem_cons, List.mem_append] at hx
  rcases hx with e | (e | e) | e
  ·subst e; exact okL_iff.2 hp
  ·exact h.1 _ _ g.2.1 ok' x e
  ·exact h.2 _ _ g.2.2 ok' x e
  ·exact ihr (fun t ht => ih t (List.mem_cons_of_mem _ ht)) (fun t ht => hm t (List.mem_cons_of_mem _ ht)) x e
theorem sp_at (L : List S60) (S : List S50) (hL : L.all (fun x => okL x.f0 x.f1) = true) : ∀ (l : List S50) (p q : Int) (out : List S60), good L.length l → okL p q = true → out.length + nTs l ≤ 1048576 → Ev (fun k => spec_l11At.f k L S l p q out) (out ++ laTs L l p q) := by
 refine tree_ind fun l ih p q out hg hp hl => ?_
 have hlen := nTs_length l
 have loop : ∀ (d n : Nat) (out : List S60), n + d = l.length → out.length + nTs (l.drop n) ≤ 1048576 → Ev (fun k => spec_l11At.l0 k l out (n : Int) L S p q) (out ++ laTs L (l.drop n) p q) := by
  intro d
  induction d with
  | zero =>
   intro n out hn _
   refine Ev.succ_ (Ev.all_ fun k => ?_)
   have h1 : ¬ ((n : Int) < (l.length : Int)) := by omega
   simp only [spec_l11At.l0, h1, if_false]
   rw [List.drop_of_length_le (by omega), laTs, List.append_nil]
  | succ d ih2 =>
   intro n out hn ho
   refine Ev.succ_ ?_
   have h1 : (n : Int) < (l.length : Int) := by omega
   have h2 : (0 : Int) ≤ (n : Int) := by omega
   have h4 : wrap64 ((n : Int) + 1) = ((n + 1 : Nat) : Int) := by rw [wr (by omega) (by omega)]; omega
   have hm := rdS_mem (l := l) (n := n) (by omega)
   have hs := good_mem hg hm
   obtain ⟨i4, i5⟩ := ih _ hm
   rw [rdS_drop (l := l) (n := n) (by omega), nTs_cons] at ho
   rw [rdS_drop (l := l) (n := n) (by omega), laTs, laT_eq]
   have hv := var_lt hs.1.1
   have h5 : out.length < 8796093022208 := by omega
   simp only [spec_l11At.l0, h1, h2, h4, h5, hv.1, hv.2, if_true]
   generalize rd_T50 l (n : Int) = s at *
   have ok := rdLab_ok hL hs.1.1
   have e : bothL p q (rd_T60 L s.f1).f0 (rd_T60 L s.f1).f1 = (bA p (rd_T60 L s.f1).f0, bA q (rd_T60 L s.f1).f1) := by unfold bothL; rw [hp, ok]; rfl
   have b := Ev.from_ 6 (fun k hk => sp_both p q (rd_T60 L s.f1).f0 (rd_T60 L s.f1).f1 k hk)
   rw [e] at b
   rw [okL_iff] at ok
   have hp' := okL_iff.1 hp
   have ok' : okL (bA p (rd_T60 L s.f1).f0) (bA q (rd_T60 L s.f1).f1) = true := okL_iff.2 ⟨isS_bA hp'.1 ok.1, isS_bA hp'.2 ok.2⟩
   have l4 := laTs_length L s.f4 (bA p (rd_T60 L s.f1).f0) (bA q (rd_T60 L s.f1).f1)
   have l5 := laTs_length L s.f5 (bA p (rd_T60 L s.f1).f0) (bA q (rd_T60 L s.f1).f1)
   refine Ev.bind b (Ev.bind (i4 _ _ _ hs.2.1 ok' (by simp; omega)) (Ev.bind (i5 _ _ _ hs.2.2 ok' (by simp only [List.length_append, List.length_cons, List.length_nil]; omega)) ?_))
   refine Ev.eq_ (ih2 (n + 1) _ (by omega) (by simp only [List.length_append, List.length_cons, List.length_nil]; omega)) ?_
   simp [List.append_assoc]
 refine Ev.succ_ ?_
 simp only [spec_l11At.f]
 exact loop l.length 0 out (by omega) (by rw [List.drop_zero]; omega)
theorem eta_s (s : S50) : (⟨s.f0, s.f1, (⟨s.f2.f0, s.f2.f1, s.f2.f2⟩ : S48), s.f3, s.f4, s.f5⟩ : S50) = s := by cases s; rfl
theorem sp_all : ∀ l : List S50, nTs l ≤ 1048576 → Ev (fun k => spec_l2All.f k l) (alTs l) := by
 refine tree_ind fun l ih hl => ?_
 have hlen := nTs_length l
 have loop : ∀ (d n : Nat) (out : List S50), n + d = l.length → out.length + nTs (l.drop n) ≤ 1048576 → Ev (fun k => spec_l2All.l0 k l out (n : Int)) (out ++ alTs (l.drop n)) := by
  intro d
  induction d with
  | zero =>
   intro n out hn _
   refine Ev.succ_ (Ev.all_ fun k => ?_)
   have h1 : ¬ ((n : Int) < (l.length : Int)) := by omega
   simp only [spec_l2All.l0, h1, if_false]
   rw [List.drop_of_length_le (by omega), alTs, List.append_nil]
  | succ d ih2 =>
   intro n out hn ho
   refine Ev.succ_ ?_
   have h1 : (n : Int) < (l.length : Int) := by omega
   have h2 : (0 : Int) ≤ (n : Int) := by omega
   have h4 : wrap64 ((n : Int) + 1) = ((n + 1 : Nat) : Int) := by rw [wr (by omega) (by omega)]; omega
   have hm := rdS_mem (l := l) (n := n) (by omega)
   have hs := nTs_mem hm
   obtain ⟨i4, i5⟩ := ih _ hm
   rw [rdS_drop (l := l) (n := n) (by omega), nTs_cons] at ho
   rw [rdS_drop (l := l) (n := n) (by omega), alTs, alT_eq]
   have h5 : out.length < 1466015503701 := by omega
   simp only [spec_l2All.l0, h1, h2, h4, h5, if_true, Option.bind_some]
   generalize rd_T50 l (n : Int) = s at *
   simp only [eta_s]
   have l4 := alTs_length s.f4
   have l5 := alTs_length s.f5
   refine Ev.bind (i4 (by omega)) ?_
   have h6 : (out ++ [s]).length + (alTs s.f4).length < 1466015503701 := by simp; omega
   simp only [h6, if_true]
   refine Ev.bind (i5 (by omega)) ?_
   have h7 : ((out ++ [s]) ++ alTs s.f4).length + (alTs s.f5).length < 1466015503701 := by simp only [List.length_append, List.length_cons, List.length_nil]; omega
   simp only [h7, if_true]
   refine Ev.eq_ (ih2 (n + 1) _ (by omega) (by simp only [List.length_append, List.length_cons, List.length_nil]; omega)) ?_
   simp [List.append_assoc]
 refine Ev.succ_ ?_
 simp only [spec_l2All.f]
 simpa using loop l.length 0 [] (by omega) (by rw [List.drop_zero]; simp; omega)
end Go.Proofs.Ytaflodibibbakaa.A
namespace Go.Proofs.Ytaflodibibbakaa.A
open Go.RowKit Go.Proofs.YtaflodibibbakaaW.PrintWords Go.Proofs.YtaflodibibbakaaW.PrintLast Go.Proofs.YtaflodibibbakaaW.PrintMore
def hasB (s h : Int) : Bool := hostB h && (Go.bits .and .i64 (shr .i64 s h) 1 == 1)
theorem has_fin : ∀ (x : Fin 8) (h : Fin 3), spec_l1Has.f (x.val : Int) (h.val : Int) = some (hasB (x.val : Int) (h.val : Int)) := by decide +kernel
theorem has_and : ∀ (x y : Fin 8) (h : Fin 3), hasB (bA (x.val : Int) (y.val : Int)) (h.val : Int) = (hasB (x.val : Int) (h.val : Int) && hasB (y.val : Int) (h.val : Int)) := by decide +kernel
theorem bA_assoc_fin : ∀ x y z : Fin 8, bA (x.val : Int) (bA (y.val : Int) (z.val : Int)) = bA (bA (x.val : Int) (y.val : Int)) (z.val : Int) := by decide +kernel
theorem bA_seven : ∀ x : Fin 8, bA 7 (x.val : Int) = (x.val : Int) ∧ bA (x.val : Int) 7 = (x.val : Int) := by decide +kernel
theorem as_host {h : Int} (e : hostB h = true) : ∃ x : Fin 3, h = (x.val : Int) := by
 unfold hostB at e
 simp only [Bool.and_eq_true, decide_eq_true_eq] at e
 exact ⟨⟨h.toNat, by omega⟩, by simp; omega⟩
theorem bA_assoc {a b c : Int} (ha : isS a = true) (hb : isS b = true) (hc : isS c = true) : bA a (bA b c) = bA (bA a b) c := by
 obtain ⟨x, rfl⟩ := as_fin ha
 obtain ⟨y, rfl⟩ := as_fin hb
 obtain ⟨z, rfl⟩ := as_fin hc
 exact bA_assoc_fin x y z
theorem bA_7l {a : Int} (ha : isS a = true) : bA 7 a = a := by
 obtain ⟨x, rfl⟩ := as_fin ha
 exact (bA_seven x).1
theorem bA_7r {a : Int} (ha : isS a = true) : bA a 7 = a := by
 obtain ⟨x, rfl⟩ := as_fin ha
 exact (bA_seven x).2
theorem isS7 : isS 7 = true := by decide
theorem ok77 : okL 7 7 = true := by decide
theorem both_ev {a b c d : Int} (h : okL a b = true) (h' : okL c d = true) : Ev (fun k => spec_LabelBoth.f k a b c d) (bA a c, bA b d) := by
 have e := Ev.from_ 6 (fun k hk => sp_both a b c d k hk)
 unfold bothL at e
 rw [h, h'] at e
 exact e
/-- What is made of some variables. -/
def foldS (L : List S60) : List Int → Int → Int → Int × Int
 | [], p, q => (p, q)
 | v :: r, p, q => foldS L r (bA p (rd_T60 L v).f0) (bA q (rd_T60 L v).f1)
def varsOf (x : S48) : List Int := if x.f0 = 2 then [x.f1] else if x.f0 = 3 ∨ x.f0 = 4 then [x.f1, x.f2] else []
/-- The label of a value. -/
def valL (L : List S60) (x : S48) : Int × Int := foldS L (varsOf x) 7 7
theorem valL_ok {L : List S60} (hL : L.all (fun x => okL x.f0 x.f1) = true) {x : S48} (h : valB L.length x = true) {p q : Int} (hp : okL p q = true) :
  okL (valL L x).1 (valL L x).2 = true ∧ (bA p (valL L x).1, bA q (valL L x).2) = foldS L (varsOf x) p q ∧ okL (foldS L (varsOf x) p q).1 (foldS L (varsOf x) p q).2 = true := by
 rw [okL_iff] at hp
 unfold valL varsOf
 unfold valB at h
 by_cases h1 : x.f0 = 1
 ·simp only [h1, show ¬ (1 : Int) = 3 by omega, show ¬ (1 : Int) = 4 by omega, show ¬ (1 : Int) = 2 by omega, if_false, or_self, foldS]
  exact ⟨ok77, by rw [bA_7r hp.1, bA_7r hp.2], okL_iff.2 hp⟩
 ·rw [if_neg h1] at h
  by_cases h2 : x.f0 = 2
  ·rw [if_pos h2] at h
   simp only [Bool.and_eq_true] at h
   have a := okL_iff.1 (rdLab_ok hL h.1)
   simp only [h2, if_true, foldS]
   rw [bA_7l a.1, bA_7l a.2]
   exact ⟨okL_iff.2 a, rfl, okL_iff.2 ⟨isS_bA hp.1 a.1, isS_bA hp.2 a.2⟩⟩
  ·rw [if_neg h2] at h
   by_cases h34 : x.f0 = 3 ∨ x.f0 = 4
   ·rw [if_pos h34] at h
    simp only [Bool.and_eq_true] at h
    have a := okL_iff.1 (rdLab_ok hL h.1)
    have b := okL_iff.1 (rdLab_ok hL h.2)
    simp only [h2, h34, if_true, if_false, foldS]
    rw [bA_7l a.1, bA_7l a.2, bA_assoc hp.1 a.1 b.1, bA_assoc hp.2 a.2 b.2]
    exact ⟨okL_iff.2 ⟨isS_bA a.1 b.1, isS_bA a.2 b.2⟩, rfl, okL_iff.2 ⟨isS_bA (isS_bA hp.1 a.1) b.1, isS_bA (isS_bA hp.2 a.2) b.2⟩⟩
   ·rw [if_neg h34] at h
    exact absurd h (by decide)
/-- A step is fine. -/
def fineB (L : List S60) (s : S50) (x : S60) : Bool :=
 if s.f0 = 1 then wi (rd_T60 L s.f1).f0 (foldS L (varsOf s.f2) x.f0 x.f1).1 && wi (rd_T60 L s.f1).f1 (foldS L (varsOf s.f2) x.f0 x.f1).2
 else if s.f0 = 3 then hasB x.f0 s.f3 && hasB (rd_T60 L s.f1).f0 s.f3 else true
/-- The first that is not fine, from a place on. -/
def whyR (L : List S60) : List S50 → List S60 → Int → Int × Bool
 | s :: r, x :: m, i => if fineB L s x then whyR L r m (i + 1) else (i, true)
 | _, _, _ => (0, false)
/-- TypeWhy of a program that is in form. -/
def whyP (L : List S60) (S : List S50) : Int × Bool := whyR L (alTs S) (laTs L S 7 7) 0
theorem progB_parts {L : List S60} {S : List S50} (h : progB L S = true) : L.length ≤ 4 ∧ L.all (fun x => okL x.f0 x.f1) = true ∧ good L.length S ∧ nTs S ≤ 8 := by
 unfold progB at h
 simp only [Bool.and_eq_true, decide_eq_true_eq] at h
 exact ⟨h.1, h.2.1, ⟨3, h.2.2.1⟩, h.2.2.2⟩
theorem sp_typeAt (L : List S60) (S : List S50) (h : progB L S = true) : Ev (fun k => spec_TypeAt.f k L S) (laTs L S 7 7) := by
 obtain ⟨h1, h2, h3, h4⟩ := progB_parts h
 unfold spec_TypeAt.f
 refine Ev.bind (sp_progOk L S (by omega) (by omega)) ?_
 rw [h]
 simp only [if_true, spec_l11Any.f, spec_l1All.f, Option.bind_some]
 exact Ev.bind (sp_at L S h2 S 7 7 [] h3 ok77 (by simp; omega)) (Ev.now _)
end Go.Proofs.Ytaflodibibbakaa.A
namespace Go.Proofs.Ytaflodibibbakaa.A
open Go.RowKit Go.Proofs.YtaflodibibbakaaW.PrintWords Go.Proofs.YtaflodibibbakaaW.PrintLast Go.Proofs.YtaflodibibbakaaW.PrintMore
theorem im_labels (L : List S60) (S : List S50) : ∀ (l : List S50) (p q : Int) (out : List S60), good L.length l → out.length + nTs l ≤ 1048576 → Ev (fun k => impl_Prog_labels.f k L S l p q out) (out ++ laTs L l p q) := by
 refine tree_ind fun l ih p q out hg hl => ?_
 have hlen := nTs_length l
 have loop : ∀ (d n : Nat) (out : List S60), n + d = l.length → out.length + nTs (l.drop n) ≤ 1048576 → Ev (fun k => impl_Prog_labels.l0 k out l (l.length : Int) (n : Int) L S p q) (out ++ laTs L (l.drop n) p q) := by
  intro d
  induction d with
  | zero =>
   intro n out hn _
   refine Ev.succ_ (Ev.all_ fun k => ?_)
   have h1 : ¬ ((n : Int) < (l.length : Int)) := by omega
   simp only [impl_Prog_labels.l0, h1, if_false]
   rw [List.drop_of_length_le (by omega), laTs, List.append_nil]
  | succ d ih2 =>
   intro n out hn ho
   refine Ev.succ_ ?_
   have h1 : (n : Int) < (l.length : Int) := by omega
   have h2 : (0 : Int) ≤ (n : Int) := by omega
   have h4 : wrap64 ((n : Int) + 1) = ((n + 1 : Nat) : Int) := by rw [wr (by omega) (by omega)]; omega
   have hm := rdS_mem (l := l) (n := n) (by omega)
   have hs := good_mem hg hm
   obtain ⟨i4, i5⟩ := ih _ hm
   rw [rdS_drop (l := l) (n := n) (by omega), nTs_cons] at ho
   rw [rdS_drop (l := l) (n := n) (by omega), laTs, laT_eq]
   have hv := var_lt hs.1.1
   have h5 : out.length < 8796093022208 := by omega
   simp only [impl_Prog_labels.l0, h1, h2, h4, h5, hv.1, hv.2, if_true, impl_Label_both.f, Option.bind_some]
   generalize rd_T50 l (n : Int) = s at *
   have l4 := laTs_length L s.f4 (bA p (rd_T60 L s.f1).f0) (bA q (rd_T60 L s.f1).f1)
   have l5 := laTs_length L s.f5 (bA p (rd_T60 L s.f1).f0) (bA q (rd_T60 L s.f1).f1)
   refine Ev.bind (i4 _ _ _ hs.2.1 (by simp; omega)) (Ev.bind (i5 _ _ _ hs.2.2 (by simp only [List.length_append, List.length_cons, List.length_nil]; unfold bA at l4; omega)) ?_)
   refine Ev.eq_ (ih2 (n + 1) _ (by omega) (by simp only [List.length_append, List.length_cons, List.length_nil]; unfold bA at l4 l5; omega)) ?_
   unfold bA
   simp [List.append_assoc]
 refine Ev.succ_ ?_
 simp only [impl_Prog_labels.f]
 exact loop l.length 0 out (by omega) (by rw [List.drop_zero]; omega)
theorem im_all : ∀ l : List S50, nTs l ≤ 1048576 → Ev (fun k => impl_all.f k l) (alTs l) := by
 refine tree_ind fun l ih hl => ?_
 have hlen := nTs_length l
 have loop : ∀ (d n : Nat) (out : List S50), n + d = l.length → out.length + nTs (l.drop n) ≤ 1048576 → Ev (fun k => impl_all.l0 k out l (l.length : Int) (n : Int)) (out ++ alTs (l.drop n)) := by
  intro d
  induction d with
  | zero =>
   intro n out hn _
   refine Ev.succ_ (Ev.all_ fun k => ?_)
   have h1 : ¬ ((n : Int) < (l.length : Int)) := by omega
   simp only [impl_all.l0, h1, if_false]
   rw [List.drop_of_length_le (by omega), alTs, List.append_nil]
  | succ d ih2 =>
   intro n out hn ho
   refine Ev.succ_ ?_
   have h1 : (n : Int) < (l.length : Int) := by omega
   have h2 : (0 : Int) ≤ (n : Int) := by omega
   have h4 : wrap64 ((n : Int) + 1) = ((n + 1 : Nat) : Int) := by rw [wr (by omega) (by omega)]; omega
   have hm := rdS_mem (l := l) (n := n) (by omega)
   have hs := nTs_mem hm
   obtain ⟨i4, i5⟩ := ih _ hm
   rw [rdS_drop (l := l) (n := n) (by omega), nTs_cons] at ho
   rw [rdS_drop (l := l) (n := n) (by omega), alTs, alT_eq]
   have h5 : out.length < 1466015503701 := by omega
   simp only [impl_all.l0, h1, h2, h4, h5, if_true, Option.bind_some]
   generalize rd_T50 l (n : Int) = s at *
   simp only [eta_s]
   have l4 := alTs_length s.f4
   have l5 := alTs_length s.f5
   refine Ev.bind (i4 (by omega)) ?_
   have h6 : (out ++ [s]).length + (alTs s.f4).length < 1466015503701 := by simp; omega
   simp only [h6, if_true]
   refine Ev.bind (i5 (by omega)) ?_
   have h7 : ((out ++ [s]) ++ alTs s.f4).length + (alTs s.f5).length < 1466015503701 := by simp only [List.length_append, List.length_cons, List.length_nil]; omega
   simp only [h7, if_true]
   refine Ev.eq_ (ih2 (n + 1) _ (by omega) (by simp only [List.length_append, List.length_cons, List.length_nil]; omega)) ?_
   simp [List.append_assoc]
 refine Ev.succ_ ?_
 simp only [impl_all.f]
 simpa using loop l.length 0 [] (by omega) (by rw [List.drop_zero]; simp; omega)
theorem im_hasB (s h : Int) : impl_has.f s h = some (hasB s h) := by
 unfold impl_has.f hasB
 rw [im_host]
 cases e : hostB h with
 | false => rfl
 | true =>
  unfold hostB at e
  simp only [Bool.and_eq_true, decide_eq_true_eq] at e
  simp [e.1]
theorem im_at (L : List S60) (S : List S50) (h : progB L S = true) : Ev (fun k => impl_Prog_at.f k L S) (laTs L S 7 7) := by
 obtain ⟨h1, h2, h3, h4⟩ := progB_parts h
 unfold impl_Prog_at.f
 simp only [impl_everybody.f, Option.bind_some]
 exact Ev.bind (im_labels L S S 7 7 [] h3 (by simp; omega)) (Ev.now _)
end Go.Proofs.Ytaflodibibbakaa.A
namespace Go.Proofs.Ytaflodibibbakaa.A
open Go.RowKit Go.Proofs.YtaflodibibbakaaW.PrintWords Go.Proofs.YtaflodibibbakaaW.PrintLast Go.Proofs.YtaflodibibbakaaW.PrintMore
theorem wr_nums {A B : Nat} {n : Int} (h : A + B ≤ 1048576) (h0 : -1 ≤ n) (h1 : n ≤ 2000000) : wrap64 (1 + (A : Int)) = 1 + (A : Int) ∧ wrap64 (1 + (A : Int) + (B : Int)) = 1 + (A : Int) + (B : Int) ∧ wrap64 (n - 1) = n - 1 ∧ wrap64 (n - 1 - (A : Int)) = n - 1 - (A : Int) ∧ wrap64 (n - (1 + (A : Int) + (B : Int))) = n - (1 + (A : Int) + (B : Int)) :=
 ⟨wr (by omega) (by omega), wr (by omega) (by omega), wr (by omega) (by omega), wr (by omega) (by omega), wr (by omega) (by omega)⟩
theorem hb_of {X M x y A B D N : Nat} (e : X = M + (1 + (x + y))) (h : x + y ≤ A + B) (ha : M + (1 + (A + B) + D) ≤ N) : X + D ≤ N := by omega
theorem whyR_range (L : List S60) : ∀ (a : List S50) (m : List S60) (i : Int), 0 ≤ i → 0 ≤ (whyR L a m i).1 ∧ (whyR L a m i).1 ≤ i + a.length := by
 intro a
 induction a with
 | nil => intro m i hi; cases m <;> simp [whyR] <;> omega
 | cons s r ih =>
  intro m i hi
  cases m with
  | nil => simp [whyR]; omega
  | cons x m =>
   have := ih m (i + 1) (by omega)
   simp only [whyR, List.length_cons]
   split
   ·omega
   ·simp only; omega
end Go.Proofs.Ytaflodibibbakaa.A
namespace Go.Proofs.Ytaflodibibbakaa.A
open Go.RowKit Go.Proofs.YtaflodibibbakaaW.PrintWords Go.Proofs.YtaflodibibbakaaW.PrintLast Go.Proofs.YtaflodibibbakaaW.PrintMore
/-- A program's size, -1 if it is none. -/
def sizeP (L : List S60) (S : List S50) : Int := if progB L S = true then (nTs S : Int) else -1
theorem sizeP_ok {L : List S60} {S : List S50} (h : progB L S = true) : sizeP L S = (nTs S : Int) := if_pos h
theorem sizeP_no {L : List S60} {S : List S50} (h : progB L S = false) : sizeP L S = -1 := if_neg (by rw [h]; decide)
theorem okTs_mono : ∀ l : List S50, ∀ (n d e : Int), d ≤ e → okTs n l d = true → okTs n l e = true := by
 refine tree_ind fun l ih n d e hde h => ?_
 have : ∀ r : List S50, (∀ s ∈ r, s ∈ l) → okTs n r d = true → okTs n r e = true := by
  intro r
  induction r with
  | nil => intro _ _; rw [okTs]
  | cons s r ihr =>
   intro hm h
   rw [okTs, Bool.and_eq_true] at h ⊢
   refine ⟨?_, ihr (fun x hx => hm x (List.mem_cons_of_mem _ hx)) h.2⟩
   obtain ⟨i4, i5⟩ := ih s (hm s List.mem_cons_self)
   have h1 := h.1
   rw [okT_eq] at h1 ⊢
   simp only [Bool.and_eq_true, decide_eq_true_eq] at h1 ⊢
   refine ⟨by omega, h1.2.1, ?_⟩
   have h2 := h1.2.2
   by_cases k1 : s.f0 = 1
   ·rw [if_pos k1] at h2 ⊢; exact h2
   ·rw [if_neg k1] at h2 ⊢
    by_cases k3 : s.f0 = 3
    ·rw [if_pos k3] at h2 ⊢; exact h2
    ·rw [if_neg k3] at h2 ⊢
     by_cases k2 : s.f0 = 2
     ·rw [if_pos k2] at h2 ⊢
      simp only [Bool.and_eq_true] at h2 ⊢
      exact ⟨h2.1, h2.2.1, i4 n (d - 1) (e - 1) (by omega) h2.2.2.1, i5 n (d - 1) (e - 1) (by omega) h2.2.2.2⟩
     ·rw [if_neg k2] at h2; cases h2
 exact this l (fun _ h => h) h
theorem okT_sub {n : Int} {s : S50} {d : Int} (h : okT n s d = true) : okTs n s.f4 d = true ∧ okTs n s.f5 d = true := by
 rw [okT_eq] at h
 simp only [Bool.and_eq_true, decide_eq_true_eq] at h
 have h2 := h.2.2
 have e : ∀ l : List S50, l.isEmpty = true → okTs n l d = true := fun l hl => by
  rw [List.isEmpty_iff] at hl
  rw [hl, okTs]
 by_cases k1 : s.f0 = 1
 ·rw [if_pos k1] at h2
  simp only [Bool.and_eq_true] at h2
  exact ⟨e _ h2.2.2.1, e _ h2.2.2.2⟩
 ·rw [if_neg k1] at h2
  by_cases k3 : s.f0 = 3
  ·rw [if_pos k3] at h2
   simp only [Bool.and_eq_true] at h2
   exact ⟨e _ h2.2.2.1, e _ h2.2.2.2⟩
  ·rw [if_neg k3] at h2
   by_cases k2 : s.f0 = 2
   ·rw [if_pos k2] at h2
    simp only [Bool.and_eq_true] at h2
    exact ⟨okTs_mono _ _ _ _ (by omega) h2.2.2.1, okTs_mono _ _ _ _ (by omega) h2.2.2.2⟩
   ·rw [if_neg k2] at h2; cases h2
theorem okTs_mem {n : Int} {d : Int} : ∀ {l : List S50} {s : S50}, okTs n l d = true → s ∈ l → okT n s d = true := by
 intro l
 induction l with
 | nil => intro s _ h; cases h
 | cons a r ih =>
  intro s h hs
  rw [okTs, Bool.and_eq_true] at h
  rcases List.mem_cons.1 hs with e | e
  ·rw [e]; exact h.1
  ·exact ih h.2 e
theorem prog_sub {L : List S60} {S : List S50} {s : S50} (h : progB L S = true) (hs : s ∈ S) : progB L s.f4 = true ∧ progB L s.f5 = true := by
 unfold progB at h ⊢
 simp only [Bool.and_eq_true, decide_eq_true_eq] at h ⊢
 have h1 := okT_sub (okTs_mem h.2.2.1 hs)
 have h2 := nTs_mem hs
 exact ⟨⟨h.1, h.2.1, h1.1, by omega⟩, ⟨h.1, h.2.1, h1.2, by omega⟩⟩
end Go.Proofs.Ytaflodibibbakaa.A
namespace Go.Proofs.Ytaflodibibbakaa.A
open Go.RowKit Go.Proofs.YtaflodibibbakaaW.PrintWords Go.Proofs.YtaflodibibbakaaW.PrintLast Go.Proofs.YtaflodibibbakaaW.PrintMore
/-- A program is fine. -/
def typeB (L : List S60) (S : List S50) : Bool := if progB L S = true then !(whyP L S).2 else false
theorem whyR_two (L : List S60) : ∀ (a : List S50) (m : List S60) (i : Int), m.length = a.length → (whyR L a m i).2 = !(a.zip m).all (fun x => fineB L x.1 x.2) := by
 intro a
 induction a with
 | nil => intro m i h; cases m <;> simp [whyR]
 | cons s r ih =>
  intro m i h
  cases m with
  | nil => simp at h
  | cons x m =>
   simp only [List.length_cons] at h
   have := ih m (i + 1) (by omega)
   simp only [whyR, List.zip_cons_cons, List.all_cons]
   cases fineB L s x with
   | false => simp
   | true => simp [this]
theorem alTs_append (a b : List S50) : alTs (a ++ b) = alTs a ++ alTs b := by
 induction a with
 | nil => rw [List.nil_append, alTs, List.nil_append]
 | cons s r ih => rw [List.cons_append, alTs, alTs, ih, List.append_assoc]
theorem laTs_append (L : List S60) (a b : List S50) (p q : Int) : laTs L (a ++ b) p q = laTs L a p q ++ laTs L b p q := by
 induction a with
 | nil => rw [List.nil_append, laTs, List.nil_append]
 | cons s r ih => rw [List.cons_append, laTs, laTs, ih, List.append_assoc]
/-- All steps are fine, from what is known on. -/
def allB (L : List S60) (S : List S50) (p q : Int) : Bool := ((alTs S).zip (laTs L S p q)).all (fun x => fineB L x.1 x.2)
theorem typeB_ok {L : List S60} {S : List S50} (h : progB L S = true) : typeB L S = allB L S 7 7 := by
 rw [typeB, if_pos h, whyP, whyR_two L _ _ _ (by rw [laTs_length, alTs_length]), Bool.not_not, allB]
theorem typeB_no {L : List S60} {S : List S50} (h : progB L S = false) : typeB L S = false := if_neg (by rw [h]; decide)
theorem allB_append (L : List S60) (a b : List S50) (p q : Int) : allB L (a ++ b) p q = (allB L a p q && allB L b p q) := by
 unfold allB
 rw [alTs_append, laTs_append, List.zip_append (by rw [laTs_length, alTs_length]), List.all_append]
theorem okTs_append (n : Int) (a b : List S50) (d : Int) : okTs n (a ++ b) d = (okTs n a d && okTs n b d) := by
 induction a with
 | nil => rw [List.nil_append, okTs, Bool.true_and]
 | cons s r ih => rw [List.cons_append, okTs, okTs, ih, Bool.and_assoc]
theorem prog_part {L : List S60} {a b : List S50} (h : progB L (a ++ b) = true) : progB L a = true ∧ progB L b = true := by
 unfold progB at h ⊢
 rw [okTs_append, nTs_append] at h
 simp only [Bool.and_eq_true, decide_eq_true_eq] at h ⊢
 exact ⟨⟨h.1, h.2.1, h.2.2.1.1, by omega⟩, ⟨h.1, h.2.1, h.2.2.1.2, by omega⟩⟩
end Go.Proofs.Ytaflodibibbakaa.A
namespace Go.Proofs.Ytaflodibibbakaa.A
open Go.RowKit Go.Proofs.YtaflodibibbakaaW.PrintWords Go.Proofs.YtaflodibibbakaaW.PrintLast Go.Proofs.YtaflodibibbakaaW.PrintMore
def bO (a b : Int) : Int := Go.bits .or .i64 a b
theorem bO_wrap : ∀ x y : Fin 8, wrap64 (wrap64 ((x.val : Int) + (y.val : Int)) - bA (x.val : Int) (y.val : Int)) = bO (x.val : Int) (y.val : Int) := by decide +kernel
theorem bO_is : ∀ x y : Fin 8, isS (bO (x.val : Int) (y.val : Int)) = true := by decide +kernel
theorem bO_zero : ∀ x : Fin 8, bO (x.val : Int) 0 = (x.val : Int) ∧ bO 0 (x.val : Int) = (x.val : Int) := by decide +kernel
theorem bO_assoc_fin : ∀ x y z : Fin 8, bO (bO (x.val : Int) (y.val : Int)) (z.val : Int) = bO (x.val : Int) (bO (y.val : Int) (z.val : Int)) := by decide +kernel
theorem wi_or : ∀ x y z : Fin 8, wi (bO (x.val : Int) (y.val : Int)) (z.val : Int) = (wi (x.val : Int) (z.val : Int) && wi (y.val : Int) (z.val : Int)) := by decide +kernel
theorem wi_tr : ∀ x y z : Fin 8, wi (x.val : Int) (bA (y.val : Int) (z.val : Int)) = true → wi (x.val : Int) (y.val : Int) = true := by decide +kernel
theorem wi_zero : ∀ x : Fin 8, wi 0 (x.val : Int) = true := by decide +kernel
theorem isS_bO {a b : Int} (ha : isS a = true) (hb : isS b = true) : isS (bO a b) = true := by
 obtain ⟨x, rfl⟩ := as_fin ha
 obtain ⟨y, rfl⟩ := as_fin hb
 exact bO_is x y
theorem bO_0r {a : Int} (ha : isS a = true) : bO a 0 = a := by
 obtain ⟨x, rfl⟩ := as_fin ha
 exact (bO_zero x).1
theorem bO_0l {a : Int} (ha : isS a = true) : bO 0 a = a := by
 obtain ⟨x, rfl⟩ := as_fin ha
 exact (bO_zero x).2
theorem bO_assoc {a b c : Int} (ha : isS a = true) (hb : isS b = true) (hc : isS c = true) : bO (bO a b) c = bO a (bO b c) := by
 obtain ⟨x, rfl⟩ := as_fin ha
 obtain ⟨y, rfl⟩ := as_fin hb
 obtain ⟨z, rfl⟩ := as_fin hc
 exact bO_assoc_fin x y z
theorem wi_bO {a b c : Int} (ha : isS a = true) (hb : isS b = true) (hc : isS c = true) (h : wi a c = true) (h' : wi b c = true) : wi (bO a b) c = true := by
 obtain ⟨x, rfl⟩ := as_fin ha
 obtain ⟨y, rfl⟩ := as_fin hb
 obtain ⟨z, rfl⟩ := as_fin hc
 rw [wi_or, h, h']
 rfl
theorem wi_bA {a b c : Int} (ha : isS a = true) (hb : isS b = true) (hc : isS c = true) (h : wi a (bA b c) = true) : wi a b = true := by
 obtain ⟨x, rfl⟩ := as_fin ha
 obtain ⟨y, rfl⟩ := as_fin hb
 obtain ⟨z, rfl⟩ := as_fin hc
 exact wi_tr x y z h
theorem isS0 : isS 0 = true := by decide
theorem sp_or1 {a b : Int} (ha : isS a = true) (hb : isS b = true) : Ev (fun k => spec_l1Either.f k a b) (bO a b) := by
 refine Ev.from_ 5 fun k hk => ?_
 unfold spec_l1Either.f
 rw [sp_both1 ha hb k hk]
 obtain ⟨x, rfl⟩ := as_fin ha
 obtain ⟨y, rfl⟩ := as_fin hb
 simp only [Option.bind_some, bO_wrap]
/-- Who trusts what one step sets itself. -/
def ownV (L : List S60) (s : S50) : Int := if s.f0 = 1 then (rd_T60 L s.f1).f1 else 0
mutual
def seT (L : List S60) : S50 → Int
 | ⟨k, v, x, h, a, b⟩ => bO (ownV L ⟨k, v, x, h, a, b⟩) (bO (seTs L a) (seTs L b))
/-- Who trusts what is set in steps. -/
def seTs (L : List S60) : List S50 → Int
 | [] => 0
 | s :: r => bO (seT L s) (seTs L r)
end
theorem seT_eq (L : List S60) (s : S50) : seT L s = bO (ownV L s) (bO (seTs L s.f4) (seTs L s.f5)) := by cases s; rw [seT]
theorem ownV_is {L : List S60} (hL : L.all (fun x => okL x.f0 x.f1) = true) {s : S50} (h : stepG L.length s) : isS (ownV L s) = true := by
 unfold ownV
 by_cases c : s.f0 = 1
 ·rw [if_pos c]; exact (okL_iff.1 (rdLab_ok hL h.1)).2
 ·rw [if_neg c]; exact isS0
theorem seTs_is {L : List S60} (hL : L.all (fun x => okL x.f0 x.f1) = true) : ∀ l : List S50, good L.length l → isS (seTs L l) = true := by
 refine tree_ind fun l ih hg => ?_
 have hm : ∀ t ∈ l, stepG L.length t ∧ good L.length t.f4 ∧ good L.length t.f5 := fun t ht => good_mem hg ht
 clear hg
 induction l with
 | nil => rw [seTs]; exact isS0
 | cons a r ihr =>
  have h := ih a List.mem_cons_self
  have g := hm a List.mem_cons_self
  rw [seTs, seT_eq]
  exact isS_bO (isS_bO (ownV_is hL g.1) (isS_bO (h.1 g.2.1) (h.2 g.2.2))) (ihr (fun t ht => ih t (List.mem_cons_of_mem _ ht)) (fun t ht => hm t (List.mem_cons_of_mem _ ht)))
theorem good_drop {n : Int} {l : List S50} (h : good n l) (m : Nat) : good n (l.drop m) := by
 induction m generalizing l with
 | zero => exact h
 | succ m ih =>
  cases l with
  | nil => exact h
  | cons a r =>
   obtain ⟨d, h⟩ := h
   rw [okTs, Bool.and_eq_true] at h
   exact ih ⟨d, h.2⟩
theorem good_one {n : Int} {l : List S50} (h : good n l) {s : S50} (hs : s ∈ l) : good n [s] := by
 obtain ⟨d, h⟩ := h
 induction l with
 | nil => cases hs
 | cons a r ih =>
  rw [okTs, Bool.and_eq_true] at h
  rcases List.mem_cons.1 hs with e | e
  ·subst e; exact ⟨d, by rw [okTs, okTs, h.1]; rfl⟩
  ·exact ih e h.2
theorem im_sets (L : List S60) (S : List S50) (hL : L.all (fun x => okL x.f0 x.f1) = true) : ∀ l : List S50, good L.length l → nTs l ≤ 1048576 → Ev (fun k => impl_Prog_sets.f k L S l) (seTs L l) := by
 refine tree_ind fun l ih hg hl => ?_
 have hlen := nTs_length l
 have loop : ∀ (d n : Nat) (x : Int), n + d = l.length → isS x = true → Ev (fun k => impl_Prog_sets.l0 k x l (l.length : Int) (n : Int) L S) (bO x (seTs L (l.drop n))) := by
  intro d
  induction d with
  | zero =>
   intro n x hn hx
   refine Ev.succ_ (Ev.all_ fun k => ?_)
   have h1 : ¬ ((n : Int) < (l.length : Int)) := by omega
   simp only [impl_Prog_sets.l0, h1, if_false]
   rw [List.drop_of_length_le (by omega), seTs, bO_0r hx]
  | succ d ih2 =>
   intro n x hn hx
   refine Ev.succ_ ?_
   have h1 : (n : Int) < (l.length : Int) := by omega
   have h2 : (0 : Int) ≤ (n : Int) := by omega
   have h4 : wrap64 ((n : Int) + 1) = ((n + 1 : Nat) : Int) := by rw [wr (by omega) (by omega)]; omega
   have hm := rdS_mem (l := l) (n := n) (by omega)
   have hs := good_mem hg hm
   have hsz := nTs_mem hm
   obtain ⟨i4, i5⟩ := ih _ hm
   have hr := seTs_is hL _ (good_drop hg (n + 1))
   rw [rdS_drop (l := l) (n := n) (by omega), seTs, seT_eq]
   have hv := var_lt hs.1.1
   simp only [impl_Prog_sets.l0, h1, h2, h4, hv.1, hv.2, if_true]
   have ho := ownV_is hL hs.1
   generalize rd_T50 l (n : Int) = s at *
   have a4 := seTs_is hL _ hs.2.1
   have a5 := seTs_is hL _ hs.2.2
   have key : bO x (bO (bO (ownV L s) (bO (seTs L s.f4) (seTs L s.f5))) (seTs L (l.drop (n + 1)))) = bO (bO (bO x (ownV L s)) (bO (seTs L s.f4) (seTs L s.f5))) (seTs L (l.drop (n + 1))) := by
    rw [bO_assoc hx ho (isS_bO a4 a5), bO_assoc hx (isS_bO ho (isS_bO a4 a5)) hr]
   rw [key]
   have e4 := i4 hs.2.1 (by omega)
   have e5 := i5 hs.2.2 (by omega)
   by_cases c : s.f0 = 1
   ·have eo : ownV L s = (rd_T60 L s.f1).f1 := by rw [ownV, if_pos c]
    simp only [c, if_true]
    refine Ev.bind e4 (Ev.bind e5 ?_)
    rw [eo] at ho ⊢
    exact ih2 (n + 1) _ (by omega) (isS_bO (isS_bO hx ho) (isS_bO a4 a5))
   ·have eo : ownV L s = 0 := by rw [ownV, if_neg c]
    simp only [c, if_false]
    refine Ev.bind e4 (Ev.bind e5 ?_)
    rw [eo, bO_0r hx]
    exact ih2 (n + 1) _ (by omega) (isS_bO hx (isS_bO a4 a5))
 refine Ev.succ_ ?_
 simp only [impl_Prog_sets.f]
 refine Ev.eq_ (loop l.length 0 0 (by omega) isS0) ?_
 rw [List.drop_zero, bO_0l (seTs_is hL l hg)]
theorem sp_sets (L : List S60) (S : List S50) (hL : L.all (fun x => okL x.f0 x.f1) = true) : ∀ l : List S50, good L.length l → nTs l ≤ 1048576 → Ev (fun k => spec_l11Sets.f k L S l) (seTs L l) := by
 refine tree_ind fun l ih hg hl => ?_
 have hlen := nTs_length l
 have loop : ∀ (d n : Nat) (x : Int), n + d = l.length → isS x = true → Ev (fun k => spec_l11Sets.l0 k l x (n : Int) L S) (bO x (seTs L (l.drop n))) := by
  intro d
  induction d with
  | zero =>
   intro n x hn hx
   refine Ev.succ_ (Ev.all_ fun k => ?_)
   have h1 : ¬ ((n : Int) < (l.length : Int)) := by omega
   simp only [spec_l11Sets.l0, h1, if_false]
   rw [List.drop_of_length_le (by omega), seTs, bO_0r hx]
  | succ d ih2 =>
   intro n x hn hx
   refine Ev.succ_ ?_
   have h1 : (n : Int) < (l.length : Int) := by omega
   have h2 : (0 : Int) ≤ (n : Int) := by omega
   have h4 : wrap64 ((n : Int) + 1) = ((n + 1 : Nat) : Int) := by rw [wr (by omega) (by omega)]; omega
   have hm := rdS_mem (l := l) (n := n) (by omega)
   have hs := good_mem hg hm
   have hsz := nTs_mem hm
   obtain ⟨i4, i5⟩ := ih _ hm
   have hr := seTs_is hL _ (good_drop hg (n + 1))
   rw [rdS_drop (l := l) (n := n) (by omega), seTs, seT_eq]
   have hv := var_lt hs.1.1
   simp only [spec_l11Sets.l0, h1, h2, hv.1, hv.2, if_true]
   have ho := ownV_is hL hs.1
   generalize rd_T50 l (n : Int) = s at *
   have a4 := seTs_is hL _ hs.2.1
   have a5 := seTs_is hL _ hs.2.2
   have key : bO x (bO (bO (ownV L s) (bO (seTs L s.f4) (seTs L s.f5))) (seTs L (l.drop (n + 1)))) = bO (bO (bO x (ownV L s)) (bO (seTs L s.f4) (seTs L s.f5))) (seTs L (l.drop (n + 1))) := by
    rw [bO_assoc hx ho (isS_bO a4 a5), bO_assoc hx (isS_bO ho (isS_bO a4 a5)) hr]
   rw [key]
   have e4 := i4 hs.2.1 (by omega)
   have e5 := i5 hs.2.2 (by omega)
   have rest : ∀ x' : Int, isS x' = true → Ev (fun k => spec_l11Sets.j1 k l x' (n : Int) L S s.f0 s.f1 s.f2.f0 s.f2.f1 s.f2.f2 s.f3 s.f4 s.f5) (bO (bO x' (bO (seTs L s.f4) (seTs L s.f5))) (seTs L (l.drop (n + 1)))) := by
    intro x' hx'
    refine Ev.succ_ ?_
    simp only [spec_l11Sets.j1, h4]
    exact Ev.bind e4 (Ev.bind e5 (Ev.bind (sp_or1 a4 a5) (Ev.bind (sp_or1 hx' (isS_bO a4 a5)) (ih2 (n + 1) _ (by omega) (isS_bO hx' (isS_bO a4 a5))))))
   by_cases c : s.f0 = 1
   ·have eo : ownV L s = (rd_T60 L s.f1).f1 := by rw [ownV, if_pos c]
    rw [eo] at ho ⊢
    simp only [if_pos c]
    exact Ev.bind (sp_or1 hx ho) (rest _ (isS_bO hx ho))
   ·have eo : ownV L s = 0 := by rw [ownV, if_neg c]
    rw [eo, bO_0r hx]
    simp only [if_neg c]
    exact rest _ hx
 refine Ev.succ_ ?_
 simp only [spec_l11Sets.f]
 refine Ev.eq_ (loop l.length 0 0 (by omega) isS0) ?_
 rw [List.drop_zero, bO_0l (seTs_is hL l hg)]
/-- TypeSets of steps that are in form. -/
def setsL (L : List S60) (a : List S50) : List Int := a.map (fun s => seTs L [s])
theorem alTs_one (n : Int) : ∀ l : List S50, good n l → ∀ s ∈ alTs l, good n [s] ∧ nTs [s] ≤ nTs l := by
 refine tree_ind fun l ih hg => ?_
 have hm : ∀ t ∈ l, good n [t] ∧ good n t.f4 ∧ good n t.f5 := fun t ht => ⟨good_one hg ht, (good_mem hg ht).2⟩
 clear hg
 induction l with
 | nil => intro s hs; rw [alTs] at hs; cases hs
 | cons a r ihr =>
  intro s hs
  rw [alTs, alT_eq] at hs
  have h := ih a List.mem_cons_self
  have g := hm a List.mem_cons_self
  have e0 := nTs_cons a r
  simp only [List.cons_append, List.mem_cons, List.mem_append] at hs
  rcases hs with e | (e | e) | e
  ·subst e; exact ⟨g.1, by have e1 := nTs_cons s []; rw [nTs_nil] at e1; omega⟩
  ·have := h.1 g.2.1 s e; exact ⟨this.1, by omega⟩
  ·have := h.2 g.2.2 s e; exact ⟨this.1, by omega⟩
  ·have := ihr (fun t ht => ih t (List.mem_cons_of_mem _ ht)) (fun t ht => hm t (List.mem_cons_of_mem _ ht)) s e
   exact ⟨this.1, by omega⟩
theorem im_setsL (L : List S60) (S : List S50) (hL : L.all (fun x => okL x.f0 x.f1) = true) (a : List S50) (ha : a.length ≤ 1048576) (hg : ∀ s ∈ a, good L.length [s] ∧ nTs [s] ≤ 1048576) :
  ∀ (d n : Nat) (out : List Int), n + d = a.length → out.length = n → Ev (fun k => impl_TypeSets.l0 k out a (a.length : Int) (n : Int) L S) (out ++ setsL L (a.drop n)) := by
 intro d
 induction d with
 | zero =>
  intro n out hn ho
  refine Ev.succ_ (Ev.all_ fun k => ?_)
  have h1 : ¬ ((n : Int) < (a.length : Int)) := by omega
  simp only [impl_TypeSets.l0, h1, if_false]
  rw [List.drop_of_length_le (by omega), setsL, List.map_nil, List.append_nil]
 | succ d ih =>
  intro n out hn ho
  refine Ev.succ_ ?_
  have h1 : (n : Int) < (a.length : Int) := by omega
  have h2 : (0 : Int) ≤ (n : Int) := by omega
  have h4 : wrap64 ((n : Int) + 1) = ((n + 1 : Nat) : Int) := by rw [wr (by omega) (by omega)]; omega
  have h5 : out.length < 17592186044416 := by omega
  have hm := rdS_mem (l := a) (n := n) (by omega)
  simp only [impl_TypeSets.l0, h1, h2, h4, h5, if_true, eta_s]
  refine Ev.bind (im_sets L S hL _ (hg _ hm).1 (hg _ hm).2) ?_
  refine Ev.eq_ (ih (n + 1) _ (by omega) (by simp [ho])) ?_
  rw [rdS_drop (l := a) (n := n) (by omega), setsL, setsL, List.map_cons, List.append_assoc]
  rfl
theorem sp_setsL (L : List S60) (S : List S50) (hL : L.all (fun x => okL x.f0 x.f1) = true) (a : List S50) (ha : a.length ≤ 1048576) (hg : ∀ s ∈ a, good L.length [s] ∧ nTs [s] ≤ 1048576) :
  ∀ (d n : Nat) (out : List Int), n + d = a.length → out.length = n → Ev (fun k => spec_TypeSets.l0 k out a (n : Int) L S) (out ++ setsL L (a.drop n)) := by
 intro d
 induction d with
 | zero =>
  intro n out hn ho
  refine Ev.succ_ (Ev.all_ fun k => ?_)
  have h1 : ¬ ((n : Int) < (a.length : Int)) := by omega
  simp only [spec_TypeSets.l0, h1, if_false]
  rw [List.drop_of_length_le (by omega), setsL, List.map_nil, List.append_nil]
 | succ d ih =>
  intro n out hn ho
  refine Ev.succ_ ?_
  have h1 : (n : Int) < (a.length : Int) := by omega
  have h2 : (0 : Int) ≤ (n : Int) := by omega
  have h4 : wrap64 ((n : Int) + 1) = ((n + 1 : Nat) : Int) := by rw [wr (by omega) (by omega)]; omega
  have h5 : out.length < 17592186044416 := by omega
  have h6 : (n : Int) ≤ ((n + 1 : Nat) : Int) := by omega
  have h7 : ((n + 1 : Nat) : Int) ≤ (a.length : Int) := by omega
  have hm := rdS_mem (l := a) (n := n) (by omega)
  have e1 : (a.take (n + 1)).drop n = [rd_T50 a (n : Int)] := by
   rw [List.drop_take, Nat.add_sub_cancel_left, rdS_drop (l := a) (n := n) (by omega)]
   rfl
  simp only [spec_TypeSets.l0, h1, h2, h4, h5, h6, h7, if_true, Int.toNat_natCast, e1]
  refine Ev.bind (sp_sets L S hL _ (hg _ hm).1 (hg _ hm).2) ?_
  refine Ev.eq_ (ih (n + 1) _ (by omega) (by simp [ho])) ?_
  rw [rdS_drop (l := a) (n := n) (by omega), setsL, setsL, List.map_cons, List.append_assoc]
  rfl
def setsP (L : List S60) (S : List S50) : List Int := if progB L S = true then setsL L (alTs S) else []
theorem setsP_hg {L : List S60} {S : List S50} (h : progB L S = true) : (alTs S).length ≤ 1048576 ∧ ∀ s ∈ alTs S, good L.length [s] ∧ nTs [s] ≤ 1048576 := by
 obtain ⟨_, _, hg, h4⟩ := progB_parts h
 refine ⟨by rw [alTs_length]; omega, fun s hs => ?_⟩
 have := alTs_one _ S hg s hs
 exact ⟨this.1, by omega⟩
theorem im_setsP (L : List S60) (S : List S50) (h1 : L.length ≤ 1048576) (h2 : nTs S ≤ 1048576) : Ev (fun k => impl_TypeSets.f k L S) (setsP L S) := by
 unfold impl_TypeSets.f setsP
 refine Ev.bind (im_progOk _ _ h1 h2) ?_
 cases hk : progB L S with
 | false => simp only [Bool.false_eq_true, if_false]; exact Ev.now _
 | true =>
  simp only [if_true]
  refine Ev.bind (im_all S h2) ?_
  have := setsP_hg hk
  exact Ev.eq_ (im_setsL L S (progB_parts hk).2.1 _ this.1 this.2 _ 0 [] (Nat.zero_add _) rfl) (by rw [List.drop_zero, List.nil_append])
theorem sp_setsP (L : List S60) (S : List S50) (h1 : L.length ≤ 1048576) (h2 : nTs S ≤ 1048576) : Ev (fun k => spec_TypeSets.f k L S) (setsP L S) := by
 unfold spec_TypeSets.f setsP
 simp only [Option.bind_some]
 refine Ev.bind (sp_progOk _ _ h1 h2) ?_
 cases hk : progB L S with
 | false => simp only [Bool.false_eq_true, if_false]; exact Ev.now _
 | true =>
  simp only [if_true]
  refine Ev.bind (sp_all S h2) ?_
  have := setsP_hg hk
  exact Ev.eq_ (sp_setsL L S (progB_parts hk).2.1 _ this.1 this.2 _ 0 [] (Nat.zero_add _) rfl) (by rw [List.drop_zero, List.nil_append])
/-- What is set is within the label of being done, where all steps are fine. -/
theorem sets_within {L : List S60} (hL : L.all (fun x => okL x.f0 x.f1) = true) : ∀ (l : List S50) (p q : Int), good L.length l → okL p q = true → allB L l p q = true → wi (seTs L l) q = true := by
 refine tree_ind fun l ih p q hg => ?_
 have hm : ∀ t ∈ l, stepG L.length t ∧ good L.length t.f4 ∧ good L.length t.f5 := fun t ht => good_mem hg ht
 clear hg
 intro hp hb
 have hp' := okL_iff.1 hp
 induction l with
 | nil =>
  rw [seTs]
  obtain ⟨y, rfl⟩ := as_fin hp'.2
  exact wi_zero y
 | cons s r ihr =>
  have h := ih s List.mem_cons_self
  have g := hm s List.mem_cons_self
  have ok := rdLab_ok hL g.1.1
  have ok' := okL_iff.1 ok
  have okn : okL (bA p (rd_T60 L s.f1).f0) (bA q (rd_T60 L s.f1).f1) = true := okL_iff.2 ⟨isS_bA hp'.1 ok'.1, isS_bA hp'.2 ok'.2⟩
  have e : allB L (s :: r) p q = (fineB L s ⟨p, q⟩ && (allB L s.f4 (bA p (rd_T60 L s.f1).f0) (bA q (rd_T60 L s.f1).f1) && allB L s.f5 (bA p (rd_T60 L s.f1).f0) (bA q (rd_T60 L s.f1).f1)) && allB L r p q) := by
   unfold allB
   rw [alTs, laTs, alT_eq, laT_eq]
   simp only [List.cons_append, List.zip_cons_cons, List.all_cons]
   rw [List.zip_append (by simp only [List.length_append, laTs_length, alTs_length]), List.all_append, List.zip_append (by rw [laTs_length, alTs_length]), List.all_append]
   simp only [Bool.and_assoc]
  rw [e] at hb
  simp only [Bool.and_eq_true] at hb
  obtain ⟨⟨hf, h4, h5⟩, hr⟩ := hb
  have i4 := wi_bA (seTs_is hL _ g.2.1) hp'.2 ok'.2 (h.1 _ _ g.2.1 okn h4)
  have i5 := wi_bA (seTs_is hL _ g.2.2) hp'.2 ok'.2 (h.2 _ _ g.2.2 okn h5)
  have ir := ihr (fun t ht => ih t (List.mem_cons_of_mem _ ht)) (fun t ht => hm t (List.mem_cons_of_mem _ ht)) hr
  have a4 := seTs_is hL _ g.2.1
  have a5 := seTs_is hL _ g.2.2
  have ar : isS (seTs L r) = true := by
   have : ∀ t : List S50, (∀ x ∈ t, stepG L.length x ∧ good L.length x.f4 ∧ good L.length x.f5) → isS (seTs L t) = true := by
    intro t
    induction t with
    | nil => intro _; rw [seTs]; exact isS0
    | cons a b ihb =>
     intro ht
     have ga := ht a List.mem_cons_self
     rw [seTs, seT_eq]
     exact isS_bO (isS_bO (ownV_is hL ga.1) (isS_bO (seTs_is hL _ ga.2.1) (seTs_is hL _ ga.2.2))) (ihb fun x hx => ht x (List.mem_cons_of_mem _ hx))
   exact this r fun t ht => hm t (List.mem_cons_of_mem _ ht)
  have io : wi (ownV L s) q = true := by
   unfold ownV
   by_cases c : s.f0 = 1
   ·rw [if_pos c]
    unfold fineB at hf
    rw [if_pos c, Bool.and_eq_true] at hf
    obtain ⟨o1, o2, o3⟩ := valL_ok hL (g.1.2.1 c) hp
    rw [← o2] at hf
    exact wi_bA ok'.2 hp'.2 (okL_iff.1 o1).2 hf.2
   ·rw [if_neg c]
    obtain ⟨y, rfl⟩ := as_fin hp'.2
    exact wi_zero y
  rw [seTs, seT_eq]
  exact wi_bO (isS_bO (ownV_is hL g.1) (isS_bO a4 a5)) ar hp'.2 (wi_bO (ownV_is hL g.1) (isS_bO a4 a5) hp'.2 io (wi_bO a4 a5 hp'.2 i4 i5)) ir
/-- Of each step alone. -/
theorem each_within {L : List S60} (hL : L.all (fun x => okL x.f0 x.f1) = true) : ∀ (l : List S50) (p q : Int), good L.length l → okL p q = true → allB L l p q = true → ∀ y ∈ (alTs l).zip (laTs L l p q), wi (seTs L [y.1]) y.2.f1 = true ∧ isS (seTs L [y.1]) = true ∧ isS y.2.f1 = true := by
 refine tree_ind fun l ih p q hg => ?_
 have hm : ∀ t ∈ l, good L.length [t] := fun t ht => good_one hg ht
 clear hg
 intro hp hb
 have hp' := okL_iff.1 hp
 induction l with
 | nil => intro y hy; rw [alTs] at hy; cases hy
 | cons s r ihr =>
  intro y hy
  have h := ih s List.mem_cons_self
  have g1 := hm s List.mem_cons_self
  have g := good_mem g1 (List.mem_singleton_self s)
  have ok := rdLab_ok hL g.1.1
  have ok' := okL_iff.1 ok
  have okn : okL (bA p (rd_T60 L s.f1).f0) (bA q (rd_T60 L s.f1).f1) = true := okL_iff.2 ⟨isS_bA hp'.1 ok'.1, isS_bA hp'.2 ok'.2⟩
  have e : allB L (s :: r) p q = (allB L [s] p q && allB L r p q) := allB_append L [s] r p q
  rw [e, Bool.and_eq_true] at hb
  have e1 : allB L [s] p q = (fineB L s ⟨p, q⟩ && (allB L s.f4 (bA p (rd_T60 L s.f1).f0) (bA q (rd_T60 L s.f1).f1) && allB L s.f5 (bA p (rd_T60 L s.f1).f0) (bA q (rd_T60 L s.f1).f1))) := by
   unfold allB
   rw [alTs, laTs, alT_eq, laT_eq, alTs, laTs]
   simp only [List.zip_cons_cons, List.all_cons, List.append_nil]
   rw [List.zip_append (by rw [laTs_length, alTs_length]), List.all_append]
  have w1 := sets_within hL [s] p q g1 hp hb.1
  have b1 := hb.1
  rw [e1] at b1
  simp only [Bool.and_eq_true] at b1
  rw [alTs, laTs, alT_eq, laT_eq] at hy
  simp only [List.cons_append, List.zip_cons_cons] at hy
  rw [List.zip_append (by simp only [List.length_append, laTs_length, alTs_length]), List.zip_append (by rw [laTs_length, alTs_length])] at hy
  simp only [List.mem_cons, List.mem_append] at hy
  rcases hy with e | (e | e) | e
  ·subst e; exact ⟨w1, seTs_is hL _ g1, hp'.2⟩
  ·exact h.1 _ _ g.2.1 okn b1.2.1 y e
  ·exact h.2 _ _ g.2.2 okn b1.2.2 y e
  ·exact ihr (fun t ht => ih t (List.mem_cons_of_mem _ ht)) (fun t ht => hm t (List.mem_cons_of_mem _ ht)) hb.2 y e
end Go.Proofs.Ytaflodibibbakaa.A
