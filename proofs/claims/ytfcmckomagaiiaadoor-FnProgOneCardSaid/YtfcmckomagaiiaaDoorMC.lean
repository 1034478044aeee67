/- Plain facts on what the functions compute, several texts in one: see wip/pure. -/
import Derived.Test.YtfcmckomagaiiaaDoorAx18
import Derived.Test.YtfcmckomagaiiaaDoorAx19
import Derived.Test.YtfcmckomagaiiaaDoorMA
import Derived.Test.YtfcmckomagaiiaaDoorAx21
import Derived.Test.YtfcmckomagaiiaaDoorAx0
import Derived.Test.YtfcmckomagaiiaaDoorAx20
import Derived.Test.YtfcmckomagaiiaaDoorAx3
import Derived.Test.YtfcmckomagaiiaaDoorAx5
import Derived.Test.YtfcmckomagaiiaaDoorAx22
import Derived.Test.YtfcmckomagaiiaaDoorAx23
import Derived.Test.YtfcmckomagaiiaaDoorAx24
namespace Go.Proofs.YtfcmckomagaiiaaDoor.A
open Go.RowKit Go.Proofs.YtfcmckomagaiiaaDoorW.PrintWords Go.Proofs.YtfcmckomagaiiaaDoorW.PrintLast Go.Proofs.YtfcmckomagaiiaaDoorW.PrintMore
def bA (a b : Int) : Int := Go.bits .and .i64 a b
theorem bA_fin : ∀ x y : Fin 8, spec_l1Both.f 5 (x.val : Int) (y.val : Int) = some (bA (x.val : Int) (y.val : Int)) := by decide +kernel
theorem sp_both1 {a b : Int} (ha : isS a = true) (hb : isS b = true) (k : Nat) (hk : 5 ≤ k) : spec_l1Both.f k a b = some (bA a b) := by
 obtain ⟨x, rfl⟩ := as_fin ha
 obtain ⟨y, rfl⟩ := as_fin hb
 exact at_rounds (spec_l1Both.mono _ _) hk (bA_fin x y)
def bothL (a0 a1 b0 b1 : Int) : Int × Int := if okL a0 a1 && okL b0 b1 then (bA a0 b0, bA a1 b1) else (0, 0)
theorem sp_both (a0 a1 b0 b1 : Int) (k : Nat) (hk : 6 ≤ k) : spec_LabelBoth.f k a0 a1 b0 b1 = some (bothL a0 a1 b0 b1) := by
 obtain ⟨k, rfl⟩ : ∃ m, k = m + 1 := ⟨k - 1, by omega⟩
 unfold spec_LabelBoth.f bothL
 rw [sp_ok, sp_ok]
 cases h1 : okL a0 a1 <;> cases h2 : okL b0 b1 <;> simp [spec_LabelBoth.j0]
 have h1' : isS a0 = true ∧ isS a1 = true := by simpa [okL] using h1
 have h2' : isS b0 = true ∧ isS b1 = true := by simpa [okL] using h2
 rw [sp_both1 h1'.1 h2'.1 k (by omega), sp_both1 h1'.2 h2'.2 k (by omega)]
 rfl
end Go.Proofs.YtfcmckomagaiiaaDoor.A
namespace Go.Proofs.YtfcmckomagaiiaaDoor.A
open Go.RowKit Go.Proofs.YtfcmckomagaiiaaDoorW.PrintWords Go.Proofs.YtfcmckomagaiiaaDoorW.PrintLast Go.Proofs.YtfcmckomagaiiaaDoorW.PrintMore
/-- One set is within another one. -/
def wi (a b : Int) : Bool := Go.bits .andNot .i64 a b == 0
theorem wi_fin : ∀ x y : Fin 8, spec_l1Within.f 5 (x.val : Int) (y.val : Int) = some (wi (x.val : Int) (y.val : Int)) := by decide +kernel
theorem sp_within {a b : Int} (ha : isS a = true) (hb : isS b = true) (k : Nat) (hk : 5 ≤ k) : spec_l1Within.f k a b = some (wi a b) := by
 obtain ⟨x, rfl⟩ := as_fin ha
 obtain ⟨y, rfl⟩ := as_fin hb
 exact at_rounds (spec_l1Within.mono _ _) hk (wi_fin x y)
def flowsB (a0 a1 b0 b1 : Int) : Bool := okL a0 a1 && (okL b0 b1 && (wi b0 a0 && wi b1 a1))
theorem sp_flows (a0 a1 b0 b1 : Int) (k : Nat) (hk : 5 ≤ k) : spec_LabelFlows.f k a0 a1 b0 b1 = some (flowsB a0 a1 b0 b1) := by
 unfold spec_LabelFlows.f flowsB
 rw [sp_ok, sp_ok]
 cases h1 : okL a0 a1 <;> cases h2 : okL b0 b1 <;> simp
 have h1' : isS a0 = true ∧ isS a1 = true := by simpa [okL] using h1
 have h2' : isS b0 = true ∧ isS b1 = true := by simpa [okL] using h2
 rw [sp_within h2'.1 h1'.1 k hk, sp_within h2'.2 h1'.2 k hk]
 cases wi b0 a0 <;> simp
end Go.Proofs.YtfcmckomagaiiaaDoor.A
namespace Go.Proofs.YtfcmckomagaiiaaDoor.A
open Go.RowKit Go.Proofs.YtfcmckomagaiiaaDoorW.PrintWords Go.Proofs.YtfcmckomagaiiaaDoorW.PrintLast Go.Proofs.YtfcmckomagaiiaaDoorW.PrintMore
/-- What is known of a step of a program that is in form. -/
def stepG (n : Int) (s : S71) : Prop := varB n s.f1 = true ∧ (s.f0 = 1 → valB n s.f2 = true) ∧ (s.f0 = 3 → hostB s.f3 = true)
/-- Steps in form, at some depth. -/
def good (n : Int) (l : List S71) : Prop := ∃ d, okTs n l d = true
theorem good_nil (n : Int) : good n [] := ⟨0, by rw [okTs]⟩
theorem good_of_empty (n : Int) {l : List S71} (h : l.isEmpty = true) : good n l := by
 rw [List.isEmpty_iff] at h; subst h; exact good_nil n
theorem okT_good {n : Int} {s : S71} {d : Int} (h : okT n s d = true) : stepG n s ∧ good n s.f4 ∧ good n s.f5 := by
 rw [okT_eq, Bool.and_eq_true, Bool.and_eq_true] at h
 obtain ⟨_, hv, h⟩ := h
 by_cases k1 : s.f0 = 1
 ·rw [if_pos k1] at h
  simp only [Bool.and_eq_true] at h
  exact ⟨⟨hv, fun _ => h.1, fun k3 => by omega⟩, good_of_empty n h.2.2.1, good_of_empty n h.2.2.2⟩
 ·rw [if_neg k1] at h
  by_cases k3 : s.f0 = 3
  ·rw [if_pos k3] at h
   simp only [Bool.and_eq_true] at h
   exact ⟨⟨hv, fun k => absurd k k1, fun _ => h.2.1⟩, good_of_empty n h.2.2.1, good_of_empty n h.2.2.2⟩
  ·rw [if_neg k3] at h
   by_cases k2 : s.f0 = 2
   ·rw [if_pos k2] at h
    simp only [Bool.and_eq_true] at h
    exact ⟨⟨hv, fun k => absurd k k1, fun k => absurd k k3⟩, ⟨_, h.2.2.1⟩, ⟨_, h.2.2.2⟩⟩
   ·rw [if_neg k2] at h
    exact absurd h (by decide)
theorem good_mem {n : Int} {l : List S71} (h : good n l) {s : S71} (hs : s ∈ l) : stepG n s ∧ good n s.f4 ∧ good n s.f5 := by
 obtain ⟨d, h⟩ := h
 induction l with
 | nil => cases hs
 | cons a r ih =>
  rw [okTs, Bool.and_eq_true] at h
  rcases List.mem_cons.1 hs with e | e
  ·subst e; exact okT_good h.1
  ·exact ih e h.2
theorem var_lt {n v : Int} (h : varB n v = true) : 0 ≤ v ∧ v < n := by
 unfold varB at h
 simp only [Bool.and_eq_true, decide_eq_true_eq] at h
 omega
end Go.Proofs.YtfcmckomagaiiaaDoor.A
namespace Go.Proofs.YtfcmckomagaiiaaDoor.A
open Go.RowKit Go.Proofs.YtfcmckomagaiiaaDoorW.PrintWords Go.Proofs.YtfcmckomagaiiaaDoorW.PrintLast Go.Proofs.YtfcmckomagaiiaaDoorW.PrintMore
mutual
def alT : S71 → List S71
 | ⟨k, v, x, h, a, b⟩ => ⟨k, v, x, h, a, b⟩ :: (alTs a ++ alTs b)
/-- All steps as they are counted. -/
def alTs : List S71 → List S71
 | [] => []
 | s :: r => alT s ++ alTs r
end
theorem alT_eq (s : S71) : alT s = s :: (alTs s.f4 ++ alTs s.f5) := by cases s; rw [alT]
theorem alTs_length : ∀ l : List S71, (alTs l).length = nTs l := by
 refine tree_ind fun l ih => ?_
 induction l with
 | nil => rw [alTs, nTs_nil]; rfl
 | cons s r ihr =>
  have h := ih s (List.mem_cons_self)
  rw [alTs, alT_eq, nTs_cons]
  simp only [List.length_append, List.length_cons, h.1, h.2, ihr (fun t ht => ih t (List.mem_cons_of_mem _ ht))]
  omega
theorem alTs_good (n : Int) : ∀ l : List S71, good n l → ∀ s ∈ alTs l, stepG n s := by
 refine tree_ind fun l ih hg => ?_
 have hm : ∀ t ∈ l, stepG n t ∧ good n t.f4 ∧ good n t.f5 := fun t ht => good_mem hg ht
 clear hg
 induction l with
 | nil => intro s hs; rw [alTs] at hs; cases hs
 | cons a r ihr =>
  intro s hs
  rw [alTs, alT_eq] at hs
  have h := ih a List.mem_cons_self
  have g := hm a List.mem_cons_self
  simp only [List.cons_append, List.mem_cons, List.mem_append] at hs
  rcases hs with e | (e | e) | e
  ·subst e; exact g.1
  ·exact h.1 g.2.1 s e
  ·exact h.2 g.2.2 s e
  ·exact ihr (fun t ht => ih t (List.mem_cons_of_mem _ ht)) (fun t ht => hm t (List.mem_cons_of_mem _ ht)) s e
mutual
def laT (L : List S43) : S71 → Int → Int → List S43
 | ⟨_, v, _, _, a, b⟩, p, q => ⟨p, q⟩ :: (laTs L a (bA p (D43 L v).f0) (bA q (D43 L v).f1) ++ laTs L b (bA p (D43 L v).f0) (bA q (D43 L v).f1))
/-- The labels of steps being done. -/
def laTs (L : List S43) : List S71 → Int → Int → List S43
 | [], _, _ => []
 | s :: r, p, q => laT L s p q ++ laTs L r p q
end
theorem laT_eq (L : List S43) (s : S71) (p q : Int) : laT L s p q = ⟨p, q⟩ :: (laTs L s.f4 (bA p (D43 L s.f1).f0) (bA q (D43 L s.f1).f1) ++ laTs L s.f5 (bA p (D43 L s.f1).f0) (bA q (D43 L s.f1).f1)) := by cases s; rw [laT]
theorem laTs_length (L : List S43) : ∀ (l : List S71) (p q : Int), (laTs L l p q).length = nTs l := by
 refine tree_ind fun l ih => ?_
 induction l with
 | nil => intro p q; rw [laTs, nTs_nil]; rfl
 | cons s r ihr =>
  intro p q
  have h := ih s (List.mem_cons_self)
  rw [laTs, laT_eq, nTs_cons]
  simp only [List.length_append, List.length_cons, h.1, h.2, ihr (fun t ht => ih t (List.mem_cons_of_mem _ ht))]
  omega
theorem bA_is : ∀ x y : Fin 8, isS (bA (x.val : Int) (y.val : Int)) = true := by decide +kernel
theorem isS_bA {a b : Int} (ha : isS a = true) (hb : isS b = true) : isS (bA a b) = true := by
 obtain ⟨x, rfl⟩ := as_fin ha
 obtain ⟨y, rfl⟩ := as_fin hb
 exact bA_is x y
theorem okL_iff {a b : Int} : okL a b = true ↔ isS a = true ∧ isS b = true := by simp [okL]
theorem rdLab_ok {L : List S43} (hL : L.all (fun x => okL x.f0 x.f1) = true) {v : Int} (h : varB L.length v = true) : okL (D43 L v).f0 (D43 L v).f1 = true := by
 unfold varB at h
 simp only [Bool.and_eq_true, decide_eq_true_eq] at h
 have hv : v.toNat < L.length := by omega
 simp only [D43, List.getD_eq_getElem?_getD, List.getElem?_eq_getElem hv, Option.getD_some]
 exact List.all_eq_true.1 hL _ (List.getElem_mem hv)
theorem laTs_ok {L : List S43} (hL : L.all (fun x => okL x.f0 x.f1) = true) : ∀ (l : List S71) (p q : Int), good L.length l → okL p q = true → ∀ x ∈ laTs L l p q, okL x.f0 x.f1 = true := by
 refine tree_ind fun l ih p q hg => ?_
 have hm : ∀ t ∈ l, stepG L.length t ∧ good L.length t.f4 ∧ good L.length t.f5 := fun t ht => good_mem hg ht
 clear hg
 intro hp
 induction l with
 | nil => intro x hx; rw [laTs] at hx; cases hx
 | cons a r ihr =>
  intro x hx
  rw [laTs, laT_eq] at hx
  have h := ih a List.mem_cons_self
  have g := hm a List.mem_cons_self
  have ok := rdLab_ok hL g.1.1
  rw [okL_iff] at ok hp
  have ok' : okL (bA p (D43 L a.f1).f0) (bA q (D43 L a.f1).f1) = true := okL_iff.2 ⟨isS_bA hp.1 ok.1, isS_bA hp.2 ok.2⟩
  simp only [List.cons_append, List.mem_cons, List.mem_append] at hx
  rcases hx with e | (e | e) | e
  ·subst e; exact okL_iff.2 hp
  ·exact h.1 _ _ g.2.1 ok' x e
  ·exact h.2 _ _ g.2.2 ok' x e
  ·exact ihr (fun t ht => ih t (List.mem_cons_of_mem _ ht)) (fun t ht => hm t (List.mem_cons_of_mem _ ht)) x e
theorem sp_at (L : List S43) (S : List S71) (hL : L.all (fun x => okL x.f0 x.f1) = true) : ∀ (l : List S71) (p q : Int) (out : List S43), good L.length l → okL p q = true → out.length + nTs l ≤ 1048576 → Ev (fun k => spec_l11At.f k L S l p q out) (out ++ laTs L l p q) := by
 refine tree_ind fun l ih p q out hg hp hl => ?_
 have hlen := nTs_length l
 have loop : ∀ (d n : Nat) (out : List S43), n + d = l.length → out.length + nTs (l.drop n) ≤ 1048576 → Ev (fun k => spec_l11At.l0 k l out (n : Int) L S p q) (out ++ laTs L (l.drop n) p q) := by
  intro d
  induction d with
  | zero =>
   intro n out hn _
   refine Ev.succ_ (Ev.all_ fun k => ?_)
   have h1 : ¬ ((n : Int) < (l.length : Int)) := by omega
   simp only [spec_l11At.l0, h1, if_false]
   rw [List.drop_of_length_le (by omega), laTs, List.append_nil]
  | succ d ih2 =>
   intro n out hn ho
   refine Ev.succ_ ?_
   have h1 : (n : Int) < (l.length : Int) := by omega
   have h2 : (0 : Int) ≤ (n : Int) := by omega
   have h4 : wrap64 ((n : Int) + 1) = ((n + 1 : Nat) : Int) := by rw [wr (by omega) (by omega)]; omega
   have hm := rdS_mem (l := l) (n := n) (by omega)
   have hs := good_mem hg hm
   obtain ⟨i4, i5⟩ := ih _ hm
   rw [rdS_drop (l := l) (n := n) (by omega), nTs_cons] at ho
   rw [rdS_drop (l := l) (n := n) (by omega), laTs, laT_eq]
   have hv := var_lt hs.1.1
   have h5 : out.length < 8796093022208 := by omega
   simp only [spec_l11At.l0, h1, h2, h4, h5, hv.1, hv.2, if_true]
   generalize D71 l (n : Int) = s at *
   have ok := rdLab_ok hL hs.1.1
   have e : bothL p q (D43 L s.f1).f0 (D43 L s.f1).f1 = (bA p (D43 L s.f1).f0, bA q (D43 L s.f1).f1) := by unfold bothL; rw [hp, ok]; rfl
   have b := Ev.from_ 6 (fun k hk => sp_both p q (D43 L s.f1).f0 (D43 L s.f1).f1 k hk)
   rw [e] at b
   rw [okL_iff] at ok
   have hp' := okL_iff.1 hp
   have ok' : okL (bA p (D43 L s.f1).f0) (bA q (D43 L s.f1).f1) = true := okL_iff.2 ⟨isS_bA hp'.1 ok.1, isS_bA hp'.2 ok.2⟩
   have l4 := laTs_length L s.f4 (bA p (D43 L s.f1).f0) (bA q (D43 L s.f1).f1)
   have l5 := laTs_length L s.f5 (bA p (D43 L s.f1).f0) (bA q (D43 L s.f1).f1)
   refine Ev.bind b (Ev.bind (i4 _ _ _ hs.2.1 ok' (by simp; omega)) (Ev.bind (i5 _ _ _ hs.2.2 ok' (by simp only [List.length_append, List.length_cons, List.length_nil]; omega)) ?_))
   refine Ev.eq_ (ih2 (n + 1) _ (by omega) (by simp only [List.length_append, List.length_cons, List.length_nil]; omega)) ?_
   simp [List.append_assoc]
 refine Ev.succ_ ?_
 simp only [spec_l11At.f]
 exact loop l.length 0 out (by omega) (by rw [List.drop_zero]; omega)
theorem eta_s (s : S71) : (⟨s.f0, s.f1, (⟨s.f2.f0, s.f2.f1, s.f2.f2⟩ : S69), s.f3, s.f4, s.f5⟩ : S71) = s := by cases s; rfl
theorem sp_all : ∀ l : List S71, nTs l ≤ 1048576 → Ev (fun k => spec_l2All.f k l) (alTs l) := by
 refine tree_ind fun l ih hl => ?_
 have hlen := nTs_length l
 have loop : ∀ (d n : Nat) (out : List S71), n + d = l.length → out.length + nTs (l.drop n) ≤ 1048576 → Ev (fun k => spec_l2All.l0 k l out (n : Int)) (out ++ alTs (l.drop n)) := by
  intro d
  induction d with
  | zero =>
   intro n out hn _
   refine Ev.succ_ (Ev.all_ fun k => ?_)
   have h1 : ¬ ((n : Int) < (l.length : Int)) := by omega
   simp only [spec_l2All.l0, h1, if_false]
   rw [List.drop_of_length_le (by omega), alTs, List.append_nil]
  | succ d ih2 =>
   intro n out hn ho
   refine Ev.succ_ ?_
   have h1 : (n : Int) < (l.length : Int) := by omega
   have h2 : (0 : Int) ≤ (n : Int) := by omega
   have h4 : wrap64 ((n : Int) + 1) = ((n + 1 : Nat) : Int) := by rw [wr (by omega) (by omega)]; omega
   have hm := rdS_mem (l := l) (n := n) (by omega)
   have hs := nTs_mem hm
   obtain ⟨i4, i5⟩ := ih _ hm
   rw [rdS_drop (l := l) (n := n) (by omega), nTs_cons] at ho
   rw [rdS_drop (l := l) (n := n) (by omega), alTs, alT_eq]
   have h5 : out.length < 1466015503701 := by omega
   simp only [spec_l2All.l0, h1, h2, h4, h5, if_true, Option.bind_some]
   generalize D71 l (n : Int) = s at *
   simp only [eta_s]
   have l4 := alTs_length s.f4
   have l5 := alTs_length s.f5
   refine Ev.bind (i4 (by omega)) ?_
   have h6 : (out ++ [s]).length + (alTs s.f4).length < 1466015503701 := by simp; omega
   simp only [h6, if_true]
   refine Ev.bind (i5 (by omega)) ?_
   have h7 : ((out ++ [s]) ++ alTs s.f4).length + (alTs s.f5).length < 1466015503701 := by simp only [List.length_append, List.length_cons, List.length_nil]; omega
   simp only [h7, if_true]
   refine Ev.eq_ (ih2 (n + 1) _ (by omega) (by simp only [List.length_append, List.length_cons, List.length_nil]; omega)) ?_
   simp [List.append_assoc]
 refine Ev.succ_ ?_
 simp only [spec_l2All.f]
 simpa using loop l.length 0 [] (by omega) (by rw [List.drop_zero]; simp; omega)
end Go.Proofs.YtfcmckomagaiiaaDoor.A
namespace Go.Proofs.YtfcmckomagaiiaaDoor.A
open Go.RowKit Go.Proofs.YtfcmckomagaiiaaDoorW.PrintWords Go.Proofs.YtfcmckomagaiiaaDoorW.PrintLast Go.Proofs.YtfcmckomagaiiaaDoorW.PrintMore
def hasB (s h : Int) : Bool := hostB h && (Go.bits .and .i64 (shr .i64 s h) 1 == 1)
theorem has_fin : ∀ (x : Fin 8) (h : Fin 3), spec_l1Has.f (x.val : Int) (h.val : Int) = some (hasB (x.val : Int) (h.val : Int)) := by decide +kernel
theorem has_and : ∀ (x y : Fin 8) (h : Fin 3), hasB (bA (x.val : Int) (y.val : Int)) (h.val : Int) = (hasB (x.val : Int) (h.val : Int) && hasB (y.val : Int) (h.val : Int)) := by decide +kernel
theorem bA_assoc_fin : ∀ x y z : Fin 8, bA (x.val : Int) (bA (y.val : Int) (z.val : Int)) = bA (bA (x.val : Int) (y.val : Int)) (z.val : Int) := by decide +kernel
theorem bA_seven : ∀ x : Fin 8, bA 7 (x.val : Int) = (x.val : Int) ∧ bA (x.val : Int) 7 = (x.val : Int) := by decide +kernel
theorem as_host {h : Int} (e : hostB h = true) : ∃ x : Fin 3, h = (x.val : Int) := by
 unfold hostB at e
 simp only [Bool.and_eq_true, decide_eq_true_eq] at e
 exact ⟨⟨h.toNat, by omega⟩, by simp; omega⟩
theorem bA_assoc {a b c : Int} (ha : isS a = true) (hb : isS b = true) (hc : isS c = true) : bA a (bA b c) = bA (bA a b) c := by
 obtain ⟨x, rfl⟩ := as_fin ha
 obtain ⟨y, rfl⟩ := as_fin hb
 obtain ⟨z, rfl⟩ := as_fin hc
 exact bA_assoc_fin x y z
theorem bA_7l {a : Int} (ha : isS a = true) : bA 7 a = a := by
 obtain ⟨x, rfl⟩ := as_fin ha
 exact (bA_seven x).1
theorem bA_7r {a : Int} (ha : isS a = true) : bA a 7 = a := by
 obtain ⟨x, rfl⟩ := as_fin ha
 exact (bA_seven x).2
theorem isS7 : isS 7 = true := by decide
theorem ok77 : okL 7 7 = true := by decide
theorem both_ev {a b c d : Int} (h : okL a b = true) (h' : okL c d = true) : Ev (fun k => spec_LabelBoth.f k a b c d) (bA a c, bA b d) := by
 have e := Ev.from_ 6 (fun k hk => sp_both a b c d k hk)
 unfold bothL at e
 rw [h, h'] at e
 exact e
/-- What is made of some variables. -/
def foldS (L : List S43) : List Int → Int → Int → Int × Int
 | [], p, q => (p, q)
 | v :: r, p, q => foldS L r (bA p (D43 L v).f0) (bA q (D43 L v).f1)
def varsOf (x : S69) : List Int := if x.f0 = 2 then [x.f1] else if x.f0 = 3 ∨ x.f0 = 4 then [x.f1, x.f2] else []
/-- The label of a value. -/
def valL (L : List S43) (x : S69) : Int × Int := foldS L (varsOf x) 7 7
theorem sp_valL (L : List S43) (S : List S71) (hL : L.all (fun x => okL x.f0 x.f1) = true) (x : S69) (h : valB L.length x = true) :
  Ev (fun k => spec_l11Val.f k L S x.f0 x.f1 x.f2) (valL L x) := by
 unfold spec_l11Val.f spec_l11Any.f spec_l1All.f valL varsOf
 simp only [Option.bind_some]
 unfold valB at h
 by_cases h1 : x.f0 = 1
 ·simp only [h1, if_true, show ¬ (1 : Int) = 3 by omega, show ¬ (1 : Int) = 4 by omega, show ¬ (1 : Int) = 2 by omega, if_false, or_self, foldS]
  exact Ev.now _
 ·rw [if_neg h1] at h
  by_cases h2 : x.f0 = 2
  ·rw [if_pos h2] at h
   simp only [Bool.and_eq_true] at h
   have a := rdLab_ok hL h.1
   have lt := var_lt h.1
   simp only [h2, show ¬ (2 : Int) = 1 by omega, show ¬ (2 : Int) = 3 by omega, show ¬ (2 : Int) = 4 by omega, if_false, if_true, lt.1, lt.2, foldS]
   exact Ev.bind (both_ev ok77 a) (Ev.now _)
  ·rw [if_neg h2] at h
   by_cases h34 : x.f0 = 3 ∨ x.f0 = 4
   ·rw [if_pos h34] at h
    simp only [Bool.and_eq_true] at h
    have a := rdLab_ok hL h.1
    have b := rdLab_ok hL h.2
    have lt := var_lt h.1
    have lt' := var_lt h.2
    have ok' : okL (bA 7 (D43 L x.f1).f0) (bA 7 (D43 L x.f1).f1) = true := okL_iff.2 ⟨isS_bA isS7 (okL_iff.1 a).1, isS_bA isS7 (okL_iff.1 a).2⟩
    simp only [h1, h2, h34, if_false, if_true, lt.1, lt.2, lt'.1, lt'.2, foldS]
    refine Ev.bind (both_ev ok77 a) ?_
    by_cases h3 : x.f0 = 3
    ·simp only [h3, if_true]
     exact Ev.bind (both_ev ok' b) (Ev.now _)
    ·have h4 : x.f0 = 4 := by omega
     simp only [h4, show ¬ (4 : Int) = 3 by omega, if_false, if_true]
     exact Ev.bind (both_ev ok' b) (Ev.now _)
   ·rw [if_neg h34] at h
    exact absurd h (by decide)
theorem valL_ok {L : List S43} (hL : L.all (fun x => okL x.f0 x.f1) = true) {x : S69} (h : valB L.length x = true) {p q : Int} (hp : okL p q = true) :
  okL (valL L x).1 (valL L x).2 = true ∧ (bA p (valL L x).1, bA q (valL L x).2) = foldS L (varsOf x) p q ∧ okL (foldS L (varsOf x) p q).1 (foldS L (varsOf x) p q).2 = true := by
 rw [okL_iff] at hp
 unfold valL varsOf
 unfold valB at h
 by_cases h1 : x.f0 = 1
 ·simp only [h1, show ¬ (1 : Int) = 3 by omega, show ¬ (1 : Int) = 4 by omega, show ¬ (1 : Int) = 2 by omega, if_false, or_self, foldS]
  exact ⟨ok77, by rw [bA_7r hp.1, bA_7r hp.2], okL_iff.2 hp⟩
 ·rw [if_neg h1] at h
  by_cases h2 : x.f0 = 2
  ·rw [if_pos h2] at h
   simp only [Bool.and_eq_true] at h
   have a := okL_iff.1 (rdLab_ok hL h.1)
   simp only [h2, if_true, foldS]
   rw [bA_7l a.1, bA_7l a.2]
   exact ⟨okL_iff.2 a, rfl, okL_iff.2 ⟨isS_bA hp.1 a.1, isS_bA hp.2 a.2⟩⟩
  ·rw [if_neg h2] at h
   by_cases h34 : x.f0 = 3 ∨ x.f0 = 4
   ·rw [if_pos h34] at h
    simp only [Bool.and_eq_true] at h
    have a := okL_iff.1 (rdLab_ok hL h.1)
    have b := okL_iff.1 (rdLab_ok hL h.2)
    simp only [h2, h34, if_true, if_false, foldS]
    rw [bA_7l a.1, bA_7l a.2, bA_assoc hp.1 a.1 b.1, bA_assoc hp.2 a.2 b.2]
    exact ⟨okL_iff.2 ⟨isS_bA a.1 b.1, isS_bA a.2 b.2⟩, rfl, okL_iff.2 ⟨isS_bA (isS_bA hp.1 a.1) b.1, isS_bA (isS_bA hp.2 a.2) b.2⟩⟩
   ·rw [if_neg h34] at h
    exact absurd h (by decide)
/-- A step is fine. -/
def fineB (L : List S43) (s : S71) (x : S43) : Bool :=
 if s.f0 = 1 then wi (D43 L s.f1).f0 (foldS L (varsOf s.f2) x.f0 x.f1).1 && wi (D43 L s.f1).f1 (foldS L (varsOf s.f2) x.f0 x.f1).2
 else if s.f0 = 3 then hasB x.f0 s.f3 && hasB (D43 L s.f1).f0 s.f3 else true
theorem sp_fine (L : List S43) (S : List S71) (hL : L.all (fun x => okL x.f0 x.f1) = true) (s : S71) (hs : stepG L.length s) (x : S43) (hx : okL x.f0 x.f1 = true) :
  Ev (fun k => spec_l11Fine.f k L S s.f0 s.f1 s.f2.f0 s.f2.f1 s.f2.f2 s.f3 s.f4 s.f5 x.f0 x.f1) (fineB L s x) := by
 unfold spec_l11Fine.f fineB
 have lt := var_lt hs.1
 have t := rdLab_ok hL hs.1
 by_cases h1 : s.f0 = 1
 ·have hv := hs.2.1 h1
  obtain ⟨o1, o2, o3⟩ := valL_ok hL hv hx
  simp only [h1, if_true, lt.1, lt.2]
  refine Ev.bind (sp_valL L S hL s.f2 hv) (Ev.bind (both_ev hx o1) ?_)
  rw [o2]
  refine Ev.bind (Ev.from_ 5 (fun k hk => sp_flows _ _ _ _ k hk)) ?_
  refine Ev.eq_ (Ev.now _) ?_
  unfold flowsB
  rw [o3, t]
  rfl
 ·by_cases h3 : s.f0 = 3
  ·have hh := hs.2.2 h3
   obtain ⟨hq, he⟩ := as_host hh
   have hx' := okL_iff.1 hx
   have t' := okL_iff.1 t
   simp only [h3, show ¬ (3 : Int) = 1 by omega, if_false, if_true, lt.1, lt.2]
   refine Ev.bind (Ev.from_ 5 (fun k hk => sp_both1 hx'.1 t'.1 k hk)) ?_
   obtain ⟨a, ea⟩ := as_fin hx'.1
   obtain ⟨b, eb⟩ := as_fin t'.1
   obtain ⟨c, ec⟩ := as_fin (isS_bA hx'.1 t'.1)
   have e := has_fin c hq
   rw [← ec, ← he] at e
   rw [e]
   simp only [Option.bind_some]
   refine Ev.eq_ (Ev.now _) ?_
   rw [ea, eb, he]
   exact has_and a b hq
  ·simp only [h1, h3, if_false]
   exact Ev.now _
/-- The first that is not fine, from a place on. -/
def whyR (L : List S43) : List S71 → List S43 → Int → Int × Bool
 | s :: r, x :: m, i => if fineB L s x then whyR L r m (i + 1) else (i, true)
 | _, _, _ => (0, false)
theorem sp_why_loop (L : List S43) (S : List S71) (hL : L.all (fun x => okL x.f0 x.f1) = true) (a : List S71) (m : List S43) (ha : a.length ≤ 1048576) (hm : m.length = a.length)
  (hs : ∀ s ∈ a, stepG L.length s) (hx : ∀ x ∈ m, okL x.f0 x.f1 = true) : ∀ (d n : Nat), n + d = a.length → Ev (fun k => spec_TypeWhy.l0 k a m (n : Int) L S) (whyR L (a.drop n) (m.drop n) (n : Int)) := by
 intro d
 induction d with
 | zero =>
  intro n hn
  refine Ev.succ_ (Ev.all_ fun k => ?_)
  have h1 : ¬ ((n : Int) < (a.length : Int)) := by omega
  simp only [spec_TypeWhy.l0, h1, if_false]
  rw [List.drop_of_length_le (by omega)]
  rfl
 | succ d ih =>
  intro n hn
  refine Ev.succ_ ?_
  have h1 : (n : Int) < (a.length : Int) := by omega
  have h2 : (0 : Int) ≤ (n : Int) := by omega
  have h3 : (n : Int) < (m.length : Int) := by omega
  have h4 : wrap64 ((n : Int) + 1) = ((n + 1 : Nat) : Int) := by rw [wr (by omega) (by omega)]; omega
  have e := rdS_mem (l := a) (n := n) (by omega)
  have hn' : n < m.length := by omega
  have f : D43 m (n : Int) ∈ m := by
   simp only [D43, Int.toNat_natCast, List.getD_eq_getElem?_getD, List.getElem?_eq_getElem hn', Option.getD_some]
   exact List.getElem_mem hn'
  rw [rdS_drop (l := a) (n := n) (by omega), rdLab_drop (l := m) (n := n) hn', whyR]
  simp only [spec_TypeWhy.l0, h1, h2, h3, h4, if_true]
  refine Ev.bind (sp_fine L S hL _ (hs _ e) _ (hx _ f)) ?_
  cases fineB L (D71 a (n : Int)) (D43 m (n : Int)) with
  | false => simp only [Bool.false_eq_true, if_false]; exact Ev.now _
  | true => simp only [if_true]; exact Ev.eq_ (ih (n + 1) (by omega)) (by norm_cast)
/-- TypeWhy of a program that is in form. -/
def whyP (L : List S43) (S : List S71) : Int × Bool := whyR L (alTs S) (laTs L S 7 7) 0
theorem progB_parts {L : List S43} {S : List S71} (h : progB L S = true) : L.length ≤ 4 ∧ L.all (fun x => okL x.f0 x.f1) = true ∧ good L.length S ∧ nTs S ≤ 8 := by
 unfold progB at h
 simp only [Bool.and_eq_true, decide_eq_true_eq] at h
 exact ⟨h.1, h.2.1, ⟨3, h.2.2.1⟩, h.2.2.2⟩
theorem sp_typeAt (L : List S43) (S : List S71) (h : progB L S = true) : Ev (fun k => spec_TypeAt.f k L S) (laTs L S 7 7) := by
 obtain ⟨h1, h2, h3, h4⟩ := progB_parts h
 unfold spec_TypeAt.f
 refine Ev.bind (sp_progOk L S (by omega) (by omega)) ?_
 rw [h]
 simp only [if_true, spec_l11Any.f, spec_l1All.f, Option.bind_some]
 exact Ev.bind (sp_at L S h2 S 7 7 [] h3 ok77 (by simp; omega)) (Ev.now _)
theorem sp_typeWhy (L : List S43) (S : List S71) (ha : L.length ≤ 1048576) (hb : nTs S ≤ 1048576) : Ev (fun k => spec_TypeWhy.f k L S) (if progB L S = true then whyP L S else (0, false)) := by
 unfold spec_TypeWhy.f
 refine Ev.bind (sp_progOk L S ha hb) ?_
 cases h : progB L S with
 | false => simp only [Bool.false_eq_true, if_false]; exact Ev.now _
 | true =>
  obtain ⟨h1, h2, h3, h4⟩ := progB_parts h
  simp only [if_true]
  refine Ev.bind (sp_all S hb) (Ev.bind (sp_typeAt L S h) ?_)
  have la := alTs_length S
  have ll := laTs_length L S 7 7
  simpa [whyP] using sp_why_loop L S h2 (alTs S) (laTs L S 7 7) (by omega) (by omega) (alTs_good _ S h3) (laTs_ok h2 S 7 7 h3 ok77) (alTs S).length 0 (by omega)
end Go.Proofs.YtfcmckomagaiiaaDoor.A
