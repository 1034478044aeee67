/- Plain facts on what the functions compute, several texts in one: see wip/pure. -/
import Derived.Test.YtkkdeojbkfjlpaaAx0
import Derived.Test.YtkkdeojbkfjlpaaAx6
import Derived.Test.YtkkdeojbkfjlpaaAx7
import Derived.Test.YtkkdeojbkfjlpaaMD
import Derived.Test.YtkkdeojbkfjlpaaAx27
import Derived.Test.YtkkdeojbkfjlpaaAx29
import Derived.Test.YtkkdeojbkfjlpaaMA
import Derived.Test.YtkkdeojbkfjlpaaMC
import Derived.Test.YtkkdeojbkfjlpaaAx9
import Derived.Test.YtkkdeojbkfjlpaaAx20
namespace Go.Proofs.Ytkkdeojbkfjlpaa.A
open Go.RowKit Go.Proofs.YtkkdeojbkfjlpaaW.PrintWords Go.Proofs.YtkkdeojbkfjlpaaW.PrintLast Go.Proofs.YtkkdeojbkfjlpaaW.PrintMore
def bO (a b : Int) : Int := Go.bits .or .i64 a b
theorem bO_wrap : ∀ x y : Fin 8, wrap64 (wrap64 ((x.val : Int) + (y.val : Int)) - bA (x.val : Int) (y.val : Int)) = bO (x.val : Int) (y.val : Int) := by decide +kernel
theorem bO_is : ∀ x y : Fin 8, isS (bO (x.val : Int) (y.val : Int)) = true := by decide +kernel
theorem bO_zero : ∀ x : Fin 8, bO (x.val : Int) 0 = (x.val : Int) ∧ bO 0 (x.val : Int) = (x.val : Int) := by decide +kernel
theorem bO_assoc_fin : ∀ x y z : Fin 8, bO (bO (x.val : Int) (y.val : Int)) (z.val : Int) = bO (x.val : Int) (bO (y.val : Int) (z.val : Int)) := by decide +kernel
theorem wi_or : ∀ x y z : Fin 8, wi (bO (x.val : Int) (y.val : Int)) (z.val : Int) = (wi (x.val : Int) (z.val : Int) && wi (y.val : Int) (z.val : Int)) := by decide +kernel
theorem wi_tr : ∀ x y z : Fin 8, wi (x.val : Int) (bA (y.val : Int) (z.val : Int)) = true → wi (x.val : Int) (y.val : Int) = true := by decide +kernel
theorem wi_zero : ∀ x : Fin 8, wi 0 (x.val : Int) = true := by decide +kernel
theorem isS_bO {a b : Int} (ha : isS a = true) (hb : isS b = true) : isS (bO a b) = true := by
 obtain ⟨x, rfl⟩ := as_fin ha
 obtain ⟨y, rfl⟩ := as_fin hb
 exact bO_is x y
theorem bO_0r {a : Int} (ha : isS a = true) : bO a 0 = a := by
 obtain ⟨x, rfl⟩ := as_fin ha
 exact (bO_zero x).1
theorem bO_0l {a : Int} (ha : isS a = true) : bO 0 a = a := by
 obtain ⟨x, rfl⟩ := as_fin ha
 exact (bO_zero x).2
theorem bO_assoc {a b c : Int} (ha : isS a = true) (hb : isS b = true) (hc : isS c = true) : bO (bO a b) c = bO a (bO b c) := by
 obtain ⟨x, rfl⟩ := as_fin ha
 obtain ⟨y, rfl⟩ := as_fin hb
 obtain ⟨z, rfl⟩ := as_fin hc
 exact bO_assoc_fin x y z
theorem wi_bO {a b c : Int} (ha : isS a = true) (hb : isS b = true) (hc : isS c = true) (h : wi a c = true) (h' : wi b c = true) : wi (bO a b) c = true := by
 obtain ⟨x, rfl⟩ := as_fin ha
 obtain ⟨y, rfl⟩ := as_fin hb
 obtain ⟨z, rfl⟩ := as_fin hc
 rw [wi_or, h, h']
 rfl
theorem wi_bA {a b c : Int} (ha : isS a = true) (hb : isS b = true) (hc : isS c = true) (h : wi a (bA b c) = true) : wi a b = true := by
 obtain ⟨x, rfl⟩ := as_fin ha
 obtain ⟨y, rfl⟩ := as_fin hb
 obtain ⟨z, rfl⟩ := as_fin hc
 exact wi_tr x y z h
theorem isS0 : isS 0 = true := by decide
/-- Who trusts what one step sets itself. -/
def ownV (L : List S35) (s : S40) : Int := if s.f0 = 1 then (D35 L s.f1).f1 else 0
mutual
def seT (L : List S35) : S40 → Int
 | ⟨k, v, x, h, a, b⟩ => bO (ownV L ⟨k, v, x, h, a, b⟩) (bO (seTs L a) (seTs L b))
/-- Who trusts what is set in steps. -/
def seTs (L : List S35) : List S40 → Int
 | [] => 0
 | s :: r => bO (seT L s) (seTs L r)
end
theorem seT_eq (L : List S35) (s : S40) : seT L s = bO (ownV L s) (bO (seTs L s.f4) (seTs L s.f5)) := by cases s; rw [seT]
theorem ownV_is {L : List S35} (hL : L.all (fun x => okL x.f0 x.f1) = true) {s : S40} (h : stepG L.length s) : isS (ownV L s) = true := by
 unfold ownV
 by_cases c : s.f0 = 1
 ·rw [if_pos c]; exact (okL_iff.1 (rdLab_ok hL h.1)).2
 ·rw [if_neg c]; exact isS0
theorem seTs_is {L : List S35} (hL : L.all (fun x => okL x.f0 x.f1) = true) : ∀ l : List S40, good L.length l → isS (seTs L l) = true := by
 refine tree_ind fun l ih hg => ?_
 have hm : ∀ t ∈ l, stepG L.length t ∧ good L.length t.f4 ∧ good L.length t.f5 := fun t ht => good_mem hg ht
 clear hg
 induction l with
 | nil => rw [seTs]; exact isS0
 | cons a r ihr =>
  have h := ih a List.mem_cons_self
  have g := hm a List.mem_cons_self
  rw [seTs, seT_eq]
  exact isS_bO (isS_bO (ownV_is hL g.1) (isS_bO (h.1 g.2.1) (h.2 g.2.2))) (ihr (fun t ht => ih t (List.mem_cons_of_mem _ ht)) (fun t ht => hm t (List.mem_cons_of_mem _ ht)))
theorem good_drop {n : Int} {l : List S40} (h : good n l) (m : Nat) : good n (l.drop m) := by
 induction m generalizing l with
 | zero => exact h
 | succ m ih =>
  cases l with
  | nil => exact h
  | cons a r =>
   obtain ⟨d, h⟩ := h
   rw [okTs, Bool.and_eq_true] at h
   exact ih ⟨d, h.2⟩
theorem good_one {n : Int} {l : List S40} (h : good n l) {s : S40} (hs : s ∈ l) : good n [s] := by
 obtain ⟨d, h⟩ := h
 induction l with
 | nil => cases hs
 | cons a r ih =>
  rw [okTs, Bool.and_eq_true] at h
  rcases List.mem_cons.1 hs with e | e
  ·subst e; exact ⟨d, by rw [okTs, okTs, h.1]; rfl⟩
  ·exact ih e h.2
theorem im_sets (L : List S35) (S : List S40) (hL : L.all (fun x => okL x.f0 x.f1) = true) : ∀ l : List S40, good L.length l → nTs l ≤ 1048576 → Ev (fun k => impl_Prog_sets.f k L S l) (seTs L l) := by
 refine tree_ind fun l ih hg hl => ?_
 have hlen := nTs_length l
 have loop : ∀ (d n : Nat) (x : Int), n + d = l.length → isS x = true → Ev (fun k => impl_Prog_sets.l0 k x l (l.length : Int) (n : Int) L S) (bO x (seTs L (l.drop n))) := by
  intro d
  induction d with
  | zero =>
   intro n x hn hx
   refine Ev.succ_ (Ev.all_ fun k => ?_)
   have h1 : ¬ ((n : Int) < (l.length : Int)) := by omega
   simp only [impl_Prog_sets.l0, h1, if_false]
   rw [List.drop_of_length_le (by omega), seTs, bO_0r hx]
  | succ d ih2 =>
   intro n x hn hx
   refine Ev.succ_ ?_
   have h1 : (n : Int) < (l.length : Int) := by omega
   have h2 : (0 : Int) ≤ (n : Int) := by omega
   have h4 : wrap64 ((n : Int) + 1) = ((n + 1 : Nat) : Int) := by rw [wr (by omega) (by omega)]; omega
   have hm := rdS_mem (l := l) (n := n) (by omega)
   have hs := good_mem hg hm
   have hsz := nTs_mem hm
   obtain ⟨i4, i5⟩ := ih _ hm
   have hr := seTs_is hL _ (good_drop hg (n + 1))
   rw [rdS_drop (l := l) (n := n) (by omega), seTs, seT_eq]
   have hv := var_lt hs.1.1
   simp only [impl_Prog_sets.l0, h1, h2, h4, hv.1, hv.2, if_true]
   have ho := ownV_is hL hs.1
   generalize D40 l (n : Int) = s at *
   have a4 := seTs_is hL _ hs.2.1
   have a5 := seTs_is hL _ hs.2.2
   have key : bO x (bO (bO (ownV L s) (bO (seTs L s.f4) (seTs L s.f5))) (seTs L (l.drop (n + 1)))) = bO (bO (bO x (ownV L s)) (bO (seTs L s.f4) (seTs L s.f5))) (seTs L (l.drop (n + 1))) := by
    rw [bO_assoc hx ho (isS_bO a4 a5), bO_assoc hx (isS_bO ho (isS_bO a4 a5)) hr]
   rw [key]
   have e4 := i4 hs.2.1 (by omega)
   have e5 := i5 hs.2.2 (by omega)
   by_cases c : s.f0 = 1
   ·have eo : ownV L s = (D35 L s.f1).f1 := by rw [ownV, if_pos c]
    simp only [c, if_true]
    refine Ev.bind e4 (Ev.bind e5 ?_)
    rw [eo] at ho ⊢
    exact ih2 (n + 1) _ (by omega) (isS_bO (isS_bO hx ho) (isS_bO a4 a5))
   ·have eo : ownV L s = 0 := by rw [ownV, if_neg c]
    simp only [c, if_false]
    refine Ev.bind e4 (Ev.bind e5 ?_)
    rw [eo, bO_0r hx]
    exact ih2 (n + 1) _ (by omega) (isS_bO hx (isS_bO a4 a5))
 refine Ev.succ_ ?_
 simp only [impl_Prog_sets.f]
 refine Ev.eq_ (loop l.length 0 0 (by omega) isS0) ?_
 rw [List.drop_zero, bO_0l (seTs_is hL l hg)]
/-- TypeSets of steps that are in form. -/
def setsL (L : List S35) (a : List S40) : List Int := a.map (fun s => seTs L [s])
theorem alTs_one (n : Int) : ∀ l : List S40, good n l → ∀ s ∈ alTs l, good n [s] ∧ nTs [s] ≤ nTs l := by
 refine tree_ind fun l ih hg => ?_
 have hm : ∀ t ∈ l, good n [t] ∧ good n t.f4 ∧ good n t.f5 := fun t ht => ⟨good_one hg ht, (good_mem hg ht).2⟩
 clear hg
 induction l with
 | nil => intro s hs; rw [alTs] at hs; cases hs
 | cons a r ihr =>
  intro s hs
  rw [alTs, alT_eq] at hs
  have h := ih a List.mem_cons_self
  have g := hm a List.mem_cons_self
  have e0 := nTs_cons a r
  simp only [List.cons_append, List.mem_cons, List.mem_append] at hs
  rcases hs with e | (e | e) | e
  ·subst e; exact ⟨g.1, by have e1 := nTs_cons s []; rw [nTs_nil] at e1; omega⟩
  ·have := h.1 g.2.1 s e; exact ⟨this.1, by omega⟩
  ·have := h.2 g.2.2 s e; exact ⟨this.1, by omega⟩
  ·have := ihr (fun t ht => ih t (List.mem_cons_of_mem _ ht)) (fun t ht => hm t (List.mem_cons_of_mem _ ht)) s e
   exact ⟨this.1, by omega⟩
theorem im_setsL (L : List S35) (S : List S40) (hL : L.all (fun x => okL x.f0 x.f1) = true) (a : List S40) (ha : a.length ≤ 1048576) (hg : ∀ s ∈ a, good L.length [s] ∧ nTs [s] ≤ 1048576) :
  ∀ (d n : Nat) (out : List Int), n + d = a.length → out.length = n → Ev (fun k => impl_TypeSets.l0 k out a (a.length : Int) (n : Int) L S) (out ++ setsL L (a.drop n)) := by
 intro d
 induction d with
 | zero =>
  intro n out hn ho
  refine Ev.succ_ (Ev.all_ fun k => ?_)
  have h1 : ¬ ((n : Int) < (a.length : Int)) := by omega
  simp only [impl_TypeSets.l0, h1, if_false]
  rw [List.drop_of_length_le (by omega), setsL, List.map_nil, List.append_nil]
 | succ d ih =>
  intro n out hn ho
  refine Ev.succ_ ?_
  have h1 : (n : Int) < (a.length : Int) := by omega
  have h2 : (0 : Int) ≤ (n : Int) := by omega
  have h4 : wrap64 ((n : Int) + 1) = ((n + 1 : Nat) : Int) := by rw [wr (by omega) (by omega)]; omega
  have h5 : out.length < 17592186044416 := by omega
  have hm := rdS_mem (l := a) (n := n) (by omega)
  simp only [impl_TypeSets.l0, h1, h2, h4, h5, if_true, eta_s]
  refine Ev.bind (im_sets L S hL _ (hg _ hm).1 (hg _ hm).2) ?_
  refine Ev.eq_ (ih (n + 1) _ (by omega) (by simp [ho])) ?_
  rw [rdS_drop (l := a) (n := n) (by omega), setsL, setsL, List.map_cons, List.append_assoc]
  rfl
def setsP (L : List S35) (S : List S40) : List Int := if progB L S = true then setsL L (alTs S) else []
theorem setsP_hg {L : List S35} {S : List S40} (h : progB L S = true) : (alTs S).length ≤ 1048576 ∧ ∀ s ∈ alTs S, good L.length [s] ∧ nTs [s] ≤ 1048576 := by
 obtain ⟨_, _, hg, h4⟩ := progB_parts h
 refine ⟨by rw [alTs_length]; omega, fun s hs => ?_⟩
 have := alTs_one _ S hg s hs
 exact ⟨this.1, by omega⟩
theorem im_setsP (L : List S35) (S : List S40) (h1 : L.length ≤ 1048576) (h2 : nTs S ≤ 1048576) : Ev (fun k => impl_TypeSets.f k L S) (setsP L S) := by
 unfold impl_TypeSets.f setsP
 refine Ev.bind (im_progOk _ _ h1 h2) ?_
 cases hk : progB L S with
 | false => simp only [Bool.false_eq_true, if_false]; exact Ev.now _
 | true =>
  simp only [if_true]
  refine Ev.bind (im_all S h2) ?_
  have := setsP_hg hk
  exact Ev.eq_ (im_setsL L S (progB_parts hk).2.1 _ this.1 this.2 _ 0 [] (Nat.zero_add _) rfl) (by rw [List.drop_zero, List.nil_append])
/-- What is set is within the label of being done, where all steps are fine. -/
theorem sets_within {L : List S35} (hL : L.all (fun x => okL x.f0 x.f1) = true) : ∀ (l : List S40) (p q : Int), good L.length l → okL p q = true → allB L l p q = true → wi (seTs L l) q = true := by
 refine tree_ind fun l ih p q hg => ?_
 have hm : ∀ t ∈ l, stepG L.length t ∧ good L.length t.f4 ∧ good L.length t.f5 := fun t ht => good_mem hg ht
 clear hg
 intro hp hb
 have hp' := okL_iff.1 hp
 induction l with
 | nil =>
  rw [seTs]
  obtain ⟨y, rfl⟩ := as_fin hp'.2
  exact wi_zero y
 | cons s r ihr =>
  have h := ih s List.mem_cons_self
  have g := hm s List.mem_cons_self
  have ok := rdLab_ok hL g.1.1
  have ok' := okL_iff.1 ok
  have okn : okL (bA p (D35 L s.f1).f0) (bA q (D35 L s.f1).f1) = true := okL_iff.2 ⟨isS_bA hp'.1 ok'.1, isS_bA hp'.2 ok'.2⟩
  have e : allB L (s :: r) p q = (fineB L s ⟨p, q⟩ && (allB L s.f4 (bA p (D35 L s.f1).f0) (bA q (D35 L s.f1).f1) && allB L s.f5 (bA p (D35 L s.f1).f0) (bA q (D35 L s.f1).f1)) && allB L r p q) := by
   unfold allB
   rw [alTs, laTs, alT_eq, laT_eq]
   simp only [List.cons_append, List.zip_cons_cons, List.all_cons]
   rw [List.zip_append (by simp only [List.length_append, laTs_length, alTs_length]), List.all_append, List.zip_append (by rw [laTs_length, alTs_length]), List.all_append]
   simp only [Bool.and_assoc]
  rw [e] at hb
  simp only [Bool.and_eq_true] at hb
  obtain ⟨⟨hf, h4, h5⟩, hr⟩ := hb
  have i4 := wi_bA (seTs_is hL _ g.2.1) hp'.2 ok'.2 (h.1 _ _ g.2.1 okn h4)
  have i5 := wi_bA (seTs_is hL _ g.2.2) hp'.2 ok'.2 (h.2 _ _ g.2.2 okn h5)
  have ir := ihr (fun t ht => ih t (List.mem_cons_of_mem _ ht)) (fun t ht => hm t (List.mem_cons_of_mem _ ht)) hr
  have a4 := seTs_is hL _ g.2.1
  have a5 := seTs_is hL _ g.2.2
  have ar : isS (seTs L r) = true := by
   have : ∀ t : List S40, (∀ x ∈ t, stepG L.length x ∧ good L.length x.f4 ∧ good L.length x.f5) → isS (seTs L t) = true := by
    intro t
    induction t with
    | nil => intro _; rw [seTs]; exact isS0
    | cons a b ihb =>
     intro ht
     have ga := ht a List.mem_cons_self
     rw [seTs, seT_eq]
     exact isS_bO (isS_bO (ownV_is hL ga.1) (isS_bO (seTs_is hL _ ga.2.1) (seTs_is hL _ ga.2.2))) (ihb fun x hx => ht x (List.mem_cons_of_mem _ hx))
   exact this r fun t ht => hm t (List.mem_cons_of_mem _ ht)
  have io : wi (ownV L s) q = true := by
   unfold ownV
   by_cases c : s.f0 = 1
   ·rw [if_pos c]
    unfold fineB at hf
    rw [if_pos c, Bool.and_eq_true] at hf
    obtain ⟨o1, o2, o3⟩ := valL_ok hL (g.1.2.1 c) hp
    rw [← o2] at hf
    exact wi_bA ok'.2 hp'.2 (okL_iff.1 o1).2 hf.2
   ·rw [if_neg c]
    obtain ⟨y, rfl⟩ := as_fin hp'.2
    exact wi_zero y
  rw [seTs, seT_eq]
  exact wi_bO (isS_bO (ownV_is hL g.1) (isS_bO a4 a5)) ar hp'.2 (wi_bO (ownV_is hL g.1) (isS_bO a4 a5) hp'.2 io (wi_bO a4 a5 hp'.2 i4 i5)) ir
/-- Of each step alone. -/
theorem each_within {L : List S35} (hL : L.all (fun x => okL x.f0 x.f1) = true) : ∀ (l : List S40) (p q : Int), good L.length l → okL p q = true → allB L l p q = true → ∀ y ∈ (alTs l).zip (laTs L l p q), wi (seTs L [y.1]) y.2.f1 = true ∧ isS (seTs L [y.1]) = true ∧ isS y.2.f1 = true := by
 refine tree_ind fun l ih p q hg => ?_
 have hm : ∀ t ∈ l, good L.length [t] := fun t ht => good_one hg ht
 clear hg
 intro hp hb
 have hp' := okL_iff.1 hp
 induction l with
 | nil => intro y hy; rw [alTs] at hy; cases hy
 | cons s r ihr =>
  intro y hy
  have h := ih s List.mem_cons_self
  have g1 := hm s List.mem_cons_self
  have g := good_mem g1 (List.mem_singleton_self s)
  have ok := rdLab_ok hL g.1.1
  have ok' := okL_iff.1 ok
  have okn : okL (bA p (D35 L s.f1).f0) (bA q (D35 L s.f1).f1) = true := okL_iff.2 ⟨isS_bA hp'.1 ok'.1, isS_bA hp'.2 ok'.2⟩
  have e : allB L (s :: r) p q = (allB L [s] p q && allB L r p q) := allB_append L [s] r p q
  rw [e, Bool.and_eq_true] at hb
  have e1 : allB L [s] p q = (fineB L s ⟨p, q⟩ && (allB L s.f4 (bA p (D35 L s.f1).f0) (bA q (D35 L s.f1).f1) && allB L s.f5 (bA p (D35 L s.f1).f0) (bA q (D35 L s.f1).f1))) := by
   unfold allB
   rw [alTs, laTs, alT_eq, laT_eq, alTs, laTs]
   simp only [List.zip_cons_cons, List.all_cons, List.append_nil]
   rw [List.zip_append (by rw [laTs_length, alTs_length]), List.all_append]
  have w1 := sets_within hL [s] p q g1 hp hb.1
  have b1 := hb.1
  rw [e1] at b1
  simp only [Bool.and_eq_true] at b1
  rw [alTs, laTs, alT_eq, laT_eq] at hy
  simp only [List.cons_append, List.zip_cons_cons] at hy
  rw [List.zip_append (by simp only [List.length_append, laTs_length, alTs_length]), List.zip_append (by rw [laTs_length, alTs_length])] at hy
  simp only [List.mem_cons, List.mem_append] at hy
  rcases hy with e | (e | e) | e
  ·subst e; exact ⟨w1, seTs_is hL _ g1, hp'.2⟩
  ·exact h.1 _ _ g.2.1 okn b1.2.1 y e
  ·exact h.2 _ _ g.2.2 okn b1.2.2 y e
  ·exact ihr (fun t ht => ih t (List.mem_cons_of_mem _ ht)) (fun t ht => hm t (List.mem_cons_of_mem _ ht)) hb.2 y e
end Go.Proofs.Ytkkdeojbkfjlpaa.A
namespace Go.Proofs.Ytkkdeojbkfjlpaa.A
open Go.RowKit Go.Proofs.YtkkdeojbkfjlpaaW.PrintWords Go.Proofs.YtkkdeojbkfjlpaaW.PrintLast Go.Proofs.YtkkdeojbkfjlpaaW.PrintMore
/-- Is there a step with that number? -/
def atB (L : List S35) (S : List S40) (n : Int) : Bool := progB L S && (decide (0 ≤ n) && decide (n ≤ (nTs S : Int) - 1))
/-- A step's cells, and whether there is one. -/
def outT (s : S40) (b : Bool) : Int × Int × Int × Int × Int × Int × List S40 × List S40 × Bool := (s.f0, s.f1, s.f2.f0, s.f2.f1, s.f2.f2, s.f3, s.f4, s.f5, b)
def atV (L : List S35) (S : List S40) (n : Int) : Int × Int × Int × Int × Int × Int × List S40 × List S40 × Bool := if atB L S n = true then outT (D40 (alTs S) n) true else outT z40 false
theorem nTs_le {B : Nat} : ∀ l : List S40, (∀ s ∈ l, nTs [s] ≤ B) → nTs l ≤ l.length * B := by
 intro l
 induction l with
 | nil => intro _; rw [nTs_nil]; omega
 | cons s r ih =>
  intro h
  have h1 := h s (by simp)
  have h2 := ih (fun x hx => h x (List.mem_cons_of_mem _ hx))
  rw [nTs_one] at h1
  rw [nTs_cons, List.length_cons, Nat.succ_mul]
  omega
theorem alT_le : ∀ l : List S40, ∀ s ∈ alTs l, nTs [s] ≤ nTs l := by
 refine tree_ind fun l ih => ?_
 induction l with
 | nil => intro s h; rw [alTs] at h; cases h
 | cons x r ih2 =>
  intro s h
  rw [alTs, alT_eq] at h
  have e0 := nTs_cons x r
  rcases List.mem_append.1 h with h | h
  ·rcases List.mem_cons.1 h with h | h
   ·subst h; have e1 := nTs_one s; omega
   ·have i := ih x (by simp)
    rcases List.mem_append.1 h with h | h
    ·have := i.1 s h; omega
    ·have := i.2 s h; omega
  ·have := ih2 (fun y hy => ih y (List.mem_cons_of_mem _ hy)) s h
   omega
theorem alTs_small {L : List S35} {S : List S40} (h : progB L S = true) : nTs (alTs S) ≤ 64 := by
 have h8 := (progB_parts h).2.2.2
 have h1 := nTs_le (alTs S) (alT_le S)
 rw [alTs_length] at h1
 exact Nat.le_trans h1 (Nat.mul_le_mul h8 h8)
theorem sp_atV (L : List S35) (S : List S40) (n : Int) (h1 : L.length ≤ 1048576) (h2 : nTs S ≤ 1048576) : Ev (fun k => spec_ProgAt.f k L S n) (atV L S n) := by
 unfold spec_ProgAt.f
 refine Ev.bind (sp_progOk L S h1 h2) ?_
 cases hk : progB L S with
 | false =>
  simp only [Bool.false_eq_true, if_false]
  refine Ev.succ_ ?_
  simp only [spec_ProgAt.j0, if_true, atV, atB, hk, Bool.false_and, Bool.false_eq_true, if_false]
  exact Ev.now _
 | true =>
  simp only [if_true]
  refine Ev.bind (sp_count S h2) ?_
  have w1 : wrap64 ((nTs S : Int) - 1) = (nTs S : Int) - 1 := wr (by omega) (by omega)
  rw [w1, sp_in]
  simp only [Option.bind_some]
  refine Ev.succ_ ?_
  cases hn : (decide (0 ≤ n) && decide (n ≤ (nTs S : Int) - 1)) with
  | false =>
   simp only [spec_ProgAt.j0, Bool.not_false, if_true, atV, atB, hk, hn, Bool.and_false, Bool.false_eq_true, if_false]
   exact Ev.now _
  | true =>
   have hn1 : 0 ≤ n ∧ n ≤ (nTs S : Int) - 1 := by simpa using hn
   have c2 : n < ((alTs S).length : Int) := by rw [alTs_length]; omega
   simp only [spec_ProgAt.j0, Bool.not_true, Bool.false_eq_true, if_false, atV, atB, hk, hn, Bool.and_self, if_true]
   refine Ev.bind (sp_all S h2) (Ev.bind (copy_ev _ (by have := alTs_small hk; omega)) ?_)
   simp only [hn1.1, c2, if_true]
   exact Ev.now _
theorem im_atV (L : List S35) (S : List S40) (n : Int) (h1 : L.length ≤ 1048576) (h2 : nTs S ≤ 1048576) : Ev (fun k => impl_ProgAt.f k L S n) (atV L S n) := by
 unfold impl_ProgAt.f
 refine Ev.bind (im_progOk L S h1 h2) ?_
 cases hk : progB L S with
 | false =>
  simp only [Bool.false_eq_true, if_false]
  refine Ev.succ_ ?_
  simp only [impl_ProgAt.j0, if_true, atV, atB, hk, Bool.false_and, Bool.false_eq_true, if_false]
  exact Ev.now _
 | true =>
  simp only [if_true]
  refine Ev.bind (im_size S h2) ?_
  have w1 : wrap64 ((nTs S : Int) - 1) = (nTs S : Int) - 1 := wr (by omega) (by omega)
  rw [w1, im_in]
  simp only [Option.bind_some]
  refine Ev.succ_ ?_
  cases hn : (decide (0 ≤ n) && decide (n ≤ (nTs S : Int) - 1)) with
  | false =>
   simp only [impl_ProgAt.j0, Bool.not_false, if_true, atV, atB, hk, hn, Bool.and_false, Bool.false_eq_true, if_false]
   exact Ev.now _
  | true =>
   have hn1 : 0 ≤ n ∧ n ≤ (nTs S : Int) - 1 := by simpa using hn
   have c2 : n < ((alTs S).length : Int) := by rw [alTs_length]; omega
   simp only [impl_ProgAt.j0, Bool.not_true, Bool.false_eq_true, if_false, atV, atB, hk, hn, Bool.and_self, if_true]
   refine Ev.bind (im_all S h2) ?_
   simp only [hn1.1, c2, if_true, eta_st]
   have hm : D40 (alTs S) n ∈ alTs S := by
    have hl : n.toNat < (alTs S).length := by omega
    simp only [D40, List.getD_eq_getElem?_getD, List.getElem?_eq_getElem hl, Option.getD_some]
    exact List.getElem_mem hl
   have hs := alT_le S _ hm
   refine Ev.bind (clone_ev _ (by omega)) ?_
   exact Ev.now _
end Go.Proofs.Ytkkdeojbkfjlpaa.A
namespace Go.Proofs.Ytkkdeojbkfjlpaa.A
open Go.RowKit Go.Proofs.YtkkdeojbkfjlpaaW.PrintWords Go.Proofs.YtkkdeojbkfjlpaaW.PrintLast Go.Proofs.YtkkdeojbkfjlpaaW.PrintMore
def atP (L : List S35) (S : List S40) : List S35 := if progB L S = true then laTs L S 7 7 else []
theorem sp_atP (L : List S35) (S : List S40) (h1 : L.length ≤ 1048576) (h2 : nTs S ≤ 1048576) : Ev (fun k => spec_TypeAt.f k L S) (atP L S) := by
 cases hk : progB L S with
 | true => rw [atP, if_pos hk]; exact sp_typeAt L S hk
 | false =>
  unfold spec_TypeAt.f
  refine Ev.bind (sp_progOk _ _ h1 h2) ?_
  rw [hk]
  simp only [atP, hk, Bool.false_eq_true, if_false]
  exact Ev.now _
theorem im_atP (L : List S35) (S : List S40) (h1 : L.length ≤ 1048576) (h2 : nTs S ≤ 1048576) : Ev (fun k => impl_TypeAt.f k L S) (atP L S) := by
 unfold impl_TypeAt.f
 refine Ev.bind (im_progOk _ _ h1 h2) ?_
 cases hk : progB L S with
 | true =>
  simp only [atP, hk, if_true]
  exact Ev.bind (im_at L S hk) (Ev.now _)
 | false =>
  simp only [atP, hk, Bool.false_eq_true, if_false]
  exact Ev.now _
theorem atP_len (L : List S35) (S : List S40) : ((atP L S).length : Int) = mx (sizeP L S) 0 := by
 cases hk : progB L S with
 | true =>
  rw [atP, if_pos hk, sizeP_ok hk, laTs_length]
  unfold mx
  split <;> omega
 | false =>
  rw [atP, if_neg (by rw [hk]; decide), sizeP_no hk]
  decide
end Go.Proofs.Ytkkdeojbkfjlpaa.A
