/- The law FnTypeDeep: what is fine in a step is fine alone, for the program that every code draws; codes of more than 1048576 bytes are asked nothing. -/
import Derived.Test.YthidgkfgdkjghaaAx0
import Derived.Test.YthidgkfgdkjghaaAx35
import Derived.Test.YthidgkfgdkjghaaStmFnTypeDeep
import Derived.Test.YthidgkfgdkjghaaMC
-- uses StmFnTypeDeep OkEv
namespace Go.Proofs.Ythidgkfgdkjghaa.Pure
open Go.RowKit Go.Proofs.YthidgkfgdkjghaaW.PrintWords Go.Proofs.YthidgkfgdkjghaaW.PrintLast Go.Proofs.YthidgkfgdkjghaaW.PrintMore Go.Proofs.Ythidgkfgdkjghaa.A
theorem wi_and : ∀ x y c : Fin 8, wi (x.val : Int) (y.val : Int) = true → wi (bA (x.val : Int) (c.val : Int)) (bA (y.val : Int) (c.val : Int)) = true := by decide +kernel
theorem wi_tr : ∀ x y z : Fin 8, wi (x.val : Int) (y.val : Int) = true → wi (y.val : Int) (z.val : Int) = true → wi (x.val : Int) (z.val : Int) = true := by decide +kernel
theorem wi_top : ∀ x : Fin 8, wi (x.val : Int) 7 = true := by decide +kernel
theorem wi_has : ∀ (x y : Fin 8) (h : Fin 3), wi (x.val : Int) (y.val : Int) = true → hasB (x.val : Int) (h.val : Int) = true → hasB (y.val : Int) (h.val : Int) = true := by decide +kernel
/-- One label is within another one. -/
def le (x y : S39) : Prop := (isS x.f0 = true ∧ isS x.f1 = true ∧ isS y.f0 = true ∧ isS y.f1 = true) ∧ wi x.f0 y.f0 = true ∧ wi x.f1 y.f1 = true
theorem le_and {x y : S39} (h : le x y) {c d : Int} (hc : isS c = true) (hd : isS d = true) : le ⟨bA x.f0 c, bA x.f1 d⟩ ⟨bA y.f0 c, bA y.f1 d⟩ := by
 obtain ⟨⟨a1, a2, a3, a4⟩, b1, b2⟩ := h
 refine ⟨⟨isS_bA a1 hc, isS_bA a2 hd, isS_bA a3 hc, isS_bA a4 hd⟩, ?_, ?_⟩
 ·obtain ⟨u, hu⟩ := as_fin a1
  obtain ⟨v, hv⟩ := as_fin a3
  obtain ⟨t, rfl⟩ := as_fin hc
  simp only [hu, hv] at b1 ⊢
  exact wi_and u v t b1
 ·obtain ⟨u, hu⟩ := as_fin a2
  obtain ⟨v, hv⟩ := as_fin a4
  obtain ⟨t, rfl⟩ := as_fin hd
  simp only [hu, hv] at b2 ⊢
  exact wi_and u v t b2
theorem wi_trans {a b c : Int} (ha : isS a = true) (hb : isS b = true) (hc : isS c = true) (h1 : wi a b = true) (h2 : wi b c = true) : wi a c = true := by
 obtain ⟨x, rfl⟩ := as_fin ha
 obtain ⟨y, rfl⟩ := as_fin hb
 obtain ⟨z, rfl⟩ := as_fin hc
 exact wi_tr x y z h1 h2
theorem lab_at {L : List S39} (hL : L.all (fun x => okL x.f0 x.f1) = true) {v : Int} (h : varB L.length v = true) : isS (D39 L v).f0 = true ∧ isS (D39 L v).f1 = true := okL_iff.1 (rdLab_ok hL h)
theorem fold_le {L : List S39} (hL : L.all (fun x => okL x.f0 x.f1) = true) : ∀ (vs : List Int) (x y : S39), (∀ v ∈ vs, varB L.length v = true) → le x y → le ⟨(foldS L vs x.f0 x.f1).1, (foldS L vs x.f0 x.f1).2⟩ ⟨(foldS L vs y.f0 y.f1).1, (foldS L vs y.f0 y.f1).2⟩ := by
 intro vs
 induction vs with
 | nil => intro x y _ h; exact h
 | cons v r ih =>
  intro x y hv h
  obtain ⟨c, d⟩ := lab_at hL (hv v List.mem_cons_self)
  exact ih ⟨_, _⟩ ⟨_, _⟩ (fun z hz => hv z (List.mem_cons_of_mem _ hz)) (le_and h c d)
theorem vars_of {n : Int} {x : S30} (h : valB n x = true) : ∀ v ∈ varsOf x, varB n v = true := by
 intro v hv
 unfold varsOf at hv
 unfold valB at h
 by_cases k2 : x.f0 = 2
 ·have e1 : ¬ x.f0 = 1 := by omega
  rw [if_neg e1, if_pos k2, Bool.and_eq_true] at h
  rw [if_pos k2, List.mem_singleton] at hv
  rw [hv]; exact h.1
 ·rw [if_neg k2] at hv
  by_cases k3 : x.f0 = 3 ∨ x.f0 = 4
  ·have e1 : ¬ x.f0 = 1 := by omega
   rw [if_neg e1, if_neg k2, if_pos k3, Bool.and_eq_true] at h
   rw [if_pos k3] at hv
   simp only [List.mem_cons, List.not_mem_nil, or_false] at hv
   rcases hv with e | e <;> rw [e]
   ·exact h.1
   ·exact h.2
  ·rw [if_neg k3] at hv; cases hv
theorem fine_le {L : List S39} (hL : L.all (fun x => okL x.f0 x.f1) = true) {s : S32} (hs : Go.Proofs.Ythidgkfgdkjghaa.A.stepG L.length s) {x y : S39} (h : le x y) (hf : fineB L s x = true) : fineB L s y = true := by
 obtain ⟨hv, h1, h3⟩ := hs
 obtain ⟨c, d⟩ := lab_at hL hv
 unfold fineB at hf ⊢
 by_cases k1 : s.f0 = 1
 ·rw [if_pos k1, Bool.and_eq_true] at hf ⊢
  obtain ⟨⟨a1, a2, a3, a4⟩, b1, b2⟩ := fold_le hL (varsOf s.f2) x y (vars_of (h1 k1)) h
  exact ⟨wi_trans c a1 a3 hf.1 b1, wi_trans d a2 a4 hf.2 b2⟩
 ·rw [if_neg k1] at hf ⊢
  by_cases k3 : s.f0 = 3
  ·rw [if_pos k3, Bool.and_eq_true] at hf ⊢
   obtain ⟨⟨a1, _, a3, _⟩, b1, _⟩ := h
   obtain ⟨z, hz⟩ := as_host (h3 k3)
   obtain ⟨u, hu⟩ := as_fin a1
   obtain ⟨w, hw⟩ := as_fin a3
   rw [hz] at hf ⊢
   rw [hu] at hf b1
   rw [hw] at b1 ⊢
   exact ⟨wi_has u w z b1 hf.1, hf.2⟩
  ·rw [if_neg k3]
theorem all_le {L : List S39} (hL : L.all (fun x => okL x.f0 x.f1) = true) : ∀ l : List S32, good L.length l → ∀ x y : S39, le x y → allB L l x.f0 x.f1 = true → allB L l y.f0 y.f1 = true := by
 refine tree_ind fun l ih hg => ?_
 have : ∀ r : List S32, (∀ s ∈ r, s ∈ l) → good L.length r → ∀ x y : S39, le x y → allB L r x.f0 x.f1 = true → allB L r y.f0 y.f1 = true := by
  intro r
  induction r with
  | nil => intro _ _ x y _ _; unfold allB; rw [alTs]; rfl
  | cons s r ihr =>
   intro hm hg x y h ha
   obtain ⟨e, hd⟩ := hg
   rw [okTs, Bool.and_eq_true] at hd
   obtain ⟨hs, g4, g5⟩ := okT_good hd.1
   obtain ⟨i4, i5⟩ := ih s (hm s List.mem_cons_self)
   have one : ∀ z : S39, allB L [s] z.f0 z.f1 = (fineB L s z && (allB L s.f4 (bA z.f0 (D39 L s.f1).f0) (bA z.f1 (D39 L s.f1).f1) && allB L s.f5 (bA z.f0 (D39 L s.f1).f0) (bA z.f1 (D39 L s.f1).f1))) := by
    intro z
    unfold allB
    rw [alTs, alTs, alT_eq, laTs, laTs, laT_eq, List.append_nil, List.append_nil, List.zip_cons_cons, List.all_cons, List.zip_append (by rw [laTs_length, alTs_length]), List.all_append]
   rw [show s :: r = [s] ++ r from rfl, allB_append, one, Bool.and_eq_true, Bool.and_eq_true, Bool.and_eq_true] at ha ⊢
   obtain ⟨c, d⟩ := lab_at hL hs.1
   have h' := le_and h c d
   exact ⟨⟨fine_le hL hs h ha.1.1, i4 g4 ⟨_, _⟩ ⟨_, _⟩ h' ha.1.2.1, i5 g5 ⟨_, _⟩ ⟨_, _⟩ h' ha.1.2.2⟩, ihr (fun z hz => hm z (List.mem_cons_of_mem _ hz)) ⟨e, hd.2⟩ x y h ha.2⟩
 exact this l (fun _ h => h) hg
theorem deep_is {L : List S39} {S : List S32} {v : Int} (h : progB L S = true) (ht : typeB L [(⟨2, v, ⟨0, 0, 0⟩, 0, S, []⟩ : S32)] = true) : typeB L S = true := by
 cases hp : progB L [(⟨2, v, ⟨0, 0, 0⟩, 0, S, []⟩ : S32)] with
 | false => rw [typeB_no hp] at ht; cases ht
 | true =>
  rw [typeB_ok hp] at ht
  rw [typeB_ok h]
  obtain ⟨_, hL, hg, _⟩ := progB_parts h
  obtain ⟨_, _, ⟨e, he⟩, _⟩ := progB_parts hp
  rw [okTs, Bool.and_eq_true] at he
  have hv := (okT_good he.1).1.1
  obtain ⟨c, d⟩ := lab_at hL hv
  unfold allB at ht
  rw [alTs, alTs, alT_eq, laTs, laTs, laT_eq, List.append_nil, List.append_nil, List.zip_cons_cons, List.all_cons] at ht
  simp only at ht
  rw [alTs, laTs, List.append_nil, List.append_nil, Bool.and_eq_true] at ht
  rw [bA_7l c, bA_7l d] at ht
  refine all_le hL S hg ⟨(D39 L v).f0, (D39 L v).f1⟩ ⟨7, 7⟩ ⟨⟨c, d, isS7, isS7⟩, ?_, ?_⟩ ht.2
  ·obtain ⟨u, hu⟩ := as_fin c
   simp only [hu]
   exact wi_top u
  ·obtain ⟨u, hu⟩ := as_fin d
   simp only [hu]
   exact wi_top u
theorem FnTypeDeep : laws_FnTypeDeep.Stm := by
 intro l m w1 w2
 refine Ev.rounds ?_
 have hl : ∀ x ∈ l, 0 ≤ x ∧ x ≤ 255 := fun x hx => u8_of (w1.2 x hx)
 have stop : Ev (fun k => laws_FnTypeDeep.j0 k l m true) true := Ev.succ_ (Ev.all_ fun k => by simp only [laws_FnTypeDeep.j0, if_true])
 unfold laws_FnTypeDeep.f
 by_cases c : (l.length : Int) > 1048576
 ·simp only [c, if_true]
  exact stop
 simp only [c, if_false]
 by_cases c' : (m.length : Int) > 1048576
 ·simp only [c', decide_true]
  exact stop
 simp only [c', decide_false]
 obtain ⟨L, S, e, e1, e2⟩ := drawTypeOk_ev hl
 have im := im_typeB L S (by omega) (by omega)
 have sp := sp_typeB L S (by omega) (by omega)
 have same : Ev (fun k => laws_FnTypeDeep.j1 k m (typeB L S) true L S) true := by
  refine Ev.succ_ ?_
  simp only [laws_FnTypeDeep.j1, if_true]
  refine Ev.bind sp (Ev.all_ fun _ => ?_)
  rw [beq_self_eq_true]
 refine Ev.succ_ ?_
 simp only [laws_FnTypeDeep.j0, Bool.false_eq_true, if_false]
 refine Ev.bind e (Ev.bind im (Ev.bind sp ?_))
 simp only [bne_self_eq_false, Bool.false_eq_true, if_false]
 refine Ev.bind (sp_progOk L S (by omega) (by omega)) ?_
 cases hk : progB L S with
 | false =>
  simp only [Bool.false_eq_true, if_false]
  exact same
 | true =>
  simp only [if_true]
  by_cases z : (L.length : Int) = 0
  ·simp only [z, beq_self_eq_true]
   exact same
  ·have z' : ((L.length : Int) == 0) = false := beq_eq_false_iff_ne.mpr z
   rw [z']
   refine Ev.succ_ ?_
   simp only [laws_FnTypeDeep.j1, Bool.false_eq_true, z, if_false]
   refine Ev.bind (im_typeB L _ (by omega) (by rw [nTs_one]; simp only [nTs_nil]; omega)) (Ev.all_ fun _ => ?_)
   cases ht : typeB L [(⟨2, (m.length : Int) % (L.length : Int), ⟨0, 0, 0⟩, 0, S, []⟩ : S32)] with
   | false => simp only [Bool.false_eq_true, if_false]
   | true => simp only [if_true]; rw [deep_is hk ht]
end Go.Proofs.Ythidgkfgdkjghaa.Pure
