/- Plain facts on what the functions compute, several texts in one: see wip/pure. -/
import Derived.Test.YtfcmckomagaiiaaDoorAx0
import Derived.Test.YtfcmckomagaiiaaDoorAx3
import Derived.Test.YtfcmckomagaiiaaDoorAx8
import Derived.Test.YtfcmckomagaiiaaDoorAx26
import Derived.Test.YtfcmckomagaiiaaDoorAx4
import Derived.Test.YtfcmckomagaiiaaDoorAx5
import Derived.Test.YtfcmckomagaiiaaDoorAx9
import Derived.Test.YtfcmckomagaiiaaDoorAx10
namespace Go.Proofs.YtfcmckomagaiiaaDoor.A
open Go.RowKit Go.Proofs.YtfcmckomagaiiaaDoorW.PrintWords Go.Proofs.YtfcmckomagaiiaaDoorW.PrintLast Go.Proofs.YtfcmckomagaiiaaDoorW.PrintMore
theorem wr {a : Int} (h : -9223372036854775808 ≤ a) (h' : a ≤ 9223372036854775807) : wrap64 a = a := by unfold wrap64; omega
theorem Ev.from_ {α : Type} {g : Nat → Option α} {r : α} (K : Nat) (h : ∀ k, K ≤ k → g k = some r) : Ev g r := ⟨K, h⟩
theorem Ev.all_ {α : Type} {g : Nat → Option α} {r : α} (h : ∀ k, g k = some r) : Ev g r := ⟨0, fun k _ => h k⟩
theorem Ev.succ_ {α : Type} {g : Nat → Option α} {r : α} (h : Ev (fun k => g (k + 1)) r) : Ev g r := by
 obtain ⟨K, hK⟩ := h
 refine ⟨K + 1, fun k hk => ?_⟩
 obtain ⟨m, rfl⟩ : ∃ m, k = m + 1 := ⟨k - 1, by omega⟩
 exact hK m (by omega)
/-- The value that is told is one. -/
theorem Ev.one {α : Type} {g : Nat → Option α} {r q : α} (h : Ev g r) (h' : Ev g q) : r = q := by
 obtain ⟨K, hK⟩ := h
 obtain ⟨L, hL⟩ := h'
 have h1 := hK (max K L) (Nat.le_max_left _ _)
 rw [hL (max K L) (Nat.le_max_right _ _)] at h1
 exact (Option.some.inj h1).symm
theorem Ev.eq_ {α : Type} {g : Nat → Option α} {r q : α} (h : Ev g r) (e : r = q) : Ev g q := e ▸ h
/-- A callee's answer first, then the rest. -/
theorem Ev.then_ {α β : Type} {g : Nat → Option α} {f : Nat → α → Option β} {a : α} {r : β} (h : Ev g a) (k : Ev (fun n => f n a) r) : Ev (fun n => (g n).bind (f n)) r := Ev.bind h k
theorem drop_cons {α : Type} (l : List α) (n : Nat) (d : α) (h : n < l.length) : l.drop n = l.getD n d :: l.drop (n + 1) := by
 rw [List.drop_eq_getElem_cons h, List.getD_eq_getElem?_getD, List.getElem?_eq_getElem h]
 rfl
theorem set_mid {α : Type} (pre : List α) (x y : α) (rest : List α) : (pre ++ x :: rest).set pre.length y = pre ++ y :: rest := by
 rw [List.set_append_right _ _ (Nat.le_refl _), Nat.sub_self]
 rfl
theorem getD_mid {α : Type} (pre : List α) (x d : α) (rest : List α) : (pre ++ x :: rest).getD pre.length d = x := by
 rw [List.getD_eq_getElem?_getD, List.getElem?_append_right (Nat.le_refl _), Nat.sub_self]
 rfl
/-- c numbers from m on. -/
def seqI (m : Int) : Nat → List Int
 | 0 => []
 | c + 1 => m :: seqI (m + 1) c
theorem seqI_length (m : Int) (c : Nat) : (seqI m c).length = c := by
 induction c generalizing m with
 | zero => rfl
 | succ c ih => simp [seqI, ih]
end Go.Proofs.YtfcmckomagaiiaaDoor.A
namespace Go.Proofs.YtfcmckomagaiiaaDoor.A
open Go.RowKit Go.Proofs.YtfcmckomagaiiaaDoorW.PrintWords Go.Proofs.YtfcmckomagaiiaaDoorW.PrintLast Go.Proofs.YtfcmckomagaiiaaDoorW.PrintMore
/-- A number is a set of hosts. -/
def isS (s : Int) : Bool := decide (0 ≤ s) && decide (s ≤ 7)
def okL (a b : Int) : Bool := isS a && isS b
theorem isS_iff (s : Int) : isS s = true ↔ 0 ≤ s ∧ s ≤ 7 := by simp [isS]
theorem sp_set (a : Int) : spec_l1Set.f a = some (isS a) := by
 unfold spec_l1Set.f spec_l1All.f spec_l6In.f isS
 by_cases h : a ≥ 0
 ·simp [h]
 ·have h' : ¬ 0 ≤ a := h
  simp [h']
theorem im_set (a : Int) : impl_isSet.f a = some (isS a) := by
 unfold impl_isSet.f impl_in.f isS
 by_cases h : 0 ≤ a <;> simp [h]
theorem sp_ok (a b : Int) : spec_LabelOk.f a b = some (okL a b) := by
 unfold spec_LabelOk.f okL
 rw [sp_set, sp_set]
 cases isS a <;> simp
theorem im_ok (a b : Int) : impl_LabelOk.f a b = some (okL a b) := by
 unfold impl_LabelOk.f okL
 rw [im_set, im_set]
 cases isS a <;> simp
/-- What lies in 0 .. 7 is one of eight. -/
theorem as_fin {a : Int} (h : isS a = true) : ∃ x : Fin 8, a = (x.val : Int) := by
 rw [isS_iff] at h
 exact ⟨⟨a.toNat, by omega⟩, by simp; omega⟩
end Go.Proofs.YtfcmckomagaiiaaDoor.A
namespace Go.Proofs.YtfcmckomagaiiaaDoor.A
open Go.RowKit Go.Proofs.YtfcmckomagaiiaaDoorW.PrintWords Go.Proofs.YtfcmckomagaiiaaDoorW.PrintLast Go.Proofs.YtfcmckomagaiiaaDoorW.PrintMore
mutual
def inT : S71 → Nat
  | ⟨_, _, _, _, a, b⟩ => nTs a + nTs b
/-- How many steps there are, with all in them. -/
def nTs : List S71 → Nat
  | [] => 0
  | s :: r => 1 + inT s + nTs r
end
theorem inT_eq (s : S71) : inT s = nTs s.f4 + nTs s.f5 := by cases s; rw [inT]
theorem nTs_nil : nTs [] = 0 := by rw [nTs]
theorem nTs_cons (s : S71) (r : List S71) : nTs (s :: r) = 1 + (nTs s.f4 + nTs s.f5) + nTs r := by rw [nTs, inT_eq]
theorem nTs_append (a b : List S71) : nTs (a ++ b) = nTs a + nTs b := by
  induction a with
  | nil => rw [List.nil_append, nTs_nil]; omega
  | cons s r ih => rw [List.cons_append, nTs_cons, nTs_cons, ih]; omega
theorem nTs_one (s : S71) : nTs [s] = 1 + (nTs s.f4 + nTs s.f5) := by rw [nTs_cons, nTs_nil]; omega
theorem nTs_mem {s : S71} {l : List S71} (h : s ∈ l) : 1 + (nTs s.f4 + nTs s.f5) ≤ nTs l := by
  induction l with
  | nil => cases h
  | cons a r ih =>
    rw [nTs_cons]
    rcases List.mem_cons.1 h with e | e
    · subst e; omega
    · have := ih e; omega
theorem tree_ind {P : List S71 → Prop} (h : ∀ l, (∀ s ∈ l, P s.f4 ∧ P s.f5) → P l) : ∀ l, P l := by
  have : ∀ n l, nTs l < n → P l := by
    intro n
    induction n with
    | zero => intro l hl; omega
    | succ n ih =>
      intro l hl
      refine h l fun s hs => ?_
      have := nTs_mem hs
      exact ⟨ih _ (by omega), ih _ (by omega)⟩
  exact fun l => this _ l (Nat.lt_succ_self _)
theorem nTs_length (l : List S71) : l.length ≤ nTs l := by
  induction l with
  | nil => exact Nat.zero_le _
  | cons s r ih => rw [nTs_cons]; simp; omega
theorem nTs_drop (l : List S71) (n : Nat) : nTs (l.drop n) ≤ nTs l := by
  induction l generalizing n with
  | nil => simp
  | cons s r ih =>
    cases n with
    | zero => exact Nat.le_refl _
    | succ n => rw [List.drop_succ_cons, nTs_cons]; have := ih n; omega
/-- Values and hosts in form. -/
def varB (n v : Int) : Bool := decide (0 ≤ v) && decide (v ≤ n - 1)
def valB (n : Int) (x : S69) : Bool :=
  if x.f0 = 1 then (decide (0 ≤ x.f1) && decide (x.f1 ≤ 9)) && x.f2 == 0
  else if x.f0 = 2 then varB n x.f1 && x.f2 == 0
  else if x.f0 = 3 ∨ x.f0 = 4 then varB n x.f1 && varB n x.f2 else false
def hostB (h : Int) : Bool := decide (0 ≤ h) && decide (h ≤ 2)
mutual
def okT (n : Int) : S71 → Int → Bool
  | ⟨k, v, x, h, a, b⟩, d => decide (1 ≤ d) && (varB n v &&
     (if k = 1 then valB n x && (h == 0 && (a.isEmpty && b.isEmpty))
      else if k = 3 then (x.f0 == 0 && (x.f1 == 0 && x.f2 == 0)) && (hostB h && (a.isEmpty && b.isEmpty))
      else if k = 2 then (x.f0 == 0 && (x.f1 == 0 && x.f2 == 0)) && (h == 0 && (okTs n a (d - 1) && okTs n b (d - 1))) else false))
/-- Steps are in form, at most so deep. -/
def okTs (n : Int) : List S71 → Int → Bool
  | [], _ => true
  | s :: r, d => okT n s d && okTs n r d
end
end Go.Proofs.YtfcmckomagaiiaaDoor.A
namespace Go.Proofs.YtfcmckomagaiiaaDoor.A
open Go.RowKit Go.Proofs.YtfcmckomagaiiaaDoorW.PrintWords Go.Proofs.YtfcmckomagaiiaaDoorW.PrintLast Go.Proofs.YtfcmckomagaiiaaDoorW.PrintMore
theorem rdS_mem {l : List S71} {n : Nat} (h : n < l.length) : D71 l (n : Int) ∈ l := by
 simp only [D71, Int.toNat_natCast, List.getD_eq_getElem?_getD, List.getElem?_eq_getElem h, Option.getD_some]
 exact List.getElem_mem h
theorem rdS_drop {l : List S71} {n : Nat} (h : n < l.length) : l.drop n = D71 l (n : Int) :: l.drop (n + 1) := by
 simp only [D71, Int.toNat_natCast]
 exact drop_cons l n _ h
end Go.Proofs.YtfcmckomagaiiaaDoor.A
namespace Go.Proofs.YtfcmckomagaiiaaDoor.A
open Go.RowKit Go.Proofs.YtfcmckomagaiiaaDoorW.PrintWords Go.Proofs.YtfcmckomagaiiaaDoorW.PrintLast Go.Proofs.YtfcmckomagaiiaaDoorW.PrintMore
theorem eta_st (s : S71) : (⟨s.f0, s.f1, (⟨s.f2.f0, s.f2.f1, s.f2.f2⟩ : S69), s.f3, s.f4, s.f5⟩ : S71) = s := by cases s; rfl
theorem copy_ev : ∀ l : List S71, nTs l ≤ 1048576 → Ev (fun k => spec_l2Copy.f k l) l := by
 refine tree_ind fun l ih hl => ?_
 have hlen := nTs_length l
 have loop : ∀ (d n : Nat), n + d = l.length → Ev (fun k => spec_l2Copy.l0 k l (l.take n) (n : Int)) l := by
  intro d
  induction d with
  | zero =>
   intro n hn
   refine Ev.succ_ (Ev.all_ fun k => ?_)
   have h1 : ¬ ((n : Int) < (l.length : Int)) := by omega
   simp only [spec_l2Copy.l0, h1, if_false]
   rw [List.take_of_length_le (by omega)]
  | succ d ih2 =>
   intro n hn
   refine Ev.succ_ ?_
   have h1 : (n : Int) < (l.length : Int) := by omega
   have h2 : (0 : Int) ≤ (n : Int) := by omega
   have h3 : (l.take n).length < 1466015503701 := by rw [List.length_take]; omega
   have h4 : wrap64 ((n : Int) + 1) = ((n + 1 : Nat) : Int) := by rw [wr (by omega) (by omega)]; omega
   have hm := rdS_mem (l := l) (n := n) (by omega)
   have hs := nTs_mem hm
   obtain ⟨i4, i5⟩ := ih _ hm
   have e : l.take n ++ [D71 l (n : Int)] = l.take (n + 1) := by
    have hn' : n < l.length := by omega
    rw [List.take_succ_eq_append_getElem hn']
    simp [D71, List.getD_eq_getElem?_getD, List.getElem?_eq_getElem hn']
   simp only [spec_l2Copy.l0, h1, h2, h3, h4, if_true]
   refine Ev.bind (i4 (by omega)) (Ev.bind (i5 (by omega)) ?_)
   simp only [eta_st, e]
   exact ih2 (n + 1) (by omega)
 refine Ev.succ_ ?_
 simp only [spec_l2Copy.f]
 simpa using loop l.length 0 (by omega)
end Go.Proofs.YtfcmckomagaiiaaDoor.A
namespace Go.Proofs.YtfcmckomagaiiaaDoor.A
open Go.RowKit Go.Proofs.YtfcmckomagaiiaaDoorW.PrintWords Go.Proofs.YtfcmckomagaiiaaDoorW.PrintLast Go.Proofs.YtfcmckomagaiiaaDoorW.PrintMore
theorem okT_eq (n : Int) (s : S71) (d : Int) : okT n s d = (decide (1 ≤ d) && (varB n s.f1 &&
     (if s.f0 = 1 then valB n s.f2 && (s.f3 == 0 && (s.f4.isEmpty && s.f5.isEmpty))
      else if s.f0 = 3 then (s.f2.f0 == 0 && (s.f2.f1 == 0 && s.f2.f2 == 0)) && (hostB s.f3 && (s.f4.isEmpty && s.f5.isEmpty))
      else if s.f0 = 2 then (s.f2.f0 == 0 && (s.f2.f1 == 0 && s.f2.f2 == 0)) && (s.f3 == 0 && (okTs n s.f4 (d - 1) && okTs n s.f5 (d - 1))) else false))) := by
  cases s; rw [okT]
theorem sp_in (n a b : Int) : spec_l6In.f n a b = some (decide (a ≤ n) && decide (n ≤ b)) := by
  unfold spec_l6In.f
  by_cases h : n ≥ a <;> simp [h]
theorem im_in (n a b : Int) : impl_in.f n a b = some (decide (a ≤ n) && decide (n ≤ b)) := by
  unfold impl_in.f
  by_cases h : a ≤ n <;> simp [h]
theorem sp_var (L : List S43) (S : List S71) (v : Int) (h : L.length ≤ 1048576) : spec_l2Var.f L S v = some (varB L.length v) := by
  unfold spec_l2Var.f varB
  rw [sp_in, wr (by omega) (by omega)]
  rfl
theorem im_var (L : List S43) (S : List S71) (v : Int) (h : L.length ≤ 1048576) : impl_Prog_isVar.f L S v = some (varB L.length v) := by
  unfold impl_Prog_isVar.f varB
  rw [im_in, wr (by omega) (by omega)]
  rfl
theorem sp_val (L : List S43) (S : List S71) (x : S69) (h : L.length ≤ 1048576) : Ev (fun k => spec_l2Val.f k L S x.f0 x.f1 x.f2) (valB L.length x) := by
  unfold spec_l2Val.f valB
  by_cases h1 : x.f0 = 1
  · simp only [h1, if_true, sp_in, Option.bind_some]
    refine Ev.all_ fun k => ?_
    cases decide (0 ≤ x.f1) <;> cases decide (x.f1 ≤ 9) <;> rfl
  · by_cases h2 : x.f0 = 2
    · simp only [h2, if_true, sp_var L S _ h, Option.bind_some]
      refine Ev.all_ fun k => ?_
      cases varB L.length x.f1 <;> rfl
    · simp only [h1, h2, if_false]
      by_cases h3 : x.f0 = 3
      · simp only [h3, if_true]
        refine Ev.succ_ (Ev.all_ fun k => ?_)
        simp only [spec_l2Val.j0, sp_var L S _ h, Option.bind_some]
        cases varB L.length x.f1 <;> cases varB L.length x.f2 <;> simp
      · simp only [h3, if_false]
        refine Ev.succ_ (Ev.all_ fun k => ?_)
        simp only [spec_l2Val.j0, sp_var L S _ h, Option.bind_some]
        by_cases h4 : x.f0 = 4
        · cases varB L.length x.f1 <;> cases varB L.length x.f2 <;> simp [h4]
        · simp [h4]
theorem im_val (L : List S43) (S : List S71) (x : S69) (h : L.length ≤ 1048576) : impl_Prog_valOk.f L S x.f0 x.f1 x.f2 = some (valB L.length x) := by
  unfold impl_Prog_valOk.f valB impl_isNum.f
  simp only [im_in, im_var L S _ h, Option.bind_some]
  by_cases h1 : x.f0 = 1
  · simp only [h1, if_true]
    cases decide (0 ≤ x.f1) <;> cases decide (x.f1 ≤ 9) <;> rfl
  · by_cases h2 : x.f0 = 2
    · simp only [h2, if_true]
      cases varB L.length x.f1 <;> rfl
    · by_cases h3 : x.f0 = 3
      · simp only [h3, if_true]
        cases varB L.length x.f1 <;> cases varB L.length x.f2 <;> simp
      · by_cases h4 : x.f0 = 4
        · simp only [h4, if_true]
          cases varB L.length x.f1 <;> cases varB L.length x.f2 <;> simp
        · simp [h1, h2, h3, h4]
theorem im_host (x : Int) : impl_isHost.f x = some (hostB x) := by
  unfold impl_isHost.f hostB
  rw [im_in]
  rfl
theorem len0 (a b : List S71) (ha : a.length ≤ 1048576) (hb : b.length ≤ 1048576) : (wrap64 ((a.length : Int) + (b.length : Int)) == 0) = (a.isEmpty && b.isEmpty) := by
  rw [wr (by omega) (by omega)]
  cases a <;> cases b <;> simp <;> omega
theorem len1 (a b : List S71) (ha : a.length ≤ 1048576) (hb : b.length ≤ 1048576) : decide (wrap64 ((a.length : Int) + (b.length : Int)) > 0) = !(a.isEmpty && b.isEmpty) := by
  rw [wr (by omega) (by omega)]
  cases a <;> cases b <;> simp <;> omega
theorem sp_steps (L : List S43) (S : List S71) (hL : L.length ≤ 1048576) : ∀ l : List S71, nTs l ≤ 1048576 → ∀ q : Int, 0 ≤ q → q ≤ 3 → Ev (fun k => spec_l2Steps.f k L S l q) (okTs L.length l q) := by
  refine tree_ind fun l ih hl q q0 q1 => ?_
  have hlen := nTs_length l
  have loop : ∀ (d n : Nat), n + d = l.length → Ev (fun k => spec_l2Steps.l0 k l q (n : Int) L S) (okTs L.length (l.drop n) q) := by
    intro d
    induction d with
    | zero =>
      intro n hn
      refine Ev.succ_ (Ev.all_ fun k => ?_)
      have h1 : ¬ ((n : Int) < (l.length : Int)) := by omega
      simp only [spec_l2Steps.l0, h1, if_false]
      rw [List.drop_of_length_le (by omega), okTs]
    | succ d ih2 =>
      intro n hn
      refine Ev.succ_ ?_
      have h1 : (n : Int) < (l.length : Int) := by omega
      have h2 : (0 : Int) ≤ (n : Int) := by omega
      have h4 : wrap64 ((n : Int) + 1) = ((n + 1 : Nat) : Int) := by rw [wr (by omega) (by omega)]; omega
      have hm := rdS_mem (l := l) (n := n) (by omega)
      rw [rdS_drop (l := l) (n := n) (by omega), okTs]
      obtain ⟨i4, i5⟩ := ih _ hm
      have hs := nTs_mem hm
      simp only [spec_l2Steps.l0, h1, h2, h4, if_true]
      generalize D71 l (n : Int) = s at *
      have g4 := nTs_length s.f4
      have g5 := nTs_length s.f5
      have step : Ev (fun k => spec_l2Step.g k (spec_l2Steps.f k) L S s.f0 s.f1 s.f2.f0 s.f2.f1 s.f2.f2 s.f3 s.f4 s.f5 q) (okT L.length s q) := by
        rw [okT_eq]
        unfold spec_l2Step.g
        by_cases hq : q < 1
        · have hq' : ¬ 1 ≤ q := by omega
          simp only [hq, hq', if_true, decide_false, Bool.false_and]
          exact Ev.now _
        · have hq' : 1 ≤ q := by omega
          simp only [hq, hq', if_false, decide_true, Bool.true_and, sp_var L S _ hL, Option.bind_some]
          cases hv : varB L.length s.f1 with
          | false => simp only [Bool.false_eq_true, if_false, Bool.false_and]; exact Ev.now _
          | true =>
            simp only [if_true, Bool.true_and]
            by_cases k1 : s.f0 = 1
            · simp only [k1, if_true]
              refine Ev.bind (sp_val L S s.f2 hL) ?_
              cases valB L.length s.f2 with
              | false => simp only [Bool.false_eq_true, if_false, Bool.false_and]; exact Ev.now _
              | true =>
                simp only [if_true, Bool.true_and, len0 s.f4 s.f5 (by omega) (by omega)]
                refine Ev.all_ fun k => ?_
                by_cases k3 : s.f3 = 0 <;> simp [k3]
            · by_cases k3 : s.f0 = 3
              · simp only [k3, if_true, show ¬ (3 : Int) = 1 by omega, if_false, sp_in, Option.bind_some, len0 s.f4 s.f5 (by omega) (by omega)]
                refine Ev.all_ fun k => ?_
                unfold hostB
                cases (s.f2.f0 == 0 && (s.f2.f1 == 0 && s.f2.f2 == 0)) with
                | false => simp
                | true => cases decide (0 ≤ s.f3) <;> cases decide (s.f3 ≤ 2) <;> simp
              · by_cases k2 : s.f0 = 2
                · simp only [k2, if_true, show ¬ (2 : Int) = 1 by omega, show ¬ (2 : Int) = 3 by omega, if_false]
                  have hw : wrap64 (q - 1) = q - 1 := wr (by omega) (by omega)
                  cases (s.f2.f0 == 0 && (s.f2.f1 == 0 && s.f2.f2 == 0)) with
                  | false => simp only [Bool.false_eq_true, if_false, Bool.false_and]; exact Ev.now _
                  | true =>
                    simp only [if_true, Bool.true_and, hw]
                    by_cases k3' : s.f3 = 0
                    · simp only [k3', if_true, beq_self_eq_true, Bool.true_and]
                      refine Ev.bind (i4 (by omega) (q - 1) (by omega) (by omega)) ?_
                      cases okTs L.length s.f4 (q - 1) with
                      | false => simp only [Bool.false_eq_true, if_false, Bool.false_and]; exact Ev.now _
                      | true =>
                        simp only [if_true, Bool.true_and]
                        exact Ev.bind (i5 (by omega) (q - 1) (by omega) (by omega)) (Ev.now _)
                    · have : (s.f3 == 0) = false := by simpa using k3'
                      simp only [k3', if_false, this, Bool.false_and]
                      exact Ev.now _
                · simp only [k1, k2, k3, if_false]
                  exact Ev.now _
      refine Ev.bind step ?_
      cases okT L.length s q with
      | false => simp only [Bool.false_eq_true, if_false, Bool.false_and]; exact Ev.now _
      | true => simp only [if_true, Bool.true_and]; exact ih2 (n + 1) (by omega)
  refine Ev.succ_ ?_
  simp only [spec_l2Steps.f]
  exact loop l.length 0 (by omega)
theorem im_steps (L : List S43) (S : List S71) (hL : L.length ≤ 1048576) : ∀ l : List S71, nTs l ≤ 1048576 → ∀ q : Int, 0 ≤ q → q ≤ 3 → Ev (fun k => impl_Prog_stepsOk.f k L S l q) (okTs L.length l q) := by
  refine tree_ind fun l ih hl q q0 q1 => ?_
  have hlen := nTs_length l
  have loop : ∀ (d n : Nat), n + d = l.length → Ev (fun k => impl_Prog_stepsOk.l0 k q l (l.length : Int) (n : Int) L S) (okTs L.length (l.drop n) q) := by
    intro d
    induction d with
    | zero =>
      intro n hn
      refine Ev.succ_ (Ev.all_ fun k => ?_)
      have h1 : ¬ ((n : Int) < (l.length : Int)) := by omega
      simp only [impl_Prog_stepsOk.l0, h1, if_false]
      rw [List.drop_of_length_le (by omega), okTs]
    | succ d ih2 =>
      intro n hn
      refine Ev.succ_ ?_
      have h1 : (n : Int) < (l.length : Int) := by omega
      have h2 : (0 : Int) ≤ (n : Int) := by omega
      have h4 : wrap64 ((n : Int) + 1) = ((n + 1 : Nat) : Int) := by rw [wr (by omega) (by omega)]; omega
      have hm := rdS_mem (l := l) (n := n) (by omega)
      rw [rdS_drop (l := l) (n := n) (by omega), okTs]
      obtain ⟨i4, i5⟩ := ih _ hm
      have hs := nTs_mem hm
      simp only [impl_Prog_stepsOk.l0, h1, h2, if_true]
      generalize D71 l (n : Int) = s at *
      have g4 := nTs_length s.f4
      have g5 := nTs_length s.f5
      have bad : ∀ c1 c2 c3 c4 c5 c6 c7 c8, Ev (fun k => impl_Prog_stepsOk.j1 k q l (l.length : Int) (n : Int) true L S c1 c2 c3 c4 c5 c6 c7 c8) false := fun _ _ _ _ _ _ _ _ => Ev.succ_ (Ev.all_ fun k => by simp only [impl_Prog_stepsOk.j1, if_true])
      rw [okT_eq]
      by_cases hq : q < 1
      · have hq' : ¬ 1 ≤ q := by omega
        simp only [hq, hq', if_true, decide_false, Bool.false_and]
        exact bad _ _ _ _ _ _ _ _
      · have hq' : 1 ≤ q := by omega
        simp only [hq, hq', if_false, decide_true, Bool.true_and, im_var L S _ hL, Option.bind_some]
        cases hv : varB L.length s.f1 with
        | false => simp only [Bool.false_eq_true, if_false, Bool.false_and]; exact bad _ _ _ _ _ _ _ _
        | true =>
          simp only [if_true, Bool.true_and, len1 s.f4 s.f5 (by omega) (by omega)]
          have hx : (!(s.f2.f0 == 0) || (!(s.f2.f1 == 0) || !(s.f2.f2 == 0))) = !(s.f2.f0 == 0 && (s.f2.f1 == 0 && s.f2.f2 == 0)) := by
            cases (s.f2.f0 == 0) <;> cases (s.f2.f1 == 0) <;> cases (s.f2.f2 == 0) <;> rfl
          rw [hx]
          by_cases k1 : s.f0 = 1
          · simp only [k1, if_true, show ¬ (1 : Int) = 3 by omega, show ¬ (1 : Int) = 2 by omega, if_false]
            by_cases k3' : s.f3 = 0
            · simp only [k3', if_true, beq_self_eq_true, Bool.true_and]
              cases he : (s.f4.isEmpty && s.f5.isEmpty) with
              | false => simp only [Bool.not_false, Bool.and_false, Bool.false_and]; exact bad _ _ _ _ _ _ _ _
              | true =>
                refine Ev.succ_ ?_
                simp only [Bool.not_true, impl_Prog_stepsOk.j1, Bool.false_eq_true, if_false, if_true, im_val L S s.f2 hL, Option.bind_some, Bool.and_true, h4]
                cases valB L.length s.f2 with
                | false => simp only [Bool.false_eq_true, if_false, Bool.false_and]; exact Ev.now _
                | true => simp only [if_true, Bool.true_and]; exact ih2 (n + 1) (by omega)
            · have : (s.f3 == 0) = false := by simpa using k3'
              simp only [k3', if_false, this, Bool.false_and, Bool.and_false]
              exact bad _ _ _ _ _ _ _ _
          · simp only [k1, if_false]
            cases hz : (s.f2.f0 == 0 && (s.f2.f1 == 0 && s.f2.f2 == 0)) with
            | false =>
              simp only [Bool.not_false, if_true, Bool.false_and, ite_self]
              exact bad _ _ _ _ _ _ _ _
            | true =>
              simp only [Bool.not_true, Bool.false_eq_true, if_false, Bool.true_and]
              by_cases k3 : s.f0 = 3
              · simp only [k3, if_true, show ¬ (3 : Int) = 2 by omega, if_false]
                cases he : (s.f4.isEmpty && s.f5.isEmpty) with
                | false => simp only [Bool.not_false, Bool.and_false, Bool.false_and]; exact bad _ _ _ _ _ _ _ _
                | true =>
                  refine Ev.succ_ ?_
                  simp only [Bool.not_true, impl_Prog_stepsOk.j1, Bool.false_eq_true, if_false, if_true, im_host, Option.bind_some, Bool.and_true, h4, show ¬ (3 : Int) = 1 by omega, show ¬ (3 : Int) = 2 by omega]
                  cases hostB s.f3 with
                  | false => simp only [Bool.false_eq_true, if_false, Bool.false_and]; exact Ev.now _
                  | true => simp only [if_true, Bool.true_and]; exact ih2 (n + 1) (by omega)
              · simp only [k3, if_false]
                by_cases k3' : s.f3 = 0
                · simp only [k3', if_true, beq_self_eq_true, Bool.true_and]
                  by_cases k2 : s.f0 = 2
                  · have hw : wrap64 (q - 1) = q - 1 := wr (by omega) (by omega)
                    simp only [k2, if_true]
                    refine Ev.succ_ ?_
                    simp only [impl_Prog_stepsOk.j1, Bool.false_eq_true, if_false, if_true, h4, hw, show ¬ (2 : Int) = 1 by omega]
                    refine Ev.bind (i4 (by omega) (q - 1) (by omega) (by omega)) ?_
                    cases okTs L.length s.f4 (q - 1) with
                    | false => simp only [Bool.false_eq_true, if_false, Bool.false_and]; exact Ev.now _
                    | true =>
                      simp only [if_true, Bool.true_and]
                      refine Ev.bind (i5 (by omega) (q - 1) (by omega) (by omega)) ?_
                      cases okTs L.length s.f5 (q - 1) with
                      | false => simp only [Bool.false_eq_true, if_false, Bool.false_and]; exact Ev.now _
                      | true => simp only [if_true, Bool.true_and]; exact ih2 (n + 1) (by omega)
                  · simp only [k2, if_false, Bool.false_and]
                    cases he : (s.f4.isEmpty && s.f5.isEmpty) with
                    | false => exact bad _ _ _ _ _ _ _ _
                    | true =>
                      refine Ev.succ_ (Ev.all_ fun k => ?_)
                      simp only [Bool.not_true, impl_Prog_stepsOk.j1, Bool.false_eq_true, if_false, k1, k2, k3]
                · have : (s.f3 == 0) = false := by simpa using k3'
                  simp only [k3', if_false, this, Bool.false_and, ite_self]
                  exact bad _ _ _ _ _ _ _ _
  refine Ev.succ_ ?_
  simp only [impl_Prog_stepsOk.f]
  exact loop l.length 0 (by omega)
theorem sp_count : ∀ l : List S71, nTs l ≤ 1048576 → Ev (fun k => spec_l2Count.f k l) (nTs l : Int) := by
  refine tree_ind fun l ih hl => ?_
  have hlen := nTs_length l
  have loop : ∀ (d n : Nat) (x : Int), n + d = l.length → 0 ≤ x → x + nTs (l.drop n) ≤ 1048576 → Ev (fun k => spec_l2Count.l0 k l x (n : Int)) (x + nTs (l.drop n)) := by
    intro d
    induction d with
    | zero =>
      intro n x hn x0 x1
      refine Ev.succ_ (Ev.all_ fun k => ?_)
      have h1 : ¬ ((n : Int) < (l.length : Int)) := by omega
      simp only [spec_l2Count.l0, h1, if_false]
      rw [List.drop_of_length_le (by omega), nTs_nil]
      simp
    | succ d ih2 =>
      intro n x hn x0 x1
      refine Ev.succ_ ?_
      have h1 : (n : Int) < (l.length : Int) := by omega
      have h2 : (0 : Int) ≤ (n : Int) := by omega
      have h4 : wrap64 ((n : Int) + 1) = ((n + 1 : Nat) : Int) := by rw [wr (by omega) (by omega)]; omega
      have hm := rdS_mem (l := l) (n := n) (by omega)
      rw [rdS_drop (l := l) (n := n) (by omega), nTs_cons] at x1 ⊢
      obtain ⟨i4, i5⟩ := ih _ hm
      have hs := nTs_mem hm
      simp only [spec_l2Count.l0, h1, h2, h4, if_true]
      generalize D71 l (n : Int) = s at *
      refine Ev.bind (i4 (by omega)) (Ev.bind (i5 (by omega)) ?_)
      have e : wrap64 (wrap64 (wrap64 (x + 1) + (nTs s.f4 : Int)) + (nTs s.f5 : Int)) = x + 1 + nTs s.f4 + nTs s.f5 := by
        rw [wr (a := x + 1) (by omega) (by omega), wr (a := x + 1 + (nTs s.f4 : Int)) (by omega) (by omega), wr (by omega) (by omega)]
      rw [e]
      exact Ev.eq_ (ih2 (n + 1) _ (by omega) (by omega) (by omega)) (by omega)
  refine Ev.succ_ ?_
  simp only [spec_l2Count.f]
  exact Ev.eq_ (loop l.length 0 0 (by omega) (by omega) (by rw [List.drop_zero]; omega)) (by rw [List.drop_zero]; omega)
theorem im_size : ∀ l : List S71, nTs l ≤ 1048576 → Ev (fun k => impl_size.f k l) (nTs l : Int) := by
  refine tree_ind fun l ih hl => ?_
  have hlen := nTs_length l
  have loop : ∀ (d n : Nat) (x : Int), n + d = l.length → 0 ≤ x → x + nTs (l.drop n) ≤ 1048576 + d → Ev (fun k => impl_size.l0 k x l (l.length : Int) (n : Int)) (x + nTs (l.drop n) - d) := by
    intro d
    induction d with
    | zero =>
      intro n x hn x0 x1
      refine Ev.succ_ (Ev.all_ fun k => ?_)
      have h1 : ¬ ((n : Int) < (l.length : Int)) := by omega
      simp only [impl_size.l0, h1, if_false]
      rw [List.drop_of_length_le (by omega), nTs_nil]
      simp
    | succ d ih2 =>
      intro n x hn x0 x1
      refine Ev.succ_ ?_
      have h1 : (n : Int) < (l.length : Int) := by omega
      have h2 : (0 : Int) ≤ (n : Int) := by omega
      have h4 : wrap64 ((n : Int) + 1) = ((n + 1 : Nat) : Int) := by rw [wr (by omega) (by omega)]; omega
      have hm := rdS_mem (l := l) (n := n) (by omega)
      rw [rdS_drop (l := l) (n := n) (by omega), nTs_cons] at x1 ⊢
      obtain ⟨i4, i5⟩ := ih _ hm
      have hs := nTs_mem hm
      simp only [impl_size.l0, h1, h2, h4, if_true]
      generalize D71 l (n : Int) = s at *
      refine Ev.bind (i4 (by omega)) (Ev.bind (i5 (by omega)) ?_)
      have e : wrap64 (x + wrap64 ((nTs s.f4 : Int) + (nTs s.f5 : Int))) = x + (nTs s.f4 + nTs s.f5) := by
        rw [wr (a := (nTs s.f4 : Int) + (nTs s.f5 : Int)) (by omega) (by omega), wr (by omega) (by omega)]
      rw [e]
      exact Ev.eq_ (ih2 (n + 1) _ (by omega) (by omega) (by omega)) (by omega)
  refine Ev.succ_ ?_
  simp only [impl_size.f]
  exact Ev.eq_ (loop l.length 0 _ (by omega) (by omega) (by rw [List.drop_zero]; omega)) (by rw [List.drop_zero]; omega)
end Go.Proofs.YtfcmckomagaiiaaDoor.A
namespace Go.Proofs.YtfcmckomagaiiaaDoor.A
open Go.RowKit Go.Proofs.YtfcmckomagaiiaaDoorW.PrintWords Go.Proofs.YtfcmckomagaiiaaDoorW.PrintLast Go.Proofs.YtfcmckomagaiiaaDoorW.PrintMore
/-- A program is in form. -/
def progB (a : List S43) (b : List S71) : Bool :=
 decide (a.length ≤ 4) && (a.all (fun x => okL x.f0 x.f1) && (okTs a.length b 3 && decide (nTs b ≤ 8)))
theorem rdLab_drop {l : List S43} {n : Nat} (h : n < l.length) : l.drop n = D43 l (n : Int) :: l.drop (n + 1) := by
 simp only [D43, Int.toNat_natCast]
 exact drop_cons l n _ h
theorem sp_progOk (a : List S43) (b : List S71) (ha : a.length ≤ 1048576) (hb : nTs b ≤ 1048576) : Ev (fun k => spec_ProgOk.f k a b) (progB a b) := by
 unfold spec_ProgOk.f progB
 by_cases c : (a.length : Int) > 4
 ·have c' : ¬ a.length ≤ 4 := by omega
  simp only [c, c', if_true, decide_false, Bool.false_and]
  exact Ev.now _
 ·have c' : a.length ≤ 4 := by omega
  simp only [c, c', if_false, decide_true, Bool.true_and]
  have loop : ∀ (d n : Nat), n + d = a.length → Ev (fun k => spec_ProgOk.l0 k (n : Int) a b) ((a.drop n).all (fun x => okL x.f0 x.f1) && (okTs a.length b 3 && decide (nTs b ≤ 8))) := by
   intro d
   induction d with
   | zero =>
    intro n hn
    refine Ev.succ_ ?_
    have h1 : ¬ ((n : Int) < (a.length : Int)) := by omega
    simp only [spec_ProgOk.l0, h1, if_false]
    rw [List.drop_of_length_le (by omega)]
    simp only [List.all_nil, Bool.true_and]
    refine Ev.bind (sp_steps a b ha b hb 3 (by omega) (by omega)) ?_
    cases okTs a.length b 3 with
    | false => simp only [Bool.false_eq_true, if_false, Bool.false_and]; exact Ev.now _
    | true =>
     simp only [if_true, Bool.true_and]
     refine Ev.bind (sp_count b hb) ?_
     exact Ev.eq_ (Ev.now _) (by simp only [decide_eq_decide]; omega)
   | succ d ih =>
    intro n hn
    refine Ev.succ_ ?_
    have h1 : (n : Int) < (a.length : Int) := by omega
    have h2 : (0 : Int) ≤ (n : Int) := by omega
    have h4 : wrap64 ((n : Int) + 1) = ((n + 1 : Nat) : Int) := by rw [wr (by omega) (by omega)]; omega
    rw [rdLab_drop (l := a) (n := n) (by omega), List.all_cons]
    simp only [spec_ProgOk.l0, h1, h2, h4, if_true, sp_ok, Option.bind_some]
    cases okL (D43 a (n : Int)).f0 (D43 a (n : Int)).f1 with
    | false => simp only [Bool.false_eq_true, if_false, Bool.false_and]; exact Ev.now _
    | true => simp only [if_true, Bool.true_and]; exact ih (n + 1) (by omega)
  exact loop a.length 0 (by omega)
theorem im_contains (a : List S43) (ha : a.length ≤ 1048576) : Ev (fun k => impl_Label_39.f k a) (!a.all (fun x => okL x.f0 x.f1)) := by
 unfold impl_Label_39.f impl_Label_59.f
 have loop : ∀ (d n : Nat), n + d = a.length → ∃ r : Int, Ev (fun k => impl_Label_59.l0 k a (a.length : Int) (n : Int)) r ∧ decide (r ≥ 0) = !(a.drop n).all (fun x => okL x.f0 x.f1) := by
  intro d
  induction d with
  | zero =>
   intro n hn
   have h1 : ¬ ((n : Int) < (a.length : Int)) := by omega
   refine ⟨-1, Ev.succ_ (Ev.all_ fun k => by simp only [impl_Label_59.l0, h1, if_false]), ?_⟩
   rw [List.drop_of_length_le (by omega)]
   simp
  | succ d ih =>
   intro n hn
   have h1 : (n : Int) < (a.length : Int) := by omega
   have h2 : (0 : Int) ≤ (n : Int) := by omega
   have h4 : wrap64 ((n : Int) + 1) = ((n + 1 : Nat) : Int) := by rw [wr (by omega) (by omega)]; omega
   rw [rdLab_drop (l := a) (n := n) (by omega), List.all_cons]
   obtain ⟨r, e, hr⟩ := ih (n + 1) (by omega)
   cases hk : okL (D43 a (n : Int)).f0 (D43 a (n : Int)).f1 with
   | false =>
    refine ⟨(n : Int), Ev.succ_ (Ev.all_ fun k => by simp only [impl_Label_59.l0, h1, h2, if_true, impl_ProgOk_1.f, im_ok, Option.bind_some, hk, Bool.not_false]), ?_⟩
    simp
   | true =>
    refine ⟨r, Ev.succ_ ?_, by simpa using hr⟩
    simp only [impl_Label_59.l0, h1, h2, h4, if_true, impl_ProgOk_1.f, im_ok, Option.bind_some, hk, Bool.not_true, Bool.false_eq_true, if_false]
    exact e
 obtain ⟨r, e, hr⟩ := loop a.length 0 (by omega)
 exact Ev.bind e (Ev.eq_ (Ev.now _) (by simpa using hr))
theorem im_progOk (a : List S43) (b : List S71) (ha : a.length ≤ 1048576) (hb : nTs b ≤ 1048576) : Ev (fun k => impl_ProgOk.f k a b) (progB a b) := by
 unfold impl_ProgOk.f progB
 by_cases c : (a.length : Int) ≤ 4
 ·have c' : a.length ≤ 4 := by omega
  simp only [c, c', if_true, decide_true, Bool.true_and]
  refine Ev.bind (im_contains a ha) ?_
  cases a.all (fun x => okL x.f0 x.f1) with
  | false => simp only [Bool.not_false, if_true, Bool.false_and]; exact Ev.now _
  | true =>
   simp only [Bool.not_true, Bool.false_eq_true, if_false, Bool.true_and]
   refine Ev.bind (im_steps a b ha b hb 3 (by omega) (by omega)) ?_
   cases okTs a.length b 3 with
   | false => simp only [Bool.false_eq_true, if_false, Bool.false_and]; exact Ev.now _
   | true =>
    simp only [if_true, Bool.true_and]
    refine Ev.bind (im_size b hb) ?_
    exact Ev.eq_ (Ev.now _) (by simp only [decide_eq_decide]; omega)
 ·have c' : ¬ a.length ≤ 4 := by omega
  simp only [c, c', if_false, decide_false, Bool.false_and]
  exact Ev.now _
end Go.Proofs.YtfcmckomagaiiaaDoor.A
