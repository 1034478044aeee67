/- Plain facts on what the functions compute, several texts in one: see wip/pure. -/
import Derived.Test.YtaflodibibbakaaAx0
import Derived.Test.YtaflodibibbakaaAx2
import Derived.Test.YtaflodibibbakaaAx7
namespace Go.Proofs.Ytaflodibibbakaa.A
open Go.RowKit Go.Proofs.YtaflodibibbakaaW.PrintWords Go.Proofs.YtaflodibibbakaaW.PrintLast Go.Proofs.YtaflodibibbakaaW.PrintMore
theorem wr {a : Int} (h : -9223372036854775808 ≤ a) (h' : a ≤ 9223372036854775807) : wrap64 a = a := by unfold wrap64; omega
theorem Ev.from_ {α : Type} {g : Nat → Option α} {r : α} (K : Nat) (h : ∀ k, K ≤ k → g k = some r) : Ev g r := ⟨K, h⟩
theorem Ev.all_ {α : Type} {g : Nat → Option α} {r : α} (h : ∀ k, g k = some r) : Ev g r := ⟨0, fun k _ => h k⟩
theorem Ev.succ_ {α : Type} {g : Nat → Option α} {r : α} (h : Ev (fun k => g (k + 1)) r) : Ev g r := by
 obtain ⟨K, hK⟩ := h
 refine ⟨K + 1, fun k hk => ?_⟩
 obtain ⟨m, rfl⟩ : ∃ m, k = m + 1 := ⟨k - 1, by omega⟩
 exact hK m (by omega)
/-- The value that is told is one. -/
theorem Ev.one {α : Type} {g : Nat → Option α} {r q : α} (h : Ev g r) (h' : Ev g q) : r = q := by
 obtain ⟨K, hK⟩ := h
 obtain ⟨L, hL⟩ := h'
 have h1 := hK (max K L) (Nat.le_max_left _ _)
 rw [hL (max K L) (Nat.le_max_right _ _)] at h1
 exact (Option.some.inj h1).symm
theorem Ev.eq_ {α : Type} {g : Nat → Option α} {r q : α} (h : Ev g r) (e : r = q) : Ev g q := e ▸ h
/-- A callee's answer first, then the rest. -/
theorem Ev.then_ {α β : Type} {g : Nat → Option α} {f : Nat → α → Option β} {a : α} {r : β} (h : Ev g a) (k : Ev (fun n => f n a) r) : Ev (fun n => (g n).bind (f n)) r := Ev.bind h k
theorem drop_cons {α : Type} (l : List α) (n : Nat) (d : α) (h : n < l.length) : l.drop n = l.getD n d :: l.drop (n + 1) := by
 rw [List.drop_eq_getElem_cons h, List.getD_eq_getElem?_getD, List.getElem?_eq_getElem h]
 rfl
theorem set_mid {α : Type} (pre : List α) (x y : α) (rest : List α) : (pre ++ x :: rest).set pre.length y = pre ++ y :: rest := by
 rw [List.set_append_right _ _ (Nat.le_refl _), Nat.sub_self]
 rfl
theorem getD_mid {α : Type} (pre : List α) (x d : α) (rest : List α) : (pre ++ x :: rest).getD pre.length d = x := by
 rw [List.getD_eq_getElem?_getD, List.getElem?_append_right (Nat.le_refl _), Nat.sub_self]
 rfl
/-- c numbers from m on. -/
def seqI (m : Int) : Nat → List Int
 | 0 => []
 | c + 1 => m :: seqI (m + 1) c
theorem seqI_length (m : Int) (c : Nat) : (seqI m c).length = c := by
 induction c generalizing m with
 | zero => rfl
 | succ c ih => simp [seqI, ih]
end Go.Proofs.Ytaflodibibbakaa.A
namespace Go.Proofs.Ytaflodibibbakaa.A
open Go.RowKit Go.Proofs.YtaflodibibbakaaW.PrintWords Go.Proofs.YtaflodibibbakaaW.PrintLast Go.Proofs.YtaflodibibbakaaW.PrintMore
/-- A number is a set of hosts. -/
def isS (s : Int) : Bool := decide (0 ≤ s) && decide (s ≤ 7)
def okL (a b : Int) : Bool := isS a && isS b
theorem isS_iff (s : Int) : isS s = true ↔ 0 ≤ s ∧ s ≤ 7 := by simp [isS]
theorem sp_set (a : Int) : spec_l1Set.f a = some (isS a) := by
 unfold spec_l1Set.f spec_l1All.f spec_l6In.f isS
 by_cases h : a ≥ 0
 ·simp [h]
 ·have h' : ¬ 0 ≤ a := h
  simp [h']
theorem im_set (a : Int) : impl_isSet.f a = some (isS a) := by
 unfold impl_isSet.f impl_in.f isS
 by_cases h : 0 ≤ a <;> simp [h]
theorem sp_ok (a b : Int) : spec_LabelOk.f a b = some (okL a b) := by
 unfold spec_LabelOk.f okL
 rw [sp_set, sp_set]
 cases isS a <;> simp
theorem im_ok (a b : Int) : impl_LabelOk.f a b = some (okL a b) := by
 unfold impl_LabelOk.f okL
 rw [im_set, im_set]
 cases isS a <;> simp
/-- What lies in 0 .. 7 is one of eight. -/
theorem as_fin {a : Int} (h : isS a = true) : ∃ x : Fin 8, a = (x.val : Int) := by
 rw [isS_iff] at h
 exact ⟨⟨a.toNat, by omega⟩, by simp; omega⟩
end Go.Proofs.Ytaflodibibbakaa.A
namespace Go.Proofs.Ytaflodibibbakaa.A
open Go.RowKit Go.Proofs.YtaflodibibbakaaW.PrintWords Go.Proofs.YtaflodibibbakaaW.PrintLast Go.Proofs.YtaflodibibbakaaW.PrintMore
mutual
def inT : S50 → Nat
  | ⟨_, _, _, _, a, b⟩ => nTs a + nTs b
/-- How many steps there are, with all in them. -/
def nTs : List S50 → Nat
  | [] => 0
  | s :: r => 1 + inT s + nTs r
end
theorem inT_eq (s : S50) : inT s = nTs s.f4 + nTs s.f5 := by cases s; rw [inT]
theorem nTs_nil : nTs [] = 0 := by rw [nTs]
theorem nTs_cons (s : S50) (r : List S50) : nTs (s :: r) = 1 + (nTs s.f4 + nTs s.f5) + nTs r := by rw [nTs, inT_eq]
theorem nTs_append (a b : List S50) : nTs (a ++ b) = nTs a + nTs b := by
  induction a with
  | nil => rw [List.nil_append, nTs_nil]; omega
  | cons s r ih => rw [List.cons_append, nTs_cons, nTs_cons, ih]; omega
theorem nTs_one (s : S50) : nTs [s] = 1 + (nTs s.f4 + nTs s.f5) := by rw [nTs_cons, nTs_nil]; omega
theorem nTs_mem {s : S50} {l : List S50} (h : s ∈ l) : 1 + (nTs s.f4 + nTs s.f5) ≤ nTs l := by
  induction l with
  | nil => cases h
  | cons a r ih =>
    rw [nTs_cons]
    rcases List.mem_cons.1 h with e | e
    · subst e; omega
    · have := ih e; omega
theorem tree_ind {P : List S50 → Prop} (h : ∀ l, (∀ s ∈ l, P s.f4 ∧ P s.f5) → P l) : ∀ l, P l := by
  have : ∀ n l, nTs l < n → P l := by
    intro n
    induction n with
    | zero => intro l hl; omega
    | succ n ih =>
      intro l hl
      refine h l fun s hs => ?_
      have := nTs_mem hs
      exact ⟨ih _ (by omega), ih _ (by omega)⟩
  exact fun l => this _ l (Nat.lt_succ_self _)
theorem nTs_length (l : List S50) : l.length ≤ nTs l := by
  induction l with
  | nil => exact Nat.zero_le _
  | cons s r ih => rw [nTs_cons]; simp; omega
theorem nTs_drop (l : List S50) (n : Nat) : nTs (l.drop n) ≤ nTs l := by
  induction l generalizing n with
  | nil => simp
  | cons s r ih =>
    cases n with
    | zero => exact Nat.le_refl _
    | succ n => rw [List.drop_succ_cons, nTs_cons]; have := ih n; omega
/-- Values and hosts in form. -/
def varB (n v : Int) : Bool := decide (0 ≤ v) && decide (v ≤ n - 1)
def valB (n : Int) (x : S48) : Bool :=
  if x.f0 = 1 then (decide (0 ≤ x.f1) && decide (x.f1 ≤ 9)) && x.f2 == 0
  else if x.f0 = 2 then varB n x.f1 && x.f2 == 0
  else if x.f0 = 3 ∨ x.f0 = 4 then varB n x.f1 && varB n x.f2 else false
def hostB (h : Int) : Bool := decide (0 ≤ h) && decide (h ≤ 2)
mutual
def okT (n : Int) : S50 → Int → Bool
  | ⟨k, v, x, h, a, b⟩, d => decide (1 ≤ d) && (varB n v &&
     (if k = 1 then valB n x && (h == 0 && (a.isEmpty && b.isEmpty))
      else if k = 3 then (x.f0 == 0 && (x.f1 == 0 && x.f2 == 0)) && (hostB h && (a.isEmpty && b.isEmpty))
      else if k = 2 then (x.f0 == 0 && (x.f1 == 0 && x.f2 == 0)) && (h == 0 && (okTs n a (d - 1) && okTs n b (d - 1))) else false))
/-- Steps are in form, at most so deep. -/
def okTs (n : Int) : List S50 → Int → Bool
  | [], _ => true
  | s :: r, d => okT n s d && okTs n r d
end
end Go.Proofs.Ytaflodibibbakaa.A
namespace Go.Proofs.Ytaflodibibbakaa.A
open Go.RowKit Go.Proofs.YtaflodibibbakaaW.PrintWords Go.Proofs.YtaflodibibbakaaW.PrintLast Go.Proofs.YtaflodibibbakaaW.PrintMore
def cvVal (x : S77) : S48 := ⟨x.f0, x.f1, x.f2⟩
mutual
def cvT : S79 → S50
 | ⟨k, v, x, h, a, b⟩ => ⟨k, v, cvVal x, h, cvTs a, cvTs b⟩
/-- The law's steps as the program's. -/
def cvTs : List S79 → List S50
 | [] => []
 | s :: r => cvT s :: cvTs r
end
theorem cvT_eq (s : S79) : cvT s = ⟨s.f0, s.f1, cvVal s.f2, s.f3, cvTs s.f4, cvTs s.f5⟩ := by cases s; rw [cvT]
theorem cvTs_map (l : List S79) : cvTs l = l.map cvT := by
 induction l with
 | nil => rw [cvTs]; rfl
 | cons s r ih => rw [cvTs, ih]; rfl
theorem cvTs_length (l : List S79) : (cvTs l).length = l.length := by rw [cvTs_map]; simp
/-- An induction over the law's steps. -/
theorem treeL_ind {P : List S79 → Prop} (h : ∀ l, (∀ s ∈ l, P s.f4 ∧ P s.f5) → P l) : ∀ l, P l := by
 have : ∀ n l, nTs (cvTs l) < n → P l := by
  intro n
  induction n with
  | zero => intro l hl; omega
  | succ n ih =>
   intro l hl
   refine h l fun s hs => ?_
   have hm : cvT s ∈ cvTs l := by rw [cvTs_map]; exact List.mem_map_of_mem hs
   have := nTs_mem hm
   rw [cvT_eq] at this
   exact ⟨ih _ (by simp only at this; omega), ih _ (by simp only at this; omega)⟩
 exact fun l => this _ l (Nat.lt_succ_self _)
/-- What is left of m when n is taken, -1 where it is not enough. -/
def szR (m : Int) (n : Nat) : Int := if (n : Int) ≤ m then m - n else -1
end Go.Proofs.Ytaflodibibbakaa.A
namespace Go.Proofs.Ytaflodibibbakaa.A
open Go.RowKit Go.Proofs.YtaflodibibbakaaW.PrintWords Go.Proofs.YtaflodibibbakaaW.PrintLast Go.Proofs.YtaflodibibbakaaW.PrintMore
theorem rdS_mem {l : List S50} {n : Nat} (h : n < l.length) : rd_T50 l (n : Int) ∈ l := by
 simp only [rd_T50, Int.toNat_natCast, List.getD_eq_getElem?_getD, List.getElem?_eq_getElem h, Option.getD_some]
 exact List.getElem_mem h
theorem rdS_drop {l : List S50} {n : Nat} (h : n < l.length) : l.drop n = rd_T50 l (n : Int) :: l.drop (n + 1) := by
 simp only [rd_T50, Int.toNat_natCast]
 exact drop_cons l n _ h
end Go.Proofs.Ytaflodibibbakaa.A
