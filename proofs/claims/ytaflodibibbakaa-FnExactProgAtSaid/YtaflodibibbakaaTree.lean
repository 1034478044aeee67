/- Plain facts on steps with steps in them: how many there are, an induction over them, the law's steps as the program's. -/
import Derived.Test.YtaflodibibbakaaBx0
import Derived.Test.YtaflodibibbakaaKit
-- uses Kit
namespace Go.Proofs.Ytaflodibibbakaa.B
open Go.RowKit Go.Proofs.YtaflodibibbakaaW.PrintWords Go.Proofs.YtaflodibibbakaaW.PrintLast Go.Proofs.YtaflodibibbakaaW.PrintMore
mutual
def inT : S50 → Nat
  | ⟨_, _, _, _, a, b⟩ => nTs a + nTs b
/-- How many steps there are, with all in them. -/
def nTs : List S50 → Nat
  | [] => 0
  | s :: r => 1 + inT s + nTs r
end
theorem inT_eq (s : S50) : inT s = nTs s.f4 + nTs s.f5 := by cases s; rw [inT]
theorem nTs_nil : nTs [] = 0 := by rw [nTs]
theorem nTs_cons (s : S50) (r : List S50) : nTs (s :: r) = 1 + (nTs s.f4 + nTs s.f5) + nTs r := by rw [nTs, inT_eq]
theorem nTs_append (a b : List S50) : nTs (a ++ b) = nTs a + nTs b := by
  induction a with
  | nil => rw [List.nil_append, nTs_nil]; omega
  | cons s r ih => rw [List.cons_append, nTs_cons, nTs_cons, ih]; omega
theorem nTs_one (s : S50) : nTs [s] = 1 + (nTs s.f4 + nTs s.f5) := by rw [nTs_cons, nTs_nil]; omega
theorem nTs_mem {s : S50} {l : List S50} (h : s ∈ l) : 1 + (nTs s.f4 + nTs s.f5) ≤ nTs l := by
  induction l with
  | nil => cases h
  | cons a r ih =>
    rw [nTs_cons]
    rcases List.mem_cons.1 h with e | e
    · subst e; omega
    · have := ih e; omega
theorem tree_ind {P : List S50 → Prop} (h : ∀ l, (∀ s ∈ l, P s.f4 ∧ P s.f5) → P l) : ∀ l, P l := by
  have : ∀ n l, nTs l < n → P l := by
    intro n
    induction n with
    | zero => intro l hl; omega
    | succ n ih =>
      intro l hl
      refine h l fun s hs => ?_
      have := nTs_mem hs
      exact ⟨ih _ (by omega), ih _ (by omega)⟩
  exact fun l => this _ l (Nat.lt_succ_self _)
theorem nTs_length (l : List S50) : l.length ≤ nTs l := by
  induction l with
  | nil => exact Nat.zero_le _
  | cons s r ih => rw [nTs_cons]; simp; omega
theorem nTs_drop (l : List S50) (n : Nat) : nTs (l.drop n) ≤ nTs l := by
  induction l generalizing n with
  | nil => simp
  | cons s r ih =>
    cases n with
    | zero => exact Nat.le_refl _
    | succ n => rw [List.drop_succ_cons, nTs_cons]; have := ih n; omega
/-- Values and hosts in form. -/
def varB (n v : Int) : Bool := decide (0 ≤ v) && decide (v ≤ n - 1)
def valB (n : Int) (x : S48) : Bool :=
  if x.f0 = 1 then (decide (0 ≤ x.f1) && decide (x.f1 ≤ 9)) && x.f2 == 0
  else if x.f0 = 2 then varB n x.f1 && x.f2 == 0
  else if x.f0 = 3 ∨ x.f0 = 4 then varB n x.f1 && varB n x.f2 else false
def hostB (h : Int) : Bool := decide (0 ≤ h) && decide (h ≤ 2)
mutual
def okT (n : Int) : S50 → Int → Bool
  | ⟨k, v, x, h, a, b⟩, d => decide (1 ≤ d) && (varB n v &&
     (if k = 1 then valB n x && (h == 0 && (a.isEmpty && b.isEmpty))
      else if k = 3 then (x.f0 == 0 && (x.f1 == 0 && x.f2 == 0)) && (hostB h && (a.isEmpty && b.isEmpty))
      else if k = 2 then (x.f0 == 0 && (x.f1 == 0 && x.f2 == 0)) && (h == 0 && (okTs n a (d - 1) && okTs n b (d - 1))) else false))
/-- Steps are in form, at most so deep. -/
def okTs (n : Int) : List S50 → Int → Bool
  | [], _ => true
  | s :: r, d => okT n s d && okTs n r d
end
end Go.Proofs.Ytaflodibibbakaa.B
