/- Plain facts: the law's steps as the program's, and an induction over them. -/
import Derived.Test.YtaflodibibbakaaBx0
import Derived.Test.YtaflodibibbakaaTree
-- uses Tree
namespace Go.Proofs.Ytaflodibibbakaa.B
open Go.RowKit Go.Proofs.YtaflodibibbakaaW.PrintWords Go.Proofs.YtaflodibibbakaaW.PrintLast Go.Proofs.YtaflodibibbakaaW.PrintMore
def cvVal (x : S77) : S48 := ⟨x.f0, x.f1, x.f2⟩
mutual
def cvT : S79 → S50
 | ⟨k, v, x, h, a, b⟩ => ⟨k, v, cvVal x, h, cvTs a, cvTs b⟩
/-- The law's steps as the program's. -/
def cvTs : List S79 → List S50
 | [] => []
 | s :: r => cvT s :: cvTs r
end
theorem cvT_eq (s : S79) : cvT s = ⟨s.f0, s.f1, cvVal s.f2, s.f3, cvTs s.f4, cvTs s.f5⟩ := by cases s; rw [cvT]
theorem cvTs_map (l : List S79) : cvTs l = l.map cvT := by
 induction l with
 | nil => rw [cvTs]; rfl
 | cons s r ih => rw [cvTs, ih]; rfl
theorem cvTs_length (l : List S79) : (cvTs l).length = l.length := by rw [cvTs_map]; simp
/-- An induction over the law's steps. -/
theorem treeL_ind {P : List S79 → Prop} (h : ∀ l, (∀ s ∈ l, P s.f4 ∧ P s.f5) → P l) : ∀ l, P l := by
 have : ∀ n l, nTs (cvTs l) < n → P l := by
  intro n
  induction n with
  | zero => intro l hl; omega
  | succ n ih =>
   intro l hl
   refine h l fun s hs => ?_
   have hm : cvT s ∈ cvTs l := by rw [cvTs_map]; exact List.mem_map_of_mem hs
   have := nTs_mem hm
   rw [cvT_eq] at this
   exact ⟨ih _ (by simp only at this; omega), ih _ (by simp only at this; omega)⟩
 exact fun l => this _ l (Nat.lt_succ_self _)
/-- What is left of m when n is taken, -1 where it is not enough. -/
def szR (m : Int) (n : Nat) : Int := if (n : Int) ≤ m then m - n else -1
end Go.Proofs.Ytaflodibibbakaa.B
