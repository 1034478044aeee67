/- Plain facts: steps without one, a drawn program that is fine mostly, any drawn program. -/
import Derived.Test.YtaflodibibbakaaBx0
import Derived.Test.YtaflodibibbakaaTypeFine
-- uses BentProg TypeFine
namespace Go.Proofs.Ytaflodibibbakaa.B
open Go.RowKit Go.Proofs.YtaflodibibbakaaW.PrintWords Go.Proofs.YtaflodibibbakaaW.PrintLast Go.Proofs.YtaflodibibbakaaW.PrintMore
theorem wr_nums {A B : Nat} {n : Int} (h : A + B ≤ 1048576) (h0 : -1 ≤ n) (h1 : n ≤ 2000000) : wrap64 (1 + (A : Int)) = 1 + (A : Int) ∧ wrap64 (1 + (A : Int) + (B : Int)) = 1 + (A : Int) + (B : Int) ∧ wrap64 (n - 1) = n - 1 ∧ wrap64 (n - 1 - (A : Int)) = n - 1 - (A : Int) ∧ wrap64 (n - (1 + (A : Int) + (B : Int))) = n - (1 + (A : Int) + (B : Int)) :=
 ⟨wr (by omega) (by omega), wr (by omega) (by omega), wr (by omega) (by omega), wr (by omega) (by omega), wr (by omega) (by omega)⟩
theorem hb_of {X M x y A B D N : Nat} (e : X = M + (1 + (x + y))) (h : x + y ≤ A + B) (ha : M + (1 + (A + B) + D) ≤ N) : X + D ≤ N := by omega
theorem whyR_range (L : List S60) : ∀ (a : List S50) (m : List S60) (i : Int), 0 ≤ i → 0 ≤ (whyR L a m i).1 ∧ (whyR L a m i).1 ≤ i + a.length := by
 intro a
 induction a with
 | nil => intro m i hi; cases m <;> simp [whyR] <;> omega
 | cons s r ih =>
  intro m i hi
  cases m with
  | nil => simp [whyR]; omega
  | cons x m =>
   have := ih m (i + 1) (by omega)
   simp only [whyR, List.length_cons]
   split
   ·omega
   ·simp only; omega
end Go.Proofs.Ytaflodibibbakaa.B
