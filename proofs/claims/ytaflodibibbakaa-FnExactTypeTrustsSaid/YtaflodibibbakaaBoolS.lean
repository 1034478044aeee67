/- Plain facts on lists of bools: the copy is the list, a list is equal to itself, what is marked is held. -/
import Derived.Test.YtaflodibibbakaaAx10
import Derived.Test.YtaflodibibbakaaKit
-- uses Kit
namespace Go.Proofs.Ytaflodibibbakaa.A
open Go.RowKit Go.Proofs.YtaflodibibbakaaW.PrintWords Go.Proofs.YtaflodibibbakaaW.PrintLast Go.Proofs.YtaflodibibbakaaW.PrintMore
theorem eqBoolS_loop (l : List Bool) (hl : l.length ≤ 1099511627776) (d : Nat) : ∀ n : Nat, n + d = l.length → Ev (fun k => laws_eqBoolS.l0 k l l (n : Int)) true := by
 induction d with
 | zero =>
  intro n hn
  refine Ev.succ_ (Ev.all_ fun k => ?_)
  have h1 : ¬ ((n : Int) < (l.length : Int)) := by omega
  simp only [laws_eqBoolS.l0, h1, if_false]
 | succ d ih =>
  intro n hn
  refine Ev.succ_ ?_
  have h1 : (n : Int) < (l.length : Int) := by omega
  have h2 : (0 : Int) ≤ (n : Int) := by omega
  have h4 : wrap64 ((n : Int) + 1) = ((n + 1 : Nat) : Int) := by rw [wr (by omega) (by omega)]; omega
  simp only [laws_eqBoolS.l0, h1, h2, h4, if_true, bne_self_eq_false, Bool.false_eq_true, if_false]
  exact ih (n + 1) (by omega)
theorem eqBoolS_ev (l : List Bool) (hl : l.length ≤ 1099511627776) : Ev (fun k => laws_eqBoolS.f k l l) true := by
 simp only [laws_eqBoolS.f, if_true]
 exact eqBoolS_loop l hl l.length 0 (by omega)
end Go.Proofs.Ytaflodibibbakaa.A
