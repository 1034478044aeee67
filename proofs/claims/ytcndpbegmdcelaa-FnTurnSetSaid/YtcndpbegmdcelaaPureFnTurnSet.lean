/- The law FnTurnSet: a set that is turned, and turned back, is as it was, for every drawn set and row; without conditions. -/
import Derived.Test.YtcndpbegmdcelaaAx9
import Derived.Test.YtcndpbegmdcelaaStmFnTurnSet
import Derived.Test.YtcndpbegmdcelaaTurnSp
import Derived.Test.YtcndpbegmdcelaaDrawRow
import Derived.Test.YtcndpbegmdcelaaLcRow
-- uses StmFnTurnSet TurnSp DrawRow LcRow
namespace Go.Proofs.Ytcndpbegmdcelaa.Pure
open Go.RowKit Go.Proofs.YtcndpbegmdcelaaW.PrintWords Go.Proofs.YtcndpbegmdcelaaW.PrintLast Go.Proofs.YtcndpbegmdcelaaW.PrintMore Go.Proofs.Ytcndpbegmdcelaa.A
theorem turnBack_fin : ∀ x : Fin 8, ∀ p ∈ perms, laws_FnTurnSet.l0 40 (x.val : Int) p (turnV (x.val : Int) p) 0 = some true := by decide +kernel
theorem FnTurnSet : laws_FnTurnSet.Stm := by
  intro l ⟨_, hw⟩
  have hw' : ∀ x ∈ l, 0 ≤ x ∧ x ≤ 255 := fun x hx => u8_of (hw x hx)
  refine Ev.rounds ?_
  unfold laws_FnTurnSet.f
  by_cases hl : (l.length : Int) > 1048576
  · simp only [hl, if_true]
    exact Ev.now _
  simp only [hl, if_false]
  obtain ⟨s, row, hd, hr⟩ := drawTurnSet_ev hw'
  have h1 : row.length ≤ 1099511627776 := by omega
  refine Ev.bind hd (Ev.bind (im_turn s row h1) (Ev.bind (sp_turn s row) ?_))
  have same : Ev (fun k => laws_FnTurnSet.j0 k s row (turnV s row) true) true := by
    refine Ev.succ_ ?_
    simp only [laws_FnTurnSet.j0, if_true]
    refine Ev.eq_ (Ev.bind (sp_turn s row) (Ev.now _)) ?_
    simp
  simp only [if_true]
  refine Ev.bind (lcRow_ev row h1) ?_
  cases hp : isP row
  · simp only [Bool.false_eq_true, if_false]
    exact same
  simp only [if_true]
  by_cases c1 : s < 0
  · simp only [c1, if_true]
    exact same
  simp only [c1, if_false]
  by_cases c2 : s > 7
  · have c3 : decide (s > 7) = true := decide_eq_true c2
    simp only [c3]
    exact same
  · have c3 : decide (s > 7) = false := decide_eq_false c2
    simp only [c3]
    refine Ev.succ_ ?_
    simp only [laws_FnTurnSet.j0, Bool.false_eq_true, if_false]
    have hs : isS s = true := by rw [isS_iff]; omega
    obtain ⟨x, rfl⟩ := as_fin hs
    exact Ev.of (fun k => (laws_FnTurnSet.mono_l k).2 _ _ _ _) (turnBack_fin x row (isP_mem hp))
end Go.Proofs.Ytcndpbegmdcelaa.Pure
