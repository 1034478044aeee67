/- The law FnExactTurnSet: TurnSet of the program is the reference's, for all arguments; without conditions. -/
import Derived.Test.YtcndpbegmdcelaaAx7
import Derived.Test.YtcndpbegmdcelaaStmFnExactTurnSet
import Derived.Test.YtcndpbegmdcelaaTurnSp
import Derived.Test.YtcndpbegmdcelaaIntS
-- uses StmFnExactTurnSet TurnSp IntS
namespace Go.Proofs.Ytcndpbegmdcelaa.Pure
open Go.RowKit Go.Proofs.YtcndpbegmdcelaaW.PrintWords Go.Proofs.YtcndpbegmdcelaaW.PrintLast Go.Proofs.YtcndpbegmdcelaaW.PrintMore Go.Proofs.Ytcndpbegmdcelaa.A
theorem FnExactTurnSet : laws_FnExactTurnSet.Stm := by
  intro s row _ _
  refine Ev.rounds ?_
  unfold laws_FnExactTurnSet.f
  by_cases hl : (row.length : Int) > 1048576
  · simp only [hl, if_true]
    exact Ev.now _
  simp only [hl, if_false]
  have h1 : row.length ≤ 1099511627776 := by omega
  have cp := toIntS_ev row h1
  refine Ev.bind cp (Ev.bind (sp_turn s row) (Ev.bind cp (Ev.bind (im_turn s row h1) ?_)))
  simp only [if_true]
  refine Ev.bind cp (Ev.bind (eqIntS_ev row h1) ?_)
  simp only [if_true]
  exact Ev.now _
end Go.Proofs.Ytcndpbegmdcelaa.Pure
