/- The law FnExactRunSets: RunSets of the program is the reference's, for all arguments; without conditions. -/
import Derived.Test.YtcndpbegmdcelaaAx49
import Derived.Test.YtcndpbegmdcelaaStmFnExactRunSets
import Derived.Test.YtcndpbegmdcelaaRunSets
import Derived.Test.YtcndpbegmdcelaaRunAll
import Derived.Test.YtcndpbegmdcelaaBoolS
import Derived.Test.YtcndpbegmdcelaaMarkB
import Derived.Test.YtcndpbegmdcelaaHeldWrite
-- uses StmFnExactRunSets RunSets RunAll BoolS MarkB HeldWrite
namespace Go.Proofs.Ytcndpbegmdcelaa.Pure
open Go.RowKit Go.Proofs.YtcndpbegmdcelaaW.PrintWords Go.Proofs.YtcndpbegmdcelaaW.PrintLast Go.Proofs.YtcndpbegmdcelaaW.PrintMore Go.Proofs.Ytcndpbegmdcelaa.A
theorem FnExactRunSets : laws_FnExactRunSets.Stm := by
  intro a b c vs w1 w2 w3 w4
  refine Ev.rounds ?_
  unfold laws_FnExactRunSets.f
  by_cases hv : (vs.length : Int) > 1048576
  · simp only [hv, if_true]
    exact Ev.now _
  simp only [hv, if_false]
  rcases szRun_le a b c 1048576 (by omega) (by omega) w1.1 w2.1 w3.1 with hs | ⟨r, hs, hr, l1, l2, l3⟩
  · simp only [hs, Option.bind_some]
    exact Ev.now _
  · have n1 : ¬ r < 0 := by omega
    have ls : (setOf vs (b.map cvWrite)).length ≤ 1048576 := by have := setOf_length vs (b.map cvWrite); simp at this; omega
    have run := toRun_ev a b c l1 l2 l3
    have tb := toBoolS_ev vs (by omega)
    have sp := sp_runSets a (b.map cvWrite) (c.map cvSaid) vs (by omega) (by simp; omega)
    have im := im_runSets a (b.map cvWrite) (c.map cvSaid) vs (by omega) (by simp; omega)
    have eqT := eqWriteS_ev (setOf vs (b.map cvWrite)) (by omega)
    have eqR := eqRun_ev a (b.map cvWrite) (c.map cvSaid) l1 (by simp; omega) (by simp; omega)
    have eqB := eqBoolS_ev vs (by omega)
    obtain ⟨m, x, y, z, ⟨hm, hm2⟩, mk⟩ := markRun_ev a (b.map cvWrite) (c.map cvSaid) l1 (by simp; omega) (by simp; omega)
    have mkB := markBoolS_ev vs m hm (by omega)
    have n2 : ¬ m + (vs.length : Int) < 0 := by omega
    have mkW := markWrite_ev (setOf vs (b.map cvWrite)) 1 (by omega) (by omega) (by omega)
    have hd := heldWrite_ev 1 (setOf vs (b.map cvWrite)).length (by omega) (by omega) (by omega)
    have n3 : ¬ (1 + 2 * ((setOf vs (b.map cvWrite)).length : Int) < 0) := by omega
    simp only [hs, Option.bind_some, n1, if_false]
    refine Ev.bind run (Ev.bind tb (Ev.bind sp (Ev.bind run (Ev.bind tb (Ev.bind im (Ev.bind eqT ?_))))))
    simp only [if_true]
    refine Ev.bind run (Ev.bind eqR ?_)
    simp only [if_true]
    refine Ev.bind tb (Ev.bind eqB ?_)
    simp only [if_true]
    refine Ev.bind mk (Ev.bind mkB ?_)
    simp only [n2, if_false]
    refine Ev.bind eqT ?_
    refine Ev.succ_ ?_
    simp only [laws_FnExactRunSets.j0, Bool.not_true, Bool.false_eq_true, if_false]
    refine Ev.bind mkW (Ev.bind hd ?_)
    simp only [n3, if_false, if_true]
    refine Ev.bind run (Ev.bind tb (Ev.bind im (Ev.bind eqT ?_)))
    simp only [if_true]
    refine Ev.bind hd ?_
    simp only [n3, if_false, if_true]
    exact Ev.now _
end Go.Proofs.Ytcndpbegmdcelaa.Pure
