/- The law FnExactRunTo: RunTo of the program is the reference's, for all arguments; without conditions. -/
import Derived.Test.YtcndpbegmdcelaaAx0
import Derived.Test.YtcndpbegmdcelaaAx10
import Derived.Test.YtcndpbegmdcelaaAx11
import Derived.Test.YtcndpbegmdcelaaAx12
import Derived.Test.YtcndpbegmdcelaaAx13
import Derived.Test.YtcndpbegmdcelaaAx14
import Derived.Test.YtcndpbegmdcelaaStmFnExactRunTo
import Derived.Test.YtcndpbegmdcelaaRunTo
import Derived.Test.YtcndpbegmdcelaaIntS
import Derived.Test.YtcndpbegmdcelaaMarkI
import Derived.Test.YtcndpbegmdcelaaSWrite
import Derived.Test.YtcndpbegmdcelaaSSaid
import Derived.Test.YtcndpbegmdcelaaMarkWrite
import Derived.Test.YtcndpbegmdcelaaMarkSaid
-- uses StmFnExactRunTo RunTo IntS MarkI SWrite SSaid MarkWrite MarkSaid
namespace Go.Proofs.Ytcndpbegmdcelaa.Pure
open Go.RowKit Go.Proofs.YtcndpbegmdcelaaW.PrintWords Go.Proofs.YtcndpbegmdcelaaW.PrintLast Go.Proofs.YtcndpbegmdcelaaW.PrintMore Go.Proofs.Ytcndpbegmdcelaa.A
theorem szRun_le (a : List Int) (b : List S107) (c : List S109) (m : Int) (hm0 : 0 ≤ m) (hm : m ≤ 1048576) (h1 : a.length ≤ maxLen) (h2 : b.length ≤ maxLen) (h3 : c.length ≤ maxLen) :
    laws_szRun.f a b c m = some (-1) ∨ (∃ r, laws_szRun.f a b c m = some r ∧ 0 ≤ r ∧ a.length ≤ 1048576 ∧ b.length ≤ 1048576 ∧ c.length ≤ 1048576) := by
  unfold maxLen at h1 h2 h3
  have w1 : wrap64 (m - (a.length : Int)) = m - (a.length : Int) := wr (by omega) (by omega)
  unfold laws_szRun.f laws_szIntS.f laws_szWriteS.f laws_szSaidS.f
  rw [w1]
  by_cases c1 : m - (a.length : Int) < 0
  · left; simp [c1]
  · have w2 : wrap64 (m - (a.length : Int) - (b.length : Int)) = m - (a.length : Int) - (b.length : Int) := wr (by omega) (by omega)
    by_cases c2 : m - (a.length : Int) - (b.length : Int) < 0
    · left; simp [c1, w2, c2]
    · have w3 : wrap64 (m - (a.length : Int) - (b.length : Int) - (c.length : Int)) = m - (a.length : Int) - (b.length : Int) - (c.length : Int) := wr (by omega) (by omega)
      by_cases c3 : m - (a.length : Int) - (b.length : Int) - (c.length : Int) < 0
      · left; simp [c1, w2, c2, w3, c3]
      · right
        exact ⟨_, by simp [c1, w2, c2, w3, c3]; rfl, by omega, by omega, by omega, by omega⟩
theorem toRun_ev (a : List Int) (b : List S107) (c : List S109) (h1 : a.length ≤ 1048576) (h2 : b.length ≤ 1048576) (h3 : c.length ≤ 1048576) : Ev (fun k => laws_toRun.f k a b c) (a, b.map cvWrite, c.map cvSaid) := by
  unfold laws_toRun.f
  exact Ev.bind (toIntS_ev a (by omega)) (Ev.bind (toWriteS_ev b (by omega)) (Ev.bind (toSaidS_ev c (by omega)) (Ev.now _)))
theorem eqRun_ev (a : List Int) (b : List S92) (c : List S86) (h1 : a.length ≤ 1048576) (h2 : b.length ≤ 1048576) (h3 : c.length ≤ 1048576) : Ev (fun k => laws_eqRun.f k a b c a b c) true := by
  unfold laws_eqRun.f
  refine Ev.bind (eqIntS_ev a (by omega)) ?_
  simp only [if_true]
  refine Ev.bind (eqWriteS_ev b (by omega)) ?_
  simp only [if_true]
  refine Ev.bind (eqSaidS_ev c (by omega)) ?_
  simp only [if_true]
  exact Ev.now _
theorem markRun_ev (a : List Int) (b : List S92) (c : List S86) (h1 : a.length ≤ 1048576) (h2 : b.length ≤ 1048576) (h3 : c.length ≤ 1048576) :
    ∃ m x y z, 0 ≤ m ∧ Ev (fun k => laws_markRun.f k a b c 1) (m, x, y, z) := by
  unfold laws_markRun.f
  exact ⟨_, _, _, _, by omega, Ev.bind (markIntS_ev a 1 (by omega) (by omega)) (Ev.bind (markWrite_ev b _ (by omega) (by omega) (by omega)) (Ev.bind (markSaid_ev c _ (by omega) (by omega) (by omega)) (Ev.now _)))⟩
theorem FnExactRunTo : laws_FnExactRunTo.Stm := by
  intro a b c h w1 w2 w3 _
  refine Ev.rounds ?_
  unfold laws_FnExactRunTo.f
  rcases szRun_le a b c 1048576 (by omega) (by omega) w1.1 w2.1 w3.1 with hs | ⟨r, hs, hr, l1, l2, l3⟩
  · simp only [hs, Option.bind_some]
    exact Ev.now _
  · have n1 : ¬ r < 0 := by omega
    have lt : (toldTo h (c.map cvSaid)).length ≤ 1048576 := by have := toldTo_length h (c.map cvSaid); simp at this; omega
    have run := toRun_ev a b c l1 l2 l3
    have sp := sp_runTo a (b.map cvWrite) (c.map cvSaid) h (by simp; omega)
    have im := im_runTo a (b.map cvWrite) (c.map cvSaid) h (by simp; omega)
    have eqT := eqIntS_ev (toldTo h (c.map cvSaid)) (by omega)
    have eqR := eqRun_ev a (b.map cvWrite) (c.map cvSaid) l1 (by simp; omega) (by simp; omega)
    obtain ⟨m, x, y, z, hm, mk⟩ := markRun_ev a (b.map cvWrite) (c.map cvSaid) l1 (by simp; omega) (by simp; omega)
    have n2 : ¬ m < 0 := by omega
    have mkI := markIntS_ev (toldTo h (c.map cvSaid)) 1 (by omega) (by omega)
    have hd := heldIntS_ev 1 (toldTo h (c.map cvSaid)).length (by omega) (by omega)
    have n3 : ¬ (1 + ((toldTo h (c.map cvSaid)).length : Int) < 0) := by omega
    simp only [hs, Option.bind_some, n1, if_false]
    refine Ev.bind run (Ev.bind sp (Ev.bind run (Ev.bind im (Ev.bind eqT ?_))))
    simp only [if_true]
    refine Ev.bind run (Ev.bind eqR ?_)
    simp only [if_true]
    refine Ev.bind mk ?_
    simp only [n2, if_false]
    refine Ev.bind eqT ?_
    refine Ev.succ_ ?_
    simp only [laws_FnExactRunTo.j0, Bool.not_true, Bool.false_eq_true, if_false]
    refine Ev.bind mkI (Ev.bind hd ?_)
    simp only [n3, if_false, if_true]
    refine Ev.bind run (Ev.bind im (Ev.bind eqT ?_))
    simp only [if_true]
    refine Ev.bind hd ?_
    simp only [n3, if_false, if_true]
    exact Ev.now _
end Go.Proofs.Ytcndpbegmdcelaa.Pure
