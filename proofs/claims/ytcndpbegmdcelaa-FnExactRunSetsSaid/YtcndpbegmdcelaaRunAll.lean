/- Plain facts on what came of a program: its size, its copy, itself equal to itself, marked. -/
import Derived.Test.YtcndpbegmdcelaaAx0
import Derived.Test.YtcndpbegmdcelaaAx31
import Derived.Test.YtcndpbegmdcelaaAx35
import Derived.Test.YtcndpbegmdcelaaAx40
import Derived.Test.YtcndpbegmdcelaaAx43
import Derived.Test.YtcndpbegmdcelaaIntS
import Derived.Test.YtcndpbegmdcelaaMarkI
import Derived.Test.YtcndpbegmdcelaaSWrite
import Derived.Test.YtcndpbegmdcelaaSSaid
import Derived.Test.YtcndpbegmdcelaaMarkWrite
import Derived.Test.YtcndpbegmdcelaaMarkSaid
-- uses IntS MarkI SWrite SSaid MarkWrite MarkSaid
namespace Go.Proofs.Ytcndpbegmdcelaa.A
open Go.RowKit Go.Proofs.YtcndpbegmdcelaaW.PrintWords Go.Proofs.YtcndpbegmdcelaaW.PrintLast Go.Proofs.YtcndpbegmdcelaaW.PrintMore
theorem szRun_le (a : List Int) (b : List S107) (c : List S109) (m : Int) (hm0 : 0 ≤ m) (hm : m ≤ 1048576) (h1 : a.length ≤ maxLen) (h2 : b.length ≤ maxLen) (h3 : c.length ≤ maxLen) :
    laws_szRun.f a b c m = some (-1) ∨ (∃ r, laws_szRun.f a b c m = some r ∧ 0 ≤ r ∧ a.length ≤ 1048576 ∧ b.length ≤ 1048576 ∧ c.length ≤ 1048576) := by
  unfold maxLen at h1 h2 h3
  have w1 : wrap64 (m - (a.length : Int)) = m - (a.length : Int) := wr (by omega) (by omega)
  unfold laws_szRun.f laws_szIntS.f laws_szWriteS.f laws_szSaidS.f
  rw [w1]
  by_cases c1 : m - (a.length : Int) < 0
  · left; simp [c1]
  · have w2 : wrap64 (m - (a.length : Int) - (b.length : Int)) = m - (a.length : Int) - (b.length : Int) := wr (by omega) (by omega)
    by_cases c2 : m - (a.length : Int) - (b.length : Int) < 0
    · left; simp [c1, w2, c2]
    · have w3 : wrap64 (m - (a.length : Int) - (b.length : Int) - (c.length : Int)) = m - (a.length : Int) - (b.length : Int) - (c.length : Int) := wr (by omega) (by omega)
      by_cases c3 : m - (a.length : Int) - (b.length : Int) - (c.length : Int) < 0
      · left; simp [c1, w2, c2, w3, c3]
      · right
        exact ⟨_, by simp [c1, w2, c2, w3, c3]; rfl, by omega, by omega, by omega, by omega⟩
theorem toRun_ev (a : List Int) (b : List S107) (c : List S109) (h1 : a.length ≤ 1048576) (h2 : b.length ≤ 1048576) (h3 : c.length ≤ 1048576) : Ev (fun k => laws_toRun.f k a b c) (a, b.map cvWrite, c.map cvSaid) := by
  unfold laws_toRun.f
  exact Ev.bind (toIntS_ev a (by omega)) (Ev.bind (toWriteS_ev b (by omega)) (Ev.bind (toSaidS_ev c (by omega)) (Ev.now _)))
theorem eqRun_ev (a : List Int) (b : List S92) (c : List S86) (h1 : a.length ≤ 1048576) (h2 : b.length ≤ 1048576) (h3 : c.length ≤ 1048576) : Ev (fun k => laws_eqRun.f k a b c a b c) true := by
  unfold laws_eqRun.f
  refine Ev.bind (eqIntS_ev a (by omega)) ?_
  simp only [if_true]
  refine Ev.bind (eqWriteS_ev b (by omega)) ?_
  simp only [if_true]
  refine Ev.bind (eqSaidS_ev c (by omega)) ?_
  simp only [if_true]
  exact Ev.now _
theorem markRun_ev (a : List Int) (b : List S92) (c : List S86) (h1 : a.length ≤ 1048576) (h2 : b.length ≤ 1048576) (h3 : c.length ≤ 1048576) :
    ∃ m x y z, (0 ≤ m ∧ m ≤ 6291456) ∧ Ev (fun k => laws_markRun.f k a b c 1) (m, x, y, z) := by
  unfold laws_markRun.f
  exact ⟨_, _, _, _, by omega, Ev.bind (markIntS_ev a 1 (by omega) (by omega)) (Ev.bind (markWrite_ev b _ (by omega) (by omega) (by omega)) (Ev.bind (markSaid_ev c _ (by omega) (by omega) (by omega)) (Ev.now _)))⟩
end Go.Proofs.Ytcndpbegmdcelaa.A
