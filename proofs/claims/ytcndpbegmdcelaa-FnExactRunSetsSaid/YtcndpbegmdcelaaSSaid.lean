/- Plain facts on slices of Said: the copy holds the same numbers, a slice is equal to itself. -/
import Derived.Test.YtcndpbegmdcelaaAx0
import Derived.Test.YtcndpbegmdcelaaAx33
import Derived.Test.YtcndpbegmdcelaaAx34
import Derived.Test.YtcndpbegmdcelaaAx38
import Derived.Test.YtcndpbegmdcelaaAx39
import Derived.Test.YtcndpbegmdcelaaKit
-- uses Kit
namespace Go.Proofs.Ytcndpbegmdcelaa.A
open Go.RowKit Go.Proofs.YtcndpbegmdcelaaW.PrintWords Go.Proofs.YtcndpbegmdcelaaW.PrintLast Go.Proofs.YtcndpbegmdcelaaW.PrintMore
def cvSaid (x : S109) : S86 := ⟨x.f0, x.f1⟩
theorem toSaidS_loop (l : List S109) (hl : l.length ≤ 1099511627776) (d : Nat) : ∀ (n : Nat) (acc : List S86), n + d = l.length → acc.length = l.length → acc.take n = (l.map cvSaid).take n →
    Ev (fun k => laws_toSaidS.l0 k l acc (n : Int)) (l.map cvSaid) := by
  induction d with
  | zero =>
    intro n acc hn ha ht
    refine Ev.succ_ (Ev.all_ fun k => ?_)
    have h1 : ¬ ((n : Int) < (l.length : Int)) := by omega
    simp only [laws_toSaidS.l0, h1, if_false]
    rw [List.take_of_length_le (by omega), List.take_of_length_le (by simp; omega)] at ht
    rw [ht]
  | succ d ih =>
    intro n acc hn ha ht
    refine Ev.succ_ ?_
    have h1 : (n : Int) < (l.length : Int) := by omega
    have h2 : (0 : Int) ≤ (n : Int) := by omega
    have h3 : (n : Int) < (acc.length : Int) := by omega
    have h4 : wrap64 ((n : Int) + 1) = ((n + 1 : Nat) : Int) := by rw [wr (by omega) (by omega)]; omega
    simp only [laws_toSaidS.l0, h1, h2, h3, h4, if_true, Int.toNat_natCast, laws_toSaid.f, Option.bind_some]
    refine ih (n + 1) _ (by omega) (by simpa using ha) ?_
    have hn1 : n < acc.length := by omega
    have hn2 : n < l.length := by omega
    rw [List.take_succ_eq_append_getElem (by simpa using hn1), List.take_succ_eq_append_getElem (by simpa using hn2), List.take_set_of_le (Nat.le_refl _), ht]
    simp [rd_T109, List.getD_eq_getElem?_getD, List.getElem?_eq_getElem hn2, cvSaid]
theorem toSaidS_ev (l : List S109) (hl : l.length ≤ 1099511627776) : Ev (fun k => laws_toSaidS.f k l) (l.map cvSaid) := by
  have h1 : (0 : Int) ≤ (l.length : Int) := by omega
  have h2 : l.length ≤ 17592186044416 := by omega
  simp only [laws_toSaidS.f, h1, h2, Int.toNat_natCast, if_true]
  exact toSaidS_loop l hl l.length 0 _ (by omega) (by simp) (by simp)
theorem eqSaid_loop (l : List S86) (hl : l.length ≤ 1099511627776) (d : Nat) : ∀ n : Nat, n + d = l.length → Ev (fun k => laws_eqSaidS.l0 k l l (n : Int)) true := by
  induction d with
  | zero =>
    intro n hn
    refine Ev.succ_ (Ev.all_ fun k => ?_)
    have h1 : ¬ ((n : Int) < (l.length : Int)) := by omega
    simp only [laws_eqSaidS.l0, h1, if_false]
  | succ d ih =>
    intro n hn
    refine Ev.succ_ ?_
    have h1 : (n : Int) < (l.length : Int) := by omega
    have h2 : (0 : Int) ≤ (n : Int) := by omega
    have h4 : wrap64 ((n : Int) + 1) = ((n + 1 : Nat) : Int) := by rw [wr (by omega) (by omega)]; omega
    simp only [laws_eqSaidS.l0, h1, h2, h4, if_true, laws_eqSaid.f, Option.bind_some]
    exact ih (n + 1) (by omega)
theorem eqSaidS_ev (l : List S86) (hl : l.length ≤ 1099511627776) : Ev (fun k => laws_eqSaidS.f k l l) true := by
  simp only [laws_eqSaidS.f, if_true]
  exact eqSaid_loop l hl l.length 0 (by omega)
end Go.Proofs.Ytcndpbegmdcelaa.A
