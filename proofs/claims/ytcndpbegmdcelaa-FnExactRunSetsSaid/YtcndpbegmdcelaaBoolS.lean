/- Plain facts on lists of bools: the copy is the list, a list is equal to itself, what is marked is held. -/
import Derived.Test.YtcndpbegmdcelaaAx46
import Derived.Test.YtcndpbegmdcelaaAx48
import Derived.Test.YtcndpbegmdcelaaKit
-- uses Kit
namespace Go.Proofs.Ytcndpbegmdcelaa.A
open Go.RowKit Go.Proofs.YtcndpbegmdcelaaW.PrintWords Go.Proofs.YtcndpbegmdcelaaW.PrintLast Go.Proofs.YtcndpbegmdcelaaW.PrintMore
theorem toBoolS_loop (l : List Bool) (hl : l.length ≤ 1099511627776) (d : Nat) : ∀ (n : Nat) (acc : List Bool), n + d = l.length → acc.length = l.length → acc.take n = l.take n →
    Ev (fun k => laws_toBoolS.l0 k l acc (n : Int)) l := by
  induction d with
  | zero =>
    intro n acc hn ha ht
    refine Ev.succ_ (Ev.all_ fun k => ?_)
    have h1 : ¬ ((n : Int) < (l.length : Int)) := by omega
    simp only [laws_toBoolS.l0, h1, if_false]
    rw [List.take_of_length_le (by omega), List.take_of_length_le (by omega)] at ht
    rw [ht]
  | succ d ih =>
    intro n acc hn ha ht
    refine Ev.succ_ ?_
    have h1 : (n : Int) < (l.length : Int) := by omega
    have h2 : (0 : Int) ≤ (n : Int) := by omega
    have h3 : (n : Int) < (acc.length : Int) := by omega
    have h4 : wrap64 ((n : Int) + 1) = ((n + 1 : Nat) : Int) := by rw [wr (by omega) (by omega)]; omega
    simp only [laws_toBoolS.l0, h1, h2, h3, h4, if_true, Int.toNat_natCast]
    refine ih (n + 1) _ (by omega) (by simpa using ha) ?_
    have hn1 : n < acc.length := by omega
    have hn2 : n < l.length := by omega
    rw [List.take_succ_eq_append_getElem (by simpa using hn1), List.take_succ_eq_append_getElem hn2, List.take_set_of_le (Nat.le_refl _), ht]
    simp [rdOf, List.getD_eq_getElem?_getD, List.getElem?_eq_getElem hn2]
theorem toBoolS_ev (l : List Bool) (hl : l.length ≤ 1099511627776) : Ev (fun k => laws_toBoolS.f k l) l := by
  have h1 : (0 : Int) ≤ (l.length : Int) := by omega
  have h2 : l.length ≤ 281474976710656 := by omega
  simp only [laws_toBoolS.f, h1, h2, Int.toNat_natCast, if_true]
  exact toBoolS_loop l hl l.length 0 _ (by omega) (by simp) (by simp)
theorem eqBoolS_loop (l : List Bool) (hl : l.length ≤ 1099511627776) (d : Nat) : ∀ n : Nat, n + d = l.length → Ev (fun k => laws_eqBoolS.l0 k l l (n : Int)) true := by
  induction d with
  | zero =>
    intro n hn
    refine Ev.succ_ (Ev.all_ fun k => ?_)
    have h1 : ¬ ((n : Int) < (l.length : Int)) := by omega
    simp only [laws_eqBoolS.l0, h1, if_false]
  | succ d ih =>
    intro n hn
    refine Ev.succ_ ?_
    have h1 : (n : Int) < (l.length : Int) := by omega
    have h2 : (0 : Int) ≤ (n : Int) := by omega
    have h4 : wrap64 ((n : Int) + 1) = ((n + 1 : Nat) : Int) := by rw [wr (by omega) (by omega)]; omega
    simp only [laws_eqBoolS.l0, h1, h2, h4, if_true, bne_self_eq_false, Bool.false_eq_true, if_false]
    exact ih (n + 1) (by omega)
theorem eqBoolS_ev (l : List Bool) (hl : l.length ≤ 1099511627776) : Ev (fun k => laws_eqBoolS.f k l l) true := by
  simp only [laws_eqBoolS.f, if_true]
  exact eqBoolS_loop l hl l.length 0 (by omega)
end Go.Proofs.Ytcndpbegmdcelaa.A
