/- Plain facts on lists of whole numbers: the copy is the list, a list is equal to itself, what is marked is held. -/
import Derived.Test.YtcffnnedghgmaaaAx28
import Derived.Test.YtcffnnedghgmaaaAx29
import Derived.Test.YtcffnnedghgmaaaKit
-- uses Kit
namespace Go.Proofs.Ytcffnnedghgmaaa.A
open Go.RowKit Go.Proofs.YtcffnnedghgmaaaW.PrintWords Go.Proofs.YtcffnnedghgmaaaW.PrintLast Go.Proofs.YtcffnnedghgmaaaW.PrintMore
theorem toIntS_loop (l : List Int) (hl : l.length ≤ 1099511627776) (d : Nat) : ∀ (n : Nat) (acc : List Int), n + d = l.length → acc.length = l.length → acc.take n = l.take n →
    Ev (fun k => laws_toIntS.l0 k l acc (n : Int)) l := by
  induction d with
  | zero =>
    intro n acc hn ha ht
    refine Ev.succ_ (Ev.all_ fun k => ?_)
    have h1 : ¬ ((n : Int) < (l.length : Int)) := by omega
    simp only [laws_toIntS.l0, h1, if_false]
    rw [List.take_of_length_le (by omega), List.take_of_length_le (by omega)] at ht
    rw [ht]
  | succ d ih =>
    intro n acc hn ha ht
    refine Ev.succ_ ?_
    have h1 : (n : Int) < (l.length : Int) := by omega
    have h2 : (0 : Int) ≤ (n : Int) := by omega
    have h3 : (n : Int) < (acc.length : Int) := by omega
    have h4 : wrap64 ((n : Int) + 1) = ((n + 1 : Nat) : Int) := by rw [wr (by omega) (by omega)]; omega
    simp only [laws_toIntS.l0, h1, h2, h3, h4, if_true, Int.toNat_natCast]
    refine ih (n + 1) _ (by omega) (by simpa using ha) ?_
    have hn1 : n < acc.length := by omega
    have hn2 : n < l.length := by omega
    rw [List.take_succ_eq_append_getElem (by simpa using hn1), List.take_succ_eq_append_getElem hn2, List.take_set_of_le (Nat.le_refl _), ht]
    simp [rd, List.getD_eq_getElem?_getD, List.getElem?_eq_getElem hn2]
theorem toIntS_ev (l : List Int) (hl : l.length ≤ 1099511627776) : Ev (fun k => laws_toIntS.f k l) l := by
  have h1 : (0 : Int) ≤ (l.length : Int) := by omega
  have h2 : l.length ≤ 35184372088832 := by omega
  simp only [laws_toIntS.f, h1, h2, Int.toNat_natCast, if_true]
  exact toIntS_loop l hl l.length 0 _ (by omega) (by simp) (by simp)
theorem eqIntS_loop (l : List Int) (hl : l.length ≤ 1099511627776) (d : Nat) : ∀ n : Nat, n + d = l.length → Ev (fun k => laws_eqIntS.l0 k l l (n : Int)) true := by
  induction d with
  | zero =>
    intro n hn
    refine Ev.succ_ (Ev.all_ fun k => ?_)
    have h1 : ¬ ((n : Int) < (l.length : Int)) := by omega
    simp only [laws_eqIntS.l0, h1, if_false]
  | succ d ih =>
    intro n hn
    refine Ev.succ_ ?_
    have h1 : (n : Int) < (l.length : Int) := by omega
    have h2 : (0 : Int) ≤ (n : Int) := by omega
    have h4 : wrap64 ((n : Int) + 1) = ((n + 1 : Nat) : Int) := by rw [wr (by omega) (by omega)]; omega
    simp only [laws_eqIntS.l0, h1, h2, h4, if_true]
    exact ih (n + 1) (by omega)
theorem eqIntS_ev (l : List Int) (hl : l.length ≤ 1099511627776) : Ev (fun k => laws_eqIntS.f k l l) true := by
  simp only [laws_eqIntS.f, if_true]
  exact eqIntS_loop l hl l.length 0 (by omega)
end Go.Proofs.Ytcffnnedghgmaaa.A
