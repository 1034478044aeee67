/- Plain facts: RunTo of the program and of the reference tell the numbers that were told to the host. -/
import Derived.Test.YtdmejmdifnicmaaAx0
import Derived.Test.YtdmejmdifnicmaaAx18
import Derived.Test.YtdmejmdifnicmaaKit
-- uses Kit
namespace Go.Proofs.Ytdmejmdifnicmaa.A
open Go.RowKit Go.Proofs.YtdmejmdifnicmaaW.PrintWords Go.Proofs.YtdmejmdifnicmaaW.PrintLast Go.Proofs.YtdmejmdifnicmaaW.PrintMore
def toldTo (h : Int) : List S50 → List Int
  | [] => []
  | s :: r => if s.f0 = h then s.f1 :: toldTo h r else toldTo h r
theorem toldTo_length (h : Int) (l : List S50) : (toldTo h l).length ≤ l.length := by
  induction l with
  | nil => exact Nat.le_refl _
  | cons s r ih =>
    unfold toldTo
    split
    · simp; exact ih
    · simp; omega
theorem im_runTo_loop (h : Int) (l : List S50) (hl : l.length ≤ 1099511627776) (d : Nat) : ∀ (n : Nat) (acc : List Int), n + d = l.length → acc.length ≤ n →
    Ev (fun k => impl_RunTo.l0 k h acc l (l.length : Int) (n : Int)) (acc ++ toldTo h (l.drop n)) := by
  induction d with
  | zero =>
    intro n acc hn ha
    refine Ev.succ_ (Ev.all_ fun k => ?_)
    have h1 : ¬ ((n : Int) < (l.length : Int)) := by omega
    simp only [impl_RunTo.l0, h1, if_false]
    rw [List.drop_of_length_le (by omega)]
    simp [toldTo]
  | succ d ih =>
    intro n acc hn ha
    refine Ev.succ_ ?_
    have h1 : (n : Int) < (l.length : Int) := by omega
    have h2 : (0 : Int) ≤ (n : Int) := by omega
    have h3 : acc.length < 17592186044416 := by omega
    have h4 : wrap64 ((n : Int) + 1) = ((n + 1 : Nat) : Int) := by rw [wr (by omega) (by omega)]; omega
    have h5 : l.drop n = rd_T50 l (n : Int) :: l.drop (n + 1) := by
      simp only [rd_T50, Int.toNat_natCast]
      exact drop_cons l n _ (by omega)
    simp only [impl_RunTo.l0, h1, h2, h3, h4, if_true]
    by_cases e : (rd_T50 l (n : Int)).f0 = h
    · simp only [e, if_true]
      refine Ev.eq_ (ih (n + 1) _ (by omega) (by simp; omega)) ?_
      rw [h5, toldTo, if_pos e]
      simp
    · simp only [e, if_false]
      refine Ev.eq_ (ih (n + 1) _ (by omega) (by omega)) ?_
      rw [h5, toldTo, if_neg e]
theorem im_runTo (a : List Int) (b : List S52) (l : List S50) (h : Int) (hl : l.length ≤ 1099511627776) : Ev (fun k => impl_RunTo.f k a b l h) (toldTo h l) := by
  have := im_runTo_loop h l hl l.length 0 [] (by omega) (Nat.le_refl _)
  simpa [impl_RunTo.f] using this
theorem sp_runTo_loop (h : Int) (a : List Int) (b : List S52) (l : List S50) (hl : l.length ≤ 1099511627776) (d : Nat) : ∀ (n : Nat) (acc : List Int), n + d = l.length → acc.length ≤ n →
    Ev (fun k => spec_RunTo.l0 k h acc (n : Int) a b l) (acc ++ toldTo h (l.drop n)) := by
  induction d with
  | zero =>
    intro n acc hn ha
    refine Ev.succ_ (Ev.all_ fun k => ?_)
    have h1 : ¬ ((n : Int) < (l.length : Int)) := by omega
    simp only [spec_RunTo.l0, h1, if_false]
    rw [List.drop_of_length_le (by omega)]
    simp [toldTo]
  | succ d ih =>
    intro n acc hn ha
    refine Ev.succ_ ?_
    have h1 : (n : Int) < (l.length : Int) := by omega
    have h2 : (0 : Int) ≤ (n : Int) := by omega
    have h3 : acc.length < 17592186044416 := by omega
    have h4 : wrap64 ((n : Int) + 1) = ((n + 1 : Nat) : Int) := by rw [wr (by omega) (by omega)]; omega
    have h5 : l.drop n = rd_T50 l (n : Int) :: l.drop (n + 1) := by
      simp only [rd_T50, Int.toNat_natCast]
      exact drop_cons l n _ (by omega)
    simp only [spec_RunTo.l0, h1, h2, h3, h4, if_true]
    by_cases e : (rd_T50 l (n : Int)).f0 = h
    · simp only [e, if_true]
      refine Ev.eq_ (ih (n + 1) _ (by omega) (by simp; omega)) ?_
      rw [h5, toldTo, if_pos e]
      simp
    · simp only [e, if_false]
      refine Ev.eq_ (ih (n + 1) _ (by omega) (by omega)) ?_
      rw [h5, toldTo, if_neg e]
theorem sp_runTo (a : List Int) (b : List S52) (l : List S50) (h : Int) (hl : l.length ≤ 1099511627776) : Ev (fun k => spec_RunTo.f k a b l h) (toldTo h l) := by
  have := sp_runTo_loop h a b l hl l.length 0 [] (by omega) (Nat.le_refl _)
  simpa [spec_RunTo.f] using this
end Go.Proofs.Ytdmejmdifnicmaa.A
