/- Plain facts: the law's own look at a row of three names tells one of the six. -/
import Derived.Test.YtcndpbegmdcelaaAx29
import Derived.Test.YtcndpbegmdcelaaTurnRow
-- uses TurnRow
namespace Go.Proofs.Ytcndpbegmdcelaa.A
open Go.RowKit Go.Proofs.YtcndpbegmdcelaaW.PrintWords Go.Proofs.YtcndpbegmdcelaaW.PrintLast Go.Proofs.YtcndpbegmdcelaaW.PrintMore
theorem lcRow_loop (row : List Int) (hl : row.length ≤ 1099511627776) (d : Nat) : ∀ (n : Nat) (seen : List Bool), n + d = row.length → seen = [(row.take n).contains 0, (row.take n).contains 1, (row.take n).contains 2] →
    Ev (fun k => laws_lcRow.l0 k row 3 seen (n : Int)) (rowOk (row.take n) (row.drop n) && ((row.length : Int) == 3)) := by
  induction d with
  | zero =>
    intro n seen hn hs
    refine Ev.succ_ (Ev.all_ fun k => ?_)
    have h1 : ¬ ((n : Int) < (row.length : Int)) := by omega
    simp only [laws_lcRow.l0, h1, if_false]
    rw [List.drop_of_length_le (by omega)]
    simp [rowOk]
  | succ d ih =>
    intro n seen hn hs
    refine Ev.succ_ ?_
    have h1 : (n : Int) < (row.length : Int) := by omega
    have h2 : (0 : Int) ≤ (n : Int) := by omega
    have h4 : wrap64 ((n : Int) + 1) = ((n + 1 : Nat) : Int) := by rw [wr (by omega) (by omega)]; omega
    have h5 : row.drop n = rd row (n : Int) :: row.drop (n + 1) := by
      simp only [rd, Int.toNat_natCast]
      exact drop_cons row n _ (by omega)
    have h6 : row.take (n + 1) = row.take n ++ [rd row (n : Int)] := by
      rw [List.take_succ_eq_append_getElem (by omega)]
      simp only [rd, Int.toNat_natCast, List.getD_eq_getElem?_getD, List.getElem?_eq_getElem (show n < row.length by omega), Option.getD_some]
    have step := ih (n + 1)
    rw [h6] at step
    rw [h5]
    simp only [laws_lcRow.l0, h1, h2, h4, if_true]
    generalize rd row (n : Int) = x at step
    by_cases c1 : x < 0
    · simp only [c1, if_true]
      refine Ev.eq_ (Ev.now _) ?_
      have : decide (0 ≤ x) = false := by simpa using c1
      simp only [rowOk, this, Bool.false_and]
    · by_cases c2 : x ≥ 3
      · simp only [c1, c2, if_true, if_false]
        refine Ev.eq_ (Ev.now _) ?_
        have : decide (x ≤ 2) = false := by simp; omega
        simp only [rowOk, this, Bool.false_and, Bool.and_false]
      · have c3 : 0 ≤ x := by omega
        have c4 : x < (seen.length : Int) := by rw [hs]; simp; omega
        have c5 : (decide (0 ≤ x) && decide (x ≤ 2)) = true := by simp; omega
        have c6 : rdOf false seen x = (row.take n).contains x := by
          rw [hs]
          have : x = 0 ∨ x = 1 ∨ x = 2 := by omega
          rcases this with rfl | rfl | rfl <;> rfl
        simp only [c1, c2, c3, c4, c6, if_true, if_false]
        cases c7 : (row.take n).contains x
        · simp only [Bool.false_eq_true, if_false]
          refine Ev.eq_ (step _ (by omega) ?_) ?_
          · rw [hs]
            have : x = 0 ∨ x = 1 ∨ x = 2 := by omega
            rcases this with rfl | rfl | rfl <;> simp
          · simp only [rowOk, c5, c7, Bool.not_false, Bool.true_and]
        · simp only [if_true]
          refine Ev.eq_ (Ev.now _) ?_
          simp only [rowOk, c7, Bool.not_true, Bool.false_and, Bool.and_false]
theorem lcRow_ev (row : List Int) (hl : row.length ≤ 1099511627776) : Ev (fun k => laws_lcRow.f k row 3) (isP row) := by
  have := lcRow_loop row hl row.length 0 (List.replicate 3 false) (by omega) (by simp)
  have c1 : (0 : Int) ≤ 3 := by omega
  have c2 : ((3 : Int) : Int).toNat ≤ 281474976710656 := by decide
  simp only [laws_lcRow.f, c1, c2, if_true]
  exact this
end Go.Proofs.Ytcndpbegmdcelaa.A
