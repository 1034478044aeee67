/- Plain facts: a row of the three hosts' names, for the program and for the reference: one of six. -/
import Derived.Test.YtcndpbegmdcelaaAx3
import Derived.Test.YtcndpbegmdcelaaAx21
import Derived.Test.YtcndpbegmdcelaaAx22
import Derived.Test.YtcndpbegmdcelaaKit
-- uses Kit
namespace Go.Proofs.Ytcndpbegmdcelaa.A
open Go.RowKit Go.Proofs.YtcndpbegmdcelaaW.PrintWords Go.Proofs.YtcndpbegmdcelaaW.PrintLast Go.Proofs.YtcndpbegmdcelaaW.PrintMore
theorem index_loop (l : List Int) (v : Int) (hl : l.length ≤ 1099511627776) (d : Nat) : ∀ n : Nat, n + d = l.length →
    ∃ r, Ev (fun k => slices_Index_int_int.l0 k l v (l.length : Int) (n : Int)) r ∧ decide (r ≥ 0) = (l.drop n).contains v := by
  induction d with
  | zero =>
    intro n hn
    refine ⟨-1, Ev.succ_ (Ev.all_ fun k => ?_), ?_⟩
    · have h1 : ¬ ((n : Int) < (l.length : Int)) := by omega
      simp only [slices_Index_int_int.l0, h1, if_false]
    · rw [List.drop_of_length_le (by omega)]
      rfl
  | succ d ih =>
    intro n hn
    have h1 : (n : Int) < (l.length : Int) := by omega
    have h2 : (0 : Int) ≤ (n : Int) := by omega
    have h4 : wrap64 ((n : Int) + 1) = ((n + 1 : Nat) : Int) := by rw [wr (by omega) (by omega)]; omega
    have h5 : l.drop n = rd l (n : Int) :: l.drop (n + 1) := by
      simp only [rd, Int.toNat_natCast]
      exact drop_cons l n _ (by omega)
    rw [h5]
    by_cases e : v = rd l (n : Int)
    · refine ⟨(n : Int), Ev.succ_ (Ev.all_ fun k => ?_), ?_⟩
      · simp only [slices_Index_int_int.l0, h1, h2, ← e, if_true]
      · rw [← e]
        simp
    · obtain ⟨r, hr, hd⟩ := ih (n + 1) (by omega)
      refine ⟨r, Ev.succ_ ?_, ?_⟩
      · simp only [slices_Index_int_int.l0, h1, h2, e, h4, if_true, if_false]
        exact hr
      · rw [hd]
        have e' : (v == rd l (n : Int)) = false := by simpa using e
        simp only [List.contains_cons, e', Bool.false_or]
theorem contains_ev (l : List Int) (v : Int) (hl : l.length ≤ 1099511627776) : Ev (fun k => slices_Contains_int_int.f k l v) (l.contains v) := by
  obtain ⟨r, hr, hd⟩ := index_loop l v hl l.length 0 (by omega)
  rw [List.drop_zero] at hd
  rw [← hd]
  unfold slices_Contains_int_int.f slices_Index_int_int.f
  exact Ev.bind hr (Ev.now _)
def rowOk (pre : List Int) : List Int → Bool
  | [] => true
  | x :: r => (decide (0 ≤ x) && decide (x ≤ 2)) && (!pre.contains x && rowOk (pre ++ [x]) r)
theorem in_eq (a b c : Int) : impl_in.f a b c = some (decide (b ≤ a) && decide (a ≤ c)) := by
  unfold impl_in.f
  by_cases h : b ≤ a <;> simp [h]
theorem isRow_loop (row : List Int) (hl : row.length ≤ 1099511627776) (d : Nat) : ∀ n : Nat, n + d = row.length →
    Ev (fun k => impl_isRow.l0 k row 3 row (row.length : Int) (n : Int)) (rowOk (row.take n) (row.drop n) && ((row.length : Int) == 3)) := by
  induction d with
  | zero =>
    intro n hn
    refine Ev.succ_ (Ev.all_ fun k => ?_)
    have h1 : ¬ ((n : Int) < (row.length : Int)) := by omega
    simp only [impl_isRow.l0, h1, if_false]
    rw [List.drop_of_length_le (by omega)]
    simp [rowOk]
  | succ d ih =>
    intro n hn
    refine Ev.succ_ ?_
    have h1 : (n : Int) < (row.length : Int) := by omega
    have h2 : (0 : Int) ≤ (n : Int) := by omega
    have h3 : (n : Int) ≤ (row.length : Int) := by omega
    have h4 : wrap64 ((n : Int) + 1) = ((n + 1 : Nat) : Int) := by rw [wr (by omega) (by omega)]; omega
    have h5 : row.drop n = rd row (n : Int) :: row.drop (n + 1) := by
      simp only [rd, Int.toNat_natCast]
      exact drop_cons row n _ (by omega)
    have h6 : row.take (n + 1) = row.take n ++ [rd row (n : Int)] := by
      rw [List.take_succ_eq_append_getElem (by omega)]
      simp only [rd, Int.toNat_natCast, List.getD_eq_getElem?_getD, List.getElem?_eq_getElem (show n < row.length by omega), Option.getD_some]
    have h7 : wrap64 ((3 : Int) - 1) = 2 := by rw [wr (by omega) (by omega)]; rfl
    have hc := contains_ev (row.take n) (rd row (n : Int)) (by simp; omega)
    have step := ih (n + 1) (by omega)
    rw [h6] at step
    simp only [impl_isRow.l0, h1, h2, h3, h4, h7, if_true, in_eq, Option.bind_some, Int.toNat_natCast]
    rw [h5]
    cases e1 : (decide (0 ≤ rd row (n : Int)) && decide (rd row (n : Int) ≤ 2))
    · simp only [Bool.false_eq_true, if_false]
      refine Ev.eq_ (Ev.now _) ?_
      simp only [rowOk, e1, Bool.false_and]
    · simp only [if_true]
      refine Ev.bind hc ?_
      cases e2 : (row.take n).contains (rd row (n : Int))
      · simp only [Bool.false_eq_true, if_false]
        refine Ev.eq_ step ?_
        simp only [rowOk, e1, e2, Bool.not_false, Bool.true_and]
      · simp only [if_true]
        refine Ev.eq_ (Ev.now _) ?_
        simp only [rowOk, e1, e2, Bool.not_true, Bool.false_and, Bool.and_false]
/-- One of the six rows of three names. -/
def isP (row : List Int) : Bool := rowOk [] row && ((row.length : Int) == 3)
theorem isRow_ev (row : List Int) (hl : row.length ≤ 1099511627776) : Ev (fun k => impl_isRow.f k row 3) (isP row) := by
  have := isRow_loop row hl row.length 0 (by omega)
  simpa [impl_isRow.f, isP] using this
def perms : List (List Int) := [[0, 1, 2], [0, 2, 1], [1, 0, 2], [1, 2, 0], [2, 0, 1], [2, 1, 0]]
theorem isP_mem {row : List Int} (h : isP row = true) : row ∈ perms := by
  unfold isP at h
  rw [Bool.and_eq_true, beq_iff_eq] at h
  obtain ⟨h1, h2⟩ := h
  match row, h1, h2 with
  | [a, b, c], h1, _ =>
    simp only [rowOk, Bool.and_eq_true, decide_eq_true_eq, Bool.not_eq_true', List.nil_append, List.cons_append] at h1
    simp only [List.contains_nil, List.contains_cons, Bool.or_eq_false_iff, beq_eq_false_iff_ne, ne_eq] at h1
    have ha : a = 0 ∨ a = 1 ∨ a = 2 := by omega
    have hb : b = 0 ∨ b = 1 ∨ b = 2 := by omega
    have hc : c = 0 ∨ c = 1 ∨ c = 2 := by omega
    rcases ha with rfl | rfl | rfl <;> rcases hb with rfl | rfl | rfl <;> rcases hc with rfl | rfl | rfl <;> first | decide | (exfalso; simp at h1)
  | [], _, h2 => simp at h2
  | [_], _, h2 => simp at h2
  | [_, _], _, h2 => simp at h2
  | _ :: _ :: _ :: _ :: _, _, h2 => simp at h2; omega
end Go.Proofs.Ytcndpbegmdcelaa.A
