/- Plain facts: a row of names for the reference is one of the same six; TurnSet of both is one function. -/
import Derived.Test.YtcndpbegmdcelaaAx20
import Derived.Test.YtcndpbegmdcelaaAx22
import Derived.Test.YtcndpbegmdcelaaAx23
import Derived.Test.YtcndpbegmdcelaaTurnRow
import Derived.Test.YtcndpbegmdcelaaLabOk
-- uses TurnRow LabOk
namespace Go.Proofs.Ytcndpbegmdcelaa.A
open Go.RowKit Go.Proofs.YtcndpbegmdcelaaW.PrintWords Go.Proofs.YtcndpbegmdcelaaW.PrintLast Go.Proofs.YtcndpbegmdcelaaW.PrintMore
theorem l14_inner (row : List Int) (h3 : row.length = 3) (i : Int) (s : Bool) (j : Nat) (hj : j < 3) {r : Bool}
    (h : Ev (fun k => spec_l14Row.l1 k row 3 i (s || (rd row (j : Int) == i)) ((j + 1 : Nat) : Int)) r) : Ev (fun k => spec_l14Row.l1 k row 3 i s (j : Int)) r := by
  refine Ev.succ_ ?_
  have h1 : (j : Int) < 3 := by omega
  have h2 : (0 : Int) ≤ (j : Int) := by omega
  have h4 : wrap64 ((j : Int) + 1) = ((j + 1 : Nat) : Int) := by rw [wr (by omega) (by omega)]; omega
  have h5 : (j : Int) < (row.length : Int) := by omega
  simp only [spec_l14Row.l1, h1, h2, h4, h5, if_true]
  cases s
  · simpa using h
  · simpa using h
theorem l14_row (row : List Int) (h3 : row.length = 3) (i : Int) {r : Bool}
    (h : Ev (fun k => if (rd row 0 == i || rd row 1 == i || rd row 2 == i) = true then spec_l14Row.l0 k row 3 (wrap64 (i + 1)) else some false) r) : Ev (fun k => spec_l14Row.l1 k row 3 i false 0) r := by
  refine l14_inner row h3 i false 0 (by omega) (l14_inner row h3 i _ 1 (by omega) (l14_inner row h3 i _ 2 (by omega) ?_))
  refine Ev.succ_ ?_
  have h1 : ¬ (((2 + 1 : Nat) : Int) < 3) := by omega
  simp only [spec_l14Row.l1, h1, if_false, Bool.false_or]
  exact h
def isP3 (row : List Int) : Bool := (rd row 0 == 0 || rd row 1 == 0 || rd row 2 == 0) && ((rd row 0 == 1 || rd row 1 == 1 || rd row 2 == 1) && (rd row 0 == 2 || rd row 1 == 2 || rd row 2 == 2))
theorem l14_three (row : List Int) (h3 : row.length = 3) : Ev (fun k => spec_l14Row.f k row 3) (isP3 row) := by
  have h4 : ((row.length : Int) = 3) := by omega
  have w0 : wrap64 ((0 : Int) + 1) = 1 := by rw [wr (by omega) (by omega)]; rfl
  have w1 : wrap64 ((1 : Int) + 1) = 2 := by rw [wr (by omega) (by omega)]; rfl
  have w2 : wrap64 ((2 : Int) + 1) = 3 := by rw [wr (by omega) (by omega)]; rfl
  have c0 : (0 : Int) < 3 := by decide
  have c1 : (1 : Int) < 3 := by decide
  have c2 : (2 : Int) < 3 := by decide
  simp only [spec_l14Row.f, h4, if_true]
  refine Ev.succ_ ?_
  simp only [spec_l14Row.l0, c0, if_true]
  refine l14_row row h3 0 ?_
  rw [w0]
  unfold isP3
  cases (rd row 0 == 0 || rd row 1 == 0 || rd row 2 == 0)
  · exact Ev.now _
  simp only [if_true, Bool.true_and]
  refine Ev.succ_ ?_
  simp only [spec_l14Row.l0, c1, if_true]
  refine l14_row row h3 1 ?_
  rw [w1]
  cases (rd row 0 == 1 || rd row 1 == 1 || rd row 2 == 1)
  · exact Ev.now _
  simp only [if_true, Bool.true_and]
  refine Ev.succ_ ?_
  simp only [spec_l14Row.l0, c2, if_true]
  refine l14_row row h3 2 ?_
  rw [w2]
  cases (rd row 0 == 2 || rd row 1 == 2 || rd row 2 == 2)
  · exact Ev.now _
  simp only [if_true]
  refine Ev.succ_ (Ev.all_ fun k => ?_)
  simp [spec_l14Row.l0]
theorem isP_three (a b c : Int) : isP3 [a, b, c] = isP [a, b, c] := by
  have e0 : rd [a, b, c] 0 = a := rfl
  have e1 : rd [a, b, c] 1 = b := rfl
  have e2 : rd [a, b, c] 2 = c := rfl
  rw [Bool.eq_iff_iff]
  unfold isP3 isP
  rw [e0, e1, e2]
  simp only [rowOk, Bool.and_eq_true, Bool.or_eq_true, beq_iff_eq, decide_eq_true_eq, Bool.not_eq_true', List.nil_append, List.cons_append, List.contains_nil, List.contains_cons, Bool.or_eq_false_iff, beq_eq_false_iff_ne, ne_eq, List.length_cons, List.length_nil, and_true, true_and]
  constructor
  · rintro ⟨h0, h1, h2⟩
    have ha : a = 0 ∨ a = 1 ∨ a = 2 := by omega
    have hb : b = 0 ∨ b = 1 ∨ b = 2 := by omega
    have hc : c = 0 ∨ c = 1 ∨ c = 2 := by omega
    refine ⟨⟨⟨by omega, by omega⟩, ⟨by omega, by omega⟩, by omega, ⟨by omega, by omega⟩, by omega, by omega⟩, by omega⟩
  · rintro ⟨⟨ha, hb, hab, hc, hac, hbc⟩, _⟩
    exact ⟨by omega, by omega, by omega⟩
theorem l14_ev (row : List Int) : Ev (fun k => spec_l14Row.f k row 3) (isP row) := by
  by_cases h3 : row.length = 3
  · match row, h3 with
    | [a, b, c], h3 => rw [← isP_three]; exact l14_three _ h3
  · have h4 : ¬ ((row.length : Int) = 3) := by omega
    simp only [spec_l14Row.f, h4, if_false]
    have : isP row = false := by
      unfold isP
      rw [Bool.and_eq_false_iff]
      right
      simpa using h4
    rw [this]
    exact Ev.now _
def turnV (s : Int) (row : List Int) : Int := if isS s && isP row then (impl_turned.f 10 s row).getD 0 else 0
theorem turn_fin : ∀ x : Fin 8, ∀ p ∈ perms, (impl_turned.f 10 (x.val : Int) p).isSome = true ∧ spec_TurnSet.f 40 (x.val : Int) p = impl_turned.f 10 (x.val : Int) p := by decide +kernel
theorem im_turn (s : Int) (row : List Int) (hl : row.length ≤ 1099511627776) : Ev (fun k => impl_TurnSet.f k s row) (turnV s row) := by
  unfold impl_TurnSet.f turnV
  rw [im_set]
  simp only [Option.bind_some]
  cases hs : isS s
  · exact Ev.now _
  simp only [if_true, Bool.true_and]
  refine Ev.bind (isRow_ev row hl) ?_
  cases hp : isP row
  · exact Ev.now _
  simp only [if_true]
  obtain ⟨x, rfl⟩ := as_fin hs
  obtain ⟨h1, _⟩ := turn_fin x row (isP_mem hp)
  obtain ⟨r, hr⟩ := Option.isSome_iff_exists.1 h1
  rw [hr]
  exact Ev.bind (Ev.of (impl_turned.mono _ _) hr) (Ev.now _)
theorem sp_turn (s : Int) (row : List Int) : Ev (fun k => spec_TurnSet.f k s row) (turnV s row) := by
  unfold turnV
  cases hs : isS s
  · simp only [Bool.false_and, Bool.false_eq_true, if_false, spec_TurnSet.f]
    refine Ev.succ_ ?_
    have c0 : (0 : Int) < 3 := by decide
    simp only [spec_TurnSet.l0, c0, if_true, sp_set, hs, Option.bind_some, Bool.false_eq_true, if_false]
    refine Ev.succ_ (Ev.all_ fun k => ?_)
    simp [spec_TurnSet.j1]
  cases hp : isP row
  · simp only [Bool.and_false, Bool.false_eq_true, if_false, spec_TurnSet.f]
    refine Ev.succ_ ?_
    have c0 : (0 : Int) < 3 := by decide
    simp only [spec_TurnSet.l0, c0, if_true, sp_set, hs, Option.bind_some]
    refine Ev.bind (l14_ev row) ?_
    rw [hp]
    refine Ev.succ_ (Ev.all_ fun k => ?_)
    simp [spec_TurnSet.j1]
  simp only [Bool.and_self, if_true]
  obtain ⟨x, rfl⟩ := as_fin hs
  obtain ⟨h1, h2⟩ := turn_fin x row (isP_mem hp)
  obtain ⟨r, hr⟩ := Option.isSome_iff_exists.1 h1
  rw [hr] at h2 ⊢
  exact Ev.of (spec_TurnSet.mono _ _) h2
end Go.Proofs.Ytcndpbegmdcelaa.A
