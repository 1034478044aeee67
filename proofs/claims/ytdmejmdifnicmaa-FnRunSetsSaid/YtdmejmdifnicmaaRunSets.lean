/- Plain facts: RunSets of the program and of the reference tell all that was set of the variables of which there is a true. -/
import Derived.Test.YtdmejmdifnicmaaAx0
import Derived.Test.YtdmejmdifnicmaaAx7
import Derived.Test.YtdmejmdifnicmaaAx21
import Derived.Test.YtdmejmdifnicmaaAx22
import Derived.Test.YtdmejmdifnicmaaKit
-- uses Kit
namespace Go.Proofs.Ytdmejmdifnicmaa.A
open Go.RowKit Go.Proofs.YtdmejmdifnicmaaW.PrintWords Go.Proofs.YtdmejmdifnicmaaW.PrintLast Go.Proofs.YtdmejmdifnicmaaW.PrintMore
def setOf (vs : List Bool) : List S52 → List S52
  | [] => []
  | s :: r => if 0 ≤ s.f0 ∧ s.f0 < (vs.length : Int) ∧ rdOf false vs s.f0 = true then s :: setOf vs r else setOf vs r
theorem setOf_length (vs : List Bool) (l : List S52) : (setOf vs l).length ≤ l.length := by
  induction l with
  | nil => exact Nat.le_refl _
  | cons s r ih =>
    unfold setOf
    split
    · simp; exact ih
    · simp; omega
theorem im_inR (a b c : Int) : impl_in.f a b c = some (decide (b ≤ a) && decide (a ≤ c)) := by
  unfold impl_in.f
  by_cases h : b ≤ a <;> simp [h]
theorem sp_inR (a b c : Int) : spec_l6In.f a b c = some (decide (b ≤ a) && decide (a ≤ c)) := by
  unfold spec_l6In.f
  by_cases h : b ≤ a <;> simp [h]
theorem im_runSets_loop (vs : List Bool) (l : List S52) (hv : vs.length ≤ 1099511627776) (hl : l.length ≤ 1099511627776) (d : Nat) : ∀ (n : Nat) (acc : List S52), n + d = l.length → acc.length ≤ n →
    Ev (fun k => impl_RunSets.l0 k vs acc l (l.length : Int) (n : Int)) (acc ++ setOf vs (l.drop n)) := by
  induction d with
  | zero =>
    intro n acc hn ha
    refine Ev.succ_ (Ev.all_ fun k => ?_)
    have h1 : ¬ ((n : Int) < (l.length : Int)) := by omega
    simp only [impl_RunSets.l0, h1, if_false]
    rw [List.drop_of_length_le (by omega)]
    simp [setOf]
  | succ d ih =>
    intro n acc hn ha
    refine Ev.succ_ ?_
    have h1 : (n : Int) < (l.length : Int) := by omega
    have h2 : (0 : Int) ≤ (n : Int) := by omega
    have h3 : acc.length < 8796093022208 := by omega
    have h4 : wrap64 ((n : Int) + 1) = ((n + 1 : Nat) : Int) := by rw [wr (by omega) (by omega)]; omega
    have h5 : l.drop n = rd_T52 l (n : Int) :: l.drop (n + 1) := by
      simp only [rd_T52, Int.toNat_natCast]
      exact drop_cons l n _ (by omega)
    have h6 : wrap64 ((vs.length : Int) - 1) = (vs.length : Int) - 1 := wr (by omega) (by omega)
    simp only [impl_RunSets.l0, h1, h2, h3, h4, h6, if_true, im_inR, Option.bind_some]
    have goes := ih (n + 1) (acc ++ [rd_T52 l (n : Int)]) (by omega) (by simp; omega)
    have stays := ih (n + 1) acc (by omega) (by omega)
    rw [h5]
    generalize rd_T52 l (n : Int) = s at goes stays
    by_cases e : 0 ≤ s.f0 ∧ s.f0 ≤ (vs.length : Int) - 1
    · have e1 : 0 ≤ s.f0 := e.1
      have e2 : s.f0 < (vs.length : Int) := by omega
      have e3 : (decide (0 ≤ s.f0) && decide (s.f0 ≤ (vs.length : Int) - 1)) = true := by simp [e1]; omega
      simp only [e3, if_true]
      simp only [e1, e2, if_true]
      cases e4 : rdOf false vs s.f0
      · simp only [Bool.false_eq_true, if_false]
        refine Ev.eq_ stays ?_
        simp [setOf, e4]
      · simp only [if_true]
        refine Ev.eq_ goes ?_
        simp [setOf, e4, e1, e2]
    · have e3 : (decide (0 ≤ s.f0) && decide (s.f0 ≤ (vs.length : Int) - 1)) = false := by
        rw [Bool.eq_false_iff]
        simpa using e
      have e5 : ¬ (0 ≤ s.f0 ∧ s.f0 < (vs.length : Int)) := by omega
      simp only [e3, Bool.false_eq_true, if_false]
      refine Ev.eq_ stays ?_
      simp only [setOf]
      rw [if_neg (fun h => e5 ⟨h.1, h.2.1⟩)]
theorem im_runSets (a : List Int) (l : List S52) (c : List S50) (vs : List Bool) (hv : vs.length ≤ 1099511627776) (hl : l.length ≤ 1099511627776) : Ev (fun k => impl_RunSets.f k a l c vs) (setOf vs l) := by
  have := im_runSets_loop vs l hv hl l.length 0 [] (by omega) (Nat.le_refl _)
  simpa [impl_RunSets.f] using this
theorem sp_runSets_loop (vs : List Bool) (a : List Int) (c : List S50) (l : List S52) (hv : vs.length ≤ 1099511627776) (hl : l.length ≤ 1099511627776) (d : Nat) : ∀ (n : Nat) (acc : List S52), n + d = l.length → acc.length ≤ n →
    Ev (fun k => spec_RunSets.l0 k vs acc (n : Int) a l c) (acc ++ setOf vs (l.drop n)) := by
  induction d with
  | zero =>
    intro n acc hn ha
    refine Ev.succ_ (Ev.all_ fun k => ?_)
    have h1 : ¬ ((n : Int) < (l.length : Int)) := by omega
    simp only [spec_RunSets.l0, h1, if_false]
    rw [List.drop_of_length_le (by omega)]
    simp [setOf]
  | succ d ih =>
    intro n acc hn ha
    refine Ev.succ_ ?_
    have h1 : (n : Int) < (l.length : Int) := by omega
    have h2 : (0 : Int) ≤ (n : Int) := by omega
    have h3 : acc.length < 8796093022208 := by omega
    have h4 : wrap64 ((n : Int) + 1) = ((n + 1 : Nat) : Int) := by rw [wr (by omega) (by omega)]; omega
    have h5 : l.drop n = rd_T52 l (n : Int) :: l.drop (n + 1) := by
      simp only [rd_T52, Int.toNat_natCast]
      exact drop_cons l n _ (by omega)
    have h6 : wrap64 ((vs.length : Int) - 1) = (vs.length : Int) - 1 := wr (by omega) (by omega)
    simp only [spec_RunSets.l0, h1, h2, h3, h4, h6, if_true, sp_inR, Option.bind_some]
    have goes := ih (n + 1) (acc ++ [rd_T52 l (n : Int)]) (by omega) (by simp; omega)
    have stays := ih (n + 1) acc (by omega) (by omega)
    rw [h5]
    generalize rd_T52 l (n : Int) = s at goes stays
    by_cases e : 0 ≤ s.f0 ∧ s.f0 ≤ (vs.length : Int) - 1
    · have e1 : 0 ≤ s.f0 := e.1
      have e2 : s.f0 < (vs.length : Int) := by omega
      have e3 : (decide (0 ≤ s.f0) && decide (s.f0 ≤ (vs.length : Int) - 1)) = true := by simp [e1]; omega
      simp only [e3, if_true]
      simp only [e1, e2, if_true]
      cases e4 : rdOf false vs s.f0
      · simp only [Bool.false_eq_true, if_false]
        refine Ev.eq_ stays ?_
        simp [setOf, e4]
      · simp only [if_true]
        refine Ev.eq_ goes ?_
        simp [setOf, e4, e1, e2]
    · have e3 : (decide (0 ≤ s.f0) && decide (s.f0 ≤ (vs.length : Int) - 1)) = false := by
        rw [Bool.eq_false_iff]
        simpa using e
      have e5 : ¬ (0 ≤ s.f0 ∧ s.f0 < (vs.length : Int)) := by omega
      simp only [e3, Bool.false_eq_true, if_false]
      refine Ev.eq_ stays ?_
      simp only [setOf]
      rw [if_neg (fun h => e5 ⟨h.1, h.2.1⟩)]
theorem sp_runSets (a : List Int) (l : List S52) (c : List S50) (vs : List Bool) (hv : vs.length ≤ 1099511627776) (hl : l.length ≤ 1099511627776) : Ev (fun k => spec_RunSets.f k a l c vs) (setOf vs l) := by
  have := sp_runSets_loop vs a c l hv hl l.length 0 [] (by omega) (Nat.le_refl _)
  simpa [spec_RunSets.f] using this
end Go.Proofs.Ytdmejmdifnicmaa.A
