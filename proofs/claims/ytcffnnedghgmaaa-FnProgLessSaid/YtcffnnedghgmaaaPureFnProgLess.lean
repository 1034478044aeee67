/- The law FnProgLess: a program's first steps are a program, and so is the rest; without conditions. -/
import Derived.Test.YtcffnnedghgmaaaAx0
import Derived.Test.YtcffnnedghgmaaaAx18
import Derived.Test.YtcffnnedghgmaaaStmFnProgLess
import Derived.Test.YtcffnnedghgmaaaBentProg
-- uses StmFnProgLess BentProg
namespace Go.Proofs.Ytcffnnedghgmaaa.Pure
open Go.RowKit Go.Proofs.YtcffnnedghgmaaaW.PrintWords Go.Proofs.YtcffnnedghgmaaaW.PrintLast Go.Proofs.YtcffnnedghgmaaaW.PrintMore Go.Proofs.Ytcffnnedghgmaaa.A
theorem okTs_append (n : Int) (a b : List S59) (d : Int) : okTs n (a ++ b) d = (okTs n a d && okTs n b d) := by
  induction a with
  | nil => rw [List.nil_append, okTs, Bool.true_and]
  | cons s r ih => rw [List.cons_append, okTs, okTs, ih, Bool.and_assoc]
theorem prog_part {L : List S35} {a b : List S59} (h : progB L (a ++ b) = true) : progB L a = true ∧ progB L b = true := by
  unfold progB at h ⊢
  rw [okTs_append, nTs_append] at h
  simp only [Bool.and_eq_true, decide_eq_true_eq] at h ⊢
  exact ⟨⟨h.1, h.2.1, h.2.2.1.1, by omega⟩, ⟨h.1, h.2.1, h.2.2.1.2, by omega⟩⟩
theorem FnProgLess : laws_FnProgLess.Stm := by
  intro l m w1 w2
  refine Ev.rounds ?_
  have hl : ∀ x ∈ l, 0 ≤ x ∧ x ≤ 255 := fun x hx => u8_of (w1.2 x hx)
  have stop : Ev (fun k => laws_FnProgLess.j0 k l m true) true := Ev.succ_ (Ev.all_ fun k => by simp only [laws_FnProgLess.j0, if_true])
  unfold laws_FnProgLess.f
  by_cases c : (l.length : Int) > 1048576
  · simp only [c, if_true]
    exact stop
  simp only [c, if_false]
  by_cases c' : (m.length : Int) > 1048576
  · simp only [c', decide_true]
    exact stop
  simp only [c', decide_false]
  obtain ⟨L, S, e, e1, e2⟩ := drawOk_ev hl
  refine Ev.succ_ ?_
  simp only [laws_FnProgLess.j0, Bool.false_eq_true, if_false]
  have im := im_progOk L S (by omega) (by omega)
  have sp := sp_progOk L S (by omega) (by omega)
  refine Ev.bind e (Ev.bind im (Ev.bind sp ?_))
  simp only [bne_self_eq_false, Bool.false_eq_true, if_false]
  refine Ev.succ_ ?_
  cases hk : progB L S with
  | false =>
    simp only [laws_FnProgLess.j1, Bool.not_false, if_true]
    refine Ev.bind sp ?_
    rw [hk]
    exact Ev.now _
  | true =>
    have hS := nTs_length S
    have w : wrap64 ((S.length : Int) + 1) = (S.length : Int) + 1 := wr (by omega) (by omega)
    have g0 : ¬ ((S.length : Int) + 1 = 0) := by omega
    have g1 : 0 ≤ (m.length : Int) % ((S.length : Int) + 1) := Int.emod_nonneg _ (by omega)
    have g2 : (m.length : Int) % ((S.length : Int) + 1) ≤ (S.length : Int) := by have := Int.emod_lt_of_pos (m.length : Int) (show 0 < (S.length : Int) + 1 by omega); omega
    simp only [laws_FnProgLess.j1, Bool.not_true, Bool.false_eq_true, if_false, w, g0, g1, g2, if_true]
    generalize ((m.length : Int) % ((S.length : Int) + 1)).toNat = n
    have h : progB L (S.take n ++ S.drop n) = true := by rw [List.take_append_drop]; exact hk
    obtain ⟨p1, p2⟩ := prog_part h
    have hn : nTs (S.take n) + nTs (S.drop n) = nTs S := by rw [← nTs_append, List.take_append_drop]
    refine Ev.bind (im_progOk L (S.take n) (by omega) (by omega)) ?_
    rw [p1]
    simp only [if_true]
    refine Ev.bind (im_progOk L (S.drop n) (by omega) (by omega)) ?_
    rw [p2]
    exact Ev.now _
end Go.Proofs.Ytcffnnedghgmaaa.Pure
