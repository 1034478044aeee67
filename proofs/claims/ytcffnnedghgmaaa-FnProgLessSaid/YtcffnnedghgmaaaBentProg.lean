/- Plain facts: a bent program is some program, not too large. -/
import Derived.Test.YtcffnnedghgmaaaAx0
import Derived.Test.YtcffnnedghgmaaaAx6
import Derived.Test.YtcffnnedghgmaaaAx12
import Derived.Test.YtcffnnedghgmaaaAx13
import Derived.Test.YtcffnnedghgmaaaDrawProg
-- uses DrawProg
namespace Go.Proofs.Ytcffnnedghgmaaa.A
open Go.RowKit Go.Proofs.YtcffnnedghgmaaaW.PrintWords Go.Proofs.YtcffnnedghgmaaaW.PrintLast Go.Proofs.YtcffnnedghgmaaaW.PrintMore
theorem bent_l0 {b : List Int} (p : Int) (L : List S35) : ∀ (d : Nat) (S : List S59), S.length + d = 9 ∨ d = 0 ∧ 9 ≤ S.length → nTs S + d ≤ 100000 → ∃ S', Ev (fun k => spec_l71Bent.l0 k b p L S) (L, S', p) ∧ nTs S' ≤ nTs S + d := by
  intro d
  induction d with
  | zero =>
    intro S h hn
    refine ⟨S, Ev.succ_ (Ev.all_ fun k => ?_), by omega⟩
    simp only [spec_l71Bent.l0, show ¬ ((S.length : Int) ≤ 8) by omega, if_false]
  | succ d ih =>
    intro S h hn
    obtain ⟨S', e, e1⟩ := ih (S ++ [⟨3, 0, ⟨0, 0, 0⟩, 0, [], []⟩]) (Or.inl (by simp only [List.length_append, List.length_cons, List.length_nil]; omega)) (by rw [nTs_append, nTs_one]; simp only [nTs_nil]; omega)
    rw [nTs_append, nTs_one] at e1
    simp only [nTs_nil] at e1
    refine ⟨S', Ev.succ_ ?_, by omega⟩
    have g : S.length < 1466015503701 := by have := nTs_length S; omega
    simp only [spec_l71Bent.l0, show (S.length : Int) ≤ 8 by omega, g, if_true]
    exact e
theorem bent_l1 {b : List Int} (p : Int) (L : List S35) : ∀ (d i : Nat) (S : List S59), i + d = 4 → ∃ S', Ev (fun k => spec_l71Bent.l1 k (i : Int) b p L S) (L, S', p) ∧ nTs S' ≤ nTs S + d := by
  intro d
  induction d with
  | zero =>
    intro i S h
    refine ⟨S, Ev.succ_ (Ev.all_ fun k => ?_), by omega⟩
    simp only [spec_l71Bent.l1, show ¬ ((i : Int) < 4) by omega, if_false]
  | succ d ih =>
    intro i S h
    obtain ⟨S', e, e1⟩ := ih (i + 1) [⟨2, 0, ⟨0, 0, 0⟩, 0, S, []⟩] (by omega)
    rw [nTs_one] at e1
    simp only [nTs_nil] at e1
    refine ⟨S', Ev.succ_ ?_, by omega⟩
    have g : wrap64 ((i : Int) + 1) = ((i + 1 : Nat) : Int) := by rw [wr (by omega) (by omega)]; omega
    simp only [spec_l71Bent.l1, show (i : Int) < 4 by omega, g, if_true]
    exact e
theorem bent_ev {b : List Int} (hb : Code_ b) (p : Int) (hp : 0 ≤ p) (hp2 : p ≤ 500000000) (L : List S35) (S : List S59) (h1 : 1 ≤ L.length) (h4 : L.length ≤ 4) (hS : nTs S ≤ 1000) :
    ∃ L' S' q, Ev (fun k => spec_l71Bent.f k b p L S) (L', S', q) ∧ L'.length ≤ 8 ∧ nTs S' ≤ 2000 ∧ p ≤ q ∧ q ≤ p + 10 := by
  obtain ⟨r, h, a, c⟩ := pick_ev hb p 8 hp (by omega) (by omega) (by omega)
  have g0 : ([] : List S35).length + L.length < 8796093022208 := by simp; omega
  have gS : S.length < 1466015503701 := by have := nTs_length S; omega
  have cp := copy_ev S (by omega)
  have app : ∀ s : S59, nTs s.f4 + nTs s.f5 = 0 → nTs (S ++ [s]) ≤ 2000 := by
    intro s hs
    rw [nTs_append, nTs_one]
    omega
  have start : ∀ (L' : List S35) (S' : List S59) (q : Int), Ev (fun k => (if r = 0 then (if 0 < (L.length : Int) then (some ((L.set (0 : Int).toNat (⟨8, (rd_T35 L 0).f1⟩ : S35)), S, p + 1)) else (none)) else (if r = 1 then ((spec_l6Rd_pick.f k b (p + 1) 6).bind fun bt278 => (if S.length < 1466015503701 then (some (L, (S ++ [(⟨wrap64 (bt278.1 - 1), 0, (⟨0, 0, 0⟩ : S57), 0, [], []⟩ : S59)]), bt278.2)) else (none))) else (if r = 2 then (if S.length < 1466015503701 then (some (L, (S ++ [(⟨1, (L.length : Int), (⟨1, 0, 0⟩ : S57), 0, [], []⟩ : S59)]), p + 1)) else (none)) else (if r = 3 then ((spec_l6Rd_pick.f k b (p + 1) 6).bind fun bt289 => (if 0 ≤ bt289.1 then (if bt289.1 < (([1, 1, 2, 3, 0, 5] : List Int).length : Int) then ((spec_l6Rd_pick.f k b bt289.2 3).bind fun bt295 => (if 0 ≤ bt295.1 then (if bt295.1 < (([10, (-1), 4] : List Int).length : Int) then (if S.length < 1466015503701 then (some (L, (S ++ [(⟨1, 0, (⟨rd [1, 1, 2, 3, 0, 5] bt289.1, rd [10, (-1), 4] bt295.1, 0⟩ : S57), 0, [], []⟩ : S59)]), bt295.2)) else (none)) else (none)) else (none))) else (none)) else (none))) else (if r = 4 then (spec_l71Bent.l0 k b (p + 1) L S) else (if r = 5 then (spec_l71Bent.l1 k 0 b (p + 1) L S) else (if r = 6 then (if L.length + ([(⟨0, 0⟩ : S35), (⟨0, 0⟩ : S35), (⟨0, 0⟩ : S35), (⟨0, 0⟩ : S35)]).length < 8796093022208 then (some ((L ++ [(⟨0, 0⟩ : S35), (⟨0, 0⟩ : S35), (⟨0, 0⟩ : S35), (⟨0, 0⟩ : S35)]), S, p + 1)) else (none)) else (if S.length < 1466015503701 then (some (L, (S ++ [(⟨3, 0, (⟨0, 0, 0⟩ : S57), 3, [], []⟩ : S59)]), p + 1)) else (none)))))))))) (L', S', q) → Ev (fun k => spec_l71Bent.f k b p L S) (L', S', q) := by
    intro L' S' q e
    unfold spec_l71Bent.f
    simp only [Option.bind_some, g0, if_true, List.nil_append]
    exact Ev.bind cp (Ev.bind h e)
  by_cases c0 : r = 0
  · refine ⟨L.set (0 : Int).toNat (⟨8, (rd_T35 L 0).f1⟩ : S35), S, p + 1, start _ _ _ ?_, ?_, by omega, by omega, by omega⟩
    · simp only [c0, if_true, show 0 < (L.length : Int) by omega]
      exact Ev.now _
    · simp; omega
  by_cases c1 : r = 1
  · obtain ⟨r2, h2, _, _⟩ := pick_ev hb (p + 1) 6 (by omega) (by omega) (by omega) (by omega)
    refine ⟨L, S ++ [⟨wrap64 (r2 - 1), 0, ⟨0, 0, 0⟩, 0, [], []⟩], p + 1 + 1, start _ _ _ ?_, by omega, app ⟨wrap64 (r2 - 1), 0, ⟨0, 0, 0⟩, 0, [], []⟩ (by simp [nTs_nil]), by omega, by omega⟩
    simp only [c1, show ¬ (1 : Int) = 0 by omega, gS, if_true, if_false]
    exact Ev.bind h2 (Ev.now _)
  by_cases c2 : r = 2
  · refine ⟨L, S ++ [⟨1, (L.length : Int), ⟨1, 0, 0⟩, 0, [], []⟩], p + 1, start _ _ _ ?_, by omega, app ⟨1, (L.length : Int), ⟨1, 0, 0⟩, 0, [], []⟩ (by simp [nTs_nil]), by omega, by omega⟩
    simp only [c2, show ¬ (2 : Int) = 0 by omega, show ¬ (2 : Int) = 1 by omega, gS, if_true, if_false]
    exact Ev.now _
  by_cases c3 : r = 3
  · obtain ⟨r2, h2, a2, b2⟩ := pick_ev hb (p + 1) 6 (by omega) (by omega) (by omega) (by omega)
    obtain ⟨r3, h3, a3, b3⟩ := pick_ev hb (p + 1 + 1) 3 (by omega) (by omega) (by omega) (by omega)
    refine ⟨L, S ++ [⟨1, 0, ⟨rd [1, 1, 2, 3, 0, 5] r2, rd [10, (-1), 4] r3, 0⟩, 0, [], []⟩], p + 1 + 1 + 1, start _ _ _ ?_, by omega, app ⟨1, 0, ⟨rd [1, 1, 2, 3, 0, 5] r2, rd [10, (-1), 4] r3, 0⟩, 0, [], []⟩ (by simp [nTs_nil]), by omega, by omega⟩
    have d2 : r2 < (([1, 1, 2, 3, 0, 5] : List Int).length : Int) := b2
    have d3 : r3 < (([10, (-1), 4] : List Int).length : Int) := b3
    simp only [c3, show ¬ (3 : Int) = 0 by omega, show ¬ (3 : Int) = 1 by omega, show ¬ (3 : Int) = 2 by omega, if_true, if_false]
    refine Ev.bind h2 ?_
    simp only [a2, d2, if_true]
    refine Ev.bind h3 ?_
    simp only [a3, d3, gS, if_true]
    exact Ev.now _
  by_cases c4 : r = 4
  · by_cases hl : S.length ≤ 8
    · obtain ⟨S', e, e1⟩ := bent_l0 (b := b) (p + 1) L (9 - S.length) S (by omega) (by omega)
      refine ⟨L, S', p + 1, start _ _ _ ?_, by omega, by omega, by omega, by omega⟩
      simp only [c4, show ¬ (4 : Int) = 0 by omega, show ¬ (4 : Int) = 1 by omega, show ¬ (4 : Int) = 2 by omega, show ¬ (4 : Int) = 3 by omega, if_true, if_false]
      exact e
    · obtain ⟨S', e, e1⟩ := bent_l0 (b := b) (p + 1) L 0 S (by omega) (by omega)
      refine ⟨L, S', p + 1, start _ _ _ ?_, by omega, by omega, by omega, by omega⟩
      simp only [c4, show ¬ (4 : Int) = 0 by omega, show ¬ (4 : Int) = 1 by omega, show ¬ (4 : Int) = 2 by omega, show ¬ (4 : Int) = 3 by omega, if_true, if_false]
      exact e
  by_cases c5 : r = 5
  · obtain ⟨S', e, e1⟩ := bent_l1 (b := b) (p + 1) L 4 0 S (by omega)
    refine ⟨L, S', p + 1, start _ _ _ ?_, by omega, by omega, by omega, by omega⟩
    simp only [c5, show ¬ (5 : Int) = 0 by omega, show ¬ (5 : Int) = 1 by omega, show ¬ (5 : Int) = 2 by omega, show ¬ (5 : Int) = 3 by omega, show ¬ (5 : Int) = 4 by omega, if_true, if_false]
    exact e
  by_cases c6 : r = 6
  · have d : L.length + ([(⟨0, 0⟩ : S35), (⟨0, 0⟩ : S35), (⟨0, 0⟩ : S35), (⟨0, 0⟩ : S35)]).length < 8796093022208 := by simp; omega
    refine ⟨L ++ [⟨0, 0⟩, ⟨0, 0⟩, ⟨0, 0⟩, ⟨0, 0⟩], S, p + 1, start _ _ _ ?_, ?_, by omega, by omega, by omega⟩
    · simp only [c6, d, if_true]
      exact Ev.now _
    · simp; omega
  · refine ⟨L, S ++ [⟨3, 0, ⟨0, 0, 0⟩, 3, [], []⟩], p + 1, start _ _ _ ?_, by omega, app ⟨3, 0, ⟨0, 0, 0⟩, 3, [], []⟩ (by simp [nTs_nil]), by omega, by omega⟩
    simp only [c0, c1, c2, c3, c4, c5, c6, gS, if_true, if_false]
    exact Ev.now _
theorem drawOk_ev {l : List Int} (hl : ∀ x ∈ l, 0 ≤ x ∧ x ≤ 255) : ∃ L S, Ev (fun k => spec_DrawProgOk.f k l) (L, S) ∧ L.length ≤ 8 ∧ nTs S ≤ 2000 := by
  obtain ⟨b, hb, eo⟩ := open_ev hl
  obtain ⟨L, S, q, e, e1, e2, e3, e4, e5⟩ := prog_ev hb 0 (by omega) (by omega)
  obtain ⟨r, h, a, c⟩ := pick_ev hb q 2 (by omega) (by omega) (by omega) (by omega)
  by_cases c0 : r = 0
  · obtain ⟨L', S', q', f, f1, f2, f3, f4⟩ := bent_ev hb (q + 1) (by omega) (by omega) L S e1 e2 (by omega)
    refine ⟨L', S', ?_, f1, f2⟩
    unfold spec_DrawProgOk.f
    rw [eo]
    simp only [Option.bind_some]
    refine Ev.bind e (Ev.bind h ?_)
    simp only [c0, if_true]
    exact Ev.bind f (Ev.now _)
  · refine ⟨L, S, ?_, by omega, by omega⟩
    unfold spec_DrawProgOk.f
    rw [eo]
    simp only [Option.bind_some]
    refine Ev.bind e (Ev.bind h ?_)
    simp only [c0, if_false]
    exact Ev.now _
end Go.Proofs.Ytcffnnedghgmaaa.A
