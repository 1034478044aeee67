/- Plain facts on drawing: a drawn row of names is short. -/
import Derived.Test.YtcndpbegmdcelaaAx27
import Derived.Test.YtcndpbegmdcelaaAx28
import Derived.Test.YtcndpbegmdcelaaPick
-- uses Pick
namespace Go.Proofs.Ytcndpbegmdcelaa.A
open Go.RowKit Go.Proofs.YtcndpbegmdcelaaW.PrintWords Go.Proofs.YtcndpbegmdcelaaW.PrintLast Go.Proofs.YtcndpbegmdcelaaW.PrintMore
theorem row_inner (b out : List Int) (n i kk p : Int) (hl : out.length ≤ 4) {r1 r2 : List Int × Int}
    (h1 : Ev (fun k => spec_l71Row.l0 k n out (wrap64 (i + 1)) b p) r1) (h2 : Ev (fun k => spec_l71Row.l0 k n (out ++ [kk]) (wrap64 (i + 1)) b p) r2) (d : Nat) :
    ∀ (j : Nat) (s : Bool), j + d = out.length → ∃ t : Bool, Ev (fun k => spec_l71Row.l1 k n out i kk s (j : Int) b p) (if t then r1 else r2) := by
  induction d with
  | zero =>
    intro j s hj
    refine ⟨s, Ev.succ_ ?_⟩
    have c1 : ¬ ((j : Int) < (out.length : Int)) := by omega
    have c2 : out.length < 17592186044416 := by omega
    cases s
    · simp only [spec_l71Row.l1, c1, c2, if_false, if_true, Bool.false_eq_true]
      exact h2
    · simp only [spec_l71Row.l1, c1, if_false, if_true]
      exact h1
  | succ d ih =>
    intro j s hj
    have c1 : (j : Int) < (out.length : Int) := by omega
    have c2 : (0 : Int) ≤ (j : Int) := by omega
    have c3 : wrap64 ((j : Int) + 1) = ((j + 1 : Nat) : Int) := by rw [wr (by omega) (by omega)]; omega
    cases s
    · obtain ⟨t, ht⟩ := ih (j + 1) (rd out (j : Int) == kk) (by omega)
      refine ⟨t, Ev.succ_ ?_⟩
      simp only [spec_l71Row.l1, c1, c2, c3, if_false, if_true, Bool.false_eq_true]
      exact ht
    · obtain ⟨t, ht⟩ := ih (j + 1) true (by omega)
      refine ⟨t, Ev.succ_ ?_⟩
      simp only [spec_l71Row.l1, c1, c3, if_true]
      exact ht
theorem row_end {b : List Int} (hb : Code_ b) (n i p : Int) (out : List Int) (hl : out.length ≤ 3) (hp : 0 ≤ p) (hp2 : p ≤ 900000000) :
    ∃ row p', Ev (fun k => spec_l71Row.j1 k n out i false b p) (row, p') ∧ row.length ≤ 4 := by
  obtain ⟨r, hr, _, _⟩ := pick_ev hb p 16 hp (by omega) (by omega) (by omega)
  obtain ⟨q, hq, _, _⟩ := pick_ev hb (p + 1) 3 (by omega) (by omega) (by omega) (by omega)
  by_cases e : r = 0
  · refine ⟨out ++ [q], p + 1 + 1, Ev.succ_ ?_, by simp; omega⟩
    have c2 : out.length < 17592186044416 := by omega
    simp only [spec_l71Row.j1, Bool.false_eq_true, if_false]
    refine Ev.bind hr ?_
    simp only [e, if_true]
    refine Ev.bind hq ?_
    simp only [c2, if_true]
    exact Ev.now _
  · refine ⟨out, p + 1, Ev.succ_ ?_, by omega⟩
    simp only [spec_l71Row.j1, Bool.false_eq_true, if_false]
    refine Ev.bind hr ?_
    simp only [e, if_false]
    exact Ev.now _
theorem row_loop {b : List Int} (hb : Code_ b) (d : Nat) : ∀ (i : Nat) (out : List Int) (p : Int), i + d = 60 → out.length ≤ 3 → 0 ≤ p → p + (d : Int) ≤ 800000000 →
    ∃ row p', Ev (fun k => spec_l71Row.l0 k 3 out (i : Int) b p) (row, p') ∧ row.length ≤ 4 := by
  induction d with
  | zero =>
    intro i out p hi hl hp hp2
    obtain ⟨row, p', h, hr⟩ := row_end hb 3 (i : Int) p out hl hp (by omega)
    refine ⟨row, p', Ev.succ_ ?_, hr⟩
    have c1 : ¬ ((i : Int) < 60) := by omega
    simp only [spec_l71Row.l0, c1, if_false]
    exact h
  | succ d ih =>
    intro i out p hi hl hp hp2
    have c1 : (i : Int) < 60 := by omega
    have c3 : wrap64 ((i : Int) + 1) = ((i + 1 : Nat) : Int) := by rw [wr (by omega) (by omega)]; omega
    by_cases hl2 : (out.length : Int) < 3
    · obtain ⟨kk, hk, _, _⟩ := pick_ev hb p 3 hp (by omega) (by omega) (by omega)
      obtain ⟨row1, p1, g1, m1⟩ := ih (i + 1) out (p + 1) (by omega) (by omega) (by omega) (by omega)
      obtain ⟨row2, p2, g2, m2⟩ := ih (i + 1) (out ++ [kk]) (p + 1) (by omega) (by simp; omega) (by omega) (by omega)
      rw [← c3] at g1 g2
      obtain ⟨t, ht⟩ := row_inner b out 3 (i : Int) kk (p + 1) (by omega) g1 g2 out.length 0 false (by omega)
      have c2 : decide ((out.length : Int) < 3) = true := decide_eq_true hl2
      cases t
      · refine ⟨row2, p2, Ev.succ_ ?_, m2⟩
        simp only [spec_l71Row.l0, c1, c2, if_true]
        refine Ev.succ_ ?_
        simp only [spec_l71Row.j1, if_true]
        exact Ev.bind hk ht
      · refine ⟨row1, p1, Ev.succ_ ?_, m1⟩
        simp only [spec_l71Row.l0, c1, c2, if_true]
        refine Ev.succ_ ?_
        simp only [spec_l71Row.j1, if_true]
        exact Ev.bind hk ht
    · obtain ⟨row, p', h, hr⟩ := row_end hb 3 (i : Int) p out hl hp (by omega)
      have c2 : decide ((out.length : Int) < 3) = false := decide_eq_false hl2
      refine ⟨row, p', Ev.succ_ ?_, hr⟩
      simp only [spec_l71Row.l0, c1, c2, if_true]
      exact h
theorem drawTurnSet_ev {l : List Int} (hl : ∀ x ∈ l, 0 ≤ x ∧ x ≤ 255) : ∃ s row, Ev (fun k => spec_DrawTurnSet.f k l) (s, row) ∧ row.length ≤ 4 := by
  obtain ⟨b, hb, ho⟩ := open_ev hl
  obtain ⟨x, hx, _, _⟩ := pick_ev hb 0 9 (by omega) (by omega) (by omega) (by omega)
  obtain ⟨y, hy, _, _⟩ := pick_ev hb (0 + 1) 9 (by omega) (by omega) (by omega) (by omega)
  obtain ⟨row, p', hr, hm⟩ := row_loop hb 60 0 [] (0 + 1 + 1) (by omega) (by simp) (by omega) (by omega)
  refine ⟨wrap64 (x - wrap64 (Int.tdiv y 8)), row, ?_, hm⟩
  unfold spec_DrawTurnSet.f
  simp only [ho, Option.bind_some]
  exact Ev.bind hx (Ev.bind hy (Ev.bind (by simpa [spec_l71Row.f] using hr) (Ev.now _)))
end Go.Proofs.Ytcndpbegmdcelaa.A
