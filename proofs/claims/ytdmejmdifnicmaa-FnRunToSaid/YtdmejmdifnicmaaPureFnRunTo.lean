/- The law FnRunTo: all that is told is told to hosts; without conditions. -/
import Derived.Test.YtdmejmdifnicmaaAx0
import Derived.Test.YtdmejmdifnicmaaAx17
import Derived.Test.YtdmejmdifnicmaaAx18
import Derived.Test.YtdmejmdifnicmaaAx19
import Derived.Test.YtdmejmdifnicmaaStmFnRunTo
import Derived.Test.YtdmejmdifnicmaaRunDraw
import Derived.Test.YtdmejmdifnicmaaRunTo
-- uses StmFnRunTo RunDraw RunTo
namespace Go.Proofs.Ytdmejmdifnicmaa.Pure
open Go.RowKit Go.Proofs.YtdmejmdifnicmaaW.PrintWords Go.Proofs.YtdmejmdifnicmaaW.PrintLast Go.Proofs.YtdmejmdifnicmaaW.PrintMore Go.Proofs.Ytdmejmdifnicmaa.A
theorem lcInts_ev (l : List Int) (hl : l.length ≤ 1048576) : Ev (fun k => laws_lcInts.f k l l) true := by
  have loop : ∀ (d n : Nat), n + d = l.length → Ev (fun k => laws_lcInts.l0 k l l (n : Int)) true := by
    intro d
    induction d with
    | zero =>
      intro n hn
      refine Ev.succ_ (Ev.all_ fun k => ?_)
      simp only [laws_lcInts.l0, show ¬ ((n : Int) < (l.length : Int)) by omega, if_false]
    | succ d ih =>
      intro n hn
      refine Ev.succ_ ?_
      have h4 : wrap64 ((n : Int) + 1) = ((n + 1 : Nat) : Int) := by rw [wr (by omega) (by omega)]; omega
      simp only [laws_lcInts.l0, show (n : Int) < (l.length : Int) by omega, show (0 : Int) ≤ (n : Int) by omega, h4, if_true]
      exact ih (n + 1) (by omega)
  simp only [laws_lcInts.f, if_true]
  exact loop l.length 0 (by omega)
theorem drawTo_ev {l : List Int} (hl : ∀ x ∈ l, 0 ≤ x ∧ x ≤ 255) : ∃ a W S h, Ev (fun k => spec_DrawRunTo.f k l) (a, W, S, h) ∧ S.length ≤ 2000 ∧ (∀ x ∈ S, hostB x.f0 = true) := by
  obtain ⟨b, hb, eo⟩ := open_ev hl
  obtain ⟨L, St, q, e, e1, e2, e3, e4, e5⟩ := prog_ev hb 0 (by omega) (by omega)
  obtain ⟨ns, q2, f, f1, f2, f3⟩ := nums_ev hb L St (by omega) q (by omega) (by omega)
  obtain ⟨a, W, S, ok, g, g1, g2, g3, g4⟩ := run_ev L St ns (by omega) (by omega) (by omega)
  obtain ⟨r, hr, r1, r2⟩ := pick_ev hb q2 4 (by omega) (by omega) (by omega) (by omega)
  have loop : ∀ (c : Nat) (p : Int) (S : List S50), c ≤ 4 → 0 ≤ p → p ≤ 600000000 - 2 * c → S.length + c ≤ 2000 → (∀ x ∈ S, hostB x.f0 = true) → ∃ S' h, Ev (fun k => spec_DrawRunTo.l0 k (c : Int) b p a W S) (a, W, S', h) ∧ S'.length ≤ 2000 ∧ (∀ x ∈ S', hostB x.f0 = true) := by
    intro c
    induction c with
    | zero =>
      intro p S _ hp hp2 hS hh
      obtain ⟨z, hz, _, _⟩ := pick_ev hb p 5 hp (by omega) (by omega) (by omega)
      refine ⟨S, wrap64 (z - 1), Ev.succ_ ?_, by omega, hh⟩
      simp only [spec_DrawRunTo.l0, show ¬ (((0 : Nat) : Int) > 0) by omega, if_false]
      exact Ev.bind hz (Ev.now _)
    | succ c ih =>
      intro p S hc hp hp2 hS hh
      obtain ⟨u, hu, u1, u2⟩ := pick_ev hb p 3 hp (by omega) (by omega) (by omega)
      obtain ⟨v, hv, _, _⟩ := pick_ev hb (p + 1) 10 (by omega) (by omega) (by omega) (by omega)
      have hh' : ∀ x ∈ S ++ [⟨u, v⟩], hostB x.f0 = true := by
        intro x hx
        rcases List.mem_append.1 hx with h | h
        · exact hh x h
        · rw [List.mem_singleton] at h; subst h
          unfold hostB
          simp only [Bool.and_eq_true, decide_eq_true_eq]
          omega
      obtain ⟨S', h, e, e1, e2⟩ := ih (p + 1 + 1) (S ++ [⟨u, v⟩]) (by omega) (by omega) (by omega) (by simp only [List.length_append, List.length_cons, List.length_nil]; omega) hh'
      refine ⟨S', h, Ev.succ_ ?_, e1, e2⟩
      have g3 : wrap64 (((c + 1 : Nat) : Int) - 1) = ((c : Nat) : Int) := by rw [wr (by omega) (by omega)]; omega
      simp only [spec_DrawRunTo.l0, show ((c + 1 : Nat) : Int) > 0 by omega, g3, if_true]
      refine Ev.bind hu (Ev.bind hv ?_)
      simp only [show S.length < 8796093022208 by omega, if_true]
      exact e
  obtain ⟨S', h, m, m1, m2⟩ := loop r.toNat (q2 + 1) S (by omega) (by omega) (by omega) (by omega) g4
  refine ⟨a, W, S', h, ?_, m1, m2⟩
  unfold spec_DrawRunTo.f
  rw [eo]
  simp only [Option.bind_some]
  refine Ev.bind e (Ev.bind f (Ev.bind g (Ev.bind hr ?_)))
  rw [show ((r.toNat : Nat) : Int) = r by omega] at m
  exact m
theorem told_all (l : List S50) (h : ∀ x ∈ l, hostB x.f0 = true) : (toldTo 0 l).length + (toldTo 1 l).length + (toldTo 2 l).length = l.length := by
  induction l with
  | nil => rfl
  | cons s r ih =>
    have i := ih fun x hx => h x (List.mem_cons_of_mem _ hx)
    have hs := h s List.mem_cons_self
    unfold hostB at hs
    simp only [Bool.and_eq_true, decide_eq_true_eq] at hs
    have c : s.f0 = 0 ∨ s.f0 = 1 ∨ s.f0 = 2 := by omega
    rcases c with c | c | c <;> simp [toldTo, c] <;> omega
theorem FnRunTo : laws_FnRunTo.Stm := by
  intro l w
  refine Ev.rounds ?_
  have hl : ∀ x ∈ l, 0 ≤ x ∧ x ≤ 255 := fun x hx => u8_of (w.2 x hx)
  unfold laws_FnRunTo.f
  by_cases c : (l.length : Int) > 1048576
  · simp only [c, if_true]
    exact Ev.now _
  simp only [c, if_false]
  obtain ⟨a, W, S, h, e, e1, e2⟩ := drawTo_ev hl
  have hlen := toldTo_length h S
  refine Ev.bind e (Ev.bind (im_runTo a W S h (by omega)) (Ev.bind (sp_runTo a W S h (by omega)) (Ev.bind (lcInts_ev _ (by omega)) ?_)))
  simp only [if_true]
  have t := told_all S e2
  have im := fun q => im_runTo a W S q (by omega)
  have w0 : wrap64 (0 + ((toldTo 0 S).length : Int)) = ((toldTo 0 S).length : Int) := by rw [wr (by omega) (by omega)]; omega
  have w1 : wrap64 (((toldTo 0 S).length : Int) + ((toldTo 1 S).length : Int)) = ((toldTo 0 S).length : Int) + ((toldTo 1 S).length : Int) := wr (by omega) (by omega)
  have w2 : wrap64 (((toldTo 0 S).length : Int) + ((toldTo 1 S).length : Int) + ((toldTo 2 S).length : Int)) = (S.length : Int) := by rw [wr (by omega) (by omega)]; omega
  refine Ev.succ_ ?_
  simp only [laws_FnRunTo.l0, show (0 : Int) < 3 by omega, if_true]
  refine Ev.bind (im 0) ?_
  simp only [w0, show wrap64 (0 + 1) = 1 by rw [wr (by omega) (by omega)]; rfl]
  refine Ev.succ_ ?_
  simp only [laws_FnRunTo.l0, show (1 : Int) < 3 by omega, if_true]
  refine Ev.bind (im 1) ?_
  simp only [w1, show wrap64 (1 + 1) = 2 by rw [wr (by omega) (by omega)]; rfl]
  refine Ev.succ_ ?_
  simp only [laws_FnRunTo.l0, show (2 : Int) < 3 by omega, if_true]
  refine Ev.bind (im 2) ?_
  simp only [w2, show wrap64 (2 + 1) = 3 by rw [wr (by omega) (by omega)]; rfl]
  refine Ev.succ_ ?_
  simp only [laws_FnRunTo.l0, show ¬ (3 : Int) < 3 by omega, if_false, beq_self_eq_true]
  exact Ev.now _
end Go.Proofs.Ytdmejmdifnicmaa.Pure
