/- The law FnRunSets: all that is set is of some variables, or others; without conditions. -/
import Derived.Test.YtdmejmdifnicmaaAx0
import Derived.Test.YtdmejmdifnicmaaAx20
import Derived.Test.YtdmejmdifnicmaaAx21
import Derived.Test.YtdmejmdifnicmaaAx23
import Derived.Test.YtdmejmdifnicmaaStmFnRunSets
import Derived.Test.YtdmejmdifnicmaaRunDraw
import Derived.Test.YtdmejmdifnicmaaRunSets
-- uses StmFnRunSets RunDraw RunSets
namespace Go.Proofs.Ytdmejmdifnicmaa.Pure
open Go.RowKit Go.Proofs.YtdmejmdifnicmaaW.PrintWords Go.Proofs.YtdmejmdifnicmaaW.PrintLast Go.Proofs.YtdmejmdifnicmaaW.PrintMore Go.Proofs.Ytdmejmdifnicmaa.A
theorem lcWrites_ev (l : List S52) (hl : l.length ≤ 1048576) : Ev (fun k => laws_lcWrites.f k l l) true := by
  have loop : ∀ (d n : Nat), n + d = l.length → Ev (fun k => laws_lcWrites.l0 k l l (n : Int)) true := by
    intro d
    induction d with
    | zero =>
      intro n hn
      refine Ev.succ_ (Ev.all_ fun k => ?_)
      simp only [laws_lcWrites.l0, show ¬ ((n : Int) < (l.length : Int)) by omega, if_false]
    | succ d ih =>
      intro n hn
      refine Ev.succ_ ?_
      have h4 : wrap64 ((n : Int) + 1) = ((n + 1 : Nat) : Int) := by rw [wr (by omega) (by omega)]; omega
      simp only [laws_lcWrites.l0, show (n : Int) < (l.length : Int) by omega, show (0 : Int) ≤ (n : Int) by omega, h4, if_true, beq_self_eq_true, Bool.not_true, Bool.or_false, Bool.false_eq_true, if_false]
      exact ih (n + 1) (by omega)
  simp only [laws_lcWrites.f, if_true]
  exact loop l.length 0 (by omega)
theorem drawSets_ev {l : List Int} (hl : ∀ x ∈ l, 0 ≤ x ∧ x ≤ 255) : ∃ a W S vs, Ev (fun k => spec_DrawRunSets.f k l) (a, W, S, vs) ∧ W.length ≤ 1000 ∧ vs.length ≤ 1000 ∧ (∀ x ∈ W, varB vs.length x.f0 = true) := by
  obtain ⟨b, hb, eo⟩ := open_ev hl
  obtain ⟨L, St, q, e, e1, e2, e3, e4, e5⟩ := prog_ev hb 0 (by omega) (by omega)
  obtain ⟨ns, q2, f, f1, f2, f3⟩ := nums_ev hb L St (by omega) q (by omega) (by omega)
  obtain ⟨a, W, S, ok, g, g1, g2, g3, g4⟩ := run_ev L St ns (by omega) (by omega) (by omega)
  have loop : ∀ (d i : Nat) (acc : List Bool) (p : Int), i + d = L.length → acc.length = i → 0 ≤ p → p ≤ q2 + (i : Int) → ∃ vs, Ev (fun k => spec_DrawRunSets.l0 k acc (i : Int) b p L St a W S) (a, W, S, vs) ∧ vs.length = L.length := by
    intro d
    induction d with
    | zero =>
      intro i acc p hi ha hp hp2
      refine ⟨acc, Ev.succ_ (Ev.all_ fun k => ?_), by omega⟩
      have g1 : ¬ ((i : Int) < (L.length : Int)) := by rw [← hi]; simp
      simp only [spec_DrawRunSets.l0, g1, if_false]
    | succ d ih =>
      intro i acc p hi ha hp hp2
      obtain ⟨r, h, _, _⟩ := pick_ev hb p 2 hp (by omega) (by omega) (by omega)
      obtain ⟨vs, m, m1⟩ := ih (i + 1) (acc ++ [(r == 0)]) (p + 1) (by omega) (by simp; exact ha) (by omega) (by omega)
      refine ⟨vs, Ev.succ_ ?_, m1⟩
      have h4 : wrap64 ((i : Int) + 1) = ((i + 1 : Nat) : Int) := by rw [wr (by omega) (by omega)]; omega
      have g1 : (i : Int) < (L.length : Int) := Int.ofNat_lt.2 (by rw [← hi]; exact Nat.lt_add_of_pos_right (Nat.succ_pos d))
      have g2 : acc.length < 140737488355328 := by rw [ha]; exact Nat.lt_of_lt_of_le (Int.ofNat_lt.1 g1) (Nat.le_trans e2 (by decide))
      simp only [spec_DrawRunSets.l0, g1, if_true]
      refine Ev.bind h ?_
      simp only [g2, h4, if_true]
      exact m
  obtain ⟨vs, m, m1⟩ := loop L.length 0 [] q2 (by omega) rfl (by omega) (by omega)
  refine ⟨a, W, S, vs, ?_, g1, by omega, by rw [m1]; exact g3⟩
  unfold spec_DrawRunSets.f
  rw [eo]
  simp only [Option.bind_some]
  exact Ev.bind e (Ev.bind f (Ev.bind g m))
theorem rdOf_not (vs : List Bool) (i : Int) (h0 : 0 ≤ i) (h1 : i < (vs.length : Int)) : rdOf false (vs.map (fun x => !x)) i = !rdOf false vs i := by
  have hi : i.toNat < vs.length := by omega
  simp only [rdOf, List.getD_eq_getElem?_getD, List.getElem?_map, List.getElem?_eq_getElem hi, Option.map_some, Option.getD_some]
theorem set_parts (vs : List Bool) (l : List S52) (h : ∀ x ∈ l, varB vs.length x.f0 = true) : (setOf vs l).length + (setOf (vs.map (fun x => !x)) l).length = l.length := by
  induction l with
  | nil => rfl
  | cons s r ih =>
    have i := ih fun x hx => h x (List.mem_cons_of_mem _ hx)
    have v := var_lt (h s List.mem_cons_self)
    have n := rdOf_not vs s.f0 v.1 v.2
    cases c : rdOf false vs s.f0 with
    | true => rw [c] at n; simp [setOf, v.1, v.2, c, n]; omega
    | false => rw [c] at n; simp [setOf, v.1, v.2, c, n]; omega
theorem set_none (l : List S52) : setOf [] l = [] := by
  induction l with
  | nil => rfl
  | cons s r ih =>
    rw [setOf, ih, if_neg]
    intro h
    have := h.2.1
    simp at this
    omega
theorem FnRunSets : laws_FnRunSets.Stm := by
  intro l w
  refine Ev.rounds ?_
  have hl : ∀ x ∈ l, 0 ≤ x ∧ x ≤ 255 := fun x hx => u8_of (w.2 x hx)
  unfold laws_FnRunSets.f
  by_cases c : (l.length : Int) > 1048576
  · simp only [c, if_true]
    exact Ev.now _
  simp only [c, if_false]
  obtain ⟨a, W, S, vs, e, e1, e2, e3⟩ := drawSets_ev hl
  have hlen := setOf_length vs W
  refine Ev.bind e (Ev.bind (im_runSets a W S vs (by omega) (by omega)) (Ev.bind (sp_runSets a W S vs (by omega) (by omega)) (Ev.bind (lcWrites_ev _ (by omega)) ?_)))
  simp only [if_true]
  have t := set_parts vs W e3
  have loop : ∀ (d n : Nat), n + d = vs.length → Ev (fun k => laws_FnRunSets.l0 k vs (setOf vs W) ((vs.map (fun x => !x)).take n) (n : Int) a W S) true := by
    intro d
    induction d with
    | zero =>
      intro n hn
      refine Ev.succ_ ?_
      have et : (vs.map (fun x => !x)).take n = vs.map (fun x => !x) := List.take_of_length_le (by simp; omega)
      simp only [laws_FnRunSets.l0, show ¬ ((n : Int) < (vs.length : Int)) by omega, if_false, et]
      refine Ev.bind (im_runSets a W S (vs.map (fun x => !x)) (by simp; omega) (by omega)) ?_
      have w1 : wrap64 (((setOf vs W).length : Int) + ((setOf (vs.map (fun x => !x)) W).length : Int)) = (W.length : Int) := by rw [wr (by omega) (by omega)]; omega
      simp only [w1, if_true]
      refine Ev.bind (im_runSets a W S [] (by simp) (by omega)) ?_
      rw [set_none]
      exact Ev.now _
    | succ d ih =>
      intro n hn
      refine Ev.succ_ ?_
      have h4 : wrap64 ((n : Int) + 1) = ((n + 1 : Nat) : Int) := by rw [wr (by omega) (by omega)]; omega
      have hn' : n < vs.length := by omega
      have et : (vs.map (fun x => !x)).take n ++ [!(rdOf false vs (n : Int))] = (vs.map (fun x => !x)).take (n + 1) := by
        rw [List.take_succ_eq_append_getElem (by simpa using hn')]
        simp [rdOf, List.getD_eq_getElem?_getD, List.getElem?_eq_getElem hn']
      have g : ((vs.map (fun x => !x)).take n).length < 140737488355328 := by rw [List.length_take]; omega
      simp only [laws_FnRunSets.l0, show (n : Int) < (vs.length : Int) by omega, show (0 : Int) ≤ (n : Int) by omega, g, h4, if_true, et]
      exact ih (n + 1) (by omega)
  simpa using loop vs.length 0 (by omega)
end Go.Proofs.Ytdmejmdifnicmaa.Pure
