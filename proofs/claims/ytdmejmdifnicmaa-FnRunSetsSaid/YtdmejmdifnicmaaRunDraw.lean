/- Plain facts: what comes of a drawn program: all is set of its variables, all is told to hosts. -/
import Derived.Test.YtdmejmdifnicmaaAx0
import Derived.Test.YtdmejmdifnicmaaAx13
import Derived.Test.YtdmejmdifnicmaaAx14
import Derived.Test.YtdmejmdifnicmaaAx15
import Derived.Test.YtdmejmdifnicmaaAx16
import Derived.Test.YtdmejmdifnicmaaDrawProg
import Derived.Test.YtdmejmdifnicmaaGood
import Derived.Test.YtdmejmdifnicmaaNumsSp
-- uses DrawProg Good NumsSp
namespace Go.Proofs.Ytdmejmdifnicmaa.A
open Go.RowKit Go.Proofs.YtdmejmdifnicmaaW.PrintWords Go.Proofs.YtdmejmdifnicmaaW.PrintLast Go.Proofs.YtdmejmdifnicmaaW.PrintMore
theorem num_ev {x : S64} (l : List Int) (h : valB l.length x = true) : ∃ t, spec_l3Num.f x.f0 x.f1 x.f2 l = some t := by
  unfold valB at h
  unfold spec_l3Num.f
  by_cases h1 : x.f0 = 1
  · exact ⟨_, by rw [if_pos h1]⟩
  rw [if_neg h1] at h
  by_cases h2 : x.f0 = 2
  · rw [if_pos h2] at h
    simp only [Bool.and_eq_true] at h
    have a := var_lt h.1
    exact ⟨_, by rw [if_neg h1, if_pos h2, if_pos a.1, if_pos a.2]⟩
  rw [if_neg h2] at h
  by_cases h34 : x.f0 = 3 ∨ x.f0 = 4
  · rw [if_pos h34] at h
    simp only [Bool.and_eq_true] at h
    have a := var_lt h.1
    have b := var_lt h.2
    by_cases h3 : x.f0 = 3
    · exact ⟨_, by rw [if_neg h1, if_neg h2, if_pos h3, if_pos a.1, if_pos a.2, if_pos b.1, if_pos b.2]⟩
    · by_cases e : rd l x.f1 = rd l x.f2
      · exact ⟨_, by rw [if_neg h1, if_neg h2, if_neg h3, if_pos a.1, if_pos a.2, if_pos b.1, if_pos b.2, if_pos e]⟩
      · exact ⟨_, by rw [if_neg h1, if_neg h2, if_neg h3, if_pos a.1, if_pos a.2, if_pos b.1, if_pos b.2, if_neg e]⟩
  · rw [if_neg h34] at h
    exact absurd h (by decide)
theorem do_ev (n : Nat) : ∀ l : List S66, good n l → ∀ (a : List Int) (W : List S52) (S : List S50), a.length = n → W.length + nTs l ≤ 1048576 → S.length + nTs l ≤ 1048576 →
    ∃ a' W' S', Ev (fun k => spec_l3Do.f k l a W S) (a', W', S') ∧ a'.length = n ∧ W'.length ≤ W.length + nTs l ∧ S'.length ≤ S.length + nTs l ∧ (∀ x ∈ W', x ∈ W ∨ varB n x.f0 = true) ∧ (∀ x ∈ S', x ∈ S ∨ hostB x.f0 = true) := by
  refine tree_ind fun l ih hg a0 W0 S0 ha0 hW0 hS0 => ?_
  have hlen := nTs_length l
  have loop : ∀ (d m : Nat) (a : List Int) (W : List S52) (S : List S50), m + d = l.length → a.length = n → W.length + nTs (l.drop m) ≤ 1048576 → S.length + nTs (l.drop m) ≤ 1048576 →
      ∃ a' W' S', Ev (fun k => spec_l3Do.l0 k l (m : Int) a W S) (a', W', S') ∧ a'.length = n ∧ W'.length ≤ W.length + nTs (l.drop m) ∧ S'.length ≤ S.length + nTs (l.drop m) ∧ (∀ x ∈ W', x ∈ W ∨ varB n x.f0 = true) ∧ (∀ x ∈ S', x ∈ S ∨ hostB x.f0 = true) := by
    intro d
    induction d with
    | zero =>
      intro m a W S hm ha hW hS
      refine ⟨a, W, S, Ev.succ_ (Ev.all_ fun k => ?_), ha, by omega, by omega, fun x hx => .inl hx, fun x hx => .inl hx⟩
      have h1 : ¬ ((m : Int) < (l.length : Int)) := by omega
      simp only [spec_l3Do.l0, h1, if_false]
    | succ d ih2 =>
      intro m a W S hm ha hW hS
      have h1 : (m : Int) < (l.length : Int) := by omega
      have h2 : (0 : Int) ≤ (m : Int) := by omega
      have h4 : wrap64 ((m : Int) + 1) = ((m + 1 : Nat) : Int) := by
        rw [wr (by omega) (by omega)]; omega
      have hmem := rdS_mem (l := l) (n := m) (by omega)
      have hs := good_mem hg hmem
      obtain ⟨i4, i5⟩ := ih _ hmem
      rw [rdS_drop (l := l) (n := m) (by omega), nTs_cons] at hW hS ⊢
      have hv := var_lt hs.1.1
      have hv2 : (rd_T66 l (m : Int)).f1 < (a.length : Int) := by omega
      generalize hR : rd_T66 l (m : Int) = s at *
      by_cases k1 : s.f0 = 1
      · obtain ⟨t, et⟩ := num_ev a (x := s.f2) (by rw [ha]; exact hs.1.2.1 k1)
        obtain ⟨a', W', S', e, e1, e2, e3, e4, e5⟩ := ih2 (m + 1) (a.set s.f1.toNat t) (W ++ [⟨s.f1, t⟩]) S (by omega) (by simp; exact ha) (by simp only [List.length_append, List.length_cons, List.length_nil]; omega) (by omega)
        refine ⟨a', W', S', Ev.succ_ ?_, e1, by simp only [List.length_append, List.length_cons, List.length_nil] at e2; omega, by omega, ?_, e5⟩
        · have g : W.length < 8796093022208 := by omega
          simp only [spec_l3Do.l0, h1, h2, h4, hR, k1, et, hv.1, hv2, g, if_true, Option.bind_some]
          exact e
        · intro x hx
          rcases e4 x hx with h | h
          · rcases List.mem_append.1 h with h | h
            · exact .inl h
            · rw [List.mem_singleton] at h; subst h; exact .inr hs.1.1
          · exact .inr h
      · by_cases k3 : s.f0 = 3
        · obtain ⟨a', W', S', e, e1, e2, e3, e4, e5⟩ := ih2 (m + 1) a W (S ++ [⟨s.f3, rd a s.f1⟩]) (by omega) ha (by omega) (by simp only [List.length_append, List.length_cons, List.length_nil]; omega)
          refine ⟨a', W', S', Ev.succ_ ?_, e1, by omega, by simp only [List.length_append, List.length_cons, List.length_nil] at e3; omega, e4, ?_⟩
          · have g : S.length < 8796093022208 := by omega
            simp only [spec_l3Do.l0, h1, h2, h4, hR, k3, show ¬ (3 : Int) = 1 by omega, hv.1, hv2, g, if_true, if_false]
            exact e
          · intro x hx
            rcases e5 x hx with h | h
            · rcases List.mem_append.1 h with h | h
              · exact .inl h
              · rw [List.mem_singleton] at h; subst h; exact .inr (hs.1.2.2 k3)
            · exact .inr h
        · by_cases z : rd a s.f1 = 0
          · obtain ⟨b, X, Y, f, f1, f2, f3, f4, f5⟩ := i5 hs.2.2 a W S ha (by omega) (by omega)
            obtain ⟨a', W', S', e, e1, e2, e3, e4, e5⟩ := ih2 (m + 1) b X Y (by omega) f1 (by omega) (by omega)
            refine ⟨a', W', S', Ev.succ_ ?_, e1, by omega, by omega, fun x hx => (e4 x hx).elim (f4 x) .inr, fun x hx => (e5 x hx).elim (f5 x) .inr⟩
            simp only [spec_l3Do.l0, h1, h2, h4, hR, k1, k3, z, hv.1, hv2, if_true, if_false]
            exact Ev.bind f e
          · obtain ⟨b, X, Y, f, f1, f2, f3, f4, f5⟩ := i4 hs.2.1 a W S ha (by omega) (by omega)
            obtain ⟨a', W', S', e, e1, e2, e3, e4, e5⟩ := ih2 (m + 1) b X Y (by omega) f1 (by omega) (by omega)
            refine ⟨a', W', S', Ev.succ_ ?_, e1, by omega, by omega, fun x hx => (e4 x hx).elim (f4 x) .inr, fun x hx => (e5 x hx).elim (f5 x) .inr⟩
            simp only [spec_l3Do.l0, h1, h2, h4, hR, k1, k3, z, hv.1, hv2, if_true, if_false]
            exact Ev.bind f e
  obtain ⟨a', W', S', e, r⟩ := loop l.length 0 a0 W0 S0 (by omega) ha0 (by rw [List.drop_zero]; exact hW0) (by rw [List.drop_zero]; exact hS0)
  rw [List.drop_zero] at r
  refine ⟨a', W', S', Ev.succ_ ?_, r⟩
  simp only [spec_l3Do.f]
  exact e
theorem nums_ev {b : List Int} (hb : Code_ b) (L : List S57) (St : List S66) (hL : L.length ≤ 10) (p : Int) (hp : 0 ≤ p) (hp2 : p ≤ 500000000) :
    ∃ ns q, Ev (fun k => spec_l71Nums.f k b p L St) (ns, q) ∧ ns.length ≤ 11 ∧ p ≤ q ∧ q ≤ p + 20 := by
  have loop : ∀ (d i : Nat) (acc : List Int) (p' : Int), i + d = L.length → acc.length = i → p ≤ p' → p' ≤ p + i → ∃ ns q, Ev (fun k => spec_l71Nums.l0 k acc (i : Int) b p' L St) (ns, q) ∧ ns.length ≤ 11 ∧ p ≤ q ∧ q ≤ p + 20 := by
    intro d
    induction d with
    | zero =>
      intro i acc p' hi ha h1 h2
      have g : ¬ ((i : Int) < (L.length : Int)) := by omega
      have g2 : acc.length < 17592186044416 := by omega
      obtain ⟨r, h, _, _⟩ := pick_ev hb p' 20 (by omega) (by omega) (by omega) (by omega)
      by_cases c0 : r = 0
      · refine ⟨acc ++ [0], p' + 1, Ev.succ_ ?_, by simp; omega, by omega, by omega⟩
        simp only [spec_l71Nums.l0, g, if_false]
        refine Ev.bind h ?_
        simp only [c0, g2, if_true]
        exact Ev.now _
      by_cases c1 : r = 1
      · by_cases e : (acc.length : Int) > 0
        · obtain ⟨r2, h2', a2, b2⟩ := pick_ev hb (p' + 1) 2 (by omega) (by omega) (by omega) (by omega)
          have d2 : r2 < (([(-1), 10] : List Int).length : Int) := b2
          refine ⟨acc.set (0 : Int).toNat (rd [(-1), 10] r2), p' + 1 + 1, Ev.succ_ ?_, by simp; omega, by omega, by omega⟩
          simp only [spec_l71Nums.l0, g, if_false]
          refine Ev.bind h ?_
          simp only [c1, e, if_true, Option.bind_some, show ¬ (1 : Int) = 0 by omega, if_false]
          refine Ev.bind h2' ?_
          simp only [a2, d2, if_true]
          exact Ev.now _
        · refine ⟨acc, p' + 1, Ev.succ_ ?_, by omega, by omega, by omega⟩
          simp only [spec_l71Nums.l0, g, if_false]
          refine Ev.bind h ?_
          simp only [c1, e, if_true, show ¬ (1 : Int) = 0 by omega, if_false]
          exact Ev.now _
      · refine ⟨acc, p' + 1, Ev.succ_ ?_, by omega, by omega, by omega⟩
        simp only [spec_l71Nums.l0, g, if_false]
        refine Ev.bind h ?_
        simp only [c0, c1, if_false]
        exact Ev.now _
    | succ d ih =>
      intro i acc p' hi ha h1 h2
      have g : (i : Int) < (L.length : Int) := by omega
      have g2 : acc.length < 17592186044416 := by omega
      have g3 : wrap64 ((i : Int) + 1) = ((i + 1 : Nat) : Int) := by rw [wr (by omega) (by omega)]; omega
      obtain ⟨r, h, a2, b2⟩ := pick_ev hb p' 6 (by omega) (by omega) (by omega) (by omega)
      have d2 : r < (([0, 0, 1, 2, 5, 9] : List Int).length : Int) := b2
      obtain ⟨ns, q, e, e1, e2, e3⟩ := ih (i + 1) (acc ++ [rd [0, 0, 1, 2, 5, 9] r]) (p' + 1) (by omega) (by simp; exact ha) (by omega) (by omega)
      refine ⟨ns, q, Ev.succ_ ?_, e1, e2, e3⟩
      simp only [spec_l71Nums.l0, g, if_true, Option.bind_some]
      refine Ev.bind h ?_
      simp only [a2, d2, g2, g3, if_true]
      exact e
  exact loop L.length 0 [] p (by omega) rfl (by omega) (by omega)
theorem run_ev (L : List S57) (St : List S66) (ns : List Int) (h1 : L.length ≤ 1000) (h2 : nTs St ≤ 1000) (h3 : ns.length ≤ 1000) :
    ∃ a W S ok, Ev (fun k => spec_RunOf.f k L St ns) (a, W, S, ok) ∧ W.length ≤ 1000 ∧ S.length ≤ 1000 ∧ (∀ x ∈ W, varB L.length x.f0 = true) ∧ (∀ x ∈ S, hostB x.f0 = true) := by
  have sp := sp_numsOk L St ns (by omega) (by omega) (by omega)
  cases hk : (ns.all numB && (progB L St && decide (ns.length = L.length))) with
  | false =>
    rw [hk] at sp
    refine ⟨[], [], [], false, ?_, by simp, by simp, by simp, by simp⟩
    unfold spec_RunOf.f
    refine Ev.bind sp ?_
    simp only [Bool.false_eq_true, if_false]
    exact Ev.now _
  | true =>
    rw [hk] at sp
    simp only [Bool.and_eq_true, decide_eq_true_eq] at hk
    have hp := hk.2.1
    unfold progB at hp
    simp only [Bool.and_eq_true] at hp
    obtain ⟨a, W, S, e, e1, e2, e3, e4, e5⟩ := do_ev L.length St ⟨3, hp.2.2.1⟩ ns [] [] hk.2.2 (by simp; omega) (by simp; omega)
    simp only [List.length_nil] at e2 e3
    refine ⟨a, W, S, true, ?_, by omega, by omega, fun x hx => (e4 x hx).elim (fun h => absurd h (by simp)) id, fun x hx => (e5 x hx).elim (fun h => absurd h (by simp)) id⟩
    unfold spec_RunOf.f
    refine Ev.bind sp ?_
    simp only [if_true, Option.bind_some, show ([] : List Int).length + ns.length < 17592186044416 by simp; omega, List.nil_append]
    exact Ev.bind e (Ev.now _)
end Go.Proofs.Ytdmejmdifnicmaa.A
