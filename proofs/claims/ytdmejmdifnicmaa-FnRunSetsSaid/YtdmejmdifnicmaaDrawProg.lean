/- Plain facts: a drawn program is some program, not too large. -/
import Derived.Test.YtdmejmdifnicmaaAx0
import Derived.Test.YtdmejmdifnicmaaAx5
import Derived.Test.YtdmejmdifnicmaaAx6
import Derived.Test.YtdmejmdifnicmaaAx12
import Derived.Test.YtdmejmdifnicmaaProgB
import Derived.Test.YtdmejmdifnicmaaPick
import Derived.Test.YtdmejmdifnicmaaDrawL
-- uses ProgB Pick DrawL
namespace Go.Proofs.Ytdmejmdifnicmaa.A
open Go.RowKit Go.Proofs.YtdmejmdifnicmaaW.PrintWords Go.Proofs.YtdmejmdifnicmaaW.PrintLast Go.Proofs.YtdmejmdifnicmaaW.PrintMore
theorem nTs_append (a b : List S66) : nTs (a ++ b) = nTs a + nTs b := by
  induction a with
  | nil => rw [List.nil_append, nTs_nil]; omega
  | cons s r ih => rw [List.cons_append, nTs_cons, nTs_cons, ih]; omega
theorem nTs_one (s : S66) : nTs [s] = 1 + (nTs s.f4 + nTs s.f5) := by rw [nTs_cons, nTs_nil]; omega
theorem val_ev {b : List Int} (hb : Code_ b) (p n : Int) (hp : 0 ≤ p) (hp2 : p ≤ 900000000) (hn : 1 ≤ n) (hn2 : n ≤ 1000) :
    ∃ x y z q, Ev (fun k => spec_l71Val.f k b p n) (x, y, z, q) ∧ p ≤ q ∧ q ≤ p + 3 := by
  obtain ⟨r, h, a, c⟩ := pick_ev hb p 5 hp (by omega) (by omega) (by omega)
  by_cases h0 : r = 0
  · obtain ⟨r1, h1, _, _⟩ := pick_ev hb (p + 1) 10 (by omega) (by omega) (by omega) (by omega)
    refine ⟨1, r1, 0, p + 1 + 1, ?_, by omega, by omega⟩
    unfold spec_l71Val.f
    refine Ev.bind h ?_
    simp only [h0, if_true]
    exact Ev.bind h1 (Ev.now _)
  · obtain ⟨r1, h1, _, _⟩ := pick_ev hb (p + 1) n (by omega) (by omega) hn (by omega)
    obtain ⟨r2, h2, _, _⟩ := pick_ev hb (p + 1 + 1) n (by omega) (by omega) hn (by omega)
    by_cases h12 : r = 1 ∨ r = 2
    · refine ⟨2, r1, 0, p + 1 + 1, ?_, by omega, by omega⟩
      unfold spec_l71Val.f
      refine Ev.bind h ?_
      simp only [h0, if_false]
      rcases h12 with e | e
      · simp only [e, if_true, beq_self_eq_true]
        refine Ev.succ_ ?_
        simp only [spec_l71Val.j0, if_true]
        exact Ev.bind h1 (Ev.now _)
      · simp only [e, show ¬ (2 : Int) = 1 by omega, if_false, beq_self_eq_true]
        refine Ev.succ_ ?_
        simp only [spec_l71Val.j0, if_true]
        exact Ev.bind h1 (Ev.now _)
    · have n1 : ¬ r = 1 := by omega
      have n2 : (r == 2) = false := by simp; omega
      by_cases h3 : r = 3
      · refine ⟨3, r1, r2, p + 1 + 1 + 1, ?_, by omega, by omega⟩
        unfold spec_l71Val.f
        refine Ev.bind h ?_
        simp only [h0, n1, n2, if_false]
        refine Ev.succ_ ?_
        simp only [spec_l71Val.j0, h3, Bool.false_eq_true, if_false, if_true]
        exact Ev.bind h1 (Ev.bind h2 (Ev.now _))
      · refine ⟨4, r1, r2, p + 1 + 1 + 1, ?_, by omega, by omega⟩
        unfold spec_l71Val.f
        refine Ev.bind h ?_
        simp only [h0, n1, n2, if_false]
        refine Ev.succ_ ?_
        simp only [spec_l71Val.j0, h3, Bool.false_eq_true, if_false]
        exact Ev.bind h1 (Ev.bind h2 (Ev.now _))
theorem steps_loop {b : List Int} (hb : Code_ b) (n : Int) (hn : 1 ≤ n) (hn2 : n ≤ 1000) (deep : Int) (hd0 : 0 ≤ deep) (hd : deep ≤ 10) (B C X : Nat) (Y G : Int) (hX : X ≤ 1000000) (hG : G ≤ 800000000) (hY : Y ≤ G)
    (sub : deep > 1 → ∀ p : Int, 0 ≤ p → p ≤ G → ∃ l q, Ev (fun k => spec_l71Steps.f k b p 2 (deep - 1) n) (l, q) ∧ nTs l ≤ B ∧ p ≤ q ∧ q ≤ p + (C : Int)) :
    ∀ (c : Nat) (acc : List S66) (p : Int), c ≤ 1000 → nTs acc + c * (1 + 2 * B) ≤ X → 0 ≤ p → p + ((c * (5 + 2 * C) : Nat) : Int) ≤ Y → ∃ l q, Ev (fun k => spec_l71Steps.l0 k deep n acc (c : Int) b p) (l, q) ∧ nTs l ≤ X ∧ p ≤ q ∧ q ≤ Y := by
  intro c
  induction c with
  | zero =>
    intro acc p hc hx hp hy
    refine ⟨acc, p, Ev.succ_ (Ev.all_ fun k => ?_), by omega, by omega, by omega⟩
    simp only [spec_l71Steps.l0, show ¬ (((0 : Nat) : Int) > 0) by omega, if_false]
  | succ c ih =>
    intro acc p hc hx hp hy
    rw [Nat.succ_mul] at hx hy
    have hlen := nTs_length acc
    have g1 : ((c + 1 : Nat) : Int) > 0 := by omega
    have g2 : acc.length < 1466015503701 := by omega
    have g3 : wrap64 (((c + 1 : Nat) : Int) - 1) = ((c : Nat) : Int) := by rw [wr (by omega) (by omega)]; omega
    have g4 : wrap64 (deep - 1) = deep - 1 := wr (by omega) (by omega)
    -- one more step at hand: the rest
    have go : ∀ (s : S66) (q : Int), nTs s.f4 + nTs s.f5 ≤ 2 * B → p ≤ q → q ≤ p + ((5 + 2 * C : Nat) : Int) → ∃ l q', Ev (fun k => spec_l71Steps.l0 k deep n (acc ++ [s]) (c : Int) b q) (l, q') ∧ nTs l ≤ X ∧ p ≤ q' ∧ q' ≤ Y := by
      intro s q hs hq1 hq2
      obtain ⟨l, q', e, a1, a2, a3⟩ := ih (acc ++ [s]) q (by omega) (by rw [nTs_append, nTs_one]; omega) (by omega) (by omega)
      exact ⟨l, q', e, a1, by omega, a3⟩
    obtain ⟨r1, h1, _, _⟩ := pick_ev hb p n hp (by omega) hn (by omega)
    obtain ⟨r2, h2, b2, c2⟩ := pick_ev hb (p + 1) 5 (by omega) (by omega) (by omega) (by omega)
    have set1 : ∀ m : Int, ∃ l q', Ev (fun k => (spec_l71Val.f k b (p + 1 + 1) n).bind fun bt => spec_l71Steps.l0 k deep n (acc ++ [(⟨1, r1, (⟨bt.1, bt.2.1, bt.2.2.1⟩ : S64), m, [], []⟩ : S66)]) (c : Int) b bt.2.2.2) (l, q') ∧ nTs l ≤ X ∧ p ≤ q' ∧ q' ≤ Y := by
      intro m
      obtain ⟨x, y, z, q, e, e1, e2⟩ := val_ev hb (p + 1 + 1) n (by omega) (by omega) hn hn2
      obtain ⟨l, q', f, f1, f2, f3⟩ := go ⟨1, r1, ⟨x, y, z⟩, m, [], []⟩ q (by simp [nTs_nil]) (by omega) (by omega)
      exact ⟨l, q', Ev.bind e f, f1, f2, f3⟩
    by_cases k0 : r2 = 0
    · obtain ⟨r3, h3, _, _⟩ := pick_ev hb (p + 1 + 1) 3 (by omega) (by omega) (by omega) (by omega)
      obtain ⟨l, q', f, f1, f2, f3⟩ := go ⟨3, r1, ⟨0, 0, 0⟩, r3, [], []⟩ (p + 1 + 1 + 1) (by simp [nTs_nil]) (by omega) (by omega)
      refine ⟨l, q', Ev.succ_ ?_, f1, f2, f3⟩
      simp only [spec_l71Steps.l0, g1, if_true]
      refine Ev.bind h1 (Ev.bind h2 ?_)
      simp only [k0, if_true]
      refine Ev.bind h3 ?_
      simp only [g2, g3, if_true]
      exact f
    · by_cases k12 : r2 = 1 ∨ r2 = 2
      · have jj : ∀ (l : List S66) (q' : Int), Ev (fun k => spec_l71Steps.j1 k deep n acc ((c + 1 : Nat) : Int) true b (p + 1 + 1) 1 r1 0 0 0 0) (l, q') → Ev (fun k => spec_l71Steps.l0 k deep n acc ((c + 1 : Nat) : Int) b p) (l, q') := by
          intro l q' e
          refine Ev.succ_ ?_
          simp only [spec_l71Steps.l0, g1, if_true]
          refine Ev.bind h1 (Ev.bind h2 ?_)
          rcases k12 with e1 | e1
          · simp only [e1, show ¬ (1 : Int) = 0 by omega, if_false, if_true, beq_self_eq_true]; exact e
          · simp only [e1, show ¬ (2 : Int) = 0 by omega, show ¬ (2 : Int) = 1 by omega, if_false, beq_self_eq_true]; exact e
        by_cases kd : deep > 1
        · obtain ⟨l1, q1, e1, n1, m1, o1⟩ := sub kd (p + 1 + 1) (by omega) (by omega)
          obtain ⟨l2, q2, e2, n2, m2, o2⟩ := sub kd q1 (by omega) (by omega)
          obtain ⟨l, q', f, f1, f2, f3⟩ := go ⟨2, r1, ⟨0, 0, 0⟩, 0, l1, l2⟩ q2 (by simp; omega) (by omega) (by omega)
          refine ⟨l, q', jj _ _ (Ev.succ_ ?_), f1, f2, f3⟩
          simp only [spec_l71Steps.j1, kd, g4, if_true]
          refine Ev.bind e1 (Ev.bind e2 ?_)
          simp only [g2, g3, if_true]
          exact f
        · obtain ⟨l, q', f, f1, f2, f3⟩ := set1 0
          refine ⟨l, q', jj _ _ (Ev.succ_ ?_), f1, f2, f3⟩
          simp only [spec_l71Steps.j1, kd, g2, g3, if_false, if_true]
          exact f
      · obtain ⟨l, q', f, f1, f2, f3⟩ := set1 0
        refine ⟨l, q', Ev.succ_ ?_, f1, f2, f3⟩
        have n1 : ¬ r2 = 1 := by omega
        have n2 : (r2 == 2) = false := by simp; omega
        simp only [spec_l71Steps.l0, g1, if_true]
        refine Ev.bind h1 (Ev.bind h2 ?_)
        simp only [k0, n1, n2, if_false]
        refine Ev.succ_ ?_
        simp only [spec_l71Steps.j1, Bool.false_eq_true, g2, g3, if_false, if_true]
        exact f
theorem steps_of {b : List Int} (hb : Code_ b) (n : Int) (hn : 1 ≤ n) (hn2 : n ≤ 1000) (deep : Int) (hd0 : 0 ≤ deep) (hd : deep ≤ 10) (B C : Nat) (hB : B ≤ 1000) (hC : C ≤ 1000) (most : Nat) (hm : most ≤ 10) (G : Int) (hG : G ≤ 800000000)
    (sub : deep > 1 → ∀ p : Int, 0 ≤ p → p ≤ G → ∃ l q, Ev (fun k => spec_l71Steps.f k b p 2 (deep - 1) n) (l, q) ∧ nTs l ≤ B ∧ p ≤ q ∧ q ≤ p + (C : Int)) (p : Int) (hp : 0 ≤ p) (hp2 : p ≤ G - 30000) :
    ∃ l q, Ev (fun k => spec_l71Steps.f k b p (most : Int) deep n) (l, q) ∧ nTs l ≤ most * (1 + 2 * B) ∧ p ≤ q ∧ q ≤ p + 1 + ((most * (5 + 2 * C) : Nat) : Int) := by
  have w : wrap64 ((most : Int) + 1) = (most : Int) + 1 := wr (by omega) (by omega)
  obtain ⟨r, h, a, c⟩ := pick_ev hb p ((most : Int) + 1) hp (by omega) (by omega) (by omega)
  have hr : r = ((r.toNat : Nat) : Int) := by omega
  have hr2 : r.toNat ≤ most := by omega
  have m1 : r.toNat * (1 + 2 * B) ≤ most * (1 + 2 * B) := Nat.mul_le_mul_right _ hr2
  have m2 : r.toNat * (5 + 2 * C) ≤ most * (5 + 2 * C) := Nat.mul_le_mul_right _ hr2
  have m3 : most * (1 + 2 * B) ≤ 10 * 2001 := Nat.mul_le_mul hm (by omega)
  have m4 : most * (5 + 2 * C) ≤ 10 * 2005 := Nat.mul_le_mul hm (by omega)
  obtain ⟨l, q, e, e1, e2, e3⟩ := steps_loop hb n hn hn2 deep hd0 hd B C (most * (1 + 2 * B)) (p + 1 + ((most * (5 + 2 * C) : Nat) : Int)) G (by omega) hG (by omega) sub r.toNat [] (p + 1) (by omega) (by rw [nTs_nil]; omega) (by omega) (by omega)
  refine ⟨l, q, Ev.succ_ ?_, e1, by omega, e3⟩
  simp only [spec_l71Steps.f, w]
  refine Ev.bind h ?_
  rw [← hr] at e
  exact e
theorem steps3_ev {b : List Int} (hb : Code_ b) (n : Int) (hn : 1 ≤ n) (hn2 : n ≤ 1000) (p : Int) (hp : 0 ≤ p) (hp2 : p ≤ 500000000) :
    ∃ l q, Ev (fun k => spec_l71Steps.f k b p 4 3 n) (l, q) ∧ nTs l ≤ 84 ∧ p ≤ q ∧ q ≤ p + 461 := by
  have s1 : ∀ p : Int, 0 ≤ p → p ≤ 799970000 → ∃ l q, Ev (fun k => spec_l71Steps.f k b p 2 1 n) (l, q) ∧ nTs l ≤ 2 ∧ p ≤ q ∧ q ≤ p + ((11 : Nat) : Int) := by
    intro p hp hp2
    obtain ⟨l, q, e, e1, e2, e3⟩ := steps_of hb n hn hn2 1 (by omega) (by omega) 0 0 (by omega) (by omega) 2 (by omega) 800000000 (by omega) (fun h => absurd h (by omega)) p hp (by omega)
    exact ⟨l, q, e, by omega, e2, by omega⟩
  have s2 : ∀ p : Int, 0 ≤ p → p ≤ 799940000 → ∃ l q, Ev (fun k => spec_l71Steps.f k b p 2 2 n) (l, q) ∧ nTs l ≤ 10 ∧ p ≤ q ∧ q ≤ p + ((55 : Nat) : Int) := by
    intro p hp hp2
    obtain ⟨l, q, e, e1, e2, e3⟩ := steps_of hb n hn hn2 2 (by omega) (by omega) 2 11 (by omega) (by omega) 2 (by omega) 799970000 (by omega) (fun _ => s1) p hp (by omega)
    exact ⟨l, q, e, by omega, e2, by omega⟩
  obtain ⟨l, q, e, e1, e2, e3⟩ := steps_of hb n hn hn2 3 (by omega) (by omega) 10 55 (by omega) (by omega) 4 (by omega) 799940000 (by omega) (fun _ => s2) p hp (by omega)
  exact ⟨l, q, e, by omega, e2, by omega⟩
/-- A drawn program in form. -/
theorem prog_ev {b : List Int} (hb : Code_ b) (p : Int) (hp : 0 ≤ p) (hp2 : p ≤ 400000000) :
    ∃ L S q, Ev (fun k => spec_l71Prog.f k b p) (L, S, q) ∧ 1 ≤ L.length ∧ L.length ≤ 4 ∧ nTs S ≤ 84 ∧ p ≤ q ∧ q ≤ p + 10000 := by
  have l0 : ∀ (d i : Nat) (p : Int), i + d = 20 → 0 ≤ p → p ≤ 400000000 + 10000 - 480 * d → ∃ L S q, Ev (fun k => spec_l71Prog.l0 k (i : Int) b p) (L, S, q) ∧ 1 ≤ L.length ∧ L.length ≤ 4 ∧ nTs S ≤ 84 ∧ p ≤ q ∧ q ≤ p + 480 * d := by
    intro d
    induction d with
    | zero =>
      intro i p hi hp hp2
      refine ⟨[⟨7, 0⟩], [], p, Ev.succ_ (Ev.all_ fun k => ?_), by simp, by simp, by rw [nTs_nil]; omega, by omega, by omega⟩
      simp only [spec_l71Prog.l0, show ¬ ((i : Int) < 20) by omega, if_false]
    | succ d ih =>
      intro i p hi hp hp2
      have hw : wrap64 ((i : Int) + 1) = ((i + 1 : Nat) : Int) := by rw [wr (by omega) (by omega)]; omega
      have l1 : ∀ (c : Nat) (acc : List S57) (p' : Int), 1 ≤ acc.length + c → acc.length + c ≤ 4 → p + 1 ≤ p' → p' + 2 * c ≤ p + 1 + 8 → ∃ L S q, Ev (fun k => spec_l71Prog.l1 k (i : Int) (c : Int) b p' acc) (L, S, q) ∧ 1 ≤ L.length ∧ L.length ≤ 4 ∧ nTs S ≤ 84 ∧ p ≤ q ∧ q ≤ p + 480 * ((d + 1 : Nat) : Int) := by
        intro c
        induction c with
        | zero =>
          intro acc p' h1 h4 hq hq2
          obtain ⟨S, q, e, e1, e2, e3⟩ := steps3_ev hb (acc.length : Int) (by omega) (by omega) p' (by omega) (by omega)
          have ok := sp_progOk acc S (by omega) (by omega)
          cases hk : progB acc S with
          | true =>
            refine ⟨acc, S, q, Ev.succ_ ?_, by omega, by omega, e1, by omega, by omega⟩
            simp only [spec_l71Prog.l1, show ¬ (((0 : Nat) : Int) > 0) by omega, if_false]
            refine Ev.bind e (Ev.bind ok ?_)
            simp only [hk, if_true]
            exact Ev.now _
          | false =>
            obtain ⟨L, S', q', f, f1, f2, f3, f4, f5⟩ := ih (i + 1) q (by omega) (by omega) (by omega)
            refine ⟨L, S', q', Ev.succ_ ?_, f1, f2, f3, by omega, by omega⟩
            simp only [spec_l71Prog.l1, show ¬ (((0 : Nat) : Int) > 0) by omega, if_false]
            refine Ev.bind e (Ev.bind ok ?_)
            simp only [hk, hw, Bool.false_eq_true, if_false]
            exact f
        | succ c ihc =>
          intro acc p' h1 h4 hq hq2
          obtain ⟨x, y, _, _, e⟩ := label_ev hb p' (by omega) (by omega)
          obtain ⟨L, S, q, f, f1, f2, f3, f4, f5⟩ := ihc (acc ++ [⟨x, y⟩]) (p' + 1 + 1) (by simp; omega) (by simp; omega) (by omega) (by omega)
          refine ⟨L, S, q, Ev.succ_ ?_, f1, f2, f3, f4, f5⟩
          have g1 : ((c + 1 : Nat) : Int) > 0 := by omega
          have g2 : acc.length < 8796093022208 := by omega
          have g3 : wrap64 (((c + 1 : Nat) : Int) - 1) = ((c : Nat) : Int) := by rw [wr (by omega) (by omega)]; omega
          simp only [spec_l71Prog.l1, g1, g2, g3, if_true]
          refine Ev.bind e ?_
          exact f
      obtain ⟨r, h, a, c⟩ := pick_ev hb p 4 hp (by omega) (by omega) (by omega)
      obtain ⟨L, S, q, f, f1, f2, f3, f4, f5⟩ := l1 (1 + r.toNat) [] (p + 1) (by simp) (by simp; omega) (by omega) (by omega)
      refine ⟨L, S, q, Ev.succ_ ?_, f1, f2, f3, f4, f5⟩
      have g : wrap64 (1 + r) = ((1 + r.toNat : Nat) : Int) := by rw [wr (by omega) (by omega)]; omega
      simp only [spec_l71Prog.l0, show (i : Int) < 20 by omega, if_true]
      refine Ev.bind h ?_
      simp only [g]
      exact f
  obtain ⟨L, S, q, f, f1, f2, f3, f4, f5⟩ := l0 20 0 p (by omega) hp (by omega)
  exact ⟨L, S, q, f, f1, f2, f3, f4, by omega⟩
theorem eta_st (s : S66) : (⟨s.f0, s.f1, (⟨s.f2.f0, s.f2.f1, s.f2.f2⟩ : S64), s.f3, s.f4, s.f5⟩ : S66) = s := by cases s; rfl
end Go.Proofs.Ytdmejmdifnicmaa.A
