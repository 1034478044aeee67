/- Plain facts on what the functions compute, several texts in one: see wip/pure. -/
import Derived.Test.YtfcmckomagaiiaaDoorAx0
import Derived.Test.YtfcmckomagaiiaaDoorAx25
import Derived.Test.YtfcmckomagaiiaaDoorAx26
import Derived.Test.YtfcmckomagaiiaaDoorAx28
import Derived.Test.YtfcmckomagaiiaaDoorMB
import Derived.Test.YtfcmckomagaiiaaDoorMC
namespace Go.Proofs.YtfcmckomagaiiaaDoor.A
open Go.RowKit Go.Proofs.YtfcmckomagaiiaaDoorW.PrintWords Go.Proofs.YtfcmckomagaiiaaDoorW.PrintLast Go.Proofs.YtfcmckomagaiiaaDoorW.PrintMore
theorem wr_nums {A B : Nat} {n : Int} (h : A + B ≤ 1048576) (h0 : -1 ≤ n) (h1 : n ≤ 2000000) : wrap64 (1 + (A : Int)) = 1 + (A : Int) ∧ wrap64 (1 + (A : Int) + (B : Int)) = 1 + (A : Int) + (B : Int) ∧ wrap64 (n - 1) = n - 1 ∧ wrap64 (n - 1 - (A : Int)) = n - 1 - (A : Int) ∧ wrap64 (n - (1 + (A : Int) + (B : Int))) = n - (1 + (A : Int) + (B : Int)) :=
 ⟨wr (by omega) (by omega), wr (by omega) (by omega), wr (by omega) (by omega), wr (by omega) (by omega), wr (by omega) (by omega)⟩
theorem hb_of {X M x y A B D N : Nat} (e : X = M + (1 + (x + y))) (h : x + y ≤ A + B) (ha : M + (1 + (A + B) + D) ≤ N) : X + D ≤ N := by omega
theorem without_ev : ∀ l : List S71, nTs l ≤ 1048576 → ∀ n : Int, -1 ≤ n → n ≤ 2000000 → ∃ r, Ev (fun k => spec_l71Without.f k l n) r ∧ nTs r ≤ nTs l := by
 refine tree_ind fun l ih hl n hn hn2 => ?_
 have hlen := nTs_length l
 have loop : ∀ (d i : Nat) (n : Int) (acc : List S71), i + d = l.length → -1 ≤ n → n ≤ 2000000 → nTs acc + nTs (l.drop i) ≤ nTs l → ∃ r, Ev (fun k => spec_l71Without.l0 k l n acc (i : Int)) r ∧ nTs r ≤ nTs l := by
  intro d
  induction d with
  | zero =>
   intro i n acc hi h0 h1 ha
   refine ⟨acc, Ev.succ_ (Ev.all_ fun k => ?_), by omega⟩
   have c1 : ¬ ((i : Int) < (l.length : Int)) := by omega
   simp only [spec_l71Without.l0, c1, if_false]
  | succ d ih2 =>
   intro i n acc hi h0 h1 ha
   have c1 : (i : Int) < (l.length : Int) := by omega
   have c2 : (0 : Int) ≤ (i : Int) := by omega
   have la := nTs_length acc
   have hm := rdS_mem (l := l) (n := i) (by omega)
   rw [rdS_drop (l := l) (n := i) (by omega), nTs_cons] at ha
   obtain ⟨s, hsd⟩ : ∃ s, D71 l (i : Int) = s := ⟨_, rfl⟩
   rw [hsd] at hm ha
   have hs := nTs_mem hm
   obtain ⟨i4, i5⟩ := ih _ hm
   have e4 := sp_count s.f4 (by omega)
   have e5 := sp_count s.f5 (by omega)
   have put : ∀ (s' : S71), nTs (acc ++ [s']) = nTs acc + (1 + (nTs s'.f4 + nTs s'.f5)) := fun s' => by rw [nTs_append, nTs_one]
   clear ih hm hn hn2
   generalize hA : nTs s.f4 = A at *
   generalize hB : nTs s.f5 = B at *
   generalize nTs l = N at *
   generalize hD : nTs (l.drop (i + 1)) = D at *
   have ih3 : ∀ (n' : Int) (acc' : List S71), -1 ≤ n' → n' ≤ 2000000 → nTs acc' + D ≤ N → ∃ r, Ev (fun k => spec_l71Without.l0 k l n' acc' ((i + 1 : Nat) : Int)) r ∧ nTs r ≤ N := fun n' acc' a b c => ih2 (i + 1) n' acc' (by omega) a b (by rw [hD]; exact c)
   clear ih2
   generalize ht : nTs acc = M at *
   replace hA := Za.mk hA
   replace hB := Za.mk hB
   replace hD := Za.mk hD
   replace ht := Za.mk ht
   have c3 : acc.length < 1466015503701 := by omega
   have c4 : wrap64 ((i : Int) + 1) = ((i + 1 : Nat) : Int) := by rw [wr (by omega) (by omega)]; omega
   by_cases z : n = 0
   ·obtain ⟨r, e, hr⟩ := ih3 (-1) acc (by omega) (by omega) (by rw [ht.out]; omega)
    refine ⟨r, Ev.succ_ ?_, hr⟩
    simp only [spec_l71Without.l0, c1, c2, c4, z, if_true]
    exact e
   have nums := wr_nums (A := A) (B := B) (n := n) (by omega) h0 h1
   replace nums := Za.mk nums
   have go : ∀ (s' : S71) (n' : Int), nTs s'.f4 + nTs s'.f5 ≤ A + B → -1 ≤ n' → n' ≤ 2000000 → ∃ r, Ev (fun k => spec_l71Without.l0 k l n' (acc ++ [s']) ((i + 1 : Nat) : Int)) r ∧ nTs r ≤ N :=
    fun s' n' h h' h'' => ih3 n' (acc ++ [s']) h' h'' (hb_of (put s') h ha)
   have sum : ∀ (x y : Nat), x ≤ A → y ≤ B → x + y ≤ A + B := fun x y h h' => by omega
   have same : ∀ n' : Int, -1 ≤ n' → n' ≤ 2000000 → ∃ r, Ev (fun k => spec_l71Without.l0 k l n' (acc ++ [(⟨s.f0, s.f1, (⟨s.f2.f0, s.f2.f1, s.f2.f2⟩ : S69), s.f3, s.f4, s.f5⟩ : S71)]) ((i + 1 : Nat) : Int)) r ∧ nTs r ≤ N := fun n' h h' => go ⟨s.f0, s.f1, ⟨s.f2.f0, s.f2.f1, s.f2.f2⟩, s.f3, s.f4, s.f5⟩ n' (sum _ _ (Nat.le_of_eq hA.out) (Nat.le_of_eq hB.out)) h h'
   by_cases p : n > 0
   ·by_cases q : n < 1 + (A : Int) + (B : Int)
    ·by_cases u : n - 1 < (A : Int)
     ·obtain ⟨r4, e', h4⟩ := i4 (by omega) (n - 1) (by omega) (by omega)
      obtain ⟨r, e, hr⟩ := go ⟨s.f0, s.f1, ⟨s.f2.f0, s.f2.f1, s.f2.f2⟩, s.f3, r4, s.f5⟩ (-1) (sum _ _ h4 (Nat.le_of_eq hB.out)) (by decide) (by decide)
      refine ⟨r, Ev.succ_ ?_, hr⟩
      obtain ⟨w1, w2, w3, w4, w5⟩ := nums.out
      simp only [spec_l71Without.l0, hsd, c1, c2, z, if_true, if_false]
      refine Ev.bind e4 (Ev.bind e5 ?_)
      simp only [w1, w2, p, q, if_true]
      refine Ev.bind e4 ?_
      simp only [w3, u, if_true]
      refine Ev.bind e' ?_
      simp only [c3, c4, if_true]
      exact e
     ·obtain ⟨r5, e', h5⟩ := i5 (by omega) (n - 1 - (A : Int)) (by omega) (by omega)
      obtain ⟨r, e, hr⟩ := go ⟨s.f0, s.f1, ⟨s.f2.f0, s.f2.f1, s.f2.f2⟩, s.f3, s.f4, r5⟩ (-1) (sum _ _ (Nat.le_of_eq hA.out) h5) (by decide) (by decide)
      refine ⟨r, Ev.succ_ ?_, hr⟩
      obtain ⟨w1, w2, w3, w4, w5⟩ := nums.out
      simp only [spec_l71Without.l0, hsd, c1, c2, z, if_true, if_false]
      refine Ev.bind e4 (Ev.bind e5 ?_)
      simp only [w1, w2, p, q, if_true]
      refine Ev.bind e4 ?_
      simp only [w3, w4, u, if_false]
      refine Ev.bind e' ?_
      simp only [c3, c4, if_true]
      exact e
    ·obtain ⟨r, e, hr⟩ := same (n - (1 + (A : Int) + (B : Int))) (by omega) (by omega)
     refine ⟨r, Ev.succ_ ?_, hr⟩
     have q' : n ≥ 1 + (A : Int) + (B : Int) := by omega
     obtain ⟨w1, w2, w3, w4, w5⟩ := nums.out
     simp only [spec_l71Without.l0, hsd, c1, c2, z, if_true, if_false]
     refine Ev.bind e4 (Ev.bind e5 ?_)
     simp only [w1, w2, w5, p, q, q', c3, c4, if_true, if_false]
     exact e
   ·obtain ⟨r, e, hr⟩ := same n (by omega) (by omega)
    refine ⟨r, Ev.succ_ ?_, hr⟩
    have q' : ¬ n ≥ 1 + (A : Int) + (B : Int) := by omega
    obtain ⟨w1, w2, w3, w4, w5⟩ := nums.out
    simp only [spec_l71Without.l0, hsd, c1, c2, z, if_true, if_false]
    refine Ev.bind e4 (Ev.bind e5 ?_)
    simp only [w1, w2, p, q', c3, c4, if_true, if_false]
    exact e
 obtain ⟨r, e, hr⟩ := loop l.length 0 n [] (by omega) hn hn2 (by rw [nTs_nil, List.drop_zero]; omega)
 exact ⟨r, Ev.succ_ e, hr⟩
theorem whyR_range (L : List S43) : ∀ (a : List S71) (m : List S43) (i : Int), 0 ≤ i → 0 ≤ (whyR L a m i).1 ∧ (whyR L a m i).1 ≤ i + a.length := by
 intro a
 induction a with
 | nil => intro m i hi; cases m <;> simp [whyR] <;> omega
 | cons s r ih =>
  intro m i hi
  cases m with
  | nil => simp [whyR]; omega
  | cons x m =>
   have := ih m (i + 1) (by omega)
   simp only [whyR, List.length_cons]
   split
   ·omega
   ·simp only; omega
theorem fine_loop {b : List Int} (q : Int) (L : List S43) (h4 : L.length ≤ 4) (d : Nat) : ∀ (i : Nat) (S : List S71), i + d = 6 → nTs S ≤ 84 → ∃ S', Ev (fun k => spec_l71Fine.l0 k (i : Int) b q L S) (L, S', q) ∧ nTs S' ≤ 84 := by
 induction d with
 | zero =>
  intro i S hi hS
  refine ⟨S, Ev.succ_ (Ev.all_ fun k => ?_), hS⟩
  have c : ¬ ((i : Int) < 6) := by omega
  simp only [spec_l71Fine.l0, c, if_false]
 | succ d ih =>
  intro i S hi hS
  have c : (i : Int) < 6 := by omega
  have w : wrap64 ((i : Int) + 1) = ((i + 1 : Nat) : Int) := by rw [wr (by omega) (by omega)]; omega
  have ew := sp_typeWhy L S (by omega) (by omega)
  cases hb : (if progB L S = true then whyP L S else (0, false)).2 with
  | false =>
   refine ⟨S, Ev.succ_ ?_, hS⟩
   simp only [spec_l71Fine.l0, c, if_true]
   refine Ev.bind ew ?_
   rw [hb]
   simp only [Bool.false_eq_true, if_false]
   exact Ev.now _
  | true =>
   have hr : -1 ≤ (if progB L S = true then whyP L S else (0, false)).1 ∧ (if progB L S = true then whyP L S else (0, false)).1 ≤ 2000000 := by
    cases hk : progB L S with
    | false => simp
    | true =>
     have h1 := whyR_range L (alTs S) (laTs L S 7 7) 0 (by omega)
     rw [alTs_length] at h1
     simp only [if_true, whyP]
     omega
   obtain ⟨S1, e1, n1⟩ := without_ev S (by omega) _ hr.1 hr.2
   obtain ⟨S', e, hS'⟩ := ih (i + 1) S1 (by omega) (by omega)
   refine ⟨S', Ev.succ_ ?_, hS'⟩
   simp only [spec_l71Fine.l0, c, if_true]
   refine Ev.bind ew ?_
   rw [hb]
   simp only [if_true, w]
   exact Ev.bind e1 e
theorem fine_ev {b : List Int} (hb : Code_ b) (p : Int) (hp : 0 ≤ p) (hp2 : p ≤ 400000000) :
  ∃ L S q, Ev (fun k => spec_l71Fine.f k b p) (L, S, q) ∧ 1 ≤ L.length ∧ L.length ≤ 4 ∧ nTs S ≤ 84 ∧ p ≤ q ∧ q ≤ p + 10000 := by
 obtain ⟨L, S, q, e, e1, e2, e3, e4, e5⟩ := prog_ev hb p hp hp2
 obtain ⟨S', f, f1⟩ := fine_loop (b := b) q L e2 6 0 S (by omega) e3
 exact ⟨L, S', q, Ev.bind e f, e1, e2, f1, e4, e5⟩
theorem any_end {b : List Int} (hb : Code_ b) (p : Int) (hp : 0 ≤ p) (hp2 : p ≤ 400000000) (L : List S43) (S : List S71) (h1 : 1 ≤ L.length) (h4 : L.length ≤ 4) (hS : nTs S ≤ 84) :
  ∃ L' S' q, Ev (fun k => spec_l71Any.j0 k b p L S) (L', S', q) ∧ L'.length ≤ 8 ∧ nTs S' ≤ 2000 ∧ p ≤ q ∧ q ≤ p + 20 := by
 obtain ⟨r, h, a, c⟩ := pick_ev hb p 16 hp (by omega) (by omega) (by omega)
 by_cases c0 : r = 0
 ·obtain ⟨L', S', q', f, f1, f2, f3, f4⟩ := bent_ev hb (p + 1) (by omega) (by omega) L S h1 h4 (by omega)
  refine ⟨L', S', q', Ev.succ_ ?_, f1, f2, by omega, by omega⟩
  simp only [spec_l71Any.j0]
  refine Ev.bind h ?_
  simp only [c0, if_true]
  exact Ev.bind f (Ev.now _)
 ·refine ⟨L, S, p + 1, Ev.succ_ ?_, by omega, by omega, by omega, by omega⟩
  simp only [spec_l71Any.j0]
  refine Ev.bind h ?_
  simp only [c0, if_false]
  exact Ev.now _
/-- Any drawn program: some program, not too large. -/
theorem any_ev {b : List Int} (hb : Code_ b) (p : Int) (hp : 0 ≤ p) (hp2 : p ≤ 100000000) :
  ∃ L S q, Ev (fun k => spec_l71Any.f k b p) (L, S, q) ∧ L.length ≤ 8 ∧ nTs S ≤ 2000 ∧ p ≤ q ∧ q ≤ p + 30000 := by
 obtain ⟨L, S, q, e, e1, e2, e3, e4, e5⟩ := prog_ev hb p hp (by omega)
 obtain ⟨r, h, a, c⟩ := pick_ev hb q 3 (by omega) (by omega) (by omega) (by omega)
 by_cases c0 : r > 0
 ·obtain ⟨L1, S1, q1, f, f1, f2, f3, f4, f5⟩ := fine_ev hb (q + 1) (by omega) (by omega)
  obtain ⟨L', S', q', g, g1, g2, g3, g4⟩ := any_end hb q1 (by omega) (by omega) L1 S1 f1 f2 f3
  refine ⟨L', S', q', ?_, g1, g2, by omega, by omega⟩
  unfold spec_l71Any.f
  refine Ev.bind e (Ev.bind h ?_)
  simp only [c0, if_true]
  exact Ev.bind f g
 ·obtain ⟨L', S', q', g, g1, g2, g3, g4⟩ := any_end hb (q + 1) (by omega) (by omega) L S e1 e2 e3
  refine ⟨L', S', q', ?_, g1, g2, by omega, by omega⟩
  unfold spec_l71Any.f
  refine Ev.bind e (Ev.bind h ?_)
  simp only [c0, if_false]
  exact g
end Go.Proofs.YtfcmckomagaiiaaDoor.A
