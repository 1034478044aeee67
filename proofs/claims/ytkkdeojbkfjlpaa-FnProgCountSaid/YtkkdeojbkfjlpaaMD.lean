/- Plain facts on what the functions compute, several texts in one: see wip/pure. -/
import Derived.Test.YtkkdeojbkfjlpaaAx0
import Derived.Test.YtkkdeojbkfjlpaaAx23
import Derived.Test.YtkkdeojbkfjlpaaAx24
import Derived.Test.YtkkdeojbkfjlpaaAx26
import Derived.Test.YtkkdeojbkfjlpaaMB
import Derived.Test.YtkkdeojbkfjlpaaMC
import Derived.Test.YtkkdeojbkfjlpaaAx29
import Derived.Test.YtkkdeojbkfjlpaaMA
import Derived.Test.YtkkdeojbkfjlpaaAx17
namespace Go.Proofs.Ytkkdeojbkfjlpaa.A
open Go.RowKit Go.Proofs.YtkkdeojbkfjlpaaW.PrintWords Go.Proofs.YtkkdeojbkfjlpaaW.PrintLast Go.Proofs.YtkkdeojbkfjlpaaW.PrintMore
theorem wr_nums {A B : Nat} {n : Int} (h : A + B ≤ 1048576) (h0 : -1 ≤ n) (h1 : n ≤ 2000000) : wrap64 (1 + (A : Int)) = 1 + (A : Int) ∧ wrap64 (1 + (A : Int) + (B : Int)) = 1 + (A : Int) + (B : Int) ∧ wrap64 (n - 1) = n - 1 ∧ wrap64 (n - 1 - (A : Int)) = n - 1 - (A : Int) ∧ wrap64 (n - (1 + (A : Int) + (B : Int))) = n - (1 + (A : Int) + (B : Int)) :=
 ⟨wr (by omega) (by omega), wr (by omega) (by omega), wr (by omega) (by omega), wr (by omega) (by omega), wr (by omega) (by omega)⟩
theorem hb_of {X M x y A B D N : Nat} (e : X = M + (1 + (x + y))) (h : x + y ≤ A + B) (ha : M + (1 + (A + B) + D) ≤ N) : X + D ≤ N := by omega
theorem without_ev : ∀ l : List S40, nTs l ≤ 1048576 → ∀ n : Int, -1 ≤ n → n ≤ 2000000 → ∃ r, Ev (fun k => spec_l71Without.f k l n) r ∧ nTs r ≤ nTs l := by
 refine tree_ind fun l ih hl n hn hn2 => ?_
 have hlen := nTs_length l
 have loop : ∀ (d i : Nat) (n : Int) (acc : List S40), i + d = l.length → -1 ≤ n → n ≤ 2000000 → nTs acc + nTs (l.drop i) ≤ nTs l → ∃ r, Ev (fun k => spec_l71Without.l0 k l n acc (i : Int)) r ∧ nTs r ≤ nTs l := by
  intro d
  induction d with
  | zero =>
   intro i n acc hi h0 h1 ha
   refine ⟨acc, Ev.succ_ (Ev.all_ fun k => ?_), by omega⟩
   have c1 : ¬ ((i : Int) < (l.length : Int)) := by omega
   simp only [spec_l71Without.l0, c1, if_false]
  | succ d ih2 =>
   intro i n acc hi h0 h1 ha
   have c1 : (i : Int) < (l.length : Int) := by omega
   have c2 : (0 : Int) ≤ (i : Int) := by omega
   have la := nTs_length acc
   have hm := rdS_mem (l := l) (n := i) (by omega)
   rw [rdS_drop (l := l) (n := i) (by omega), nTs_cons] at ha
   obtain ⟨s, hsd⟩ : ∃ s, D40 l (i : Int) = s := ⟨_, rfl⟩
   rw [hsd] at hm ha
   have hs := nTs_mem hm
   obtain ⟨i4, i5⟩ := ih _ hm
   have e4 := sp_count s.f4 (by omega)
   have e5 := sp_count s.f5 (by omega)
   have put : ∀ (s' : S40), nTs (acc ++ [s']) = nTs acc + (1 + (nTs s'.f4 + nTs s'.f5)) := fun s' => by rw [nTs_append, nTs_one]
   clear ih hm hn hn2
   generalize hA : nTs s.f4 = A at *
   generalize hB : nTs s.f5 = B at *
   generalize nTs l = N at *
   generalize hD : nTs (l.drop (i + 1)) = D at *
   have ih3 : ∀ (n' : Int) (acc' : List S40), -1 ≤ n' → n' ≤ 2000000 → nTs acc' + D ≤ N → ∃ r, Ev (fun k => spec_l71Without.l0 k l n' acc' ((i + 1 : Nat) : Int)) r ∧ nTs r ≤ N := fun n' acc' a b c => ih2 (i + 1) n' acc' (by omega) a b (by rw [hD]; exact c)
   clear ih2
   generalize ht : nTs acc = M at *
   replace hA := Za.mk hA
   replace hB := Za.mk hB
   replace hD := Za.mk hD
   replace ht := Za.mk ht
   have c3 : acc.length < 1466015503701 := by omega
   have c4 : wrap64 ((i : Int) + 1) = ((i + 1 : Nat) : Int) := by rw [wr (by omega) (by omega)]; omega
   by_cases z : n = 0
   ·obtain ⟨r, e, hr⟩ := ih3 (-1) acc (by omega) (by omega) (by rw [ht.out]; omega)
    refine ⟨r, Ev.succ_ ?_, hr⟩
    simp only [spec_l71Without.l0, c1, c2, c4, z, if_true]
    exact e
   have nums := wr_nums (A := A) (B := B) (n := n) (by omega) h0 h1
   replace nums := Za.mk nums
   have go : ∀ (s' : S40) (n' : Int), nTs s'.f4 + nTs s'.f5 ≤ A + B → -1 ≤ n' → n' ≤ 2000000 → ∃ r, Ev (fun k => spec_l71Without.l0 k l n' (acc ++ [s']) ((i + 1 : Nat) : Int)) r ∧ nTs r ≤ N :=
    fun s' n' h h' h'' => ih3 n' (acc ++ [s']) h' h'' (hb_of (put s') h ha)
   have sum : ∀ (x y : Nat), x ≤ A → y ≤ B → x + y ≤ A + B := fun x y h h' => by omega
   have same : ∀ n' : Int, -1 ≤ n' → n' ≤ 2000000 → ∃ r, Ev (fun k => spec_l71Without.l0 k l n' (acc ++ [(⟨s.f0, s.f1, (⟨s.f2.f0, s.f2.f1, s.f2.f2⟩ : S38), s.f3, s.f4, s.f5⟩ : S40)]) ((i + 1 : Nat) : Int)) r ∧ nTs r ≤ N := fun n' h h' => go ⟨s.f0, s.f1, ⟨s.f2.f0, s.f2.f1, s.f2.f2⟩, s.f3, s.f4, s.f5⟩ n' (sum _ _ (Nat.le_of_eq hA.out) (Nat.le_of_eq hB.out)) h h'
   by_cases p : n > 0
   ·by_cases q : n < 1 + (A : Int) + (B : Int)
    ·by_cases u : n - 1 < (A : Int)
     ·obtain ⟨r4, e', h4⟩ := i4 (by omega) (n - 1) (by omega) (by omega)
      obtain ⟨r, e, hr⟩ := go ⟨s.f0, s.f1, ⟨s.f2.f0, s.f2.f1, s.f2.f2⟩, s.f3, r4, s.f5⟩ (-1) (sum _ _ h4 (Nat.le_of_eq hB.out)) (by decide) (by decide)
      refine ⟨r, Ev.succ_ ?_, hr⟩
      obtain ⟨w1, w2, w3, w4, w5⟩ := nums.out
      simp only [spec_l71Without.l0, hsd, c1, c2, z, if_true, if_false]
      refine Ev.bind e4 (Ev.bind e5 ?_)
      simp only [w1, w2, p, q, if_true]
      refine Ev.bind e4 ?_
      simp only [w3, u, if_true]
      refine Ev.bind e' ?_
      simp only [c3, c4, if_true]
      exact e
     ·obtain ⟨r5, e', h5⟩ := i5 (by omega) (n - 1 - (A : Int)) (by omega) (by omega)
      obtain ⟨r, e, hr⟩ := go ⟨s.f0, s.f1, ⟨s.f2.f0, s.f2.f1, s.f2.f2⟩, s.f3, s.f4, r5⟩ (-1) (sum _ _ (Nat.le_of_eq hA.out) h5) (by decide) (by decide)
      refine ⟨r, Ev.succ_ ?_, hr⟩
      obtain ⟨w1, w2, w3, w4, w5⟩ := nums.out
      simp only [spec_l71Without.l0, hsd, c1, c2, z, if_true, if_false]
      refine Ev.bind e4 (Ev.bind e5 ?_)
      simp only [w1, w2, p, q, if_true]
      refine Ev.bind e4 ?_
      simp only [w3, w4, u, if_false]
      refine Ev.bind e' ?_
      simp only [c3, c4, if_true]
      exact e
    ·obtain ⟨r, e, hr⟩ := same (n - (1 + (A : Int) + (B : Int))) (by omega) (by omega)
     refine ⟨r, Ev.succ_ ?_, hr⟩
     have q' : n ≥ 1 + (A : Int) + (B : Int) := by omega
     obtain ⟨w1, w2, w3, w4, w5⟩ := nums.out
     simp only [spec_l71Without.l0, hsd, c1, c2, z, if_true, if_false]
     refine Ev.bind e4 (Ev.bind e5 ?_)
     simp only [w1, w2, w5, p, q, q', c3, c4, if_true, if_false]
     exact e
   ·obtain ⟨r, e, hr⟩ := same n (by omega) (by omega)
    refine ⟨r, Ev.succ_ ?_, hr⟩
    have q' : ¬ n ≥ 1 + (A : Int) + (B : Int) := by omega
    obtain ⟨w1, w2, w3, w4, w5⟩ := nums.out
    simp only [spec_l71Without.l0, hsd, c1, c2, z, if_true, if_false]
    refine Ev.bind e4 (Ev.bind e5 ?_)
    simp only [w1, w2, p, q', c3, c4, if_true, if_false]
    exact e
 obtain ⟨r, e, hr⟩ := loop l.length 0 n [] (by omega) hn hn2 (by rw [nTs_nil, List.drop_zero]; omega)
 exact ⟨r, Ev.succ_ e, hr⟩
theorem whyR_range (L : List S35) : ∀ (a : List S40) (m : List S35) (i : Int), 0 ≤ i → 0 ≤ (whyR L a m i).1 ∧ (whyR L a m i).1 ≤ i + a.length := by
 intro a
 induction a with
 | nil => intro m i hi; cases m <;> simp [whyR] <;> omega
 | cons s r ih =>
  intro m i hi
  cases m with
  | nil => simp [whyR]; omega
  | cons x m =>
   have := ih m (i + 1) (by omega)
   simp only [whyR, List.length_cons]
   split
   ·omega
   ·simp only; omega
theorem fine_loop {b : List Int} (q : Int) (L : List S35) (h4 : L.length ≤ 4) (d : Nat) : ∀ (i : Nat) (S : List S40), i + d = 6 → nTs S ≤ 84 → ∃ S', Ev (fun k => spec_l71Fine.l0 k (i : Int) b q L S) (L, S', q) ∧ nTs S' ≤ 84 := by
 induction d with
 | zero =>
  intro i S hi hS
  refine ⟨S, Ev.succ_ (Ev.all_ fun k => ?_), hS⟩
  have c : ¬ ((i : Int) < 6) := by omega
  simp only [spec_l71Fine.l0, c, if_false]
 | succ d ih =>
  intro i S hi hS
  have c : (i : Int) < 6 := by omega
  have w : wrap64 ((i : Int) + 1) = ((i + 1 : Nat) : Int) := by rw [wr (by omega) (by omega)]; omega
  have ew := sp_typeWhy L S (by omega) (by omega)
  cases hb : (if progB L S = true then whyP L S else (0, false)).2 with
  | false =>
   refine ⟨S, Ev.succ_ ?_, hS⟩
   simp only [spec_l71Fine.l0, c, if_true]
   refine Ev.bind ew ?_
   rw [hb]
   simp only [Bool.false_eq_true, if_false]
   exact Ev.now _
  | true =>
   have hr : -1 ≤ (if progB L S = true then whyP L S else (0, false)).1 ∧ (if progB L S = true then whyP L S else (0, false)).1 ≤ 2000000 := by
    cases hk : progB L S with
    | false => simp
    | true =>
     have h1 := whyR_range L (alTs S) (laTs L S 7 7) 0 (by omega)
     rw [alTs_length] at h1
     simp only [if_true, whyP]
     omega
   obtain ⟨S1, e1, n1⟩ := without_ev S (by omega) _ hr.1 hr.2
   obtain ⟨S', e, hS'⟩ := ih (i + 1) S1 (by omega) (by omega)
   refine ⟨S', Ev.succ_ ?_, hS'⟩
   simp only [spec_l71Fine.l0, c, if_true]
   refine Ev.bind ew ?_
   rw [hb]
   simp only [if_true, w]
   exact Ev.bind e1 e
theorem fine_ev {b : List Int} (hb : Code_ b) (p : Int) (hp : 0 ≤ p) (hp2 : p ≤ 400000000) :
  ∃ L S q, Ev (fun k => spec_l71Fine.f k b p) (L, S, q) ∧ 1 ≤ L.length ∧ L.length ≤ 4 ∧ nTs S ≤ 84 ∧ p ≤ q ∧ q ≤ p + 10000 := by
 obtain ⟨L, S, q, e, e1, e2, e3, e4, e5⟩ := prog_ev hb p hp hp2
 obtain ⟨S', f, f1⟩ := fine_loop (b := b) q L e2 6 0 S (by omega) e3
 exact ⟨L, S', q, Ev.bind e f, e1, e2, f1, e4, e5⟩
theorem any_end {b : List Int} (hb : Code_ b) (p : Int) (hp : 0 ≤ p) (hp2 : p ≤ 400000000) (L : List S35) (S : List S40) (h1 : 1 ≤ L.length) (h4 : L.length ≤ 4) (hS : nTs S ≤ 84) :
  ∃ L' S' q, Ev (fun k => spec_l71Any.j0 k b p L S) (L', S', q) ∧ L'.length ≤ 8 ∧ nTs S' ≤ 2000 ∧ p ≤ q ∧ q ≤ p + 20 := by
 obtain ⟨r, h, a, c⟩ := pick_ev hb p 16 hp (by omega) (by omega) (by omega)
 by_cases c0 : r = 0
 ·obtain ⟨L', S', q', f, f1, f2, f3, f4⟩ := bent_ev hb (p + 1) (by omega) (by omega) L S h1 h4 (by omega)
  refine ⟨L', S', q', Ev.succ_ ?_, f1, f2, by omega, by omega⟩
  simp only [spec_l71Any.j0]
  refine Ev.bind h ?_
  simp only [c0, if_true]
  exact Ev.bind f (Ev.now _)
 ·refine ⟨L, S, p + 1, Ev.succ_ ?_, by omega, by omega, by omega, by omega⟩
  simp only [spec_l71Any.j0]
  refine Ev.bind h ?_
  simp only [c0, if_false]
  exact Ev.now _
/-- Any drawn program: some program, not too large. -/
theorem any_ev {b : List Int} (hb : Code_ b) (p : Int) (hp : 0 ≤ p) (hp2 : p ≤ 100000000) :
  ∃ L S q, Ev (fun k => spec_l71Any.f k b p) (L, S, q) ∧ L.length ≤ 8 ∧ nTs S ≤ 2000 ∧ p ≤ q ∧ q ≤ p + 30000 := by
 obtain ⟨L, S, q, e, e1, e2, e3, e4, e5⟩ := prog_ev hb p hp (by omega)
 obtain ⟨r, h, a, c⟩ := pick_ev hb q 3 (by omega) (by omega) (by omega) (by omega)
 by_cases c0 : r > 0
 ·obtain ⟨L1, S1, q1, f, f1, f2, f3, f4, f5⟩ := fine_ev hb (q + 1) (by omega) (by omega)
  obtain ⟨L', S', q', g, g1, g2, g3, g4⟩ := any_end hb q1 (by omega) (by omega) L1 S1 f1 f2 f3
  refine ⟨L', S', q', ?_, g1, g2, by omega, by omega⟩
  unfold spec_l71Any.f
  refine Ev.bind e (Ev.bind h ?_)
  simp only [c0, if_true]
  exact Ev.bind f g
 ·obtain ⟨L', S', q', g, g1, g2, g3, g4⟩ := any_end hb (q + 1) (by omega) (by omega) L S e1 e2 e3
  refine ⟨L', S', q', ?_, g1, g2, by omega, by omega⟩
  unfold spec_l71Any.f
  refine Ev.bind e (Ev.bind h ?_)
  simp only [c0, if_false]
  exact g
end Go.Proofs.Ytkkdeojbkfjlpaa.A
namespace Go.Proofs.Ytkkdeojbkfjlpaa.A
open Go.RowKit Go.Proofs.YtkkdeojbkfjlpaaW.PrintWords Go.Proofs.YtkkdeojbkfjlpaaW.PrintLast Go.Proofs.YtkkdeojbkfjlpaaW.PrintMore
/-- A program's size, -1 if it is none. -/
def sizeP (L : List S35) (S : List S40) : Int := if progB L S = true then (nTs S : Int) else -1
theorem sizeP_ok {L : List S35} {S : List S40} (h : progB L S = true) : sizeP L S = (nTs S : Int) := if_pos h
theorem sizeP_no {L : List S35} {S : List S40} (h : progB L S = false) : sizeP L S = -1 := if_neg (by rw [h]; decide)
theorem sp_sizeP (L : List S35) (S : List S40) (h1 : L.length ≤ 1048576) (h2 : nTs S ≤ 1048576) : Ev (fun k => spec_ProgSize.f k L S) (sizeP L S) := by
 unfold spec_ProgSize.f sizeP
 refine Ev.bind (sp_progOk _ _ h1 h2) ?_
 cases progB L S with
 | false => simp only [Bool.false_eq_true, if_false]; exact Ev.now _
 | true => simp only [if_true]; exact Ev.bind (sp_count _ h2) (Ev.now _)
theorem im_sizeP (L : List S35) (S : List S40) (h1 : L.length ≤ 1048576) (h2 : nTs S ≤ 1048576) : Ev (fun k => impl_ProgSize.f k L S) (sizeP L S) := by
 unfold impl_ProgSize.f sizeP
 refine Ev.bind (im_progOk _ _ h1 h2) ?_
 cases progB L S with
 | false => simp only [Bool.false_eq_true, if_false]; exact Ev.now _
 | true => simp only [if_true]; exact Ev.bind (im_size _ h2) (Ev.now _)
theorem okTs_mono : ∀ l : List S40, ∀ (n d e : Int), d ≤ e → okTs n l d = true → okTs n l e = true := by
 refine tree_ind fun l ih n d e hde h => ?_
 have : ∀ r : List S40, (∀ s ∈ r, s ∈ l) → okTs n r d = true → okTs n r e = true := by
  intro r
  induction r with
  | nil => intro _ _; rw [okTs]
  | cons s r ihr =>
   intro hm h
   rw [okTs, Bool.and_eq_true] at h ⊢
   refine ⟨?_, ihr (fun x hx => hm x (List.mem_cons_of_mem _ hx)) h.2⟩
   obtain ⟨i4, i5⟩ := ih s (hm s List.mem_cons_self)
   have h1 := h.1
   rw [okT_eq] at h1 ⊢
   simp only [Bool.and_eq_true, decide_eq_true_eq] at h1 ⊢
   refine ⟨by omega, h1.2.1, ?_⟩
   have h2 := h1.2.2
   by_cases k1 : s.f0 = 1
   ·rw [if_pos k1] at h2 ⊢; exact h2
   ·rw [if_neg k1] at h2 ⊢
    by_cases k3 : s.f0 = 3
    ·rw [if_pos k3] at h2 ⊢; exact h2
    ·rw [if_neg k3] at h2 ⊢
     by_cases k2 : s.f0 = 2
     ·rw [if_pos k2] at h2 ⊢
      simp only [Bool.and_eq_true] at h2 ⊢
      exact ⟨h2.1, h2.2.1, i4 n (d - 1) (e - 1) (by omega) h2.2.2.1, i5 n (d - 1) (e - 1) (by omega) h2.2.2.2⟩
     ·rw [if_neg k2] at h2; cases h2
 exact this l (fun _ h => h) h
theorem okT_sub {n : Int} {s : S40} {d : Int} (h : okT n s d = true) : okTs n s.f4 d = true ∧ okTs n s.f5 d = true := by
 rw [okT_eq] at h
 simp only [Bool.and_eq_true, decide_eq_true_eq] at h
 have h2 := h.2.2
 have e : ∀ l : List S40, l.isEmpty = true → okTs n l d = true := fun l hl => by
  rw [List.isEmpty_iff] at hl
  rw [hl, okTs]
 by_cases k1 : s.f0 = 1
 ·rw [if_pos k1] at h2
  simp only [Bool.and_eq_true] at h2
  exact ⟨e _ h2.2.2.1, e _ h2.2.2.2⟩
 ·rw [if_neg k1] at h2
  by_cases k3 : s.f0 = 3
  ·rw [if_pos k3] at h2
   simp only [Bool.and_eq_true] at h2
   exact ⟨e _ h2.2.2.1, e _ h2.2.2.2⟩
  ·rw [if_neg k3] at h2
   by_cases k2 : s.f0 = 2
   ·rw [if_pos k2] at h2
    simp only [Bool.and_eq_true] at h2
    exact ⟨okTs_mono _ _ _ _ (by omega) h2.2.2.1, okTs_mono _ _ _ _ (by omega) h2.2.2.2⟩
   ·rw [if_neg k2] at h2; cases h2
theorem okTs_mem {n : Int} {d : Int} : ∀ {l : List S40} {s : S40}, okTs n l d = true → s ∈ l → okT n s d = true := by
 intro l
 induction l with
 | nil => intro s _ h; cases h
 | cons a r ih =>
  intro s h hs
  rw [okTs, Bool.and_eq_true] at h
  rcases List.mem_cons.1 hs with e | e
  ·rw [e]; exact h.1
  ·exact ih h.2 e
theorem prog_sub {L : List S35} {S : List S40} {s : S40} (h : progB L S = true) (hs : s ∈ S) : progB L s.f4 = true ∧ progB L s.f5 = true := by
 unfold progB at h ⊢
 simp only [Bool.and_eq_true, decide_eq_true_eq] at h ⊢
 have h1 := okT_sub (okTs_mem h.2.2.1 hs)
 have h2 := nTs_mem hs
 exact ⟨⟨h.1, h.2.1, h1.1, by omega⟩, ⟨h.1, h.2.1, h1.2, by omega⟩⟩
end Go.Proofs.Ytkkdeojbkfjlpaa.A
namespace Go.Proofs.Ytkkdeojbkfjlpaa.A
open Go.RowKit Go.Proofs.YtkkdeojbkfjlpaaW.PrintWords Go.Proofs.YtkkdeojbkfjlpaaW.PrintLast Go.Proofs.YtkkdeojbkfjlpaaW.PrintMore
theorem sp_hasK {s : Int} (hs : isS s = true) (h : Int) : spec_l1Has.f s h = some (hasB s h) := by
 cases hh : hostB h with
 | true =>
  obtain ⟨x, rfl⟩ := as_fin hs
  obtain ⟨y, rfl⟩ := as_host hh
  exact has_fin x y
 | false =>
  have e : hasB s h = false := by simp [hasB, hh]
  rw [e]
  have hn : ¬ (0 ≤ h ∧ h ≤ 2) := by simpa [hostB] using hh
  unfold spec_l1Has.f
  by_cases c1 : h ≥ 0
  ·have c2 : ¬ h < 3 := by omega
   simp [c1, c2]
  ·simp [c1]
theorem rdOf_map {L : List S35} (g : S35 → Bool) {i : Nat} (h : i < L.length) : rdOf false (L.map g) (i : Int) = g (D35 L (i : Int)) := by
 simp [rdOf, D35, List.getD_eq_getElem?_getD, List.getElem?_eq_getElem h]
theorem take_map {L : List S35} (g : S35 → Bool) {i : Nat} (h : i < L.length) : (L.map g).take i ++ [g (D35 L (i : Int))] = (L.map g).take (i + 1) := by
 have h' : i < (L.map g).length := by simpa using h
 rw [List.take_succ_eq_append_getElem h']
 simp [D35, List.getD_eq_getElem?_getD, List.getElem?_eq_getElem h]
theorem lab_ok {L : List S35} (hL : L.all (fun x => okL x.f0 x.f1) = true) {i : Nat} (h : i < L.length) : isS (D35 L (i : Int)).f0 = true ∧ isS (D35 L (i : Int)).f1 = true := by
 have hm : D35 L (i : Int) ∈ L := by
  simp only [D35, Int.toNat_natCast, List.getD_eq_getElem?_getD, List.getElem?_eq_getElem h, Option.getD_some]
  exact List.getElem_mem h
 exact okL_iff.1 (List.all_eq_true.1 hL _ hm)
/-- Of each variable whether a host is in a set of its label. -/
def rowP (L : List S35) (S : List S40) (g : S35 → Bool) : List Bool := if progB L S = true then L.map g else []
end Go.Proofs.Ytkkdeojbkfjlpaa.A
namespace Go.Proofs.Ytkkdeojbkfjlpaa.A
open Go.RowKit Go.Proofs.YtkkdeojbkfjlpaaW.PrintWords Go.Proofs.YtkkdeojbkfjlpaaW.PrintLast Go.Proofs.YtkkdeojbkfjlpaaW.PrintMore
/-- A program is fine. -/
def typeB (L : List S35) (S : List S40) : Bool := if progB L S = true then !(whyP L S).2 else false
theorem whyR_two (L : List S35) : ∀ (a : List S40) (m : List S35) (i : Int), m.length = a.length → (whyR L a m i).2 = !(a.zip m).all (fun x => fineB L x.1 x.2) := by
 intro a
 induction a with
 | nil => intro m i h; cases m <;> simp [whyR]
 | cons s r ih =>
  intro m i h
  cases m with
  | nil => simp at h
  | cons x m =>
   simp only [List.length_cons] at h
   have := ih m (i + 1) (by omega)
   simp only [whyR, List.zip_cons_cons, List.all_cons]
   cases fineB L s x with
   | false => simp
   | true => simp [this]
theorem alTs_append (a b : List S40) : alTs (a ++ b) = alTs a ++ alTs b := by
 induction a with
 | nil => rw [List.nil_append, alTs, List.nil_append]
 | cons s r ih => rw [List.cons_append, alTs, alTs, ih, List.append_assoc]
theorem laTs_append (L : List S35) (a b : List S40) (p q : Int) : laTs L (a ++ b) p q = laTs L a p q ++ laTs L b p q := by
 induction a with
 | nil => rw [List.nil_append, laTs, List.nil_append]
 | cons s r ih => rw [List.cons_append, laTs, laTs, ih, List.append_assoc]
/-- All steps are fine, from what is known on. -/
def allB (L : List S35) (S : List S40) (p q : Int) : Bool := ((alTs S).zip (laTs L S p q)).all (fun x => fineB L x.1 x.2)
theorem typeB_ok {L : List S35} {S : List S40} (h : progB L S = true) : typeB L S = allB L S 7 7 := by
 rw [typeB, if_pos h, whyP, whyR_two L _ _ _ (by rw [laTs_length, alTs_length]), Bool.not_not, allB]
theorem typeB_no {L : List S35} {S : List S40} (h : progB L S = false) : typeB L S = false := if_neg (by rw [h]; decide)
theorem allB_append (L : List S35) (a b : List S40) (p q : Int) : allB L (a ++ b) p q = (allB L a p q && allB L b p q) := by
 unfold allB
 rw [alTs_append, laTs_append, List.zip_append (by rw [laTs_length, alTs_length]), List.all_append]
theorem okTs_append (n : Int) (a b : List S40) (d : Int) : okTs n (a ++ b) d = (okTs n a d && okTs n b d) := by
 induction a with
 | nil => rw [List.nil_append, okTs, Bool.true_and]
 | cons s r ih => rw [List.cons_append, okTs, okTs, ih, Bool.and_assoc]
theorem prog_part {L : List S35} {a b : List S40} (h : progB L (a ++ b) = true) : progB L a = true ∧ progB L b = true := by
 unfold progB at h ⊢
 rw [okTs_append, nTs_append] at h
 simp only [Bool.and_eq_true, decide_eq_true_eq] at h ⊢
 exact ⟨⟨h.1, h.2.1, h.2.2.1.1, by omega⟩, ⟨h.1, h.2.1, h.2.2.1.2, by omega⟩⟩
end Go.Proofs.Ytkkdeojbkfjlpaa.A
