/- Go functions as Lean functions, and for each its contract; written by wip/tools/pr.py over the kit's print. -/
import Derived.Test.YtaflodibibbakaaBx0
import Derived.Test.YtaflodibibbakaaBx6
namespace Go.Proofs.Ytaflodibibbakaa.B
open Go.RowKit Go.Proofs.YtaflodibibbakaaW.PrintWords Go.Proofs.YtaflodibibbakaaW.PrintLast Go.Proofs.YtaflodibibbakaaW.PrintMore
attribute [local go_sem] max2_int min2_int max_two min_two max_three min_three max_four min_four
set_option linter.unusedVariables false
set_option linter.unusedSimpArgs false
set_option maxHeartbeats 8000000
set_option maxRecDepth 100000

/-! ### laws.markStepS: a tree of steps is written over; told of it: what it answers, and which blocks it may have written -/
mutual
/-- How many steps there are, with all in them. -/
def laws_markStepS.nT : S50 → Nat
 | ⟨_, _, _, _, t, e⟩ => 1 + laws_markStepS.nTs t + laws_markStepS.nTs e
def laws_markStepS.nTs : List S50 → Nat
 | [] => 0
 | x :: r => laws_markStepS.nT x + laws_markStepS.nTs r
end
mutual
/-- The same tree without its numbers. -/
def laws_markStepS.zr : S50 → S50
 | ⟨_, _, _, _, t, e⟩ => ⟨0, 0, z48, 0, laws_markStepS.zrs t, laws_markStepS.zrs e⟩
def laws_markStepS.zrs : List S50 → List S50
 | [] => []
 | x :: r => laws_markStepS.zr x :: laws_markStepS.zrs r
end
def laws_markStepS.f (l0 : List S50) (a1 : Int) : Option Int := if 0 ≤ a1 then (if a1 + 6 * (laws_markStepS.nTs l0 : Int) ≤ 4611686018427387904 then some (a1 + 6 * (laws_markStepS.nTs l0 : Int)) else none) else none
namespace laws_markStepS
/-- A row of flat elements: its one block. -/
theorem R_flat {α : Type} {d : Kd α} {e base : Nat} {W : World} {ok : Nat → Prop} {v : Value} {xs : List α} (hE : d.E = []) (h : d.R e W base ok v xs) : d.R e W base (fun k => ok k ∧ some k = v.ownBlock) v xs := Kd.R_mono (Kd.R_tight hE h) (fun k hk => ⟨h.1 k hk.symm, hk⟩)
theorem zrs_map (l : List S50) : zrs l = l.map zr := by
 induction l with
 | nil => rfl
 | cons x r ih => simp [zrs, ih]
theorem nT_eq (x : S50) : nT x = 1 + nTs x.f4 + nTs x.f5 := by cases x; rfl
theorem zr_eq (x : S50) : zr x = ⟨0, 0, z48, 0, zrs x.f4, zrs x.f5⟩ := by cases x; rfl
mutual
theorem nT_zr : ∀ x : S50, nT (zr x) = nT x
 | ⟨_, _, _, _, t, e⟩ => by simp only [zr, nT, nTs_zr t, nTs_zr e]
theorem nTs_zr : ∀ l : List S50, nTs (zrs l) = nTs l
 | [] => rfl
 | x :: r => by simp only [zrs, nTs, nT_zr x, nTs_zr r]
end
theorem nTs_same {l l' : List S50} (h : zrs l' = zrs l) : nTs l' = nTs l := by rw [← nTs_zr l', h, nTs_zr]
theorem len_same {l l' : List S50} (h : zrs l' = zrs l) : l'.length = l.length := by
 have := congrArg List.length h
 simpa [zrs_map] using this
/-- Two runs of cells are the same but for numbers where an element has numbers. -/
def Alike (c c' : Nat → Option Value) : Prop := ∀ p, c' p = c p ∨ (p % 8 < 6 ∧ ∃ x y : Int, c p = some (.int .i64 x) ∧ c' p = some (.int .i64 y))
theorem Alike.trans {a b c : Nat → Option Value} (h : Alike a b) (k : Alike b c) : Alike a c := fun p => by
 rcases h p with h1 | ⟨hp, x, y, h1, h2⟩
 ·rcases k p with k1 | ⟨kp, x', y', k1, k2⟩
  ·exact .inl (k1.trans h1)
  ·exact .inr ⟨kp, x', y', h1.symm.trans k1, k2⟩
 ·rcases k p with k1 | ⟨kp, x', y', k1, k2⟩
  ·exact .inr ⟨hp, x, y, h1, k1.trans h2⟩
  ·exact .inr ⟨hp, x, y', h1, k2⟩
/-- One world is another but for numbers of steps, in blocks that P holds of. -/
structure Sim (base : Nat) (P : Nat → Prop) (w w' : World) : Prop where
 size : w.heap.size ≤ w'.heap.size
 block : ∀ k, k < w.heap.size → w'.heap[k]? = w.heap[k]? ∨ (base ≤ k ∧ P k ∧ ∃ cs cs' : Array Value, w.heap[k]? = some (.cells cs 50 (0, 0)) ∧ w'.heap[k]? = some (.cells cs' 50 (0, 0)) ∧ cs'.size = cs.size ∧ Alike (fun p => cs[p]?) (fun p => cs'[p]?))
theorem Sim.refl (base : Nat) (P : Nat → Prop) (w : World) : Sim base P w w := ⟨Nat.le_refl _, fun _ _ => .inl rfl⟩
theorem Sim.trans {base : Nat} {P : Nat → Prop} {w w1 w2 : World} (h : Sim base P w w1) (g : Sim base P w1 w2) : Sim base P w w2 := by
 refine ⟨Nat.le_trans h.size g.size, fun k hk => ?_⟩
 rcases h.block k hk with h1 | ⟨hb, hp, cs, cs', h1, h2, hs, ha⟩
 ·(
 rcases g.block k (Nat.lt_of_lt_of_le hk h.size) with g1 | ⟨gb, gp, ds, ds', g1, g2, gs, ga⟩
 ·exact .inl (g1.trans h1)
 ·exact .inr ⟨gb, gp, ds, ds', h1.symm.trans g1, g2, gs, ga⟩)
 ·(
 rcases g.block k (Nat.lt_of_lt_of_le hk h.size) with g1 | ⟨gb, gp, ds, ds', g1, g2, gs, ga⟩
 ·exact .inr ⟨hb, hp, cs, cs', h1, g1.trans h2, hs, ha⟩
 ·(
 rw [h2] at g1
 injection g1 with g1
 injection g1 with g1
 subst g1
 exact .inr ⟨hb, hp, cs, ds', h1, g2, gs.trans hs, ha.trans ga⟩))
theorem Sim.kept {base : Nat} {P : Nat → Prop} {w w' : World} (h : Sim base P w w') : Kept w w' P := ⟨h.size, fun i hi hn => (h.block i hi).elim id (fun ⟨_, hp, _⟩ => absurd hp hn)⟩
theorem Sim.drew {base : Nat} {P : Nat → Prop} {w w' : World} (h : Sim base P w w') : Sim base P w w'.drew := ⟨h.size, h.block⟩
theorem Sim.drewN {base : Nat} {P : Nat → Prop} {w w' : World} (h : Sim base P w w') (m : Nat) : Sim base P w (w'.drewN m) := ⟨h.size, h.block⟩
/-- A number of a step is written. -/
theorem Sim.set {base : Nat} {P : Nat → Prop} {w w' : World} (h : Sim base P w w') {g p : Nat} (hg : base ≤ g) (hP : P g) {cs : Array Value} (hb : w'.heap[g]? = some (.cells cs 50 (0, 0))) (hp : p % 8 < 6) {x : Int} (hx : w'.cell? ⟨g, p, none⟩ = some (.int .i64 x)) (y : Int) :
  Sim base P w (w'.setCell ⟨g, p, none⟩ (.int .i64 y)) := by
 refine h.trans ⟨by simp [World.setCell], fun k hk => ?_⟩
 by_cases hk' : k = g
 ·(
 subst hk'
 refine .inr ⟨hg, hP, cs, cs.setIfInBounds p (.int .i64 y), hb, blk_set hb p _, by simp, fun q => ?_⟩
 by_cases hq : q = p
 ·(
 subst hq
 have hx' : cs[q]? = some (.int .i64 x) := by simpa [World.cell?, hb] using hx
 have hlt := (Array.getElem?_eq_some_iff.1 hx').1
 exact .inr ⟨hp, x, y, hx', by simp [hlt]⟩)
 ·exact .inl (by simp [Array.getElem?_setIfInBounds, Ne.symm hq]))
 ·exact .inl (Below.heap_setCell w' ⟨g, p, none⟩ _ k hk')
theorem own_sim {base : Nat} {P : Nat → Prop} {w w' : World} (hs : Sim base P w w') {b n : Nat} {v : Value} {xs : List Value} (h : w.ownsRow b 50 8 v n xs) :
  ∃ xs', w'.ownsRow b 50 8 v n xs' ∧ Alike (fun p => xs[p]?) (fun p => xs'[p]?) := by
 obtain ⟨h1, h2⟩ := h
 rcases h2 with h2 | ⟨g, cap, cur, rfl, hg, hh, hc, hm, hsz, ht⟩
 ·exact ⟨xs, ⟨h1, .inl h2⟩, fun _ => .inl rfl⟩
 ·have hlt : g < w.heap.size := by
   rcases Nat.lt_or_ge g w.heap.size with z | z
   ·exact z
   ·rw [Array.getElem?_eq_none z] at hh
    cases hh
  rcases hs.block g hlt with e | ⟨_, _, cs, cs', e1, e2, e3, e4⟩
  ·exact ⟨xs, ⟨h1, .inr ⟨g, cap, cur, rfl, hg, e.trans hh, hc, hm, hsz, ht⟩⟩, fun _ => .inl rfl⟩
  ·rw [hh] at e1
   injection e1 with e1
   injection e1 with e1
   subst e1
   refine ⟨cs'.toList.take (n * 8), ⟨?_, .inr ⟨g, cap, cs', rfl, hg, e2, hc, hm, e3.trans hsz, rfl⟩⟩, fun p => ?_⟩
   ·rw [List.length_take, Array.length_toList, e3, hsz]
    exact Nat.min_eq_left (Nat.mul_le_mul_right _ hc)
   ·have a := e4 p
    subst ht
    simp only [List.getElem?_take, Array.getElem?_toList]
    by_cases hp : p < n * 8
    ·simpa [hp] using a
    ·simp [hp]
theorem elem_sim {n : Nat} {w w' : World} (ih : ∀ (b : Nat) (ok : Nat → Prop) (v : Value) (xs : List S50), (Kd.upto F50 8 [50] n).R 50 w b ok v xs → ∃ xs', (Kd.upto F50 8 [50] n).R 50 w' b ok v xs' ∧ zrs xs' = zrs xs)
  {b : Nat} {ok : Nat → Prop} {x : S50} {c c' : List Value} (h : (Kd.upto F50 8 [50] (n + 1)).M w b ok x c) (hl : c'.length = 8) (ha : Alike (fun p => c[p]?) (fun p => c'[p]?)) :
  ∃ x', (Kd.upto F50 8 [50] (n + 1)).M w' b ok x' c' ∧ zr x' = zr x := by
 obtain ⟨_, _, rfl, rfl, ⟨_, _, rfl, rfl, ⟨_, _, rfl, s2, ⟨_, _, rfl, rfl, ⟨_, _, rfl, ⟨v6, rfl, g6⟩, ⟨v7, rfl, g7⟩⟩⟩⟩⟩⟩ := h
 obtain rfl := k48_openM s2
 obtain ⟨t6, q6, e6⟩ := ih _ _ _ _ g6
 obtain ⟨t7, q7, e7⟩ := ih _ _ _ _ g7
 have num : ∀ p, p < 6 → (∃ y : Int, c'[p]? = some (.int .i64 y)) := by
  intro p hp
  rcases ha p with a | ⟨_, _, y, _, a⟩
  ·rcases p with _ | _ | _ | _ | _ | _ | p
   all_goals first | exact ⟨_, a⟩ | omega
  ·exact ⟨y, a⟩
 obtain ⟨y0, a0⟩ := num 0 (by omega)
 obtain ⟨y1, a1⟩ := num 1 (by omega)
 obtain ⟨y2, a2⟩ := num 2 (by omega)
 obtain ⟨y3, a3⟩ := num 3 (by omega)
 obtain ⟨y4, a4⟩ := num 4 (by omega)
 obtain ⟨y5, a5⟩ := num 5 (by omega)
 have a6 : c'[6]? = some v6 := by
  rcases ha 6 with a | ⟨hp, _⟩
  ·exact a
  ·exact absurd hp (by decide)
 have a7 : c'[7]? = some v7 := by
  rcases ha 7 with a | ⟨hp, _⟩
  ·exact a
  ·exact absurd hp (by decide)
 have hc : c' = [.int .i64 y0, .int .i64 y1, .int .i64 y2, .int .i64 y3, .int .i64 y4, .int .i64 y5, v6, v7] := by
  refine List.ext_getElem? (fun p => ?_)
  rcases p with _ | _ | _ | _ | _ | _ | _ | _ | p
  all_goals first | exact a0 | exact a1 | exact a2 | exact a3 | exact a4 | exact a5 | exact a6 | exact a7 | skip
  rw [List.getElem?_eq_none (by omega)]
  rfl
 subst hc
 refine ⟨⟨y0, y1, ⟨y2, y3, y4⟩, y5, t6, t7⟩, ⟨[.int .i64 y0], _, rfl, rfl, ⟨[.int .i64 y1], _, rfl, rfl, ⟨[.int .i64 y2, .int .i64 y3, .int .i64 y4], _, rfl, k48_mkM w' b ok ⟨y2, y3, y4⟩, ⟨[.int .i64 y5], _, rfl, rfl, ⟨[v6], [v7], rfl, ⟨v6, rfl, q6⟩, ⟨v7, rfl, q7⟩⟩⟩⟩⟩⟩, ?_⟩
 rw [zr_eq, zr_eq x]
 simp only [e6, e7]
theorem reps_sim {R R' : S50 → List Value → Prop} {xs : List S50} {cs cs' : List Value} (h : Reps R 8 xs cs) (hl : cs'.length = cs.length) (ha : Alike (fun p => cs[p]?) (fun p => cs'[p]?))
  (he : ∀ x c c', R x c → c'.length = 8 → Alike (fun p => c[p]?) (fun p => c'[p]?) → ∃ x', R' x' c' ∧ zr x' = zr x) : ∃ xs', Reps R' 8 xs' cs' ∧ zrs xs' = zrs xs := by
 have hj : ∀ j : Fin xs.length, ∃ x', R' x' ((cs'.drop (j.1 * 8)).take 8) ∧ zr x' = zr xs[j.1] := by
  intro j
  have hjl := j.2
  have hm : j.1 * 8 + 8 ≤ cs.length := by rw [h.1, ← Nat.succ_mul]; exact Nat.mul_le_mul_right _ hjl
  refine he _ _ _ (h.2 j.1 _ (List.getElem?_eq_getElem j.2)) (by rw [List.length_take, List.length_drop]; omega) (fun p => ?_)
  simp only [List.getElem?_take, List.getElem?_drop]
  by_cases hp : p < 8
  ·simp only [hp, if_true]
   rcases ha (j.1 * 8 + p) with a | ⟨a, b⟩
   ·exact .inl a
   ·exact .inr ⟨by omega, b⟩
  ·simp [hp]
 have hc : ∃ g : Fin xs.length → S50, ∀ j, R' (g j) ((cs'.drop (j.1 * 8)).take 8) ∧ zr (g j) = zr xs[j.1] := ⟨fun j => Classical.choose (hj j), fun j => Classical.choose_spec (hj j)⟩
 obtain ⟨g, hg⟩ := hc
 refine ⟨List.ofFn g, ⟨by rw [List.length_ofFn, hl, h.1], fun j p hp => ?_⟩, ?_⟩
 ·(
 obtain ⟨hlt, e⟩ := List.getElem?_eq_some_iff.1 hp
 rw [List.length_ofFn] at hlt
 rw [List.getElem_ofFn] at e
 subst e
 exact (hg ⟨j, hlt⟩).1)
 ·(
 rw [zrs_map, zrs_map]
 refine List.ext_getElem (by simp) (fun j h1 h2 => ?_)
 simp only [List.getElem_map, List.getElem_ofFn]
 exact (hg _).2)
theorem upto_sim {base : Nat} {P : Nat → Prop} {w w' : World} (hs : Sim base P w w') : ∀ (n b : Nat) (ok : Nat → Prop) (v : Value) (xs : List S50), (Kd.upto F50 8 [50] n).R 50 w b ok v xs → ∃ xs', (Kd.upto F50 8 [50] n).R 50 w' b ok v xs' ∧ zrs xs' = zrs xs := by
 intro n
 induction n with
 | zero =>
  rintro b ok v xs ⟨h0, inner, ho, hr⟩
  have : xs = [] := by
   cases xs with
   | nil => rfl
   | cons x r => exact (hr.2 0 x rfl).elim
  subst this
  obtain ⟨inner', ho', _⟩ := own_sim hs (ho : w.ownsRow b 50 8 v 0 inner)
  have e : inner' = [] := List.eq_nil_of_length_eq_zero (by have := ho'.1; omega)
  subst e
  exact ⟨[], ⟨h0, [], ho', Reps.none _ _⟩, rfl⟩
 | succ n ih =>
  rintro b ok v xs ⟨h0, inner, ho, hr⟩
  have sz : (Kd.upto F50 8 [50] (n + 1)).sz = 8 := rfl
  rw [sz] at ho hr
  obtain ⟨inner', ho', ha⟩ := own_sim hs ho
  obtain ⟨xs', hr', e⟩ := reps_sim (R' := (Kd.upto F50 8 [50] (n + 1)).M w' b (fun k => ok k ∧ some k ≠ v.ownBlock)) hr (by rw [ho'.1, ho.1]) ha (fun x c c' hx hl hc => elem_sim ih hx hl hc)
  exact ⟨xs', ⟨h0, inner', by rw [len_same e, sz]; exact ho', by rw [sz]; exact hr'⟩, e⟩
/-- A tree in the one world is a tree in the other, with other numbers. -/
theorem R_sim {base : Nat} {P : Nat → Prop} {w w' : World} (hs : Sim base P w w') {b : Nat} {ok : Nat → Prop} {v : Value} {xs : List S50} (h : k50.R 50 w b ok v xs) : ∃ xs', k50.R 50 w' b ok v xs' ∧ zrs xs' = zrs xs := by
 obtain ⟨n, h⟩ := Kd.fix_R_back mono50 h
 obtain ⟨xs', h', e⟩ := upto_sim hs n b ok v xs h
 exact ⟨xs', Kd.fix_R h', e⟩
section
variable {base g n cap : Nat} {P : Nat → Prop} {w W : World} {l0 : List S50}
theorem cellN (hs : Sim base P w W) (h : k50.R 50 w base P (.slice (some ⟨g, 0, none⟩) n cap) l0) (i : Int) (h0 : 0 ≤ i) (h1 : i < n) (j : Nat) (hj : j < 6) : ∃ y : Int, W.cell? ⟨g, i.toNat * 8 + j, none⟩ = some (.int .i64 y) ∧ W.frozen? ⟨g, i.toNat * 8 + j, none⟩ = false := by
 obtain ⟨xs', h', _⟩ := R_sim hs h
 obtain ⟨c, _, hM, hcc, hf⟩ := Kd.R_elem h' z50 i h0 h1
 obtain ⟨v6, v7, rfl, _, _⟩ := k50_openM hM
 rcases j with _ | _ | _ | _ | _ | _ | j
 all_goals first | exact ⟨_, hcc _ _ rfl, hf _⟩ | omega
theorem cellN0 (hs : Sim base P w W) (h : k50.R 50 w base P (.slice (some ⟨g, 0, none⟩) n cap) l0) (i : Int) (h0 : 0 ≤ i) (h1 : i < n) : ∃ y : Int, W.cell? ⟨g, i.toNat * 8, none⟩ = some (.int .i64 y) ∧ W.frozen? ⟨g, i.toNat * 8, none⟩ = false := cellN hs h i h0 h1 0 (by omega)
theorem put (hs : Sim base P w W) (h : k50.R 50 w base P (.slice (some ⟨g, 0, none⟩) n cap) l0) (i : Int) (h0 : 0 ≤ i) (h1 : i < n) (j : Nat) (hj : j < 6) (y : Int) : Sim base P w (W.setCell ⟨g, i.toNat * 8 + j, none⟩ (.int .i64 y)) := by
 obtain ⟨x, hx, _⟩ := cellN hs h i h0 h1 j hj
 obtain ⟨xs', h', _⟩ := R_sim hs h
 obtain ⟨hok, inner, ho, _⟩ := h'
 obtain ⟨cells, hc⟩ := own_typed ho g (by simp [Value.ownBlock])
 exact hs.set (own_base ho g (by simp [Value.ownBlock])) (hok g (by simp [Value.ownBlock])) hc (by omega) hx y
theorem put0 (hs : Sim base P w W) (h : k50.R 50 w base P (.slice (some ⟨g, 0, none⟩) n cap) l0) (i : Int) (h0 : 0 ≤ i) (h1 : i < n) (y : Int) : Sim base P w (W.setCell ⟨g, i.toNat * 8, none⟩ (.int .i64 y)) := put hs h i h0 h1 0 (by omega) y
theorem rowThen (hs : Sim base P w W) (h : k50.R 50 w base P (.slice (some ⟨g, 0, none⟩) n cap) l0) (i : Int) (h0 : 0 ≤ i) (h1 : i < n) : ∃ (A : Option Addr) (c m : Nat) (t : List S50), W.cell? ⟨g, i.toNat * 8 + 6, none⟩ = some (.slice A m c) ∧ k50.R 50 W base P (.slice A m c) t ∧ nTs t = nTs (l0.getD i.toNat z50).f4 := by
 obtain ⟨xs', h', e⟩ := R_sim hs h
 obtain ⟨c, _, hM, hcc, _⟩ := Kd.R_elem h' z50 i h0 h1
 obtain ⟨v6, v7, rfl, g6, g7⟩ := k50_openM hM
 obtain ⟨A, c, rfl⟩ := Kd.R_slice g6
 refine ⟨A, c, _, _, hcc 6 _ rfl, Kd.R_mono g6 (fun _ hk => hk.1), nTs_same ?_⟩
 have e2 : zr (xs'.getD i.toNat z50) = zr (l0.getD i.toNat z50) := by
  have := congrArg (fun l => l.getD i.toNat (zr z50)) e
  simpa [zrs_map, List.getD_eq_getElem?_getD, Option.getD_map] using this
 rw [zr_eq, zr_eq (l0.getD i.toNat z50)] at e2
 injection e2
theorem rowElse (hs : Sim base P w W) (h : k50.R 50 w base P (.slice (some ⟨g, 0, none⟩) n cap) l0) (i : Int) (h0 : 0 ≤ i) (h1 : i < n) : ∃ (A : Option Addr) (c m : Nat) (t : List S50), W.cell? ⟨g, i.toNat * 8 + 7, none⟩ = some (.slice A m c) ∧ k50.R 50 W base P (.slice A m c) t ∧ nTs t = nTs (l0.getD i.toNat z50).f5 := by
 obtain ⟨xs', h', e⟩ := R_sim hs h
 obtain ⟨c, _, hM, hcc, _⟩ := Kd.R_elem h' z50 i h0 h1
 obtain ⟨v6, v7, rfl, g6, g7⟩ := k50_openM hM
 obtain ⟨A, c, rfl⟩ := Kd.R_slice g7
 refine ⟨A, c, _, _, hcc 7 _ rfl, Kd.R_mono g7 (fun _ hk => hk.1), nTs_same ?_⟩
 have e2 : zr (xs'.getD i.toNat z50) = zr (l0.getD i.toNat z50) := by
  have := congrArg (fun l => l.getD i.toNat (zr z50)) e
  simpa [zrs_map, List.getD_eq_getElem?_getD, Option.getD_map] using this
 rw [zr_eq, zr_eq (l0.getD i.toNat z50)] at e2
 injection e2
end
theorem nTs_take (l : List S50) (i : Nat) (h : i < l.length) : nTs (l.take (i + 1)) = nTs (l.take i) + (1 + nTs (l.getD i z50).f4 + nTs (l.getD i z50).f5) := by
 induction l generalizing i with
 | nil => simp at h
 | cons x r ih =>
  cases i with
  | zero => simp [nTs, nT_eq]
  | succ i =>
   have := ih i (by simpa using h)
   simp only [List.take_succ_cons, nTs, List.getD_cons_succ, this]
   omega
theorem nTs_take_le (l : List S50) (i : Nat) : nTs (l.take i) ≤ nTs l := by
 induction l generalizing i with
 | nil => simp
 | cons x r ih =>
  cases i with
  | zero => simp [nTs]
  | succ i => have := ih i; simp only [List.take_succ_cons, nTs]; omega
end laws_markStepS
theorem laws_markStepS.walk (n : Nat) : ∀ (P0_ : Nat → Prop) (u9000_ : Value) (l0 : List S50) (a1 : Int) (w0 w : World), laws_markStepS.nTs l0 = n → 0 ≤ a1 → a1 + 6 * (laws_markStepS.nTs l0 : Int) ≤ 4611686018427387904 → Below w0.heap.size w0 w → Kd.R k50 50 w w0.heap.size P0_ u9000_ l0 →
  Calls Try.prog 43 #[u9000_, .int .i64 a1] w fun e w' => e = .returned (.int .i64 (a1 + 6 * (laws_markStepS.nTs l0 : Int))) ∧ Below w0.heap.size w0 w' ∧ laws_markStepS.Sim w0.heap.size P0_ w w' := by
 induction n using Nat.strongRecOn with
 | _ n ih =>
 intro P0_ u9000_ l0 a1 w0 w hn ha hm hB ho
 have HO1 := AM ho
 have HBS := AM hB
 have HSS := AM (laws_markStepS.Sim.refl w0.heap.size P0_ w)
 have HN := AM hn
 have HM := AM (And.intro ha hm)
 clear ho hB hn ha hm
 obtain ⟨A0, c0, rfl⟩ := Kd.R_slice HO1.out
 have HLEN := AM (Kd.R_reads' HO1.out).2.2.2.1
 go_enter Try.func43, Try.ntmps43
 go_wp2
 go_loopg [1, 5] l0.length (fun kq v1 v5 w' => ∃ (x1_1 : Int) (x5_1 : Int), v1 = .int .i64 x1_1 ∧ v5 = .int .i64 x5_1 ∧ Aside0 (0 ≤ x5_1 ∧ x5_1 ≤ (l0.length : Int) ∧ (kq : Int) = (l0.length : Int) - x5_1 ∧ x1_1 = a1 + 6 * (laws_markStepS.nTs (l0.take x5_1.toNat) : Int)) ∧ Aside0 (laws_markStepS.Sim w0.heap.size P0_ w w') ∧ Aside0 (Below w0.heap.size w0 w'))
 case atStart => exact ⟨a1, 0, (by first | rfl | (simp; done) | (simp [*]; done)), (by first | rfl | (simp; done) | (simp [*]; done)), ⟨by simp, by simp, by simp, by simp [laws_markStepS.nTs]⟩, ⟨by repeat (first | exact HSS.out | apply laws_markStepS.Sim.drewN | apply laws_markStepS.Sim.drew)⟩, ⟨by repeat (first | (with_reducible first | exact HBS.out | apply below_alloc | apply pw_below_drewN | apply below_drew1) | exact HBS.out)⟩⟩
 case round => (
 obtain ⟨x1_1, x5_1, rfl, rfl, HX, HS0, HB0⟩ := hrel
 clear HSS HBS
 by_cases c3 : x5_1 < (l0.length : Int)
 ·(
 have c3b0 := decide_eq_true c3
 have P5 := AM HX.out.1
 have Q5 := AM c3
 have p5 : (0 ≤ (x5_1 : Int)) = True := eq_true P5.out
 have q5 : ((x5_1 : Int) < (l0.length : Int)) = True := eq_true c3
 have L6 := AM (show laws_markStepS.nTs (l0.take x5_1.toNat) + (1 + laws_markStepS.nTs (l0.getD x5_1.toNat z50).f4 + laws_markStepS.nTs (l0.getD x5_1.toNat z50).f5) ≤ laws_markStepS.nTs l0 ∧ laws_markStepS.nTs l0 = n by
  have h0 := P5.out
  have h1 := laws_markStepS.nTs_take l0 x5_1.toNat (by omega)
  have h2 := laws_markStepS.nTs_take_le l0 (x5_1.toNat + 1)
  exact ⟨by omega, HN.out⟩)
 have X1 := AM (show 0 ≤ x1_1 ∧ x1_1 = a1 + 6 * (laws_markStepS.nTs (l0.take x5_1.toNat) : Int) ∧ 0 ≤ a1 ∧ a1 + 6 * (laws_markStepS.nTs l0 : Int) ≤ 4611686018427387904 by
  have h1 := HX.out.2.2.2
  have h2 := HM.out
  exact ⟨by omega, h1, h2.1, h2.2⟩)
 have KK := AM (show wrap64 ((wrap64 ((wrap64 ((wrap64 ((wrap64 ((wrap64 (x1_1 + 1)) + 1)) + 1)) + 1)) + 1)) + 1) = x1_1 + 6 by
  have h1 := X1.out
  have h2 := L6.out
  have f : ∀ x : Int, 0 ≤ x → x ≤ 4611686018427387910 → wrap64 (x + 1) = x + 1 := fun x _ _ => by unfold wrap64; omega
  rw [f x1_1 (by omega) (by omega), f (x1_1 + 1) (by omega) (by omega), f (x1_1 + 1 + 1) (by omega) (by omega), f (x1_1 + 1 + 1 + 1) (by omega) (by omega), f (x1_1 + 1 + 1 + 1 + 1) (by omega) (by omega), f (x1_1 + 1 + 1 + 1 + 1 + 1) (by omega) (by omega)]
  omega)
 have W5 := AM (show wrap64 (x5_1 + 1) = x5_1 + 1 by
  have h0 := P5.out
  have h1 := HLEN.out
  unfold wrap64
  omega)
 obtain ⟨g, cap, eo, gb, gl, cl, HG⟩ := Kd.R_form HO1.out (by have h0 := P5.out; have h1 := Q5.out; omega)
 (first | cases eo | (injection eo with ea_ en_ ec_; (first | subst ea_ | (injection ea_ with ea_; subst ea_)); subst ec_; clear en_))
 have GB := AM gb
 have HO := HO1
 clear gb gl HG c3
 obtain ⟨y0, hx0, hf0⟩ := laws_markStepS.cellN0 HS0.out HO.out x5_1 P5.out Q5.out
 go_wp2_with (first | ((with_reducible refine gate_store (t := 3) (p := 16) rfl ?_); refine store_event (t := 3) (p := 16) (v := ?vo_1) (w1 := (wr.setCell ⟨g, x5_1.toNat * 8, none⟩ (.int .i64 x1_1))) ?hg ?ho ?hn ?hr ?_; (case ho => rfl); (case hg => rfl); (case hn => rfl); (case hr => first | (go_simp; done) | (go_simp; rfl)); intro w1_ hw; have HS1 := AM (show laws_markStepS.Sim w0.heap.size P0_ w w1_ by rw [hw]; exact laws_markStepS.put0 HS0.out HO.out x5_1 P5.out Q5.out _); have HB1 := AM (show Below w0.heap.size w0 w1_ by rw [hw]; exact below_set HB0.out GB.out); clear hw hx0 hf0; obtain ⟨y1, hx1, hf1⟩ := laws_markStepS.cellN HS1.out HO.out x5_1 P5.out Q5.out 1 (by decide)) | ((with_reducible refine gate_store (t := 3) (p := 23) rfl ?_); refine store_event (t := 3) (p := 23) (v := ?vo_2) (w1 := (w1_.setCell ⟨g, x5_1.toNat * 8 + 1, none⟩ (.int .i64 (wrap64 (x1_1 + 1))))) ?hg ?ho ?hn ?hr ?_; (case ho => rfl); (case hg => rfl); (case hn => rfl); (case hr => first | (go_simp; done) | (go_simp; rfl)); intro w2_ hw; have HS2 := AM (show laws_markStepS.Sim w0.heap.size P0_ w w2_ by rw [hw]; exact laws_markStepS.put HS1.out HO.out x5_1 P5.out Q5.out 1 (by decide) _); have HB2 := AM (show Below w0.heap.size w0 w2_ by rw [hw]; exact below_set HB1.out GB.out); clear hw hx1 hf1; obtain ⟨y2, hx2, hf2⟩ := laws_markStepS.cellN HS2.out HO.out x5_1 P5.out Q5.out 2 (by decide)) | ((with_reducible refine gate_store (t := 3) (p := 31) rfl ?_); refine store_event (t := 3) (p := 31) (v := ?vo_3) (w1 := (w2_.setCell ⟨g, x5_1.toNat * 8 + 2, none⟩ (.int .i64 (wrap64 ((wrap64 (x1_1 + 1)) + 1))))) ?hg ?ho ?hn ?hr ?_; (case ho => rfl); (case hg => rfl); (case hn => rfl); (case hr => first | (go_simp; done) | (go_simp; rfl)); intro w3_ hw; have HS3 := AM (show laws_markStepS.Sim w0.heap.size P0_ w w3_ by rw [hw]; exact laws_markStepS.put HS2.out HO.out x5_1 P5.out Q5.out 2 (by decide) _); have HB3 := AM (show Below w0.heap.size w0 w3_ by rw [hw]; exact below_set HB2.out GB.out); clear hw hx2 hf2; obtain ⟨y3, hx3, hf3⟩ := laws_markStepS.cellN HS3.out HO.out x5_1 P5.out Q5.out 3 (by decide)) | ((with_reducible refine gate_store (t := 3) (p := 39) rfl ?_); refine store_event (t := 3) (p := 39) (v := ?vo_4) (w1 := (w3_.setCell ⟨g, x5_1.toNat * 8 + 3, none⟩ (.int .i64 (wrap64 ((wrap64 ((wrap64 (x1_1 + 1)) + 1)) + 1))))) ?hg ?ho ?hn ?hr ?_; (case ho => rfl); (case hg => rfl); (case hn => rfl); (case hr => first | (go_simp; done) | (go_simp; rfl)); intro w4_ hw; have HS4 := AM (show laws_markStepS.Sim w0.heap.size P0_ w w4_ by rw [hw]; exact laws_markStepS.put HS3.out HO.out x5_1 P5.out Q5.out 3 (by decide) _); have HB4 := AM (show Below w0.heap.size w0 w4_ by rw [hw]; exact below_set HB3.out GB.out); clear hw hx3 hf3; obtain ⟨y4, hx4, hf4⟩ := laws_markStepS.cellN HS4.out HO.out x5_1 P5.out Q5.out 4 (by decide)) | ((with_reducible refine gate_store (t := 3) (p := 47) rfl ?_); refine store_event (t := 3) (p := 47) (v := ?vo_5) (w1 := (w4_.setCell ⟨g, x5_1.toNat * 8 + 4, none⟩ (.int .i64 (wrap64 ((wrap64 ((wrap64 ((wrap64 (x1_1 + 1)) + 1)) + 1)) + 1))))) ?hg ?ho ?hn ?hr ?_; (case ho => rfl); (case hg => rfl); (case hn => rfl); (case hr => first | (go_simp; done) | (go_simp; rfl)); intro w5_ hw; have HS5 := AM (show laws_markStepS.Sim w0.heap.size P0_ w w5_ by rw [hw]; exact laws_markStepS.put HS4.out HO.out x5_1 P5.out Q5.out 4 (by decide) _); have HB5 := AM (show Below w0.heap.size w0 w5_ by rw [hw]; exact below_set HB4.out GB.out); clear hw hx4 hf4; obtain ⟨y5, hx5, hf5⟩ := laws_markStepS.cellN HS5.out HO.out x5_1 P5.out Q5.out 5 (by decide)) | ((with_reducible refine gate_store (t := 3) (p := 54) rfl ?_); refine store_event (t := 3) (p := 54) (v := ?vo_6) (w1 := (w5_.setCell ⟨g, x5_1.toNat * 8 + 5, none⟩ (.int .i64 (wrap64 ((wrap64 ((wrap64 ((wrap64 ((wrap64 (x1_1 + 1)) + 1)) + 1)) + 1)) + 1))))) ?hg ?ho ?hn ?hr ?_; (case ho => rfl); (case hg => rfl); (case hn => rfl); (case hr => first | (go_simp; done) | (go_simp; rfl)); intro w6_ hw; have HS6 := AM (show laws_markStepS.Sim w0.heap.size P0_ w w6_ by rw [hw]; exact laws_markStepS.put HS5.out HO.out x5_1 P5.out Q5.out 5 (by decide) _); have HB6 := AM (show Below w0.heap.size w0 w6_ by rw [hw]; exact below_set HB5.out GB.out); clear hw hx5 hf5; obtain ⟨A6, c6, m6, t6, hx6, hr6, e6⟩ := laws_markStepS.rowThen HS6.out HO.out x5_1 P5.out Q5.out; have HR6 := AM hr6; have E6 := AM e6; clear hr6 e6; obtain ⟨r6, z6⟩ : ∃ r : Int, r = x1_1 + 6 + 6 * (laws_markStepS.nTs t6 : Int) := ⟨_, rfl⟩; have Z6 := AM z6; clear z6) | ((with_reducible refine gate_callee (f := 43) rfl ?_); refine goesL_ (some 63) rfl rfl Try.func43 (by kernel_rfl) rfl #[.slice A6 m6 c6, .int .i64 (wrap64 ((wrap64 ((wrap64 ((wrap64 ((wrap64 ((wrap64 (x1_1 + 1)) + 1)) + 1)) + 1)) + 1)) + 1))] rfl (by (try simp only [List.map_toArray, List.map_cons, List.map_nil]); first | done | rfl) ?_; rw [KK.out]; refine (ih (laws_markStepS.nTs t6) (by have := E6.out; have := L6.out; omega) P0_ (.slice A6 m6 c6) t6 (x1_1 + 6) w0 w6_ rfl (by have := X1.out; omega) (by have := X1.out; have := E6.out; have := L6.out; omega) HB6.out HR6.out).mono ?_; rintro e w7_ ⟨rfl, hb, hs⟩; refine ⟨_, rfl, ?_⟩; rw [← Z6.out]; have HS7 := AM (HS6.out.trans hs); have HB7 := AM hb; clear hb hs hx6; obtain ⟨A7, c7, m7, t7, hx7, hr7, e7⟩ := laws_markStepS.rowElse HS7.out HO.out x5_1 P5.out Q5.out; have HR7 := AM hr7; have E7 := AM e7; clear hr7 e7; obtain ⟨r7, z7⟩ : ∃ r : Int, r = r6 + 6 * (laws_markStepS.nTs t7 : Int) := ⟨_, rfl⟩; have Z7 := AM z7; clear z7) | ((with_reducible refine gate_callee (f := 43) rfl ?_); refine goesL_ (some 70) rfl rfl Try.func43 (by kernel_rfl) rfl #[.slice A7 m7 c7, .int .i64 r6] rfl (by (try simp only [List.map_toArray, List.map_cons, List.map_nil]); first | done | rfl) ?_; refine (ih (laws_markStepS.nTs t7) (by have := E7.out; have := L6.out; omega) P0_ (.slice A7 m7 c7) t7 r6 w0 w7_ rfl (by have := X1.out; have := Z6.out; omega) (by have := X1.out; have := E6.out; have := E7.out; have := Z6.out; have := L6.out; omega) HB7.out HR7.out).mono ?_; rintro e w8_ ⟨rfl, hb, hs⟩; refine ⟨_, rfl, ?_⟩; rw [← Z7.out]; have HS8 := AM (HS7.out.trans hs); have HB8 := AM hb; clear hb hs hx7))
 go_roundg ((l0.length : Int) - x5_1 - 1).toNat
 case measure => have h1 := HX.out; have h2 := Q5.out; omega
 case rel => exact ⟨r7, wrap64 (x5_1 + 1), (by first | rfl | (simp; done) | (simp [*]; done)), (by first | rfl | (simp; done) | (simp [*]; done)), ⟨by rw [W5.out]; have h1 := HX.out; have h2 := Q5.out; have h3 := laws_markStepS.nTs_take l0 x5_1.toNat (by omega); have h4 := E6.out; have h5 := E7.out; have h6 := Z6.out; have h7 := Z7.out; rw [show (x5_1 + 1).toNat = x5_1.toNat + 1 by omega, h3]; refine ⟨by omega, by omega, by omega, by omega⟩⟩, ⟨by repeat (first | exact HS8.out | apply laws_markStepS.Sim.drewN | apply laws_markStepS.Sim.drew)⟩, ⟨by repeat (first | (with_reducible first | exact HB8.out | apply below_alloc | apply pw_below_drewN | apply below_drew1) | exact HB8.out)⟩⟩)
 ·(
 have c3b0 := decide_eq_false c3
 have C3 := AM c3
 clear c3
 go_wp2
 go_ret
 have h1 := HX.out
 have h2 := C3.out
 refine ⟨?_, by repeat (first | (with_reducible first | exact HB0.out | apply below_alloc | apply pw_below_drewN | apply below_drew1) | exact HB0.out), by repeat (first | exact HS0.out | apply laws_markStepS.Sim.drewN | apply laws_markStepS.Sim.drew)⟩
 rw [h1.2.2.2, List.take_of_length_le (by omega)]
 first | rfl | (simp; done)))
theorem laws_markStepS.calls (P0_ : Nat → Prop) (u9000_ : Value) (l0 : List (S50)) (a1 : Int) (r : Int) (w0 w : World) (hB : Below w0.heap.size w0 w) (ho0 : Kd.R k50 50 w w0.heap.size P0_ u9000_ l0) (h : laws_markStepS.f l0 a1 = some r) :
  Calls Try.prog 43 #[u9000_, .int .i64 a1] w fun e w' => e = .returned (.int .i64 r) ∧ Below w0.heap.size w0 w' ∧ Kept w w' (fun k_ => P0_ k_) := by
 unfold laws_markStepS.f at h
 split at h
 case isFalse => exact absurd h (by simp)
 rename_i h1
 split at h
 case isFalse => exact absurd h (by simp)
 rename_i h2
 obtain rfl := Option.some.inj h
 exact (laws_markStepS.walk _ P0_ u9000_ l0 a1 w0 w rfl h1 h2 hB ho0).mono fun e w' ⟨e1, e2, e3⟩ => ⟨e1, e2, e3.kept⟩

/-! ### laws_markProg: function 14 -/
def laws_markProg.f (k : Nat) (l0_0 : List (S60)) (l0_1 : List (S50)) (a1 : Int) : Option (Int × (List (S60))) := (laws_markLabelS.f k l0_0 a1).bind fun bt182 => ((laws_markStepS.f l0_1 bt182.1).bind fun t184 => (some (t184, bt182.2)))
theorem laws_markProg.calls (k : Nat) (P0_0_ : Nat → Prop) (u9000_ : Value) (l0_0 : List (S60)) (P0_1_ : Nat → Prop) (u9001_ : Value) (l0_1 : List (S50)) (a1 : Int) (r1 : Int) (r2 : List (S60)) (w0 w : World) (hB : Below w0.heap.size w0 w) (ho0_0 : Kd.R k60 60 w w0.heap.size P0_0_ u9000_ l0_0) (ho0_1 : Kd.R k50 50 w w0.heap.size P0_1_ u9001_ l0_1) (h : laws_markProg.f k l0_0 l0_1 a1 = some (r1, r2)) :
  Calls Try.prog 14 #[.agg #[u9000_, u9001_], .int .i64 a1] w fun e w' => e = .returned (.int .i64 r1) ∧ Kd.R k60 60 w' w0.heap.size (fun k_ => ((P0_0_ k_ ∨ P0_1_ k_) ∨ w.heap.size ≤ k_)) u9000_ r2 ∧ Below w0.heap.size w0 w' ∧ Kept w w' (fun k_ => P0_0_ k_ ∨ P0_1_ k_) := by
 have hu32 := Try.underlying32
 have HO0_0 := AM (show Kd.R k60 60 w w0.heap.size (fun k_ => ((P0_0_ k_ ∨ P0_1_ k_) ∨ w.heap.size ≤ k_)) u9000_ l0_0 from Kd.R_mono ho0_0 (fun k_ hk => (.inl (.inl hk))))
 have HO0_1 := AM (show Kd.R k50 50 w w0.heap.size (fun k_ => ((P0_0_ k_ ∨ P0_1_ k_) ∨ w.heap.size ≤ k_)) u9001_ l0_1 from Kd.R_mono ho0_1 (fun k_ hk => (.inl (.inr hk))))
 have HK := AM (Kept.refl w (fun k_ => P0_0_ k_ ∨ P0_1_ k_))
 have HW0 := AM hB.size
 have HB := AM hB
 clear hB
 have H := h
 unfold laws_markProg.f at H
 clear h
 obtain ⟨⟨t182, t183⟩, A3, H⟩ := ZOB H; try dsimp only at H
 obtain ⟨t184, A4, H⟩ := ZOB H; try dsimp only at H
 simp only [Option.some.injEq, Prod.mk.injEq] at H
 obtain ⟨rfl, rfl⟩ := H
 obtain ⟨Ao5, co5, eo5⟩ := Kd.R_slice HO0_0.out
 subst eo5
 obtain ⟨Ao6, co6, eo6⟩ := Kd.R_slice HO0_1.out
 subst eo6
 go_enter Try.func14, Try.ntmps14
 go_wp2_with (first | ((with_reducible refine gate_dst (N := 2) rfl ?_); refine ZX (N := 2) (cs := #[.slice Ao5 l0_0.length co5, .slice Ao6 l0_1.length co6]) (t := 32) ?_; intro gb181 hg w7 hbox hb; have BK181 := AM (hbox); have GW181 := AM ((by rw [hg]; exact (by first | exact HK.out.1 | exact (show Kept w _ (fun k_ => P0_0_ k_ ∨ P0_1_ k_) from ZHK HK).1) : w.heap.size ≤ gb181)); have GE181 : Aside0 (w0.heap.size ≤ gb181) := ZS hg; replace HO0_0 := AM (Kd.R_below (ZR HO0_0.out) hb); replace HO0_1 := AM (Kd.R_below (ZR HO0_1.out) hb); replace HK := AM (Kept.below (S := (fun k_ => P0_0_ k_ ∨ P0_1_ k_)) (ZHK HK) hb); replace HB := ZT HB hb; clear hb hbox hg; have hcz8 := ZC2 w7 BK181; have hfz8 := ZF2 BK181) | ((with_reducible refine gate_callee (f := 22) rfl ?_); refine ZGL (some 8) Try.func22 #[.slice Ao5 l0_0.length co5, .int .i64 a1] ?_; (with_reducible refine (laws_markLabelS.calls k (fun k_ => some k_ = (.slice Ao5 l0_0.length co5 : Value).ownBlock) (.slice Ao5 l0_0.length co5) l0_0 a1 t182 t183 w0 _ ?side1 ?side2 A3.out).mono ?_); (case side1 => repeat (first | (with_reducible first | exact HB.out | apply below_alloc | apply pw_below_drewN | apply below_drew1 | refine below_set ?_ GE181.out) | exact HB.out)); (case side2 => exact Kd.R_tight rfl HO0_0.out); rintro e w9 ⟨rfl, hy0, hb, hkp⟩; refine ⟨_, rfl, ?_⟩; replace HO0_1 := AM (Kd.R_mono (ok' := fun k_ => ((P0_0_ k_ ∨ P0_1_ k_) ∨ w.heap.size ≤ k_)) (Kd.R_keptB ((Kd.R_apart' HO0_1.out (Kd.R_typed HO0_0.out) (by decide))) hkp (fun k_ hk_ hs_ => (hk_.2) hs_)) (fun k_ hk_ => hk_.1.1)); replace BK181 := AM (blk_kept (ZK BK181.out) hkp (fun hs_ => (fun e_ => (Kd.R_ne HO0_0.out BK181.out (by decide)) e_) hs_)); replace HK := AM (Kept.then_ (S := (fun k_ => P0_0_ k_ ∨ P0_1_ k_)) (ZHK HK) hkp (fun k_ hs_ => (fun e_ => (HO0_0.out.1 k_ e_.symm)) hs_)); replace HO0_0 := AM (Kd.R_reok rfl hy0 (fun k_ e_ => HO0_0.out.1 k_ e_)); replace HB := AM (hb); (try clear hb); (try clear hkp); (try clear hy0); have hcz10 := ZC2 w9 BK181; have hfz10 := ZF2 BK181) | ((with_reducible refine gate_callee (f := 43) rfl ?_); refine ZGL (some 12) Try.func43 #[.slice Ao6 l0_1.length co6, .int .i64 t182] ?_; (with_reducible refine (laws_markStepS.calls ?P1_ (.slice Ao6 l0_1.length co6) l0_1 t182 t184 w0 _ ?side1 ?side2 A4.out).mono ?_); (case side1 => repeat (first | (with_reducible first | exact HB.out | apply below_alloc | apply pw_below_drewN | apply below_drew1 | refine below_set ?_ GE181.out) | exact HB.out)); (case side2 => exact (Kd.R_apart' HO0_1.out (Kd.R_typed HO0_0.out) (by decide))); rintro e w11 ⟨rfl, hb, hkp⟩; refine ⟨_, rfl, ?_⟩; have n0_ := AM (Kd.R_mono (ok' := fun k_ => ((P0_0_ k_ ∨ P0_1_ k_) ∨ w.heap.size ≤ k_)) (Kd.R_keptB (laws_markStepS.R_flat rfl ((Kd.R_apart' HO0_0.out (Kd.R_typed HO0_1.out) (by decide)))) hkp (fun k_ hk_ e_ => absurd hk_.2 (e_.2))) (fun k_ hk_ => by replace hk_ := And.intro hk_.1.1 hk_.2; first | exact hk_.1.1 | exact hk_.1.1.1 | simp [hk_])); have n2_ := AM (Kept.then_ (S := (fun k_ => P0_0_ k_ ∨ P0_1_ k_)) (ZHK HK) hkp (fun k_ hs_ => hs_.1)); have n3_ := AM (hb); clear HO0_0 BK181 HK HB HO0_1; have HO0_0 := n0_; have HK := n2_; have HB := n3_; clear n0_ n2_ n3_; (try clear hb); (try clear hkp)))
 go_ret
 exact ⟨ZE, by (with_reducible repeat (first | apply Kd.R_alloc | apply Kd.R_drewN | apply Kd.R_drew)); exact HO0_0.out, ZB, ZHK HK⟩

end Go.Proofs.Ytaflodibibbakaa.B
