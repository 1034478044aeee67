/- Go functions as Lean functions, and for each its contract; written by wip/tools/pr.py over the kit's print. -/
import Derived.Test.YtaflodibibbakaaBx0
import Derived.Test.YtaflodibibbakaaBx7
import Derived.Test.YtaflodibibbakaaBx16
namespace Go.Proofs.Ytaflodibibbakaa.B
open Go.RowKit Go.Proofs.YtaflodibibbakaaW.PrintWords Go.Proofs.YtaflodibibbakaaW.PrintLast Go.Proofs.YtaflodibibbakaaW.PrintMore
attribute [local go_sem] max2_int min2_int max_two min_two max_three min_three max_four min_four
set_option linter.unusedVariables false
set_option linter.unusedSimpArgs false
set_option maxHeartbeats 8000000
set_option maxRecDepth 100000

/-! ### laws.markStep: the trees that it is given are told behind it, with the numbers that it wrote -/
mutual
/-- A step, marked from a number on. -/
def Deep.mkT (a : Int) : S50 → S50
 | ⟨_, _, _, _, t, e⟩ => ⟨a, a + 1, ⟨a + 2, a + 3, a + 4⟩, a + 5, mkTs (a + 6) t, mkTs (a + 6 + 6 * (laws_markStepS.nTs t : Int)) e⟩
def Deep.mkTs (a : Int) : List S50 → List S50
 | [] => []
 | x :: r => mkT a x :: mkTs (a + 6 * (laws_markStepS.nT x : Int)) r
end
theorem Deep.mkT_eq (a : Int) (x : S50) : mkT a x = ⟨a, a + 1, ⟨a + 2, a + 3, a + 4⟩, a + 5, mkTs (a + 6) x.f4, mkTs (a + 6 + 6 * (laws_markStepS.nTs x.f4 : Int)) x.f5⟩ := by cases x; simp only [mkT]
theorem Deep.mkTs_len (l : List S50) : ∀ a, (mkTs a l).length = l.length := by
 induction l with
 | nil => intro a; rfl
 | cons x r ih => intro a; simp only [mkTs, List.length_cons, ih]
/-- The first i steps marked, the others as they were. -/
def Deep.Pm (a : Int) (l : List S50) (i : Nat) : List S50 := mkTs a (l.take i) ++ l.drop i
theorem Deep.Pm_zero (a : Int) (l : List S50) : Pm a l (0 : Int).toNat = l := rfl
theorem Deep.Pm_len (a : Int) (l : List S50) (i : Nat) : (Pm a l i).length = l.length := by
 simp only [Pm, List.length_append, mkTs_len, List.length_take, List.length_drop]; omega
theorem Deep.Pm_all {a : Int} {l : List S50} {i : Nat} (h : l.length ≤ i) : Pm a l i = mkTs a l := by
 rw [Pm, List.take_of_length_le h, List.drop_of_length_le h, List.append_nil]
theorem Deep.Pm_self {a : Int} {l : List S50} {i : Nat} (h : i < l.length) : (Pm a l i).set i (l.getD i z50) = Pm a l i := by
 refine List.ext_getElem? (fun j => ?_)
 rw [List.getElem?_set]
 split
 ·(
 rename_i e
 subst e
 have hl : (mkTs a (l.take i)).length = i := by rw [mkTs_len, List.length_take]; omega
 rw [if_pos (by rw [Pm_len]; exact h), Pm, List.getElem?_append_right (by omega), hl, Nat.sub_self, List.getElem?_drop, Nat.add_zero, List.getD_eq_getElem?_getD, List.getElem?_eq_getElem h]
 rfl)
 ·rfl
theorem Deep.Pm_step {a : Int} {l : List S50} {i : Nat} (h : i < l.length) : (Pm a l i).set i (mkT (a + 6 * (laws_markStepS.nTs (l.take i) : Int)) (l.getD i z50)) = Pm a l (i + 1) := by
 induction l generalizing i a with
 | nil => simp at h
 | cons x r ih =>
  cases i with
  | zero => simp [Pm, mkTs, laws_markStepS.nTs]
  | succ i =>
   have := ih (a := a + 6 * (laws_markStepS.nT x : Int)) (i := i) (by simpa using h)
   simp only [Pm, List.take_succ_cons, List.drop_succ_cons, mkTs, List.cons_append, List.set_cons_succ, List.getD_cons_succ, laws_markStepS.nTs] at this ⊢
   rw [← this, show a + 6 * ((laws_markStepS.nT x + laws_markStepS.nTs (r.take i) : Nat) : Int) = a + 6 * (laws_markStepS.nT x : Int) + 6 * (laws_markStepS.nTs (r.take i) : Int) by omega]
/-- A row told in the one world is told in the other of another list, in the same blocks; other blocks are as they were. -/
structure Deep.Mk (bs : List Nat) (v : Value) (w w' : World) (l : List S50) : Prop where
 tr : TR w' l bs v
 size : w.heap.size ≤ w'.heap.size
 other : ∀ k, k < w.heap.size → k ∉ bs → w'.heap[k]? = w.heap[k]?
theorem Deep.Mk.refl {bs : List Nat} {v : Value} {w : World} {l : List S50} (h : TR w l bs v) : Mk bs v w w l := ⟨h, Nat.le_refl _, fun _ _ _ => rfl⟩
theorem Deep.Mk.drew {bs : List Nat} {v : Value} {w w' : World} {l : List S50} (h : Mk bs v w w' l) : Mk bs v w w'.drew l := ⟨TR_move h.tr (fun _ _ => rfl), h.size, h.other⟩
theorem Deep.Mk.drewN {bs : List Nat} {v : Value} {w w' : World} {l : List S50} (h : Mk bs v w w' l) (m : Nat) : Mk bs v w (w'.drewN m) l := ⟨TR_move h.tr (fun _ _ => rfl), h.size, h.other⟩
theorem Deep.TR_slice {w : World} {l : List S50} {bs : List Nat} {v : Value} (h : TR w l bs v) : ∃ A c, v = .slice A l.length c := by
 obtain ⟨inner, b, ho, _, _⟩ := h
 rcases ho.2 with ⟨rfl, hl⟩ | ⟨g, cap, cur, rfl, _⟩
 ·exact ⟨none, 0, by rw [hl]⟩
 ·exact ⟨_, _, rfl⟩
theorem Deep.TR_len {w : World} {l : List S50} {bs : List Nat} {v : Value} (h : TR w l bs v) : l.length ≤ 9223372036854775807 := by
 obtain ⟨inner, b, ho, _, _⟩ := h
 rcases ho.2 with ⟨rfl, hl⟩ | ⟨g, cap, cur, rfl, _, _, h1, h2, _⟩
 ·omega
 ·(
 have : maxLen ≤ 9223372036854775807 := by decide
 omega)
theorem Deep.TR_form {w : World} {l : List S50} {bs : List Nat} {A : Option Addr} {n c i : Nat} (h : TR w l bs (.slice A n c)) (hi : i < l.length) : ∃ g, A = some ⟨g, 0, none⟩ ∧ g ∈ bs := by
 obtain ⟨inner, b, ho, _, rfl⟩ := h
 rcases ho.2 with ⟨_, hl⟩ | ⟨g, cap, cur, he, _⟩
 ·omega
 ·(
 injection he with he _ _
 subst he
 exact ⟨g, rfl, List.mem_append_left _ (own_mem.2 rfl)⟩)
theorem Deep.disj : ∀ {z : List (S50 × List Nat)}, (z.flatMap Prod.snd).Nodup → ∀ {i j : Nat} {p q : S50 × List Nat}, z[i]? = some p → z[j]? = some q → i ≠ j → ∀ k, k ∈ p.2 → k ∈ q.2 → False
 | [], _, i, j, p, q, hp, _, _, _, _, _ => by simp at hp
 | x :: r, hn, i, j, p, q, hp, hq, hij, k, hk, hk' => by
  have hn' := List.nodup_append.1 (show (x.2 ++ r.flatMap Prod.snd).Nodup from hn)
  cases i with
  | zero =>
   cases j with
   | zero => exact hij rfl
   | succ j =>
    have e : x = p := by simpa using hp
    subst e
    exact hn'.2.2 k hk k (List.mem_flatMap.2 ⟨q, List.mem_of_getElem? (by simpa using hq), hk'⟩) rfl
  | succ i =>
   cases j with
   | zero =>
    have e : x = q := by simpa using hq
    subst e
    exact hn'.2.2 k hk' k (List.mem_flatMap.2 ⟨p, List.mem_of_getElem? (by simpa using hp), hk⟩) rfl
   | succ j => exact disj hn'.2.1 (by simpa using hp) (by simpa using hq) (by omega) k hk hk'
theorem Deep.seg {α : Type} (l : List α) {i m : Nat} (h : i < m) : ((l.take (m * 8)).drop (i * 8)).take 8 = (l.drop (i * 8)).take 8 := by
 refine List.ext_getElem? (fun j => ?_)
 simp only [List.getElem?_take, List.getElem?_drop]
 by_cases hj : j < 8
 ·rw [if_pos hj, if_pos hj, if_pos (by omega)]
 ·rw [if_neg hj, if_neg hj]
/-- One element of a row, and the row with another element in its place. -/
theorem Deep.focus {W : World} {L : List S50} {bs : List Nat} {g n cap : Nat} (h : TR W L bs (.slice (some ⟨g, 0, none⟩) n cap)) (hn : bs.Nodup) {i : Nat} (hi : i < L.length) :
  ∃ (cur : Array Value) (b : List Nat), W.heap[g]? = some (.cells cur 50 (0, 0)) ∧ i * 8 + 8 ≤ cur.size ∧ T W (L.getD i z50) b ((cur.toList.drop (i * 8)).take 8) ∧ b.Nodup ∧ g ∈ bs ∧ (∀ k ∈ b, k ∈ bs ∧ k ≠ g) ∧
   ∀ (W' : World) (cur' : Array Value) (x' : S50), W'.heap[g]? = some (.cells cur' 50 (0, 0)) → cur'.size = cur.size → (∀ p, (p < i * 8 ∨ i * 8 + 8 ≤ p) → cur'[p]? = cur[p]?) → T W' x' b ((cur'.toList.drop (i * 8)).take 8) → (∀ k ∈ bs, k ≠ g → k ∉ b → W'.heap[k]? = W.heap[k]?) →
    TR W' (L.set i x') bs (.slice (some ⟨g, 0, none⟩) n cap) := by
 obtain ⟨inner, b0, ho, ht, rfl⟩ := h
 obtain ⟨z, rfl, rfl, hz⟩ := reps_of_Ts L b0 inner ht
 rw [List.length_map] at hi ho
 obtain ⟨hl, ho2⟩ := ho
 rcases ho2 with ⟨he, _⟩ | ⟨g', cap', cur, he, _, hh, hc, hm, hsz, htk⟩
 ·cases he
 injection he with he1 he2 he3
 injection he1 with he1
 injection he1 with he1 _ _
 subst he1 he2 he3
 have hsz' : z.length * 8 ≤ cur.size := by rw [hsz]; exact Nat.mul_le_mul_right _ hc
 have hn' := List.nodup_append.1 hn
 have hzi := List.getElem?_eq_getElem hi
 have hgd : (z.map Prod.fst).getD i z50 = (z[i]).1 := by rw [List.getD_eq_getElem?_getD, List.getElem?_map, hzi]; rfl
 have gm : g ∈ (Value.slice (some ⟨g, 0, none⟩) z.length cap).ownBlock.toList := own_mem.2 rfl
 have inz : ∀ {j : Nat} {q : S50 × List Nat}, z[j]? = some q → ∀ k ∈ q.2, k ∈ z.flatMap Prod.snd := fun hq k hk => List.mem_flatMap.2 ⟨_, List.mem_of_getElem? hq, hk⟩
 have ng : ∀ k ∈ z.flatMap Prod.snd, k ≠ g := fun k hk e => hn'.2.2 g gm k hk e.symm
 refine ⟨cur, (z[i]).2, hh, by omega, ?_, ?_, List.mem_append_left _ gm, fun k hk => ⟨List.mem_append_right _ (inz hzi k hk), ng k (inz hzi k hk)⟩, ?_⟩
 ·(
 rw [hgd, ← seg cur.toList hi, htk]
 exact hz.2 i _ hzi)
 ·(
 obtain ⟨l1, l2, e⟩ := List.append_of_mem (List.getElem_mem hi)
 have h1 := hn'.2.1
 rw [e, List.flatMap_append, List.flatMap_cons] at h1
 exact (List.nodup_append.1 (List.nodup_append.1 h1).2.1).1)
 ·(
 intro W' cur' x' hb' hs' hp' hT' ho'
 have es : (z.set i (x', (z[i]).2)).flatMap Prod.snd = z.flatMap Prod.snd := by
  rw [List.flatMap_def, List.flatMap_def, List.map_set]
  congr 1
  refine List.ext_getElem? (fun j => ?_)
  rw [List.getElem?_set]
  split
  ·rename_i e
   subst e
   rw [List.length_map, if_pos hi, List.getElem?_map, hzi]
   rfl
  ·rfl
 have ef : (z.set i (x', (z[i]).2)).map Prod.fst = (z.map Prod.fst).set i x' := by rw [List.map_set]
 have hl' : (cur'.toList.take (z.length * 8)).length = z.length * 8 := by
  have : cur'.toList.length = cur'.size := Array.length_toList
  rw [List.length_take, this]; omega
 refine ⟨cur'.toList.take (z.length * 8), (z.set i (x', (z[i]).2)).flatMap Prod.snd, ⟨?_, .inr ⟨g, cap, cur', ?_, Nat.zero_le _, hb', ?_, hm, by rw [hs', hsz], ?_⟩⟩, ef ▸ Ts_of_reps _ _ ⟨by rw [hl', List.length_set], fun j q hq => ?_⟩, by rw [es]⟩
 ·rw [hl', List.length_set, List.length_map]
 ·rw [List.length_set, List.length_map]
 ·rw [List.length_set, List.length_map]; exact hc
 ·rw [List.length_set, List.length_map]
 ·have hjl : j < z.length := by
   have := (List.getElem?_eq_some_iff.1 hq).1
   rwa [List.length_set] at this
  rw [seg _ hjl]
  rw [List.getElem?_set] at hq
  split at hq
  ·rename_i e
   subst e
   obtain rfl := Option.some.inj hq
   exact hT'
  ·rename_i e
   have h1 := hz.2 j q hq
   rw [← htk, seg _ hjl] at h1
   have e2 : (cur'.toList.drop (j * 8)).take 8 = (cur.toList.drop (j * 8)).take 8 := by
    refine List.ext_getElem? (fun t => ?_)
    simp only [List.getElem?_take, List.getElem?_drop, Array.getElem?_toList]
    by_cases ht8 : t < 8
    ·rw [if_pos ht8, if_pos ht8]
     exact hp' _ (by omega)
    ·rw [if_neg ht8, if_neg ht8]
   show T W' q.1 q.2 _
   rw [e2]
   exact (T_all h1).2.1 W' (fun k hk => ho' k (List.mem_append_right _ (inz hq k hk)) (ng k (inz hq k hk)) (fun hk' => disj hn'.2.1 hzi hq e k hk' hk)))
/-- A step with one of its numbers written over. -/
def Deep.setf (j : Nat) (y : Int) (x : S50) : S50 := match j with
 | 0 => ⟨y, x.f1, x.f2, x.f3, x.f4, x.f5⟩
 | 1 => ⟨x.f0, y, x.f2, x.f3, x.f4, x.f5⟩
 | 2 => ⟨x.f0, x.f1, ⟨y, x.f2.f1, x.f2.f2⟩, x.f3, x.f4, x.f5⟩
 | 3 => ⟨x.f0, x.f1, ⟨x.f2.f0, y, x.f2.f2⟩, x.f3, x.f4, x.f5⟩
 | 4 => ⟨x.f0, x.f1, ⟨x.f2.f0, x.f2.f1, y⟩, x.f3, x.f4, x.f5⟩
 | _ => ⟨x.f0, x.f1, x.f2, y, x.f4, x.f5⟩
section
variable {bs : List Nat} {g n cap i : Nat} {w W : World} {PM : List S50} {x : S50}
theorem Deep.getD_set {L : List S50} (hi : i < L.length) : (L.set i x).getD i z50 = x := by
 rw [List.getD_eq_getElem?_getD, List.getElem?_set, if_pos rfl, if_pos hi]; rfl
theorem Deep.cellN (h : Mk bs (.slice (some ⟨g, 0, none⟩) n cap) w W (PM.set i x)) (hn : bs.Nodup) (hi : i < PM.length) (j : Nat) (hj : j < 6) : ∃ y : Int, W.cell? ⟨g, i * 8 + j, none⟩ = some (.int .i64 y) ∧ W.frozen? ⟨g, i * 8 + j, none⟩ = false := by
 obtain ⟨cur, b, hb, _, hT, _⟩ := focus h.tr hn (i := i) (by rw [List.length_set]; exact hi)
 rw [getD_set hi] at hT
 obtain ⟨vt, ve, bt, be, hs, _⟩ := T_eq.1 hT
 have hc : ∀ (q : Nat) u, q < 8 → ((cur.toList.drop (i * 8)).take 8)[q]? = some u → W.cell? ⟨g, i * 8 + q, none⟩ = some u := by
  intro q u hq hu
  rw [blk_cell hb]
  simpa [List.getElem?_take, List.getElem?_drop, hq] using hu
 rcases j with _ | _ | _ | _ | _ | _ | j
 all_goals first | exact ⟨_, hc _ _ (by omega) (by rw [hs]; rfl), blk_frozen hb _⟩ | omega
theorem Deep.cellN0 (h : Mk bs (.slice (some ⟨g, 0, none⟩) n cap) w W (PM.set i x)) (hn : bs.Nodup) (hi : i < PM.length) : ∃ y : Int, W.cell? ⟨g, i * 8, none⟩ = some (.int .i64 y) ∧ W.frozen? ⟨g, i * 8, none⟩ = false := cellN h hn hi 0 (by omega)
theorem Deep.put (h : Mk bs (.slice (some ⟨g, 0, none⟩) n cap) w W (PM.set i x)) (hn : bs.Nodup) (hi : i < PM.length) (j : Nat) (hj : j < 6) (y : Int) : Mk bs (.slice (some ⟨g, 0, none⟩) n cap) w (W.setCell ⟨g, i * 8 + j, none⟩ (.int .i64 y)) (PM.set i (setf j y x)) := by
 obtain ⟨cur, b, hb, hsz, hT, hbn, hg, hk, hf⟩ := focus h.tr hn (i := i) (by rw [List.length_set]; exact hi)
 rw [getD_set hi] at hT
 obtain ⟨vt, ve, bt, be, hs, h1, h2, rfl⟩ := T_eq.1 hT
 have far : ∀ k, k ≠ g → (W.setCell ⟨g, i * 8 + j, none⟩ (.int .i64 y)).heap[k]? = W.heap[k]? := fun k hk => Below.heap_setCell W ⟨g, i * 8 + j, none⟩ _ k hk
 have hseg : ((cur.setIfInBounds (i * 8 + j) (.int .i64 y)).toList.drop (i * 8)).take 8 = ((cur.toList.drop (i * 8)).take 8).set j (.int .i64 y) := by
  refine List.ext_getElem? (fun t => ?_)
  simp only [List.getElem?_take, List.getElem?_drop, Array.getElem?_toList, List.getElem?_set, Array.getElem?_setIfInBounds, List.length_take, List.length_drop, Array.length_toList]
  by_cases ht : t < 8
  ·by_cases e : j = t
   ·subst e
    simp only [if_pos ht, if_true]
    rw [if_pos (by omega), if_pos (by omega)]
   ·rw [if_pos ht, if_neg (by omega), if_neg e, if_pos ht]
  ·rw [if_neg ht, if_neg ht, if_neg (by omega)]
 have := hf (W.setCell ⟨g, i * 8 + j, none⟩ (.int .i64 y)) (cur.setIfInBounds (i * 8 + j) (.int .i64 y)) (setf j y x) (blk_set hb _ _) (by simp) (fun p hp => by rw [Array.getElem?_setIfInBounds, if_neg (by omega)]) ?_ (fun k _ hkg _ => far k hkg)
 ·(
 rw [List.set_set] at this
 exact ⟨this, Nat.le_trans h.size (by simp [World.setCell]), fun k hkl hkn => (far k (fun e => hkn (e ▸ hg))).trans (h.other k hkl hkn)⟩)
 ·(
 have m1 := TR_move h1 (fun k hk' => far k (hk k (List.mem_append_left _ hk')).2)
 have m2 := TR_move h2 (fun k hk' => far k (hk k (List.mem_append_right _ hk')).2)
 rw [hseg, hs]
 rcases j with _ | _ | _ | _ | _ | _ | j
 all_goals first | exact T_eq.2 ⟨vt, ve, bt, be, rfl, m1, m2, rfl⟩ | omega)
theorem Deep.row4 (h : Mk bs (.slice (some ⟨g, 0, none⟩) n cap) w W (PM.set i x)) (hn : bs.Nodup) (hi : i < PM.length) : ∃ A c bt, W.cell? ⟨g, i * 8 + 6, none⟩ = some (.slice A x.f4.length c) ∧ TR W x.f4 bt (.slice A x.f4.length c) ∧ bt.Nodup ∧ (∀ k ∈ bt, k ∈ bs) ∧
  ∀ W' l', Mk bt (.slice A x.f4.length c) W W' l' → Mk bs (.slice (some ⟨g, 0, none⟩) n cap) w W' (PM.set i ⟨x.f0, x.f1, x.f2, x.f3, l', x.f5⟩) := by
 obtain ⟨cur, b, hb, hsz, hT, hbn, hg, hk, hf⟩ := focus h.tr hn (i := i) (by rw [List.length_set]; exact hi)
 rw [getD_set hi] at hT
 obtain ⟨vt, ve, bt, be, hs, h1, h2, rfl⟩ := T_eq.1 hT
 obtain ⟨A, c, rfl⟩ := TR_slice h1
 have hbn' := List.nodup_append.1 hbn
 have lt : ∀ k ∈ bs, k < W.heap.size := fun k hk => by
  obtain ⟨_, hc⟩ := TR_typed h.tr k hk
  exact (Array.getElem?_eq_some_iff.1 hc).1
 have hc : W.cell? ⟨g, i * 8 + 6, none⟩ = some (.slice A x.f4.length c) := by
  have := congrArg (fun l => l[6]?) hs
  rw [blk_cell hb]
  simpa [List.getElem?_take, List.getElem?_drop] using this
 refine ⟨A, c, bt, hc, h1, hbn'.1, fun k hk' => (hk k (List.mem_append_left _ hk')).1, fun W' l' m => ?_⟩
 have same : ∀ k ∈ bs, k ∉ bt → W'.heap[k]? = W.heap[k]? := fun k hk1 hk2 => m.other k (lt k hk1) hk2
 have gb : g ∉ bt := fun e => (hk g (List.mem_append_left _ e)).2 rfl
 have := hf W' cur ⟨x.f0, x.f1, x.f2, x.f3, l', x.f5⟩ ((same g hg gb).trans hb) rfl (fun _ _ => rfl) (by rw [hs]; exact T_eq.2 ⟨_, ve, bt, be, rfl, m.tr, TR_move h2 (fun k hk' => same k (hk k (List.mem_append_right _ hk')).1 (fun e => hbn'.2.2 k e k hk' rfl)), rfl⟩) (fun k hk1 _ hk3 => same k hk1 (fun e => hk3 (List.mem_append_left _ e)))
 rw [List.set_set] at this
 exact ⟨this, Nat.le_trans h.size m.size, fun k hkl hkn => (m.other k (Nat.lt_of_lt_of_le hkl h.size) (fun e => hkn (hk k (List.mem_append_left _ e)).1)).trans (h.other k hkl hkn)⟩
theorem Deep.row5 (h : Mk bs (.slice (some ⟨g, 0, none⟩) n cap) w W (PM.set i x)) (hn : bs.Nodup) (hi : i < PM.length) : ∃ A c bt, W.cell? ⟨g, i * 8 + 7, none⟩ = some (.slice A x.f5.length c) ∧ TR W x.f5 bt (.slice A x.f5.length c) ∧ bt.Nodup ∧ (∀ k ∈ bt, k ∈ bs) ∧
  ∀ W' l', Mk bt (.slice A x.f5.length c) W W' l' → Mk bs (.slice (some ⟨g, 0, none⟩) n cap) w W' (PM.set i ⟨x.f0, x.f1, x.f2, x.f3, x.f4, l'⟩) := by
 obtain ⟨cur, b, hb, hsz, hT, hbn, hg, hk, hf⟩ := focus h.tr hn (i := i) (by rw [List.length_set]; exact hi)
 rw [getD_set hi] at hT
 obtain ⟨vt, ve, bt, be, hs, h1, h2, rfl⟩ := T_eq.1 hT
 obtain ⟨A, c, rfl⟩ := TR_slice h2
 have hbn' := List.nodup_append.1 hbn
 have lt : ∀ k ∈ bs, k < W.heap.size := fun k hk => by
  obtain ⟨_, hc⟩ := TR_typed h.tr k hk
  exact (Array.getElem?_eq_some_iff.1 hc).1
 have hc : W.cell? ⟨g, i * 8 + 7, none⟩ = some (.slice A x.f5.length c) := by
  have := congrArg (fun l => l[7]?) hs
  rw [blk_cell hb]
  simpa [List.getElem?_take, List.getElem?_drop] using this
 refine ⟨A, c, be, hc, h2, hbn'.2.1, fun k hk' => (hk k (List.mem_append_right _ hk')).1, fun W' l' m => ?_⟩
 have same : ∀ k ∈ bs, k ∉ be → W'.heap[k]? = W.heap[k]? := fun k hk1 hk2 => m.other k (lt k hk1) hk2
 have gb : g ∉ be := fun e => (hk g (List.mem_append_right _ e)).2 rfl
 have := hf W' cur ⟨x.f0, x.f1, x.f2, x.f3, x.f4, l'⟩ ((same g hg gb).trans hb) rfl (fun _ _ => rfl) (by rw [hs]; exact T_eq.2 ⟨vt, _, bt, be, rfl, TR_move h1 (fun k hk' => same k (hk k (List.mem_append_left _ hk')).1 (fun e => hbn'.2.2 k hk' k e rfl)), m.tr, rfl⟩) (fun k hk1 _ hk3 => same k hk1 (fun e => hk3 (List.mem_append_right _ e)))
 rw [List.set_set] at this
 exact ⟨this, Nat.le_trans h.size m.size, fun k hkl hkn => (m.other k (Nat.lt_of_lt_of_le hkl h.size) (fun e => hkn (hk k (List.mem_append_right _ e)).1)).trans (h.other k hkl hkn)⟩
end
theorem laws_markStepS.deep (n : Nat) : ∀ (bs : List Nat) (u9000_ : Value) (l0 : List S50) (a1 : Int) (w0 w : World), laws_markStepS.nTs l0 = n → 0 ≤ a1 → a1 + 6 * (laws_markStepS.nTs l0 : Int) ≤ 4611686018427387904 → Below w0.heap.size w0 w → Deep.TR w l0 bs u9000_ → bs.Nodup → (∀ k ∈ bs, w0.heap.size ≤ k) →
  Calls Try.prog 43 #[u9000_, .int .i64 a1] w fun e w' => e = .returned (.int .i64 (a1 + 6 * (laws_markStepS.nTs l0 : Int))) ∧ Below w0.heap.size w0 w' ∧ Deep.Mk bs u9000_ w w' (Deep.mkTs a1 l0) := by
 induction n using Nat.strongRecOn with
 | _ n ih =>
 intro bs u9000_ l0 a1 w0 w hn ha hm hB ho hnd hbs
 have HO1 := AM ho
 have HBS := AM hB
 have HND := AM hnd
 have HLB := AM hbs
 have HSS := AM (Deep.Mk.refl ho)
 clear hnd hbs
 have HN := AM hn
 have HM := AM (And.intro ha hm)
 clear ho hB hn ha hm
 obtain ⟨A0, c0, rfl⟩ := Deep.TR_slice HO1.out
 have HLEN := AM (Deep.TR_len HO1.out)
 go_enter Try.func43, Try.ntmps43
 go_wp2
 go_loopg [1, 5] l0.length (fun kq v1 v5 w' => ∃ (x1_1 : Int) (x5_1 : Int), v1 = .int .i64 x1_1 ∧ v5 = .int .i64 x5_1 ∧ Aside0 (0 ≤ x5_1 ∧ x5_1 ≤ (l0.length : Int) ∧ (kq : Int) = (l0.length : Int) - x5_1 ∧ x1_1 = a1 + 6 * (laws_markStepS.nTs (l0.take x5_1.toNat) : Int)) ∧ Aside0 (Deep.Mk bs (.slice A0 l0.length c0) w w' (Deep.Pm a1 l0 x5_1.toNat)) ∧ Aside0 (Below w0.heap.size w0 w'))
 case atStart => exact ⟨a1, 0, (by first | rfl | (simp; done) | (simp [*]; done)), (by first | rfl | (simp; done) | (simp [*]; done)), ⟨by simp, by simp, by simp, by simp [laws_markStepS.nTs]⟩, ⟨by rw [Deep.Pm_zero]; repeat (first | exact HSS.out | apply Deep.Mk.drewN | apply Deep.Mk.drew)⟩, ⟨by repeat (first | (with_reducible first | exact HBS.out | apply below_alloc | apply pw_below_drewN | apply below_drew1) | exact HBS.out)⟩⟩
 case round => (
 obtain ⟨x1_1, x5_1, rfl, rfl, HX, HS0, HB0⟩ := hrel
 clear HSS HBS
 by_cases c3 : x5_1 < (l0.length : Int)
 ·(
 have c3b0 := decide_eq_true c3
 have P5 := AM HX.out.1
 have Q5 := AM c3
 have p5 : (0 ≤ (x5_1 : Int)) = True := eq_true P5.out
 have q5 : ((x5_1 : Int) < (l0.length : Int)) = True := eq_true c3
 have L6 := AM (show laws_markStepS.nTs (l0.take x5_1.toNat) + (1 + laws_markStepS.nTs (l0.getD x5_1.toNat z50).f4 + laws_markStepS.nTs (l0.getD x5_1.toNat z50).f5) ≤ laws_markStepS.nTs l0 ∧ laws_markStepS.nTs l0 = n by
  have h0 := P5.out
  have h1 := laws_markStepS.nTs_take l0 x5_1.toNat (by omega)
  have h2 := laws_markStepS.nTs_take_le l0 (x5_1.toNat + 1)
  exact ⟨by omega, HN.out⟩)
 have X1 := AM (show 0 ≤ x1_1 ∧ x1_1 = a1 + 6 * (laws_markStepS.nTs (l0.take x5_1.toNat) : Int) ∧ 0 ≤ a1 ∧ a1 + 6 * (laws_markStepS.nTs l0 : Int) ≤ 4611686018427387904 by
  have h1 := HX.out.2.2.2
  have h2 := HM.out
  exact ⟨by omega, h1, h2.1, h2.2⟩)
 have KK := AM (show wrap64 ((wrap64 ((wrap64 ((wrap64 ((wrap64 ((wrap64 (x1_1 + 1)) + 1)) + 1)) + 1)) + 1)) + 1) = x1_1 + 6 by
  have h1 := X1.out
  have h2 := L6.out
  have f : ∀ x : Int, 0 ≤ x → x ≤ 4611686018427387910 → wrap64 (x + 1) = x + 1 := fun x _ _ => by unfold wrap64; omega
  rw [f x1_1 (by omega) (by omega), f (x1_1 + 1) (by omega) (by omega), f (x1_1 + 1 + 1) (by omega) (by omega), f (x1_1 + 1 + 1 + 1) (by omega) (by omega), f (x1_1 + 1 + 1 + 1 + 1) (by omega) (by omega), f (x1_1 + 1 + 1 + 1 + 1 + 1) (by omega) (by omega)]
  omega)
 have W5 := AM (show wrap64 (x5_1 + 1) = x5_1 + 1 by
  have h0 := P5.out
  have h1 := HLEN.out
  unfold wrap64
  omega)
 have P5N := AM (show x5_1.toNat < l0.length by have h0 := P5.out; have h1 := Q5.out; omega)
 obtain ⟨g, eo, gm⟩ := Deep.TR_form HO1.out P5N.out
 subst eo
 have GB := AM (HLB.out g gm)
 clear gm c3
 obtain ⟨X, hX⟩ : ∃ X : S50, X = l0.getD x5_1.toNat z50 := ⟨_, rfl⟩
 have HXX := AM hX
 rw [← hX] at L6
 have LL := AM (show x5_1.toNat < (Deep.Pm a1 l0 x5_1.toNat).length by rw [Deep.Pm_len]; exact P5N.out)
 have HS0' := AM (show Deep.Mk bs (.slice (some ⟨g, 0, none⟩) l0.length c0) w _ ((Deep.Pm a1 l0 x5_1.toNat).set x5_1.toNat X) by rw [hX, Deep.Pm_self P5N.out]; exact HS0.out)
 clear HS0 hX
 obtain ⟨PM, hPM⟩ : ∃ PM, PM = Deep.Pm a1 l0 x5_1.toNat := ⟨_, rfl⟩
 rw [← hPM] at HS0' LL
 have HPM := AM hPM
 clear hPM
 have K1 := AM (show wrap64 (x1_1 + 1) = x1_1 + 1 by have h1 := X1.out; have h2 := L6.out; unfold wrap64; omega)
 have K2 := AM (show wrap64 (x1_1 + 1 + 1) = x1_1 + 2 by have h1 := X1.out; have h2 := L6.out; unfold wrap64; omega)
 have K3 := AM (show wrap64 (x1_1 + 2 + 1) = x1_1 + 3 by have h1 := X1.out; have h2 := L6.out; unfold wrap64; omega)
 have K4 := AM (show wrap64 (x1_1 + 3 + 1) = x1_1 + 4 by have h1 := X1.out; have h2 := L6.out; unfold wrap64; omega)
 have K5 := AM (show wrap64 (x1_1 + 4 + 1) = x1_1 + 5 by have h1 := X1.out; have h2 := L6.out; unfold wrap64; omega)
 obtain ⟨y0, hx0, hf0⟩ := Deep.cellN0 HS0'.out HND.out LL.out
 go_wp2_with (first | ((with_reducible refine gate_store (t := 3) (p := 16) rfl ?_); refine store_event (t := 3) (p := 16) (v := ?vo_1) (w1 := (wr.setCell ⟨g, x5_1.toNat * 8, none⟩ (.int .i64 x1_1))) ?hg ?ho ?hn ?hr ?_; (case ho => rfl); (case hg => rfl); (case hn => rfl); (case hr => first | (go_simp; done) | (go_simp; rfl)); intro w1_ hw; have HS1 := AM (show Deep.Mk bs (.slice (some ⟨g, 0, none⟩) l0.length c0) w w1_ (PM.set x5_1.toNat ⟨x1_1, X.f1, ⟨X.f2.f0, X.f2.f1, X.f2.f2⟩, X.f3, X.f4, X.f5⟩) by rw [hw]; exact Deep.put HS0'.out HND.out LL.out 0 (by decide) _); have HB1 := AM (show Below w0.heap.size w0 w1_ by rw [hw]; exact below_set HB0.out GB.out); clear hw hx0 hf0; obtain ⟨y1, hx1, hf1⟩ := Deep.cellN HS1.out HND.out LL.out 1 (by decide)) | ((with_reducible refine gate_store (t := 3) (p := 23) rfl ?_); refine store_event (t := 3) (p := 23) (v := ?vo_2) (w1 := (w1_.setCell ⟨g, x5_1.toNat * 8 + 1, none⟩ (.int .i64 (wrap64 (x1_1 + 1))))) ?hg ?ho ?hn ?hr ?_; (case ho => rfl); (case hg => rfl); (case hn => rfl); (case hr => first | (go_simp; done) | (go_simp; rfl)); intro w2_ hw; have HS2 := AM (show Deep.Mk bs (.slice (some ⟨g, 0, none⟩) l0.length c0) w w2_ (PM.set x5_1.toNat ⟨x1_1, x1_1 + 1, ⟨X.f2.f0, X.f2.f1, X.f2.f2⟩, X.f3, X.f4, X.f5⟩) by rw [hw]; rw [K1.out]; exact Deep.put HS1.out HND.out LL.out 1 (by decide) _); have HB2 := AM (show Below w0.heap.size w0 w2_ by rw [hw]; exact below_set HB1.out GB.out); clear hw hx1 hf1; obtain ⟨y2, hx2, hf2⟩ := Deep.cellN HS2.out HND.out LL.out 2 (by decide)) | ((with_reducible refine gate_store (t := 3) (p := 31) rfl ?_); refine store_event (t := 3) (p := 31) (v := ?vo_3) (w1 := (w2_.setCell ⟨g, x5_1.toNat * 8 + 2, none⟩ (.int .i64 (wrap64 ((wrap64 (x1_1 + 1)) + 1))))) ?hg ?ho ?hn ?hr ?_; (case ho => rfl); (case hg => rfl); (case hn => rfl); (case hr => first | (go_simp; done) | (go_simp; rfl)); intro w3_ hw; have HS3 := AM (show Deep.Mk bs (.slice (some ⟨g, 0, none⟩) l0.length c0) w w3_ (PM.set x5_1.toNat ⟨x1_1, x1_1 + 1, ⟨x1_1 + 2, X.f2.f1, X.f2.f2⟩, X.f3, X.f4, X.f5⟩) by rw [hw]; rw [K1.out, K2.out]; exact Deep.put HS2.out HND.out LL.out 2 (by decide) _); have HB3 := AM (show Below w0.heap.size w0 w3_ by rw [hw]; exact below_set HB2.out GB.out); clear hw hx2 hf2; obtain ⟨y3, hx3, hf3⟩ := Deep.cellN HS3.out HND.out LL.out 3 (by decide)) | ((with_reducible refine gate_store (t := 3) (p := 39) rfl ?_); refine store_event (t := 3) (p := 39) (v := ?vo_4) (w1 := (w3_.setCell ⟨g, x5_1.toNat * 8 + 3, none⟩ (.int .i64 (wrap64 ((wrap64 ((wrap64 (x1_1 + 1)) + 1)) + 1))))) ?hg ?ho ?hn ?hr ?_; (case ho => rfl); (case hg => rfl); (case hn => rfl); (case hr => first | (go_simp; done) | (go_simp; rfl)); intro w4_ hw; have HS4 := AM (show Deep.Mk bs (.slice (some ⟨g, 0, none⟩) l0.length c0) w w4_ (PM.set x5_1.toNat ⟨x1_1, x1_1 + 1, ⟨x1_1 + 2, x1_1 + 3, X.f2.f2⟩, X.f3, X.f4, X.f5⟩) by rw [hw]; rw [K1.out, K2.out, K3.out]; exact Deep.put HS3.out HND.out LL.out 3 (by decide) _); have HB4 := AM (show Below w0.heap.size w0 w4_ by rw [hw]; exact below_set HB3.out GB.out); clear hw hx3 hf3; obtain ⟨y4, hx4, hf4⟩ := Deep.cellN HS4.out HND.out LL.out 4 (by decide)) | ((with_reducible refine gate_store (t := 3) (p := 47) rfl ?_); refine store_event (t := 3) (p := 47) (v := ?vo_5) (w1 := (w4_.setCell ⟨g, x5_1.toNat * 8 + 4, none⟩ (.int .i64 (wrap64 ((wrap64 ((wrap64 ((wrap64 (x1_1 + 1)) + 1)) + 1)) + 1))))) ?hg ?ho ?hn ?hr ?_; (case ho => rfl); (case hg => rfl); (case hn => rfl); (case hr => first | (go_simp; done) | (go_simp; rfl)); intro w5_ hw; have HS5 := AM (show Deep.Mk bs (.slice (some ⟨g, 0, none⟩) l0.length c0) w w5_ (PM.set x5_1.toNat ⟨x1_1, x1_1 + 1, ⟨x1_1 + 2, x1_1 + 3, x1_1 + 4⟩, X.f3, X.f4, X.f5⟩) by rw [hw]; rw [K1.out, K2.out, K3.out, K4.out]; exact Deep.put HS4.out HND.out LL.out 4 (by decide) _); have HB5 := AM (show Below w0.heap.size w0 w5_ by rw [hw]; exact below_set HB4.out GB.out); clear hw hx4 hf4; obtain ⟨y5, hx5, hf5⟩ := Deep.cellN HS5.out HND.out LL.out 5 (by decide)) | ((with_reducible refine gate_store (t := 3) (p := 54) rfl ?_); refine store_event (t := 3) (p := 54) (v := ?vo_6) (w1 := (w5_.setCell ⟨g, x5_1.toNat * 8 + 5, none⟩ (.int .i64 (wrap64 ((wrap64 ((wrap64 ((wrap64 ((wrap64 (x1_1 + 1)) + 1)) + 1)) + 1)) + 1))))) ?hg ?ho ?hn ?hr ?_; (case ho => rfl); (case hg => rfl); (case hn => rfl); (case hr => first | (go_simp; done) | (go_simp; rfl)); intro w6_ hw; have HS6 := AM (show Deep.Mk bs (.slice (some ⟨g, 0, none⟩) l0.length c0) w w6_ (PM.set x5_1.toNat ⟨x1_1, x1_1 + 1, ⟨x1_1 + 2, x1_1 + 3, x1_1 + 4⟩, x1_1 + 5, X.f4, X.f5⟩) by rw [hw]; rw [K1.out, K2.out, K3.out, K4.out, K5.out]; exact Deep.put HS5.out HND.out LL.out 5 (by decide) _); have HB6 := AM (show Below w0.heap.size w0 w6_ by rw [hw]; exact below_set HB5.out GB.out); clear hw hx5 hf5; obtain ⟨A6, c6, bt6, hx6, hr6, hn6, hm6, hk6⟩ := Deep.row4 HS6.out HND.out LL.out; have HR6 := AM hr6; have HN6 := AM hn6; have HM6 := AM hm6; have HK6 := AM hk6; clear hr6 hn6 hm6 hk6; obtain ⟨r6, z6⟩ : ∃ r : Int, r = x1_1 + 6 + 6 * (laws_markStepS.nTs X.f4 : Int) := ⟨_, rfl⟩; have Z6 := AM z6; clear z6) | ((with_reducible refine gate_callee (f := 43) rfl ?_); refine goesL_ (some 63) rfl rfl Try.func43 (by kernel_rfl) rfl #[.slice A6 X.f4.length c6, .int .i64 (wrap64 ((wrap64 ((wrap64 ((wrap64 ((wrap64 ((wrap64 (x1_1 + 1)) + 1)) + 1)) + 1)) + 1)) + 1))] rfl (by (try simp only [List.map_toArray, List.map_cons, List.map_nil]); first | done | rfl) ?_; rw [KK.out]; refine (ih (laws_markStepS.nTs X.f4) (by have := L6.out; omega) bt6 (.slice A6 X.f4.length c6) X.f4 (x1_1 + 6) w0 w6_ rfl (by have := X1.out; omega) (by have := X1.out; have := L6.out; omega) HB6.out HR6.out HN6.out (fun k hk => HLB.out k (HM6.out k hk))).mono ?_; rintro e w7_ ⟨rfl, hb, hs⟩; refine ⟨_, rfl, ?_⟩; rw [← Z6.out]; have HS7 := AM (HK6.out w7_ _ hs); have HB7 := AM hb; clear hb hs hx6; obtain ⟨A7, c7, bt7, hx7, hr7, hn7, hm7, hk7⟩ := Deep.row5 HS7.out HND.out LL.out; have HR7 := AM hr7; have HN7 := AM hn7; have HM7 := AM hm7; have HK7 := AM hk7; clear hr7 hn7 hm7 hk7; obtain ⟨r7, z7⟩ : ∃ r : Int, r = r6 + 6 * (laws_markStepS.nTs X.f5 : Int) := ⟨_, rfl⟩; have Z7 := AM z7; clear z7) | ((with_reducible refine gate_callee (f := 43) rfl ?_); refine goesL_ (some 70) rfl rfl Try.func43 (by kernel_rfl) rfl #[.slice A7 X.f5.length c7, .int .i64 r6] rfl (by (try simp only [List.map_toArray, List.map_cons, List.map_nil]); first | done | rfl) ?_; refine (ih (laws_markStepS.nTs X.f5) (by have := L6.out; omega) bt7 (.slice A7 X.f5.length c7) X.f5 r6 w0 w7_ rfl (by have := X1.out; have := Z6.out; omega) (by have := X1.out; have := Z6.out; have := L6.out; omega) HB7.out HR7.out HN7.out (fun k hk => HLB.out k (HM7.out k hk))).mono ?_; rintro e w8_ ⟨rfl, hb, hs⟩; refine ⟨_, rfl, ?_⟩; rw [← Z7.out]; have HS8 := AM (HK7.out w8_ _ hs); have HB8 := AM hb; clear hb hs hx7))
 go_roundg ((l0.length : Int) - x5_1 - 1).toNat
 case measure => have h1 := HX.out; have h2 := Q5.out; omega
 case rel => (
 have HL := AM (show PM.set x5_1.toNat (⟨x1_1, x1_1 + 1, ⟨x1_1 + 2, x1_1 + 3, x1_1 + 4⟩, x1_1 + 5, Deep.mkTs (x1_1 + 6) X.f4, Deep.mkTs r6 X.f5⟩ : S50) = Deep.Pm a1 l0 (x5_1.toNat + 1) by
  have h1 := Deep.Pm_step (a := a1) P5N.out
  rw [HPM.out, ← h1, ← HXX.out, Deep.mkT_eq, ← HX.out.2.2.2, Z6.out])
 exact ⟨r7, wrap64 (x5_1 + 1), (by first | rfl | (simp; done) | (simp [*]; done)), (by first | rfl | (simp; done) | (simp [*]; done)), ⟨by rw [W5.out]; have h1 := HX.out; have h2 := Q5.out; have h3 := laws_markStepS.nTs_take l0 x5_1.toNat (by omega); have h6 := Z6.out; have h7 := Z7.out; have h8 := HXX.out; rw [← h8] at h3; rw [show (x5_1 + 1).toNat = x5_1.toNat + 1 by omega, h3]; refine ⟨by omega, by omega, by omega, by omega⟩⟩, ⟨by rw [W5.out, show (x5_1 + 1).toNat = x5_1.toNat + 1 by have h0 := P5.out; omega, ← HL.out]; repeat (first | exact HS8.out | apply Deep.Mk.drewN | apply Deep.Mk.drew)⟩, ⟨by repeat (first | (with_reducible first | exact HB8.out | apply below_alloc | apply pw_below_drewN | apply below_drew1) | exact HB8.out)⟩⟩))
 ·(
 have c3b0 := decide_eq_false c3
 have C3 := AM c3
 clear c3
 go_wp2
 go_ret
 have h1 := HX.out
 have h2 := C3.out
 refine ⟨?_, by repeat (first | (with_reducible first | exact HB0.out | apply below_alloc | apply pw_below_drewN | apply below_drew1) | exact HB0.out), ?_⟩
 ·(
 rw [h1.2.2.2, List.take_of_length_le (by omega)]
 first | rfl | (simp; done))
 ·(
 have h3 := HS0.out
 rw [Deep.Pm_all (show l0.length ≤ x5_1.toNat by omega)] at h3
 repeat (first | exact h3 | apply Deep.Mk.drewN | apply Deep.Mk.drew))))
theorem Deep.TR_below {w w1 : World} {l : List S50} {bs : List Nat} {v : Value} (h : Deep.TR w l bs v) (hb : Below w.heap.size w w1) : Deep.TR w1 l bs v :=
 TR_move h (fun k hk => hb.block k (by obtain ⟨_, hc⟩ := TR_typed h k hk; exact (Array.getElem?_eq_some_iff.1 hc).1))
theorem Deep.TR_drew {w : World} {l : List S50} {bs : List Nat} {v : Value} (h : Deep.TR w l bs v) : Deep.TR w.drew l bs v := TR_move h (fun _ _ => rfl)
theorem Deep.TR_drewN {w : World} {l : List S50} {bs : List Nat} {v : Value} (h : Deep.TR w l bs v) (m : Nat) : Deep.TR (w.drewN m) l bs v := TR_move h (fun _ _ => rfl)
theorem Deep.TR_lt {w : World} {l : List S50} {bs : List Nat} {v : Value} (h : Deep.TR w l bs v) : ∀ k ∈ bs, k < w.heap.size := fun k hk => by obtain ⟨_, hc⟩ := TR_typed h k hk; exact (Array.getElem?_eq_some_iff.1 hc).1
def laws_markStep.f (_a0_0 _a0_1 _a0_2 _a0_3 _a0_4 _a0_5 : Int) (l0_6 l0_7 : List S50) (a1 : Int) : Option (Int × List S50 × List S50) :=
 if 0 ≤ a1 then (if a1 + 6 * (laws_markStepS.nTs l0_6 : Int) + 6 * (laws_markStepS.nTs l0_7 : Int) ≤ 4611686018427387904 then some (a1 + 6 * (laws_markStepS.nTs l0_6 : Int) + 6 * (laws_markStepS.nTs l0_7 : Int), Deep.mkTs a1 l0_6, Deep.mkTs (a1 + 6 * (laws_markStepS.nTs l0_6 : Int)) l0_7) else none) else none
theorem laws_markStep.deep (a0_0 a0_1 a0_2 a0_3 a0_4 a0_5 : Int) (b6 b7 : List Nat) (v6 v7 : Value) (l0_6 l0_7 : List S50) (a1 r1 : Int) (r2 r3 : List S50) (w0 w : World) (hB : Below w0.heap.size w0 w) (h6 : Deep.TR w l0_6 b6 v6) (h7 : Deep.TR w l0_7 b7 v7) (hn : (b6 ++ b7).Nodup) (hb : ∀ k ∈ b6 ++ b7, w0.heap.size ≤ k) (h : laws_markStep.f a0_0 a0_1 a0_2 a0_3 a0_4 a0_5 l0_6 l0_7 a1 = some (r1, r2, r3)) :
  Calls Try.prog 32 #[.agg #[.int .i64 a0_0, .int .i64 a0_1, .int .i64 a0_2, .int .i64 a0_3, .int .i64 a0_4, .int .i64 a0_5, v6, v7], .int .i64 a1] w fun e w' => e = .returned (.int .i64 r1) ∧ Below w0.heap.size w0 w' ∧ Deep.TR w' r2 b6 v6 ∧ Deep.TR w' r3 b7 v7 ∧ w.heap.size ≤ w'.heap.size ∧ ∀ k, k < w.heap.size → k ∉ b6 ++ b7 → w'.heap[k]? = w.heap[k]? := by
 unfold laws_markStep.f at h
 split at h
 case isFalse => exact absurd h (by simp)
 rename_i p1
 split at h
 case isFalse => exact absurd h (by simp)
 rename_i p2
 simp only [Option.some.injEq, Prod.mk.injEq] at h
 obtain ⟨rfl, rfl, rfl⟩ := h
 have hn' := List.nodup_append.1 hn
 have HP := AM (And.intro p1 p2)
 have HD := AM hn'
 have HL := AM hb
 have HT6 := AM h6
 have HT7 := AM h7
 have HB := AM hB
 have HO := AM (show w.heap.size ≤ w.heap.size ∧ ∀ k, k < w.heap.size → k ∉ b6 ++ b7 → w.heap[k]? = w.heap[k]? from ⟨Nat.le_refl _, fun _ _ _ => rfl⟩)
 obtain ⟨A6, c6, rfl⟩ := Deep.TR_slice h6
 obtain ⟨A7, c7, rfl⟩ := Deep.TR_slice h7
 obtain ⟨q1, hq1⟩ : ∃ r : Int, r = a1 + 6 * (laws_markStepS.nTs l0_6 : Int) := ⟨_, rfl⟩
 obtain ⟨q2, hq2⟩ : ∃ r : Int, r = q1 + 6 * (laws_markStepS.nTs l0_7 : Int) := ⟨_, rfl⟩
 rw [← hq1, ← hq2]
 have HQ1 := AM hq1
 have HQ2 := AM hq2
 have HLT := AM (show ∀ k ∈ b6 ++ b7, k < w.heap.size from fun k hk => (List.mem_append.1 hk).elim (Deep.TR_lt h6 k) (Deep.TR_lt h7 k))
 clear hn' hn hb h6 h7 hB p1 p2 hq1 hq2
 go_enter Try.func32, Try.ntmps32
 go_wp2_with (first | ((with_reducible refine gate_dst (N := 2) rfl ?_); refine ZX (N := 2) (cs := #[.int .i64 a0_0, .int .i64 a0_1, .int .i64 a0_2, .int .i64 a0_3, .int .i64 a0_4, .int .i64 a0_5, .slice A6 l0_6.length c6, .slice A7 l0_7.length c7]) (t := 50) ?_; intro gb hg w1_ hbox hb; have BK := AM hbox; have GE := AM (show w.heap.size ≤ gb by rw [hg]; exact Nat.le_refl _); replace HT6 := AM (Deep.TR_below HT6.out hb); replace HT7 := AM (Deep.TR_below HT7.out hb); replace HO := AM (show w.heap.size ≤ w1_.heap.size ∧ ∀ k, k < w.heap.size → k ∉ b6 ++ b7 → w1_.heap[k]? = w.heap[k]? from ⟨below_size hb, fun k hk _ => hb.block k hk⟩); replace HB := ZT HB hb; have L6 := AM (show ∀ k ∈ b6 ++ b7, k ≠ gb from fun k hk e => by have := HLT.out k hk; have := GE.out; omega); clear hb hbox hg; have hcz := ZC8 w1_ BK; have hfz := ZF8 BK) |
  ((with_reducible refine gate_callee (f := 43) rfl ?_); refine ZGL (some 8) Try.func43 #[.slice A6 l0_6.length c6, .int .i64 a1] ?_; refine (laws_markStepS.deep _ b6 (.slice A6 l0_6.length c6) l0_6 a1 w0 w1_ rfl HP.out.1 (by have := HP.out.2; omega) HB.out HT6.out HD.out.1 (fun k hk => HL.out k (List.mem_append_left _ hk))).mono ?_; rintro e w2_ ⟨rfl, hb, hm⟩; refine ⟨_, rfl, ?_⟩; rw [← HQ1.out]; replace HT7 := AM (Deep.TR_move HT7.out (fun k hk => hm.other k (Deep.TR_lt HT7.out k hk) (fun e => HD.out.2.2 k e k hk rfl))); replace HT6 := AM hm.tr; replace BK := AM ((hm.other gb (blk_lt BK.out) (fun e => L6.out gb (List.mem_append_left _ e) rfl)).trans BK.out); replace HO := AM (show w.heap.size ≤ w2_.heap.size ∧ ∀ k, k < w.heap.size → k ∉ b6 ++ b7 → w2_.heap[k]? = w.heap[k]? from ⟨Nat.le_trans HO.out.1 hm.size, fun k hk hn => (hm.other k (Nat.lt_of_lt_of_le hk HO.out.1) (fun e => hn (List.mem_append_left _ e))).trans (HO.out.2 k hk hn)⟩); replace HB := AM hb; clear hb hm hcz hfz; have hcz := ZC8 w2_ BK; have hfz := ZF8 BK) |
  ((with_reducible refine gate_callee (f := 43) rfl ?_); refine ZGL (some 12) Try.func43 #[.slice A7 l0_7.length c7, .int .i64 q1] ?_; refine (laws_markStepS.deep _ b7 (.slice A7 l0_7.length c7) l0_7 q1 w0 w2_ rfl (by have := HP.out; have := HQ1.out; omega) (by have := HP.out.2; have := HQ1.out; omega) HB.out HT7.out HD.out.2.1 (fun k hk => HL.out k (List.mem_append_right _ hk))).mono ?_; rintro e w3_ ⟨rfl, hb, hm⟩; refine ⟨_, rfl, ?_⟩; rw [← HQ2.out]; replace HT6 := AM (Deep.TR_move HT6.out (fun k hk => hm.other k (Deep.TR_lt HT6.out k hk) (fun e => HD.out.2.2 k hk k e rfl))); replace HT7 := AM hm.tr; replace HO := AM (show w.heap.size ≤ w3_.heap.size ∧ ∀ k, k < w.heap.size → k ∉ b6 ++ b7 → w3_.heap[k]? = w.heap[k]? from ⟨Nat.le_trans HO.out.1 hm.size, fun k hk hn => (hm.other k (Nat.lt_of_lt_of_le hk HO.out.1) (fun e => hn (List.mem_append_right _ e))).trans (HO.out.2 k hk hn)⟩); replace HB := AM hb; clear hb hm hcz hfz))
 go_ret
 refine ⟨ZE, ZB, ?_, ?_, HO.out.1, HO.out.2⟩
 ·repeat (first | exact HT6.out | apply Deep.TR_drewN | apply Deep.TR_drew)
 ·repeat (first | exact HT7.out | apply Deep.TR_drewN | apply Deep.TR_drew)

end Go.Proofs.Ytaflodibibbakaa.B
