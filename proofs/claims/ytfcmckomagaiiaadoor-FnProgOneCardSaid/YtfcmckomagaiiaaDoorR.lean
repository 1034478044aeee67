/- Words of this session: a region that draws its order, by what holds of each part of it that may be done. -/
import Derived.Test.YtfcmckomagaiiaaDoorUMore
namespace Go.Proofs.YtfcmckomagaiiaaDoorW.PrintWords
open Go.Proofs.YtfcmckomagaiiaaDoorW.PrintLast Go.Proofs.YtfcmckomagaiiaaDoorW.PrintMore
section
variable {P : Program} {ops : Array Oper} {Q : Exit → Act → World → Prop} {T : Bool × List (List Nat × List Nat)}
theorem readyT_done {T : List (List Nat × List Nat)} {l : List Bool} (h : l.count false = 0) : readyT T l = [] := by
  unfold readyT
  rw [List.filter_eq_nil_iff]
  intro i _
  have h1 : l.getD i true = true := by
    rw [List.getD_eq_getElem?_getD]
    cases hi : l[i]? with
    | none => rfl
    | some b =>
      cases b with
      | true => rfl
      | false => exact absurd (List.mem_of_getElem? hi) (by rw [List.count_eq_zero] at h; exact h)
  unfold readyAt
  rw [h1]
  simp
theorem any_inv {n : Nat} (hT : rtab .any ops = T) (_hn : ops.size = n) (Inv : List Bool → Act → World → Prop)
    (step : ∀ (i : Nat) (o : Oper) (l : List Bool) (a : Act) (w : World), ops[i]? = some o → l.length = n → readyAt T.2 l i = true → Inv l a w →
      ∀ K : Act → World → Prop, (∀ a' w', Inv (l.set i true) a' w' → K a' w') → if Region.wanted o (yielded ops a.tmps) = true then Oper.wp P o a w K Q else K (a.put o.dst undef) w)
    (fin : ∀ (l : List Bool) (a : Act) (w : World), l.length = n → readyT T.2 l = [] → Inv l a w → Q .normal a w) :
    ∀ (fuel : Nat) (l : Array Bool) (a : Act) (w : World), l.size = n → l.toList.count false ≤ fuel → Inv l.toList a w → wpAny P .any ops Q fuel l a w := by
  have hr : ∀ l : Array Bool, Region.ready .any ops l = readyT T.2 l.toList := fun l => by rw [ready_eq, hT]
  intro fuel
  induction fuel with
  | zero =>
    intro l a w hl hc hI
    have h0 := readyT_done (T := T.2) (Nat.le_zero.1 hc)
    exact ⟨by rw [hr, h0], fin _ a w (by simpa using hl) h0 hI⟩
  | succ fuel ih =>
    intro l a w hl hc hI
    refine ⟨fun h0 => fin _ a w (by simpa using hl) (by rw [← hr]; exact h0) hI, fun i hi => ?_⟩
    rw [hr] at hi
    unfold readyT at hi
    rw [List.mem_filter, List.mem_range] at hi
    obtain ⟨hi1, hi2⟩ := hi
    have hi3 : i < ops.size := by
      rw [← hT] at hi1
      rwa [rtab_length] at hi1
    have ho : ops[i]? = some ops[i] := Array.getElem?_eq_getElem hi3
    refine wpOp_step ho (fun K' hK => step i _ l.toList a w ho (by simpa using hl) hi2 hI K' (fun a' w' hI' => hK a' w' ?_))
    refine ih _ a' w' (by simpa using hl) ?_ (by simpa using hI')
    have hf : l.toList[i]? = some false := by
      unfold readyAt at hi2
      rw [Bool.and_eq_true, Bool.not_eq_true', List.getD_eq_getElem?_getD] at hi2
      have h1 := hi2.1
      cases hq : l.toList[i]? with
      | none => rw [hq] at h1; simp at h1
      | some b => rw [hq] at h1; simpa using h1
    rw [Array.toList_setIfInBounds]
    have hi4 := (List.getElem?_eq_some_iff.1 hf)
    obtain ⟨hi5, hi6⟩ := hi4
    have : (l.toList.set i true).count false + 1 = l.toList.count false := by
      rw [List.count_set hi5, hi6]
      have hp : 0 < l.toList.count false := List.count_pos_iff.2 (List.mem_of_getElem? hf)
      generalize l.toList.count false = c at hp ⊢
      simp
      omega
    omega
theorem region_inv {id n : Nat} {a : Act} {w : World} (hm : P.follows .mixedOrders = true) (hT : rtab .any ops = T) (hn : ops.size = n) (Inv : List Bool → Act → World → Prop)
    (h0 : Inv (List.replicate n false) a w.drew)
    (step : ∀ (i : Nat) (o : Oper) (l : List Bool) (a : Act) (w : World), ops[i]? = some o → l.length = n → readyAt T.2 l i = true → Inv l a w →
      ∀ K : Act → World → Prop, (∀ a' w', Inv (l.set i true) a' w' → K a' w') → if Region.wanted o (yielded ops a.tmps) = true then Oper.wp P o a w K Q else K (a.put o.dst undef) w)
    (fin : ∀ (l : List Bool) (a : Act) (w : World), l.length = n → readyT T.2 l = [] → Inv l a w → Q .normal a w) : (Code.region id ops true).wp P Q a w := by
  subst hn
  refine wp_region_any hm (any_inv hT rfl Inv step fin _ _ _ _ (by simp) ?_ (by simpa using h0))
  simp
end
end Go.Proofs.YtfcmckomagaiiaaDoorW.PrintWords
namespace Go.Proofs.YtfcmckomagaiiaaDoorW.PrintWords
open Go.Proofs.YtfcmckomagaiiaaDoorW.PrintLast Go.Proofs.YtfcmckomagaiiaaDoorW.PrintMore
theorem eval_put {a : Act} {n m : Nat} {v : Value} (h : n < a.tmps.size) : (a.put (some n) v).eval (.tmp m) = if n = m then v else a.eval (.tmp m) := by
  simp only [Act.put, Act.eval, Array.getD_eq_getD_getElem?, Array.getElem?_setIfInBounds]
  by_cases e : n = m
  · subst e
    simp [h]
  · simp [e]
theorem size_put {a : Act} {n : Nat} {v : Value} : (a.put (some n) v).tmps.size = a.tmps.size := by simp [Act.put]
theorem defers_put {a : Act} {n : Nat} {v : Value} : (a.put (some n) v).defers = a.defers := rfl
theorem getD_set {l : List Bool} {i j : Nat} (h : i < l.length) : (l.set i true).getD j false = if i = j then true else l.getD j false := by
  rw [List.getD_eq_getElem?_getD, List.getD_eq_getElem?_getD, List.getElem?_set]
  by_cases e : i = j
  · subst e
    simp [h]
  · simp [e]
/-- What an operation waits for is done. -/
theorem ready_of {T : List (List Nat × List Nat)} {l : List Bool} {i : Nat} {r : List Nat × List Nat} (h : readyAt T l i = true) (hr : T[i]? = some r) : l.getD i true = false ∧ ∀ j ∈ r.1, l.getD j false = true := by
  unfold readyAt at h
  rw [hr, Bool.and_eq_true, Bool.not_eq_true', List.all_eq_true] at h
  exact h
end Go.Proofs.YtfcmckomagaiiaaDoorW.PrintWords
namespace Go.Proofs.YtfcmckomagaiiaaDoorW.PrintWords
open Go.Proofs.YtfcmckomagaiiaaDoorW.PrintLast Go.Proofs.YtfcmckomagaiiaaDoorW.PrintMore
theorem undone {T : List (List Nat × List Nat)} {l : List Bool} {i : Nat} (h : readyAt T l i = true) (hi : i < l.length) : l.getD i false = false := by
  unfold readyAt at h
  rw [Bool.and_eq_true, Bool.not_eq_true', List.getD_eq_getElem?_getD, List.getElem?_eq_getElem hi] at h
  rw [List.getD_eq_getElem?_getD, List.getElem?_eq_getElem hi]
  exact h.1
end Go.Proofs.YtfcmckomagaiiaaDoorW.PrintWords
namespace Go.Proofs.YtfcmckomagaiiaaDoorW.PrintWords
open Go.RowKit Go.Proofs.YtfcmckomagaiiaaDoorW.PrintLast Go.Proofs.YtfcmckomagaiiaaDoorW.PrintMore
/-- Flags of a region: what is done, what is not. -/
abbrev T := true
abbrev F := false
section
variable {P : Program} {ops : Array Oper} {Q : Exit → Act → World → Prop} {S : World → Prop} {ds : List Nat} {T : Bool × List (List Nat × List Nat)}
/-- A region's first operations, in whatever order: by what holds of each part of them that may be done. -/
theorem last_inv {n : Nat} (hT : rtab .any ops = T) (Inv : List Bool → Act → World → Prop) (stop : List Bool → Bool) (hS : ∀ l a w, Inv l a w → S w)
    (live : ∀ l a w, l.length = n → stop l = false → Inv l a w → readyT T.2 l ≠ [])
    (step : ∀ (i : Nat) (o : Oper) (l : List Bool) (a : Act) (w : World), ops[i]? = some o → l.length = n → readyAt T.2 l i = true → stop l = false → Inv l a w →
      ∀ K : Act → World → Prop, (∀ a' w', Inv (l.set i true) a' w' → K a' w') → if Region.wanted o (yielded ops a.tmps) = true then Oper.wp P o a w K Q else K (a.put o.dst undef) w)
    (fin : ∀ (fuel : Nat) (l : List Bool) (a : Act) (w : World), l.length = n → stop l = true → l.count false = fuel → Inv l a w → wpAnyLast P .any ops Q S ds fuel l.toArray a w) :
    ∀ (fuel : Nat) (l : Array Bool) (a : Act) (w : World), l.size = n → l.toList.count false = fuel → Inv l.toList a w → wpAnyLast P .any ops Q S ds fuel l a w := by
  have hr : ∀ l : Array Bool, Region.ready .any ops l = readyT T.2 l.toList := fun l => by rw [ready_eq, hT]
  intro fuel
  induction fuel with
  | zero =>
    intro l a w hl hc hI
    cases hs : stop l.toList with
    | true => exact fin 0 l.toList a w (by simpa using hl) hs hc hI
    | false => exact absurd (readyT_done (T := T.2) hc) (live _ a w (by simpa using hl) hs hI)
  | succ fuel ih =>
    intro l a w hl hc hI
    cases hs : stop l.toList with
    | true => exact fin (fuel + 1) l.toList a w (by simpa using hl) hs hc hI
    | false =>
      refine ⟨fun h0 => absurd (by rw [← hr]; exact h0) (live _ a w (by simpa using hl) hs hI), fun i hi => ?_⟩
      rw [hr] at hi
      unfold readyT at hi
      rw [List.mem_filter, List.mem_range] at hi
      obtain ⟨hi1, hi2⟩ := hi
      have hi3 : i < ops.size := by
        rw [← hT] at hi1
        rwa [rtab_length] at hi1
      have ho : ops[i]? = some ops[i] := Array.getElem?_eq_getElem hi3
      refine wpOp_step ho (fun K' hK => step i _ l.toList a w ho (by simpa using hl) hi2 hs hI K' (fun a' w' hI' => hK a' w' ⟨fun _ _ => hS _ _ _ hI', ?_⟩))
      refine ih _ a' w' (by simpa using hl) ?_ (by simpa using hI')
      have hf : l.toList[i]? = some false := by
        unfold readyAt at hi2
        rw [Bool.and_eq_true, Bool.not_eq_true', List.getD_eq_getElem?_getD] at hi2
        have h1 := hi2.1
        cases hq : l.toList[i]? with
        | none => rw [hq] at h1; simp at h1
        | some b => rw [hq] at h1; simpa using h1
      rw [Array.toList_setIfInBounds]
      obtain ⟨hi5, hi6⟩ := List.getElem?_eq_some_iff.1 hf
      have : (l.toList.set i true).count false + 1 = l.toList.count false := by
        rw [List.count_set hi5, hi6]
        have hp : 0 < l.toList.count false := List.count_pos_iff.2 (List.mem_of_getElem? hf)
        generalize l.toList.count false = c at hp ⊢
        simp
        omega
      omega
/-- What is done is done behind what it waits for. -/
def Cl (T : List (List Nat × List Nat)) (l : List Bool) : Prop := ∀ j r, T[j]? = some r → l.getD j false = true → ∀ q ∈ r.1, l.getD q false = true
theorem cl_set {T : List (List Nat × List Nat)} {l : List Bool} {i : Nat} (h : Cl T l) (hr : readyAt T l i = true) (hi : i < l.length) : Cl T (l.set i true) := by
  intro j r hj hl q hq
  rw [getD_set hi] at hl ⊢
  by_cases e : i = j
  · subst e
    by_cases e2 : i = q
    · rw [if_pos e2]
    · rw [if_neg e2]; exact (ready_of hr hj).2 q hq
  · rw [if_neg e] at hl
    by_cases e2 : i = q
    · rw [if_pos e2]
    · rw [if_neg e2]; exact h j r hj hl q hq
/-- The same act but for some variables. -/
def Same (N : List Nat) (a0 a : Act) : Prop := a.tmps.size = a0.tmps.size ∧ a.defers = a0.defers ∧ ∀ m, m ∉ N → a.eval (.tmp m) = a0.eval (.tmp m)
theorem Same.put {N : List Nat} {a0 a : Act} (h : Same N a0 a) {n : Nat} (hn : n ∈ N) (hs : n < a.tmps.size) (v : Value) : Same N a0 (a.put (some n) v) :=
  ⟨by rw [size_put]; exact h.1, h.2.1, fun m hm => by rw [eval_put hs, if_neg (fun e : n = m => hm (e ▸ hn))]; exact h.2.2 m hm⟩
theorem act_ext {a a' : Act} (h1 : a.tmps.size = a'.tmps.size) (h2 : a.defers = a'.defers) (h3 : ∀ m, a.eval (.tmp m) = a'.eval (.tmp m)) : a = a' := by
  obtain ⟨t, d⟩ := a
  obtain ⟨t', d'⟩ := a'
  simp only at h1 h2
  subst h2
  congr 1
  refine Array.ext h1 fun i hi hi' => ?_
  have h := h3 i
  simp only [Act.eval, Array.getD_eq_getD_getElem?, Array.getElem?_eq_getElem hi, Array.getElem?_eq_getElem hi', Option.getD_some] at h
  exact h
end
theorem ne_own {k b N n c : Nat} (h : k < N) (hb : N ≤ b) : some k ≠ (Value.slice (some ⟨b, 0, none⟩) n c).ownBlock := fun e => by
  have e' : k = b := by simpa [Value.ownBlock] using e
  omega
theorem Kd.R_cells {W : World} {base b : Nat} {ok : Nat → Prop} {xs : List Int} {cs : List Value} (h : W.heap[b]? = some (.cells cs.toArray 3 (0, 0))) (hb : base ≤ b) (hc : cs = xs.map (Value.int .i64)) (hm : xs.length ≤ maxLen) (hok : ok b) :
    Kd.R (Kd.int .i64) 3 W base ok (.slice (some ⟨b, 0, none⟩) xs.length xs.length) xs := by
  subst hc
  refine ⟨fun k hk => ?_, xs.map (Value.int .i64), ⟨?_, .inr ⟨b, xs.length, (xs.map (Value.int .i64)).toArray, rfl, hb, h, Nat.le_refl _, hm, ?_, ?_⟩⟩, ?_, fun j p hj => ?_⟩
  · have : b = k := by simpa [Value.ownBlock] using hk
    exact this ▸ hok
  · show _ = xs.length * 1
    simp
  · show _ = xs.length * 1
    simp
  · show List.take (xs.length * 1) _ = _
    rw [Nat.mul_one]
    exact List.take_of_length_le (by simp)
  · show _ = xs.length * 1
    simp
  · show ((xs.map (Value.int .i64)).drop (j * 1)).take 1 = [Value.int .i64 p]
    rw [Nat.mul_one, ← List.map_drop, ← List.map_take]
    have hl : j < xs.length := (List.getElem?_eq_some_iff.1 hj).1
    rw [List.drop_eq_getElem_cons hl]
    have : xs[j] = p := (List.getElem?_eq_some_iff.1 hj).2
    simp [this]
end Go.Proofs.YtfcmckomagaiiaaDoorW.PrintWords
