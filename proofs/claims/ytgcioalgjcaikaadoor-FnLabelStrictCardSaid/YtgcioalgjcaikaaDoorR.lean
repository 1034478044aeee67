/- Words of this session: a region that draws its order, by what holds of each part of it that may be done. -/
import Derived.Test.YtgcioalgjcaikaaDoorUMore
namespace Go.Proofs.YtgcioalgjcaikaaDoorW.PrintWords
open Go.Proofs.YtgcioalgjcaikaaDoorW.PrintLast Go.Proofs.YtgcioalgjcaikaaDoorW.PrintMore
section
variable {P : Program} {ops : Array Oper} {Q : Exit → Act → World → Prop} {T : Bool × List (List Nat × List Nat)}
theorem readyT_done {T : List (List Nat × List Nat)} {l : List Bool} (h : l.count false = 0) : readyT T l = [] := by
  unfold readyT
  rw [List.filter_eq_nil_iff]
  intro i _
  have h1 : l.getD i true = true := by
    rw [List.getD_eq_getElem?_getD]
    cases hi : l[i]? with
    | none => rfl
    | some b =>
      cases b with
      | true => rfl
      | false => exact absurd (List.mem_of_getElem? hi) (by rw [List.count_eq_zero] at h; exact h)
  unfold readyAt
  rw [h1]
  simp
theorem any_inv {n : Nat} (hT : rtab .any ops = T) (_hn : ops.size = n) (Inv : List Bool → Act → World → Prop)
    (step : ∀ (i : Nat) (o : Oper) (l : List Bool) (a : Act) (w : World), ops[i]? = some o → l.length = n → readyAt T.2 l i = true → Inv l a w →
      ∀ K : Act → World → Prop, (∀ a' w', Inv (l.set i true) a' w' → K a' w') → if Region.wanted o (yielded ops a.tmps) = true then Oper.wp P o a w K Q else K (a.put o.dst undef) w)
    (fin : ∀ (l : List Bool) (a : Act) (w : World), l.length = n → readyT T.2 l = [] → Inv l a w → Q .normal a w) :
    ∀ (fuel : Nat) (l : Array Bool) (a : Act) (w : World), l.size = n → l.toList.count false ≤ fuel → Inv l.toList a w → wpAny P .any ops Q fuel l a w := by
  have hr : ∀ l : Array Bool, Region.ready .any ops l = readyT T.2 l.toList := fun l => by rw [ready_eq, hT]
  intro fuel
  induction fuel with
  | zero =>
    intro l a w hl hc hI
    have h0 := readyT_done (T := T.2) (Nat.le_zero.1 hc)
    exact ⟨by rw [hr, h0], fin _ a w (by simpa using hl) h0 hI⟩
  | succ fuel ih =>
    intro l a w hl hc hI
    refine ⟨fun h0 => fin _ a w (by simpa using hl) (by rw [← hr]; exact h0) hI, fun i hi => ?_⟩
    rw [hr] at hi
    unfold readyT at hi
    rw [List.mem_filter, List.mem_range] at hi
    obtain ⟨hi1, hi2⟩ := hi
    have hi3 : i < ops.size := by
      rw [← hT] at hi1
      rwa [rtab_length] at hi1
    have ho : ops[i]? = some ops[i] := Array.getElem?_eq_getElem hi3
    refine wpOp_step ho (fun K' hK => step i _ l.toList a w ho (by simpa using hl) hi2 hI K' (fun a' w' hI' => hK a' w' ?_))
    refine ih _ a' w' (by simpa using hl) ?_ (by simpa using hI')
    have hf : l.toList[i]? = some false := by
      unfold readyAt at hi2
      rw [Bool.and_eq_true, Bool.not_eq_true', List.getD_eq_getElem?_getD] at hi2
      have h1 := hi2.1
      cases hq : l.toList[i]? with
      | none => rw [hq] at h1; simp at h1
      | some b => rw [hq] at h1; simpa using h1
    rw [Array.toList_setIfInBounds]
    have hi4 := (List.getElem?_eq_some_iff.1 hf)
    obtain ⟨hi5, hi6⟩ := hi4
    have : (l.toList.set i true).count false + 1 = l.toList.count false := by
      rw [List.count_set hi5, hi6]
      have hp : 0 < l.toList.count false := List.count_pos_iff.2 (List.mem_of_getElem? hf)
      generalize l.toList.count false = c at hp ⊢
      simp
      omega
    omega
theorem region_inv {id n : Nat} {a : Act} {w : World} (hm : P.follows .mixedOrders = true) (hT : rtab .any ops = T) (hn : ops.size = n) (Inv : List Bool → Act → World → Prop)
    (h0 : Inv (List.replicate n false) a w.drew)
    (step : ∀ (i : Nat) (o : Oper) (l : List Bool) (a : Act) (w : World), ops[i]? = some o → l.length = n → readyAt T.2 l i = true → Inv l a w →
      ∀ K : Act → World → Prop, (∀ a' w', Inv (l.set i true) a' w' → K a' w') → if Region.wanted o (yielded ops a.tmps) = true then Oper.wp P o a w K Q else K (a.put o.dst undef) w)
    (fin : ∀ (l : List Bool) (a : Act) (w : World), l.length = n → readyT T.2 l = [] → Inv l a w → Q .normal a w) : (Code.region id ops true).wp P Q a w := by
  subst hn
  refine wp_region_any hm (any_inv hT rfl Inv step fin _ _ _ _ (by simp) ?_ (by simpa using h0))
  simp
end
end Go.Proofs.YtgcioalgjcaikaaDoorW.PrintWords
namespace Go.Proofs.YtgcioalgjcaikaaDoorW.PrintWords
open Go.Proofs.YtgcioalgjcaikaaDoorW.PrintLast Go.Proofs.YtgcioalgjcaikaaDoorW.PrintMore
theorem eval_put {a : Act} {n m : Nat} {v : Value} (h : n < a.tmps.size) : (a.put (some n) v).eval (.tmp m) = if n = m then v else a.eval (.tmp m) := by
  simp only [Act.put, Act.eval, Array.getD_eq_getD_getElem?, Array.getElem?_setIfInBounds]
  by_cases e : n = m
  · subst e
    simp [h]
  · simp [e]
theorem size_put {a : Act} {n : Nat} {v : Value} : (a.put (some n) v).tmps.size = a.tmps.size := by simp [Act.put]
theorem defers_put {a : Act} {n : Nat} {v : Value} : (a.put (some n) v).defers = a.defers := rfl
theorem getD_set {l : List Bool} {i j : Nat} (h : i < l.length) : (l.set i true).getD j false = if i = j then true else l.getD j false := by
  rw [List.getD_eq_getElem?_getD, List.getD_eq_getElem?_getD, List.getElem?_set]
  by_cases e : i = j
  · subst e
    simp [h]
  · simp [e]
/-- What an operation waits for is done. -/
theorem ready_of {T : List (List Nat × List Nat)} {l : List Bool} {i : Nat} {r : List Nat × List Nat} (h : readyAt T l i = true) (hr : T[i]? = some r) : l.getD i true = false ∧ ∀ j ∈ r.1, l.getD j false = true := by
  unfold readyAt at h
  rw [hr, Bool.and_eq_true, Bool.not_eq_true', List.all_eq_true] at h
  exact h
end Go.Proofs.YtgcioalgjcaikaaDoorW.PrintWords
namespace Go.Proofs.YtgcioalgjcaikaaDoorW.PrintWords
open Go.Proofs.YtgcioalgjcaikaaDoorW.PrintLast Go.Proofs.YtgcioalgjcaikaaDoorW.PrintMore
theorem undone {T : List (List Nat × List Nat)} {l : List Bool} {i : Nat} (h : readyAt T l i = true) (hi : i < l.length) : l.getD i false = false := by
  unfold readyAt at h
  rw [Bool.and_eq_true, Bool.not_eq_true', List.getD_eq_getElem?_getD, List.getElem?_eq_getElem hi] at h
  rw [List.getD_eq_getElem?_getD, List.getElem?_eq_getElem hi]
  exact h.1
end Go.Proofs.YtgcioalgjcaikaaDoorW.PrintWords
