/- Words of this session: what a reading of an argument as data says of its cells, in the print's kinds. -/
import Derived.Test.YtfcmckomagaiiaaDoorUMore
import Derived.ChangeArms
import Derived.WideShapes
namespace Go.Proofs.YtfcmckomagaiiaaDoorW.PrintWords
/-- What is read as data at type t is told by d, and is W. (At most N steps of reading.) -/
def RdK {α : Type} (P : Program) (t : TypeId) (d : Kd α) (W : α → Prop) (N : Nat) : Prop := ∀ {H : Type} (enc : TypeId × Value → H) (w : World) (n : Nat) (cs : List Value) (y : DataW H × List MemPlace),
  n ≤ N → DataW.trod enc P w 0 (fun _ => true) true n t cs = some y → ∃ x, d.K w x cs ∧ W x
theorem RdK.int {P : Program} {t : TypeId} {k : IntKind} (N : Nat) (ht : P.underlying t = some (.int k)) : RdK P t (Kd.int k) (fun x => (Lit.int k x).wf = true) N := by
  intro H enc w n cs y _ h
  obtain ⟨x, rfl, rfl, hx⟩ := DataW.trod_int ht h
  exact ⟨x, rfl, hx⟩
theorem RdK.bool {P : Program} {t : TypeId} (N : Nat) (ht : P.underlying t = some .bool) : RdK P t Kd.bool (fun _ => True) N := by
  intro H enc w n cs y _ h
  obtain ⟨x, rfl, rfl⟩ := DataW.trod_bool ht h
  exact ⟨x, rfl, trivial⟩
theorem cells_get {w : World} {a : Addr} {n : Nat} {cs : List Value} (h : w.cells? 0 a n = some cs) : cs.length = n ∧ ∀ i u, cs[i]? = some u → w.cell? (a.add i) = some u := by
  unfold World.cells? at h
  rw [if_pos (Nat.zero_le _)] at h
  have hl := mapM_some_length h
  refine ⟨by simpa using hl, fun i u hu => ?_⟩
  have hi : i < n := by
    have := (List.getElem?_eq_some_iff.1 hu).1
    rw [hl] at this
    simpa using this
  have := mapM_some_get h i i (by simp [hi])
  rw [this, hu]
/-- The elements of a slice that is read. -/
theorem RdK.row {α : Type} {P : Program} {t e : TypeId} {d : Kd α} {W : α → Prop} (N : Nat) (ht : P.underlying t = some (.slice e)) (he : P.cellsOf e = d.sz) (h : ∀ M, M < N → RdK P e d W M)
    {H : Type} (enc : TypeId × Value → H) (w : World) (n : Nat) (cs : List Value) (y : DataW H × List MemPlace) (hn : n ≤ N) (hr : DataW.trod enc P w 0 (fun _ => true) true n t cs = some y) :
    ∃ (A : Option Addr) (c : Nat) (xs : List α), cs = [.slice A xs.length c] ∧ xs.length ≤ c ∧ d.C w A xs.length xs ∧ xs.length ≤ maxLen ∧ ∀ x ∈ xs, W x := by
  rcases DataW.trod_slice ht hr with ⟨rfl, _⟩ | ⟨a, len, cap, elems, rest, m, rfl, rfl, _, _, hl, hm, hlen, hel, _, _⟩
  · exact ⟨none, 0, [], rfl, Nat.le_refl _, ⟨rfl, Nat.zero_le _, fun h0 => absurd h0 (Nat.lt_irrefl _)⟩, Nat.zero_le _, fun x hx => absurd hx List.not_mem_nil⟩
  · have key : ∀ i, i < len → ∃ x c, d.K w x c ∧ W x ∧ ∀ j u, c[j]? = some u → w.cell? (a.add (i * d.sz + j)) = some u := by
      intro i hi
      have h1 := hel i hi
      rw [he] at h1
      have h2 : ∃ z, elems[i]? = some z := ⟨_, List.getElem?_eq_getElem (by omega)⟩
      obtain ⟨z, hz⟩ := h2
      rw [hz, Option.bind_eq_some_iff] at h1
      obtain ⟨c, hc, hz2⟩ := h1
      obtain ⟨x, hx, hw⟩ := h m (by omega) enc w m c z (Nat.le_refl _) hz2
      obtain ⟨_, hcell⟩ := cells_get hc
      refine ⟨x, c, hx, hw, fun j u hu => ?_⟩
      have := hcell j u hu
      rwa [show (a.add (i * d.sz)).add j = a.add (i * d.sz + j) from add_add a _ _] at this
    have all : ∀ k, k ≤ len → ∃ xs : List α, xs.length = k ∧ (∀ x ∈ xs, W x) ∧ ∀ j p, xs[j]? = some p → ∃ c, d.K w p c ∧ ∀ i u, c[i]? = some u → w.cell? (a.add (j * d.sz + i)) = some u := by
      intro k
      induction k with
      | zero => exact fun _ => ⟨[], rfl, fun x hx => absurd hx List.not_mem_nil, fun j p hp => by simp at hp⟩
      | succ k ih =>
        intro hk
        obtain ⟨xs, hl1, hw1, hx1⟩ := ih (by omega)
        obtain ⟨x, c, hx, hw, hc⟩ := key k (by omega)
        refine ⟨xs ++ [x], by simp [hl1], fun z hz => ?_, fun j p hp => ?_⟩
        · rcases List.mem_append.1 hz with hz | hz
          · exact hw1 z hz
          · rw [List.mem_singleton.1 hz]
            exact hw
        · rcases Nat.lt_or_ge j xs.length with hj | hj
          · rw [List.getElem?_append_left hj] at hp
            exact hx1 j p hp
          · have hj2 : j = xs.length := by
              have := (List.getElem?_eq_some_iff.1 hp).1
              rw [List.length_append, List.length_singleton] at this
              omega
            subst hj2
            have hp2 : x = p := by simpa using hp
            subst hp2
            rw [hl1]
            exact ⟨c, hx, hc⟩
    obtain ⟨xs, hl1, hw1, hx1⟩ := all len (Nat.le_refl _)
    subst hl1
    refine ⟨some a, cap, xs, rfl, hl, ⟨rfl, ?_, fun _ => ⟨a, rfl, fun j p hp => ?_⟩⟩, Nat.le_trans hl hm, hw1⟩
    · unfold maxLen at hm
      omega
    · obtain ⟨c, hc, hcell⟩ := hx1 j p hp
      exact ⟨c, d.K_len hc, hc, hcell⟩
/-- The facts of a row, put together one by one. -/
theorem andT {a b : Bool} (ha : a = true) (hb : b = true) : (a && b) = true := by rw [ha, hb]; rfl
end Go.Proofs.YtfcmckomagaiiaaDoorW.PrintWords
