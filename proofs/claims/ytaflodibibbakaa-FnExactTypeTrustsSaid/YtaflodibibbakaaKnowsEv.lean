/- Plain facts: who is in a set of a label: for the program, for the reference, for the law. -/
import Derived.Test.YtaflodibibbakaaAx0
import Derived.Test.YtaflodibibbakaaAx5
import Derived.Test.YtaflodibibbakaaAx10
import Derived.Test.YtaflodibibbakaaSizeEv
-- uses SizeEv
namespace Go.Proofs.Ytaflodibibbakaa.A
open Go.RowKit Go.Proofs.YtaflodibibbakaaW.PrintWords Go.Proofs.YtaflodibibbakaaW.PrintLast Go.Proofs.YtaflodibibbakaaW.PrintMore
theorem im_hasK (s h : Int) : impl_has.f s h = some (hasB s h) := by
 unfold impl_has.f hasB
 rw [im_host]
 cases e : hostB h with
 | false => rfl
 | true =>
  unfold hostB at e
  simp only [Bool.and_eq_true, decide_eq_true_eq] at e
  simp [e.1]
theorem sp_hasK {s : Int} (hs : isS s = true) (h : Int) : spec_l1Has.f s h = some (hasB s h) := by
 cases hh : hostB h with
 | true =>
  obtain ⟨x, rfl⟩ := as_fin hs
  obtain ⟨y, rfl⟩ := as_host hh
  exact has_fin x y
 | false =>
  have e : hasB s h = false := by simp [hasB, hh]
  rw [e]
  have hn : ¬ (0 ≤ h ∧ h ≤ 2) := by simpa [hostB] using hh
  unfold spec_l1Has.f
  by_cases c1 : h ≥ 0
  ·have c2 : ¬ h < 3 := by omega
   simp [c1, c2]
  ·simp [c1]
theorem rdOf_map {L : List S60} (g : S60 → Bool) {i : Nat} (h : i < L.length) : rdOf false (L.map g) (i : Int) = g (rd_T60 L (i : Int)) := by
 simp [rdOf, rd_T60, List.getD_eq_getElem?_getD, List.getElem?_eq_getElem h]
theorem take_map {L : List S60} (g : S60 → Bool) {i : Nat} (h : i < L.length) : (L.map g).take i ++ [g (rd_T60 L (i : Int))] = (L.map g).take (i + 1) := by
 have h' : i < (L.map g).length := by simpa using h
 rw [List.take_succ_eq_append_getElem h']
 simp [rd_T60, List.getD_eq_getElem?_getD, List.getElem?_eq_getElem h]
theorem lab_ok {L : List S60} (hL : L.all (fun x => okL x.f0 x.f1) = true) {i : Nat} (h : i < L.length) : isS (rd_T60 L (i : Int)).f0 = true ∧ isS (rd_T60 L (i : Int)).f1 = true := by
 have hm : rd_T60 L (i : Int) ∈ L := by
  simp only [rd_T60, Int.toNat_natCast, List.getD_eq_getElem?_getD, List.getElem?_eq_getElem h, Option.getD_some]
  exact List.getElem_mem h
 exact okL_iff.1 (List.all_eq_true.1 hL _ hm)
/-- Of each variable whether a host is in a set of its label. -/
def rowP (L : List S60) (S : List S50) (g : S60 → Bool) : List Bool := if progB L S = true then L.map g else []
end Go.Proofs.Ytaflodibibbakaa.A
