/- Plain facts on slices of Label that are marked: what is held. -/
import Derived.Test.YtaflodibibbakaaAx0
import Derived.Test.YtaflodibibbakaaAx23
import Derived.Test.YtaflodibibbakaaKit
import Derived.Test.YtaflodibibbakaaMarkLabel
-- uses Kit MarkLabel
namespace Go.Proofs.Ytaflodibibbakaa.A
open Go.RowKit Go.Proofs.YtaflodibibbakaaW.PrintWords Go.Proofs.YtaflodibibbakaaW.PrintLast Go.Proofs.YtaflodibibbakaaW.PrintMore
theorem heldLabel_loop (c : Nat) : ∀ (pre : List S60) (m : Int), 0 ≤ m → m + 2 * (c : Int) ≤ 2199023255552 → pre.length + c ≤ 1099511627776 →
  Ev (fun k => laws_heldLabelS.l0 k (pre ++ seqLabel m c) m (pre.length : Int)) (m + 2 * (c : Int)) := by
 induction c with
 | zero =>
  intro pre m _ _ _
  refine Ev.succ_ (Ev.all_ fun k => ?_)
  have h1 : ¬ ((pre.length : Int) < ((pre ++ seqLabel m 0).length : Int)) := by simp [seqLabel]
  simp only [laws_heldLabelS.l0, h1, if_false]
  simp
 | succ c ih =>
  intro pre m h0 hm hl
  refine Ev.succ_ ?_
  have h1 : (pre.length : Int) < ((pre ++ seqLabel m (c + 1)).length : Int) := by simp [seqLabel, seqLabel_length]; omega
  have h2 : (0 : Int) ≤ (pre.length : Int) := by omega
  have h4 : wrap64 ((pre.length : Int) + 1) = ((pre ++ [(⟨m, m + 1⟩ : S60)]).length : Int) := by rw [wr (by omega) (by omega)]; simp
  have h5 : wrap64 (m + 1) = m + 1 := wr (by omega) (by omega)
  have h6 : wrap64 (m + 1 + 1) = m + 2 := by rw [wr (by omega) (by omega)]; omega
  have h7 : rd_T60 (pre ++ seqLabel m (c + 1)) (pre.length : Int) = ⟨m, m + 1⟩ := getD_mid _ _ _ _
  simp only [laws_heldLabelS.l0, h1, h2, h4, h5, h6, h7, if_true]
  have := ih (pre ++ [⟨m, m + 1⟩]) (m + 2) (by omega) (by omega) (by simp; omega)
  rw [List.append_assoc, List.singleton_append] at this
  refine Ev.eq_ this ?_
  omega
theorem heldLabel_ev (m : Int) (c : Nat) (h0 : 0 ≤ m) (hm : m ≤ 1099511627776) (hl : c ≤ 549755813888) : Ev (fun k => laws_heldLabelS.f k (seqLabel m c) m) (m + 2 * (c : Int)) :=
 heldLabel_loop c [] m h0 (by omega) (by simp; omega)
end Go.Proofs.Ytaflodibibbakaa.A
