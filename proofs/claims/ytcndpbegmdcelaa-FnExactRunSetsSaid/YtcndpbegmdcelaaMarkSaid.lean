/- Plain facts on slices of Said that are marked: what is marked is held. -/
import Derived.Test.YtcndpbegmdcelaaAx0
import Derived.Test.YtcndpbegmdcelaaAx42
import Derived.Test.YtcndpbegmdcelaaKit
-- uses Kit
namespace Go.Proofs.Ytcndpbegmdcelaa.A
open Go.RowKit Go.Proofs.YtcndpbegmdcelaaW.PrintWords Go.Proofs.YtcndpbegmdcelaaW.PrintLast Go.Proofs.YtcndpbegmdcelaaW.PrintMore
def seqSaid (m : Int) : Nat → List S86
  | 0 => []
  | c + 1 => ⟨m, m + 1⟩ :: seqSaid (m + 2) c
theorem seqSaid_length (m : Int) (c : Nat) : (seqSaid m c).length = c := by
  induction c generalizing m with
  | zero => rfl
  | succ c ih => simp [seqSaid, ih]
theorem markSaid_loop (rest : List S86) : ∀ (pre : List S86) (m : Int), 0 ≤ m → m + 2 * (rest.length : Int) ≤ 2199023255552 → (pre ++ rest).length ≤ 1099511627776 →
    Ev (fun k => laws_markSaidS.l0 k (pre ++ rest) m (pre.length : Int)) (m + 2 * (rest.length : Int), pre ++ seqSaid m rest.length) := by
  induction rest with
  | nil =>
    intro pre m _ _ _
    refine Ev.succ_ (Ev.all_ fun k => ?_)
    have h1 : ¬ ((pre.length : Int) < ((pre ++ []).length : Int)) := by simp
    simp only [laws_markSaidS.l0, h1, if_false]
    simp [seqSaid]
  | cons x rest ih =>
    intro pre m h0 hm hl
    have hl' : pre.length + (rest.length + 1) ≤ 1099511627776 := by simpa using hl
    have hm' : m + 2 * ((rest.length : Int) + 1) ≤ 2199023255552 := by simpa using hm
    refine Ev.succ_ ?_
    have h1 : (pre.length : Int) < ((pre ++ x :: rest).length : Int) := by simp; omega
    have h2 : (0 : Int) ≤ (pre.length : Int) := by omega
    have h4 : wrap64 ((pre.length : Int) + 1) = ((pre ++ [(⟨m, m + 1⟩ : S86)]).length : Int) := by rw [wr (by omega) (by omega)]; simp
    have h5 : wrap64 (m + 1) = m + 1 := wr (by omega) (by omega)
    have h6 : wrap64 (m + 1 + 1) = m + 2 := by rw [wr (by omega) (by omega)]; omega
    have h7 : ∀ y : S86, rd_T86 (pre ++ y :: rest) (pre.length : Int) = y := fun y => getD_mid _ _ _ _
    simp only [laws_markSaidS.l0, h1, h2, h4, h5, h6, h7, if_true, Int.toNat_natCast, set_mid, Option.bind_some]
    have := ih (pre ++ [⟨m, m + 1⟩]) (m + 2) (by omega) (by omega) (by simp; omega)
    rw [List.append_assoc, List.singleton_append] at this
    refine Ev.eq_ this ?_
    simp [seqSaid]
    omega
theorem markSaid_ev (l : List S86) (m : Int) (h0 : 0 ≤ m) (hm : m ≤ 1099511627776) (hl : l.length ≤ 549755813888) : Ev (fun k => laws_markSaidS.f k l m) (m + 2 * (l.length : Int), seqSaid m l.length) :=
  markSaid_loop l [] m h0 (by omega) (by simp; omega)
end Go.Proofs.Ytcndpbegmdcelaa.A
