/- Plain facts on lists of whole numbers that are marked: what is marked is held. -/
import Derived.Test.YtcndpbegmdcelaaAx41
import Derived.Test.YtcndpbegmdcelaaAx43
import Derived.Test.YtcndpbegmdcelaaKit
-- uses Kit
namespace Go.Proofs.Ytcndpbegmdcelaa.A
open Go.RowKit Go.Proofs.YtcndpbegmdcelaaW.PrintWords Go.Proofs.YtcndpbegmdcelaaW.PrintLast Go.Proofs.YtcndpbegmdcelaaW.PrintMore
theorem markIntS_loop (rest : List Int) : ∀ (pre : List Int) (m : Int), 0 ≤ m → m + (rest.length : Int) ≤ 1099511627776 → (pre ++ rest).length ≤ 1099511627776 →
    Ev (fun k => laws_markIntS.l0 k (pre ++ rest) m (pre.length : Int)) (m + (rest.length : Int), pre ++ seqI m rest.length) := by
  induction rest with
  | nil =>
    intro pre m _ _ _
    refine Ev.succ_ (Ev.all_ fun k => ?_)
    have h1 : ¬ ((pre.length : Int) < ((pre ++ []).length : Int)) := by simp
    simp only [laws_markIntS.l0, h1, if_false]
    simp [seqI]
  | cons x rest ih =>
    intro pre m h0 hm hl
    have hl' : pre.length + (rest.length + 1) ≤ 1099511627776 := by simpa using hl
    have hm' : m + ((rest.length : Int) + 1) ≤ 1099511627776 := by simpa using hm
    refine Ev.succ_ ?_
    have h1 : (pre.length : Int) < ((pre ++ x :: rest).length : Int) := by simp; omega
    have h2 : (0 : Int) ≤ (pre.length : Int) := by omega
    have h4 : wrap64 ((pre.length : Int) + 1) = ((pre ++ [m]).length : Int) := by rw [wr (by omega) (by omega)]; simp
    have h5 : wrap64 (m + 1) = m + 1 := wr (by omega) (by omega)
    simp only [laws_markIntS.l0, h1, h2, h4, h5, if_true, Int.toNat_natCast, set_mid]
    have := ih (pre ++ [m]) (m + 1) (by omega) (by omega) (by simp; omega)
    rw [List.append_assoc, List.singleton_append] at this
    refine Ev.eq_ this ?_
    simp [seqI]
    omega
theorem markIntS_ev (l : List Int) (m : Int) (h0 : 0 ≤ m) (hl : m + (l.length : Int) ≤ 1099511627776) : Ev (fun k => laws_markIntS.f k l m) (m + (l.length : Int), seqI m l.length) :=
  markIntS_loop l [] m h0 hl (by simp; omega)
theorem heldIntS_loop (c : Nat) : ∀ (pre : List Int) (m : Int), 0 ≤ m → m + (c : Int) ≤ 1099511627776 → pre.length + c ≤ 1099511627776 →
    Ev (fun k => laws_heldIntS.l0 k (pre ++ seqI m c) m (pre.length : Int)) (m + (c : Int)) := by
  induction c with
  | zero =>
    intro pre m _ _ _
    refine Ev.succ_ (Ev.all_ fun k => ?_)
    have h1 : ¬ ((pre.length : Int) < ((pre ++ seqI m 0).length : Int)) := by simp [seqI]
    simp only [laws_heldIntS.l0, h1, if_false]
    simp
  | succ c ih =>
    intro pre m h0 hm hl
    refine Ev.succ_ ?_
    have h1 : (pre.length : Int) < ((pre ++ seqI m (c + 1)).length : Int) := by simp [seqI, seqI_length]; omega
    have h2 : (0 : Int) ≤ (pre.length : Int) := by omega
    have h4 : wrap64 ((pre.length : Int) + 1) = ((pre ++ [m]).length : Int) := by rw [wr (by omega) (by omega)]; simp
    have h5 : wrap64 (m + 1) = m + 1 := wr (by omega) (by omega)
    have h6 : rd (pre ++ seqI m (c + 1)) (pre.length : Int) = m := by
      simp only [rd, Int.toNat_natCast, seqI]
      exact getD_mid _ _ _ _
    simp only [laws_heldIntS.l0, h1, h2, h4, h5, h6, if_true]
    have := ih (pre ++ [m]) (m + 1) (by omega) (by omega) (by simp; omega)
    rw [List.append_assoc, List.singleton_append] at this
    refine Ev.eq_ this ?_
    omega
theorem heldIntS_ev (m : Int) (c : Nat) (h0 : 0 ≤ m) (hl : m + (c : Int) ≤ 1099511627776) : Ev (fun k => laws_heldIntS.f k (seqI m c) m) (m + (c : Int)) :=
  heldIntS_loop c [] m h0 hl (by simp; omega)
end Go.Proofs.Ytcndpbegmdcelaa.A
