/- Plain facts on what the functions compute, several texts in one: see wip/pure. -/
import Derived.Test.YtaflodibibbakaaAx29
import Derived.Test.YtaflodibibbakaaMA
import Derived.Test.YtaflodibibbakaaAx0
import Derived.Test.YtaflodibibbakaaAx13
import Derived.Test.YtaflodibibbakaaAx30
import Derived.Test.YtaflodibibbakaaAx14
import Derived.Test.YtaflodibibbakaaMB
namespace Go.Proofs.Ytaflodibibbakaa.A
open Go.RowKit Go.Proofs.YtaflodibibbakaaW.PrintWords Go.Proofs.YtaflodibibbakaaW.PrintLast Go.Proofs.YtaflodibibbakaaW.PrintMore
theorem eqIntS_loop (l : List Int) (hl : l.length ≤ 1099511627776) (d : Nat) : ∀ n : Nat, n + d = l.length → Ev (fun k => laws_eqIntS.l0 k l l (n : Int)) true := by
 induction d with
 | zero =>
  intro n hn
  refine Ev.succ_ (Ev.all_ fun k => ?_)
  have h1 : ¬ ((n : Int) < (l.length : Int)) := by omega
  simp only [laws_eqIntS.l0, h1, if_false]
 | succ d ih =>
  intro n hn
  refine Ev.succ_ ?_
  have h1 : (n : Int) < (l.length : Int) := by omega
  have h2 : (0 : Int) ≤ (n : Int) := by omega
  have h4 : wrap64 ((n : Int) + 1) = ((n + 1 : Nat) : Int) := by rw [wr (by omega) (by omega)]; omega
  simp only [laws_eqIntS.l0, h1, h2, h4, if_true]
  exact ih (n + 1) (by omega)
theorem eqIntS_ev (l : List Int) (hl : l.length ≤ 1099511627776) : Ev (fun k => laws_eqIntS.f k l l) true := by
 simp only [laws_eqIntS.f, if_true]
 exact eqIntS_loop l hl l.length 0 (by omega)
end Go.Proofs.Ytaflodibibbakaa.A
namespace Go.Proofs.Ytaflodibibbakaa.A
open Go.RowKit Go.Proofs.YtaflodibibbakaaW.PrintWords Go.Proofs.YtaflodibibbakaaW.PrintLast Go.Proofs.YtaflodibibbakaaW.PrintMore
def seqLabel (m : Int) : Nat → List S60
 | 0 => []
 | c + 1 => ⟨m, m + 1⟩ :: seqLabel (m + 2) c
theorem seqLabel_length (m : Int) (c : Nat) : (seqLabel m c).length = c := by
 induction c generalizing m with
 | zero => rfl
 | succ c ih => simp [seqLabel, ih]
theorem markLabel_loop (rest : List S60) : ∀ (pre : List S60) (m : Int), 0 ≤ m → m + 2 * (rest.length : Int) ≤ 2199023255552 → (pre ++ rest).length ≤ 1099511627776 →
  Ev (fun k => laws_markLabelS.l0 k (pre ++ rest) m (pre.length : Int)) (m + 2 * (rest.length : Int), pre ++ seqLabel m rest.length) := by
 induction rest with
 | nil =>
  intro pre m _ _ _
  refine Ev.succ_ (Ev.all_ fun k => ?_)
  have h1 : ¬ ((pre.length : Int) < ((pre ++ []).length : Int)) := by simp
  simp only [laws_markLabelS.l0, h1, if_false]
  simp [seqLabel]
 | cons x rest ih =>
  intro pre m h0 hm hl
  have hl' : pre.length + (rest.length + 1) ≤ 1099511627776 := by simpa using hl
  have hm' : m + 2 * ((rest.length : Int) + 1) ≤ 2199023255552 := by simpa using hm
  refine Ev.succ_ ?_
  have h1 : (pre.length : Int) < ((pre ++ x :: rest).length : Int) := by simp; omega
  have h2 : (0 : Int) ≤ (pre.length : Int) := by omega
  have h4 : wrap64 ((pre.length : Int) + 1) = ((pre ++ [(⟨m, m + 1⟩ : S60)]).length : Int) := by rw [wr (by omega) (by omega)]; simp
  have h5 : wrap64 (m + 1) = m + 1 := wr (by omega) (by omega)
  have h6 : wrap64 (m + 1 + 1) = m + 2 := by rw [wr (by omega) (by omega)]; omega
  have h7 : ∀ y : S60, rd_T60 (pre ++ y :: rest) (pre.length : Int) = y := fun y => getD_mid _ _ _ _
  simp only [laws_markLabelS.l0, h1, h2, h4, h5, h6, h7, if_true, Int.toNat_natCast, set_mid, Option.bind_some]
  have := ih (pre ++ [⟨m, m + 1⟩]) (m + 2) (by omega) (by omega) (by simp; omega)
  rw [List.append_assoc, List.singleton_append] at this
  refine Ev.eq_ this ?_
  simp [seqLabel]
  omega
theorem markLabel_ev (l : List S60) (m : Int) (h0 : 0 ≤ m) (hm : m ≤ 1099511627776) (hl : l.length ≤ 549755813888) : Ev (fun k => laws_markLabelS.f k l m) (m + 2 * (l.length : Int), seqLabel m l.length) :=
 markLabel_loop l [] m h0 (by omega) (by simp; omega)
end Go.Proofs.Ytaflodibibbakaa.A
namespace Go.Proofs.Ytaflodibibbakaa.A
open Go.RowKit Go.Proofs.YtaflodibibbakaaW.PrintWords Go.Proofs.YtaflodibibbakaaW.PrintLast Go.Proofs.YtaflodibibbakaaW.PrintMore
theorem markIntS_loop (rest : List Int) : ∀ (pre : List Int) (m : Int), 0 ≤ m → m + (rest.length : Int) ≤ 1099511627776 → (pre ++ rest).length ≤ 1099511627776 →
  Ev (fun k => laws_markIntS.l0 k (pre ++ rest) m (pre.length : Int)) (m + (rest.length : Int), pre ++ seqI m rest.length) := by
 induction rest with
 | nil =>
  intro pre m _ _ _
  refine Ev.succ_ (Ev.all_ fun k => ?_)
  have h1 : ¬ ((pre.length : Int) < ((pre ++ []).length : Int)) := by simp
  simp only [laws_markIntS.l0, h1, if_false]
  simp [seqI]
 | cons x rest ih =>
  intro pre m h0 hm hl
  have hl' : pre.length + (rest.length + 1) ≤ 1099511627776 := by simpa using hl
  have hm' : m + ((rest.length : Int) + 1) ≤ 1099511627776 := by simpa using hm
  refine Ev.succ_ ?_
  have h1 : (pre.length : Int) < ((pre ++ x :: rest).length : Int) := by simp; omega
  have h2 : (0 : Int) ≤ (pre.length : Int) := by omega
  have h4 : wrap64 ((pre.length : Int) + 1) = ((pre ++ [m]).length : Int) := by rw [wr (by omega) (by omega)]; simp
  have h5 : wrap64 (m + 1) = m + 1 := wr (by omega) (by omega)
  simp only [laws_markIntS.l0, h1, h2, h4, h5, if_true, Int.toNat_natCast, set_mid]
  have := ih (pre ++ [m]) (m + 1) (by omega) (by omega) (by simp; omega)
  rw [List.append_assoc, List.singleton_append] at this
  refine Ev.eq_ this ?_
  simp [seqI]
  omega
theorem markIntS_ev (l : List Int) (m : Int) (h0 : 0 ≤ m) (hl : m + (l.length : Int) ≤ 1099511627776) : Ev (fun k => laws_markIntS.f k l m) (m + (l.length : Int), seqI m l.length) :=
 markIntS_loop l [] m h0 hl (by simp; omega)
theorem heldIntS_loop (c : Nat) : ∀ (pre : List Int) (m : Int), 0 ≤ m → m + (c : Int) ≤ 1099511627776 → pre.length + c ≤ 1099511627776 →
  Ev (fun k => laws_heldIntS.l0 k (pre ++ seqI m c) m (pre.length : Int)) (m + (c : Int)) := by
 induction c with
 | zero =>
  intro pre m _ _ _
  refine Ev.succ_ (Ev.all_ fun k => ?_)
  have h1 : ¬ ((pre.length : Int) < ((pre ++ seqI m 0).length : Int)) := by simp [seqI]
  simp only [laws_heldIntS.l0, h1, if_false]
  simp
 | succ c ih =>
  intro pre m h0 hm hl
  refine Ev.succ_ ?_
  have h1 : (pre.length : Int) < ((pre ++ seqI m (c + 1)).length : Int) := by simp [seqI, seqI_length]; omega
  have h2 : (0 : Int) ≤ (pre.length : Int) := by omega
  have h4 : wrap64 ((pre.length : Int) + 1) = ((pre ++ [m]).length : Int) := by rw [wr (by omega) (by omega)]; simp
  have h5 : wrap64 (m + 1) = m + 1 := wr (by omega) (by omega)
  have h6 : rd (pre ++ seqI m (c + 1)) (pre.length : Int) = m := by
   simp only [rd, Int.toNat_natCast, seqI]
   exact getD_mid _ _ _ _
  simp only [laws_heldIntS.l0, h1, h2, h4, h5, h6, if_true]
  have := ih (pre ++ [m]) (m + 1) (by omega) (by omega) (by simp; omega)
  rw [List.append_assoc, List.singleton_append] at this
  refine Ev.eq_ this ?_
  omega
theorem heldIntS_ev (m : Int) (c : Nat) (h0 : 0 ≤ m) (hl : m + (c : Int) ≤ 1099511627776) : Ev (fun k => laws_heldIntS.f k (seqI m c) m) (m + (c : Int)) :=
 heldIntS_loop c [] m h0 hl (by simp; omega)
end Go.Proofs.Ytaflodibibbakaa.A
namespace Go.Proofs.Ytaflodibibbakaa.A
open Go.RowKit Go.Proofs.YtaflodibibbakaaW.PrintWords Go.Proofs.YtaflodibibbakaaW.PrintLast Go.Proofs.YtaflodibibbakaaW.PrintMore
theorem mark_nTs : ∀ l : List S50, laws_markStepS.nTs l = nTs l := by
 intro l
 induction l using tree_ind with
 | _ l ih =>
  induction l with
  | nil => rw [nTs_nil]; rfl
  | cons s r ih2 =>
   have h1 := ih s (by simp)
   rw [nTs_cons, laws_markStepS.nTs, laws_markStepS.nT_eq, h1.1, h1.2, ih2 (fun x hx => ih x (List.mem_cons_of_mem _ hx))]
   omega
theorem markProg_ev (a : List S60) (b : List S50) (h1 : a.length ≤ 1048576) (h2 : nTs b ≤ 1048576) :
  ∃ m : Int, 0 ≤ m ∧ ∃ x, Ev (fun k => laws_markProg.f k a b 1) (m, x) := by
 refine ⟨1 + 2 * (a.length : Int) + 6 * (nTs b : Int), by omega, seqLabel 1 a.length, ?_⟩
 unfold laws_markProg.f
 refine Ev.bind (markLabel_ev a 1 (by omega) (by omega) (by omega)) ?_
 have c1 : (0 : Int) ≤ 1 + 2 * (a.length : Int) := by omega
 have c2 : 1 + 2 * (a.length : Int) + 6 * (nTs b : Int) ≤ 4611686018427387904 := by omega
 simp only [laws_markStepS.f, mark_nTs, c1, c2, if_true, Option.bind_some]
 exact Ev.now _
end Go.Proofs.Ytaflodibibbakaa.A
