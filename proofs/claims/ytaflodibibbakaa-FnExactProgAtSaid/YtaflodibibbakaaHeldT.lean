/- Plain facts on trees of steps that are marked, and looked at. -/
import Derived.Test.YtaflodibibbakaaBx0
import Derived.Test.YtaflodibibbakaaBx7
import Derived.Test.YtaflodibibbakaaBx18
import Derived.Test.YtaflodibibbakaaBx19
import Derived.Test.YtaflodibibbakaaKit
import Derived.Test.YtaflodibibbakaaTree
import Derived.Test.YtaflodibibbakaaMarkB
import Derived.Test.YtaflodibibbakaaMarkProg
-- uses Kit Tree MarkB MarkProg
namespace Go.Proofs.Ytaflodibibbakaa.B
open Go.RowKit Go.Proofs.YtaflodibibbakaaW.PrintWords Go.Proofs.YtaflodibibbakaaW.PrintLast Go.Proofs.YtaflodibibbakaaW.PrintMore
theorem heldT_loop : ∀ (r pre : List S50) (m : Int), (∀ x ∈ r, ∀ l, l = x.f4 ∨ l = x.f5 → ∀ a : Int, 0 ≤ a → a + 6 * (laws_markStepS.nTs l : Int) ≤ 1099511627776 → Ev (fun k => laws_heldStepS.f k (Deep.mkTs a l) a) (a + 6 * (laws_markStepS.nTs l : Int))) →
  0 ≤ m → m + 6 * (laws_markStepS.nTs r : Int) ≤ 1099511627776 → pre.length + r.length ≤ 1099511627776 → Ev (fun k => laws_heldStepS.l0 k (pre ++ Deep.mkTs m r) m (pre.length : Int)) (m + 6 * (laws_markStepS.nTs r : Int)) := by
 intro r
 induction r with
 | nil =>
  intro pre m _ _ _ _
  refine Ev.succ_ (Ev.all_ fun k => ?_)
  have h1 : ¬ ((pre.length : Int) < ((pre ++ Deep.mkTs m []).length : Int)) := by simp [Deep.mkTs]
  simp only [laws_heldStepS.l0, h1, if_false]
  simp [laws_markStepS.nTs]
 | cons x r ih =>
  intro pre m hP h0 hm hl
  have hn : laws_markStepS.nTs (x :: r) = 1 + laws_markStepS.nTs x.f4 + laws_markStepS.nTs x.f5 + laws_markStepS.nTs r := by
   rw [laws_markStepS.nTs, laws_markStepS.nT_eq]
  have hx : laws_markStepS.nT x = 1 + laws_markStepS.nTs x.f4 + laws_markStepS.nTs x.f5 := laws_markStepS.nT_eq x
  have hl' : pre.length + (r.length + 1) ≤ 1099511627776 := by simpa using hl
  refine Ev.succ_ ?_
  have h1 : (pre.length : Int) < ((pre ++ Deep.mkTs m (x :: r)).length : Int) := by simp [Deep.mkTs, Deep.mkTs_len]; omega
  have h2 : (0 : Int) ≤ (pre.length : Int) := by omega
  have h4 : wrap64 ((pre.length : Int) + 1) = ((pre ++ [Deep.mkT m x]).length : Int) := by rw [wr (by omega) (by omega)]; simp
  have w1 : wrap64 (m + 1) = m + 1 := wr (by omega) (by omega)
  have w2 : wrap64 (m + 1 + 1) = m + 2 := by rw [wr (by omega) (by omega)]; omega
  have w3 : wrap64 (m + 2 + 1) = m + 3 := by rw [wr (by omega) (by omega)]; omega
  have w4 : wrap64 (m + 3 + 1) = m + 4 := by rw [wr (by omega) (by omega)]; omega
  have w5 : wrap64 (m + 4 + 1) = m + 5 := by rw [wr (by omega) (by omega)]; omega
  have w6 : wrap64 (m + 5 + 1) = m + 6 := by rw [wr (by omega) (by omega)]; omega
  have h6 : rd_T50 (pre ++ Deep.mkTs m (x :: r)) (pre.length : Int) = ⟨m, m + 1, ⟨m + 2, m + 3, m + 4⟩, m + 5, Deep.mkTs (m + 6) x.f4, Deep.mkTs (m + 6 + 6 * (laws_markStepS.nTs x.f4 : Int)) x.f5⟩ := by
   rw [← Deep.mkT_eq]
   simp only [rd_T50, Int.toNat_natCast, Deep.mkTs]
   exact getD_mid _ _ _ _
  have p4 := hP x (List.mem_cons_self ..) _ (.inl rfl) (m + 6) (by omega) (by omega)
  have p5 := hP x (List.mem_cons_self ..) _ (.inr rfl) (m + 6 + 6 * (laws_markStepS.nTs x.f4 : Int)) (by omega) (by omega)
  have n4 : ¬ (m + 6 + 6 * (laws_markStepS.nTs x.f4 : Int) < 0) := by omega
  have n5 : ¬ (m + 6 + 6 * (laws_markStepS.nTs x.f4 : Int) + 6 * (laws_markStepS.nTs x.f5 : Int) < 0) := by omega
  simp only [laws_heldStepS.l0, h1, h2, h4, h6, w1, w2, w3, w4, w5, w6, if_true]
  refine Ev.bind p4 ?_
  simp only [n4, if_false]
  refine Ev.bind p5 ?_
  simp only [n5, if_false]
  have := ih (pre ++ [Deep.mkT m x]) (m + 6 + 6 * (laws_markStepS.nTs x.f4 : Int) + 6 * (laws_markStepS.nTs x.f5 : Int)) (fun y hy => hP y (List.mem_cons_of_mem _ hy)) (by omega) (by omega) (by simp; omega)
  rw [List.append_assoc, List.singleton_append, show m + 6 + 6 * (laws_markStepS.nTs x.f4 : Int) + 6 * (laws_markStepS.nTs x.f5 : Int) = m + 6 * (laws_markStepS.nT x : Int) by rw [hx]; omega] at this
  simp only [Deep.mkTs]
  rw [show m + 6 + 6 * (laws_markStepS.nTs x.f4 : Int) + 6 * (laws_markStepS.nTs x.f5 : Int) = m + 6 * (laws_markStepS.nT x : Int) by rw [hx]; omega]
  refine Ev.eq_ this ?_
  rw [hn, hx]
  omega
theorem heldT_ev : ∀ l : List S50, ∀ a : Int, 0 ≤ a → a + 6 * (laws_markStepS.nTs l : Int) ≤ 1099511627776 → Ev (fun k => laws_heldStepS.f k (Deep.mkTs a l) a) (a + 6 * (laws_markStepS.nTs l : Int)) := by
 refine tree_ind fun l ih a h0 hm => ?_
 have hlen : l.length ≤ laws_markStepS.nTs l := by rw [mark_nTs]; exact nTs_length l
 refine Ev.succ_ ?_
 simp only [laws_heldStepS.f]
 have := heldT_loop l [] a (fun x hx l' h => h.elim (fun e => by rw [e]; exact (ih x hx).1) (fun e => by rw [e]; exact (ih x hx).2)) h0 hm (by simp; omega)
 simpa using this
end Go.Proofs.Ytaflodibibbakaa.B
