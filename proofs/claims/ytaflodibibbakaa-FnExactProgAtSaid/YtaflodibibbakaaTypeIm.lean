/- Plain facts: what the program itself says of steps: their labels, what they are done by, whether they are fine. -/
import Derived.Test.YtaflodibibbakaaBx0
import Derived.Test.YtaflodibibbakaaBx15
import Derived.Test.YtaflodibibbakaaTypeFine
-- uses TypeFine
namespace Go.Proofs.Ytaflodibibbakaa.B
open Go.RowKit Go.Proofs.YtaflodibibbakaaW.PrintWords Go.Proofs.YtaflodibibbakaaW.PrintLast Go.Proofs.YtaflodibibbakaaW.PrintMore
theorem im_all : ∀ l : List S50, nTs l ≤ 1048576 → Ev (fun k => impl_all.f k l) (alTs l) := by
 refine tree_ind fun l ih hl => ?_
 have hlen := nTs_length l
 have loop : ∀ (d n : Nat) (out : List S50), n + d = l.length → out.length + nTs (l.drop n) ≤ 1048576 → Ev (fun k => impl_all.l0 k out l (l.length : Int) (n : Int)) (out ++ alTs (l.drop n)) := by
  intro d
  induction d with
  | zero =>
   intro n out hn _
   refine Ev.succ_ (Ev.all_ fun k => ?_)
   have h1 : ¬ ((n : Int) < (l.length : Int)) := by omega
   simp only [impl_all.l0, h1, if_false]
   rw [List.drop_of_length_le (by omega), alTs, List.append_nil]
  | succ d ih2 =>
   intro n out hn ho
   refine Ev.succ_ ?_
   have h1 : (n : Int) < (l.length : Int) := by omega
   have h2 : (0 : Int) ≤ (n : Int) := by omega
   have h4 : wrap64 ((n : Int) + 1) = ((n + 1 : Nat) : Int) := by rw [wr (by omega) (by omega)]; omega
   have hm := rdS_mem (l := l) (n := n) (by omega)
   have hs := nTs_mem hm
   obtain ⟨i4, i5⟩ := ih _ hm
   rw [rdS_drop (l := l) (n := n) (by omega), nTs_cons] at ho
   rw [rdS_drop (l := l) (n := n) (by omega), alTs, alT_eq]
   have h5 : out.length < 1466015503701 := by omega
   simp only [impl_all.l0, h1, h2, h4, h5, if_true, Option.bind_some]
   generalize rd_T50 l (n : Int) = s at *
   simp only [eta_s]
   have l4 := alTs_length s.f4
   have l5 := alTs_length s.f5
   refine Ev.bind (i4 (by omega)) ?_
   have h6 : (out ++ [s]).length + (alTs s.f4).length < 1466015503701 := by simp; omega
   simp only [h6, if_true]
   refine Ev.bind (i5 (by omega)) ?_
   have h7 : ((out ++ [s]) ++ alTs s.f4).length + (alTs s.f5).length < 1466015503701 := by simp only [List.length_append, List.length_cons, List.length_nil]; omega
   simp only [h7, if_true]
   refine Ev.eq_ (ih2 (n + 1) _ (by omega) (by simp only [List.length_append, List.length_cons, List.length_nil]; omega)) ?_
   simp [List.append_assoc]
 refine Ev.succ_ ?_
 simp only [impl_all.f]
 simpa using loop l.length 0 [] (by omega) (by rw [List.drop_zero]; simp; omega)
end Go.Proofs.Ytaflodibibbakaa.B
