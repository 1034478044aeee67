/- Plain facts on steps that are copied: the copy is what was copied. -/
import Derived.Test.YtaflodibibbakaaBx0
import Derived.Test.YtaflodibibbakaaBx11
import Derived.Test.YtaflodibibbakaaBx16
import Derived.Test.YtaflodibibbakaaRdS
-- uses RdS
namespace Go.Proofs.Ytaflodibibbakaa.B
open Go.RowKit Go.Proofs.YtaflodibibbakaaW.PrintWords Go.Proofs.YtaflodibibbakaaW.PrintLast Go.Proofs.YtaflodibibbakaaW.PrintMore
theorem eta_st (s : S50) : (⟨s.f0, s.f1, (⟨s.f2.f0, s.f2.f1, s.f2.f2⟩ : S48), s.f3, s.f4, s.f5⟩ : S50) = s := by cases s; rfl
theorem copy_ev : ∀ l : List S50, nTs l ≤ 1048576 → Ev (fun k => spec_l2Copy.f k l) l := by
 refine tree_ind fun l ih hl => ?_
 have hlen := nTs_length l
 have loop : ∀ (d n : Nat), n + d = l.length → Ev (fun k => spec_l2Copy.l0 k l (l.take n) (n : Int)) l := by
  intro d
  induction d with
  | zero =>
   intro n hn
   refine Ev.succ_ (Ev.all_ fun k => ?_)
   have h1 : ¬ ((n : Int) < (l.length : Int)) := by omega
   simp only [spec_l2Copy.l0, h1, if_false]
   rw [List.take_of_length_le (by omega)]
  | succ d ih2 =>
   intro n hn
   refine Ev.succ_ ?_
   have h1 : (n : Int) < (l.length : Int) := by omega
   have h2 : (0 : Int) ≤ (n : Int) := by omega
   have h3 : (l.take n).length < 1466015503701 := by rw [List.length_take]; omega
   have h4 : wrap64 ((n : Int) + 1) = ((n + 1 : Nat) : Int) := by rw [wr (by omega) (by omega)]; omega
   have hm := rdS_mem (l := l) (n := n) (by omega)
   have hs := nTs_mem hm
   obtain ⟨i4, i5⟩ := ih _ hm
   have e : l.take n ++ [rd_T50 l (n : Int)] = l.take (n + 1) := by
    have hn' : n < l.length := by omega
    rw [List.take_succ_eq_append_getElem hn']
    simp [rd_T50, List.getD_eq_getElem?_getD, List.getElem?_eq_getElem hn']
   simp only [spec_l2Copy.l0, h1, h2, h3, h4, if_true]
   refine Ev.bind (i4 (by omega)) (Ev.bind (i5 (by omega)) ?_)
   simp only [eta_st, e]
   exact ih2 (n + 1) (by omega)
 refine Ev.succ_ ?_
 simp only [spec_l2Copy.f]
 simpa using loop l.length 0 (by omega)
theorem clone_ev : ∀ l : List S50, nTs l ≤ 1048576 → Ev (fun k => impl_cloneSteps.f k l) l := by
 refine tree_ind fun l ih hl => ?_
 have hlen := nTs_length l
 have loop : ∀ (d n : Nat), n + d = l.length → Ev (fun k => impl_cloneSteps.l0 k (l.take n) l (l.length : Int) (n : Int)) l := by
  intro d
  induction d with
  | zero =>
   intro n hn
   refine Ev.succ_ (Ev.all_ fun k => ?_)
   have h1 : ¬ ((n : Int) < (l.length : Int)) := by omega
   simp only [impl_cloneSteps.l0, h1, if_false]
   rw [List.take_of_length_le (by omega)]
  | succ d ih2 =>
   intro n hn
   refine Ev.succ_ ?_
   have h1 : (n : Int) < (l.length : Int) := by omega
   have h2 : (0 : Int) ≤ (n : Int) := by omega
   have h3 : (l.take n).length < 1466015503701 := by rw [List.length_take]; omega
   have h4 : wrap64 ((n : Int) + 1) = ((n + 1 : Nat) : Int) := by rw [wr (by omega) (by omega)]; omega
   have hm := rdS_mem (l := l) (n := n) (by omega)
   have hs := nTs_mem hm
   obtain ⟨i4, i5⟩ := ih _ hm
   have e : l.take n ++ [rd_T50 l (n : Int)] = l.take (n + 1) := by
    have hn' : n < l.length := by omega
    rw [List.take_succ_eq_append_getElem hn']
    simp [rd_T50, List.getD_eq_getElem?_getD, List.getElem?_eq_getElem hn']
   simp only [impl_cloneSteps.l0, h1, h2, h3, h4, if_true]
   refine Ev.bind (i4 (by omega)) (Ev.bind (i5 (by omega)) ?_)
   simp only [eta_st, e]
   exact ih2 (n + 1) (by omega)
 refine Ev.succ_ ?_
 simp only [impl_cloneSteps.f]
 simpa using loop l.length 0 (by omega)
end Go.Proofs.Ytaflodibibbakaa.B
