/- The law FnExactProgAt: ProgAt of the program is the reference's, for all arguments; without conditions. -/
import Derived.Test.YtaflodibibbakaaBx0
import Derived.Test.YtaflodibibbakaaBx4
import Derived.Test.YtaflodibibbakaaBx5
import Derived.Test.YtaflodibibbakaaBx7
import Derived.Test.YtaflodibibbakaaBx18
import Derived.Test.YtaflodibibbakaaBx19
import Derived.Test.YtaflodibibbakaaBx20
import Derived.Test.YtaflodibibbakaaStmFnExactProgAt
import Derived.Test.YtaflodibibbakaaAtEv
import Derived.Test.YtaflodibibbakaaProgAll
import Derived.Test.YtaflodibibbakaaMarkProg
import Derived.Test.YtaflodibibbakaaHeldT
import Derived.Test.YtaflodibibbakaaStepsTo
-- uses StmFnExactProgAt AtEv ProgAll MarkProg HeldT StepsTo
namespace Go.Proofs.Ytaflodibibbakaa.Pure
open Go.RowKit Go.Proofs.YtaflodibibbakaaW.PrintWords Go.Proofs.YtaflodibibbakaaW.PrintLast Go.Proofs.YtaflodibibbakaaW.PrintMore Go.Proofs.Ytaflodibibbakaa.B
theorem eqStep_self (s : S50) (h1 : nTs s.f4 ≤ 1048576) (h2 : nTs s.f5 ≤ 1048576) : Ev (fun k => laws_eqStep.f k s.f0 s.f1 s.f2.f0 s.f2.f1 s.f2.f2 s.f3 s.f4 s.f5 s.f0 s.f1 s.f2.f0 s.f2.f1 s.f2.f2 s.f3 s.f4 s.f5) true := by
 unfold laws_eqStep.f
 simp only [laws_eqStep.g, laws_eqVal.f, Option.bind_some, if_true]
 refine Ev.bind (eqSteps_ev _ h1) ?_
 simp only [if_true]
 refine Ev.bind (eqSteps_ev _ h2) ?_
 simp only [if_true]
 exact Ev.now _
theorem heldStep_self (s : S50) (h : nTs s.f4 + nTs s.f5 ≤ 1048576) : Ev (fun k => laws_heldStep.f k s.f0 s.f1 s.f2.f0 s.f2.f1 s.f2.f2 s.f3 (Deep.mkTs 1 s.f4) (Deep.mkTs (1 + 6 * (laws_markStepS.nTs s.f4 : Int)) s.f5) 1) (1 + 6 * (laws_markStepS.nTs s.f4 : Int) + 6 * (laws_markStepS.nTs s.f5 : Int)) := by
 have e4 := mark_nTs s.f4
 have e5 := mark_nTs s.f5
 have p4 := heldT_ev s.f4 1 (by omega) (by omega)
 have p5 := heldT_ev s.f5 (1 + 6 * (laws_markStepS.nTs s.f4 : Int)) (by omega) (by omega)
 have n4 : ¬ (1 + 6 * (laws_markStepS.nTs s.f4 : Int) < 0) := by omega
 have n5 : ¬ (1 + 6 * (laws_markStepS.nTs s.f4 : Int) + 6 * (laws_markStepS.nTs s.f5 : Int) < 0) := by omega
 unfold laws_heldStep.f
 refine Ev.bind p4 ?_
 simp only [n4, if_false]
 refine Ev.bind p5 ?_
 simp only [n5, if_false]
 exact Ev.now _
theorem atV_form (L : List S60) (S : List S50) (n : Int) (h : nTs S ≤ 1048576) : ∃ s b, atV L S n = outT s b ∧ nTs s.f4 + nTs s.f5 ≤ 1048576 := by
 unfold atV
 split
 ·rename_i hb
  refine ⟨rd_T50 (alTs S) n, true, rfl, ?_⟩
  have hx : rd_T50 (alTs S) n ∈ alTs S ∨ rd_T50 (alTs S) n = z50 := by
   unfold rd_T50
   rw [List.getD_eq_getElem?_getD]
   cases he : (alTs S)[n.toNat]? with
   | none => exact .inr rfl
   | some x => exact .inl (List.mem_of_getElem? he)
  rcases hx with hx | hx
  ·have h1 := alT_le S _ hx
   have h2 := nTs_mem (List.mem_singleton_self (rd_T50 (alTs S) n))
   omega
  ·rw [hx]; simp [z50, nTs]
 ·exact ⟨z50, false, rfl, by simp [z50, nTs]⟩
theorem FnExactProgAt : laws_FnExactProgAt.Stm := by
 intro a b n w1 w2 _
 refine Ev.rounds ?_
 unfold laws_FnExactProgAt.f
 rcases szProg_ev a b w1.1 w2 with hs | ⟨r, hr, hs, l1, l2⟩
 ·refine Ev.bind hs ?_
  simp only [show (-1 : Int) < 0 by omega, if_true]
  exact Ev.now _
 ·refine Ev.bind hs ?_
  have n1 : ¬ r < 0 := by omega
  simp only [n1, if_false]
  have tp := toProg_ev a b l1 l2
  have l1' : (a.map cvLabel).length ≤ 1048576 := by simpa using l1
  have sp := sp_atV (a.map cvLabel) (cvTs b) n l1' l2
  have im := im_atV (a.map cvLabel) (cvTs b) n l1' l2
  obtain ⟨s, c, hV, hz⟩ := atV_form (a.map cvLabel) (cvTs b) n l2
  rw [hV] at sp im
  have eqR := eqStep_self s (by omega) (by omega)
  have hd := heldStep_self s hz
  obtain ⟨m, hm, x, mk⟩ := markProg_ev (a.map cvLabel) (cvTs b) l1' l2
  have n2 : ¬ m < 0 := by omega
  have e4 := mark_nTs s.f4
  have e5 := mark_nTs s.f5
  have ms : laws_markStep.f s.f0 s.f1 s.f2.f0 s.f2.f1 s.f2.f2 s.f3 s.f4 s.f5 1 = some (1 + 6 * (laws_markStepS.nTs s.f4 : Int) + 6 * (laws_markStepS.nTs s.f5 : Int), Deep.mkTs 1 s.f4, Deep.mkTs (1 + 6 * (laws_markStepS.nTs s.f4 : Int)) s.f5) := by
   unfold laws_markStep.f
   rw [if_pos (by omega), if_pos (by omega)]
  have n3 : ¬ (1 + 6 * (laws_markStepS.nTs s.f4 : Int) + 6 * (laws_markStepS.nTs s.f5 : Int) < 0) := by omega
  refine Ev.bind tp (Ev.bind sp (Ev.bind tp (Ev.bind im ?_)))
  simp only [outT]
  refine Ev.bind eqR ?_
  simp only [if_true]
  refine Ev.succ_ ?_
  simp only [laws_FnExactProgAt.j0, bne_self_eq_false, Bool.false_eq_true, if_false]
  refine Ev.bind tp (Ev.bind (eqProg_ev _ _ l1' l2) ?_)
  simp only [if_true]
  refine Ev.bind mk ?_
  simp only [n2, if_false]
  refine Ev.bind eqR ?_
  simp only [if_true]
  refine Ev.succ_ ?_
  simp only [laws_FnExactProgAt.j1, Bool.false_eq_true, if_false, ms, Option.bind_some]
  refine Ev.bind hd ?_
  simp only [n3, if_false, if_true]
  refine Ev.bind tp (Ev.bind im ?_)
  simp only [outT]
  refine Ev.bind eqR ?_
  simp only [if_true]
  refine Ev.succ_ ?_
  simp only [laws_FnExactProgAt.j2, bne_self_eq_false, Bool.false_eq_true, if_false]
  refine Ev.bind hd ?_
  simp only [n3, if_false, if_true]
  exact Ev.now _
end Go.Proofs.Ytaflodibibbakaa.Pure
