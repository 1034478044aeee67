/- The law FnExactTypeSets: TypeSets of the program is the reference's, for all arguments; without conditions. -/
import Derived.Test.YtaflodibibbakaaAx31
import Derived.Test.YtaflodibibbakaaStmFnExactTypeSets
import Derived.Test.YtaflodibibbakaaMC
import Derived.Test.YtaflodibibbakaaMD
-- uses StmFnExactTypeSets SetEv MarkProg MarkI IntS
namespace Go.Proofs.Ytaflodibibbakaa.Pure
open Go.RowKit Go.Proofs.YtaflodibibbakaaW.PrintWords Go.Proofs.YtaflodibibbakaaW.PrintLast Go.Proofs.YtaflodibibbakaaW.PrintMore Go.Proofs.Ytaflodibibbakaa.A
theorem FnExactTypeSets : laws_FnExactTypeSets.Stm := by
 intro a b w1 w2
 refine Ev.rounds ?_
 unfold laws_FnExactTypeSets.f
 rcases szProg_ev a b w1.1 w2 with hs | ⟨r, hr, hs, l1, l2⟩
 ·refine Ev.bind hs ?_
  simp only [show (-1 : Int) < 0 by omega, if_true]
  exact Ev.now _
 ·refine Ev.bind hs ?_
  have n1 : ¬ r < 0 := by omega
  simp only [n1, if_false]
  have tp := toProg_ev a b l1 l2
  have l1' : (a.map cvLabel).length ≤ 1048576 := by simpa using l1
  have sp := sp_setsP (a.map cvLabel) (cvTs b) l1' l2
  have im := im_setsP (a.map cvLabel) (cvTs b) l1' l2
  obtain ⟨R, hR⟩ : ∃ R, R = setsP (a.map cvLabel) (cvTs b) := ⟨_, rfl⟩
  have lR : R.length ≤ 1048576 := by
   rw [hR]
   unfold setsP
   split
   ·rw [setsL, List.length_map, alTs_length]; exact l2
   ·simp
  rw [← hR] at sp im
  have eqR := eqIntS_ev R (by omega)
  obtain ⟨m, hm, x, mk⟩ := markProg_ev (a.map cvLabel) (cvTs b) l1' l2
  have n2 : ¬ m < 0 := by omega
  have mkR := markIntS_ev R 1 (by omega) (by omega)
  have hd := heldIntS_ev 1 R.length (by omega) (by omega)
  have n3 : ¬ (1 + (R.length : Int) < 0) := by omega
  refine Ev.bind tp (Ev.bind sp (Ev.bind tp (Ev.bind im (Ev.bind eqR ?_))))
  simp only [if_true]
  refine Ev.bind tp (Ev.bind (eqProg_ev _ _ l1' l2) ?_)
  simp only [if_true]
  refine Ev.bind mk ?_
  simp only [n2, if_false]
  refine Ev.bind eqR ?_
  refine Ev.succ_ ?_
  simp only [laws_FnExactTypeSets.j0, Bool.not_true, Bool.false_eq_true, if_false]
  refine Ev.bind mkR (Ev.bind hd ?_)
  simp only [n3, if_false, if_true]
  refine Ev.bind tp (Ev.bind im (Ev.bind eqR ?_))
  simp only [if_true]
  refine Ev.bind hd ?_
  simp only [n3, if_false, if_true]
  exact Ev.now _
end Go.Proofs.Ytaflodibibbakaa.Pure
