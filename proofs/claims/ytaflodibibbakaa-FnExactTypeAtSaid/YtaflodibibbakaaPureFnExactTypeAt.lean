/- The law FnExactTypeAt: TypeAt of the program is the reference's, for all arguments; without conditions. -/
import Derived.Test.YtaflodibibbakaaAx0
import Derived.Test.YtaflodibibbakaaAx21
import Derived.Test.YtaflodibibbakaaAx23
import Derived.Test.YtaflodibibbakaaAx24
import Derived.Test.YtaflodibibbakaaStmFnExactTypeAt
import Derived.Test.YtaflodibibbakaaSizeEv
import Derived.Test.YtaflodibibbakaaTypeIm
import Derived.Test.YtaflodibibbakaaMarkProg
import Derived.Test.YtaflodibibbakaaHeldLabel
import Derived.Test.YtaflodibibbakaaSLabel
-- uses StmFnExactTypeAt SizeEv TypeIm MarkProg HeldLabel SLabel
namespace Go.Proofs.Ytaflodibibbakaa.Pure
open Go.RowKit Go.Proofs.YtaflodibibbakaaW.PrintWords Go.Proofs.YtaflodibibbakaaW.PrintLast Go.Proofs.YtaflodibibbakaaW.PrintMore Go.Proofs.Ytaflodibibbakaa.A
def atP (L : List S60) (S : List S50) : List S60 := if progB L S = true then laTs L S 7 7 else []
theorem sp_atP (L : List S60) (S : List S50) (h1 : L.length ≤ 1048576) (h2 : nTs S ≤ 1048576) : Ev (fun k => spec_TypeAt.f k L S) (atP L S) := by
 cases hk : progB L S with
 | true => rw [atP, if_pos hk]; exact sp_typeAt L S hk
 | false =>
  unfold spec_TypeAt.f
  refine Ev.bind (sp_progOk _ _ h1 h2) ?_
  rw [hk]
  simp only [atP, hk, Bool.false_eq_true, if_false]
  exact Ev.now _
theorem im_atP (L : List S60) (S : List S50) (h1 : L.length ≤ 1048576) (h2 : nTs S ≤ 1048576) : Ev (fun k => impl_TypeAt.f k L S) (atP L S) := by
 unfold impl_TypeAt.f
 refine Ev.bind (im_progOk _ _ h1 h2) ?_
 cases hk : progB L S with
 | true =>
  simp only [atP, hk, if_true]
  exact Ev.bind (im_at L S hk) (Ev.now _)
 | false =>
  simp only [atP, hk, Bool.false_eq_true, if_false]
  exact Ev.now _
theorem FnExactTypeAt : laws_FnExactTypeAt.Stm := by
 intro a b w1 w2
 refine Ev.rounds ?_
 unfold laws_FnExactTypeAt.f
 rcases szProg_ev a b w1.1 w2 with hs | ⟨r, hr, hs, l1, l2⟩
 ·refine Ev.bind hs ?_
  simp only [show (-1 : Int) < 0 by omega, if_true]
  exact Ev.now _
 ·refine Ev.bind hs ?_
  have n1 : ¬ r < 0 := by omega
  simp only [n1, if_false]
  have tp := toProg_ev a b l1 l2
  have l1' : (a.map cvLabel).length ≤ 1048576 := by simpa using l1
  have sp := sp_atP (a.map cvLabel) (cvTs b) l1' l2
  have im := im_atP (a.map cvLabel) (cvTs b) l1' l2
  obtain ⟨R, hR⟩ : ∃ R, R = atP (a.map cvLabel) (cvTs b) := ⟨_, rfl⟩
  have lR : R.length ≤ 1048576 := by
   rw [hR]
   unfold atP
   split
   ·rw [laTs_length]; exact l2
   ·simp
  rw [← hR] at sp im
  have eqR := eqLabelS_ev R (by omega)
  obtain ⟨m, hm, x, mk⟩ := markProg_ev (a.map cvLabel) (cvTs b) l1' l2
  have n2 : ¬ m < 0 := by omega
  have mkR := markLabel_ev R 1 (by omega) (by omega) (by omega)
  have hd := heldLabel_ev 1 R.length (by omega) (by omega) (by omega)
  have n3 : ¬ (1 + 2 * (R.length : Int) < 0) := by omega
  refine Ev.bind tp (Ev.bind sp (Ev.bind tp (Ev.bind im (Ev.bind eqR ?_))))
  simp only [if_true]
  refine Ev.bind tp (Ev.bind (eqProg_ev _ _ l1' l2) ?_)
  simp only [if_true]
  refine Ev.bind mk ?_
  simp only [n2, if_false]
  refine Ev.bind eqR ?_
  refine Ev.succ_ ?_
  simp only [laws_FnExactTypeAt.j0, Bool.not_true, Bool.false_eq_true, if_false]
  refine Ev.bind mkR (Ev.bind hd ?_)
  simp only [n3, if_false, if_true]
  refine Ev.bind tp (Ev.bind im (Ev.bind eqR ?_))
  simp only [if_true]
  refine Ev.bind hd ?_
  simp only [n3, if_false, if_true]
  exact Ev.now _
end Go.Proofs.Ytaflodibibbakaa.Pure
