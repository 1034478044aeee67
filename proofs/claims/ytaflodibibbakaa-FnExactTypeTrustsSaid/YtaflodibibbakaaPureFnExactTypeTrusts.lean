/- The law FnExactTypeTrusts: TypeTrusts of the program is the reference's, for all arguments; without conditions. -/
import Derived.Test.YtaflodibibbakaaAx0
import Derived.Test.YtaflodibibbakaaAx17
import Derived.Test.YtaflodibibbakaaAx18
import Derived.Test.YtaflodibibbakaaStmFnExactTypeTrusts
import Derived.Test.YtaflodibibbakaaKnowsEv
import Derived.Test.YtaflodibibbakaaMarkProg
import Derived.Test.YtaflodibibbakaaMarkB
import Derived.Test.YtaflodibibbakaaHeldB
import Derived.Test.YtaflodibibbakaaBoolS
-- uses StmFnExactTypeTrusts KnowsEv MarkProg MarkB HeldB BoolS
namespace Go.Proofs.Ytaflodibibbakaa.Pure
open Go.RowKit Go.Proofs.YtaflodibibbakaaW.PrintWords Go.Proofs.YtaflodibibbakaaW.PrintLast Go.Proofs.YtaflodibibbakaaW.PrintMore Go.Proofs.Ytaflodibibbakaa.A
theorem im_rowTrusts (L : List S60) (S : List S50) (h : Int) (h1 : L.length ≤ 1048576) (h2 : nTs S ≤ 1048576) : Ev (fun k => impl_TypeTrusts.f k L S h) (rowP L S (fun a => hasB a.f1 h)) := by
 unfold impl_TypeTrusts.f impl_Prog_each_44.f
 refine Ev.bind ?_ (Ev.now _)
 refine Ev.bind (im_progOk _ _ (by omega) (by omega)) ?_
 cases hk : progB L S with
 | false => simp only [rowP, hk, Bool.false_eq_true, if_false]; exact Ev.now _
 | true =>
  simp only [rowP, hk, if_true]
  have loop : ∀ (d i : Nat), i + d = L.length → Ev (fun k => impl_Prog_each_44.l0 k h ((L.map (fun a => hasB a.f1 h)).take i) L (L.length : Int) (i : Int)) (L.map (fun a => hasB a.f1 h)) := by
   intro d
   induction d with
   | zero =>
    intro i hi
    refine Ev.succ_ (Ev.all_ fun k => ?_)
    have c1 : ¬ ((i : Int) < (L.length : Int)) := by omega
    simp only [impl_Prog_each_44.l0, c1, if_false]
    rw [List.take_of_length_le (by rw [List.length_map]; omega)]
   | succ d ih =>
    intro i hi
    have c1 : (i : Int) < (L.length : Int) := by omega
    have c2 : (0 : Int) ≤ (i : Int) := by omega
    have c3 : ((L.map (fun a => hasB a.f1 h)).take i).length < 140737488355328 := by rw [List.length_take, List.length_map]; omega
    have c4 : wrap64 ((i : Int) + 1) = ((i + 1 : Nat) : Int) := by rw [wr (by omega) (by omega)]; omega
    refine Ev.succ_ ?_
    simp only [impl_Prog_each_44.l0, c1, c2, c3, c4, if_true, impl_TypeTrusts_1.f, im_hasK, Option.bind_some]
    rw [take_map (fun a => hasB a.f1 h) (by omega)]
    exact ih (i + 1) (by omega)
  simpa using loop L.length 0 (by omega)
theorem sp_rowTrusts (L : List S60) (S : List S50) (h : Int) (h1 : L.length ≤ 1048576) (h2 : nTs S ≤ 1048576) : Ev (fun k => spec_TypeTrusts.f k L S h) (rowP L S (fun a => hasB a.f1 h)) := by
 unfold spec_TypeTrusts.f
 have ok := sp_progOk L S (by omega) (by omega)
 cases hk : progB L S with
 | false =>
  rw [hk] at ok
  simp only [rowP, hk, Bool.false_eq_true, if_false]
  refine Ev.succ_ ?_
  by_cases c1 : (0 : Int) < (L.length : Int)
  ·simp only [spec_TypeTrusts.l0, c1, if_true]
   exact Ev.bind ok (Ev.now _)
  ·simp only [spec_TypeTrusts.l0, c1, if_false]
   exact Ev.now _
 | true =>
  rw [hk] at ok
  simp only [rowP, hk, if_true]
  have hL := (progB_parts hk).2.1
  have loop : ∀ (d i : Nat), i + d = L.length → Ev (fun k => spec_TypeTrusts.l0 k h ((L.map (fun a => hasB a.f1 h)).take i) (i : Int) L S) (L.map (fun a => hasB a.f1 h)) := by
   intro d
   induction d with
   | zero =>
    intro i hi
    refine Ev.succ_ (Ev.all_ fun k => ?_)
    have c1 : ¬ ((i : Int) < (L.length : Int)) := by omega
    simp only [spec_TypeTrusts.l0, c1, if_false]
    rw [List.take_of_length_le (by rw [List.length_map]; omega)]
   | succ d ih =>
    intro i hi
    have c1 : (i : Int) < (L.length : Int) := by omega
    have c2 : (0 : Int) ≤ (i : Int) := by omega
    have c3 : ((L.map (fun a => hasB a.f1 h)).take i).length < 140737488355328 := by rw [List.length_take, List.length_map]; omega
    have c4 : wrap64 ((i : Int) + 1) = ((i + 1 : Nat) : Int) := by rw [wr (by omega) (by omega)]; omega
    refine Ev.succ_ ?_
    simp only [spec_TypeTrusts.l0, c1, if_true]
    refine Ev.bind ok ?_
    simp only [c2, c3, c4, if_true, sp_hasK (lab_ok hL (i := i) (by omega)).2, Option.bind_some]
    rw [take_map (fun a => hasB a.f1 h) (by omega)]
    exact ih (i + 1) (by omega)
  simpa using loop L.length 0 (by omega)
theorem FnExactTypeTrusts : laws_FnExactTypeTrusts.Stm := by
 intro a b h w1 w2 _
 refine Ev.rounds ?_
 unfold laws_FnExactTypeTrusts.f
 rcases szProg_ev a b w1.1 w2 with hs | ⟨r, hr, hs, l1, l2⟩
 ·refine Ev.bind hs ?_
  simp only [show (-1 : Int) < 0 by omega, if_true]
  exact Ev.now _
 ·refine Ev.bind hs ?_
  have n1 : ¬ r < 0 := by omega
  simp only [n1, if_false]
  have tp := toProg_ev a b l1 l2
  have l1' : (a.map cvLabel).length ≤ 1048576 := by simpa using l1
  have sp := sp_rowTrusts (a.map cvLabel) (cvTs b) h l1' l2
  have im := im_rowTrusts (a.map cvLabel) (cvTs b) h l1' l2
  obtain ⟨R, hR⟩ : ∃ R, R = rowP (a.map cvLabel) (cvTs b) (fun x => hasB x.f1 h) := ⟨_, rfl⟩
  have lR : R.length ≤ 1048576 := by
   rw [hR]
   unfold rowP
   split
   ·simpa using l1
   ·simp
  rw [← hR] at sp im
  have eqR := eqBoolS_ev R (by omega)
  obtain ⟨m, hm, x, mk⟩ := markProg_ev (a.map cvLabel) (cvTs b) l1' l2
  have n2 : ¬ m < 0 := by omega
  have mkR := markBoolS_ev R 1 (by omega) (by omega)
  have hd := heldBoolS_ev 1 R.length (by omega) (by omega)
  have n3 : ¬ (1 + (R.length : Int) < 0) := by omega
  refine Ev.bind tp (Ev.bind sp (Ev.bind tp (Ev.bind im (Ev.bind eqR ?_))))
  simp only [if_true]
  refine Ev.bind tp (Ev.bind (eqProg_ev _ _ l1' l2) ?_)
  simp only [if_true]
  refine Ev.bind mk ?_
  simp only [n2, if_false]
  refine Ev.bind eqR ?_
  refine Ev.succ_ ?_
  simp only [laws_FnExactTypeTrusts.j0, Bool.not_true, Bool.false_eq_true, if_false]
  refine Ev.bind mkR (Ev.bind hd ?_)
  simp only [n3, if_false, if_true]
  refine Ev.bind tp (Ev.bind im (Ev.bind eqR ?_))
  simp only [if_true]
  refine Ev.bind hd ?_
  simp only [n3, if_false, if_true]
  exact Ev.now _
end Go.Proofs.Ytaflodibibbakaa.Pure
