/- The row of FnExactProgAt: for every input the law answers true and leaves its arguments as they were. Written by wip/tools/row.py. -/
import Derived.Test.YtaflodibibbakaaRows
import Derived.Test.YtaflodibibbakaaClosed
import Derived.Test.YtaflodibibbakaaPureFnExactProgAt
import Derived.WalkKit
import Derived.ProofKit
import Derived.OpenShut
import Derived.ShutString
import Derived.ChangeOld
import Derived.Below
import Derived.SizedLaws
namespace Go.Proofs.Ytaflodibibbakaa.fnExactProgAt
open Go.ChangeShapes Go.WideShapes Go.ChangeAt Go.RowKit Go.Proofs.YtaflodibibbakaaW.PrintWords Go.Proofs.Ytaflodibibbakaa.B
open Go.ChangeMaps (open_string shut_string)
set_option linter.unusedVariables false
theorem own : ownKnob Try.prog.godebug = none := by kernel_rfl
set_option maxRecDepth 100000 in
theorem lifted (os : Os) (started : os.Started) (H : Type) (enc : TypeId × Value → H) :
    ReturnsInHanded {} Try.checked os 7 .any (Rows.fnExactProgAtSpec.pre6 enc Try.prog Try.f7 Rows.fnExactProgAtRow.domain false) (Rows.fnExactProgAtSpec.post enc Try.prog Try.f7 false true false false) := by
  refine returnsInHanded_of_change_sized (C := Try.checked) own started (by kernel_rfl) Try.func7
    (ChangeSpec.witness6 (enc := enc) (C := Try.checked) false ⟨#[], #[.agg #[.slice none 0 0, .slice none 0 0], .int .i64 0], []⟩ 8 (by kernel_rfl) (by kernel_rfl) (by kernel_rfl) (by kernel_rfl)) ?_
  intro W base args ds gs before hval0 hW hcnd hsz0 _
  have hval : ∀ (j : Nat) t v, Try.f7.params[j]? = some t → args[j]? = some v → Value.okWide Try.prog W .any base t v := hval0
  have hW' := hW
  obtain ⟨p, q, hA0, hV, rfl, hfz, hnd⟩ := hW
  have hA : DataW.TrodAll enc Try.prog W 0 (fun _ => true) true Try.f7.params.toList args.toList ds p := hA0
  rw [Try.params7] at hA hval
  obtain ⟨v0, vs0, d0, ds0, p0, q0, hargs, rfl, rfl, h0, r0⟩ := trodAll_cons hA
  obtain ⟨v1, vs1, d1, ds1, p1, q1, rfl, rfl, rfl, h1, r1⟩ := trodAll_cons r0
  obtain ⟨rfl, rfl, rfl⟩ := trodAll_nil r1
  obtain rfl : args = #[v0, v1] := by cases args; simp_all
  obtain ⟨rfl, rfl⟩ := trodVars_none hV
  have kk0 := h0
  have lt0 : ∀ x ∈ p0, x.block < W.heap.size := by obtain ⟨m, hm⟩ := kk0; exact DataW.trod_lt m _ _ _ hm
  obtain ⟨fu0, hf0⟩ := h0
  obtain ⟨cs0, rfl, hs0⟩ := okWide_struct Try.underlying25 (hval 0 25 v0 rfl rfl)
  obtain ⟨c0_0, c0_1, rfl⟩ : ∃ c0_0 c0_1, cs0 = #[c0_0, c0_1] := by
    rw [show Try.prog.cellsOf 25 = 2 by kernel_rfl] at hs0
    clear hf0
    obtain ⟨li⟩ := cs0
    rcases li with _ | ⟨c0_0, _ | ⟨c0_1, _ | ⟨cz_, _⟩⟩⟩
    all_goals first | exact ⟨_, _, rfl⟩ | (simp at hs0)
  replace hf0 : DataW.trod enc Try.prog W 0 (fun _ => true) true fu0 25 [c0_0, c0_1] = some (d0, p0) := hf0
  obtain ⟨n0_0, y0_0, _, f0_0⟩ := field_of Try.underlying25 hf0 0 _ rfl 22 0 1 rfl rfl (by kernel_rfl)
  replace f0_0 : DataW.trod enc Try.prog W 0 (fun _ => true) true n0_0 22 [c0_0] = some y0_0 := f0_0
  obtain ⟨A0_0, d0_0, l0_0, g0_0, lc0_0, rr0_0, lm0_0, lw0_0⟩ := RdK.row n0_0 Try.underlying22 (by kernel_rfl) (fun M _ => rd83 M) enc W n0_0 _ _ (Nat.le_refl _) f0_0
  obtain rfl : c0_0 = .slice A0_0 l0_0.length d0_0 := by simpa using g0_0
  obtain ⟨n0_1, y0_1, _, f0_1⟩ := field_of Try.underlying25 hf0 1 _ rfl 23 1 1 rfl rfl (by kernel_rfl)
  replace f0_1 : DataW.trod enc Try.prog W 0 (fun _ => true) true n0_1 23 [c0_1] = some y0_1 := f0_1
  obtain ⟨A0_1, d0_1, l0_1, g0_1, lc0_1, rr0_1, lm0_1, lw0_1⟩ := RdK.row n0_1 Try.underlying23 (by kernel_rfl) (fun M _ => rd79 M) enc W n0_1 _ _ (Nat.le_refl _) f0_1
  obtain rfl : c0_1 = .slice A0_1 l0_1.length d0_1 := by simpa using g0_1
  obtain ⟨a1, rfl, rfl, rfl, w1⟩ := open_int Try.underlying3 (hval 1 3 v1 rfl rfl) h1
  obtain ⟨k, hk⟩ := Pure.FnExactProgAt l0_0 l0_1 a1 ⟨lm0_0, lw0_0⟩ ⟨lm0_1, lw0_1⟩ w1
  refine (laws_FnExactProgAt.calls k _ _ l0_0 _ _ l0_1 a1 true W rr0_0 lc0_0 rr0_1 lc0_1 hk).mono fun e W' he0 => ?_
  obtain ⟨he, bel0⟩ := he0
  have bel : Below W.heap.size W W' := bel0
  subst he
  exact ⟨_, rfl, _, _, _, [], _, [], hW', trodAll_mk1 (shut_bool Try.underlying4 _), (trodAll_cons_mk (Below.trod closed.laidOut (by kernel_rfl) (of_decide_eq_true (by kernel_rfl)) kk0 bel lt0) (trodAll_cons_mk (shut_int Try.underlying3 w1) trodAll_mk0)), rfl, bel.frame _, fun h => by cases h⟩
theorem facts : joinedFacts Try.pinned.checked.prog 7 Try.f7 Rows.fnExactProgAtSpec Rows.fnExactProgAtRow = true := by
  unfold joinedFacts
  exact closed.andT (closed.andT (closed.andT (closed.andT (closed.andT (closed.andT (closed.andT (closed.andT (closed.andT (closed.andT (closed.andT (closed.andT (closed.andT (closed.andT (closed.andT (closed.andT (closed.andT (closed.andT (closed.andT (closed.andT (closed.andT (closed.andT (closed.andT (closed.andT (closed.andT (closed.andT (closed.andT (closed.andT (closed.andT (closed.andT (closed.andT ((by kernel_rfl)) closed.laidOut) closed.mapsRowed) (by kernel_rfl)) (by kernel_rfl)) (by kernel_rfl)) closed.stops) (by kernel_rfl)) closed.stopKnobs) (by kernel_rfl)) (by kernel_rfl)) (by kernel_rfl)) (by kernel_rfl)) (by kernel_rfl)) (by kernel_rfl)) (by kernel_rfl)) (by kernel_rfl)) (by kernel_rfl)) (by kernel_rfl)) (by kernel_rfl)) (by kernel_rfl)) (by kernel_rfl)) (by kernel_rfl)) (by kernel_rfl)) closed.stopsHeard) closed.mayEnter) closed.lifts) closed.make) (by kernel_rfl)) (by kernel_rfl)) (by kernel_rfl)) (by kernel_rfl)
theorem over : Rows.fnExactProgAtRow.holds Try.pinned (OpenSpec.ofChange Rows.fnExactProgAtSpec) :=
  OpenClaim.holds_of_wide 7 Try.f7 rfl rfl rfl rfl rfl rfl rfl ⟨rfl, rfl, rfl, rfl, rfl⟩ rfl rfl rfl rfl rfl (by kernel_rfl) Try.func7 facts
    (of_decide_eq_true (by kernel_rfl)) (by unfold Func.isWrapper; rw [if_neg (of_decide_eq_false (by kernel_rfl))]; exact ⟨rfl, rfl⟩)
    (fun os started H enc _ => lifted os started H enc)
#print axioms over
end Go.Proofs.Ytaflodibibbakaa.fnExactProgAt
namespace Go.Proofs.Ytaflodibibbakaa
/-- The row, under a short name, for the claim. -/
theorem fnExactProgAt_holds : Rows.FnExactProgAtSaid := fnExactProgAt.over
end Go.Proofs.Ytaflodibibbakaa
