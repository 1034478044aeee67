/- The row of FnExactRunSets: for every input the law answers true and leaves its arguments as they were. Written by wip/tools/row.py. -/
import Derived.Test.YtcndpbegmdcelaaRows
import Derived.Test.YtcndpbegmdcelaaClosed
import Derived.Test.YtcndpbegmdcelaaPureFnExactRunSets
import Derived.WalkKit
import Derived.ProofKit
import Derived.OpenShut
import Derived.ShutString
import Derived.ChangeOld
import Derived.Below
import Derived.SizedLaws
namespace Go.Proofs.Ytcndpbegmdcelaa.fnExactRunSets
open Go.ChangeShapes Go.WideShapes Go.ChangeAt Go.RowKit Go.Proofs.YtcndpbegmdcelaaW.PrintWords Go.Proofs.Ytcndpbegmdcelaa.A
open Go.ChangeMaps (open_string shut_string)
set_option linter.unusedVariables false
theorem own : ownKnob Try.prog.godebug = none := by kernel_rfl
set_option maxRecDepth 100000 in
theorem lifted (os : Os) (started : os.Started) (H : Type) (enc : TypeId × Value → H) :
    ReturnsInHanded {} Try.checked os 18 .any (Rows.fnExactRunSetsSpec.pre6 enc Try.prog Try.f18 Rows.fnExactRunSetsRow.domain false) (Rows.fnExactRunSetsSpec.post enc Try.prog Try.f18 false true false false) := by
  refine returnsInHanded_of_change_sized (C := Try.checked) own started (by kernel_rfl) Try.func18
    (ChangeSpec.witness6 (enc := enc) (C := Try.checked) false ⟨#[], #[.agg #[.slice none 0 0, .slice none 0 0, .slice none 0 0], .slice none 0 0], []⟩ 8 (by kernel_rfl) (by kernel_rfl) (by kernel_rfl) (by kernel_rfl)) ?_
  intro W base args ds gs before hval0 hW hcnd hsz0 _
  have hval : ∀ (j : Nat) t v, Try.f18.params[j]? = some t → args[j]? = some v → Value.okWide Try.prog W .any base t v := hval0
  have hW' := hW
  obtain ⟨p, q, hA0, hV, rfl, hfz, hnd⟩ := hW
  have hA : DataW.TrodAll enc Try.prog W 0 (fun _ => true) true Try.f18.params.toList args.toList ds p := hA0
  rw [Try.params18] at hA hval
  obtain ⟨v0, vs0, d0, ds0, p0, q0, hargs, rfl, rfl, h0, r0⟩ := trodAll_cons hA
  obtain ⟨v1, vs1, d1, ds1, p1, q1, rfl, rfl, rfl, h1, r1⟩ := trodAll_cons r0
  obtain ⟨rfl, rfl, rfl⟩ := trodAll_nil r1
  obtain rfl : args = #[v0, v1] := by cases args; simp_all
  obtain ⟨rfl, rfl⟩ := trodVars_none hV
  have kk0 := h0
  have lt0 : ∀ x ∈ p0, x.block < W.heap.size := by obtain ⟨m, hm⟩ := kk0; exact DataW.trod_lt m _ _ _ hm
  obtain ⟨fu0, hf0⟩ := h0
  obtain ⟨cs0, rfl, hs0⟩ := okWide_struct Try.underlying51 (hval 0 51 v0 rfl rfl)
  obtain ⟨c0_0, c0_1, c0_2, rfl⟩ : ∃ c0_0 c0_1 c0_2, cs0 = #[c0_0, c0_1, c0_2] := by
    rw [show Try.prog.cellsOf 51 = 3 by kernel_rfl] at hs0
    clear hf0
    obtain ⟨li⟩ := cs0
    rcases li with _ | ⟨c0_0, _ | ⟨c0_1, _ | ⟨c0_2, _ | ⟨cz_, _⟩⟩⟩⟩
    all_goals first | exact ⟨_, _, _, rfl⟩ | (simp at hs0)
  replace hf0 : DataW.trod enc Try.prog W 0 (fun _ => true) true fu0 51 [c0_0, c0_1, c0_2] = some (d0, p0) := hf0
  obtain ⟨n0_0, y0_0, _, f0_0⟩ := field_of Try.underlying51 hf0 0 _ rfl 39 0 1 rfl rfl (by kernel_rfl)
  replace f0_0 : DataW.trod enc Try.prog W 0 (fun _ => true) true n0_0 39 [c0_0] = some y0_0 := f0_0
  obtain ⟨A0_0, d0_0, l0_0, g0_0, lc0_0, rr0_0, lm0_0, lw0_0⟩ := RdK.row n0_0 Try.underlying39 (by kernel_rfl) (fun M _ => RdK.int M Try.underlying3) enc W n0_0 _ _ (Nat.le_refl _) f0_0
  obtain rfl : c0_0 = .slice A0_0 l0_0.length d0_0 := by simpa using g0_0
  obtain ⟨n0_1, y0_1, _, f0_1⟩ := field_of Try.underlying51 hf0 1 _ rfl 48 1 1 rfl rfl (by kernel_rfl)
  replace f0_1 : DataW.trod enc Try.prog W 0 (fun _ => true) true n0_1 48 [c0_1] = some y0_1 := f0_1
  obtain ⟨A0_1, d0_1, l0_1, g0_1, lc0_1, rr0_1, lm0_1, lw0_1⟩ := RdK.row n0_1 Try.underlying48 (by kernel_rfl) (fun M _ => rd107 M) enc W n0_1 _ _ (Nat.le_refl _) f0_1
  obtain rfl : c0_1 = .slice A0_1 l0_1.length d0_1 := by simpa using g0_1
  obtain ⟨n0_2, y0_2, _, f0_2⟩ := field_of Try.underlying51 hf0 2 _ rfl 49 2 1 rfl rfl (by kernel_rfl)
  replace f0_2 : DataW.trod enc Try.prog W 0 (fun _ => true) true n0_2 49 [c0_2] = some y0_2 := f0_2
  obtain ⟨A0_2, d0_2, l0_2, g0_2, lc0_2, rr0_2, lm0_2, lw0_2⟩ := RdK.row n0_2 Try.underlying49 (by kernel_rfl) (fun M _ => rd109 M) enc W n0_2 _ _ (Nat.le_refl _) f0_2
  obtain rfl : c0_2 = .slice A0_2 l0_2.length d0_2 := by simpa using g0_2
  have kk1 := h1
  have lt1 : ∀ x ∈ p1, x.block < W.heap.size := by obtain ⟨m, hm⟩ := kk1; exact DataW.trod_lt m _ _ _ hm
  obtain ⟨fu1, hf1⟩ := h1
  obtain ⟨b1, len1, cap1, rfl⟩ := okWide_slice Try.underlying63 (hval 1 63 v1 rfl rfl)
  obtain ⟨A1, d1, l1, g1, lc1, rr1, lm1, lw1⟩ := RdK.row fu1 Try.underlying63 (by kernel_rfl) (fun M _ => RdK.bool M Try.underlying4) enc W fu1 _ _ (Nat.le_refl _) hf1
  obtain ⟨rfl, rfl, rfl⟩ : b1 = A1 ∧ len1 = l1.length ∧ cap1 = d1 := by simpa [Value.cells] using g1
  obtain ⟨k, hk⟩ := Pure.FnExactRunSets l0_0 l0_1 l0_2 l1 ⟨lm0_0, lw0_0⟩ ⟨lm0_1, lw0_1⟩ ⟨lm0_2, lw0_2⟩ ⟨lm1, lw1⟩
  refine (laws_FnExactRunSets.calls k _ _ l0_0 _ _ l0_1 _ _ l0_2 _ _ l1 true W rr0_0 lc0_0 rr0_1 lc0_1 rr0_2 lc0_2 rr1 lc1 hk).mono fun e W' he0 => ?_
  obtain ⟨he, bel0⟩ := he0
  have bel : Below W.heap.size W W' := bel0
  subst he
  exact ⟨_, rfl, _, _, _, [], _, [], hW', trodAll_mk1 (shut_bool Try.underlying4 _), (trodAll_cons_mk (Below.trod closed.laidOut (by kernel_rfl) (of_decide_eq_true (by kernel_rfl)) kk0 bel lt0) (trodAll_cons_mk (Below.trod closed.laidOut (by kernel_rfl) (of_decide_eq_true (by kernel_rfl)) kk1 bel lt1) trodAll_mk0)), rfl, bel.frame _, fun h => by cases h⟩
theorem facts : joinedFacts Try.pinned.checked.prog 18 Try.f18 Rows.fnExactRunSetsSpec Rows.fnExactRunSetsRow = true := by
  unfold joinedFacts
  exact closed.andT (closed.andT (closed.andT (closed.andT (closed.andT (closed.andT (closed.andT (closed.andT (closed.andT (closed.andT (closed.andT (closed.andT (closed.andT (closed.andT (closed.andT (closed.andT (closed.andT (closed.andT (closed.andT (closed.andT (closed.andT (closed.andT (closed.andT (closed.andT (closed.andT (closed.andT (closed.andT (closed.andT (closed.andT (closed.andT (closed.andT ((by kernel_rfl)) closed.laidOut) closed.mapsRowed) (by kernel_rfl)) (by kernel_rfl)) (by kernel_rfl)) closed.stops) (by kernel_rfl)) closed.stopKnobs) (by kernel_rfl)) (by kernel_rfl)) (by kernel_rfl)) (by kernel_rfl)) (by kernel_rfl)) (by kernel_rfl)) (by kernel_rfl)) (by kernel_rfl)) (by kernel_rfl)) (by kernel_rfl)) (by kernel_rfl)) (by kernel_rfl)) (by kernel_rfl)) (by kernel_rfl)) (by kernel_rfl)) closed.stopsHeard) closed.mayEnter) closed.lifts) closed.make) (by kernel_rfl)) (by kernel_rfl)) (by kernel_rfl)) (by kernel_rfl)
theorem over : Rows.fnExactRunSetsRow.holds Try.pinned (OpenSpec.ofChange Rows.fnExactRunSetsSpec) :=
  OpenClaim.holds_of_wide 18 Try.f18 rfl rfl rfl rfl rfl rfl rfl ⟨rfl, rfl, rfl, rfl, rfl⟩ rfl rfl rfl rfl rfl (by kernel_rfl) Try.func18 facts
    (of_decide_eq_true (by kernel_rfl)) (by unfold Func.isWrapper; rw [if_neg (of_decide_eq_false (by kernel_rfl))]; exact ⟨rfl, rfl⟩)
    (fun os started H enc _ => lifted os started H enc)
#print axioms over
end Go.Proofs.Ytcndpbegmdcelaa.fnExactRunSets
namespace Go.Proofs.Ytcndpbegmdcelaa
/-- The row, under a short name, for the claim. -/
theorem fnExactRunSets_holds : Rows.FnExactRunSetsSaid := fnExactRunSets.over
end Go.Proofs.Ytcndpbegmdcelaa
