/- The row of FnProgAt: for every input the law answers true and leaves its arguments as they were. Written by wip/tools/row.py. -/
import Derived.Test.YtkkdeojbkfjlpaaRows
import Derived.Test.YtkkdeojbkfjlpaaClosed
import Derived.Test.YtkkdeojbkfjlpaaPureFnProgAt
import Derived.WalkKit
import Derived.ProofKit
import Derived.OpenShut
import Derived.ShutString
import Derived.ChangeOld
import Derived.Below
import Derived.SizedLaws
namespace Go.Proofs.Ytkkdeojbkfjlpaa.fnProgAt
open Go.ChangeShapes Go.WideShapes Go.ChangeAt Go.RowKit Go.Proofs.YtkkdeojbkfjlpaaW.PrintWords Go.Proofs.Ytkkdeojbkfjlpaa.B
open Go.ChangeMaps (open_string shut_string)
set_option linter.unusedVariables false
theorem own : ownKnob Try.prog.godebug = none := by kernel_rfl
set_option maxRecDepth 100000 in
theorem lifted (os : Os) (started : os.Started) (H : Type) (enc : TypeId × Value → H) :
    ReturnsInHanded {} Try.checked os 6 .any (Rows.fnProgAtSpec.pre6 enc Try.prog Try.f6 Rows.fnProgAtRow.domain false) (Rows.fnProgAtSpec.post enc Try.prog Try.f6 false true false false) := by
  refine returnsInHanded_of_change_sized (C := Try.checked) own started (by kernel_rfl) Try.func6
    (ChangeSpec.witness6 (enc := enc) (C := Try.checked) false ⟨#[], #[.slice none 0 0], []⟩ 8 (by kernel_rfl) (by kernel_rfl) (by kernel_rfl) (by kernel_rfl)) ?_
  intro W base args ds gs before hval0 hW hcnd hsz0 _
  have hval : ∀ (j : Nat) t v, Try.f6.params[j]? = some t → args[j]? = some v → Value.okWide Try.prog W .any base t v := hval0
  have hW' := hW
  obtain ⟨p, q, hA0, hV, rfl, hfz, hnd⟩ := hW
  have hA : DataW.TrodAll enc Try.prog W 0 (fun _ => true) true Try.f6.params.toList args.toList ds p := hA0
  rw [Try.params6] at hA hval
  obtain ⟨v0, vs0, d0, ds0, p0, q0, hargs, rfl, rfl, h0, r0⟩ := trodAll_cons hA
  obtain ⟨rfl, rfl, rfl⟩ := trodAll_nil r0
  obtain rfl : args = #[v0] := by cases args; simp_all
  obtain ⟨rfl, rfl⟩ := trodVars_none hV
  have kk0 := h0
  have lt0 : ∀ x ∈ p0, x.block < W.heap.size := by obtain ⟨m, hm⟩ := kk0; exact DataW.trod_lt m _ _ _ hm
  obtain ⟨fu0, hf0⟩ := h0
  obtain ⟨b0, len0, cap0, rfl⟩ := okWide_slice Try.underlying22 (hval 0 22 v0 rfl rfl)
  obtain ⟨A0, d0, l0, g0, lc0, rr0, lm0, lw0⟩ := RdK.row fu0 Try.underlying22 (by kernel_rfl) (fun M _ => RdK.int M Try.underlying5) enc W fu0 _ _ (Nat.le_refl _) hf0
  obtain ⟨rfl, rfl, rfl⟩ : b0 = A0 ∧ len0 = l0.length ∧ cap0 = d0 := by simpa [Value.cells] using g0
  obtain ⟨k, hk⟩ := Pure.FnProgAt l0 ⟨lm0, lw0⟩
  refine (laws_FnProgAt.calls k _ _ l0 true W rr0 lc0 hk).mono fun e W' he0 => ?_
  obtain ⟨he, bel0⟩ := he0
  have bel : Below W.heap.size W W' := bel0
  subst he
  exact ⟨_, rfl, _, _, _, [], _, [], hW', trodAll_mk1 (shut_bool Try.underlying4 _), (trodAll_cons_mk (Below.trod closed.laidOut (by kernel_rfl) (of_decide_eq_true (by kernel_rfl)) kk0 bel lt0) trodAll_mk0), rfl, bel.frame _, fun h => by cases h⟩
theorem facts : joinedFacts Try.pinned.checked.prog 6 Try.f6 Rows.fnProgAtSpec Rows.fnProgAtRow = true := by
  unfold joinedFacts
  exact closed.andT (closed.andT (closed.andT (closed.andT (closed.andT (closed.andT (closed.andT (closed.andT (closed.andT (closed.andT (closed.andT (closed.andT (closed.andT (closed.andT (closed.andT (closed.andT (closed.andT (closed.andT (closed.andT (closed.andT (closed.andT (closed.andT (closed.andT (closed.andT (closed.andT (closed.andT (closed.andT (closed.andT (closed.andT (closed.andT (closed.andT ((by kernel_rfl)) closed.laidOut) closed.mapsRowed) (by kernel_rfl)) (by kernel_rfl)) (by kernel_rfl)) closed.stops) (by kernel_rfl)) closed.stopKnobs) (by kernel_rfl)) (by kernel_rfl)) (by kernel_rfl)) (by kernel_rfl)) (by kernel_rfl)) (by kernel_rfl)) (by kernel_rfl)) (by kernel_rfl)) (by kernel_rfl)) (by kernel_rfl)) (by kernel_rfl)) (by kernel_rfl)) (by kernel_rfl)) (by kernel_rfl)) (by kernel_rfl)) closed.stopsHeard) closed.mayEnter) closed.lifts) closed.make) (by kernel_rfl)) (by kernel_rfl)) (by kernel_rfl)) (by kernel_rfl)
theorem over : Rows.fnProgAtRow.holds Try.pinned (OpenSpec.ofChange Rows.fnProgAtSpec) :=
  OpenClaim.holds_of_wide 6 Try.f6 rfl rfl rfl rfl rfl rfl rfl ⟨rfl, rfl, rfl, rfl, rfl⟩ rfl rfl rfl rfl rfl (by kernel_rfl) Try.func6 facts
    (of_decide_eq_true (by kernel_rfl)) (by unfold Func.isWrapper; rw [if_neg (of_decide_eq_false (by kernel_rfl))]; exact ⟨rfl, rfl⟩)
    (fun os started H enc _ => lifted os started H enc)
#print axioms over
end Go.Proofs.Ytkkdeojbkfjlpaa.fnProgAt
namespace Go.Proofs.Ytkkdeojbkfjlpaa
/-- The row, under a short name, for the claim. -/
theorem fnProgAt_holds : Rows.FnProgAtSaid := fnProgAt.over
end Go.Proofs.Ytkkdeojbkfjlpaa
