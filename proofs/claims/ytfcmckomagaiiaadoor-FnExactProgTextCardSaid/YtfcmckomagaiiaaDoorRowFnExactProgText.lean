/- The row of FnExactProgText: for every input the law answers true and leaves its arguments as they were. Written by wip/tools/row.py. -/
import Derived.Test.YtfcmckomagaiiaaDoorRows
import Derived.Test.YtfcmckomagaiiaaDoorClosed
import Derived.Test.YtfcmckomagaiiaaDoorPureFnExactProgText
import Derived.WalkKit
import Derived.ProofKit
import Derived.OpenShut
import Derived.ShutString
import Derived.ChangeOld
import Derived.Below
import Derived.SizedLaws
import Derived.LaidMore
import Derived.Stop.Joined
import Derived.SevenTiedAt
import Derived.Test.YtfcmckomagaiiaaDoorTie
import Derived.Test.YtfcmckomagaiiaaDoorCards
namespace Go.Proofs.YtfcmckomagaiiaaDoor.fnExactProgText
open Go.ChangeShapes Go.WideShapes Go.ChangeAt Go.RowKit Go.Proofs.YtfcmckomagaiiaaDoorW.PrintWords Go.Proofs.YtfcmckomagaiiaaDoor.A
open Go.ChangeMaps (open_string shut_string)
set_option linter.unusedVariables false
theorem own : ownKnob Tryd.prog.godebug = none := by kernel_rfl
def laidL : List (String × DataW Unit) := [("math/bits.deBruijn32tab", Rows.laid_math_bits_deBruijn32tab), ("math/bits.deBruijn64tab", Rows.laid_math_bits_deBruijn64tab), ("internal/strconv.uint64pow10", Rows.laid_internal_strconv_uint64pow10)]
/-- The door's own heap meets the condition. -/
theorem door_met (os : Os) (args : Array Value) : laidMetH Tryd.prog laidL ((World.doorLaid Tryd.prog 24 os).forCall (fun _ _ => 0) ⟨#[], args, []⟩).memory :=
  laidMetH_of_parts3 (fuel := 8) (laidMet_of_run' 8 (by kernel_rfl) (by kernel_rfl)) (by kernel_rfl) (by kernel_rfl)
set_option maxRecDepth 100000 in
theorem lifted (os : Os) (started : os.Started) (H : Type) (enc : TypeId × Value → H) :
    ReturnsInHanded {} Tryd.checked os 3 .any (fun w args => (Rows.fnExactProgTextSpec.pre enc Tryd.prog Tryd.f3 [] false w args ∧ laidMetH Tryd.prog laidL w) ∧ sizedMet enc Tryd.prog Tryd.f3 (OpenSpec.ofChange Rows.fnExactProgTextSpec) false w args) (Rows.fnExactProgTextSpec.post enc Tryd.prog Tryd.f3 false true false false) := by
  refine returnsInHanded_of_change_and (C := Tryd.checked) (X := fun w _ => laidMetH Tryd.prog laidL w) (fun _ _ _ hh h => h.of_heap hh) own started (by kernel_rfl) Tryd.func3
    (ChangeSpec.witness_shaped (enc := enc) (C := Tryd.checked) (os := os) (X := fun w _ => laidMetH Tryd.prog laidL w) false (World.doorLaid Tryd.prog 24 os) #[.agg #[.slice none 0 0, .slice none 0 0]] 8 rfl (World.shaped_of_RefB (by kernel_rfl) (by kernel_rfl)) (by kernel_rfl) (by kernel_rfl) (by kernel_rfl) (door_met os _)) ?_
  intro W base args ds gs before hval0 hW hcnd hsz0 hL _
  have hval : ∀ (j : Nat) t v, Tryd.f3.params[j]? = some t → args[j]? = some v → Value.okWide Tryd.prog W .any base t v := hval0
  have hW' := hW
  obtain ⟨p, q, hA0, hV, rfl, hfz, hnd⟩ := hW
  have hA : DataW.TrodAll enc Tryd.prog W 0 (fun _ => true) true Tryd.f3.params.toList args.toList ds p := hA0
  rw [Tryd.params3] at hA hval
  obtain ⟨v0, vs0, d0, ds0, p0, q0, hargs, rfl, rfl, h0, r0⟩ := trodAll_cons hA
  obtain ⟨rfl, rfl, rfl⟩ := trodAll_nil r0
  obtain rfl : args = #[v0] := by cases args; simp_all
  obtain ⟨rfl, rfl⟩ := trodVars_none hV
  have kk0 := h0
  have lt0 : ∀ x ∈ p0, x.block < W.heap.size := by obtain ⟨m, hm⟩ := kk0; exact DataW.trod_lt m _ _ _ hm
  obtain ⟨fu0, hf0⟩ := h0
  obtain ⟨cs0, rfl, hs0⟩ := okWide_struct Tryd.underlying25 (hval 0 25 v0 rfl rfl)
  obtain ⟨c0_0, c0_1, rfl⟩ : ∃ c0_0 c0_1, cs0 = #[c0_0, c0_1] := by
    rw [show Tryd.prog.cellsOf 25 = 2 by kernel_rfl] at hs0
    clear hf0
    obtain ⟨li⟩ := cs0
    rcases li with _ | ⟨c0_0, _ | ⟨c0_1, _ | ⟨cz_, _⟩⟩⟩
    all_goals first | exact ⟨_, _, rfl⟩ | (simp at hs0)
  replace hf0 : DataW.trod enc Tryd.prog W 0 (fun _ => true) true fu0 25 [c0_0, c0_1] = some (d0, p0) := hf0
  obtain ⟨n0_0, y0_0, _, f0_0⟩ := field_of Tryd.underlying25 hf0 0 _ rfl 22 0 1 rfl rfl (by kernel_rfl)
  replace f0_0 : DataW.trod enc Tryd.prog W 0 (fun _ => true) true n0_0 22 [c0_0] = some y0_0 := f0_0
  obtain ⟨A0_0, d0_0, l0_0, g0_0, lc0_0, rr0_0, lm0_0, lw0_0⟩ := RdK.row n0_0 Tryd.underlying22 (by kernel_rfl) (fun M _ => rd74 M) enc W n0_0 _ _ (Nat.le_refl _) f0_0
  obtain rfl : c0_0 = .slice A0_0 l0_0.length d0_0 := by simpa using g0_0
  obtain ⟨n0_1, y0_1, _, f0_1⟩ := field_of Tryd.underlying25 hf0 1 _ rfl 23 1 1 rfl rfl (by kernel_rfl)
  replace f0_1 : DataW.trod enc Tryd.prog W 0 (fun _ => true) true n0_1 23 [c0_1] = some y0_1 := f0_1
  obtain ⟨A0_1, d0_1, l0_1, g0_1, lc0_1, rr0_1, lm0_1, lw0_1⟩ := RdK.row n0_1 Tryd.underlying23 (by kernel_rfl) (fun M _ => rd67 M) enc W n0_1 _ _ (Nat.le_refl _) f0_1
  obtain rfl : c0_1 = .slice A0_1 l0_1.length d0_1 := by simpa using g0_1
  obtain ⟨k, hk⟩ := Pure.FnExactProgText l0_0 l0_1 ⟨lm0_0, lw0_0⟩ ⟨lm0_1, lw0_1⟩
  refine (laws_FnExactProgText.calls k _ _ l0_0 _ _ l0_1 true W rr0_0 lc0_0 rr0_1 lc0_1 hk).mono fun e W' he0 => ?_
  obtain ⟨he, bel0⟩ := he0
  have bel : Below W.heap.size W W' := bel0
  subst he
  exact ⟨_, rfl, _, _, _, [], _, [], hW', trodAll_mk1 (shut_bool Tryd.underlying4 _), (trodAll_cons_mk (Below.trod closed.laidOut (by kernel_rfl) (of_decide_eq_true (by kernel_rfl)) kk0 bel lt0) trodAll_mk0), rfl, bel.frame _, fun h => by cases h⟩
theorem over : Rows.fnExactProgTextRow.holds Tryd.pinned (OpenSpec.ofChange Rows.fnExactProgTextSpec) :=
  OpenClaim.holds_of_wide 3 Tryd.f3 rfl rfl rfl rfl rfl rfl rfl ⟨rfl, rfl, rfl, rfl, rfl⟩ rfl rfl rfl rfl rfl (by kernel_rfl) Tryd.func3 (by kernel_rfl)
    (of_decide_eq_true (by kernel_rfl)) (by unfold Func.isWrapper; rw [if_neg (of_decide_eq_false (by kernel_rfl))]; exact ⟨rfl, rfl⟩)
    (fun os started H enc _ => lifted os started H enc)
theorem card : Rows.FnExactProgTextCardSaid :=
  Claim7.holds_tied_plain_at .later [] [.data, .data, .data] true (true, "814971c11055723a66fa4927b0ccc5dd0d3fe882e1d4fe287918be4d13e4a358") false
    over (fun _ h => by cases h) (by kernel_rfl) (fun _ h => by cases h) fnExactProgText_row_tie rfl ⟨rfl, rfl⟩ (by kernel_rfl) rfl
    (fun f fn hf hfn => by
      obtain rfl : f = 3 := Option.some.inj ((show Tryd.prog.funcNamed "loop.example/cloison/laws.FnExactProgText" = some 3 by kernel_rfl).symm.trans hf) |>.symm
      obtain rfl : fn = Tryd.f3 := (Option.some.inj (Tryd.func3.symm.trans hfn)).symm
      exact ⟨by kernel_rfl, fun j t ht => by
        rw [Tryd.params3] at ht
        have hm : t ∈ [25] := by simpa using Array.mem_of_getElem? ht
        have hall : ([25].all fun u => !Tryd.prog.wantsStandIn u) = true := by kernel_rfl
        exact (show Tryd.prog.wantsStandIn t = false by simpa using List.all_eq_true.1 hall t hm)⟩)
    (by kernel_rfl)
#print axioms card
end Go.Proofs.YtfcmckomagaiiaaDoor.fnExactProgText
namespace Go.Proofs.YtfcmckomagaiiaaDoor
/-- The card, under a short name, for the claim. -/
theorem fnExactProgText_holds : Rows.FnExactProgTextCardSaid := fnExactProgText.card
end Go.Proofs.YtfcmckomagaiiaaDoor
