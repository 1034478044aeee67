/- What a reading of the laws' arguments says, type by type; written by wip/tools/row.py. -/
import Derived.Test.YtfcmckomagaiiaaDoorAx0
import Derived.Test.YtfcmckomagaiiaaDoorO
import Derived.KernelRfl
namespace Go.Proofs.YtfcmckomagaiiaaDoor.A
open Go.RowKit Go.Proofs.YtfcmckomagaiiaaDoorW.PrintWords
set_option linter.unusedVariables false

theorem field_of {H : Type} {enc : TypeId × Value → H} {P : Program} {w : World} {base : Nat} {spare : Nat → Bool} {held : Bool} {fuel : Nat} {t : TypeId} {cs : List Value} {x : DataW H × List MemPlace} {fs : Array Field} (ht : P.underlying t = some (.struct fs)) (h : DataW.trod enc P w base spare held fuel t cs = some x) (i : Nat) (f : Field) (hi : fs[i]? = some f) (T off k : Nat) (k1 : f.type = T) (k2 : f.offset = off) (k3 : P.cellsOf T = k) :
    ∃ n y, n + 1 = fuel ∧ DataW.trod enc P w base spare held n T ((cs.drop off).take k) = some y := by
  subst k1 k2 k3
  obtain ⟨xs, n, rfl, _, _, hl, hf⟩ := DataW.trod_struct ht h
  have h1 := hf i f hi
  have h2 : i < fs.size := (Array.getElem?_eq_some_iff.1 hi).1
  rw [List.getElem?_eq_getElem (by omega)] at h1
  exact ⟨n, _, rfl, h1⟩

end Go.Proofs.YtfcmckomagaiiaaDoor.A
