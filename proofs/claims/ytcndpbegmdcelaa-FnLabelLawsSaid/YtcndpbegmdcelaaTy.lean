/- What a reading of the laws' arguments says, type by type; written by wip/tools/row.py. -/
import Derived.Test.YtcndpbegmdcelaaAx0
import Derived.Test.YtcndpbegmdcelaaO
import Derived.KernelRfl
namespace Go.Proofs.Ytcndpbegmdcelaa.A
open Go.RowKit Go.Proofs.YtcndpbegmdcelaaW.PrintWords
set_option linter.unusedVariables false

theorem field_of {H : Type} {enc : TypeId × Value → H} {P : Program} {w : World} {base : Nat} {spare : Nat → Bool} {held : Bool} {fuel : Nat} {t : TypeId} {cs : List Value} {x : DataW H × List MemPlace} {fs : Array Field} (ht : P.underlying t = some (.struct fs)) (h : DataW.trod enc P w base spare held fuel t cs = some x) (i : Nat) (f : Field) (hi : fs[i]? = some f) (T off k : Nat) (k1 : f.type = T) (k2 : f.offset = off) (k3 : P.cellsOf T = k) :
    ∃ n y, n + 1 = fuel ∧ DataW.trod enc P w base spare held n T ((cs.drop off).take k) = some y := by
  subst k1 k2 k3
  obtain ⟨xs, n, rfl, _, _, hl, hf⟩ := DataW.trod_struct ht h
  have h1 := hf i f hi
  have h2 : i < fs.size := (Array.getElem?_eq_some_iff.1 hi).1
  rw [List.getElem?_eq_getElem (by omega)] at h1
  exact ⟨n, _, rfl, h1⟩

def W107 (x : S107) : Prop := (Lit.int .i64 x.f0).wf = true ∧ (Lit.int .i64 x.f1).wf = true

theorem rd107 : ∀ N, RdK Try.prog 107 k107 W107 N := by
  intro N
  intro H enc w n cs y hn h
  obtain ⟨c0, c1, rfl⟩ : ∃ c0 c1, cs = [c0, c1] := by
    obtain ⟨_, _, _, _, hl, _, _⟩ := DataW.trod_struct Try.underlying107 h
    rw [show Try.prog.cellsOf 107 = 2 by kernel_rfl] at hl
    clear h
    rcases cs with _ | ⟨c0, _ | ⟨c1, _ | ⟨cz_, _⟩⟩⟩
    all_goals first | exact ⟨_, _, rfl⟩ | (simp at hl)
  obtain ⟨n107_0, y107_0, e107_0, f107_0⟩ := field_of Try.underlying107 h 0 _ rfl 3 0 1 rfl rfl (by kernel_rfl)
  replace f107_0 : DataW.trod enc Try.prog w 0 (fun _ => true) true n107_0 3 [c0] = some y107_0 := f107_0
  obtain ⟨n107_1, y107_1, e107_1, f107_1⟩ := field_of Try.underlying107 h 1 _ rfl 3 1 1 rfl rfl (by kernel_rfl)
  replace f107_1 : DataW.trod enc Try.prog w 0 (fun _ => true) true n107_1 3 [c1] = some y107_1 := f107_1
  obtain ⟨x0, g0, _, v0⟩ := DataW.trod_int Try.underlying3 f107_0
  obtain rfl : c0 = .int .i64 x0 := by simpa using g0
  obtain ⟨x1, g1, _, v1⟩ := DataW.trod_int Try.underlying3 f107_1
  obtain rfl : c1 = .int .i64 x1 := by simpa using g1
  exact ⟨(⟨x0, x1⟩ : S107), k107_mk w (⟨x0, x1⟩ : S107) , ⟨v0, v1⟩⟩

def W109 (x : S109) : Prop := (Lit.int .i64 x.f0).wf = true ∧ (Lit.int .i64 x.f1).wf = true

theorem rd109 : ∀ N, RdK Try.prog 109 k109 W109 N := by
  intro N
  intro H enc w n cs y hn h
  obtain ⟨c0, c1, rfl⟩ : ∃ c0 c1, cs = [c0, c1] := by
    obtain ⟨_, _, _, _, hl, _, _⟩ := DataW.trod_struct Try.underlying109 h
    rw [show Try.prog.cellsOf 109 = 2 by kernel_rfl] at hl
    clear h
    rcases cs with _ | ⟨c0, _ | ⟨c1, _ | ⟨cz_, _⟩⟩⟩
    all_goals first | exact ⟨_, _, rfl⟩ | (simp at hl)
  obtain ⟨n109_0, y109_0, e109_0, f109_0⟩ := field_of Try.underlying109 h 0 _ rfl 3 0 1 rfl rfl (by kernel_rfl)
  replace f109_0 : DataW.trod enc Try.prog w 0 (fun _ => true) true n109_0 3 [c0] = some y109_0 := f109_0
  obtain ⟨n109_1, y109_1, e109_1, f109_1⟩ := field_of Try.underlying109 h 1 _ rfl 3 1 1 rfl rfl (by kernel_rfl)
  replace f109_1 : DataW.trod enc Try.prog w 0 (fun _ => true) true n109_1 3 [c1] = some y109_1 := f109_1
  obtain ⟨x0, g0, _, v0⟩ := DataW.trod_int Try.underlying3 f109_0
  obtain rfl : c0 = .int .i64 x0 := by simpa using g0
  obtain ⟨x1, g1, _, v1⟩ := DataW.trod_int Try.underlying3 f109_1
  obtain rfl : c1 = .int .i64 x1 := by simpa using g1
  exact ⟨(⟨x0, x1⟩ : S109), k109_mk w (⟨x0, x1⟩ : S109) , ⟨v0, v1⟩⟩

end Go.Proofs.Ytcndpbegmdcelaa.A
