/- What a reading of the laws' arguments says, type by type; written by wip/tools/row.py. -/
import Derived.Test.YtcffnnedghgmaaaAx0
import Derived.Test.YtcffnnedghgmaaaO
import Derived.KernelRfl
namespace Go.Proofs.Ytcffnnedghgmaaa.A
open Go.RowKit Go.Proofs.YtcffnnedghgmaaaW.PrintWords
set_option linter.unusedVariables false

theorem field_of {H : Type} {enc : TypeId × Value → H} {P : Program} {w : World} {base : Nat} {spare : Nat → Bool} {held : Bool} {fuel : Nat} {t : TypeId} {cs : List Value} {x : DataW H × List MemPlace} {fs : Array Field} (ht : P.underlying t = some (.struct fs)) (h : DataW.trod enc P w base spare held fuel t cs = some x) (i : Nat) (f : Field) (hi : fs[i]? = some f) (T off k : Nat) (k1 : f.type = T) (k2 : f.offset = off) (k3 : P.cellsOf T = k) :
    ∃ n y, n + 1 = fuel ∧ DataW.trod enc P w base spare held n T ((cs.drop off).take k) = some y := by
  subst k1 k2 k3
  obtain ⟨xs, n, rfl, _, _, hl, hf⟩ := DataW.trod_struct ht h
  have h1 := hf i f hi
  have h2 : i < fs.size := (Array.getElem?_eq_some_iff.1 hi).1
  rw [List.getElem?_eq_getElem (by omega)] at h1
  exact ⟨n, _, rfl, h1⟩

def W114 (x : S114) : Prop := (Lit.int .i64 x.f0).wf = true ∧ (Lit.int .i64 x.f1).wf = true

theorem rd114 : ∀ N, RdK Try.prog 114 k114 W114 N := by
  intro N
  intro H enc w n cs y hn h
  obtain ⟨c0, c1, rfl⟩ : ∃ c0 c1, cs = [c0, c1] := by
    obtain ⟨_, _, _, _, hl, _, _⟩ := DataW.trod_struct Try.underlying114 h
    rw [show Try.prog.cellsOf 114 = 2 by kernel_rfl] at hl
    clear h
    rcases cs with _ | ⟨c0, _ | ⟨c1, _ | ⟨cz_, _⟩⟩⟩
    all_goals first | exact ⟨_, _, rfl⟩ | (simp at hl)
  obtain ⟨n114_0, y114_0, e114_0, f114_0⟩ := field_of Try.underlying114 h 0 _ rfl 3 0 1 rfl rfl (by kernel_rfl)
  replace f114_0 : DataW.trod enc Try.prog w 0 (fun _ => true) true n114_0 3 [c0] = some y114_0 := f114_0
  obtain ⟨n114_1, y114_1, e114_1, f114_1⟩ := field_of Try.underlying114 h 1 _ rfl 3 1 1 rfl rfl (by kernel_rfl)
  replace f114_1 : DataW.trod enc Try.prog w 0 (fun _ => true) true n114_1 3 [c1] = some y114_1 := f114_1
  obtain ⟨x0, g0, _, v0⟩ := DataW.trod_int Try.underlying3 f114_0
  obtain rfl : c0 = .int .i64 x0 := by simpa using g0
  obtain ⟨x1, g1, _, v1⟩ := DataW.trod_int Try.underlying3 f114_1
  obtain rfl : c1 = .int .i64 x1 := by simpa using g1
  exact ⟨(⟨x0, x1⟩ : S114), k114_mk w (⟨x0, x1⟩ : S114) , ⟨v0, v1⟩⟩

def W110 (x : S110) : Prop := (Lit.int .i64 x.f0).wf = true ∧ (Lit.int .i64 x.f1).wf = true ∧ (Lit.int .i64 x.f2).wf = true

theorem rd110 : ∀ N, RdK Try.prog 110 k110 W110 N := by
  intro N
  intro H enc w n cs y hn h
  obtain ⟨c0, c1, c2, rfl⟩ : ∃ c0 c1 c2, cs = [c0, c1, c2] := by
    obtain ⟨_, _, _, _, hl, _, _⟩ := DataW.trod_struct Try.underlying110 h
    rw [show Try.prog.cellsOf 110 = 3 by kernel_rfl] at hl
    clear h
    rcases cs with _ | ⟨c0, _ | ⟨c1, _ | ⟨c2, _ | ⟨cz_, _⟩⟩⟩⟩
    all_goals first | exact ⟨_, _, _, rfl⟩ | (simp at hl)
  obtain ⟨n110_0, y110_0, e110_0, f110_0⟩ := field_of Try.underlying110 h 0 _ rfl 3 0 1 rfl rfl (by kernel_rfl)
  replace f110_0 : DataW.trod enc Try.prog w 0 (fun _ => true) true n110_0 3 [c0] = some y110_0 := f110_0
  obtain ⟨n110_1, y110_1, e110_1, f110_1⟩ := field_of Try.underlying110 h 1 _ rfl 3 1 1 rfl rfl (by kernel_rfl)
  replace f110_1 : DataW.trod enc Try.prog w 0 (fun _ => true) true n110_1 3 [c1] = some y110_1 := f110_1
  obtain ⟨n110_2, y110_2, e110_2, f110_2⟩ := field_of Try.underlying110 h 2 _ rfl 3 2 1 rfl rfl (by kernel_rfl)
  replace f110_2 : DataW.trod enc Try.prog w 0 (fun _ => true) true n110_2 3 [c2] = some y110_2 := f110_2
  obtain ⟨x0, g0, _, v0⟩ := DataW.trod_int Try.underlying3 f110_0
  obtain rfl : c0 = .int .i64 x0 := by simpa using g0
  obtain ⟨x1, g1, _, v1⟩ := DataW.trod_int Try.underlying3 f110_1
  obtain rfl : c1 = .int .i64 x1 := by simpa using g1
  obtain ⟨x2, g2, _, v2⟩ := DataW.trod_int Try.underlying3 f110_2
  obtain rfl : c2 = .int .i64 x2 := by simpa using g2
  exact ⟨(⟨x0, x1, x2⟩ : S110), k110_mk w (⟨x0, x1, x2⟩ : S110) , ⟨v0, v1, v2⟩⟩

inductive W112 : S112 → Prop where
  | mk (x : S112) : (Lit.int .i64 x.f0).wf = true → (Lit.int .i64 x.f1).wf = true → W110 x.f2 → (Lit.int .i64 x.f3).wf = true → x.f4.length ≤ maxLen → (∀ y ∈ x.f4, W112 y) → x.f5.length ≤ maxLen → (∀ y ∈ x.f5, W112 y) → W112 x

theorem rd112 : ∀ N, RdK Try.prog 112 k112 W112 N := by
  intro N
  induction N using Nat.strongRecOn with
  | _ N ih =>
  intro H enc w n cs y hn h
  obtain ⟨c0, c1, c2, c3, c4, c5, c6, c7, rfl⟩ : ∃ c0 c1 c2 c3 c4 c5 c6 c7, cs = [c0, c1, c2, c3, c4, c5, c6, c7] := by
    obtain ⟨_, _, _, _, hl, _, _⟩ := DataW.trod_struct Try.underlying112 h
    rw [show Try.prog.cellsOf 112 = 8 by kernel_rfl] at hl
    clear h
    rcases cs with _ | ⟨c0, _ | ⟨c1, _ | ⟨c2, _ | ⟨c3, _ | ⟨c4, _ | ⟨c5, _ | ⟨c6, _ | ⟨c7, _ | ⟨cz_, _⟩⟩⟩⟩⟩⟩⟩⟩⟩
    all_goals first | exact ⟨_, _, _, _, _, _, _, _, rfl⟩ | (simp at hl)
  obtain ⟨n112_0, y112_0, e112_0, f112_0⟩ := field_of Try.underlying112 h 0 _ rfl 3 0 1 rfl rfl (by kernel_rfl)
  replace f112_0 : DataW.trod enc Try.prog w 0 (fun _ => true) true n112_0 3 [c0] = some y112_0 := f112_0
  obtain ⟨n112_1, y112_1, e112_1, f112_1⟩ := field_of Try.underlying112 h 1 _ rfl 3 1 1 rfl rfl (by kernel_rfl)
  replace f112_1 : DataW.trod enc Try.prog w 0 (fun _ => true) true n112_1 3 [c1] = some y112_1 := f112_1
  obtain ⟨n112_2, y112_2, e112_2, f112_2⟩ := field_of Try.underlying112 h 2 _ rfl 110 2 3 rfl rfl (by kernel_rfl)
  replace f112_2 : DataW.trod enc Try.prog w 0 (fun _ => true) true n112_2 110 [c2, c3, c4] = some y112_2 := f112_2
  obtain ⟨n112_3, y112_3, e112_3, f112_3⟩ := field_of Try.underlying112 h 3 _ rfl 3 5 1 rfl rfl (by kernel_rfl)
  replace f112_3 : DataW.trod enc Try.prog w 0 (fun _ => true) true n112_3 3 [c5] = some y112_3 := f112_3
  obtain ⟨n112_4, y112_4, e112_4, f112_4⟩ := field_of Try.underlying112 h 4 _ rfl 39 6 1 rfl rfl (by kernel_rfl)
  replace f112_4 : DataW.trod enc Try.prog w 0 (fun _ => true) true n112_4 39 [c6] = some y112_4 := f112_4
  obtain ⟨n112_5, y112_5, e112_5, f112_5⟩ := field_of Try.underlying112 h 5 _ rfl 39 7 1 rfl rfl (by kernel_rfl)
  replace f112_5 : DataW.trod enc Try.prog w 0 (fun _ => true) true n112_5 39 [c7] = some y112_5 := f112_5
  obtain ⟨x0, g0, _, v0⟩ := DataW.trod_int Try.underlying3 f112_0
  obtain rfl : c0 = .int .i64 x0 := by simpa using g0
  obtain ⟨x1, g1, _, v1⟩ := DataW.trod_int Try.underlying3 f112_1
  obtain rfl : c1 = .int .i64 x1 := by simpa using g1
  obtain ⟨x2, g2, v2⟩ := rd110 n112_2 enc w n112_2 _ _ (Nat.le_refl _) f112_2
  have o2 := k110_open g2
  simp only [List.cons.injEq, and_true] at o2
  obtain ⟨rfl, rfl, rfl⟩ := o2
  obtain ⟨x3, g3, _, v3⟩ := DataW.trod_int Try.underlying3 f112_3
  obtain rfl : c5 = .int .i64 x3 := by simpa using g3
  obtain ⟨A4, d4, x4, g4, l4, r4, m4, v4⟩ := RdK.row n112_4 Try.underlying39 (by kernel_rfl) (fun M hM => ih M (by omega)) enc w n112_4 _ _ (Nat.le_refl _) f112_4
  obtain rfl : c6 = .slice A4 x4.length d4 := by simpa using g4
  obtain ⟨A5, d5, x5, g5, l5, r5, m5, v5⟩ := RdK.row n112_5 Try.underlying39 (by kernel_rfl) (fun M hM => ih M (by omega)) enc w n112_5 _ _ (Nat.le_refl _) f112_5
  obtain rfl : c7 = .slice A5 x5.length d5 := by simpa using g5
  exact ⟨(⟨x0, x1, x2, x3, x4, x5⟩ : S112), k112_mk w (⟨x0, x1, x2, x3, x4, x5⟩ : S112) l4 r4 l5 r5, W112.mk _ v0 v1 v2 v3 m4 v4 m5 v5⟩

end Go.Proofs.Ytcffnnedghgmaaa.A
