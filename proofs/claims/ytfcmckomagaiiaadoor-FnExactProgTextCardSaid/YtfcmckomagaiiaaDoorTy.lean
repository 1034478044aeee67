/- What a reading of the laws' arguments says, type by type; written by wip/tools/row.py. -/
import Derived.Test.YtfcmckomagaiiaaDoorAx0
import Derived.Test.YtfcmckomagaiiaaDoorO
import Derived.KernelRfl
namespace Go.Proofs.YtfcmckomagaiiaaDoor.A
open Go.RowKit Go.Proofs.YtfcmckomagaiiaaDoorW.PrintWords
set_option linter.unusedVariables false

theorem field_of {H : Type} {enc : TypeId × Value → H} {P : Program} {w : World} {base : Nat} {spare : Nat → Bool} {held : Bool} {fuel : Nat} {t : TypeId} {cs : List Value} {x : DataW H × List MemPlace} {fs : Array Field} (ht : P.underlying t = some (.struct fs)) (h : DataW.trod enc P w base spare held fuel t cs = some x) (i : Nat) (f : Field) (hi : fs[i]? = some f) (T off k : Nat) (k1 : f.type = T) (k2 : f.offset = off) (k3 : P.cellsOf T = k) :
    ∃ n y, n + 1 = fuel ∧ DataW.trod enc P w base spare held n T ((cs.drop off).take k) = some y := by
  subst k1 k2 k3
  obtain ⟨xs, n, rfl, _, _, hl, hf⟩ := DataW.trod_struct ht h
  have h1 := hf i f hi
  have h2 : i < fs.size := (Array.getElem?_eq_some_iff.1 hi).1
  rw [List.getElem?_eq_getElem (by omega)] at h1
  exact ⟨n, _, rfl, h1⟩

def W74 (x : S74) : Prop := (Lit.int .i64 x.f0).wf = true ∧ (Lit.int .i64 x.f1).wf = true

theorem rd74 : ∀ N, RdK Tryd.prog 74 k74 W74 N := by
  intro N
  intro H enc w n cs y hn h
  obtain ⟨c0, c1, rfl⟩ : ∃ c0 c1, cs = [c0, c1] := by
    obtain ⟨_, _, _, _, hl, _, _⟩ := DataW.trod_struct Tryd.underlying74 h
    rw [show Tryd.prog.cellsOf 74 = 2 by kernel_rfl] at hl
    clear h
    rcases cs with _ | ⟨c0, _ | ⟨c1, _ | ⟨cz_, _⟩⟩⟩
    all_goals first | exact ⟨_, _, rfl⟩ | (simp at hl)
  obtain ⟨n74_0, y74_0, e74_0, f74_0⟩ := field_of Tryd.underlying74 h 0 _ rfl 3 0 1 rfl rfl (by kernel_rfl)
  replace f74_0 : DataW.trod enc Tryd.prog w 0 (fun _ => true) true n74_0 3 [c0] = some y74_0 := f74_0
  obtain ⟨n74_1, y74_1, e74_1, f74_1⟩ := field_of Tryd.underlying74 h 1 _ rfl 3 1 1 rfl rfl (by kernel_rfl)
  replace f74_1 : DataW.trod enc Tryd.prog w 0 (fun _ => true) true n74_1 3 [c1] = some y74_1 := f74_1
  obtain ⟨x0, g0, _, v0⟩ := DataW.trod_int Tryd.underlying3 f74_0
  obtain rfl : c0 = .int .i64 x0 := by simpa using g0
  obtain ⟨x1, g1, _, v1⟩ := DataW.trod_int Tryd.underlying3 f74_1
  obtain rfl : c1 = .int .i64 x1 := by simpa using g1
  exact ⟨(⟨x0, x1⟩ : S74), k74_mk w (⟨x0, x1⟩ : S74) , ⟨v0, v1⟩⟩

def W65 (x : S65) : Prop := (Lit.int .i64 x.f0).wf = true ∧ (Lit.int .i64 x.f1).wf = true ∧ (Lit.int .i64 x.f2).wf = true

theorem rd65 : ∀ N, RdK Tryd.prog 65 k65 W65 N := by
  intro N
  intro H enc w n cs y hn h
  obtain ⟨c0, c1, c2, rfl⟩ : ∃ c0 c1 c2, cs = [c0, c1, c2] := by
    obtain ⟨_, _, _, _, hl, _, _⟩ := DataW.trod_struct Tryd.underlying65 h
    rw [show Tryd.prog.cellsOf 65 = 3 by kernel_rfl] at hl
    clear h
    rcases cs with _ | ⟨c0, _ | ⟨c1, _ | ⟨c2, _ | ⟨cz_, _⟩⟩⟩⟩
    all_goals first | exact ⟨_, _, _, rfl⟩ | (simp at hl)
  obtain ⟨n65_0, y65_0, e65_0, f65_0⟩ := field_of Tryd.underlying65 h 0 _ rfl 3 0 1 rfl rfl (by kernel_rfl)
  replace f65_0 : DataW.trod enc Tryd.prog w 0 (fun _ => true) true n65_0 3 [c0] = some y65_0 := f65_0
  obtain ⟨n65_1, y65_1, e65_1, f65_1⟩ := field_of Tryd.underlying65 h 1 _ rfl 3 1 1 rfl rfl (by kernel_rfl)
  replace f65_1 : DataW.trod enc Tryd.prog w 0 (fun _ => true) true n65_1 3 [c1] = some y65_1 := f65_1
  obtain ⟨n65_2, y65_2, e65_2, f65_2⟩ := field_of Tryd.underlying65 h 2 _ rfl 3 2 1 rfl rfl (by kernel_rfl)
  replace f65_2 : DataW.trod enc Tryd.prog w 0 (fun _ => true) true n65_2 3 [c2] = some y65_2 := f65_2
  obtain ⟨x0, g0, _, v0⟩ := DataW.trod_int Tryd.underlying3 f65_0
  obtain rfl : c0 = .int .i64 x0 := by simpa using g0
  obtain ⟨x1, g1, _, v1⟩ := DataW.trod_int Tryd.underlying3 f65_1
  obtain rfl : c1 = .int .i64 x1 := by simpa using g1
  obtain ⟨x2, g2, _, v2⟩ := DataW.trod_int Tryd.underlying3 f65_2
  obtain rfl : c2 = .int .i64 x2 := by simpa using g2
  exact ⟨(⟨x0, x1, x2⟩ : S65), k65_mk w (⟨x0, x1, x2⟩ : S65) , ⟨v0, v1, v2⟩⟩

inductive W67 : S67 → Prop where
  | mk (x : S67) : (Lit.int .i64 x.f0).wf = true → (Lit.int .i64 x.f1).wf = true → W65 x.f2 → (Lit.int .i64 x.f3).wf = true → x.f4.length ≤ maxLen → (∀ y ∈ x.f4, W67 y) → x.f5.length ≤ maxLen → (∀ y ∈ x.f5, W67 y) → W67 x

theorem rd67 : ∀ N, RdK Tryd.prog 67 k67 W67 N := by
  intro N
  induction N using Nat.strongRecOn with
  | _ N ih =>
  intro H enc w n cs y hn h
  obtain ⟨c0, c1, c2, c3, c4, c5, c6, c7, rfl⟩ : ∃ c0 c1 c2 c3 c4 c5 c6 c7, cs = [c0, c1, c2, c3, c4, c5, c6, c7] := by
    obtain ⟨_, _, _, _, hl, _, _⟩ := DataW.trod_struct Tryd.underlying67 h
    rw [show Tryd.prog.cellsOf 67 = 8 by kernel_rfl] at hl
    clear h
    rcases cs with _ | ⟨c0, _ | ⟨c1, _ | ⟨c2, _ | ⟨c3, _ | ⟨c4, _ | ⟨c5, _ | ⟨c6, _ | ⟨c7, _ | ⟨cz_, _⟩⟩⟩⟩⟩⟩⟩⟩⟩
    all_goals first | exact ⟨_, _, _, _, _, _, _, _, rfl⟩ | (simp at hl)
  obtain ⟨n67_0, y67_0, e67_0, f67_0⟩ := field_of Tryd.underlying67 h 0 _ rfl 3 0 1 rfl rfl (by kernel_rfl)
  replace f67_0 : DataW.trod enc Tryd.prog w 0 (fun _ => true) true n67_0 3 [c0] = some y67_0 := f67_0
  obtain ⟨n67_1, y67_1, e67_1, f67_1⟩ := field_of Tryd.underlying67 h 1 _ rfl 3 1 1 rfl rfl (by kernel_rfl)
  replace f67_1 : DataW.trod enc Tryd.prog w 0 (fun _ => true) true n67_1 3 [c1] = some y67_1 := f67_1
  obtain ⟨n67_2, y67_2, e67_2, f67_2⟩ := field_of Tryd.underlying67 h 2 _ rfl 65 2 3 rfl rfl (by kernel_rfl)
  replace f67_2 : DataW.trod enc Tryd.prog w 0 (fun _ => true) true n67_2 65 [c2, c3, c4] = some y67_2 := f67_2
  obtain ⟨n67_3, y67_3, e67_3, f67_3⟩ := field_of Tryd.underlying67 h 3 _ rfl 3 5 1 rfl rfl (by kernel_rfl)
  replace f67_3 : DataW.trod enc Tryd.prog w 0 (fun _ => true) true n67_3 3 [c5] = some y67_3 := f67_3
  obtain ⟨n67_4, y67_4, e67_4, f67_4⟩ := field_of Tryd.underlying67 h 4 _ rfl 23 6 1 rfl rfl (by kernel_rfl)
  replace f67_4 : DataW.trod enc Tryd.prog w 0 (fun _ => true) true n67_4 23 [c6] = some y67_4 := f67_4
  obtain ⟨n67_5, y67_5, e67_5, f67_5⟩ := field_of Tryd.underlying67 h 5 _ rfl 23 7 1 rfl rfl (by kernel_rfl)
  replace f67_5 : DataW.trod enc Tryd.prog w 0 (fun _ => true) true n67_5 23 [c7] = some y67_5 := f67_5
  obtain ⟨x0, g0, _, v0⟩ := DataW.trod_int Tryd.underlying3 f67_0
  obtain rfl : c0 = .int .i64 x0 := by simpa using g0
  obtain ⟨x1, g1, _, v1⟩ := DataW.trod_int Tryd.underlying3 f67_1
  obtain rfl : c1 = .int .i64 x1 := by simpa using g1
  obtain ⟨x2, g2, v2⟩ := rd65 n67_2 enc w n67_2 _ _ (Nat.le_refl _) f67_2
  have o2 := k65_open g2
  simp only [List.cons.injEq, and_true] at o2
  obtain ⟨rfl, rfl, rfl⟩ := o2
  obtain ⟨x3, g3, _, v3⟩ := DataW.trod_int Tryd.underlying3 f67_3
  obtain rfl : c5 = .int .i64 x3 := by simpa using g3
  obtain ⟨A4, d4, x4, g4, l4, r4, m4, v4⟩ := RdK.row n67_4 Tryd.underlying23 (by kernel_rfl) (fun M hM => ih M (by omega)) enc w n67_4 _ _ (Nat.le_refl _) f67_4
  obtain rfl : c6 = .slice A4 x4.length d4 := by simpa using g4
  obtain ⟨A5, d5, x5, g5, l5, r5, m5, v5⟩ := RdK.row n67_5 Tryd.underlying23 (by kernel_rfl) (fun M hM => ih M (by omega)) enc w n67_5 _ _ (Nat.le_refl _) f67_5
  obtain rfl : c7 = .slice A5 x5.length d5 := by simpa using g5
  exact ⟨(⟨x0, x1, x2, x3, x4, x5⟩ : S67), k67_mk w (⟨x0, x1, x2, x3, x4, x5⟩ : S67) l4 r4 l5 r5, W67.mk _ v0 v1 v2 v3 m4 v4 m5 v5⟩

end Go.Proofs.YtfcmckomagaiiaaDoor.A
