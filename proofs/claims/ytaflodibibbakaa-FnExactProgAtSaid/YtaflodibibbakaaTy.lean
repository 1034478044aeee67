/- What a reading of the laws' arguments says, type by type; written by wip/tools/row.py. -/
import Derived.Test.YtaflodibibbakaaBx0
import Derived.Test.YtaflodibibbakaaO
import Derived.KernelRfl
namespace Go.Proofs.Ytaflodibibbakaa.B
open Go.RowKit Go.Proofs.YtaflodibibbakaaW.PrintWords
set_option linter.unusedVariables false

theorem field_of {H : Type} {enc : TypeId × Value → H} {P : Program} {w : World} {base : Nat} {spare : Nat → Bool} {held : Bool} {fuel : Nat} {t : TypeId} {cs : List Value} {x : DataW H × List MemPlace} {fs : Array Field} (ht : P.underlying t = some (.struct fs)) (h : DataW.trod enc P w base spare held fuel t cs = some x) (i : Nat) (f : Field) (hi : fs[i]? = some f) (T off k : Nat) (k1 : f.type = T) (k2 : f.offset = off) (k3 : P.cellsOf T = k) :
    ∃ n y, n + 1 = fuel ∧ DataW.trod enc P w base spare held n T ((cs.drop off).take k) = some y := by
  subst k1 k2 k3
  obtain ⟨xs, n, rfl, _, _, hl, hf⟩ := DataW.trod_struct ht h
  have h1 := hf i f hi
  have h2 : i < fs.size := (Array.getElem?_eq_some_iff.1 hi).1
  rw [List.getElem?_eq_getElem (by omega)] at h1
  exact ⟨n, _, rfl, h1⟩

def W83 (x : S83) : Prop := (Lit.int .i64 x.f0).wf = true ∧ (Lit.int .i64 x.f1).wf = true

theorem rd83 : ∀ N, RdK Try.prog 83 k83 W83 N := by
  intro N
  intro H enc w n cs y hn h
  obtain ⟨c0, c1, rfl⟩ : ∃ c0 c1, cs = [c0, c1] := by
    obtain ⟨_, _, _, _, hl, _, _⟩ := DataW.trod_struct Try.underlying83 h
    rw [show Try.prog.cellsOf 83 = 2 by kernel_rfl] at hl
    clear h
    rcases cs with _ | ⟨c0, _ | ⟨c1, _ | ⟨cz_, _⟩⟩⟩
    all_goals first | exact ⟨_, _, rfl⟩ | (simp at hl)
  obtain ⟨n83_0, y83_0, e83_0, f83_0⟩ := field_of Try.underlying83 h 0 _ rfl 3 0 1 rfl rfl (by kernel_rfl)
  replace f83_0 : DataW.trod enc Try.prog w 0 (fun _ => true) true n83_0 3 [c0] = some y83_0 := f83_0
  obtain ⟨n83_1, y83_1, e83_1, f83_1⟩ := field_of Try.underlying83 h 1 _ rfl 3 1 1 rfl rfl (by kernel_rfl)
  replace f83_1 : DataW.trod enc Try.prog w 0 (fun _ => true) true n83_1 3 [c1] = some y83_1 := f83_1
  obtain ⟨x0, g0, _, v0⟩ := DataW.trod_int Try.underlying3 f83_0
  obtain rfl : c0 = .int .i64 x0 := by simpa using g0
  obtain ⟨x1, g1, _, v1⟩ := DataW.trod_int Try.underlying3 f83_1
  obtain rfl : c1 = .int .i64 x1 := by simpa using g1
  exact ⟨(⟨x0, x1⟩ : S83), k83_mk w (⟨x0, x1⟩ : S83) , ⟨v0, v1⟩⟩

def W77 (x : S77) : Prop := (Lit.int .i64 x.f0).wf = true ∧ (Lit.int .i64 x.f1).wf = true ∧ (Lit.int .i64 x.f2).wf = true

theorem rd77 : ∀ N, RdK Try.prog 77 k77 W77 N := by
  intro N
  intro H enc w n cs y hn h
  obtain ⟨c0, c1, c2, rfl⟩ : ∃ c0 c1 c2, cs = [c0, c1, c2] := by
    obtain ⟨_, _, _, _, hl, _, _⟩ := DataW.trod_struct Try.underlying77 h
    rw [show Try.prog.cellsOf 77 = 3 by kernel_rfl] at hl
    clear h
    rcases cs with _ | ⟨c0, _ | ⟨c1, _ | ⟨c2, _ | ⟨cz_, _⟩⟩⟩⟩
    all_goals first | exact ⟨_, _, _, rfl⟩ | (simp at hl)
  obtain ⟨n77_0, y77_0, e77_0, f77_0⟩ := field_of Try.underlying77 h 0 _ rfl 3 0 1 rfl rfl (by kernel_rfl)
  replace f77_0 : DataW.trod enc Try.prog w 0 (fun _ => true) true n77_0 3 [c0] = some y77_0 := f77_0
  obtain ⟨n77_1, y77_1, e77_1, f77_1⟩ := field_of Try.underlying77 h 1 _ rfl 3 1 1 rfl rfl (by kernel_rfl)
  replace f77_1 : DataW.trod enc Try.prog w 0 (fun _ => true) true n77_1 3 [c1] = some y77_1 := f77_1
  obtain ⟨n77_2, y77_2, e77_2, f77_2⟩ := field_of Try.underlying77 h 2 _ rfl 3 2 1 rfl rfl (by kernel_rfl)
  replace f77_2 : DataW.trod enc Try.prog w 0 (fun _ => true) true n77_2 3 [c2] = some y77_2 := f77_2
  obtain ⟨x0, g0, _, v0⟩ := DataW.trod_int Try.underlying3 f77_0
  obtain rfl : c0 = .int .i64 x0 := by simpa using g0
  obtain ⟨x1, g1, _, v1⟩ := DataW.trod_int Try.underlying3 f77_1
  obtain rfl : c1 = .int .i64 x1 := by simpa using g1
  obtain ⟨x2, g2, _, v2⟩ := DataW.trod_int Try.underlying3 f77_2
  obtain rfl : c2 = .int .i64 x2 := by simpa using g2
  exact ⟨(⟨x0, x1, x2⟩ : S77), k77_mk w (⟨x0, x1, x2⟩ : S77) , ⟨v0, v1, v2⟩⟩

inductive W79 : S79 → Prop where
  | mk (x : S79) : (Lit.int .i64 x.f0).wf = true → (Lit.int .i64 x.f1).wf = true → W77 x.f2 → (Lit.int .i64 x.f3).wf = true → x.f4.length ≤ maxLen → (∀ y ∈ x.f4, W79 y) → x.f5.length ≤ maxLen → (∀ y ∈ x.f5, W79 y) → W79 x

theorem rd79 : ∀ N, RdK Try.prog 79 k79 W79 N := by
  intro N
  induction N using Nat.strongRecOn with
  | _ N ih =>
  intro H enc w n cs y hn h
  obtain ⟨c0, c1, c2, c3, c4, c5, c6, c7, rfl⟩ : ∃ c0 c1 c2 c3 c4 c5 c6 c7, cs = [c0, c1, c2, c3, c4, c5, c6, c7] := by
    obtain ⟨_, _, _, _, hl, _, _⟩ := DataW.trod_struct Try.underlying79 h
    rw [show Try.prog.cellsOf 79 = 8 by kernel_rfl] at hl
    clear h
    rcases cs with _ | ⟨c0, _ | ⟨c1, _ | ⟨c2, _ | ⟨c3, _ | ⟨c4, _ | ⟨c5, _ | ⟨c6, _ | ⟨c7, _ | ⟨cz_, _⟩⟩⟩⟩⟩⟩⟩⟩⟩
    all_goals first | exact ⟨_, _, _, _, _, _, _, _, rfl⟩ | (simp at hl)
  obtain ⟨n79_0, y79_0, e79_0, f79_0⟩ := field_of Try.underlying79 h 0 _ rfl 3 0 1 rfl rfl (by kernel_rfl)
  replace f79_0 : DataW.trod enc Try.prog w 0 (fun _ => true) true n79_0 3 [c0] = some y79_0 := f79_0
  obtain ⟨n79_1, y79_1, e79_1, f79_1⟩ := field_of Try.underlying79 h 1 _ rfl 3 1 1 rfl rfl (by kernel_rfl)
  replace f79_1 : DataW.trod enc Try.prog w 0 (fun _ => true) true n79_1 3 [c1] = some y79_1 := f79_1
  obtain ⟨n79_2, y79_2, e79_2, f79_2⟩ := field_of Try.underlying79 h 2 _ rfl 77 2 3 rfl rfl (by kernel_rfl)
  replace f79_2 : DataW.trod enc Try.prog w 0 (fun _ => true) true n79_2 77 [c2, c3, c4] = some y79_2 := f79_2
  obtain ⟨n79_3, y79_3, e79_3, f79_3⟩ := field_of Try.underlying79 h 3 _ rfl 3 5 1 rfl rfl (by kernel_rfl)
  replace f79_3 : DataW.trod enc Try.prog w 0 (fun _ => true) true n79_3 3 [c5] = some y79_3 := f79_3
  obtain ⟨n79_4, y79_4, e79_4, f79_4⟩ := field_of Try.underlying79 h 4 _ rfl 23 6 1 rfl rfl (by kernel_rfl)
  replace f79_4 : DataW.trod enc Try.prog w 0 (fun _ => true) true n79_4 23 [c6] = some y79_4 := f79_4
  obtain ⟨n79_5, y79_5, e79_5, f79_5⟩ := field_of Try.underlying79 h 5 _ rfl 23 7 1 rfl rfl (by kernel_rfl)
  replace f79_5 : DataW.trod enc Try.prog w 0 (fun _ => true) true n79_5 23 [c7] = some y79_5 := f79_5
  obtain ⟨x0, g0, _, v0⟩ := DataW.trod_int Try.underlying3 f79_0
  obtain rfl : c0 = .int .i64 x0 := by simpa using g0
  obtain ⟨x1, g1, _, v1⟩ := DataW.trod_int Try.underlying3 f79_1
  obtain rfl : c1 = .int .i64 x1 := by simpa using g1
  obtain ⟨x2, g2, v2⟩ := rd77 n79_2 enc w n79_2 _ _ (Nat.le_refl _) f79_2
  have o2 := k77_open g2
  simp only [List.cons.injEq, and_true] at o2
  obtain ⟨rfl, rfl, rfl⟩ := o2
  obtain ⟨x3, g3, _, v3⟩ := DataW.trod_int Try.underlying3 f79_3
  obtain rfl : c5 = .int .i64 x3 := by simpa using g3
  obtain ⟨A4, d4, x4, g4, l4, r4, m4, v4⟩ := RdK.row n79_4 Try.underlying23 (by kernel_rfl) (fun M hM => ih M (by omega)) enc w n79_4 _ _ (Nat.le_refl _) f79_4
  obtain rfl : c6 = .slice A4 x4.length d4 := by simpa using g4
  obtain ⟨A5, d5, x5, g5, l5, r5, m5, v5⟩ := RdK.row n79_5 Try.underlying23 (by kernel_rfl) (fun M hM => ih M (by omega)) enc w n79_5 _ _ (Nat.le_refl _) f79_5
  obtain rfl : c7 = .slice A5 x5.length d5 := by simpa using g5
  exact ⟨(⟨x0, x1, x2, x3, x4, x5⟩ : S79), k79_mk w (⟨x0, x1, x2, x3, x4, x5⟩ : S79) l4 r4 l5 r5, W79.mk _ v0 v1 v2 v3 m4 v4 m5 v5⟩

end Go.Proofs.Ytaflodibibbakaa.B
