/- What the strings.Builder of this program's library does, as the kit's shelf of contracts tells it; laid for this program: its own numbers. -/
import Derived.Test.YtfcmckomagaiiaaDoorProg
import Derived.Test.YtfcmckomagaiiaaDoorUMore
import Derived.Shelf.Strings.Builder1
namespace Go.Proofs
open Go.Shelf
def Tryd.lays166_ren : Go.Shelf.Ren := ⟨fun | 166 => 20 | 240 => 44 | 276 => 64 | n => n, fun | 0 => 0 | 3 => 3 | 4 => 4 | 5 => 5 | 9 => 9 | 20 => 20 | 37 => 35 | 70 => 47 | 72 => 49 | 75 => 51 | 80 => 54 | 164 => 91 | n => n, fun | n => n⟩
theorem Tryd.lays166 : Go.Proofs.Lays.n166 Tryd.prog Tryd.lays166_ren := {
  mixed := by kernel_rfl
  f166 := Tryd.func20.trans (congrArg some (by kernel_rfl))
  f240 := Tryd.func44.trans (congrArg some (by kernel_rfl))
  f276 := Tryd.func64.trans (congrArg some (by kernel_rfl))
  t0 := Tryd.underlying0
  a0 := Tryd.isAgg0
  z0 := Tryd.sizeOf0
  v0 := Tryd.zeroValue0
  t3 := Tryd.underlying3
  a3 := Tryd.isAgg3
  z3 := Tryd.sizeOf3
  v3 := Tryd.zeroValue3
  t4 := Tryd.underlying4
  a4 := Tryd.isAgg4
  z4 := Tryd.sizeOf4
  v4 := Tryd.zeroValue4
  t9 := Tryd.underlying9
  a9 := Tryd.isAgg9
  z9 := Tryd.sizeOf9
  v9 := Tryd.zeroValue9
  t20 := Tryd.underlying20
  a20 := Tryd.isAgg20
  z20 := Tryd.sizeOf20
  v20 := Tryd.zeroValue20
  t37 := Tryd.underlying35
  a37 := Tryd.isAgg35
  z37 := Tryd.sizeOf35
  v37 := Tryd.zeroValue35
  t70 := Tryd.underlying47
  a70 := Tryd.isAgg47
  z70 := Tryd.sizeOf47
  v70 := Tryd.zeroValue47
  t72 := Tryd.underlying49
  a72 := Tryd.isAgg49
  z72 := Tryd.sizeOf49
  v72 := Tryd.zeroValue49
  t75 := Tryd.underlying51
  a75 := Tryd.isAgg51
  z75 := Tryd.sizeOf51
  v75 := Tryd.zeroValue51
  t164 := Tryd.underlying91
  a164 := Tryd.isAgg91
  z164 := Tryd.sizeOf91
  v164 := Tryd.zeroValue91 }
theorem Tryd.Builder_Extra_166 : Builder.Extra Tryd.prog Tryd.lays166_ren := {
  sizeBuilder := by kernel_rfl
  liesBuilder := by kernel_rfl
  t5 := Tryd.underlying5
  a5 := Tryd.isAgg5
  z5 := Tryd.sizeOf5
  v5 := Tryd.zeroValue5
  infoByte := by kernel_rfl
  cellsByte := by kernel_rfl
  sizeByte := by kernel_rfl
  neB5 := by decide }
def Tryd.lays169_ren : Go.Shelf.Ren := ⟨fun | 169 => 22 | n => n, fun | 70 => 47 | 9 => 9 | 0 => 0 | 72 => 49 | 37 => 35 | 127 => 78 | 3 => 3 | 5 => 5 | n => n, fun | n => n⟩
theorem Tryd.lays169 : Go.Proofs.Lays.n169 Tryd.prog Tryd.lays169_ren := {
  mixed := by kernel_rfl
  f169 := Tryd.func22.trans (congrArg some (by kernel_rfl))
  t0 := Tryd.underlying0
  a0 := Tryd.isAgg0
  z0 := Tryd.sizeOf0
  v0 := Tryd.zeroValue0
  t3 := Tryd.underlying3
  a3 := Tryd.isAgg3
  z3 := Tryd.sizeOf3
  v3 := Tryd.zeroValue3
  t9 := Tryd.underlying9
  a9 := Tryd.isAgg9
  z9 := Tryd.sizeOf9
  v9 := Tryd.zeroValue9
  t37 := Tryd.underlying35
  a37 := Tryd.isAgg35
  z37 := Tryd.sizeOf35
  v37 := Tryd.zeroValue35
  t70 := Tryd.underlying47
  a70 := Tryd.isAgg47
  z70 := Tryd.sizeOf47
  v70 := Tryd.zeroValue47
  t72 := Tryd.underlying49
  a72 := Tryd.isAgg49
  z72 := Tryd.sizeOf49
  v72 := Tryd.zeroValue49
  t127 := Tryd.underlying78
  a127 := Tryd.isAgg78
  z127 := Tryd.sizeOf78
  v127 := Tryd.zeroValue78 }
theorem Tryd.Builder_Extra_169 : Builder.Extra Tryd.prog Tryd.lays169_ren := {
  sizeBuilder := by kernel_rfl
  liesBuilder := by kernel_rfl
  t5 := Tryd.underlying5
  a5 := Tryd.isAgg5
  z5 := Tryd.sizeOf5
  v5 := Tryd.zeroValue5
  infoByte := by kernel_rfl
  cellsByte := by kernel_rfl
  sizeByte := by kernel_rfl
  neB5 := by decide }
open Go.RowKit in
/-- WriteString: the builder holds what it held, and the string behind it. -/
theorem Tryd.bWrite (b : Nat) (a s : ByteArray) (w : World) (h : Lib.IsBuilder 49 5 b b (Lib.strCells a) w) (hlen : a.size + s.size ≤ 140737488355328) (hBw : b ≤ w.heap.size) :
    Calls Tryd.prog 20 #[.pointer (some ⟨b, 0, none⟩), .string s] w fun e w' => e = .returned (.tuple #[.int .i64 s.size, .nilIface]) ∧ Lib.IsBuilder 49 5 b b (Lib.strCells (a ++ s)) w' ∧ Below b w w' := by
  refine (Any.Builder_WriteString Tryd.lays166 Tryd.Builder_Extra_166 b b (Lib.strCells a) s w h (by rw [Lib.strCells_length]; exact hlen) hBw).mono ?_
  rintro e w' ⟨rfl, h1, h2⟩
  refine ⟨rfl, .inr ?_, h2⟩
  have e : Lib.strCells (a ++ s) = Lib.strCells a ++ Lib.strCells s := by simp [Lib.strCells, ByteArray.data_append]
  rw [e]
  exact h1
open Go.RowKit in
/-- String: what the builder holds. -/
theorem Tryd.bString (b : Nat) (a : ByteArray) (w : World) (h : Lib.IsBuilder 49 5 b b (Lib.strCells a) w) (hBw : b ≤ w.heap.size) :
    Calls Tryd.prog 22 #[.pointer (some ⟨b, 0, none⟩)] w fun e w' => e = .returned (.string a) ∧ Below b w w' := by
  have e : (⟨a.data.toList.toArray⟩ : ByteArray) = a := by cases a; simp
  have := Any.Builder_String_any Tryd.lays169 Tryd.Builder_Extra_169 b b a.data.toList w h hBw
  rw [e] at this
  exact this
open Go.RowKit Go.Proofs.YtfcmckomagaiiaaDoorW.PrintWords in
/-- A builder stays one where its blocks stay. -/
theorem Tryd.bMove {b : Nat} {bs : List Value} {w w' : World} (h : Lib.IsBuilder 49 5 b b bs w) (hb : Below w.heap.size w w') : Lib.IsBuilder 49 5 b b bs w' := by
  have one : ∀ p, Lib.BuilderAt 49 5 b b p bs w → Lib.BuilderAt 49 5 b b p bs w' := by
    rintro p ⟨hB, v, h1, h2, h3⟩
    have hlt : b < w.heap.size := Lib.BuilderAt.lt (p := p) ⟨hB, v, h1, h2, h3⟩
    exact ⟨hB, v, (hb.block b hlt).trans h1, own_move h2 (fun k hk => hb.block k (own_lt h2 k hk)), h3⟩
  exact h.elim (fun h => .inl (one _ h)) (fun h => .inr (one _ h))
open Go.RowKit Go.Proofs.YtfcmckomagaiiaaDoorW.PrintWords in
/-- A new builder. -/
theorem Tryd.bNew {b : Nat} {w : World} (h : w.heap[b]? = some (.cells #[.pointer none, .slice none 0 0] 49 (0, 0))) : Lib.IsBuilder 49 5 b b (Lib.strCells ⟨#[]⟩) w :=
  .inl ⟨Nat.le_refl _, .slice none 0 0, h, own_nil _ _ _ _, by simp [Value.ownBlock]⟩
/-- A builder's block is one of the world's. -/
theorem Tryd.bLt {b : Nat} {bs : List Value} {w : World} (h : Lib.IsBuilder 49 5 b b bs w) : b < w.heap.size := h.elim (fun h => h.lt) (fun h => h.lt)
end Go.Proofs
