/- Closed facts of the program itself, each by the kernel; written by wip/tools/row.py. -/
import Derived.Test.YthidgkfgdkjghaaRows
import Derived.KernelRfl
import Derived.ProofKit
import Derived.JoinedOf
namespace Go.Proofs.Ythidgkfgdkjghaa.closed
theorem laidOut : (laidOutB Try.pinned.checked.prog) = true := by kernel_rfl
theorem mapsRowed : (mapsRowed Try.pinned.checked.prog) = true := by kernel_rfl
theorem stops : ((Try.pinned.checked.prog.stops == [])) = true := by kernel_rfl
theorem stopKnobs : ((Try.pinned.checked.prog.stopKnobs == [])) = true := by kernel_rfl
theorem stopsHeard : (Try.pinned.checked.prog.stopsHeard) = true := by kernel_rfl
/-- The head row of the program, letter by letter. -/
def head : List Char := List.map Char.ofNat [104, 97, 114, 110, 101, 115, 115, 32, 54, 102, 48, 51, 97, 101, 54, 48, 99, 97, 49, 48, 99, 102, 55, 97, 53, 101, 102, 54, 98, 50, 50, 100, 53, 99, 56, 57, 53, 53, 97, 100, 98, 57, 53, 99, 53, 53, 48, 48, 56, 101, 51, 54, 100, 97, 99, 102, 102, 102, 50, 56, 48, 53, 56, 57, 98, 57, 51, 57, 101, 51, 102, 55, 32, 99, 117, 116, 32, 97, 116, 32, 108, 111, 111, 112, 46, 101, 120, 97, 109, 112, 108, 101, 47, 99, 108, 111, 105, 115, 111, 110, 47, 108, 97, 119, 115, 46, 70, 110, 80, 114, 111, 103, 83, 105, 122, 101, 32, 108, 111, 111, 112, 46, 101, 120, 97, 109, 112, 108, 101, 47, 99, 108, 111, 105, 115, 111, 110, 47, 108, 97, 119, 115, 46, 70, 110, 84, 121, 112, 101, 87, 104, 121, 32, 108, 111, 111, 112, 46, 101, 120, 97, 109, 112, 108, 101, 47, 99, 108, 111, 105, 115, 111, 110, 47, 108, 97, 119, 115, 46, 70, 110, 84, 121, 112, 101, 76, 101, 115, 115, 32, 108, 111, 111, 112, 46, 101, 120, 97, 109, 112, 108, 101, 47, 99, 108, 111, 105, 115, 111, 110, 47, 108, 97, 119, 115, 46, 70, 110, 84, 121, 112, 101, 65, 110, 121, 32, 108, 111, 111, 112, 46, 101, 120, 97, 109, 112, 108, 101, 47, 99, 108, 111, 105, 115, 111, 110, 47, 108, 97, 119, 115, 46, 70, 110, 84, 121, 112, 101, 68, 101, 101, 112, 32, 108, 111, 111, 112, 46, 101, 120, 97, 109, 112, 108, 101, 47, 99, 108, 111, 105, 115, 111, 110, 47, 108, 97, 119, 115, 46, 70, 110, 84, 121, 112, 101, 84, 101, 108, 108, 32, 108, 111, 111, 112, 46, 101, 120, 97, 109, 112, 108, 101, 47, 99, 108, 111, 105, 115, 111, 110, 47, 108, 97, 119, 115, 46, 70, 110, 84, 121, 112, 101, 83, 101, 116, 32, 108, 111, 111, 112, 46, 101, 120, 97, 109, 112, 108, 101, 47, 99, 108, 111, 105, 115, 111, 110, 47, 108, 97, 119, 115, 46, 70, 110, 84, 121, 112, 101, 75, 110, 111, 119, 115, 32, 108, 111, 111, 112, 46, 101, 120, 97, 109, 112, 108, 101, 47, 99, 108, 111, 105, 115, 111, 110, 47, 108, 97, 119, 115, 46, 70, 110, 84, 121, 112, 101, 84, 114, 117, 115, 116, 115, 32, 108, 111, 111, 112, 46, 101, 120, 97, 109, 112, 108, 101, 47, 99, 108, 111, 105, 115, 111, 110, 47, 108, 97, 119, 115, 46, 70, 110, 84, 121, 112, 101, 65, 116]
theorem head_is : Try.progTables.initOrder = String.ofList head := by kernel_rfl
/-- Its words behind the first that counts. -/
def rest : List (List Char) := List.map (List.map Char.ofNat) [[97, 116], [108, 111, 111, 112, 46, 101, 120, 97, 109, 112, 108, 101, 47, 99, 108, 111, 105, 115, 111, 110, 47, 108, 97, 119, 115, 46, 70, 110, 80, 114, 111, 103, 83, 105, 122, 101], [108, 111, 111, 112, 46, 101, 120, 97, 109, 112, 108, 101, 47, 99, 108, 111, 105, 115, 111, 110, 47, 108, 97, 119, 115, 46, 70, 110, 84, 121, 112, 101, 87, 104, 121], [108, 111, 111, 112, 46, 101, 120, 97, 109, 112, 108, 101, 47, 99, 108, 111, 105, 115, 111, 110, 47, 108, 97, 119, 115, 46, 70, 110, 84, 121, 112, 101, 76, 101, 115, 115], [108, 111, 111, 112, 46, 101, 120, 97, 109, 112, 108, 101, 47, 99, 108, 111, 105, 115, 111, 110, 47, 108, 97, 119, 115, 46, 70, 110, 84, 121, 112, 101, 65, 110, 121], [108, 111, 111, 112, 46, 101, 120, 97, 109, 112, 108, 101, 47, 99, 108, 111, 105, 115, 111, 110, 47, 108, 97, 119, 115, 46, 70, 110, 84, 121, 112, 101, 68, 101, 101, 112], [108, 111, 111, 112, 46, 101, 120, 97, 109, 112, 108, 101, 47, 99, 108, 111, 105, 115, 111, 110, 47, 108, 97, 119, 115, 46, 70, 110, 84, 121, 112, 101, 84, 101, 108, 108], [108, 111, 111, 112, 46, 101, 120, 97, 109, 112, 108, 101, 47, 99, 108, 111, 105, 115, 111, 110, 47, 108, 97, 119, 115, 46, 70, 110, 84, 121, 112, 101, 83, 101, 116], [108, 111, 111, 112, 46, 101, 120, 97, 109, 112, 108, 101, 47, 99, 108, 111, 105, 115, 111, 110, 47, 108, 97, 119, 115, 46, 70, 110, 84, 121, 112, 101, 75, 110, 111, 119, 115], [108, 111, 111, 112, 46, 101, 120, 97, 109, 112, 108, 101, 47, 99, 108, 111, 105, 115, 111, 110, 47, 108, 97, 119, 115, 46, 70, 110, 84, 121, 112, 101, 84, 114, 117, 115, 116, 115], [108, 111, 111, 112, 46, 101, 120, 97, 109, 112, 108, 101, 47, 99, 108, 111, 105, 115, 111, 110, 47, 108, 97, 119, 115, 46, 70, 110, 84, 121, 112, 101, 65, 116]]
theorem words_head : behindMainWord (wordsSigns head) = "cut".toList :: rest := by kernel_rfl
theorem make_cut (P : Program) (rest : List (List Char)) (h : behindMainWord (wordsSigns P.initOrder.toList) = "cut".toList :: rest) : P.make = some .cut := by
  unfold Program.make
  rw [h]
  simp
theorem may_cut (P : Program) (rest : List (List Char)) (h : behindMainWord (wordsSigns P.initOrder.toList) = "cut".toList :: rest)
    (hs : stripLifts liftWords ("cut".toList :: rest) = ([], "cut".toList :: rest)) (h1 : P.laysLater = false) (h2 : P.bearsReflect = false) (h3 : P.doorFits [] = true) : P.mayEnter = true := by
  unfold Program.mayEnter
  rw [h]
  simp only [hs, h1, h2, h3]
  simp
theorem lifts_cut (P : Program) (rest : List (List Char)) (h : behindMainWord (wordsSigns P.initOrder.toList) = "cut".toList :: rest)
    (hs : stripLifts liftWords ("cut".toList :: rest) = ([], "cut".toList :: rest)) : P.liftsFinal = false := by
  unfold Program.liftsFinal Program.headLifts
  rw [h]
  simp only [hs]
  simp
theorem words_of (P : Program) (l : List Char) (ws : List (List Char)) (h : P.initOrder = String.ofList l) (hw : behindMainWord (wordsSigns l) = ws) : behindMainWord (wordsSigns P.initOrder.toList) = ws := by
  rw [h, String.toList_ofList, hw]
theorem words_are : behindMainWord (wordsSigns Try.pinned.checked.prog.initOrder.toList) = "cut".toList :: rest := words_of _ _ _ head_is words_head
theorem strip : stripLifts liftWords ("cut".toList :: rest) = ([], "cut".toList :: rest) := by kernel_rfl
theorem laysLater : Try.pinned.checked.prog.laysLater = false := by kernel_rfl
theorem bearsReflect : Try.pinned.checked.prog.bearsReflect = false := by kernel_rfl
theorem doorFits : Try.pinned.checked.prog.doorFits [] = true := by kernel_rfl
theorem mayEnter : (Try.pinned.checked.prog.mayEnter) = true := may_cut _ _ words_are strip laysLater bearsReflect doorFits
theorem lifts : ((Rows.fnProgSizeRow.lifted == Try.pinned.checked.prog.liftsFinal)) = true := by rw [lifts_cut _ _ words_are strip]; rfl
theorem make : ((Try.pinned.checked.prog.make == some Rows.fnProgSizeRow.make)) = true := by rw [make_cut _ _ words_are]; rfl
theorem andT {a b : Bool} (ha : a = true) (hb : b = true) : (a && b) = true := by rw [ha, hb]; rfl
end Go.Proofs.Ythidgkfgdkjghaa.closed
