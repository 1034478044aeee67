/- Closed facts of the program itself, each by the kernel; written by wip/tools/row.py. -/
import Derived.Test.YtkkdeojbkfjlpaaRows
import Derived.KernelRfl
import Derived.ProofKit
import Derived.JoinedOf
namespace Go.Proofs.Ytkkdeojbkfjlpaa.closed
theorem laidOut : (laidOutB Try.pinned.checked.prog) = true := by kernel_rfl
theorem mapsRowed : (mapsRowed Try.pinned.checked.prog) = true := by kernel_rfl
theorem stops : ((Try.pinned.checked.prog.stops == [])) = true := by kernel_rfl
theorem stopKnobs : ((Try.pinned.checked.prog.stopKnobs == [])) = true := by kernel_rfl
theorem stopsHeard : (Try.pinned.checked.prog.stopsHeard) = true := by kernel_rfl
/-- The head row of the program, letter by letter. -/
def head : List Char := List.map Char.ofNat [104, 97, 114, 110, 101, 115, 115, 32, 56, 48, 98, 102, 53, 102, 57, 52, 102, 51, 48, 99, 55, 48, 100, 101, 52, 55, 99, 101, 53, 52, 53, 98, 53, 102, 51, 54, 55, 100, 50, 50, 55, 50, 51, 49, 99, 102, 98, 49, 99, 55, 50, 99, 53, 56, 55, 56, 98, 54, 55, 49, 97, 55, 97, 57, 102, 56, 99, 49, 100, 48, 56, 51, 32, 99, 117, 116, 32, 97, 116, 32, 108, 111, 111, 112, 46, 101, 120, 97, 109, 112, 108, 101, 47, 99, 108, 111, 105, 115, 111, 110, 47, 108, 97, 119, 115, 46, 70, 110, 84, 121, 112, 101, 83, 101, 116, 115, 32, 108, 111, 111, 112, 46, 101, 120, 97, 109, 112, 108, 101, 47, 99, 108, 111, 105, 115, 111, 110, 47, 108, 97, 119, 115, 46, 70, 110, 84, 121, 112, 101, 83, 101, 116, 32, 108, 111, 111, 112, 46, 101, 120, 97, 109, 112, 108, 101, 47, 99, 108, 111, 105, 115, 111, 110, 47, 108, 97, 119, 115, 46, 70, 110, 80, 114, 111, 103, 67, 111, 117, 110, 116, 32, 108, 111, 111, 112, 46, 101, 120, 97, 109, 112, 108, 101, 47, 99, 108, 111, 105, 115, 111, 110, 47, 108, 97, 119, 115, 46, 70, 110, 80, 114, 111, 103, 65, 116]
theorem head_is : Try.progTables.initOrder = String.ofList head := by kernel_rfl
/-- Its words behind the first that counts. -/
def rest : List (List Char) := List.map (List.map Char.ofNat) [[97, 116], [108, 111, 111, 112, 46, 101, 120, 97, 109, 112, 108, 101, 47, 99, 108, 111, 105, 115, 111, 110, 47, 108, 97, 119, 115, 46, 70, 110, 84, 121, 112, 101, 83, 101, 116, 115], [108, 111, 111, 112, 46, 101, 120, 97, 109, 112, 108, 101, 47, 99, 108, 111, 105, 115, 111, 110, 47, 108, 97, 119, 115, 46, 70, 110, 84, 121, 112, 101, 83, 101, 116], [108, 111, 111, 112, 46, 101, 120, 97, 109, 112, 108, 101, 47, 99, 108, 111, 105, 115, 111, 110, 47, 108, 97, 119, 115, 46, 70, 110, 80, 114, 111, 103, 67, 111, 117, 110, 116], [108, 111, 111, 112, 46, 101, 120, 97, 109, 112, 108, 101, 47, 99, 108, 111, 105, 115, 111, 110, 47, 108, 97, 119, 115, 46, 70, 110, 80, 114, 111, 103, 65, 116]]
theorem words_head : behindMainWord (wordsSigns head) = "cut".toList :: rest := by kernel_rfl
theorem make_cut (P : Program) (rest : List (List Char)) (h : behindMainWord (wordsSigns P.initOrder.toList) = "cut".toList :: rest) : P.make = some .cut := by
  unfold Program.make
  rw [h]
  simp
theorem may_cut (P : Program) (rest : List (List Char)) (h : behindMainWord (wordsSigns P.initOrder.toList) = "cut".toList :: rest)
    (hs : stripLifts liftWords ("cut".toList :: rest) = ([], "cut".toList :: rest)) (h1 : P.laysLater = false) (h2 : P.bearsReflect = false) (h3 : P.doorFits [] = true) : P.mayEnter = true := by
  unfold Program.mayEnter
  rw [h]
  simp only [hs, h1, h2, h3]
  simp
theorem lifts_cut (P : Program) (rest : List (List Char)) (h : behindMainWord (wordsSigns P.initOrder.toList) = "cut".toList :: rest)
    (hs : stripLifts liftWords ("cut".toList :: rest) = ([], "cut".toList :: rest)) : P.liftsFinal = false := by
  unfold Program.liftsFinal Program.headLifts
  rw [h]
  simp only [hs]
  simp
theorem words_of (P : Program) (l : List Char) (ws : List (List Char)) (h : P.initOrder = String.ofList l) (hw : behindMainWord (wordsSigns l) = ws) : behindMainWord (wordsSigns P.initOrder.toList) = ws := by
  rw [h, String.toList_ofList, hw]
theorem words_are : behindMainWord (wordsSigns Try.pinned.checked.prog.initOrder.toList) = "cut".toList :: rest := words_of _ _ _ head_is words_head
theorem strip : stripLifts liftWords ("cut".toList :: rest) = ([], "cut".toList :: rest) := by kernel_rfl
theorem laysLater : Try.pinned.checked.prog.laysLater = false := by kernel_rfl
theorem bearsReflect : Try.pinned.checked.prog.bearsReflect = false := by kernel_rfl
theorem doorFits : Try.pinned.checked.prog.doorFits [] = true := by kernel_rfl
theorem mayEnter : (Try.pinned.checked.prog.mayEnter) = true := may_cut _ _ words_are strip laysLater bearsReflect doorFits
theorem lifts : ((Rows.fnTypeSetsRow.lifted == Try.pinned.checked.prog.liftsFinal)) = true := by rw [lifts_cut _ _ words_are strip]; rfl
theorem make : ((Try.pinned.checked.prog.make == some Rows.fnTypeSetsRow.make)) = true := by rw [make_cut _ _ words_are]; rfl
theorem andT {a b : Bool} (ha : a = true) (hb : b = true) : (a && b) = true := by rw [ha, hb]; rfl
end Go.Proofs.Ytkkdeojbkfjlpaa.closed
