/-
  No cell of these rows narrows 'for every input' (looked for: loops, veiled, ifaces, maps, wideKeys, modest, calm, conditions, laid).
  DERIVED. THE GIVEN ROWS OF THIS SEAT. 4 by the template 'for every input the law returns true; each argument reads behind the call as it read before'; 0 by the template 'total and deterministic' (their statements: YtkkdeojbkfjlpaaTotals.lean).
  GIVEN WITH THE SEED: the statements are not yours to turn. If you find one false, say at which input.
  Laid BY PROGRAM, IN A SANDBOX (cutbox-rows.mjs): the forced cells as the released guide's own fill.sh prints them over the translation b8178b5b4029fa06… (all of the seat's roots in one cut). By AI agents, Wed Nov 11 2026. No macro, syntax, notation, axiom, sorry.
-/
import Derived.Test.YtkkdeojbkfjlpaaChecked
import GoSem.Claim
import GoSem.ClaimJoined
import GoSem.ClaimMapViews
import Derived.JoinedTies
import Derived.KernelRfl
namespace Go.Proofs.Ytkkdeojbkfjlpaa
/- THE CELL 'sum', in the pinned program and in every row, IS THE sha256 OF THE DUMP (.gsa) THAT YtkkdeojbkfjlpaaProg.lean LOADS. Nothing in Lean hashes anything: it is a label: what it is worth is what the hold of that sum in a sandbox is worth. -/
noncomputable def Try.pinned : Pinned := { name := "ytkkdeojbkfjlpaa", sum := "b8178b5b4029fa06f27defcca0484ec204f63c90fbd771dbf61811c8323a41bb", checked := Try.checked }
namespace Rows
def none {H : Type} : Left H := { results := [], args := [] }

/-- 'laws.FnTypeSets': WHATEVER THE INPUT: true; the input reads as it did. -/
def fnTypeSetsSpec : ChangeSpec := { name := "fnTypeSets", fn := fun _ => fun
  | [d] => { results := [.lit (.bool true)], args := [d] }
  | _ => none }
def fnTypeSetsRow : OpenClaim := { program := "ytkkdeojbkfjlpaa", sum := "b8178b5b4029fa06f27defcca0484ec204f63c90fbd771dbf61811c8323a41bb", func := "loop.example/cloison/laws.FnTypeSets", spec := "fnTypeSets", unfollowed := true, recurses := true, apart := false }
def FnTypeSetsSaid : Prop := fnTypeSetsRow.holds Try.pinned (OpenSpec.ofChange fnTypeSetsSpec)

/-- ITS FALSE NEIGHBOUR: 'it returns false'. Refute it at one input. -/
def fnTypeSetsWrong : ChangeSpec := { name := "fnTypeSets", fn := fun _ => fun
  | [d] => { results := [.lit (.bool false)], args := [d] }
  | _ => none }
def FnTypeSetsWrongFalsely : Prop := fnTypeSetsRow.holds Try.pinned (OpenSpec.ofChange fnTypeSetsWrong)

/-- 'laws.FnTypeSet': WHATEVER THE INPUT: true; the input reads as it did. -/
def fnTypeSetSpec : ChangeSpec := { name := "fnTypeSet", fn := fun _ => fun
  | [d] => { results := [.lit (.bool true)], args := [d] }
  | _ => none }
def fnTypeSetRow : OpenClaim := { program := "ytkkdeojbkfjlpaa", sum := "b8178b5b4029fa06f27defcca0484ec204f63c90fbd771dbf61811c8323a41bb", func := "loop.example/cloison/laws.FnTypeSet", spec := "fnTypeSet", unfollowed := true, recurses := true, apart := false }
def FnTypeSetSaid : Prop := fnTypeSetRow.holds Try.pinned (OpenSpec.ofChange fnTypeSetSpec)

/-- ITS FALSE NEIGHBOUR: 'it returns false'. Refute it at one input. -/
def fnTypeSetWrong : ChangeSpec := { name := "fnTypeSet", fn := fun _ => fun
  | [d] => { results := [.lit (.bool false)], args := [d] }
  | _ => none }
def FnTypeSetWrongFalsely : Prop := fnTypeSetRow.holds Try.pinned (OpenSpec.ofChange fnTypeSetWrong)

/-- 'laws.FnProgCount': WHATEVER THE INPUT: true; the input reads as it did. -/
def fnProgCountSpec : ChangeSpec := { name := "fnProgCount", fn := fun _ => fun
  | [d] => { results := [.lit (.bool true)], args := [d] }
  | _ => none }
def fnProgCountRow : OpenClaim := { program := "ytkkdeojbkfjlpaa", sum := "b8178b5b4029fa06f27defcca0484ec204f63c90fbd771dbf61811c8323a41bb", func := "loop.example/cloison/laws.FnProgCount", spec := "fnProgCount", unfollowed := true, recurses := true, apart := false }
def FnProgCountSaid : Prop := fnProgCountRow.holds Try.pinned (OpenSpec.ofChange fnProgCountSpec)

/-- ITS FALSE NEIGHBOUR: 'it returns false'. Refute it at one input. -/
def fnProgCountWrong : ChangeSpec := { name := "fnProgCount", fn := fun _ => fun
  | [d] => { results := [.lit (.bool false)], args := [d] }
  | _ => none }
def FnProgCountWrongFalsely : Prop := fnProgCountRow.holds Try.pinned (OpenSpec.ofChange fnProgCountWrong)

/-- 'laws.FnProgAt': WHATEVER THE INPUT: true; the input reads as it did. -/
def fnProgAtSpec : ChangeSpec := { name := "fnProgAt", fn := fun _ => fun
  | [d] => { results := [.lit (.bool true)], args := [d] }
  | _ => none }
def fnProgAtRow : OpenClaim := { program := "ytkkdeojbkfjlpaa", sum := "b8178b5b4029fa06f27defcca0484ec204f63c90fbd771dbf61811c8323a41bb", func := "loop.example/cloison/laws.FnProgAt", spec := "fnProgAt", unfollowed := true, recurses := true, apart := false }
def FnProgAtSaid : Prop := fnProgAtRow.holds Try.pinned (OpenSpec.ofChange fnProgAtSpec)

/-- ITS FALSE NEIGHBOUR: 'it returns false'. Refute it at one input. -/
def fnProgAtWrong : ChangeSpec := { name := "fnProgAt", fn := fun _ => fun
  | [d] => { results := [.lit (.bool false)], args := [d] }
  | _ => none }
def FnProgAtWrongFalsely : Prop := fnProgAtRow.holds Try.pinned (OpenSpec.ofChange fnProgAtWrong)

/- THE SECOND FORM. 'bulk': how many values and letters a reading holds, each counted each time it is reached (what is shared counts as often as it is met; a slice's spare places count too). A statement '..UptoSaid' is the law's where the arguments, and the package variables that the reading takes, are together of bulk at most 1048576: NARROWER than '..Said'. Prove '..Said' where nothing that the law and all that it calls make is longer than what came in: it says more and counts as full. Else prove '..UptoSaid'. A law counts once. -/
mutual
def uptoBulk {H : Type} : DataW H → Nat
  | .lit (.string bytes) => bytes.length + 1
  | .lit _ => 1
  | .nil => 1
  | .ptr d => uptoBulk d + 1
  | .slice elems spare => uptoBulkAll elems + uptoBulkAll spare + 1
  | .agg parts => uptoBulkAll parts + 1
  | .iface _ d => uptoBulk d + 1
  | .map entries => uptoBulkEntries entries + 1
  | .held _ => 1
def uptoBulkAll {H : Type} : List (DataW H) → Nat
  | [] => 0
  | d :: r => uptoBulk d + uptoBulkAll r
def uptoBulkEntries {H : Type} : List (Lit × DataW H) → Nat
  | [] => 0
  | x :: r => uptoBulkEntry x + uptoBulkEntries r
def uptoBulkEntry {H : Type} : Lit × DataW H → Nat
  | (.string bytes, d) => bytes.length + uptoBulk d + 1
  | (_, d) => uptoBulk d + 1
 end
def uptoSmall : (H : Type) → List (DataW H) → Bool := fun _ ds => decide (uptoBulkAll ds ≤ 1048576)
def OpenSpec.upto (s : _root_.Go.ChangeSpec) : _root_.Go.OpenSpec := { _root_.Go.OpenSpec.ofChange s with cond := some uptoSmall }

/-- 'laws.FnTypeSets', WHERE WHAT IT READS IS OF BULK AT MOST 1048576: true; the input reads as it did. -/
def fnTypeSetsUptoRow : OpenClaim := { program := "ytkkdeojbkfjlpaa", sum := "b8178b5b4029fa06f27defcca0484ec204f63c90fbd771dbf61811c8323a41bb", func := "loop.example/cloison/laws.FnTypeSets", spec := "fnTypeSets", unfollowed := true, recurses := true, apart := false, narrowed := true }
def FnTypeSetsUptoSaid : Prop := fnTypeSetsUptoRow.holds Try.pinned (OpenSpec.upto fnTypeSetsSpec)

/-- 'laws.FnTypeSet', WHERE WHAT IT READS IS OF BULK AT MOST 1048576: true; the input reads as it did. -/
def fnTypeSetUptoRow : OpenClaim := { program := "ytkkdeojbkfjlpaa", sum := "b8178b5b4029fa06f27defcca0484ec204f63c90fbd771dbf61811c8323a41bb", func := "loop.example/cloison/laws.FnTypeSet", spec := "fnTypeSet", unfollowed := true, recurses := true, apart := false, narrowed := true }
def FnTypeSetUptoSaid : Prop := fnTypeSetUptoRow.holds Try.pinned (OpenSpec.upto fnTypeSetSpec)

/-- 'laws.FnProgCount', WHERE WHAT IT READS IS OF BULK AT MOST 1048576: true; the input reads as it did. -/
def fnProgCountUptoRow : OpenClaim := { program := "ytkkdeojbkfjlpaa", sum := "b8178b5b4029fa06f27defcca0484ec204f63c90fbd771dbf61811c8323a41bb", func := "loop.example/cloison/laws.FnProgCount", spec := "fnProgCount", unfollowed := true, recurses := true, apart := false, narrowed := true }
def FnProgCountUptoSaid : Prop := fnProgCountUptoRow.holds Try.pinned (OpenSpec.upto fnProgCountSpec)

/-- 'laws.FnProgAt', WHERE WHAT IT READS IS OF BULK AT MOST 1048576: true; the input reads as it did. -/
def fnProgAtUptoRow : OpenClaim := { program := "ytkkdeojbkfjlpaa", sum := "b8178b5b4029fa06f27defcca0484ec204f63c90fbd771dbf61811c8323a41bb", func := "loop.example/cloison/laws.FnProgAt", spec := "fnProgAt", unfollowed := true, recurses := true, apart := false, narrowed := true }
def FnProgAtUptoSaid : Prop := fnProgAtUptoRow.holds Try.pinned (OpenSpec.upto fnProgAtSpec)

end Rows
end Go.Proofs.Ytkkdeojbkfjlpaa
