/-
  No cell of these rows narrows 'for every input' (looked for: loops, veiled, ifaces, maps, wideKeys, modest, calm, conditions, laid).
  DERIVED. THE GIVEN ROWS OF THIS SEAT. 10 by the template 'for every input the law returns true; each argument reads behind the call as it read before'; 0 by the template 'total and deterministic' (their statements: YthidgkfgdkjghaaTotals.lean).
  GIVEN WITH THE SEED: the statements are not yours to turn. If you find one false, say at which input.
  Laid BY PROGRAM, IN A SANDBOX (cutbox-rows.mjs): the forced cells as the released guide's own fill.sh prints them over the translation 84c4bf43e4d4ca73… (all of the seat's roots in one cut). By AI agents, Wed Nov 11 2026. No macro, syntax, notation, axiom, sorry.
-/
import Derived.Test.YthidgkfgdkjghaaChecked
import GoSem.Claim
import GoSem.ClaimJoined
import GoSem.ClaimMapViews
import Derived.JoinedTies
import Derived.KernelRfl
namespace Go.Proofs.Ythidgkfgdkjghaa
/- THE CELL 'sum', in the pinned program and in every row, IS THE sha256 OF THE DUMP (.gsa) THAT YthidgkfgdkjghaaProg.lean LOADS. Nothing in Lean hashes anything: it is a label: what it is worth is what the hold of that sum in a sandbox is worth. -/
noncomputable def Try.pinned : Pinned := { name := "ythidgkfgdkjghaa", sum := "84c4bf43e4d4ca733c8882b5c11c0687a91d3aa1e494edde21305965cc5d3c3a", checked := Try.checked }
namespace Rows
def none {H : Type} : Left H := { results := [], args := [] }

/-- 'laws.FnProgSize': WHATEVER THE INPUT: true; the input reads as it did. -/
def fnProgSizeSpec : ChangeSpec := { name := "fnProgSize", fn := fun _ => fun
  | [d] => { results := [.lit (.bool true)], args := [d] }
  | _ => none }
def fnProgSizeRow : OpenClaim := { program := "ythidgkfgdkjghaa", sum := "84c4bf43e4d4ca733c8882b5c11c0687a91d3aa1e494edde21305965cc5d3c3a", func := "loop.example/cloison/laws.FnProgSize", spec := "fnProgSize", unfollowed := true, recurses := true, apart := false }
def FnProgSizeSaid : Prop := fnProgSizeRow.holds Try.pinned (OpenSpec.ofChange fnProgSizeSpec)

/-- ITS FALSE NEIGHBOUR: 'it returns false'. Refute it at one input. -/
def fnProgSizeWrong : ChangeSpec := { name := "fnProgSize", fn := fun _ => fun
  | [d] => { results := [.lit (.bool false)], args := [d] }
  | _ => none }
def FnProgSizeWrongFalsely : Prop := fnProgSizeRow.holds Try.pinned (OpenSpec.ofChange fnProgSizeWrong)

/-- 'laws.FnTypeWhy': WHATEVER THE INPUT: true; the input reads as it did. -/
def fnTypeWhySpec : ChangeSpec := { name := "fnTypeWhy", fn := fun _ => fun
  | [d] => { results := [.lit (.bool true)], args := [d] }
  | _ => none }
def fnTypeWhyRow : OpenClaim := { program := "ythidgkfgdkjghaa", sum := "84c4bf43e4d4ca733c8882b5c11c0687a91d3aa1e494edde21305965cc5d3c3a", func := "loop.example/cloison/laws.FnTypeWhy", spec := "fnTypeWhy", unfollowed := true, recurses := true, apart := false }
def FnTypeWhySaid : Prop := fnTypeWhyRow.holds Try.pinned (OpenSpec.ofChange fnTypeWhySpec)

/-- ITS FALSE NEIGHBOUR: 'it returns false'. Refute it at one input. -/
def fnTypeWhyWrong : ChangeSpec := { name := "fnTypeWhy", fn := fun _ => fun
  | [d] => { results := [.lit (.bool false)], args := [d] }
  | _ => none }
def FnTypeWhyWrongFalsely : Prop := fnTypeWhyRow.holds Try.pinned (OpenSpec.ofChange fnTypeWhyWrong)

/-- 'laws.FnTypeLess': WHATEVER THE INPUT: true; the input reads as it did. -/
def fnTypeLessSpec : ChangeSpec := { name := "fnTypeLess", fn := fun _ => fun
  | [d1, d2] => { results := [.lit (.bool true)], args := [d1, d2] }
  | _ => none }
def fnTypeLessRow : OpenClaim := { program := "ythidgkfgdkjghaa", sum := "84c4bf43e4d4ca733c8882b5c11c0687a91d3aa1e494edde21305965cc5d3c3a", func := "loop.example/cloison/laws.FnTypeLess", spec := "fnTypeLess", unfollowed := true, recurses := true, apart := false }
def FnTypeLessSaid : Prop := fnTypeLessRow.holds Try.pinned (OpenSpec.ofChange fnTypeLessSpec)

/-- ITS FALSE NEIGHBOUR: 'it returns false'. Refute it at one input. -/
def fnTypeLessWrong : ChangeSpec := { name := "fnTypeLess", fn := fun _ => fun
  | [d1, d2] => { results := [.lit (.bool false)], args := [d1, d2] }
  | _ => none }
def FnTypeLessWrongFalsely : Prop := fnTypeLessRow.holds Try.pinned (OpenSpec.ofChange fnTypeLessWrong)

/-- 'laws.FnTypeAny': WHATEVER THE INPUT: true; the input reads as it did. -/
def fnTypeAnySpec : ChangeSpec := { name := "fnTypeAny", fn := fun _ => fun
  | [d] => { results := [.lit (.bool true)], args := [d] }
  | _ => none }
def fnTypeAnyRow : OpenClaim := { program := "ythidgkfgdkjghaa", sum := "84c4bf43e4d4ca733c8882b5c11c0687a91d3aa1e494edde21305965cc5d3c3a", func := "loop.example/cloison/laws.FnTypeAny", spec := "fnTypeAny", unfollowed := true, recurses := true, apart := false }
def FnTypeAnySaid : Prop := fnTypeAnyRow.holds Try.pinned (OpenSpec.ofChange fnTypeAnySpec)

/-- ITS FALSE NEIGHBOUR: 'it returns false'. Refute it at one input. -/
def fnTypeAnyWrong : ChangeSpec := { name := "fnTypeAny", fn := fun _ => fun
  | [d] => { results := [.lit (.bool false)], args := [d] }
  | _ => none }
def FnTypeAnyWrongFalsely : Prop := fnTypeAnyRow.holds Try.pinned (OpenSpec.ofChange fnTypeAnyWrong)

/-- 'laws.FnTypeDeep': WHATEVER THE INPUT: true; the input reads as it did. -/
def fnTypeDeepSpec : ChangeSpec := { name := "fnTypeDeep", fn := fun _ => fun
  | [d1, d2] => { results := [.lit (.bool true)], args := [d1, d2] }
  | _ => none }
def fnTypeDeepRow : OpenClaim := { program := "ythidgkfgdkjghaa", sum := "84c4bf43e4d4ca733c8882b5c11c0687a91d3aa1e494edde21305965cc5d3c3a", func := "loop.example/cloison/laws.FnTypeDeep", spec := "fnTypeDeep", unfollowed := true, recurses := true, apart := false }
def FnTypeDeepSaid : Prop := fnTypeDeepRow.holds Try.pinned (OpenSpec.ofChange fnTypeDeepSpec)

/-- ITS FALSE NEIGHBOUR: 'it returns false'. Refute it at one input. -/
def fnTypeDeepWrong : ChangeSpec := { name := "fnTypeDeep", fn := fun _ => fun
  | [d1, d2] => { results := [.lit (.bool false)], args := [d1, d2] }
  | _ => none }
def FnTypeDeepWrongFalsely : Prop := fnTypeDeepRow.holds Try.pinned (OpenSpec.ofChange fnTypeDeepWrong)

/-- 'laws.FnTypeTell': WHATEVER THE INPUT: true; the input reads as it did. -/
def fnTypeTellSpec : ChangeSpec := { name := "fnTypeTell", fn := fun _ => fun
  | [d] => { results := [.lit (.bool true)], args := [d] }
  | _ => none }
def fnTypeTellRow : OpenClaim := { program := "ythidgkfgdkjghaa", sum := "84c4bf43e4d4ca733c8882b5c11c0687a91d3aa1e494edde21305965cc5d3c3a", func := "loop.example/cloison/laws.FnTypeTell", spec := "fnTypeTell", unfollowed := true, recurses := true, apart := false }
def FnTypeTellSaid : Prop := fnTypeTellRow.holds Try.pinned (OpenSpec.ofChange fnTypeTellSpec)

/-- ITS FALSE NEIGHBOUR: 'it returns false'. Refute it at one input. -/
def fnTypeTellWrong : ChangeSpec := { name := "fnTypeTell", fn := fun _ => fun
  | [d] => { results := [.lit (.bool false)], args := [d] }
  | _ => none }
def FnTypeTellWrongFalsely : Prop := fnTypeTellRow.holds Try.pinned (OpenSpec.ofChange fnTypeTellWrong)

/-- 'laws.FnTypeSet': WHATEVER THE INPUT: true; the input reads as it did. -/
def fnTypeSetSpec : ChangeSpec := { name := "fnTypeSet", fn := fun _ => fun
  | [d] => { results := [.lit (.bool true)], args := [d] }
  | _ => none }
def fnTypeSetRow : OpenClaim := { program := "ythidgkfgdkjghaa", sum := "84c4bf43e4d4ca733c8882b5c11c0687a91d3aa1e494edde21305965cc5d3c3a", func := "loop.example/cloison/laws.FnTypeSet", spec := "fnTypeSet", unfollowed := true, recurses := true, apart := false }
def FnTypeSetSaid : Prop := fnTypeSetRow.holds Try.pinned (OpenSpec.ofChange fnTypeSetSpec)

/-- ITS FALSE NEIGHBOUR: 'it returns false'. Refute it at one input. -/
def fnTypeSetWrong : ChangeSpec := { name := "fnTypeSet", fn := fun _ => fun
  | [d] => { results := [.lit (.bool false)], args := [d] }
  | _ => none }
def FnTypeSetWrongFalsely : Prop := fnTypeSetRow.holds Try.pinned (OpenSpec.ofChange fnTypeSetWrong)

/-- 'laws.FnTypeKnows': WHATEVER THE INPUT: true; the input reads as it did. -/
def fnTypeKnowsSpec : ChangeSpec := { name := "fnTypeKnows", fn := fun _ => fun
  | [d] => { results := [.lit (.bool true)], args := [d] }
  | _ => none }
def fnTypeKnowsRow : OpenClaim := { program := "ythidgkfgdkjghaa", sum := "84c4bf43e4d4ca733c8882b5c11c0687a91d3aa1e494edde21305965cc5d3c3a", func := "loop.example/cloison/laws.FnTypeKnows", spec := "fnTypeKnows", unfollowed := true, recurses := true, apart := false }
def FnTypeKnowsSaid : Prop := fnTypeKnowsRow.holds Try.pinned (OpenSpec.ofChange fnTypeKnowsSpec)

/-- ITS FALSE NEIGHBOUR: 'it returns false'. Refute it at one input. -/
def fnTypeKnowsWrong : ChangeSpec := { name := "fnTypeKnows", fn := fun _ => fun
  | [d] => { results := [.lit (.bool false)], args := [d] }
  | _ => none }
def FnTypeKnowsWrongFalsely : Prop := fnTypeKnowsRow.holds Try.pinned (OpenSpec.ofChange fnTypeKnowsWrong)

/-- 'laws.FnTypeTrusts': WHATEVER THE INPUT: true; the input reads as it did. -/
def fnTypeTrustsSpec : ChangeSpec := { name := "fnTypeTrusts", fn := fun _ => fun
  | [d] => { results := [.lit (.bool true)], args := [d] }
  | _ => none }
def fnTypeTrustsRow : OpenClaim := { program := "ythidgkfgdkjghaa", sum := "84c4bf43e4d4ca733c8882b5c11c0687a91d3aa1e494edde21305965cc5d3c3a", func := "loop.example/cloison/laws.FnTypeTrusts", spec := "fnTypeTrusts", unfollowed := true, recurses := true, apart := false }
def FnTypeTrustsSaid : Prop := fnTypeTrustsRow.holds Try.pinned (OpenSpec.ofChange fnTypeTrustsSpec)

/-- ITS FALSE NEIGHBOUR: 'it returns false'. Refute it at one input. -/
def fnTypeTrustsWrong : ChangeSpec := { name := "fnTypeTrusts", fn := fun _ => fun
  | [d] => { results := [.lit (.bool false)], args := [d] }
  | _ => none }
def FnTypeTrustsWrongFalsely : Prop := fnTypeTrustsRow.holds Try.pinned (OpenSpec.ofChange fnTypeTrustsWrong)

/-- 'laws.FnTypeAt': WHATEVER THE INPUT: true; the input reads as it did. -/
def fnTypeAtSpec : ChangeSpec := { name := "fnTypeAt", fn := fun _ => fun
  | [d] => { results := [.lit (.bool true)], args := [d] }
  | _ => none }
def fnTypeAtRow : OpenClaim := { program := "ythidgkfgdkjghaa", sum := "84c4bf43e4d4ca733c8882b5c11c0687a91d3aa1e494edde21305965cc5d3c3a", func := "loop.example/cloison/laws.FnTypeAt", spec := "fnTypeAt", unfollowed := true, recurses := true, apart := false }
def FnTypeAtSaid : Prop := fnTypeAtRow.holds Try.pinned (OpenSpec.ofChange fnTypeAtSpec)

/-- ITS FALSE NEIGHBOUR: 'it returns false'. Refute it at one input. -/
def fnTypeAtWrong : ChangeSpec := { name := "fnTypeAt", fn := fun _ => fun
  | [d] => { results := [.lit (.bool false)], args := [d] }
  | _ => none }
def FnTypeAtWrongFalsely : Prop := fnTypeAtRow.holds Try.pinned (OpenSpec.ofChange fnTypeAtWrong)

/- THE SECOND FORM. 'bulk': how many values and letters a reading holds, each counted each time it is reached (what is shared counts as often as it is met; a slice's spare places count too). A statement '..UptoSaid' is the law's where the arguments, and the package variables that the reading takes, are together of bulk at most 1048576: NARROWER than '..Said'. Prove '..Said' where nothing that the law and all that it calls make is longer than what came in: it says more and counts as full. Else prove '..UptoSaid'. A law counts once. -/
mutual
def uptoBulk {H : Type} : DataW H → Nat
  | .lit (.string bytes) => bytes.length + 1
  | .lit _ => 1
  | .nil => 1
  | .ptr d => uptoBulk d + 1
  | .slice elems spare => uptoBulkAll elems + uptoBulkAll spare + 1
  | .agg parts => uptoBulkAll parts + 1
  | .iface _ d => uptoBulk d + 1
  | .map entries => uptoBulkEntries entries + 1
  | .held _ => 1
def uptoBulkAll {H : Type} : List (DataW H) → Nat
  | [] => 0
  | d :: r => uptoBulk d + uptoBulkAll r
def uptoBulkEntries {H : Type} : List (Lit × DataW H) → Nat
  | [] => 0
  | x :: r => uptoBulkEntry x + uptoBulkEntries r
def uptoBulkEntry {H : Type} : Lit × DataW H → Nat
  | (.string bytes, d) => bytes.length + uptoBulk d + 1
  | (_, d) => uptoBulk d + 1
 end
def uptoSmall : (H : Type) → List (DataW H) → Bool := fun _ ds => decide (uptoBulkAll ds ≤ 1048576)
def OpenSpec.upto (s : _root_.Go.ChangeSpec) : _root_.Go.OpenSpec := { _root_.Go.OpenSpec.ofChange s with cond := some uptoSmall }

/-- 'laws.FnProgSize', WHERE WHAT IT READS IS OF BULK AT MOST 1048576: true; the input reads as it did. -/
def fnProgSizeUptoRow : OpenClaim := { program := "ythidgkfgdkjghaa", sum := "84c4bf43e4d4ca733c8882b5c11c0687a91d3aa1e494edde21305965cc5d3c3a", func := "loop.example/cloison/laws.FnProgSize", spec := "fnProgSize", unfollowed := true, recurses := true, apart := false, narrowed := true }
def FnProgSizeUptoSaid : Prop := fnProgSizeUptoRow.holds Try.pinned (OpenSpec.upto fnProgSizeSpec)

/-- 'laws.FnTypeWhy', WHERE WHAT IT READS IS OF BULK AT MOST 1048576: true; the input reads as it did. -/
def fnTypeWhyUptoRow : OpenClaim := { program := "ythidgkfgdkjghaa", sum := "84c4bf43e4d4ca733c8882b5c11c0687a91d3aa1e494edde21305965cc5d3c3a", func := "loop.example/cloison/laws.FnTypeWhy", spec := "fnTypeWhy", unfollowed := true, recurses := true, apart := false, narrowed := true }
def FnTypeWhyUptoSaid : Prop := fnTypeWhyUptoRow.holds Try.pinned (OpenSpec.upto fnTypeWhySpec)

/-- 'laws.FnTypeLess', WHERE WHAT IT READS IS OF BULK AT MOST 1048576: true; the input reads as it did. -/
def fnTypeLessUptoRow : OpenClaim := { program := "ythidgkfgdkjghaa", sum := "84c4bf43e4d4ca733c8882b5c11c0687a91d3aa1e494edde21305965cc5d3c3a", func := "loop.example/cloison/laws.FnTypeLess", spec := "fnTypeLess", unfollowed := true, recurses := true, apart := false, narrowed := true }
def FnTypeLessUptoSaid : Prop := fnTypeLessUptoRow.holds Try.pinned (OpenSpec.upto fnTypeLessSpec)

/-- 'laws.FnTypeAny', WHERE WHAT IT READS IS OF BULK AT MOST 1048576: true; the input reads as it did. -/
def fnTypeAnyUptoRow : OpenClaim := { program := "ythidgkfgdkjghaa", sum := "84c4bf43e4d4ca733c8882b5c11c0687a91d3aa1e494edde21305965cc5d3c3a", func := "loop.example/cloison/laws.FnTypeAny", spec := "fnTypeAny", unfollowed := true, recurses := true, apart := false, narrowed := true }
def FnTypeAnyUptoSaid : Prop := fnTypeAnyUptoRow.holds Try.pinned (OpenSpec.upto fnTypeAnySpec)

/-- 'laws.FnTypeDeep', WHERE WHAT IT READS IS OF BULK AT MOST 1048576: true; the input reads as it did. -/
def fnTypeDeepUptoRow : OpenClaim := { program := "ythidgkfgdkjghaa", sum := "84c4bf43e4d4ca733c8882b5c11c0687a91d3aa1e494edde21305965cc5d3c3a", func := "loop.example/cloison/laws.FnTypeDeep", spec := "fnTypeDeep", unfollowed := true, recurses := true, apart := false, narrowed := true }
def FnTypeDeepUptoSaid : Prop := fnTypeDeepUptoRow.holds Try.pinned (OpenSpec.upto fnTypeDeepSpec)

/-- 'laws.FnTypeTell', WHERE WHAT IT READS IS OF BULK AT MOST 1048576: true; the input reads as it did. -/
def fnTypeTellUptoRow : OpenClaim := { program := "ythidgkfgdkjghaa", sum := "84c4bf43e4d4ca733c8882b5c11c0687a91d3aa1e494edde21305965cc5d3c3a", func := "loop.example/cloison/laws.FnTypeTell", spec := "fnTypeTell", unfollowed := true, recurses := true, apart := false, narrowed := true }
def FnTypeTellUptoSaid : Prop := fnTypeTellUptoRow.holds Try.pinned (OpenSpec.upto fnTypeTellSpec)

/-- 'laws.FnTypeSet', WHERE WHAT IT READS IS OF BULK AT MOST 1048576: true; the input reads as it did. -/
def fnTypeSetUptoRow : OpenClaim := { program := "ythidgkfgdkjghaa", sum := "84c4bf43e4d4ca733c8882b5c11c0687a91d3aa1e494edde21305965cc5d3c3a", func := "loop.example/cloison/laws.FnTypeSet", spec := "fnTypeSet", unfollowed := true, recurses := true, apart := false, narrowed := true }
def FnTypeSetUptoSaid : Prop := fnTypeSetUptoRow.holds Try.pinned (OpenSpec.upto fnTypeSetSpec)

/-- 'laws.FnTypeKnows', WHERE WHAT IT READS IS OF BULK AT MOST 1048576: true; the input reads as it did. -/
def fnTypeKnowsUptoRow : OpenClaim := { program := "ythidgkfgdkjghaa", sum := "84c4bf43e4d4ca733c8882b5c11c0687a91d3aa1e494edde21305965cc5d3c3a", func := "loop.example/cloison/laws.FnTypeKnows", spec := "fnTypeKnows", unfollowed := true, recurses := true, apart := false, narrowed := true }
def FnTypeKnowsUptoSaid : Prop := fnTypeKnowsUptoRow.holds Try.pinned (OpenSpec.upto fnTypeKnowsSpec)

/-- 'laws.FnTypeTrusts', WHERE WHAT IT READS IS OF BULK AT MOST 1048576: true; the input reads as it did. -/
def fnTypeTrustsUptoRow : OpenClaim := { program := "ythidgkfgdkjghaa", sum := "84c4bf43e4d4ca733c8882b5c11c0687a91d3aa1e494edde21305965cc5d3c3a", func := "loop.example/cloison/laws.FnTypeTrusts", spec := "fnTypeTrusts", unfollowed := true, recurses := true, apart := false, narrowed := true }
def FnTypeTrustsUptoSaid : Prop := fnTypeTrustsUptoRow.holds Try.pinned (OpenSpec.upto fnTypeTrustsSpec)

/-- 'laws.FnTypeAt', WHERE WHAT IT READS IS OF BULK AT MOST 1048576: true; the input reads as it did. -/
def fnTypeAtUptoRow : OpenClaim := { program := "ythidgkfgdkjghaa", sum := "84c4bf43e4d4ca733c8882b5c11c0687a91d3aa1e494edde21305965cc5d3c3a", func := "loop.example/cloison/laws.FnTypeAt", spec := "fnTypeAt", unfollowed := true, recurses := true, apart := false, narrowed := true }
def FnTypeAtUptoSaid : Prop := fnTypeAtUptoRow.holds Try.pinned (OpenSpec.upto fnTypeAtSpec)

end Rows
end Go.Proofs.Ythidgkfgdkjghaa
