/-
  NARROWER THAN 'FOR EVERY INPUT', by the rows' own cells (each row's printed sentence says how): FnExactTypeKnows: loops · FnExactTypeTrusts: loops · FnExactTypeAt: loops · FnExactTypeSets: loops · FnExactProgAt: loops.
  DERIVED. THE GIVEN ROWS OF THIS SEAT. 5 by the template 'for every input the law returns true; each argument reads behind the call as it read before'; 0 by the template 'total and deterministic' (their statements: YtaflodibibbakaaTotals.lean).
  GIVEN WITH THE SEED: the statements are not yours to turn. If you find one false, say at which input.
  Laid BY PROGRAM, IN A SANDBOX (cutbox-rows.mjs): the forced cells as the released guide's own fill.sh prints them over the translation efd766b4f47e1437… (all of the seat's roots in one cut). By AI agents, Wed Nov 11 2026. No macro, syntax, notation, axiom, sorry.
-/
import Derived.Test.YtaflodibibbakaaChecked
import GoSem.Claim
import GoSem.ClaimJoined
import GoSem.ClaimMapViews
import Derived.JoinedTies
import Derived.KernelRfl
namespace Go.Proofs.Ytaflodibibbakaa
/- THE CELL 'sum', in the pinned program and in every row, IS THE sha256 OF THE DUMP (.gsa) THAT YtaflodibibbakaaProg.lean LOADS. Nothing in Lean hashes anything: it is a label: what it is worth is what the hold of that sum in a sandbox is worth. -/
noncomputable def Try.pinned : Pinned := { name := "ytaflodibibbakaa", sum := "efd766b4f47e14376142f0f928dad46d5d78bb647f15478d3fb7f2cff73bfb22", checked := Try.checked }
namespace Rows
def none {H : Type} : Left H := { results := [], args := [] }

/-- 'laws.FnExactTypeKnows': WHATEVER THE INPUT: true; the input reads as it did. -/
def fnExactTypeKnowsSpec : ChangeSpec := { name := "fnExactTypeKnows", fn := fun _ => fun
  | [d1, d2] => { results := [.lit (.bool true)], args := [d1, d2] }
  | _ => none }
def fnExactTypeKnowsRow : OpenClaim := { program := "ytaflodibibbakaa", sum := "efd766b4f47e14376142f0f928dad46d5d78bb647f15478d3fb7f2cff73bfb22", func := "loop.example/cloison/laws.FnExactTypeKnows", spec := "fnExactTypeKnows", unfollowed := true, recurses := true, loops := true, apart := false }
def FnExactTypeKnowsSaid : Prop := fnExactTypeKnowsRow.holds Try.pinned (OpenSpec.ofChange fnExactTypeKnowsSpec)

/-- ITS FALSE NEIGHBOUR: 'it returns false'. Refute it at one input. -/
def fnExactTypeKnowsWrong : ChangeSpec := { name := "fnExactTypeKnows", fn := fun _ => fun
  | [d1, d2] => { results := [.lit (.bool false)], args := [d1, d2] }
  | _ => none }
def FnExactTypeKnowsWrongFalsely : Prop := fnExactTypeKnowsRow.holds Try.pinned (OpenSpec.ofChange fnExactTypeKnowsWrong)

/-- 'laws.FnExactTypeTrusts': WHATEVER THE INPUT: true; the input reads as it did. -/
def fnExactTypeTrustsSpec : ChangeSpec := { name := "fnExactTypeTrusts", fn := fun _ => fun
  | [d1, d2] => { results := [.lit (.bool true)], args := [d1, d2] }
  | _ => none }
def fnExactTypeTrustsRow : OpenClaim := { program := "ytaflodibibbakaa", sum := "efd766b4f47e14376142f0f928dad46d5d78bb647f15478d3fb7f2cff73bfb22", func := "loop.example/cloison/laws.FnExactTypeTrusts", spec := "fnExactTypeTrusts", unfollowed := true, recurses := true, loops := true, apart := false }
def FnExactTypeTrustsSaid : Prop := fnExactTypeTrustsRow.holds Try.pinned (OpenSpec.ofChange fnExactTypeTrustsSpec)

/-- ITS FALSE NEIGHBOUR: 'it returns false'. Refute it at one input. -/
def fnExactTypeTrustsWrong : ChangeSpec := { name := "fnExactTypeTrusts", fn := fun _ => fun
  | [d1, d2] => { results := [.lit (.bool false)], args := [d1, d2] }
  | _ => none }
def FnExactTypeTrustsWrongFalsely : Prop := fnExactTypeTrustsRow.holds Try.pinned (OpenSpec.ofChange fnExactTypeTrustsWrong)

/-- 'laws.FnExactTypeAt': WHATEVER THE INPUT: true; the input reads as it did. -/
def fnExactTypeAtSpec : ChangeSpec := { name := "fnExactTypeAt", fn := fun _ => fun
  | [d] => { results := [.lit (.bool true)], args := [d] }
  | _ => none }
def fnExactTypeAtRow : OpenClaim := { program := "ytaflodibibbakaa", sum := "efd766b4f47e14376142f0f928dad46d5d78bb647f15478d3fb7f2cff73bfb22", func := "loop.example/cloison/laws.FnExactTypeAt", spec := "fnExactTypeAt", unfollowed := true, recurses := true, loops := true, apart := false }
def FnExactTypeAtSaid : Prop := fnExactTypeAtRow.holds Try.pinned (OpenSpec.ofChange fnExactTypeAtSpec)

/-- ITS FALSE NEIGHBOUR: 'it returns false'. Refute it at one input. -/
def fnExactTypeAtWrong : ChangeSpec := { name := "fnExactTypeAt", fn := fun _ => fun
  | [d] => { results := [.lit (.bool false)], args := [d] }
  | _ => none }
def FnExactTypeAtWrongFalsely : Prop := fnExactTypeAtRow.holds Try.pinned (OpenSpec.ofChange fnExactTypeAtWrong)

/-- 'laws.FnExactTypeSets': WHATEVER THE INPUT: true; the input reads as it did. -/
def fnExactTypeSetsSpec : ChangeSpec := { name := "fnExactTypeSets", fn := fun _ => fun
  | [d] => { results := [.lit (.bool true)], args := [d] }
  | _ => none }
def fnExactTypeSetsRow : OpenClaim := { program := "ytaflodibibbakaa", sum := "efd766b4f47e14376142f0f928dad46d5d78bb647f15478d3fb7f2cff73bfb22", func := "loop.example/cloison/laws.FnExactTypeSets", spec := "fnExactTypeSets", unfollowed := true, recurses := true, loops := true, apart := false }
def FnExactTypeSetsSaid : Prop := fnExactTypeSetsRow.holds Try.pinned (OpenSpec.ofChange fnExactTypeSetsSpec)

/-- ITS FALSE NEIGHBOUR: 'it returns false'. Refute it at one input. -/
def fnExactTypeSetsWrong : ChangeSpec := { name := "fnExactTypeSets", fn := fun _ => fun
  | [d] => { results := [.lit (.bool false)], args := [d] }
  | _ => none }
def FnExactTypeSetsWrongFalsely : Prop := fnExactTypeSetsRow.holds Try.pinned (OpenSpec.ofChange fnExactTypeSetsWrong)

/-- 'laws.FnExactProgAt': WHATEVER THE INPUT: true; the input reads as it did. -/
def fnExactProgAtSpec : ChangeSpec := { name := "fnExactProgAt", fn := fun _ => fun
  | [d1, d2] => { results := [.lit (.bool true)], args := [d1, d2] }
  | _ => none }
def fnExactProgAtRow : OpenClaim := { program := "ytaflodibibbakaa", sum := "efd766b4f47e14376142f0f928dad46d5d78bb647f15478d3fb7f2cff73bfb22", func := "loop.example/cloison/laws.FnExactProgAt", spec := "fnExactProgAt", unfollowed := true, recurses := true, loops := true, apart := false }
def FnExactProgAtSaid : Prop := fnExactProgAtRow.holds Try.pinned (OpenSpec.ofChange fnExactProgAtSpec)

/-- ITS FALSE NEIGHBOUR: 'it returns false'. Refute it at one input. -/
def fnExactProgAtWrong : ChangeSpec := { name := "fnExactProgAt", fn := fun _ => fun
  | [d1, d2] => { results := [.lit (.bool false)], args := [d1, d2] }
  | _ => none }
def FnExactProgAtWrongFalsely : Prop := fnExactProgAtRow.holds Try.pinned (OpenSpec.ofChange fnExactProgAtWrong)

/- THE SECOND FORM. 'bulk': how many values and letters a reading holds, each counted each time it is reached (what is shared counts as often as it is met; a slice's spare places count too). A statement '..UptoSaid' is the law's where the arguments, and the package variables that the reading takes, are together of bulk at most 1048576: NARROWER than '..Said'. Prove '..Said' where nothing that the law and all that it calls make is longer than what came in: it says more and counts as full. Else prove '..UptoSaid'. A law counts once. -/
mutual
def uptoBulk {H : Type} : DataW H → Nat
  | .lit (.string bytes) => bytes.length + 1
  | .lit _ => 1
  | .nil => 1
  | .ptr d => uptoBulk d + 1
  | .slice elems spare => uptoBulkAll elems + uptoBulkAll spare + 1
  | .agg parts => uptoBulkAll parts + 1
  | .iface _ d => uptoBulk d + 1
  | .map entries => uptoBulkEntries entries + 1
  | .held _ => 1
def uptoBulkAll {H : Type} : List (DataW H) → Nat
  | [] => 0
  | d :: r => uptoBulk d + uptoBulkAll r
def uptoBulkEntries {H : Type} : List (Lit × DataW H) → Nat
  | [] => 0
  | x :: r => uptoBulkEntry x + uptoBulkEntries r
def uptoBulkEntry {H : Type} : Lit × DataW H → Nat
  | (.string bytes, d) => bytes.length + uptoBulk d + 1
  | (_, d) => uptoBulk d + 1
 end
def uptoSmall : (H : Type) → List (DataW H) → Bool := fun _ ds => decide (uptoBulkAll ds ≤ 1048576)
def OpenSpec.upto (s : _root_.Go.ChangeSpec) : _root_.Go.OpenSpec := { _root_.Go.OpenSpec.ofChange s with cond := some uptoSmall }

/-- 'laws.FnExactTypeKnows', WHERE WHAT IT READS IS OF BULK AT MOST 1048576: true; the input reads as it did. -/
def fnExactTypeKnowsUptoRow : OpenClaim := { program := "ytaflodibibbakaa", sum := "efd766b4f47e14376142f0f928dad46d5d78bb647f15478d3fb7f2cff73bfb22", func := "loop.example/cloison/laws.FnExactTypeKnows", spec := "fnExactTypeKnows", unfollowed := true, recurses := true, loops := true, apart := false, narrowed := true }
def FnExactTypeKnowsUptoSaid : Prop := fnExactTypeKnowsUptoRow.holds Try.pinned (OpenSpec.upto fnExactTypeKnowsSpec)

/-- 'laws.FnExactTypeTrusts', WHERE WHAT IT READS IS OF BULK AT MOST 1048576: true; the input reads as it did. -/
def fnExactTypeTrustsUptoRow : OpenClaim := { program := "ytaflodibibbakaa", sum := "efd766b4f47e14376142f0f928dad46d5d78bb647f15478d3fb7f2cff73bfb22", func := "loop.example/cloison/laws.FnExactTypeTrusts", spec := "fnExactTypeTrusts", unfollowed := true, recurses := true, loops := true, apart := false, narrowed := true }
def FnExactTypeTrustsUptoSaid : Prop := fnExactTypeTrustsUptoRow.holds Try.pinned (OpenSpec.upto fnExactTypeTrustsSpec)

/-- 'laws.FnExactTypeAt', WHERE WHAT IT READS IS OF BULK AT MOST 1048576: true; the input reads as it did. -/
def fnExactTypeAtUptoRow : OpenClaim := { program := "ytaflodibibbakaa", sum := "efd766b4f47e14376142f0f928dad46d5d78bb647f15478d3fb7f2cff73bfb22", func := "loop.example/cloison/laws.FnExactTypeAt", spec := "fnExactTypeAt", unfollowed := true, recurses := true, loops := true, apart := false, narrowed := true }
def FnExactTypeAtUptoSaid : Prop := fnExactTypeAtUptoRow.holds Try.pinned (OpenSpec.upto fnExactTypeAtSpec)

/-- 'laws.FnExactTypeSets', WHERE WHAT IT READS IS OF BULK AT MOST 1048576: true; the input reads as it did. -/
def fnExactTypeSetsUptoRow : OpenClaim := { program := "ytaflodibibbakaa", sum := "efd766b4f47e14376142f0f928dad46d5d78bb647f15478d3fb7f2cff73bfb22", func := "loop.example/cloison/laws.FnExactTypeSets", spec := "fnExactTypeSets", unfollowed := true, recurses := true, loops := true, apart := false, narrowed := true }
def FnExactTypeSetsUptoSaid : Prop := fnExactTypeSetsUptoRow.holds Try.pinned (OpenSpec.upto fnExactTypeSetsSpec)

/-- 'laws.FnExactProgAt', WHERE WHAT IT READS IS OF BULK AT MOST 1048576: true; the input reads as it did. -/
def fnExactProgAtUptoRow : OpenClaim := { program := "ytaflodibibbakaa", sum := "efd766b4f47e14376142f0f928dad46d5d78bb647f15478d3fb7f2cff73bfb22", func := "loop.example/cloison/laws.FnExactProgAt", spec := "fnExactProgAt", unfollowed := true, recurses := true, loops := true, apart := false, narrowed := true }
def FnExactProgAtUptoSaid : Prop := fnExactProgAtUptoRow.holds Try.pinned (OpenSpec.upto fnExactProgAtSpec)

end Rows
end Go.Proofs.Ytaflodibibbakaa
