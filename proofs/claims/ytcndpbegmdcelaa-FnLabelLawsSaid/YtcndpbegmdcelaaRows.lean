/-
  No cell of these rows narrows 'for every input' (looked for: loops, veiled, ifaces, maps, wideKeys, modest, calm, conditions, laid).
  DERIVED. THE GIVEN ROWS OF THIS SEAT. 18 by the template 'for every input the law returns true; each argument reads behind the call as it read before'; 0 by the template 'total and deterministic' (their statements: YtcndpbegmdcelaaTotals.lean).
  GIVEN WITH THE SEED: the statements are not yours to turn. If you find one false, say at which input.
  Laid BY PROGRAM, IN A SANDBOX (cutbox-rows.mjs): the forced cells as the released guide's own fill.sh prints them over the translation a01449372ca7dc1e… (all of the seat's roots in one cut). By AI agents, Wed Nov 11 2026. No macro, syntax, notation, axiom, sorry.
-/
import Derived.Test.YtcndpbegmdcelaaChecked
import GoSem.Claim
import GoSem.ClaimJoined
import GoSem.ClaimMapViews
import Derived.JoinedTies
import Derived.KernelRfl
namespace Go.Proofs.Ytcndpbegmdcelaa
/- THE CELL 'sum', in the pinned program and in every row, IS THE sha256 OF THE DUMP (.gsa) THAT YtcndpbegmdcelaaProg.lean LOADS. Nothing in Lean hashes anything: it is a label: what it is worth is what the hold of that sum in a sandbox is worth. -/
noncomputable def Try.pinned : Pinned := { name := "ytcndpbegmdcelaa", sum := "a01449372ca7dc1e14146207f74ad58e9ba251cea1d306af72481ede781edcb2", checked := Try.checked }
namespace Rows
def none {H : Type} : Left H := { results := [], args := [] }

/-- 'laws.FnExactConstants': WHATEVER THE INPUT: true; the input reads as it did. -/
def fnExactConstantsSpec : ChangeSpec := { name := "fnExactConstants", fn := fun _ => fun
  | [] => { results := [.lit (.bool true)], args := [] }
  | _ => none }
def fnExactConstantsRow : OpenClaim := { program := "ytcndpbegmdcelaa", sum := "a01449372ca7dc1e14146207f74ad58e9ba251cea1d306af72481ede781edcb2", func := "loop.example/cloison/laws.FnExactConstants", spec := "fnExactConstants", apart := false }
def FnExactConstantsSaid : Prop := fnExactConstantsRow.holds Try.pinned (OpenSpec.ofChange fnExactConstantsSpec)

/-- ITS FALSE NEIGHBOUR: 'it returns false'. Refute it at one input. -/
def fnExactConstantsWrong : ChangeSpec := { name := "fnExactConstants", fn := fun _ => fun
  | [] => { results := [.lit (.bool false)], args := [] }
  | _ => none }
def FnExactConstantsWrongFalsely : Prop := fnExactConstantsRow.holds Try.pinned (OpenSpec.ofChange fnExactConstantsWrong)

/-- 'laws.FnExactLabelOk': WHATEVER THE INPUT: true; the input reads as it did. -/
def fnExactLabelOkSpec : ChangeSpec := { name := "fnExactLabelOk", fn := fun _ => fun
  | [d] => { results := [.lit (.bool true)], args := [d] }
  | _ => none }
def fnExactLabelOkRow : OpenClaim := { program := "ytcndpbegmdcelaa", sum := "a01449372ca7dc1e14146207f74ad58e9ba251cea1d306af72481ede781edcb2", func := "loop.example/cloison/laws.FnExactLabelOk", spec := "fnExactLabelOk", apart := false }
def FnExactLabelOkSaid : Prop := fnExactLabelOkRow.holds Try.pinned (OpenSpec.ofChange fnExactLabelOkSpec)

/-- ITS FALSE NEIGHBOUR: 'it returns false'. Refute it at one input. -/
def fnExactLabelOkWrong : ChangeSpec := { name := "fnExactLabelOk", fn := fun _ => fun
  | [d] => { results := [.lit (.bool false)], args := [d] }
  | _ => none }
def FnExactLabelOkWrongFalsely : Prop := fnExactLabelOkRow.holds Try.pinned (OpenSpec.ofChange fnExactLabelOkWrong)

/-- 'laws.FnExactLabelFlows': WHATEVER THE INPUT: true; the input reads as it did. -/
def fnExactLabelFlowsSpec : ChangeSpec := { name := "fnExactLabelFlows", fn := fun _ => fun
  | [d1, d2] => { results := [.lit (.bool true)], args := [d1, d2] }
  | _ => none }
def fnExactLabelFlowsRow : OpenClaim := { program := "ytcndpbegmdcelaa", sum := "a01449372ca7dc1e14146207f74ad58e9ba251cea1d306af72481ede781edcb2", func := "loop.example/cloison/laws.FnExactLabelFlows", spec := "fnExactLabelFlows", apart := false }
def FnExactLabelFlowsSaid : Prop := fnExactLabelFlowsRow.holds Try.pinned (OpenSpec.ofChange fnExactLabelFlowsSpec)

/-- ITS FALSE NEIGHBOUR: 'it returns false'. Refute it at one input. -/
def fnExactLabelFlowsWrong : ChangeSpec := { name := "fnExactLabelFlows", fn := fun _ => fun
  | [d1, d2] => { results := [.lit (.bool false)], args := [d1, d2] }
  | _ => none }
def FnExactLabelFlowsWrongFalsely : Prop := fnExactLabelFlowsRow.holds Try.pinned (OpenSpec.ofChange fnExactLabelFlowsWrong)

/-- 'laws.FnExactLabelBoth': WHATEVER THE INPUT: true; the input reads as it did. -/
def fnExactLabelBothSpec : ChangeSpec := { name := "fnExactLabelBoth", fn := fun _ => fun
  | [d1, d2] => { results := [.lit (.bool true)], args := [d1, d2] }
  | _ => none }
def fnExactLabelBothRow : OpenClaim := { program := "ytcndpbegmdcelaa", sum := "a01449372ca7dc1e14146207f74ad58e9ba251cea1d306af72481ede781edcb2", func := "loop.example/cloison/laws.FnExactLabelBoth", spec := "fnExactLabelBoth", apart := false }
def FnExactLabelBothSaid : Prop := fnExactLabelBothRow.holds Try.pinned (OpenSpec.ofChange fnExactLabelBothSpec)

/-- ITS FALSE NEIGHBOUR: 'it returns false'. Refute it at one input. -/
def fnExactLabelBothWrong : ChangeSpec := { name := "fnExactLabelBoth", fn := fun _ => fun
  | [d1, d2] => { results := [.lit (.bool false)], args := [d1, d2] }
  | _ => none }
def FnExactLabelBothWrongFalsely : Prop := fnExactLabelBothRow.holds Try.pinned (OpenSpec.ofChange fnExactLabelBothWrong)

/-- 'laws.FnExactLabelEither': WHATEVER THE INPUT: true; the input reads as it did. -/
def fnExactLabelEitherSpec : ChangeSpec := { name := "fnExactLabelEither", fn := fun _ => fun
  | [d1, d2] => { results := [.lit (.bool true)], args := [d1, d2] }
  | _ => none }
def fnExactLabelEitherRow : OpenClaim := { program := "ytcndpbegmdcelaa", sum := "a01449372ca7dc1e14146207f74ad58e9ba251cea1d306af72481ede781edcb2", func := "loop.example/cloison/laws.FnExactLabelEither", spec := "fnExactLabelEither", apart := false }
def FnExactLabelEitherSaid : Prop := fnExactLabelEitherRow.holds Try.pinned (OpenSpec.ofChange fnExactLabelEitherSpec)

/-- ITS FALSE NEIGHBOUR: 'it returns false'. Refute it at one input. -/
def fnExactLabelEitherWrong : ChangeSpec := { name := "fnExactLabelEither", fn := fun _ => fun
  | [d1, d2] => { results := [.lit (.bool false)], args := [d1, d2] }
  | _ => none }
def FnExactLabelEitherWrongFalsely : Prop := fnExactLabelEitherRow.holds Try.pinned (OpenSpec.ofChange fnExactLabelEitherWrong)

/-- 'laws.FnLabelEnds': WHATEVER THE INPUT: true; the input reads as it did. -/
def fnLabelEndsSpec : ChangeSpec := { name := "fnLabelEnds", fn := fun _ => fun
  | [d] => { results := [.lit (.bool true)], args := [d] }
  | _ => none }
def fnLabelEndsRow : OpenClaim := { program := "ytcndpbegmdcelaa", sum := "a01449372ca7dc1e14146207f74ad58e9ba251cea1d306af72481ede781edcb2", func := "loop.example/cloison/laws.FnLabelEnds", spec := "fnLabelEnds", apart := false }
def FnLabelEndsSaid : Prop := fnLabelEndsRow.holds Try.pinned (OpenSpec.ofChange fnLabelEndsSpec)

/-- ITS FALSE NEIGHBOUR: 'it returns false'. Refute it at one input. -/
def fnLabelEndsWrong : ChangeSpec := { name := "fnLabelEnds", fn := fun _ => fun
  | [d] => { results := [.lit (.bool false)], args := [d] }
  | _ => none }
def FnLabelEndsWrongFalsely : Prop := fnLabelEndsRow.holds Try.pinned (OpenSpec.ofChange fnLabelEndsWrong)

/-- 'laws.FnLabelThree': WHATEVER THE INPUT: true; the input reads as it did. -/
def fnLabelThreeSpec : ChangeSpec := { name := "fnLabelThree", fn := fun _ => fun
  | [d1, d2] => { results := [.lit (.bool true)], args := [d1, d2] }
  | _ => none }
def fnLabelThreeRow : OpenClaim := { program := "ytcndpbegmdcelaa", sum := "a01449372ca7dc1e14146207f74ad58e9ba251cea1d306af72481ede781edcb2", func := "loop.example/cloison/laws.FnLabelThree", spec := "fnLabelThree", apart := false }
def FnLabelThreeSaid : Prop := fnLabelThreeRow.holds Try.pinned (OpenSpec.ofChange fnLabelThreeSpec)

/-- ITS FALSE NEIGHBOUR: 'it returns false'. Refute it at one input. -/
def fnLabelThreeWrong : ChangeSpec := { name := "fnLabelThree", fn := fun _ => fun
  | [d1, d2] => { results := [.lit (.bool false)], args := [d1, d2] }
  | _ => none }
def FnLabelThreeWrongFalsely : Prop := fnLabelThreeRow.holds Try.pinned (OpenSpec.ofChange fnLabelThreeWrong)

/-- 'laws.FnLabelBoth': WHATEVER THE INPUT: true; the input reads as it did. -/
def fnLabelBothSpec : ChangeSpec := { name := "fnLabelBoth", fn := fun _ => fun
  | [d1, d2] => { results := [.lit (.bool true)], args := [d1, d2] }
  | _ => none }
def fnLabelBothRow : OpenClaim := { program := "ytcndpbegmdcelaa", sum := "a01449372ca7dc1e14146207f74ad58e9ba251cea1d306af72481ede781edcb2", func := "loop.example/cloison/laws.FnLabelBoth", spec := "fnLabelBoth", apart := false }
def FnLabelBothSaid : Prop := fnLabelBothRow.holds Try.pinned (OpenSpec.ofChange fnLabelBothSpec)

/-- ITS FALSE NEIGHBOUR: 'it returns false'. Refute it at one input. -/
def fnLabelBothWrong : ChangeSpec := { name := "fnLabelBoth", fn := fun _ => fun
  | [d1, d2] => { results := [.lit (.bool false)], args := [d1, d2] }
  | _ => none }
def FnLabelBothWrongFalsely : Prop := fnLabelBothRow.holds Try.pinned (OpenSpec.ofChange fnLabelBothWrong)

/-- 'laws.FnLabelFlows': WHATEVER THE INPUT: true; the input reads as it did. -/
def fnLabelFlowsSpec : ChangeSpec := { name := "fnLabelFlows", fn := fun _ => fun
  | [d] => { results := [.lit (.bool true)], args := [d] }
  | _ => none }
def fnLabelFlowsRow : OpenClaim := { program := "ytcndpbegmdcelaa", sum := "a01449372ca7dc1e14146207f74ad58e9ba251cea1d306af72481ede781edcb2", func := "loop.example/cloison/laws.FnLabelFlows", spec := "fnLabelFlows", apart := false }
def FnLabelFlowsSaid : Prop := fnLabelFlowsRow.holds Try.pinned (OpenSpec.ofChange fnLabelFlowsSpec)

/-- ITS FALSE NEIGHBOUR: 'it returns false'. Refute it at one input. -/
def fnLabelFlowsWrong : ChangeSpec := { name := "fnLabelFlows", fn := fun _ => fun
  | [d] => { results := [.lit (.bool false)], args := [d] }
  | _ => none }
def FnLabelFlowsWrongFalsely : Prop := fnLabelFlowsRow.holds Try.pinned (OpenSpec.ofChange fnLabelFlowsWrong)

/-- 'laws.FnLabelLaws': WHATEVER THE INPUT: true; the input reads as it did. -/
def fnLabelLawsSpec : ChangeSpec := { name := "fnLabelLaws", fn := fun _ => fun
  | [d] => { results := [.lit (.bool true)], args := [d] }
  | _ => none }
def fnLabelLawsRow : OpenClaim := { program := "ytcndpbegmdcelaa", sum := "a01449372ca7dc1e14146207f74ad58e9ba251cea1d306af72481ede781edcb2", func := "loop.example/cloison/laws.FnLabelLaws", spec := "fnLabelLaws", apart := false }
def FnLabelLawsSaid : Prop := fnLabelLawsRow.holds Try.pinned (OpenSpec.ofChange fnLabelLawsSpec)

/-- ITS FALSE NEIGHBOUR: 'it returns false'. Refute it at one input. -/
def fnLabelLawsWrong : ChangeSpec := { name := "fnLabelLaws", fn := fun _ => fun
  | [d] => { results := [.lit (.bool false)], args := [d] }
  | _ => none }
def FnLabelLawsWrongFalsely : Prop := fnLabelLawsRow.holds Try.pinned (OpenSpec.ofChange fnLabelLawsWrong)

/-- 'laws.FnLabelEither': WHATEVER THE INPUT: true; the input reads as it did. -/
def fnLabelEitherSpec : ChangeSpec := { name := "fnLabelEither", fn := fun _ => fun
  | [d1, d2] => { results := [.lit (.bool true)], args := [d1, d2] }
  | _ => none }
def fnLabelEitherRow : OpenClaim := { program := "ytcndpbegmdcelaa", sum := "a01449372ca7dc1e14146207f74ad58e9ba251cea1d306af72481ede781edcb2", func := "loop.example/cloison/laws.FnLabelEither", spec := "fnLabelEither", apart := false }
def FnLabelEitherSaid : Prop := fnLabelEitherRow.holds Try.pinned (OpenSpec.ofChange fnLabelEitherSpec)

/-- ITS FALSE NEIGHBOUR: 'it returns false'. Refute it at one input. -/
def fnLabelEitherWrong : ChangeSpec := { name := "fnLabelEither", fn := fun _ => fun
  | [d1, d2] => { results := [.lit (.bool false)], args := [d1, d2] }
  | _ => none }
def FnLabelEitherWrongFalsely : Prop := fnLabelEitherRow.holds Try.pinned (OpenSpec.ofChange fnLabelEitherWrong)

/-- 'laws.FnExactTurnSet': WHATEVER THE INPUT: true; the input reads as it did. -/
def fnExactTurnSetSpec : ChangeSpec := { name := "fnExactTurnSet", fn := fun _ => fun
  | [d1, d2] => { results := [.lit (.bool true)], args := [d1, d2] }
  | _ => none }
def fnExactTurnSetRow : OpenClaim := { program := "ytcndpbegmdcelaa", sum := "a01449372ca7dc1e14146207f74ad58e9ba251cea1d306af72481ede781edcb2", func := "loop.example/cloison/laws.FnExactTurnSet", spec := "fnExactTurnSet", apart := false }
def FnExactTurnSetSaid : Prop := fnExactTurnSetRow.holds Try.pinned (OpenSpec.ofChange fnExactTurnSetSpec)

/-- ITS FALSE NEIGHBOUR: 'it returns false'. Refute it at one input. -/
def fnExactTurnSetWrong : ChangeSpec := { name := "fnExactTurnSet", fn := fun _ => fun
  | [d1, d2] => { results := [.lit (.bool false)], args := [d1, d2] }
  | _ => none }
def FnExactTurnSetWrongFalsely : Prop := fnExactTurnSetRow.holds Try.pinned (OpenSpec.ofChange fnExactTurnSetWrong)

/-- 'laws.FnTurnSet': WHATEVER THE INPUT: true; the input reads as it did. -/
def fnTurnSetSpec : ChangeSpec := { name := "fnTurnSet", fn := fun _ => fun
  | [d] => { results := [.lit (.bool true)], args := [d] }
  | _ => none }
def fnTurnSetRow : OpenClaim := { program := "ytcndpbegmdcelaa", sum := "a01449372ca7dc1e14146207f74ad58e9ba251cea1d306af72481ede781edcb2", func := "loop.example/cloison/laws.FnTurnSet", spec := "fnTurnSet", apart := false }
def FnTurnSetSaid : Prop := fnTurnSetRow.holds Try.pinned (OpenSpec.ofChange fnTurnSetSpec)

/-- ITS FALSE NEIGHBOUR: 'it returns false'. Refute it at one input. -/
def fnTurnSetWrong : ChangeSpec := { name := "fnTurnSet", fn := fun _ => fun
  | [d] => { results := [.lit (.bool false)], args := [d] }
  | _ => none }
def FnTurnSetWrongFalsely : Prop := fnTurnSetRow.holds Try.pinned (OpenSpec.ofChange fnTurnSetWrong)

/-- 'laws.FnTurnLabel': WHATEVER THE INPUT: true; the input reads as it did. -/
def fnTurnLabelSpec : ChangeSpec := { name := "fnTurnLabel", fn := fun _ => fun
  | [d1, d2] => { results := [.lit (.bool true)], args := [d1, d2] }
  | _ => none }
def fnTurnLabelRow : OpenClaim := { program := "ytcndpbegmdcelaa", sum := "a01449372ca7dc1e14146207f74ad58e9ba251cea1d306af72481ede781edcb2", func := "loop.example/cloison/laws.FnTurnLabel", spec := "fnTurnLabel", apart := false }
def FnTurnLabelSaid : Prop := fnTurnLabelRow.holds Try.pinned (OpenSpec.ofChange fnTurnLabelSpec)

/-- ITS FALSE NEIGHBOUR: 'it returns false'. Refute it at one input. -/
def fnTurnLabelWrong : ChangeSpec := { name := "fnTurnLabel", fn := fun _ => fun
  | [d1, d2] => { results := [.lit (.bool false)], args := [d1, d2] }
  | _ => none }
def FnTurnLabelWrongFalsely : Prop := fnTurnLabelRow.holds Try.pinned (OpenSpec.ofChange fnTurnLabelWrong)

/-- 'laws.FnExactRunTo': WHATEVER THE INPUT: true; the input reads as it did. -/
def fnExactRunToSpec : ChangeSpec := { name := "fnExactRunTo", fn := fun _ => fun
  | [d1, d2] => { results := [.lit (.bool true)], args := [d1, d2] }
  | _ => none }
def fnExactRunToRow : OpenClaim := { program := "ytcndpbegmdcelaa", sum := "a01449372ca7dc1e14146207f74ad58e9ba251cea1d306af72481ede781edcb2", func := "loop.example/cloison/laws.FnExactRunTo", spec := "fnExactRunTo", apart := false }
def FnExactRunToSaid : Prop := fnExactRunToRow.holds Try.pinned (OpenSpec.ofChange fnExactRunToSpec)

/-- ITS FALSE NEIGHBOUR: 'it returns false'. Refute it at one input. -/
def fnExactRunToWrong : ChangeSpec := { name := "fnExactRunTo", fn := fun _ => fun
  | [d1, d2] => { results := [.lit (.bool false)], args := [d1, d2] }
  | _ => none }
def FnExactRunToWrongFalsely : Prop := fnExactRunToRow.holds Try.pinned (OpenSpec.ofChange fnExactRunToWrong)

/-- 'laws.FnExactRunSets': WHATEVER THE INPUT: true; the input reads as it did. -/
def fnExactRunSetsSpec : ChangeSpec := { name := "fnExactRunSets", fn := fun _ => fun
  | [d1, d2] => { results := [.lit (.bool true)], args := [d1, d2] }
  | _ => none }
def fnExactRunSetsRow : OpenClaim := { program := "ytcndpbegmdcelaa", sum := "a01449372ca7dc1e14146207f74ad58e9ba251cea1d306af72481ede781edcb2", func := "loop.example/cloison/laws.FnExactRunSets", spec := "fnExactRunSets", apart := false }
def FnExactRunSetsSaid : Prop := fnExactRunSetsRow.holds Try.pinned (OpenSpec.ofChange fnExactRunSetsSpec)

/-- ITS FALSE NEIGHBOUR: 'it returns false'. Refute it at one input. -/
def fnExactRunSetsWrong : ChangeSpec := { name := "fnExactRunSets", fn := fun _ => fun
  | [d1, d2] => { results := [.lit (.bool false)], args := [d1, d2] }
  | _ => none }
def FnExactRunSetsWrongFalsely : Prop := fnExactRunSetsRow.holds Try.pinned (OpenSpec.ofChange fnExactRunSetsWrong)

/-- 'laws.FnRunTo': WHATEVER THE INPUT: true; the input reads as it did. -/
def fnRunToSpec : ChangeSpec := { name := "fnRunTo", fn := fun _ => fun
  | [d] => { results := [.lit (.bool true)], args := [d] }
  | _ => none }
def fnRunToRow : OpenClaim := { program := "ytcndpbegmdcelaa", sum := "a01449372ca7dc1e14146207f74ad58e9ba251cea1d306af72481ede781edcb2", func := "loop.example/cloison/laws.FnRunTo", spec := "fnRunTo", recurses := true, apart := false }
def FnRunToSaid : Prop := fnRunToRow.holds Try.pinned (OpenSpec.ofChange fnRunToSpec)

/-- ITS FALSE NEIGHBOUR: 'it returns false'. Refute it at one input. -/
def fnRunToWrong : ChangeSpec := { name := "fnRunTo", fn := fun _ => fun
  | [d] => { results := [.lit (.bool false)], args := [d] }
  | _ => none }
def FnRunToWrongFalsely : Prop := fnRunToRow.holds Try.pinned (OpenSpec.ofChange fnRunToWrong)

/-- 'laws.FnRunSets': WHATEVER THE INPUT: true; the input reads as it did. -/
def fnRunSetsSpec : ChangeSpec := { name := "fnRunSets", fn := fun _ => fun
  | [d] => { results := [.lit (.bool true)], args := [d] }
  | _ => none }
def fnRunSetsRow : OpenClaim := { program := "ytcndpbegmdcelaa", sum := "a01449372ca7dc1e14146207f74ad58e9ba251cea1d306af72481ede781edcb2", func := "loop.example/cloison/laws.FnRunSets", spec := "fnRunSets", recurses := true, apart := false }
def FnRunSetsSaid : Prop := fnRunSetsRow.holds Try.pinned (OpenSpec.ofChange fnRunSetsSpec)

/-- ITS FALSE NEIGHBOUR: 'it returns false'. Refute it at one input. -/
def fnRunSetsWrong : ChangeSpec := { name := "fnRunSets", fn := fun _ => fun
  | [d] => { results := [.lit (.bool false)], args := [d] }
  | _ => none }
def FnRunSetsWrongFalsely : Prop := fnRunSetsRow.holds Try.pinned (OpenSpec.ofChange fnRunSetsWrong)

/- THE SECOND FORM. 'bulk': how many values and letters a reading holds, each counted each time it is reached (what is shared counts as often as it is met; a slice's spare places count too). A statement '..UptoSaid' is the law's where the arguments, and the package variables that the reading takes, are together of bulk at most 1048576: NARROWER than '..Said'. Prove '..Said' where nothing that the law and all that it calls make is longer than what came in: it says more and counts as full. Else prove '..UptoSaid'. A law counts once. -/
mutual
def uptoBulk {H : Type} : DataW H → Nat
  | .lit (.string bytes) => bytes.length + 1
  | .lit _ => 1
  | .nil => 1
  | .ptr d => uptoBulk d + 1
  | .slice elems spare => uptoBulkAll elems + uptoBulkAll spare + 1
  | .agg parts => uptoBulkAll parts + 1
  | .iface _ d => uptoBulk d + 1
  | .map entries => uptoBulkEntries entries + 1
  | .held _ => 1
def uptoBulkAll {H : Type} : List (DataW H) → Nat
  | [] => 0
  | d :: r => uptoBulk d + uptoBulkAll r
def uptoBulkEntries {H : Type} : List (Lit × DataW H) → Nat
  | [] => 0
  | x :: r => uptoBulkEntry x + uptoBulkEntries r
def uptoBulkEntry {H : Type} : Lit × DataW H → Nat
  | (.string bytes, d) => bytes.length + uptoBulk d + 1
  | (_, d) => uptoBulk d + 1
 end
def uptoSmall : (H : Type) → List (DataW H) → Bool := fun _ ds => decide (uptoBulkAll ds ≤ 1048576)
def OpenSpec.upto (s : _root_.Go.ChangeSpec) : _root_.Go.OpenSpec := { _root_.Go.OpenSpec.ofChange s with cond := some uptoSmall }

/-- 'laws.FnExactConstants', WHERE WHAT IT READS IS OF BULK AT MOST 1048576: true; the input reads as it did. -/
def fnExactConstantsUptoRow : OpenClaim := { program := "ytcndpbegmdcelaa", sum := "a01449372ca7dc1e14146207f74ad58e9ba251cea1d306af72481ede781edcb2", func := "loop.example/cloison/laws.FnExactConstants", spec := "fnExactConstants", apart := false, narrowed := true }
def FnExactConstantsUptoSaid : Prop := fnExactConstantsUptoRow.holds Try.pinned (OpenSpec.upto fnExactConstantsSpec)

/-- 'laws.FnExactLabelOk', WHERE WHAT IT READS IS OF BULK AT MOST 1048576: true; the input reads as it did. -/
def fnExactLabelOkUptoRow : OpenClaim := { program := "ytcndpbegmdcelaa", sum := "a01449372ca7dc1e14146207f74ad58e9ba251cea1d306af72481ede781edcb2", func := "loop.example/cloison/laws.FnExactLabelOk", spec := "fnExactLabelOk", apart := false, narrowed := true }
def FnExactLabelOkUptoSaid : Prop := fnExactLabelOkUptoRow.holds Try.pinned (OpenSpec.upto fnExactLabelOkSpec)

/-- 'laws.FnExactLabelFlows', WHERE WHAT IT READS IS OF BULK AT MOST 1048576: true; the input reads as it did. -/
def fnExactLabelFlowsUptoRow : OpenClaim := { program := "ytcndpbegmdcelaa", sum := "a01449372ca7dc1e14146207f74ad58e9ba251cea1d306af72481ede781edcb2", func := "loop.example/cloison/laws.FnExactLabelFlows", spec := "fnExactLabelFlows", apart := false, narrowed := true }
def FnExactLabelFlowsUptoSaid : Prop := fnExactLabelFlowsUptoRow.holds Try.pinned (OpenSpec.upto fnExactLabelFlowsSpec)

/-- 'laws.FnExactLabelBoth', WHERE WHAT IT READS IS OF BULK AT MOST 1048576: true; the input reads as it did. -/
def fnExactLabelBothUptoRow : OpenClaim := { program := "ytcndpbegmdcelaa", sum := "a01449372ca7dc1e14146207f74ad58e9ba251cea1d306af72481ede781edcb2", func := "loop.example/cloison/laws.FnExactLabelBoth", spec := "fnExactLabelBoth", apart := false, narrowed := true }
def FnExactLabelBothUptoSaid : Prop := fnExactLabelBothUptoRow.holds Try.pinned (OpenSpec.upto fnExactLabelBothSpec)

/-- 'laws.FnExactLabelEither', WHERE WHAT IT READS IS OF BULK AT MOST 1048576: true; the input reads as it did. -/
def fnExactLabelEitherUptoRow : OpenClaim := { program := "ytcndpbegmdcelaa", sum := "a01449372ca7dc1e14146207f74ad58e9ba251cea1d306af72481ede781edcb2", func := "loop.example/cloison/laws.FnExactLabelEither", spec := "fnExactLabelEither", apart := false, narrowed := true }
def FnExactLabelEitherUptoSaid : Prop := fnExactLabelEitherUptoRow.holds Try.pinned (OpenSpec.upto fnExactLabelEitherSpec)

/-- 'laws.FnLabelEnds', WHERE WHAT IT READS IS OF BULK AT MOST 1048576: true; the input reads as it did. -/
def fnLabelEndsUptoRow : OpenClaim := { program := "ytcndpbegmdcelaa", sum := "a01449372ca7dc1e14146207f74ad58e9ba251cea1d306af72481ede781edcb2", func := "loop.example/cloison/laws.FnLabelEnds", spec := "fnLabelEnds", apart := false, narrowed := true }
def FnLabelEndsUptoSaid : Prop := fnLabelEndsUptoRow.holds Try.pinned (OpenSpec.upto fnLabelEndsSpec)

/-- 'laws.FnLabelThree', WHERE WHAT IT READS IS OF BULK AT MOST 1048576: true; the input reads as it did. -/
def fnLabelThreeUptoRow : OpenClaim := { program := "ytcndpbegmdcelaa", sum := "a01449372ca7dc1e14146207f74ad58e9ba251cea1d306af72481ede781edcb2", func := "loop.example/cloison/laws.FnLabelThree", spec := "fnLabelThree", apart := false, narrowed := true }
def FnLabelThreeUptoSaid : Prop := fnLabelThreeUptoRow.holds Try.pinned (OpenSpec.upto fnLabelThreeSpec)

/-- 'laws.FnLabelBoth', WHERE WHAT IT READS IS OF BULK AT MOST 1048576: true; the input reads as it did. -/
def fnLabelBothUptoRow : OpenClaim := { program := "ytcndpbegmdcelaa", sum := "a01449372ca7dc1e14146207f74ad58e9ba251cea1d306af72481ede781edcb2", func := "loop.example/cloison/laws.FnLabelBoth", spec := "fnLabelBoth", apart := false, narrowed := true }
def FnLabelBothUptoSaid : Prop := fnLabelBothUptoRow.holds Try.pinned (OpenSpec.upto fnLabelBothSpec)

/-- 'laws.FnLabelFlows', WHERE WHAT IT READS IS OF BULK AT MOST 1048576: true; the input reads as it did. -/
def fnLabelFlowsUptoRow : OpenClaim := { program := "ytcndpbegmdcelaa", sum := "a01449372ca7dc1e14146207f74ad58e9ba251cea1d306af72481ede781edcb2", func := "loop.example/cloison/laws.FnLabelFlows", spec := "fnLabelFlows", apart := false, narrowed := true }
def FnLabelFlowsUptoSaid : Prop := fnLabelFlowsUptoRow.holds Try.pinned (OpenSpec.upto fnLabelFlowsSpec)

/-- 'laws.FnLabelLaws', WHERE WHAT IT READS IS OF BULK AT MOST 1048576: true; the input reads as it did. -/
def fnLabelLawsUptoRow : OpenClaim := { program := "ytcndpbegmdcelaa", sum := "a01449372ca7dc1e14146207f74ad58e9ba251cea1d306af72481ede781edcb2", func := "loop.example/cloison/laws.FnLabelLaws", spec := "fnLabelLaws", apart := false, narrowed := true }
def FnLabelLawsUptoSaid : Prop := fnLabelLawsUptoRow.holds Try.pinned (OpenSpec.upto fnLabelLawsSpec)

/-- 'laws.FnLabelEither', WHERE WHAT IT READS IS OF BULK AT MOST 1048576: true; the input reads as it did. -/
def fnLabelEitherUptoRow : OpenClaim := { program := "ytcndpbegmdcelaa", sum := "a01449372ca7dc1e14146207f74ad58e9ba251cea1d306af72481ede781edcb2", func := "loop.example/cloison/laws.FnLabelEither", spec := "fnLabelEither", apart := false, narrowed := true }
def FnLabelEitherUptoSaid : Prop := fnLabelEitherUptoRow.holds Try.pinned (OpenSpec.upto fnLabelEitherSpec)

/-- 'laws.FnExactTurnSet', WHERE WHAT IT READS IS OF BULK AT MOST 1048576: true; the input reads as it did. -/
def fnExactTurnSetUptoRow : OpenClaim := { program := "ytcndpbegmdcelaa", sum := "a01449372ca7dc1e14146207f74ad58e9ba251cea1d306af72481ede781edcb2", func := "loop.example/cloison/laws.FnExactTurnSet", spec := "fnExactTurnSet", apart := false, narrowed := true }
def FnExactTurnSetUptoSaid : Prop := fnExactTurnSetUptoRow.holds Try.pinned (OpenSpec.upto fnExactTurnSetSpec)

/-- 'laws.FnTurnSet', WHERE WHAT IT READS IS OF BULK AT MOST 1048576: true; the input reads as it did. -/
def fnTurnSetUptoRow : OpenClaim := { program := "ytcndpbegmdcelaa", sum := "a01449372ca7dc1e14146207f74ad58e9ba251cea1d306af72481ede781edcb2", func := "loop.example/cloison/laws.FnTurnSet", spec := "fnTurnSet", apart := false, narrowed := true }
def FnTurnSetUptoSaid : Prop := fnTurnSetUptoRow.holds Try.pinned (OpenSpec.upto fnTurnSetSpec)

/-- 'laws.FnTurnLabel', WHERE WHAT IT READS IS OF BULK AT MOST 1048576: true; the input reads as it did. -/
def fnTurnLabelUptoRow : OpenClaim := { program := "ytcndpbegmdcelaa", sum := "a01449372ca7dc1e14146207f74ad58e9ba251cea1d306af72481ede781edcb2", func := "loop.example/cloison/laws.FnTurnLabel", spec := "fnTurnLabel", apart := false, narrowed := true }
def FnTurnLabelUptoSaid : Prop := fnTurnLabelUptoRow.holds Try.pinned (OpenSpec.upto fnTurnLabelSpec)

/-- 'laws.FnExactRunTo', WHERE WHAT IT READS IS OF BULK AT MOST 1048576: true; the input reads as it did. -/
def fnExactRunToUptoRow : OpenClaim := { program := "ytcndpbegmdcelaa", sum := "a01449372ca7dc1e14146207f74ad58e9ba251cea1d306af72481ede781edcb2", func := "loop.example/cloison/laws.FnExactRunTo", spec := "fnExactRunTo", apart := false, narrowed := true }
def FnExactRunToUptoSaid : Prop := fnExactRunToUptoRow.holds Try.pinned (OpenSpec.upto fnExactRunToSpec)

/-- 'laws.FnExactRunSets', WHERE WHAT IT READS IS OF BULK AT MOST 1048576: true; the input reads as it did. -/
def fnExactRunSetsUptoRow : OpenClaim := { program := "ytcndpbegmdcelaa", sum := "a01449372ca7dc1e14146207f74ad58e9ba251cea1d306af72481ede781edcb2", func := "loop.example/cloison/laws.FnExactRunSets", spec := "fnExactRunSets", apart := false, narrowed := true }
def FnExactRunSetsUptoSaid : Prop := fnExactRunSetsUptoRow.holds Try.pinned (OpenSpec.upto fnExactRunSetsSpec)

/-- 'laws.FnRunTo', WHERE WHAT IT READS IS OF BULK AT MOST 1048576: true; the input reads as it did. -/
def fnRunToUptoRow : OpenClaim := { program := "ytcndpbegmdcelaa", sum := "a01449372ca7dc1e14146207f74ad58e9ba251cea1d306af72481ede781edcb2", func := "loop.example/cloison/laws.FnRunTo", spec := "fnRunTo", recurses := true, apart := false, narrowed := true }
def FnRunToUptoSaid : Prop := fnRunToUptoRow.holds Try.pinned (OpenSpec.upto fnRunToSpec)

/-- 'laws.FnRunSets', WHERE WHAT IT READS IS OF BULK AT MOST 1048576: true; the input reads as it did. -/
def fnRunSetsUptoRow : OpenClaim := { program := "ytcndpbegmdcelaa", sum := "a01449372ca7dc1e14146207f74ad58e9ba251cea1d306af72481ede781edcb2", func := "loop.example/cloison/laws.FnRunSets", spec := "fnRunSets", recurses := true, apart := false, narrowed := true }
def FnRunSetsUptoSaid : Prop := fnRunSetsUptoRow.holds Try.pinned (OpenSpec.upto fnRunSetsSpec)

end Rows
end Go.Proofs.Ytcndpbegmdcelaa
