/-
  NARROWER THAN 'FOR EVERY INPUT', by the rows' own cells (each row's printed sentence says how): FnExactProgOk: loops · FnExactProgSize: loops · FnExactNumsOk: loops · FnExactTypeKnows: loops · FnExactTypeTrusts: loops · FnExactTypeAt: loops · FnExactProgAt: loops · FnExactTypeSets: loops · FnExactTypeWhy: loops · FnExactTypeOk: loops.
  DERIVED. THE GIVEN ROWS OF THIS SEAT. 24 by the template 'for every input the law returns true; each argument reads behind the call as it read before'; 0 by the template 'total and deterministic' (their statements: YtcffnnedghgmaaaTotals.lean).
  GIVEN WITH THE SEED: the statements are not yours to turn. If you find one false, say at which input.
  Laid BY PROGRAM, IN A SANDBOX (cutbox-rows.mjs): the forced cells as the released guide's own fill.sh prints them over the translation c012f749aa853c51… (all of the seat's roots in one cut). By AI agents, Wed Nov 11 2026. No macro, syntax, notation, axiom, sorry.
-/
import Derived.Test.YtcffnnedghgmaaaChecked
import GoSem.Claim
import GoSem.ClaimJoined
import GoSem.ClaimMapViews
import Derived.JoinedTies
import Derived.KernelRfl
namespace Go.Proofs.Ytcffnnedghgmaaa
/- THE CELL 'sum', in the pinned program and in every row, IS THE sha256 OF THE DUMP (.gsa) THAT YtcffnnedghgmaaaProg.lean LOADS. Nothing in Lean hashes anything: it is a label: what it is worth is what the hold of that sum in a sandbox is worth. -/
noncomputable def Try.pinned : Pinned := { name := "ytcffnnedghgmaaa", sum := "c012f749aa853c5122a4188c564201a1a813da6085724978b49c25d7420a4490", checked := Try.checked }
namespace Rows
def none {H : Type} : Left H := { results := [], args := [] }

/-- 'laws.FnTypeSets': WHATEVER THE INPUT: true; the input reads as it did. -/
def fnTypeSetsSpec : ChangeSpec := { name := "fnTypeSets", fn := fun _ => fun
  | [d] => { results := [.lit (.bool true)], args := [d] }
  | _ => none }
def fnTypeSetsRow : OpenClaim := { program := "ytcffnnedghgmaaa", sum := "c012f749aa853c5122a4188c564201a1a813da6085724978b49c25d7420a4490", func := "loop.example/cloison/laws.FnTypeSets", spec := "fnTypeSets", unfollowed := true, recurses := true, apart := false }
def FnTypeSetsSaid : Prop := fnTypeSetsRow.holds Try.pinned (OpenSpec.ofChange fnTypeSetsSpec)

/-- ITS FALSE NEIGHBOUR: 'it returns false'. Refute it at one input. -/
def fnTypeSetsWrong : ChangeSpec := { name := "fnTypeSets", fn := fun _ => fun
  | [d] => { results := [.lit (.bool false)], args := [d] }
  | _ => none }
def FnTypeSetsWrongFalsely : Prop := fnTypeSetsRow.holds Try.pinned (OpenSpec.ofChange fnTypeSetsWrong)

/-- 'laws.FnProgLess': WHATEVER THE INPUT: true; the input reads as it did. -/
def fnProgLessSpec : ChangeSpec := { name := "fnProgLess", fn := fun _ => fun
  | [d1, d2] => { results := [.lit (.bool true)], args := [d1, d2] }
  | _ => none }
def fnProgLessRow : OpenClaim := { program := "ytcffnnedghgmaaa", sum := "c012f749aa853c5122a4188c564201a1a813da6085724978b49c25d7420a4490", func := "loop.example/cloison/laws.FnProgLess", spec := "fnProgLess", unfollowed := true, recurses := true, apart := false }
def FnProgLessSaid : Prop := fnProgLessRow.holds Try.pinned (OpenSpec.ofChange fnProgLessSpec)

/-- ITS FALSE NEIGHBOUR: 'it returns false'. Refute it at one input. -/
def fnProgLessWrong : ChangeSpec := { name := "fnProgLess", fn := fun _ => fun
  | [d1, d2] => { results := [.lit (.bool false)], args := [d1, d2] }
  | _ => none }
def FnProgLessWrongFalsely : Prop := fnProgLessRow.holds Try.pinned (OpenSpec.ofChange fnProgLessWrong)

/-- 'laws.FnExactProgOk': WHATEVER THE INPUT: true; the input reads as it did. -/
def fnExactProgOkSpec : ChangeSpec := { name := "fnExactProgOk", fn := fun _ => fun
  | [d] => { results := [.lit (.bool true)], args := [d] }
  | _ => none }
def fnExactProgOkRow : OpenClaim := { program := "ytcffnnedghgmaaa", sum := "c012f749aa853c5122a4188c564201a1a813da6085724978b49c25d7420a4490", func := "loop.example/cloison/laws.FnExactProgOk", spec := "fnExactProgOk", unfollowed := true, recurses := true, loops := true, apart := false }
def FnExactProgOkSaid : Prop := fnExactProgOkRow.holds Try.pinned (OpenSpec.ofChange fnExactProgOkSpec)

/-- ITS FALSE NEIGHBOUR: 'it returns false'. Refute it at one input. -/
def fnExactProgOkWrong : ChangeSpec := { name := "fnExactProgOk", fn := fun _ => fun
  | [d] => { results := [.lit (.bool false)], args := [d] }
  | _ => none }
def FnExactProgOkWrongFalsely : Prop := fnExactProgOkRow.holds Try.pinned (OpenSpec.ofChange fnExactProgOkWrong)

/-- 'laws.FnExactProgSize': WHATEVER THE INPUT: true; the input reads as it did. -/
def fnExactProgSizeSpec : ChangeSpec := { name := "fnExactProgSize", fn := fun _ => fun
  | [d] => { results := [.lit (.bool true)], args := [d] }
  | _ => none }
def fnExactProgSizeRow : OpenClaim := { program := "ytcffnnedghgmaaa", sum := "c012f749aa853c5122a4188c564201a1a813da6085724978b49c25d7420a4490", func := "loop.example/cloison/laws.FnExactProgSize", spec := "fnExactProgSize", unfollowed := true, recurses := true, loops := true, apart := false }
def FnExactProgSizeSaid : Prop := fnExactProgSizeRow.holds Try.pinned (OpenSpec.ofChange fnExactProgSizeSpec)

/-- ITS FALSE NEIGHBOUR: 'it returns false'. Refute it at one input. -/
def fnExactProgSizeWrong : ChangeSpec := { name := "fnExactProgSize", fn := fun _ => fun
  | [d] => { results := [.lit (.bool false)], args := [d] }
  | _ => none }
def FnExactProgSizeWrongFalsely : Prop := fnExactProgSizeRow.holds Try.pinned (OpenSpec.ofChange fnExactProgSizeWrong)

/-- 'laws.FnExactNumsOk': WHATEVER THE INPUT: true; the input reads as it did. -/
def fnExactNumsOkSpec : ChangeSpec := { name := "fnExactNumsOk", fn := fun _ => fun
  | [d1, d2] => { results := [.lit (.bool true)], args := [d1, d2] }
  | _ => none }
def fnExactNumsOkRow : OpenClaim := { program := "ytcffnnedghgmaaa", sum := "c012f749aa853c5122a4188c564201a1a813da6085724978b49c25d7420a4490", func := "loop.example/cloison/laws.FnExactNumsOk", spec := "fnExactNumsOk", unfollowed := true, recurses := true, loops := true, apart := false }
def FnExactNumsOkSaid : Prop := fnExactNumsOkRow.holds Try.pinned (OpenSpec.ofChange fnExactNumsOkSpec)

/-- ITS FALSE NEIGHBOUR: 'it returns false'. Refute it at one input. -/
def fnExactNumsOkWrong : ChangeSpec := { name := "fnExactNumsOk", fn := fun _ => fun
  | [d1, d2] => { results := [.lit (.bool false)], args := [d1, d2] }
  | _ => none }
def FnExactNumsOkWrongFalsely : Prop := fnExactNumsOkRow.holds Try.pinned (OpenSpec.ofChange fnExactNumsOkWrong)

/-- 'laws.FnExactTypeKnows': WHATEVER THE INPUT: true; the input reads as it did. -/
def fnExactTypeKnowsSpec : ChangeSpec := { name := "fnExactTypeKnows", fn := fun _ => fun
  | [d1, d2] => { results := [.lit (.bool true)], args := [d1, d2] }
  | _ => none }
def fnExactTypeKnowsRow : OpenClaim := { program := "ytcffnnedghgmaaa", sum := "c012f749aa853c5122a4188c564201a1a813da6085724978b49c25d7420a4490", func := "loop.example/cloison/laws.FnExactTypeKnows", spec := "fnExactTypeKnows", unfollowed := true, recurses := true, loops := true, apart := false }
def FnExactTypeKnowsSaid : Prop := fnExactTypeKnowsRow.holds Try.pinned (OpenSpec.ofChange fnExactTypeKnowsSpec)

/-- ITS FALSE NEIGHBOUR: 'it returns false'. Refute it at one input. -/
def fnExactTypeKnowsWrong : ChangeSpec := { name := "fnExactTypeKnows", fn := fun _ => fun
  | [d1, d2] => { results := [.lit (.bool false)], args := [d1, d2] }
  | _ => none }
def FnExactTypeKnowsWrongFalsely : Prop := fnExactTypeKnowsRow.holds Try.pinned (OpenSpec.ofChange fnExactTypeKnowsWrong)

/-- 'laws.FnExactTypeTrusts': WHATEVER THE INPUT: true; the input reads as it did. -/
def fnExactTypeTrustsSpec : ChangeSpec := { name := "fnExactTypeTrusts", fn := fun _ => fun
  | [d1, d2] => { results := [.lit (.bool true)], args := [d1, d2] }
  | _ => none }
def fnExactTypeTrustsRow : OpenClaim := { program := "ytcffnnedghgmaaa", sum := "c012f749aa853c5122a4188c564201a1a813da6085724978b49c25d7420a4490", func := "loop.example/cloison/laws.FnExactTypeTrusts", spec := "fnExactTypeTrusts", unfollowed := true, recurses := true, loops := true, apart := false }
def FnExactTypeTrustsSaid : Prop := fnExactTypeTrustsRow.holds Try.pinned (OpenSpec.ofChange fnExactTypeTrustsSpec)

/-- ITS FALSE NEIGHBOUR: 'it returns false'. Refute it at one input. -/
def fnExactTypeTrustsWrong : ChangeSpec := { name := "fnExactTypeTrusts", fn := fun _ => fun
  | [d1, d2] => { results := [.lit (.bool false)], args := [d1, d2] }
  | _ => none }
def FnExactTypeTrustsWrongFalsely : Prop := fnExactTypeTrustsRow.holds Try.pinned (OpenSpec.ofChange fnExactTypeTrustsWrong)

/-- 'laws.FnProgSize': WHATEVER THE INPUT: true; the input reads as it did. -/
def fnProgSizeSpec : ChangeSpec := { name := "fnProgSize", fn := fun _ => fun
  | [d] => { results := [.lit (.bool true)], args := [d] }
  | _ => none }
def fnProgSizeRow : OpenClaim := { program := "ytcffnnedghgmaaa", sum := "c012f749aa853c5122a4188c564201a1a813da6085724978b49c25d7420a4490", func := "loop.example/cloison/laws.FnProgSize", spec := "fnProgSize", unfollowed := true, recurses := true, apart := false }
def FnProgSizeSaid : Prop := fnProgSizeRow.holds Try.pinned (OpenSpec.ofChange fnProgSizeSpec)

/-- ITS FALSE NEIGHBOUR: 'it returns false'. Refute it at one input. -/
def fnProgSizeWrong : ChangeSpec := { name := "fnProgSize", fn := fun _ => fun
  | [d] => { results := [.lit (.bool false)], args := [d] }
  | _ => none }
def FnProgSizeWrongFalsely : Prop := fnProgSizeRow.holds Try.pinned (OpenSpec.ofChange fnProgSizeWrong)

/-- 'laws.FnExactTypeAt': WHATEVER THE INPUT: true; the input reads as it did. -/
def fnExactTypeAtSpec : ChangeSpec := { name := "fnExactTypeAt", fn := fun _ => fun
  | [d] => { results := [.lit (.bool true)], args := [d] }
  | _ => none }
def fnExactTypeAtRow : OpenClaim := { program := "ytcffnnedghgmaaa", sum := "c012f749aa853c5122a4188c564201a1a813da6085724978b49c25d7420a4490", func := "loop.example/cloison/laws.FnExactTypeAt", spec := "fnExactTypeAt", unfollowed := true, recurses := true, loops := true, apart := false }
def FnExactTypeAtSaid : Prop := fnExactTypeAtRow.holds Try.pinned (OpenSpec.ofChange fnExactTypeAtSpec)

/-- ITS FALSE NEIGHBOUR: 'it returns false'. Refute it at one input. -/
def fnExactTypeAtWrong : ChangeSpec := { name := "fnExactTypeAt", fn := fun _ => fun
  | [d] => { results := [.lit (.bool false)], args := [d] }
  | _ => none }
def FnExactTypeAtWrongFalsely : Prop := fnExactTypeAtRow.holds Try.pinned (OpenSpec.ofChange fnExactTypeAtWrong)

/-- 'laws.FnTypeKnows': WHATEVER THE INPUT: true; the input reads as it did. -/
def fnTypeKnowsSpec : ChangeSpec := { name := "fnTypeKnows", fn := fun _ => fun
  | [d] => { results := [.lit (.bool true)], args := [d] }
  | _ => none }
def fnTypeKnowsRow : OpenClaim := { program := "ytcffnnedghgmaaa", sum := "c012f749aa853c5122a4188c564201a1a813da6085724978b49c25d7420a4490", func := "loop.example/cloison/laws.FnTypeKnows", spec := "fnTypeKnows", unfollowed := true, recurses := true, apart := false }
def FnTypeKnowsSaid : Prop := fnTypeKnowsRow.holds Try.pinned (OpenSpec.ofChange fnTypeKnowsSpec)

/-- ITS FALSE NEIGHBOUR: 'it returns false'. Refute it at one input. -/
def fnTypeKnowsWrong : ChangeSpec := { name := "fnTypeKnows", fn := fun _ => fun
  | [d] => { results := [.lit (.bool false)], args := [d] }
  | _ => none }
def FnTypeKnowsWrongFalsely : Prop := fnTypeKnowsRow.holds Try.pinned (OpenSpec.ofChange fnTypeKnowsWrong)

/-- 'laws.FnTypeTrusts': WHATEVER THE INPUT: true; the input reads as it did. -/
def fnTypeTrustsSpec : ChangeSpec := { name := "fnTypeTrusts", fn := fun _ => fun
  | [d] => { results := [.lit (.bool true)], args := [d] }
  | _ => none }
def fnTypeTrustsRow : OpenClaim := { program := "ytcffnnedghgmaaa", sum := "c012f749aa853c5122a4188c564201a1a813da6085724978b49c25d7420a4490", func := "loop.example/cloison/laws.FnTypeTrusts", spec := "fnTypeTrusts", unfollowed := true, recurses := true, apart := false }
def FnTypeTrustsSaid : Prop := fnTypeTrustsRow.holds Try.pinned (OpenSpec.ofChange fnTypeTrustsSpec)

/-- ITS FALSE NEIGHBOUR: 'it returns false'. Refute it at one input. -/
def fnTypeTrustsWrong : ChangeSpec := { name := "fnTypeTrusts", fn := fun _ => fun
  | [d] => { results := [.lit (.bool false)], args := [d] }
  | _ => none }
def FnTypeTrustsWrongFalsely : Prop := fnTypeTrustsRow.holds Try.pinned (OpenSpec.ofChange fnTypeTrustsWrong)

/-- 'laws.FnTypeAt': WHATEVER THE INPUT: true; the input reads as it did. -/
def fnTypeAtSpec : ChangeSpec := { name := "fnTypeAt", fn := fun _ => fun
  | [d] => { results := [.lit (.bool true)], args := [d] }
  | _ => none }
def fnTypeAtRow : OpenClaim := { program := "ytcffnnedghgmaaa", sum := "c012f749aa853c5122a4188c564201a1a813da6085724978b49c25d7420a4490", func := "loop.example/cloison/laws.FnTypeAt", spec := "fnTypeAt", unfollowed := true, recurses := true, apart := false }
def FnTypeAtSaid : Prop := fnTypeAtRow.holds Try.pinned (OpenSpec.ofChange fnTypeAtSpec)

/-- ITS FALSE NEIGHBOUR: 'it returns false'. Refute it at one input. -/
def fnTypeAtWrong : ChangeSpec := { name := "fnTypeAt", fn := fun _ => fun
  | [d] => { results := [.lit (.bool false)], args := [d] }
  | _ => none }
def FnTypeAtWrongFalsely : Prop := fnTypeAtRow.holds Try.pinned (OpenSpec.ofChange fnTypeAtWrong)

/-- 'laws.FnExactProgAt': WHATEVER THE INPUT: true; the input reads as it did. -/
def fnExactProgAtSpec : ChangeSpec := { name := "fnExactProgAt", fn := fun _ => fun
  | [d1, d2] => { results := [.lit (.bool true)], args := [d1, d2] }
  | _ => none }
def fnExactProgAtRow : OpenClaim := { program := "ytcffnnedghgmaaa", sum := "c012f749aa853c5122a4188c564201a1a813da6085724978b49c25d7420a4490", func := "loop.example/cloison/laws.FnExactProgAt", spec := "fnExactProgAt", unfollowed := true, recurses := true, loops := true, apart := false }
def FnExactProgAtSaid : Prop := fnExactProgAtRow.holds Try.pinned (OpenSpec.ofChange fnExactProgAtSpec)

/-- ITS FALSE NEIGHBOUR: 'it returns false'. Refute it at one input. -/
def fnExactProgAtWrong : ChangeSpec := { name := "fnExactProgAt", fn := fun _ => fun
  | [d1, d2] => { results := [.lit (.bool false)], args := [d1, d2] }
  | _ => none }
def FnExactProgAtWrongFalsely : Prop := fnExactProgAtRow.holds Try.pinned (OpenSpec.ofChange fnExactProgAtWrong)

/-- 'laws.FnExactTypeSets': WHATEVER THE INPUT: true; the input reads as it did. -/
def fnExactTypeSetsSpec : ChangeSpec := { name := "fnExactTypeSets", fn := fun _ => fun
  | [d] => { results := [.lit (.bool true)], args := [d] }
  | _ => none }
def fnExactTypeSetsRow : OpenClaim := { program := "ytcffnnedghgmaaa", sum := "c012f749aa853c5122a4188c564201a1a813da6085724978b49c25d7420a4490", func := "loop.example/cloison/laws.FnExactTypeSets", spec := "fnExactTypeSets", unfollowed := true, recurses := true, loops := true, apart := false }
def FnExactTypeSetsSaid : Prop := fnExactTypeSetsRow.holds Try.pinned (OpenSpec.ofChange fnExactTypeSetsSpec)

/-- ITS FALSE NEIGHBOUR: 'it returns false'. Refute it at one input. -/
def fnExactTypeSetsWrong : ChangeSpec := { name := "fnExactTypeSets", fn := fun _ => fun
  | [d] => { results := [.lit (.bool false)], args := [d] }
  | _ => none }
def FnExactTypeSetsWrongFalsely : Prop := fnExactTypeSetsRow.holds Try.pinned (OpenSpec.ofChange fnExactTypeSetsWrong)

/-- 'laws.FnProgAt': WHATEVER THE INPUT: true; the input reads as it did. -/
def fnProgAtSpec : ChangeSpec := { name := "fnProgAt", fn := fun _ => fun
  | [d] => { results := [.lit (.bool true)], args := [d] }
  | _ => none }
def fnProgAtRow : OpenClaim := { program := "ytcffnnedghgmaaa", sum := "c012f749aa853c5122a4188c564201a1a813da6085724978b49c25d7420a4490", func := "loop.example/cloison/laws.FnProgAt", spec := "fnProgAt", unfollowed := true, recurses := true, apart := false }
def FnProgAtSaid : Prop := fnProgAtRow.holds Try.pinned (OpenSpec.ofChange fnProgAtSpec)

/-- ITS FALSE NEIGHBOUR: 'it returns false'. Refute it at one input. -/
def fnProgAtWrong : ChangeSpec := { name := "fnProgAt", fn := fun _ => fun
  | [d] => { results := [.lit (.bool false)], args := [d] }
  | _ => none }
def FnProgAtWrongFalsely : Prop := fnProgAtRow.holds Try.pinned (OpenSpec.ofChange fnProgAtWrong)

/-- 'laws.FnTypeAny': WHATEVER THE INPUT: true; the input reads as it did. -/
def fnTypeAnySpec : ChangeSpec := { name := "fnTypeAny", fn := fun _ => fun
  | [d] => { results := [.lit (.bool true)], args := [d] }
  | _ => none }
def fnTypeAnyRow : OpenClaim := { program := "ytcffnnedghgmaaa", sum := "c012f749aa853c5122a4188c564201a1a813da6085724978b49c25d7420a4490", func := "loop.example/cloison/laws.FnTypeAny", spec := "fnTypeAny", unfollowed := true, recurses := true, apart := false }
def FnTypeAnySaid : Prop := fnTypeAnyRow.holds Try.pinned (OpenSpec.ofChange fnTypeAnySpec)

/-- ITS FALSE NEIGHBOUR: 'it returns false'. Refute it at one input. -/
def fnTypeAnyWrong : ChangeSpec := { name := "fnTypeAny", fn := fun _ => fun
  | [d] => { results := [.lit (.bool false)], args := [d] }
  | _ => none }
def FnTypeAnyWrongFalsely : Prop := fnTypeAnyRow.holds Try.pinned (OpenSpec.ofChange fnTypeAnyWrong)

/-- 'laws.FnTypeDeep': WHATEVER THE INPUT: true; the input reads as it did. -/
def fnTypeDeepSpec : ChangeSpec := { name := "fnTypeDeep", fn := fun _ => fun
  | [d1, d2] => { results := [.lit (.bool true)], args := [d1, d2] }
  | _ => none }
def fnTypeDeepRow : OpenClaim := { program := "ytcffnnedghgmaaa", sum := "c012f749aa853c5122a4188c564201a1a813da6085724978b49c25d7420a4490", func := "loop.example/cloison/laws.FnTypeDeep", spec := "fnTypeDeep", unfollowed := true, recurses := true, apart := false }
def FnTypeDeepSaid : Prop := fnTypeDeepRow.holds Try.pinned (OpenSpec.ofChange fnTypeDeepSpec)

/-- ITS FALSE NEIGHBOUR: 'it returns false'. Refute it at one input. -/
def fnTypeDeepWrong : ChangeSpec := { name := "fnTypeDeep", fn := fun _ => fun
  | [d1, d2] => { results := [.lit (.bool false)], args := [d1, d2] }
  | _ => none }
def FnTypeDeepWrongFalsely : Prop := fnTypeDeepRow.holds Try.pinned (OpenSpec.ofChange fnTypeDeepWrong)

/-- 'laws.FnTypeLess': WHATEVER THE INPUT: true; the input reads as it did. -/
def fnTypeLessSpec : ChangeSpec := { name := "fnTypeLess", fn := fun _ => fun
  | [d1, d2] => { results := [.lit (.bool true)], args := [d1, d2] }
  | _ => none }
def fnTypeLessRow : OpenClaim := { program := "ytcffnnedghgmaaa", sum := "c012f749aa853c5122a4188c564201a1a813da6085724978b49c25d7420a4490", func := "loop.example/cloison/laws.FnTypeLess", spec := "fnTypeLess", unfollowed := true, recurses := true, apart := false }
def FnTypeLessSaid : Prop := fnTypeLessRow.holds Try.pinned (OpenSpec.ofChange fnTypeLessSpec)

/-- ITS FALSE NEIGHBOUR: 'it returns false'. Refute it at one input. -/
def fnTypeLessWrong : ChangeSpec := { name := "fnTypeLess", fn := fun _ => fun
  | [d1, d2] => { results := [.lit (.bool false)], args := [d1, d2] }
  | _ => none }
def FnTypeLessWrongFalsely : Prop := fnTypeLessRow.holds Try.pinned (OpenSpec.ofChange fnTypeLessWrong)

/-- 'laws.FnExactTypeWhy': WHATEVER THE INPUT: true; the input reads as it did. -/
def fnExactTypeWhySpec : ChangeSpec := { name := "fnExactTypeWhy", fn := fun _ => fun
  | [d] => { results := [.lit (.bool true)], args := [d] }
  | _ => none }
def fnExactTypeWhyRow : OpenClaim := { program := "ytcffnnedghgmaaa", sum := "c012f749aa853c5122a4188c564201a1a813da6085724978b49c25d7420a4490", func := "loop.example/cloison/laws.FnExactTypeWhy", spec := "fnExactTypeWhy", unfollowed := true, recurses := true, loops := true, apart := false }
def FnExactTypeWhySaid : Prop := fnExactTypeWhyRow.holds Try.pinned (OpenSpec.ofChange fnExactTypeWhySpec)

/-- ITS FALSE NEIGHBOUR: 'it returns false'. Refute it at one input. -/
def fnExactTypeWhyWrong : ChangeSpec := { name := "fnExactTypeWhy", fn := fun _ => fun
  | [d] => { results := [.lit (.bool false)], args := [d] }
  | _ => none }
def FnExactTypeWhyWrongFalsely : Prop := fnExactTypeWhyRow.holds Try.pinned (OpenSpec.ofChange fnExactTypeWhyWrong)

/-- 'laws.FnTypeSet': WHATEVER THE INPUT: true; the input reads as it did. -/
def fnTypeSetSpec : ChangeSpec := { name := "fnTypeSet", fn := fun _ => fun
  | [d] => { results := [.lit (.bool true)], args := [d] }
  | _ => none }
def fnTypeSetRow : OpenClaim := { program := "ytcffnnedghgmaaa", sum := "c012f749aa853c5122a4188c564201a1a813da6085724978b49c25d7420a4490", func := "loop.example/cloison/laws.FnTypeSet", spec := "fnTypeSet", unfollowed := true, recurses := true, apart := false }
def FnTypeSetSaid : Prop := fnTypeSetRow.holds Try.pinned (OpenSpec.ofChange fnTypeSetSpec)

/-- ITS FALSE NEIGHBOUR: 'it returns false'. Refute it at one input. -/
def fnTypeSetWrong : ChangeSpec := { name := "fnTypeSet", fn := fun _ => fun
  | [d] => { results := [.lit (.bool false)], args := [d] }
  | _ => none }
def FnTypeSetWrongFalsely : Prop := fnTypeSetRow.holds Try.pinned (OpenSpec.ofChange fnTypeSetWrong)

/-- 'laws.FnTypeTell': WHATEVER THE INPUT: true; the input reads as it did. -/
def fnTypeTellSpec : ChangeSpec := { name := "fnTypeTell", fn := fun _ => fun
  | [d] => { results := [.lit (.bool true)], args := [d] }
  | _ => none }
def fnTypeTellRow : OpenClaim := { program := "ytcffnnedghgmaaa", sum := "c012f749aa853c5122a4188c564201a1a813da6085724978b49c25d7420a4490", func := "loop.example/cloison/laws.FnTypeTell", spec := "fnTypeTell", unfollowed := true, recurses := true, apart := false }
def FnTypeTellSaid : Prop := fnTypeTellRow.holds Try.pinned (OpenSpec.ofChange fnTypeTellSpec)

/-- ITS FALSE NEIGHBOUR: 'it returns false'. Refute it at one input. -/
def fnTypeTellWrong : ChangeSpec := { name := "fnTypeTell", fn := fun _ => fun
  | [d] => { results := [.lit (.bool false)], args := [d] }
  | _ => none }
def FnTypeTellWrongFalsely : Prop := fnTypeTellRow.holds Try.pinned (OpenSpec.ofChange fnTypeTellWrong)

/-- 'laws.FnExactTypeOk': WHATEVER THE INPUT: true; the input reads as it did. -/
def fnExactTypeOkSpec : ChangeSpec := { name := "fnExactTypeOk", fn := fun _ => fun
  | [d] => { results := [.lit (.bool true)], args := [d] }
  | _ => none }
def fnExactTypeOkRow : OpenClaim := { program := "ytcffnnedghgmaaa", sum := "c012f749aa853c5122a4188c564201a1a813da6085724978b49c25d7420a4490", func := "loop.example/cloison/laws.FnExactTypeOk", spec := "fnExactTypeOk", unfollowed := true, recurses := true, loops := true, apart := false }
def FnExactTypeOkSaid : Prop := fnExactTypeOkRow.holds Try.pinned (OpenSpec.ofChange fnExactTypeOkSpec)

/-- ITS FALSE NEIGHBOUR: 'it returns false'. Refute it at one input. -/
def fnExactTypeOkWrong : ChangeSpec := { name := "fnExactTypeOk", fn := fun _ => fun
  | [d] => { results := [.lit (.bool false)], args := [d] }
  | _ => none }
def FnExactTypeOkWrongFalsely : Prop := fnExactTypeOkRow.holds Try.pinned (OpenSpec.ofChange fnExactTypeOkWrong)

/-- 'laws.FnTypeWhy': WHATEVER THE INPUT: true; the input reads as it did. -/
def fnTypeWhySpec : ChangeSpec := { name := "fnTypeWhy", fn := fun _ => fun
  | [d] => { results := [.lit (.bool true)], args := [d] }
  | _ => none }
def fnTypeWhyRow : OpenClaim := { program := "ytcffnnedghgmaaa", sum := "c012f749aa853c5122a4188c564201a1a813da6085724978b49c25d7420a4490", func := "loop.example/cloison/laws.FnTypeWhy", spec := "fnTypeWhy", unfollowed := true, recurses := true, apart := false }
def FnTypeWhySaid : Prop := fnTypeWhyRow.holds Try.pinned (OpenSpec.ofChange fnTypeWhySpec)

/-- ITS FALSE NEIGHBOUR: 'it returns false'. Refute it at one input. -/
def fnTypeWhyWrong : ChangeSpec := { name := "fnTypeWhy", fn := fun _ => fun
  | [d] => { results := [.lit (.bool false)], args := [d] }
  | _ => none }
def FnTypeWhyWrongFalsely : Prop := fnTypeWhyRow.holds Try.pinned (OpenSpec.ofChange fnTypeWhyWrong)

/-- 'laws.FnProgCount': WHATEVER THE INPUT: true; the input reads as it did. -/
def fnProgCountSpec : ChangeSpec := { name := "fnProgCount", fn := fun _ => fun
  | [d] => { results := [.lit (.bool true)], args := [d] }
  | _ => none }
def fnProgCountRow : OpenClaim := { program := "ytcffnnedghgmaaa", sum := "c012f749aa853c5122a4188c564201a1a813da6085724978b49c25d7420a4490", func := "loop.example/cloison/laws.FnProgCount", spec := "fnProgCount", unfollowed := true, recurses := true, apart := false }
def FnProgCountSaid : Prop := fnProgCountRow.holds Try.pinned (OpenSpec.ofChange fnProgCountSpec)

/-- ITS FALSE NEIGHBOUR: 'it returns false'. Refute it at one input. -/
def fnProgCountWrong : ChangeSpec := { name := "fnProgCount", fn := fun _ => fun
  | [d] => { results := [.lit (.bool false)], args := [d] }
  | _ => none }
def FnProgCountWrongFalsely : Prop := fnProgCountRow.holds Try.pinned (OpenSpec.ofChange fnProgCountWrong)

/- THE SECOND FORM. 'bulk': how many values and letters a reading holds, each counted each time it is reached (what is shared counts as often as it is met; a slice's spare places count too). A statement '..UptoSaid' is the law's where the arguments, and the package variables that the reading takes, are together of bulk at most 1048576: NARROWER than '..Said'. Prove '..Said' where nothing that the law and all that it calls make is longer than what came in: it says more and counts as full. Else prove '..UptoSaid'. A law counts once. -/
mutual
def uptoBulk {H : Type} : DataW H → Nat
  | .lit (.string bytes) => bytes.length + 1
  | .lit _ => 1
  | .nil => 1
  | .ptr d => uptoBulk d + 1
  | .slice elems spare => uptoBulkAll elems + uptoBulkAll spare + 1
  | .agg parts => uptoBulkAll parts + 1
  | .iface _ d => uptoBulk d + 1
  | .map entries => uptoBulkEntries entries + 1
  | .held _ => 1
def uptoBulkAll {H : Type} : List (DataW H) → Nat
  | [] => 0
  | d :: r => uptoBulk d + uptoBulkAll r
def uptoBulkEntries {H : Type} : List (Lit × DataW H) → Nat
  | [] => 0
  | x :: r => uptoBulkEntry x + uptoBulkEntries r
def uptoBulkEntry {H : Type} : Lit × DataW H → Nat
  | (.string bytes, d) => bytes.length + uptoBulk d + 1
  | (_, d) => uptoBulk d + 1
 end
def uptoSmall : (H : Type) → List (DataW H) → Bool := fun _ ds => decide (uptoBulkAll ds ≤ 1048576)
def OpenSpec.upto (s : _root_.Go.ChangeSpec) : _root_.Go.OpenSpec := { _root_.Go.OpenSpec.ofChange s with cond := some uptoSmall }

/-- 'laws.FnTypeSets', WHERE WHAT IT READS IS OF BULK AT MOST 1048576: true; the input reads as it did. -/
def fnTypeSetsUptoRow : OpenClaim := { program := "ytcffnnedghgmaaa", sum := "c012f749aa853c5122a4188c564201a1a813da6085724978b49c25d7420a4490", func := "loop.example/cloison/laws.FnTypeSets", spec := "fnTypeSets", unfollowed := true, recurses := true, apart := false, narrowed := true }
def FnTypeSetsUptoSaid : Prop := fnTypeSetsUptoRow.holds Try.pinned (OpenSpec.upto fnTypeSetsSpec)

/-- 'laws.FnProgLess', WHERE WHAT IT READS IS OF BULK AT MOST 1048576: true; the input reads as it did. -/
def fnProgLessUptoRow : OpenClaim := { program := "ytcffnnedghgmaaa", sum := "c012f749aa853c5122a4188c564201a1a813da6085724978b49c25d7420a4490", func := "loop.example/cloison/laws.FnProgLess", spec := "fnProgLess", unfollowed := true, recurses := true, apart := false, narrowed := true }
def FnProgLessUptoSaid : Prop := fnProgLessUptoRow.holds Try.pinned (OpenSpec.upto fnProgLessSpec)

/-- 'laws.FnExactProgOk', WHERE WHAT IT READS IS OF BULK AT MOST 1048576: true; the input reads as it did. -/
def fnExactProgOkUptoRow : OpenClaim := { program := "ytcffnnedghgmaaa", sum := "c012f749aa853c5122a4188c564201a1a813da6085724978b49c25d7420a4490", func := "loop.example/cloison/laws.FnExactProgOk", spec := "fnExactProgOk", unfollowed := true, recurses := true, loops := true, apart := false, narrowed := true }
def FnExactProgOkUptoSaid : Prop := fnExactProgOkUptoRow.holds Try.pinned (OpenSpec.upto fnExactProgOkSpec)

/-- 'laws.FnExactProgSize', WHERE WHAT IT READS IS OF BULK AT MOST 1048576: true; the input reads as it did. -/
def fnExactProgSizeUptoRow : OpenClaim := { program := "ytcffnnedghgmaaa", sum := "c012f749aa853c5122a4188c564201a1a813da6085724978b49c25d7420a4490", func := "loop.example/cloison/laws.FnExactProgSize", spec := "fnExactProgSize", unfollowed := true, recurses := true, loops := true, apart := false, narrowed := true }
def FnExactProgSizeUptoSaid : Prop := fnExactProgSizeUptoRow.holds Try.pinned (OpenSpec.upto fnExactProgSizeSpec)

/-- 'laws.FnExactNumsOk', WHERE WHAT IT READS IS OF BULK AT MOST 1048576: true; the input reads as it did. -/
def fnExactNumsOkUptoRow : OpenClaim := { program := "ytcffnnedghgmaaa", sum := "c012f749aa853c5122a4188c564201a1a813da6085724978b49c25d7420a4490", func := "loop.example/cloison/laws.FnExactNumsOk", spec := "fnExactNumsOk", unfollowed := true, recurses := true, loops := true, apart := false, narrowed := true }
def FnExactNumsOkUptoSaid : Prop := fnExactNumsOkUptoRow.holds Try.pinned (OpenSpec.upto fnExactNumsOkSpec)

/-- 'laws.FnExactTypeKnows', WHERE WHAT IT READS IS OF BULK AT MOST 1048576: true; the input reads as it did. -/
def fnExactTypeKnowsUptoRow : OpenClaim := { program := "ytcffnnedghgmaaa", sum := "c012f749aa853c5122a4188c564201a1a813da6085724978b49c25d7420a4490", func := "loop.example/cloison/laws.FnExactTypeKnows", spec := "fnExactTypeKnows", unfollowed := true, recurses := true, loops := true, apart := false, narrowed := true }
def FnExactTypeKnowsUptoSaid : Prop := fnExactTypeKnowsUptoRow.holds Try.pinned (OpenSpec.upto fnExactTypeKnowsSpec)

/-- 'laws.FnExactTypeTrusts', WHERE WHAT IT READS IS OF BULK AT MOST 1048576: true; the input reads as it did. -/
def fnExactTypeTrustsUptoRow : OpenClaim := { program := "ytcffnnedghgmaaa", sum := "c012f749aa853c5122a4188c564201a1a813da6085724978b49c25d7420a4490", func := "loop.example/cloison/laws.FnExactTypeTrusts", spec := "fnExactTypeTrusts", unfollowed := true, recurses := true, loops := true, apart := false, narrowed := true }
def FnExactTypeTrustsUptoSaid : Prop := fnExactTypeTrustsUptoRow.holds Try.pinned (OpenSpec.upto fnExactTypeTrustsSpec)

/-- 'laws.FnProgSize', WHERE WHAT IT READS IS OF BULK AT MOST 1048576: true; the input reads as it did. -/
def fnProgSizeUptoRow : OpenClaim := { program := "ytcffnnedghgmaaa", sum := "c012f749aa853c5122a4188c564201a1a813da6085724978b49c25d7420a4490", func := "loop.example/cloison/laws.FnProgSize", spec := "fnProgSize", unfollowed := true, recurses := true, apart := false, narrowed := true }
def FnProgSizeUptoSaid : Prop := fnProgSizeUptoRow.holds Try.pinned (OpenSpec.upto fnProgSizeSpec)

/-- 'laws.FnExactTypeAt', WHERE WHAT IT READS IS OF BULK AT MOST 1048576: true; the input reads as it did. -/
def fnExactTypeAtUptoRow : OpenClaim := { program := "ytcffnnedghgmaaa", sum := "c012f749aa853c5122a4188c564201a1a813da6085724978b49c25d7420a4490", func := "loop.example/cloison/laws.FnExactTypeAt", spec := "fnExactTypeAt", unfollowed := true, recurses := true, loops := true, apart := false, narrowed := true }
def FnExactTypeAtUptoSaid : Prop := fnExactTypeAtUptoRow.holds Try.pinned (OpenSpec.upto fnExactTypeAtSpec)

/-- 'laws.FnTypeKnows', WHERE WHAT IT READS IS OF BULK AT MOST 1048576: true; the input reads as it did. -/
def fnTypeKnowsUptoRow : OpenClaim := { program := "ytcffnnedghgmaaa", sum := "c012f749aa853c5122a4188c564201a1a813da6085724978b49c25d7420a4490", func := "loop.example/cloison/laws.FnTypeKnows", spec := "fnTypeKnows", unfollowed := true, recurses := true, apart := false, narrowed := true }
def FnTypeKnowsUptoSaid : Prop := fnTypeKnowsUptoRow.holds Try.pinned (OpenSpec.upto fnTypeKnowsSpec)

/-- 'laws.FnTypeTrusts', WHERE WHAT IT READS IS OF BULK AT MOST 1048576: true; the input reads as it did. -/
def fnTypeTrustsUptoRow : OpenClaim := { program := "ytcffnnedghgmaaa", sum := "c012f749aa853c5122a4188c564201a1a813da6085724978b49c25d7420a4490", func := "loop.example/cloison/laws.FnTypeTrusts", spec := "fnTypeTrusts", unfollowed := true, recurses := true, apart := false, narrowed := true }
def FnTypeTrustsUptoSaid : Prop := fnTypeTrustsUptoRow.holds Try.pinned (OpenSpec.upto fnTypeTrustsSpec)

/-- 'laws.FnTypeAt', WHERE WHAT IT READS IS OF BULK AT MOST 1048576: true; the input reads as it did. -/
def fnTypeAtUptoRow : OpenClaim := { program := "ytcffnnedghgmaaa", sum := "c012f749aa853c5122a4188c564201a1a813da6085724978b49c25d7420a4490", func := "loop.example/cloison/laws.FnTypeAt", spec := "fnTypeAt", unfollowed := true, recurses := true, apart := false, narrowed := true }
def FnTypeAtUptoSaid : Prop := fnTypeAtUptoRow.holds Try.pinned (OpenSpec.upto fnTypeAtSpec)

/-- 'laws.FnExactProgAt', WHERE WHAT IT READS IS OF BULK AT MOST 1048576: true; the input reads as it did. -/
def fnExactProgAtUptoRow : OpenClaim := { program := "ytcffnnedghgmaaa", sum := "c012f749aa853c5122a4188c564201a1a813da6085724978b49c25d7420a4490", func := "loop.example/cloison/laws.FnExactProgAt", spec := "fnExactProgAt", unfollowed := true, recurses := true, loops := true, apart := false, narrowed := true }
def FnExactProgAtUptoSaid : Prop := fnExactProgAtUptoRow.holds Try.pinned (OpenSpec.upto fnExactProgAtSpec)

/-- 'laws.FnExactTypeSets', WHERE WHAT IT READS IS OF BULK AT MOST 1048576: true; the input reads as it did. -/
def fnExactTypeSetsUptoRow : OpenClaim := { program := "ytcffnnedghgmaaa", sum := "c012f749aa853c5122a4188c564201a1a813da6085724978b49c25d7420a4490", func := "loop.example/cloison/laws.FnExactTypeSets", spec := "fnExactTypeSets", unfollowed := true, recurses := true, loops := true, apart := false, narrowed := true }
def FnExactTypeSetsUptoSaid : Prop := fnExactTypeSetsUptoRow.holds Try.pinned (OpenSpec.upto fnExactTypeSetsSpec)

/-- 'laws.FnProgAt', WHERE WHAT IT READS IS OF BULK AT MOST 1048576: true; the input reads as it did. -/
def fnProgAtUptoRow : OpenClaim := { program := "ytcffnnedghgmaaa", sum := "c012f749aa853c5122a4188c564201a1a813da6085724978b49c25d7420a4490", func := "loop.example/cloison/laws.FnProgAt", spec := "fnProgAt", unfollowed := true, recurses := true, apart := false, narrowed := true }
def FnProgAtUptoSaid : Prop := fnProgAtUptoRow.holds Try.pinned (OpenSpec.upto fnProgAtSpec)

/-- 'laws.FnTypeAny', WHERE WHAT IT READS IS OF BULK AT MOST 1048576: true; the input reads as it did. -/
def fnTypeAnyUptoRow : OpenClaim := { program := "ytcffnnedghgmaaa", sum := "c012f749aa853c5122a4188c564201a1a813da6085724978b49c25d7420a4490", func := "loop.example/cloison/laws.FnTypeAny", spec := "fnTypeAny", unfollowed := true, recurses := true, apart := false, narrowed := true }
def FnTypeAnyUptoSaid : Prop := fnTypeAnyUptoRow.holds Try.pinned (OpenSpec.upto fnTypeAnySpec)

/-- 'laws.FnTypeDeep', WHERE WHAT IT READS IS OF BULK AT MOST 1048576: true; the input reads as it did. -/
def fnTypeDeepUptoRow : OpenClaim := { program := "ytcffnnedghgmaaa", sum := "c012f749aa853c5122a4188c564201a1a813da6085724978b49c25d7420a4490", func := "loop.example/cloison/laws.FnTypeDeep", spec := "fnTypeDeep", unfollowed := true, recurses := true, apart := false, narrowed := true }
def FnTypeDeepUptoSaid : Prop := fnTypeDeepUptoRow.holds Try.pinned (OpenSpec.upto fnTypeDeepSpec)

/-- 'laws.FnTypeLess', WHERE WHAT IT READS IS OF BULK AT MOST 1048576: true; the input reads as it did. -/
def fnTypeLessUptoRow : OpenClaim := { program := "ytcffnnedghgmaaa", sum := "c012f749aa853c5122a4188c564201a1a813da6085724978b49c25d7420a4490", func := "loop.example/cloison/laws.FnTypeLess", spec := "fnTypeLess", unfollowed := true, recurses := true, apart := false, narrowed := true }
def FnTypeLessUptoSaid : Prop := fnTypeLessUptoRow.holds Try.pinned (OpenSpec.upto fnTypeLessSpec)

/-- 'laws.FnExactTypeWhy', WHERE WHAT IT READS IS OF BULK AT MOST 1048576: true; the input reads as it did. -/
def fnExactTypeWhyUptoRow : OpenClaim := { program := "ytcffnnedghgmaaa", sum := "c012f749aa853c5122a4188c564201a1a813da6085724978b49c25d7420a4490", func := "loop.example/cloison/laws.FnExactTypeWhy", spec := "fnExactTypeWhy", unfollowed := true, recurses := true, loops := true, apart := false, narrowed := true }
def FnExactTypeWhyUptoSaid : Prop := fnExactTypeWhyUptoRow.holds Try.pinned (OpenSpec.upto fnExactTypeWhySpec)

/-- 'laws.FnTypeSet', WHERE WHAT IT READS IS OF BULK AT MOST 1048576: true; the input reads as it did. -/
def fnTypeSetUptoRow : OpenClaim := { program := "ytcffnnedghgmaaa", sum := "c012f749aa853c5122a4188c564201a1a813da6085724978b49c25d7420a4490", func := "loop.example/cloison/laws.FnTypeSet", spec := "fnTypeSet", unfollowed := true, recurses := true, apart := false, narrowed := true }
def FnTypeSetUptoSaid : Prop := fnTypeSetUptoRow.holds Try.pinned (OpenSpec.upto fnTypeSetSpec)

/-- 'laws.FnTypeTell', WHERE WHAT IT READS IS OF BULK AT MOST 1048576: true; the input reads as it did. -/
def fnTypeTellUptoRow : OpenClaim := { program := "ytcffnnedghgmaaa", sum := "c012f749aa853c5122a4188c564201a1a813da6085724978b49c25d7420a4490", func := "loop.example/cloison/laws.FnTypeTell", spec := "fnTypeTell", unfollowed := true, recurses := true, apart := false, narrowed := true }
def FnTypeTellUptoSaid : Prop := fnTypeTellUptoRow.holds Try.pinned (OpenSpec.upto fnTypeTellSpec)

/-- 'laws.FnExactTypeOk', WHERE WHAT IT READS IS OF BULK AT MOST 1048576: true; the input reads as it did. -/
def fnExactTypeOkUptoRow : OpenClaim := { program := "ytcffnnedghgmaaa", sum := "c012f749aa853c5122a4188c564201a1a813da6085724978b49c25d7420a4490", func := "loop.example/cloison/laws.FnExactTypeOk", spec := "fnExactTypeOk", unfollowed := true, recurses := true, loops := true, apart := false, narrowed := true }
def FnExactTypeOkUptoSaid : Prop := fnExactTypeOkUptoRow.holds Try.pinned (OpenSpec.upto fnExactTypeOkSpec)

/-- 'laws.FnTypeWhy', WHERE WHAT IT READS IS OF BULK AT MOST 1048576: true; the input reads as it did. -/
def fnTypeWhyUptoRow : OpenClaim := { program := "ytcffnnedghgmaaa", sum := "c012f749aa853c5122a4188c564201a1a813da6085724978b49c25d7420a4490", func := "loop.example/cloison/laws.FnTypeWhy", spec := "fnTypeWhy", unfollowed := true, recurses := true, apart := false, narrowed := true }
def FnTypeWhyUptoSaid : Prop := fnTypeWhyUptoRow.holds Try.pinned (OpenSpec.upto fnTypeWhySpec)

/-- 'laws.FnProgCount', WHERE WHAT IT READS IS OF BULK AT MOST 1048576: true; the input reads as it did. -/
def fnProgCountUptoRow : OpenClaim := { program := "ytcffnnedghgmaaa", sum := "c012f749aa853c5122a4188c564201a1a813da6085724978b49c25d7420a4490", func := "loop.example/cloison/laws.FnProgCount", spec := "fnProgCount", unfollowed := true, recurses := true, apart := false, narrowed := true }
def FnProgCountUptoSaid : Prop := fnProgCountUptoRow.holds Try.pinned (OpenSpec.upto fnProgCountSpec)

end Rows
end Go.Proofs.Ytcffnnedghgmaaa
