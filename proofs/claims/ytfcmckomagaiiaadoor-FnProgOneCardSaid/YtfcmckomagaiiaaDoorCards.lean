/-
  DERIVED. GIVEN WITH THE SEED: THE CARDS: each row of YtfcmckomagaiiaaDoorRows.lean that lists a variable, with what it lists TIED to the program's text (the seventh form; the later family's looks); each row that meets fmt, with fmt's text TOLD by the authors' own Lean function (tested against real Go, not proved from fmt's source: count such statements apart). THE CARD IS WHAT COUNTS. Prove the row's statement (the work); the ties are given (YtfcmckomagaiiaaDoorTie.lean); close each card by the builder's one call (the guide's Derived/Test/ToyasCard.lean, 'card_holds'). Laid BY PROGRAM, IN A SANDBOX (cutbox-door.mjs). By AI agents, Wed Nov 11 2026. No macro, syntax, notation, axiom, sorry.
-/
import Derived.Test.YtfcmckomagaiiaaDoorRows
import GoSem.ClaimSeven
namespace Go.Proofs.YtfcmckomagaiiaaDoor
namespace Rows

/-- THE TIED CARD OF 'laws.FnExactProgText'. -/
def fnExactProgTextCard : Claim7 := { stood := { row := fnExactProgTextRow, standIns := [], harness := (true, "814971c11055723a66fa4927b0ccc5dd0d3fe882e1d4fe287918be4d13e4a358"), looks := false }, kinds := [], alts := [], laidByText := true, laidKinds := [.data, .data, .data], laidTests := true, laidLooks := .later }
def FnExactProgTextCardSaid : Prop := Claim7.holds Tryd.pinned (.plain (OpenSpec.ofChange fnExactProgTextSpec)) fnExactProgTextCard

/-- THE TIED CARD OF 'laws.FnProgOne'. -/
def fnProgOneCard : Claim7 := { stood := { row := fnProgOneRow, standIns := [], harness := (true, "814971c11055723a66fa4927b0ccc5dd0d3fe882e1d4fe287918be4d13e4a358"), looks := false }, kinds := [], alts := [], laidByText := true, laidKinds := [.data, .data, .data], laidTests := true, laidLooks := .later }
def FnProgOneCardSaid : Prop := Claim7.holds Tryd.pinned (.plain (OpenSpec.ofChange fnProgOneSpec)) fnProgOneCard

/-- THE SECOND FORM's CARD OF 'laws.FnExactProgText'. -/
def fnExactProgTextUptoCard : Claim7 := { stood := { row := fnExactProgTextUptoRow, standIns := [], harness := (true, "814971c11055723a66fa4927b0ccc5dd0d3fe882e1d4fe287918be4d13e4a358"), looks := false }, kinds := [], alts := [], laidByText := true, laidKinds := [.data, .data, .data], laidTests := true, laidLooks := .later }
def FnExactProgTextUptoCardSaid : Prop := Claim7.holds Tryd.pinned (.plain (OpenSpec.upto fnExactProgTextSpec)) fnExactProgTextUptoCard

/-- THE SECOND FORM's CARD OF 'laws.FnProgOne'. -/
def fnProgOneUptoCard : Claim7 := { stood := { row := fnProgOneUptoRow, standIns := [], harness := (true, "814971c11055723a66fa4927b0ccc5dd0d3fe882e1d4fe287918be4d13e4a358"), looks := false }, kinds := [], alts := [], laidByText := true, laidKinds := [.data, .data, .data], laidTests := true, laidLooks := .later }
def FnProgOneUptoCardSaid : Prop := Claim7.holds Tryd.pinned (.plain (OpenSpec.upto fnProgOneSpec)) fnProgOneUptoCard
end Rows
end Go.Proofs.YtfcmckomagaiiaaDoor
