/-
  DERIVED. GIVEN WITH THE SEED: THE CARDS: each row of YtgcioalgjcaikaaDoorRows.lean that lists a variable, with what it lists TIED to the program's text (the seventh form; the later family's looks); each row that meets fmt, with fmt's text TOLD by the authors' own Lean function (tested against real Go, not proved from fmt's source: count such statements apart). THE CARD IS WHAT COUNTS. Prove the row's statement (the work); the ties are given (YtgcioalgjcaikaaDoorTie.lean); close each card by the builder's one call (the guide's Derived/Test/ToyasCard.lean, 'card_holds'). Laid BY PROGRAM, IN A SANDBOX (cutbox-door.mjs). By AI agents, Wed Nov 11 2026. No macro, syntax, notation, axiom, sorry.
-/
import Derived.Test.YtgcioalgjcaikaaDoorRows
import GoSem.ClaimSeven
namespace Go.Proofs.YtgcioalgjcaikaaDoor
namespace Rows

/-- THE TIED CARD OF 'laws.FnExactLabelText'. -/
def fnExactLabelTextCard : Claim7 := { stood := { row := fnExactLabelTextRow, standIns := [], harness := (true, "80b22f3f167a60c19210ead766c52658b446caa5c9bdd34c2f73d6e9c05be51e"), looks := false }, kinds := [], alts := [], laidByText := true, laidKinds := [.data, .data, .data], laidTests := true, laidLooks := .later }
def FnExactLabelTextCardSaid : Prop := Claim7.holds Tryd.pinned (.plain (OpenSpec.ofChange fnExactLabelTextSpec)) fnExactLabelTextCard

/-- THE TIED CARD OF 'laws.FnExactLabelRead'. -/
def fnExactLabelReadCard : Claim7 := { stood := { row := fnExactLabelReadRow, standIns := [], harness := (true, "80b22f3f167a60c19210ead766c52658b446caa5c9bdd34c2f73d6e9c05be51e"), looks := false }, kinds := [], alts := [], laidByText := true, laidKinds := [.data, .data, .data], laidTests := true, laidLooks := .later }
def FnExactLabelReadCardSaid : Prop := Claim7.holds Tryd.pinned (.plain (OpenSpec.ofChange fnExactLabelReadSpec)) fnExactLabelReadCard

/-- THE TIED CARD OF 'laws.FnLabelBack'. -/
def fnLabelBackCard : Claim7 := { stood := { row := fnLabelBackRow, standIns := [], harness := (true, "80b22f3f167a60c19210ead766c52658b446caa5c9bdd34c2f73d6e9c05be51e"), looks := false }, kinds := [], alts := [], laidByText := true, laidKinds := [.data, .data, .data], laidTests := true, laidLooks := .later }
def FnLabelBackCardSaid : Prop := Claim7.holds Tryd.pinned (.plain (OpenSpec.ofChange fnLabelBackSpec)) fnLabelBackCard

/-- THE TIED CARD OF 'laws.FnLabelStrict'. -/
def fnLabelStrictCard : Claim7 := { stood := { row := fnLabelStrictRow, standIns := [], harness := (true, "80b22f3f167a60c19210ead766c52658b446caa5c9bdd34c2f73d6e9c05be51e"), looks := false }, kinds := [], alts := [], laidByText := true, laidKinds := [.data, .data, .data], laidTests := true, laidLooks := .later }
def FnLabelStrictCardSaid : Prop := Claim7.holds Tryd.pinned (.plain (OpenSpec.ofChange fnLabelStrictSpec)) fnLabelStrictCard

/-- THE SECOND FORM's CARD OF 'laws.FnExactLabelText'. -/
def fnExactLabelTextUptoCard : Claim7 := { stood := { row := fnExactLabelTextUptoRow, standIns := [], harness := (true, "80b22f3f167a60c19210ead766c52658b446caa5c9bdd34c2f73d6e9c05be51e"), looks := false }, kinds := [], alts := [], laidByText := true, laidKinds := [.data, .data, .data], laidTests := true, laidLooks := .later }
def FnExactLabelTextUptoCardSaid : Prop := Claim7.holds Tryd.pinned (.plain (OpenSpec.upto fnExactLabelTextSpec)) fnExactLabelTextUptoCard

/-- THE SECOND FORM's CARD OF 'laws.FnExactLabelRead'. -/
def fnExactLabelReadUptoCard : Claim7 := { stood := { row := fnExactLabelReadUptoRow, standIns := [], harness := (true, "80b22f3f167a60c19210ead766c52658b446caa5c9bdd34c2f73d6e9c05be51e"), looks := false }, kinds := [], alts := [], laidByText := true, laidKinds := [.data, .data, .data], laidTests := true, laidLooks := .later }
def FnExactLabelReadUptoCardSaid : Prop := Claim7.holds Tryd.pinned (.plain (OpenSpec.upto fnExactLabelReadSpec)) fnExactLabelReadUptoCard

/-- THE SECOND FORM's CARD OF 'laws.FnLabelBack'. -/
def fnLabelBackUptoCard : Claim7 := { stood := { row := fnLabelBackUptoRow, standIns := [], harness := (true, "80b22f3f167a60c19210ead766c52658b446caa5c9bdd34c2f73d6e9c05be51e"), looks := false }, kinds := [], alts := [], laidByText := true, laidKinds := [.data, .data, .data], laidTests := true, laidLooks := .later }
def FnLabelBackUptoCardSaid : Prop := Claim7.holds Tryd.pinned (.plain (OpenSpec.upto fnLabelBackSpec)) fnLabelBackUptoCard

/-- THE SECOND FORM's CARD OF 'laws.FnLabelStrict'. -/
def fnLabelStrictUptoCard : Claim7 := { stood := { row := fnLabelStrictUptoRow, standIns := [], harness := (true, "80b22f3f167a60c19210ead766c52658b446caa5c9bdd34c2f73d6e9c05be51e"), looks := false }, kinds := [], alts := [], laidByText := true, laidKinds := [.data, .data, .data], laidTests := true, laidLooks := .later }
def FnLabelStrictUptoCardSaid : Prop := Claim7.holds Tryd.pinned (.plain (OpenSpec.upto fnLabelStrictSpec)) fnLabelStrictUptoCard
end Rows
end Go.Proofs.YtgcioalgjcaikaaDoor
