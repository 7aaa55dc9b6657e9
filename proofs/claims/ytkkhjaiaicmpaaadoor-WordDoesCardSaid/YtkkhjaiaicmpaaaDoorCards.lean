/-
  DERIVED. GIVEN WITH THE SEED: THE CARDS: each row of YtkkhjaiaicmpaaaDoorRows.lean that lists a variable, with what it lists TIED to the program's text (the seventh form; the later family's looks); each row that meets fmt, with fmt's text TOLD by the authors' own Lean function (tested against real Go, not proved from fmt's source: count such statements apart). THE CARD IS WHAT COUNTS. Prove the row's statement (the work); the ties are given (YtkkhjaiaicmpaaaDoorTie.lean); close each card by the builder's one call (the guide's Derived/Test/ToyasCard.lean, 'card_holds'). Laid BY PROGRAM, IN A SANDBOX (cutbox-door.mjs). By AI agents, Wed Nov 11 2026. No macro, syntax, notation, axiom, sorry.
-/
import Derived.Test.YtkkhjaiaicmpaaaDoorRows
import GoSem.ClaimSeven
namespace Go.Proofs.YtkkhjaiaicmpaaaDoor
namespace Rows

/-- THE TIED CARD OF 'gabellelaw16.WordKnown'. -/
def wordKnownCard : Claim7 := { stood := { row := wordKnownRow, standIns := [], harness := (true, "be6c5c28c719c26f9c12253f7071a377a8d98bdd79ceaf4844f3e8b5cd6e0f37"), looks := false }, kinds := [], alts := [], laidByText := true, laidKinds := [.data], laidTests := true, laidLooks := .later }
def WordKnownCardSaid : Prop := Claim7.holds Tryd.pinned (.plain (OpenSpec.ofChange wordKnownSpec)) wordKnownCard

/-- THE TIED CARD OF 'gabellelaw16.WordDoes'. -/
def wordDoesCard : Claim7 := { stood := { row := wordDoesRow, standIns := [], harness := (true, "be6c5c28c719c26f9c12253f7071a377a8d98bdd79ceaf4844f3e8b5cd6e0f37"), looks := false }, kinds := [], alts := [], laidByText := true, laidKinds := [.data], laidTests := true, laidLooks := .later }
def WordDoesCardSaid : Prop := Claim7.holds Tryd.pinned (.plain (OpenSpec.ofChange wordDoesSpec)) wordDoesCard

/-- THE TIED CARD OF 'gabellelaw16.WordParts'. -/
def wordPartsCard : Claim7 := { stood := { row := wordPartsRow, standIns := [], harness := (true, "be6c5c28c719c26f9c12253f7071a377a8d98bdd79ceaf4844f3e8b5cd6e0f37"), looks := false }, kinds := [], alts := [], laidByText := true, laidKinds := [.data], laidTests := true, laidLooks := .later }
def WordPartsCardSaid : Prop := Claim7.holds Tryd.pinned (.plain (OpenSpec.ofChange wordPartsSpec)) wordPartsCard

/-- THE TIED CARD OF 'gabellelaw16.WordTurns'. -/
def wordTurnsCard : Claim7 := { stood := { row := wordTurnsRow, standIns := [], harness := (true, "be6c5c28c719c26f9c12253f7071a377a8d98bdd79ceaf4844f3e8b5cd6e0f37"), looks := false }, kinds := [], alts := [], laidByText := true, laidKinds := [.data], laidTests := true, laidLooks := .later }
def WordTurnsCardSaid : Prop := Claim7.holds Tryd.pinned (.plain (OpenSpec.ofChange wordTurnsSpec)) wordTurnsCard

/-- THE TIED CARD OF 'gabellelaw16.WordLow'. -/
def wordLowCard : Claim7 := { stood := { row := wordLowRow, standIns := [], harness := (true, "be6c5c28c719c26f9c12253f7071a377a8d98bdd79ceaf4844f3e8b5cd6e0f37"), looks := false }, kinds := [], alts := [], laidByText := true, laidKinds := [.data], laidTests := true, laidLooks := .later }
def WordLowCardSaid : Prop := Claim7.holds Tryd.pinned (.plain (OpenSpec.ofChange wordLowSpec)) wordLowCard

/-- THE SECOND FORM's CARD OF 'gabellelaw16.WordKnown'. -/
def wordKnownUptoCard : Claim7 := { stood := { row := wordKnownUptoRow, standIns := [], harness := (true, "be6c5c28c719c26f9c12253f7071a377a8d98bdd79ceaf4844f3e8b5cd6e0f37"), looks := false }, kinds := [], alts := [], laidByText := true, laidKinds := [.data], laidTests := true, laidLooks := .later }
def WordKnownUptoCardSaid : Prop := Claim7.holds Tryd.pinned (.plain (OpenSpec.upto wordKnownSpec)) wordKnownUptoCard

/-- THE SECOND FORM's CARD OF 'gabellelaw16.WordDoes'. -/
def wordDoesUptoCard : Claim7 := { stood := { row := wordDoesUptoRow, standIns := [], harness := (true, "be6c5c28c719c26f9c12253f7071a377a8d98bdd79ceaf4844f3e8b5cd6e0f37"), looks := false }, kinds := [], alts := [], laidByText := true, laidKinds := [.data], laidTests := true, laidLooks := .later }
def WordDoesUptoCardSaid : Prop := Claim7.holds Tryd.pinned (.plain (OpenSpec.upto wordDoesSpec)) wordDoesUptoCard

/-- THE SECOND FORM's CARD OF 'gabellelaw16.WordParts'. -/
def wordPartsUptoCard : Claim7 := { stood := { row := wordPartsUptoRow, standIns := [], harness := (true, "be6c5c28c719c26f9c12253f7071a377a8d98bdd79ceaf4844f3e8b5cd6e0f37"), looks := false }, kinds := [], alts := [], laidByText := true, laidKinds := [.data], laidTests := true, laidLooks := .later }
def WordPartsUptoCardSaid : Prop := Claim7.holds Tryd.pinned (.plain (OpenSpec.upto wordPartsSpec)) wordPartsUptoCard

/-- THE SECOND FORM's CARD OF 'gabellelaw16.WordTurns'. -/
def wordTurnsUptoCard : Claim7 := { stood := { row := wordTurnsUptoRow, standIns := [], harness := (true, "be6c5c28c719c26f9c12253f7071a377a8d98bdd79ceaf4844f3e8b5cd6e0f37"), looks := false }, kinds := [], alts := [], laidByText := true, laidKinds := [.data], laidTests := true, laidLooks := .later }
def WordTurnsUptoCardSaid : Prop := Claim7.holds Tryd.pinned (.plain (OpenSpec.upto wordTurnsSpec)) wordTurnsUptoCard

/-- THE SECOND FORM's CARD OF 'gabellelaw16.WordLow'. -/
def wordLowUptoCard : Claim7 := { stood := { row := wordLowUptoRow, standIns := [], harness := (true, "be6c5c28c719c26f9c12253f7071a377a8d98bdd79ceaf4844f3e8b5cd6e0f37"), looks := false }, kinds := [], alts := [], laidByText := true, laidKinds := [.data], laidTests := true, laidLooks := .later }
def WordLowUptoCardSaid : Prop := Claim7.holds Tryd.pinned (.plain (OpenSpec.upto wordLowSpec)) wordLowUptoCard
end Rows
end Go.Proofs.YtkkhjaiaicmpaaaDoor
