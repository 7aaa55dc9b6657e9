/-
  DERIVED. GIVEN WITH THE SEED: THE CARDS: each row of YtacbhlicdhhlnaaDoorRows.lean that lists a variable, with what it lists TIED to the program's text (the seventh form; the later family's looks); each row that meets fmt, with fmt's text TOLD by the authors' own Lean function (tested against real Go, not proved from fmt's source: count such statements apart). THE CARD IS WHAT COUNTS. Prove the row's statement (the work); the ties are given (YtacbhlicdhhlnaaDoorTie.lean); close each card by the builder's one call (the guide's Derived/Test/ToyasCard.lean, 'card_holds'). Laid BY PROGRAM, IN A SANDBOX (cutbox-door.mjs). By AI agents, Wed Nov 11 2026. No macro, syntax, notation, axiom, sorry.
-/
import Derived.Test.YtacbhlicdhhlnaaDoorRows
import GoSem.ClaimSeven
namespace Go.Proofs.YtacbhlicdhhlnaaDoor
namespace Rows

/-- THE TIED CARD OF 'gabellelaw02.NameTakes'. -/
def nameTakesCard : Claim7 := { stood := { row := nameTakesRow, standIns := [], harness := (true, "85a9880bae564e7a607d24d5e6c80f3b304e0cf891cbeadf48b88f92ca42456d"), looks := false }, kinds := [], alts := [], laidByText := true, laidKinds := [.data, .pinned], laidTests := true, laidLooks := .later }
def NameTakesCardSaid : Prop := Claim7.holds Tryd.pinned (.plain (OpenSpec.ofChange nameTakesSpec)) nameTakesCard

/-- THE TIED CARD OF 'gabellelaw02.NameAppends'. -/
def nameAppendsCard : Claim7 := { stood := { row := nameAppendsRow, standIns := [], harness := (true, "85a9880bae564e7a607d24d5e6c80f3b304e0cf891cbeadf48b88f92ca42456d"), looks := false }, kinds := [], alts := [], laidByText := true, laidKinds := [.data, .pinned], laidTests := true, laidLooks := .later }
def NameAppendsCardSaid : Prop := Claim7.holds Tryd.pinned (.plain (OpenSpec.ofChange nameAppendsSpec)) nameAppendsCard

/-- THE TIED CARD OF 'gabellelaw02.NameBack'. -/
def nameBackCard : Claim7 := { stood := { row := nameBackRow, standIns := [], harness := (true, "85a9880bae564e7a607d24d5e6c80f3b304e0cf891cbeadf48b88f92ca42456d"), looks := false }, kinds := [], alts := [], laidByText := true, laidKinds := [.data, .pinned], laidTests := true, laidLooks := .later }
def NameBackCardSaid : Prop := Claim7.holds Tryd.pinned (.plain (OpenSpec.ofChange nameBackSpec)) nameBackCard

/-- THE TIED CARD OF 'gabellelaw02.NameJoins'. -/
def nameJoinsCard : Claim7 := { stood := { row := nameJoinsRow, standIns := [], harness := (true, "85a9880bae564e7a607d24d5e6c80f3b304e0cf891cbeadf48b88f92ca42456d"), looks := false }, kinds := [], alts := [], laidByText := true, laidKinds := [.data, .pinned], laidTests := true, laidLooks := .later }
def NameJoinsCardSaid : Prop := Claim7.holds Tryd.pinned (.plain (OpenSpec.ofChange nameJoinsSpec)) nameJoinsCard

/-- THE SECOND FORM's CARD OF 'gabellelaw02.NameTakes'. -/
def nameTakesUptoCard : Claim7 := { stood := { row := nameTakesUptoRow, standIns := [], harness := (true, "85a9880bae564e7a607d24d5e6c80f3b304e0cf891cbeadf48b88f92ca42456d"), looks := false }, kinds := [], alts := [], laidByText := true, laidKinds := [.data, .pinned], laidTests := true, laidLooks := .later }
def NameTakesUptoCardSaid : Prop := Claim7.holds Tryd.pinned (.plain (OpenSpec.upto nameTakesSpec)) nameTakesUptoCard

/-- THE SECOND FORM's CARD OF 'gabellelaw02.NameAppends'. -/
def nameAppendsUptoCard : Claim7 := { stood := { row := nameAppendsUptoRow, standIns := [], harness := (true, "85a9880bae564e7a607d24d5e6c80f3b304e0cf891cbeadf48b88f92ca42456d"), looks := false }, kinds := [], alts := [], laidByText := true, laidKinds := [.data, .pinned], laidTests := true, laidLooks := .later }
def NameAppendsUptoCardSaid : Prop := Claim7.holds Tryd.pinned (.plain (OpenSpec.upto nameAppendsSpec)) nameAppendsUptoCard

/-- THE SECOND FORM's CARD OF 'gabellelaw02.NameBack'. -/
def nameBackUptoCard : Claim7 := { stood := { row := nameBackUptoRow, standIns := [], harness := (true, "85a9880bae564e7a607d24d5e6c80f3b304e0cf891cbeadf48b88f92ca42456d"), looks := false }, kinds := [], alts := [], laidByText := true, laidKinds := [.data, .pinned], laidTests := true, laidLooks := .later }
def NameBackUptoCardSaid : Prop := Claim7.holds Tryd.pinned (.plain (OpenSpec.upto nameBackSpec)) nameBackUptoCard

/-- THE SECOND FORM's CARD OF 'gabellelaw02.NameJoins'. -/
def nameJoinsUptoCard : Claim7 := { stood := { row := nameJoinsUptoRow, standIns := [], harness := (true, "85a9880bae564e7a607d24d5e6c80f3b304e0cf891cbeadf48b88f92ca42456d"), looks := false }, kinds := [], alts := [], laidByText := true, laidKinds := [.data, .pinned], laidTests := true, laidLooks := .later }
def NameJoinsUptoCardSaid : Prop := Claim7.holds Tryd.pinned (.plain (OpenSpec.upto nameJoinsSpec)) nameJoinsUptoCard
end Rows
end Go.Proofs.YtacbhlicdhhlnaaDoor
