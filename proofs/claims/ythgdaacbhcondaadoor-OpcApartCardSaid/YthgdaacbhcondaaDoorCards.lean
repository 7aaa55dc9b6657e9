/-
  DERIVED. GIVEN WITH THE SEED: THE CARDS: each row of YthgdaacbhcondaaDoorRows.lean that lists a variable, with what it lists TIED to the program's text (the seventh form; the later family's looks); each row that meets fmt, with fmt's text TOLD by the authors' own Lean function (tested against real Go, not proved from fmt's source: count such statements apart). THE CARD IS WHAT COUNTS. Prove the row's statement (the work); the ties are given (YthgdaacbhcondaaDoorTie.lean); close each card by the builder's one call (the guide's Derived/Test/ToyasCard.lean, 'card_holds'). Laid BY PROGRAM, IN A SANDBOX (cutbox-door.mjs). By AI agents, Wed Nov 11 2026. No macro, syntax, notation, axiom, sorry.
-/
import Derived.Test.YthgdaacbhcondaaDoorRows
import GoSem.ClaimSeven
namespace Go.Proofs.YthgdaacbhcondaaDoor
namespace Rows

/-- THE TIED CARD OF 'gabellelaw03.OpcTable'. -/
def opcTableCard : Claim7 := { stood := { row := opcTableRow, standIns := [], harness := (true, "c97bd1a67ee9389e185a02483615880491825925b7858ee9156250fc3cdd2234"), looks := false }, kinds := [], alts := [], laidByText := true, laidKinds := [.listed, .data], laidTests := true, laidLooks := .later }
def OpcTableCardSaid : Prop := Claim7.holds Tryd.pinned (.plain (OpenSpec.ofChange opcTableSpec)) opcTableCard

/-- THE TIED CARD OF 'gabellelaw03.OpcFinds'. -/
def opcFindsCard : Claim7 := { stood := { row := opcFindsRow, standIns := [], harness := (true, "c97bd1a67ee9389e185a02483615880491825925b7858ee9156250fc3cdd2234"), looks := false }, kinds := [], alts := [], laidByText := true, laidKinds := [.listed, .data], laidTests := true, laidLooks := .later }
def OpcFindsCardSaid : Prop := Claim7.holds Tryd.pinned (.plain (OpenSpec.ofChange opcFindsSpec)) opcFindsCard

/-- THE TIED CARD OF 'gabellelaw03.OpcApart'. -/
def opcApartCard : Claim7 := { stood := { row := opcApartRow, standIns := [], harness := (true, "c97bd1a67ee9389e185a02483615880491825925b7858ee9156250fc3cdd2234"), looks := false }, kinds := [], alts := [], laidByText := true, laidKinds := [.listed, .data], laidTests := true, laidLooks := .later }
def OpcApartCardSaid : Prop := Claim7.holds Tryd.pinned (.plain (OpenSpec.ofChange opcApartSpec)) opcApartCard

/-- THE SECOND FORM's CARD OF 'gabellelaw03.OpcTable'. -/
def opcTableUptoCard : Claim7 := { stood := { row := opcTableUptoRow, standIns := [], harness := (true, "c97bd1a67ee9389e185a02483615880491825925b7858ee9156250fc3cdd2234"), looks := false }, kinds := [], alts := [], laidByText := true, laidKinds := [.listed, .data], laidTests := true, laidLooks := .later }
def OpcTableUptoCardSaid : Prop := Claim7.holds Tryd.pinned (.plain (OpenSpec.upto opcTableSpec)) opcTableUptoCard

/-- THE SECOND FORM's CARD OF 'gabellelaw03.OpcFinds'. -/
def opcFindsUptoCard : Claim7 := { stood := { row := opcFindsUptoRow, standIns := [], harness := (true, "c97bd1a67ee9389e185a02483615880491825925b7858ee9156250fc3cdd2234"), looks := false }, kinds := [], alts := [], laidByText := true, laidKinds := [.listed, .data], laidTests := true, laidLooks := .later }
def OpcFindsUptoCardSaid : Prop := Claim7.holds Tryd.pinned (.plain (OpenSpec.upto opcFindsSpec)) opcFindsUptoCard

/-- THE SECOND FORM's CARD OF 'gabellelaw03.OpcApart'. -/
def opcApartUptoCard : Claim7 := { stood := { row := opcApartUptoRow, standIns := [], harness := (true, "c97bd1a67ee9389e185a02483615880491825925b7858ee9156250fc3cdd2234"), looks := false }, kinds := [], alts := [], laidByText := true, laidKinds := [.listed, .data], laidTests := true, laidLooks := .later }
def OpcApartUptoCardSaid : Prop := Claim7.holds Tryd.pinned (.plain (OpenSpec.upto opcApartSpec)) opcApartUptoCard
end Rows
end Go.Proofs.YthgdaacbhcondaaDoor
