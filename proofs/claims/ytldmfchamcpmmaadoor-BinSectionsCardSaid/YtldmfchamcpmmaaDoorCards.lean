/-
  DERIVED. GIVEN WITH THE SEED: THE CARDS: each row of YtldmfchamcpmmaaDoorRows.lean that lists a variable, with what it lists TIED to the program's text (the seventh form; the later family's looks); each row that meets fmt, with fmt's text TOLD by the authors' own Lean function (tested against real Go, not proved from fmt's source: count such statements apart). THE CARD IS WHAT COUNTS. Prove the row's statement (the work); the ties are given (YtldmfchamcpmmaaDoorTie.lean); close each card by the builder's one call (the guide's Derived/Test/ToyasCard.lean, 'card_holds'). Laid BY PROGRAM, IN A SANDBOX (cutbox-door.mjs). By AI agents, Wed Nov 11 2026. No macro, syntax, notation, axiom, sorry.
-/
import Derived.Test.YtldmfchamcpmmaaDoorRows
import GoSem.ClaimSeven
namespace Go.Proofs.YtldmfchamcpmmaaDoor
namespace Rows

/-- THE TIED CARD OF 'gabellelaw07.EncBytes'. -/
def encBytesCard : Claim7 := { stood := { row := encBytesRow, standIns := [], harness := (true, "57269e79630c2c38e25081f643c979601c77d83bf65cb9085b40186c5c36ac3c"), looks := true }, kinds := [], alts := [], laidByText := true, laidKinds := [.data, .pinned], laidTests := true, laidLooks := .later }
def EncBytesCardSaid : Prop := Claim7.holds Tryd.pinned (.plain (OpenSpec.ofChange encBytesSpec)) encBytesCard

/-- THE TIED CARD OF 'gabellelaw06.BinWhole'. -/
def binWholeCard : Claim7 := { stood := { row := binWholeRow, standIns := [], harness := (true, "57269e79630c2c38e25081f643c979601c77d83bf65cb9085b40186c5c36ac3c"), looks := true }, kinds := [], alts := [], laidByText := true, laidKinds := [.data, .pinned], laidTests := true, laidLooks := .later }
def BinWholeCardSaid : Prop := Claim7.holds Tryd.pinned (.plain (OpenSpec.ofChange binWholeSpec)) binWholeCard

/-- THE TIED CARD OF 'gabellelaw06.BinSections'. -/
def binSectionsCard : Claim7 := { stood := { row := binSectionsRow, standIns := [], harness := (true, "57269e79630c2c38e25081f643c979601c77d83bf65cb9085b40186c5c36ac3c"), looks := true }, kinds := [], alts := [], laidByText := true, laidKinds := [.data, .pinned], laidTests := true, laidLooks := .later }
def BinSectionsCardSaid : Prop := Claim7.holds Tryd.pinned (.plain (OpenSpec.ofChange binSectionsSpec)) binSectionsCard

/-- THE SECOND FORM's CARD OF 'gabellelaw07.EncBytes'. -/
def encBytesUptoCard : Claim7 := { stood := { row := encBytesUptoRow, standIns := [], harness := (true, "57269e79630c2c38e25081f643c979601c77d83bf65cb9085b40186c5c36ac3c"), looks := true }, kinds := [], alts := [], laidByText := true, laidKinds := [.data, .pinned], laidTests := true, laidLooks := .later }
def EncBytesUptoCardSaid : Prop := Claim7.holds Tryd.pinned (.plain (OpenSpec.upto encBytesSpec)) encBytesUptoCard

/-- THE SECOND FORM's CARD OF 'gabellelaw06.BinWhole'. -/
def binWholeUptoCard : Claim7 := { stood := { row := binWholeUptoRow, standIns := [], harness := (true, "57269e79630c2c38e25081f643c979601c77d83bf65cb9085b40186c5c36ac3c"), looks := true }, kinds := [], alts := [], laidByText := true, laidKinds := [.data, .pinned], laidTests := true, laidLooks := .later }
def BinWholeUptoCardSaid : Prop := Claim7.holds Tryd.pinned (.plain (OpenSpec.upto binWholeSpec)) binWholeUptoCard

/-- THE SECOND FORM's CARD OF 'gabellelaw06.BinSections'. -/
def binSectionsUptoCard : Claim7 := { stood := { row := binSectionsUptoRow, standIns := [], harness := (true, "57269e79630c2c38e25081f643c979601c77d83bf65cb9085b40186c5c36ac3c"), looks := true }, kinds := [], alts := [], laidByText := true, laidKinds := [.data, .pinned], laidTests := true, laidLooks := .later }
def BinSectionsUptoCardSaid : Prop := Claim7.holds Tryd.pinned (.plain (OpenSpec.upto binSectionsSpec)) binSectionsUptoCard
end Rows
end Go.Proofs.YtldmfchamcpmmaaDoor
