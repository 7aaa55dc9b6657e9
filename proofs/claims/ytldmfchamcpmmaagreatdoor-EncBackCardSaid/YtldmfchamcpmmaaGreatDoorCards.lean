/-
  DERIVED. GIVEN WITH THE SEED: THE CARDS: each row of YtldmfchamcpmmaaGreatDoorRows.lean that lists a variable, with what it lists TIED to the program's text (the seventh form; the later family's looks); each row that meets fmt, with fmt's text TOLD by the authors' own Lean function (tested against real Go, not proved from fmt's source: count such statements apart). THE CARD IS WHAT COUNTS. Prove the row's statement (the work); the ties are given (YtldmfchamcpmmaaGreatDoorTie.lean); close each card by the builder's one call (the guide's Derived/Test/ToyasCard.lean, 'card_holds'). Laid BY PROGRAM, IN A SANDBOX (cutbox-door.mjs). By AI agents, Wed Nov 11 2026. No macro, syntax, notation, axiom, sorry.
-/
import Derived.Test.YtldmfchamcpmmaaGreatDoorRows
import GoSem.ClaimSeven
namespace Go.Proofs.YtldmfchamcpmmaaGreatDoor
namespace Rows

/-- THE TIED CARD OF 'gabellelaw07.EncBack'. -/
def encBackCard : Claim7 := { stood := { row := encBackRow, standIns := [], harness := (true, "71c54abfbdf6f5898ec8406407d86a59981210ed31076e1c6582bec08f52db20"), looks := true }, kinds := [], alts := [], laidByText := true, laidKinds := [.data, .pinned], laidTests := true, laidLooks := .later }
def EncBackCardSaid : Prop := Claim7.holds Tryz.pinned (.plain (OpenSpec.ofChange encBackSpec)) encBackCard

/-- THE TIED CARD OF 'gabellelaw07.EncShort'. -/
def encShortCard : Claim7 := { stood := { row := encShortRow, standIns := [], harness := (true, "71c54abfbdf6f5898ec8406407d86a59981210ed31076e1c6582bec08f52db20"), looks := true }, kinds := [], alts := [], laidByText := true, laidKinds := [.data, .pinned], laidTests := true, laidLooks := .later }
def EncShortCardSaid : Prop := Claim7.holds Tryz.pinned (.plain (OpenSpec.ofChange encShortSpec)) encShortCard

/-- THE SECOND FORM's CARD OF 'gabellelaw07.EncBack'. -/
def encBackUptoCard : Claim7 := { stood := { row := encBackUptoRow, standIns := [], harness := (true, "71c54abfbdf6f5898ec8406407d86a59981210ed31076e1c6582bec08f52db20"), looks := true }, kinds := [], alts := [], laidByText := true, laidKinds := [.data, .pinned], laidTests := true, laidLooks := .later }
def EncBackUptoCardSaid : Prop := Claim7.holds Tryz.pinned (.plain (OpenSpec.upto encBackSpec)) encBackUptoCard

/-- THE SECOND FORM's CARD OF 'gabellelaw07.EncShort'. -/
def encShortUptoCard : Claim7 := { stood := { row := encShortUptoRow, standIns := [], harness := (true, "71c54abfbdf6f5898ec8406407d86a59981210ed31076e1c6582bec08f52db20"), looks := true }, kinds := [], alts := [], laidByText := true, laidKinds := [.data, .pinned], laidTests := true, laidLooks := .later }
def EncShortUptoCardSaid : Prop := Claim7.holds Tryz.pinned (.plain (OpenSpec.upto encShortSpec)) encShortUptoCard
end Rows
end Go.Proofs.YtldmfchamcpmmaaGreatDoor
