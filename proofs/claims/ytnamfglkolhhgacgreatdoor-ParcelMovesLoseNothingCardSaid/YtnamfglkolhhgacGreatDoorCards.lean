/-
  DERIVED. GIVEN WITH THE SEED: THE CARDS: each row of YtnamfglkolhhgacGreatDoorRows.lean that lists a variable, with what it lists TIED to the program's text (the seventh form; the later family's looks); each row that meets fmt, with fmt's text TOLD by the authors' own Lean function (tested against real Go, not proved from fmt's source: count such statements apart). THE CARD IS WHAT COUNTS. Prove the row's statement (the work); the ties are given (YtnamfglkolhhgacGreatDoorTie.lean); close each card by the builder's one call (the guide's Derived/Test/ToyasCard.lean, 'card_holds'). Laid BY PROGRAM, IN A SANDBOX (cutbox-door.mjs). By AI agents, Wed Nov 11 2026. No macro, syntax, notation, axiom, sorry.
-/
import Derived.Test.YtnamfglkolhhgacGreatDoorRows
import GoSem.ClaimSeven
namespace Go.Proofs.YtnamfglkolhhgacGreatDoor
namespace Rows

/-- THE TIED CARD OF 'interchangelaw10.ParcelMovesLoseNothing'. -/
def parcelMovesLoseNothingCard : Claim7 := { stood := { row := parcelMovesLoseNothingRow, standIns := [], harness := (true, "acec97b76969b6b72d3d5fd02bf7572a50bb9f807317268075715c99a35a598d"), looks := false }, kinds := [], alts := [], laidByText := true, laidKinds := [.data, .data, .data, .data, .pinned], laidTests := true, laidLooks := .later }
def ParcelMovesLoseNothingCardSaid : Prop := Claim7.holds Tryz.pinned (.plain (OpenSpec.ofChange parcelMovesLoseNothingSpec)) parcelMovesLoseNothingCard

/-- THE SECOND FORM's CARD OF 'interchangelaw10.ParcelMovesLoseNothing'. -/
def parcelMovesLoseNothingUptoCard : Claim7 := { stood := { row := parcelMovesLoseNothingUptoRow, standIns := [], harness := (true, "acec97b76969b6b72d3d5fd02bf7572a50bb9f807317268075715c99a35a598d"), looks := false }, kinds := [], alts := [], laidByText := true, laidKinds := [.data, .data, .data, .data, .pinned], laidTests := true, laidLooks := .later }
def ParcelMovesLoseNothingUptoCardSaid : Prop := Claim7.holds Tryz.pinned (.plain (OpenSpec.upto parcelMovesLoseNothingSpec)) parcelMovesLoseNothingUptoCard
end Rows
end Go.Proofs.YtnamfglkolhhgacGreatDoor
