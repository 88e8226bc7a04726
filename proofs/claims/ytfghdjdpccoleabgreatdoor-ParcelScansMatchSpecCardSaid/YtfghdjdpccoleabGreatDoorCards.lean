/-
  DERIVED. GIVEN WITH THE SEED: THE CARDS: each row of YtfghdjdpccoleabGreatDoorRows.lean that lists a variable, with what it lists TIED to the program's text (the seventh form; the later family's looks); each row that meets fmt, with fmt's text TOLD by the authors' own Lean function (tested against real Go, not proved from fmt's source: count such statements apart). THE CARD IS WHAT COUNTS. Prove the row's statement (the work); the ties are given (YtfghdjdpccoleabGreatDoorTie.lean); close each card by the builder's one call (the guide's Derived/Test/ToyasCard.lean, 'card_holds'). Laid BY PROGRAM, IN A SANDBOX (cutbox-door.mjs). By AI agents, Wed Nov 11 2026. No macro, syntax, notation, axiom, sorry.
-/
import Derived.Test.YtfghdjdpccoleabGreatDoorRows
import GoSem.ClaimSeven
namespace Go.Proofs.YtfghdjdpccoleabGreatDoor
namespace Rows

/-- THE TIED CARD OF 'interchangelaw10.ParcelScansMatchSpec'. -/
def parcelScansMatchSpecCard : Claim7 := { stood := { row := parcelScansMatchSpecRow, standIns := [], harness := (true, "085498bc364bfd0b40fda3b27fda708876de7c90e1ba97e7c16607fab114015d"), looks := false }, kinds := [], alts := [], laidByText := true, laidKinds := [.data, .data, .data, .data, .pinned], laidTests := true, laidLooks := .later }
def ParcelScansMatchSpecCardSaid : Prop := Claim7.holds Tryz.pinned (.plain (OpenSpec.ofChange parcelScansMatchSpecSpec)) parcelScansMatchSpecCard

/-- THE SECOND FORM's CARD OF 'interchangelaw10.ParcelScansMatchSpec'. -/
def parcelScansMatchSpecUptoCard : Claim7 := { stood := { row := parcelScansMatchSpecUptoRow, standIns := [], harness := (true, "085498bc364bfd0b40fda3b27fda708876de7c90e1ba97e7c16607fab114015d"), looks := false }, kinds := [], alts := [], laidByText := true, laidKinds := [.data, .data, .data, .data, .pinned], laidTests := true, laidLooks := .later }
def ParcelScansMatchSpecUptoCardSaid : Prop := Claim7.holds Tryz.pinned (.plain (OpenSpec.upto parcelScansMatchSpecSpec)) parcelScansMatchSpecUptoCard
end Rows
end Go.Proofs.YtfghdjdpccoleabGreatDoor
