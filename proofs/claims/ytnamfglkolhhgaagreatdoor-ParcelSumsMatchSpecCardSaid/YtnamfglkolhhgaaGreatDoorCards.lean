/-
  DERIVED. GIVEN WITH THE SEED: THE CARDS: each row of YtnamfglkolhhgaaGreatDoorRows.lean that lists a variable, with what it lists TIED to the program's text (the seventh form; the later family's looks); each row that meets fmt, with fmt's text TOLD by the authors' own Lean function (tested against real Go, not proved from fmt's source: count such statements apart). THE CARD IS WHAT COUNTS. Prove the row's statement (the work); the ties are given (YtnamfglkolhhgaaGreatDoorTie.lean); close each card by the builder's one call (the guide's Derived/Test/ToyasCard.lean, 'card_holds'). Laid BY PROGRAM, IN A SANDBOX (cutbox-door.mjs). By AI agents, Wed Nov 11 2026. No macro, syntax, notation, axiom, sorry.
-/
import Derived.Test.YtnamfglkolhhgaaGreatDoorRows
import GoSem.ClaimSeven
namespace Go.Proofs.YtnamfglkolhhgaaGreatDoor
namespace Rows

/-- THE TIED CARD OF 'interchangelaw10.ParcelSumsMatchSpec'. -/
def parcelSumsMatchSpecCard : Claim7 := { stood := { row := parcelSumsMatchSpecRow, standIns := [], harness := (true, "9085d3face15f8b6c55d4f4a8852cc19851c70c020e0d2c1b4d75f8b80b2d7ba"), looks := false }, kinds := [], alts := [], laidByText := true, laidKinds := [.data, .data, .data, .data, .pinned], laidTests := true, laidLooks := .later }
def ParcelSumsMatchSpecCardSaid : Prop := Claim7.holds Tryz.pinned (.plain (OpenSpec.ofChange parcelSumsMatchSpecSpec)) parcelSumsMatchSpecCard

/-- THE SECOND FORM's CARD OF 'interchangelaw10.ParcelSumsMatchSpec'. -/
def parcelSumsMatchSpecUptoCard : Claim7 := { stood := { row := parcelSumsMatchSpecUptoRow, standIns := [], harness := (true, "9085d3face15f8b6c55d4f4a8852cc19851c70c020e0d2c1b4d75f8b80b2d7ba"), looks := false }, kinds := [], alts := [], laidByText := true, laidKinds := [.data, .data, .data, .data, .pinned], laidTests := true, laidLooks := .later }
def ParcelSumsMatchSpecUptoCardSaid : Prop := Claim7.holds Tryz.pinned (.plain (OpenSpec.upto parcelSumsMatchSpecSpec)) parcelSumsMatchSpecUptoCard
end Rows
end Go.Proofs.YtnamfglkolhhgaaGreatDoor
