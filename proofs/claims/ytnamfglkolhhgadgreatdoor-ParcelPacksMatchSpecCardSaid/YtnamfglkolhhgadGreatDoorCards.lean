/-
  DERIVED. GIVEN WITH THE SEED: THE CARDS: each row of YtnamfglkolhhgadGreatDoorRows.lean that lists a variable, with what it lists TIED to the program's text (the seventh form; the later family's looks); each row that meets fmt, with fmt's text TOLD by the authors' own Lean function (tested against real Go, not proved from fmt's source: count such statements apart). THE CARD IS WHAT COUNTS. Prove the row's statement (the work); the ties are given (YtnamfglkolhhgadGreatDoorTie.lean); close each card by the builder's one call (the guide's Derived/Test/ToyasCard.lean, 'card_holds'). Laid BY PROGRAM, IN A SANDBOX (cutbox-door.mjs). By AI agents, Wed Nov 11 2026. No macro, syntax, notation, axiom, sorry.
-/
import Derived.Test.YtnamfglkolhhgadGreatDoorRows
import GoSem.ClaimSeven
namespace Go.Proofs.YtnamfglkolhhgadGreatDoor
namespace Rows

/-- THE TIED CARD OF 'interchangelaw10.ParcelPacksMatchSpec'. -/
def parcelPacksMatchSpecCard : Claim7 := { stood := { row := parcelPacksMatchSpecRow, standIns := [], harness := (true, "8865230aad8a6cf0d932042f4086b5850f30a616f372d676b66b1dae7cfe80bc"), looks := false }, kinds := [], alts := [], laidByText := true, laidKinds := [.data, .data, .data, .data, .pinned], laidTests := true, laidLooks := .later }
def ParcelPacksMatchSpecCardSaid : Prop := Claim7.holds Tryz.pinned (.plain (OpenSpec.ofChange parcelPacksMatchSpecSpec)) parcelPacksMatchSpecCard

/-- THE SECOND FORM's CARD OF 'interchangelaw10.ParcelPacksMatchSpec'. -/
def parcelPacksMatchSpecUptoCard : Claim7 := { stood := { row := parcelPacksMatchSpecUptoRow, standIns := [], harness := (true, "8865230aad8a6cf0d932042f4086b5850f30a616f372d676b66b1dae7cfe80bc"), looks := false }, kinds := [], alts := [], laidByText := true, laidKinds := [.data, .data, .data, .data, .pinned], laidTests := true, laidLooks := .later }
def ParcelPacksMatchSpecUptoCardSaid : Prop := Claim7.holds Tryz.pinned (.plain (OpenSpec.upto parcelPacksMatchSpecSpec)) parcelPacksMatchSpecUptoCard
end Rows
end Go.Proofs.YtnamfglkolhhgadGreatDoor
