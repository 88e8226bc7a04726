/-
  DERIVED. GIVEN WITH THE SEED: THE CARDS: each row of YtnamfglkolhhgabGreatDoorRows.lean that lists a variable, with what it lists TIED to the program's text (the seventh form; the later family's looks); each row that meets fmt, with fmt's text TOLD by the authors' own Lean function (tested against real Go, not proved from fmt's source: count such statements apart). THE CARD IS WHAT COUNTS. Prove the row's statement (the work); the ties are given (YtnamfglkolhhgabGreatDoorTie.lean); close each card by the builder's one call (the guide's Derived/Test/ToyasCard.lean, 'card_holds'). Laid BY PROGRAM, IN A SANDBOX (cutbox-door.mjs). By AI agents, Wed Nov 11 2026. No macro, syntax, notation, axiom, sorry.
-/
import Derived.Test.YtnamfglkolhhgabGreatDoorRows
import GoSem.ClaimSeven
namespace Go.Proofs.YtnamfglkolhhgabGreatDoor
namespace Rows

/-- THE TIED CARD OF 'interchangelaw10.ParcelMovesMatchSpec'. -/
def parcelMovesMatchSpecCard : Claim7 := { stood := { row := parcelMovesMatchSpecRow, standIns := [], harness := (true, "0647410df397dc8717de1e193b3f0e794a5faffce087eea966d73ed65808a8e3"), looks := false }, kinds := [], alts := [], laidByText := true, laidKinds := [.data, .data, .data, .data, .pinned], laidTests := true, laidLooks := .later }
def ParcelMovesMatchSpecCardSaid : Prop := Claim7.holds Tryz.pinned (.plain (OpenSpec.ofChange parcelMovesMatchSpecSpec)) parcelMovesMatchSpecCard

/-- THE SECOND FORM's CARD OF 'interchangelaw10.ParcelMovesMatchSpec'. -/
def parcelMovesMatchSpecUptoCard : Claim7 := { stood := { row := parcelMovesMatchSpecUptoRow, standIns := [], harness := (true, "0647410df397dc8717de1e193b3f0e794a5faffce087eea966d73ed65808a8e3"), looks := false }, kinds := [], alts := [], laidByText := true, laidKinds := [.data, .data, .data, .data, .pinned], laidTests := true, laidLooks := .later }
def ParcelMovesMatchSpecUptoCardSaid : Prop := Claim7.holds Tryz.pinned (.plain (OpenSpec.upto parcelMovesMatchSpecSpec)) parcelMovesMatchSpecUptoCard
end Rows
end Go.Proofs.YtnamfglkolhhgabGreatDoor
