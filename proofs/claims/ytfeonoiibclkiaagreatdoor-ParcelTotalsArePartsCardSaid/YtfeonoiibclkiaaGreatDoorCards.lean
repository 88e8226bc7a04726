/-
  DERIVED. GIVEN WITH THE SEED: THE CARDS: each row of YtfeonoiibclkiaaGreatDoorRows.lean that lists a variable, with what it lists TIED to the program's text (the seventh form; the later family's looks); each row that meets fmt, with fmt's text TOLD by the authors' own Lean function (tested against real Go, not proved from fmt's source: count such statements apart). THE CARD IS WHAT COUNTS. Prove the row's statement (the work); the ties are given (YtfeonoiibclkiaaGreatDoorTie.lean); close each card by the builder's one call (the guide's Derived/Test/ToyasCard.lean, 'card_holds'). Laid BY PROGRAM, IN A SANDBOX (cutbox-door.mjs). By AI agents, Wed Nov 11 2026. No macro, syntax, notation, axiom, sorry.
-/
import Derived.Test.YtfeonoiibclkiaaGreatDoorRows
import GoSem.ClaimSeven
namespace Go.Proofs.YtfeonoiibclkiaaGreatDoor
namespace Rows

/-- THE TIED CARD OF 'interchangelaw10.ParcelTotalsAreParts'. -/
def parcelTotalsArePartsCard : Claim7 := { stood := { row := parcelTotalsArePartsRow, standIns := [], harness := (true, "284fdcfec95d5951f7d14559914d9e7ac225948d49e3a5408f8493e8ecffa39f"), looks := false }, kinds := [], alts := [], laidByText := true, laidKinds := [.data, .data, .data, .data, .pinned], laidTests := true, laidLooks := .later }
def ParcelTotalsArePartsCardSaid : Prop := Claim7.holds Tryz.pinned (.plain (OpenSpec.ofChange parcelTotalsArePartsSpec)) parcelTotalsArePartsCard

/-- THE SECOND FORM's CARD OF 'interchangelaw10.ParcelTotalsAreParts'. -/
def parcelTotalsArePartsUptoCard : Claim7 := { stood := { row := parcelTotalsArePartsUptoRow, standIns := [], harness := (true, "284fdcfec95d5951f7d14559914d9e7ac225948d49e3a5408f8493e8ecffa39f"), looks := false }, kinds := [], alts := [], laidByText := true, laidKinds := [.data, .data, .data, .data, .pinned], laidTests := true, laidLooks := .later }
def ParcelTotalsArePartsUptoCardSaid : Prop := Claim7.holds Tryz.pinned (.plain (OpenSpec.upto parcelTotalsArePartsSpec)) parcelTotalsArePartsUptoCard
end Rows
end Go.Proofs.YtfeonoiibclkiaaGreatDoor
