/-
  DERIVED. GIVEN WITH THE SEED: THE CARDS: each row of YtilaijcbckgmmaaGreatDoorRows.lean that lists a variable, with what it lists TIED to the program's text (the seventh form; the later family's looks); each row that meets fmt, with fmt's text TOLD by the authors' own Lean function (tested against real Go, not proved from fmt's source: count such statements apart). THE CARD IS WHAT COUNTS. Prove the row's statement (the work); the ties are given (YtilaijcbckgmmaaGreatDoorTie.lean); close each card by the builder's one call (the guide's Derived/Test/ToyasCard.lean, 'card_holds'). Laid BY PROGRAM, IN A SANDBOX (cutbox-door.mjs). By AI agents, Wed Nov 11 2026. No macro, syntax, notation, axiom, sorry.
-/
import Derived.Test.YtilaijcbckgmmaaGreatDoorRows
import GoSem.ClaimSeven
namespace Go.Proofs.YtilaijcbckgmmaaGreatDoor
namespace Rows

/-- THE TIED CARD OF 'interchangelaw10.ParcelStacksAreLight'. -/
def parcelStacksAreLightCard : Claim7 := { stood := { row := parcelStacksAreLightRow, standIns := [], harness := (true, "917da9cbac67ab0b9254cae5f9e9383b25a39fd0f0a8fbcf7602e219ea339463"), looks := false }, kinds := [], alts := [], laidByText := true, laidKinds := [.data, .data, .data, .data, .pinned], laidTests := true, laidLooks := .later }
def ParcelStacksAreLightCardSaid : Prop := Claim7.holds Tryz.pinned (.plain (OpenSpec.ofChange parcelStacksAreLightSpec)) parcelStacksAreLightCard

/-- THE SECOND FORM's CARD OF 'interchangelaw10.ParcelStacksAreLight'. -/
def parcelStacksAreLightUptoCard : Claim7 := { stood := { row := parcelStacksAreLightUptoRow, standIns := [], harness := (true, "917da9cbac67ab0b9254cae5f9e9383b25a39fd0f0a8fbcf7602e219ea339463"), looks := false }, kinds := [], alts := [], laidByText := true, laidKinds := [.data, .data, .data, .data, .pinned], laidTests := true, laidLooks := .later }
def ParcelStacksAreLightUptoCardSaid : Prop := Claim7.holds Tryz.pinned (.plain (OpenSpec.upto parcelStacksAreLightSpec)) parcelStacksAreLightUptoCard
end Rows
end Go.Proofs.YtilaijcbckgmmaaGreatDoor
