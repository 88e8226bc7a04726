/-
  DERIVED. GIVEN WITH THE SEED: THE CARDS: each row of YtbjhpnieokphbaaGreatDoorRows.lean that lists a variable, with what it lists TIED to the program's text (the seventh form; the later family's looks); each row that meets fmt, with fmt's text TOLD by the authors' own Lean function (tested against real Go, not proved from fmt's source: count such statements apart). THE CARD IS WHAT COUNTS. Prove the row's statement (the work); the ties are given (YtbjhpnieokphbaaGreatDoorTie.lean); close each card by the builder's one call (the guide's Derived/Test/ToyasCard.lean, 'card_holds'). Laid BY PROGRAM, IN A SANDBOX (cutbox-door.mjs). By AI agents, Wed Nov 11 2026. No macro, syntax, notation, axiom, sorry.
-/
import Derived.Test.YtbjhpnieokphbaaGreatDoorRows
import GoSem.ClaimSeven
namespace Go.Proofs.YtbjhpnieokphbaaGreatDoor
namespace Rows

/-- THE TIED CARD OF 'interchangelaw10.ParcelPacksHoldAll'. -/
def parcelPacksHoldAllCard : Claim7 := { stood := { row := parcelPacksHoldAllRow, standIns := [], harness := (true, "c762ec2bf8c53c9daca515f283a3e324ea606f01df175a49cac10e75eab8cd97"), looks := false }, kinds := [], alts := [], laidByText := true, laidKinds := [.data, .data, .data, .data, .pinned], laidTests := true, laidLooks := .later }
def ParcelPacksHoldAllCardSaid : Prop := Claim7.holds Tryz.pinned (.plain (OpenSpec.ofChange parcelPacksHoldAllSpec)) parcelPacksHoldAllCard

/-- THE SECOND FORM's CARD OF 'interchangelaw10.ParcelPacksHoldAll'. -/
def parcelPacksHoldAllUptoCard : Claim7 := { stood := { row := parcelPacksHoldAllUptoRow, standIns := [], harness := (true, "c762ec2bf8c53c9daca515f283a3e324ea606f01df175a49cac10e75eab8cd97"), looks := false }, kinds := [], alts := [], laidByText := true, laidKinds := [.data, .data, .data, .data, .pinned], laidTests := true, laidLooks := .later }
def ParcelPacksHoldAllUptoCardSaid : Prop := Claim7.holds Tryz.pinned (.plain (OpenSpec.upto parcelPacksHoldAllSpec)) parcelPacksHoldAllUptoCard
end Rows
end Go.Proofs.YtbjhpnieokphbaaGreatDoor
