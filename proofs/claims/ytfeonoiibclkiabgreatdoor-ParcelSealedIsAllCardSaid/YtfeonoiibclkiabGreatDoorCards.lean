/-
  DERIVED. GIVEN WITH THE SEED: THE CARDS: each row of YtfeonoiibclkiabGreatDoorRows.lean that lists a variable, with what it lists TIED to the program's text (the seventh form; the later family's looks); each row that meets fmt, with fmt's text TOLD by the authors' own Lean function (tested against real Go, not proved from fmt's source: count such statements apart). THE CARD IS WHAT COUNTS. Prove the row's statement (the work); the ties are given (YtfeonoiibclkiabGreatDoorTie.lean); close each card by the builder's one call (the guide's Derived/Test/ToyasCard.lean, 'card_holds'). Laid BY PROGRAM, IN A SANDBOX (cutbox-door.mjs). By AI agents, Wed Nov 11 2026. No macro, syntax, notation, axiom, sorry.
-/
import Derived.Test.YtfeonoiibclkiabGreatDoorRows
import GoSem.ClaimSeven
namespace Go.Proofs.YtfeonoiibclkiabGreatDoor
namespace Rows

/-- THE TIED CARD OF 'interchangelaw10.ParcelSealedIsAll'. -/
def parcelSealedIsAllCard : Claim7 := { stood := { row := parcelSealedIsAllRow, standIns := [], harness := (true, "a34bc5b690e4e9954f7f74b69a002c11c3f2eeffe8af91ead6646bc77e2790bd"), looks := false }, kinds := [], alts := [], laidByText := true, laidKinds := [.data, .data, .data, .data, .pinned], laidTests := true, laidLooks := .later }
def ParcelSealedIsAllCardSaid : Prop := Claim7.holds Tryz.pinned (.plain (OpenSpec.ofChange parcelSealedIsAllSpec)) parcelSealedIsAllCard

/-- THE SECOND FORM's CARD OF 'interchangelaw10.ParcelSealedIsAll'. -/
def parcelSealedIsAllUptoCard : Claim7 := { stood := { row := parcelSealedIsAllUptoRow, standIns := [], harness := (true, "a34bc5b690e4e9954f7f74b69a002c11c3f2eeffe8af91ead6646bc77e2790bd"), looks := false }, kinds := [], alts := [], laidByText := true, laidKinds := [.data, .data, .data, .data, .pinned], laidTests := true, laidLooks := .later }
def ParcelSealedIsAllUptoCardSaid : Prop := Claim7.holds Tryz.pinned (.plain (OpenSpec.upto parcelSealedIsAllSpec)) parcelSealedIsAllUptoCard
end Rows
end Go.Proofs.YtfeonoiibclkiabGreatDoor
