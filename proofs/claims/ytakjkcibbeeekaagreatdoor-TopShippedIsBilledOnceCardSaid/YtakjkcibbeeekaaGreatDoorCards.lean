/-
  DERIVED. GIVEN WITH THE SEED: THE CARDS: each row of YtakjkcibbeeekaaGreatDoorRows.lean that lists a variable, with what it lists TIED to the program's text (the seventh form; the later family's looks); each row that meets fmt, with fmt's text TOLD by the authors' own Lean function (tested against real Go, not proved from fmt's source: count such statements apart). THE CARD IS WHAT COUNTS. Prove the row's statement (the work); the ties are given (YtakjkcibbeeekaaGreatDoorTie.lean); close each card by the builder's one call (the guide's Derived/Test/ToyasCard.lean, 'card_holds'). Laid BY PROGRAM, IN A SANDBOX (cutbox-door.mjs). By AI agents, Wed Nov 11 2026. No macro, syntax, notation, axiom, sorry.
-/
import Derived.Test.YtakjkcibbeeekaaGreatDoorRows
import GoSem.ClaimSeven
namespace Go.Proofs.YtakjkcibbeeekaaGreatDoor
namespace Rows

/-- THE TIED CARD OF 'interchangetop.TopShippedIsBilledOnce'. -/
def topShippedIsBilledOnceCard : Claim7 := { stood := { row := topShippedIsBilledOnceRow, standIns := [], harness := (true, "9fbc5d036142ca4e2f12a78967cafd8868c545b2be8176b1703b6bae8f50cce9"), looks := false }, kinds := [], alts := [], laidByText := true, laidKinds := [.data, .data, .data, .data, .pinned], laidTests := true, laidLooks := .later }
def TopShippedIsBilledOnceCardSaid : Prop := Claim7.holds Tryz.pinned (.plain (OpenSpec.ofChange topShippedIsBilledOnceSpec)) topShippedIsBilledOnceCard

/-- THE SECOND FORM's CARD OF 'interchangetop.TopShippedIsBilledOnce'. -/
def topShippedIsBilledOnceUptoCard : Claim7 := { stood := { row := topShippedIsBilledOnceUptoRow, standIns := [], harness := (true, "9fbc5d036142ca4e2f12a78967cafd8868c545b2be8176b1703b6bae8f50cce9"), looks := false }, kinds := [], alts := [], laidByText := true, laidKinds := [.data, .data, .data, .data, .pinned], laidTests := true, laidLooks := .later }
def TopShippedIsBilledOnceUptoCardSaid : Prop := Claim7.holds Tryz.pinned (.plain (OpenSpec.upto topShippedIsBilledOnceSpec)) topShippedIsBilledOnceUptoCard
end Rows
end Go.Proofs.YtakjkcibbeeekaaGreatDoor
