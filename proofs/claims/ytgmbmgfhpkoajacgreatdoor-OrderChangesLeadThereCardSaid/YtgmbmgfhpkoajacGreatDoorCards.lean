/-
  DERIVED. GIVEN WITH THE SEED: THE CARDS: each row of YtgmbmgfhpkoajacGreatDoorRows.lean that lists a variable, with what it lists TIED to the program's text (the seventh form; the later family's looks); each row that meets fmt, with fmt's text TOLD by the authors' own Lean function (tested against real Go, not proved from fmt's source: count such statements apart). THE CARD IS WHAT COUNTS. Prove the row's statement (the work); the ties are given (YtgmbmgfhpkoajacGreatDoorTie.lean); close each card by the builder's one call (the guide's Derived/Test/ToyasCard.lean, 'card_holds'). Laid BY PROGRAM, IN A SANDBOX (cutbox-door.mjs). By AI agents, Wed Nov 11 2026. No macro, syntax, notation, axiom, sorry.
-/
import Derived.Test.YtgmbmgfhpkoajacGreatDoorRows
import GoSem.ClaimSeven
namespace Go.Proofs.YtgmbmgfhpkoajacGreatDoor
namespace Rows

/-- THE TIED CARD OF 'interchangelaw9.OrderChangesLeadThere'. -/
def orderChangesLeadThereCard : Claim7 := { stood := { row := orderChangesLeadThereRow, standIns := [], harness := (true, "fab4e6b69927dc76ed7c6c78740113da9fa60c46e97b23e752e1e77e9d0014dc"), looks := true }, kinds := [], alts := [], laidByText := true, laidKinds := [.data, .data, .data, .data, .sentinel, .sentinel, .pinned], laidTests := true, laidLooks := .later }
def OrderChangesLeadThereCardSaid : Prop := Claim7.holds Tryz.pinned (.plain (OpenSpec.ofChange orderChangesLeadThereSpec)) orderChangesLeadThereCard

/-- THE SECOND FORM's CARD OF 'interchangelaw9.OrderChangesLeadThere'. -/
def orderChangesLeadThereUptoCard : Claim7 := { stood := { row := orderChangesLeadThereUptoRow, standIns := [], harness := (true, "fab4e6b69927dc76ed7c6c78740113da9fa60c46e97b23e752e1e77e9d0014dc"), looks := true }, kinds := [], alts := [], laidByText := true, laidKinds := [.data, .data, .data, .data, .sentinel, .sentinel, .pinned], laidTests := true, laidLooks := .later }
def OrderChangesLeadThereUptoCardSaid : Prop := Claim7.holds Tryz.pinned (.plain (OpenSpec.upto orderChangesLeadThereSpec)) orderChangesLeadThereUptoCard
end Rows
end Go.Proofs.YtgmbmgfhpkoajacGreatDoor
