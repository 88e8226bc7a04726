/-
  DERIVED. GIVEN WITH THE SEED: THE CARDS: each row of YtekilbogbgmbbaaGreatDoorRows.lean that lists a variable, with what it lists TIED to the program's text (the seventh form; the later family's looks); each row that meets fmt, with fmt's text TOLD by the authors' own Lean function (tested against real Go, not proved from fmt's source: count such statements apart). THE CARD IS WHAT COUNTS. Prove the row's statement (the work); the ties are given (YtekilbogbgmbbaaGreatDoorTie.lean); close each card by the builder's one call (the guide's Derived/Test/ToyasCard.lean, 'card_holds'). Laid BY PROGRAM, IN A SANDBOX (cutbox-door.mjs). By AI agents, Wed Nov 11 2026. No macro, syntax, notation, axiom, sorry.
-/
import Derived.Test.YtekilbogbgmbbaaGreatDoorRows
import GoSem.ClaimSeven
namespace Go.Proofs.YtekilbogbgmbbaaGreatDoor
namespace Rows

/-- THE TIED CARD OF 'interchangelaw9.OrderChangesMatchSpec'. -/
def orderChangesMatchSpecCard : Claim7 := { stood := { row := orderChangesMatchSpecRow, standIns := [], harness := (true, "0c1b99de6e6c9fd0842320f1dcfd33bc7e564364434be9dd3e2869a394a04d88"), looks := true }, kinds := [], alts := [], laidByText := true, laidKinds := [.data, .data, .data, .data, .sentinel, .sentinel, .pinned], laidTests := true, laidLooks := .later }
def OrderChangesMatchSpecCardSaid : Prop := Claim7.holds Tryz.pinned (.plain (OpenSpec.ofChange orderChangesMatchSpecSpec)) orderChangesMatchSpecCard

/-- THE SECOND FORM's CARD OF 'interchangelaw9.OrderChangesMatchSpec'. -/
def orderChangesMatchSpecUptoCard : Claim7 := { stood := { row := orderChangesMatchSpecUptoRow, standIns := [], harness := (true, "0c1b99de6e6c9fd0842320f1dcfd33bc7e564364434be9dd3e2869a394a04d88"), looks := true }, kinds := [], alts := [], laidByText := true, laidKinds := [.data, .data, .data, .data, .sentinel, .sentinel, .pinned], laidTests := true, laidLooks := .later }
def OrderChangesMatchSpecUptoCardSaid : Prop := Claim7.holds Tryz.pinned (.plain (OpenSpec.upto orderChangesMatchSpecSpec)) orderChangesMatchSpecUptoCard
end Rows
end Go.Proofs.YtekilbogbgmbbaaGreatDoor
