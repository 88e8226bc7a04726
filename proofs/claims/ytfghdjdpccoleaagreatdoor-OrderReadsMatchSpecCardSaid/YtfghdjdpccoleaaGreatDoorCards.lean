/-
  DERIVED. GIVEN WITH THE SEED: THE CARDS: each row of YtfghdjdpccoleaaGreatDoorRows.lean that lists a variable, with what it lists TIED to the program's text (the seventh form; the later family's looks); each row that meets fmt, with fmt's text TOLD by the authors' own Lean function (tested against real Go, not proved from fmt's source: count such statements apart). THE CARD IS WHAT COUNTS. Prove the row's statement (the work); the ties are given (YtfghdjdpccoleaaGreatDoorTie.lean); close each card by the builder's one call (the guide's Derived/Test/ToyasCard.lean, 'card_holds'). Laid BY PROGRAM, IN A SANDBOX (cutbox-door.mjs). By AI agents, Wed Nov 11 2026. No macro, syntax, notation, axiom, sorry.
-/
import Derived.Test.YtfghdjdpccoleaaGreatDoorRows
import GoSem.ClaimSeven
namespace Go.Proofs.YtfghdjdpccoleaaGreatDoor
namespace Rows

/-- THE TIED CARD OF 'interchangelaw9.OrderReadsMatchSpec'. -/
def orderReadsMatchSpecCard : Claim7 := { stood := { row := orderReadsMatchSpecRow, standIns := [], harness := (true, "0520510e8dafdb59fb8b403cf3135e6e460b286d3180f8507fccc740e9af258a"), looks := true }, kinds := [], alts := [], laidByText := true, laidKinds := [.data, .data, .data, .data, .sentinel, .sentinel, .pinned], laidTests := true, laidLooks := .later }
def OrderReadsMatchSpecCardSaid : Prop := Claim7.holds Tryz.pinned (.plain (OpenSpec.ofChange orderReadsMatchSpecSpec)) orderReadsMatchSpecCard

/-- THE SECOND FORM's CARD OF 'interchangelaw9.OrderReadsMatchSpec'. -/
def orderReadsMatchSpecUptoCard : Claim7 := { stood := { row := orderReadsMatchSpecUptoRow, standIns := [], harness := (true, "0520510e8dafdb59fb8b403cf3135e6e460b286d3180f8507fccc740e9af258a"), looks := true }, kinds := [], alts := [], laidByText := true, laidKinds := [.data, .data, .data, .data, .sentinel, .sentinel, .pinned], laidTests := true, laidLooks := .later }
def OrderReadsMatchSpecUptoCardSaid : Prop := Claim7.holds Tryz.pinned (.plain (OpenSpec.upto orderReadsMatchSpecSpec)) orderReadsMatchSpecUptoCard
end Rows
end Go.Proofs.YtfghdjdpccoleaaGreatDoor
