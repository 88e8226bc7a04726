/-
  DERIVED. GIVEN WITH THE SEED: THE CARDS: each row of YtinnndploiloeaaGreatDoorRows.lean that lists a variable, with what it lists TIED to the program's text (the seventh form; the later family's looks); each row that meets fmt, with fmt's text TOLD by the authors' own Lean function (tested against real Go, not proved from fmt's source: count such statements apart). THE CARD IS WHAT COUNTS. Prove the row's statement (the work); the ties are given (YtinnndploiloeaaGreatDoorTie.lean); close each card by the builder's one call (the guide's Derived/Test/ToyasCard.lean, 'card_holds'). Laid BY PROGRAM, IN A SANDBOX (cutbox-door.mjs). By AI agents, Wed Nov 11 2026. No macro, syntax, notation, axiom, sorry.
-/
import Derived.Test.YtinnndploiloeaaGreatDoorRows
import GoSem.ClaimSeven
namespace Go.Proofs.YtinnndploiloeaaGreatDoor
namespace Rows

/-- THE TIED CARD OF 'interchangelaw9.OrderHistoriesEndNow'. -/
def orderHistoriesEndNowCard : Claim7 := { stood := { row := orderHistoriesEndNowRow, standIns := [], harness := (true, "f3ec5b1509a6fb700967c24353022f625bc841dd09672293928608f97c9f9f7e"), looks := true }, kinds := [], alts := [], laidByText := true, laidKinds := [.data, .data, .data, .data, .sentinel, .sentinel, .pinned], laidTests := true, laidLooks := .later }
def OrderHistoriesEndNowCardSaid : Prop := Claim7.holds Tryz.pinned (.plain (OpenSpec.ofChange orderHistoriesEndNowSpec)) orderHistoriesEndNowCard

/-- THE TIED CARD OF 'interchangelaw9.OrderWritesAreFollowed'. -/
def orderWritesAreFollowedCard : Claim7 := { stood := { row := orderWritesAreFollowedRow, standIns := [], harness := (true, "f3ec5b1509a6fb700967c24353022f625bc841dd09672293928608f97c9f9f7e"), looks := true }, kinds := [], alts := [], laidByText := true, laidKinds := [.data, .data, .data, .data, .sentinel, .sentinel, .pinned], laidTests := true, laidLooks := .later }
def OrderWritesAreFollowedCardSaid : Prop := Claim7.holds Tryz.pinned (.plain (OpenSpec.ofChange orderWritesAreFollowedSpec)) orderWritesAreFollowedCard

/-- THE TIED CARD OF 'interchangelaw9.OrderDeedsMergeInAnyOrder'. -/
def orderDeedsMergeInAnyOrderCard : Claim7 := { stood := { row := orderDeedsMergeInAnyOrderRow, standIns := [], harness := (true, "f3ec5b1509a6fb700967c24353022f625bc841dd09672293928608f97c9f9f7e"), looks := true }, kinds := [], alts := [], laidByText := true, laidKinds := [.data, .data, .data, .data, .sentinel, .sentinel, .pinned], laidTests := true, laidLooks := .later }
def OrderDeedsMergeInAnyOrderCardSaid : Prop := Claim7.holds Tryz.pinned (.plain (OpenSpec.ofChange orderDeedsMergeInAnyOrderSpec)) orderDeedsMergeInAnyOrderCard

/-- THE TIED CARD OF 'interchangelaw9.OrderReadsMatchSpec'. -/
def orderReadsMatchSpecCard : Claim7 := { stood := { row := orderReadsMatchSpecRow, standIns := [], harness := (true, "f3ec5b1509a6fb700967c24353022f625bc841dd09672293928608f97c9f9f7e"), looks := true }, kinds := [], alts := [], laidByText := true, laidKinds := [.data, .data, .data, .data, .sentinel, .sentinel, .pinned], laidTests := true, laidLooks := .later }
def OrderReadsMatchSpecCardSaid : Prop := Claim7.holds Tryz.pinned (.plain (OpenSpec.ofChange orderReadsMatchSpecSpec)) orderReadsMatchSpecCard

/-- THE SECOND FORM's CARD OF 'interchangelaw9.OrderHistoriesEndNow'. -/
def orderHistoriesEndNowUptoCard : Claim7 := { stood := { row := orderHistoriesEndNowUptoRow, standIns := [], harness := (true, "f3ec5b1509a6fb700967c24353022f625bc841dd09672293928608f97c9f9f7e"), looks := true }, kinds := [], alts := [], laidByText := true, laidKinds := [.data, .data, .data, .data, .sentinel, .sentinel, .pinned], laidTests := true, laidLooks := .later }
def OrderHistoriesEndNowUptoCardSaid : Prop := Claim7.holds Tryz.pinned (.plain (OpenSpec.upto orderHistoriesEndNowSpec)) orderHistoriesEndNowUptoCard

/-- THE SECOND FORM's CARD OF 'interchangelaw9.OrderWritesAreFollowed'. -/
def orderWritesAreFollowedUptoCard : Claim7 := { stood := { row := orderWritesAreFollowedUptoRow, standIns := [], harness := (true, "f3ec5b1509a6fb700967c24353022f625bc841dd09672293928608f97c9f9f7e"), looks := true }, kinds := [], alts := [], laidByText := true, laidKinds := [.data, .data, .data, .data, .sentinel, .sentinel, .pinned], laidTests := true, laidLooks := .later }
def OrderWritesAreFollowedUptoCardSaid : Prop := Claim7.holds Tryz.pinned (.plain (OpenSpec.upto orderWritesAreFollowedSpec)) orderWritesAreFollowedUptoCard

/-- THE SECOND FORM's CARD OF 'interchangelaw9.OrderDeedsMergeInAnyOrder'. -/
def orderDeedsMergeInAnyOrderUptoCard : Claim7 := { stood := { row := orderDeedsMergeInAnyOrderUptoRow, standIns := [], harness := (true, "f3ec5b1509a6fb700967c24353022f625bc841dd09672293928608f97c9f9f7e"), looks := true }, kinds := [], alts := [], laidByText := true, laidKinds := [.data, .data, .data, .data, .sentinel, .sentinel, .pinned], laidTests := true, laidLooks := .later }
def OrderDeedsMergeInAnyOrderUptoCardSaid : Prop := Claim7.holds Tryz.pinned (.plain (OpenSpec.upto orderDeedsMergeInAnyOrderSpec)) orderDeedsMergeInAnyOrderUptoCard

/-- THE SECOND FORM's CARD OF 'interchangelaw9.OrderReadsMatchSpec'. -/
def orderReadsMatchSpecUptoCard : Claim7 := { stood := { row := orderReadsMatchSpecUptoRow, standIns := [], harness := (true, "f3ec5b1509a6fb700967c24353022f625bc841dd09672293928608f97c9f9f7e"), looks := true }, kinds := [], alts := [], laidByText := true, laidKinds := [.data, .data, .data, .data, .sentinel, .sentinel, .pinned], laidTests := true, laidLooks := .later }
def OrderReadsMatchSpecUptoCardSaid : Prop := Claim7.holds Tryz.pinned (.plain (OpenSpec.upto orderReadsMatchSpecSpec)) orderReadsMatchSpecUptoCard
end Rows
end Go.Proofs.YtinnndploiloeaaGreatDoor
