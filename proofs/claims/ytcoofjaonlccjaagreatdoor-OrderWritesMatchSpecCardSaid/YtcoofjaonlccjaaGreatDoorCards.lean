/-
  DERIVED. GIVEN WITH THE SEED: THE CARDS: each row of YtcoofjaonlccjaaGreatDoorRows.lean that lists a variable, with what it lists TIED to the program's text (the seventh form; the later family's looks); each row that meets fmt, with fmt's text TOLD by the authors' own Lean function (tested against real Go, not proved from fmt's source: count such statements apart). THE CARD IS WHAT COUNTS. Prove the row's statement (the work); the ties are given (YtcoofjaonlccjaaGreatDoorTie.lean); close each card by the builder's one call (the guide's Derived/Test/ToyasCard.lean, 'card_holds'). Laid BY PROGRAM, IN A SANDBOX (cutbox-door.mjs). By AI agents, Wed Nov 11 2026. No macro, syntax, notation, axiom, sorry.
-/
import Derived.Test.YtcoofjaonlccjaaGreatDoorRows
import GoSem.ClaimSeven
namespace Go.Proofs.YtcoofjaonlccjaaGreatDoor
namespace Rows

/-- THE TIED CARD OF 'interchangelaw9.OrderChecksMatchSpec'. -/
def orderChecksMatchSpecCard : Claim7 := { stood := { row := orderChecksMatchSpecRow, standIns := [], harness := (true, "4f2aa6dfbbfa191445e785df92b49d8ba0b857d15d18439886a5bf44456b03ed"), looks := true }, kinds := [], alts := [], laidByText := true, laidKinds := [.data, .data, .data, .data, .sentinel, .sentinel, .pinned], laidTests := true, laidLooks := .later }
def OrderChecksMatchSpecCardSaid : Prop := Claim7.holds Tryz.pinned (.plain (OpenSpec.ofChange orderChecksMatchSpecSpec)) orderChecksMatchSpecCard

/-- THE TIED CARD OF 'interchangelaw9.OrderWritesMatchSpec'. -/
def orderWritesMatchSpecCard : Claim7 := { stood := { row := orderWritesMatchSpecRow, standIns := [], harness := (true, "4f2aa6dfbbfa191445e785df92b49d8ba0b857d15d18439886a5bf44456b03ed"), looks := true }, kinds := [], alts := [], laidByText := true, laidKinds := [.data, .data, .data, .data, .sentinel, .sentinel, .pinned], laidTests := true, laidLooks := .later }
def OrderWritesMatchSpecCardSaid : Prop := Claim7.holds Tryz.pinned (.plain (OpenSpec.ofChange orderWritesMatchSpecSpec)) orderWritesMatchSpecCard

/-- THE TIED CARD OF 'interchangelaw9.OrderLaterDeedsChangeNothing'. -/
def orderLaterDeedsChangeNothingCard : Claim7 := { stood := { row := orderLaterDeedsChangeNothingRow, standIns := [], harness := (true, "4f2aa6dfbbfa191445e785df92b49d8ba0b857d15d18439886a5bf44456b03ed"), looks := true }, kinds := [], alts := [], laidByText := true, laidKinds := [.data, .data, .data, .data, .sentinel, .sentinel, .pinned], laidTests := true, laidLooks := .later }
def OrderLaterDeedsChangeNothingCardSaid : Prop := Claim7.holds Tryz.pinned (.plain (OpenSpec.ofChange orderLaterDeedsChangeNothingSpec)) orderLaterDeedsChangeNothingCard

/-- THE TIED CARD OF 'interchangelaw9.OrderQuantitiesAddUp'. -/
def orderQuantitiesAddUpCard : Claim7 := { stood := { row := orderQuantitiesAddUpRow, standIns := [], harness := (true, "4f2aa6dfbbfa191445e785df92b49d8ba0b857d15d18439886a5bf44456b03ed"), looks := true }, kinds := [], alts := [], laidByText := true, laidKinds := [.data, .data, .data, .data, .sentinel, .sentinel, .pinned], laidTests := true, laidLooks := .later }
def OrderQuantitiesAddUpCardSaid : Prop := Claim7.holds Tryz.pinned (.plain (OpenSpec.ofChange orderQuantitiesAddUpSpec)) orderQuantitiesAddUpCard

/-- THE TIED CARD OF 'interchangelaw9.OrderLatestIsAnOrder'. -/
def orderLatestIsAnOrderCard : Claim7 := { stood := { row := orderLatestIsAnOrderRow, standIns := [], harness := (true, "4f2aa6dfbbfa191445e785df92b49d8ba0b857d15d18439886a5bf44456b03ed"), looks := true }, kinds := [], alts := [], laidByText := true, laidKinds := [.data, .data, .data, .data, .sentinel, .sentinel, .pinned], laidTests := true, laidLooks := .later }
def OrderLatestIsAnOrderCardSaid : Prop := Claim7.holds Tryz.pinned (.plain (OpenSpec.ofChange orderLatestIsAnOrderSpec)) orderLatestIsAnOrderCard

/-- THE TIED CARD OF 'interchangelaw9.OrderAnswersAreFollowed'. -/
def orderAnswersAreFollowedCard : Claim7 := { stood := { row := orderAnswersAreFollowedRow, standIns := [], harness := (true, "4f2aa6dfbbfa191445e785df92b49d8ba0b857d15d18439886a5bf44456b03ed"), looks := true }, kinds := [], alts := [], laidByText := true, laidKinds := [.data, .data, .data, .data, .sentinel, .sentinel, .pinned], laidTests := true, laidLooks := .later }
def OrderAnswersAreFollowedCardSaid : Prop := Claim7.holds Tryz.pinned (.plain (OpenSpec.ofChange orderAnswersAreFollowedSpec)) orderAnswersAreFollowedCard

/-- THE SECOND FORM's CARD OF 'interchangelaw9.OrderChecksMatchSpec'. -/
def orderChecksMatchSpecUptoCard : Claim7 := { stood := { row := orderChecksMatchSpecUptoRow, standIns := [], harness := (true, "4f2aa6dfbbfa191445e785df92b49d8ba0b857d15d18439886a5bf44456b03ed"), looks := true }, kinds := [], alts := [], laidByText := true, laidKinds := [.data, .data, .data, .data, .sentinel, .sentinel, .pinned], laidTests := true, laidLooks := .later }
def OrderChecksMatchSpecUptoCardSaid : Prop := Claim7.holds Tryz.pinned (.plain (OpenSpec.upto orderChecksMatchSpecSpec)) orderChecksMatchSpecUptoCard

/-- THE SECOND FORM's CARD OF 'interchangelaw9.OrderWritesMatchSpec'. -/
def orderWritesMatchSpecUptoCard : Claim7 := { stood := { row := orderWritesMatchSpecUptoRow, standIns := [], harness := (true, "4f2aa6dfbbfa191445e785df92b49d8ba0b857d15d18439886a5bf44456b03ed"), looks := true }, kinds := [], alts := [], laidByText := true, laidKinds := [.data, .data, .data, .data, .sentinel, .sentinel, .pinned], laidTests := true, laidLooks := .later }
def OrderWritesMatchSpecUptoCardSaid : Prop := Claim7.holds Tryz.pinned (.plain (OpenSpec.upto orderWritesMatchSpecSpec)) orderWritesMatchSpecUptoCard

/-- THE SECOND FORM's CARD OF 'interchangelaw9.OrderLaterDeedsChangeNothing'. -/
def orderLaterDeedsChangeNothingUptoCard : Claim7 := { stood := { row := orderLaterDeedsChangeNothingUptoRow, standIns := [], harness := (true, "4f2aa6dfbbfa191445e785df92b49d8ba0b857d15d18439886a5bf44456b03ed"), looks := true }, kinds := [], alts := [], laidByText := true, laidKinds := [.data, .data, .data, .data, .sentinel, .sentinel, .pinned], laidTests := true, laidLooks := .later }
def OrderLaterDeedsChangeNothingUptoCardSaid : Prop := Claim7.holds Tryz.pinned (.plain (OpenSpec.upto orderLaterDeedsChangeNothingSpec)) orderLaterDeedsChangeNothingUptoCard

/-- THE SECOND FORM's CARD OF 'interchangelaw9.OrderQuantitiesAddUp'. -/
def orderQuantitiesAddUpUptoCard : Claim7 := { stood := { row := orderQuantitiesAddUpUptoRow, standIns := [], harness := (true, "4f2aa6dfbbfa191445e785df92b49d8ba0b857d15d18439886a5bf44456b03ed"), looks := true }, kinds := [], alts := [], laidByText := true, laidKinds := [.data, .data, .data, .data, .sentinel, .sentinel, .pinned], laidTests := true, laidLooks := .later }
def OrderQuantitiesAddUpUptoCardSaid : Prop := Claim7.holds Tryz.pinned (.plain (OpenSpec.upto orderQuantitiesAddUpSpec)) orderQuantitiesAddUpUptoCard

/-- THE SECOND FORM's CARD OF 'interchangelaw9.OrderLatestIsAnOrder'. -/
def orderLatestIsAnOrderUptoCard : Claim7 := { stood := { row := orderLatestIsAnOrderUptoRow, standIns := [], harness := (true, "4f2aa6dfbbfa191445e785df92b49d8ba0b857d15d18439886a5bf44456b03ed"), looks := true }, kinds := [], alts := [], laidByText := true, laidKinds := [.data, .data, .data, .data, .sentinel, .sentinel, .pinned], laidTests := true, laidLooks := .later }
def OrderLatestIsAnOrderUptoCardSaid : Prop := Claim7.holds Tryz.pinned (.plain (OpenSpec.upto orderLatestIsAnOrderSpec)) orderLatestIsAnOrderUptoCard

/-- THE SECOND FORM's CARD OF 'interchangelaw9.OrderAnswersAreFollowed'. -/
def orderAnswersAreFollowedUptoCard : Claim7 := { stood := { row := orderAnswersAreFollowedUptoRow, standIns := [], harness := (true, "4f2aa6dfbbfa191445e785df92b49d8ba0b857d15d18439886a5bf44456b03ed"), looks := true }, kinds := [], alts := [], laidByText := true, laidKinds := [.data, .data, .data, .data, .sentinel, .sentinel, .pinned], laidTests := true, laidLooks := .later }
def OrderAnswersAreFollowedUptoCardSaid : Prop := Claim7.holds Tryz.pinned (.plain (OpenSpec.upto orderAnswersAreFollowedSpec)) orderAnswersAreFollowedUptoCard
end Rows
end Go.Proofs.YtcoofjaonlccjaaGreatDoor
