/-
  DERIVED. GIVEN WITH THE SEED: THE CARDS: each row of YtcndcnfjdanbeaaGreatDoorRows.lean that lists a variable, with what it lists TIED to the program's text (the seventh form; the later family's looks); each row that meets fmt, with fmt's text TOLD by the authors' own Lean function (tested against real Go, not proved from fmt's source: count such statements apart). THE CARD IS WHAT COUNTS. Prove the row's statement (the work); the ties are given (YtcndcnfjdanbeaaGreatDoorTie.lean); close each card by the builder's one call (the guide's Derived/Test/ToyasCard.lean, 'card_holds'). Laid BY PROGRAM, IN A SANDBOX (cutbox-door.mjs). By AI agents, Wed Nov 11 2026. No macro, syntax, notation, axiom, sorry.
-/
import Derived.Test.YtcndcnfjdanbeaaGreatDoorRows
import GoSem.ClaimSeven
namespace Go.Proofs.YtcndcnfjdanbeaaGreatDoor
namespace Rows

/-- THE TIED CARD OF 'interchangelaw9.OrderLinesMatchSpec'. -/
def orderLinesMatchSpecCard : Claim7 := { stood := { row := orderLinesMatchSpecRow, standIns := [], harness := (true, "42b46f1f5dcc1413616c0333e4554ab4ce36fa077bfe808a9568e598ee09631a"), looks := true }, kinds := [], alts := [], laidByText := true, laidKinds := [.data, .data, .data, .data, .sentinel, .sentinel, .pinned], laidTests := true, laidLooks := .later }
def OrderLinesMatchSpecCardSaid : Prop := Claim7.holds Tryz.pinned (.plain (OpenSpec.ofChange orderLinesMatchSpecSpec)) orderLinesMatchSpecCard

/-- THE TIED CARD OF 'interchangelaw9.OrderDueMatchesSpec'. -/
def orderDueMatchesSpecCard : Claim7 := { stood := { row := orderDueMatchesSpecRow, standIns := [], harness := (true, "42b46f1f5dcc1413616c0333e4554ab4ce36fa077bfe808a9568e598ee09631a"), looks := true }, kinds := [], alts := [], laidByText := true, laidKinds := [.data, .data, .data, .data, .sentinel, .sentinel, .pinned], laidTests := true, laidLooks := .later }
def OrderDueMatchesSpecCardSaid : Prop := Claim7.holds Tryz.pinned (.plain (OpenSpec.ofChange orderDueMatchesSpecSpec)) orderDueMatchesSpecCard

/-- THE TIED CARD OF 'interchangelaw9.OrderPlansMatchSpec'. -/
def orderPlansMatchSpecCard : Claim7 := { stood := { row := orderPlansMatchSpecRow, standIns := [], harness := (true, "42b46f1f5dcc1413616c0333e4554ab4ce36fa077bfe808a9568e598ee09631a"), looks := true }, kinds := [], alts := [], laidByText := true, laidKinds := [.data, .data, .data, .data, .sentinel, .sentinel, .pinned], laidTests := true, laidLooks := .later }
def OrderPlansMatchSpecCardSaid : Prop := Claim7.holds Tryz.pinned (.plain (OpenSpec.ofChange orderPlansMatchSpecSpec)) orderPlansMatchSpecCard

/-- THE TIED CARD OF 'interchangelaw9.OrderPlansCanBeShipped'. -/
def orderPlansCanBeShippedCard : Claim7 := { stood := { row := orderPlansCanBeShippedRow, standIns := [], harness := (true, "42b46f1f5dcc1413616c0333e4554ab4ce36fa077bfe808a9568e598ee09631a"), looks := true }, kinds := [], alts := [], laidByText := true, laidKinds := [.data, .data, .data, .data, .sentinel, .sentinel, .pinned], laidTests := true, laidLooks := .later }
def OrderPlansCanBeShippedCardSaid : Prop := Claim7.holds Tryz.pinned (.plain (OpenSpec.ofChange orderPlansCanBeShippedSpec)) orderPlansCanBeShippedCard

/-- THE SECOND FORM's CARD OF 'interchangelaw9.OrderLinesMatchSpec'. -/
def orderLinesMatchSpecUptoCard : Claim7 := { stood := { row := orderLinesMatchSpecUptoRow, standIns := [], harness := (true, "42b46f1f5dcc1413616c0333e4554ab4ce36fa077bfe808a9568e598ee09631a"), looks := true }, kinds := [], alts := [], laidByText := true, laidKinds := [.data, .data, .data, .data, .sentinel, .sentinel, .pinned], laidTests := true, laidLooks := .later }
def OrderLinesMatchSpecUptoCardSaid : Prop := Claim7.holds Tryz.pinned (.plain (OpenSpec.upto orderLinesMatchSpecSpec)) orderLinesMatchSpecUptoCard

/-- THE SECOND FORM's CARD OF 'interchangelaw9.OrderDueMatchesSpec'. -/
def orderDueMatchesSpecUptoCard : Claim7 := { stood := { row := orderDueMatchesSpecUptoRow, standIns := [], harness := (true, "42b46f1f5dcc1413616c0333e4554ab4ce36fa077bfe808a9568e598ee09631a"), looks := true }, kinds := [], alts := [], laidByText := true, laidKinds := [.data, .data, .data, .data, .sentinel, .sentinel, .pinned], laidTests := true, laidLooks := .later }
def OrderDueMatchesSpecUptoCardSaid : Prop := Claim7.holds Tryz.pinned (.plain (OpenSpec.upto orderDueMatchesSpecSpec)) orderDueMatchesSpecUptoCard

/-- THE SECOND FORM's CARD OF 'interchangelaw9.OrderPlansMatchSpec'. -/
def orderPlansMatchSpecUptoCard : Claim7 := { stood := { row := orderPlansMatchSpecUptoRow, standIns := [], harness := (true, "42b46f1f5dcc1413616c0333e4554ab4ce36fa077bfe808a9568e598ee09631a"), looks := true }, kinds := [], alts := [], laidByText := true, laidKinds := [.data, .data, .data, .data, .sentinel, .sentinel, .pinned], laidTests := true, laidLooks := .later }
def OrderPlansMatchSpecUptoCardSaid : Prop := Claim7.holds Tryz.pinned (.plain (OpenSpec.upto orderPlansMatchSpecSpec)) orderPlansMatchSpecUptoCard

/-- THE SECOND FORM's CARD OF 'interchangelaw9.OrderPlansCanBeShipped'. -/
def orderPlansCanBeShippedUptoCard : Claim7 := { stood := { row := orderPlansCanBeShippedUptoRow, standIns := [], harness := (true, "42b46f1f5dcc1413616c0333e4554ab4ce36fa077bfe808a9568e598ee09631a"), looks := true }, kinds := [], alts := [], laidByText := true, laidKinds := [.data, .data, .data, .data, .sentinel, .sentinel, .pinned], laidTests := true, laidLooks := .later }
def OrderPlansCanBeShippedUptoCardSaid : Prop := Claim7.holds Tryz.pinned (.plain (OpenSpec.upto orderPlansCanBeShippedSpec)) orderPlansCanBeShippedUptoCard
end Rows
end Go.Proofs.YtcndcnfjdanbeaaGreatDoor
