/-
  DERIVED. GIVEN WITH THE SEED: THE CARDS: each row of YtgdedidiakojoaaGreatDoorRows.lean that lists a variable, with what it lists TIED to the program's text (the seventh form; the later family's looks); each row that meets fmt, with fmt's text TOLD by the authors' own Lean function (tested against real Go, not proved from fmt's source: count such statements apart). THE CARD IS WHAT COUNTS. Prove the row's statement (the work); the ties are given (YtgdedidiakojoaaGreatDoorTie.lean); close each card by the builder's one call (the guide's Derived/Test/ToyasCard.lean, 'card_holds'). Laid BY PROGRAM, IN A SANDBOX (cutbox-door.mjs). By AI agents, Wed Nov 11 2026. No macro, syntax, notation, axiom, sorry.
-/
import Derived.Test.YtgdedidiakojoaaGreatDoorRows
import GoSem.ClaimSeven
namespace Go.Proofs.YtgdedidiakojoaaGreatDoor
namespace Rows

/-- THE TIED CARD OF 'interchangelaw11.BillLinesMatchSpec'. -/
def billLinesMatchSpecCard : Claim7 := { stood := { row := billLinesMatchSpecRow, standIns := [], harness := (true, "1a3c4c569d6e7ef672c97bc00023c06e989b503492dda313049afbef2beb9ce5"), looks := false }, kinds := [], alts := [], laidByText := true, laidKinds := [.data, .pinned], laidTests := true, laidLooks := .later }
def BillLinesMatchSpecCardSaid : Prop := Claim7.holds Tryz.pinned (.plain (OpenSpec.ofChange billLinesMatchSpecSpec)) billLinesMatchSpecCard

/-- THE TIED CARD OF 'interchangelaw11.BillTotalsMatchSpec'. -/
def billTotalsMatchSpecCard : Claim7 := { stood := { row := billTotalsMatchSpecRow, standIns := [], harness := (true, "1a3c4c569d6e7ef672c97bc00023c06e989b503492dda313049afbef2beb9ce5"), looks := false }, kinds := [], alts := [], laidByText := true, laidKinds := [.data, .pinned], laidTests := true, laidLooks := .later }
def BillTotalsMatchSpecCardSaid : Prop := Claim7.holds Tryz.pinned (.plain (OpenSpec.ofChange billTotalsMatchSpecSpec)) billTotalsMatchSpecCard

/-- THE TIED CARD OF 'interchangelaw11.BillTotalsAddUp'. -/
def billTotalsAddUpCard : Claim7 := { stood := { row := billTotalsAddUpRow, standIns := [], harness := (true, "1a3c4c569d6e7ef672c97bc00023c06e989b503492dda313049afbef2beb9ce5"), looks := false }, kinds := [], alts := [], laidByText := true, laidKinds := [.data, .pinned], laidTests := true, laidLooks := .later }
def BillTotalsAddUpCardSaid : Prop := Claim7.holds Tryz.pinned (.plain (OpenSpec.ofChange billTotalsAddUpSpec)) billTotalsAddUpCard

/-- THE TIED CARD OF 'interchangelaw11.BillReversedIsOpposite'. -/
def billReversedIsOppositeCard : Claim7 := { stood := { row := billReversedIsOppositeRow, standIns := [], harness := (true, "1a3c4c569d6e7ef672c97bc00023c06e989b503492dda313049afbef2beb9ce5"), looks := false }, kinds := [], alts := [], laidByText := true, laidKinds := [.data, .pinned], laidTests := true, laidLooks := .later }
def BillReversedIsOppositeCardSaid : Prop := Claim7.holds Tryz.pinned (.plain (OpenSpec.ofChange billReversedIsOppositeSpec)) billReversedIsOppositeCard

/-- THE SECOND FORM's CARD OF 'interchangelaw11.BillLinesMatchSpec'. -/
def billLinesMatchSpecUptoCard : Claim7 := { stood := { row := billLinesMatchSpecUptoRow, standIns := [], harness := (true, "1a3c4c569d6e7ef672c97bc00023c06e989b503492dda313049afbef2beb9ce5"), looks := false }, kinds := [], alts := [], laidByText := true, laidKinds := [.data, .pinned], laidTests := true, laidLooks := .later }
def BillLinesMatchSpecUptoCardSaid : Prop := Claim7.holds Tryz.pinned (.plain (OpenSpec.upto billLinesMatchSpecSpec)) billLinesMatchSpecUptoCard

/-- THE SECOND FORM's CARD OF 'interchangelaw11.BillTotalsMatchSpec'. -/
def billTotalsMatchSpecUptoCard : Claim7 := { stood := { row := billTotalsMatchSpecUptoRow, standIns := [], harness := (true, "1a3c4c569d6e7ef672c97bc00023c06e989b503492dda313049afbef2beb9ce5"), looks := false }, kinds := [], alts := [], laidByText := true, laidKinds := [.data, .pinned], laidTests := true, laidLooks := .later }
def BillTotalsMatchSpecUptoCardSaid : Prop := Claim7.holds Tryz.pinned (.plain (OpenSpec.upto billTotalsMatchSpecSpec)) billTotalsMatchSpecUptoCard

/-- THE SECOND FORM's CARD OF 'interchangelaw11.BillTotalsAddUp'. -/
def billTotalsAddUpUptoCard : Claim7 := { stood := { row := billTotalsAddUpUptoRow, standIns := [], harness := (true, "1a3c4c569d6e7ef672c97bc00023c06e989b503492dda313049afbef2beb9ce5"), looks := false }, kinds := [], alts := [], laidByText := true, laidKinds := [.data, .pinned], laidTests := true, laidLooks := .later }
def BillTotalsAddUpUptoCardSaid : Prop := Claim7.holds Tryz.pinned (.plain (OpenSpec.upto billTotalsAddUpSpec)) billTotalsAddUpUptoCard

/-- THE SECOND FORM's CARD OF 'interchangelaw11.BillReversedIsOpposite'. -/
def billReversedIsOppositeUptoCard : Claim7 := { stood := { row := billReversedIsOppositeUptoRow, standIns := [], harness := (true, "1a3c4c569d6e7ef672c97bc00023c06e989b503492dda313049afbef2beb9ce5"), looks := false }, kinds := [], alts := [], laidByText := true, laidKinds := [.data, .pinned], laidTests := true, laidLooks := .later }
def BillReversedIsOppositeUptoCardSaid : Prop := Claim7.holds Tryz.pinned (.plain (OpenSpec.upto billReversedIsOppositeSpec)) billReversedIsOppositeUptoCard
end Rows
end Go.Proofs.YtgdedidiakojoaaGreatDoor
