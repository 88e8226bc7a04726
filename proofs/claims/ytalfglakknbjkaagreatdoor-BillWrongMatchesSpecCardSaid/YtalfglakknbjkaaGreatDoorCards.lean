/-
  DERIVED. GIVEN WITH THE SEED: THE CARDS: each row of YtalfglakknbjkaaGreatDoorRows.lean that lists a variable, with what it lists TIED to the program's text (the seventh form; the later family's looks); each row that meets fmt, with fmt's text TOLD by the authors' own Lean function (tested against real Go, not proved from fmt's source: count such statements apart). THE CARD IS WHAT COUNTS. Prove the row's statement (the work); the ties are given (YtalfglakknbjkaaGreatDoorTie.lean); close each card by the builder's one call (the guide's Derived/Test/ToyasCard.lean, 'card_holds'). Laid BY PROGRAM, IN A SANDBOX (cutbox-door.mjs). By AI agents, Wed Nov 11 2026. No macro, syntax, notation, axiom, sorry.
-/
import Derived.Test.YtalfglakknbjkaaGreatDoorRows
import GoSem.ClaimSeven
namespace Go.Proofs.YtalfglakknbjkaaGreatDoor
namespace Rows

/-- THE TIED CARD OF 'interchangelaw11.BillTotalsMatchSpec'. -/
def billTotalsMatchSpecCard : Claim7 := { stood := { row := billTotalsMatchSpecRow, standIns := [], harness := (true, "74558058a3cc24225bf8e5bb27a112e7038d82f051e610eeb818c8fb2e8102dd"), looks := false }, kinds := [], alts := [], laidByText := true, laidKinds := [.data, .pinned], laidTests := true, laidLooks := .later }
def BillTotalsMatchSpecCardSaid : Prop := Claim7.holds Tryz.pinned (.plain (OpenSpec.ofChange billTotalsMatchSpecSpec)) billTotalsMatchSpecCard

/-- THE TIED CARD OF 'interchangelaw11.BillTotalsAddUp'. -/
def billTotalsAddUpCard : Claim7 := { stood := { row := billTotalsAddUpRow, standIns := [], harness := (true, "74558058a3cc24225bf8e5bb27a112e7038d82f051e610eeb818c8fb2e8102dd"), looks := false }, kinds := [], alts := [], laidByText := true, laidKinds := [.data, .pinned], laidTests := true, laidLooks := .later }
def BillTotalsAddUpCardSaid : Prop := Claim7.holds Tryz.pinned (.plain (OpenSpec.ofChange billTotalsAddUpSpec)) billTotalsAddUpCard

/-- THE TIED CARD OF 'interchangelaw11.BillReversedIsOpposite'. -/
def billReversedIsOppositeCard : Claim7 := { stood := { row := billReversedIsOppositeRow, standIns := [], harness := (true, "74558058a3cc24225bf8e5bb27a112e7038d82f051e610eeb818c8fb2e8102dd"), looks := false }, kinds := [], alts := [], laidByText := true, laidKinds := [.data, .pinned], laidTests := true, laidLooks := .later }
def BillReversedIsOppositeCardSaid : Prop := Claim7.holds Tryz.pinned (.plain (OpenSpec.ofChange billReversedIsOppositeSpec)) billReversedIsOppositeCard

/-- THE TIED CARD OF 'interchangetop.TopPaidInvoicesAreDone'. -/
def topPaidInvoicesAreDoneCard : Claim7 := { stood := { row := topPaidInvoicesAreDoneRow, standIns := [], harness := (true, "74558058a3cc24225bf8e5bb27a112e7038d82f051e610eeb818c8fb2e8102dd"), looks := false }, kinds := [], alts := [], laidByText := true, laidKinds := [.data, .pinned], laidTests := true, laidLooks := .later }
def TopPaidInvoicesAreDoneCardSaid : Prop := Claim7.holds Tryz.pinned (.plain (OpenSpec.ofChange topPaidInvoicesAreDoneSpec)) topPaidInvoicesAreDoneCard

/-- THE TIED CARD OF 'interchangelaw11.BillRightIsNotWrong'. -/
def billRightIsNotWrongCard : Claim7 := { stood := { row := billRightIsNotWrongRow, standIns := [], harness := (true, "74558058a3cc24225bf8e5bb27a112e7038d82f051e610eeb818c8fb2e8102dd"), looks := false }, kinds := [], alts := [], laidByText := true, laidKinds := [.data, .pinned], laidTests := true, laidLooks := .later }
def BillRightIsNotWrongCardSaid : Prop := Claim7.holds Tryz.pinned (.plain (OpenSpec.ofChange billRightIsNotWrongSpec)) billRightIsNotWrongCard

/-- THE TIED CARD OF 'interchangelaw11.BillWrongMatchesSpec'. -/
def billWrongMatchesSpecCard : Claim7 := { stood := { row := billWrongMatchesSpecRow, standIns := [], harness := (true, "74558058a3cc24225bf8e5bb27a112e7038d82f051e610eeb818c8fb2e8102dd"), looks := false }, kinds := [], alts := [], laidByText := true, laidKinds := [.data, .pinned], laidTests := true, laidLooks := .later }
def BillWrongMatchesSpecCardSaid : Prop := Claim7.holds Tryz.pinned (.plain (OpenSpec.ofChange billWrongMatchesSpecSpec)) billWrongMatchesSpecCard

/-- THE SECOND FORM's CARD OF 'interchangelaw11.BillTotalsMatchSpec'. -/
def billTotalsMatchSpecUptoCard : Claim7 := { stood := { row := billTotalsMatchSpecUptoRow, standIns := [], harness := (true, "74558058a3cc24225bf8e5bb27a112e7038d82f051e610eeb818c8fb2e8102dd"), looks := false }, kinds := [], alts := [], laidByText := true, laidKinds := [.data, .pinned], laidTests := true, laidLooks := .later }
def BillTotalsMatchSpecUptoCardSaid : Prop := Claim7.holds Tryz.pinned (.plain (OpenSpec.upto billTotalsMatchSpecSpec)) billTotalsMatchSpecUptoCard

/-- THE SECOND FORM's CARD OF 'interchangelaw11.BillTotalsAddUp'. -/
def billTotalsAddUpUptoCard : Claim7 := { stood := { row := billTotalsAddUpUptoRow, standIns := [], harness := (true, "74558058a3cc24225bf8e5bb27a112e7038d82f051e610eeb818c8fb2e8102dd"), looks := false }, kinds := [], alts := [], laidByText := true, laidKinds := [.data, .pinned], laidTests := true, laidLooks := .later }
def BillTotalsAddUpUptoCardSaid : Prop := Claim7.holds Tryz.pinned (.plain (OpenSpec.upto billTotalsAddUpSpec)) billTotalsAddUpUptoCard

/-- THE SECOND FORM's CARD OF 'interchangelaw11.BillReversedIsOpposite'. -/
def billReversedIsOppositeUptoCard : Claim7 := { stood := { row := billReversedIsOppositeUptoRow, standIns := [], harness := (true, "74558058a3cc24225bf8e5bb27a112e7038d82f051e610eeb818c8fb2e8102dd"), looks := false }, kinds := [], alts := [], laidByText := true, laidKinds := [.data, .pinned], laidTests := true, laidLooks := .later }
def BillReversedIsOppositeUptoCardSaid : Prop := Claim7.holds Tryz.pinned (.plain (OpenSpec.upto billReversedIsOppositeSpec)) billReversedIsOppositeUptoCard

/-- THE SECOND FORM's CARD OF 'interchangetop.TopPaidInvoicesAreDone'. -/
def topPaidInvoicesAreDoneUptoCard : Claim7 := { stood := { row := topPaidInvoicesAreDoneUptoRow, standIns := [], harness := (true, "74558058a3cc24225bf8e5bb27a112e7038d82f051e610eeb818c8fb2e8102dd"), looks := false }, kinds := [], alts := [], laidByText := true, laidKinds := [.data, .pinned], laidTests := true, laidLooks := .later }
def TopPaidInvoicesAreDoneUptoCardSaid : Prop := Claim7.holds Tryz.pinned (.plain (OpenSpec.upto topPaidInvoicesAreDoneSpec)) topPaidInvoicesAreDoneUptoCard

/-- THE SECOND FORM's CARD OF 'interchangelaw11.BillRightIsNotWrong'. -/
def billRightIsNotWrongUptoCard : Claim7 := { stood := { row := billRightIsNotWrongUptoRow, standIns := [], harness := (true, "74558058a3cc24225bf8e5bb27a112e7038d82f051e610eeb818c8fb2e8102dd"), looks := false }, kinds := [], alts := [], laidByText := true, laidKinds := [.data, .pinned], laidTests := true, laidLooks := .later }
def BillRightIsNotWrongUptoCardSaid : Prop := Claim7.holds Tryz.pinned (.plain (OpenSpec.upto billRightIsNotWrongSpec)) billRightIsNotWrongUptoCard

/-- THE SECOND FORM's CARD OF 'interchangelaw11.BillWrongMatchesSpec'. -/
def billWrongMatchesSpecUptoCard : Claim7 := { stood := { row := billWrongMatchesSpecUptoRow, standIns := [], harness := (true, "74558058a3cc24225bf8e5bb27a112e7038d82f051e610eeb818c8fb2e8102dd"), looks := false }, kinds := [], alts := [], laidByText := true, laidKinds := [.data, .pinned], laidTests := true, laidLooks := .later }
def BillWrongMatchesSpecUptoCardSaid : Prop := Claim7.holds Tryz.pinned (.plain (OpenSpec.upto billWrongMatchesSpecSpec)) billWrongMatchesSpecUptoCard
end Rows
end Go.Proofs.YtalfglakknbjkaaGreatDoor
