/-
  DERIVED. GIVEN WITH THE SEED: THE CARDS: each row of YtcpmaicaibdafaaGreatDoorRows.lean that lists a variable, with what it lists TIED to the program's text (the seventh form; the later family's looks); each row that meets fmt, with fmt's text TOLD by the authors' own Lean function (tested against real Go, not proved from fmt's source: count such statements apart). THE CARD IS WHAT COUNTS. Prove the row's statement (the work); the ties are given (YtcpmaicaibdafaaGreatDoorTie.lean); close each card by the builder's one call (the guide's Derived/Test/ToyasCard.lean, 'card_holds'). Laid BY PROGRAM, IN A SANDBOX (cutbox-door.mjs). By AI agents, Wed Nov 11 2026. No macro, syntax, notation, axiom, sorry.
-/
import Derived.Test.YtcpmaicaibdafaaGreatDoorRows
import GoSem.ClaimSeven
namespace Go.Proofs.YtcpmaicaibdafaaGreatDoor
namespace Rows

/-- THE TIED CARD OF 'interchangelaw11.BillEarlierInvoicesStay'. -/
def billEarlierInvoicesStayCard : Claim7 := { stood := { row := billEarlierInvoicesStayRow, standIns := [], harness := (true, "e9fc5e1bdefd04456a97a61067f807308130610689e8d7da67b8eba91b5ffad4"), looks := false }, kinds := [], alts := [], laidByText := true, laidKinds := [.data, .pinned], laidTests := true, laidLooks := .later }
def BillEarlierInvoicesStayCardSaid : Prop := Claim7.holds Tryz.pinned (.plain (OpenSpec.ofChange billEarlierInvoicesStaySpec)) billEarlierInvoicesStayCard

/-- THE TIED CARD OF 'interchangelaw11.BillMatchesMatchSpec'. -/
def billMatchesMatchSpecCard : Claim7 := { stood := { row := billMatchesMatchSpecRow, standIns := [], harness := (true, "e9fc5e1bdefd04456a97a61067f807308130610689e8d7da67b8eba91b5ffad4"), looks := false }, kinds := [], alts := [], laidByText := true, laidKinds := [.data, .pinned], laidTests := true, laidLooks := .later }
def BillMatchesMatchSpecCardSaid : Prop := Claim7.holds Tryz.pinned (.plain (OpenSpec.ofChange billMatchesMatchSpecSpec)) billMatchesMatchSpecCard

/-- THE TIED CARD OF 'interchangelaw11.BillUnbilledMatchesSpec'. -/
def billUnbilledMatchesSpecCard : Claim7 := { stood := { row := billUnbilledMatchesSpecRow, standIns := [], harness := (true, "e9fc5e1bdefd04456a97a61067f807308130610689e8d7da67b8eba91b5ffad4"), looks := false }, kinds := [], alts := [], laidByText := true, laidKinds := [.data, .pinned], laidTests := true, laidLooks := .later }
def BillUnbilledMatchesSpecCardSaid : Prop := Claim7.holds Tryz.pinned (.plain (OpenSpec.ofChange billUnbilledMatchesSpecSpec)) billUnbilledMatchesSpecCard

/-- THE TIED CARD OF 'interchangelaw11.BillBilledMatches'. -/
def billBilledMatchesCard : Claim7 := { stood := { row := billBilledMatchesRow, standIns := [], harness := (true, "e9fc5e1bdefd04456a97a61067f807308130610689e8d7da67b8eba91b5ffad4"), looks := false }, kinds := [], alts := [], laidByText := true, laidKinds := [.data, .pinned], laidTests := true, laidLooks := .later }
def BillBilledMatchesCardSaid : Prop := Claim7.holds Tryz.pinned (.plain (OpenSpec.ofChange billBilledMatchesSpec)) billBilledMatchesCard

/-- THE TIED CARD OF 'interchangetop.TopReversedInvoicesCancel'. -/
def topReversedInvoicesCancelCard : Claim7 := { stood := { row := topReversedInvoicesCancelRow, standIns := [], harness := (true, "e9fc5e1bdefd04456a97a61067f807308130610689e8d7da67b8eba91b5ffad4"), looks := false }, kinds := [], alts := [], laidByText := true, laidKinds := [.data, .pinned], laidTests := true, laidLooks := .later }
def TopReversedInvoicesCancelCardSaid : Prop := Claim7.holds Tryz.pinned (.plain (OpenSpec.ofChange topReversedInvoicesCancelSpec)) topReversedInvoicesCancelCard

/-- THE SECOND FORM's CARD OF 'interchangelaw11.BillEarlierInvoicesStay'. -/
def billEarlierInvoicesStayUptoCard : Claim7 := { stood := { row := billEarlierInvoicesStayUptoRow, standIns := [], harness := (true, "e9fc5e1bdefd04456a97a61067f807308130610689e8d7da67b8eba91b5ffad4"), looks := false }, kinds := [], alts := [], laidByText := true, laidKinds := [.data, .pinned], laidTests := true, laidLooks := .later }
def BillEarlierInvoicesStayUptoCardSaid : Prop := Claim7.holds Tryz.pinned (.plain (OpenSpec.upto billEarlierInvoicesStaySpec)) billEarlierInvoicesStayUptoCard

/-- THE SECOND FORM's CARD OF 'interchangelaw11.BillMatchesMatchSpec'. -/
def billMatchesMatchSpecUptoCard : Claim7 := { stood := { row := billMatchesMatchSpecUptoRow, standIns := [], harness := (true, "e9fc5e1bdefd04456a97a61067f807308130610689e8d7da67b8eba91b5ffad4"), looks := false }, kinds := [], alts := [], laidByText := true, laidKinds := [.data, .pinned], laidTests := true, laidLooks := .later }
def BillMatchesMatchSpecUptoCardSaid : Prop := Claim7.holds Tryz.pinned (.plain (OpenSpec.upto billMatchesMatchSpecSpec)) billMatchesMatchSpecUptoCard

/-- THE SECOND FORM's CARD OF 'interchangelaw11.BillUnbilledMatchesSpec'. -/
def billUnbilledMatchesSpecUptoCard : Claim7 := { stood := { row := billUnbilledMatchesSpecUptoRow, standIns := [], harness := (true, "e9fc5e1bdefd04456a97a61067f807308130610689e8d7da67b8eba91b5ffad4"), looks := false }, kinds := [], alts := [], laidByText := true, laidKinds := [.data, .pinned], laidTests := true, laidLooks := .later }
def BillUnbilledMatchesSpecUptoCardSaid : Prop := Claim7.holds Tryz.pinned (.plain (OpenSpec.upto billUnbilledMatchesSpecSpec)) billUnbilledMatchesSpecUptoCard

/-- THE SECOND FORM's CARD OF 'interchangelaw11.BillBilledMatches'. -/
def billBilledMatchesUptoCard : Claim7 := { stood := { row := billBilledMatchesUptoRow, standIns := [], harness := (true, "e9fc5e1bdefd04456a97a61067f807308130610689e8d7da67b8eba91b5ffad4"), looks := false }, kinds := [], alts := [], laidByText := true, laidKinds := [.data, .pinned], laidTests := true, laidLooks := .later }
def BillBilledMatchesUptoCardSaid : Prop := Claim7.holds Tryz.pinned (.plain (OpenSpec.upto billBilledMatchesSpec)) billBilledMatchesUptoCard

/-- THE SECOND FORM's CARD OF 'interchangetop.TopReversedInvoicesCancel'. -/
def topReversedInvoicesCancelUptoCard : Claim7 := { stood := { row := topReversedInvoicesCancelUptoRow, standIns := [], harness := (true, "e9fc5e1bdefd04456a97a61067f807308130610689e8d7da67b8eba91b5ffad4"), looks := false }, kinds := [], alts := [], laidByText := true, laidKinds := [.data, .pinned], laidTests := true, laidLooks := .later }
def TopReversedInvoicesCancelUptoCardSaid : Prop := Claim7.holds Tryz.pinned (.plain (OpenSpec.upto topReversedInvoicesCancelSpec)) topReversedInvoicesCancelUptoCard
end Rows
end Go.Proofs.YtcpmaicaibdafaaGreatDoor
