/-
  DERIVED. GIVEN WITH THE SEED: THE CARDS: each row of YtilaijcbckgmmabGreatDoorRows.lean that lists a variable, with what it lists TIED to the program's text (the seventh form; the later family's looks); each row that meets fmt, with fmt's text TOLD by the authors' own Lean function (tested against real Go, not proved from fmt's source: count such statements apart). THE CARD IS WHAT COUNTS. Prove the row's statement (the work); the ties are given (YtilaijcbckgmmabGreatDoorTie.lean); close each card by the builder's one call (the guide's Derived/Test/ToyasCard.lean, 'card_holds'). Laid BY PROGRAM, IN A SANDBOX (cutbox-door.mjs). By AI agents, Wed Nov 11 2026. No macro, syntax, notation, axiom, sorry.
-/
import Derived.Test.YtilaijcbckgmmabGreatDoorRows
import GoSem.ClaimSeven
namespace Go.Proofs.YtilaijcbckgmmabGreatDoor
namespace Rows

/-- THE TIED CARD OF 'interchangelaw11.BillUnbilledMatchesSpec'. -/
def billUnbilledMatchesSpecCard : Claim7 := { stood := { row := billUnbilledMatchesSpecRow, standIns := [], harness := (true, "fffc849a97060a681ab6891436cf6bacbe15f46d6490abf644dca9fed426633e"), looks := false }, kinds := [], alts := [], laidByText := true, laidKinds := [.data, .pinned], laidTests := true, laidLooks := .later }
def BillUnbilledMatchesSpecCardSaid : Prop := Claim7.holds Tryz.pinned (.plain (OpenSpec.ofChange billUnbilledMatchesSpecSpec)) billUnbilledMatchesSpecCard

/-- THE SECOND FORM's CARD OF 'interchangelaw11.BillUnbilledMatchesSpec'. -/
def billUnbilledMatchesSpecUptoCard : Claim7 := { stood := { row := billUnbilledMatchesSpecUptoRow, standIns := [], harness := (true, "fffc849a97060a681ab6891436cf6bacbe15f46d6490abf644dca9fed426633e"), looks := false }, kinds := [], alts := [], laidByText := true, laidKinds := [.data, .pinned], laidTests := true, laidLooks := .later }
def BillUnbilledMatchesSpecUptoCardSaid : Prop := Claim7.holds Tryz.pinned (.plain (OpenSpec.upto billUnbilledMatchesSpecSpec)) billUnbilledMatchesSpecUptoCard
end Rows
end Go.Proofs.YtilaijcbckgmmabGreatDoor
