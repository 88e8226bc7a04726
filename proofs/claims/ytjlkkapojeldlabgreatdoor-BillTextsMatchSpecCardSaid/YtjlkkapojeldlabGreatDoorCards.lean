/-
  DERIVED. GIVEN WITH THE SEED: THE CARDS: each row of YtjlkkapojeldlabGreatDoorRows.lean that lists a variable, with what it lists TIED to the program's text (the seventh form; the later family's looks); each row that meets fmt, with fmt's text TOLD by the authors' own Lean function (tested against real Go, not proved from fmt's source: count such statements apart). THE CARD IS WHAT COUNTS. Prove the row's statement (the work); the ties are given (YtjlkkapojeldlabGreatDoorTie.lean); close each card by the builder's one call (the guide's Derived/Test/ToyasCard.lean, 'card_holds'). Laid BY PROGRAM, IN A SANDBOX (cutbox-door.mjs). By AI agents, Wed Nov 11 2026. No macro, syntax, notation, axiom, sorry.
-/
import Derived.Test.YtjlkkapojeldlabGreatDoorRows
import GoSem.ClaimSeven
namespace Go.Proofs.YtjlkkapojeldlabGreatDoor
namespace Rows

/-- THE TIED CARD OF 'interchangelaw11.BillReadsMatchSpec'. -/
def billReadsMatchSpecCard : Claim7 := { stood := { row := billReadsMatchSpecRow, standIns := [], harness := (true, "4d24a4669cf9112acc6359e338a9132e41a397b45bfc51e391c20d52605c312f"), looks := true }, kinds := [], alts := [], laidByText := true, laidKinds := [.data, .data, .data, .data, .sentinel, .sentinel, .pinned], laidTests := true, laidLooks := .later }
def BillReadsMatchSpecCardSaid : Prop := Claim7.holds Tryz.pinned (.plain (OpenSpec.ofChange billReadsMatchSpecSpec)) billReadsMatchSpecCard

/-- THE TIED CARD OF 'interchangelaw11.BillTextsMatchSpec'. -/
def billTextsMatchSpecCard : Claim7 := { stood := { row := billTextsMatchSpecRow, standIns := [], harness := (true, "4d24a4669cf9112acc6359e338a9132e41a397b45bfc51e391c20d52605c312f"), looks := true }, kinds := [], alts := [], laidByText := true, laidKinds := [.data, .data, .data, .data, .sentinel, .sentinel, .pinned], laidTests := true, laidLooks := .later }
def BillTextsMatchSpecCardSaid : Prop := Claim7.holds Tryz.pinned (.plain (OpenSpec.ofChange billTextsMatchSpecSpec)) billTextsMatchSpecCard

/-- THE SECOND FORM's CARD OF 'interchangelaw11.BillReadsMatchSpec'. -/
def billReadsMatchSpecUptoCard : Claim7 := { stood := { row := billReadsMatchSpecUptoRow, standIns := [], harness := (true, "4d24a4669cf9112acc6359e338a9132e41a397b45bfc51e391c20d52605c312f"), looks := true }, kinds := [], alts := [], laidByText := true, laidKinds := [.data, .data, .data, .data, .sentinel, .sentinel, .pinned], laidTests := true, laidLooks := .later }
def BillReadsMatchSpecUptoCardSaid : Prop := Claim7.holds Tryz.pinned (.plain (OpenSpec.upto billReadsMatchSpecSpec)) billReadsMatchSpecUptoCard

/-- THE SECOND FORM's CARD OF 'interchangelaw11.BillTextsMatchSpec'. -/
def billTextsMatchSpecUptoCard : Claim7 := { stood := { row := billTextsMatchSpecUptoRow, standIns := [], harness := (true, "4d24a4669cf9112acc6359e338a9132e41a397b45bfc51e391c20d52605c312f"), looks := true }, kinds := [], alts := [], laidByText := true, laidKinds := [.data, .data, .data, .data, .sentinel, .sentinel, .pinned], laidTests := true, laidLooks := .later }
def BillTextsMatchSpecUptoCardSaid : Prop := Claim7.holds Tryz.pinned (.plain (OpenSpec.upto billTextsMatchSpecSpec)) billTextsMatchSpecUptoCard
end Rows
end Go.Proofs.YtjlkkapojeldlabGreatDoor
