/-
  DERIVED. GIVEN WITH THE SEED: THE CARDS: each row of YtokceoajcccdiaaGreatDoorRows.lean that lists a variable, with what it lists TIED to the program's text (the seventh form; the later family's looks); each row that meets fmt, with fmt's text TOLD by the authors' own Lean function (tested against real Go, not proved from fmt's source: count such statements apart). THE CARD IS WHAT COUNTS. Prove the row's statement (the work); the ties are given (YtokceoajcccdiaaGreatDoorTie.lean); close each card by the builder's one call (the guide's Derived/Test/ToyasCard.lean, 'card_holds'). Laid BY PROGRAM, IN A SANDBOX (cutbox-door.mjs). By AI agents, Wed Nov 11 2026. No macro, syntax, notation, axiom, sorry.
-/
import Derived.Test.YtokceoajcccdiaaGreatDoorRows
import GoSem.ClaimSeven
namespace Go.Proofs.YtokceoajcccdiaaGreatDoor
namespace Rows

/-- THE TIED CARD OF 'interchangelaw9.OrderTextsMatchSpec'. -/
def orderTextsMatchSpecCard : Claim7 := { stood := { row := orderTextsMatchSpecRow, standIns := [], harness := (true, "30e583a700b4178e59895ddbecd32337fea7d6f2348761cdf782f4624dd55779"), looks := true }, kinds := [], alts := [], laidByText := true, laidKinds := [.data, .data, .data, .data, .sentinel, .sentinel, .pinned], laidTests := true, laidLooks := .later }
def OrderTextsMatchSpecCardSaid : Prop := Claim7.holds Tryz.pinned (.plain (OpenSpec.ofChange orderTextsMatchSpecSpec)) orderTextsMatchSpecCard

/-- THE SECOND FORM's CARD OF 'interchangelaw9.OrderTextsMatchSpec'. -/
def orderTextsMatchSpecUptoCard : Claim7 := { stood := { row := orderTextsMatchSpecUptoRow, standIns := [], harness := (true, "30e583a700b4178e59895ddbecd32337fea7d6f2348761cdf782f4624dd55779"), looks := true }, kinds := [], alts := [], laidByText := true, laidKinds := [.data, .data, .data, .data, .sentinel, .sentinel, .pinned], laidTests := true, laidLooks := .later }
def OrderTextsMatchSpecUptoCardSaid : Prop := Claim7.holds Tryz.pinned (.plain (OpenSpec.upto orderTextsMatchSpecSpec)) orderTextsMatchSpecUptoCard
end Rows
end Go.Proofs.YtokceoajcccdiaaGreatDoor
