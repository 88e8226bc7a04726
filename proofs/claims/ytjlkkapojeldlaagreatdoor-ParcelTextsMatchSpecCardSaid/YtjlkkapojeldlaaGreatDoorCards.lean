/-
  DERIVED. GIVEN WITH THE SEED: THE CARDS: each row of YtjlkkapojeldlaaGreatDoorRows.lean that lists a variable, with what it lists TIED to the program's text (the seventh form; the later family's looks); each row that meets fmt, with fmt's text TOLD by the authors' own Lean function (tested against real Go, not proved from fmt's source: count such statements apart). THE CARD IS WHAT COUNTS. Prove the row's statement (the work); the ties are given (YtjlkkapojeldlaaGreatDoorTie.lean); close each card by the builder's one call (the guide's Derived/Test/ToyasCard.lean, 'card_holds'). Laid BY PROGRAM, IN A SANDBOX (cutbox-door.mjs). By AI agents, Wed Nov 11 2026. No macro, syntax, notation, axiom, sorry.
-/
import Derived.Test.YtjlkkapojeldlaaGreatDoorRows
import GoSem.ClaimSeven
namespace Go.Proofs.YtjlkkapojeldlaaGreatDoor
namespace Rows

/-- THE TIED CARD OF 'interchangelaw10.ParcelReadsMatchSpec'. -/
def parcelReadsMatchSpecCard : Claim7 := { stood := { row := parcelReadsMatchSpecRow, standIns := [], harness := (true, "6e462b0741e5ac181c2b3b4f214990f8c38dd739ef24394090ad2b8ecacfa2b9"), looks := true }, kinds := [], alts := [], laidByText := true, laidKinds := [.data, .data, .data, .data, .sentinel, .sentinel, .pinned], laidTests := true, laidLooks := .later }
def ParcelReadsMatchSpecCardSaid : Prop := Claim7.holds Tryz.pinned (.plain (OpenSpec.ofChange parcelReadsMatchSpecSpec)) parcelReadsMatchSpecCard

/-- THE TIED CARD OF 'interchangelaw10.ParcelTextsMatchSpec'. -/
def parcelTextsMatchSpecCard : Claim7 := { stood := { row := parcelTextsMatchSpecRow, standIns := [], harness := (true, "6e462b0741e5ac181c2b3b4f214990f8c38dd739ef24394090ad2b8ecacfa2b9"), looks := true }, kinds := [], alts := [], laidByText := true, laidKinds := [.data, .data, .data, .data, .sentinel, .sentinel, .pinned], laidTests := true, laidLooks := .later }
def ParcelTextsMatchSpecCardSaid : Prop := Claim7.holds Tryz.pinned (.plain (OpenSpec.ofChange parcelTextsMatchSpecSpec)) parcelTextsMatchSpecCard

/-- THE SECOND FORM's CARD OF 'interchangelaw10.ParcelReadsMatchSpec'. -/
def parcelReadsMatchSpecUptoCard : Claim7 := { stood := { row := parcelReadsMatchSpecUptoRow, standIns := [], harness := (true, "6e462b0741e5ac181c2b3b4f214990f8c38dd739ef24394090ad2b8ecacfa2b9"), looks := true }, kinds := [], alts := [], laidByText := true, laidKinds := [.data, .data, .data, .data, .sentinel, .sentinel, .pinned], laidTests := true, laidLooks := .later }
def ParcelReadsMatchSpecUptoCardSaid : Prop := Claim7.holds Tryz.pinned (.plain (OpenSpec.upto parcelReadsMatchSpecSpec)) parcelReadsMatchSpecUptoCard

/-- THE SECOND FORM's CARD OF 'interchangelaw10.ParcelTextsMatchSpec'. -/
def parcelTextsMatchSpecUptoCard : Claim7 := { stood := { row := parcelTextsMatchSpecUptoRow, standIns := [], harness := (true, "6e462b0741e5ac181c2b3b4f214990f8c38dd739ef24394090ad2b8ecacfa2b9"), looks := true }, kinds := [], alts := [], laidByText := true, laidKinds := [.data, .data, .data, .data, .sentinel, .sentinel, .pinned], laidTests := true, laidLooks := .later }
def ParcelTextsMatchSpecUptoCardSaid : Prop := Claim7.holds Tryz.pinned (.plain (OpenSpec.upto parcelTextsMatchSpecSpec)) parcelTextsMatchSpecUptoCard
end Rows
end Go.Proofs.YtjlkkapojeldlaaGreatDoor
