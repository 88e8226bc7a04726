/-
  DERIVED. GIVEN WITH THE SEED: THE CARDS: each row of YtglaikpklmafkaaGreatDoorRows.lean that lists a variable, with what it lists TIED to the program's text (the seventh form; the later family's looks); each row that meets fmt, with fmt's text TOLD by the authors' own Lean function (tested against real Go, not proved from fmt's source: count such statements apart). THE CARD IS WHAT COUNTS. Prove the row's statement (the work); the ties are given (YtglaikpklmafkaaGreatDoorTie.lean); close each card by the builder's one call (the guide's Derived/Test/ToyasCard.lean, 'card_holds'). Laid BY PROGRAM, IN A SANDBOX (cutbox-door.mjs). By AI agents, Wed Nov 11 2026. No macro, syntax, notation, axiom, sorry.
-/
import Derived.Test.YtglaikpklmafkaaGreatDoorRows
import GoSem.ClaimSeven
namespace Go.Proofs.YtglaikpklmafkaaGreatDoor
namespace Rows

/-- THE TIED CARD OF 'interchangelaw10.ParcelAdvicesMatchSpec'. -/
def parcelAdvicesMatchSpecCard : Claim7 := { stood := { row := parcelAdvicesMatchSpecRow, standIns := [], harness := (true, "208e8eb21b7bfd180d9456a1dbc6d348f0076eda4320c4dad0d14fee1f43ecc1"), looks := false }, kinds := [], alts := [], laidByText := true, laidKinds := [.data, .data, .data, .data, .pinned], laidTests := true, laidLooks := .later }
def ParcelAdvicesMatchSpecCardSaid : Prop := Claim7.holds Tryz.pinned (.plain (OpenSpec.ofChange parcelAdvicesMatchSpecSpec)) parcelAdvicesMatchSpecCard

/-- THE TIED CARD OF 'interchangelaw10.ParcelWeightsMatchSpec'. -/
def parcelWeightsMatchSpecCard : Claim7 := { stood := { row := parcelWeightsMatchSpecRow, standIns := [], harness := (true, "208e8eb21b7bfd180d9456a1dbc6d348f0076eda4320c4dad0d14fee1f43ecc1"), looks := false }, kinds := [], alts := [], laidByText := true, laidKinds := [.data, .data, .data, .data, .pinned], laidTests := true, laidLooks := .later }
def ParcelWeightsMatchSpecCardSaid : Prop := Claim7.holds Tryz.pinned (.plain (OpenSpec.ofChange parcelWeightsMatchSpecSpec)) parcelWeightsMatchSpecCard

/-- THE TIED CARD OF 'interchangelaw10.ParcelLaysAddUp'. -/
def parcelLaysAddUpCard : Claim7 := { stood := { row := parcelLaysAddUpRow, standIns := [], harness := (true, "208e8eb21b7bfd180d9456a1dbc6d348f0076eda4320c4dad0d14fee1f43ecc1"), looks := false }, kinds := [], alts := [], laidByText := true, laidKinds := [.data, .data, .data, .data, .pinned], laidTests := true, laidLooks := .later }
def ParcelLaysAddUpCardSaid : Prop := Claim7.holds Tryz.pinned (.plain (OpenSpec.ofChange parcelLaysAddUpSpec)) parcelLaysAddUpCard

/-- THE SECOND FORM's CARD OF 'interchangelaw10.ParcelAdvicesMatchSpec'. -/
def parcelAdvicesMatchSpecUptoCard : Claim7 := { stood := { row := parcelAdvicesMatchSpecUptoRow, standIns := [], harness := (true, "208e8eb21b7bfd180d9456a1dbc6d348f0076eda4320c4dad0d14fee1f43ecc1"), looks := false }, kinds := [], alts := [], laidByText := true, laidKinds := [.data, .data, .data, .data, .pinned], laidTests := true, laidLooks := .later }
def ParcelAdvicesMatchSpecUptoCardSaid : Prop := Claim7.holds Tryz.pinned (.plain (OpenSpec.upto parcelAdvicesMatchSpecSpec)) parcelAdvicesMatchSpecUptoCard

/-- THE SECOND FORM's CARD OF 'interchangelaw10.ParcelWeightsMatchSpec'. -/
def parcelWeightsMatchSpecUptoCard : Claim7 := { stood := { row := parcelWeightsMatchSpecUptoRow, standIns := [], harness := (true, "208e8eb21b7bfd180d9456a1dbc6d348f0076eda4320c4dad0d14fee1f43ecc1"), looks := false }, kinds := [], alts := [], laidByText := true, laidKinds := [.data, .data, .data, .data, .pinned], laidTests := true, laidLooks := .later }
def ParcelWeightsMatchSpecUptoCardSaid : Prop := Claim7.holds Tryz.pinned (.plain (OpenSpec.upto parcelWeightsMatchSpecSpec)) parcelWeightsMatchSpecUptoCard

/-- THE SECOND FORM's CARD OF 'interchangelaw10.ParcelLaysAddUp'. -/
def parcelLaysAddUpUptoCard : Claim7 := { stood := { row := parcelLaysAddUpUptoRow, standIns := [], harness := (true, "208e8eb21b7bfd180d9456a1dbc6d348f0076eda4320c4dad0d14fee1f43ecc1"), looks := false }, kinds := [], alts := [], laidByText := true, laidKinds := [.data, .data, .data, .data, .pinned], laidTests := true, laidLooks := .later }
def ParcelLaysAddUpUptoCardSaid : Prop := Claim7.holds Tryz.pinned (.plain (OpenSpec.upto parcelLaysAddUpSpec)) parcelLaysAddUpUptoCard
end Rows
end Go.Proofs.YtglaikpklmafkaaGreatDoor
