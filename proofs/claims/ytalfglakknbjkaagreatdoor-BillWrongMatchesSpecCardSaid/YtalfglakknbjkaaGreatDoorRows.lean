/-
  NARROWER THAN 'FOR EVERY INPUT', by the rows' own cells (each row's printed sentence says how): BillTotalsMatchSpec: laid · BillTotalsAddUp: laid · BillReversedIsOpposite: laid · TopPaidInvoicesAreDone: laid · BillRightIsNotWrong: laid · BillWrongMatchesSpec: laid.
  DERIVED. THE GIVEN ROWS OF THIS SEAT. 6 by the template 'for every input the law returns true; each argument reads behind the call as it read before'; 0 by the template 'total and deterministic' (their statements: YtalfglakknbjkaaGreatDoorTotals.lean).
  GIVEN WITH THE SEED: the statements are not yours to turn. If you find one false, say at which input.
  Laid BY PROGRAM, IN A SANDBOX (cutbox-rows.mjs): the forced cells as the released guide's own fill.sh prints them over the translation 23dda41cfae1053c… (all of the seat's roots in one cut). By AI agents, Wed Nov 11 2026. No macro, syntax, notation, axiom, sorry.
-/
import Derived.Test.YtalfglakknbjkaaGreatDoorChecked
import GoSem.PinnedTables
import GoSem.Claim
import GoSem.ClaimJoined
import GoSem.ClaimMapViews
import Derived.JoinedTies
import Derived.KernelRfl
namespace Go.Proofs.YtalfglakknbjkaaGreatDoor
/- THE CELL 'sum', in the pinned program and in every row, IS THE sha256 OF THE DUMP (.gsa) THAT YtalfglakknbjkaaGreatDoorProg.lean LOADS. Nothing in Lean hashes anything: it is a label: what it is worth is what the hold of that sum in a sandbox is worth. -/
noncomputable def Tryz.pinned : Pinned := { name := "ytalfglakknbjkaagreatdoor", sum := "23dda41cfae1053c01918303dab9d3a823ab8c7c7a90dffc238ab4c95b9e4061", checked := Tryz.checked }
namespace Rows
def none {H : Type} : Left H := { results := [], args := [] }

/- WHAT THE LISTED PACKAGE-LEVEL VARIABLES READ AS WHEN THE CALL BEGINS. Each datum BY PROGRAM (the guide's laid-datum.mjs) off the statement by which the dump's own 'gosem.cut.vars' lays the variable. In a bare row this is a premise. The card (YtalfglakknbjkaaGreatDoorCards.lean) ties it to the program's text. -/
def laid_unicode_utf8_acceptRanges {H : Type} : DataW H := .agg [.agg [.lit (.int .u8 128), .lit (.int .u8 191)], .agg [.lit (.int .u8 160), .lit (.int .u8 191)], .agg [.lit (.int .u8 128), .lit (.int .u8 159)], .agg [.lit (.int .u8 144), .lit (.int .u8 191)], .agg [.lit (.int .u8 128), .lit (.int .u8 143)], .agg [.lit (.int .u8 0), .lit (.int .u8 0)], .agg [.lit (.int .u8 0), .lit (.int .u8 0)], .agg [.lit (.int .u8 0), .lit (.int .u8 0)], .agg [.lit (.int .u8 0), .lit (.int .u8 0)], .agg [.lit (.int .u8 0), .lit (.int .u8 0)], .agg [.lit (.int .u8 0), .lit (.int .u8 0)], .agg [.lit (.int .u8 0), .lit (.int .u8 0)], .agg [.lit (.int .u8 0), .lit (.int .u8 0)], .agg [.lit (.int .u8 0), .lit (.int .u8 0)], .agg [.lit (.int .u8 0), .lit (.int .u8 0)], .agg [.lit (.int .u8 0), .lit (.int .u8 0)]]
/-- One of Go's own tables, pinned by name: the form's constant. -/
def laid_unicode_utf8_first : DataW Unit := Go.Pinned.utf8First

/-- 'interchangelaw11.BillTotalsMatchSpec': WHATEVER THE INPUT: true; the input reads as it did. -/
def billTotalsMatchSpecSpec : ChangeSpec := { name := "billTotalsMatchSpec", fn := fun _ => fun
  | [d] => { results := [.lit (.bool true)], args := [d] }
  | _ => none }
def billTotalsMatchSpecRow : OpenClaim := { program := "ytalfglakknbjkaagreatdoor", sum := "23dda41cfae1053c01918303dab9d3a823ab8c7c7a90dffc238ab4c95b9e4061", func := "interchange/interchangelaw11.BillTotalsMatchSpec", spec := "billTotalsMatchSpec", inPlace := ["internal/bytealg.IndexByteString", "internal/bytealg.IndexString", "internal/bytealg.abigen_runtime_cmpstring"], unfollowed := true, recurses := true, named := ["unicode/utf8.first", "unicode/utf8.acceptRanges", "internal/bytealg.MaxLen"], apart := false, laid := [("unicode/utf8.acceptRanges", laid_unicode_utf8_acceptRanges), ("unicode/utf8.first", laid_unicode_utf8_first)] }
def BillTotalsMatchSpecSaid : Prop := billTotalsMatchSpecRow.holds Tryz.pinned (OpenSpec.ofChange billTotalsMatchSpecSpec)

/-- ITS FALSE NEIGHBOUR: 'it returns false'. Refute it at one input. -/
def billTotalsMatchSpecWrong : ChangeSpec := { name := "billTotalsMatchSpec", fn := fun _ => fun
  | [d] => { results := [.lit (.bool false)], args := [d] }
  | _ => none }
def BillTotalsMatchSpecWrongFalsely : Prop := billTotalsMatchSpecRow.holds Tryz.pinned (OpenSpec.ofChange billTotalsMatchSpecWrong)

/-- 'interchangelaw11.BillTotalsAddUp': WHATEVER THE INPUT: true; the input reads as it did. -/
def billTotalsAddUpSpec : ChangeSpec := { name := "billTotalsAddUp", fn := fun _ => fun
  | [d] => { results := [.lit (.bool true)], args := [d] }
  | _ => none }
def billTotalsAddUpRow : OpenClaim := { program := "ytalfglakknbjkaagreatdoor", sum := "23dda41cfae1053c01918303dab9d3a823ab8c7c7a90dffc238ab4c95b9e4061", func := "interchange/interchangelaw11.BillTotalsAddUp", spec := "billTotalsAddUp", inPlace := ["internal/bytealg.IndexByteString", "internal/bytealg.IndexString", "internal/bytealg.abigen_runtime_cmpstring"], unfollowed := true, recurses := true, named := ["unicode/utf8.first", "unicode/utf8.acceptRanges", "internal/bytealg.MaxLen"], apart := false, laid := [("unicode/utf8.acceptRanges", laid_unicode_utf8_acceptRanges), ("unicode/utf8.first", laid_unicode_utf8_first)] }
def BillTotalsAddUpSaid : Prop := billTotalsAddUpRow.holds Tryz.pinned (OpenSpec.ofChange billTotalsAddUpSpec)

/-- ITS FALSE NEIGHBOUR: 'it returns false'. Refute it at one input. -/
def billTotalsAddUpWrong : ChangeSpec := { name := "billTotalsAddUp", fn := fun _ => fun
  | [d] => { results := [.lit (.bool false)], args := [d] }
  | _ => none }
def BillTotalsAddUpWrongFalsely : Prop := billTotalsAddUpRow.holds Tryz.pinned (OpenSpec.ofChange billTotalsAddUpWrong)

/-- 'interchangelaw11.BillReversedIsOpposite': WHATEVER THE INPUT: true; the input reads as it did. -/
def billReversedIsOppositeSpec : ChangeSpec := { name := "billReversedIsOpposite", fn := fun _ => fun
  | [d1, d2, d3] => { results := [.lit (.bool true)], args := [d1, d2, d3] }
  | _ => none }
def billReversedIsOppositeRow : OpenClaim := { program := "ytalfglakknbjkaagreatdoor", sum := "23dda41cfae1053c01918303dab9d3a823ab8c7c7a90dffc238ab4c95b9e4061", func := "interchange/interchangelaw11.BillReversedIsOpposite", spec := "billReversedIsOpposite", inPlace := ["internal/bytealg.IndexByteString", "internal/bytealg.IndexString", "internal/bytealg.abigen_runtime_cmpstring"], unfollowed := true, recurses := true, named := ["unicode/utf8.first", "unicode/utf8.acceptRanges", "internal/bytealg.MaxLen"], apart := false, laid := [("unicode/utf8.acceptRanges", laid_unicode_utf8_acceptRanges), ("unicode/utf8.first", laid_unicode_utf8_first)] }
def BillReversedIsOppositeSaid : Prop := billReversedIsOppositeRow.holds Tryz.pinned (OpenSpec.ofChange billReversedIsOppositeSpec)

/-- ITS FALSE NEIGHBOUR: 'it returns false'. Refute it at one input. -/
def billReversedIsOppositeWrong : ChangeSpec := { name := "billReversedIsOpposite", fn := fun _ => fun
  | [d1, d2, d3] => { results := [.lit (.bool false)], args := [d1, d2, d3] }
  | _ => none }
def BillReversedIsOppositeWrongFalsely : Prop := billReversedIsOppositeRow.holds Tryz.pinned (OpenSpec.ofChange billReversedIsOppositeWrong)

/-- 'interchangetop.TopPaidInvoicesAreDone': WHATEVER THE INPUT: true; the input reads as it did. -/
def topPaidInvoicesAreDoneSpec : ChangeSpec := { name := "topPaidInvoicesAreDone", fn := fun _ => fun
  | [d1, d2] => { results := [.lit (.bool true)], args := [d1, d2] }
  | _ => none }
def topPaidInvoicesAreDoneRow : OpenClaim := { program := "ytalfglakknbjkaagreatdoor", sum := "23dda41cfae1053c01918303dab9d3a823ab8c7c7a90dffc238ab4c95b9e4061", func := "interchange/interchangetop.TopPaidInvoicesAreDone", spec := "topPaidInvoicesAreDone", inPlace := ["internal/bytealg.IndexByteString", "internal/bytealg.IndexString", "internal/bytealg.abigen_runtime_cmpstring"], unfollowed := true, recurses := true, named := ["unicode/utf8.first", "unicode/utf8.acceptRanges", "internal/bytealg.MaxLen"], apart := false, laid := [("unicode/utf8.acceptRanges", laid_unicode_utf8_acceptRanges), ("unicode/utf8.first", laid_unicode_utf8_first)] }
def TopPaidInvoicesAreDoneSaid : Prop := topPaidInvoicesAreDoneRow.holds Tryz.pinned (OpenSpec.ofChange topPaidInvoicesAreDoneSpec)

/-- ITS FALSE NEIGHBOUR: 'it returns false'. Refute it at one input. -/
def topPaidInvoicesAreDoneWrong : ChangeSpec := { name := "topPaidInvoicesAreDone", fn := fun _ => fun
  | [d1, d2] => { results := [.lit (.bool false)], args := [d1, d2] }
  | _ => none }
def TopPaidInvoicesAreDoneWrongFalsely : Prop := topPaidInvoicesAreDoneRow.holds Tryz.pinned (OpenSpec.ofChange topPaidInvoicesAreDoneWrong)

/-- 'interchangelaw11.BillRightIsNotWrong': WHATEVER THE INPUT: true; the input reads as it did. -/
def billRightIsNotWrongSpec : ChangeSpec := { name := "billRightIsNotWrong", fn := fun _ => fun
  | [d1, d2] => { results := [.lit (.bool true)], args := [d1, d2] }
  | _ => none }
def billRightIsNotWrongRow : OpenClaim := { program := "ytalfglakknbjkaagreatdoor", sum := "23dda41cfae1053c01918303dab9d3a823ab8c7c7a90dffc238ab4c95b9e4061", func := "interchange/interchangelaw11.BillRightIsNotWrong", spec := "billRightIsNotWrong", inPlace := ["internal/bytealg.IndexByteString", "internal/bytealg.IndexString", "internal/bytealg.abigen_runtime_cmpstring"], unfollowed := true, recurses := true, named := ["unicode/utf8.first", "unicode/utf8.acceptRanges", "internal/bytealg.MaxLen"], apart := false, laid := [("unicode/utf8.acceptRanges", laid_unicode_utf8_acceptRanges), ("unicode/utf8.first", laid_unicode_utf8_first)] }
def BillRightIsNotWrongSaid : Prop := billRightIsNotWrongRow.holds Tryz.pinned (OpenSpec.ofChange billRightIsNotWrongSpec)

/-- ITS FALSE NEIGHBOUR: 'it returns false'. Refute it at one input. -/
def billRightIsNotWrongWrong : ChangeSpec := { name := "billRightIsNotWrong", fn := fun _ => fun
  | [d1, d2] => { results := [.lit (.bool false)], args := [d1, d2] }
  | _ => none }
def BillRightIsNotWrongWrongFalsely : Prop := billRightIsNotWrongRow.holds Tryz.pinned (OpenSpec.ofChange billRightIsNotWrongWrong)

/-- 'interchangelaw11.BillWrongMatchesSpec': WHATEVER THE INPUT: true; the input reads as it did. -/
def billWrongMatchesSpecSpec : ChangeSpec := { name := "billWrongMatchesSpec", fn := fun _ => fun
  | [d1, d2, d3, d4, d5] => { results := [.lit (.bool true)], args := [d1, d2, d3, d4, d5] }
  | _ => none }
def billWrongMatchesSpecRow : OpenClaim := { program := "ytalfglakknbjkaagreatdoor", sum := "23dda41cfae1053c01918303dab9d3a823ab8c7c7a90dffc238ab4c95b9e4061", func := "interchange/interchangelaw11.BillWrongMatchesSpec", spec := "billWrongMatchesSpec", inPlace := ["internal/bytealg.IndexByteString", "internal/bytealg.IndexString", "internal/bytealg.abigen_runtime_cmpstring"], unfollowed := true, recurses := true, named := ["unicode/utf8.first", "unicode/utf8.acceptRanges", "internal/bytealg.MaxLen"], apart := false, laid := [("unicode/utf8.acceptRanges", laid_unicode_utf8_acceptRanges), ("unicode/utf8.first", laid_unicode_utf8_first)] }
def BillWrongMatchesSpecSaid : Prop := billWrongMatchesSpecRow.holds Tryz.pinned (OpenSpec.ofChange billWrongMatchesSpecSpec)

/-- ITS FALSE NEIGHBOUR: 'it returns false'. Refute it at one input. -/
def billWrongMatchesSpecWrong : ChangeSpec := { name := "billWrongMatchesSpec", fn := fun _ => fun
  | [d1, d2, d3, d4, d5] => { results := [.lit (.bool false)], args := [d1, d2, d3, d4, d5] }
  | _ => none }
def BillWrongMatchesSpecWrongFalsely : Prop := billWrongMatchesSpecRow.holds Tryz.pinned (OpenSpec.ofChange billWrongMatchesSpecWrong)

/- THE SECOND FORM. 'bulk': how many values and letters a reading holds, each counted each time it is reached (what is shared counts as often as it is met; a slice's spare places count too). A statement '..UptoSaid' is the law's where the arguments, and the package variables that the reading takes, are together of bulk at most 1048576: NARROWER than '..Said'. Prove '..Said' where nothing that the law and all that it calls make is longer than what came in: it says more and counts as full. Else prove '..UptoSaid'. A law counts once. -/
mutual
def uptoBulk {H : Type} : DataW H → Nat
  | .lit (.string bytes) => bytes.length + 1
  | .lit _ => 1
  | .nil => 1
  | .ptr d => uptoBulk d + 1
  | .slice elems spare => uptoBulkAll elems + uptoBulkAll spare + 1
  | .agg parts => uptoBulkAll parts + 1
  | .iface _ d => uptoBulk d + 1
  | .map entries => uptoBulkEntries entries + 1
  | .held _ => 1
def uptoBulkAll {H : Type} : List (DataW H) → Nat
  | [] => 0
  | d :: r => uptoBulk d + uptoBulkAll r
def uptoBulkEntries {H : Type} : List (Lit × DataW H) → Nat
  | [] => 0
  | x :: r => uptoBulkEntry x + uptoBulkEntries r
def uptoBulkEntry {H : Type} : Lit × DataW H → Nat
  | (.string bytes, d) => bytes.length + uptoBulk d + 1
  | (_, d) => uptoBulk d + 1
 end
def uptoSmall : (H : Type) → List (DataW H) → Bool := fun _ ds => decide (uptoBulkAll ds ≤ 1048576)
def OpenSpec.upto (s : _root_.Go.ChangeSpec) : _root_.Go.OpenSpec := { _root_.Go.OpenSpec.ofChange s with cond := some uptoSmall }

/-- 'interchangelaw11.BillTotalsMatchSpec', WHERE WHAT IT READS IS OF BULK AT MOST 1048576: true; the input reads as it did. -/
def billTotalsMatchSpecUptoRow : OpenClaim := { program := "ytalfglakknbjkaagreatdoor", sum := "23dda41cfae1053c01918303dab9d3a823ab8c7c7a90dffc238ab4c95b9e4061", func := "interchange/interchangelaw11.BillTotalsMatchSpec", spec := "billTotalsMatchSpec", inPlace := ["internal/bytealg.IndexByteString", "internal/bytealg.IndexString", "internal/bytealg.abigen_runtime_cmpstring"], unfollowed := true, recurses := true, named := ["unicode/utf8.first", "unicode/utf8.acceptRanges", "internal/bytealg.MaxLen"], apart := false, laid := [("unicode/utf8.acceptRanges", laid_unicode_utf8_acceptRanges), ("unicode/utf8.first", laid_unicode_utf8_first)], narrowed := true }
def BillTotalsMatchSpecUptoSaid : Prop := billTotalsMatchSpecUptoRow.holds Tryz.pinned (OpenSpec.upto billTotalsMatchSpecSpec)

/-- 'interchangelaw11.BillTotalsAddUp', WHERE WHAT IT READS IS OF BULK AT MOST 1048576: true; the input reads as it did. -/
def billTotalsAddUpUptoRow : OpenClaim := { program := "ytalfglakknbjkaagreatdoor", sum := "23dda41cfae1053c01918303dab9d3a823ab8c7c7a90dffc238ab4c95b9e4061", func := "interchange/interchangelaw11.BillTotalsAddUp", spec := "billTotalsAddUp", inPlace := ["internal/bytealg.IndexByteString", "internal/bytealg.IndexString", "internal/bytealg.abigen_runtime_cmpstring"], unfollowed := true, recurses := true, named := ["unicode/utf8.first", "unicode/utf8.acceptRanges", "internal/bytealg.MaxLen"], apart := false, laid := [("unicode/utf8.acceptRanges", laid_unicode_utf8_acceptRanges), ("unicode/utf8.first", laid_unicode_utf8_first)], narrowed := true }
def BillTotalsAddUpUptoSaid : Prop := billTotalsAddUpUptoRow.holds Tryz.pinned (OpenSpec.upto billTotalsAddUpSpec)

/-- 'interchangelaw11.BillReversedIsOpposite', WHERE WHAT IT READS IS OF BULK AT MOST 1048576: true; the input reads as it did. -/
def billReversedIsOppositeUptoRow : OpenClaim := { program := "ytalfglakknbjkaagreatdoor", sum := "23dda41cfae1053c01918303dab9d3a823ab8c7c7a90dffc238ab4c95b9e4061", func := "interchange/interchangelaw11.BillReversedIsOpposite", spec := "billReversedIsOpposite", inPlace := ["internal/bytealg.IndexByteString", "internal/bytealg.IndexString", "internal/bytealg.abigen_runtime_cmpstring"], unfollowed := true, recurses := true, named := ["unicode/utf8.first", "unicode/utf8.acceptRanges", "internal/bytealg.MaxLen"], apart := false, laid := [("unicode/utf8.acceptRanges", laid_unicode_utf8_acceptRanges), ("unicode/utf8.first", laid_unicode_utf8_first)], narrowed := true }
def BillReversedIsOppositeUptoSaid : Prop := billReversedIsOppositeUptoRow.holds Tryz.pinned (OpenSpec.upto billReversedIsOppositeSpec)

/-- 'interchangetop.TopPaidInvoicesAreDone', WHERE WHAT IT READS IS OF BULK AT MOST 1048576: true; the input reads as it did. -/
def topPaidInvoicesAreDoneUptoRow : OpenClaim := { program := "ytalfglakknbjkaagreatdoor", sum := "23dda41cfae1053c01918303dab9d3a823ab8c7c7a90dffc238ab4c95b9e4061", func := "interchange/interchangetop.TopPaidInvoicesAreDone", spec := "topPaidInvoicesAreDone", inPlace := ["internal/bytealg.IndexByteString", "internal/bytealg.IndexString", "internal/bytealg.abigen_runtime_cmpstring"], unfollowed := true, recurses := true, named := ["unicode/utf8.first", "unicode/utf8.acceptRanges", "internal/bytealg.MaxLen"], apart := false, laid := [("unicode/utf8.acceptRanges", laid_unicode_utf8_acceptRanges), ("unicode/utf8.first", laid_unicode_utf8_first)], narrowed := true }
def TopPaidInvoicesAreDoneUptoSaid : Prop := topPaidInvoicesAreDoneUptoRow.holds Tryz.pinned (OpenSpec.upto topPaidInvoicesAreDoneSpec)

/-- 'interchangelaw11.BillRightIsNotWrong', WHERE WHAT IT READS IS OF BULK AT MOST 1048576: true; the input reads as it did. -/
def billRightIsNotWrongUptoRow : OpenClaim := { program := "ytalfglakknbjkaagreatdoor", sum := "23dda41cfae1053c01918303dab9d3a823ab8c7c7a90dffc238ab4c95b9e4061", func := "interchange/interchangelaw11.BillRightIsNotWrong", spec := "billRightIsNotWrong", inPlace := ["internal/bytealg.IndexByteString", "internal/bytealg.IndexString", "internal/bytealg.abigen_runtime_cmpstring"], unfollowed := true, recurses := true, named := ["unicode/utf8.first", "unicode/utf8.acceptRanges", "internal/bytealg.MaxLen"], apart := false, laid := [("unicode/utf8.acceptRanges", laid_unicode_utf8_acceptRanges), ("unicode/utf8.first", laid_unicode_utf8_first)], narrowed := true }
def BillRightIsNotWrongUptoSaid : Prop := billRightIsNotWrongUptoRow.holds Tryz.pinned (OpenSpec.upto billRightIsNotWrongSpec)

/-- 'interchangelaw11.BillWrongMatchesSpec', WHERE WHAT IT READS IS OF BULK AT MOST 1048576: true; the input reads as it did. -/
def billWrongMatchesSpecUptoRow : OpenClaim := { program := "ytalfglakknbjkaagreatdoor", sum := "23dda41cfae1053c01918303dab9d3a823ab8c7c7a90dffc238ab4c95b9e4061", func := "interchange/interchangelaw11.BillWrongMatchesSpec", spec := "billWrongMatchesSpec", inPlace := ["internal/bytealg.IndexByteString", "internal/bytealg.IndexString", "internal/bytealg.abigen_runtime_cmpstring"], unfollowed := true, recurses := true, named := ["unicode/utf8.first", "unicode/utf8.acceptRanges", "internal/bytealg.MaxLen"], apart := false, laid := [("unicode/utf8.acceptRanges", laid_unicode_utf8_acceptRanges), ("unicode/utf8.first", laid_unicode_utf8_first)], narrowed := true }
def BillWrongMatchesSpecUptoSaid : Prop := billWrongMatchesSpecUptoRow.holds Tryz.pinned (OpenSpec.upto billWrongMatchesSpecSpec)

end Rows
end Go.Proofs.YtalfglakknbjkaaGreatDoor
