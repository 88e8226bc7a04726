/-
  NARROWER THAN 'FOR EVERY INPUT', by the rows' own cells (each row's printed sentence says how): BillEarlierInvoicesStay: laid · BillMatchesMatchSpec: laid · BillUnbilledMatchesSpec: laid · BillBilledMatches: laid · TopReversedInvoicesCancel: laid.
  DERIVED. THE GIVEN ROWS OF THIS SEAT. 5 by the template 'for every input the law returns true; each argument reads behind the call as it read before'; 0 by the template 'total and deterministic' (their statements: YtcpmaicaibdafaaGreatDoorTotals.lean).
  GIVEN WITH THE SEED: the statements are not yours to turn. If you find one false, say at which input.
  Laid BY PROGRAM, IN A SANDBOX (cutbox-rows.mjs): the forced cells as the released guide's own fill.sh prints them over the translation 22bb0bba9a405d07… (all of the seat's roots in one cut). By AI agents, Wed Nov 11 2026. No macro, syntax, notation, axiom, sorry.
-/
import Derived.Test.YtcpmaicaibdafaaGreatDoorChecked
import GoSem.PinnedTables
import GoSem.Claim
import GoSem.ClaimJoined
import GoSem.ClaimMapViews
import Derived.JoinedTies
import Derived.KernelRfl
namespace Go.Proofs.YtcpmaicaibdafaaGreatDoor
/- THE CELL 'sum', in the pinned program and in every row, IS THE sha256 OF THE DUMP (.gsa) THAT YtcpmaicaibdafaaGreatDoorProg.lean LOADS. Nothing in Lean hashes anything: it is a label: what it is worth is what the hold of that sum in a sandbox is worth. -/
noncomputable def Tryz.pinned : Pinned := { name := "ytcpmaicaibdafaagreatdoor", sum := "22bb0bba9a405d0746bb91b098f1309ba2e552fffb07ccda0b488b9f6cfa5fe5", checked := Tryz.checked }
namespace Rows
def none {H : Type} : Left H := { results := [], args := [] }

/- WHAT THE LISTED PACKAGE-LEVEL VARIABLES READ AS WHEN THE CALL BEGINS. Each datum BY PROGRAM (the guide's laid-datum.mjs) off the statement by which the dump's own 'gosem.cut.vars' lays the variable. In a bare row this is a premise. The card (YtcpmaicaibdafaaGreatDoorCards.lean) ties it to the program's text. -/
def laid_unicode_utf8_acceptRanges {H : Type} : DataW H := .agg [.agg [.lit (.int .u8 128), .lit (.int .u8 191)], .agg [.lit (.int .u8 160), .lit (.int .u8 191)], .agg [.lit (.int .u8 128), .lit (.int .u8 159)], .agg [.lit (.int .u8 144), .lit (.int .u8 191)], .agg [.lit (.int .u8 128), .lit (.int .u8 143)], .agg [.lit (.int .u8 0), .lit (.int .u8 0)], .agg [.lit (.int .u8 0), .lit (.int .u8 0)], .agg [.lit (.int .u8 0), .lit (.int .u8 0)], .agg [.lit (.int .u8 0), .lit (.int .u8 0)], .agg [.lit (.int .u8 0), .lit (.int .u8 0)], .agg [.lit (.int .u8 0), .lit (.int .u8 0)], .agg [.lit (.int .u8 0), .lit (.int .u8 0)], .agg [.lit (.int .u8 0), .lit (.int .u8 0)], .agg [.lit (.int .u8 0), .lit (.int .u8 0)], .agg [.lit (.int .u8 0), .lit (.int .u8 0)], .agg [.lit (.int .u8 0), .lit (.int .u8 0)]]
/-- One of Go's own tables, pinned by name: the form's constant. -/
def laid_unicode_utf8_first : DataW Unit := Go.Pinned.utf8First

/-- 'interchangelaw11.BillEarlierInvoicesStay': WHATEVER THE INPUT: true; the input reads as it did. -/
def billEarlierInvoicesStaySpec : ChangeSpec := { name := "billEarlierInvoicesStay", fn := fun _ => fun
  | [d1, d2, d3, d4, d5] => { results := [.lit (.bool true)], args := [d1, d2, d3, d4, d5] }
  | _ => none }
def billEarlierInvoicesStayRow : OpenClaim := { program := "ytcpmaicaibdafaagreatdoor", sum := "22bb0bba9a405d0746bb91b098f1309ba2e552fffb07ccda0b488b9f6cfa5fe5", func := "interchange/interchangelaw11.BillEarlierInvoicesStay", spec := "billEarlierInvoicesStay", inPlace := ["internal/bytealg.IndexByteString", "internal/bytealg.IndexString", "internal/bytealg.abigen_runtime_cmpstring"], unfollowed := true, recurses := true, named := ["unicode/utf8.first", "unicode/utf8.acceptRanges", "internal/bytealg.MaxLen"], apart := false, laid := [("unicode/utf8.acceptRanges", laid_unicode_utf8_acceptRanges), ("unicode/utf8.first", laid_unicode_utf8_first)] }
def BillEarlierInvoicesStaySaid : Prop := billEarlierInvoicesStayRow.holds Tryz.pinned (OpenSpec.ofChange billEarlierInvoicesStaySpec)

/-- ITS FALSE NEIGHBOUR: 'it returns false'. Refute it at one input. -/
def billEarlierInvoicesStayWrong : ChangeSpec := { name := "billEarlierInvoicesStay", fn := fun _ => fun
  | [d1, d2, d3, d4, d5] => { results := [.lit (.bool false)], args := [d1, d2, d3, d4, d5] }
  | _ => none }
def BillEarlierInvoicesStayWrongFalsely : Prop := billEarlierInvoicesStayRow.holds Tryz.pinned (OpenSpec.ofChange billEarlierInvoicesStayWrong)

/-- 'interchangelaw11.BillMatchesMatchSpec': WHATEVER THE INPUT: true; the input reads as it did. -/
def billMatchesMatchSpecSpec : ChangeSpec := { name := "billMatchesMatchSpec", fn := fun _ => fun
  | [d1, d2, d3, d4] => { results := [.lit (.bool true)], args := [d1, d2, d3, d4] }
  | _ => none }
def billMatchesMatchSpecRow : OpenClaim := { program := "ytcpmaicaibdafaagreatdoor", sum := "22bb0bba9a405d0746bb91b098f1309ba2e552fffb07ccda0b488b9f6cfa5fe5", func := "interchange/interchangelaw11.BillMatchesMatchSpec", spec := "billMatchesMatchSpec", inPlace := ["internal/bytealg.IndexByteString", "internal/bytealg.IndexString", "internal/bytealg.abigen_runtime_cmpstring", "slices.overlaps[interchange/interchangeref9.line]"], unfollowed := true, recurses := true, named := ["unicode/utf8.first", "unicode/utf8.acceptRanges", "internal/bytealg.MaxLen"], apart := false, laid := [("unicode/utf8.acceptRanges", laid_unicode_utf8_acceptRanges), ("unicode/utf8.first", laid_unicode_utf8_first)] }
def BillMatchesMatchSpecSaid : Prop := billMatchesMatchSpecRow.holds Tryz.pinned (OpenSpec.ofChange billMatchesMatchSpecSpec)

/-- ITS FALSE NEIGHBOUR: 'it returns false'. Refute it at one input. -/
def billMatchesMatchSpecWrong : ChangeSpec := { name := "billMatchesMatchSpec", fn := fun _ => fun
  | [d1, d2, d3, d4] => { results := [.lit (.bool false)], args := [d1, d2, d3, d4] }
  | _ => none }
def BillMatchesMatchSpecWrongFalsely : Prop := billMatchesMatchSpecRow.holds Tryz.pinned (OpenSpec.ofChange billMatchesMatchSpecWrong)

/-- 'interchangelaw11.BillUnbilledMatchesSpec': WHATEVER THE INPUT: true; the input reads as it did. -/
def billUnbilledMatchesSpecSpec : ChangeSpec := { name := "billUnbilledMatchesSpec", fn := fun _ => fun
  | [d1, d2, d3, d4, d5, d6, d7] => { results := [.lit (.bool true)], args := [d1, d2, d3, d4, d5, d6, d7] }
  | _ => none }
def billUnbilledMatchesSpecRow : OpenClaim := { program := "ytcpmaicaibdafaagreatdoor", sum := "22bb0bba9a405d0746bb91b098f1309ba2e552fffb07ccda0b488b9f6cfa5fe5", func := "interchange/interchangelaw11.BillUnbilledMatchesSpec", spec := "billUnbilledMatchesSpec", inPlace := ["internal/bytealg.IndexByteString", "internal/bytealg.IndexString", "internal/bytealg.abigen_runtime_cmpstring", "slices.overlaps[interchange/interchangeref9.line]"], unfollowed := true, recurses := true, named := ["unicode/utf8.first", "unicode/utf8.acceptRanges", "internal/bytealg.MaxLen"], apart := false, laid := [("unicode/utf8.acceptRanges", laid_unicode_utf8_acceptRanges), ("unicode/utf8.first", laid_unicode_utf8_first)] }
def BillUnbilledMatchesSpecSaid : Prop := billUnbilledMatchesSpecRow.holds Tryz.pinned (OpenSpec.ofChange billUnbilledMatchesSpecSpec)

/-- ITS FALSE NEIGHBOUR: 'it returns false'. Refute it at one input. -/
def billUnbilledMatchesSpecWrong : ChangeSpec := { name := "billUnbilledMatchesSpec", fn := fun _ => fun
  | [d1, d2, d3, d4, d5, d6, d7] => { results := [.lit (.bool false)], args := [d1, d2, d3, d4, d5, d6, d7] }
  | _ => none }
def BillUnbilledMatchesSpecWrongFalsely : Prop := billUnbilledMatchesSpecRow.holds Tryz.pinned (OpenSpec.ofChange billUnbilledMatchesSpecWrong)

/-- 'interchangelaw11.BillBilledMatches': WHATEVER THE INPUT: true; the input reads as it did. -/
def billBilledMatchesSpec : ChangeSpec := { name := "billBilledMatches", fn := fun _ => fun
  | [d1, d2, d3, d4] => { results := [.lit (.bool true)], args := [d1, d2, d3, d4] }
  | _ => none }
def billBilledMatchesRow : OpenClaim := { program := "ytcpmaicaibdafaagreatdoor", sum := "22bb0bba9a405d0746bb91b098f1309ba2e552fffb07ccda0b488b9f6cfa5fe5", func := "interchange/interchangelaw11.BillBilledMatches", spec := "billBilledMatches", inPlace := ["internal/bytealg.IndexByteString", "internal/bytealg.IndexString", "internal/bytealg.abigen_runtime_cmpstring"], unfollowed := true, recurses := true, named := ["unicode/utf8.first", "unicode/utf8.acceptRanges", "internal/bytealg.MaxLen"], apart := false, laid := [("unicode/utf8.acceptRanges", laid_unicode_utf8_acceptRanges), ("unicode/utf8.first", laid_unicode_utf8_first)] }
def BillBilledMatchesSaid : Prop := billBilledMatchesRow.holds Tryz.pinned (OpenSpec.ofChange billBilledMatchesSpec)

/-- ITS FALSE NEIGHBOUR: 'it returns false'. Refute it at one input. -/
def billBilledMatchesWrong : ChangeSpec := { name := "billBilledMatches", fn := fun _ => fun
  | [d1, d2, d3, d4] => { results := [.lit (.bool false)], args := [d1, d2, d3, d4] }
  | _ => none }
def BillBilledMatchesWrongFalsely : Prop := billBilledMatchesRow.holds Tryz.pinned (OpenSpec.ofChange billBilledMatchesWrong)

/-- 'interchangetop.TopReversedInvoicesCancel': WHATEVER THE INPUT: true; the input reads as it did. -/
def topReversedInvoicesCancelSpec : ChangeSpec := { name := "topReversedInvoicesCancel", fn := fun _ => fun
  | [d1, d2, d3, d4] => { results := [.lit (.bool true)], args := [d1, d2, d3, d4] }
  | _ => none }
def topReversedInvoicesCancelRow : OpenClaim := { program := "ytcpmaicaibdafaagreatdoor", sum := "22bb0bba9a405d0746bb91b098f1309ba2e552fffb07ccda0b488b9f6cfa5fe5", func := "interchange/interchangetop.TopReversedInvoicesCancel", spec := "topReversedInvoicesCancel", inPlace := ["internal/bytealg.IndexByteString", "internal/bytealg.IndexString", "internal/bytealg.abigen_runtime_cmpstring"], unfollowed := true, recurses := true, named := ["unicode/utf8.first", "unicode/utf8.acceptRanges", "internal/bytealg.MaxLen"], apart := false, laid := [("unicode/utf8.acceptRanges", laid_unicode_utf8_acceptRanges), ("unicode/utf8.first", laid_unicode_utf8_first)] }
def TopReversedInvoicesCancelSaid : Prop := topReversedInvoicesCancelRow.holds Tryz.pinned (OpenSpec.ofChange topReversedInvoicesCancelSpec)

/-- ITS FALSE NEIGHBOUR: 'it returns false'. Refute it at one input. -/
def topReversedInvoicesCancelWrong : ChangeSpec := { name := "topReversedInvoicesCancel", fn := fun _ => fun
  | [d1, d2, d3, d4] => { results := [.lit (.bool false)], args := [d1, d2, d3, d4] }
  | _ => none }
def TopReversedInvoicesCancelWrongFalsely : Prop := topReversedInvoicesCancelRow.holds Tryz.pinned (OpenSpec.ofChange topReversedInvoicesCancelWrong)

/- THE SECOND FORM. 'bulk': how many values and letters a reading holds, each counted each time it is reached (what is shared counts as often as it is met; a slice's spare places count too). A statement '..UptoSaid' is the law's where the arguments, and the package variables that the reading takes, are together of bulk at most 1048576: NARROWER than '..Said'. Prove '..Said' where nothing that the law and all that it calls make is longer than what came in: it says more and counts as full. Else prove '..UptoSaid'. A law counts once. -/
mutual
def uptoBulk {H : Type} : DataW H → Nat
  | .lit (.string bytes) => bytes.length + 1
  | .lit _ => 1
  | .nil => 1
  | .ptr d => uptoBulk d + 1
  | .slice elems spare => uptoBulkAll elems + uptoBulkAll spare + 1
  | .agg parts => uptoBulkAll parts + 1
  | .iface _ d => uptoBulk d + 1
  | .map entries => uptoBulkEntries entries + 1
  | .held _ => 1
def uptoBulkAll {H : Type} : List (DataW H) → Nat
  | [] => 0
  | d :: r => uptoBulk d + uptoBulkAll r
def uptoBulkEntries {H : Type} : List (Lit × DataW H) → Nat
  | [] => 0
  | x :: r => uptoBulkEntry x + uptoBulkEntries r
def uptoBulkEntry {H : Type} : Lit × DataW H → Nat
  | (.string bytes, d) => bytes.length + uptoBulk d + 1
  | (_, d) => uptoBulk d + 1
 end
def uptoSmall : (H : Type) → List (DataW H) → Bool := fun _ ds => decide (uptoBulkAll ds ≤ 1048576)
def OpenSpec.upto (s : _root_.Go.ChangeSpec) : _root_.Go.OpenSpec := { _root_.Go.OpenSpec.ofChange s with cond := some uptoSmall }

/-- 'interchangelaw11.BillEarlierInvoicesStay', WHERE WHAT IT READS IS OF BULK AT MOST 1048576: true; the input reads as it did. -/
def billEarlierInvoicesStayUptoRow : OpenClaim := { program := "ytcpmaicaibdafaagreatdoor", sum := "22bb0bba9a405d0746bb91b098f1309ba2e552fffb07ccda0b488b9f6cfa5fe5", func := "interchange/interchangelaw11.BillEarlierInvoicesStay", spec := "billEarlierInvoicesStay", inPlace := ["internal/bytealg.IndexByteString", "internal/bytealg.IndexString", "internal/bytealg.abigen_runtime_cmpstring"], unfollowed := true, recurses := true, named := ["unicode/utf8.first", "unicode/utf8.acceptRanges", "internal/bytealg.MaxLen"], apart := false, laid := [("unicode/utf8.acceptRanges", laid_unicode_utf8_acceptRanges), ("unicode/utf8.first", laid_unicode_utf8_first)], narrowed := true }
def BillEarlierInvoicesStayUptoSaid : Prop := billEarlierInvoicesStayUptoRow.holds Tryz.pinned (OpenSpec.upto billEarlierInvoicesStaySpec)

/-- 'interchangelaw11.BillMatchesMatchSpec', WHERE WHAT IT READS IS OF BULK AT MOST 1048576: true; the input reads as it did. -/
def billMatchesMatchSpecUptoRow : OpenClaim := { program := "ytcpmaicaibdafaagreatdoor", sum := "22bb0bba9a405d0746bb91b098f1309ba2e552fffb07ccda0b488b9f6cfa5fe5", func := "interchange/interchangelaw11.BillMatchesMatchSpec", spec := "billMatchesMatchSpec", inPlace := ["internal/bytealg.IndexByteString", "internal/bytealg.IndexString", "internal/bytealg.abigen_runtime_cmpstring", "slices.overlaps[interchange/interchangeref9.line]"], unfollowed := true, recurses := true, named := ["unicode/utf8.first", "unicode/utf8.acceptRanges", "internal/bytealg.MaxLen"], apart := false, laid := [("unicode/utf8.acceptRanges", laid_unicode_utf8_acceptRanges), ("unicode/utf8.first", laid_unicode_utf8_first)], narrowed := true }
def BillMatchesMatchSpecUptoSaid : Prop := billMatchesMatchSpecUptoRow.holds Tryz.pinned (OpenSpec.upto billMatchesMatchSpecSpec)

/-- 'interchangelaw11.BillUnbilledMatchesSpec', WHERE WHAT IT READS IS OF BULK AT MOST 1048576: true; the input reads as it did. -/
def billUnbilledMatchesSpecUptoRow : OpenClaim := { program := "ytcpmaicaibdafaagreatdoor", sum := "22bb0bba9a405d0746bb91b098f1309ba2e552fffb07ccda0b488b9f6cfa5fe5", func := "interchange/interchangelaw11.BillUnbilledMatchesSpec", spec := "billUnbilledMatchesSpec", inPlace := ["internal/bytealg.IndexByteString", "internal/bytealg.IndexString", "internal/bytealg.abigen_runtime_cmpstring", "slices.overlaps[interchange/interchangeref9.line]"], unfollowed := true, recurses := true, named := ["unicode/utf8.first", "unicode/utf8.acceptRanges", "internal/bytealg.MaxLen"], apart := false, laid := [("unicode/utf8.acceptRanges", laid_unicode_utf8_acceptRanges), ("unicode/utf8.first", laid_unicode_utf8_first)], narrowed := true }
def BillUnbilledMatchesSpecUptoSaid : Prop := billUnbilledMatchesSpecUptoRow.holds Tryz.pinned (OpenSpec.upto billUnbilledMatchesSpecSpec)

/-- 'interchangelaw11.BillBilledMatches', WHERE WHAT IT READS IS OF BULK AT MOST 1048576: true; the input reads as it did. -/
def billBilledMatchesUptoRow : OpenClaim := { program := "ytcpmaicaibdafaagreatdoor", sum := "22bb0bba9a405d0746bb91b098f1309ba2e552fffb07ccda0b488b9f6cfa5fe5", func := "interchange/interchangelaw11.BillBilledMatches", spec := "billBilledMatches", inPlace := ["internal/bytealg.IndexByteString", "internal/bytealg.IndexString", "internal/bytealg.abigen_runtime_cmpstring"], unfollowed := true, recurses := true, named := ["unicode/utf8.first", "unicode/utf8.acceptRanges", "internal/bytealg.MaxLen"], apart := false, laid := [("unicode/utf8.acceptRanges", laid_unicode_utf8_acceptRanges), ("unicode/utf8.first", laid_unicode_utf8_first)], narrowed := true }
def BillBilledMatchesUptoSaid : Prop := billBilledMatchesUptoRow.holds Tryz.pinned (OpenSpec.upto billBilledMatchesSpec)

/-- 'interchangetop.TopReversedInvoicesCancel', WHERE WHAT IT READS IS OF BULK AT MOST 1048576: true; the input reads as it did. -/
def topReversedInvoicesCancelUptoRow : OpenClaim := { program := "ytcpmaicaibdafaagreatdoor", sum := "22bb0bba9a405d0746bb91b098f1309ba2e552fffb07ccda0b488b9f6cfa5fe5", func := "interchange/interchangetop.TopReversedInvoicesCancel", spec := "topReversedInvoicesCancel", inPlace := ["internal/bytealg.IndexByteString", "internal/bytealg.IndexString", "internal/bytealg.abigen_runtime_cmpstring"], unfollowed := true, recurses := true, named := ["unicode/utf8.first", "unicode/utf8.acceptRanges", "internal/bytealg.MaxLen"], apart := false, laid := [("unicode/utf8.acceptRanges", laid_unicode_utf8_acceptRanges), ("unicode/utf8.first", laid_unicode_utf8_first)], narrowed := true }
def TopReversedInvoicesCancelUptoSaid : Prop := topReversedInvoicesCancelUptoRow.holds Tryz.pinned (OpenSpec.upto topReversedInvoicesCancelSpec)

end Rows
end Go.Proofs.YtcpmaicaibdafaaGreatDoor
