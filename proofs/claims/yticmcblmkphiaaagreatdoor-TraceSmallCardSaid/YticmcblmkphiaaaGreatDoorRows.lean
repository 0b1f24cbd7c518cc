/-
  NARROWER THAN 'FOR EVERY INPUT', by the rows' own cells (each row's printed sentence says how): TraceDiffs: laid · TraceTells: laid · TraceWhys: laid · TraceEvents: laid · TraceWaits: laid · TraceNews: laid · TraceSmall: laid · TraceBack: laid · TraceTo: laid · TraceLong: laid · TraceUntil: laid.
  DERIVED. THE GIVEN ROWS OF THIS SEAT. 11 by the template 'for every input the law returns true; each argument reads behind the call as it read before'; 0 by the template 'total and deterministic' (their statements: YticmcblmkphiaaaGreatDoorTotals.lean).
  GIVEN WITH THE SEED: the statements are not yours to turn. If you find one false, say at which input.
  Laid BY PROGRAM, IN A SANDBOX (cutbox-rows.mjs): the forced cells as the released guide's own fill.sh prints them over the translation 68d8a36024286769… (all of the seat's roots in one cut). By AI agents, Wed Nov 11 2026. No macro, syntax, notation, axiom, sorry.
-/
import Derived.Test.YticmcblmkphiaaaGreatDoorChecked
import GoSem.PinnedTables
import GoSem.Claim
import GoSem.ClaimJoined
import GoSem.ClaimMapViews
import Derived.JoinedTies
import Derived.KernelRfl
namespace Go.Proofs.YticmcblmkphiaaaGreatDoor
/- THE CELL 'sum', in the pinned program and in every row, IS THE sha256 OF THE DUMP (.gsa) THAT YticmcblmkphiaaaGreatDoorProg.lean LOADS. Nothing in Lean hashes anything: it is a label: what it is worth is what the hold of that sum in a sandbox is worth. -/
noncomputable def Tryz.pinned : Pinned := { name := "yticmcblmkphiaaagreatdoor", sum := "68d8a3602428676979d8c00b67e4e34a4bfbb815f4e4e62681019d7d498e42c5", checked := Tryz.checked }
namespace Rows
def none {H : Type} : Left H := { results := [], args := [] }

/- WHAT THE LISTED PACKAGE-LEVEL VARIABLES READ AS WHEN THE CALL BEGINS. Each datum BY PROGRAM (the guide's laid-datum.mjs) off the statement by which the dump's own 'gosem.cut.vars' lays the variable. In a bare row this is a premise. The card (YticmcblmkphiaaaGreatDoorCards.lean) ties it to the program's text. -/
def laid_unicode_utf8_acceptRanges {H : Type} : DataW H := .agg [.agg [.lit (.int .u8 128), .lit (.int .u8 191)], .agg [.lit (.int .u8 160), .lit (.int .u8 191)], .agg [.lit (.int .u8 128), .lit (.int .u8 159)], .agg [.lit (.int .u8 144), .lit (.int .u8 191)], .agg [.lit (.int .u8 128), .lit (.int .u8 143)], .agg [.lit (.int .u8 0), .lit (.int .u8 0)], .agg [.lit (.int .u8 0), .lit (.int .u8 0)], .agg [.lit (.int .u8 0), .lit (.int .u8 0)], .agg [.lit (.int .u8 0), .lit (.int .u8 0)], .agg [.lit (.int .u8 0), .lit (.int .u8 0)], .agg [.lit (.int .u8 0), .lit (.int .u8 0)], .agg [.lit (.int .u8 0), .lit (.int .u8 0)], .agg [.lit (.int .u8 0), .lit (.int .u8 0)], .agg [.lit (.int .u8 0), .lit (.int .u8 0)], .agg [.lit (.int .u8 0), .lit (.int .u8 0)], .agg [.lit (.int .u8 0), .lit (.int .u8 0)]]
def laid_roundelay_trace_events {H : Type} : DataW H := .iface "func table" (.agg [.agg [.lit (.int .i64 0), .nil], .agg [.lit (.int .i64 1), .iface "func" (.lit (.string [114, 111, 117, 110, 100, 101, 108, 97, 121, 47, 116, 114, 97, 99, 101, 46, 101, 118, 101, 110, 116, 115, 36, 49]))], .agg [.lit (.int .i64 1), .iface "func" (.lit (.string [114, 111, 117, 110, 100, 101, 108, 97, 121, 47, 116, 114, 97, 99, 101, 46, 101, 118, 101, 110, 116, 115, 36, 50]))], .agg [.lit (.int .i64 2), .iface "func" (.lit (.string [114, 111, 117, 110, 100, 101, 108, 97, 121, 47, 116, 114, 97, 99, 101, 46, 101, 118, 101, 110, 116, 115, 36, 51]))], .agg [.lit (.int .i64 5), .iface "func" (.lit (.string [40, 114, 111, 117, 110, 100, 101, 108, 97, 121, 47, 116, 114, 97, 99, 101, 46, 109, 111, 109, 101, 110, 116, 41, 46, 119, 97, 110, 116, 101, 100]))], .agg [.lit (.int .i64 4), .iface "func" (.lit (.string [40, 114, 111, 117, 110, 100, 101, 108, 97, 121, 47, 116, 114, 97, 99, 101, 46, 109, 111, 109, 101, 110, 116, 41, 46, 119, 97, 110, 116, 101, 100]))]])
/-- One of Go's own tables, pinned by name: the form's constant. -/
def laid_unicode_utf8_first : DataW Unit := Go.Pinned.utf8First
def laid_roundelay_roundelaylaw22_heads {H : Type} : DataW H := .agg [.agg [.lit (.string [97]), .lit (.string [98])], .agg [.lit (.string [115]), .lit (.string [117])], .agg [.lit (.string [99, 111, 110, 115]), .lit (.string [112])]]

/-- 'roundelaylaw26.TraceDiffs': WHATEVER THE INPUT: true; the input reads as it did. -/
def traceDiffsSpec : ChangeSpec := { name := "traceDiffs", fn := fun _ => fun
  | [d1, d2, d3] => { results := [.lit (.bool true)], args := [d1, d2, d3] }
  | _ => none }
def traceDiffsRow : OpenClaim := { program := "yticmcblmkphiaaagreatdoor", sum := "68d8a3602428676979d8c00b67e4e34a4bfbb815f4e4e62681019d7d498e42c5", func := "roundelay/roundelaylaw26.TraceDiffs", spec := "traceDiffs", inPlace := ["internal/bytealg.IndexByteString", "internal/bytealg.IndexString"], unfollowed := true, recurses := true, named := ["unicode/utf8.first", "unicode/utf8.acceptRanges", "roundelay/trace.events", "internal/bytealg.MaxLen"], plainKeys := false, apart := false, laid := [("unicode/utf8.acceptRanges", laid_unicode_utf8_acceptRanges), ("roundelay/trace.events", laid_roundelay_trace_events), ("unicode/utf8.first", laid_unicode_utf8_first)] }
def TraceDiffsSaid : Prop := traceDiffsRow.holds Tryz.pinned (OpenSpec.ofChange traceDiffsSpec)

/-- ITS FALSE NEIGHBOUR: 'it returns false'. Refute it at one input. -/
def traceDiffsWrong : ChangeSpec := { name := "traceDiffs", fn := fun _ => fun
  | [d1, d2, d3] => { results := [.lit (.bool false)], args := [d1, d2, d3] }
  | _ => none }
def TraceDiffsWrongFalsely : Prop := traceDiffsRow.holds Tryz.pinned (OpenSpec.ofChange traceDiffsWrong)

/-- 'roundelaylaw26.TraceTells': WHATEVER THE INPUT: true; the input reads as it did. -/
def traceTellsSpec : ChangeSpec := { name := "traceTells", fn := fun _ => fun
  | [d1, d2, d3] => { results := [.lit (.bool true)], args := [d1, d2, d3] }
  | _ => none }
def traceTellsRow : OpenClaim := { program := "yticmcblmkphiaaagreatdoor", sum := "68d8a3602428676979d8c00b67e4e34a4bfbb815f4e4e62681019d7d498e42c5", func := "roundelay/roundelaylaw26.TraceTells", spec := "traceTells", inPlace := ["internal/bytealg.IndexByteString", "internal/bytealg.IndexString"], unfollowed := true, recurses := true, named := ["unicode/utf8.first", "unicode/utf8.acceptRanges", "roundelay/trace.events", "internal/bytealg.MaxLen"], plainKeys := false, apart := false, laid := [("unicode/utf8.acceptRanges", laid_unicode_utf8_acceptRanges), ("roundelay/trace.events", laid_roundelay_trace_events), ("unicode/utf8.first", laid_unicode_utf8_first)] }
def TraceTellsSaid : Prop := traceTellsRow.holds Tryz.pinned (OpenSpec.ofChange traceTellsSpec)

/-- ITS FALSE NEIGHBOUR: 'it returns false'. Refute it at one input. -/
def traceTellsWrong : ChangeSpec := { name := "traceTells", fn := fun _ => fun
  | [d1, d2, d3] => { results := [.lit (.bool false)], args := [d1, d2, d3] }
  | _ => none }
def TraceTellsWrongFalsely : Prop := traceTellsRow.holds Tryz.pinned (OpenSpec.ofChange traceTellsWrong)

/-- 'roundelaylaw26.TraceWhys': WHATEVER THE INPUT: true; the input reads as it did. -/
def traceWhysSpec : ChangeSpec := { name := "traceWhys", fn := fun _ => fun
  | [d1, d2] => { results := [.lit (.bool true)], args := [d1, d2] }
  | _ => none }
def traceWhysRow : OpenClaim := { program := "yticmcblmkphiaaagreatdoor", sum := "68d8a3602428676979d8c00b67e4e34a4bfbb815f4e4e62681019d7d498e42c5", func := "roundelay/roundelaylaw26.TraceWhys", spec := "traceWhys", inPlace := ["internal/bytealg.IndexByteString", "internal/bytealg.IndexString"], unfollowed := true, recurses := true, named := ["unicode/utf8.first", "unicode/utf8.acceptRanges", "roundelay/trace.events", "internal/bytealg.MaxLen"], plainKeys := false, apart := false, laid := [("unicode/utf8.acceptRanges", laid_unicode_utf8_acceptRanges), ("roundelay/trace.events", laid_roundelay_trace_events), ("unicode/utf8.first", laid_unicode_utf8_first)] }
def TraceWhysSaid : Prop := traceWhysRow.holds Tryz.pinned (OpenSpec.ofChange traceWhysSpec)

/-- ITS FALSE NEIGHBOUR: 'it returns false'. Refute it at one input. -/
def traceWhysWrong : ChangeSpec := { name := "traceWhys", fn := fun _ => fun
  | [d1, d2] => { results := [.lit (.bool false)], args := [d1, d2] }
  | _ => none }
def TraceWhysWrongFalsely : Prop := traceWhysRow.holds Tryz.pinned (OpenSpec.ofChange traceWhysWrong)

/-- 'roundelaylaw26.TraceEvents': WHATEVER THE INPUT: true; the input reads as it did. -/
def traceEventsSpec : ChangeSpec := { name := "traceEvents", fn := fun _ => fun
  | [d1, d2] => { results := [.lit (.bool true)], args := [d1, d2] }
  | _ => none }
def traceEventsRow : OpenClaim := { program := "yticmcblmkphiaaagreatdoor", sum := "68d8a3602428676979d8c00b67e4e34a4bfbb815f4e4e62681019d7d498e42c5", func := "roundelay/roundelaylaw26.TraceEvents", spec := "traceEvents", inPlace := ["internal/bytealg.IndexByteString", "internal/bytealg.IndexString"], unfollowed := true, recurses := true, named := ["roundelay/roundelaylaw22.heads", "unicode/utf8.first", "unicode/utf8.acceptRanges", "roundelay/trace.events", "internal/bytealg.MaxLen"], plainKeys := false, apart := false, laid := [("unicode/utf8.acceptRanges", laid_unicode_utf8_acceptRanges), ("roundelay/roundelaylaw22.heads", laid_roundelay_roundelaylaw22_heads), ("roundelay/trace.events", laid_roundelay_trace_events), ("unicode/utf8.first", laid_unicode_utf8_first)] }
def TraceEventsSaid : Prop := traceEventsRow.holds Tryz.pinned (OpenSpec.ofChange traceEventsSpec)

/-- ITS FALSE NEIGHBOUR: 'it returns false'. Refute it at one input. -/
def traceEventsWrong : ChangeSpec := { name := "traceEvents", fn := fun _ => fun
  | [d1, d2] => { results := [.lit (.bool false)], args := [d1, d2] }
  | _ => none }
def TraceEventsWrongFalsely : Prop := traceEventsRow.holds Tryz.pinned (OpenSpec.ofChange traceEventsWrong)

/-- 'roundelaylaw26.TraceWaits': WHATEVER THE INPUT: true; the input reads as it did. -/
def traceWaitsSpec : ChangeSpec := { name := "traceWaits", fn := fun _ => fun
  | [d1, d2] => { results := [.lit (.bool true)], args := [d1, d2] }
  | _ => none }
def traceWaitsRow : OpenClaim := { program := "yticmcblmkphiaaagreatdoor", sum := "68d8a3602428676979d8c00b67e4e34a4bfbb815f4e4e62681019d7d498e42c5", func := "roundelay/roundelaylaw26.TraceWaits", spec := "traceWaits", inPlace := ["internal/bytealg.IndexByteString", "internal/bytealg.IndexString"], unfollowed := true, recurses := true, named := ["roundelay/roundelaylaw22.heads", "unicode/utf8.first", "unicode/utf8.acceptRanges", "roundelay/trace.events", "internal/bytealg.MaxLen"], plainKeys := false, apart := false, laid := [("unicode/utf8.acceptRanges", laid_unicode_utf8_acceptRanges), ("roundelay/roundelaylaw22.heads", laid_roundelay_roundelaylaw22_heads), ("roundelay/trace.events", laid_roundelay_trace_events), ("unicode/utf8.first", laid_unicode_utf8_first)] }
def TraceWaitsSaid : Prop := traceWaitsRow.holds Tryz.pinned (OpenSpec.ofChange traceWaitsSpec)

/-- ITS FALSE NEIGHBOUR: 'it returns false'. Refute it at one input. -/
def traceWaitsWrong : ChangeSpec := { name := "traceWaits", fn := fun _ => fun
  | [d1, d2] => { results := [.lit (.bool false)], args := [d1, d2] }
  | _ => none }
def TraceWaitsWrongFalsely : Prop := traceWaitsRow.holds Tryz.pinned (OpenSpec.ofChange traceWaitsWrong)

/-- 'roundelaylaw26.TraceNews': WHATEVER THE INPUT: true; the input reads as it did. -/
def traceNewsSpec : ChangeSpec := { name := "traceNews", fn := fun _ => fun
  | [d1, d2, d3, d4, d5] => { results := [.lit (.bool true)], args := [d1, d2, d3, d4, d5] }
  | _ => none }
def traceNewsRow : OpenClaim := { program := "yticmcblmkphiaaagreatdoor", sum := "68d8a3602428676979d8c00b67e4e34a4bfbb815f4e4e62681019d7d498e42c5", func := "roundelay/roundelaylaw26.TraceNews", spec := "traceNews", inPlace := ["internal/bytealg.IndexByteString", "internal/bytealg.IndexString"], unfollowed := true, recurses := true, named := ["unicode/utf8.first", "unicode/utf8.acceptRanges", "roundelay/trace.events", "internal/bytealg.MaxLen"], plainKeys := false, apart := false, laid := [("unicode/utf8.acceptRanges", laid_unicode_utf8_acceptRanges), ("roundelay/trace.events", laid_roundelay_trace_events), ("unicode/utf8.first", laid_unicode_utf8_first)] }
def TraceNewsSaid : Prop := traceNewsRow.holds Tryz.pinned (OpenSpec.ofChange traceNewsSpec)

/-- ITS FALSE NEIGHBOUR: 'it returns false'. Refute it at one input. -/
def traceNewsWrong : ChangeSpec := { name := "traceNews", fn := fun _ => fun
  | [d1, d2, d3, d4, d5] => { results := [.lit (.bool false)], args := [d1, d2, d3, d4, d5] }
  | _ => none }
def TraceNewsWrongFalsely : Prop := traceNewsRow.holds Tryz.pinned (OpenSpec.ofChange traceNewsWrong)

/-- 'roundelaylaw26.TraceSmall': WHATEVER THE INPUT: true; the input reads as it did. -/
def traceSmallSpec : ChangeSpec := { name := "traceSmall", fn := fun _ => fun
  | [] => { results := [.lit (.bool true)], args := [] }
  | _ => none }
def traceSmallRow : OpenClaim := { program := "yticmcblmkphiaaagreatdoor", sum := "68d8a3602428676979d8c00b67e4e34a4bfbb815f4e4e62681019d7d498e42c5", func := "roundelay/roundelaylaw26.TraceSmall", spec := "traceSmall", inPlace := ["internal/bytealg.IndexByteString", "internal/bytealg.IndexString"], unfollowed := true, recurses := true, named := ["unicode/utf8.first", "unicode/utf8.acceptRanges", "roundelay/trace.events", "internal/bytealg.MaxLen"], plainKeys := false, apart := false, laid := [("unicode/utf8.acceptRanges", laid_unicode_utf8_acceptRanges), ("roundelay/trace.events", laid_roundelay_trace_events), ("unicode/utf8.first", laid_unicode_utf8_first)] }
def TraceSmallSaid : Prop := traceSmallRow.holds Tryz.pinned (OpenSpec.ofChange traceSmallSpec)

/-- ITS FALSE NEIGHBOUR: 'it returns false'. Refute it at one input. -/
def traceSmallWrong : ChangeSpec := { name := "traceSmall", fn := fun _ => fun
  | [] => { results := [.lit (.bool false)], args := [] }
  | _ => none }
def TraceSmallWrongFalsely : Prop := traceSmallRow.holds Tryz.pinned (OpenSpec.ofChange traceSmallWrong)

/-- 'roundelaylaw26.TraceBack': WHATEVER THE INPUT: true; the input reads as it did. -/
def traceBackSpec : ChangeSpec := { name := "traceBack", fn := fun _ => fun
  | [d1, d2] => { results := [.lit (.bool true)], args := [d1, d2] }
  | _ => none }
def traceBackRow : OpenClaim := { program := "yticmcblmkphiaaagreatdoor", sum := "68d8a3602428676979d8c00b67e4e34a4bfbb815f4e4e62681019d7d498e42c5", func := "roundelay/roundelaylaw26.TraceBack", spec := "traceBack", inPlace := ["internal/bytealg.IndexByteString", "internal/bytealg.IndexString"], unfollowed := true, recurses := true, named := ["roundelay/roundelaylaw22.heads", "unicode/utf8.first", "unicode/utf8.acceptRanges", "roundelay/trace.events", "internal/bytealg.MaxLen"], plainKeys := false, apart := false, laid := [("unicode/utf8.acceptRanges", laid_unicode_utf8_acceptRanges), ("roundelay/roundelaylaw22.heads", laid_roundelay_roundelaylaw22_heads), ("roundelay/trace.events", laid_roundelay_trace_events), ("unicode/utf8.first", laid_unicode_utf8_first)] }
def TraceBackSaid : Prop := traceBackRow.holds Tryz.pinned (OpenSpec.ofChange traceBackSpec)

/-- ITS FALSE NEIGHBOUR: 'it returns false'. Refute it at one input. -/
def traceBackWrong : ChangeSpec := { name := "traceBack", fn := fun _ => fun
  | [d1, d2] => { results := [.lit (.bool false)], args := [d1, d2] }
  | _ => none }
def TraceBackWrongFalsely : Prop := traceBackRow.holds Tryz.pinned (OpenSpec.ofChange traceBackWrong)

/-- 'roundelaylaw26.TraceTo': WHATEVER THE INPUT: true; the input reads as it did. -/
def traceToSpec : ChangeSpec := { name := "traceTo", fn := fun _ => fun
  | [d1, d2, d3] => { results := [.lit (.bool true)], args := [d1, d2, d3] }
  | _ => none }
def traceToRow : OpenClaim := { program := "yticmcblmkphiaaagreatdoor", sum := "68d8a3602428676979d8c00b67e4e34a4bfbb815f4e4e62681019d7d498e42c5", func := "roundelay/roundelaylaw26.TraceTo", spec := "traceTo", inPlace := ["internal/bytealg.IndexByteString", "internal/bytealg.IndexString"], unfollowed := true, recurses := true, named := ["roundelay/roundelaylaw22.heads", "unicode/utf8.first", "unicode/utf8.acceptRanges", "roundelay/trace.events", "internal/bytealg.MaxLen"], plainKeys := false, apart := false, laid := [("unicode/utf8.acceptRanges", laid_unicode_utf8_acceptRanges), ("roundelay/roundelaylaw22.heads", laid_roundelay_roundelaylaw22_heads), ("roundelay/trace.events", laid_roundelay_trace_events), ("unicode/utf8.first", laid_unicode_utf8_first)] }
def TraceToSaid : Prop := traceToRow.holds Tryz.pinned (OpenSpec.ofChange traceToSpec)

/-- ITS FALSE NEIGHBOUR: 'it returns false'. Refute it at one input. -/
def traceToWrong : ChangeSpec := { name := "traceTo", fn := fun _ => fun
  | [d1, d2, d3] => { results := [.lit (.bool false)], args := [d1, d2, d3] }
  | _ => none }
def TraceToWrongFalsely : Prop := traceToRow.holds Tryz.pinned (OpenSpec.ofChange traceToWrong)

/-- 'roundelaylaw26.TraceLong': WHATEVER THE INPUT: true; the input reads as it did. -/
def traceLongSpec : ChangeSpec := { name := "traceLong", fn := fun _ => fun
  | [d1, d2, d3] => { results := [.lit (.bool true)], args := [d1, d2, d3] }
  | _ => none }
def traceLongRow : OpenClaim := { program := "yticmcblmkphiaaagreatdoor", sum := "68d8a3602428676979d8c00b67e4e34a4bfbb815f4e4e62681019d7d498e42c5", func := "roundelay/roundelaylaw26.TraceLong", spec := "traceLong", inPlace := ["internal/bytealg.IndexByteString", "internal/bytealg.IndexString"], unfollowed := true, recurses := true, named := ["unicode/utf8.first", "unicode/utf8.acceptRanges", "roundelay/trace.events", "internal/bytealg.MaxLen"], plainKeys := false, apart := false, laid := [("unicode/utf8.acceptRanges", laid_unicode_utf8_acceptRanges), ("roundelay/trace.events", laid_roundelay_trace_events), ("unicode/utf8.first", laid_unicode_utf8_first)] }
def TraceLongSaid : Prop := traceLongRow.holds Tryz.pinned (OpenSpec.ofChange traceLongSpec)

/-- ITS FALSE NEIGHBOUR: 'it returns false'. Refute it at one input. -/
def traceLongWrong : ChangeSpec := { name := "traceLong", fn := fun _ => fun
  | [d1, d2, d3] => { results := [.lit (.bool false)], args := [d1, d2, d3] }
  | _ => none }
def TraceLongWrongFalsely : Prop := traceLongRow.holds Tryz.pinned (OpenSpec.ofChange traceLongWrong)

/-- 'roundelaylaw26.TraceUntil': WHATEVER THE INPUT: true; the input reads as it did. -/
def traceUntilSpec : ChangeSpec := { name := "traceUntil", fn := fun _ => fun
  | [d1, d2, d3] => { results := [.lit (.bool true)], args := [d1, d2, d3] }
  | _ => none }
def traceUntilRow : OpenClaim := { program := "yticmcblmkphiaaagreatdoor", sum := "68d8a3602428676979d8c00b67e4e34a4bfbb815f4e4e62681019d7d498e42c5", func := "roundelay/roundelaylaw26.TraceUntil", spec := "traceUntil", inPlace := ["internal/bytealg.IndexByteString", "internal/bytealg.IndexString"], unfollowed := true, recurses := true, named := ["roundelay/roundelaylaw22.heads", "unicode/utf8.first", "unicode/utf8.acceptRanges", "roundelay/trace.events", "internal/bytealg.MaxLen"], plainKeys := false, apart := false, laid := [("unicode/utf8.acceptRanges", laid_unicode_utf8_acceptRanges), ("roundelay/roundelaylaw22.heads", laid_roundelay_roundelaylaw22_heads), ("roundelay/trace.events", laid_roundelay_trace_events), ("unicode/utf8.first", laid_unicode_utf8_first)] }
def TraceUntilSaid : Prop := traceUntilRow.holds Tryz.pinned (OpenSpec.ofChange traceUntilSpec)

/-- ITS FALSE NEIGHBOUR: 'it returns false'. Refute it at one input. -/
def traceUntilWrong : ChangeSpec := { name := "traceUntil", fn := fun _ => fun
  | [d1, d2, d3] => { results := [.lit (.bool false)], args := [d1, d2, d3] }
  | _ => none }
def TraceUntilWrongFalsely : Prop := traceUntilRow.holds Tryz.pinned (OpenSpec.ofChange traceUntilWrong)

/- THE SECOND FORM. 'bulk': how many values and letters a reading holds, each counted each time it is reached (what is shared counts as often as it is met; a slice's spare places count too). A statement '..UptoSaid' is the law's where the arguments, and the package variables that the reading takes, are together of bulk at most 1048576: NARROWER than '..Said'. Prove '..Said' where nothing that the law and all that it calls make is longer than what came in: it says more and counts as full. Else prove '..UptoSaid'. A law counts once. -/
mutual
def uptoBulk {H : Type} : DataW H → Nat
  | .lit (.string bytes) => bytes.length + 1
  | .lit _ => 1
  | .nil => 1
  | .ptr d => uptoBulk d + 1
  | .slice elems spare => uptoBulkAll elems + uptoBulkAll spare + 1
  | .agg parts => uptoBulkAll parts + 1
  | .iface _ d => uptoBulk d + 1
  | .map entries => uptoBulkEntries entries + 1
  | .held _ => 1
def uptoBulkAll {H : Type} : List (DataW H) → Nat
  | [] => 0
  | d :: r => uptoBulk d + uptoBulkAll r
def uptoBulkEntries {H : Type} : List (Lit × DataW H) → Nat
  | [] => 0
  | x :: r => uptoBulkEntry x + uptoBulkEntries r
def uptoBulkEntry {H : Type} : Lit × DataW H → Nat
  | (.string bytes, d) => bytes.length + uptoBulk d + 1
  | (_, d) => uptoBulk d + 1
 end
def uptoSmall : (H : Type) → List (DataW H) → Bool := fun _ ds => decide (uptoBulkAll ds ≤ 1048576)
def OpenSpec.upto (s : _root_.Go.ChangeSpec) : _root_.Go.OpenSpec := { _root_.Go.OpenSpec.ofChange s with cond := some uptoSmall }

/-- 'roundelaylaw26.TraceDiffs', WHERE WHAT IT READS IS OF BULK AT MOST 1048576: true; the input reads as it did. -/
def traceDiffsUptoRow : OpenClaim := { program := "yticmcblmkphiaaagreatdoor", sum := "68d8a3602428676979d8c00b67e4e34a4bfbb815f4e4e62681019d7d498e42c5", func := "roundelay/roundelaylaw26.TraceDiffs", spec := "traceDiffs", inPlace := ["internal/bytealg.IndexByteString", "internal/bytealg.IndexString"], unfollowed := true, recurses := true, named := ["unicode/utf8.first", "unicode/utf8.acceptRanges", "roundelay/trace.events", "internal/bytealg.MaxLen"], plainKeys := false, apart := false, laid := [("unicode/utf8.acceptRanges", laid_unicode_utf8_acceptRanges), ("roundelay/trace.events", laid_roundelay_trace_events), ("unicode/utf8.first", laid_unicode_utf8_first)], narrowed := true }
def TraceDiffsUptoSaid : Prop := traceDiffsUptoRow.holds Tryz.pinned (OpenSpec.upto traceDiffsSpec)

/-- 'roundelaylaw26.TraceTells', WHERE WHAT IT READS IS OF BULK AT MOST 1048576: true; the input reads as it did. -/
def traceTellsUptoRow : OpenClaim := { program := "yticmcblmkphiaaagreatdoor", sum := "68d8a3602428676979d8c00b67e4e34a4bfbb815f4e4e62681019d7d498e42c5", func := "roundelay/roundelaylaw26.TraceTells", spec := "traceTells", inPlace := ["internal/bytealg.IndexByteString", "internal/bytealg.IndexString"], unfollowed := true, recurses := true, named := ["unicode/utf8.first", "unicode/utf8.acceptRanges", "roundelay/trace.events", "internal/bytealg.MaxLen"], plainKeys := false, apart := false, laid := [("unicode/utf8.acceptRanges", laid_unicode_utf8_acceptRanges), ("roundelay/trace.events", laid_roundelay_trace_events), ("unicode/utf8.first", laid_unicode_utf8_first)], narrowed := true }
def TraceTellsUptoSaid : Prop := traceTellsUptoRow.holds Tryz.pinned (OpenSpec.upto traceTellsSpec)

/-- 'roundelaylaw26.TraceWhys', WHERE WHAT IT READS IS OF BULK AT MOST 1048576: true; the input reads as it did. -/
def traceWhysUptoRow : OpenClaim := { program := "yticmcblmkphiaaagreatdoor", sum := "68d8a3602428676979d8c00b67e4e34a4bfbb815f4e4e62681019d7d498e42c5", func := "roundelay/roundelaylaw26.TraceWhys", spec := "traceWhys", inPlace := ["internal/bytealg.IndexByteString", "internal/bytealg.IndexString"], unfollowed := true, recurses := true, named := ["unicode/utf8.first", "unicode/utf8.acceptRanges", "roundelay/trace.events", "internal/bytealg.MaxLen"], plainKeys := false, apart := false, laid := [("unicode/utf8.acceptRanges", laid_unicode_utf8_acceptRanges), ("roundelay/trace.events", laid_roundelay_trace_events), ("unicode/utf8.first", laid_unicode_utf8_first)], narrowed := true }
def TraceWhysUptoSaid : Prop := traceWhysUptoRow.holds Tryz.pinned (OpenSpec.upto traceWhysSpec)

/-- 'roundelaylaw26.TraceEvents', WHERE WHAT IT READS IS OF BULK AT MOST 1048576: true; the input reads as it did. -/
def traceEventsUptoRow : OpenClaim := { program := "yticmcblmkphiaaagreatdoor", sum := "68d8a3602428676979d8c00b67e4e34a4bfbb815f4e4e62681019d7d498e42c5", func := "roundelay/roundelaylaw26.TraceEvents", spec := "traceEvents", inPlace := ["internal/bytealg.IndexByteString", "internal/bytealg.IndexString"], unfollowed := true, recurses := true, named := ["roundelay/roundelaylaw22.heads", "unicode/utf8.first", "unicode/utf8.acceptRanges", "roundelay/trace.events", "internal/bytealg.MaxLen"], plainKeys := false, apart := false, laid := [("unicode/utf8.acceptRanges", laid_unicode_utf8_acceptRanges), ("roundelay/roundelaylaw22.heads", laid_roundelay_roundelaylaw22_heads), ("roundelay/trace.events", laid_roundelay_trace_events), ("unicode/utf8.first", laid_unicode_utf8_first)], narrowed := true }
def TraceEventsUptoSaid : Prop := traceEventsUptoRow.holds Tryz.pinned (OpenSpec.upto traceEventsSpec)

/-- 'roundelaylaw26.TraceWaits', WHERE WHAT IT READS IS OF BULK AT MOST 1048576: true; the input reads as it did. -/
def traceWaitsUptoRow : OpenClaim := { program := "yticmcblmkphiaaagreatdoor", sum := "68d8a3602428676979d8c00b67e4e34a4bfbb815f4e4e62681019d7d498e42c5", func := "roundelay/roundelaylaw26.TraceWaits", spec := "traceWaits", inPlace := ["internal/bytealg.IndexByteString", "internal/bytealg.IndexString"], unfollowed := true, recurses := true, named := ["roundelay/roundelaylaw22.heads", "unicode/utf8.first", "unicode/utf8.acceptRanges", "roundelay/trace.events", "internal/bytealg.MaxLen"], plainKeys := false, apart := false, laid := [("unicode/utf8.acceptRanges", laid_unicode_utf8_acceptRanges), ("roundelay/roundelaylaw22.heads", laid_roundelay_roundelaylaw22_heads), ("roundelay/trace.events", laid_roundelay_trace_events), ("unicode/utf8.first", laid_unicode_utf8_first)], narrowed := true }
def TraceWaitsUptoSaid : Prop := traceWaitsUptoRow.holds Tryz.pinned (OpenSpec.upto traceWaitsSpec)

/-- 'roundelaylaw26.TraceNews', WHERE WHAT IT READS IS OF BULK AT MOST 1048576: true; the input reads as it did. -/
def traceNewsUptoRow : OpenClaim := { program := "yticmcblmkphiaaagreatdoor", sum := "68d8a3602428676979d8c00b67e4e34a4bfbb815f4e4e62681019d7d498e42c5", func := "roundelay/roundelaylaw26.TraceNews", spec := "traceNews", inPlace := ["internal/bytealg.IndexByteString", "internal/bytealg.IndexString"], unfollowed := true, recurses := true, named := ["unicode/utf8.first", "unicode/utf8.acceptRanges", "roundelay/trace.events", "internal/bytealg.MaxLen"], plainKeys := false, apart := false, laid := [("unicode/utf8.acceptRanges", laid_unicode_utf8_acceptRanges), ("roundelay/trace.events", laid_roundelay_trace_events), ("unicode/utf8.first", laid_unicode_utf8_first)], narrowed := true }
def TraceNewsUptoSaid : Prop := traceNewsUptoRow.holds Tryz.pinned (OpenSpec.upto traceNewsSpec)

/-- 'roundelaylaw26.TraceSmall', WHERE WHAT IT READS IS OF BULK AT MOST 1048576: true; the input reads as it did. -/
def traceSmallUptoRow : OpenClaim := { program := "yticmcblmkphiaaagreatdoor", sum := "68d8a3602428676979d8c00b67e4e34a4bfbb815f4e4e62681019d7d498e42c5", func := "roundelay/roundelaylaw26.TraceSmall", spec := "traceSmall", inPlace := ["internal/bytealg.IndexByteString", "internal/bytealg.IndexString"], unfollowed := true, recurses := true, named := ["unicode/utf8.first", "unicode/utf8.acceptRanges", "roundelay/trace.events", "internal/bytealg.MaxLen"], plainKeys := false, apart := false, laid := [("unicode/utf8.acceptRanges", laid_unicode_utf8_acceptRanges), ("roundelay/trace.events", laid_roundelay_trace_events), ("unicode/utf8.first", laid_unicode_utf8_first)], narrowed := true }
def TraceSmallUptoSaid : Prop := traceSmallUptoRow.holds Tryz.pinned (OpenSpec.upto traceSmallSpec)

/-- 'roundelaylaw26.TraceBack', WHERE WHAT IT READS IS OF BULK AT MOST 1048576: true; the input reads as it did. -/
def traceBackUptoRow : OpenClaim := { program := "yticmcblmkphiaaagreatdoor", sum := "68d8a3602428676979d8c00b67e4e34a4bfbb815f4e4e62681019d7d498e42c5", func := "roundelay/roundelaylaw26.TraceBack", spec := "traceBack", inPlace := ["internal/bytealg.IndexByteString", "internal/bytealg.IndexString"], unfollowed := true, recurses := true, named := ["roundelay/roundelaylaw22.heads", "unicode/utf8.first", "unicode/utf8.acceptRanges", "roundelay/trace.events", "internal/bytealg.MaxLen"], plainKeys := false, apart := false, laid := [("unicode/utf8.acceptRanges", laid_unicode_utf8_acceptRanges), ("roundelay/roundelaylaw22.heads", laid_roundelay_roundelaylaw22_heads), ("roundelay/trace.events", laid_roundelay_trace_events), ("unicode/utf8.first", laid_unicode_utf8_first)], narrowed := true }
def TraceBackUptoSaid : Prop := traceBackUptoRow.holds Tryz.pinned (OpenSpec.upto traceBackSpec)

/-- 'roundelaylaw26.TraceTo', WHERE WHAT IT READS IS OF BULK AT MOST 1048576: true; the input reads as it did. -/
def traceToUptoRow : OpenClaim := { program := "yticmcblmkphiaaagreatdoor", sum := "68d8a3602428676979d8c00b67e4e34a4bfbb815f4e4e62681019d7d498e42c5", func := "roundelay/roundelaylaw26.TraceTo", spec := "traceTo", inPlace := ["internal/bytealg.IndexByteString", "internal/bytealg.IndexString"], unfollowed := true, recurses := true, named := ["roundelay/roundelaylaw22.heads", "unicode/utf8.first", "unicode/utf8.acceptRanges", "roundelay/trace.events", "internal/bytealg.MaxLen"], plainKeys := false, apart := false, laid := [("unicode/utf8.acceptRanges", laid_unicode_utf8_acceptRanges), ("roundelay/roundelaylaw22.heads", laid_roundelay_roundelaylaw22_heads), ("roundelay/trace.events", laid_roundelay_trace_events), ("unicode/utf8.first", laid_unicode_utf8_first)], narrowed := true }
def TraceToUptoSaid : Prop := traceToUptoRow.holds Tryz.pinned (OpenSpec.upto traceToSpec)

/-- 'roundelaylaw26.TraceLong', WHERE WHAT IT READS IS OF BULK AT MOST 1048576: true; the input reads as it did. -/
def traceLongUptoRow : OpenClaim := { program := "yticmcblmkphiaaagreatdoor", sum := "68d8a3602428676979d8c00b67e4e34a4bfbb815f4e4e62681019d7d498e42c5", func := "roundelay/roundelaylaw26.TraceLong", spec := "traceLong", inPlace := ["internal/bytealg.IndexByteString", "internal/bytealg.IndexString"], unfollowed := true, recurses := true, named := ["unicode/utf8.first", "unicode/utf8.acceptRanges", "roundelay/trace.events", "internal/bytealg.MaxLen"], plainKeys := false, apart := false, laid := [("unicode/utf8.acceptRanges", laid_unicode_utf8_acceptRanges), ("roundelay/trace.events", laid_roundelay_trace_events), ("unicode/utf8.first", laid_unicode_utf8_first)], narrowed := true }
def TraceLongUptoSaid : Prop := traceLongUptoRow.holds Tryz.pinned (OpenSpec.upto traceLongSpec)

/-- 'roundelaylaw26.TraceUntil', WHERE WHAT IT READS IS OF BULK AT MOST 1048576: true; the input reads as it did. -/
def traceUntilUptoRow : OpenClaim := { program := "yticmcblmkphiaaagreatdoor", sum := "68d8a3602428676979d8c00b67e4e34a4bfbb815f4e4e62681019d7d498e42c5", func := "roundelay/roundelaylaw26.TraceUntil", spec := "traceUntil", inPlace := ["internal/bytealg.IndexByteString", "internal/bytealg.IndexString"], unfollowed := true, recurses := true, named := ["roundelay/roundelaylaw22.heads", "unicode/utf8.first", "unicode/utf8.acceptRanges", "roundelay/trace.events", "internal/bytealg.MaxLen"], plainKeys := false, apart := false, laid := [("unicode/utf8.acceptRanges", laid_unicode_utf8_acceptRanges), ("roundelay/roundelaylaw22.heads", laid_roundelay_roundelaylaw22_heads), ("roundelay/trace.events", laid_roundelay_trace_events), ("unicode/utf8.first", laid_unicode_utf8_first)], narrowed := true }
def TraceUntilUptoSaid : Prop := traceUntilUptoRow.holds Tryz.pinned (OpenSpec.upto traceUntilSpec)

end Rows
end Go.Proofs.YticmcblmkphiaaaGreatDoor
