/-
  NARROWER THAN 'FOR EVERY INPUT', by the rows' own cells (each row's printed sentence says how): ShieldGuesses: laid · ShieldProtects: laid · ShieldOpens: laid · ShieldThrough: laid · ShieldHides: laid · ShieldSends: laid · ShieldReports: laid · ShieldForged: laid · ShieldKnown: laid.
  DERIVED. THE GIVEN ROWS OF THIS SEAT. 9 by the template 'for every input the law returns true; each argument reads behind the call as it read before'; 0 by the template 'total and deterministic' (their statements: YtnhechnaemmdiaaGreatDoorTotals.lean).
  GIVEN WITH THE SEED: the statements are not yours to turn. If you find one false, say at which input.
  Laid BY PROGRAM, IN A SANDBOX (cutbox-rows.mjs): the forced cells as the released guide's own fill.sh prints them over the translation 7ec305876e4d1d3c… (all of the seat's roots in one cut). By AI agents, Wed Nov 11 2026. No macro, syntax, notation, axiom, sorry.
-/
import Derived.Test.YtnhechnaemmdiaaGreatDoorChecked
import GoSem.PinnedTables
import GoSem.Claim
import GoSem.ClaimJoined
import GoSem.ClaimMapViews
import Derived.JoinedTies
import Derived.KernelRfl
namespace Go.Proofs.YtnhechnaemmdiaaGreatDoor
/- THE CELL 'sum', in the pinned program and in every row, IS THE sha256 OF THE DUMP (.gsa) THAT YtnhechnaemmdiaaGreatDoorProg.lean LOADS. Nothing in Lean hashes anything: it is a label: what it is worth is what the hold of that sum in a sandbox is worth. -/
noncomputable def Tryz.pinned : Pinned := { name := "ytnhechnaemmdiaagreatdoor", sum := "7ec305876e4d1d3c5598a3f0cb278529b0a9203608d8e2f3860eab50b5a7db0f", checked := Tryz.checked }
namespace Rows
def none {H : Type} : Left H := { results := [], args := [] }

/- WHAT THE LISTED PACKAGE-LEVEL VARIABLES READ AS WHEN THE CALL BEGINS. Each datum BY PROGRAM (the guide's laid-datum.mjs) off the statement by which the dump's own 'gosem.cut.vars' lays the variable. In a bare row this is a premise. The card (YtnhechnaemmdiaaGreatDoorCards.lean) ties it to the program's text. -/
def laid_unicode_utf8_acceptRanges {H : Type} : DataW H := .agg [.agg [.lit (.int .u8 128), .lit (.int .u8 191)], .agg [.lit (.int .u8 160), .lit (.int .u8 191)], .agg [.lit (.int .u8 128), .lit (.int .u8 159)], .agg [.lit (.int .u8 144), .lit (.int .u8 191)], .agg [.lit (.int .u8 128), .lit (.int .u8 143)], .agg [.lit (.int .u8 0), .lit (.int .u8 0)], .agg [.lit (.int .u8 0), .lit (.int .u8 0)], .agg [.lit (.int .u8 0), .lit (.int .u8 0)], .agg [.lit (.int .u8 0), .lit (.int .u8 0)], .agg [.lit (.int .u8 0), .lit (.int .u8 0)], .agg [.lit (.int .u8 0), .lit (.int .u8 0)], .agg [.lit (.int .u8 0), .lit (.int .u8 0)], .agg [.lit (.int .u8 0), .lit (.int .u8 0)], .agg [.lit (.int .u8 0), .lit (.int .u8 0)], .agg [.lit (.int .u8 0), .lit (.int .u8 0)], .agg [.lit (.int .u8 0), .lit (.int .u8 0)]]
def laid_tannoy_control_has {H : Type} : DataW H := .agg [.agg [.lit (.bool false), .lit (.bool false), .lit (.bool false), .lit (.bool false), .lit (.bool false)], .agg [.lit (.bool false), .lit (.bool true), .lit (.bool true), .lit (.bool false), .lit (.bool false)], .agg [.lit (.bool false), .lit (.bool false), .lit (.bool true), .lit (.bool false), .lit (.bool false)], .agg [.lit (.bool false), .lit (.bool false), .lit (.bool false), .lit (.bool false), .lit (.bool false)], .agg [.lit (.bool true), .lit (.bool false), .lit (.bool false), .lit (.bool true), .lit (.bool false)], .agg [.lit (.bool true), .lit (.bool false), .lit (.bool false), .lit (.bool false), .lit (.bool false)], .agg [.lit (.bool true), .lit (.bool false), .lit (.bool false), .lit (.bool false), .lit (.bool true)]]
def laid_tannoy_control_wire {H : Type} : DataW H := .agg [.lit (.int .i64 0), .lit (.int .i64 200), .lit (.int .i64 201), .lit (.int .i64 203), .lit (.int .i64 205), .lit (.int .i64 206), .lit (.int .i64 205)]
/-- One of Go's own tables, pinned by name: the form's constant. -/
def laid_unicode_utf8_first : DataW Unit := Go.Pinned.utf8First

/-- 'tannoylaw25.ShieldGuesses': WHATEVER THE INPUT: true; the input reads as it did. -/
def shieldGuessesSpec : ChangeSpec := { name := "shieldGuesses", fn := fun _ => fun
  | [d1, d2, d3, d4, d5, d6] => { results := [.lit (.bool true)], args := [d1, d2, d3, d4, d5, d6] }
  | _ => none }
def shieldGuessesRow : OpenClaim := { program := "ytnhechnaemmdiaagreatdoor", sum := "7ec305876e4d1d3c5598a3f0cb278529b0a9203608d8e2f3860eab50b5a7db0f", func := "tannoy/tannoylaw25.ShieldGuesses", spec := "shieldGuesses", inPlace := ["internal/abi.NoEscape", "internal/bytealg.MakeNoZero", "internal/bytealg.IndexByteString", "internal/bytealg.IndexString"], unfollowed := true, recurses := true, named := ["unicode/utf8.first", "unicode/utf8.acceptRanges", "tannoy/control.has", "tannoy/control.wire", "internal/bytealg.MaxLen"], apart := false, laid := [("unicode/utf8.acceptRanges", laid_unicode_utf8_acceptRanges), ("tannoy/control.has", laid_tannoy_control_has), ("tannoy/control.wire", laid_tannoy_control_wire), ("unicode/utf8.first", laid_unicode_utf8_first)] }
def ShieldGuessesSaid : Prop := shieldGuessesRow.holds Tryz.pinned (OpenSpec.ofChange shieldGuessesSpec)

/-- ITS FALSE NEIGHBOUR: 'it returns false'. Refute it at one input. -/
def shieldGuessesWrong : ChangeSpec := { name := "shieldGuesses", fn := fun _ => fun
  | [d1, d2, d3, d4, d5, d6] => { results := [.lit (.bool false)], args := [d1, d2, d3, d4, d5, d6] }
  | _ => none }
def ShieldGuessesWrongFalsely : Prop := shieldGuessesRow.holds Tryz.pinned (OpenSpec.ofChange shieldGuessesWrong)

/-- 'tannoylaw25.ShieldProtects': WHATEVER THE INPUT: true; the input reads as it did. -/
def shieldProtectsSpec : ChangeSpec := { name := "shieldProtects", fn := fun _ => fun
  | [d1, d2, d3, d4, d5, d6] => { results := [.lit (.bool true)], args := [d1, d2, d3, d4, d5, d6] }
  | _ => none }
def shieldProtectsRow : OpenClaim := { program := "ytnhechnaemmdiaagreatdoor", sum := "7ec305876e4d1d3c5598a3f0cb278529b0a9203608d8e2f3860eab50b5a7db0f", func := "tannoy/tannoylaw25.ShieldProtects", spec := "shieldProtects", inPlace := ["internal/abi.NoEscape", "internal/bytealg.MakeNoZero", "internal/bytealg.IndexByteString", "internal/bytealg.IndexString"], unfollowed := true, recurses := true, named := ["unicode/utf8.first", "unicode/utf8.acceptRanges", "tannoy/control.has", "tannoy/control.wire", "internal/bytealg.MaxLen"], apart := false, laid := [("unicode/utf8.acceptRanges", laid_unicode_utf8_acceptRanges), ("tannoy/control.has", laid_tannoy_control_has), ("tannoy/control.wire", laid_tannoy_control_wire), ("unicode/utf8.first", laid_unicode_utf8_first)] }
def ShieldProtectsSaid : Prop := shieldProtectsRow.holds Tryz.pinned (OpenSpec.ofChange shieldProtectsSpec)

/-- ITS FALSE NEIGHBOUR: 'it returns false'. Refute it at one input. -/
def shieldProtectsWrong : ChangeSpec := { name := "shieldProtects", fn := fun _ => fun
  | [d1, d2, d3, d4, d5, d6] => { results := [.lit (.bool false)], args := [d1, d2, d3, d4, d5, d6] }
  | _ => none }
def ShieldProtectsWrongFalsely : Prop := shieldProtectsRow.holds Tryz.pinned (OpenSpec.ofChange shieldProtectsWrong)

/-- 'tannoylaw25.ShieldOpens': WHATEVER THE INPUT: true; the input reads as it did. -/
def shieldOpensSpec : ChangeSpec := { name := "shieldOpens", fn := fun _ => fun
  | [d1, d2, d3, d4, d5, d6] => { results := [.lit (.bool true)], args := [d1, d2, d3, d4, d5, d6] }
  | _ => none }
def shieldOpensRow : OpenClaim := { program := "ytnhechnaemmdiaagreatdoor", sum := "7ec305876e4d1d3c5598a3f0cb278529b0a9203608d8e2f3860eab50b5a7db0f", func := "tannoy/tannoylaw25.ShieldOpens", spec := "shieldOpens", inPlace := ["internal/abi.NoEscape", "internal/bytealg.MakeNoZero", "internal/bytealg.IndexByteString", "internal/bytealg.IndexString"], unfollowed := true, recurses := true, named := ["unicode/utf8.first", "unicode/utf8.acceptRanges", "tannoy/control.has", "tannoy/control.wire", "internal/bytealg.MaxLen"], apart := false, laid := [("unicode/utf8.acceptRanges", laid_unicode_utf8_acceptRanges), ("tannoy/control.has", laid_tannoy_control_has), ("tannoy/control.wire", laid_tannoy_control_wire), ("unicode/utf8.first", laid_unicode_utf8_first)] }
def ShieldOpensSaid : Prop := shieldOpensRow.holds Tryz.pinned (OpenSpec.ofChange shieldOpensSpec)

/-- ITS FALSE NEIGHBOUR: 'it returns false'. Refute it at one input. -/
def shieldOpensWrong : ChangeSpec := { name := "shieldOpens", fn := fun _ => fun
  | [d1, d2, d3, d4, d5, d6] => { results := [.lit (.bool false)], args := [d1, d2, d3, d4, d5, d6] }
  | _ => none }
def ShieldOpensWrongFalsely : Prop := shieldOpensRow.holds Tryz.pinned (OpenSpec.ofChange shieldOpensWrong)

/-- 'tannoylaw25.ShieldThrough': WHATEVER THE INPUT: true; the input reads as it did. -/
def shieldThroughSpec : ChangeSpec := { name := "shieldThrough", fn := fun _ => fun
  | [d1, d2, d3] => { results := [.lit (.bool true)], args := [d1, d2, d3] }
  | _ => none }
def shieldThroughRow : OpenClaim := { program := "ytnhechnaemmdiaagreatdoor", sum := "7ec305876e4d1d3c5598a3f0cb278529b0a9203608d8e2f3860eab50b5a7db0f", func := "tannoy/tannoylaw25.ShieldThrough", spec := "shieldThrough", inPlace := ["internal/abi.NoEscape", "internal/bytealg.MakeNoZero", "internal/bytealg.IndexByteString", "internal/bytealg.IndexString"], unfollowed := true, recurses := true, named := ["unicode/utf8.first", "unicode/utf8.acceptRanges", "tannoy/control.has", "tannoy/control.wire", "internal/bytealg.MaxLen"], apart := false, laid := [("unicode/utf8.acceptRanges", laid_unicode_utf8_acceptRanges), ("tannoy/control.has", laid_tannoy_control_has), ("tannoy/control.wire", laid_tannoy_control_wire), ("unicode/utf8.first", laid_unicode_utf8_first)] }
def ShieldThroughSaid : Prop := shieldThroughRow.holds Tryz.pinned (OpenSpec.ofChange shieldThroughSpec)

/-- ITS FALSE NEIGHBOUR: 'it returns false'. Refute it at one input. -/
def shieldThroughWrong : ChangeSpec := { name := "shieldThrough", fn := fun _ => fun
  | [d1, d2, d3] => { results := [.lit (.bool false)], args := [d1, d2, d3] }
  | _ => none }
def ShieldThroughWrongFalsely : Prop := shieldThroughRow.holds Tryz.pinned (OpenSpec.ofChange shieldThroughWrong)

/-- 'tannoylaw25.ShieldHides': WHATEVER THE INPUT: true; the input reads as it did. -/
def shieldHidesSpec : ChangeSpec := { name := "shieldHides", fn := fun _ => fun
  | [d1, d2, d3] => { results := [.lit (.bool true)], args := [d1, d2, d3] }
  | _ => none }
def shieldHidesRow : OpenClaim := { program := "ytnhechnaemmdiaagreatdoor", sum := "7ec305876e4d1d3c5598a3f0cb278529b0a9203608d8e2f3860eab50b5a7db0f", func := "tannoy/tannoylaw25.ShieldHides", spec := "shieldHides", inPlace := ["internal/abi.NoEscape", "internal/bytealg.MakeNoZero", "internal/bytealg.IndexByteString", "internal/bytealg.IndexString"], unfollowed := true, recurses := true, named := ["unicode/utf8.first", "unicode/utf8.acceptRanges", "tannoy/control.has", "tannoy/control.wire", "internal/bytealg.MaxLen"], apart := false, laid := [("unicode/utf8.acceptRanges", laid_unicode_utf8_acceptRanges), ("tannoy/control.has", laid_tannoy_control_has), ("tannoy/control.wire", laid_tannoy_control_wire), ("unicode/utf8.first", laid_unicode_utf8_first)] }
def ShieldHidesSaid : Prop := shieldHidesRow.holds Tryz.pinned (OpenSpec.ofChange shieldHidesSpec)

/-- ITS FALSE NEIGHBOUR: 'it returns false'. Refute it at one input. -/
def shieldHidesWrong : ChangeSpec := { name := "shieldHides", fn := fun _ => fun
  | [d1, d2, d3] => { results := [.lit (.bool false)], args := [d1, d2, d3] }
  | _ => none }
def ShieldHidesWrongFalsely : Prop := shieldHidesRow.holds Tryz.pinned (OpenSpec.ofChange shieldHidesWrong)

/-- 'tannoylaw25.ShieldSends': WHATEVER THE INPUT: true; the input reads as it did. -/
def shieldSendsSpec : ChangeSpec := { name := "shieldSends", fn := fun _ => fun
  | [d1, d2] => { results := [.lit (.bool true)], args := [d1, d2] }
  | _ => none }
def shieldSendsRow : OpenClaim := { program := "ytnhechnaemmdiaagreatdoor", sum := "7ec305876e4d1d3c5598a3f0cb278529b0a9203608d8e2f3860eab50b5a7db0f", func := "tannoy/tannoylaw25.ShieldSends", spec := "shieldSends", inPlace := ["internal/abi.NoEscape", "internal/bytealg.MakeNoZero", "internal/bytealg.IndexByteString", "internal/bytealg.IndexString"], unfollowed := true, recurses := true, named := ["unicode/utf8.first", "unicode/utf8.acceptRanges", "tannoy/control.has", "tannoy/control.wire", "internal/bytealg.MaxLen"], apart := false, laid := [("unicode/utf8.acceptRanges", laid_unicode_utf8_acceptRanges), ("tannoy/control.has", laid_tannoy_control_has), ("tannoy/control.wire", laid_tannoy_control_wire), ("unicode/utf8.first", laid_unicode_utf8_first)] }
def ShieldSendsSaid : Prop := shieldSendsRow.holds Tryz.pinned (OpenSpec.ofChange shieldSendsSpec)

/-- ITS FALSE NEIGHBOUR: 'it returns false'. Refute it at one input. -/
def shieldSendsWrong : ChangeSpec := { name := "shieldSends", fn := fun _ => fun
  | [d1, d2] => { results := [.lit (.bool false)], args := [d1, d2] }
  | _ => none }
def ShieldSendsWrongFalsely : Prop := shieldSendsRow.holds Tryz.pinned (OpenSpec.ofChange shieldSendsWrong)

/-- 'tannoylaw25.ShieldReports': WHATEVER THE INPUT: true; the input reads as it did. -/
def shieldReportsSpec : ChangeSpec := { name := "shieldReports", fn := fun _ => fun
  | [d1, d2, d3, d4, d5, d6] => { results := [.lit (.bool true)], args := [d1, d2, d3, d4, d5, d6] }
  | _ => none }
def shieldReportsRow : OpenClaim := { program := "ytnhechnaemmdiaagreatdoor", sum := "7ec305876e4d1d3c5598a3f0cb278529b0a9203608d8e2f3860eab50b5a7db0f", func := "tannoy/tannoylaw25.ShieldReports", spec := "shieldReports", inPlace := ["internal/abi.NoEscape", "internal/bytealg.MakeNoZero", "internal/bytealg.IndexByteString", "internal/bytealg.IndexString"], unfollowed := true, recurses := true, named := ["tannoy/control.has", "tannoy/control.wire", "unicode/utf8.first", "unicode/utf8.acceptRanges", "internal/bytealg.MaxLen"], apart := false, laid := [("unicode/utf8.acceptRanges", laid_unicode_utf8_acceptRanges), ("tannoy/control.has", laid_tannoy_control_has), ("tannoy/control.wire", laid_tannoy_control_wire), ("unicode/utf8.first", laid_unicode_utf8_first)] }
def ShieldReportsSaid : Prop := shieldReportsRow.holds Tryz.pinned (OpenSpec.ofChange shieldReportsSpec)

/-- ITS FALSE NEIGHBOUR: 'it returns false'. Refute it at one input. -/
def shieldReportsWrong : ChangeSpec := { name := "shieldReports", fn := fun _ => fun
  | [d1, d2, d3, d4, d5, d6] => { results := [.lit (.bool false)], args := [d1, d2, d3, d4, d5, d6] }
  | _ => none }
def ShieldReportsWrongFalsely : Prop := shieldReportsRow.holds Tryz.pinned (OpenSpec.ofChange shieldReportsWrong)

/-- 'tannoylaw25.ShieldForged': WHATEVER THE INPUT: true; the input reads as it did. -/
def shieldForgedSpec : ChangeSpec := { name := "shieldForged", fn := fun _ => fun
  | [d1, d2, d3, d4, d5] => { results := [.lit (.bool true)], args := [d1, d2, d3, d4, d5] }
  | _ => none }
def shieldForgedRow : OpenClaim := { program := "ytnhechnaemmdiaagreatdoor", sum := "7ec305876e4d1d3c5598a3f0cb278529b0a9203608d8e2f3860eab50b5a7db0f", func := "tannoy/tannoylaw25.ShieldForged", spec := "shieldForged", inPlace := ["internal/abi.NoEscape", "internal/bytealg.MakeNoZero", "internal/bytealg.IndexByteString", "internal/bytealg.IndexString"], unfollowed := true, recurses := true, named := ["unicode/utf8.first", "unicode/utf8.acceptRanges", "tannoy/control.has", "tannoy/control.wire", "internal/bytealg.MaxLen"], apart := false, laid := [("unicode/utf8.acceptRanges", laid_unicode_utf8_acceptRanges), ("tannoy/control.has", laid_tannoy_control_has), ("tannoy/control.wire", laid_tannoy_control_wire), ("unicode/utf8.first", laid_unicode_utf8_first)] }
def ShieldForgedSaid : Prop := shieldForgedRow.holds Tryz.pinned (OpenSpec.ofChange shieldForgedSpec)

/-- ITS FALSE NEIGHBOUR: 'it returns false'. Refute it at one input. -/
def shieldForgedWrong : ChangeSpec := { name := "shieldForged", fn := fun _ => fun
  | [d1, d2, d3, d4, d5] => { results := [.lit (.bool false)], args := [d1, d2, d3, d4, d5] }
  | _ => none }
def ShieldForgedWrongFalsely : Prop := shieldForgedRow.holds Tryz.pinned (OpenSpec.ofChange shieldForgedWrong)

/-- 'tannoylaw25.ShieldKnown': WHATEVER THE INPUT: true; the input reads as it did. -/
def shieldKnownSpec : ChangeSpec := { name := "shieldKnown", fn := fun _ => fun
  | [] => { results := [.lit (.bool true)], args := [] }
  | _ => none }
def shieldKnownRow : OpenClaim := { program := "ytnhechnaemmdiaagreatdoor", sum := "7ec305876e4d1d3c5598a3f0cb278529b0a9203608d8e2f3860eab50b5a7db0f", func := "tannoy/tannoylaw25.ShieldKnown", spec := "shieldKnown", inPlace := ["internal/abi.NoEscape", "internal/bytealg.MakeNoZero", "internal/bytealg.IndexByteString", "internal/bytealg.IndexString"], unfollowed := true, recurses := true, named := ["unicode/utf8.first", "unicode/utf8.acceptRanges", "tannoy/control.has", "tannoy/control.wire", "internal/bytealg.MaxLen"], apart := false, laid := [("unicode/utf8.acceptRanges", laid_unicode_utf8_acceptRanges), ("tannoy/control.has", laid_tannoy_control_has), ("tannoy/control.wire", laid_tannoy_control_wire), ("unicode/utf8.first", laid_unicode_utf8_first)] }
def ShieldKnownSaid : Prop := shieldKnownRow.holds Tryz.pinned (OpenSpec.ofChange shieldKnownSpec)

/-- ITS FALSE NEIGHBOUR: 'it returns false'. Refute it at one input. -/
def shieldKnownWrong : ChangeSpec := { name := "shieldKnown", fn := fun _ => fun
  | [] => { results := [.lit (.bool false)], args := [] }
  | _ => none }
def ShieldKnownWrongFalsely : Prop := shieldKnownRow.holds Tryz.pinned (OpenSpec.ofChange shieldKnownWrong)

/- THE SECOND FORM. 'bulk': how many values and letters a reading holds, each counted each time it is reached (what is shared counts as often as it is met; a slice's spare places count too). A statement '..UptoSaid' is the law's where the arguments, and the package variables that the reading takes, are together of bulk at most 1048576: NARROWER than '..Said'. Prove '..Said' where nothing that the law and all that it calls make is longer than what came in: it says more and counts as full. Else prove '..UptoSaid'. A law counts once. -/
mutual
def uptoBulk {H : Type} : DataW H → Nat
  | .lit (.string bytes) => bytes.length + 1
  | .lit _ => 1
  | .nil => 1
  | .ptr d => uptoBulk d + 1
  | .slice elems spare => uptoBulkAll elems + uptoBulkAll spare + 1
  | .agg parts => uptoBulkAll parts + 1
  | .iface _ d => uptoBulk d + 1
  | .map entries => uptoBulkEntries entries + 1
  | .held _ => 1
def uptoBulkAll {H : Type} : List (DataW H) → Nat
  | [] => 0
  | d :: r => uptoBulk d + uptoBulkAll r
def uptoBulkEntries {H : Type} : List (Lit × DataW H) → Nat
  | [] => 0
  | x :: r => uptoBulkEntry x + uptoBulkEntries r
def uptoBulkEntry {H : Type} : Lit × DataW H → Nat
  | (.string bytes, d) => bytes.length + uptoBulk d + 1
  | (_, d) => uptoBulk d + 1
 end
def uptoSmall : (H : Type) → List (DataW H) → Bool := fun _ ds => decide (uptoBulkAll ds ≤ 1048576)
def OpenSpec.upto (s : _root_.Go.ChangeSpec) : _root_.Go.OpenSpec := { _root_.Go.OpenSpec.ofChange s with cond := some uptoSmall }

/-- 'tannoylaw25.ShieldGuesses', WHERE WHAT IT READS IS OF BULK AT MOST 1048576: true; the input reads as it did. -/
def shieldGuessesUptoRow : OpenClaim := { program := "ytnhechnaemmdiaagreatdoor", sum := "7ec305876e4d1d3c5598a3f0cb278529b0a9203608d8e2f3860eab50b5a7db0f", func := "tannoy/tannoylaw25.ShieldGuesses", spec := "shieldGuesses", inPlace := ["internal/abi.NoEscape", "internal/bytealg.MakeNoZero", "internal/bytealg.IndexByteString", "internal/bytealg.IndexString"], unfollowed := true, recurses := true, named := ["unicode/utf8.first", "unicode/utf8.acceptRanges", "tannoy/control.has", "tannoy/control.wire", "internal/bytealg.MaxLen"], apart := false, laid := [("unicode/utf8.acceptRanges", laid_unicode_utf8_acceptRanges), ("tannoy/control.has", laid_tannoy_control_has), ("tannoy/control.wire", laid_tannoy_control_wire), ("unicode/utf8.first", laid_unicode_utf8_first)], narrowed := true }
def ShieldGuessesUptoSaid : Prop := shieldGuessesUptoRow.holds Tryz.pinned (OpenSpec.upto shieldGuessesSpec)

/-- 'tannoylaw25.ShieldProtects', WHERE WHAT IT READS IS OF BULK AT MOST 1048576: true; the input reads as it did. -/
def shieldProtectsUptoRow : OpenClaim := { program := "ytnhechnaemmdiaagreatdoor", sum := "7ec305876e4d1d3c5598a3f0cb278529b0a9203608d8e2f3860eab50b5a7db0f", func := "tannoy/tannoylaw25.ShieldProtects", spec := "shieldProtects", inPlace := ["internal/abi.NoEscape", "internal/bytealg.MakeNoZero", "internal/bytealg.IndexByteString", "internal/bytealg.IndexString"], unfollowed := true, recurses := true, named := ["unicode/utf8.first", "unicode/utf8.acceptRanges", "tannoy/control.has", "tannoy/control.wire", "internal/bytealg.MaxLen"], apart := false, laid := [("unicode/utf8.acceptRanges", laid_unicode_utf8_acceptRanges), ("tannoy/control.has", laid_tannoy_control_has), ("tannoy/control.wire", laid_tannoy_control_wire), ("unicode/utf8.first", laid_unicode_utf8_first)], narrowed := true }
def ShieldProtectsUptoSaid : Prop := shieldProtectsUptoRow.holds Tryz.pinned (OpenSpec.upto shieldProtectsSpec)

/-- 'tannoylaw25.ShieldOpens', WHERE WHAT IT READS IS OF BULK AT MOST 1048576: true; the input reads as it did. -/
def shieldOpensUptoRow : OpenClaim := { program := "ytnhechnaemmdiaagreatdoor", sum := "7ec305876e4d1d3c5598a3f0cb278529b0a9203608d8e2f3860eab50b5a7db0f", func := "tannoy/tannoylaw25.ShieldOpens", spec := "shieldOpens", inPlace := ["internal/abi.NoEscape", "internal/bytealg.MakeNoZero", "internal/bytealg.IndexByteString", "internal/bytealg.IndexString"], unfollowed := true, recurses := true, named := ["unicode/utf8.first", "unicode/utf8.acceptRanges", "tannoy/control.has", "tannoy/control.wire", "internal/bytealg.MaxLen"], apart := false, laid := [("unicode/utf8.acceptRanges", laid_unicode_utf8_acceptRanges), ("tannoy/control.has", laid_tannoy_control_has), ("tannoy/control.wire", laid_tannoy_control_wire), ("unicode/utf8.first", laid_unicode_utf8_first)], narrowed := true }
def ShieldOpensUptoSaid : Prop := shieldOpensUptoRow.holds Tryz.pinned (OpenSpec.upto shieldOpensSpec)

/-- 'tannoylaw25.ShieldThrough', WHERE WHAT IT READS IS OF BULK AT MOST 1048576: true; the input reads as it did. -/
def shieldThroughUptoRow : OpenClaim := { program := "ytnhechnaemmdiaagreatdoor", sum := "7ec305876e4d1d3c5598a3f0cb278529b0a9203608d8e2f3860eab50b5a7db0f", func := "tannoy/tannoylaw25.ShieldThrough", spec := "shieldThrough", inPlace := ["internal/abi.NoEscape", "internal/bytealg.MakeNoZero", "internal/bytealg.IndexByteString", "internal/bytealg.IndexString"], unfollowed := true, recurses := true, named := ["unicode/utf8.first", "unicode/utf8.acceptRanges", "tannoy/control.has", "tannoy/control.wire", "internal/bytealg.MaxLen"], apart := false, laid := [("unicode/utf8.acceptRanges", laid_unicode_utf8_acceptRanges), ("tannoy/control.has", laid_tannoy_control_has), ("tannoy/control.wire", laid_tannoy_control_wire), ("unicode/utf8.first", laid_unicode_utf8_first)], narrowed := true }
def ShieldThroughUptoSaid : Prop := shieldThroughUptoRow.holds Tryz.pinned (OpenSpec.upto shieldThroughSpec)

/-- 'tannoylaw25.ShieldHides', WHERE WHAT IT READS IS OF BULK AT MOST 1048576: true; the input reads as it did. -/
def shieldHidesUptoRow : OpenClaim := { program := "ytnhechnaemmdiaagreatdoor", sum := "7ec305876e4d1d3c5598a3f0cb278529b0a9203608d8e2f3860eab50b5a7db0f", func := "tannoy/tannoylaw25.ShieldHides", spec := "shieldHides", inPlace := ["internal/abi.NoEscape", "internal/bytealg.MakeNoZero", "internal/bytealg.IndexByteString", "internal/bytealg.IndexString"], unfollowed := true, recurses := true, named := ["unicode/utf8.first", "unicode/utf8.acceptRanges", "tannoy/control.has", "tannoy/control.wire", "internal/bytealg.MaxLen"], apart := false, laid := [("unicode/utf8.acceptRanges", laid_unicode_utf8_acceptRanges), ("tannoy/control.has", laid_tannoy_control_has), ("tannoy/control.wire", laid_tannoy_control_wire), ("unicode/utf8.first", laid_unicode_utf8_first)], narrowed := true }
def ShieldHidesUptoSaid : Prop := shieldHidesUptoRow.holds Tryz.pinned (OpenSpec.upto shieldHidesSpec)

/-- 'tannoylaw25.ShieldSends', WHERE WHAT IT READS IS OF BULK AT MOST 1048576: true; the input reads as it did. -/
def shieldSendsUptoRow : OpenClaim := { program := "ytnhechnaemmdiaagreatdoor", sum := "7ec305876e4d1d3c5598a3f0cb278529b0a9203608d8e2f3860eab50b5a7db0f", func := "tannoy/tannoylaw25.ShieldSends", spec := "shieldSends", inPlace := ["internal/abi.NoEscape", "internal/bytealg.MakeNoZero", "internal/bytealg.IndexByteString", "internal/bytealg.IndexString"], unfollowed := true, recurses := true, named := ["unicode/utf8.first", "unicode/utf8.acceptRanges", "tannoy/control.has", "tannoy/control.wire", "internal/bytealg.MaxLen"], apart := false, laid := [("unicode/utf8.acceptRanges", laid_unicode_utf8_acceptRanges), ("tannoy/control.has", laid_tannoy_control_has), ("tannoy/control.wire", laid_tannoy_control_wire), ("unicode/utf8.first", laid_unicode_utf8_first)], narrowed := true }
def ShieldSendsUptoSaid : Prop := shieldSendsUptoRow.holds Tryz.pinned (OpenSpec.upto shieldSendsSpec)

/-- 'tannoylaw25.ShieldReports', WHERE WHAT IT READS IS OF BULK AT MOST 1048576: true; the input reads as it did. -/
def shieldReportsUptoRow : OpenClaim := { program := "ytnhechnaemmdiaagreatdoor", sum := "7ec305876e4d1d3c5598a3f0cb278529b0a9203608d8e2f3860eab50b5a7db0f", func := "tannoy/tannoylaw25.ShieldReports", spec := "shieldReports", inPlace := ["internal/abi.NoEscape", "internal/bytealg.MakeNoZero", "internal/bytealg.IndexByteString", "internal/bytealg.IndexString"], unfollowed := true, recurses := true, named := ["tannoy/control.has", "tannoy/control.wire", "unicode/utf8.first", "unicode/utf8.acceptRanges", "internal/bytealg.MaxLen"], apart := false, laid := [("unicode/utf8.acceptRanges", laid_unicode_utf8_acceptRanges), ("tannoy/control.has", laid_tannoy_control_has), ("tannoy/control.wire", laid_tannoy_control_wire), ("unicode/utf8.first", laid_unicode_utf8_first)], narrowed := true }
def ShieldReportsUptoSaid : Prop := shieldReportsUptoRow.holds Tryz.pinned (OpenSpec.upto shieldReportsSpec)

/-- 'tannoylaw25.ShieldForged', WHERE WHAT IT READS IS OF BULK AT MOST 1048576: true; the input reads as it did. -/
def shieldForgedUptoRow : OpenClaim := { program := "ytnhechnaemmdiaagreatdoor", sum := "7ec305876e4d1d3c5598a3f0cb278529b0a9203608d8e2f3860eab50b5a7db0f", func := "tannoy/tannoylaw25.ShieldForged", spec := "shieldForged", inPlace := ["internal/abi.NoEscape", "internal/bytealg.MakeNoZero", "internal/bytealg.IndexByteString", "internal/bytealg.IndexString"], unfollowed := true, recurses := true, named := ["unicode/utf8.first", "unicode/utf8.acceptRanges", "tannoy/control.has", "tannoy/control.wire", "internal/bytealg.MaxLen"], apart := false, laid := [("unicode/utf8.acceptRanges", laid_unicode_utf8_acceptRanges), ("tannoy/control.has", laid_tannoy_control_has), ("tannoy/control.wire", laid_tannoy_control_wire), ("unicode/utf8.first", laid_unicode_utf8_first)], narrowed := true }
def ShieldForgedUptoSaid : Prop := shieldForgedUptoRow.holds Tryz.pinned (OpenSpec.upto shieldForgedSpec)

/-- 'tannoylaw25.ShieldKnown', WHERE WHAT IT READS IS OF BULK AT MOST 1048576: true; the input reads as it did. -/
def shieldKnownUptoRow : OpenClaim := { program := "ytnhechnaemmdiaagreatdoor", sum := "7ec305876e4d1d3c5598a3f0cb278529b0a9203608d8e2f3860eab50b5a7db0f", func := "tannoy/tannoylaw25.ShieldKnown", spec := "shieldKnown", inPlace := ["internal/abi.NoEscape", "internal/bytealg.MakeNoZero", "internal/bytealg.IndexByteString", "internal/bytealg.IndexString"], unfollowed := true, recurses := true, named := ["unicode/utf8.first", "unicode/utf8.acceptRanges", "tannoy/control.has", "tannoy/control.wire", "internal/bytealg.MaxLen"], apart := false, laid := [("unicode/utf8.acceptRanges", laid_unicode_utf8_acceptRanges), ("tannoy/control.has", laid_tannoy_control_has), ("tannoy/control.wire", laid_tannoy_control_wire), ("unicode/utf8.first", laid_unicode_utf8_first)], narrowed := true }
def ShieldKnownUptoSaid : Prop := shieldKnownUptoRow.holds Tryz.pinned (OpenSpec.upto shieldKnownSpec)

end Rows
end Go.Proofs.YtnhechnaemmdiaaGreatDoor
