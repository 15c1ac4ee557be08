/-
  NARROWER THAN 'FOR EVERY INPUT', by the rows' own cells (each row's printed sentence says how): BadgeReads: laid · BadgeBack: laid · BadgeTampers: laid · BadgeWrites: laid · BadgeMatches: laid · BadgeKnown: laid · BadgeLists: laid.
  DERIVED. THE GIVEN ROWS OF THIS SEAT. 7 by the template 'for every input the law returns true; each argument reads behind the call as it read before'; 0 by the template 'total and deterministic' (their statements: YtifjpcdpmimccaaGreatDoorTotals.lean).
  GIVEN WITH THE SEED: the statements are not yours to turn. If you find one false, say at which input.
  Laid BY PROGRAM, IN A SANDBOX (cutbox-rows.mjs): the forced cells as the released guide's own fill.sh prints them over the translation 70fe762211c589ee… (all of the seat's roots in one cut). By AI agents, Wed Nov 11 2026. No macro, syntax, notation, axiom, sorry.
-/
import Derived.Test.YtifjpcdpmimccaaGreatDoorChecked
import GoSem.PinnedTables
import GoSem.Claim
import GoSem.ClaimJoined
import GoSem.ClaimMapViews
import Derived.JoinedTies
import Derived.KernelRfl
namespace Go.Proofs.YtifjpcdpmimccaaGreatDoor
/- THE CELL 'sum', in the pinned program and in every row, IS THE sha256 OF THE DUMP (.gsa) THAT YtifjpcdpmimccaaGreatDoorProg.lean LOADS. Nothing in Lean hashes anything: it is a label: what it is worth is what the hold of that sum in a sandbox is worth. -/
noncomputable def Tryz.pinned : Pinned := { name := "ytifjpcdpmimccaagreatdoor", sum := "70fe762211c589ee43a6270d1c30271aca2e00996b64455010e91c0689fb0848", checked := Tryz.checked }
namespace Rows
def none {H : Type} : Left H := { results := [], args := [] }

/- WHAT THE LISTED PACKAGE-LEVEL VARIABLES READ AS WHEN THE CALL BEGINS. Each datum BY PROGRAM (the guide's laid-datum.mjs) off the statement by which the dump's own 'gosem.cut.vars' lays the variable. In a bare row this is a premise. The card (YtifjpcdpmimccaaGreatDoorCards.lean) ties it to the program's text. -/
def laid_unicode_utf8_acceptRanges {H : Type} : DataW H := .agg [.agg [.lit (.int .u8 128), .lit (.int .u8 191)], .agg [.lit (.int .u8 160), .lit (.int .u8 191)], .agg [.lit (.int .u8 128), .lit (.int .u8 159)], .agg [.lit (.int .u8 144), .lit (.int .u8 191)], .agg [.lit (.int .u8 128), .lit (.int .u8 143)], .agg [.lit (.int .u8 0), .lit (.int .u8 0)], .agg [.lit (.int .u8 0), .lit (.int .u8 0)], .agg [.lit (.int .u8 0), .lit (.int .u8 0)], .agg [.lit (.int .u8 0), .lit (.int .u8 0)], .agg [.lit (.int .u8 0), .lit (.int .u8 0)], .agg [.lit (.int .u8 0), .lit (.int .u8 0)], .agg [.lit (.int .u8 0), .lit (.int .u8 0)], .agg [.lit (.int .u8 0), .lit (.int .u8 0)], .agg [.lit (.int .u8 0), .lit (.int .u8 0)], .agg [.lit (.int .u8 0), .lit (.int .u8 0)], .agg [.lit (.int .u8 0), .lit (.int .u8 0)]]
/-- One of Go's own tables, pinned by name: the form's constant. -/
def laid_unicode_CaseRanges : DataW Unit := Go.Pinned.caseRanges
/-- One of Go's own tables, pinned by name: the form's constant. -/
def laid_unicode_utf8_first : DataW Unit := Go.Pinned.utf8First

/-- 'tannoylaw18.BadgeReads': WHATEVER THE INPUT: true; the input reads as it did. -/
def badgeReadsSpec : ChangeSpec := { name := "badgeReads", fn := fun _ => fun
  | [d1, d2, d3] => { results := [.lit (.bool true)], args := [d1, d2, d3] }
  | _ => none }
def badgeReadsRow : OpenClaim := { program := "ytifjpcdpmimccaagreatdoor", sum := "70fe762211c589ee43a6270d1c30271aca2e00996b64455010e91c0689fb0848", func := "tannoy/tannoylaw18.BadgeReads", spec := "badgeReads", inPlace := ["internal/abi.NoEscape", "internal/bytealg.MakeNoZero", "internal/bytealg.IndexByteString", "internal/bytealg.IndexString"], unfollowed := true, recurses := true, named := ["unicode/utf8.first", "unicode/utf8.acceptRanges", "unicode.CaseRanges", "internal/bytealg.MaxLen"], apart := false, laid := [("unicode/utf8.acceptRanges", laid_unicode_utf8_acceptRanges), ("unicode.CaseRanges", laid_unicode_CaseRanges), ("unicode/utf8.first", laid_unicode_utf8_first)] }
def BadgeReadsSaid : Prop := badgeReadsRow.holds Tryz.pinned (OpenSpec.ofChange badgeReadsSpec)

/-- ITS FALSE NEIGHBOUR: 'it returns false'. Refute it at one input. -/
def badgeReadsWrong : ChangeSpec := { name := "badgeReads", fn := fun _ => fun
  | [d1, d2, d3] => { results := [.lit (.bool false)], args := [d1, d2, d3] }
  | _ => none }
def BadgeReadsWrongFalsely : Prop := badgeReadsRow.holds Tryz.pinned (OpenSpec.ofChange badgeReadsWrong)

/-- 'tannoylaw18.BadgeBack': WHATEVER THE INPUT: true; the input reads as it did. -/
def badgeBackSpec : ChangeSpec := { name := "badgeBack", fn := fun _ => fun
  | [d1, d2, d3] => { results := [.lit (.bool true)], args := [d1, d2, d3] }
  | _ => none }
def badgeBackRow : OpenClaim := { program := "ytifjpcdpmimccaagreatdoor", sum := "70fe762211c589ee43a6270d1c30271aca2e00996b64455010e91c0689fb0848", func := "tannoy/tannoylaw18.BadgeBack", spec := "badgeBack", inPlace := ["internal/abi.NoEscape", "internal/bytealg.MakeNoZero", "internal/bytealg.IndexByteString", "internal/bytealg.IndexString"], unfollowed := true, recurses := true, named := ["unicode/utf8.first", "unicode/utf8.acceptRanges", "unicode.CaseRanges", "internal/bytealg.MaxLen"], apart := false, laid := [("unicode/utf8.acceptRanges", laid_unicode_utf8_acceptRanges), ("unicode.CaseRanges", laid_unicode_CaseRanges), ("unicode/utf8.first", laid_unicode_utf8_first)] }
def BadgeBackSaid : Prop := badgeBackRow.holds Tryz.pinned (OpenSpec.ofChange badgeBackSpec)

/-- ITS FALSE NEIGHBOUR: 'it returns false'. Refute it at one input. -/
def badgeBackWrong : ChangeSpec := { name := "badgeBack", fn := fun _ => fun
  | [d1, d2, d3] => { results := [.lit (.bool false)], args := [d1, d2, d3] }
  | _ => none }
def BadgeBackWrongFalsely : Prop := badgeBackRow.holds Tryz.pinned (OpenSpec.ofChange badgeBackWrong)

/-- 'tannoylaw18.BadgeTampers': WHATEVER THE INPUT: true; the input reads as it did. -/
def badgeTampersSpec : ChangeSpec := { name := "badgeTampers", fn := fun _ => fun
  | [d1, d2, d3] => { results := [.lit (.bool true)], args := [d1, d2, d3] }
  | _ => none }
def badgeTampersRow : OpenClaim := { program := "ytifjpcdpmimccaagreatdoor", sum := "70fe762211c589ee43a6270d1c30271aca2e00996b64455010e91c0689fb0848", func := "tannoy/tannoylaw18.BadgeTampers", spec := "badgeTampers", inPlace := ["internal/abi.NoEscape", "internal/bytealg.MakeNoZero", "internal/bytealg.IndexByteString", "internal/bytealg.IndexString"], unfollowed := true, recurses := true, named := ["unicode/utf8.first", "unicode/utf8.acceptRanges", "unicode.CaseRanges", "internal/bytealg.MaxLen"], apart := false, laid := [("unicode/utf8.acceptRanges", laid_unicode_utf8_acceptRanges), ("unicode.CaseRanges", laid_unicode_CaseRanges), ("unicode/utf8.first", laid_unicode_utf8_first)] }
def BadgeTampersSaid : Prop := badgeTampersRow.holds Tryz.pinned (OpenSpec.ofChange badgeTampersSpec)

/-- ITS FALSE NEIGHBOUR: 'it returns false'. Refute it at one input. -/
def badgeTampersWrong : ChangeSpec := { name := "badgeTampers", fn := fun _ => fun
  | [d1, d2, d3] => { results := [.lit (.bool false)], args := [d1, d2, d3] }
  | _ => none }
def BadgeTampersWrongFalsely : Prop := badgeTampersRow.holds Tryz.pinned (OpenSpec.ofChange badgeTampersWrong)

/-- 'tannoylaw18.BadgeWrites': WHATEVER THE INPUT: true; the input reads as it did. -/
def badgeWritesSpec : ChangeSpec := { name := "badgeWrites", fn := fun _ => fun
  | [d1, d2, d3] => { results := [.lit (.bool true)], args := [d1, d2, d3] }
  | _ => none }
def badgeWritesRow : OpenClaim := { program := "ytifjpcdpmimccaagreatdoor", sum := "70fe762211c589ee43a6270d1c30271aca2e00996b64455010e91c0689fb0848", func := "tannoy/tannoylaw18.BadgeWrites", spec := "badgeWrites", inPlace := ["internal/abi.NoEscape", "internal/bytealg.MakeNoZero", "internal/bytealg.IndexByteString", "internal/bytealg.IndexString", "math/bits.Add64"], unfollowed := true, recurses := true, named := ["unicode/utf8.first", "unicode/utf8.acceptRanges", "unicode.CaseRanges", "internal/bytealg.MaxLen"], apart := false, laid := [("unicode/utf8.acceptRanges", laid_unicode_utf8_acceptRanges), ("unicode.CaseRanges", laid_unicode_CaseRanges), ("unicode/utf8.first", laid_unicode_utf8_first)] }
def BadgeWritesSaid : Prop := badgeWritesRow.holds Tryz.pinned (OpenSpec.ofChange badgeWritesSpec)

/-- ITS FALSE NEIGHBOUR: 'it returns false'. Refute it at one input. -/
def badgeWritesWrong : ChangeSpec := { name := "badgeWrites", fn := fun _ => fun
  | [d1, d2, d3] => { results := [.lit (.bool false)], args := [d1, d2, d3] }
  | _ => none }
def BadgeWritesWrongFalsely : Prop := badgeWritesRow.holds Tryz.pinned (OpenSpec.ofChange badgeWritesWrong)

/-- 'tannoylaw18.BadgeMatches': WHATEVER THE INPUT: true; the input reads as it did. -/
def badgeMatchesSpec : ChangeSpec := { name := "badgeMatches", fn := fun _ => fun
  | [d1, d2, d3, d4, d5, d6, d7] => { results := [.lit (.bool true)], args := [d1, d2, d3, d4, d5, d6, d7] }
  | _ => none }
def badgeMatchesRow : OpenClaim := { program := "ytifjpcdpmimccaagreatdoor", sum := "70fe762211c589ee43a6270d1c30271aca2e00996b64455010e91c0689fb0848", func := "tannoy/tannoylaw18.BadgeMatches", spec := "badgeMatches", inPlace := ["internal/abi.NoEscape", "internal/bytealg.MakeNoZero", "internal/bytealg.IndexByteString", "internal/bytealg.IndexString", "math/bits.Add64"], unfollowed := true, recurses := true, named := ["unicode/utf8.first", "unicode/utf8.acceptRanges", "unicode.CaseRanges", "internal/bytealg.MaxLen"], apart := false, laid := [("unicode/utf8.acceptRanges", laid_unicode_utf8_acceptRanges), ("unicode.CaseRanges", laid_unicode_CaseRanges), ("unicode/utf8.first", laid_unicode_utf8_first)] }
def BadgeMatchesSaid : Prop := badgeMatchesRow.holds Tryz.pinned (OpenSpec.ofChange badgeMatchesSpec)

/-- ITS FALSE NEIGHBOUR: 'it returns false'. Refute it at one input. -/
def badgeMatchesWrong : ChangeSpec := { name := "badgeMatches", fn := fun _ => fun
  | [d1, d2, d3, d4, d5, d6, d7] => { results := [.lit (.bool false)], args := [d1, d2, d3, d4, d5, d6, d7] }
  | _ => none }
def BadgeMatchesWrongFalsely : Prop := badgeMatchesRow.holds Tryz.pinned (OpenSpec.ofChange badgeMatchesWrong)

/-- 'tannoylaw18.BadgeKnown': WHATEVER THE INPUT: true; the input reads as it did. -/
def badgeKnownSpec : ChangeSpec := { name := "badgeKnown", fn := fun _ => fun
  | [] => { results := [.lit (.bool true)], args := [] }
  | _ => none }
def badgeKnownRow : OpenClaim := { program := "ytifjpcdpmimccaagreatdoor", sum := "70fe762211c589ee43a6270d1c30271aca2e00996b64455010e91c0689fb0848", func := "tannoy/tannoylaw18.BadgeKnown", spec := "badgeKnown", inPlace := ["internal/abi.NoEscape", "internal/bytealg.MakeNoZero", "internal/bytealg.IndexByteString", "internal/bytealg.IndexString"], unfollowed := true, recurses := true, named := ["unicode/utf8.first", "unicode/utf8.acceptRanges", "unicode.CaseRanges", "internal/bytealg.MaxLen"], apart := false, laid := [("unicode/utf8.acceptRanges", laid_unicode_utf8_acceptRanges), ("unicode.CaseRanges", laid_unicode_CaseRanges), ("unicode/utf8.first", laid_unicode_utf8_first)] }
def BadgeKnownSaid : Prop := badgeKnownRow.holds Tryz.pinned (OpenSpec.ofChange badgeKnownSpec)

/-- ITS FALSE NEIGHBOUR: 'it returns false'. Refute it at one input. -/
def badgeKnownWrong : ChangeSpec := { name := "badgeKnown", fn := fun _ => fun
  | [] => { results := [.lit (.bool false)], args := [] }
  | _ => none }
def BadgeKnownWrongFalsely : Prop := badgeKnownRow.holds Tryz.pinned (OpenSpec.ofChange badgeKnownWrong)

/-- 'tannoylaw18.BadgeLists': WHATEVER THE INPUT: true; the input reads as it did. -/
def badgeListsSpec : ChangeSpec := { name := "badgeLists", fn := fun _ => fun
  | [d1, d2, d3, d4] => { results := [.lit (.bool true)], args := [d1, d2, d3, d4] }
  | _ => none }
def badgeListsRow : OpenClaim := { program := "ytifjpcdpmimccaagreatdoor", sum := "70fe762211c589ee43a6270d1c30271aca2e00996b64455010e91c0689fb0848", func := "tannoy/tannoylaw18.BadgeLists", spec := "badgeLists", inPlace := ["internal/abi.NoEscape", "internal/bytealg.MakeNoZero", "internal/bytealg.IndexByteString", "internal/bytealg.IndexString", "slices.overlaps[string]"], unfollowed := true, recurses := true, named := ["unicode/utf8.first", "unicode/utf8.acceptRanges", "unicode.CaseRanges", "internal/bytealg.MaxLen"], apart := false, laid := [("unicode/utf8.acceptRanges", laid_unicode_utf8_acceptRanges), ("unicode.CaseRanges", laid_unicode_CaseRanges), ("unicode/utf8.first", laid_unicode_utf8_first)] }
def BadgeListsSaid : Prop := badgeListsRow.holds Tryz.pinned (OpenSpec.ofChange badgeListsSpec)

/-- ITS FALSE NEIGHBOUR: 'it returns false'. Refute it at one input. -/
def badgeListsWrong : ChangeSpec := { name := "badgeLists", fn := fun _ => fun
  | [d1, d2, d3, d4] => { results := [.lit (.bool false)], args := [d1, d2, d3, d4] }
  | _ => none }
def BadgeListsWrongFalsely : Prop := badgeListsRow.holds Tryz.pinned (OpenSpec.ofChange badgeListsWrong)

/- THE SECOND FORM. 'bulk': how many values and letters a reading holds, each counted each time it is reached (what is shared counts as often as it is met; a slice's spare places count too). A statement '..UptoSaid' is the law's where the arguments, and the package variables that the reading takes, are together of bulk at most 1048576: NARROWER than '..Said'. Prove '..Said' where nothing that the law and all that it calls make is longer than what came in: it says more and counts as full. Else prove '..UptoSaid'. A law counts once. -/
mutual
def uptoBulk {H : Type} : DataW H → Nat
  | .lit (.string bytes) => bytes.length + 1
  | .lit _ => 1
  | .nil => 1
  | .ptr d => uptoBulk d + 1
  | .slice elems spare => uptoBulkAll elems + uptoBulkAll spare + 1
  | .agg parts => uptoBulkAll parts + 1
  | .iface _ d => uptoBulk d + 1
  | .map entries => uptoBulkEntries entries + 1
  | .held _ => 1
def uptoBulkAll {H : Type} : List (DataW H) → Nat
  | [] => 0
  | d :: r => uptoBulk d + uptoBulkAll r
def uptoBulkEntries {H : Type} : List (Lit × DataW H) → Nat
  | [] => 0
  | x :: r => uptoBulkEntry x + uptoBulkEntries r
def uptoBulkEntry {H : Type} : Lit × DataW H → Nat
  | (.string bytes, d) => bytes.length + uptoBulk d + 1
  | (_, d) => uptoBulk d + 1
 end
def uptoSmall : (H : Type) → List (DataW H) → Bool := fun _ ds => decide (uptoBulkAll ds ≤ 1048576)
def OpenSpec.upto (s : _root_.Go.ChangeSpec) : _root_.Go.OpenSpec := { _root_.Go.OpenSpec.ofChange s with cond := some uptoSmall }

/-- 'tannoylaw18.BadgeReads', WHERE WHAT IT READS IS OF BULK AT MOST 1048576: true; the input reads as it did. -/
def badgeReadsUptoRow : OpenClaim := { program := "ytifjpcdpmimccaagreatdoor", sum := "70fe762211c589ee43a6270d1c30271aca2e00996b64455010e91c0689fb0848", func := "tannoy/tannoylaw18.BadgeReads", spec := "badgeReads", inPlace := ["internal/abi.NoEscape", "internal/bytealg.MakeNoZero", "internal/bytealg.IndexByteString", "internal/bytealg.IndexString"], unfollowed := true, recurses := true, named := ["unicode/utf8.first", "unicode/utf8.acceptRanges", "unicode.CaseRanges", "internal/bytealg.MaxLen"], apart := false, laid := [("unicode/utf8.acceptRanges", laid_unicode_utf8_acceptRanges), ("unicode.CaseRanges", laid_unicode_CaseRanges), ("unicode/utf8.first", laid_unicode_utf8_first)], narrowed := true }
def BadgeReadsUptoSaid : Prop := badgeReadsUptoRow.holds Tryz.pinned (OpenSpec.upto badgeReadsSpec)

/-- 'tannoylaw18.BadgeBack', WHERE WHAT IT READS IS OF BULK AT MOST 1048576: true; the input reads as it did. -/
def badgeBackUptoRow : OpenClaim := { program := "ytifjpcdpmimccaagreatdoor", sum := "70fe762211c589ee43a6270d1c30271aca2e00996b64455010e91c0689fb0848", func := "tannoy/tannoylaw18.BadgeBack", spec := "badgeBack", inPlace := ["internal/abi.NoEscape", "internal/bytealg.MakeNoZero", "internal/bytealg.IndexByteString", "internal/bytealg.IndexString"], unfollowed := true, recurses := true, named := ["unicode/utf8.first", "unicode/utf8.acceptRanges", "unicode.CaseRanges", "internal/bytealg.MaxLen"], apart := false, laid := [("unicode/utf8.acceptRanges", laid_unicode_utf8_acceptRanges), ("unicode.CaseRanges", laid_unicode_CaseRanges), ("unicode/utf8.first", laid_unicode_utf8_first)], narrowed := true }
def BadgeBackUptoSaid : Prop := badgeBackUptoRow.holds Tryz.pinned (OpenSpec.upto badgeBackSpec)

/-- 'tannoylaw18.BadgeTampers', WHERE WHAT IT READS IS OF BULK AT MOST 1048576: true; the input reads as it did. -/
def badgeTampersUptoRow : OpenClaim := { program := "ytifjpcdpmimccaagreatdoor", sum := "70fe762211c589ee43a6270d1c30271aca2e00996b64455010e91c0689fb0848", func := "tannoy/tannoylaw18.BadgeTampers", spec := "badgeTampers", inPlace := ["internal/abi.NoEscape", "internal/bytealg.MakeNoZero", "internal/bytealg.IndexByteString", "internal/bytealg.IndexString"], unfollowed := true, recurses := true, named := ["unicode/utf8.first", "unicode/utf8.acceptRanges", "unicode.CaseRanges", "internal/bytealg.MaxLen"], apart := false, laid := [("unicode/utf8.acceptRanges", laid_unicode_utf8_acceptRanges), ("unicode.CaseRanges", laid_unicode_CaseRanges), ("unicode/utf8.first", laid_unicode_utf8_first)], narrowed := true }
def BadgeTampersUptoSaid : Prop := badgeTampersUptoRow.holds Tryz.pinned (OpenSpec.upto badgeTampersSpec)

/-- 'tannoylaw18.BadgeWrites', WHERE WHAT IT READS IS OF BULK AT MOST 1048576: true; the input reads as it did. -/
def badgeWritesUptoRow : OpenClaim := { program := "ytifjpcdpmimccaagreatdoor", sum := "70fe762211c589ee43a6270d1c30271aca2e00996b64455010e91c0689fb0848", func := "tannoy/tannoylaw18.BadgeWrites", spec := "badgeWrites", inPlace := ["internal/abi.NoEscape", "internal/bytealg.MakeNoZero", "internal/bytealg.IndexByteString", "internal/bytealg.IndexString", "math/bits.Add64"], unfollowed := true, recurses := true, named := ["unicode/utf8.first", "unicode/utf8.acceptRanges", "unicode.CaseRanges", "internal/bytealg.MaxLen"], apart := false, laid := [("unicode/utf8.acceptRanges", laid_unicode_utf8_acceptRanges), ("unicode.CaseRanges", laid_unicode_CaseRanges), ("unicode/utf8.first", laid_unicode_utf8_first)], narrowed := true }
def BadgeWritesUptoSaid : Prop := badgeWritesUptoRow.holds Tryz.pinned (OpenSpec.upto badgeWritesSpec)

/-- 'tannoylaw18.BadgeMatches', WHERE WHAT IT READS IS OF BULK AT MOST 1048576: true; the input reads as it did. -/
def badgeMatchesUptoRow : OpenClaim := { program := "ytifjpcdpmimccaagreatdoor", sum := "70fe762211c589ee43a6270d1c30271aca2e00996b64455010e91c0689fb0848", func := "tannoy/tannoylaw18.BadgeMatches", spec := "badgeMatches", inPlace := ["internal/abi.NoEscape", "internal/bytealg.MakeNoZero", "internal/bytealg.IndexByteString", "internal/bytealg.IndexString", "math/bits.Add64"], unfollowed := true, recurses := true, named := ["unicode/utf8.first", "unicode/utf8.acceptRanges", "unicode.CaseRanges", "internal/bytealg.MaxLen"], apart := false, laid := [("unicode/utf8.acceptRanges", laid_unicode_utf8_acceptRanges), ("unicode.CaseRanges", laid_unicode_CaseRanges), ("unicode/utf8.first", laid_unicode_utf8_first)], narrowed := true }
def BadgeMatchesUptoSaid : Prop := badgeMatchesUptoRow.holds Tryz.pinned (OpenSpec.upto badgeMatchesSpec)

/-- 'tannoylaw18.BadgeKnown', WHERE WHAT IT READS IS OF BULK AT MOST 1048576: true; the input reads as it did. -/
def badgeKnownUptoRow : OpenClaim := { program := "ytifjpcdpmimccaagreatdoor", sum := "70fe762211c589ee43a6270d1c30271aca2e00996b64455010e91c0689fb0848", func := "tannoy/tannoylaw18.BadgeKnown", spec := "badgeKnown", inPlace := ["internal/abi.NoEscape", "internal/bytealg.MakeNoZero", "internal/bytealg.IndexByteString", "internal/bytealg.IndexString"], unfollowed := true, recurses := true, named := ["unicode/utf8.first", "unicode/utf8.acceptRanges", "unicode.CaseRanges", "internal/bytealg.MaxLen"], apart := false, laid := [("unicode/utf8.acceptRanges", laid_unicode_utf8_acceptRanges), ("unicode.CaseRanges", laid_unicode_CaseRanges), ("unicode/utf8.first", laid_unicode_utf8_first)], narrowed := true }
def BadgeKnownUptoSaid : Prop := badgeKnownUptoRow.holds Tryz.pinned (OpenSpec.upto badgeKnownSpec)

/-- 'tannoylaw18.BadgeLists', WHERE WHAT IT READS IS OF BULK AT MOST 1048576: true; the input reads as it did. -/
def badgeListsUptoRow : OpenClaim := { program := "ytifjpcdpmimccaagreatdoor", sum := "70fe762211c589ee43a6270d1c30271aca2e00996b64455010e91c0689fb0848", func := "tannoy/tannoylaw18.BadgeLists", spec := "badgeLists", inPlace := ["internal/abi.NoEscape", "internal/bytealg.MakeNoZero", "internal/bytealg.IndexByteString", "internal/bytealg.IndexString", "slices.overlaps[string]"], unfollowed := true, recurses := true, named := ["unicode/utf8.first", "unicode/utf8.acceptRanges", "unicode.CaseRanges", "internal/bytealg.MaxLen"], apart := false, laid := [("unicode/utf8.acceptRanges", laid_unicode_utf8_acceptRanges), ("unicode.CaseRanges", laid_unicode_CaseRanges), ("unicode/utf8.first", laid_unicode_utf8_first)], narrowed := true }
def BadgeListsUptoSaid : Prop := badgeListsUptoRow.holds Tryz.pinned (OpenSpec.upto badgeListsSpec)

end Rows
end Go.Proofs.YtifjpcdpmimccaaGreatDoor
