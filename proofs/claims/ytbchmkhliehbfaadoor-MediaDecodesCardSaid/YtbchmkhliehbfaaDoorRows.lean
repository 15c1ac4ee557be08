/-
  NARROWER THAN 'FOR EVERY INPUT', by the rows' own cells (each row's printed sentence says how): MediaEncodes: laid · MediaDecodes: laid · MediaFinds: laid · MediaBack: laid · MediaParts: laid · MediaKinds: laid · MediaKnown: laid.
  DERIVED. THE GIVEN ROWS OF THIS SEAT. 7 by the template 'for every input the law returns true; each argument reads behind the call as it read before'; 0 by the template 'total and deterministic' (their statements: YtbchmkhliehbfaaDoorTotals.lean).
  GIVEN WITH THE SEED: the statements are not yours to turn. If you find one false, say at which input.
  Laid BY PROGRAM, IN A SANDBOX (cutbox-rows.mjs): the forced cells as the released guide's own fill.sh prints them over the translation 9e04c9364dd7556e… (all of the seat's roots in one cut). By AI agents, Wed Nov 11 2026. No macro, syntax, notation, axiom, sorry.
-/
import Derived.Test.YtbchmkhliehbfaaDoorChecked
import GoSem.PinnedTables
import GoSem.Claim
import GoSem.ClaimJoined
import GoSem.ClaimMapViews
import Derived.JoinedTies
import Derived.KernelRfl
namespace Go.Proofs.YtbchmkhliehbfaaDoor
/- THE CELL 'sum', in the pinned program and in every row, IS THE sha256 OF THE DUMP (.gsa) THAT YtbchmkhliehbfaaDoorProg.lean LOADS. Nothing in Lean hashes anything: it is a label: what it is worth is what the hold of that sum in a sandbox is worth. -/
noncomputable def Tryd.pinned : Pinned := { name := "ytbchmkhliehbfaadoor", sum := "9e04c9364dd7556e8c6ce804c741d92d99af36416d2511ea67f13d92cd7ccdc1", checked := Tryd.checked }
namespace Rows
def none {H : Type} : Left H := { results := [], args := [] }

/- WHAT THE LISTED PACKAGE-LEVEL VARIABLES READ AS WHEN THE CALL BEGINS. Each datum BY PROGRAM (the guide's laid-datum.mjs) off the statement by which the dump's own 'gosem.cut.vars' lays the variable. In a bare row this is a premise. The card (YtbchmkhliehbfaaDoorCards.lean) ties it to the program's text. -/
def laid_unicode_utf8_acceptRanges {H : Type} : DataW H := .agg [.agg [.lit (.int .u8 128), .lit (.int .u8 191)], .agg [.lit (.int .u8 160), .lit (.int .u8 191)], .agg [.lit (.int .u8 128), .lit (.int .u8 159)], .agg [.lit (.int .u8 144), .lit (.int .u8 191)], .agg [.lit (.int .u8 128), .lit (.int .u8 143)], .agg [.lit (.int .u8 0), .lit (.int .u8 0)], .agg [.lit (.int .u8 0), .lit (.int .u8 0)], .agg [.lit (.int .u8 0), .lit (.int .u8 0)], .agg [.lit (.int .u8 0), .lit (.int .u8 0)], .agg [.lit (.int .u8 0), .lit (.int .u8 0)], .agg [.lit (.int .u8 0), .lit (.int .u8 0)], .agg [.lit (.int .u8 0), .lit (.int .u8 0)], .agg [.lit (.int .u8 0), .lit (.int .u8 0)], .agg [.lit (.int .u8 0), .lit (.int .u8 0)], .agg [.lit (.int .u8 0), .lit (.int .u8 0)], .agg [.lit (.int .u8 0), .lit (.int .u8 0)]]
/-- One of Go's own tables, pinned by name: the form's constant. -/
def laid_unicode_utf8_first : DataW Unit := Go.Pinned.utf8First

/-- 'tannoylaw23.MediaEncodes': WHATEVER THE INPUT: true; the input reads as it did. -/
def mediaEncodesSpec : ChangeSpec := { name := "mediaEncodes", fn := fun _ => fun
  | [d1, d2, d3] => { results := [.lit (.bool true)], args := [d1, d2, d3] }
  | _ => none }
def mediaEncodesRow : OpenClaim := { program := "ytbchmkhliehbfaadoor", sum := "9e04c9364dd7556e8c6ce804c741d92d99af36416d2511ea67f13d92cd7ccdc1", func := "tannoy/tannoylaw23.MediaEncodes", spec := "mediaEncodes", inPlace := ["internal/abi.NoEscape", "internal/bytealg.MakeNoZero", "internal/bytealg.IndexByteString", "internal/bytealg.IndexString"], unfollowed := true, recurses := true, named := ["unicode/utf8.first", "unicode/utf8.acceptRanges", "internal/bytealg.MaxLen"], apart := false, laid := [("unicode/utf8.acceptRanges", laid_unicode_utf8_acceptRanges), ("unicode/utf8.first", laid_unicode_utf8_first)] }
def MediaEncodesSaid : Prop := mediaEncodesRow.holds Tryd.pinned (OpenSpec.ofChange mediaEncodesSpec)

/-- ITS FALSE NEIGHBOUR: 'it returns false'. Refute it at one input. -/
def mediaEncodesWrong : ChangeSpec := { name := "mediaEncodes", fn := fun _ => fun
  | [d1, d2, d3] => { results := [.lit (.bool false)], args := [d1, d2, d3] }
  | _ => none }
def MediaEncodesWrongFalsely : Prop := mediaEncodesRow.holds Tryd.pinned (OpenSpec.ofChange mediaEncodesWrong)

/-- 'tannoylaw23.MediaDecodes': WHATEVER THE INPUT: true; the input reads as it did. -/
def mediaDecodesSpec : ChangeSpec := { name := "mediaDecodes", fn := fun _ => fun
  | [d1, d2, d3, d4, d5] => { results := [.lit (.bool true)], args := [d1, d2, d3, d4, d5] }
  | _ => none }
def mediaDecodesRow : OpenClaim := { program := "ytbchmkhliehbfaadoor", sum := "9e04c9364dd7556e8c6ce804c741d92d99af36416d2511ea67f13d92cd7ccdc1", func := "tannoy/tannoylaw23.MediaDecodes", spec := "mediaDecodes", inPlace := ["internal/bytealg.IndexByteString", "internal/bytealg.IndexString", "internal/abi.NoEscape", "internal/bytealg.MakeNoZero"], unfollowed := true, recurses := true, named := ["unicode/utf8.first", "unicode/utf8.acceptRanges", "internal/bytealg.MaxLen"], apart := false, laid := [("unicode/utf8.acceptRanges", laid_unicode_utf8_acceptRanges), ("unicode/utf8.first", laid_unicode_utf8_first)] }
def MediaDecodesSaid : Prop := mediaDecodesRow.holds Tryd.pinned (OpenSpec.ofChange mediaDecodesSpec)

/-- ITS FALSE NEIGHBOUR: 'it returns false'. Refute it at one input. -/
def mediaDecodesWrong : ChangeSpec := { name := "mediaDecodes", fn := fun _ => fun
  | [d1, d2, d3, d4, d5] => { results := [.lit (.bool false)], args := [d1, d2, d3, d4, d5] }
  | _ => none }
def MediaDecodesWrongFalsely : Prop := mediaDecodesRow.holds Tryd.pinned (OpenSpec.ofChange mediaDecodesWrong)

/-- 'tannoylaw23.MediaFinds': WHATEVER THE INPUT: true; the input reads as it did. -/
def mediaFindsSpec : ChangeSpec := { name := "mediaFinds", fn := fun _ => fun
  | [d1, d2, d3, d4, d5] => { results := [.lit (.bool true)], args := [d1, d2, d3, d4, d5] }
  | _ => none }
def mediaFindsRow : OpenClaim := { program := "ytbchmkhliehbfaadoor", sum := "9e04c9364dd7556e8c6ce804c741d92d99af36416d2511ea67f13d92cd7ccdc1", func := "tannoy/tannoylaw23.MediaFinds", spec := "mediaFinds", inPlace := ["internal/abi.NoEscape", "internal/bytealg.MakeNoZero", "internal/bytealg.IndexByteString", "internal/bytealg.IndexString"], unfollowed := true, recurses := true, named := ["unicode/utf8.first", "unicode/utf8.acceptRanges", "internal/bytealg.MaxLen"], apart := false, laid := [("unicode/utf8.acceptRanges", laid_unicode_utf8_acceptRanges), ("unicode/utf8.first", laid_unicode_utf8_first)] }
def MediaFindsSaid : Prop := mediaFindsRow.holds Tryd.pinned (OpenSpec.ofChange mediaFindsSpec)

/-- ITS FALSE NEIGHBOUR: 'it returns false'. Refute it at one input. -/
def mediaFindsWrong : ChangeSpec := { name := "mediaFinds", fn := fun _ => fun
  | [d1, d2, d3, d4, d5] => { results := [.lit (.bool false)], args := [d1, d2, d3, d4, d5] }
  | _ => none }
def MediaFindsWrongFalsely : Prop := mediaFindsRow.holds Tryd.pinned (OpenSpec.ofChange mediaFindsWrong)

/-- 'tannoylaw23.MediaBack': WHATEVER THE INPUT: true; the input reads as it did. -/
def mediaBackSpec : ChangeSpec := { name := "mediaBack", fn := fun _ => fun
  | [d1, d2] => { results := [.lit (.bool true)], args := [d1, d2] }
  | _ => none }
def mediaBackRow : OpenClaim := { program := "ytbchmkhliehbfaadoor", sum := "9e04c9364dd7556e8c6ce804c741d92d99af36416d2511ea67f13d92cd7ccdc1", func := "tannoy/tannoylaw23.MediaBack", spec := "mediaBack", inPlace := ["internal/abi.NoEscape", "internal/bytealg.MakeNoZero", "internal/bytealg.IndexByteString", "internal/bytealg.IndexString"], unfollowed := true, recurses := true, named := ["unicode/utf8.first", "unicode/utf8.acceptRanges", "internal/bytealg.MaxLen"], apart := false, laid := [("unicode/utf8.acceptRanges", laid_unicode_utf8_acceptRanges), ("unicode/utf8.first", laid_unicode_utf8_first)] }
def MediaBackSaid : Prop := mediaBackRow.holds Tryd.pinned (OpenSpec.ofChange mediaBackSpec)

/-- ITS FALSE NEIGHBOUR: 'it returns false'. Refute it at one input. -/
def mediaBackWrong : ChangeSpec := { name := "mediaBack", fn := fun _ => fun
  | [d1, d2] => { results := [.lit (.bool false)], args := [d1, d2] }
  | _ => none }
def MediaBackWrongFalsely : Prop := mediaBackRow.holds Tryd.pinned (OpenSpec.ofChange mediaBackWrong)

/-- 'tannoylaw23.MediaParts': WHATEVER THE INPUT: true; the input reads as it did. -/
def mediaPartsSpec : ChangeSpec := { name := "mediaParts", fn := fun _ => fun
  | [d1, d2] => { results := [.lit (.bool true)], args := [d1, d2] }
  | _ => none }
def mediaPartsRow : OpenClaim := { program := "ytbchmkhliehbfaadoor", sum := "9e04c9364dd7556e8c6ce804c741d92d99af36416d2511ea67f13d92cd7ccdc1", func := "tannoy/tannoylaw23.MediaParts", spec := "mediaParts", inPlace := ["internal/abi.NoEscape", "internal/bytealg.MakeNoZero", "internal/bytealg.IndexByteString", "internal/bytealg.IndexString"], unfollowed := true, recurses := true, named := ["unicode/utf8.first", "unicode/utf8.acceptRanges", "internal/bytealg.MaxLen"], apart := false, laid := [("unicode/utf8.acceptRanges", laid_unicode_utf8_acceptRanges), ("unicode/utf8.first", laid_unicode_utf8_first)] }
def MediaPartsSaid : Prop := mediaPartsRow.holds Tryd.pinned (OpenSpec.ofChange mediaPartsSpec)

/-- ITS FALSE NEIGHBOUR: 'it returns false'. Refute it at one input. -/
def mediaPartsWrong : ChangeSpec := { name := "mediaParts", fn := fun _ => fun
  | [d1, d2] => { results := [.lit (.bool false)], args := [d1, d2] }
  | _ => none }
def MediaPartsWrongFalsely : Prop := mediaPartsRow.holds Tryd.pinned (OpenSpec.ofChange mediaPartsWrong)

/-- 'tannoylaw23.MediaKinds': WHATEVER THE INPUT: true; the input reads as it did. -/
def mediaKindsSpec : ChangeSpec := { name := "mediaKinds", fn := fun _ => fun
  | [d1, d2] => { results := [.lit (.bool true)], args := [d1, d2] }
  | _ => none }
def mediaKindsRow : OpenClaim := { program := "ytbchmkhliehbfaadoor", sum := "9e04c9364dd7556e8c6ce804c741d92d99af36416d2511ea67f13d92cd7ccdc1", func := "tannoy/tannoylaw23.MediaKinds", spec := "mediaKinds", inPlace := ["internal/abi.NoEscape", "internal/bytealg.MakeNoZero", "internal/bytealg.IndexByteString", "internal/bytealg.IndexString"], unfollowed := true, recurses := true, named := ["unicode/utf8.first", "unicode/utf8.acceptRanges", "internal/bytealg.MaxLen"], apart := false, laid := [("unicode/utf8.acceptRanges", laid_unicode_utf8_acceptRanges), ("unicode/utf8.first", laid_unicode_utf8_first)] }
def MediaKindsSaid : Prop := mediaKindsRow.holds Tryd.pinned (OpenSpec.ofChange mediaKindsSpec)

/-- ITS FALSE NEIGHBOUR: 'it returns false'. Refute it at one input. -/
def mediaKindsWrong : ChangeSpec := { name := "mediaKinds", fn := fun _ => fun
  | [d1, d2] => { results := [.lit (.bool false)], args := [d1, d2] }
  | _ => none }
def MediaKindsWrongFalsely : Prop := mediaKindsRow.holds Tryd.pinned (OpenSpec.ofChange mediaKindsWrong)

/-- 'tannoylaw23.MediaKnown': WHATEVER THE INPUT: true; the input reads as it did. -/
def mediaKnownSpec : ChangeSpec := { name := "mediaKnown", fn := fun _ => fun
  | [] => { results := [.lit (.bool true)], args := [] }
  | _ => none }
def mediaKnownRow : OpenClaim := { program := "ytbchmkhliehbfaadoor", sum := "9e04c9364dd7556e8c6ce804c741d92d99af36416d2511ea67f13d92cd7ccdc1", func := "tannoy/tannoylaw23.MediaKnown", spec := "mediaKnown", inPlace := ["internal/abi.NoEscape", "internal/bytealg.MakeNoZero", "internal/bytealg.IndexByteString", "internal/bytealg.IndexString"], unfollowed := true, recurses := true, named := ["unicode/utf8.first", "unicode/utf8.acceptRanges", "internal/bytealg.MaxLen"], apart := false, laid := [("unicode/utf8.acceptRanges", laid_unicode_utf8_acceptRanges), ("unicode/utf8.first", laid_unicode_utf8_first)] }
def MediaKnownSaid : Prop := mediaKnownRow.holds Tryd.pinned (OpenSpec.ofChange mediaKnownSpec)

/-- ITS FALSE NEIGHBOUR: 'it returns false'. Refute it at one input. -/
def mediaKnownWrong : ChangeSpec := { name := "mediaKnown", fn := fun _ => fun
  | [] => { results := [.lit (.bool false)], args := [] }
  | _ => none }
def MediaKnownWrongFalsely : Prop := mediaKnownRow.holds Tryd.pinned (OpenSpec.ofChange mediaKnownWrong)

/- THE SECOND FORM. 'bulk': how many values and letters a reading holds, each counted each time it is reached (what is shared counts as often as it is met; a slice's spare places count too). A statement '..UptoSaid' is the law's where the arguments, and the package variables that the reading takes, are together of bulk at most 1048576: NARROWER than '..Said'. Prove '..Said' where nothing that the law and all that it calls make is longer than what came in: it says more and counts as full. Else prove '..UptoSaid'. A law counts once. -/
mutual
def uptoBulk {H : Type} : DataW H → Nat
  | .lit (.string bytes) => bytes.length + 1
  | .lit _ => 1
  | .nil => 1
  | .ptr d => uptoBulk d + 1
  | .slice elems spare => uptoBulkAll elems + uptoBulkAll spare + 1
  | .agg parts => uptoBulkAll parts + 1
  | .iface _ d => uptoBulk d + 1
  | .map entries => uptoBulkEntries entries + 1
  | .held _ => 1
def uptoBulkAll {H : Type} : List (DataW H) → Nat
  | [] => 0
  | d :: r => uptoBulk d + uptoBulkAll r
def uptoBulkEntries {H : Type} : List (Lit × DataW H) → Nat
  | [] => 0
  | x :: r => uptoBulkEntry x + uptoBulkEntries r
def uptoBulkEntry {H : Type} : Lit × DataW H → Nat
  | (.string bytes, d) => bytes.length + uptoBulk d + 1
  | (_, d) => uptoBulk d + 1
 end
def uptoSmall : (H : Type) → List (DataW H) → Bool := fun _ ds => decide (uptoBulkAll ds ≤ 1048576)
def OpenSpec.upto (s : _root_.Go.ChangeSpec) : _root_.Go.OpenSpec := { _root_.Go.OpenSpec.ofChange s with cond := some uptoSmall }

/-- 'tannoylaw23.MediaEncodes', WHERE WHAT IT READS IS OF BULK AT MOST 1048576: true; the input reads as it did. -/
def mediaEncodesUptoRow : OpenClaim := { program := "ytbchmkhliehbfaadoor", sum := "9e04c9364dd7556e8c6ce804c741d92d99af36416d2511ea67f13d92cd7ccdc1", func := "tannoy/tannoylaw23.MediaEncodes", spec := "mediaEncodes", inPlace := ["internal/abi.NoEscape", "internal/bytealg.MakeNoZero", "internal/bytealg.IndexByteString", "internal/bytealg.IndexString"], unfollowed := true, recurses := true, named := ["unicode/utf8.first", "unicode/utf8.acceptRanges", "internal/bytealg.MaxLen"], apart := false, laid := [("unicode/utf8.acceptRanges", laid_unicode_utf8_acceptRanges), ("unicode/utf8.first", laid_unicode_utf8_first)], narrowed := true }
def MediaEncodesUptoSaid : Prop := mediaEncodesUptoRow.holds Tryd.pinned (OpenSpec.upto mediaEncodesSpec)

/-- 'tannoylaw23.MediaDecodes', WHERE WHAT IT READS IS OF BULK AT MOST 1048576: true; the input reads as it did. -/
def mediaDecodesUptoRow : OpenClaim := { program := "ytbchmkhliehbfaadoor", sum := "9e04c9364dd7556e8c6ce804c741d92d99af36416d2511ea67f13d92cd7ccdc1", func := "tannoy/tannoylaw23.MediaDecodes", spec := "mediaDecodes", inPlace := ["internal/bytealg.IndexByteString", "internal/bytealg.IndexString", "internal/abi.NoEscape", "internal/bytealg.MakeNoZero"], unfollowed := true, recurses := true, named := ["unicode/utf8.first", "unicode/utf8.acceptRanges", "internal/bytealg.MaxLen"], apart := false, laid := [("unicode/utf8.acceptRanges", laid_unicode_utf8_acceptRanges), ("unicode/utf8.first", laid_unicode_utf8_first)], narrowed := true }
def MediaDecodesUptoSaid : Prop := mediaDecodesUptoRow.holds Tryd.pinned (OpenSpec.upto mediaDecodesSpec)

/-- 'tannoylaw23.MediaFinds', WHERE WHAT IT READS IS OF BULK AT MOST 1048576: true; the input reads as it did. -/
def mediaFindsUptoRow : OpenClaim := { program := "ytbchmkhliehbfaadoor", sum := "9e04c9364dd7556e8c6ce804c741d92d99af36416d2511ea67f13d92cd7ccdc1", func := "tannoy/tannoylaw23.MediaFinds", spec := "mediaFinds", inPlace := ["internal/abi.NoEscape", "internal/bytealg.MakeNoZero", "internal/bytealg.IndexByteString", "internal/bytealg.IndexString"], unfollowed := true, recurses := true, named := ["unicode/utf8.first", "unicode/utf8.acceptRanges", "internal/bytealg.MaxLen"], apart := false, laid := [("unicode/utf8.acceptRanges", laid_unicode_utf8_acceptRanges), ("unicode/utf8.first", laid_unicode_utf8_first)], narrowed := true }
def MediaFindsUptoSaid : Prop := mediaFindsUptoRow.holds Tryd.pinned (OpenSpec.upto mediaFindsSpec)

/-- 'tannoylaw23.MediaBack', WHERE WHAT IT READS IS OF BULK AT MOST 1048576: true; the input reads as it did. -/
def mediaBackUptoRow : OpenClaim := { program := "ytbchmkhliehbfaadoor", sum := "9e04c9364dd7556e8c6ce804c741d92d99af36416d2511ea67f13d92cd7ccdc1", func := "tannoy/tannoylaw23.MediaBack", spec := "mediaBack", inPlace := ["internal/abi.NoEscape", "internal/bytealg.MakeNoZero", "internal/bytealg.IndexByteString", "internal/bytealg.IndexString"], unfollowed := true, recurses := true, named := ["unicode/utf8.first", "unicode/utf8.acceptRanges", "internal/bytealg.MaxLen"], apart := false, laid := [("unicode/utf8.acceptRanges", laid_unicode_utf8_acceptRanges), ("unicode/utf8.first", laid_unicode_utf8_first)], narrowed := true }
def MediaBackUptoSaid : Prop := mediaBackUptoRow.holds Tryd.pinned (OpenSpec.upto mediaBackSpec)

/-- 'tannoylaw23.MediaParts', WHERE WHAT IT READS IS OF BULK AT MOST 1048576: true; the input reads as it did. -/
def mediaPartsUptoRow : OpenClaim := { program := "ytbchmkhliehbfaadoor", sum := "9e04c9364dd7556e8c6ce804c741d92d99af36416d2511ea67f13d92cd7ccdc1", func := "tannoy/tannoylaw23.MediaParts", spec := "mediaParts", inPlace := ["internal/abi.NoEscape", "internal/bytealg.MakeNoZero", "internal/bytealg.IndexByteString", "internal/bytealg.IndexString"], unfollowed := true, recurses := true, named := ["unicode/utf8.first", "unicode/utf8.acceptRanges", "internal/bytealg.MaxLen"], apart := false, laid := [("unicode/utf8.acceptRanges", laid_unicode_utf8_acceptRanges), ("unicode/utf8.first", laid_unicode_utf8_first)], narrowed := true }
def MediaPartsUptoSaid : Prop := mediaPartsUptoRow.holds Tryd.pinned (OpenSpec.upto mediaPartsSpec)

/-- 'tannoylaw23.MediaKinds', WHERE WHAT IT READS IS OF BULK AT MOST 1048576: true; the input reads as it did. -/
def mediaKindsUptoRow : OpenClaim := { program := "ytbchmkhliehbfaadoor", sum := "9e04c9364dd7556e8c6ce804c741d92d99af36416d2511ea67f13d92cd7ccdc1", func := "tannoy/tannoylaw23.MediaKinds", spec := "mediaKinds", inPlace := ["internal/abi.NoEscape", "internal/bytealg.MakeNoZero", "internal/bytealg.IndexByteString", "internal/bytealg.IndexString"], unfollowed := true, recurses := true, named := ["unicode/utf8.first", "unicode/utf8.acceptRanges", "internal/bytealg.MaxLen"], apart := false, laid := [("unicode/utf8.acceptRanges", laid_unicode_utf8_acceptRanges), ("unicode/utf8.first", laid_unicode_utf8_first)], narrowed := true }
def MediaKindsUptoSaid : Prop := mediaKindsUptoRow.holds Tryd.pinned (OpenSpec.upto mediaKindsSpec)

/-- 'tannoylaw23.MediaKnown', WHERE WHAT IT READS IS OF BULK AT MOST 1048576: true; the input reads as it did. -/
def mediaKnownUptoRow : OpenClaim := { program := "ytbchmkhliehbfaadoor", sum := "9e04c9364dd7556e8c6ce804c741d92d99af36416d2511ea67f13d92cd7ccdc1", func := "tannoy/tannoylaw23.MediaKnown", spec := "mediaKnown", inPlace := ["internal/abi.NoEscape", "internal/bytealg.MakeNoZero", "internal/bytealg.IndexByteString", "internal/bytealg.IndexString"], unfollowed := true, recurses := true, named := ["unicode/utf8.first", "unicode/utf8.acceptRanges", "internal/bytealg.MaxLen"], apart := false, laid := [("unicode/utf8.acceptRanges", laid_unicode_utf8_acceptRanges), ("unicode/utf8.first", laid_unicode_utf8_first)], narrowed := true }
def MediaKnownUptoSaid : Prop := mediaKnownUptoRow.holds Tryd.pinned (OpenSpec.upto mediaKnownSpec)

end Rows
end Go.Proofs.YtbchmkhliehbfaaDoor
