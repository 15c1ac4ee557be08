/-
  No cell of these rows narrows 'for every input' (looked for: loops, veiled, ifaces, maps, wideKeys, modest, calm, conditions, laid).
  DERIVED. THE GIVEN ROWS OF THIS SEAT. 7 by the template 'for every input the law returns true; each argument reads behind the call as it read before'; 0 by the template 'total and deterministic' (their statements: YtiholnebhmjbjaaTotals.lean).
  GIVEN WITH THE SEED: the statements are not yours to turn. If you find one false, say at which input.
  Laid BY PROGRAM, IN A SANDBOX (cutbox-rows.mjs): the forced cells as the released guide's own fill.sh prints them over the translation 41da25bf6d323b78… (all of the seat's roots in one cut). By AI agents, Wed Nov 11 2026. No macro, syntax, notation, axiom, sorry.
-/
import Derived.Test.YtiholnebhmjbjaaChecked
import GoSem.Claim
import GoSem.ClaimJoined
import GoSem.ClaimMapViews
import Derived.JoinedTies
import Derived.KernelRfl
namespace Go.Proofs.Ytiholnebhmjbjaa
/- THE CELL 'sum', in the pinned program and in every row, IS THE sha256 OF THE DUMP (.gsa) THAT YtiholnebhmjbjaaProg.lean LOADS. Nothing in Lean hashes anything: it is a label: what it is worth is what the hold of that sum in a sandbox is worth. -/
noncomputable def Try.pinned : Pinned := { name := "ytiholnebhmjbjaa", sum := "41da25bf6d323b784df03c621dfee806b966efa5f0ff5d5521fa9833d2090e2f", checked := Try.checked }
namespace Rows
def none {H : Type} : Left H := { results := [], args := [] }

/-- 'tannoylaw17.RecordCodes': WHATEVER THE INPUT: true; the input reads as it did. -/
def recordCodesSpec : ChangeSpec := { name := "recordCodes", fn := fun _ => fun
  | [d1, d2, d3, d4] => { results := [.lit (.bool true)], args := [d1, d2, d3, d4] }
  | _ => none }
def recordCodesRow : OpenClaim := { program := "ytiholnebhmjbjaa", sum := "41da25bf6d323b784df03c621dfee806b966efa5f0ff5d5521fa9833d2090e2f", func := "tannoy/tannoylaw17.RecordCodes", spec := "recordCodes", inPlace := ["internal/abi.NoEscape", "internal/bytealg.MakeNoZero"], unfollowed := true, recurses := true, apart := false }
def RecordCodesSaid : Prop := recordCodesRow.holds Try.pinned (OpenSpec.ofChange recordCodesSpec)

/-- ITS FALSE NEIGHBOUR: 'it returns false'. Refute it at one input. -/
def recordCodesWrong : ChangeSpec := { name := "recordCodes", fn := fun _ => fun
  | [d1, d2, d3, d4] => { results := [.lit (.bool false)], args := [d1, d2, d3, d4] }
  | _ => none }
def RecordCodesWrongFalsely : Prop := recordCodesRow.holds Try.pinned (OpenSpec.ofChange recordCodesWrong)

/-- 'tannoylaw17.RecordWindows': WHATEVER THE INPUT: true; the input reads as it did. -/
def recordWindowsSpec : ChangeSpec := { name := "recordWindows", fn := fun _ => fun
  | [d1, d2, d3, d4, d5] => { results := [.lit (.bool true)], args := [d1, d2, d3, d4, d5] }
  | _ => none }
def recordWindowsRow : OpenClaim := { program := "ytiholnebhmjbjaa", sum := "41da25bf6d323b784df03c621dfee806b966efa5f0ff5d5521fa9833d2090e2f", func := "tannoy/tannoylaw17.RecordWindows", spec := "recordWindows", inPlace := ["internal/abi.NoEscape", "internal/bytealg.MakeNoZero"], unfollowed := true, recurses := true, apart := false }
def RecordWindowsSaid : Prop := recordWindowsRow.holds Try.pinned (OpenSpec.ofChange recordWindowsSpec)

/-- ITS FALSE NEIGHBOUR: 'it returns false'. Refute it at one input. -/
def recordWindowsWrong : ChangeSpec := { name := "recordWindows", fn := fun _ => fun
  | [d1, d2, d3, d4, d5] => { results := [.lit (.bool false)], args := [d1, d2, d3, d4, d5] }
  | _ => none }
def RecordWindowsWrongFalsely : Prop := recordWindowsRow.holds Try.pinned (OpenSpec.ofChange recordWindowsWrong)

/-- 'tannoylaw17.RecordBack': WHATEVER THE INPUT: true; the input reads as it did. -/
def recordBackSpec : ChangeSpec := { name := "recordBack", fn := fun _ => fun
  | [d1, d2] => { results := [.lit (.bool true)], args := [d1, d2] }
  | _ => none }
def recordBackRow : OpenClaim := { program := "ytiholnebhmjbjaa", sum := "41da25bf6d323b784df03c621dfee806b966efa5f0ff5d5521fa9833d2090e2f", func := "tannoy/tannoylaw17.RecordBack", spec := "recordBack", inPlace := ["internal/abi.NoEscape", "internal/bytealg.MakeNoZero"], unfollowed := true, recurses := true, apart := false }
def RecordBackSaid : Prop := recordBackRow.holds Try.pinned (OpenSpec.ofChange recordBackSpec)

/-- ITS FALSE NEIGHBOUR: 'it returns false'. Refute it at one input. -/
def recordBackWrong : ChangeSpec := { name := "recordBack", fn := fun _ => fun
  | [d1, d2] => { results := [.lit (.bool false)], args := [d1, d2] }
  | _ => none }
def RecordBackWrongFalsely : Prop := recordBackRow.holds Try.pinned (OpenSpec.ofChange recordBackWrong)

/-- 'tannoylaw17.RecordOnce': WHATEVER THE INPUT: true; the input reads as it did. -/
def recordOnceSpec : ChangeSpec := { name := "recordOnce", fn := fun _ => fun
  | [d1, d2, d3] => { results := [.lit (.bool true)], args := [d1, d2, d3] }
  | _ => none }
def recordOnceRow : OpenClaim := { program := "ytiholnebhmjbjaa", sum := "41da25bf6d323b784df03c621dfee806b966efa5f0ff5d5521fa9833d2090e2f", func := "tannoy/tannoylaw17.RecordOnce", spec := "recordOnce", inPlace := ["internal/abi.NoEscape", "internal/bytealg.MakeNoZero"], unfollowed := true, recurses := true, apart := false }
def RecordOnceSaid : Prop := recordOnceRow.holds Try.pinned (OpenSpec.ofChange recordOnceSpec)

/-- ITS FALSE NEIGHBOUR: 'it returns false'. Refute it at one input. -/
def recordOnceWrong : ChangeSpec := { name := "recordOnce", fn := fun _ => fun
  | [d1, d2, d3] => { results := [.lit (.bool false)], args := [d1, d2, d3] }
  | _ => none }
def RecordOnceWrongFalsely : Prop := recordOnceRow.holds Try.pinned (OpenSpec.ofChange recordOnceWrong)

/-- 'tannoylaw17.RecordOnlyOnce': WHATEVER THE INPUT: true; the input reads as it did. -/
def recordOnlyOnceSpec : ChangeSpec := { name := "recordOnlyOnce", fn := fun _ => fun
  | [d1, d2, d3] => { results := [.lit (.bool true)], args := [d1, d2, d3] }
  | _ => none }
def recordOnlyOnceRow : OpenClaim := { program := "ytiholnebhmjbjaa", sum := "41da25bf6d323b784df03c621dfee806b966efa5f0ff5d5521fa9833d2090e2f", func := "tannoy/tannoylaw17.RecordOnlyOnce", spec := "recordOnlyOnce", inPlace := ["internal/abi.NoEscape", "internal/bytealg.MakeNoZero"], unfollowed := true, recurses := true, apart := false }
def RecordOnlyOnceSaid : Prop := recordOnlyOnceRow.holds Try.pinned (OpenSpec.ofChange recordOnlyOnceSpec)

/-- ITS FALSE NEIGHBOUR: 'it returns false'. Refute it at one input. -/
def recordOnlyOnceWrong : ChangeSpec := { name := "recordOnlyOnce", fn := fun _ => fun
  | [d1, d2, d3] => { results := [.lit (.bool false)], args := [d1, d2, d3] }
  | _ => none }
def RecordOnlyOnceWrongFalsely : Prop := recordOnlyOnceRow.holds Try.pinned (OpenSpec.ofChange recordOnlyOnceWrong)

/-- 'tannoylaw17.RecordKnown': WHATEVER THE INPUT: true; the input reads as it did. -/
def recordKnownSpec : ChangeSpec := { name := "recordKnown", fn := fun _ => fun
  | [] => { results := [.lit (.bool true)], args := [] }
  | _ => none }
def recordKnownRow : OpenClaim := { program := "ytiholnebhmjbjaa", sum := "41da25bf6d323b784df03c621dfee806b966efa5f0ff5d5521fa9833d2090e2f", func := "tannoy/tannoylaw17.RecordKnown", spec := "recordKnown", inPlace := ["internal/abi.NoEscape", "internal/bytealg.MakeNoZero"], unfollowed := true, recurses := true, apart := false }
def RecordKnownSaid : Prop := recordKnownRow.holds Try.pinned (OpenSpec.ofChange recordKnownSpec)

/-- ITS FALSE NEIGHBOUR: 'it returns false'. Refute it at one input. -/
def recordKnownWrong : ChangeSpec := { name := "recordKnown", fn := fun _ => fun
  | [] => { results := [.lit (.bool false)], args := [] }
  | _ => none }
def RecordKnownWrongFalsely : Prop := recordKnownRow.holds Try.pinned (OpenSpec.ofChange recordKnownWrong)

/-- 'tannoylaw17.RecordForged': WHATEVER THE INPUT: true; the input reads as it did. -/
def recordForgedSpec : ChangeSpec := { name := "recordForged", fn := fun _ => fun
  | [d1, d2, d3, d4, d5] => { results := [.lit (.bool true)], args := [d1, d2, d3, d4, d5] }
  | _ => none }
def recordForgedRow : OpenClaim := { program := "ytiholnebhmjbjaa", sum := "41da25bf6d323b784df03c621dfee806b966efa5f0ff5d5521fa9833d2090e2f", func := "tannoy/tannoylaw17.RecordForged", spec := "recordForged", inPlace := ["internal/abi.NoEscape", "internal/bytealg.MakeNoZero"], unfollowed := true, recurses := true, apart := false }
def RecordForgedSaid : Prop := recordForgedRow.holds Try.pinned (OpenSpec.ofChange recordForgedSpec)

/-- ITS FALSE NEIGHBOUR: 'it returns false'. Refute it at one input. -/
def recordForgedWrong : ChangeSpec := { name := "recordForged", fn := fun _ => fun
  | [d1, d2, d3, d4, d5] => { results := [.lit (.bool false)], args := [d1, d2, d3, d4, d5] }
  | _ => none }
def RecordForgedWrongFalsely : Prop := recordForgedRow.holds Try.pinned (OpenSpec.ofChange recordForgedWrong)

/- THE SECOND FORM. 'bulk': how many values and letters a reading holds, each counted each time it is reached (what is shared counts as often as it is met; a slice's spare places count too). A statement '..UptoSaid' is the law's where the arguments, and the package variables that the reading takes, are together of bulk at most 1048576: NARROWER than '..Said'. Prove '..Said' where nothing that the law and all that it calls make is longer than what came in: it says more and counts as full. Else prove '..UptoSaid'. A law counts once. -/
mutual
def uptoBulk {H : Type} : DataW H → Nat
  | .lit (.string bytes) => bytes.length + 1
  | .lit _ => 1
  | .nil => 1
  | .ptr d => uptoBulk d + 1
  | .slice elems spare => uptoBulkAll elems + uptoBulkAll spare + 1
  | .agg parts => uptoBulkAll parts + 1
  | .iface _ d => uptoBulk d + 1
  | .map entries => uptoBulkEntries entries + 1
  | .held _ => 1
def uptoBulkAll {H : Type} : List (DataW H) → Nat
  | [] => 0
  | d :: r => uptoBulk d + uptoBulkAll r
def uptoBulkEntries {H : Type} : List (Lit × DataW H) → Nat
  | [] => 0
  | x :: r => uptoBulkEntry x + uptoBulkEntries r
def uptoBulkEntry {H : Type} : Lit × DataW H → Nat
  | (.string bytes, d) => bytes.length + uptoBulk d + 1
  | (_, d) => uptoBulk d + 1
 end
def uptoSmall : (H : Type) → List (DataW H) → Bool := fun _ ds => decide (uptoBulkAll ds ≤ 1048576)
def OpenSpec.upto (s : _root_.Go.ChangeSpec) : _root_.Go.OpenSpec := { _root_.Go.OpenSpec.ofChange s with cond := some uptoSmall }

/-- 'tannoylaw17.RecordCodes', WHERE WHAT IT READS IS OF BULK AT MOST 1048576: true; the input reads as it did. -/
def recordCodesUptoRow : OpenClaim := { program := "ytiholnebhmjbjaa", sum := "41da25bf6d323b784df03c621dfee806b966efa5f0ff5d5521fa9833d2090e2f", func := "tannoy/tannoylaw17.RecordCodes", spec := "recordCodes", inPlace := ["internal/abi.NoEscape", "internal/bytealg.MakeNoZero"], unfollowed := true, recurses := true, apart := false, narrowed := true }
def RecordCodesUptoSaid : Prop := recordCodesUptoRow.holds Try.pinned (OpenSpec.upto recordCodesSpec)

/-- 'tannoylaw17.RecordWindows', WHERE WHAT IT READS IS OF BULK AT MOST 1048576: true; the input reads as it did. -/
def recordWindowsUptoRow : OpenClaim := { program := "ytiholnebhmjbjaa", sum := "41da25bf6d323b784df03c621dfee806b966efa5f0ff5d5521fa9833d2090e2f", func := "tannoy/tannoylaw17.RecordWindows", spec := "recordWindows", inPlace := ["internal/abi.NoEscape", "internal/bytealg.MakeNoZero"], unfollowed := true, recurses := true, apart := false, narrowed := true }
def RecordWindowsUptoSaid : Prop := recordWindowsUptoRow.holds Try.pinned (OpenSpec.upto recordWindowsSpec)

/-- 'tannoylaw17.RecordBack', WHERE WHAT IT READS IS OF BULK AT MOST 1048576: true; the input reads as it did. -/
def recordBackUptoRow : OpenClaim := { program := "ytiholnebhmjbjaa", sum := "41da25bf6d323b784df03c621dfee806b966efa5f0ff5d5521fa9833d2090e2f", func := "tannoy/tannoylaw17.RecordBack", spec := "recordBack", inPlace := ["internal/abi.NoEscape", "internal/bytealg.MakeNoZero"], unfollowed := true, recurses := true, apart := false, narrowed := true }
def RecordBackUptoSaid : Prop := recordBackUptoRow.holds Try.pinned (OpenSpec.upto recordBackSpec)

/-- 'tannoylaw17.RecordOnce', WHERE WHAT IT READS IS OF BULK AT MOST 1048576: true; the input reads as it did. -/
def recordOnceUptoRow : OpenClaim := { program := "ytiholnebhmjbjaa", sum := "41da25bf6d323b784df03c621dfee806b966efa5f0ff5d5521fa9833d2090e2f", func := "tannoy/tannoylaw17.RecordOnce", spec := "recordOnce", inPlace := ["internal/abi.NoEscape", "internal/bytealg.MakeNoZero"], unfollowed := true, recurses := true, apart := false, narrowed := true }
def RecordOnceUptoSaid : Prop := recordOnceUptoRow.holds Try.pinned (OpenSpec.upto recordOnceSpec)

/-- 'tannoylaw17.RecordOnlyOnce', WHERE WHAT IT READS IS OF BULK AT MOST 1048576: true; the input reads as it did. -/
def recordOnlyOnceUptoRow : OpenClaim := { program := "ytiholnebhmjbjaa", sum := "41da25bf6d323b784df03c621dfee806b966efa5f0ff5d5521fa9833d2090e2f", func := "tannoy/tannoylaw17.RecordOnlyOnce", spec := "recordOnlyOnce", inPlace := ["internal/abi.NoEscape", "internal/bytealg.MakeNoZero"], unfollowed := true, recurses := true, apart := false, narrowed := true }
def RecordOnlyOnceUptoSaid : Prop := recordOnlyOnceUptoRow.holds Try.pinned (OpenSpec.upto recordOnlyOnceSpec)

/-- 'tannoylaw17.RecordKnown', WHERE WHAT IT READS IS OF BULK AT MOST 1048576: true; the input reads as it did. -/
def recordKnownUptoRow : OpenClaim := { program := "ytiholnebhmjbjaa", sum := "41da25bf6d323b784df03c621dfee806b966efa5f0ff5d5521fa9833d2090e2f", func := "tannoy/tannoylaw17.RecordKnown", spec := "recordKnown", inPlace := ["internal/abi.NoEscape", "internal/bytealg.MakeNoZero"], unfollowed := true, recurses := true, apart := false, narrowed := true }
def RecordKnownUptoSaid : Prop := recordKnownUptoRow.holds Try.pinned (OpenSpec.upto recordKnownSpec)

/-- 'tannoylaw17.RecordForged', WHERE WHAT IT READS IS OF BULK AT MOST 1048576: true; the input reads as it did. -/
def recordForgedUptoRow : OpenClaim := { program := "ytiholnebhmjbjaa", sum := "41da25bf6d323b784df03c621dfee806b966efa5f0ff5d5521fa9833d2090e2f", func := "tannoy/tannoylaw17.RecordForged", spec := "recordForged", inPlace := ["internal/abi.NoEscape", "internal/bytealg.MakeNoZero"], unfollowed := true, recurses := true, apart := false, narrowed := true }
def RecordForgedUptoSaid : Prop := recordForgedUptoRow.holds Try.pinned (OpenSpec.upto recordForgedSpec)

end Rows
end Go.Proofs.Ytiholnebhmjbjaa
