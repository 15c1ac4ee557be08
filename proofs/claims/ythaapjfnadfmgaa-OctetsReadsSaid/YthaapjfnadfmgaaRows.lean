/-
  No cell of these rows narrows 'for every input' (looked for: loops, veiled, ifaces, maps, wideKeys, modest, calm, conditions, laid).
  DERIVED. THE GIVEN ROWS OF THIS SEAT. 6 by the template 'for every input the law returns true; each argument reads behind the call as it read before'; 0 by the template 'total and deterministic' (their statements: YthaapjfnadfmgaaTotals.lean).
  GIVEN WITH THE SEED: the statements are not yours to turn. If you find one false, say at which input.
  Laid BY PROGRAM, IN A SANDBOX (cutbox-rows.mjs): the forced cells as the released guide's own fill.sh prints them over the translation fba616d16ae9c862… (all of the seat's roots in one cut). By AI agents, Wed Nov 11 2026. No macro, syntax, notation, axiom, sorry.
-/
import Derived.Test.YthaapjfnadfmgaaChecked
import GoSem.Claim
import GoSem.ClaimJoined
import GoSem.ClaimMapViews
import Derived.JoinedTies
import Derived.KernelRfl
namespace Go.Proofs.Ythaapjfnadfmgaa
/- THE CELL 'sum', in the pinned program and in every row, IS THE sha256 OF THE DUMP (.gsa) THAT YthaapjfnadfmgaaProg.lean LOADS. Nothing in Lean hashes anything: it is a label: what it is worth is what the hold of that sum in a sandbox is worth. -/
noncomputable def Try.pinned : Pinned := { name := "ythaapjfnadfmgaa", sum := "fba616d16ae9c86239bb744f6559b80b2e080c162e0d6c8a8c8a38e0f3136364", checked := Try.checked }
namespace Rows
def none {H : Type} : Left H := { results := [], args := [] }

/-- 'tannoylaw01.OctetsWrites': WHATEVER THE INPUT: true; the input reads as it did. -/
def octetsWritesSpec : ChangeSpec := { name := "octetsWrites", fn := fun _ => fun
  | [d1, d2, d3, d4] => { results := [.lit (.bool true)], args := [d1, d2, d3, d4] }
  | _ => none }
def octetsWritesRow : OpenClaim := { program := "ythaapjfnadfmgaa", sum := "fba616d16ae9c86239bb744f6559b80b2e080c162e0d6c8a8c8a38e0f3136364", func := "tannoy/tannoylaw01.OctetsWrites", spec := "octetsWrites", unfollowed := true, recurses := true, apart := false }
def OctetsWritesSaid : Prop := octetsWritesRow.holds Try.pinned (OpenSpec.ofChange octetsWritesSpec)

/-- ITS FALSE NEIGHBOUR: 'it returns false'. Refute it at one input. -/
def octetsWritesWrong : ChangeSpec := { name := "octetsWrites", fn := fun _ => fun
  | [d1, d2, d3, d4] => { results := [.lit (.bool false)], args := [d1, d2, d3, d4] }
  | _ => none }
def OctetsWritesWrongFalsely : Prop := octetsWritesRow.holds Try.pinned (OpenSpec.ofChange octetsWritesWrong)

/-- 'tannoylaw01.OctetsTexts': WHATEVER THE INPUT: true; the input reads as it did. -/
def octetsTextsSpec : ChangeSpec := { name := "octetsTexts", fn := fun _ => fun
  | [d1, d2, d3, d4] => { results := [.lit (.bool true)], args := [d1, d2, d3, d4] }
  | _ => none }
def octetsTextsRow : OpenClaim := { program := "ythaapjfnadfmgaa", sum := "fba616d16ae9c86239bb744f6559b80b2e080c162e0d6c8a8c8a38e0f3136364", func := "tannoy/tannoylaw01.OctetsTexts", spec := "octetsTexts", unfollowed := true, recurses := true, apart := false }
def OctetsTextsSaid : Prop := octetsTextsRow.holds Try.pinned (OpenSpec.ofChange octetsTextsSpec)

/-- ITS FALSE NEIGHBOUR: 'it returns false'. Refute it at one input. -/
def octetsTextsWrong : ChangeSpec := { name := "octetsTexts", fn := fun _ => fun
  | [d1, d2, d3, d4] => { results := [.lit (.bool false)], args := [d1, d2, d3, d4] }
  | _ => none }
def OctetsTextsWrongFalsely : Prop := octetsTextsRow.holds Try.pinned (OpenSpec.ofChange octetsTextsWrong)

/-- 'tannoylaw01.OctetsSerials': WHATEVER THE INPUT: true; the input reads as it did. -/
def octetsSerialsSpec : ChangeSpec := { name := "octetsSerials", fn := fun _ => fun
  | [d1, d2, d3, d4] => { results := [.lit (.bool true)], args := [d1, d2, d3, d4] }
  | _ => none }
def octetsSerialsRow : OpenClaim := { program := "ythaapjfnadfmgaa", sum := "fba616d16ae9c86239bb744f6559b80b2e080c162e0d6c8a8c8a38e0f3136364", func := "tannoy/tannoylaw01.OctetsSerials", spec := "octetsSerials", unfollowed := true, recurses := true, apart := false }
def OctetsSerialsSaid : Prop := octetsSerialsRow.holds Try.pinned (OpenSpec.ofChange octetsSerialsSpec)

/-- ITS FALSE NEIGHBOUR: 'it returns false'. Refute it at one input. -/
def octetsSerialsWrong : ChangeSpec := { name := "octetsSerials", fn := fun _ => fun
  | [d1, d2, d3, d4] => { results := [.lit (.bool false)], args := [d1, d2, d3, d4] }
  | _ => none }
def OctetsSerialsWrongFalsely : Prop := octetsSerialsRow.holds Try.pinned (OpenSpec.ofChange octetsSerialsWrong)

/-- 'tannoylaw01.OctetsOrder': WHATEVER THE INPUT: true; the input reads as it did. -/
def octetsOrderSpec : ChangeSpec := { name := "octetsOrder", fn := fun _ => fun
  | [d1, d2, d3, d4] => { results := [.lit (.bool true)], args := [d1, d2, d3, d4] }
  | _ => none }
def octetsOrderRow : OpenClaim := { program := "ythaapjfnadfmgaa", sum := "fba616d16ae9c86239bb744f6559b80b2e080c162e0d6c8a8c8a38e0f3136364", func := "tannoy/tannoylaw01.OctetsOrder", spec := "octetsOrder", unfollowed := true, recurses := true, apart := false }
def OctetsOrderSaid : Prop := octetsOrderRow.holds Try.pinned (OpenSpec.ofChange octetsOrderSpec)

/-- ITS FALSE NEIGHBOUR: 'it returns false'. Refute it at one input. -/
def octetsOrderWrong : ChangeSpec := { name := "octetsOrder", fn := fun _ => fun
  | [d1, d2, d3, d4] => { results := [.lit (.bool false)], args := [d1, d2, d3, d4] }
  | _ => none }
def OctetsOrderWrongFalsely : Prop := octetsOrderRow.holds Try.pinned (OpenSpec.ofChange octetsOrderWrong)

/-- 'tannoylaw01.OctetsKnown': WHATEVER THE INPUT: true; the input reads as it did. -/
def octetsKnownSpec : ChangeSpec := { name := "octetsKnown", fn := fun _ => fun
  | [] => { results := [.lit (.bool true)], args := [] }
  | _ => none }
def octetsKnownRow : OpenClaim := { program := "ythaapjfnadfmgaa", sum := "fba616d16ae9c86239bb744f6559b80b2e080c162e0d6c8a8c8a38e0f3136364", func := "tannoy/tannoylaw01.OctetsKnown", spec := "octetsKnown", unfollowed := true, recurses := true, apart := false }
def OctetsKnownSaid : Prop := octetsKnownRow.holds Try.pinned (OpenSpec.ofChange octetsKnownSpec)

/-- ITS FALSE NEIGHBOUR: 'it returns false'. Refute it at one input. -/
def octetsKnownWrong : ChangeSpec := { name := "octetsKnown", fn := fun _ => fun
  | [] => { results := [.lit (.bool false)], args := [] }
  | _ => none }
def OctetsKnownWrongFalsely : Prop := octetsKnownRow.holds Try.pinned (OpenSpec.ofChange octetsKnownWrong)

/-- 'tannoylaw01.OctetsReads': WHATEVER THE INPUT: true; the input reads as it did. -/
def octetsReadsSpec : ChangeSpec := { name := "octetsReads", fn := fun _ => fun
  | [d1, d2, d3, d4] => { results := [.lit (.bool true)], args := [d1, d2, d3, d4] }
  | _ => none }
def octetsReadsRow : OpenClaim := { program := "ythaapjfnadfmgaa", sum := "fba616d16ae9c86239bb744f6559b80b2e080c162e0d6c8a8c8a38e0f3136364", func := "tannoy/tannoylaw01.OctetsReads", spec := "octetsReads", unfollowed := true, recurses := true, apart := false }
def OctetsReadsSaid : Prop := octetsReadsRow.holds Try.pinned (OpenSpec.ofChange octetsReadsSpec)

/-- ITS FALSE NEIGHBOUR: 'it returns false'. Refute it at one input. -/
def octetsReadsWrong : ChangeSpec := { name := "octetsReads", fn := fun _ => fun
  | [d1, d2, d3, d4] => { results := [.lit (.bool false)], args := [d1, d2, d3, d4] }
  | _ => none }
def OctetsReadsWrongFalsely : Prop := octetsReadsRow.holds Try.pinned (OpenSpec.ofChange octetsReadsWrong)

/- THE SECOND FORM. 'bulk': how many values and letters a reading holds, each counted each time it is reached (what is shared counts as often as it is met; a slice's spare places count too). A statement '..UptoSaid' is the law's where the arguments, and the package variables that the reading takes, are together of bulk at most 1048576: NARROWER than '..Said'. Prove '..Said' where nothing that the law and all that it calls make is longer than what came in: it says more and counts as full. Else prove '..UptoSaid'. A law counts once. -/
mutual
def uptoBulk {H : Type} : DataW H → Nat
  | .lit (.string bytes) => bytes.length + 1
  | .lit _ => 1
  | .nil => 1
  | .ptr d => uptoBulk d + 1
  | .slice elems spare => uptoBulkAll elems + uptoBulkAll spare + 1
  | .agg parts => uptoBulkAll parts + 1
  | .iface _ d => uptoBulk d + 1
  | .map entries => uptoBulkEntries entries + 1
  | .held _ => 1
def uptoBulkAll {H : Type} : List (DataW H) → Nat
  | [] => 0
  | d :: r => uptoBulk d + uptoBulkAll r
def uptoBulkEntries {H : Type} : List (Lit × DataW H) → Nat
  | [] => 0
  | x :: r => uptoBulkEntry x + uptoBulkEntries r
def uptoBulkEntry {H : Type} : Lit × DataW H → Nat
  | (.string bytes, d) => bytes.length + uptoBulk d + 1
  | (_, d) => uptoBulk d + 1
 end
def uptoSmall : (H : Type) → List (DataW H) → Bool := fun _ ds => decide (uptoBulkAll ds ≤ 1048576)
def OpenSpec.upto (s : _root_.Go.ChangeSpec) : _root_.Go.OpenSpec := { _root_.Go.OpenSpec.ofChange s with cond := some uptoSmall }

/-- 'tannoylaw01.OctetsWrites', WHERE WHAT IT READS IS OF BULK AT MOST 1048576: true; the input reads as it did. -/
def octetsWritesUptoRow : OpenClaim := { program := "ythaapjfnadfmgaa", sum := "fba616d16ae9c86239bb744f6559b80b2e080c162e0d6c8a8c8a38e0f3136364", func := "tannoy/tannoylaw01.OctetsWrites", spec := "octetsWrites", unfollowed := true, recurses := true, apart := false, narrowed := true }
def OctetsWritesUptoSaid : Prop := octetsWritesUptoRow.holds Try.pinned (OpenSpec.upto octetsWritesSpec)

/-- 'tannoylaw01.OctetsTexts', WHERE WHAT IT READS IS OF BULK AT MOST 1048576: true; the input reads as it did. -/
def octetsTextsUptoRow : OpenClaim := { program := "ythaapjfnadfmgaa", sum := "fba616d16ae9c86239bb744f6559b80b2e080c162e0d6c8a8c8a38e0f3136364", func := "tannoy/tannoylaw01.OctetsTexts", spec := "octetsTexts", unfollowed := true, recurses := true, apart := false, narrowed := true }
def OctetsTextsUptoSaid : Prop := octetsTextsUptoRow.holds Try.pinned (OpenSpec.upto octetsTextsSpec)

/-- 'tannoylaw01.OctetsSerials', WHERE WHAT IT READS IS OF BULK AT MOST 1048576: true; the input reads as it did. -/
def octetsSerialsUptoRow : OpenClaim := { program := "ythaapjfnadfmgaa", sum := "fba616d16ae9c86239bb744f6559b80b2e080c162e0d6c8a8c8a38e0f3136364", func := "tannoy/tannoylaw01.OctetsSerials", spec := "octetsSerials", unfollowed := true, recurses := true, apart := false, narrowed := true }
def OctetsSerialsUptoSaid : Prop := octetsSerialsUptoRow.holds Try.pinned (OpenSpec.upto octetsSerialsSpec)

/-- 'tannoylaw01.OctetsOrder', WHERE WHAT IT READS IS OF BULK AT MOST 1048576: true; the input reads as it did. -/
def octetsOrderUptoRow : OpenClaim := { program := "ythaapjfnadfmgaa", sum := "fba616d16ae9c86239bb744f6559b80b2e080c162e0d6c8a8c8a38e0f3136364", func := "tannoy/tannoylaw01.OctetsOrder", spec := "octetsOrder", unfollowed := true, recurses := true, apart := false, narrowed := true }
def OctetsOrderUptoSaid : Prop := octetsOrderUptoRow.holds Try.pinned (OpenSpec.upto octetsOrderSpec)

/-- 'tannoylaw01.OctetsKnown', WHERE WHAT IT READS IS OF BULK AT MOST 1048576: true; the input reads as it did. -/
def octetsKnownUptoRow : OpenClaim := { program := "ythaapjfnadfmgaa", sum := "fba616d16ae9c86239bb744f6559b80b2e080c162e0d6c8a8c8a38e0f3136364", func := "tannoy/tannoylaw01.OctetsKnown", spec := "octetsKnown", unfollowed := true, recurses := true, apart := false, narrowed := true }
def OctetsKnownUptoSaid : Prop := octetsKnownUptoRow.holds Try.pinned (OpenSpec.upto octetsKnownSpec)

/-- 'tannoylaw01.OctetsReads', WHERE WHAT IT READS IS OF BULK AT MOST 1048576: true; the input reads as it did. -/
def octetsReadsUptoRow : OpenClaim := { program := "ythaapjfnadfmgaa", sum := "fba616d16ae9c86239bb744f6559b80b2e080c162e0d6c8a8c8a38e0f3136364", func := "tannoy/tannoylaw01.OctetsReads", spec := "octetsReads", unfollowed := true, recurses := true, apart := false, narrowed := true }
def OctetsReadsUptoSaid : Prop := octetsReadsUptoRow.holds Try.pinned (OpenSpec.upto octetsReadsSpec)

end Rows
end Go.Proofs.Ythaapjfnadfmgaa
