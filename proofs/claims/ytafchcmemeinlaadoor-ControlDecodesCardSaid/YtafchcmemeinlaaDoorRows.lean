/-
  NARROWER THAN 'FOR EVERY INPUT', by the rows' own cells (each row's printed sentence says how): ControlDecodes: laid · ControlPairs: laid · ControlBack: laid · ControlAll: laid · ControlLess: laid · ControlKnown: laid · ControlEncodes: laid · ControlParts: laid.
  DERIVED. THE GIVEN ROWS OF THIS SEAT. 8 by the template 'for every input the law returns true; each argument reads behind the call as it read before'; 0 by the template 'total and deterministic' (their statements: YtafchcmemeinlaaDoorTotals.lean).
  GIVEN WITH THE SEED: the statements are not yours to turn. If you find one false, say at which input.
  Laid BY PROGRAM, IN A SANDBOX (cutbox-rows.mjs): the forced cells as the released guide's own fill.sh prints them over the translation a1e69b0ac49d1aaa… (all of the seat's roots in one cut). By AI agents, Wed Nov 11 2026. No macro, syntax, notation, axiom, sorry.
-/
import Derived.Test.YtafchcmemeinlaaDoorChecked
import GoSem.Claim
import GoSem.ClaimJoined
import GoSem.ClaimMapViews
import Derived.JoinedTies
import Derived.KernelRfl
namespace Go.Proofs.YtafchcmemeinlaaDoor
/- THE CELL 'sum', in the pinned program and in every row, IS THE sha256 OF THE DUMP (.gsa) THAT YtafchcmemeinlaaDoorProg.lean LOADS. Nothing in Lean hashes anything: it is a label: what it is worth is what the hold of that sum in a sandbox is worth. -/
noncomputable def Tryd.pinned : Pinned := { name := "ytafchcmemeinlaadoor", sum := "a1e69b0ac49d1aaaa43f9cc74c1ffd666fa9578f93ce6056523fd46401951f6a", checked := Tryd.checked }
namespace Rows
def none {H : Type} : Left H := { results := [], args := [] }

/- WHAT THE LISTED PACKAGE-LEVEL VARIABLES READ AS WHEN THE CALL BEGINS. Each datum BY PROGRAM (the guide's laid-datum.mjs) off the statement by which the dump's own 'gosem.cut.vars' lays the variable. In a bare row this is a premise. The card (YtafchcmemeinlaaDoorCards.lean) ties it to the program's text. -/
def laid_tannoy_control_has {H : Type} : DataW H := .agg [.agg [.lit (.bool false), .lit (.bool false), .lit (.bool false), .lit (.bool false), .lit (.bool false)], .agg [.lit (.bool false), .lit (.bool true), .lit (.bool true), .lit (.bool false), .lit (.bool false)], .agg [.lit (.bool false), .lit (.bool false), .lit (.bool true), .lit (.bool false), .lit (.bool false)], .agg [.lit (.bool false), .lit (.bool false), .lit (.bool false), .lit (.bool false), .lit (.bool false)], .agg [.lit (.bool true), .lit (.bool false), .lit (.bool false), .lit (.bool true), .lit (.bool false)], .agg [.lit (.bool true), .lit (.bool false), .lit (.bool false), .lit (.bool false), .lit (.bool false)], .agg [.lit (.bool true), .lit (.bool false), .lit (.bool false), .lit (.bool false), .lit (.bool true)]]
def laid_tannoy_control_wire {H : Type} : DataW H := .agg [.lit (.int .i64 0), .lit (.int .i64 200), .lit (.int .i64 201), .lit (.int .i64 203), .lit (.int .i64 205), .lit (.int .i64 206), .lit (.int .i64 205)]

/-- 'tannoylaw24.ControlDecodes': WHATEVER THE INPUT: true; the input reads as it did. -/
def controlDecodesSpec : ChangeSpec := { name := "controlDecodes", fn := fun _ => fun
  | [d1, d2, d3, d4] => { results := [.lit (.bool true)], args := [d1, d2, d3, d4] }
  | _ => none }
def controlDecodesRow : OpenClaim := { program := "ytafchcmemeinlaadoor", sum := "a1e69b0ac49d1aaaa43f9cc74c1ffd666fa9578f93ce6056523fd46401951f6a", func := "tannoy/tannoylaw24.ControlDecodes", spec := "controlDecodes", unfollowed := true, recurses := true, named := ["tannoy/control.has", "tannoy/control.wire"], apart := false, laid := [("tannoy/control.has", laid_tannoy_control_has), ("tannoy/control.wire", laid_tannoy_control_wire)] }
def ControlDecodesSaid : Prop := controlDecodesRow.holds Tryd.pinned (OpenSpec.ofChange controlDecodesSpec)

/-- ITS FALSE NEIGHBOUR: 'it returns false'. Refute it at one input. -/
def controlDecodesWrong : ChangeSpec := { name := "controlDecodes", fn := fun _ => fun
  | [d1, d2, d3, d4] => { results := [.lit (.bool false)], args := [d1, d2, d3, d4] }
  | _ => none }
def ControlDecodesWrongFalsely : Prop := controlDecodesRow.holds Tryd.pinned (OpenSpec.ofChange controlDecodesWrong)

/-- 'tannoylaw24.ControlPairs': WHATEVER THE INPUT: true; the input reads as it did. -/
def controlPairsSpec : ChangeSpec := { name := "controlPairs", fn := fun _ => fun
  | [d1, d2, d3, d4, d5, d6] => { results := [.lit (.bool true)], args := [d1, d2, d3, d4, d5, d6] }
  | _ => none }
def controlPairsRow : OpenClaim := { program := "ytafchcmemeinlaadoor", sum := "a1e69b0ac49d1aaaa43f9cc74c1ffd666fa9578f93ce6056523fd46401951f6a", func := "tannoy/tannoylaw24.ControlPairs", spec := "controlPairs", unfollowed := true, recurses := true, named := ["tannoy/control.has", "tannoy/control.wire"], apart := false, laid := [("tannoy/control.has", laid_tannoy_control_has), ("tannoy/control.wire", laid_tannoy_control_wire)] }
def ControlPairsSaid : Prop := controlPairsRow.holds Tryd.pinned (OpenSpec.ofChange controlPairsSpec)

/-- ITS FALSE NEIGHBOUR: 'it returns false'. Refute it at one input. -/
def controlPairsWrong : ChangeSpec := { name := "controlPairs", fn := fun _ => fun
  | [d1, d2, d3, d4, d5, d6] => { results := [.lit (.bool false)], args := [d1, d2, d3, d4, d5, d6] }
  | _ => none }
def ControlPairsWrongFalsely : Prop := controlPairsRow.holds Tryd.pinned (OpenSpec.ofChange controlPairsWrong)

/-- 'tannoylaw24.ControlBack': WHATEVER THE INPUT: true; the input reads as it did. -/
def controlBackSpec : ChangeSpec := { name := "controlBack", fn := fun _ => fun
  | [d1, d2] => { results := [.lit (.bool true)], args := [d1, d2] }
  | _ => none }
def controlBackRow : OpenClaim := { program := "ytafchcmemeinlaadoor", sum := "a1e69b0ac49d1aaaa43f9cc74c1ffd666fa9578f93ce6056523fd46401951f6a", func := "tannoy/tannoylaw24.ControlBack", spec := "controlBack", unfollowed := true, recurses := true, named := ["tannoy/control.has", "tannoy/control.wire"], apart := false, laid := [("tannoy/control.has", laid_tannoy_control_has), ("tannoy/control.wire", laid_tannoy_control_wire)] }
def ControlBackSaid : Prop := controlBackRow.holds Tryd.pinned (OpenSpec.ofChange controlBackSpec)

/-- ITS FALSE NEIGHBOUR: 'it returns false'. Refute it at one input. -/
def controlBackWrong : ChangeSpec := { name := "controlBack", fn := fun _ => fun
  | [d1, d2] => { results := [.lit (.bool false)], args := [d1, d2] }
  | _ => none }
def ControlBackWrongFalsely : Prop := controlBackRow.holds Tryd.pinned (OpenSpec.ofChange controlBackWrong)

/-- 'tannoylaw24.ControlAll': WHATEVER THE INPUT: true; the input reads as it did. -/
def controlAllSpec : ChangeSpec := { name := "controlAll", fn := fun _ => fun
  | [d1, d2] => { results := [.lit (.bool true)], args := [d1, d2] }
  | _ => none }
def controlAllRow : OpenClaim := { program := "ytafchcmemeinlaadoor", sum := "a1e69b0ac49d1aaaa43f9cc74c1ffd666fa9578f93ce6056523fd46401951f6a", func := "tannoy/tannoylaw24.ControlAll", spec := "controlAll", unfollowed := true, recurses := true, named := ["tannoy/control.has", "tannoy/control.wire"], apart := false, laid := [("tannoy/control.has", laid_tannoy_control_has), ("tannoy/control.wire", laid_tannoy_control_wire)] }
def ControlAllSaid : Prop := controlAllRow.holds Tryd.pinned (OpenSpec.ofChange controlAllSpec)

/-- ITS FALSE NEIGHBOUR: 'it returns false'. Refute it at one input. -/
def controlAllWrong : ChangeSpec := { name := "controlAll", fn := fun _ => fun
  | [d1, d2] => { results := [.lit (.bool false)], args := [d1, d2] }
  | _ => none }
def ControlAllWrongFalsely : Prop := controlAllRow.holds Tryd.pinned (OpenSpec.ofChange controlAllWrong)

/-- 'tannoylaw24.ControlLess': WHATEVER THE INPUT: true; the input reads as it did. -/
def controlLessSpec : ChangeSpec := { name := "controlLess", fn := fun _ => fun
  | [d1, d2, d3] => { results := [.lit (.bool true)], args := [d1, d2, d3] }
  | _ => none }
def controlLessRow : OpenClaim := { program := "ytafchcmemeinlaadoor", sum := "a1e69b0ac49d1aaaa43f9cc74c1ffd666fa9578f93ce6056523fd46401951f6a", func := "tannoy/tannoylaw24.ControlLess", spec := "controlLess", unfollowed := true, recurses := true, named := ["tannoy/control.has", "tannoy/control.wire"], apart := false, laid := [("tannoy/control.has", laid_tannoy_control_has), ("tannoy/control.wire", laid_tannoy_control_wire)] }
def ControlLessSaid : Prop := controlLessRow.holds Tryd.pinned (OpenSpec.ofChange controlLessSpec)

/-- ITS FALSE NEIGHBOUR: 'it returns false'. Refute it at one input. -/
def controlLessWrong : ChangeSpec := { name := "controlLess", fn := fun _ => fun
  | [d1, d2, d3] => { results := [.lit (.bool false)], args := [d1, d2, d3] }
  | _ => none }
def ControlLessWrongFalsely : Prop := controlLessRow.holds Tryd.pinned (OpenSpec.ofChange controlLessWrong)

/-- 'tannoylaw24.ControlKnown': WHATEVER THE INPUT: true; the input reads as it did. -/
def controlKnownSpec : ChangeSpec := { name := "controlKnown", fn := fun _ => fun
  | [] => { results := [.lit (.bool true)], args := [] }
  | _ => none }
def controlKnownRow : OpenClaim := { program := "ytafchcmemeinlaadoor", sum := "a1e69b0ac49d1aaaa43f9cc74c1ffd666fa9578f93ce6056523fd46401951f6a", func := "tannoy/tannoylaw24.ControlKnown", spec := "controlKnown", unfollowed := true, recurses := true, named := ["tannoy/control.has", "tannoy/control.wire"], apart := false, laid := [("tannoy/control.has", laid_tannoy_control_has), ("tannoy/control.wire", laid_tannoy_control_wire)] }
def ControlKnownSaid : Prop := controlKnownRow.holds Tryd.pinned (OpenSpec.ofChange controlKnownSpec)

/-- ITS FALSE NEIGHBOUR: 'it returns false'. Refute it at one input. -/
def controlKnownWrong : ChangeSpec := { name := "controlKnown", fn := fun _ => fun
  | [] => { results := [.lit (.bool false)], args := [] }
  | _ => none }
def ControlKnownWrongFalsely : Prop := controlKnownRow.holds Tryd.pinned (OpenSpec.ofChange controlKnownWrong)

/-- 'tannoylaw24.ControlEncodes': WHATEVER THE INPUT: true; the input reads as it did. -/
def controlEncodesSpec : ChangeSpec := { name := "controlEncodes", fn := fun _ => fun
  | [d1, d2, d3] => { results := [.lit (.bool true)], args := [d1, d2, d3] }
  | _ => none }
def controlEncodesRow : OpenClaim := { program := "ytafchcmemeinlaadoor", sum := "a1e69b0ac49d1aaaa43f9cc74c1ffd666fa9578f93ce6056523fd46401951f6a", func := "tannoy/tannoylaw24.ControlEncodes", spec := "controlEncodes", unfollowed := true, recurses := true, named := ["tannoy/control.has", "tannoy/control.wire"], apart := false, laid := [("tannoy/control.has", laid_tannoy_control_has), ("tannoy/control.wire", laid_tannoy_control_wire)] }
def ControlEncodesSaid : Prop := controlEncodesRow.holds Tryd.pinned (OpenSpec.ofChange controlEncodesSpec)

/-- ITS FALSE NEIGHBOUR: 'it returns false'. Refute it at one input. -/
def controlEncodesWrong : ChangeSpec := { name := "controlEncodes", fn := fun _ => fun
  | [d1, d2, d3] => { results := [.lit (.bool false)], args := [d1, d2, d3] }
  | _ => none }
def ControlEncodesWrongFalsely : Prop := controlEncodesRow.holds Tryd.pinned (OpenSpec.ofChange controlEncodesWrong)

/-- 'tannoylaw24.ControlParts': WHATEVER THE INPUT: true; the input reads as it did. -/
def controlPartsSpec : ChangeSpec := { name := "controlParts", fn := fun _ => fun
  | [d1, d2] => { results := [.lit (.bool true)], args := [d1, d2] }
  | _ => none }
def controlPartsRow : OpenClaim := { program := "ytafchcmemeinlaadoor", sum := "a1e69b0ac49d1aaaa43f9cc74c1ffd666fa9578f93ce6056523fd46401951f6a", func := "tannoy/tannoylaw24.ControlParts", spec := "controlParts", unfollowed := true, recurses := true, named := ["tannoy/control.has", "tannoy/control.wire"], apart := false, laid := [("tannoy/control.has", laid_tannoy_control_has), ("tannoy/control.wire", laid_tannoy_control_wire)] }
def ControlPartsSaid : Prop := controlPartsRow.holds Tryd.pinned (OpenSpec.ofChange controlPartsSpec)

/-- ITS FALSE NEIGHBOUR: 'it returns false'. Refute it at one input. -/
def controlPartsWrong : ChangeSpec := { name := "controlParts", fn := fun _ => fun
  | [d1, d2] => { results := [.lit (.bool false)], args := [d1, d2] }
  | _ => none }
def ControlPartsWrongFalsely : Prop := controlPartsRow.holds Tryd.pinned (OpenSpec.ofChange controlPartsWrong)

/- THE SECOND FORM. 'bulk': how many values and letters a reading holds, each counted each time it is reached (what is shared counts as often as it is met; a slice's spare places count too). A statement '..UptoSaid' is the law's where the arguments, and the package variables that the reading takes, are together of bulk at most 1048576: NARROWER than '..Said'. Prove '..Said' where nothing that the law and all that it calls make is longer than what came in: it says more and counts as full. Else prove '..UptoSaid'. A law counts once. -/
mutual
def uptoBulk {H : Type} : DataW H → Nat
  | .lit (.string bytes) => bytes.length + 1
  | .lit _ => 1
  | .nil => 1
  | .ptr d => uptoBulk d + 1
  | .slice elems spare => uptoBulkAll elems + uptoBulkAll spare + 1
  | .agg parts => uptoBulkAll parts + 1
  | .iface _ d => uptoBulk d + 1
  | .map entries => uptoBulkEntries entries + 1
  | .held _ => 1
def uptoBulkAll {H : Type} : List (DataW H) → Nat
  | [] => 0
  | d :: r => uptoBulk d + uptoBulkAll r
def uptoBulkEntries {H : Type} : List (Lit × DataW H) → Nat
  | [] => 0
  | x :: r => uptoBulkEntry x + uptoBulkEntries r
def uptoBulkEntry {H : Type} : Lit × DataW H → Nat
  | (.string bytes, d) => bytes.length + uptoBulk d + 1
  | (_, d) => uptoBulk d + 1
 end
def uptoSmall : (H : Type) → List (DataW H) → Bool := fun _ ds => decide (uptoBulkAll ds ≤ 1048576)
def OpenSpec.upto (s : _root_.Go.ChangeSpec) : _root_.Go.OpenSpec := { _root_.Go.OpenSpec.ofChange s with cond := some uptoSmall }

/-- 'tannoylaw24.ControlDecodes', WHERE WHAT IT READS IS OF BULK AT MOST 1048576: true; the input reads as it did. -/
def controlDecodesUptoRow : OpenClaim := { program := "ytafchcmemeinlaadoor", sum := "a1e69b0ac49d1aaaa43f9cc74c1ffd666fa9578f93ce6056523fd46401951f6a", func := "tannoy/tannoylaw24.ControlDecodes", spec := "controlDecodes", unfollowed := true, recurses := true, named := ["tannoy/control.has", "tannoy/control.wire"], apart := false, laid := [("tannoy/control.has", laid_tannoy_control_has), ("tannoy/control.wire", laid_tannoy_control_wire)], narrowed := true }
def ControlDecodesUptoSaid : Prop := controlDecodesUptoRow.holds Tryd.pinned (OpenSpec.upto controlDecodesSpec)

/-- 'tannoylaw24.ControlPairs', WHERE WHAT IT READS IS OF BULK AT MOST 1048576: true; the input reads as it did. -/
def controlPairsUptoRow : OpenClaim := { program := "ytafchcmemeinlaadoor", sum := "a1e69b0ac49d1aaaa43f9cc74c1ffd666fa9578f93ce6056523fd46401951f6a", func := "tannoy/tannoylaw24.ControlPairs", spec := "controlPairs", unfollowed := true, recurses := true, named := ["tannoy/control.has", "tannoy/control.wire"], apart := false, laid := [("tannoy/control.has", laid_tannoy_control_has), ("tannoy/control.wire", laid_tannoy_control_wire)], narrowed := true }
def ControlPairsUptoSaid : Prop := controlPairsUptoRow.holds Tryd.pinned (OpenSpec.upto controlPairsSpec)

/-- 'tannoylaw24.ControlBack', WHERE WHAT IT READS IS OF BULK AT MOST 1048576: true; the input reads as it did. -/
def controlBackUptoRow : OpenClaim := { program := "ytafchcmemeinlaadoor", sum := "a1e69b0ac49d1aaaa43f9cc74c1ffd666fa9578f93ce6056523fd46401951f6a", func := "tannoy/tannoylaw24.ControlBack", spec := "controlBack", unfollowed := true, recurses := true, named := ["tannoy/control.has", "tannoy/control.wire"], apart := false, laid := [("tannoy/control.has", laid_tannoy_control_has), ("tannoy/control.wire", laid_tannoy_control_wire)], narrowed := true }
def ControlBackUptoSaid : Prop := controlBackUptoRow.holds Tryd.pinned (OpenSpec.upto controlBackSpec)

/-- 'tannoylaw24.ControlAll', WHERE WHAT IT READS IS OF BULK AT MOST 1048576: true; the input reads as it did. -/
def controlAllUptoRow : OpenClaim := { program := "ytafchcmemeinlaadoor", sum := "a1e69b0ac49d1aaaa43f9cc74c1ffd666fa9578f93ce6056523fd46401951f6a", func := "tannoy/tannoylaw24.ControlAll", spec := "controlAll", unfollowed := true, recurses := true, named := ["tannoy/control.has", "tannoy/control.wire"], apart := false, laid := [("tannoy/control.has", laid_tannoy_control_has), ("tannoy/control.wire", laid_tannoy_control_wire)], narrowed := true }
def ControlAllUptoSaid : Prop := controlAllUptoRow.holds Tryd.pinned (OpenSpec.upto controlAllSpec)

/-- 'tannoylaw24.ControlLess', WHERE WHAT IT READS IS OF BULK AT MOST 1048576: true; the input reads as it did. -/
def controlLessUptoRow : OpenClaim := { program := "ytafchcmemeinlaadoor", sum := "a1e69b0ac49d1aaaa43f9cc74c1ffd666fa9578f93ce6056523fd46401951f6a", func := "tannoy/tannoylaw24.ControlLess", spec := "controlLess", unfollowed := true, recurses := true, named := ["tannoy/control.has", "tannoy/control.wire"], apart := false, laid := [("tannoy/control.has", laid_tannoy_control_has), ("tannoy/control.wire", laid_tannoy_control_wire)], narrowed := true }
def ControlLessUptoSaid : Prop := controlLessUptoRow.holds Tryd.pinned (OpenSpec.upto controlLessSpec)

/-- 'tannoylaw24.ControlKnown', WHERE WHAT IT READS IS OF BULK AT MOST 1048576: true; the input reads as it did. -/
def controlKnownUptoRow : OpenClaim := { program := "ytafchcmemeinlaadoor", sum := "a1e69b0ac49d1aaaa43f9cc74c1ffd666fa9578f93ce6056523fd46401951f6a", func := "tannoy/tannoylaw24.ControlKnown", spec := "controlKnown", unfollowed := true, recurses := true, named := ["tannoy/control.has", "tannoy/control.wire"], apart := false, laid := [("tannoy/control.has", laid_tannoy_control_has), ("tannoy/control.wire", laid_tannoy_control_wire)], narrowed := true }
def ControlKnownUptoSaid : Prop := controlKnownUptoRow.holds Tryd.pinned (OpenSpec.upto controlKnownSpec)

/-- 'tannoylaw24.ControlEncodes', WHERE WHAT IT READS IS OF BULK AT MOST 1048576: true; the input reads as it did. -/
def controlEncodesUptoRow : OpenClaim := { program := "ytafchcmemeinlaadoor", sum := "a1e69b0ac49d1aaaa43f9cc74c1ffd666fa9578f93ce6056523fd46401951f6a", func := "tannoy/tannoylaw24.ControlEncodes", spec := "controlEncodes", unfollowed := true, recurses := true, named := ["tannoy/control.has", "tannoy/control.wire"], apart := false, laid := [("tannoy/control.has", laid_tannoy_control_has), ("tannoy/control.wire", laid_tannoy_control_wire)], narrowed := true }
def ControlEncodesUptoSaid : Prop := controlEncodesUptoRow.holds Tryd.pinned (OpenSpec.upto controlEncodesSpec)

/-- 'tannoylaw24.ControlParts', WHERE WHAT IT READS IS OF BULK AT MOST 1048576: true; the input reads as it did. -/
def controlPartsUptoRow : OpenClaim := { program := "ytafchcmemeinlaadoor", sum := "a1e69b0ac49d1aaaa43f9cc74c1ffd666fa9578f93ce6056523fd46401951f6a", func := "tannoy/tannoylaw24.ControlParts", spec := "controlParts", unfollowed := true, recurses := true, named := ["tannoy/control.has", "tannoy/control.wire"], apart := false, laid := [("tannoy/control.has", laid_tannoy_control_has), ("tannoy/control.wire", laid_tannoy_control_wire)], narrowed := true }
def ControlPartsUptoSaid : Prop := controlPartsUptoRow.holds Tryd.pinned (OpenSpec.upto controlPartsSpec)

end Rows
end Go.Proofs.YtafchcmemeinlaaDoor
