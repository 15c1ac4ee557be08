/-
  Chapter 23: what the statements list of package variables; walks of closed runs.
-/
import Derived.Test.YtbchmkhliehbfaaDoorM23A
import Derived.Test.YtbchmkhliehbfaaDoorRows
import Derived.ProofKit
import Derived.LaidMore
import Derived.Lay
import Derived.OpenShut
import Derived.Stop.Joined
set_option linter.unusedSimpArgs false
set_option linter.unusedVariables false
namespace Go.Proofs.YtbchmkhliehbfaaDoor
open Go.ChangeShapes Go.WideShapes Go.ChangeAt Go.RowKit
set_option maxRecDepth 1000000

abbrev L23 : List (String × DataW Unit) := [("unicode/utf8.acceptRanges", Rows.laid_unicode_utf8_acceptRanges), ("unicode/utf8.first", Rows.laid_unicode_utf8_first)]
theorem own23 : ownKnob Tryd.prog.godebug = none := by kernel_rfl
theorem laidOut23 : laidOutB Tryd.prog = true := by kernel_rfl
theorem glob0 (w : World) : Glob gl0 w := fun g cs h => by cases h
end Go.Proofs.YtbchmkhliehbfaaDoor
