/-
  Chapter 23: the walk of MediaKnown.
-/
import Derived.Test.YtbchmkhliehbfaaDoorM23V
import Derived.Test.YtbchmkhliehbfaaDoorM23C
set_option linter.unusedSimpArgs false
set_option linter.unusedVariables false
namespace Go.Proofs.YtbchmkhliehbfaaDoor
open Go.RowKit

theorem mediaKnown_walk (w : World) (hL : laidMetH Tryd.prog L23 w) : Calls Tryd.prog 9 #[] w fun e w' => e = .returned (.bool true) ∧ Below w.heap.size w w' := walk_q envForK 1000000 9 rfl known_run w
end Go.Proofs.YtbchmkhliehbfaaDoor
