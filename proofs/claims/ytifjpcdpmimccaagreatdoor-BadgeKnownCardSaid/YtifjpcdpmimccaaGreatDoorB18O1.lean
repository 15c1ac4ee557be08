/-
  Chapter 18: what the cells of the arguments look like.
-/
import Derived.Test.YtifjpcdpmimccaaGreatDoorBmK
import Derived.ProofKit
set_option linter.unusedSimpArgs false
set_option linter.unusedVariables false
namespace Go.Proofs.YtifjpcdpmimccaaGreatDoor
open Go.RowKit
set_option maxRecDepth 1000000

theorem glob0 (w : World) : Glob gl0 w := fun g cs h => by cases h
end Go.Proofs.YtifjpcdpmimccaaGreatDoor
