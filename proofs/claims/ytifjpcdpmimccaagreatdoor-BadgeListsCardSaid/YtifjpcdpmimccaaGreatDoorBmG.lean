/-
  Chapter 18: the octets and the badge: plain law.
-/
import Derived.Test.YtifjpcdpmimccaaGreatDoorBmE
set_option linter.unusedSimpArgs false
set_option linter.unusedVariables false
set_option linter.unusedSectionVars false
namespace Go.Proofs.YtifjpcdpmimccaaGreatDoor
open Go.RowKit
set_option maxRecDepth 1000000

end Go.Proofs.YtifjpcdpmimccaaGreatDoor

set_option linter.unusedSimpArgs false
set_option linter.unusedVariables false
set_option linter.unusedSectionVars false
namespace Go.Proofs.YtifjpcdpmimccaaGreatDoor
open Go.RowKit
set_option maxRecDepth 1000000

end Go.Proofs.YtifjpcdpmimccaaGreatDoor

set_option linter.unusedSimpArgs false
set_option linter.unusedVariables false
set_option linter.unusedSectionVars false
namespace Go.Proofs.YtifjpcdpmimccaaGreatDoor
open Go.RowKit
set_option maxRecDepth 1000000

end Go.Proofs.YtifjpcdpmimccaaGreatDoor

set_option linter.unusedSimpArgs false
set_option linter.unusedVariables false
set_option linter.unusedSectionVars false
namespace Go.Proofs.YtifjpcdpmimccaaGreatDoor
open Go.RowKit
set_option maxRecDepth 1000000

theorem bF {b : Bool} {A B : Prop} (h : b = false) (ha : B) : bif b then A else B := by
 rw [h]; exact ha
end Go.Proofs.YtifjpcdpmimccaaGreatDoor
