/-
  Chapter 18: contracts of the reference's Decode and Shown; residual of Valid.
-/
import Derived.Test.YtifjpcdpmimccaaGreatDoorBmI
import Derived.Test.YtifjpcdpmimccaaGreatDoorBmF
set_option linter.unusedSimpArgs false
set_option linter.unusedVariables false
set_option linter.unusedSectionVars false
namespace Go.Proofs.YtifjpcdpmimccaaGreatDoor
open Go.RowKit
set_option maxRecDepth 1000000

end Go.Proofs.YtifjpcdpmimccaaGreatDoor

set_option linter.unusedSimpArgs false
set_option linter.unusedVariables false
set_option linter.unusedSectionVars false
namespace Go.Proofs.YtifjpcdpmimccaaGreatDoor
open Go.RowKit
set_option maxRecDepth 1000000

theorem drop_getD (t : List UInt8) (n j : Nat) : (t.drop n).getD j 0 = t.getD (n + j) 0 := by
  rw [List.getD_eq_getElem?_getD, List.getD_eq_getElem?_getD, List.getElem?_drop]
end Go.Proofs.YtifjpcdpmimccaaGreatDoor
