/-
  The functions that the laws reach, compiled and written out (by program).
-/
import Derived.Test.YtnhechnaemmdiaaGreatDoorEnH
import Derived.Test.YtnhechnaemmdiaaGreatDoorProg
import Derived.KernelRfl
set_option linter.unusedSimpArgs false
set_option linter.unusedVariables false
namespace Go.Proofs.YtnhechnaemmdiaaGreatDoor
open Go.RowKit
set_option maxRecDepth 1000000
theorem tabA_ok:∀f g,fnOf Tryz.prog f=some g→fnOf Tryz.prog f=some g:=fun _ _ h=>h
end Go.Proofs.YtnhechnaemmdiaaGreatDoor
