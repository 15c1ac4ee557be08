/-
  Chapter 23: the extensions that are read.
-/
import Derived.Test.YtnhechnaemmdiaaGreatDoorKnE
set_option linter.unusedSimpArgs false
set_option linter.unusedVariables false
set_option linter.unusedSectionVars false
namespace Go.Proofs.YtnhechnaemmdiaaGreatDoor.Md
open Go.RowKit
set_option maxRecDepth 1000000

def extHM(ex:List Xt):LA:=if ex.length=0 then[]else putMMd 2 [zL (shortM ex),((extPM ex).length/4:Nat)]++extPM ex
end Go.Proofs.YtnhechnaemmdiaaGreatDoor.Md
