/-
  Chapter 24: the other functions, compiled and written out (by program); the table of all.
-/
import Derived.Test.YtafchcmemeinlaaDoorC24T
set_option linter.unusedSimpArgs false
set_option linter.unusedVariables false
namespace Go.Proofs.YtafchcmemeinlaaDoor
open Go.RowKit
set_option maxRecDepth 1000000
theorem eF:∀f g,aU9 Tryd.prog f=some g→aU9 Tryd.prog f=some g:=fun _ _ h=>h
end Go.Proofs.YtafchcmemeinlaaDoor
