/-
  Chapter 24: the functions that the chapter's examples reach, compiled and written out (by program).
-/
import Derived.Test.YtafchcmemeinlaaDoorEnH
import Derived.Test.YtafchcmemeinlaaDoorProg
import Derived.KernelRfl
set_option linter.unusedSimpArgs false
set_option linter.unusedVariables false
namespace Go.Proofs.YtafchcmemeinlaaDoor
open Go.RowKit
set_option maxRecDepth 1000000
theorem bCe:∀f g,aU9 Tryd.prog f=some g→aU9 Tryd.prog f=some g:=fun _ _ h=>h
end Go.Proofs.YtafchcmemeinlaaDoor
