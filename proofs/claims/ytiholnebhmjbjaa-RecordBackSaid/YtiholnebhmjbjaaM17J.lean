/-
  Chapter 17: Decode of the reference, which calls itself.
-/
import Derived.Test.YtiholnebhmjbjaaM17I
set_option linter.unusedSimpArgs false
set_option linter.unusedVariables false
set_option linter.unusedSectionVars false
namespace Go.Proofs.Ytiholnebhmjbjaa
open Go.RowKit
set_option maxRecDepth 1000000

end Go.Proofs.Ytiholnebhmjbjaa
