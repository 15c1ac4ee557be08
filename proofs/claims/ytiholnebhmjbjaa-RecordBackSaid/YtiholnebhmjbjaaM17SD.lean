/-
  Chapter 3: first; the run of Apply.
-/
import Derived.Test.YtiholnebhmjbjaaM17SC
set_option linter.unusedSimpArgs false
set_option linter.unusedVariables false
namespace Go.Proofs.Ytiholnebhmjbjaa
open Go.RowKit
set_option maxRecDepth 1000000

end Go.Proofs.Ytiholnebhmjbjaa
