/-
  Chapters 3 and 4: the contract of Apply; numbers in limbs.
-/
import Derived.Test.YtiholnebhmjbjaaM17SE
set_option linter.unusedSimpArgs false
set_option linter.unusedVariables false
namespace Go.Proofs.Ytiholnebhmjbjaa
open Go.RowKit
set_option maxRecDepth 1000000

end Go.Proofs.Ytiholnebhmjbjaa
