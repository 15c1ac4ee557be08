/-
  Chapter 4: products and carries in limbs.
-/
import Derived.Test.YtiholnebhmjbjaaM17SG
set_option linter.unusedSimpArgs false
set_option linter.unusedVariables false
namespace Go.Proofs.Ytiholnebhmjbjaa
open Go.RowKit
set_option maxRecDepth 1000000

end Go.Proofs.Ytiholnebhmjbjaa
