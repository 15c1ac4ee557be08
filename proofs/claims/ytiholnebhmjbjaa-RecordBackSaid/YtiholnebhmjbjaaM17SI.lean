/-
  Chapter 4: a number less the prime; its octets.
-/
import Derived.Test.YtiholnebhmjbjaaM17SH
set_option linter.unusedSimpArgs false
set_option linter.unusedVariables false
namespace Go.Proofs.Ytiholnebhmjbjaa
open Go.RowKit
set_option maxRecDepth 1000000

end Go.Proofs.Ytiholnebhmjbjaa
