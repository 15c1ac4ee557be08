/-
  Chapter 4: the contract of number; the run of tag.
-/
import Derived.Test.YtiholnebhmjbjaaM17SF
set_option linter.unusedSimpArgs false
set_option linter.unusedVariables false
namespace Go.Proofs.Ytiholnebhmjbjaa
open Go.RowKit
set_option maxRecDepth 1000000

end Go.Proofs.Ytiholnebhmjbjaa
