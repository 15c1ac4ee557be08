/-
  Chapter 4: the run of tag is proved.
-/
import Derived.Test.YtiholnebhmjbjaaM17SI
set_option linter.unusedSimpArgs false
set_option linter.unusedVariables false
namespace Go.Proofs.Ytiholnebhmjbjaa
open Go.RowKit
set_option maxRecDepth 1000000

end Go.Proofs.Ytiholnebhmjbjaa
