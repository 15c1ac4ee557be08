/-
  Chapter 17: windows: Fresh and Mark of the reference.
-/
import Derived.Test.YtiholnebhmjbjaaGreatZ17D
set_option linter.unusedSimpArgs false
set_option linter.unusedVariables false
set_option linter.unusedSectionVars false
namespace Go.Proofs.YtiholnebhmjbjaaGreat
open Go.RowKit
set_option maxRecDepth 1000000

end Go.Proofs.YtiholnebhmjbjaaGreat
