/-
  Chapter 3: the block of a counter.
-/
import Derived.Test.YtiholnebhmjbjaaM17SA
set_option linter.unusedSimpArgs false
set_option linter.unusedVariables false
namespace Go.Proofs.Ytiholnebhmjbjaa
open Go.RowKit
set_option maxRecDepth 1000000

structure W16 where
 (x0 x1 x2 x3 x4 x5 x6 x7 x8 x9 x10 x11 x12 x13 x14 x15:Nat)
def W16.cells (w:W16):List AV:=[.int .u32 w.x0,.int .u32 w.x1,.int .u32 w.x2,.int .u32 w.x3,.int .u32 w.x4,.int .u32 w.x5,.int .u32 w.x6,.int .u32 w.x7,.int .u32 w.x8,.int .u32 w.x9,.int .u32 w.x10,.int .u32 w.x11,.int .u32 w.x12,.int .u32 w.x13,.int .u32 w.x14,.int .u32 w.x15]
end Go.Proofs.Ytiholnebhmjbjaa
