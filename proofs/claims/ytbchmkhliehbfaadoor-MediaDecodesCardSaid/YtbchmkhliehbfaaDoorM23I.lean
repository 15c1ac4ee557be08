/-
  Chapter 23: Encode, Header.
-/
import Derived.Test.YtbchmkhliehbfaaDoorM23H
set_option linter.unusedSimpArgs false
set_option linter.unusedVariables false
namespace Go.Proofs.YtbchmkhliehbfaaDoor
open Go.RowKit
set_option maxRecDepth 1000000

def padM (pad : Int) : List UInt8 := if 0 < pad then List.replicate (pad - 1).toNat 0 ++ putM 1 [pad] else []
def encM (mk : Bool) (ty seq ti ss : Int) (cs : List Int) (ex : List Xt) (pad : Int) (pl : List UInt8) : List UInt8 := headM mk ty seq ti ss cs ex pad ++ pl ++ padM pad
end Go.Proofs.YtbchmkhliehbfaaDoor
