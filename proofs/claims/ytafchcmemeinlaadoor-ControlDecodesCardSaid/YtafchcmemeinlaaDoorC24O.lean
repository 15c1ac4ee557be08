/-
  Chapter 24: the reference's Pairs (plain part: the first pair, and what is left).
-/
import Derived.Test.YtafchcmemeinlaaDoorC24S
import Derived.Test.YtafchcmemeinlaaDoorCmA
set_option linter.unusedSimpArgs false
set_option linter.unusedVariables false
namespace Go.Proofs.YtafchcmemeinlaaDoor
open Go.RowKit
set_option maxRecDepth 1000000

def lY (b m:Int):List Int→Int
 | []=>m
 | n::l=>if 16<(n-b)%65536 then m else lY b (((m%18446744073709551616).toNat ||| (2^((n-b)%65536-1).toNat):Nat):Int) l
def lJ (b:Int):List Int→List Int
 | []=>[]
 | n::l=>if 16<(n-b)%65536 then n::l else lJ b l
theorem qA (b:Int):∀ (l:List Int) (m:Int),dQ b m l=(b,lY b m l)::aM (lJ b l)
 | [],m=>rfl
 | n::l,m=>by
  rw[dQ,lY,lJ]
  split
  ·rfl
  ·exact qA b l _
theorem wR (x0:Int):∀ (l:List Int) (far b fb:Int),aU x0 far l=true→(b-x0)%65536+fb=far→0≤fb→aU b fb l=true
 | [],_,_,_,_,_,_=>rfl
 | n::l,far,b,fb,h,h1,h2=>by
  rw[aU] at h ⊢
  split at h
  ·cases h
  ·rename_i hc
   have e:(n-b)%65536=(n-x0)%65536-(b-x0)%65536:=by omega
   rw[if_neg (by omega)]
   exact wR x0 l _ b _ h (by omega) (by omega)
end Go.Proofs.YtafchcmemeinlaaDoor
