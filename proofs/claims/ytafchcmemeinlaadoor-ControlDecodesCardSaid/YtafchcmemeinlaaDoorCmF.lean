/-
  Chapter 24: equal lists (slices.Equal), the reference's Fraction.
-/
import Derived.Test.YtafchcmemeinlaaDoorCmJ
set_option linter.unusedSimpArgs false
set_option linter.unusedVariables false
namespace Go.Proofs.YtafchcmemeinlaaDoor
open Go.RowKit
set_option maxRecDepth 1000000

theorem mH {α:Type} (xs:List α) (d:α) {i:Nat} (h:i<xs.length):xs.take (i+1)=xs.take i++[xs.getD i d]:=by
 rw[List.take_add_one];simp[h]
end Go.Proofs.YtafchcmemeinlaaDoor

set_option linter.unusedSimpArgs false
set_option linter.unusedVariables false
namespace Go.Proofs.YtafchcmemeinlaaDoor
open Go.RowKit
set_option maxRecDepth 1000000

theorem bB9 {m d:Nat} (h:m<2^d):m ||| 2^d=m+2^d:=by
 have:=Nat.two_pow_add_eq_or_of_lt h 1
 rw[Nat.mul_one] at this
 rw[Nat.or_comm,←this,Nat.add_comm]

end Go.Proofs.YtafchcmemeinlaaDoor
