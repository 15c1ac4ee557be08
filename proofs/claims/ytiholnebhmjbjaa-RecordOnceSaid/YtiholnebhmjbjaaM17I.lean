/-
  Chapter 17: the reference's Number, Decode, Same; the law's texts, pieces, few.
-/
import Derived.Test.YtiholnebhmjbjaaM17CN
set_option linter.unusedSimpArgs false
set_option linter.unusedVariables false
set_option linter.unusedSectionVars false
namespace Go.Proofs.Ytiholnebhmjbjaa
open Go.RowKit
set_option maxRecDepth 1000000

theorem iminI {x:Int} {a b:Nat} (hx:x=(a:Int)) {K:Int→Prop} (h:K ((min a b:Nat):Int)):∃n:Int,AV.int .i64 (imin x (b:Int))=AV.int .i64 n∧K n:=by
 subst hx
 refine ⟨_, ?_,h⟩
 congr 1
 unfold imin
 split<;>omega
end Go.Proofs.Ytiholnebhmjbjaa
