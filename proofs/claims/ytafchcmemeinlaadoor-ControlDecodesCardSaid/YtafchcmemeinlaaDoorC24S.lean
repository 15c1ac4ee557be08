/-
  Chapter 24: what several runs use: loads of pairs, lists that were lent, octets; arguments of other shapes.
-/
import Derived.Test.YtafchcmemeinlaaDoorCmF
import Derived.WideShapes
set_option linter.unusedSimpArgs false
set_option linter.unusedVariables false
namespace Go.Proofs.YtafchcmemeinlaaDoor
open Go.RowKit
set_option maxRecDepth 1000000

def bLh (ps:List (Int×Int)) (i:Nat):Int:=(ps.getD i (0,0)).1
def bMj (ps:List (Int×Int)) (i:Nat):Int:=(ps.getD i (0,0)).2
theorem nM:∀ (ps:List (Int×Int)) (i:Nat),i<ps.length→(aR ps)[2*i]? = some (.int .i64 (bLh ps i))∧(aR ps)[2*i+1]? = some (.int .i64 (bMj ps i))
 | [],i,h=>by simp at h
 | p::ps,0,_=>⟨rfl,rfl⟩
 | p::ps,i+1,h=>by
  have:=nM ps i (by simpa using h)
  simpa [aR,bLh,bMj,Nat.mul_add] using this
theorem bNj {ps:List (Int×Int)} {i j:Nat} (hi:i<ps.length) (hj:j=2*i) {K:Int→Prop} (hk:K (bLh ps i)):∃n:Int,(aR ps).getD j AV.undef=AV.int .i64 n∧K n:=by
 refine ⟨_, ?_,hk⟩
 rw[hj,List.getD_eq_getElem?_getD,(nM ps i hi).1]
 rfl
end Go.Proofs.YtafchcmemeinlaaDoor
