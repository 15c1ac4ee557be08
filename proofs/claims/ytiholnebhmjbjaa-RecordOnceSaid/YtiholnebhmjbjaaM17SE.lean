/-
  Chapter 3: the run of Apply.
-/
import Derived.Test.YtiholnebhmjbjaaM17SB
set_option linter.unusedSimpArgs false
set_option linter.unusedVariables false
namespace Go.Proofs.Ytiholnebhmjbjaa
open Go.RowKit
set_option maxRecDepth 1000000

theorem ofB_len (l:List UInt8):(ofBytes l).length=l.length:=by simp[ofBytes]
theorem oldL_ofB (l:List UInt8):oldL 0 (ofBytes l)=true:=by
 induction l with
 | nil=>rfl
 | cons x l ih=>simpa [ofBytes,oldL,old] using ih
theorem ldB {L:List UInt8} {j m:Nat} (hj:j<L.length) (hm:m=j) {K:Int→Prop} (hk:K ((L.getD j 0).toNat:Int)):∃n:Int,(List.take 1 (List.drop m (ofBytes L))).getD 0 AV.undef=AV.int .u8 n∧K n:=by
 subst hm
 refine ⟨_, ?_,hk⟩
 rw[List.getD_eq_getElem?_getD,List.getElem?_take,if_pos (by omega),List.getElem?_drop,ofBytes,List.getElem?_map,Nat.add_zero,List.getElem?_eq_getElem hj]
 simp[hj]
end Go.Proofs.Ytiholnebhmjbjaa
