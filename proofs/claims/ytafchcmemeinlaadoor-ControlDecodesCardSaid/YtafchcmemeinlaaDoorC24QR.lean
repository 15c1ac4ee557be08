/-
  Values are equal to themselves.
-/
import Derived.Test.YtafchcmemeinlaaDoorEnH
set_option linter.unusedSimpArgs false
set_option linter.unusedVariables false
namespace Go.Proofs.YtafchcmemeinlaaDoor
theorem bQm:∀s:List UInt8,eqB s s=true
 | []=>rfl
 | x::s=>by simp[eqB,bQm s]
mutual
theorem aE6:∀a:AV,iZ a a=true
 | .undef=>rfl
 | .opq i=>by simp[iZ]
 | .bool b=>by simp[iZ]
 | .int k a=>by simp[iZ]
 | .str a=>by rw[iZ,bQm]
 | .nilp=>rfl
 | .ptr a b c=>by simp[iZ]
 | .gptr a b=>by simp[iZ]
 | .nils=>rfl
 | .sl a b c d e=>by simp[iZ]
 | .nilf=>rfl
 | .fn f x y=>by simp[iZ,eX x,eX y]
 | .yld u=>by simp[iZ]
 | .nili=>rfl
 | .iface t v=>by simp[iZ,aE6 v]
 | .agg l=>by rw[iZ];exact eX l
 | .tup l=>by rw[iZ];exact eX l
 | .lst t l n z=>by simp[iZ,eX l]
 | .lptr t l o=>by simp[iZ,eX l]
 | .mpn=>rfl
 | .mp i=>by simp[iZ]
theorem eX:∀l:List AV,bK l l=true
 | []=>rfl
 | a::l=>by rw[bK,aE6 a,eX l];rfl
end
theorem ckE {l:List AV} {A:Prop} (k:A):bif bK l l then A else False:=by rw[eX];exact k
theorem ckF {l:List AV} {A:Prop} (k:A):bif bK l l&&true then A else False:=by rw[eX];exact k
end Go.Proofs.YtafchcmemeinlaaDoor
