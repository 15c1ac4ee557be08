/-
  Values are equal to themselves.
-/
import Derived.Test.YtjenieljapmehaaGreatDoorEnH
set_option linter.unusedSimpArgs false
set_option linter.unusedVariables false
namespace Go.Proofs.YtjenieljapmehaaGreatDoor
theorem eqBR:∀s:List UInt8,eqB s s=true
 | []=>rfl
 | x::s=>by simp[eqB,eqBR s]
mutual
theorem eqAV_refl:∀a:AV,eqAV a a=true
 | .undef=>rfl
 | .opq i=>by simp[eqAV]
 | .bool b=>by simp[eqAV]
 | .int k a=>by simp[eqAV]
 | .str a=>by rw[eqAV,eqBR]
 | .nilp=>rfl
 | .ptr a b c=>by simp[eqAV]
 | .gptr a b=>by simp[eqAV]
 | .nils=>rfl
 | .sl a b c d e=>by simp[eqAV]
 | .nilf=>rfl
 | .fn f x y=>by simp[eqAV,eqAVL_refl x,eqAVL_refl y]
 | .yld u=>by simp[eqAV]
 | .nili=>rfl
 | .iface t v=>by simp[eqAV,eqAV_refl v]
 | .agg l=>by rw[eqAV];exact eqAVL_refl l
 | .tup l=>by rw[eqAV];exact eqAVL_refl l
 | .lst t l n z=>by simp[eqAV,eqAVL_refl l]
 | .lptr t l o=>by simp[eqAV,eqAVL_refl l]
 | .mpn=>rfl
 | .mp i=>by simp[eqAV]
theorem eqAVL_refl:∀l:List AV,eqAVL l l=true
 | []=>rfl
 | a::l=>by rw[eqAVL,eqAV_refl a,eqAVL_refl l];rfl
end
theorem ckF {l:List AV} {A:Prop} (k:A):bif eqAVL l l&&true then A else False:=by rw[eqAVL_refl];exact k
end Go.Proofs.YtjenieljapmehaaGreatDoor
