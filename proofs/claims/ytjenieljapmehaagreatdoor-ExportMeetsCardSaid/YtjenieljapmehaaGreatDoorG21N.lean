/-
  Chapter 21: Trim, proved.
-/
import Derived.Test.YtjenieljapmehaaGreatDoorG21I
set_option linter.unusedSimpArgs false
set_option linter.unusedVariables false
set_option linter.unusedSectionVars false
namespace Go.Proofs.YtjenieljapmehaaGreatDoor
open Go.RowKit
set_option maxRecDepth 1000000

def trimM (s:List UInt8):List UInt8:=(rightT s).dropWhile isDot
theorem setZ_C:setZ setCM=setCM:=by kernel_rfl
theorem setC_len:setCM.length=256:=by kernel_rfl
theorem setC_old:((oldL 0 setCM||oldL 1 setCM)&&true)=true:=by kernel_rfl
theorem ldC {n m:Nat} (hn:n<256) (hm:m=n) {K:Bool→Prop} (hk:K (dotM n)):∃b,(List.take 1 (List.drop m setCM)).getD 0 AV.undef=AV.bool b∧K b:=by
 subst hm
 refine ⟨_, ?_,hk⟩
 rw[List.getD_eq_getElem?_getD,List.getElem?_take,if_pos (by omega),List.getElem?_drop,setCM,List.getElem?_map,Nat.add_zero,List.getElem?_range hn]
 rfl
theorem last_split {x:List UInt8} (h:0<x.length):x=x.take (x.length-1)++[x.getD (x.length-1) 0]:=by
 have e:x.take (x.length-1+1)=x:=List.take_of_length_le (by omega)
 rw[List.take_add_one,List.getElem?_eq_getElem (by omega)] at e
 rw[List.getD_eq_getElem?_getD,List.getElem?_eq_getElem (by omega)]
 exact e.symm
theorem rightT_yes {y:List UInt8} {c:UInt8} (h:isDot c=true):rightT (y++[c])=rightT y:=by
 simp[rightT,List.reverse_append,List.dropWhile_cons,h]
theorem rightT_no {y:List UInt8} {c:UInt8} (h:isDot c=false):rightT (y++[c])=y++[c]:=by
 simp[rightT,List.reverse_append,List.dropWhile_cons,h]
theorem trim_run (s:List UInt8) (hs:s.length≤9223372036854775807) (Q:Out→List Blk→Gh→Prop) (hq:Q (.ret (.str (trimM s))) [] {}):∃hv hb,goal_76 hv hb s Q:=by
 obtain ⟨hv',hb',e'⟩:∃hv hb,goal_76 hv hb s Q=_:=⟨_,_,vc_76 s Q⟩
 refine ⟨hv',hb',e'.mpr ?_⟩
 clear e'
 cases he:eqB s [] with
 | true=>
  rw[eqB_iff,beq_iff_eq] at he
  subst he
  exact hq
 | false=>
 refine ⟨⟨rfl⟩, ?_⟩
 rintro cs ⟨rfl⟩
 rw[setZ_C]
 have hB:(oldL 0 setCM==oldL 0 setCM)=true:=by simp
 refine ckI (by kernel_rfl) ⟨⟨s,⟨Nat.le_refl _,rfl⟩,ckI hB ⟨rfl,rfl,rfl,trivial⟩⟩, ?_⟩
 -- what is behind the first loop
 have left:∀x:List UInt8,x.length≤s.length→x=rightT s→∀z:List UInt8,z.length≤x.length→List.dropWhile isDot z=List.dropWhile isDot x→(∀c,z.head? = some c→isDot c=false)→z=trimM s:=fun x _ hx z _ hz hh=>by
  rw[trimM,←hx,←hz]
  cases z with
  | nil=>rfl
  | cons c z=>rw[List.dropWhile_cons,hh c rfl];rfl
 have body:∀x:List UInt8,x.length≤s.length→x=rightT s→(∃x_7:List UInt8,Lf (x_7.length≤x.length∧List.dropWhile isDot x_7=List.dropWhile isDot x)∧ckQ (oldL 0 setCM==oldL 0 setCM) (eqqQ setCM∧AV.str x=AV.str x_7∧eqqQ (AV.ptr 0 256 0)∧True))∧∀x_7:List UInt8,Lf (x_7.length≤x.length∧List.dropWhile isDot x_7=List.dropWhile isDot x)→exI .i64 (x_7.length:Int) fun n_8=>bif decide (n_8>0) then ckQ (Nat.blt 0 x_7.length) (exI .u8 (UInt8.toNat (x_7.getD 0 (UInt8.ofNat 0)):Int) fun n_9=>ckQ (Nat.beq setCM.length 256) (ckQ (decide (0≤n_9)&&Nat.blt n_9.toNat 256&&Nat.beq setCM.length 256) (ckQ (Nat.beq setCM.length 256&&Nat.blt (0+n_9.toNat*1) 256) (exB (((setCM.drop (0+n_9.toNat*1)).take 1).getD 0 AV.undef) fun b_10=>bif b_10 then ((oldL 0 setCM||oldL 1 setCM)&&Bool.true)=Bool.true∧ckQ (Nat.ble 1 x_7.length&&Nat.ble x_7.length x_7.length) (exS (.str ((x_7.drop 1).take (x_7.length-1))) fun s_11=>((oldL 0 setCM||oldL 1 setCM)&&Bool.true)=Bool.true∧(True∧(0:Nat)=(0:Nat))∧∃y_12:List UInt8,Lf (y_12.length≤x.length∧List.dropWhile isDot y_12=List.dropWhile isDot x)∧y_12.length<x_7.length∧ckQ (oldL 0 setCM==oldL 0 setCM) (eqqQ setCM∧AV.str s_11=AV.str y_12∧eqqQ (AV.ptr 0 256 0)∧True)) else ((oldL 0 setCM||oldL 1 setCM)&&Bool.true)=Bool.true∧((oldL 0 setCM||oldL 1 setCM)&&Bool.true)=Bool.true∧Q (.ret (.str x_7)) [] {})))) else ((oldL 0 setCM||oldL 1 setCM)&&Bool.true)=Bool.true∧Q (.ret (.str x_7)) [] {}:=by
  intro x hx1 hx2
  refine ⟨⟨x,⟨Nat.le_refl _,rfl⟩,ckI hB ⟨rfl,rfl,rfl,trivial⟩⟩, ?_⟩
  rintro z ⟨hz1,hz2⟩
  refine ⟨_,rfl,splitD (fun h => ?_) (fun h=>⟨setC_old, ?_⟩)⟩
  ·cases z with
   | nil=>simp at h
   | cons c z=>
    have hc:=c.toNat_lt
    refine ckI (by simp) ⟨_,rfl,ckI (by rw[setC_len];rfl) (ckI (by rw[setC_len];simp;omega) (ckI (by rw[setC_len];simp;omega) (ldC (n:=c.toNat) (by omega) (by simp) ?_)))⟩
    cases hd:dotM c.toNat with
    | true=>
     refine ⟨setC_old,ckI (by simp) ⟨z,by simp,setC_old,⟨trivial,rfl⟩,z,⟨by simp at hz1;omega, ?_⟩,by simp,ckI hB ⟨rfl,rfl,rfl,trivial⟩⟩⟩
     rw[←hz2,List.dropWhile_cons,show isDot c=true from hd]
     rfl
    | false=>
     refine ⟨setC_old,setC_old, ?_⟩
     rw[left x hx1 hx2 (c::z) hz1 hz2 (fun c' h'=>by cases h';exact hd)]
     exact hq
  ·rw[left x hx1 hx2 z hz1 hz2 (fun c' h'=>by cases z with | nil=>cases h' | cons a b=>simp at h)]
   exact hq
 rintro x ⟨hx1,hx2⟩
 refine ⟨_,rfl,splitD (fun h => ?_) (fun h=>⟨setC_old, ?_⟩)⟩
 ·have hpos:0<x.length:=by omega
  have hsp:=last_split hpos
  have hc:=(x.getD (x.length-1) 0).toNat_lt
  have hc2:(x[x.length-1]?.getD 0).toNat<256:=by rw[←List.getD_eq_getElem?_getD];exact hc
  have e1:((x.length:Int)-1).toNat=x.length-1:=by omega
  refine ⟨_,rfl,wrapI (by omega) (by omega) (ckI (by simp;omega) ⟨_,rfl,ckI (by rw[setC_len];rfl) (ckI (by rw[setC_len,e1];simp;omega) (ckI (by rw[setC_len,e1];simp;omega) (ldC (n:=(x.getD (x.length-1) 0).toNat) (by omega) (by rw[e1];simp) ?_)))⟩)⟩
  cases hd:dotM (x.getD (x.length-1) 0).toNat with
  | true=>
   refine ⟨setC_old,_,rfl,wrapI (by omega) (by omega) (ckI (by simp;omega) ⟨x.take (x.length-1),by rw[e1];simp,setC_old,⟨trivial,rfl⟩,x.take (x.length-1),⟨by rw[List.length_take];omega, ?_⟩,by rw[List.length_take];omega,ckI hB ⟨rfl,rfl,rfl,trivial⟩⟩)⟩
   rw[←hx2]
   conv=>rhs;rw[hsp]
   exact (rightT_yes hd).symm
  | false=>
   refine ⟨setC_old,setC_old,body x hx1 ?_⟩
   rw[←hx2]
   conv=>rhs;rw[hsp]
   rw[rightT_no hd]
   exact hsp
 ·refine body x hx1 ?_
  have:x=[]:=List.length_eq_zero_iff.1 (by omega)
  rw[←hx2,this]
  rfl
def cTrim:Con
 | [.str s,.str c],H,K=>Lf (c=cutB∧s.length≤9223372036854775807)∧∀x,Lf (x=trimM s)→K (.ret (.str x)) H
 | _,_,_=>False
theorem trim18_ok:ValidF Tryz.prog gl0 25 cTrim:=by
 refine valid_flat (enters_of (by kernel_rfl)) gl0_noY fun args H Q hc => ?_
 unfold cTrim at hc
 split at hc
 ·rename_i s c
  obtain ⟨⟨rfl,h1⟩,hq⟩:=hc
  obtain ⟨hv,hb',h⟩:=trim_run s h1 (Q:=fun o H' _=>H'=[]∧(∃v,o=.ret v∧old 0 v=true∧noY v=true)∧Q o H) ⟨rfl,⟨_,rfl,rfl,rfl⟩,hq _ ⟨rfl⟩⟩
  exact ⟨rfl,rfl,_,1000,envFor18 smT_ok _ hv hb',rfl,h⟩
 ·exact hc.elim
end Go.Proofs.YtjenieljapmehaaGreatDoor
