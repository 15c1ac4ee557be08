/-
  Chapter 25: opening with what is expected: contract.
-/
import Derived.Test.YtnhechnaemmdiaaGreatDoorK25TE
import Derived.Test.YtnhechnaemmdiaaGreatDoorK25TP
set_option linter.unusedSimpArgs false
set_option linter.unusedVariables false
set_option linter.unusedSectionVars false
namespace Go.Proofs.YtnhechnaemmdiaaGreatDoor
open Go.RowKit
set_option maxRecDepth 1000000

def aAn (w:List Tr) (z:Int):Prop:=(w=[]∧z≤65535)∨(0≤eF w∧eF w-z≤63∧z-eF w≤63)
theorem vI {w:List Tr} {z:Int} (h:aAn w z) (h0:0≤z):z=dB (eF w) (z%65536)∧eF w-z≤63:=by
 rcases h with ⟨rfl,h⟩ | ⟨h1,h2,h3⟩
 ·refine ⟨?_,by simp[eF];omega⟩
  rw[eF,sJ];omega
 ·have:=vP (t:=eF w) (d:=z-eF w) h1 (by omega) (by omega)
  rw[show eF w+(z-eF w)=z by omega] at this
  exact ⟨this.symm,h2⟩
def aX2 (a b c:List UInt8) (hl:List AV) (hn:Nat) (tl:List AV) (tn:Nat) (s:List UInt8) (hid:List Int) (S:List Int) (w:List Tr) (z:Int) (k:Nat):Prop:=
 (hl=aB hid∧hn=hid.length∧tl=trM w∧tn=w.length∧s=aHb a b c hid z k)∧bO a b c hid=true∧aFy S w∧(0≤z∧z≤200000)∧k<256∧aAn w z
def aNs:Con
 | [.agg [.str a,.str b,.str c,.lst 0 hl hn 1,.lst 0 tl tn 3,.int .i64 0,.int .i64 0,.int .i64 (-1),.int .u64 0],.str s,.agg [.bool wm,.int .i64 wt,.int .i64 wq,.int .i64 wi,.int .i64 ws,.lst _ c5 n5 1,.lst _ c6 n6 2,.int .i64 wp,.str wl]],H,K=>∃ (hid S:List Int) (w:List Tr) (z:Int) (k:Nat),Lf (aX2 a b c hl hn tl tn s hid S w z k) ∧
   ((Lf (z∈S∧c5=[]∧c6=[])∧K (.ret (.tup [.agg [.str [],.str [],.str [],.lst 0 [] 0 1,.lst 0 [] 0 3,.int .i64 0,.int .i64 0,.int .i64 0,.int .u64 0],.int .i64 10])) H) ∨
    (Lf (z∉S∧k%4=0∧[.bool wm,.int .i64 wt,.int .i64 wq,.int .i64 wi,.int .i64 ws,.lst 0 c5 n5 1,.lst 0 c6 n6 2,.int .i64 wp,.str wl]=pkM (z%65536) k)∧∀t:Tr,Lf (t=jH w z)→K (.ret (.tup [shV 0 0 a b c hid [t] 0 0 (-1) 0,.int .i64 0])) H))
 | _,_,_=>False
theorem kC:∀l:List Md.Xt,aL 0 (Md.cellsXM l)=true∧bG (Md.cellsXM l)=true
 | []=>⟨rfl,rfl⟩
 | x::l=>by
  have:=kC l
  exact ⟨by simp[Md.cellsXM,aL,old,this.1],by simp[Md.cellsXM,bG,noY,this.2]⟩
theorem aT5:aF Tryz.prog gl0 32 aNs:=by
 refine aP (enters_of (by kernel_rfl)) aM fun args H Q hc => ?_
 unfold aNs at hc
 split at hc
 ·rename_i a b c hl hn tl tn s wm wt wq wi ws t5 c5 n5 t6 c6 n6 wp wl
  obtain ⟨hid,S,w,z,k,⟨⟨rfl,rfl,rfl,rfl,rfl⟩,h1,h2,⟨h3,h4⟩,h5,h6⟩,hq⟩:=hc
  obtain ⟨n1,n2,n3⟩:=oG h1
  obtain ⟨g1,g2⟩:=vI h6 h3
  obtain ⟨k1,k2,k3⟩:=aCq (b:=b) (c:=c) (hid:=hid) (z:=z) (k:=k) n2 n3 h5
  have hold:=bBy h2 h3 g2
  have hv:=(nJ h2 h1).1
  have run:∃hv hb,nX hv hb a b c (aB hid) hid.length (trM w) w.length (aHb a b c hid z k) wm wt wq wi ws t5 c5 n5 t6 c6 n6 wp wl fun o H' _=>H'=[]∧(∃v,o=.ret v∧old 0 v=true∧noY v=true)∧Q o H:=by
   refine ⟨_,_,(aZn a b c (aB hid) hid.length (trM w) w.length (aHb a b c hid z k) wm wt wq wi ws t5 c5 n5 t6 c6 n6 wp wl _).mpr ?_⟩
   refine ⟨hid,decide (k%2=0),96,z%65536,90*(z%65536),[],bBt b c hid z k,lW k,uY (z%65536) k,w,z,⟨⟨rfl,rfl,rfl,rfl,rfl⟩,⟨aVz h2,hv,k1,k2⟩,g1,h3,by omega⟩, ?_⟩
   rcases hq with ⟨⟨hz,rfl,rfl⟩,hq⟩ | ⟨⟨hz,hk4,hw⟩,hq⟩
   ·exact .inl ⟨⟨hold.2 hz⟩,[],[],⟨⟨rfl,rfl,rfl,rfl,by simp,by simp⟩,rfl,rfl,rfl,rfl,rfl,rfl,rfl,rfl,rfl,rfl,rfl⟩,[],[],0,⟨rfl,rfl,rfl,rfl,rfl,by simp,by simp,rfl,rfl,rfl,rfl,rfl,rfl,rfl,rfl,rfl,rfl,rfl⟩,rfl,⟨_,rfl,rfl,rfl⟩,hq⟩
   ·refine .inr ⟨⟨by cases h:fH (eF w) z (jM w) with
     | false=>rfl
     | true=>exact absurd (hold.1 h) hz⟩, ?_⟩
    rintro ex t ⟨hex,ht⟩
    rw[k3] at hex
    subst hex
    have hm:(iL k).length≤1000000:=by rcases mQ k with h | h | h | h<;>rw[h]<;>simp
    have e4:(1:Int)+((k%4:Nat):Int)=1:=by rw[hk4];rfl
    rw[pkM,e4] at hw
    simp only[bP6,AV.bool.injEq,AV.int.injEq,AV.lst.injEq,AV.str.injEq,bOo,bOp] at hw
    obtain ⟨w1,w2,w3,w4,w5,w6,w7,w8,w9⟩:=hw
    refine ⟨[],iL k,⟨⟨rfl,rfl,rfl,rfl,by simp,hm⟩,w1,w2,w3,w4,w5,w6.1,w6.2, ?_,w7.2,w8,w9⟩,rfl,⟨_,rfl, ?_, ?_⟩,hq t ⟨ht⟩⟩
    ·rw[w7.1];exact qD _
    ·have:=aNm hid
     simp[old,aL,this.1,(jK _).1,trM]
    ·have:=aNm hid
     simp[noY,bG,this.2,(jK _).2,trM]
  obtain ⟨hv,hb',h⟩:=run
  have f1:=aNm hid
  have f2:=jK w
  have f3:(aL 0 c5=true∧bG c5=true)∧aL 0 c6=true∧bG c6=true:=by
   rcases hq with ⟨⟨_,rfl,rfl⟩,_⟩ | ⟨⟨_,_,hw⟩,_⟩
   ·exact ⟨⟨rfl,rfl⟩,rfl,rfl⟩
   ·rw[pkM] at hw
    simp only[bP6,AV.lst.injEq,bOo,bOp] at hw
    obtain ⟨_,_,_,_,_,w6,w7,_⟩:=hw
    rw[w6.1,w7.1,qD]
    exact ⟨⟨rfl,rfl⟩,kC _⟩
  exact ⟨by simp[aL,old,f1.1,f2.1,f3.1.1,f3.2.1],by simp[bG,noY,f1.2,f2.2,f3.1.2,f3.2.2],_,1000,aT aS6 (fun _=>none) hv hb',rfl,h⟩
 ·exact hc.elim
def bF5:Con:=fun args H Q=>aNs (aH4 args) H Q
theorem aZa:aF Tryz.prog gl0 32 bF5:=eD aT5 fun args H Q h=>⟨aH4 args,xI args,h⟩
end Go.Proofs.YtnhechnaemmdiaaGreatDoor
