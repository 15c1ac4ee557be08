/-
  Chapter 25: the window of one source (plain).
-/
import Derived.Test.YtnhechnaemmdiaaGreatDoorK25TB
import Derived.Test.YtnhechnaemmdiaaGreatDoorKnB
import Derived.Test.YtnhechnaemmdiaaGreatDoorKnO
set_option linter.unusedSimpArgs false
set_option linter.unusedVariables false
set_option linter.unusedSectionVars false
namespace Go.Proofs.YtnhechnaemmdiaaGreatDoor
open Go.RowKit
set_option maxRecDepth 1000000

def eF:List Tr→Int
 | [] => -1
 | t::_=>t.2.1
def jM:List Tr→Nat
 | []=>0
 | t::_=>t.2.2
def jH (w:List Tr) (z:Int):Tr:=
 if eF w<z then (1,z,jM w*2^min (z-eF w).toNat 64%18446744073709551616 ||| 1) else (1,eF w,jM w ||| 2^(eF w-z).toNat)
def aFy (S:List Int) (w:List Tr):Prop:=match w with
 | []=>S=[]
 | t::l=>l=[]∧t.1=1∧t.2.1∈S∧(∀x∈S,0≤x∧x≤t.2.1)∧t.2.1≤281474976710655∧t.2.2<18446744073709551616∧∀i:Nat,i<64→(t.2.2.testBit i=true↔t.2.1-i∈S)
theorem bDv {s:Nat} (h:s<18446744073709551616) {i:Nat} (hi:64≤i):s.testBit i=false:=Nat.testBit_lt_two_pow (bPf h (by
 have:=bR9 (n:=2) (by omega) hi
 exact this))
theorem yX {S:List Int} {w:List Tr} {z:Int} (h:aFy S w) (h0:0≤z) (h1:z≤281474976710655) (h2:eF w-z≤63):aFy (z::S) [jH w z]:=by
 unfold jH
 match w,h with
 | [],h=>
  obtain rfl:S=[]:=h
  rw[if_pos (by simp[eF];omega)]
  refine ⟨rfl,rfl,by simp,fun x hx => ?_,h1, ?_,fun i hi => ?_⟩
  ·simp only[bOr,bOx,bP3] at hx
   subst hx
   exact ⟨h0,bRq _⟩
  ·simp[jM]
  ·simp only[jM,bQ3,Nat.zero_mod,Nat.zero_or,bOr,bOx,bP3]
   rw[show (1:Nat)=2^0 from rfl,bSg]
   simp
   omega
 | t::l,h=>
  obtain ⟨rfl,e1,e2,e3,e4,e5,e6⟩:=h
  have et:=e3 _ e2
  by_cases hz:eF [t]<z
  ·rw[if_pos hz]
   simp only[eF,jM] at *
   obtain ⟨k,hk,hk1⟩:∃k:Nat,z-t.2.1=k∧1≤k:=⟨(z-t.2.1).toNat,by omega,by omega⟩
   rw[hk,bOa]
   refine ⟨rfl,rfl,by simp,fun x hx => ?_,h1, ?_,fun i hi => ?_⟩
   ·rcases bOr.1 hx with rfl | hx
    ·exact ⟨h0,bRq _⟩
    ·have:=e3 x hx
     dsimp only
     omega
   ·have hm:t.2.2*2^min k 64%18446744073709551616<2^64:=bRc _ (by omega)
    exact bQa hm (by omega)
   ·have hb:(t.2.2*2^min k 64%18446744073709551616 ||| 1).testBit i=(decide (min k 64≤i)&&t.2.2.testBit (i-min k 64)||decide (i=0)):=by
     rw[bSw,show (18446744073709551616:Nat)=2^64 from rfl,Nat.testBit_mod_two_pow,bSl,Nat.testBit_two_pow_mul,show (1:Nat)=2^0 from rfl,bSg,bO4 hi,bOg]
     congr 1
     exact decide_eq_decide.2 ⟨fun h=>h.symm,fun h=>h.symm⟩
    dsimp only
    rw[hb,bOr]
    simp only[bOf,bN9,bOc]
    constructor
    ·rintro (⟨g1,g2⟩ | g)
     ·have:=(e6 (i-min k 64) (by omega)).1 g2
      have hkk:min k 64=k:=by omega
      rw[hkk] at this g1
      right
      rwa [show z-(i:Int)=t.2.1-((i-k:Nat):Int) by omega]
     ·left;omega
    ·rintro (g | g)
     ·right;omega
     ·have hb2:=e3 _ g
      left
      have hki:k≤i:=by omega
      have hkk:min k 64=k:=by omega
      rw[hkk]
      refine ⟨hki,(e6 (i-k) (by omega)).2 ?_⟩
      rwa [show t.2.1-((i-k:Nat):Int)=z-(i:Int) by omega]
  ·rw[if_neg hz]
   simp only[eF,jM] at *
   obtain ⟨k,hk,hk1⟩:∃k:Nat,t.2.1-z=k∧k≤63:=⟨(t.2.1-z).toNat,by omega,by omega⟩
   rw[hk,bOa]
   refine ⟨rfl,rfl,List.mem_cons_of_mem _ e2,fun x hx => ?_,e4, ?_,fun i hi => ?_⟩
   ·rcases bOr.1 hx with rfl | hx
    ·dsimp only;omega
    ·exact e3 x hx
   ·have hm:(2:Nat)^k<2^64:=Nat.pow_lt_pow_right (by omega) (by omega)
    exact bQa (n:=64) e5 hm
   ·dsimp only
    rw[bSw,bSg,bOr,bOf,e6 i hi,bOc]
    constructor
    ·rintro (g | g)
     ·exact .inr g
     ·left;omega
    ·rintro (g | g)
     ·right;omega
     ·exact .inl g
theorem aEe (s k:Nat):s.testBit k=decide (s/2^k%2=1):=Nat.testBit_eq_decide_div_mod_eq
theorem bBy {S:List Int} {w:List Tr} {z:Int} (h:aFy S w) (h0:0≤z) (h2:eF w-z≤63):fH (eF w) z (jM w)=true↔z∈S:=by
 unfold fH
 rw[bOc]
 match w,h with
 | [],h=>
  obtain rfl:S=[]:=h
  simp[eF]
 | t::l,h=>
  obtain ⟨rfl,e1,e2,e3,e4,e5,e6⟩:=h
  have et:=e3 _ e2
  simp only[eF,jM] at *
  constructor
  ·rintro ⟨g1,g2,g3⟩
   obtain ⟨k,hk,hk1⟩:∃k:Nat,t.2.1-z=k∧k≤63:=⟨(t.2.1-z).toNat,by omega,by omega⟩
   rw[hk,bOa] at g3
   rcases g3 with g3 | g3
   ·omega
   ·have:=(e6 k (by omega)).1 (by rw[aEe];exact bO4 g3)
    rwa [show t.2.1-(k:Int)=z by omega] at this
  ·intro g
   have gb:=e3 _ g
   obtain ⟨k,hk,hk1⟩:∃k:Nat,t.2.1-z=k∧k≤63:=⟨(t.2.1-z).toNat,by omega,by omega⟩
   refine ⟨by omega,by omega,.inr ?_⟩
   rw[hk,bOa]
   have:=(e6 k (by omega)).2 (by rwa [show t.2.1-(k:Int)=z by omega])
   rw[aEe] at this
   exact bQi this
theorem nJ {S:List Int} {w:List Tr} (h:aFy S w) {a b c:List UInt8} {hid:List Int} (hn:bO a b c hid=true):bU a b c hid w 0 0 (-1) 0=true∧bIp w:=by
 match w,h with
 | [],h=>exact ⟨by simp[bU,gU,lJ,qK,hn],fun t ht=>by simp at ht⟩
 | t::l,h=>
  obtain ⟨rfl,e1,e2,e3,e4,e5,e6⟩:=h
  have et:=e3 _ e2
  refine ⟨?_,fun u hu => ?_⟩
  ·have hw:qK 0 281474976710655 t.2.1 t.2.2=true:=by
    have b0:=(e6 0 (by omega)).2 (by simpa using e2)
    rw[aEe,Nat.pow_zero,Nat.div_one,bOc] at b0
    have hi:62<t.2.1∨t.2.2/2^(t.2.1.toNat+1)=0:=by
     by_cases g:62<t.2.1
     ·exact .inl g
     ·right
      refine Nat.eq_of_testBit_eq fun i => ?_
      rw[Nat.testBit_div_two_pow,Nat.zero_testBit]
      by_cases hi:i+(t.2.1.toNat+1)<64
      ·cases hb:t.2.2.testBit (i+(t.2.1.toNat+1)) with
       | false=>rfl
       | true=>
        have:=e3 _ ((e6 _ hi).1 hb)
        omega
      ·exact bDv e5 (by omega)
    rw[qK,bO4 et.1,bO4 e4,if_neg (by omega),b0]
    rcases hi with g | g
    ·simp[g]
    ·simp[g]
   have hl:qK (-1) 2147483647 (-1) 0=true:=rfl
   simp[bU,gU,lJ,aPw,hn,hw,hl,e1,qG]
  ·simp only[bOr,bOx,bP3] at hu
   subst hu
   exact ⟨⟨by omega,by omega⟩,e5⟩
theorem vP {t d:Int} (h0:0≤t) (h1 : -32768≤d∧d<32768) (h2:0≤t+d):dB t ((t+d)%65536)=t+d:=by
 have e:fP ((t+d)%65536) (t%65536)=d:=by
  unfold fP
  split<;>omega
 rw[dB,if_neg (by omega),e,if_neg (by omega)]
end Go.Proofs.YtnhechnaemmdiaaGreatDoor
