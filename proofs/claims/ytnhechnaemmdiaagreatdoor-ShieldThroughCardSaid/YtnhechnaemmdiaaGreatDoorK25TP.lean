/-
  Chapter 25: packets of source 1, protected (plain).
-/
import Derived.Test.YtnhechnaemmdiaaGreatDoorK25TC
import Derived.Test.YtnhechnaemmdiaaGreatDoorKnO
import Derived.Test.YtnhechnaemmdiaaGreatDoorKnT
set_option linter.unusedSimpArgs false
set_option linter.unusedVariables false
set_option linter.unusedSectionVars false
namespace Go.Proofs.YtnhechnaemmdiaaGreatDoor
open Go.RowKit
set_option maxRecDepth 1000000

theorem qD:∀l:List Md.Xt,xtM l=Md.cellsXM l
 | []=>rfl
 | x::l=>by rw[xtM,Md.cellsXM,qD l]
def iL (k:Nat):List Md.Xt:=aC4 k++wO k
def bBt (b c:List UInt8) (hid:List Int) (z:Int) (k:Nat):List Md.Xt:=cZ hid c b 1 z (iL k)
def aHb (a b c:List UInt8) (hid:List Int) (z:Int) (k:Nat):List UInt8:=
 uG (decide (k%2=0)) 96 (z%65536) (90*(z%65536)) 1 [] (bBt b c hid z k) (lW k) (uY (z%65536) k) a b z
theorem mQ (k:Nat):iL k=[]∨iL k=[(1,[111,110,101]),(2,[UInt8.ofNat k])]∨iL k=[(3,[]),(200,[108,111,110,103])]∨iL k=[(1,[111,110,101]),(2,[UInt8.ofNat k]),(3,[]),(200,[108,111,110,103])]:=by
 unfold iL aC4 wO
 split<;>split<;>simp
theorem bGs {k:Nat} (h:k<256):0≤lW k∧lW k≤4:=by
 unfold lW
 split<;>omega
theorem aG7 {q:Int} {k:Nat} (hq:0≤q∧q≤65535) (hk:k<256):Md.rightM 96 q (90*q) 1 [] (iL k) (lW k)=true∧(Md.encM (decide (k%2=0)) 96 q (90*q) 1 [] (iL k) (lW k) (uY q k)).length≤1184:=by
 have hp:=bGs hk
 have hx:=mQ k
 have hxl:(iL k).length≤4∧(∀x∈iL k,x.2.length≤255)∧Md.extsOkM 0 (iL k)=true:=by
  rcases hx with h | h | h | h<;>rw[h]
  ·exact ⟨by simp,fun x hx=>by simp at hx,rfl⟩
  ·refine ⟨by simp,fun x hx => ?_,by simp[Md.extsOkM]⟩
   simp only[bOr,bOx,bP3] at hx
   rcases hx with rfl | rfl<;>simp
  ·refine ⟨by simp,fun x hx => ?_,by simp[Md.extsOkM]⟩
   simp only[bOr,bOx,bP3] at hx
   rcases hx with rfl | rfl<;>simp
  ·refine ⟨by simp,fun x hx => ?_,by simp[Md.extsOkM]⟩
   simp only[bOr,bOx,bP3] at hx
   rcases hx with rfl | rfl | rfl | rfl<;>simp
 obtain ⟨x1,x2,x3⟩:=hxl
 constructor
 ·rw[Md.rightM,Md.flagsM,x3]
  simp
  omega
 ·have hb:=Md.extB_len (Md.shortM (iL k)) (iL k) x2
  have hpl:(Md.extPM (iL k)).length≤1032:=by
   rw[Md.extPM,bN8,Md.zerosM,bOn]
   omega
  have hpd:(Md.padM (lW k)).length≤4:=by
   unfold Md.padM
   split
   ·rw[bN8,bOn,Md.put_len];simp;omega
   ·simp
  rw[Md.encM,bN8,bN8,cB,bOb,aEh,wZ]
  split<;>simp[uY]<;>omega
theorem aCq {b c:List UInt8} {hid:List Int} {z:Int} {k:Nat} (n2:b.length=12) (n3:c.length=32) (hk:k<256) :
  Md.rightM 96 (z%65536) (90*(z%65536)) 1 [] (bBt b c hid z k) (lW k)=true∧(Md.encM (decide (k%2=0)) 96 (z%65536) (90*(z%65536)) 1 [] (bBt b c hid z k) (lW k) (uY (z%65536) k)).length≤1184∧cZ hid c b 1 z (bBt b c hid z k)=iL k:=by
 obtain ⟨h1,h2⟩:=aG7 (q:=z%65536) (k:=k) (by omega) hk
 have hL:(Md.headM (decide (k%2=0)) 96 (z%65536) (90*(z%65536)) 1 [] (iL k) (lW k)).length≤(Md.encM (decide (k%2=0)) 96 (z%65536) (90*(z%65536)) 1 [] (iL k) (lW k) (uY (z%65536) k)).length:=by
  rw[Md.encM];simp only[bN8];omega
 have hcat:=rQ hid (decide (k%2=0)) 96 (z%65536) (90*(z%65536)) 1 [] (iL k) (lW k)
 have hshp:=qP (hid:=hid) (mk:=c) (sa:=b) (ss:=1) (ix:=z) (ex:=iL k) n3 n2 (by omega)
 obtain ⟨s1,s2,s3,_⟩:=qI (mk:=decide (k%2=0)) (ty:=96) (sq:=z%65536) (ti:=90*(z%65536)) (ss:=1) (cs:=[]) (lW k) hshp
 refine ⟨s2.trans h1, ?_,aJv n3 n2 (by omega)⟩
 rw[Md.encM] at h2 ⊢
 simp only[bN8] at h2 ⊢
 rw[show bBt b c hid z k=cZ hid c b 1 z (iL k) from rfl,s1]
 exact h2
theorem aVz {S:List Int} {w:List Tr} (h:aFy S w):bAh w:=by
 match w,h with
 | [],_=>exact .inl rfl
 | t::l,h=>
  obtain ⟨rfl,e1,e2,e3,e4,e5,_⟩:=h
  have et:=e3 _ e2
  obtain ⟨t1,t2,t3⟩:=t
  dsimp only at *
  subst e1
  exact .inr ⟨t2,t3,rfl,⟨et.1,e4⟩,e5⟩
end Go.Proofs.YtnhechnaemmdiaaGreatDoor
