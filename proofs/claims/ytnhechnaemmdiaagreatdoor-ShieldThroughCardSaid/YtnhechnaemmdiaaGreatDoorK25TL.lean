/-
  Chapter 25: ShieldThrough: the lists of packets and boxes (plain).
-/
import Derived.Test.YtnhechnaemmdiaaGreatDoorK25TK
set_option linter.unusedSimpArgs false
set_option linter.unusedVariables false
set_option linter.unusedSectionVars false
namespace Go.Proofs.YtnhechnaemmdiaaGreatDoor
open Go.RowKit
set_option maxRecDepth 1000000

def aI3 (L:List (Int×Nat)) (k:Nat) (x:Int×Nat):List (Int×Nat):=L.take k++x::L.drop k
theorem mem_insL {L:List (Int×Nat)} {k:Nat} {x y:Int×Nat}:y∈aI3 L k x↔y=x∨y∈L:=by
 have:y∈L↔y∈L.take k∨y∈L.drop k:=by rw[←bPo,bPe]
 rw[aI3,bPo,bOr,this]
 constructor
 ·rintro (h | h | h)
  ·exact .inr (.inl h)
  ·exact .inl h
  ·exact .inr (.inr h)
 ·rintro (h | h | h)
  ·exact .inr (.inl h)
  ·exact .inl h
  ·exact .inr (.inr h)
theorem kG {L:List (Int×Nat)} {k:Nat} {x:Int×Nat}:(aI3 L k x).length=L.length+1:=by
 have:L.length=(L.take k).length+(L.drop k).length:=by rw[←bN8,bPe]
 rw[aI3,bN8,bOb,this];omega
theorem nW (q:Int) (k:Nat):(pkM q k).length=9:=rfl
theorem xH:∀L:List (Int×Nat),(bK L).length=L.length*9
 | []=>rfl
 | x::L=>by
  have:=xH L
  rw[show bK (x::L)=pkM (x.1%65536) x.2++bK L from by simp[bK],bN8,this,nW,bOb]
  omega
theorem aRa (L M:List (Int×Nat)):bK (L++M)=bK L++bK M:=by simp[bK]
theorem xO (key:List UInt8) (u:Int) (L:List (Int×Nat)):(bS key u L).length=L.length:=by simp[bS]
theorem aB5:∀ (L:List (Int×Nat)) (k:Nat),(bK L).take (k*9)=bK (L.take k)
 | [],k=>by simp[bK]
 | x::L,0=>by simp[bK]
 | x::L,k+1=>by
  rw[show bK (x::L)=pkM (x.1%65536) x.2++bK L from by simp[bK],bQ0,show bK (x::L.take k)=pkM (x.1%65536) x.2++bK (L.take k) from by simp[bK],
   List.take_append,nW,bOk (by rw[nW];omega),show (k+1)*9-9=k*9 by omega,aB5 L k]
theorem rG:∀ (L:List (Int×Nat)) (k:Nat),(bK L).drop (k*9)=bK (L.drop k)
 | [],k=>by simp[bK]
 | x::L,0=>by simp[bK]
 | x::L,k+1=>by
  rw[show bK (x::L)=pkM (x.1%65536) x.2++bK L from by simp[bK],bQg,
   List.drop_append,nW,bP4 (by rw[nW];omega),show (k+1)*9-9=k*9 by omega,rG L k,bPg]
theorem aHq (L:List (Int×Nat)) (k:Nat) (z:Int) (w:Nat):aC3 9 (bK L) k (pkM (z%65536) w)=bK (aI3 L k (z,w)):=by
 rw[aC3,aI3,aRa,aB5,rG,show bK ((z,w)::L.drop k)=pkM (z%65536) w++bK (L.drop k) from by simp[bK]]
theorem aFu (key:List UInt8) (u:Int) (L:List (Int×Nat)) (k:Nat) (x:Int×Nat):aC3 1 (bS key u L) k [.str (aHb (aKM key) (bKM key) (cKM key) (hKM u) x.1 x.2)]=bS key u (aI3 L k x):=by
 rw[aC3,aI3,bS,bS,bQ1,bR0,bO2,bTq,List.map_drop];rfl
theorem xM (q:Int) (k:Nat):aL 0 (pkM q k)=true∧bG (pkM q k)=true:=⟨rfl,rfl⟩
theorem uC:∀L:List (Int×Nat),aL 0 (bK L)=true∧bG (bK L)=true
 | []=>⟨rfl,rfl⟩
 | x::L=>by
  have h:=uC L
  rw[show bK (x::L)=pkM (x.1%65536) x.2++bK L from by simp[bK],gP,gM,(xM _ _).1,(xM _ _).2,h.1,h.2]
  exact ⟨rfl,rfl⟩
theorem rT (key:List UInt8) (u:Int):∀L:List (Int×Nat),aL 0 (bS key u L)=true∧bG (bS key u L)=true
 | []=>⟨rfl,rfl⟩
 | x::L=>rT key u L
theorem bM0 {key:List UInt8} {u:Int} {L:List (Int×Nat)} {k:Int} {q:Int} {w:Nat} (h:0≤k∧k≤L.length) (hL:L.length≤10):bIn (bK L) (bS key u L) (pkM q w) L.length L.length k:=by
 refine ⟨⟨h.1,h.2,by omega,xH L,xO key u L,rfl,rfl⟩, ?_, ?_,(rT key u L).1,(rT key u L).2⟩
 ·rw[gP,(uC L).1,(xM q w).1];rfl
 ·rw[gM,(uC L).2,(xM q w).2];rfl
theorem aLj {S:List Int} {w:List Tr} (h:aFy S w):(w=[]∧S=[])∨(eF w∈S∧∀x∈S,0≤x∧x≤eF w):=by
 match w,h with
 | [],h=>exact .inl ⟨rfl,h⟩
 | t::l,h=>
  obtain ⟨_,_,e2,e3,_⟩:=h
  exact .inr ⟨e2,e3⟩
theorem aLo {z:Int} {k:Nat} (hz:0≤z∧z≤65535) (hk:k<256∧k%4=0):uO [(z,k)] z [jH [] z]:=by
 refine ⟨⟨⟨_,_,rfl,hz,by simp;omega,fun y hy => ?_⟩,fun y hy => ?_,by simp,by simp⟩,⟨[z],yX (S:=[]) (w:=[]) rfl hz.1 (by omega) (by simp[eF];omega)⟩, ?_⟩
 ·rw[bOy] at hy;subst hy;exact bRq _
 ·rw[bOy] at hy;subst hy;exact ⟨bRq _,hk⟩
 ·rw[jH,if_pos (by simp[eF];omega)];rfl
theorem aHy {L:List (Int×Nat)} {z d:Int} {w:List Tr} (h:uO L z w) (hd:1≤d∧d≤5) (hL:L.length<10) :
  dB (eF w) ((z+d)%65536)=z+d∧eF w<z+d∧(0≤z+d∧z+d≤70000)∧bAh w∧(∃S,aFy S w)∧1≤L.length∧∀k p:Nat,k<256∧k%4=0→1≤p∧p≤L.length→uO (aI3 L p (z+d,k)) (z+d) [jH w (z+d)]:=by
 obtain ⟨⟨⟨x,L',rfl,hx,hzx,hmin⟩,hall,hnd,hlen⟩,⟨S,hS⟩,htop⟩:=h
 have hxz:=(hall x (by simp)).1
 refine ⟨?_,by omega,⟨by omega,by simp at hL hzx;omega⟩,aVz hS,⟨S,hS⟩,by simp,fun k p hk hp => ?_⟩
 ·rw[htop];exact vP (by omega) (by omega) (by omega)
 have hent:eF [jH w (z+d)]=z+d:=by rw[jH,if_pos (by omega)];rfl
 refine ⟨⟨?_,fun y hy => ?_, ?_, ?_⟩,⟨(z+d)::S,yX hS (by omega) (by simp at hL hzx;omega) (by omega)⟩,hent⟩
 ·obtain ⟨p,rfl⟩:∃p',p=p'+1:=⟨p-1,by omega⟩
  refine ⟨x,aI3 L' p (z+d,k),by simp[aI3],hx, ?_,fun y hy => ?_⟩
  ·rw[kG];simp at hzx ⊢;omega
  ·rcases mem_insL.1 hy with rfl | hy
   ·dsimp only;omega
   ·exact hmin y hy
 ·rcases mem_insL.1 hy with rfl | hy
  ·exact ⟨bRq _,hk⟩
  ·have:=hall y hy
   exact ⟨by omega,this.2⟩
 ·rw[aI3,bR0,bO2]
  have hperm:((x::L').map (·.1)).Nodup:=hnd
  have hnew:z+d∉(x::L').map (·.1):=fun hm=>by
   obtain ⟨y,hy,e⟩:=bPs.1 hm
   have:=(hall y hy).1
   omega
  have hsp:(x::L').map (·.1)=((x::L').take p).map (·.1)++((x::L').drop p).map (·.1):=by rw[←bR0,bPe]
  rw[hsp] at hperm hnew
  exact (List.perm_middle.nodup_iff).2 (bRa.2 ⟨hnew,hperm⟩)
 ·rw[kG];omega
theorem aTc {L:List (Int×Nat)} {i:Nat} {w:List Tr} (h:aFk L i w) (hi:i<L.length) :
  ∃S,aFy S w∧(0≤L[i].1∧L[i].1≤70000)∧L[i].2<256∧L[i].2%4=0∧aAn w L[i].1∧L[i].1∉S∧aCi L i [jH w L[i].1] 0:=by
 obtain ⟨⟨z,hg⟩,hle,S,hS,hmem⟩:=h
 obtain ⟨⟨x,L',e,hx,hzx,hmin⟩,hall,hnd,hlen⟩:=id hg
 have hmi:L[i]∈L:=bPx hi
 have b1:=hmin _ hmi
 have b2:=hall _ hmi
 have hnear:aAn w L[i].1:=by
  rcases aLj hS with ⟨rfl,rfl⟩ | ⟨h1,h2⟩
  ·refine .inl ⟨rfl, ?_⟩
   have hi0:i=0:=by
    rcases bTd i with h | h
    ·exact h
    ·have:L[0].1∈(L.take i).map (·.1):=bPs.2 ⟨L[0],bSe.2 ⟨0,by omega,rfl⟩,rfl⟩
     rw[←hmem] at this
     cases this
   subst hi0
   subst e
   exact hx.2
  ·obtain ⟨y,hy,e2⟩:=bPs.1 ((hmem _).1 h1)
   have hy':=bRj hy
   have c1:=hmin _ hy'
   have c2:=hall _ hy'
   exact .inr ⟨by omega,by omega,by omega⟩
 have hnot:L[i].1∉S:=fun hm=>by
  obtain ⟨y,hy,e2⟩:=bPs.1 ((hmem _).1 hm)
  obtain ⟨j,hj,e3⟩:=bSe.1 hy
  have hji:j≠i:=by omega
  have hne:=(List.pairwise_iff_getElem.1 hnd) j i (by simp;omega) (by simpa using hi) (by omega)
  simp only[List.getElem_map] at hne
  rw[e3] at hne
  exact hne e2
 refine ⟨S,hS,⟨by omega,by omega⟩,b2.2.1,b2.2.2,hnear,hnot,⟨z,hg⟩,hi,by omega,L[i].1::S, ?_,fun y => ?_⟩
 ·refine yX hS (by omega) (by omega) ?_
  rcases hnear with ⟨rfl,_⟩ | h
  ·simp[eF];omega
  ·exact h.2.1
 ·rw[bP9,bOq hi,bOr,hmem,bR0,bPo]
  simp only[Option.toList,bO2,bSz,bOy]
  exact ⟨fun h=>h.symm,fun h=>h.symm⟩
theorem aUu {L:List (Int×Nat)} {i j:Nat} {w:List Tr} (h:aCi L i w j) (hj:j<i+1) (hjl:j<L.length) :
  ∃S,aFy S w∧(0≤L[j].1∧L[j].1≤70000)∧L[j].2<256∧aAn w L[j].1∧L[j].1∈S∧aCi L i w (j+1):=by
 obtain ⟨⟨z,hg⟩,hi,hle,S,hS,hmem⟩:=id h
 obtain ⟨⟨x,L',e,hx,hzx,hmin⟩,hall,hnd,hlen⟩:=id hg
 have hmi:L[j]∈L:=bPx hjl
 have b1:=hmin _ hmi
 have b2:=hall _ hmi
 have hin:L[j].1∈S:=(hmem _).2 (bPs.2 ⟨L[j],bSe.2 ⟨j,by omega,rfl⟩,rfl⟩)
 refine ⟨S,hS,⟨by omega,by omega⟩,b2.2.1, ?_,hin,⟨z,hg⟩,hi,by omega,S,hS,hmem⟩
 rcases aLj hS with ⟨rfl,rfl⟩ | ⟨h1,h2⟩
 ·cases hin
 ·obtain ⟨y,hy,e2⟩:=bPs.1 ((hmem _).1 h1)
  have hy':=bRj hy
  have c1:=hmin _ hy'
  have c2:=hall _ hy'
  exact .inr ⟨by omega,by omega,by omega⟩
theorem aW8 {L:List (Int×Nat)} {i j:Nat} {w:List Tr} (h:aCi L i w j):aFk L (i+1) w:=by
 obtain ⟨hg,hi,_,hS⟩:=h
 exact ⟨hg,by omega,hS⟩
theorem aJl {L:List (Int×Nat)} {z:Int} {w:List Tr} (h:uO L z w):aFk L 0 []:=⟨⟨z,h.1⟩,bPp _,[],rfl,fun x=>by simp⟩
end Go.Proofs.YtnhechnaemmdiaaGreatDoor
