/-
  Chapter 25: ShieldThrough: the run, joined.
-/
import Derived.Test.YtnhechnaemmdiaaGreatDoorK25TM
set_option linter.unusedSimpArgs false
set_option linter.unusedVariables false
set_option linter.unusedSectionVars false
namespace Go.Proofs.YtnhechnaemmdiaaGreatDoor
open Go.RowKit
set_option maxRecDepth 1000000

theorem aUr (a b:Nat):vH (a:Int) (b:Int)=((min a b:Nat):Int):=by
 unfold vH
 split<;>omega
theorem bNl {x:Int} (h:0≤x∧x<9223372036854775808) {K:Int→Prop} (k:K (x%65536)):exW .i64 (((x%18446744073709551616).toNat &&& 65535:Nat):Int) K:=by
 rw[bE2 x ⟨h.1,by omega⟩]
 exact aI (by omega) (by omega) k
theorem bNc {a b:Int} (h:a=b) {A B:Prop} (k:B):bif a !=b then A else B:=by
 rw[h,show (b !=b)=false by simp];exact k
theorem aU1 (key:List UInt8) (u:Int) {L:List (Int×Nat)} {i j:Nat} (h:i<L.length) (hj:j=i):(bS key u L).getD j AV.undef=.str (aHb (aKM key) (bKM key) (cKM key) (hKM u) L[i].1 L[i].2):=by
 subst hj
 simp[bS,h]
theorem bGo {L:List (Int×Nat)} {i:Nat} (h:i<L.length):((bK L).drop (i*9)).take 9=pkM (L[i].1%65536) L[i].2:=by
 rw[rG,bP7 h,show ∀x M,bK (x::M)=pkM (x.1%65536) x.2++bK M from fun x M=>by simp[bK],bQ8 (nW _ _)]
theorem aDo {key:List UInt8} {u fi:Int} {l:List AV} {n:Nat} {ss:Int} {ks od:List UInt8} {Q:Out→List Blk→Gh→Prop} (hd:drM key u l n) (hfi:0≤fi∧fi≤65535) (hks:ks.length≤9223372036854775807) (hod:od.length≤9223372036854775807) (hq:∀g,Q (.ret (.bool true)) [] g) :
  ∃hv hb,aEb hv hb key u fi l n ss ks od Q:=by
 obtain ⟨hv,hb',e⟩:∃hv hb,aEb hv hb key u fi l n ss ks od Q=_:=⟨_,_,bKe key u fi l n ss ks od Q⟩
 refine ⟨hv,hb',e.mpr ?_⟩
 clear e
 have hmin:vH (ks.length:Int) 10=((min ks.length 10:Nat):Int):=aUr _ 10
 obtain ⟨M,hM,hM1,hM2⟩:∃M,min ks.length 10=M∧M≤10∧M≤ks.length:=⟨_,rfl,by omega,by omega⟩
 rw[hM] at hmin
 refine ⟨⟨hd⟩,ckF ⟨⟨hd⟩,aI (by omega) (by omega) ⟨_,rfl,(M:Int),congrArg _ hmin,ckI (by simp;omega) ⟨0,ofBytes (ks.take M),M, ?_,_,rfl, ?_, ?_, ?_⟩⟩⟩⟩
 ·rw[bOa,bQw,bQ1,bOv,ofBytes,ofBytes,bTq]
 ·exact .inl ⟨fi,⟨hfi⟩,rfl,rfl,rfl,rfl,rfl,rfl,rfl,rfl,rfl,rfl,rfl,rfl,trivial⟩
 ·rintro q ⟨hq1⟩
  refine aD (fun h => ?_) (fun _=>⟨_,rfl,⟨0,⟨rfl⟩,rfl,rfl,rfl,rfl,rfl,rfl,rfl,rfl,rfl,trivial⟩,fun x hx=>hq _⟩)
  have hi:0<(ks.take M).length:=by simp;omega
  refine ⟨_,rfl,ckI (by simp;omega) (ckI (by simp[ofBytes];omega) (Md.getB (s:=ks.take M) (i:=0) hi rfl ?_))⟩
  generalize hb:(ks.take M)[0].toNat=b
  have hb256:b<256:=hb▸UInt8.toNat_lt _
  refine ⟨_,rfl,aI (by omega) (by omega) ⟨((b%5:Nat):Int),congrArg _ (bD3 hb256),aI (by omega) (by omega) (aI (by omega) (by omega) (bNl ⟨by omega,by omega⟩ (w8 ⟨⟨⟨by omega,by omega⟩,⟨by omega,by omega⟩,by omega⟩, ?_⟩)))⟩⟩
  generalize hz:(q+1+((b%5:Nat):Int))%65536=z
  obtain ⟨k,hk,hk1⟩:∃k:Nat,4*(b:Int)%256=k∧(k<256∧k%4=0):=⟨(4*(b:Int)%256).toNat,by omega,by omega,by omega⟩
  rw[hk]
  rintro mk ty sq ti pd m xs pl ⟨hp⟩
  rw[bE0,bOa] at hp
  obtain ⟨rfl,rfl,rfl,rfl,rfl,rfl,rfl,rfl⟩:=aB7 hk1.2 hp
  have hz2:sq%65536=sq:=by omega
  obtain ⟨p1,p2,p3,p4,p5,p6⟩:=aK6 (key:=key) (u:=u) (S:=[]) (w:=[]) (z:=sq) (k:=k) rfl hk1 (by omega) (by simp[eF];omega)
  rw[hz2] at p2 p3 p4 p6
  refine ⟨hKM u,[],iL k,[],sq,⟨⟨rfl,rfl,rfl,rfl,rfl,rfl,rfl,rfl⟩,⟨.inl rfl,p1,p2,p3⟩,(sJ sq).symm,by simp[eF];omega,by omega⟩, ?_⟩
  rintro p t ⟨hp1,rfl⟩
  have hbox:p=aHb (aKM key) (bKM key) (cKM key) (hKM u) sq k:=by rw[hp1,aHb,hz2];rfl
  subst hbox
  refine ⟨[],iL k,⟨p4⟩, ?_⟩
  rintro s ⟨rfl⟩
  refine ⟨⟨p5⟩,_,rfl,_,rfl,aI (by omega) (by omega) (bNc (by omega) (aD (fun h=>absurd h (by omega)) (fun _=>bE6 (by omega) hk1 hp)))⟩
 ·rintro ⟨L,z,w⟩ ⟨h⟩
  dsimp only at h ⊢
  refine aD (fun hL => ?_) (fun _=>⟨_,rfl, ?_⟩)
  ·have hi:L.length<(ks.take M).length:=by simp;omega
   refine ⟨_,rfl,ckI (by simp;omega) (ckI (by simp[ofBytes];omega) (Md.getB (s:=ks.take M) (i:=L.length) hi (by simp) ?_))⟩
   generalize hb:(ks.take M)[L.length].toNat=b
   have hb256:b<256:=hb▸UInt8.toNat_lt _
   obtain ⟨d,hd1,hd2⟩:∃d:Int,1+((b%5:Nat):Int)=d∧1≤d∧d≤5:=⟨_,rfl,by omega,by omega⟩
   obtain ⟨g1,g2,g3,g4,⟨S,g5⟩,g6,g7⟩:=aHy h hd2 (by omega)
   have ht:=h.2.2
   refine ⟨_,rfl,aI (by omega) (by omega) ⟨((b%5:Nat):Int),congrArg _ (bD3 hb256),aI (by omega) (by omega) (aI (by omega) (by omega) (bNl ⟨by omega,by omega⟩ (w8 ⟨⟨⟨by omega,by omega⟩,⟨by omega,by omega⟩,by omega⟩, ?_⟩)))⟩⟩
   rw[show (z%65536+1+((b%5:Nat):Int))%65536=(z+d)%65536 by omega]
   obtain ⟨k,hk,hk1⟩:∃k:Nat,4*(b:Int)%256=k∧(k<256∧k%4=0):=⟨(4*(b:Int)%256).toNat,by omega,by omega,by omega⟩
   rw[hk]
   rintro mk ty sq ti pd m xs pl ⟨hp⟩
   rw[bE0,bOa] at hp
   obtain ⟨rfl,rfl,hsq,rfl,rfl,rfl,rfl,rfl⟩:=aB7 hk1.2 hp
   subst hsq
   obtain ⟨p1,p2,p3,p4,p5,p6⟩:=aK6 (key:=key) (u:=u) (z:=z+d) (k:=k) g5 hk1 g3 (by omega)
   refine ⟨hKM u,[],iL k,w,z+d,⟨⟨rfl,rfl,rfl,rfl,rfl,rfl,rfl,rfl⟩,⟨g4,p1,p2,p3⟩,g1.symm,g2,by omega⟩, ?_⟩
   rintro p t ⟨hp1,rfl⟩
   have hbox:p=aHb (aKM key) (bKM key) (cKM key) (hKM u) (z+d) k:=by rw[hp1,aHb];rfl
   subst hbox
   refine ⟨[],iL k,⟨p4⟩, ?_⟩
   rintro s ⟨rfl⟩
   refine ⟨⟨p5⟩,_,rfl,_,rfl,aI (by omega) (by omega) (bNc (by omega) (aD (fun _=>⟨_,rfl,aD (fun ho => ?_) (fun _=>aP2 h hd2 (by omega) hk1 (by omega) hp)⟩) (fun _=>aP2 h hd2 (by omega) hk1 (by omega) hp)))⟩
   refine ckI (by simp;omega) (ckI (by simp[ofBytes];omega) (Md.getB (s:=od) (i:=L.length) (by omega) (by simp) ?_))
   generalize hb2:od[L.length].toNat=b2
   have hb2':b2<256:=hb2▸UInt8.toNat_lt _
   obtain ⟨p2,hp2,hp3⟩:∃p2:Nat,b2%L.length=p2∧p2<L.length:=⟨_,rfl,bRc b2 (by omega)⟩
   refine aI (by omega) (by omega) (ckI (by simp;intro e;rw[e] at g6;simp at g6) ⟨(p2:Int), ?_,aI (by omega) (by omega) (aP2 h hd2 (by omega) hk1 (by omega) hp)⟩)
   rw[bPz (by omega),←hp2];rfl
  ·refine ⟨⟨(L,0,[]),⟨aJl h⟩,rfl,rfl,rfl,rfl,rfl,rfl,rfl,rfl,rfl,trivial⟩, ?_⟩
   rintro ⟨L2,i,w2⟩ ⟨h2⟩
   dsimp only at h2 ⊢
   refine aD (fun hi => ?_) (fun _=>hq _)
   have hi2:i<L2.length:=by omega
   have hlen:=h2.1.elim fun _ g=>g.2.2.2
   obtain ⟨S,hS,hz,hk,hk4,hnear,hnot,h3⟩:=aTc h2 hi2
   refine ⟨_,rfl,ckI (by simp;omega) (ckI (by rw[xO];simp;omega) ⟨_,aU1 key u hi2 (by simp),ckI (by simp;omega) (ckI (by rw[xH];simp;omega) ?_)⟩)⟩
   rw[bOa,bGo hi2]
   generalize hzz:L2[i].1=z2 at *
   generalize hkk:L2[i].2=k2 at *
   refine ⟨decide (k2%2=0),96,z2%65536,90*(z2%65536),1+(k2%4:Nat),0,[],0,0,xtM (aC4 k2++wO k2),(aC4 k2++wO k2).length,lW k2,uY (z2%65536) k2,rfl,hKM u,S,w2,z2,k2,⟨⟨rfl,rfl,rfl,rfl,rfl⟩,aPl key u,hS,⟨hz.1,by omega⟩,hk,hnear⟩,.inr ⟨⟨hnot,hk4,rfl⟩, ?_⟩⟩
   rintro t ⟨rfl⟩
   obtain ⟨_,_,_,_,p5,_⟩:=aK6 (key:=key) (u:=u) (z:=z2) (k:=k2) hS ⟨hk,hk4⟩ hz (vI hnear hz.1).2
   refine ⟨⟨p5⟩,aI (by omega) (by omega) ?_⟩
   have e1:((i:Int)+1).toNat=i+1:=by omega
   rw[e1]
   refine ckI (by simp;omega) ⟨_,rfl,⟨(L2,i,[jH w2 z2],0),⟨h3,rfl,rfl⟩,rfl,rfl,rfl,rfl,rfl,rfl,rfl,rfl, ?_,rfl,rfl,rfl,rfl,trivial⟩, ?_⟩
   ·rw[bQw,bQ1,bOv,bS,bS,bTq]
   rintro ⟨L3,i3,w3,j⟩ ⟨h4,h5,h6⟩
   dsimp only at h4 h5 h6 ⊢
   have hl3:=h4.1.elim fun _ g=>g.2.2.2
   have hi3:=h4.2.1
   unfold slM at h5 h6
   simp only[AV.int.injEq,bOp] at h5 h6
   refine aD (fun hj => ?_) (fun hj=>aI (by omega) (by omega) ⟨⟨trivial,rfl⟩,(L3,i3+1,w3),⟨aW8 h4⟩,by dsimp only;omega,rfl,rfl,rfl,rfl,rfl,rfl,rfl,rfl,rfl,trivial⟩)
   have hj2:j<i3+1:=by omega
   have hj3:j<(L3.take (i3+1)).length:=by simp;omega
   obtain ⟨S3,hS3,hz3,hk3,hnear3,hin3,h7⟩:=aUu h4 hj2 (by omega)
   have e3:(L3.take (i3+1))[j]=L3[j]:=bTm
   refine ckI (by simp;omega) (ckI (by rw[xO];simp;omega) ⟨_,aU1 key u hj3 (by simp),hKM u,S3,w3,L3[j].1,L3[j].2,⟨⟨rfl,rfl,rfl,rfl,by rw[e3]⟩,aPl key u,hS3,⟨hz3.1,by omega⟩,hk3,hnear3⟩,.inl ⟨⟨hin3,rfl,rfl⟩,aI (by omega) (by omega) ⟨⟨trivial,rfl⟩,(L3,i3,w3,j+1),⟨h7,by unfold slM;simp;omega,by unfold slM;simp;omega⟩,by dsimp only;omega,rfl,rfl,rfl,rfl,rfl,rfl,rfl,rfl,rfl,rfl,rfl,rfl,rfl,trivial⟩⟩⟩)
end Go.Proofs.YtnhechnaemmdiaaGreatDoor
