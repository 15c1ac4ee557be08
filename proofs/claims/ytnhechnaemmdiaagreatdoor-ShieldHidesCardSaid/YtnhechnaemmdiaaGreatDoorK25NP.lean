/-
  Chapter 25: ShieldHides answers true.
-/
import Derived.Test.YtnhechnaemmdiaaGreatDoorK25NO
import Derived.Test.YtnhechnaemmdiaaGreatDoorKnS
set_option linter.unusedSimpArgs false
set_option linter.unusedVariables false
set_option linter.unusedSectionVars false
namespace Go.Proofs.YtnhechnaemmdiaaGreatDoor
open Go.RowKit
set_option maxRecDepth 1000000

theorem bBo:∀f g,bNr f=some g→aG Tryz.prog gl0 f g:=bK _ (by simp only[List.mem_cons,List.not_mem_nil,or_false,forall_eq_or_imp,forall_eq];exact ⟨aT1,aUi,aNo,aX1,aQw,aQf,Md.decode_ok⟩)
theorem bBf {c b s y:List UInt8} {sq:Int} (h1:c.length=32) (h2:b.length=12) (h3:y.length≤4096):∃z,eB [2] c b 3 sq [(1,s),(2,y)]=[(1,s),(2,z)]∧z.length=y.length:=by
 have hs:=yU (hid:=[2]) (mk:=c) (sa:=b) (ss:=3) (ix:=sq) (ex:=[(1,s),(2,y)]) h1 h2 (by simp[bF,tK];exact h3)
 have e:∃d,eB [2] c b 3 sq [(1,s),(2,y)]=[(1,s),(2,d)]:=⟨_,rfl⟩
 obtain ⟨d,hd⟩:=e
 rw[hd] at hs
 simp only[lZ,List.map_cons,List.map_nil,List.cons.injEq,Prod.mk.injEq,true_and,and_true] at hs
 exact ⟨d,hd,hs⟩
theorem aO6:fZ 2 16=[2]:=by decide
theorem aHt:fZ 0 16=[]:=by decide
theorem aBx {sq:Int} (h:0≤sq∧sq≤65535) {s y:List UInt8} (hs:s.length≤30) (hy:y.length≤26):Md.rightM 0 sq 0 3 [] [(1,s),(2,y)] 0=true∧(Md.encM false 0 sq 0 3 [] [(1,s),(2,y)] 0 [UInt8.ofNat 97]).length≤1184:=by
 constructor
 ·rw[Md.rightM,Md.flagsM,Md.extsOkM,Md.extsOkM,Md.extsOkM]
  simp
  omega
 ·have hb:=Md.extB_len (Md.shortM [(1,s),(2,y)]) [(1,s),(2,y)] (by
   intro x hx
   simp only[List.mem_cons,List.not_mem_nil,or_false] at hx
   rcases hx with rfl | rfl<;>dsimp only<;>omega)
  have hp:(Md.extPM [(1,s),(2,y)]).length≤520:=by
   rw[Md.extPM,List.length_append,Md.zerosM,List.length_replicate]
   simp only[List.length_cons,List.length_nil] at hb
   omega
  rw[Md.encM,List.length_append,List.length_append,bY,List.length_cons,xG,wW]
  simp[Md.padM]
  omega
theorem aOt (key d0 d1:List UInt8) (sq:Int) (hk:key.length≤140737488351232) (h:0≤sq∧sq≤65535) (l0:d0.length≤9223372036854775807) (l1:d1.length≤9223372036854775807) (Q:Out→List Blk→Gh→Prop)
  (hq:Q (.ret (.bool true)) [] {}):∃hv hb,aEr hv hb key sq d0 d1 Q:=by
 obtain ⟨hv,hb',e⟩:∃hv hb,aEr hv hb key sq d0 d1 Q=_:=⟨_,_,bNw key sq d0 d1 Q⟩
 refine ⟨hv,hb',e.mpr ?_⟩
 delta bJh aWv bNi
 clear e
 refine aI (by omega) (by omega) ⟨_,rfl,Md.iminI (a:=d0.length) (b:=30) rfl (ckI (by simp;omega) ⟨_,rfl,⟨_,rfl,Md.iminI (a:=d1.length) (b:=10) rfl (ckI (by simp;omega) ⟨_,rfl,ckI ?_ ⟨_,rfl,2,[],⟨rfl,rfl,rfl,by omega,hk⟩, ?_⟩⟩)⟩⟩)⟩
 ·simp;omega
 generalize hs:List.take _ (List.drop 0 d0)=s
 generalize hy:List.take _ (List.drop 0 d1)++_=y
 have ls:s.length≤30:=by rw[←hs];simp;omega
 have ly:y.length≤26:=by rw[←hy];simp;omega
 clear hs hy
 rintro a b c xs ⟨ea,eb,ec,rfl⟩
 rw[aO6]
 have hn:∀w,bR a b c (fZ w 16)=true:=fun w=>by rw[ea,eb,ec];exact tO _ _ _ w
 have hn2:=hn 2
 have hn0:=hn 0
 rw[aO6] at hn2
 rw[aHt] at hn0
 clear hn
 obtain ⟨n1,n2,n3⟩:=oJ hn2
 obtain ⟨hr,hl⟩:=aBx h ls ly
 refine ⟨[2],[],[(1,s),(2,y)],⟨⟨rfl,rfl,rfl,rfl,rfl,rfl⟩,hn2,hr,hl⟩, ?_⟩
 obtain ⟨z,hz,lz⟩:=bBf (s:=s) (sq:=sq) n3 n2 (show y.length≤4096 by omega)
 obtain ⟨hr',hl'⟩:=aBx h ls (show z.length≤26 by omega)
 have hcat:(bF [2] [(1,s),(2,y)]).length≤4096:=by simp[bF,tK];omega
 have htw:=aIu (ss:=3) (ix:=sq) n3 n2 hcat
 rw[hz] at htw
 obtain ⟨e1,e2,e3,e4⟩:=zG (mk:=false) (ty:=0) (sq:=sq) (ti:=0) (ss:=3) (cs:=[]) (a:=[(1,s),(2,z)]) (b:=[(1,s),(2,y)]) 0 (by simp[lZ,lz])
 have hL:(Md.encM false 0 sq 0 3 [] [(1,s),(2,z)] 0 [UInt8.ofNat 97]).length=(Md.headM false 0 sq 0 3 [] [(1,s),(2,z)] 0).length+1:=by
  rw[Md.encM];simp[Md.padM]
 have hL0:Md.encM false 0 sq 0 3 [] [(1,s),(2,z)] 0 []=Md.headM false 0 sq 0 3 [] [(1,s),(2,z)] 0:=by
  rw[Md.encM];simp[Md.padM]
 rintro p ⟨hp⟩
 rw[hz] at hp
 obtain ⟨p1,p2,p3,p4⟩:=aC1 (mk:=false) (pl:=[UInt8.ofNat 97]) (ix:=sq) n1 n2 hr' hl'
 rw[←hp] at p1 p3
 have hh:=(yX (mk:=false) (pl:=[UInt8.ofNat 97]) hr (by omega)).1
 have hdec:=Md.dec_enc (mk:=false) (pl:=[]) hr' (by rw[hL0];omega)
 rw[hL0] at hdec
 refine ⟨[],[(1,s),(2,y)],⟨⟨rfl,rfl,rfl,rfl,by simp,by simp,fun x hx => ?_⟩,by simp⟩, ?_⟩
 ·simp only[List.mem_cons,List.not_mem_nil,or_false] at hx
  rcases hx with rfl | rfl<;>dsimp only<;>omega
 rintro s20 e21 ⟨h20⟩
 rw[hh] at h20
 obtain ⟨rfl,rfl⟩:=Prod.mk.inj h20
 refine aS (fun h=>absurd rfl h) (fun _=>⟨_,rfl,_,rfl,aI (by omega) (by omega) (aI (by omega) (by omega) (aS (fun h=>absurd (by omega) h) (fun _=>⟨_,rfl,ckI (by simp;omega) ⟨_,rfl, ?_⟩⟩)))⟩)
 rw[List.drop_zero,Nat.sub_zero,Int.toNat_natCast,←e1,p3]
 refine ckI (by simp;omega) ?_
 rintro mk28 ty29 sq30 ti31 ss32 cs33 ex34 p35 y36 e37 ⟨h28⟩
 rw[hdec] at h28
 cases h28
 refine aS (fun h=>absurd rfl h) (fun _=>⟨_,rfl,aS (fun h=>absurd rfl h) (fun _=>ckI rfl (ckI rfl ⟨1,s,rfl, ?_⟩))⟩)
 refine splitB (fun h=>absurd h (by simp[pE])) (fun _=>ckI rfl (ckI rfl ⟨2,rfl,aS (fun h=>absurd rfl h) (fun _=>ckI rfl (ckI rfl ⟨z,rfl,_,rfl,_,rfl,aS (fun h=>absurd (by omega) h) (fun _=>⟨0,[],⟨rfl,rfl,rfl,by omega,hk⟩, ?_⟩)⟩))⟩))
 rintro a' b' c' xs' ⟨ea',eb',ec',rfl⟩
 rw[aHt]
 obtain rfl:a'=a:=ea'.trans ea.symm
 obtain rfl:b'=b:=eb'.trans eb.symm
 obtain rfl:c'=c:=ec'.trans ec.symm
 refine ⟨[2],false,0,sq,0,3,[],[(1,s),(2,z)],0,[UInt8.ofNat 97],⟨⟨rfl,rfl,hp⟩,hn2,hr',hl'⟩, ?_⟩
 rintro ex61 ⟨h61⟩
 rw[htw] at h61
 subst h61
 refine ⟨[],[(1,s),(2,y)],⟨⟨rfl,rfl,rfl,rfl,by simp,by simp⟩,rfl,rfl,rfl,rfl,rfl,rfl,rfl,rfl,rfl,rfl,rfl⟩, ?_⟩
 refine ⟨[],false,0,sq,0,3,[],[(1,s),(2,z)],0,[UInt8.ofNat 97],⟨⟨rfl,rfl,hp⟩,hn0,hr',hl'⟩, ?_⟩
 rintro ex74 ⟨h74⟩
 rw[eB,aGy] at h74
 subst h74
 exact ⟨[],[(1,s),(2,z)],⟨⟨rfl,rfl,rfl,rfl,by simp,by simp⟩,rfl,rfl,rfl,rfl,rfl,rfl,rfl,rfl,rfl,rfl,rfl⟩,hq⟩
end Go.Proofs.YtnhechnaemmdiaaGreatDoor
