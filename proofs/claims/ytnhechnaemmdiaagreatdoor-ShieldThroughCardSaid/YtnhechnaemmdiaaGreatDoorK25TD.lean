/-
  Chapter 25: Open, by a shield with at most one track.
-/
import Derived.Test.YtnhechnaemmdiaaGreatDoorK25TC
set_option linter.unusedSimpArgs false
set_option linter.unusedVariables false
set_option linter.unusedSectionVars false
namespace Go.Proofs.YtnhechnaemmdiaaGreatDoor
open Go.RowKit
set_option maxRecDepth 1000000

theorem aFx (a b c:List UInt8):iG [a,b,c] []=a++(b++c):=by simp[iG,Lib.join]
structure opF (a b c:List UInt8) (hid:List Int) (mk:Bool) (ty sq ti:Int) (cs:List Int) (ex:List Md.Xt) (pad:Int) (pl:List UInt8) (z:Int) (ex':List Md.Xt) (s:List UInt8):Prop where
 n:b.length=12∧c.length=32
 m:hid.length≤1000000∧ex.length≤1000000∧(bC hid ex).length≤4096
 q:0≤sq∧sq≤65535
 l:s.length≤1200∧1≤s.length∧(Md.headM mk ty sq ti 1 cs ex pad).length≤s.length∧1≤(Md.headM mk ty sq ti 1 cs ex' 0).length
 h:aEw s=((mk,ty,sq,ti,1,cs,ex,0,[],0),(Md.headM mk ty sq ti 1 cs ex pad).length,0)
 o:kX a (dG b 1 z) (s.take (Md.headM mk ty sq ti 1 cs ex pad).length) (s.drop (Md.headM mk ty sq ti 1 cs ex pad).length)=(pl++Md.padM pad,0)
 k:aJ7 mk ty sq ti 1 (aB cs) cs.length (Md.cellsXM ex') ex'.length 0 [] cs ex'
 j:s.take 1++((Md.headM mk ty sq ti 1 cs ex' 0).drop 1++(pl++Md.padM pad))=Md.encM mk ty sq ti 1 cs ex' pad pl
 e:(Md.encM mk ty sq ti 1 cs ex' pad pl).length≤1184
 d:Md.decM (Md.encM mk ty sq ti 1 cs ex' pad pl)=(mk,ty,sq,ti,1,cs,ex',pad,pl,0)
theorem aHo {a b c:List UInt8} {hid:List Int} {mk:Bool} {ty sq ti:Int} {cs:List Int} {ex:List Md.Xt} {pad:Int} {pl:List UInt8} {z:Int} (hn:bO a b c hid=true) (hr:Md.rightM ty sq ti 1 cs ex pad=true) (hl:(Md.encM mk ty sq ti 1 cs ex pad pl).length≤1184) :
  opF a b c hid mk ty sq ti cs ex pad pl z (cZ hid c b 1 z ex) (uG mk ty sq ti 1 cs ex pad pl a b z):=by
 obtain ⟨⟨n1,n2,n3⟩,_,k1,k2,⟨m1,m2,m3⟩,⟨q1,q2⟩,⟨l1,l2⟩,⟨d1,d2⟩,d3⟩:=xR (z:=z) hn hr hl
 obtain ⟨p1,p2,p3,p4⟩:=aA3 (mk:=mk) (pl:=pl) (ix:=z) n1 n2 hr hl
 generalize hx':cZ hid c b 1 z ex=ex' at *
 have hshp:=qP (hid:=hid) (mk:=c) (sa:=b) (ss:=1) (ix:=z) (ex:=ex) n3 n2 (by omega)
 rw[hx'] at hshp
 obtain ⟨s1,s2,s3,_⟩:=qI (mk:=mk) (ty:=ty) (sq:=sq) (ti:=ti) (ss:=1) (cs:=cs) pad hshp
 have hr':=s2.trans hr
 have hh12:1≤(Md.headM mk ty sq ti 1 cs ex' 0).length:=by rw[cB,bOb];omega
 have h00:=aAo mk ty sq ti 1 cs ex' pad 0
 have hL0:(Md.encM mk ty sq ti 1 cs ex' 0 []).length≤1184:=by
  rw[Md.encM];simp[Md.padM];omega
 obtain ⟨⟨k3,_⟩,_,_⟩:=k2
 refine ⟨⟨n2,n3⟩,⟨m1,m2,m3⟩,⟨q1,q2⟩,⟨by omega,by omega,by omega,hh12⟩,p2, ?_,⟨⟨k3,by simp⟩,wN hr',by omega⟩, ?_,by omega,Md.dec_enc hr' (by omega)⟩
 ·rw[p3];exact p4
 ·rw[uG,bGj s3.symm,Md.encM,bOz]
theorem aTl {a b c:List UInt8} {hid:List Int} {top:Int} {seen:Nat} {mk:Bool} {ty sq ti:Int} {cs:List Int} {ex:List Md.Xt} {pad:Int} {pl:List UInt8} {z:Int} {Q:Out→List Blk→Gh→Prop}
  (hn:bO a b c hid=true) (hr:Md.rightM ty sq ti 1 cs ex pad=true) (hl:(Md.encM mk ty sq ti 1 cs ex pad pl).length≤1184) (hv:bU a b c hid [(1,top,seen)] 0 0 (-1) 0=true) (ht:0≤top∧top≤281474976710655) (hs:seen<18446744073709551616)
  (hz:z=dB top sq) (h1:0≤z) (h2:z≤281474976710655)
  (ho:fH top z seen=true→∀g,Q (.ret (.tup [.agg [.str [],.str [],.str [],.nils,.nils,.int .i64 0,.int .i64 0,.int .i64 0,.int .u64 0],.agg [.bool false,.int .i64 0,.int .i64 0,.int .i64 0,.int .i64 0,.nils,.nils,.int .i64 0,.str []],.int .i64 10])) [] g)
  (hq:fH top z seen=false→∀v H g,bCh v H=.tup [shV 0 0 a b c hid [jH [(1,top,seen)] z] 0 0 (-1) 0,.agg [.bool mk,.int .i64 ty,.int .i64 sq,.int .i64 ti,.int .i64 1,.lst 0 (aB cs) cs.length 1,.lst 0 (Md.cellsXM (cZ hid c b 1 z ex)) (cZ hid c b 1 z ex).length 2,.int .i64 pad,.str pl],.int .i64 0]→Q (.ret v) H g) :
  ∃hv hb,zX hv hb a b c hid top seen (uG mk ty sq ti 1 cs ex pad pl a b z) Q:=by
 have F:=aHo (z:=z) hn hr hl
 generalize hx':cZ hid c b 1 z ex=ex' at *
 generalize uG mk ty sq ti 1 cs ex pad pl a b z=s at *
 obtain ⟨⟨n2,n3⟩,⟨m1,m2,m3⟩,⟨q1,q2⟩,⟨l1,l2,l3,l4⟩,f1,f2,f3,f4,f5,f6⟩:=F
 generalize hH:(Md.headM mk ty sq ti 1 cs ex pad).length=N at *
 have hok:aJa a b c (aB hid) hid.length [.int .i64 1,.int .i64 top,.int .u64 (seen:Nat)] 1 0 0 (-1) 0:=⟨hid,[(1,top,seen)],0,⟨rfl,rfl,rfl,rfl,rfl,by omega,fun t h=>by simp only[bOr,bOx,bP3] at h;subst h;exact ⟨⟨by dsimp only;omega,by dsimp only;omega⟩,hs⟩,by omega,by omega⟩,hv⟩
 obtain ⟨hv,hb',e⟩:∃hv hb,zX hv hb a b c hid top seen s Q=_:=⟨_,_,bDm a b c hid top seen s Q⟩
 refine ⟨hv,hb',e.mpr ?_⟩
 delta aBq pK aJh nA aH2 aHd aHh pJ iI nD aWy aAb aC5 aA1 pG fV aPz aNz aNk uT aCe bCw kV aPu uV uS vB aK0 aOj uI aLq aRs aP0 aM1 aBy
 clear e
 refine ⟨⟨hok⟩,hid,⟨rfl,rfl,m1⟩,ckF ⟨⟨_,rfl,aD (fun h=>absurd h (by omega)) (fun _=>⟨mk,ty,sq,ti,cs,ex,N,⟨by omega,f1⟩,_,rfl,⟨⟨by omega,by omega⟩,q1,q2⟩, ?_⟩)⟩,trivial⟩⟩
 rintro z10 ⟨hz10⟩
 obtain rfl:z10=z:=hz10.trans hz.symm
 refine ⟨seen,⟨rfl,⟨by omega,by omega⟩,⟨by omega,by omega⟩,hs⟩, ?_⟩
 rintro b12 ⟨hb12⟩
 refine splitB (fun h=>ho (hb12.symm.trans h) _) (fun h => ?_)
 replace hq:=hq (hb12.symm.trans h)
 refine aD (fun h=>absurd h (by omega)) (fun _=>ckI (by simp;omega) ⟨s.take N,by rw[bOv,bQw,bOa],ckI (by simp;omega) ⟨s.drop N,by rw[bOa,bOk (by simp)],⟨.inr ⟨6,3,1,rfl,by simp,rfl,rfl,by simp⟩⟩,⟨n2⟩, ?_⟩⟩)
 rintro s15 ⟨rfl⟩
 refine ckF ⟨_,⟨f2⟩,⟨.inr ⟨6,3,1,rfl,by simp,rfl,rfl,by simp⟩⟩,hid,ex,⟨rfl,rfl,rfl,rfl,m1,m2,m3,n2,n3⟩, ?_⟩
 rintro e' ⟨he'⟩
 rw[hx'] at he'
 subst he'
 refine ⟨cs,e',⟨f3⟩, ?_⟩
 rintro s22 ⟨rfl⟩
 refine ckI (by simp;omega) ⟨_,rfl,ckI (by simp;omega) ⟨_,rfl,[_,_,_],⟨rfl,rfl,by simp, ?_⟩, ?_⟩⟩
 ·rw[aFx];simp
  have:=congrArg List.length f4
  simp at this
  omega
 rintro x26 ⟨hx26⟩
 have e26:x26=Md.encM mk ty sq ti 1 cs e' pad pl:=by
  rw[hx26,aFx,bOv,bOk (l:=(Md.headM mk ty sq ti 1 cs e' 0).drop 1) (by simp)]
  exact f4
 refine ⟨mk,ty,sq,ti,1,cs,e',pad,pl,⟨by rw[e26];omega,by rw[e26];exact f6⟩,aI (by omega) (by omega) ?_⟩
 have hnt:jH [(1,top,seen)] z10=if top<z10 then (1,z10,seen*2^min (z10-top).toNat 64%18446744073709551616 ||| 1) else (1,top,seen ||| 2^(top-z10).toNat):=rfl
 rw[hnt] at hq
 refine aD (fun hgt => ?_) (fun hgt => ?_)
 ·rw[if_pos (by omega)] at hq
  refine ⟨_,rfl,Md.iminI (a:=(z10-top).toNat) (b:=64) (by omega) (ckI (by simp;try omega) ?_)⟩
  generalize hM:min (z10-top).toNat 64=M at *
  refine ⟨((seen*2^M%18446744073709551616:Nat):Int), ?_,_,rfl,aI (by omega) (by omega) (ckI (by simp) ?_)⟩
  ·rw[bOa,show Min.min M 64=M by omega,show (seen:Int)*2^M=((seen*2^M:Nat):Int) by push_cast;rfl,wG]
  rw[bT1]
  refine wU (by decide) (by decide) ?_
  generalize hX:seen*2^M%18446744073709551616=X at *
  have hXl:X<2^64:=by rw[←hX];exact bRc _ (by omega)
  refine ⟨((X ||| 1:Nat):Int), ?_,ckF (hq _ _ _ rfl)⟩
  have hor:X ||| 1<2^64:=bQa hXl (by omega)
  rw[show Int.toNat ((X:Int)%18446744073709551616)=X by omega,show Int.toNat (((1:Int)*2^Min.min (Int.toNat 0) 64)%18446744073709551616)=1 from rfl,wG,bPw hor]
 ·rw[if_neg (by omega)] at hq
  have hk63:top-z10≤63:=by
   by_cases hk:63<top-z10
   ·have ht:fH top z10 seen=true:=bO4 ⟨by omega,by omega,.inl hk⟩
    rw[←hb12,h] at ht
    cases ht
   ·omega
  obtain ⟨k,hk⟩:∃k:Nat,top-z10=k:=⟨(top-z10).toNat,by omega⟩
  rw[hk,bOa] at hq
  rw[hk]
  have hlt:2^k<2^64:=Nat.pow_lt_pow_right (a:=2) (by omega) (by omega)
  refine ⟨_,rfl,aI (by omega) (by omega) (ckI (by simp) ⟨((2^k:Nat):Int), ?_,((seen ||| 2^k:Nat):Int), ?_,ckF (hq _ _ _ rfl)⟩)⟩
  ·rw[bOa,show Min.min k 64=k by omega,Int.one_mul,show (2:Int)^k=((2^k:Nat):Int) by push_cast;rfl,wG,bPw hlt]
  ·have hor:seen ||| 2^k<2^64:=bQa hs hlt
   generalize hK:2^k=Y at *
   rw[show Int.toNat ((seen:Int)%18446744073709551616)=seen by omega,show Int.toNat ((Y:Int)%18446744073709551616)=Y by omega,wG,bPw hor]
theorem aS3 {a b c:List UInt8} {hid:List Int} {mk:Bool} {ty sq ti:Int} {cs:List Int} {ex:List Md.Xt} {pad:Int} {pl:List UInt8} {z:Int} {Q:Out→List Blk→Gh→Prop}
  (hn:bO a b c hid=true) (hr:Md.rightM ty sq ti 1 cs ex pad=true) (hl:(Md.encM mk ty sq ti 1 cs ex pad pl).length≤1184) (hv:bU a b c hid [] 0 0 (-1) 0=true)
  (hz:z=dB (-1) sq) (h1:0≤z) (h2:z≤281474976710655)
  (hq:∀v H g,bCh v H=.tup [shV 0 0 a b c hid [jH [] z] 0 0 (-1) 0,.agg [.bool mk,.int .i64 ty,.int .i64 sq,.int .i64 ti,.int .i64 1,.lst 0 (aB cs) cs.length 1,.lst 0 (Md.cellsXM (cZ hid c b 1 z ex)) (cZ hid c b 1 z ex).length 2,.int .i64 pad,.str pl],.int .i64 0]→Q (.ret v) H g) :
  ∃hv hb,zO hv hb a b c hid (uG mk ty sq ti 1 cs ex pad pl a b z) Q:=by
 have F:=aHo (z:=z) hn hr hl
 generalize hx':cZ hid c b 1 z ex=ex' at *
 generalize uG mk ty sq ti 1 cs ex pad pl a b z=s at *
 obtain ⟨⟨n2,n3⟩,⟨m1,m2,m3⟩,⟨q1,q2⟩,⟨l1,l2,l3,l4⟩,f1,f2,f3,f4,f5,f6⟩:=F
 generalize hH:(Md.headM mk ty sq ti 1 cs ex pad).length=N at *
 have hok:aJa a b c (aB hid) hid.length [] 0 0 0 (-1) 0:=⟨hid,[],0,⟨rfl,rfl,rfl,rfl,rfl,by omega,fun t h=>by simp at h,by omega,by omega⟩,hv⟩
 have hnt:jH [] z=(1,z,1):=by
  unfold jH
  rw[if_pos (show eF []<z by simp[eF];omega),jM,bQ3]
  rfl
 rw[hnt] at hq
 obtain ⟨hv,hb',e⟩:∃hv hb,zO hv hb a b c hid s Q=_:=⟨_,_,bC8 a b c hid s Q⟩
 refine ⟨hv,hb',e.mpr ?_⟩
 delta aJi aT3 vC aBq aH8 aHd aHh aE5 kP aC5 aA1 aIh fV pJ aJh pK pG aPz aNz aNk uT vD aJq aCe bCw kV aPu uV uS vB aK0 aOj uI aLq bAw aJk aP0 aM1 iI aEp aJx aBy
 clear e
 refine ⟨⟨hok⟩,hid,⟨rfl,rfl,m1⟩, ?_, ?_⟩ <;>
 ·refine ⟨_,rfl,aD (fun h=>absurd h (by omega)) (fun _=>⟨mk,ty,sq,ti,cs,ex,N,⟨by omega,f1⟩,_,rfl,⟨by omega,q1,q2⟩, ?_⟩)⟩
  rintro z10 ⟨hz10⟩
  obtain rfl:z10=z:=hz10.trans hz.symm
  refine ⟨0,⟨rfl,by omega,⟨by omega,by omega⟩,by omega⟩, ?_⟩
  rintro b12 ⟨hb12⟩
  have hb0:b12=false:=hb12.trans (bO0 (by omega))
  subst hb0
  refine aD (fun h=>absurd h (by omega)) (fun _=>ckI (by simp;omega) ⟨s.take N,by rw[bOv,bQw,bOa],ckI (by simp;omega) ⟨s.drop N,by rw[bOa,bOk (by simp)], ?_,⟨n2⟩, ?_⟩⟩)
  ·first | exact ⟨.inr ⟨5,0,0,rfl,by simp,rfl,rfl,by simp⟩⟩ | exact ⟨.inl ⟨rfl,rfl⟩⟩
  rintro s15 ⟨rfl⟩
  refine ckF ⟨_,⟨f2⟩, ?_,hid,ex,⟨rfl,rfl,rfl,rfl,m1,m2,m3,n2,n3⟩, ?_⟩
  ·first | exact ⟨.inr ⟨5,0,0,rfl,by simp,rfl,rfl,by simp⟩⟩ | exact ⟨.inl ⟨rfl,rfl⟩⟩
  rintro e' ⟨he'⟩
  rw[hx'] at he'
  subst he'
  refine ⟨cs,e',⟨f3⟩, ?_⟩
  rintro s22 ⟨rfl⟩
  refine ckI (by simp;omega) ⟨_,rfl,ckI (by simp;omega) ⟨_,rfl,[_,_,_],⟨rfl,rfl,by simp, ?_⟩, ?_⟩⟩
  ·rw[aFx];simp
   have:=congrArg List.length f4
   simp at this
   omega
  rintro x26 ⟨hx26⟩
  have e26:x26=Md.encM mk ty sq ti 1 cs e' pad pl:=by
   rw[hx26,aFx,bOv,bOk (l:=(Md.headM mk ty sq ti 1 cs e' 0).drop 1) (by simp)]
   exact f4
  refine ⟨mk,ty,sq,ti,1,cs,e',pad,pl,⟨by rw[e26];omega,by rw[e26];exact f6⟩,aI (by omega) (by omega) (aD (fun _=>Md.iminI (a:=(z10+1).toNat) (b:=64) (by omega) (ckI (by simp;try omega) ?_)) (fun h=>absurd h (by omega)))⟩
  rw[Int.zero_mul]
  refine wU (by omega) (by omega) (aI (by omega) (by omega) (ckI (by simp) ?_))
  rw[show (1:Int)*2^Min.min (Int.toNat (z10-z10)) 64=1 by rw[bT1];rfl]
  refine wU (by omega) (by omega) ?_
  show exW .u64 (1:Int) _
  exact wU (by omega) (by omega) (ckF (hq _ _ _ rfl))
def aYf:Con
 | [.agg [.str a,.str b,.str c,.lst 0 hl hn 1,.lst 0 tl tn 3,.int .i64 0,.int .i64 0,.int .i64 (-1),.int .u64 0],.str s],H,K=>∃ (hid:List Int) (mk:Bool) (ty sq ti:Int) (cs:List Int) (exc:List Md.Xt) (pad:Int) (pl:List UInt8) (w:List Tr) (z:Int),
   Lf ((hl=aB hid∧hn=hid.length∧tl=trM w∧tn=w.length∧s=uG mk ty sq ti 1 cs exc pad pl a b z)∧(bAh w∧bU a b c hid w 0 0 (-1) 0=true∧Md.rightM ty sq ti 1 cs exc pad=true∧(Md.encM mk ty sq ti 1 cs exc pad pl).length≤1184)∧z=dB (eF w) sq∧0≤z∧z≤281474976710655) ∧
   ((Lf (fH (eF w) z (jM w)=true)∧K (.ret (.tup [.agg [.str [],.str [],.str [],.lst 0 [] 0 1,.lst 0 [] 0 3,.int .i64 0,.int .i64 0,.int .i64 0,.int .u64 0],.agg [.bool false,.int .i64 0,.int .i64 0,.int .i64 0,.int .i64 0,.nils,.nils,.int .i64 0,.str []],.int .i64 10])) H) ∨
    (Lf (fH (eF w) z (jM w)=false)∧∀ (ex:List Md.Xt) (t:Tr),Lf (ex=cZ hid c b 1 z exc∧t=jH w z)→K (.ret (.tup [shV 0 0 a b c hid [t] 0 0 (-1) 0,.agg [.bool mk,.int .i64 ty,.int .i64 sq,.int .i64 ti,.int .i64 1,.lst 0 (aB cs) cs.length 1,.lst 0 (Md.cellsXM ex) ex.length 2,.int .i64 pad,.str pl],.int .i64 0])) H))
 | _,_,_=>False
theorem bAu:aF Tryz.prog gl0 28 aYf:=by
 refine fF (enters_of (by kernel_rfl)) aM 9 shK aOy fun args H Q hc => ?_
 unfold aYf at hc
 split at hc
 ·rename_i a b c hl hn tl tn s
  obtain ⟨hid,mk,ty,sq,ti,cs,exc,pad,pl,w,z,⟨⟨rfl,rfl,rfl,rfl,rfl⟩,⟨hw,h1,h2,h3⟩,h4,h5,h6⟩,hq⟩:=hc
  rcases hw with rfl | ⟨top,seen,rfl,ht,hs⟩
  ·have hq':=fun (v:AV) (H':List Blk) (g:Gh) (ho:bCh v H'=.tup [shV 0 0 a b c hid [jH [] z] 0 0 (-1) 0,.agg [.bool mk,.int .i64 ty,.int .i64 sq,.int .i64 ti,.int .i64 1,.lst 0 (aB cs) cs.length 1,.lst 0 (Md.cellsXM (cZ hid c b 1 z exc)) (cZ hid c b 1 z exc).length 2,.int .i64 pad,.str pl],.int .i64 0])=>
    (show ∃v',Out.ret v=Out.ret v'∧Q (.ret (shK (bW 0 H' 9 v'))) H from ⟨v,rfl,by
     have e:shK (bW 0 H' 9 v)=_:=ho
     rw[e]
     rcases hq with ⟨⟨h⟩,_⟩ | ⟨_,hq⟩
     ·simp[fH,eF] at h
     ·exact hq _ _ ⟨rfl,rfl⟩⟩)
   obtain ⟨hv,hb',h⟩:=aS3 (Q:=fun o H' _=>∃v,o=.ret v∧Q (.ret (shK (bW 0 H' 9 v))) H) (iR h1) h2 h3 h1 h4 h5 h6 hq'
   exact ⟨rfl,rfl,_,1000,aT aF3 (fun _=>none) hv hb',rfl,h⟩
  ·obtain ⟨hv,hb',h⟩:=aTl (Q:=fun o H' _=>∃v,o=.ret v∧Q (.ret (shK (bW 0 H' 9 v))) H) (iR h1) h2 h3 h1 ht hs h4 h5 h6
    (fun ho g=>⟨_,rfl,by
     rcases hq with ⟨_,hq⟩ | ⟨⟨h⟩,_⟩
     ·exact hq
     ·rw[show fH (eF [(1,top,seen)]) z (jM [(1,top,seen)])=fH top z seen from rfl,ho] at h
      cases h⟩)
    (fun hf v H' g ho=>⟨v,rfl,by
     have e:shK (bW 0 H' 9 v)=_:=ho
     rw[e]
     rcases hq with ⟨⟨h⟩,_⟩ | ⟨_,hq⟩
     ·rw[show fH (eF [(1,top,seen)]) z (jM [(1,top,seen)])=fH top z seen from rfl,hf] at h
      cases h
     ·exact hq _ _ ⟨rfl,rfl⟩⟩)
   exact ⟨rfl,rfl,_,1000,aT aF3 (fun _=>none) hv hb',rfl,h⟩
 ·exact hc.elim
end Go.Proofs.YtnhechnaemmdiaaGreatDoor
