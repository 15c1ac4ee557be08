/-
  Chapter 25: Protect, by a shield with at most one track.
-/
import Derived.Test.YtnhechnaemmdiaaGreatDoorK25TA
import Derived.Test.YtnhechnaemmdiaaGreatDoorK25TW
set_option linter.unusedSimpArgs false
set_option linter.unusedVariables false
set_option linter.unusedSectionVars false
namespace Go.Proofs.YtnhechnaemmdiaaGreatDoor
open Go.RowKit
set_option maxRecDepth 1000000

theorem wG (n:Nat):IntKind.wrap .u64 (n:Int)=((n%18446744073709551616:Nat):Int):=by
 rw[show IntKind.wrap .u64 (n:Int)=(n:Int)%18446744073709551616 from rfl];omega
structure pkF (a b c:List UInt8) (hid:List Int) (mk:Bool) (ty sq ti:Int) (cs:List Int) (ex:List Md.Xt) (pad:Int) (pl:List UInt8) (z:Int) (ex':List Md.Xt):Prop where
 n:a.length=32∧b.length=12∧c.length=32
 e:ex'=cZ hid c b 1 z ex
 k1:aJ7 mk ty sq ti 1 (aB cs) cs.length (Md.cellsXM ex) ex.length pad pl cs ex
 k2:aJ7 mk ty sq ti 1 (aB cs) cs.length (Md.cellsXM ex') ex'.length pad pl cs ex'
 m:hid.length≤1000000∧ex.length≤1000000∧(bC hid ex).length≤4096
 s:0≤sq∧sq≤65535
 l:(Md.encM mk ty sq ti 1 cs ex pad pl).length≤1184∧(Md.encM mk ty sq ti 1 cs ex' pad pl).length=(Md.encM mk ty sq ti 1 cs ex pad pl).length
 h:(Md.headM mk ty sq ti 1 cs ex' pad).length=(Md.headM mk ty sq ti 1 cs ex pad).length∧(Md.headM mk ty sq ti 1 cs ex pad).length+(pl++Md.padM pad).length=(Md.encM mk ty sq ti 1 cs ex pad pl).length
 t:(jW a (dG b 1 z) (Md.headM mk ty sq ti 1 cs ex' pad) (pl++Md.padM pad)).1.length=(pl++Md.padM pad).length+16
theorem xR {a b c:List UInt8} {hid:List Int} {mk:Bool} {ty sq ti:Int} {cs:List Int} {ex:List Md.Xt} {pad:Int} {pl:List UInt8} {z:Int} (hn:bO a b c hid=true) (hr:Md.rightM ty sq ti 1 cs ex pad=true) (hl:(Md.encM mk ty sq ti 1 cs ex pad pl).length≤1184) :
  pkF a b c hid mk ty sq ti cs ex pad pl z (cZ hid c b 1 z ex):=by
 obtain ⟨n1,n2,n3⟩:=oG hn
 have n4:=aU7 hn
 obtain ⟨⟨r1,r2⟩,r3,r4,r5,⟨r6,r7⟩,r8,r9⟩:=lV hr
 have hL:(Md.encM mk ty sq ti 1 cs ex pad pl).length=(Md.headM mk ty sq ti 1 cs ex pad).length+(pl++Md.padM pad).length:=by
  rw[Md.encM];simp only[bN8];omega
 have hpl:pl.length≤1184:=by rw[bN8] at hL;omega
 have hcat:=rQ hid mk ty sq ti 1 cs ex pad
 have hshp:=qP (hid:=hid) (mk:=c) (sa:=b) (ss:=1) (ix:=z) (ex:=ex) n3 n2 (by omega)
 obtain ⟨s1,s2,s3,_⟩:=qI (mk:=mk) (ty:=ty) (sq:=sq) (ti:=ti) (ss:=1) (cs:=cs) pad hshp
 have hr':=s2.trans hr
 have r5':=(lV hr').2.2.2.1
 generalize hx':cZ hid c b 1 z ex=ex' at *
 have hL':(Md.encM mk ty sq ti 1 cs ex' pad pl).length=(Md.encM mk ty sq ti 1 cs ex pad pl).length:=by
  rw[Md.encM,Md.encM];simp only[bN8,s1]
 have hno:=jS n2 1 z
 exact ⟨⟨n1,n2,n3⟩,hx'.symm,⟨⟨⟨rfl,rfl,rfl,rfl,by omega,by omega,fun x hx=>by have:=r5 x hx;omega⟩,by omega⟩,hr,by omega⟩,⟨⟨⟨rfl,rfl,rfl,rfl,by omega,by omega,fun x hx=>by have:=r5' x hx;omega⟩,by omega⟩,hr',by omega⟩,
  ⟨by omega,by omega,by omega⟩,⟨r1,r2⟩,⟨hl,hL'⟩,⟨s1,hL.symm⟩,tY n1 hno (by omega) (by omega)⟩
theorem aT2 {a b c:List UInt8} {hid:List Int} {top:Int} {seen:Nat} {t5 t6:Nat} {mk:Bool} {ty sq ti:Int} {cs:List Int} {ex:List Md.Xt} {pad:Int} {pl:List UInt8} {z:Int} {Q:Out→List Blk→Gh→Prop}
  (hn:bO a b c hid=true) (hr:Md.rightM ty sq ti 1 cs ex pad=true) (hl:(Md.encM mk ty sq ti 1 cs ex pad pl).length≤1184) (hv:bU a b c hid [(1,top,seen)] 0 0 (-1) 0=true) (ht:0≤top∧top≤281474976710655) (hs:seen<18446744073709551616)
  (hz:z=dB top sq) (h1:top<z) (h2:z≤281474976710655)
  (hq:∀v H g,bCh v H=.tup [shV 0 0 a b c hid [jH [(1,top,seen)] z] 0 0 (-1) 0,.str (uG mk ty sq ti 1 cs (cZ hid c b 1 z ex) pad pl a b z),.int .i64 0]→Q (.ret v) H g):∃hv hb,yD hv hb a b c hid top seen t5 t6 mk ty sq ti cs ex pad pl Q:=by
 have F:=xR (z:=z) hn hr hl
 generalize hx':cZ hid c b 1 z ex=ex' at *
 obtain ⟨⟨n1,n2,n3⟩,_,k1,k2,⟨m1,m2,m3⟩,⟨q1,q2⟩,⟨l1,l2⟩,⟨d1,d2⟩,d3⟩:=F
 have hok:aJa a b c (aB hid) hid.length [.int .i64 1,.int .i64 top,.int .u64 (seen:Nat)] 1 0 0 (-1) 0:=⟨hid,[(1,top,seen)],0,⟨rfl,rfl,rfl,rfl,rfl,by omega,fun t h=>by simp only[bOr,bOx,bP3] at h;subst h;exact ⟨⟨by dsimp only;omega,by dsimp only;omega⟩,hs⟩,by omega,by omega⟩,hv⟩
 have het:jH [(1,top,seen)] z=(1,z,seen*2^min (z-top).toNat 64%18446744073709551616 ||| 1):=by
  unfold jH
  rw[if_pos (show eF [(1,top,seen)]<z from h1)]
  rfl
 rw[het] at hq
 obtain ⟨hv,hb',e⟩:∃hv hb,yD hv hb a b c hid top seen t5 t6 mk ty sq ti cs ex pad pl Q=_:=⟨_,_,bGk a b c hid top seen t5 t6 mk ty sq ti cs ex pad pl Q⟩
 refine ⟨hv,hb',e.mpr ?_⟩
 delta pK aJh nA aH2 pJ iI nD aWy aHh aAb aGf aAl pG fV uV kV aPu uS vB aCs uT aPj uI aNg aRs aL9 aBy
 clear e
 refine ⟨⟨hok⟩,hid,⟨rfl,rfl,m1⟩,ckF ⟨⟨cs,ex,⟨k1⟩, ?_⟩,trivial⟩⟩
 rintro s3 ⟨rfl⟩
 refine ⟨_,rfl,aD (fun h=>absurd h (by omega)) (fun _=>⟨⟨⟨by omega,by omega⟩,q1,q2⟩, ?_⟩)⟩
 rintro z5 ⟨hz5⟩
 obtain rfl:z5=z:=hz5.trans hz.symm
 refine aD (fun h=>absurd h (by omega)) (fun _=>aD (fun h=>absurd h (by omega)) (fun _=>⟨⟨.inr ⟨6,3,1,rfl,by simp,rfl,rfl,by simp⟩⟩,hid,ex,⟨rfl,rfl,rfl,rfl,m1,m2,m3,n2,n3⟩, ?_⟩))
 rintro e8 ⟨h8⟩
 rw[hx'] at h8
 subst h8
 refine ⟨cs,e8,⟨k2⟩, ?_⟩
 rintro s11 ⟨rfl⟩
 refine ⟨_,rfl,ckI (by simp;omega) ⟨pl++Md.padM pad, ?_,⟨.inr ⟨6,3,1,rfl,by simp,rfl,rfl,by simp⟩⟩,⟨n2⟩, ?_⟩⟩
 ·rw[bOa,aGh _ _ _ _ _ _ _ _ _ d1,bOk (by omega)]
 rintro s14 ⟨rfl⟩
 refine ckF ?_
 rintro t15 e16 ⟨h15⟩
 have h15':t15=(jW a (dG b 1 z5) (Md.headM mk ty sq ti 1 cs e8 pad) (pl++Md.padM pad)).1:=by rw[h15]
 rw[←h15'] at d3
 refine aI (by omega) (by omega) (aD (fun _=>⟨_,rfl,Md.iminI (a:=(z5-top).toNat) (b:=64) (by omega) (ckI (by simp;try omega) ?_)⟩) (fun h=>absurd h (by omega)))
 generalize hM:min (z5-top).toNat 64=M at *
 refine ⟨((seen*2^M%18446744073709551616:Nat):Int), ?_,_,rfl,aI (by omega) (by omega) (ckI (by simp) ?_)⟩
 ·rw[bOa,show Min.min M 64=M by omega,show (seen:Int)*2^M=((seen*2^M:Nat):Int) by push_cast;rfl,wG]
 rw[bT1]
 refine wU (by decide) (by decide) ?_
 generalize hX:seen*2^M%18446744073709551616=X at *
 have hXl:X<2^64:=by rw[←hX];exact bRc _ (by omega)
 refine ⟨((X ||| 1:Nat):Int), ?_,ckI (by simp;omega) ⟨_,rfl,hq _ _ _ ?_⟩⟩
 ·have hor:X ||| 1<2^64:=bQa hXl (by omega)
  rw[show Int.toNat ((X:Int)%18446744073709551616)=X by omega,show Int.toNat (((1:Int)*2^Min.min (Int.toNat 0) 64)%18446744073709551616)=1 from rfl,wG,bPw hor]
 rw[h15']
 rfl
theorem aSa {a b c:List UInt8} {hid:List Int} {t5 t6:Nat} {mk:Bool} {ty sq ti:Int} {cs:List Int} {ex:List Md.Xt} {pad:Int} {pl:List UInt8} {z:Int} {Q:Out→List Blk→Gh→Prop}
  (hn:bO a b c hid=true) (hr:Md.rightM ty sq ti 1 cs ex pad=true) (hl:(Md.encM mk ty sq ti 1 cs ex pad pl).length≤1184) (hv:bU a b c hid [] 0 0 (-1) 0=true)
  (hz:z=dB (-1) sq) (h1 : -1<z) (h2:z≤281474976710655)
  (hq:∀v H g,bCh v H=.tup [shV 0 0 a b c hid [jH [] z] 0 0 (-1) 0,.str (uG mk ty sq ti 1 cs (cZ hid c b 1 z ex) pad pl a b z),.int .i64 0]→Q (.ret v) H g):∃hv hb,yY hv hb a b c hid t5 t6 mk ty sq ti cs ex pad pl Q:=by
 have F:=xR (z:=z) hn hr hl
 generalize hx':cZ hid c b 1 z ex=ex' at *
 obtain ⟨⟨n1,n2,n3⟩,_,k1,k2,⟨m1,m2,m3⟩,⟨q1,q2⟩,⟨l1,l2⟩,⟨d1,d2⟩,d3⟩:=F
 have hok:aJa a b c (aB hid) hid.length [] 0 0 0 (-1) 0:=⟨hid,[],0,⟨rfl,rfl,rfl,rfl,rfl,by omega,fun t h=>by simp at h,by omega,by omega⟩,hv⟩
 have het:jH [] z=(1,z,1):=by
  unfold jH
  rw[if_pos (show eF []<z from h1),jM,bQ3]
  rfl
 rw[het] at hq
 obtain ⟨hv,hb',e⟩:∃hv hb,yY hv hb a b c hid t5 t6 mk ty sq ti cs ex pad pl Q=_:=⟨_,_,bF1 a b c hid t5 t6 mk ty sq ti cs ex pad pl Q⟩
 refine ⟨hv,hb',e.mpr ?_⟩
 delta aJi aT3 vC aH8 aDm aHh kP aGf aAl aIh fV pJ aJh pK pG uV vD aJq kV aPu uS vB aCs uT aPj uI aNg aJk aL9 iI aEv aJx aBy
 clear e
 refine ⟨⟨hok⟩,hid,⟨rfl,rfl,m1⟩, ?_, ?_⟩ <;>
 ·refine ⟨cs,ex,⟨k1⟩, ?_⟩
  rintro s3 ⟨rfl⟩
  refine ⟨_,rfl,aD (fun h=>absurd h (by omega)) (fun _=>⟨⟨by omega,q1,q2⟩, ?_⟩)⟩
  rintro z5 ⟨hz5⟩
  obtain rfl:z5=z:=hz5.trans hz.symm
  refine aD (fun h=>absurd h (by omega)) (fun _=>aD (fun h=>absurd h (by omega)) (fun _=>⟨?_,hid,ex,⟨rfl,rfl,rfl,rfl,m1,m2,m3,n2,n3⟩, ?_⟩))
  ·first | exact ⟨.inr ⟨5,0,0,rfl,by simp,rfl,rfl,by simp⟩⟩ | exact ⟨.inl ⟨rfl,rfl⟩⟩
  rintro e8 ⟨h8⟩
  rw[hx'] at h8
  subst h8
  refine ⟨cs,e8,⟨k2⟩, ?_⟩
  rintro s11 ⟨rfl⟩
  refine ⟨_,rfl,ckI (by simp;omega) ⟨pl++Md.padM pad, ?_, ?_,⟨n2⟩, ?_⟩⟩
  ·rw[bOa,aGh _ _ _ _ _ _ _ _ _ d1,bOk (by omega)]
  ·first | exact ⟨.inr ⟨5,0,0,rfl,by simp,rfl,rfl,by simp⟩⟩ | exact ⟨.inl ⟨rfl,rfl⟩⟩
  rintro s14 ⟨rfl⟩
  refine ckF ?_
  rintro t15 e16 ⟨h15⟩
  have h15':t15=(jW a (dG b 1 z5) (Md.headM mk ty sq ti 1 cs e8 pad) (pl++Md.padM pad)).1:=by rw[h15]
  rw[←h15'] at d3
  refine aI (by omega) (by omega) (aD (fun _=>Md.iminI (a:=(z5+1).toNat) (b:=64) (by omega) (ckI (by simp;try omega) ?_)) (fun h=>absurd h (by omega)))
  rw[Int.zero_mul]
  refine wU (by omega) (by omega) (aI (by omega) (by omega) (ckI (by simp) ?_))
  rw[show (1:Int)*2^Min.min (Int.toNat (z5-z5)) 64=1 by rw[bT1];rfl]
  refine wU (by omega) (by omega) ?_
  show exW .u64 (1:Int) _
  refine wU (by omega) (by omega) (ckI (by simp;omega) ⟨_,rfl,hq _ _ _ ?_⟩)
  rw[h15']
  rfl
def bAh (w:List Tr):Prop:=w=[]∨∃ (top:Int) (seen:Nat),w=[(1,top,seen)]∧(0≤top∧top≤281474976710655)∧seen<18446744073709551616
theorem iR {a b c:List UInt8} {hid:List Int} {w:List Tr} {nx rs rt:Int} {rk:Nat} (h:bU a b c hid w nx rs rt rk=true):bO a b c hid=true:=by
 rw[bU,gU] at h
 simp only[bN9] at h
 exact h.1.1.1.1.1
def aK4:Con
 | [.agg [.str a,.str b,.str c,.lst 0 hl hn 1,.lst 0 tl tn 3,.int .i64 0,.int .i64 0,.int .i64 (-1),.int .u64 0],.agg [.bool mk,.int .i64 ty,.int .i64 sq,.int .i64 ti,.int .i64 1,.lst _ c5 n5 1,.lst _ c6 n6 2,.int .i64 pad,.str pl]],H,K=>∃ (hid cs:List Int) (ex:List Md.Xt) (w:List Tr) (z:Int),
   Lf ((hl=aB hid∧hn=hid.length∧c5=aB cs∧n5=cs.length∧c6=Md.cellsXM ex∧n6=ex.length∧tl=trM w∧tn=w.length)∧(bAh w∧bU a b c hid w 0 0 (-1) 0=true∧Md.rightM ty sq ti 1 cs ex pad=true∧(Md.encM mk ty sq ti 1 cs ex pad pl).length≤1184)∧z=dB (eF w) sq∧eF w<z∧z≤281474976710655) ∧
   ∀ (p:List UInt8) (t:Tr),Lf (p=uG mk ty sq ti 1 cs (cZ hid c b 1 z ex) pad pl a b z∧t=jH w z)→K (.ret (.tup [shV 0 0 a b c hid [t] 0 0 (-1) 0,.str p,.int .i64 0])) H
 | _,_,_=>False
theorem aQv:aF Tryz.prog gl0 24 aK4:=by
 refine fF (enters_of (by kernel_rfl)) aM 9 shK aOy fun args H Q hc => ?_
 unfold aK4 at hc
 split at hc
 ·rename_i a b c hl hn tl tn mk ty sq ti t5 c5 n5 t6 c6 n6 pad pl
  obtain ⟨hid,cs,ex,w,z,⟨⟨rfl,rfl,rfl,rfl,rfl,rfl,rfl,rfl⟩,⟨hw,h1,h2,h3⟩,h4,h5,h6⟩,hq⟩:=hc
  have hq':∀v H' (g:Gh),bCh v H'=.tup [shV 0 0 a b c hid [jH w z] 0 0 (-1) 0,.str (uG mk ty sq ti 1 cs (cZ hid c b 1 z ex) pad pl a b z),.int .i64 0]→∃v',Out.ret v=Out.ret v'∧Q (.ret (shK (bW 0 H' 9 v'))) H:=fun v H' g ho=>⟨v,rfl,by
   have e:shK (bW 0 H' 9 v)=_:=ho
   rw[e]
   exact hq _ _ ⟨rfl,rfl⟩⟩
  rcases hw with rfl | ⟨top,seen,rfl,ht,hs⟩
  ·obtain ⟨hv,hb',h⟩:=aSa (Q:=fun o H' _=>∃v,o=.ret v∧Q (.ret (shK (bW 0 H' 9 v))) H) (iR h1) h2 h3 h1 h4 h5 h6 hq'
   exact ⟨rfl,rfl,_,1000,aT aGx (fun _=>none) hv hb',rfl,h⟩
  ·obtain ⟨hv,hb',h⟩:=aT2 (Q:=fun o H' _=>∃v,o=.ret v∧Q (.ret (shK (bW 0 H' 9 v))) H) (iR h1) h2 h3 h1 ht hs h4 h5 h6 hq'
   exact ⟨rfl,rfl,_,1000,aT aGx (fun _=>none) hv hb',rfl,h⟩
 ·exact hc.elim
end Go.Proofs.YtnhechnaemmdiaaGreatDoor
