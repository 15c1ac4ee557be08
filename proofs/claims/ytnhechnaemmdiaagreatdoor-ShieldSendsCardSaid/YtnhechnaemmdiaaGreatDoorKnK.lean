/-
  Chapter 4: products and carries in limbs: one step each.
-/
import Derived.Test.YtnhechnaemmdiaaGreatDoorKnJ
set_option linter.unusedSimpArgs false
set_option linter.unusedVariables false
namespace Go.Proofs.YtnhechnaemmdiaaGreatDoor
open Go.RowKit
set_option maxRecDepth 1000000

section
variable {S:Prop} {A B C x y p r q m:Nat} {M:Int} {K:Int->Prop} {K2:Int->Int->Prop}
theorem wN(h:x<18446744073709551616)(k:K (x:Int)){y:Int}(hy:y=(x:Int)):exW .u64 y K:=aMf h k hy
theorem adI(hS:S)(hx:x<=A)(hy:y<=B)(h:A+B<18446744073709551616)(k:∀z:Nat,z=x+y->z<=A+B->K z):exW .u64 ((x:Int)+(y:Int)) λn=>S∧K n:=wN (x:=x+y) (by omega) ⟨hS,k _ rfl (by omega)⟩ (by omega)
theorem mdI(hS:S)(hp:p<=A)(hx:x<=B)(hr:r<=C)(h:A+B*C<18446744073709551616)(k:∀z:Nat,z=p+x*r->z<=A+B*C->K z):exW .u64 ((x:Int)*(r:Int)) λn=>exW .u64 ((p:Int)+n) λm=>S∧K m:=by
 have e:=cAe hx hr
 exact wN (x:=x*r) (by omega) (wN (x:=p+x*r) (by omega) ⟨hS,k _ rfl (by omega)⟩ (by simp)) (by simp)
theorem md0(hS:S)(hx:x<=B)(hr:r<=C)(h:B*C<18446744073709551616)(k:∀z:Nat,z=x*r->z<=B*C->K z):exW .u64 ((x:Int)*(r:Int)) λn=>exW .u64 (0+n) λm=>S∧K m:=by
 have e:=cAe hx hr
 exact wN (x:=x*r) (by omega) (wN (x:=x*r) (by omega) ⟨hS,k _ rfl (by omega)⟩ (by simp)) (by simp)
theorem md5(hS:S)(hp:p<=A)(hx:x<=B)(hr:r<=C)(h:A+5*B*C<18446744073709551616)(h2:5*B<18446744073709551616)(k:∀z:Nat,z=p+5*x*r->z<=A+5*B*C->K z):exW .u64 (5*(x:Int)) λl=>exW .u64 (l*(r:Int)) λn=>exW .u64 ((p:Int)+n) λm=>S∧K m:=by
 have e:=cAe (cAt 5 hx) hr
 exact wN (x:=5*x) (by omega) (wN (x:=5*x*r) (by omega) (wN (x:=p+5*x*r) (by omega) ⟨hS,k _ rfl (by omega)⟩ (by simp)) (by simp)) (by simp)
theorem bNj(h:x<18446744073709551616):((((x:Int)%18446744073709551616).toNat &&& 67108863:Nat):Int)=((x%67108864:Nat):Int):=by
 rw[aBc h,show(67108863:Nat)=2^26-1 from rfl,bY2]
theorem cy0(hx:x<=A)(h:A<18446744073709551616)(k:∀q r:Nat,x=67108864*q+r->q<=A/67108864->r<=67108863->K2 q r):exI .u64 (Int.fdiv (x:Int) 67108864) λq=>exW .u64 ((((x:Int)%18446744073709551616).toNat &&& 67108863:Nat):Int) λr=>K2 q r:=
 ⟨_,by rw[aEn x 67108864 67108864 rfl],wN (x:=x%67108864) (by omega) (k _ _ (cC0 _ _).symm (cBy hx) (by omega)) (bNj (by omega))⟩
theorem cyI(hx:x<=A)(hy:y<=B)(h:A+B<18446744073709551616)(k:∀q r:Nat,x+y=67108864*q+r->q<=(A+B)/67108864->r<=67108863->K2 q r):exW .u64 ((x:Int)+(y:Int)) λz=>exI .u64 (Int.fdiv z 67108864) λq=>exW .u64 (((z%18446744073709551616).toNat &&& 67108863:Nat):Int) λr=>K2 q r:=
 wN (x:=x+y) (by omega) (cy0 (A:=A+B) (by omega) h k) (by omega)
theorem cyZ(hx:x<=A)(h:A<18446744073709551616)(k:∀q r:Nat,x=67108864*q+r->q<=A/67108864->r<=67108863->K2 q r):exW .u64 ((x:Int)+0) λz=>exI .u64 (Int.fdiv z 67108864) λq=>exW .u64 (((z%18446744073709551616).toNat &&& 67108863:Nat):Int) λr=>K2 q r:=
 wN (x:=x) (by omega) (cy0 hx h k) (by omega)
theorem c5I(hS:S)(hx:x<=A)(hy:y<=B)(h:A+5*B<18446744073709551616)(k:∀z:Nat,z=x+5*y->z<=A+5*B->K z):exW .u64 (5*(y:Int)) λn=>exW .u64 ((x:Int)+n) λz=>S∧K z:=
 wN (x:=5*y) (by omega) (wN (x:=x+5*y) (by omega) ⟨hS,k _ rfl (by omega)⟩ (by simp)) (by simp)
theorem cyL(hx:x<=A)(hy:y<=B)(h:A<18446744073709551616)(h2:B+A/67108864<18446744073709551616)(k:∀q r w:Nat,x=67108864*q+r->w=y+q->w<=B+A/67108864->r<=67108863->K2 w r):exI .u64 (Int.fdiv (x:Int) 67108864) λq=>exW .u64 ((y:Int)+q) λw=>exW .u64 ((((x:Int)%18446744073709551616).toNat &&& 67108863:Nat):Int) λr=>K2 w r:=by
 have e:=cBy (c:=67108864) hx
 exact⟨_,by rw[aEn x 67108864 67108864 rfl],wN (x:=y+x/67108864) (by omega) (wN (x:=x%67108864) (by omega) (k _ _ _ (cC0 _ _).symm rfl (by omega) (by omega)) (bNj (by omega))) (by omega)⟩
theorem byI(hx:x<=A)(k:∀q r:Nat,x=256*q+r->r<=255->q<=A/256->K2 r q):exW .u8 (x:Int) λy=>exI .u64 (Int.fdiv (x:Int) 256) λw=>K2 y w:=
 ⟨_,by rw[jK],_,by rw[aEn x 256 256 rfl],k _ _ (cC0 _ _).symm (by omega) (cBy hx)⟩
theorem muO(b:Nat)(hM:M=((2^b:Nat):Int))(hx:x<=A)(hp:p<=B)(hb:B<2^b)(h:B+A*2^b<18446744073709551616)(k:∀w:Nat,w=p+x*2^b->w<=B+A*2^b->K w) :
  exW .u64 ((x:Int)*M) λv=>exW .u64 ((((p:Int)%18446744073709551616).toNat ||| (v%18446744073709551616).toNat:Nat):Int) λw=>K w:=by
 have e:=bZf (2^b) hx
 refine wN (x:=x*2^b) (by omega) (wN (x:=p+x*2^b) (by omega) (k _ rfl (by omega)) ?_) (by rw[hM];simp)
 rw[aBc (by omega),aBc (by omega),aWj b (cBm hp hb) (cCw _ _)]
end
end Go.Proofs.YtnhechnaemmdiaaGreatDoor

namespace Go.Proofs.YtnhechnaemmdiaaGreatDoor
open Go.RowKit
set_option maxRecDepth 1000000

def mR(l:LA)(j:Nat)(m:UInt8):LA:=l.set j (l.getD j 0 &&& m)
def aJv(l:LA):LA:=mR (mR (mR (mR (mR (mR (mR l 3 (.ofNat 15)) 7 (.ofNat 15)) 11 (.ofNat 15)) 15 (.ofNat 15)) 4 (.ofNat 252)) 8 (.ofNat 252)) 12 (.ofNat 252)
def aO3:Nat->Nat->LA
 | 0,_=>[]
 | n+1,x=>UInt8.ofNat (x%256)::aO3 n (x/256)
def bBo(key s:LA):LA:=aO3 16 ((xU (iH (aJv (key.take 16))) s.length 0 s+iH (key.drop 16))%340282366920938463463374607431768211456)

theorem bWt(a:UInt8)(M:Nat)(hm:M<256):IntKind.wrap .u8 ((((a.toNat:Int)%256).toNat &&& M:Nat):Int)=((a &&& UInt8.ofNat M).toNat:Int):=by
 have h1:((a.toNat:Int)%256).toNat=a.toNat:=by have:=a.toNat_lt;omega
 have h2:(a &&& UInt8.ofNat M).toNat=a.toNat &&& M:=by rw[UInt8.toNat_and,UInt8.toNat_ofNat_of_lt' hm]
 rw[h1,jK,h2]
 congr 1
 exact bZh (cBm Nat.and_le_left a.toNat_lt)
theorem nI(l:LA)(j:Nat)(m:UInt8):(mR l j m).length=l.length:=by simp[mR]
theorem bAs(τ:Nat)(H:HV)(d:Nat)(xs:LA){n:Nat}(hn:n=xs.length):List.map (λx=>bU τ H (d+1) x) (List.take (n*1) (List.drop 0 (ofBytes xs)))=ofBytes xs:=by
 subst hn
 rw[bXl,cAc,bW4 (by rw[dO];omega)]
 unfold ofBytes
 rw[cA0]
 rfl
theorem aH5{n a b c d e:Nat}(hn:n<1361129467683753853853498429727072845824)(h:mE n=[a,b,c,d,e]):n=rJ a b c d e∧a<=67108863∧b<=67108863∧c<=67108863∧d<=67108863∧e<=67108863:=by
 simp only[mE,bZp,cA6]at h
 obtain⟨h0,h1,h2,h3,h4⟩:=h
 unfold rJ
 refine⟨?_, ?_, ?_, ?_, ?_, ?_⟩<;>omega

theorem aPf{V N X R o c l c':Nat}(hx:V+N=X)(h1:X*R=o+pM*c)(h2:o=l+pM*c'):((V%pM+N)*R)%pM=l%pM:=by
 have e:((V%pM+N)*R)%pM=((V+N)*R)%pM:=by
  rw[Nat.mul_mod,Nat.add_mod,Nat.mod_mod,←Nat.add_mod,←Nat.mul_mod]
 rw[e,hx,h1,h2,cAf,cAf]
theorem aWl(r h:Nat):∀f,xU r f h []=h
 | 0=>rfl
 | f+1=>by rw[xU,if_pos rfl]
theorem dN{b:Nat}(hb:b<=255)(n y:Nat):aO3 (n+1) (b+256*y)=UInt8.ofNat b::aO3 n y:=by
 rw[aO3,show(b+256*y)%256=b by omega,show(b+256*y)/256=y by omega]
theorem bK4{x w y0 y1 y2 y3 y4 y5 y6 y7 y8 y9 y10 y11 y12 y13 y14 y15:Nat}(h:x=(y0+256*(y1+256*(y2+256*(y3+256*(y4+256*(y5+256*(y6+256*(y7+256*(y8+256*(y9+256*(y10+256*(y11+256*(y12+256*(y13+256*(y14+256*(y15))))))))))))))))+340282366920938463463374607431768211456*w)
  (c0:y0<=255) (c1:y1<=255) (c2:y2<=255) (c3:y3<=255) (c4:y4<=255) (c5:y5<=255) (c6:y6<=255) (c7:y7<=255) (c8:y8<=255) (c9:y9<=255) (c10:y10<=255) (c11:y11<=255) (c12:y12<=255) (c13:y13<=255) (c14:y14<=255) (c15:y15<=255):aO3 16 (x%340282366920938463463374607431768211456)=[y0,y1,y2,y3,y4,y5,y6,y7,y8,y9,y10,y11,y12,y13,y14,y15].map UInt8.ofNat:=by
 have e:y15=y15+256*0:=by omega
 rw[h,cAf,bZh (by omega),dN c0,dN c1,dN c2,dN c3,dN c4,dN c5,dN c6,dN c7,dN c8,dN c9,dN c10,dN c11,dN c12,dN c13,dN c14,e,dN c15]
 simp[aO3]
theorem aC7(y:Nat):toB (.int .u8 (y:Int))=UInt8.ofNat y:=by simp[toB]
theorem bH6{V key s f R x}(g3:xU R f (V%pM) []=xU R s.length 0 s)(hR:R=iH (aJv (List.take 16 key)))(hx:x=V%pM+iH (List.drop 16 key)):aO3 16 (x%340282366920938463463374607431768211456)=bBo key s:=by
 rw[aWl]at g3
 rw[bBo,hx,g3,hR]

set_option maxHeartbeats 4000000 in
theorem outT{m0 m1 m2 m3 m4 x:Nat}{ks st:LA}{Q:BS}(b0:m0<=67108864)(b1:m1<=67108864)(b2:m2<=67108864)(b3:m3<=67108864)(b4:m4<=67108864)(hks:iH ks<1361129467683753853853498429727072845824)(hx:x=rJ m0 m1 m2 m3 m4+iH ks)
  (hq:Q (.ret (.str (aO3 16 (x%340282366920938463463374607431768211456)))) [] ⟨0,1,[]⟩):bTm ks m0 st m1 m2 m3 m4 Q:=by
 rintro a b c d e ⟨hk⟩
 have hS:aLu st:=by simp[fG]
 obtain⟨hvK,d0,d1,d2,d3,d4⟩:=aH5 hks hk
 refine adI hS b0 d0 (by decide) λt0 e0 c0=>adI hS b1 d1 (by decide) λt1 e1 c1=>adI hS b2 d2 (by decide) λt2 e2 c2=>adI hS b3 d3 (by decide) λt3 e3 c3=>adI hS b4 d4 (by decide) λt4 e4 c4=>cyZ c0 (by decide) λq0 r0 f0 g0 h0 => ?_
 refine wN (x:=r0) (by omega) (wN (x:=r0) (by omega) (byI h0 λw0 y0 i0 j0 k0=>byI k0 λw1 y1 i1 j1 k1=>byI k1 λw2 y2 i2 j2 k2 => ?_) (by rw[aOi,aBc (by omega),Nat.zero_or])) (by omega)
 refine cyI c1 g0 (by decide) λq1 r1 f1 g1 h1=>muO 2 rfl h1 k2 (by decide) (by decide) λv1 l1 n1=>byI n1 λw3 y3 i3 j3 k3=>byI k3 λw4 y4 i4 j4 k4=>byI k4 λw5 y5 i5 j5 k5 => ?_
 refine cyI c2 g1 (by decide) λq2 r2 f2 g2 h2=>muO 4 rfl h2 k5 (by decide) (by decide) λv2 l2 n2=>byI n2 λw6 y6 i6 j6 k6=>byI k6 λw7 y7 i7 j7 k7=>byI k7 λw8 y8 i8 j8 k8 => ?_
 refine cyI c3 g2 (by decide) λq3 r3 f3 g3 h3=>muO 6 rfl h3 k8 (by decide) (by decide) λv3 l3 n3=>byI n3 λw9 y9 i9 j9 k9=>byI k9 λwa y10 ia ja ka=>byI ka λwb y11 ib jb kb=>byI kb λwc y12 ic jc kc => ?_
 refine cyI c4 g3 (by decide) λq4 r4 f4 g4 h4=>muO 0 rfl h4 kc (by decide) (by decide) λv4 l4 n4=>byI n4 λwd y13 id jd kd=>byI kd λwe y14 ie je ke=>byI ke λwf y15 jf jg kf=>⟨_,rfl, ?_⟩
 simp only[aC7]
 rw[bK4 (w:=wf+4*q4) ?_ j0 j1 j2 j3 j4 j5 j6 j7 j8 j9 ja jb jc jd je jg]at hq
 ·exact hq
 rw[hx,hvK]
 clear hx hvK hq g0 g1 g2 g3 g4 h0 h1 h2 h3 h4 j0 j1 j2 j3 j4 j5 j6 j7 j8 j9 ja jb jc jd je jg k0 k1 k2 k3 k4 k5 k6 k7 k8 k9 ka kb kc kd ke kf n1 n2 n3 n4 b0 b1 b2 b3 b4 c0 c1 c2 c3 c4 d0 d1 d2 d3 d4
 simp only[rJ]
 omega
theorem aDy{o0 o1 o2 o3 o4 q0 q1 q2 q3 q4 l0 l1 l2 l3 l4 z0 t0 t1 t2 t3 t4 u0 u1 u2 u3 u4 z1 t5 n0 n1:Nat}(f0:o0=67108864*q0+l0)(f1:o1+q0=67108864*q1+l1)(f2:o2+q1=67108864*q2+l2)(f3:o3+q2=67108864*q3+l3)(f4:o4+q3=67108864*q4+l4)(i0:z0=l0+5*q4)
  (v0:z0=67108864*t0+u0) (v1:l1+t0=67108864*t1+u1) (v2:l2+t1=67108864*t2+u2) (v3:l3+t2=67108864*t3+u3) (v4:l4+t3=67108864*t4+u4) (i1:z1=u0+5*t4) (v5:z1=67108864*t5+n0) (i2:n1=u1+t5):rJ o0 o1 o2 o3 o4=rJ n0 n1 u2 u3 u4+pM*(q4+t4):=by
 unfold rJ pM;omega
theorem bFs(x0 x1 x2 x3 x4 r0 r1 r2 r3 r4:Nat):∃c,rJ x0 x1 x2 x3 x4*rJ r0 r1 r2 r3 r4=rJ (x0*r0+5*x1*r4+5*x2*r3+5*x3*r2+5*x4*r1) (x0*r1+x1*r0+5*x2*r4+5*x3*r3+5*x4*r2) (x0*r2+x1*r1+x2*r0+5*x3*r4+5*x4*r3) (x0*r3+x1*r2+x2*r1+x3*r0+5*x4*r4) (x0*r4+x1*r3+x2*r2+x3*r1+x4*r0)+pM*c:=
 ⟨(x1*r4+x2*r3+x3*r2+x4*r1)*1+(x2*r4+x3*r3+x4*r2)*67108864+(x3*r4+x4*r3)*4503599627370496+(x4*r4)*302231454903657293676544,by grind [rJ,pM]⟩
set_option maxHeartbeats 4000000 in
theorem bJg(key s rb:LA)(r0 r1 r2 r3 r4:Nat)(hkey:key.length=32)(hrb:aJv (key.take 16)=rb)(hr:mE (iH rb)=[r0,r1,r2,r3,r4])(Q:BS)(hq:Q (.ret (.str (bBo key s))) [] ⟨0,1,[]⟩):∃hv hb,aGn hv hb rb r0 r1 r2 r3 r4 key s Q:=by
 obtain⟨hv,hb',e⟩:∃hv hb,aGn hv hb rb r0 r1 r2 r3 r4 key s Q=_:=⟨_,_,bVi rb r0 r1 r2 r3 r4 key s Q⟩
 refine⟨hv,hb',e.mpr ?_⟩
 delta aDm aU6 aE4 yO bDo bFi aZb aXc aMr aGp aOv aRa bQj jX bIt bD6 aMk gI aOi aIv pR aYb aTd
 clear e
 have hk16:(key.take 16).length=16:=by simp[hkey]
 refine ckI (by rw[hkey];rfl) ⟨_,rfl, ?_⟩
 rw[bXl]
 have hkeep:=hrb
 generalize hl:key.take 16=l at *
 iterate 7
  refine ckI (by simp[dO,nI,hk16]) (ckI (by simp[dO,nI,hk16]) (ldB (by simp[nI,hk16]) rfl ⟨_,by rw[bWt _ _ (by decide)],ckI (by simp[dO,nI,hk16]) (ckI (by simp[dO,nI,hk16]) ⟨by simp[fG], ?_⟩)⟩))
  rw[stB (by simp[nI,hk16]) rfl,←mR]
 rw[aJv]at hrb
 rw[hrb]
 have hb16:rb.length=16:=by rw[←hrb];simp[nI,hk16]
 have hR:=aDr rb
 rw[hb16,show(2:Nat)^(8*16)=340282366920938463463374607431768211456 from rfl]at hR
 obtain⟨hvR,hr0,hr1,hr2,hr3,hr4⟩:=aH5 (by omega) hr
 refine ckI (by simp[dO,hb16,hk16]) ⟨rb,⟨bAs _ _ _ _ (by omega),by omega,by omega,by omega⟩, ?_⟩
 have hv0:rJ 0 0 0 0 0%pM=0:=by decide
 intro a b c d e he
 have he2:=he.h.symm.trans hr
 simp only[bZp,cA6]at he2
 obtain⟨rfl,rfl,rfl,rfl,rfl⟩:=he2
 refine⟨⟨(s,s.length,0,0,0,0,0),⟨bXe _,bXe _,bYb _,bYb _,bYb _,bYb _,bYb _,by rw[hv0]⟩, ?_⟩, ?_⟩
 ·rw[fG]
  simp
 rintro⟨q,f,a0,a1,a2,a3,a4⟩ ⟨hf1,hf2,ha0,ha1,ha2,ha3,ha4,g5⟩
 dsimp only at *
 refine⟨_,rfl,aH (λhgt => ?_) (λhle => ?_)⟩
 ·have him:aR2 (q.length:Int) 16=((q.take 16).length:Int):=by
   rw[bXg]
   unfold aR2
   split<;>omega
  refine⟨_,rfl,_,rfl, ?_⟩
  rw[him]
  refine ckI (by first | rfl | (simp[aD,bXg]<;>omega)) ⟨q.take 16, ?_, ?_⟩
  ·rw[bXl,bXf,cCg,bXg]
   congr 1
   rw[List.take_eq_take_iff]
   omega
  ·have hPl:(q.take 16).length<=16:=by rw[bXg];omega
   have hPe:(q.take 16).length=min 16 q.length:=bXg
   have hS:iX (q.take 16):=by simp[fG]
   have hT:bEi (q.take 16):=by simp[fG]
   have hap:ofBytes (q.take 16)++[AV.int .u8 1]=ofBytes (q.take 16++[1]):=by simp[ofBytes]
   try dsimp only
   rw[hap]
   have hlB:=dO (q.take 16)
   have hlB2:=dO (q.take 16++[1])
   have hl1:(q.take 16++[1]).length=(q.take 16).length+1:=by simp
   have hN:iH (q.take 16++[1])<1361129467683753853853498429727072845824:=by
    have h1:=aDr (q.take 16++[1])
    have h2:=aDr (q.take 16)
    rw[aLk]
    have h3:(2:Nat)^(8*(q.take 16).length)<=2^128:=cA9 (by omega) (by omega)
    rw[show(2:Nat)^128=340282366920938463463374607431768211456 from rfl]at h3
    rw[show(1:UInt8).toNat=1 from rfl]
    omega
   refine ckI (by rw[hlB];simp;omega) (ckI (by rw[hlB2,hl1];simp) ⟨q.take 16++[1],⟨bAs _ _ _ _ hl1.symm,hl1.symm,by omega,hN⟩, ?_⟩)
   intro p0 p1 p2 p3 p4 hp
   obtain⟨hvN,hp0,hp1,hp2,hp3,hp4⟩:=aH5 hN hp.h
   refine adI hT ha0 hp0 (by decide) λx0 ex0 bx0=>adI hT ha1 hp1 (by decide) λx1 ex1 bx1=>adI hT ha2 hp2 (by decide) λx2 ex2 bx2=>adI hT ha3 hp3 (by decide) λx3 ex3 bx3=>adI hT ha4 hp4 (by decide) λx4 ex4 bx4 => ?_
   have hxs:rJ a0 a1 a2 a3 a4+iH (q.take 16++[1])=rJ x0 x1 x2 x3 x4:=by
    rw[hvN,ex0,ex1,ex2,ex3,ex4]
    unfold rJ
    omega
   clear ex0 ex1 ex2 ex3 ex4
   refine md0 hS bx0 hr0 (by decide) λp00 ep00 bp00=>md0 hS bx0 hr1 (by decide) λp01 ep01 bp01=>md0 hS bx0 hr2 (by decide) λp02 ep02 bp02=>md0 hS bx0 hr3 (by decide) λp03 ep03 bp03=>md0 hS bx0 hr4 (by decide) λp04 ep04 bp04=>⟨hS,mdI hS bp01 bx1 hr0 (by decide) λp10 ep10 bp10=>mdI hS bp02 bx1 hr1 (by decide) λp11 ep11 bp11=>mdI hS bp03 bx1 hr2 (by decide) λp12 ep12 bp12=>mdI hS bp04 bx1 hr3 (by decide) λp13 ep13 bp13=>md5 hS bp00 bx1 hr4 (by decide) (by decide) λp14 ep14 bp14=>⟨hS,mdI hS bp11 bx2 hr0 (by decide) λp20 ep20 bp20=>mdI hS bp12 bx2 hr1 (by decide) λp21 ep21 bp21=>mdI hS bp13 bx2 hr2 (by decide) λp22 ep22 bp22=>md5 hS bp14 bx2 hr3 (by decide) (by decide) λp23 ep23 bp23=>md5 hS bp10 bx2 hr4 (by decide) (by decide) λp24 ep24 bp24=>⟨hS,mdI hS bp21 bx3 hr0 (by decide) λp30 ep30 bp30=>mdI hS bp22 bx3 hr1 (by decide) λp31 ep31 bp31=>md5 hS bp23 bx3 hr2 (by decide) (by decide) λp32 ep32 bp32=>md5 hS bp24 bx3 hr3 (by decide) (by decide) λp33 ep33 bp33=>md5 hS bp20 bx3 hr4 (by decide) (by decide) λp34 ep34 bp34=>⟨hS,mdI hS bp31 bx4 hr0 (by decide) λp40 ep40 bp40=>md5 hS bp32 bx4 hr1 (by decide) (by decide) λp41 ep41 bp41=>md5 hS bp33 bx4 hr2 (by decide) (by decide) λp42 ep42 bp42=>md5 hS bp34 bx4 hr3 (by decide) (by decide) λp43 ep43 bp43=>md5 hS bp30 bx4 hr4 (by decide) (by decide) λp44 ep44 bp44=>⟨hS, ?_⟩⟩⟩⟩⟩
   obtain⟨c1,hmul⟩:=bFs x0 x1 x2 x3 x4 a b c d e
   rw[←ep00,←ep01,←ep02,←ep03,←ep04,←ep10,←ep11,←ep12,←ep13,←ep14,←ep20,←ep21,←ep22,←ep23,←ep24,←ep30,←ep31,←ep32,←ep33,←ep34,←ep40,←ep41,←ep42,←ep43,←ep44]at hmul
   clear ep00 ep01 ep02 ep03 ep04 ep10 ep11 ep12 ep13 ep14 ep20 ep21 ep22 ep23 ep24 ep30 ep31 ep32 ep33 ep34 ep40 ep41 ep42 ep43 ep44
   refine cyZ bp41 (by decide) λq0 l0 f0 g0 h0=>⟨hS,cyI bp42 g0 (by decide) λq1 l1 f1 g1 h1=>⟨hS,cyI bp43 g1 (by decide) λq2 l2 f2 g2 h2=>⟨hS,cyI bp44 g2 (by decide) λq3 l3 f3 g3 h3=>⟨hS,cyI bp40 g3 (by decide) λq4 l4 f4 g4 h4=>⟨hS,c5I hS h0 g4 (by decide) λz0 i0 j0 => ?_⟩⟩⟩⟩⟩
   refine cyZ j0 (by decide) λt0 u0 v0 w0 y0=>⟨hS,cyI h1 w0 (by decide) λt1 u1 v1 w1 y1=>⟨hS,cyI h2 w1 (by decide) λt2 u2 v2 w2 y2=>⟨hS,cyI h3 w2 (by decide) λt3 u3 v3 w3 y3=>⟨hS,cyI h4 w3 (by decide) λt4 u4 v4 w4 y4=>⟨hS,c5I hS y0 w4 (by decide) λz1 i1 j1=>cyL j1 y1 (by decide) (by decide) λt5 n0 n1 v5 i2 j2 y5=>⟨hS, ?_⟩⟩⟩⟩⟩⟩
   have hcar:=aDy f0 f1 f2 f3 f4 i0 v0 v1 v2 v3 v4 i1 v5 i2
   clear f0 f1 f2 f3 f4 g0 g1 g2 g3 g4 h0 h1 h2 h3 h4 i0 i1 i2 j0 j1 v0 v1 v2 v3 v4 v5 w0 w1 w2 w3 w4 y0 y1 bx0 bx1 bx2 bx3 bx4 ha0 ha1 ha2 ha3 ha4 bp00 bp01 bp02 bp03 bp04 bp10 bp11 bp12 bp13 bp14 bp20 bp21 bp22 bp23 bp24 bp30 bp31 bp32 bp33 bp34 bp40 bp41 bp42 bp43 bp44
   refine⟨hT,ckI (by first | rfl | (simp[aD,bXg]<;>omega)) ⟨q.drop 16, ?_, ?_⟩⟩
   ·rw[bXf,bXg]
    congr 1
    by_cases h16:q.length<=16
    ·rw[bX9 (by omega),bX9 h16,List.take_nil]
    ·rw[bYf (by omega),bW4 (by rw[bYt];omega)]
   ·obtain⟨f',rfl⟩:∃f',f=f'+1:=⟨f-1,by omega⟩
    have hne:q≠[]:=by intro h;rw[h]at hgt;simp at hgt
    rw[xU,if_neg hne]at g5
    rw[←hvR]at hmul
    rw[aPf hxs hmul hcar]at g5
    refine⟨?_,(q.drop 16,f',n0,n1,u2,u3,u4),⟨?_, ?_,bYh y5 (by decide),bYh j2 (by decide),bYh y2 (by decide),bYh y3 (by decide),bYh y4 (by decide),g5⟩, ?_, ?_⟩
    ·first | trivial | exact⟨rfl,rfl⟩
    ·show(q.drop 16).length<=f'
     rw[bYt];omega
    ·show f'<=s.length
     omega
    ·show f'<f'+1
     omega
    ·simp
 ·have hq0:q=[]:=bYq.1 (by omega)
  subst hq0
  refine cyZ ha0 (by decide) λq0 l0 f0 g0 h0=>⟨rfl,cyI ha1 g0 (by decide) λq1 l1 f1 g1 h1=>⟨rfl,cyI ha2 g1 (by decide) λq2 l2 f2 g2 h2=>⟨rfl,cyI ha3 g2 (by decide) λq3 l3 f3 g3 h3=>⟨rfl,cyI ha4 g3 (by decide) λq4 l4 f4 g4 h4=>⟨rfl,c5I rfl h0 g4 (by decide) λz0 i0 j0 => ?_⟩⟩⟩⟩⟩
  refine cyZ j0 (by decide) λt0 u0 v0 w0 y0=>⟨rfl,cyI h1 w0 (by decide) λt1 u1 v1 w1 y1=>⟨rfl,cyI h2 w1 (by decide) λt2 u2 v2 w2 y2=>⟨rfl,cyI h3 w2 (by decide) λt3 u3 v3 w3 y3=>⟨rfl,cyI h4 w3 (by decide) λt4 u4 v4 w4 y4=>⟨rfl,c5I rfl y0 w4 (by decide) λz1 i1 j1=>cyL j1 y1 (by decide) (by decide) λt5 n0 n1 v5 i2 j2 y5=>⟨rfl, ?_⟩⟩⟩⟩⟩⟩
  have hcar:=aDy f0 f1 f2 f3 f4 i0 v0 v1 v2 v3 v4 i1 v5 i2
  have hbl:rJ n0 n1 u2 u3 u4<2*1361129467683753853853498429727072845819:=by unfold rJ;omega
  have hVl:rJ a0 a1 a2 a3 a4%pM=rJ n0 n1 u2 u3 u4%pM:=by rw[hcar,cAf]
  replace y5:n0<=67108864:=bYh y5 (by decide)
  replace j2:n1<=67108864:=bYh j2 (by decide)
  replace y2:u2<=67108864:=bYh y2 (by decide)
  replace y3:u3<=67108864:=bYh y3 (by decide)
  replace y4:u4<=67108864:=bYh y4 (by decide)
  clear hcar f0 f1 f2 f3 f4 g0 g1 g2 g3 g4 h0 h1 h2 h3 h4 i0 i1 i2 j0 j1 v0 v1 v2 v3 v4 v5 w0 w1 w2 w3 w4 y0 y1
  refine wN (x:=n0+5) (by omega) (cyZ (A:=67108869) (by omega) (by decide) λc0 m0 d0 k0 s0=>cyI j2 k0 (by decide) λc1 m1 d1 k1 s1=>cyI y2 k1 (by decide) λc2 m2 d2 k2 s2=>cyI y3 k2 (by decide) λc3 m3 d3 k3 s3=>cyI y4 k3 (by decide) λcc m4 d4 k4 s4 => ?_) (by simp)
  have hmore:rJ n0 n1 u2 u3 u4+5=rJ m0 m1 m2 m3 m4+1361129467683753853853498429727072845824*cc:=by unfold rJ;omega
  have hbm:rJ m0 m1 m2 m3 m4<1361129467683753853853498429727072845824:=by unfold rJ;omega
  have hkl:(key.drop 16).length=16:=by rw[bYt];omega
  have hN:=aDr (key.drop 16)
  rw[hkl,show(2:Nat)^(8*16)=340282366920938463463374607431768211456 from rfl]at hN
  have hlB:=dO (key.drop 16)
  have htk:List.take (key.length-16) (List.drop 16 key)=List.drop 16 key:=bW4 (by rw[bYt];omega)
  have hE:∀x,x=rJ a0 a1 a2 a3 a4%pM+iH (key.drop 16)->Q (.ret (.str (aO3 16 (x%340282366920938463463374607431768211456)))) [] ⟨0,1,[]⟩:=λx hx=>by
   rw[bH6 g5 (by rw[hl,hkeep]) hx];exact hq
  refine aH (λhcc => ?_) (λhcc => ?_)
  ·refine ckI (by first | rfl | (simp[aD]<;>omega)) ⟨key.drop 16,by rw[htk],ckI (by rw[hlB];simp) ⟨key.drop 16,⟨bAs _ _ _ _ rfl,rfl,by omega,by omega⟩,outT (by omega) (by omega) (by omega) (by omega) (by omega) (by omega) rfl (hE _ ?_)⟩⟩
   rw[hVl,Nat.mod_eq_sub_mod (by unfold pM;omega),bZh (by unfold pM;omega)]
   unfold pM
   omega
  ·refine ckI (by first | rfl | (simp[aD]<;>omega)) ⟨key.drop 16,by rw[htk],ckI (by rw[hlB];simp) ⟨key.drop 16,⟨bAs _ _ _ _ rfl,rfl,by omega,by omega⟩,outT y5 j2 y2 y3 y4 (by omega) rfl (hE _ ?_)⟩⟩
   rw[hVl,bZh (by unfold pM;omega)]
end Go.Proofs.YtnhechnaemmdiaaGreatDoor
