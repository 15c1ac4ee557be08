/-
  Chapter 24 at this seat: the environment of runs.
-/
import Derived.Test.YtnhechnaemmdiaaGreatDoorKnA
set_option linter.unusedSimpArgs false
set_option linter.unusedVariables false
namespace Go.Proofs.YtnhechnaemmdiaaGreatDoor.Cd
open Go.RowKit
set_option maxRecDepth 1000000

def hz24:List Nat:=[3702833,3711016,3711074,3711092,3719196,3719211,3719220,3719329,3719337,3727440,421927,3756040,3756067,3756070,3756074,3756076,3756096,798765,798771,168081,168097,614464,614472,614503,614510,614516,614521,385142,385207,385213,626779,626798,602132,393234,393241,393256,393273,393278,393283,393294,393334,393340,593950,593957,593964,802845,802864,802868,802872,802878,802900,802923,819229,819253,823343,823384,823406,831529,835619,835668,835672,598044,606232,606236,606240,606273,606287,757778,757800,933901,933907]
noncomputable def e24(sm:SM)(inv:Nat->Option (S->List (List LInv)))(hv:LI)(hb:LB):Env:=
 { fn:=λf=>bB7 Tryz.prog f,sm:=sm,gl:=gl0,inv:=inv,hv:=hv,hb:=hb,hz:=λk=>hz24.any (Nat.beq k) }
theorem pY:qO Tryz.prog=true:=jM
theorem qL:Tryz.prog.follows .mixedOrders=true:=jL
theorem bL{sm:SM}(h:∀f g,sm f=some g->aI Tryz.prog gl0 f g)(inv:Nat->Option (S->List (List LInv)))(hv:LI)(hb:LB):EnvFor Tryz.prog (e24 sm inv hv hb):=
 ⟨qL,pY,dH,h⟩
abbrev iO:=HB->HV->(Out->HV->Prop)->Prop
def fT:List (Nat×iO)->SM
 | [],_=>none
 | (k,c)::l,f=>bif Nat.beq f k then some c else fT l f
theorem dX:∀ (l:List (Nat×iO)),(∀p,p∈l->aI Tryz.prog gl0 p.1 p.2)->∀f g,fT l f=some g->aI Tryz.prog gl0 f g
 | [],_,f,g,h=>by simp[fT]at h
 | (k,c)::l,hl,f,g,h=>by
  simp only[fT]at h
  cases hk:Nat.beq f k
  ·rw[hk]at h
   exact dX l (λp hp=>hl p (by simp[hp])) f g h
  ·rw[hk]at h
   simp only[bXw,bW5]at h
   subst h
   obtain rfl:=bYg hk
   exact hl (f,c) (by simp)

theorem lT{xs:QT}{i j:Nat}(hi:i<xs.length){K:Int->Prop}(hk:K xs[i])(hj:j=i):∃n:Int,(aA xs).getD j AV.undef=AV.int .i64 n∧K n:=by
 subst hj
 exact⟨xs[j],by simp[aA,hi],hk⟩

def bW(bits n:Int):Bool:=decide (n<0)||(n.fdiv (2^min bits.toNat 64) !=0)
def bAo(t:Nat)(bits:Int)(xs:QT):LInv where
 α:=Nat
 pre i:=Lf (i<=xs.length∧(xs.take i).any (bW bits)=false)
 st i:=⟨mkT [(0,.lst t (aA xs) xs.length 1),(1,.fn (.func 226) [] [.ptr 0 1 0]),(7,.int .i64 xs.length),(8,.int .i64 i)],[⟨.exact,true,[.int .i64 bits]⟩]⟩
 mu i:=xs.length-i
noncomputable def aKv(hv:LI)(hb:LB)(t:Nat)(bits:Int)(xs:QT):Env:=
 e24 sm0 (λi=>bif Nat.beq i 231000 then some (λ_=>[[bAo t bits xs]])else none) hv hb
noncomputable def vD(hv:LI)(hb:LB)(t:Nat)(bits:Int)(xs:QT)(Q:BS):Prop:=
 aT (aKv hv hb t bits xs) (wpx (aKv hv hb t bits xs) 1000) 184 [.int .i64 bits,.lst t (aA xs) xs.length 1] [] {} Q
abbrev bRv(x_1:Nat)(xs:QT)(bits:Int):Prop:=Lf (x_1<=xs.length∧List.any (xs.take x_1) (bW bits)=Bool.false)
abbrev bQ3:Out:=.ret (.bool Bool.true)
theorem bFn(t:Nat)(bits:Int)(xs:QT)(Q:BS):vD (aW [(946183,.int .i64),(946186,.int .i64),(946191,.int .i64),(925705,.int .i64),(946194,.int .i64)]) (aV []) t bits xs Q =
 (exI .i64 (xs.length:Int) (λn_0=>(∃x_1:Nat,bRv x_1 xs bits∧aK [AV.int .i64 bits]∧aK (AV.lst t (aA xs) xs.length 1)∧aK (AV.fn (Fn.func 226) [] [.ptr 0 1 0])∧AV.int .i64 n_0=AV.int
 IntKind.i64 (xs.length:Int)∧AV.int .i64 0=AV.int .i64 (x_1:Int)∧True)∧∀x_1:Nat,bRv x_1 xs bits->bif decide ((x_1:Int)<(xs.length:Int))then exI .i64 (x_1:Int) (λn_2=>ckQ (decide (0<=n_2)
 && Nat.blt n_2.toNat xs.length&&Bool.true) (ckQ (Nat.blt (n_2.toNat*1) (aA xs).length) (exV IntKind.i64 ((aA xs).getD (n_2.toNat*1) AV.undef) (λn_3=>bif decide (n_3<0)then bif decide (n_2≥0)then Q (.ret (.bool
 Bool.false)) [] {}else Q bQ3 [] {}else ckQ (decide (0<=bits)&&Bool.true) (exI .i64 (Int.fdiv n_3 ((2:Int)^Min.min bits.toNat 64)) (λn_4=>bif n_4 !=0 then bif decide (n_2≥0)then Q (.ret (.bool Bool.false)) [] {}
 else Q bQ3 [] {}else exW .i64 ((x_1:Int)+1) (λn_5=>(True∧(0:Nat)=(0:Nat))∧∃y_6:Nat,bRv y_6 xs bits∧xs.length-y_6<xs.length-x_1∧aK [AV.int .i64 bits]∧aK (AV.lst t (aA xs) xs.length
 1)∧aK (AV.fn (Fn.func 226) [] [.ptr 0 1 0])∧aK (AV.int .i64 (xs.length:Int))∧AV.int .i64 n_5=AV.int .i64 (y_6:Int)∧True)))))))else Q bQ3 [] {})):=by kernel_rfl

theorem aBo{a b:Nat}(h:a<b):a.blt b=true:=by rw[aD];exact h
theorem iP(xs:QT):(aA xs).length=xs.length:=by simp[aA]

theorem aOh(t:Nat)(bits:Int)(xs:QT)(Q:BS)(hx:xs.length<=4611686018427387904)(hb:0<=bits)
  (hq:Q (.ret (.bool (!(xs.any (bW bits))))) [] {}):∃hv hb,vD hv hb t bits xs Q:=by
 obtain⟨hv,hb',e⟩:∃hv hb,vD hv hb t bits xs Q=_:=⟨_,_,bFn t bits xs Q⟩
 refine⟨hv,hb',e.mpr ?_⟩
 delta bRv bQ3
 clear e
 refine⟨_,rfl,⟨0,⟨⟨by omega,by simp⟩⟩,by simp⟩, ?_⟩
 rintro i ⟨hi,hany⟩
 refine dJ (λhlt => ?_) (λhge => ?_)
 ·have hlt':i<xs.length:=by simpa using hlt
  refine⟨_,rfl,ckI (by simp[Nat.blt];exact hlt') (ckI (aBo (by rw[iP];simpa using hlt')) (lT hlt' ?_ (by simp)))⟩
  have hstep:(xs.take (i+1)).any (bW bits)=bW bits xs[i]:=by
   rw[bYm,cCa,hany];simp[hlt']
  refine dJ (λhn => ?_) (λhn => ?_)
  ·have hbad:xs.any (bW bits)=true:=by
    rw[bZ8];exact⟨xs[i],bXk _,by simp[bW];left;simpa using hn⟩
   rw[hbad]at hq
   refine dJ (λ_=>hq) (λhc => ?_)
   simp at hc
  ·refine ckI (by simpa using hb) ⟨_,rfl,dJ (λhz => ?_) (λhz => ?_)⟩
   ·have hbad:xs.any (bW bits)=true:=by
     rw[bZ8];exact⟨xs[i],bXk _,by simp only[bW,bXh];right;exact hz⟩
    rw[hbad]at hq
    refine dJ (λ_=>hq) (λhc => ?_)
    simp at hc
   ·refine aF ⟨⟨trivial,rfl⟩,i+1,⟨⟨hlt', ?_⟩⟩,cBx _ _ hlt',by simp⟩
    rw[hstep,bW,hn,hz];rfl
 ·have hle:xs.length<=i:=by simpa using hge
  have:xs.take i=xs:=bW4 hle
  rw[this]at hany
  rw[hany]at hq
  exact hq

def aB0:iO
 | [.int .i64 bits,.lst _ l n 1],H,K=>∃xs:QT,Lf (l=aA xs∧n=xs.length∧0<=bits∧xs.length<=4611686018427387904)∧K (.ret (.bool (!(xs.any (bW bits))))) H
 | _,_,_=>False

theorem iY(xs:QT):bX (aA xs)=true∧aP 0 (aA xs)=true∧zZ (aA xs)=true:=by
 induction xs with
 | nil=>exact⟨rfl,rfl,rfl⟩
 | cons x xs ih=>exact⟨by simpa[aA,bX,noY]using ih.1,by simpa[aA,aP,old]using ih.2.1,by simpa[aA,zZ,noT]using ih.2.2⟩

theorem aNp:aI Tryz.prog gl0 184 aB0:=by
 refine aQ (enters_of (by kernel_rfl)) aO λargs H Q hc => ?_
 unfold aB0 at hc
 split at hc
 ·rename_i bits t l n
  obtain⟨xs,⟨rfl,rfl,hb,hl⟩,hq⟩:=hc
  obtain⟨hv,hb',h⟩:=aOh t bits xs (hx:=hl) (hb:=hb) (Q:=λo H' _=>H'=[]∧(∃v,o=.ret v∧old 0 v=true∧noY v=true)∧Q o H) ⟨rfl,⟨_,rfl,rfl,rfl⟩,hq⟩
  exact⟨rfl,rfl,_,1000,bL bY _ _ _,rfl,h⟩
 ·exact hc.elim
def aBh:iO:=λargs H Q=>qI [0,1] H args λa=>aB0 a H Q
theorem aEb:aI Tryz.prog gl0 184 aBh:=eG aNp aO [0,1] λargs H Q hc=>by
 unfold aB0 at hc
 split at hc
 ·obtain⟨xs,h,hq⟩:=hc
  exact⟨xs,h,rfl,⟨_,rfl,rfl⟩,hq⟩
 ·exact hc.elim
def smE:SM:=fT [(184,aBh)]
theorem aRf:∀f g,smE f=some g->aI Tryz.prog gl0 f g:=dX _ (by simp only[bXd,bXn,bY0,bY4];exact aEb)

def dI(b:Int):Int->QT->Bool
 | _,[]=>true
 | far,n::l=>if(n-b)%65536<=far∨32767<(n-b)%65536 then false else dI b ((n-b)%65536) l
def eT(xs:QT):Bool:=decide (1<=xs.length)&&decide (xs.length<=64) && !(xs.any (bW 16))&&dI (xs.getD 0 0) (-1) xs

def bBp(t:Nat)(xs:QT):LInv where
 α:=Nat×Int
 pre p:=Lf (xs.any (bW 16)=false∧1<=xs.length∧xs.length<=64∧p.1<=xs.length ∧ -1<=p.2∧p.2<=32767∧dI (xs.getD 0 0) (-1) xs=dI (xs.getD 0 0) p.2 (xs.drop p.1))
 st p:=⟨mkT [(0,.lst t (aA xs) xs.length 1),(3,.int .i64 p.2),(20,.lst t (aA xs) xs.length 1),(21,.int .i64 xs.length),(22,.int .i64 p.1)],[]⟩
 mu p:=xs.length-p.1
noncomputable def uV(hv:LI)(hb:LB)(t:Nat)(xs:QT)(Q:BS):Prop:=
 aT (e24 smE (λi=>bif Nat.beq i 187000 then some (λ_=>[[bBp t xs]])else none) hv hb) (wpx (e24 smE (λi=>bif Nat.beq i 187000 then some (λ_=>[[bBp t xs]])else none) hv hb) 1000) 187 [.lst t (aA xs) xs.length 1] [] {} Q
abbrev bJ6:Out:=.ret (.bool Bool.false)
abbrev bRp(xs:QT)(x_4:Nat×Int):Prop:=Lf (List.any xs (bW 16)=Bool.false∧1<=xs.length∧xs.length<=64∧x_4.1<=xs.length ∧ -1<=x_4.2∧x_4.2<=32767∧dI (xs.getD 0 0) (-1) xs=dI (xs.getD 0 0) x_4.2 (xs.drop x_4.1))
abbrev bPh(t:Nat)(xs:QT):Prop:=aK (AV.lst t (aA xs) xs.length 1)
theorem bHn(t:Nat)(xs:QT)(Q:BS):uV (aW [(765960,.int .i64),(765964,.int .i64),(765973,.int .i64),(765977,.int .i64),(765981,.int .i64),(765982,.int .i64),(765983,.int
 .i64),(765992,.int .i64)]) (aV []) t xs Q=(exI .i64 (xs.length:Int) (λn_0=>bif decide (n_0<1)then Q bJ6 [] {}else exI .i64 (xs.length:Int) (λn_1=>bif decide (n_1>64)then Q bJ6 [] {}else ∃xs_2 :
 QT,Lf (aA xs=aA xs_2∧xs.length=xs_2.length∧(0:Int)<=(16:Int)∧xs_2.length<=4611686018427387904)∧bif !List.any xs_2 (bW 16)then exI .i64 (xs.length:Int) (λn_3=>(∃x_4:Nat×Int,bRp xs
 x_4∧bPh t xs∧AV.int .i64 (-1)=AV.int .i64 x_4.2∧AV.int .i64 n_3=AV.int .i64 (xs.length:Int)∧bPh t xs∧AV.int .i64 0=AV.int .i64 (x_4.1:Int)∧True)∧∀x_4:Nat×Int,bRp xs
 x_4->bif decide ((x_4.1:Int)<(xs.length:Int))then ckQ (Nat.blt (x_4.1:Int).toNat xs.length&&Bool.true) (ckQ (Nat.blt ((x_4.1:Int).toNat*1) (aA xs).length) (exV IntKind.i64 ((aA xs).getD ((x_4.1:Int).toNat*1)
 AV.undef) (λn_5=>ckQ (Nat.blt 0 xs.length&&Bool.true) (ckQ (Nat.blt 0 (aA xs).length) (exV IntKind.i64 ((aA xs).getD 0 AV.undef) (λn_6=>exW .i64 (n_5-n_6) (λn_7=>exW .i64 (((n_7 %
 18446744073709551616).toNat &&& 65535:Nat):Int) (λn_8=>bif decide (n_8<=x_4.2)then Q bJ6 [] {}else bif decide (n_8>32767)then Q bJ6 [] {}else exW .i64 ((x_4.1:Int)+1) (λn_9=>(True∧(0:Nat)=(0:Nat))
 ∧ ∃y_10:Nat×Int,bRp xs y_10∧xs.length-y_10.1<xs.length-x_4.1∧bPh t xs∧AV.int .i64 n_8=AV.int .i64 y_10.2∧aK (AV.int .i64 (xs.length:Int))∧bPh t xs∧AV.int .i64 n_9=AV.int
 IntKind.i64 (y_10.1:Int)∧True)))))))))else Q (.ret (.bool Bool.true)) [] {})else Q bJ6 [] {}))):=by kernel_rfl

theorem bOb{z:Int}{K:Int->Prop}(h:K (z%65536)):∃n:Int,AV.int .i64 (IntKind.wrap .i64 (((z%18446744073709551616).toNat &&& 65535:Nat):Int))=AV.int .i64 n∧K n:=by
 refine⟨z%65536, ?_,h⟩
 have e1:((z%18446744073709551616).toNat &&& 65535)=(z%18446744073709551616).toNat%65536:=bY2 _ 16
 have e2:IntKind.wrap .i64 (((z%18446744073709551616).toNat%65536:Nat):Int)=z%65536:=by rw[cBe];omega
 rw[e1,e2]

theorem bDu{xs:QT}(h:xs.any (bW 16)=false){i:Nat}(hi:i<xs.length):0<=xs[i]∧xs[i]<=65535:=by
 have hb:bW 16 xs[i]=false:=by
  have:=cAp.1 h xs[i] (bXk hi)
  simpa using this
 simp only[bW,bXy,bXi]at hb
 have e:(2:Int)^min (16:Int).toNat 64=65536:=rfl
 rw[e]at hb
 have h2:xs[i].fdiv 65536=0:=by simpa using hb.2
 rw[bX3 _ (by omega)]at h2
 omega

theorem aSo(t:Nat)(xs:QT)(Q:BS)(hl:xs.length<=4611686018427387904)(hq:Q (.ret (.bool (eT xs))) [] {}):∃hv hb,uV hv hb t xs Q:=by
 obtain⟨hv,hb',e⟩:∃hv hb,uV hv hb t xs Q=_:=⟨_,_,bHn t xs Q⟩
 refine⟨hv,hb',e.mpr ?_⟩
 delta bJ6 bRp bPh
 clear e
 refine⟨_,rfl, ?_⟩
 refine dJ (λh1 => ?_) (λh1 => ?_)
 ·have:eT xs=false:=by
   simp only[bW6]at h1
   have h0:¬ 1<=xs.length:=by omega
   simp only[eT,bXt h0,bZi]
  rw[this]at hq;exact hq
 refine⟨_,rfl, ?_⟩
 refine dJ (λh2 => ?_) (λh2 => ?_)
 ·have:eT xs=false:=by
   simp only[gt_iff_lt,bW6]at h2
   have h0:¬ xs.length<=64:=by omega
   simp only[eT,bXt h0,bZi,cAd]
  rw[this]at hq;exact hq
 refine⟨xs,⟨rfl,rfl,by omega,hl⟩, ?_⟩
 refine dJ (λh3 => ?_) (λh3 => ?_)
 ·simp only[bXi,gt_iff_lt,Int.not_lt,bYc]at h1 h2 h3
  have hn:eT xs=dI (xs.getD 0 0) (-1) xs:=by
   simp only[eT,h3,Bool.not_false,bX4]
   rw[bXr (by omega),bXr (by omega)];rfl
  refine⟨_,rfl,⟨(0, -1),⟨⟨h3,by omega,by omega,by omega,by omega,by omega,by simp⟩⟩,by simp⟩, ?_⟩
  rintro⟨i,far⟩ ⟨g1,g2,g3,g4,g5,g6,g7⟩
  simp only at g4 g5 g6 g7
  refine dJ (λhlt => ?_) (λhge => ?_)
  ·have hlt':i<xs.length:=by simpa using hlt
   have b0:=bDu g1 (show 0<xs.length by omega)
   have bi:=bDu g1 hlt'
   have hx0:xs.getD 0 0=xs[0]:=by simp[show 0<xs.length by omega]
   refine ckI (by simp[Nat.blt];exact hlt') (ckI (aBo (by rw[iP];simpa using hlt')) (lT hlt' ?_ (by simp)))
   refine ckI (by simp[Nat.blt];omega) (ckI (aBo (by rw[iP];omega)) (lT (show 0<xs.length by omega) ?_ rfl))
   refine aF (bOb ?_)
   rw[bZe hlt',dI,hx0]at g7
   refine dJ (λh4 => ?_) (λh4=>dJ (λh5 => ?_) (λh5 => ?_))
   ·rw[if_pos (.inl (by simpa using h4))]at g7
    rw[hn,hx0,g7]at hq;exact hq
   ·rw[if_pos (.inr (by simpa using h5))]at g7
    rw[hn,hx0,g7]at hq;exact hq
   ·simp only[bXi,gt_iff_lt,Int.not_lt,Int.not_le]at h4 h5
    rw[if_neg (by omega)]at g7
    refine aF ⟨⟨trivial,rfl⟩,(i+1,(xs[i]-xs[0])%65536),⟨⟨g1,g2,g3,hlt',by omega,h5,by rw[hx0];exact g7⟩⟩,cBx _ _ hlt',by simp⟩
  ·have hle:xs.length<=i:=by simpa using hge
   rw[bX9 hle,dI]at g7
   rw[hn,g7]at hq;exact hq
 ·have:eT xs=false:=by
   simp only[Bool.not_eq_false']at h3
   simp[eT,h3]
  rw[this]at hq;exact hq

def zX:iO
 | [.lst _ l n 1],H,K=>∃xs:QT,Lf (l=aA xs∧n=xs.length∧xs.length<=4611686018427387904)∧K (.ret (.bool (eT xs))) H
 | _,_,_=>False
theorem aI1:∀args H Q,zX args H Q->zX args [] λo H'=>H'=[]∧(∃v,o=.ret v∧noT v=true)∧Q o H:=by
 intro args H Q hc
 unfold zX at hc
 split at hc
 ·obtain⟨xs,h,hq⟩:=hc
  exact⟨xs,h,rfl,⟨_,rfl,rfl⟩,hq⟩
 ·exact hc.elim
def aQi:iO:=λargs H Q=>qI [1] H args λa=>zX a H Q

theorem aYk:aI Tryz.prog gl0 187 aQi:=by
 refine eG (c:=zX) (aQ (enters_of (by kernel_rfl)) aO λargs H Q hc => ?_) aO [1] aI1
 unfold zX at hc
 split at hc
 ·rename_i t l n
  obtain⟨xs,⟨rfl,rfl,hl⟩,hq⟩:=hc
  obtain⟨hv,hb',h⟩:=aSo t xs (hl:=hl) (Q:=λo H' _=>H'=[]∧(∃v,o=.ret v∧old 0 v=true∧noY v=true)∧Q o H) ⟨rfl,⟨_,rfl,rfl,rfl⟩,hq⟩
  exact⟨rfl,rfl,_,1000,bL aRf _ _ _,rfl,h⟩
 ·exact hc.elim
end Go.Proofs.YtnhechnaemmdiaaGreatDoor.Cd
