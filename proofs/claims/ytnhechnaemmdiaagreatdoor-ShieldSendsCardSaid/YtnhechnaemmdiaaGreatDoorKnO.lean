/-
  Chapter 25: guesses.
-/
import Derived.Test.YtnhechnaemmdiaaGreatDoorKnA
import Derived.Test.YtnhechnaemmdiaaGreatDoorKnN
set_option linter.unusedSimpArgs false
set_option linter.unusedVariables false
set_option linter.unusedSectionVars false
namespace Go.Proofs.YtnhechnaemmdiaaGreatDoor
open Go.RowKit
set_option maxRecDepth 1000000

def iR(x y:Int):Int:=if(x-y)%65536<32768 then(x-y)%65536 else(x-y)%65536-65536
noncomputable def aC6(hv:LI)(hb:LB)(x y:Int)(Q:BS):Prop:=
 aT (e04 sm0 (λ_=>none) hv hb) (wpx (e04 sm0 (λ_=>none) hv hb) 1000) 112 [.int .i64 x,.int .i64 y,.int .i64 16] [] {} Q
abbrev bP5:Out:=.ret (.tup [.int .i64 0,.int .i64 2])
theorem bPv(x:Int)(y:Int)(Q:BS):aC6 (aW [(458774,.int .i64),(458784,.int .i64),(458789,.int .i64),(458793,.int .i64),(458797,.int .i64),(458802,.int .i64)]) (aV []) x y Q=(bif decide (x<0)then Q bP5 [] {}else exI .i64 (Int.fdiv x 65536) (λn_0=>bif n_0 !=0 then Q bP5 [] {}else bif decide (y<0)then Q bP5 [] {}else exI .i64 (Int.fdiv y 65536) (λn_1=>bif n_1 !=0 then Q bP5 [] {}else exW .i64 (x-y) (λn_2=>exW .i64 (((n_2%18446744073709551616).toNat &&& 65535:Nat):Int) (λn_3=>exI .i64 (Int.fdiv n_3 32768) (λn_4=>bif n_4==1 then exW .i64 (n_3-65536) (λn_5=>Q (.ret (.tup [.int .i64 n_5,.int .i64 0])) [] {})else Q (.ret (.tup [.int .i64 n_3,.int .i64 0])) [] {})))))):=by kernel_rfl

noncomputable def aCr(hv:LI)(hb:LB)(x y:Int)(Q:BS):Prop:=
 aT (e04 sm0 (λ_=>none) hv hb) (wpx (e04 sm0 (λ_=>none) hv hb) 1000) 113 [.int .i64 x,.int .i64 y,.int .i64 16] [] {} Q
theorem bNc(x:Int)(y:Int)(Q:BS):aCr (aW [(462858,.int .i64),(462868,.int .i64),(462877,.int .i64)]) (aV []) x y Q=(
(∃n_0:Int,(((AV.int .i64 (IntKind.wrap .i64 (x-y)))=(AV.int .i64 n_0)) ∧
 (bif(decide (n_0<(- (32768:Int))))then(∃n_1:Int,(((AV.int .i64 (IntKind.wrap .i64 (n_0+(65536:Int))))=(AV.int .i64 n_1)) ∧
 (bif(decide (n_1≥(32768:Int)))then(∃n_2:Int,(((AV.int .i64 (IntKind.wrap .i64 (n_1-(65536:Int))))=(AV.int .i64 n_2)) ∧
 (Q (Out.ret (AV.int .i64 n_2)) [] (Gh.mk (0:Nat) (0:Nat) []))))
else(Q (Out.ret (AV.int .i64 n_1)) [] (Gh.mk (0:Nat) (0:Nat) [])))))
else(bif(decide (n_0≥(32768:Int)))then(∃n_1:Int,(((AV.int .i64 (IntKind.wrap .i64 (n_0-(65536:Int))))=(AV.int .i64 n_1)) ∧
 (Q (Out.ret (AV.int .i64 n_1)) [] (Gh.mk (0:Nat) (0:Nat) []))))
else(Q (Out.ret (AV.int .i64 n_0)) [] (Gh.mk (0:Nat) (0:Nat) []))))))):=by kernel_rfl

theorem bL1(d:Int):(((Int.toNat (d%18446744073709551616) &&& 65535:Nat)):Int)=d%65536:=by
 rw[show(65535:Nat)=2^16-1 from rfl,bY2]
 omega
theorem bFq(n:Int)(k:Int)(hk:0<=k):Int.fdiv n k=n/k:=bX3 n hk
theorem aUg(x y:Int)(hx:0<=x∧x<=65535)(hy:0<=y∧y<=65535)(Q:BS)(hq:Q (.ret (.tup [.int .i64 (iR x y),.int .i64 0])) [] {}):∃hv hb,aC6 hv hb x y Q:=by
 obtain⟨hv,hb',e⟩:∃hv hb,aC6 hv hb x y Q=_:=⟨_,_,bPv x y Q⟩
 refine⟨hv,hb',e.mpr ?_⟩
 delta bP5
 clear e
 rw[bFq x _ (by omega),bFq y _ (by omega)]
 refine aH (λh=>by omega) (λ_=>⟨_,rfl,bK (λh=>by omega) (λ_=>aH (λh=>by omega) (λ_=>⟨_,rfl,bK (λh=>by omega) (λ_=>aF ?_)⟩))⟩)
 rw[bL1]
 refine aF ⟨_,rfl, ?_⟩
 rw[bFq _ _ (by omega)]
 unfold iR at hq
 refine bJ (λh=>aF ?_) (λh => ?_)
 ·rwa[if_neg (by omega)]at hq
 ·rwa[if_pos (by omega)]at hq
theorem aMx(x y:Int)(hx:0<=x∧x<=65535)(hy:0<=y∧y<=65535)(Q:BS)(hq:Q (.ret (.int .i64 (iR x y))) [] {}):∃hv hb,aCr hv hb x y Q:=by
 obtain⟨hv,hb',e⟩:∃hv hb,aCr hv hb x y Q=_:=⟨_,_,bNc x y Q⟩
 refine⟨hv,hb',e.mpr ?_⟩
 clear e
 have key:∀z:Int,z=iR x y->Q (.ret (.int .i64 z)) [] {}:=λz hz=>by rw[hz];exact hq
 refine aF (aH (λh1=>aF (aH (λh2=>by omega) (λh2=>key _ ?_))) (λh1=>aH (λh2=>aF (key _ ?_)) (λh2=>key _ ?_)))
 all_goals (unfold iR;split<;>omega)
def aQ9:Con
 | [.int .i64 x,.int .i64 y,.int .i64 b],H,K=>Lf (b=16∧(0<=x∧x<=65535)∧0<=y∧y<=65535)∧∀z:Int,Lf (z=iR x y)->K (.ret (.tup [.int .i64 z,.int .i64 0])) H
 | _,_,_=>False
def aJr:Con
 | [.int .i64 x,.int .i64 y,.int .i64 b],H,K=>Lf (b=16∧(0<=x∧x<=65535)∧0<=y∧y<=65535)∧∀z:Int,Lf (z=iR x y)->K (.ret (.int .i64 z)) H
 | _,_,_=>False
theorem aZm:aI Tryz.prog gl0 112 aQ9:=by
 refine aQ (enters_of (by kernel_rfl)) aO λargs H Q hc => ?_
 unfold aQ9 at hc
 split at hc
 ·rename_i x y b
  obtain⟨⟨rfl,h1,h2⟩,hq⟩:=hc
  obtain⟨hv,hb',h⟩:=aUg x y h1 h2 (Q:=λo H' _=>H'=[]∧(∃v,o=.ret v∧old 0 v=true∧noY v=true)∧Q o H) ⟨rfl,⟨_,rfl,rfl,rfl⟩,hq _ ⟨rfl⟩⟩
  exact⟨rfl,rfl,_,1000,aS bY _ _ _,rfl,h⟩
 ·exact hc.elim
theorem aS2:aI Tryz.prog gl0 113 aJr:=by
 refine aQ (enters_of (by kernel_rfl)) aO λargs H Q hc => ?_
 unfold aJr at hc
 split at hc
 ·rename_i x y b
  obtain⟨⟨rfl,h1,h2⟩,hq⟩:=hc
  obtain⟨hv,hb',h⟩:=aMx x y h1 h2 (Q:=λo H' _=>H'=[]∧(∃v,o=.ret v∧old 0 v=true∧noY v=true)∧Q o H) ⟨rfl,⟨_,rfl,rfl,rfl⟩,hq _ ⟨rfl⟩⟩
  exact⟨rfl,rfl,_,1000,aS bY _ _ _,rfl,h⟩
 ·exact hc.elim
def dP(t q:Int):Int:=if t<0 then q else if t+iR q (t%65536)<0 then t+iR q (t%65536)+65536 else t+iR q (t%65536)
def bU2:SM:=gG [(112,aQ9),(113,aJr)]
theorem bJm:∀f g,bU2 f=some g->aI Tryz.prog gl0 f g:=bO _ (by simp only[bXd,bXn,bY0,bYd,bY4];exact⟨aZm,aS2⟩)
noncomputable def aHc(hv:LI)(hb:LB)(t q:Int)(Q:BS):Prop:=
 aT (e04 bU2 (λ_=>none) hv hb) (wpx (e04 bU2 (λ_=>none) hv hb) 1000) 59 [.int .i64 t,.int .i64 q] [] {} Q
theorem bU4(t:Int)(q:Int)(Q:BS):aHc (aW [(241677,.int .i64),(241683,.int .i64),(241687,.int .i64),(241688,.int .i64),(241691,.int .i64)]) (aV []) t q Q=(
(bif(decide (t<(0:Int)))then(Q (Out.ret (AV.int .i64 q)) [] (Gh.mk (0:Nat) (0:Nat) []))
else(∃n_0:Int,(((AV.int .i64 (IntKind.wrap .i64 (Nat.cast ((Int.toNat (t%(18446744073709551616:Int))) &&& (65535:Nat)):Int)))=(AV.int .i64 n_0)) ∧
 ((Lf (((16:Int)=(16:Int)) ∧
 ((((0:Int)<=q) ∧
 (q<=(65535:Int))) ∧
 (((0:Int)<=n_0) ∧
 (n_0<=(65535:Int)))))) ∧
 (∀z_1:Int,((Lf (z_1=(iR q n_0))) →
(∃n_2:Int,(((AV.int .i64 (IntKind.wrap .i64 (t+z_1)))=(AV.int .i64 n_2)) ∧
 (bif(decide (n_2<(0:Int)))then(∃n_3:Int,(((AV.int .i64 (IntKind.wrap .i64 (t+z_1)))=(AV.int .i64 n_3)) ∧
 (∃n_4:Int,(((AV.int .i64 (IntKind.wrap .i64 (n_3+(65536:Int))))=(AV.int .i64 n_4)) ∧
 (Q (Out.ret (AV.int .i64 n_4)) [] (Gh.mk (0:Nat) (0:Nat) []))))))
else(∃n_3:Int,(((AV.int .i64 (IntKind.wrap .i64 (t+z_1)))=(AV.int .i64 n_3)) ∧
 (Q (Out.ret (AV.int .i64 n_3)) [] (Gh.mk (0:Nat) (0:Nat) [])))))))))))))):=by kernel_rfl

theorem aZ9(x y:Int) : -32768<=iR x y∧iR x y<32768:=by unfold iR;split<;>omega
theorem aPq(t q:Int)(ht : -9223372036854000000<=t∧t<=9223372036854000000)(hx:0<=q∧q<=65535)(Q:BS)(hq:Q (.ret (.int .i64 (dP t q))) [] {}):∃hv hb,aHc hv hb t q Q:=by
 obtain⟨hv,hb',e⟩:∃hv hb,aHc hv hb t q Q=_:=⟨_,_,bU4 t q Q⟩
 refine⟨hv,hb',e.mpr ?_⟩
 clear e
 have key:∀z:Int,z=dP t q->Q (.ret (.int .i64 z)) [] {}:=λz hz=>by rw[hz];exact hq
 refine aH (λh1=>key _ (by rw[dP,if_pos h1])) (λh1 => ?_)
 rw[bL1]
 refine aF ⟨⟨rfl,hx,by omega,by omega⟩, ?_⟩
 rintro z ⟨rfl⟩
 have ha:=aZ9 q (t%65536)
 refine aF (aH (λh2=>aF (aF (key _ ?_))) (λh2=>aF (key _ ?_)))
 ·rw[dP,if_neg h1,if_pos h2]
 ·rw[dP,if_neg h1,if_neg h2]
def aIu:Con
 | [.int .i64 t,.int .i64 q],H,K=>Lf ((-1<=t∧t<=9223372036854000000)∧0<=q∧q<=65535)∧∀z:Int,Lf (z=dP t q)->K (.ret (.int .i64 z)) H
 | _,_,_=>False
theorem aPx:aI Tryz.prog gl0 59 aIu:=by
 refine aQ (enters_of (by kernel_rfl)) aO λargs H Q hc => ?_
 unfold aIu at hc
 split at hc
 ·rename_i t q
  obtain⟨⟨h1,h2⟩,hq⟩:=hc
  obtain⟨hv,hb',h⟩:=aPq t q ⟨by omega,h1.2⟩ h2 (Q:=λo H' _=>H'=[]∧(∃v,o=.ret v∧old 0 v=true∧noY v=true)∧Q o H) ⟨rfl,⟨_,rfl,rfl,rfl⟩,hq _ ⟨rfl⟩⟩
  exact⟨rfl,rfl,_,1000,aS bJm _ _ _,rfl,h⟩
 ·exact hc.elim
noncomputable def aJn(hv:LI)(hb:LB):Env := { e04 sm0 (λ_=>none) hv hb with hz:=λk=>Nat.beq k 237575 }
noncomputable def aA9(hv:LI)(hb:LB)(t:Nat)(xs:QT)(Q:BS):Prop:=
 aT (aJn hv hb) (wpx (aJn hv hb) 1000) 58 [.lst t (aA xs) xs.length 1] [] {} Q
theorem bO1(t:Nat)(xs:QT)(Q:BS):aA9 (aW []) (aV []) t xs Q=(
((bif((((Nat.beq (List.length (aA xs)) ((List.length xs)*(1:Nat)))&&(eH (aA xs)))&&true)&&(Nat.ble ((List.length xs)*(8:Nat)) (1099511627776:Nat)))then(bif(Nat.beq (List.length xs) (0:Nat))then(bif(Nat.beq (List.length xs) (0:Nat))then(Q (Out.ret (AV.lst (0:Nat) [] (0:Nat) (1:Nat))) [] (Gh.mk (0:Nat) (0:Nat) []))
else False)
else(bif(Nat.blt (0:Nat) (List.length xs))then(bif((Nat.ble ((0:Nat)+(List.length xs)) (1099511627776:Nat))&&(Nat.ble (((0:Nat)+(List.length xs))*(8:Nat)) (1099511627776:Nat)))then(bif(((((((Nat.beq (List.length ([]++(aA xs))) ((0:Nat)+(List.length (aA xs))))&&(Nat.ble ((0:Nat)+(((0:Nat)+(List.length xs))*(1:Nat))) ((0:Nat)+(List.length (aA xs)))))&&true)&&(aP (0:Nat) ([]++(aA xs))))&&(bX ([]++(aA xs))))&&true)&&true)then(Q (Out.ret (AV.lst (0:Nat) (List.take (((0:Nat)+(List.length xs))*(1:Nat)) (List.drop (0:Nat) ([]++(aA xs)))) ((0:Nat)+(List.length xs)) (1:Nat))) [] (Gh.mk (0:Nat) (0:Nat) []))
else False)
else False)
else False))
else False) ∧
 (bif(Nat.beq (List.length xs) (0:Nat))then(Q (Out.ret AV.nils) [] (Gh.mk (0:Nat) (0:Nat) []))
else True))):=by kernel_rfl

def aYm:Con
 | [.lst _ c n 1],H,K=>∃xs:QT,Lf (c=aA xs∧n=xs.length∧xs.length<=1000000)∧K (.ret (.lst 0 (aA xs) xs.length 1)) H
 | _,_,_=>False
theorem bB1:∀xs:QT,eH (aA xs)=true
 | []=>rfl
 | x::l=>by
  have:=bB1 l
  show(true&&eH (aA l))=true
  rw[this];rfl
theorem bNo:∀xs:QT,aP 0 (aA xs)=true∧bX (aA xs)=true
 | []=>⟨rfl,rfl⟩
 | x::l=>by
  have:=bNo l
  refine⟨?_, ?_⟩
  ·show(true&&aP 0 (aA l))=true
   rw[this.1];rfl
  ·show(true&&bX (aA l))=true
   rw[this.2];rfl
theorem aTm:aI Tryz.prog gl0 58 aYm:=by
 refine dV (enters_of (by kernel_rfl)) aO 9 (nlR [1]) (vT _) λargs H Q hc => ?_
 unfold aYm at hc
 split at hc
 ·rename_i t c n
  obtain⟨xs,⟨rfl,rfl,hl⟩,hq⟩:=hc
  have hlen:(aA xs).length=xs.length:=aM xs
  have hf:=bNo xs
  have run:∀Q:BS,Q (.ret (.lst 0 (aA xs) xs.length 1)) [] {}->(xs=[]->Q (.ret .nils) [] {})->∃hv hb,aA9 hv hb t xs Q:=λQ h1 h2=>by
   obtain⟨hv,hb',e⟩:∃hv hb,aA9 hv hb t xs Q=_:=⟨_,_,bO1 t xs Q⟩
   refine⟨hv,hb',e.mpr ⟨ckI (by rw[bB1];simp[hlen];omega) ?_, ?_⟩⟩
   ·cases xs with
    | nil=>exact ckI rfl h1
    | cons x l=>
     refine splitB (b:=Nat.beq (x::l).length 0) (λh=>by simp at h) (λ_=>ckI (b:=Nat.blt 0 (x::l).length) (by simp) (ckI (by simp at hl ⊢;omega) (ckI ?_ ?_)))
     ·rw[bX2,hf.1,hf.2]
      simp[hlen]
     ·rw[bX2,bXl,bW4 (by rw[hlen];omega),bY6]
      exact h1
   ·cases xs with
    | nil=>exact h2 rfl
    | cons x l=>exact trivial
  obtain⟨hv,hb',h⟩:=run (λo H' _=>∃v,o=.ret v∧Q (.ret (nlR [1] (bU 0 H' 9 v))) H) ⟨_,rfl,hq⟩ (λh=>⟨_,rfl,by subst h;exact hq⟩)
  exact⟨rfl,rfl,_,1000,(⟨jL,jM,dH,bY⟩:EnvFor Tryz.prog (aJn hv hb')),rfl,h⟩
 ·exact hc.elim
theorem aEi:∀ (l:Int) (ex:List Md.Xt),Md.extsOkM l ex=true->∀x∈ex,x.2.length<=255
 | _,[],_,x,hx=>by simp at hx
 | l,y::ex,h,x,hx=>by
  rw[Md.extsOkM,bW3,bW6]at h
  rcases bXd.1 hx with rfl | hx
  ·exact h.1.2.2
  ·exact aEi _ ex h.2 x hx
theorem nU{ty sq ti ss:Int}{cs:QT}{ex:List Md.Xt}{pad:Int}(h:Md.rightMMd ty sq ti ss cs ex pad=true):(0<=sq∧sq<=65535)∧cs.length<=15∧ex.length<=16∧(∀x∈ex,x.2.length<=255)∧(0<=ss∧ss<4294967296)∧0<=pad∧pad<=255:=by
 rw[Md.rightMMd,bW3,Md.flagsM,bW6]at h
 obtain⟨⟨r1,r2,r3,r4,r5,r6,r7,r8,r9,r10,r11,r12,r13⟩,ho⟩:=h
 exact⟨⟨r3,r4⟩,r12,r13,aEi 0 ex ho,⟨r7,r8⟩,r10,r11⟩
theorem aVl(hid:QT)(mk:Bool)(ty sq ti ss:Int)(cs:QT)(ex:List Md.Xt)(pad:Int):(bZ hid ex).length<=(Md.headM mk ty sq ti ss cs ex pad).length:=by
 have h:=aRd hid (Md.shortM ex) ex
 by_cases hn:ex.length=0
 ·have:ex=[]:=bYq.1 hn
  subst this
  exact bYb _
 ·rw[Md.headM,if_neg hn,Md.extPM]
  simp only[bW2]
  omega
theorem aAb{a b c:LA}{xs:QT}(h:dA a b c xs=true):a.length=32∧b.length=12∧c.length=32:=by
 rw[dA,bW3]at h
 have h1:=h.1
 unfold gV at h1
 simp only[bW3]at h1
 exact⟨bYg h1.1.1.1,bYg h1.1.1.2,bYg h1.1.2⟩
theorem aS7{mk:Bool}{ty sq ti ss:Int}{cs:QT}{ex:List Md.Xt}{pad:Int}{pl:LA}(hr:Md.rightMMd ty sq ti ss cs ex pad=true)(hl:(Md.encM mk ty sq ti ss cs ex pad pl).length<=1200) :
  Md.headRM mk ty sq ti ss cs ex pad pl=(Md.headM mk ty sq ti ss cs ex pad,0)∧Md.encRMMd mk ty sq ti ss cs ex pad pl=(Md.encM mk ty sq ti ss cs ex pad pl,0):=by
 have hp:=nU hr
 have ht:¬ 1200<Md.totalM mk ty sq ti ss cs ex pad pl:=by
  have:(Md.padMMd pad).length=pad.toNat:=by
   unfold Md.padMMd
   split
   ·rw[bW2,bXb,Md.put_lenMd];simp;omega
   ·simp;omega
  rw[Md.encM,bW2,bW2,this]at hl
  rw[Md.totalM]
  omega
 rw[Md.headRM,Md.encRMMd,if_neg (by rw[hr];simp),if_neg ht,if_neg (by rw[hr];simp),if_neg ht]
 exact⟨rfl,rfl⟩
theorem aA5(mk:Bool)(ty sq ti ss:Int)(cs:QT)(ex:List Md.Xt)(pad:Int)(pl:LA){n:Nat}(h:n=(Md.headM mk ty sq ti ss cs ex pad).length):(Md.encM mk ty sq ti ss cs ex pad pl).drop n=pl++Md.padMMd pad:=by
 rw[Md.encM,bW9,List.drop_left' h.symm]
theorem wU{x:Int}(h0:0<=x)(h1:x<18446744073709551616){K:Int->Prop}(k:K x):exW .u64 x K:=by
 have e:IntKind.wrap .u64 x=x:=by
  simp only[IntKind.wrap,IntKind.bits,IntKind.signed,bZi]
  have e2:(2:Int)^64=18446744073709551616:=rfl
  rw[e2]
  exact Int.emod_eq_of_lt h0 h1
 exact⟨_,congrArg _ e,k⟩
def bAt(v:AV)(H:HV):AV:=shK (bU 0 H 9 v)
end Go.Proofs.YtnhechnaemmdiaaGreatDoor
