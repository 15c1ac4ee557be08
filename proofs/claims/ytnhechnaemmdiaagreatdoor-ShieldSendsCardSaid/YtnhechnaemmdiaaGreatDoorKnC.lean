/-
  Chapter 25: the environment of chapter 23's texts.
-/
import Derived.Test.YtnhechnaemmdiaaGreatDoorKnA
import Derived.Test.YtnhechnaemmdiaaGreatDoorEnH
import Derived.MakeChecks
set_option linter.unusedSimpArgs false
set_option linter.unusedVariables false
namespace Go.Proofs.YtnhechnaemmdiaaGreatDoor.Md
open Go.RowKit
theorem bltQ_iff{a b:Nat}:Nat.blt a b=true↔a<b:=iff_of_eq aD
set_option maxRecDepth 1000000

noncomputable abbrev e23(sm:SM)(inv:Nat->Option (S->List (List LInv)))(hv:LI)(hb:LB):Env:=e04 sm inv hv hb
theorem kZ:qO Tryz.prog=true:=jM
theorem kU:Tryz.prog.follows .mixedOrders=true:=jL
theorem aJ9{sm:SM}(h:∀f g,sm f=some g->aI Tryz.prog gl0 f g)(inv:Nat->Option (S->List (List LInv)))(hv:LI)(hb:LB):EnvFor Tryz.prog (e23 sm inv hv hb):=aS h inv hv hb
theorem aEp{xs:QT}{i j:Nat}(hi:i<xs.length){K:Int->Prop}(hk:K xs[i])(hj:j=i):∃n:Int,(aA xs).getD j AV.undef=AV.int .i64 n∧K n:=by
 subst hj
 exact⟨xs[j],by simp[aA,hi],hk⟩

def eD(bits n:Int):Bool:=decide (n<0)||(n.fdiv (2^min bits.toNat 64) !=0)
def aXb(t:Nat)(bits:Int)(xs:QT):LInv where
 α:=Nat
 pre i:=Lf (i<=xs.length∧(xs.take i).any (eD bits)=false)
 st i:=⟨mkT [(0,.lst t (aA xs) xs.length 1),(1,.fn (.func 221) [] [.ptr 0 1 0]),(7,.int .i64 xs.length),(8,.int .i64 i)],[⟨.exact,true,[.int .i64 bits]⟩]⟩
 mu i:=xs.length-i
noncomputable def aJy(hv:LI)(hb:LB)(t:Nat)(bits:Int)(xs:QT):Env:=
 e23 sm0 (λi=>bif Nat.beq i 231000 then some (λ_=>[[aXb t bits xs]])else none) hv hb
noncomputable def uU(hv:LI)(hb:LB)(t:Nat)(bits:Int)(xs:QT)(Q:BS):Prop:=
 aT (aJy hv hb t bits xs) (wpx (aJy hv hb t bits xs) 1000) 176 [.int .i64 bits,.lst t (aA xs) xs.length 1] [] {} Q
abbrev bR4(x_1:Nat)(xs:QT)(bits:Int):Prop:=Lf (x_1<=xs.length∧List.any (xs.take x_1) (eD bits)=false)
theorem bIx(t:Nat)(bits:Int)(xs:QT)(Q:BS):uU (aW [(946183,.int .i64),(946186,.int .i64),(946191,.int .i64),(905225,.int .i64),(946194,.int .i64)]) (aV []) t bits xs Q =
 (exI .i64 (xs.length:Int) (λn_0=>(∃x_1:Nat,bR4 x_1 xs bits∧aK [AV.int .i64 bits]∧aK (AV.lst t (aA xs) xs.length 1)∧aK (AV.fn (Fn.func 221) [] [.ptr 0 1 0])∧AV.int .i64 n_0=AV.int .i64 (xs.length:Int) ∧
 AV.int .i64 0=AV.int .i64 (x_1:Int)∧True)∧∀x_1:Nat,bR4 x_1 xs bits->bif decide ((x_1:Int)<(xs.length:Int))then exI .i64 (x_1:Int) (λn_2=>ckQ (decide (0<=n_2)&&Nat.blt n_2.toNat xs.length&&true) (ckQ
 (Nat.blt (n_2.toNat*1) (aA xs).length) (exV .i64 ((aA xs).getD (n_2.toNat*1) AV.undef) (λn_3=>bif decide (n_3<0)then bif decide (n_2≥0)then Q (.ret (.bool false)) [] {}else Q (.ret (.bool true)) [] {}else ckQ
 (decide (0<=bits)&&true) (exI .i64 (Int.fdiv n_3 ((2:Int)^Min.min bits.toNat 64)) (λn_4=>bif n_4 !=0 then bif decide (n_2≥0)then Q (.ret (.bool false)) [] {}else Q (.ret (.bool true)) [] {}else exW .i64 ((x_1:Int)+1)
 (λn_5=>(True∧(0:Nat)=(0:Nat))∧∃y_6:Nat,bR4 y_6 xs bits∧xs.length-y_6<xs.length-x_1∧aK [AV.int .i64 bits]∧aK (AV.lst t (aA xs) xs.length 1)∧aK (AV.fn (Fn.func 221) [] [.ptr 0 1 0])∧aK (AV.int
 .i64 (xs.length:Int))∧AV.int .i64 n_5=AV.int .i64 (y_6:Int)∧True)))))))else Q (.ret (.bool true)) [] {})):=by kernel_rfl

theorem bAg{a b:Nat}(h:a<b):a.blt b=true:=by rw[aD];exact h
theorem xR(xs:QT):(aA xs).length=xs.length:=by simp[aA]

theorem aNv(t:Nat)(bits:Int)(xs:QT)(Q:BS)(hx:xs.length<=4611686018427387904)(hb:0<=bits)
  (hq:Q (.ret (.bool (!(xs.any (eD bits))))) [] {}):∃hv hb,uU hv hb t bits xs Q:=by
 obtain⟨hv,hb',e⟩:∃hv hb,uU hv hb t bits xs Q=_:=⟨_,_,bIx t bits xs Q⟩
 refine⟨hv,hb',e.mpr ?_⟩
 delta bR4
 clear e
 refine⟨_,rfl,⟨0,⟨⟨by omega,by simp⟩⟩,by simp⟩, ?_⟩
 rintro i ⟨hi,hany⟩
 refine dJ (λhlt => ?_) (λhge => ?_)
 ·have hlt':i<xs.length:=by simpa using hlt
  refine⟨_,rfl,ckI (by simp[Nat.blt];exact hlt') (ckI (bAg (by rw[xR];simpa using hlt')) (aEp hlt' ?_ (by simp)))⟩
  have hstep:(xs.take (i+1)).any (eD bits)=eD bits xs[i]:=by
   rw[bYm,cCa,hany];simp[hlt']
  refine dJ (λhn => ?_) (λhn => ?_)
  ·have hbad:xs.any (eD bits)=true:=by
    rw[bZ8];exact⟨xs[i],bXk _,by simp[eD];left;simpa using hn⟩
   rw[hbad]at hq
   refine dJ (λ_=>hq) (λhc => ?_)
   simp at hc
  ·refine ckI (by simpa using hb) ⟨_,rfl,dJ (λhz => ?_) (λhz => ?_)⟩
   ·have hbad:xs.any (eD bits)=true:=by
     rw[bZ8];exact⟨xs[i],bXk _,by simp only[eD,bXh];right;exact hz⟩
    rw[hbad]at hq
    refine dJ (λ_=>hq) (λhc => ?_)
    simp at hc
   ·refine aF ⟨⟨trivial,rfl⟩,i+1,⟨⟨hlt', ?_⟩⟩,cBx _ _ hlt',by simp⟩
    rw[hstep,eD,hn,hz];rfl
 ·have hle:xs.length<=i:=by simpa using hge
  have:xs.take i=xs:=bW4 hle
  rw[this]at hany
  rw[hany]at hq
  exact hq

def aCj:Con
 | [.int .i64 bits,.lst _ l n 1],H,K=>∃xs:QT,Lf (l=aA xs∧n=xs.length∧0<=bits∧xs.length<=4611686018427387904)∧K (.ret (.bool (!(xs.any (eD bits))))) H
 | _,_,_=>False

theorem rX(xs:QT):bX (aA xs)=true∧aP 0 (aA xs)=true∧zZ (aA xs)=true:=by
 induction xs with
 | nil=>exact⟨rfl,rfl,rfl⟩
 | cons x xs ih=>exact⟨by simpa[aA,bX,noY]using ih.1,by simpa[aA,aP,old]using ih.2.1,by simpa[aA,zZ,noT]using ih.2.2⟩

theorem aL2:aI Tryz.prog gl0 176 aCj:=by
 refine aQ (enters_of (by kernel_rfl)) aO λargs H Q hc => ?_
 unfold aCj at hc
 split at hc
 ·rename_i bits t l n
  obtain⟨xs,⟨rfl,rfl,hb,hl⟩,hq⟩:=hc
  obtain⟨hv,hb',h⟩:=aNv t bits xs (hx:=hl) (hb:=hb) (Q:=λo H' _=>H'=[]∧(∃v,o=.ret v∧old 0 v=true∧noY v=true)∧Q o H) ⟨rfl,⟨_,rfl,rfl,rfl⟩,hq⟩
  exact⟨rfl,rfl,_,1000,aJ9 bY _ _ _,rfl,h⟩
 ·exact hc.elim
def aJ2:Con:=λargs H Q=>qI [0,1] H args λa=>aCj a H Q
theorem aRm:aI Tryz.prog gl0 176 aJ2:=eG aL2 aO [0,1] λargs H Q hc=>by
 unfold aCj at hc
 split at hc
 ·obtain⟨xs,h,hq⟩:=hc
  exact⟨xs,h,rfl,⟨_,rfl,rfl⟩,hq⟩
 ·exact hc.elim
theorem aWk{id:Nat}{H:HV}{cs:HB}(h:H[id]? = some ⟨.grow,true,cs⟩)(h0:aP 0 cs=true)(h1:aP 1 cs=true)(hy:bX cs=true):Fr (λ_=>id) [⟨.grow,true,cs⟩] H:=by
 refine⟨λj b0 hb => ?_,λj j' b0 hb _ hj' _ => ?_,λj b0 hb => ?_⟩
 ·cases j with
  | zero=>
   simp only[bXv,bW5]at hb
   subst hb
   refine⟨?_,h1,hy,λ_=>h0,_,h,(aU _ cs h0 hy).symm,.inr rfl⟩
   exact(bXq.1 h).1
  | succ j=>simp at hb
 ·cases j with
  | zero=>simp at hj';omega
  | succ j=>simp at hb
 ·cases j with
  | zero=>simp at hb;subst hb;exact λh=>by cases h
  | succ j=>simp at hb
theorem aSa{id:Nat}{H:HV}{cs cs':HB}(h:H[id]? = some ⟨.grow,true,cs⟩)(h0:aP 0 cs'=true)(hy:bX cs'=true):FrEnd (λ_=>id) [⟨.grow,true,cs⟩] [⟨.grow,true,cs'⟩] H (H.set id ⟨.grow,true,cs'⟩):=by
 have hl:id<H.length:=(bXq.1 h).1
 refine⟨by simp,λj b0 hb hk => ?_,λj b0 hb hk => ?_,λj b0 hj hb => ?_,by simp,λk hk hn => ?_,λj b hb hk => ?_⟩
 ·cases j with
  | zero=>simp at hb;subst hb;cases hk
  | succ j=>simp at hb
 ·cases j with
  | zero=>simp at hb;subst hb;exact⟨_,rfl,rfl⟩
  | succ j=>simp at hb
 ·cases j with
  | zero=>simp at hj
  | succ j=>simp at hb
 ·have:=hn 0 _ rfl (by simp)
  rw[bYu (by omega)]
 ·cases j with
  | zero=>
   simp only[bXv,bW5]at hb
   subst hb
   show(H.set id _)[id]? = some (aDd _ _)
   rw[bZu hl]
   simp only[aDd,aU _ cs' h0 hy]
  | succ j=>simp at hb
theorem aVh{H:HV}{cs':HB}(h0:aP 0 cs'=true)(hy:bX cs'=true):FrEnd id [] [⟨.grow,true,cs'⟩] H (H++[⟨.grow,true,cs'⟩]):=by
 refine⟨by simp,λj b0 hb hk=>by simp at hb,λj b0 hb hk=>by simp at hb,λj b0 hj hb => ?_,by simp,λk hk hn => ?_,λj b hb hk => ?_⟩
 ·cases j with
  | zero=>simp at hb;subst hb;simp
  | succ j=>simp at hb
 ·rw[bXx hk]
 ·cases j with
  | zero=>
   simp only[bXv,bW5]at hb
   subst hb
   show(H++_)[sig id 0 H.length 0]? = _
   have:sig id 0 H.length 0=H.length:=by simp[sig]
   rw[this,bYa (bXe _),bZ4]
   simp only[bXv,aDd,aU _ cs' h0 hy]
  | succ j=>simp at hb

theorem aL(l:LA):(ofBytes l).length=l.length:=by simp[ofBytes]
theorem dF(a b:LA):ofBytes a++ofBytes b=ofBytes (a++b):=by simp[ofBytes]
theorem dB(l:LA):eH (ofBytes l)=true:=by
 induction l with
 | nil=>rfl
 | cons x l ih=>simpa[ofBytes,eH,one]using ih
theorem aZ(n:Nat)(l:LA):aP n (ofBytes l)=true:=by
 induction l with
 | nil=>rfl
 | cons x l ih=>simpa[ofBytes,aP,old]using ih
theorem gD(l:LA):bX (ofBytes l)=true:=by
 induction l with
 | nil=>rfl
 | cons x l ih=>simpa[ofBytes,bX,noY]using ih
theorem kY(l:LA):(ofBytes l).map toB=l:=by
 simp only[ofBytes,cA0]
 conv=>rhs;rw[←cCb l]
 congr 1
 funext x
 simp[toB]

def octMMd(n:Int)(i:Nat):UInt8:=UInt8.ofNat (n/256^i%256).toNat
def beMMd(n:Int):Nat->LA
 | 0=>[]
 | k+1=>octMMd n k::beMMd n k
def putMMd(k:Nat):QT->LA
 | []=>[]
 | n::l=>beMMd n k++putMMd k l
theorem be_lenMd(n:Int):∀k,(beMMd n k).length=k
 | 0=>rfl
 | k+1=>by rw[beMMd,bXc,be_lenMd n k]
theorem aU2(k:Nat)(a b:QT):putMMd k (a++b)=putMMd k a++putMMd k b:=by
 induction a with
 | nil=>rfl
 | cons x a ih=>rw[bX0,putMMd,ih,putMMd,bW9]
theorem put_lenMd(k:Nat)(l:QT):(putMMd k l).length=k*l.length:=by
 induction l with
 | nil=>rfl
 | cons x l ih=>rw[putMMd,bW2,be_lenMd,ih,bXc,cAb];omega
theorem rD(k:Nat)(l:QT){i:Nat}(hi:i<l.length):putMMd k (l.take (i+1))=putMMd k (l.take i)++beMMd (l.getD i 0) k:=by
 have e:l.take (i+1)=l.take i++[l.getD i 0]:=by
  rw[bYm,bW7,bW8 hi];rfl
 rw[e,aU2,putMMd,putMMd,bXs]
theorem lL(n:Int):∀ (k m:Nat),m<k->(beMMd n k).take (m+1)=(beMMd n k).take m++[octMMd n (k-1-m)]
 | 0,m,h=>by omega
 | k+1,0,h=>by simp[beMMd]
 | k+1,m+1,h=>by
  have ih:=lL n k m (by omega)
  have e:k+1-1-(m+1)=k-1-m:=by omega
  rw[beMMd,bY7,ih,bY7,bX0,e]

def bIw(k:Nat)(t:Nat)(xs:QT):LInv where
 α:=Nat
 pre i:=Lf (i=0)
 st i:=⟨mkT [(0,.nils),(1,.int .i64 (k:Nat)),(10,.lst t (aA xs) xs.length 1),(11,.int .i64 xs.length),(12,.int .i64 (i:Nat))],[]⟩
 mu i:=xs.length+1
def aO7(k:Nat)(t:Nat)(xs:QT)(bs:LA)(lo:Nat):LInv where
 α:=Nat
 pre i:=Lf (lo<=i∧i<=xs.length)
 st i:=⟨mkT [(0,.sl 0 (bs.length+k*i) 0 (bs.length+k*i) 1),(1,.int .i64 (k:Nat)),(10,.lst t (aA xs) xs.length 1),(11,.int .i64 xs.length),(12,.int .i64 (i:Nat))],[⟨.grow,true,ofBytes (bs++putMMd k (xs.take i))⟩]⟩
 mu i:=xs.length-i
def aQm(k t:Nat)(xs:QT)(s:S):List (List LInv):=match s.tm.get 0,s.tm.get 8,s.tm.get 12,s.hp with
 | .nils,.int _ n,.int _ i,[]=>[[{ α:=Nat,pre:=λm=>Lf (m=0),st:=λm=>⟨mkT [(0,.nils),(1,.int .i64 (k:Nat)),(8,.int .i64 n),(9,.int .i64 ((k:Int)-1-m)),(10,.lst t (aA xs) xs.length 1),(11,.int .i64 xs.length),(12,.int .i64 i)],[]⟩,mu:=λm=>k+1 },
   { α:=Nat,pre:=λm=>Lf (1<=m∧m<=k),st:=λm=>⟨mkT [(0,.sl 0 m 0 m 1),(1,.int .i64 (k:Nat)),(8,.int .i64 n),(9,.int .i64 ((k:Int)-1-m)),(10,.lst t (aA xs) xs.length 1),(11,.int .i64 xs.length),(12,.int .i64 i)],[⟨.grow,true,ofBytes ((beMMd n k).take m)⟩]⟩,mu:=λm=>k-m }]]
 | .sl _ tot _ _ _,.int _ n,.int _ i,[bl]=>[[{ α:=Nat,pre:=λm=>Lf (m<=k),st:=λm=>⟨mkT [(0,.sl 0 (tot+m) 0 (tot+m) 1),(1,.int .i64 (k:Nat)),(8,.int .i64 n),(9,.int .i64 ((k:Int)-1-m)),(10,.lst t (aA xs) xs.length 1),(11,.int .i64 xs.length),(12,.int .i64 i)],[⟨.grow,true,ofBytes (bl.cs.map toB++(beMMd n k).take m)⟩]⟩,mu:=λm=>k-m }]]
 | _,_,_,_=>[]
noncomputable def aRj(hv:LI)(hb:LB)(k t:Nat)(xs:QT):Env := { e23 sm0 (λi=>bif Nat.beq i 89000 then some (λ_=>[[bIw k t xs,aO7 k t xs [] 1]])else bif Nat.beq i 89002 then some (aQm k t xs)else none) hv hb with hz:=λk=>Nat.beq k 364572 }
noncomputable def aC5(hv:LI)(hb:LB)(k t:Nat)(xs:QT)(Q:BS):Prop:=
 aT (aRj hv hb k t xs) (wpx (aRj hv hb k t xs) 1000) 89 [.nils,.int .i64 (k:Nat),.lst t (aA xs) xs.length 1] [] {} Q
abbrev bBm(k:Nat):AV:=.int .i64 (k:Int)
abbrev aN7(xs:QT):AV:=.int .i64 (xs.length:Int)
abbrev bM3(t:Nat)(xs:QT):Prop:=aK (AV.lst t (aA xs) xs.length 1)∧True
abbrev aN0(x_1:Nat)(xs:QT):Prop:=Lf (1<=x_1∧x_1<=xs.length)
abbrev aJa(k x_4:Nat):Int:=(k:Int)-1-(x_4:Int)
abbrev aY4(k:Nat)(xs:QT)(n_3:Int)(x_4:Nat)(n_2:Int)(x_1 t:Nat):Prop:=aK (bBm k)∧aK (aN7 xs)∧AV.int .i64 n_3=AV.int .i64 (aJa k x_4)∧aK (AV.int .i64 n_2)∧aK (bBm x_1)∧bM3 t xs
abbrev aV4:Prop:=True∧(0:Nat)=(0:Nat)
abbrev bJ7(k:Nat)(xs:QT)(n_6:Int)(y_7 t:Nat):Prop:=aK (AV.int .i64 (k:Int))∧aK (aN7 xs)∧AV.int .i64 n_6=AV.int .i64 (y_7:Int)∧aK (AV.lst t (aA xs) xs.length 1)∧True
abbrev aM5(k y_7:Nat)(xs:QT):HB:=ofBytes ([]++putMMd k (xs.take y_7))
abbrev bKf(k x_1:Nat)(xs:QT)(x_4:Nat)(n_2:Int):HB:=ofBytes (List.map toB (aM5 k x_1 xs)++(beMMd n_2 k).take x_4)
abbrev aYc(k x_1 x_4:Nat):AV:=.sl 0 (0+k*x_1+x_4) 0 (0+k*x_1+x_4) 1
theorem bNv(k:Nat)(t:Nat)(xs:QT)(Q:BS):aC5 (aW [(364555,.int .i64),(364559,.int .i64),(364561,.int .i64),(364562,.int .i64),(364568,.int .i64),(364569,.int .i64),(364570,
 .int .i64),(364571,.int .u8),(364564,.int .i64),(364565,.int .i64),(364574,.int .i64)]) (aV []) k t xs Q=(exI .i64 (xs.length:Int) (λn_0=>((∃x_1:Nat,Lf (x_1=0)∧AV.nils=AV.nils∧aK (bBm k)∧AV.int .i64 n_0
 = aN7 xs∧AV.int .i64 0=bBm x_1∧bM3 t xs)∨∃x_1:Nat,aN0 x_1 xs∧False)∧(∀x_1:Nat,Lf (x_1=0)->bif decide ((x_1:Int)<(xs.length:Int))then ckQ (Nat.blt (x_1:Int).toNat xs.length&&true) (ckQ (Nat.blt ((x_1
 : Int).toNat*1) (aA xs).length) (exV .i64 ((aA xs).getD ((x_1:Int).toNat*1) AV.undef) (λn_2=>exW .i64 ((k:Int)-1) (λn_3=>((∃x_4:Nat,Lf (x_4=0)∧AV.nils=AV.nils∧aY4 k xs n_3 x_4 n_2 x_1 t)∨∃x_4 :
 Nat,Lf (1<=x_4∧x_4<=k)∧False)∧(∀x_4:Nat,Lf (x_4=0)->exI .i64 (aJa k x_4) (λn_5=>bif decide (n_5≥0)then exI .i64 (aJa k x_4) (λn_6=>exW .i64 (8*n_6) (λn_7=>ckQ (decide (0<=n_7)&&true) (exI .i64
 (Int.fdiv n_2 ((2:Int)^Min.min n_7.toNat 64)) (λn_8=>exW .u8 n_8 (λn_9=>exI .i64 (aJa k x_4) (λn_10=>exW .i64 (n_10-1) (λn_11=>aV4∧((∃y_12:Nat,Lf (y_12=0)∧k+1<k+1∧False)∨∃y_12:Nat,Lf (1 ≤
 y_12∧y_12<=k)∧k-y_12<k+1∧[AV.int .u8 n_9]=ofBytes ((beMMd n_2 k).take y_12)∧AV.sl 0 1 0 1 1=AV.sl 0 y_12 0 y_12 1∧aY4 k xs n_11 y_12 n_2 x_1 t))))))))else exW .i64 ((x_1:Int)+1) (λn_6=>aV4∧((∃y_7:Nat,
 Lf (y_7=0)∧xs.length+1<xs.length+1∧AV.nils=AV.nils∧bJ7 k xs n_6 y_7 t)∨∃y_7:Nat,aN0 y_7 xs∧xs.length-y_7<xs.length+1∧False))))∧∀x_4:Nat,Lf (1<=x_4∧x_4<=k)->exI .i64 (aJa k x_4) (λn_5=>bif
 decide (n_5≥0)then exI .i64 (aJa k x_4) (λn_6=>exW .i64 (8*n_6) (λn_7=>ckQ (decide (0<=n_7)&&true) (exI .i64 (Int.fdiv n_2 ((2:Int)^Min.min n_7.toNat 64)) (λn_8=>exW .u8 n_8 (λn_9=>ckQ (Nat.beq (ofBytes
 ((beMMd n_2 k).take x_4)).length x_4&&true&&Nat.beq (0+x_4*1) x_4&&Nat.ble (x_4+1) 1099511627776&&Nat.ble ((x_4+1)*1) 1099511627776) (exI .i64 (aJa k x_4) (λn_10=>exW .i64 (n_10-1) (λn_11=>aV4∧((∃y_12 :
 Nat,Lf (y_12=0)∧k+1<k-x_4∧False)∨∃y_12:Nat,Lf (1<=y_12∧y_12<=k)∧k-y_12<k-x_4∧ofBytes ((beMMd n_2 k).take x_4)++[AV.int .u8 n_9]=ofBytes ((beMMd n_2 k).take y_12)∧AV.sl 0 (x_4+1) 0 (x_4+1) 1 =
 AV.sl 0 y_12 0 y_12 1∧aY4 k xs n_11 y_12 n_2 x_1 t)))))))))else exW .i64 ((x_1:Int)+1) (λn_6=>aV4∧((∃y_7:Nat,Lf (y_7=0)∧xs.length+1<xs.length+1∧False)∨∃y_7:Nat,aN0 y_7 xs∧xs.length-y_7 <
 xs.length+1∧ofBytes ((beMMd n_2 k).take x_4)=aM5 k y_7 xs∧AV.sl 0 x_4 0 x_4 1=AV.sl 0 (0+k*y_7) 0 (0+k*y_7) 1∧bJ7 k xs n_6 y_7 t)))))))else Q (.ret .nils) [] {})∧∀x_1:Nat,aN0 x_1 xs->bif decide ((x_1:Int)
 < (xs.length:Int))then ckQ (Nat.blt (x_1:Int).toNat xs.length&&true) (ckQ (Nat.blt ((x_1:Int).toNat*1) (aA xs).length) (exV .i64 ((aA xs).getD ((x_1:Int).toNat*1) AV.undef) (λn_2=>exW .i64 ((k:Int)-1) (fun
 n_3=>(∃x_4:Nat,Lf (x_4<=k)∧aM5 k x_1 xs=bKf k x_1 xs x_4 n_2∧AV.sl 0 (0+k*x_1) 0 (0+k*x_1) 1=aYc k x_1 x_4∧aY4 k xs n_3 x_4 n_2 x_1 t)∧∀x_4:Nat,Lf (x_4<=k)->exI .i64 (aJa k x_4) (λn_5=>bif
 decide (n_5≥0)then exI .i64 (aJa k x_4) (λn_6=>exW .i64 (8*n_6) (λn_7=>ckQ (decide (0<=n_7)&&true) (exI .i64 (Int.fdiv n_2 ((2:Int)^Min.min n_7.toNat 64)) (λn_8=>exW .u8 n_8 (λn_9=>ckQ (Nat.beq (bKf k x_1
 xs x_4 n_2).length (0+k*x_1+x_4)&&true&&Nat.beq (0+(0+k*x_1+x_4)*1) (0+k*x_1+x_4)&&Nat.ble (0+k*x_1+x_4+1) 1099511627776&&Nat.ble ((0+k*x_1+x_4+1)*1) 1099511627776) (exI .i64 (aJa k x_4)
 (λn_10=>exW .i64 (n_10-1) (λn_11=>aV4∧∃y_12:Nat,Lf (y_12<=k)∧k-y_12<k-x_4∧bKf k x_1 xs x_4 n_2++[AV.int .u8 n_9]=bKf k x_1 xs y_12 n_2∧AV.sl 0 (0+k*x_1+x_4+1) 0 (0+k*x_1+x_4+1) 1 =
 aYc k x_1 y_12∧aY4 k xs n_11 y_12 n_2 x_1 t))))))))else exW .i64 ((x_1:Int)+1) (λn_6=>aV4∧((∃y_7:Nat,Lf (y_7=0)∧xs.length+1<xs.length-x_1∧False)∨∃y_7:Nat,aN0 y_7 xs∧xs.length-y_7<xs.length -
 x_1∧bKf k x_1 xs x_4 n_2=aM5 k y_7 xs∧aYc k x_1 x_4=AV.sl 0 (0+k*y_7) 0 (0+k*y_7) 1∧bJ7 k xs n_6 y_7 t)))))))else Q (.ret (.sl 0 (0+k*x_1) 0 (0+k*x_1) 1)) [Blk.mk BK.grow true (aM5 k x_1 xs)] {})):=by
 kernel_rfl

noncomputable def aRc(hv:LI)(hb:LB)(k t:Nat)(xs:QT)(bs:LA):Env := { e23 sm0 (λi=>bif Nat.beq i 89000 then some (λ_=>[[aO7 k t xs bs 0]])else bif Nat.beq i 89002 then some (aQm k t xs)else none) hv hb with hz:=λk=>Nat.beq k 364572 }
noncomputable def aCy(hv:LI)(hb:LB)(k t:Nat)(xs:QT)(bs:LA)(Q:BS):Prop:=
 aT (aRc hv hb k t xs bs) (wpx (aRc hv hb k t xs bs) 1000) 89 [.sl 0 bs.length 0 bs.length 1,.int .i64 (k:Nat),.lst t (aA xs) xs.length 1] [⟨.grow,true,ofBytes bs⟩] {} Q
abbrev bL0(bs:LA)(k x_1:Nat)(xs:QT):HB:=ofBytes (bs++putMMd k (xs.take x_1))
abbrev yN(bs:LA)(k x_1:Nat):Nat:=bs.length+k*x_1
abbrev bKg(bs:LA)(k x_1:Nat)(xs:QT)(x_4:Nat)(n_2:Int):HB:=ofBytes (List.map toB (ofBytes (bs++putMMd k (xs.take x_1)))++(beMMd n_2 k).take x_4)
theorem bO6(k:Nat)(t:Nat)(xs:QT)(bs:LA)(Q:BS):aCy (aW [(364555,.int .i64),(364559,.int .i64),(364561,.int .i64),(364562,.int .i64),(364568,.int .i64),(364569,.int
 .i64),(364570,.int .i64),(364571,.int .u8),(364564,.int .i64),(364565,.int .i64),(364574,.int .i64)]) (aV []) k t xs bs Q=(exI .i64 (xs.length:Int) (λn_0=>(∃x_1:Nat,Lf (0<=x_1∧x_1<=xs.length)∧ofBytes bs =
 bL0 bs k x_1 xs∧AV.sl 0 bs.length 0 bs.length 1=AV.sl 0 (yN bs k x_1) 0 (yN bs k x_1) 1∧aK (bBm k)∧AV.int .i64 n_0=aN7 xs∧AV.int .i64 0=bBm x_1∧bM3 t xs)∧∀x_1:Nat,Lf (0<=x_1∧x_1<=xs.length)->bif
 decide ((x_1:Int)<(xs.length:Int))then ckQ (Nat.blt (x_1:Int).toNat xs.length&&true) (ckQ (Nat.blt ((x_1:Int).toNat*1) (aA xs).length) (exV .i64 ((aA xs).getD ((x_1:Int).toNat*1) AV.undef) (λn_2=>exW .i64
 ((k:Int)-1) (λn_3=>(∃x_4:Nat,Lf (x_4<=k)∧bL0 bs k x_1 xs=bKg bs k x_1 xs x_4 n_2∧AV.sl 0 (yN bs k x_1) 0 (yN bs k x_1) 1=AV.sl 0 (yN bs k x_1+x_4) 0 (yN bs k x_1+x_4) 1∧aY4 k xs n_3 x_4 n_2 x_1 t)∧∀
 x_4:Nat,Lf (x_4<=k)->exI .i64 (aJa k x_4) (λn_5=>bif decide (n_5≥0)then exI .i64 (aJa k x_4) (λn_6=>exW .i64 (8*n_6) (λn_7=>ckQ (decide (0<=n_7)&&true) (exI .i64 (Int.fdiv n_2 ((2:Int)^Min.min n_7.toNat
 64)) (λn_8=>exW .u8 n_8 (λn_9=>ckQ (Nat.beq (bKg bs k x_1 xs x_4 n_2).length (yN bs k x_1+x_4)&&true&&Nat.beq (0+(yN bs k x_1+x_4)*1) (yN bs k x_1+x_4)&&Nat.ble (yN bs k x_1+x_4+1) 1099511627776 &&
 Nat.ble ((yN bs k x_1+x_4+1)*1) 1099511627776) (exI .i64 (aJa k x_4) (λn_10=>exW .i64 (n_10-1) (λn_11=>aV4∧∃y_12:Nat,Lf (y_12<=k)∧k-y_12<k-x_4∧bKg bs k x_1 xs x_4 n_2++[AV.int .u8 n_9]=bKg bs k
 x_1 xs y_12 n_2∧AV.sl 0 (yN bs k x_1+x_4+1) 0 (yN bs k x_1+x_4+1) 1=AV.sl 0 (yN bs k x_1+y_12) 0 (yN bs k x_1+y_12) 1∧aY4 k xs n_11 y_12 n_2 x_1 t))))))))else exW .i64 ((x_1:Int)+1) (λn_6=>aV4∧∃y_7
 : Nat,Lf (0<=y_7∧y_7<=xs.length)∧xs.length-y_7<xs.length-x_1∧bKg bs k x_1 xs x_4 n_2=bL0 bs k y_7 xs∧AV.sl 0 (yN bs k x_1+x_4) 0 (yN bs k x_1+x_4) 1=AV.sl 0 (yN bs k y_7) 0 (yN bs k y_7) 1∧bJ7 k xs n_6
 y_7 t))))))else Q (.ret (.sl 0 (yN bs k x_1) 0 (yN bs k x_1) 1)) [Blk.mk BK.grow true (bL0 bs k x_1 xs)] {})):=by kernel_rfl

theorem aEj(n:Int)(j:Nat)(hj:j<=7)(z:Int)(hz:z=8*(j:Int)):IntKind.wrap .u8 (Int.fdiv n (2^min (Int.toNat z) 64))=((octMMd n j).toNat:Int):=by
 subst hz
 have e1:min (Int.toNat (8*(j:Int))) 64=8*j:=by omega
 have e2:(2:Int)^(8*j)=256^j:=by rw[Int.pow_mul];rfl
 have e3:(0:Int)<=256^j:=Int.pow_nonneg (by decide)
 rw[e1,e2,bX3 _ e3,IntKind.wrap_u8,octMMd]
 generalize n/256^j=x
 have h1:(0:Int)<=x%256:=Int.emod_nonneg _ (by decide)
 have h2:x%256<256:=cCh _ (by decide)
 rw[cCi]
 omega
theorem mI(a:LA)(x:UInt8):ofBytes a++[AV.int .u8 ((x.toNat:Nat):Int)]=ofBytes (a++[x]):=by simp[ofBytes]
theorem aNy(k t:Nat)(xs:QT)(bs:LA)(hk:1<=k∧k<=7)(hx:xs.length<=1000000)(hbs:bs.length<=1000000)(Q:BS)
  (hq:Q (.ret (.sl 0 (bs.length+k*xs.length) 0 (bs.length+k*xs.length) 1)) [⟨.grow,true,ofBytes (bs++putMMd k xs)⟩] {}):∃hv hb,aCy hv hb k t xs bs Q:=by
 obtain⟨hv,hb',e⟩:∃hv hb,aCy hv hb k t xs bs Q=_:=⟨_,_,bO6 k t xs bs Q⟩
 refine⟨hv,hb',e.mpr ?_⟩
 delta bL0 yN bBm aN7 bM3 bKg aJa aY4 aV4 bJ7
 clear e
 refine⟨_,rfl,⟨0,⟨by omega,by omega⟩,by simp[putMMd],by rw[Nat.mul_zero,bYv],rfl,rfl,rfl,rfl,trivial⟩, ?_⟩
 rintro i ⟨hlo,hi⟩
 refine aH (λhlt => ?_) (λhge => ?_)
 ·have hlt':i<xs.length:=by omega
  have hki:k*i+k<=k*xs.length:=by rw[←cAb];exact cAt _ hlt'
  have hkx:k*xs.length<=7000000:=by
   have:=cAe hk.2 hx
   omega
  refine ckO (ckI (by simp[aM];omega) (aAa (i:=i) hlt' (by simp) (aF ⟨⟨0,⟨bYb _⟩,by rw[kY];simp,by rw[bYv],rfl,rfl,by simp,rfl,rfl,rfl,trivial⟩, ?_⟩)))
  rintro m ⟨hm⟩
  rw[kY]
  refine⟨_,rfl,aH (λh0 => ?_) (λh0 => ?_)⟩
  ·have hmk:m<k:=by omega
   have bt:=lL (xs.getD i 0) k m hmk
   have lt:=be_lenMd (xs.getD i 0) k
   refine⟨_,rfl,aF (ckI (by rw[bX4];exact bXr (by omega)) ⟨_,rfl,((octMMd (xs.getD i 0) (k-1-m)).toNat:Int), ?_, ?_⟩)⟩
   ·rw[aEj _ (k-1-m) (by omega) _ (by omega)]
   ·refine ckI ?_ ⟨_,rfl,aF ⟨⟨trivial,rfl⟩,m+1,⟨hmk⟩,by omega, ?_,rfl,rfl,rfl, ?_,rfl,rfl,rfl,trivial⟩⟩
    ·have e1:(ofBytes (bs++putMMd k (xs.take i)++(beMMd (xs.getD i 0) k).take m)).length=bs.length+k*i+m:=by
      rw[aL,bW2,bW2,put_lenMd,bXg,bXg,lt,bYf hi,bYf (by omega)]
     rw[e1]
     simp
     omega
    ·rw[mI,bW9,←bt]
    ·congr 1
     omega
  ·have hmk:m=k:=by omega
   subst hmk
   have lt:=be_lenMd (xs.getD i 0) m
   refine aF ⟨⟨trivial,rfl⟩,i+1,⟨by omega,hlt'⟩,by omega, ?_, ?_,rfl,rfl,rfl,rfl,trivial⟩
   ·rw[bW4 (l:=beMMd (xs.getD i 0) m) (by omega),rD _ _ hlt',bW9]
   ·rw[cAb,bYp]
 ·have hle:i=xs.length:=by omega
  subst hle
  rw[bX8]
  exact hq
theorem aMq(k t:Nat)(xs:QT)(hk:1<=k∧k<=7)(hx:xs.length<=1000000)(Q:BS)
  (hq0:xs=[]->Q (.ret .nils) [] {}) (hq:1<=xs.length->Q (.ret (.sl 0 (k*xs.length) 0 (k*xs.length) 1)) [⟨.grow,true,ofBytes (putMMd k xs)⟩] {}):∃hv hb,aC5 hv hb k t xs Q:=by
 obtain⟨hv,hb',e⟩:∃hv hb,aC5 hv hb k t xs Q=_:=⟨_,_,bNv k t xs Q⟩
 refine⟨hv,hb',e.mpr ?_⟩
 delta bBm aN7 bM3 aN0 aJa aY4 aV4 bJ7 aM5 bKf aYc
 clear e
 refine⟨_,rfl,.inl ⟨0,⟨rfl⟩,rfl,rfl,rfl,rfl,rfl,trivial⟩, ?_, ?_⟩
 ·rintro _ ⟨rfl⟩
  refine aH (λhlt => ?_) (λhge=>hq0 (bYq.1 (by omega)))
  have hlt':0<xs.length:=by omega
  refine ckO (ckI (by simp[aM];omega) (aAa (i:=0) hlt' (by simp) (aF ⟨.inl ⟨0,⟨rfl⟩,rfl,rfl,rfl,by simp,rfl,rfl,rfl,trivial⟩, ?_, ?_⟩)))
  ·rintro _ ⟨rfl⟩
   have bt:=lL (xs.getD 0 0) k 0 (by omega)
   refine⟨_,rfl,aH (λh0 => ?_) (λh0=>by exfalso;omega)⟩
   refine⟨_,rfl,aF (ckI (by rw[bX4];exact bXr (by omega)) ⟨_,rfl,((octMMd (xs.getD 0 0) (k-1-0)).toNat:Int), ?_, ?_⟩)⟩
   ·rw[aEj _ (k-1-0) (by omega) _ (by omega)]
   ·refine⟨_,rfl,aF ⟨⟨trivial,rfl⟩,.inr ⟨1,⟨by omega,by omega⟩,by omega, ?_,rfl,rfl,rfl, ?_,rfl,rfl,rfl,trivial⟩⟩⟩
    ·rw[bt]
     simp[ofBytes]
    ·congr 1
     omega
  ·rintro m ⟨hm1,hm⟩
   refine⟨_,rfl,aH (λh0 => ?_) (λh0 => ?_)⟩
   ·have hmk:m<k:=by omega
    have bt:=lL (xs.getD 0 0) k m hmk
    have lt:=be_lenMd (xs.getD 0 0) k
    refine⟨_,rfl,aF (ckI (by rw[bX4];exact bXr (by omega)) ⟨_,rfl,((octMMd (xs.getD 0 0) (k-1-m)).toNat:Int), ?_, ?_⟩)⟩
    ·rw[aEj _ (k-1-m) (by omega) _ (by omega)]
    ·refine ckI ?_ ⟨_,rfl,aF ⟨⟨trivial,rfl⟩,.inr ⟨m+1,⟨by omega,hmk⟩,by omega, ?_,rfl,rfl,rfl, ?_,rfl,rfl,rfl,trivial⟩⟩⟩
     ·rw[aL,bXg,lt,bYf (by omega)]
      simp
      omega
     ·rw[mI,←bt]
     ·congr 1
      omega
   ·have hmk:m=k:=by omega
    subst hmk
    have lt:=be_lenMd (xs.getD 0 0) m
    refine aF ⟨⟨trivial,rfl⟩,.inr ⟨1,⟨by omega,hlt'⟩,by omega, ?_, ?_,rfl,rfl,rfl,rfl,trivial⟩⟩
    ·rw[bW4 (l:=beMMd (xs.getD 0 0) m) (by omega),rD _ _ hlt']
     simp[putMMd]
    ·simp
 ·rintro i ⟨hlo,hi⟩
  refine aH (λhlt => ?_) (λhge => ?_)
  ·have hlt':i<xs.length:=by omega
   have hki:k*i+k<=k*xs.length:=by rw[←cAb];exact cAt _ hlt'
   have hkx:k*xs.length<=7000000:=by
    have:=cAe hk.2 hx
    omega
   refine ckO (ckI (by simp[aM];omega) (aAa (i:=i) hlt' (by simp) (aF ⟨⟨0,⟨bYb _⟩,by rw[kY];simp,by rw[bYv],rfl,rfl,by simp,rfl,rfl,rfl,trivial⟩, ?_⟩)))
   rintro m ⟨hm⟩
   rw[kY]
   refine⟨_,rfl,aH (λh0 => ?_) (λh0 => ?_)⟩
   ·have hmk:m<k:=by omega
    have bt:=lL (xs.getD i 0) k m hmk
    have lt:=be_lenMd (xs.getD i 0) k
    refine⟨_,rfl,aF (ckI (by rw[bX4];exact bXr (by omega)) ⟨_,rfl,((octMMd (xs.getD i 0) (k-1-m)).toNat:Int), ?_, ?_⟩)⟩
    ·rw[aEj _ (k-1-m) (by omega) _ (by omega)]
    ·refine ckI ?_ ⟨_,rfl,aF ⟨⟨trivial,rfl⟩,m+1,⟨hmk⟩,by omega, ?_,rfl,rfl,rfl, ?_,rfl,rfl,rfl,trivial⟩⟩
     ·have e1:(ofBytes ([]++putMMd k (xs.take i)++(beMMd (xs.getD i 0) k).take m)).length=k*i+m:=by
       rw[aL,bW2,bW2,put_lenMd,bXg,bXg,lt,bYf hi,bYf (by omega)]
       simp
      rw[e1]
      simp
      omega
     ·rw[mI,bW9,←bt]
     ·congr 1
      omega
   ·have hmk:m=k:=by omega
    subst hmk
    have lt:=be_lenMd (xs.getD i 0) m
    refine aF ⟨⟨trivial,rfl⟩,.inr ⟨i+1,⟨by omega,hlt'⟩,by omega, ?_, ?_,rfl,rfl,rfl,rfl,trivial⟩⟩
    ·rw[bW4 (l:=beMMd (xs.getD i 0) m) (by omega),rD _ _ hlt',bW9]
    ·rw[cAb,bYp]
  ·have hle:i=xs.length:=by omega
   subst hle
   have hh:=hq hlo
   rw[bX8]
   simpa using hh
def aJ5:Con
 | [.nils,.int .i64 k,.lst t l n 1],H,K=>∃xs:QT,Lf (l=aA xs∧n=xs.length∧1<=k∧k<=7∧1<=xs.length∧xs.length<=1000000)∧K (.ret (.sl H.length (putMMd k.toNat xs).length 0 (putMMd k.toNat xs).length 1)) (H++[⟨.grow,true,ofBytes (putMMd k.toNat xs)⟩])
 | [.sl id tot 0 len 1,.int .i64 k,.lst t l n 1],H,K=>∃ (bs:LA) (xs:QT),Lf (H[id]? = some ⟨.grow,true,ofBytes bs⟩∧tot=bs.length∧len=bs.length∧bs.length<=1000000∧l=aA xs∧n=xs.length∧1<=k∧k<=7∧xs.length<=1000000)∧K (.ret (.sl id (bs++putMMd k.toNat xs).length 0 (bs++putMMd k.toNat xs).length 1)) (H.set id ⟨.grow,true,ofBytes (bs++putMMd k.toNat xs)⟩)
 | _,_,_=>False
theorem aDp(n:Nat)(xs:QT):aP n (aA xs)=true:=by
 induction xs with
 | nil=>rfl
 | cons x l ih=>simpa[aA,aP,old]using ih
theorem put_rawMd:aI Tryz.prog gl0 89 aJ5:=by
 refine fZ (enters_of (by kernel_rfl)) aO λargs H Q hc => ?_
 unfold aJ5 at hc
 split at hc
 ·rename_i k t l n
  obtain⟨xs,⟨rfl,rfl,h1,h2,h3,h4⟩,hq⟩:=hc
  obtain⟨k,rfl⟩:∃m:Nat,k=m:=⟨k.toNat,by omega⟩
  rw[bXf]at hq
  obtain⟨hv,hb',h⟩:=aMq k t xs ⟨by omega,by omega⟩ h4 (λo H' _=>o=.ret (.sl 0 (k*xs.length) 0 (k*xs.length) 1)∧H'=[⟨.grow,true,ofBytes (putMMd k xs)⟩])
   (λe=>by subst e;simp at h3) (λ_=>⟨rfl,rfl⟩)
  refine⟨_,1000,id,[.nils,.int .i64 (k:Nat),.lst t (aA xs) xs.length 1],[],_, ?_,rfl,rfl,by simp[aP,old,aDp],by simp[bX,noY,(rX xs).1],Fr.nil _,h, ?_⟩
  ·exact⟨kU,kZ,dH,bY⟩
  ·rintro o H0' g' ⟨rfl,rfl⟩
   refine⟨_,aVh (aZ 0 _) (gD _), ?_⟩
   have e1:(putMMd k xs).length=k*xs.length:=put_lenMd k xs
   rw[e1]at hq
   exact hq
 ·rename_i id tot len k t l n
  obtain⟨bs,xs,⟨h1,rfl,rfl,h3,rfl,rfl,h4,h5,h6⟩,hq⟩:=hc
  obtain⟨k,rfl⟩:∃m:Nat,k=m:=⟨k.toNat,by omega⟩
  rw[bXf]at hq
  obtain⟨hv,hb',h⟩:=aNy k t xs bs ⟨by omega,by omega⟩ h6 h3 (λo H' _=>o=.ret (.sl 0 (bs.length+k*xs.length) 0 (bs.length+k*xs.length) 1)∧H'=[⟨.grow,true,ofBytes (bs++putMMd k xs)⟩]) ⟨rfl,rfl⟩
  refine⟨_,1000,λ_=>id,[.sl 0 bs.length 0 bs.length 1,.int .i64 (k:Nat),.lst t (aA xs) xs.length 1],[⟨.grow,true,ofBytes bs⟩],_, ?_,rfl,rfl,by simp[aP,old,aDp],by simp[bX,noY,(rX xs).1],aWk h1 (aZ 0 _) (aZ 1 _) (gD _),h, ?_⟩
  ·exact⟨kU,kZ,dH,bY⟩
  ·rintro o H0' g' ⟨rfl,rfl⟩
   refine⟨_,aSa h1 (aZ 0 _) (gD _), ?_⟩
   have e1:(bs++putMMd k xs).length=bs.length+k*xs.length:=by rw[bW2,put_lenMd]
   rw[e1]at hq
   exact hq
 ·exact hc.elim
end Go.Proofs.YtnhechnaemmdiaaGreatDoor.Md
