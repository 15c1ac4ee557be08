/-
  Chapter 24: numbers put as octets, behind a slice of the caller's own.
-/
import Derived.Test.YtnhechnaemmdiaaGreatDoorZnC
set_option linter.unusedSimpArgs false
set_option linter.unusedVariables false
namespace Go.Proofs.YtnhechnaemmdiaaGreatDoor.Cd
open Go.RowKit
set_option maxRecDepth 1000000

theorem jD{id:Nat}{H:HV}{cs:HB}(h:H[id]? = some ⟨.grow,true,cs⟩)(h0:aP 0 cs=true)(h1:aP 1 cs=true)(hy:bX cs=true):Fr (λ_=>id) [⟨.grow,true,cs⟩] H:=by
 refine⟨λj b0 hb => ?_,λj j' b0 hb _ hj' _ => ?_,λj b0 hb => ?_⟩
 ·cases j with
  | zero=>
   simp only[bXv,bW5]at hb
   subst hb
   refine⟨?_,h1,hy,λ_=>h0,_,h,(aU _ cs h0 hy).symm,.inr rfl⟩
   exact(bXq.1 h).1
  | succ j=>simp at hb
 ·cases j with
  | zero=>simp at hj';omega
  | succ j=>simp at hb
 ·cases j with
  | zero=>simp at hb;subst hb;exact λh=>by cases h
  | succ j=>simp at hb
theorem gH{id:Nat}{H:HV}{cs cs':HB}(h:H[id]? = some ⟨.grow,true,cs⟩)(h0:aP 0 cs'=true)(hy:bX cs'=true):FrEnd (λ_=>id) [⟨.grow,true,cs⟩] [⟨.grow,true,cs'⟩] H (H.set id ⟨.grow,true,cs'⟩):=by
 have hl:id<H.length:=(bXq.1 h).1
 refine⟨by simp,λj b0 hb hk => ?_,λj b0 hb hk => ?_,λj b0 hj hb => ?_,by simp,λk hk hn => ?_,λj b hb hk => ?_⟩
 ·cases j with
  | zero=>simp at hb;subst hb;cases hk
  | succ j=>simp at hb
 ·cases j with
  | zero=>simp at hb;subst hb;exact⟨_,rfl,rfl⟩
  | succ j=>simp at hb
 ·cases j with
  | zero=>simp at hj
  | succ j=>simp at hb
 ·have:=hn 0 _ rfl (by simp)
  rw[bYu (by omega)]
 ·cases j with
  | zero=>
   simp only[bXv,bW5]at hb
   subst hb
   show(H.set id _)[id]? = some (aDd _ _)
   rw[bZu hl]
   simp only[aDd,aU _ cs' h0 hy]
  | succ j=>simp at hb
theorem aT2{H:HV}{cs':HB}(h0:aP 0 cs'=true)(hy:bX cs'=true):FrEnd id [] [⟨.grow,true,cs'⟩] H (H++[⟨.grow,true,cs'⟩]):=by
 refine⟨by simp,λj b0 hb hk=>by simp at hb,λj b0 hb hk=>by simp at hb,λj b0 hj hb => ?_,by simp,λk hk hn => ?_,λj b hb hk => ?_⟩
 ·cases j with
  | zero=>simp at hb;subst hb;simp
  | succ j=>simp at hb
 ·rw[bXx hk]
 ·cases j with
  | zero=>
   simp only[bXv,bW5]at hb
   subst hb
   show(H++_)[sig id 0 H.length 0]? = _
   have:sig id 0 H.length 0=H.length:=by simp[sig]
   rw[this,bYa (bXe _),bZ4]
   simp only[bXv,aDd,aU _ cs' h0 hy]
  | succ j=>simp at hb

theorem aC(l:LA):(ofBytes l).length=l.length:=by simp[ofBytes]
theorem bE(a b:LA):ofBytes a++ofBytes b=ofBytes (a++b):=by simp[ofBytes]
theorem aY(l:LA):eH (ofBytes l)=true:=by
 induction l with
 | nil=>rfl
 | cons x l ih=>simpa[ofBytes,eH,one]using ih
theorem aJ(n:Nat)(l:LA):aP n (ofBytes l)=true:=by
 induction l with
 | nil=>rfl
 | cons x l ih=>simpa[ofBytes,aP,old]using ih
theorem bG(l:LA):bX (ofBytes l)=true:=by
 induction l with
 | nil=>rfl
 | cons x l ih=>simpa[ofBytes,bX,noY]using ih
theorem kV(l:LA):(ofBytes l).map toB=l:=by
 simp only[ofBytes,cA0]
 conv=>rhs;rw[←cCb l]
 congr 1
 funext x
 simp[toB]

def fO(n:Int)(i:Nat):UInt8:=UInt8.ofNat (n/256^i%256).toNat
def eU(n:Int):Nat->LA
 | 0=>[]
 | k+1=>fO n k::eU n k
def aB(k:Nat):QT->LA
 | []=>[]
 | n::l=>eU n k++aB k l
theorem gU(n:Int):∀k,(eU n k).length=k
 | 0=>rfl
 | k+1=>by rw[eU,bXc,gU n k]
theorem aUn(k:Nat)(a b:QT):aB k (a++b)=aB k a++aB k b:=by
 induction a with
 | nil=>rfl
 | cons x a ih=>rw[bX0,aB,ih,aB,bW9]
theorem aG(k:Nat)(l:QT):(aB k l).length=k*l.length:=by
 induction l with
 | nil=>rfl
 | cons x l ih=>rw[aB,bW2,gU,ih,bXc,cAb];omega
theorem qN(k:Nat)(l:QT){i:Nat}(hi:i<l.length):aB k (l.take (i+1))=aB k (l.take i)++eU (l.getD i 0) k:=by
 have e:l.take (i+1)=l.take i++[l.getD i 0]:=by
  rw[bYm,bW7,bW8 hi];rfl
 rw[e,aUn,aB,aB,bXs]
theorem lU(n:Int):∀ (k m:Nat),m<k->(eU n k).take (m+1)=(eU n k).take m++[fO n (k-1-m)]
 | 0,m,h=>by omega
 | k+1,0,h=>by simp[eU]
 | k+1,m+1,h=>by
  have ih:=lU n k m (by omega)
  have e:k+1-1-(m+1)=k-1-m:=by omega
  rw[eU,bY7,ih,bY7,bX0,e]

def bDw(k:Nat)(t:Nat)(xs:QT):LInv where
 α:=Nat
 pre i:=Lf (i=0)
 st i:=⟨mkT [(0,.nils),(1,.int .i64 (k:Nat)),(10,.lst t (aA xs) xs.length 1),(11,.int .i64 xs.length),(12,.int .i64 (i:Nat))],[]⟩
 mu i:=xs.length+1
def aRp(k:Nat)(t:Nat)(xs:QT)(bs:LA)(lo:Nat):LInv where
 α:=Nat
 pre i:=Lf (lo<=i∧i<=xs.length)
 st i:=⟨mkT [(0,.sl 0 (bs.length+k*i) 0 (bs.length+k*i) 1),(1,.int .i64 (k:Nat)),(10,.lst t (aA xs) xs.length 1),(11,.int .i64 xs.length),(12,.int .i64 (i:Nat))],[⟨.grow,true,ofBytes (bs++aB k (xs.take i))⟩]⟩
 mu i:=xs.length-i
def aTs(k t:Nat)(xs:QT)(s:S):List (List LInv):=match s.tm.get 0,s.tm.get 8,s.tm.get 12,s.hp with
 | .nils,.int _ n,.int _ i,[]=>[[{ α:=Nat,pre:=λm=>Lf (m=0),st:=λm=>⟨mkT [(0,.nils),(1,.int .i64 (k:Nat)),(8,.int .i64 n),(9,.int .i64 ((k:Int)-1-m)),(10,.lst t (aA xs) xs.length 1),(11,.int .i64 xs.length),(12,.int .i64 i)],[]⟩,mu:=λm=>k+1 },
   { α:=Nat,pre:=λm=>Lf (1<=m∧m<=k),st:=λm=>⟨mkT [(0,.sl 0 m 0 m 1),(1,.int .i64 (k:Nat)),(8,.int .i64 n),(9,.int .i64 ((k:Int)-1-m)),(10,.lst t (aA xs) xs.length 1),(11,.int .i64 xs.length),(12,.int .i64 i)],[⟨.grow,true,ofBytes ((eU n k).take m)⟩]⟩,mu:=λm=>k-m }]]
 | .sl _ tot _ _ _,.int _ n,.int _ i,[bl]=>[[{ α:=Nat,pre:=λm=>Lf (m<=k),st:=λm=>⟨mkT [(0,.sl 0 (tot+m) 0 (tot+m) 1),(1,.int .i64 (k:Nat)),(8,.int .i64 n),(9,.int .i64 ((k:Int)-1-m)),(10,.lst t (aA xs) xs.length 1),(11,.int .i64 xs.length),(12,.int .i64 i)],[⟨.grow,true,ofBytes (bl.cs.map toB++(eU n k).take m)⟩]⟩,mu:=λm=>k-m }]]
 | _,_,_,_=>[]
noncomputable def aQ5(hv:LI)(hb:LB)(k t:Nat)(xs:QT):Env := { e24 sm0 (λi=>bif Nat.beq i 146000 then some (λ_=>[[bDw k t xs,aRp k t xs [] 1]])else bif Nat.beq i 146002 then some (aTs k t xs)else none) hv hb with hz:=λk=>Nat.beq k 598044 }
noncomputable def aCq(hv:LI)(hb:LB)(k t:Nat)(xs:QT)(Q:BS):Prop:=
 aT (aQ5 hv hb k t xs) (wpx (aQ5 hv hb k t xs) 1000) 146 [.nils,.int .i64 (k:Nat),.lst t (aA xs) xs.length 1] [] {} Q
abbrev bCd(k:Nat):AV:=.int .i64 (k:Int)
abbrev aMo(xs:QT):AV:=.int .i64 (xs.length:Int)
abbrev bO0(t:Nat)(xs:QT):Prop:=aK (AV.lst t (aA xs) xs.length 1)∧True
abbrev aNj(x_1:Nat)(xs:QT):Prop:=Lf (1<=x_1∧x_1<=xs.length)
abbrev aJk(k x_4:Nat):Int:=(k:Int)-1-(x_4:Int)
abbrev aY2(k:Nat)(xs:QT)(n_3:Int)(x_4:Nat)(n_2:Int)(x_1 t:Nat):Prop:=aK (bCd k)∧aK (aMo xs)∧AV.int .i64 n_3=AV.int .i64 (aJk k x_4)∧aK (AV.int .i64 n_2)∧aK (bCd x_1)∧bO0 t xs
abbrev aWc:Prop:=True∧(0:Nat)=(0:Nat)
abbrev bKn(k:Nat)(xs:QT)(n_6:Int)(y_7 t:Nat):Prop:=aK (AV.int .i64 (k:Int))∧aK (aMo xs)∧AV.int .i64 n_6=AV.int .i64 (y_7:Int)∧aK (AV.lst t (aA xs) xs.length 1)∧True
abbrev aNs(k y_7:Nat)(xs:QT):HB:=ofBytes ([]++aB k (xs.take y_7))
abbrev bKb(k x_1:Nat)(xs:QT)(x_4:Nat)(n_2:Int):HB:=ofBytes (List.map toB (aNs k x_1 xs)++(eU n_2 k).take x_4)
abbrev aYj(k x_1 x_4:Nat):AV:=.sl 0 (0+k*x_1+x_4) 0 (0+k*x_1+x_4) 1
theorem bP0(k:Nat)(t:Nat)(xs:QT)(Q:BS):aCq (aW [(598027,.int .i64),(598031,.int .i64),(598033,.int .i64),(598034,.int .i64),(598040,.int .i64),(598041,.int .i64),(598042,
 .int .i64),(598043,.int .u8),(598036,.int .i64),(598037,.int .i64),(598046,.int .i64)]) (aV []) k t xs Q=(exI .i64 (xs.length:Int) (λn_0=>((∃x_1:Nat,Lf (x_1=0)∧AV.nils=AV.nils∧aK (bCd k)∧AV.int .i64 n_0
 = aMo xs∧AV.int .i64 0=bCd x_1∧bO0 t xs)∨∃x_1:Nat,aNj x_1 xs∧False)∧(∀x_1:Nat,Lf (x_1=0)->bif decide ((x_1:Int)<(xs.length:Int))then ckQ (Nat.blt (x_1:Int).toNat xs.length&&true) (ckQ (Nat.blt ((x_1
 : Int).toNat*1) (aA xs).length) (exV .i64 ((aA xs).getD ((x_1:Int).toNat*1) AV.undef) (λn_2=>exW .i64 ((k:Int)-1) (λn_3=>((∃x_4:Nat,Lf (x_4=0)∧AV.nils=AV.nils∧aY2 k xs n_3 x_4 n_2 x_1 t)∨∃x_4 :
 Nat,Lf (1<=x_4∧x_4<=k)∧False)∧(∀x_4:Nat,Lf (x_4=0)->exI .i64 (aJk k x_4) (λn_5=>bif decide (n_5≥0)then exI .i64 (aJk k x_4) (λn_6=>exW .i64 (8*n_6) (λn_7=>ckQ (decide (0<=n_7)&&true) (exI .i64
 (Int.fdiv n_2 ((2:Int)^Min.min n_7.toNat 64)) (λn_8=>exW .u8 n_8 (λn_9=>exI .i64 (aJk k x_4) (λn_10=>exW .i64 (n_10-1) (λn_11=>aWc∧((∃y_12:Nat,Lf (y_12=0)∧k+1<k+1∧False)∨∃y_12:Nat,Lf (1 ≤
 y_12∧y_12<=k)∧k-y_12<k+1∧[AV.int .u8 n_9]=ofBytes ((eU n_2 k).take y_12)∧AV.sl 0 1 0 1 1=AV.sl 0 y_12 0 y_12 1∧aY2 k xs n_11 y_12 n_2 x_1 t))))))))else exW .i64 ((x_1:Int)+1) (λn_6=>aWc∧((∃y_7:Nat,
 Lf (y_7=0)∧xs.length+1<xs.length+1∧AV.nils=AV.nils∧bKn k xs n_6 y_7 t)∨∃y_7:Nat,aNj y_7 xs∧xs.length-y_7<xs.length+1∧False))))∧∀x_4:Nat,Lf (1<=x_4∧x_4<=k)->exI .i64 (aJk k x_4) (λn_5=>bif
 decide (n_5≥0)then exI .i64 (aJk k x_4) (λn_6=>exW .i64 (8*n_6) (λn_7=>ckQ (decide (0<=n_7)&&true) (exI .i64 (Int.fdiv n_2 ((2:Int)^Min.min n_7.toNat 64)) (λn_8=>exW .u8 n_8 (λn_9=>ckQ (Nat.beq (ofBytes
 ((eU n_2 k).take x_4)).length x_4&&true&&Nat.beq (0+x_4*1) x_4&&Nat.ble (x_4+1) 1099511627776&&Nat.ble ((x_4+1)*1) 1099511627776) (exI .i64 (aJk k x_4) (λn_10=>exW .i64 (n_10-1) (λn_11=>aWc∧((∃y_12 :
 Nat,Lf (y_12=0)∧k+1<k-x_4∧False)∨∃y_12:Nat,Lf (1<=y_12∧y_12<=k)∧k-y_12<k-x_4∧ofBytes ((eU n_2 k).take x_4)++[AV.int .u8 n_9]=ofBytes ((eU n_2 k).take y_12)∧AV.sl 0 (x_4+1) 0 (x_4+1) 1 =
 AV.sl 0 y_12 0 y_12 1∧aY2 k xs n_11 y_12 n_2 x_1 t)))))))))else exW .i64 ((x_1:Int)+1) (λn_6=>aWc∧((∃y_7:Nat,Lf (y_7=0)∧xs.length+1<xs.length+1∧False)∨∃y_7:Nat,aNj y_7 xs∧xs.length-y_7 <
 xs.length+1∧ofBytes ((eU n_2 k).take x_4)=aNs k y_7 xs∧AV.sl 0 x_4 0 x_4 1=AV.sl 0 (0+k*y_7) 0 (0+k*y_7) 1∧bKn k xs n_6 y_7 t)))))))else Q (.ret .nils) [] {})∧∀x_1:Nat,aNj x_1 xs->bif decide ((x_1:Int)
 < (xs.length:Int))then ckQ (Nat.blt (x_1:Int).toNat xs.length&&true) (ckQ (Nat.blt ((x_1:Int).toNat*1) (aA xs).length) (exV .i64 ((aA xs).getD ((x_1:Int).toNat*1) AV.undef) (λn_2=>exW .i64 ((k:Int)-1) (fun
 n_3=>(∃x_4:Nat,Lf (x_4<=k)∧aNs k x_1 xs=bKb k x_1 xs x_4 n_2∧AV.sl 0 (0+k*x_1) 0 (0+k*x_1) 1=aYj k x_1 x_4∧aY2 k xs n_3 x_4 n_2 x_1 t)∧∀x_4:Nat,Lf (x_4<=k)->exI .i64 (aJk k x_4) (λn_5=>bif
 decide (n_5≥0)then exI .i64 (aJk k x_4) (λn_6=>exW .i64 (8*n_6) (λn_7=>ckQ (decide (0<=n_7)&&true) (exI .i64 (Int.fdiv n_2 ((2:Int)^Min.min n_7.toNat 64)) (λn_8=>exW .u8 n_8 (λn_9=>ckQ (Nat.beq (bKb k x_1
 xs x_4 n_2).length (0+k*x_1+x_4)&&true&&Nat.beq (0+(0+k*x_1+x_4)*1) (0+k*x_1+x_4)&&Nat.ble (0+k*x_1+x_4+1) 1099511627776&&Nat.ble ((0+k*x_1+x_4+1)*1) 1099511627776) (exI .i64 (aJk k x_4)
 (λn_10=>exW .i64 (n_10-1) (λn_11=>aWc∧∃y_12:Nat,Lf (y_12<=k)∧k-y_12<k-x_4∧bKb k x_1 xs x_4 n_2++[AV.int .u8 n_9]=bKb k x_1 xs y_12 n_2∧AV.sl 0 (0+k*x_1+x_4+1) 0 (0+k*x_1+x_4+1) 1 =
 aYj k x_1 y_12∧aY2 k xs n_11 y_12 n_2 x_1 t))))))))else exW .i64 ((x_1:Int)+1) (λn_6=>aWc∧((∃y_7:Nat,Lf (y_7=0)∧xs.length+1<xs.length-x_1∧False)∨∃y_7:Nat,aNj y_7 xs∧xs.length-y_7<xs.length -
 x_1∧bKb k x_1 xs x_4 n_2=aNs k y_7 xs∧aYj k x_1 x_4=AV.sl 0 (0+k*y_7) 0 (0+k*y_7) 1∧bKn k xs n_6 y_7 t)))))))else Q (.ret (.sl 0 (0+k*x_1) 0 (0+k*x_1) 1)) [Blk.mk BK.grow true (aNs k x_1 xs)] {})):=by
 kernel_rfl

noncomputable def aUp(hv:LI)(hb:LB)(k t:Nat)(xs:QT)(bs:LA):Env := { e24 sm0 (λi=>bif Nat.beq i 146000 then some (λ_=>[[aRp k t xs bs 0]])else bif Nat.beq i 146002 then some (aTs k t xs)else none) hv hb with hz:=λk=>Nat.beq k 598044 }
noncomputable def aA3(hv:LI)(hb:LB)(k t:Nat)(xs:QT)(bs:LA)(Q:BS):Prop:=
 aT (aUp hv hb k t xs bs) (wpx (aUp hv hb k t xs bs) 1000) 146 [.sl 0 bs.length 0 bs.length 1,.int .i64 (k:Nat),.lst t (aA xs) xs.length 1] [⟨.grow,true,ofBytes bs⟩] {} Q
abbrev bOq(bs:LA)(k x_1:Nat)(xs:QT):HB:=ofBytes (bs++aB k (xs.take x_1))
abbrev yM(bs:LA)(k x_1:Nat):Nat:=bs.length+k*x_1
abbrev bKr(bs:LA)(k x_1:Nat)(xs:QT)(x_4:Nat)(n_2:Int):HB:=ofBytes (List.map toB (ofBytes (bs++aB k (xs.take x_1)))++(eU n_2 k).take x_4)
theorem bMu(k:Nat)(t:Nat)(xs:QT)(bs:LA)(Q:BS):aA3 (aW [(598027,.int .i64),(598031,.int .i64),(598033,.int .i64),(598034,.int .i64),(598040,.int .i64),(598041,.int
 .i64),(598042,.int .i64),(598043,.int .u8),(598036,.int .i64),(598037,.int .i64),(598046,.int .i64)]) (aV []) k t xs bs Q=(exI .i64 (xs.length:Int) (λn_0=>(∃x_1:Nat,Lf (0<=x_1∧x_1<=xs.length)∧ofBytes bs =
 bOq bs k x_1 xs∧AV.sl 0 bs.length 0 bs.length 1=AV.sl 0 (yM bs k x_1) 0 (yM bs k x_1) 1∧aK (bCd k)∧AV.int .i64 n_0=aMo xs∧AV.int .i64 0=bCd x_1∧bO0 t xs)∧∀x_1:Nat,Lf (0<=x_1∧x_1<=xs.length)->bif
 decide ((x_1:Int)<(xs.length:Int))then ckQ (Nat.blt (x_1:Int).toNat xs.length&&true) (ckQ (Nat.blt ((x_1:Int).toNat*1) (aA xs).length) (exV .i64 ((aA xs).getD ((x_1:Int).toNat*1) AV.undef) (λn_2=>exW .i64
 ((k:Int)-1) (λn_3=>(∃x_4:Nat,Lf (x_4<=k)∧bOq bs k x_1 xs=bKr bs k x_1 xs x_4 n_2∧AV.sl 0 (yM bs k x_1) 0 (yM bs k x_1) 1=AV.sl 0 (yM bs k x_1+x_4) 0 (yM bs k x_1+x_4) 1∧aY2 k xs n_3 x_4 n_2 x_1 t)∧∀
 x_4:Nat,Lf (x_4<=k)->exI .i64 (aJk k x_4) (λn_5=>bif decide (n_5≥0)then exI .i64 (aJk k x_4) (λn_6=>exW .i64 (8*n_6) (λn_7=>ckQ (decide (0<=n_7)&&true) (exI .i64 (Int.fdiv n_2 ((2:Int)^Min.min n_7.toNat
 64)) (λn_8=>exW .u8 n_8 (λn_9=>ckQ (Nat.beq (bKr bs k x_1 xs x_4 n_2).length (yM bs k x_1+x_4)&&true&&Nat.beq (0+(yM bs k x_1+x_4)*1) (yM bs k x_1+x_4)&&Nat.ble (yM bs k x_1+x_4+1) 1099511627776 &&
 Nat.ble ((yM bs k x_1+x_4+1)*1) 1099511627776) (exI .i64 (aJk k x_4) (λn_10=>exW .i64 (n_10-1) (λn_11=>aWc∧∃y_12:Nat,Lf (y_12<=k)∧k-y_12<k-x_4∧bKr bs k x_1 xs x_4 n_2++[AV.int .u8 n_9]=bKr bs k
 x_1 xs y_12 n_2∧AV.sl 0 (yM bs k x_1+x_4+1) 0 (yM bs k x_1+x_4+1) 1=AV.sl 0 (yM bs k x_1+y_12) 0 (yM bs k x_1+y_12) 1∧aY2 k xs n_11 y_12 n_2 x_1 t))))))))else exW .i64 ((x_1:Int)+1) (λn_6=>aWc∧∃y_7
 : Nat,Lf (0<=y_7∧y_7<=xs.length)∧xs.length-y_7<xs.length-x_1∧bKr bs k x_1 xs x_4 n_2=bOq bs k y_7 xs∧AV.sl 0 (yM bs k x_1+x_4) 0 (yM bs k x_1+x_4) 1=AV.sl 0 (yM bs k y_7) 0 (yM bs k y_7) 1∧bKn k xs n_6
 y_7 t))))))else Q (.ret (.sl 0 (yM bs k x_1) 0 (yM bs k x_1) 1)) [Blk.mk BK.grow true (bOq bs k x_1 xs)] {})):=by kernel_rfl

theorem zW(n:Int)(j:Nat)(hj:j<=7)(z:Int)(hz:z=8*(j:Int)):IntKind.wrap .u8 (Int.fdiv n (2^min (Int.toNat z) 64))=((fO n j).toNat:Int):=by
 subst hz
 have e1:min (Int.toNat (8*(j:Int))) 64=8*j:=by omega
 have e2:(2:Int)^(8*j)=256^j:=by rw[Int.pow_mul];rfl
 have e3:(0:Int)<=256^j:=Int.pow_nonneg (by decide)
 rw[e1,e2,bX3 _ e3,IntKind.wrap_u8,fO]
 generalize n/256^j=x
 have h1:(0:Int)<=x%256:=Int.emod_nonneg _ (by decide)
 have h2:x%256<256:=cCh _ (by decide)
 rw[cCi]
 omega
theorem rH(a:LA)(x:UInt8):ofBytes a++[AV.int .u8 ((x.toNat:Nat):Int)]=ofBytes (a++[x]):=by simp[ofBytes]
theorem aMv(k t:Nat)(xs:QT)(bs:LA)(hk:1<=k∧k<=7)(hx:xs.length<=1000000)(hbs:bs.length<=1000000)(Q:BS)
  (hq:Q (.ret (.sl 0 (bs.length+k*xs.length) 0 (bs.length+k*xs.length) 1)) [⟨.grow,true,ofBytes (bs++aB k xs)⟩] {}):∃hv hb,aA3 hv hb k t xs bs Q:=by
 obtain⟨hv,hb',e⟩:∃hv hb,aA3 hv hb k t xs bs Q=_:=⟨_,_,bMu k t xs bs Q⟩
 refine⟨hv,hb',e.mpr ?_⟩
 delta bOq yM bCd aMo bO0 bKr aJk aY2 aWc bKn
 clear e
 refine⟨_,rfl,⟨0,⟨by omega,by omega⟩,by simp[aB],by rw[Nat.mul_zero,bYv],rfl,rfl,rfl,rfl,trivial⟩, ?_⟩
 rintro i ⟨hlo,hi⟩
 refine aH (λhlt => ?_) (λhge => ?_)
 ·have hlt':i<xs.length:=by omega
  have hki:k*i+k<=k*xs.length:=by rw[←cAb];exact cAt _ hlt'
  have hkx:k*xs.length<=7000000:=by
   have:=cAe hk.2 hx
   omega
  refine ckO (ckI (by simp[aM];omega) (aAa (i:=i) hlt' (by simp) (aF ⟨⟨0,⟨bYb _⟩,by rw[kV];simp,by rw[bYv],rfl,rfl,by simp,rfl,rfl,rfl,trivial⟩, ?_⟩)))
  rintro m ⟨hm⟩
  rw[kV]
  refine⟨_,rfl,aH (λh0 => ?_) (λh0 => ?_)⟩
  ·have hmk:m<k:=by omega
   have bt:=lU (xs.getD i 0) k m hmk
   have lt:=gU (xs.getD i 0) k
   refine⟨_,rfl,aF (ckI (by rw[bX4];exact bXr (by omega)) ⟨_,rfl,((fO (xs.getD i 0) (k-1-m)).toNat:Int), ?_, ?_⟩)⟩
   ·rw[zW _ (k-1-m) (by omega) _ (by omega)]
   ·refine ckI ?_ ⟨_,rfl,aF ⟨⟨trivial,rfl⟩,m+1,⟨hmk⟩,by omega, ?_,rfl,rfl,rfl, ?_,rfl,rfl,rfl,trivial⟩⟩
    ·have e1:(ofBytes (bs++aB k (xs.take i)++(eU (xs.getD i 0) k).take m)).length=bs.length+k*i+m:=by
      rw[aC,bW2,bW2,aG,bXg,bXg,lt,bYf hi,bYf (by omega)]
     rw[e1]
     simp
     omega
    ·rw[rH,bW9,←bt]
    ·congr 1
     omega
  ·have hmk:m=k:=by omega
   subst hmk
   have lt:=gU (xs.getD i 0) m
   refine aF ⟨⟨trivial,rfl⟩,i+1,⟨by omega,hlt'⟩,by omega, ?_, ?_,rfl,rfl,rfl,rfl,trivial⟩
   ·rw[bW4 (l:=eU (xs.getD i 0) m) (by omega),qN _ _ hlt',bW9]
   ·rw[cAb,bYp]
 ·have hle:i=xs.length:=by omega
  subst hle
  rw[bX8]
  exact hq
theorem aMa(k t:Nat)(xs:QT)(hk:1<=k∧k<=7)(hx:xs.length<=1000000)(Q:BS)
  (hq0:xs=[]->Q (.ret .nils) [] {}) (hq:1<=xs.length->Q (.ret (.sl 0 (k*xs.length) 0 (k*xs.length) 1)) [⟨.grow,true,ofBytes (aB k xs)⟩] {}):∃hv hb,aCq hv hb k t xs Q:=by
 obtain⟨hv,hb',e⟩:∃hv hb,aCq hv hb k t xs Q=_:=⟨_,_,bP0 k t xs Q⟩
 refine⟨hv,hb',e.mpr ?_⟩
 delta bCd aMo bO0 aNj aJk aY2 aWc bKn aNs bKb aYj
 clear e
 refine⟨_,rfl,.inl ⟨0,⟨rfl⟩,rfl,rfl,rfl,rfl,rfl,trivial⟩, ?_, ?_⟩
 ·rintro _ ⟨rfl⟩
  refine aH (λhlt => ?_) (λhge=>hq0 (bYq.1 (by omega)))
  have hlt':0<xs.length:=by omega
  refine ckO (ckI (by simp[aM];omega) (aAa (i:=0) hlt' (by simp) (aF ⟨.inl ⟨0,⟨rfl⟩,rfl,rfl,rfl,by simp,rfl,rfl,rfl,trivial⟩, ?_, ?_⟩)))
  ·rintro _ ⟨rfl⟩
   have bt:=lU (xs.getD 0 0) k 0 (by omega)
   refine⟨_,rfl,aH (λh0 => ?_) (λh0=>by exfalso;omega)⟩
   refine⟨_,rfl,aF (ckI (by rw[bX4];exact bXr (by omega)) ⟨_,rfl,((fO (xs.getD 0 0) (k-1-0)).toNat:Int), ?_, ?_⟩)⟩
   ·rw[zW _ (k-1-0) (by omega) _ (by omega)]
   ·refine⟨_,rfl,aF ⟨⟨trivial,rfl⟩,.inr ⟨1,⟨by omega,by omega⟩,by omega, ?_,rfl,rfl,rfl, ?_,rfl,rfl,rfl,trivial⟩⟩⟩
    ·rw[bt]
     simp[ofBytes]
    ·congr 1
     omega
  ·rintro m ⟨hm1,hm⟩
   refine⟨_,rfl,aH (λh0 => ?_) (λh0 => ?_)⟩
   ·have hmk:m<k:=by omega
    have bt:=lU (xs.getD 0 0) k m hmk
    have lt:=gU (xs.getD 0 0) k
    refine⟨_,rfl,aF (ckI (by rw[bX4];exact bXr (by omega)) ⟨_,rfl,((fO (xs.getD 0 0) (k-1-m)).toNat:Int), ?_, ?_⟩)⟩
    ·rw[zW _ (k-1-m) (by omega) _ (by omega)]
    ·refine ckI ?_ ⟨_,rfl,aF ⟨⟨trivial,rfl⟩,.inr ⟨m+1,⟨by omega,hmk⟩,by omega, ?_,rfl,rfl,rfl, ?_,rfl,rfl,rfl,trivial⟩⟩⟩
     ·rw[aC,bXg,lt,bYf (by omega)]
      simp
      omega
     ·rw[rH,←bt]
     ·congr 1
      omega
   ·have hmk:m=k:=by omega
    subst hmk
    have lt:=gU (xs.getD 0 0) m
    refine aF ⟨⟨trivial,rfl⟩,.inr ⟨1,⟨by omega,hlt'⟩,by omega, ?_, ?_,rfl,rfl,rfl,rfl,trivial⟩⟩
    ·rw[bW4 (l:=eU (xs.getD 0 0) m) (by omega),qN _ _ hlt']
     simp[aB]
    ·simp
 ·rintro i ⟨hlo,hi⟩
  refine aH (λhlt => ?_) (λhge => ?_)
  ·have hlt':i<xs.length:=by omega
   have hki:k*i+k<=k*xs.length:=by rw[←cAb];exact cAt _ hlt'
   have hkx:k*xs.length<=7000000:=by
    have:=cAe hk.2 hx
    omega
   refine ckO (ckI (by simp[aM];omega) (aAa (i:=i) hlt' (by simp) (aF ⟨⟨0,⟨bYb _⟩,by rw[kV];simp,by rw[bYv],rfl,rfl,by simp,rfl,rfl,rfl,trivial⟩, ?_⟩)))
   rintro m ⟨hm⟩
   rw[kV]
   refine⟨_,rfl,aH (λh0 => ?_) (λh0 => ?_)⟩
   ·have hmk:m<k:=by omega
    have bt:=lU (xs.getD i 0) k m hmk
    have lt:=gU (xs.getD i 0) k
    refine⟨_,rfl,aF (ckI (by rw[bX4];exact bXr (by omega)) ⟨_,rfl,((fO (xs.getD i 0) (k-1-m)).toNat:Int), ?_, ?_⟩)⟩
    ·rw[zW _ (k-1-m) (by omega) _ (by omega)]
    ·refine ckI ?_ ⟨_,rfl,aF ⟨⟨trivial,rfl⟩,m+1,⟨hmk⟩,by omega, ?_,rfl,rfl,rfl, ?_,rfl,rfl,rfl,trivial⟩⟩
     ·have e1:(ofBytes ([]++aB k (xs.take i)++(eU (xs.getD i 0) k).take m)).length=k*i+m:=by
       rw[aC,bW2,bW2,aG,bXg,bXg,lt,bYf hi,bYf (by omega)]
       simp
      rw[e1]
      simp
      omega
     ·rw[rH,bW9,←bt]
     ·congr 1
      omega
   ·have hmk:m=k:=by omega
    subst hmk
    have lt:=gU (xs.getD i 0) m
    refine aF ⟨⟨trivial,rfl⟩,.inr ⟨i+1,⟨by omega,hlt'⟩,by omega, ?_, ?_,rfl,rfl,rfl,rfl,trivial⟩⟩
    ·rw[bW4 (l:=eU (xs.getD i 0) m) (by omega),qN _ _ hlt',bW9]
    ·rw[cAb,bYp]
  ·have hle:i=xs.length:=by omega
   subst hle
   have hh:=hq hlo
   rw[bX8]
   simpa using hh
def aU5:iO
 | [.nils,.int .i64 k,.lst t l n 1],H,K=>∃xs:QT,Lf (l=aA xs∧n=xs.length∧1<=k∧k<=7∧1<=xs.length∧xs.length<=1000000)∧K (.ret (.sl H.length (aB k.toNat xs).length 0 (aB k.toNat xs).length 1)) (H++[⟨.grow,true,ofBytes (aB k.toNat xs)⟩])
 | [.sl id tot 0 len 1,.int .i64 k,.lst t l n 1],H,K=>∃ (bs:LA) (xs:QT),Lf (H[id]? = some ⟨.grow,true,ofBytes bs⟩∧tot=bs.length∧len=bs.length∧bs.length<=1000000∧l=aA xs∧n=xs.length∧1<=k∧k<=7∧xs.length<=1000000)∧K (.ret (.sl id (bs++aB k.toNat xs).length 0 (bs++aB k.toNat xs).length 1)) (H.set id ⟨.grow,true,ofBytes (bs++aB k.toNat xs)⟩)
 | _,_,_=>False
theorem lN(n:Nat)(xs:QT):aP n (aA xs)=true:=by
 induction xs with
 | nil=>rfl
 | cons x l ih=>simpa[aA,aP,old]using ih
theorem put_rawCd:aI Tryz.prog gl0 146 aU5:=by
 refine fZ (enters_of (by kernel_rfl)) aO λargs H Q hc => ?_
 unfold aU5 at hc
 split at hc
 ·rename_i k t l n
  obtain⟨xs,⟨rfl,rfl,h1,h2,h3,h4⟩,hq⟩:=hc
  obtain⟨k,rfl⟩:∃m:Nat,k=m:=⟨k.toNat,by omega⟩
  rw[bXf]at hq
  obtain⟨hv,hb',h⟩:=aMa k t xs ⟨by omega,by omega⟩ h4 (λo H' _=>o=.ret (.sl 0 (k*xs.length) 0 (k*xs.length) 1)∧H'=[⟨.grow,true,ofBytes (aB k xs)⟩])
   (λe=>by subst e;simp at h3) (λ_=>⟨rfl,rfl⟩)
  refine⟨_,1000,id,[.nils,.int .i64 (k:Nat),.lst t (aA xs) xs.length 1],[],_, ?_,rfl,rfl,by simp[aP,old,lN],by simp[bX,noY,(iY xs).1],Fr.nil _,h, ?_⟩
  ·exact⟨qL,pY,dH,bY⟩
  ·rintro o H0' g' ⟨rfl,rfl⟩
   refine⟨_,aT2 (aJ 0 _) (bG _), ?_⟩
   have e1:(aB k xs).length=k*xs.length:=aG k xs
   rw[e1]at hq
   exact hq
 ·rename_i id tot len k t l n
  obtain⟨bs,xs,⟨h1,rfl,rfl,h3,rfl,rfl,h4,h5,h6⟩,hq⟩:=hc
  obtain⟨k,rfl⟩:∃m:Nat,k=m:=⟨k.toNat,by omega⟩
  rw[bXf]at hq
  obtain⟨hv,hb',h⟩:=aMv k t xs bs ⟨by omega,by omega⟩ h6 h3 (λo H' _=>o=.ret (.sl 0 (bs.length+k*xs.length) 0 (bs.length+k*xs.length) 1)∧H'=[⟨.grow,true,ofBytes (bs++aB k xs)⟩]) ⟨rfl,rfl⟩
  refine⟨_,1000,λ_=>id,[.sl 0 bs.length 0 bs.length 1,.int .i64 (k:Nat),.lst t (aA xs) xs.length 1],[⟨.grow,true,ofBytes bs⟩],_, ?_,rfl,rfl,by simp[aP,old,lN],by simp[bX,noY,(iY xs).1],jD h1 (aJ 0 _) (aJ 1 _) (bG _),h, ?_⟩
  ·exact⟨qL,pY,dH,bY⟩
  ·rintro o H0' g' ⟨rfl,rfl⟩
   refine⟨_,gH h1 (aJ 0 _) (bG _), ?_⟩
   have e1:(bs++aB k xs).length=bs.length+k*xs.length:=by rw[bW2,aG]
   rw[e1]at hq
   exact hq
 ·exact hc.elim
set_option linter.unusedSectionVars false
noncomputable def qY(hv:LI)(hb:LB):Env := { e24 sm0 (λi=>none) hv hb with hz:=λk=>Nat.beq k 598044 }
noncomputable def aCa(hv:LI)(hb:LB)(bs:LA)(x:Int)(Q:BS):Prop:=
 aT (qY hv hb) (wpx (qY hv hb) 1000) 146 [.sl 0 bs.length 0 bs.length 1,.int .i64 2,.sl 1 1 0 1 1] [⟨.grow,true,ofBytes bs⟩,⟨.ro,true,[.int .i64 x]⟩] {} Q
abbrev bRe(bs:LA):Bool:=Nat.beq (ofBytes bs).length bs.length&&true&&Nat.beq (0+bs.length*1) bs.length&&Nat.ble (bs.length+1) 1099511627776&&Nat.ble ((bs.length+1)*1) 1099511627776
abbrev bQl(bs:LA)(n_1:Int):Bool:=Nat.beq (ofBytes bs++[AV.int .u8 n_1]).length (bs.length+1)&&true&&Nat.beq (0+(bs.length+1)*1) (bs.length+1)&&Nat.ble (bs.length+1+1) 1099511627776&&Nat.ble ((bs.length+1+1)*1) 1099511627776
abbrev aGe(bs:LA):Nat:=bs.length+1+1
abbrev bKe(bs:LA)(n_1 n_3:Int):HB:=ofBytes bs++[AV.int .u8 n_1]++[AV.int .u8 n_3]
theorem bNq(bs:LA)(x:Int)(Q:BS):aCa (aW [(598042,.int .i64),(598043,.int .u8)]) (aV []) bs x Q=(exI .i64 (Int.fdiv x 256) (λn_0=>exW .u8 n_0 (λn_1=>ckQ (bRe bs) (exI .i64 (Int.fdiv x 1) (λn_2=>exW .u8 n_2 (λn_3=>ckQ (bQl bs n_1) (Q (.ret (.sl 0 (aGe bs) 0 (aGe bs) 1)) [Blk.mk BK.grow true (bKe bs n_1 n_3),Blk.mk BK.ro true [.int .i64 x]] {}))))))):=by kernel_rfl

noncomputable def aBr(hv:LI)(hb:LB)(bs:LA)(x y:Int)(Q:BS):Prop:=
 aT (qY hv hb) (wpx (qY hv hb) 1000) 146 [.sl 0 bs.length 0 bs.length 1,.int .i64 2,.sl 1 2 0 2 1] [⟨.grow,true,ofBytes bs⟩,⟨.ro,true,[.int .i64 x,.int .i64 y]⟩] {} Q
theorem bLb(bs:LA)(x:Int)(y:Int)(Q:BS):aBr (aW [(598042,.int .i64),(598043,.int .u8)]) (aV []) bs x y Q=(exI .i64 (Int.fdiv x 256) (λn_0=>exW .u8 n_0 (λn_1=>ckQ (bRe bs) (exI .i64 (Int.fdiv x 1) (λn_2=>exW .u8 n_2 (λn_3=>ckQ (bQl bs n_1) (exI .i64 (Int.fdiv y 256) (λn_4=>exW .u8 n_4 (λn_5=>ckQ (Nat.beq (bKe bs n_1 n_3).length (aGe bs)&&true&&Nat.beq (0+aGe bs*1) (aGe bs)&&Nat.ble (aGe bs+1) 1099511627776&&Nat.ble ((aGe bs+1)*1) 1099511627776) (exI .i64 (Int.fdiv y 1) (λn_6=>exW .u8 n_6 (λn_7=>ckQ (Nat.beq (bKe bs n_1 n_3++[AV.int .u8 n_5]).length (aGe bs+1)&&true&&Nat.beq (0+(aGe bs+1)*1) (aGe bs+1)&&Nat.ble (aGe bs+1+1) 1099511627776&&Nat.ble ((aGe bs+1+1)*1) 1099511627776) (Q (.ret (.sl 0 (aGe bs+1+1) 0 (aGe bs+1+1) 1)) [Blk.mk BK.grow true (bKe bs n_1 n_3++[AV.int .u8 n_5]++[AV.int .u8 n_7]),Blk.mk BK.ro true [.int .i64 x,.int .i64 y]] {}))))))))))))):=by kernel_rfl

theorem bFz(x:Int):IntKind.wrap .u8 (x.fdiv 256)=((fO x 1).toNat:Int):=zW x 1 (by omega) 8 rfl
theorem bDq(x:Int):IntKind.wrap .u8 (x.fdiv 1)=((fO x 0).toNat:Int):=zW x 0 (by omega) 0 rfl
theorem bKc{x:Int}{j:Nat}{q:Int}(h:IntKind.wrap .u8 (x.fdiv q)=((fO x j).toNat:Int)){K:Int->Prop}(hk:K ((fO x j).toNat:Int)):∃n,AV.int .i64 (x.fdiv q)=AV.int .i64 n∧∃n1,AV.int .u8 (IntKind.wrap .u8 n)=AV.int .u8 n1∧K n1:=⟨_,rfl,_,by rw[h],hk⟩
theorem bLx(bs:LA)(x:Int)(hbs:bs.length<=1000000)(Q:BS)(hq:Q (.ret (.sl 0 (bs++aB 2 [x]).length 0 (bs++aB 2 [x]).length 1)) [⟨.grow,true,ofBytes (bs++aB 2 [x])⟩,⟨.ro,true,[.int .i64 x]⟩] {}):∃hv hb,aCa hv hb bs x Q:=by
 obtain⟨hv,hb',e⟩:∃hv hb,aCa hv hb bs x Q=_:=⟨_,_,bNq bs x Q⟩
 refine⟨hv,hb',e.mpr ?_⟩
 delta bRe bQl aGe bKe
 clear e
 refine bKc (bFz x) (ckI (by simp[aC];omega) (bKc (bDq x) (ckI (by simp[aC];omega) ?_)))
 have e1:ofBytes bs++[AV.int .u8 (((fO x 1).toNat:Nat):Int)]++[AV.int .u8 (((fO x 0).toNat:Nat):Int)]=ofBytes (bs++aB 2 [x]):=by simp[aB,eU,ofBytes]
 rw[e1]
 have e2:(bs++aB 2 [x]).length=bs.length+1+1:=by simp[aB,eU]
 rw[e2]at hq
 exact hq
theorem bOh(bs:LA)(x y:Int)(hbs:bs.length<=1000000)(Q:BS)(hq:Q (.ret (.sl 0 (bs++aB 2 [x,y]).length 0 (bs++aB 2 [x,y]).length 1)) [⟨.grow,true,ofBytes (bs++aB 2 [x,y])⟩,⟨.ro,true,[.int .i64 x,.int .i64 y]⟩] {}):∃hv hb,aBr hv hb bs x y Q:=by
 obtain⟨hv,hb',e⟩:∃hv hb,aBr hv hb bs x y Q=_:=⟨_,_,bLb bs x y Q⟩
 refine⟨hv,hb',e.mpr ?_⟩
 delta bRe bQl bKe aGe
 clear e
 refine bKc (bFz x) (ckI (by simp[aC];omega) (bKc (bDq x) (ckI (by simp[aC];omega) (bKc (bFz y) (ckI (by simp[aC];omega) (bKc (bDq y) (ckI (by simp[aC];omega) ?_)))))))
 have e1:ofBytes bs++[AV.int .u8 (((fO x 1).toNat:Nat):Int)]++[AV.int .u8 (((fO x 0).toNat:Nat):Int)]++[AV.int .u8 (((fO y 1).toNat:Nat):Int)]++[AV.int .u8 (((fO y 0).toNat:Nat):Int)]=ofBytes (bs++aB 2 [x,y]):=by simp[aB,eU,ofBytes]
 rw[e1]
 have e2:(bs++aB 2 [x,y]).length=bs.length+1+1+1+1:=by simp[aB,eU]
 rw[e2]at hq
 exact hq
theorem bO8{id id2:Nat}{k:BK}{lf:Bool}{H:HV}{bs:LA}{xs:QT}(h:H[id]? = some ⟨.grow,true,ofBytes bs⟩)(h2:H[id2]? = some ⟨k,lf,aA xs⟩)(hne:id≠id2):Fr (λj=>if j=0 then id else id2) [⟨.grow,true,ofBytes bs⟩,⟨.ro,true,aA xs⟩] H:=by
 refine⟨λj b0 hb => ?_,λj j' b0 hb hk hj' he => ?_,λj b0 hb => ?_⟩
 ·match j with
  | 0=>
   simp only[bXv,bW5]at hb
   subst hb
   exact⟨(bXq.1 h).1,aJ _ _,bG _,λ_=>aJ _ _,_,h,(aU _ _ (aJ _ _) (bG _)).symm,.inr rfl⟩
  | 1=>
   simp only[bZr,bXv,bW5]at hb
   subst hb
   exact⟨(bXq.1 h2).1,lN _ _,(iY _).1,λ_=>lN _ _,_,h2,(aU _ _ (lN _ _) (iY _).1).symm,.inl rfl⟩
  | j+2=>simp at hb
 ·match j,j' with
  | 0,0=>rfl
  | 1,_=>simp at hb;subst hb;simp at hk
  | 0,1=>exact absurd (by simpa using he) hne
  | j+2,_=>simp at hb
  | 0,j'+2=>simp at hj';omega
 ·match j with
  | 0=>simp at hb;subst hb;exact λh=>by cases h
  | 1=>
   simp only[bZr,bXv,bW5]at hb
   subst hb
   intro _ c hc
   cases xs with
   | nil=>cases hc
   | cons x xs=>cases hc
  | j+2=>simp at hb
theorem bB9{id id2:Nat}{H:HV}{bs bs':LA}{xs:QT}(h:H[id]? = some ⟨.grow,true,ofBytes bs⟩):FrEnd (λj=>if j=0 then id else id2) [⟨.grow,true,ofBytes bs⟩,⟨.ro,true,aA xs⟩] [⟨.grow,true,ofBytes bs'⟩,⟨.ro,true,aA xs⟩] H (H.set id ⟨.grow,true,ofBytes bs'⟩):=by
 have hl:id<H.length:=(bXq.1 h).1
 refine⟨by simp,λj b0 hb hk => ?_,λj b0 hb hk => ?_,λj b0 hj hb => ?_,by simp,λk hk hn => ?_,λj b hb hk => ?_⟩
 ·match j with
  | 0=>simp at hb;subst hb;cases hk
  | 1=>simp at hb;subst hb;exact⟨_,rfl,rfl,rfl⟩
  | j+2=>simp at hb
 ·match j with
  | 0=>simp at hb;subst hb;exact⟨_,rfl,rfl⟩
  | 1=>simp at hb;subst hb;simp at hk
  | j+2=>simp at hb
 ·match j with
  | 0=>simp at hj
  | 1=>simp at hj
  | j+2=>simp at hb
 ·have:=hn 0 _ rfl (by simp)
  simp only[cBu]at this
  rw[bYu this]
 ·match j with
  | 0=>
   simp only[bXv,bW5]at hb
   subst hb
   show(H.set id _)[id]? = some (aDd _ _)
   rw[bZu hl]
   simp only[aDd,aU _ _ (aJ 0 _) (bG _)]
  | 1=>simp at hb;subst hb;simp at hk
  | j+2=>simp at hb
def bEw:iO
 | [.sl id tot 0 len 1,.int .i64 2,.sl id2 tot2 0 n 1],H,K=>∃ (bs:LA) (xs:QT) (k2:BK) (lf:Bool),Lf (H[id]? = some ⟨.grow,true,ofBytes bs⟩∧tot=bs.length∧len=bs.length∧bs.length<=1000000∧H[id2]? = some ⟨k2,lf,aA xs⟩∧id≠id2∧tot2=xs.length∧n=xs.length∧(n=1∨n=2))∧K (.ret (.sl id (bs++aB 2 xs).length 0 (bs++aB 2 xs).length 1)) (H.set id ⟨.grow,true,ofBytes (bs++aB 2 xs)⟩)
 | _,_,_=>False
theorem putR_ok:aI Tryz.prog gl0 146 bEw:=by
 refine fZ (enters_of (by kernel_rfl)) aO λargs H Q hc => ?_
 unfold bEw at hc
 split at hc
 ·rename_i id tot len id2 tot2 n
  obtain⟨bs,xs,k2,lf,⟨h1,rfl,rfl,h3,h4,hne,rfl,rfl,hn⟩,hq⟩:=hc
  match xs,hn with
  | [x],_=>
   obtain⟨hv,hb',h⟩:=bLx bs x h3 (λo H' _=>o=.ret (.sl 0 (bs++aB 2 [x]).length 0 (bs++aB 2 [x]).length 1)∧H'=[⟨.grow,true,ofBytes (bs++aB 2 [x])⟩,⟨.ro,true,aA [x]⟩]) ⟨rfl,rfl⟩
   refine⟨_,1000,λj=>if j=0 then id else id2,[.sl 0 bs.length 0 bs.length 1,.int .i64 2,.sl 1 1 0 1 1],[⟨.grow,true,ofBytes bs⟩,⟨.ro,true,aA [x]⟩],_,(⟨qL,pY,dH,bY⟩:EnvFor Tryz.prog (qY hv hb')),rfl,rfl,rfl,rfl,bO8 h1 h4 hne,h, ?_⟩
   rintro o H0' g' ⟨rfl,rfl⟩
   exact⟨_,bB9 h1,hq⟩
  | [x,y],_=>
   obtain⟨hv,hb',h⟩:=bOh bs x y h3 (λo H' _=>o=.ret (.sl 0 (bs++aB 2 [x,y]).length 0 (bs++aB 2 [x,y]).length 1)∧H'=[⟨.grow,true,ofBytes (bs++aB 2 [x,y])⟩,⟨.ro,true,aA [x,y]⟩]) ⟨rfl,rfl⟩
   refine⟨_,1000,λj=>if j=0 then id else id2,[.sl 0 bs.length 0 bs.length 1,.int .i64 2,.sl 1 2 0 2 1],[⟨.grow,true,ofBytes bs⟩,⟨.ro,true,aA [x,y]⟩],_,(⟨qL,pY,dH,bY⟩:EnvFor Tryz.prog (qY hv hb')),rfl,rfl,rfl,rfl,bO8 h1 h4 hne,h, ?_⟩
   rintro o H0' g' ⟨rfl,rfl⟩
   exact⟨_,bB9 h1,hq⟩
  | [],hn=>simp at hn
  | _::_::_::_,hn=>simp at hn
 ·exact hc.elim
def aQw:iO
 | [a,b,.lst t l n z],H,K=>aU5 [a,b,.lst t l n z] H K
 | [a,b,.sl i t o n z],H,K=>bEw [a,b,.sl i t o n z] H K
 | _,_,_=>False
theorem aT7:aI Tryz.prog gl0 146 aQw:=by
 refine⟨put_rawCd.1,λargs H Q hc => ?_⟩
 unfold aQw at hc
 split at hc
 ·exact put_rawCd.2 _ _ _ hc
 ·exact putR_ok.2 _ _ _ hc
 ·exact hc.elim
def aD4(d:Int):Int:=if 0<=d∧d<=255 then 1 else 2
def dC:QT->QT->QT
 | [],_=>[]
 | t::ts,l=>if t = -1 then 0::dC ts l else aD4 (l.getD 0 0)::dC ts (l.drop 1)
def dG(l:QT):Nat:=(l.filter (· != -1)).length
def gM(S:QT):Nat->Int
 | 0=>0
 | i+1=>if i%7=6 then 0 else 4*gM S i+S.getD i 0
def bC(S:QT):Nat->LA
 | 0=>[]
 | i+1=>if i%7=6 then bC S i++aB 2 [49152+(4*gM S i+S.getD i 0)]else bC S i
def dK(l:QT):LA:=l.flatMap λd=>aB (aD4 d).toNat [d]
def bD(times:QT)(ref round:Int):LA:=aB 2 [(times.length:Int)]++aB 3 [ref]++aB 1 [round]
def yS(times:QT)(round:Int):LA:=match jB times with
 | some p=>bD times p.1 round++bC (dC times p.2) ((times.length+6)/7*7)++dK p.2
 | none=>[]
def bV3:SM:=fT [(146,aQw),(185,aLb)]
theorem bIu:∀f g,bV3 f=some g->aI Tryz.prog gl0 f g:=dX _ (by simp only[bXd,bXn,bY0,bYd,bY4];exact⟨aT7,aJ4⟩)
def aW4(t:Nat)(xs l:QT)(bs:LA):List LInv:=[
 { α:=Nat,pre:=λi=>Lf (i<=(xs.length+6)/7*7∧dG (xs.take i)=0),st:=λi=>⟨mkT [(0,.sl 0 (bs++bC (dC xs l) i).length 0 (bs++bC (dC xs l) i).length 1),(1,.lst t (aA xs) xs.length 1),(8,.lst 0 (aA l) l.length 1),(10,.nils),(11,.int .i64 (gM (dC xs l) i)),(12,.int .i64 0),(38,.int .i64 (((xs.length+6)/7*7:Nat):Int)),(39,.int .i64 (i:Nat))],[⟨.grow,true,ofBytes (bs++bC (dC xs l) i)⟩]⟩,mu:=λi=>(xs.length+6)/7*7-i },
 { α:=Nat,pre:=λi=>Lf (i<=(xs.length+6)/7*7∧1<=dG (xs.take i)),st:=λi=>⟨mkT [(0,.sl 0 (bs++bC (dC xs l) i).length 0 (bs++bC (dC xs l) i).length 1),(1,.lst t (aA xs) xs.length 1),(8,.lst 0 (aA l) l.length 1),(10,.sl 1 (dK (l.take (dG (xs.take i)))).length 0 (dK (l.take (dG (xs.take i)))).length 1),(11,.int .i64 (gM (dC xs l) i)),(12,.int .i64 (dG (xs.take i):Nat)),(38,.int .i64 (((xs.length+6)/7*7:Nat):Int)),(39,.int .i64 (i:Nat))],[⟨.grow,true,ofBytes (bs++bC (dC xs l) i)⟩,⟨.grow,true,ofBytes (dK (l.take (dG (xs.take i))))⟩]⟩,mu:=λi=>(xs.length+6)/7*7-i }]
noncomputable def bCf(hv:LI)(hb:LB)(t:Nat)(xs l:QT)(bs:LA):Env:=e24 bV3 (λi=>bif Nat.beq i 148000 then some (λ_=>[aW4 t xs l bs])else none) hv hb
noncomputable def aIn(hv:LI)(hb:LB)(t:Nat)(xs l:QT)(ref round:Int)(bs:LA)(Q:BS):Prop:=
 aT (bCf hv hb t xs l (bs++bD xs ref round)) (wpx (bCf hv hb t xs l (bs++bD xs ref round)) 1000) 148 [.sl 0 bs.length 0 bs.length 1,.lst t (aA xs) xs.length 1,.int .i64 round] [⟨.grow,true,ofBytes bs⟩] {} Q
def aTf(xs:QT)(l:QT):Prop:=(
(((AV.lst (0:Nat) (aA l) (List.length l) (1:Nat))=(AV.lst (0:Nat) (aA l) (List.length l) (1:Nat))) ∧
 (((AV.int .i64 (0:Int))=(AV.int .i64 (0:Int))) ∧
 ((AV.nils=AV.nils) ∧
 (((AV.int .i64 (Nat.cast ((((List.length xs)+(6:Nat))/(7:Nat))*(7:Nat)):Int))=(AV.int .i64 (Nat.cast ((((List.length xs)+(6:Nat))/(7:Nat))*(7:Nat)):Int))) ∧
 True)))))
abbrev vK(xs:QT)(l:QT)(x_17:Nat)(n_21:Int)(n_18:Int)(bs:LA)(ref:Int)(round:Int)(t:Nat):Prop:=
AV.int .i64 (gM (dC xs l) x_17)=AV.int .i64 n_21∧exW .i64 (n_21*4) λn_22=>exW .i64 (((n_22%18446744073709551616).toNat ||| 0:Nat):Int) λn_23=>exI .i64 (n_18.tmod 7) λn_24=>bif n_24==6 then exW .i64 ((49152
 ||| (n_23%18446744073709551616).toNat:Nat):Int) λn_25=>∃bs_26:LA,∃xs_27:QT,Lf (GetElem?.getElem? [Blk.mk BK.grow true (ofBytes (bs++bD xs ref round++bC (dC xs l) x_17)),Blk.mk BK.grow true
 (ofBytes (dK (l.take (dG (xs.take x_17)))))] 0=Option.some (Blk.mk BK.grow true (ofBytes bs_26))∧(bs++bD xs ref round++bC (dC xs l) x_17).length=bs_26.length∧(bs++bD xs ref round++bC (dC xs l)
 x_17).length=bs_26.length∧bs_26.length<=1000000∧[AV.int .i64 n_25]=aA xs_27∧1=xs_27.length∧(1:Int)<=(2:Int)∧(2:Int)<=(7:Int)∧xs_27.length<=1000000)∧exW .i64 ((x_17:Int)+1) λn_28=>(True∧(0 :
 Nat)=(0:Nat))∧((∃y_29:Nat,Lf (y_29<=(xs.length+6)/7*7∧dG (xs.take y_29)=0)∧(xs.length+6)/7*7-y_29<(xs.length+6)/7*7-x_17∧ofBytes (bs_26++aB 2 xs_27)=ofBytes (bs++bD xs ref round ++
 bC (dC xs l) y_29)∧False)∨∃y_29:Nat,Lf (y_29<=(xs.length+6)/7*7∧1<=dG (xs.take y_29))∧(xs.length+6)/7*7-y_29<(xs.length+6)/7*7-x_17∧ofBytes (bs_26++aB 2 xs_27)=ofBytes (bs++bD xs ref
 round++bC (dC xs l) y_29)∧ofBytes (dK (l.take (dG (xs.take x_17))))=ofBytes (dK (l.take (dG (xs.take y_29))))∧AV.sl 0 (bs_26++aB 2 xs_27).length 0 (bs_26++aB 2 xs_27).length 1=AV.sl 0 (bs++bD xs ref
 round++bC (dC xs l) y_29).length 0 (bs++bD xs ref round++bC (dC xs l) y_29).length 1∧aK (AV.lst t (aA xs) xs.length 1)∧AV.int .i64 n_28=AV.int .i64 (y_29:Int)∧AV.int .i64 0=AV.int .i64 (gM (dC xs l)
 y_29)∧aK (AV.lst 0 (aA l) l.length 1)∧AV.int .i64 (dG (xs.take x_17):Int)=AV.int .i64 (dG (xs.take y_29):Int)∧AV.sl 1 (dK (l.take (dG (xs.take x_17)))).length 0 (dK (l.take (dG (xs.take x_17)))).length 1 =
 AV.sl 1 (dK (l.take (dG (xs.take y_29)))).length 0 (dK (l.take (dG (xs.take y_29)))).length 1∧aK (AV.int .i64 (((xs.length+6)/7*7:Nat):Int))∧True)else exW .i64 ((x_17:Int)+1) λn_25=>(True∧(0:Nat) =
 (0:Nat))∧((∃y_26:Nat,Lf (y_26<=(xs.length+6)/7*7∧dG (xs.take y_26)=0)∧(xs.length+6)/7*7-y_26<(xs.length+6)/7*7-x_17∧ofBytes (bs++bD xs ref round++bC (dC xs l) x_17)=ofBytes (bs ++
 bD xs ref round++bC (dC xs l) y_26)∧False)∨∃y_26:Nat,Lf (y_26<=(xs.length+6)/7*7∧1<=dG (xs.take y_26))∧(xs.length+6)/7*7-y_26<(xs.length+6)/7*7-x_17∧ofBytes (bs++bD xs ref round ++
 bC (dC xs l) x_17)=ofBytes (bs++bD xs ref round++bC (dC xs l) y_26)∧ofBytes (dK (l.take (dG (xs.take x_17))))=ofBytes (dK (l.take (dG (xs.take y_26))))∧AV.sl 0 (bs++bD xs ref round++bC (dC xs l)
 x_17).length 0 (bs++bD xs ref round++bC (dC xs l) x_17).length 1=AV.sl 0 (bs++bD xs ref round++bC (dC xs l) y_26).length 0 (bs++bD xs ref round++bC (dC xs l) y_26).length 1∧aK (AV.lst t (aA xs)
 xs.length 1)∧AV.int .i64 n_25=AV.int .i64 (y_26:Int)∧AV.int .i64 n_23=AV.int .i64 (gM (dC xs l) y_26)∧aK (AV.lst 0 (aA l) l.length 1)∧AV.int .i64 (dG (xs.take x_17):Int)=AV.int .i64 (dG (xs.take y_26):Int)
 ∧ AV.sl 1 (dK (l.take (dG (xs.take x_17)))).length 0 (dK (l.take (dG (xs.take x_17)))).length 1=AV.sl 1 (dK (l.take (dG (xs.take y_26)))).length 0 (dK (l.take (dG (xs.take y_26)))).length 1∧aK (AV.int .i64
 (((xs.length+6)/7*7:Nat):Int))∧True)
abbrev xM(xs:QT)(l:QT)(x_17:Nat)(n_21:Int)(n_18:Int)(bs:LA)(ref:Int)(round:Int)(t:Nat):Prop:=
AV.int .i64 (gM (dC xs l) x_17)=AV.int .i64 n_21∧exW .i64 (n_21*4) λn_22=>exW .i64 (((n_22%18446744073709551616).toNat ||| 0:Nat):Int) λn_23=>exI .i64 (n_18.tmod 7) λn_24=>bif n_24==6 then exW .i64 ((49152
 ||| (n_23%18446744073709551616).toNat:Nat):Int) λn_25=>∃bs_26:LA,∃xs_27:QT,Lf (GetElem?.getElem? [Blk.mk BK.grow true (ofBytes (bs++bD xs ref round++bC (dC xs l) x_17))] 0=Option.some (Blk.mk
 BK.grow true (ofBytes bs_26))∧(bs++bD xs ref round++bC (dC xs l) x_17).length=bs_26.length∧(bs++bD xs ref round++bC (dC xs l) x_17).length=bs_26.length∧bs_26.length<=1000000∧[AV.int .i64 n_25]=aA
 xs_27∧1=xs_27.length∧(1:Int)<=(2:Int)∧(2:Int)<=(7:Int)∧xs_27.length<=1000000)∧exW .i64 ((x_17:Int)+1) λn_28=>(True∧(0:Nat)=(0:Nat))∧((∃y_29:Nat,Lf (y_29<=(xs.length+6)/7*7∧dG
 (xs.take y_29)=0)∧(xs.length+6)/7*7-y_29<(xs.length+6)/7*7-x_17∧ofBytes (bs_26++aB 2 xs_27)=ofBytes (bs++bD xs ref round++bC (dC xs l) y_29)∧AV.sl 0 (bs_26++aB 2 xs_27).length 0 (bs_26++aB
 2 xs_27).length 1=AV.sl 0 (bs++bD xs ref round++bC (dC xs l) y_29).length 0 (bs++bD xs ref round++bC (dC xs l) y_29).length 1∧aK (AV.lst t (aA xs) xs.length 1)∧AV.int .i64 n_28=AV.int .i64 (y_29:Int) ∧
 AV.int .i64 0=AV.int .i64 (gM (dC xs l) y_29)∧aTf xs l)∨∃y_29:Nat,Lf (y_29<=(xs.length+6)/7*7∧1<=dG (xs.take y_29))∧(xs.length+6)/7*7-y_29<(xs.length+6)/7*7-x_17∧ofBytes (bs_26++aB 2
 xs_27)=ofBytes (bs++bD xs ref round++bC (dC xs l) y_29)∧False)else exW .i64 ((x_17:Int)+1) λn_25=>(True∧(0:Nat)=(0:Nat))∧((∃y_26:Nat,Lf (y_26<=(xs.length+6)/7*7∧dG (xs.take y_26)=0) ∧
 (xs.length+6)/7*7-y_26<(xs.length+6)/7*7-x_17∧ofBytes (bs++bD xs ref round++bC (dC xs l) x_17)=ofBytes (bs++bD xs ref round++bC (dC xs l) y_26)∧AV.sl 0 (bs++bD xs ref round++bC (dC
 xs l) x_17).length 0 (bs++bD xs ref round++bC (dC xs l) x_17).length 1=AV.sl 0 (bs++bD xs ref round++bC (dC xs l) y_26).length 0 (bs++bD xs ref round++bC (dC xs l) y_26).length 1∧aK (AV.lst t (aA
 xs) xs.length 1)∧AV.int .i64 n_25=AV.int .i64 (y_26:Int)∧AV.int .i64 n_23=AV.int .i64 (gM (dC xs l) y_26)∧aTf xs l)∨∃y_26:Nat,Lf (y_26<=(xs.length+6)/7*7∧1<=dG (xs.take y_26))∧(xs.length+6)/7*7
 - y_26<(xs.length+6)/7*7-x_17∧ofBytes (bs++bD xs ref round++bC (dC xs l) x_17)=ofBytes (bs++bD xs ref round++bC (dC xs l) y_26)∧False)
abbrev uG(bs:LA)(xs:QT)(ref:Int)(round:Int)(l:QT)(x_17:Nat)(Q:BS):Prop:=
ckQ (Nat.beq (ofBytes (bs++bD xs ref round++bC (dC xs l) x_17)).length (bs++bD xs ref round++bC (dC xs l) x_17).length&&true) (true=true∧Q (.ret (.sl 0 (bs++bD xs ref round++bC (dC xs l) x_17).length 0
 (bs++bD xs ref round++bC (dC xs l) x_17).length 1)) [Blk.mk BK.grow true (ofBytes (bs++bD xs ref round++bC (dC xs l) x_17))] {})
abbrev yH(l:QT)(n_29:Int)(y_38:Nat)(xs:QT)(bs_26:LA)(xs_27:QT):Prop:=
aK (AV.lst 0 (aA l) l.length 1)∧AV.int .i64 n_29=AV.int .i64 (dG (xs.take y_38):Int)∧AV.sl 1 (bs_26++aB 2 xs_27).length 0 (bs_26++aB 2 xs_27).length 1=AV.sl 1 (dK (l.take (dG (xs.take y_38)))).length 0 (dK
 (l.take (dG (xs.take y_38)))).length 1∧aK (AV.int .i64 (((xs.length+6)/7*7:Nat):Int))∧True
abbrev vH(l:QT)(n_29:Int)(y_38:Nat)(xs:QT)(bs_26:LA)(xs_27:QT):Prop:=
aK (AV.lst 0 (aA l) l.length 1)∧AV.int .i64 n_29=AV.int .i64 (dG (xs.take y_38):Int)∧AV.sl 1 (bs_26++aB 1 xs_27).length 0 (bs_26++aB 1 xs_27).length 1=AV.sl 1 (dK (l.take (dG (xs.take y_38)))).length 0 (dK
 (l.take (dG (xs.take y_38)))).length 1∧aK (AV.int .i64 (((xs.length+6)/7*7:Nat):Int))∧True
abbrev uT(l:QT)(n_28:Int)(y_37:Nat)(xs:QT)(xs_26:QT):Prop:=
aK (AV.lst 0 (aA l) l.length 1)∧AV.int .i64 n_28=AV.int .i64 (dG (xs.take y_37):Int)∧AV.sl 1 (aB 2 xs_26).length 0 (aB 2 xs_26).length 1=AV.sl 1 (dK (l.take (dG (xs.take y_37)))).length 0 (dK (l.take (dG
 (xs.take y_37)))).length 1∧aK (AV.int .i64 (((xs.length+6)/7*7:Nat):Int))∧True
abbrev xN(l:QT)(n_28:Int)(y_37:Nat)(xs:QT)(xs_26:QT):Prop:=
aK (AV.lst 0 (aA l) l.length 1)∧AV.int .i64 n_28=AV.int .i64 (dG (xs.take y_37):Int)∧AV.sl 1 (aB 1 xs_26).length 0 (aB 1 xs_26).length 1=AV.sl 1 (dK (l.take (dG (xs.take y_37)))).length 0 (dK (l.take (dG
 (xs.take y_37)))).length 1∧aK (AV.int .i64 (((xs.length+6)/7*7:Nat):Int))∧True
abbrev aMc(xs_0:QT):Prop:=xs_0.length<=1000000
abbrev wL(bs:LA):Blk:=Blk.mk BK.grow true (ofBytes bs)
abbrev bRk(bs_7:LA)(n_6:Int)(xs_8:QT):Prop:=bs_7.length<=1000000∧[AV.int .i64 n_6]=aA xs_8∧1=xs_8.length∧(1:Int)<=(2:Int)∧(2:Int)<=(7:Int)∧aMc xs_8
abbrev aC8(bs_7:LA)(xs_8:QT):HB:=ofBytes (bs_7++aB 2 xs_8)
abbrev bF2(round:Int)(xs_12:QT):Prop:=[AV.int .i64 round]=aA xs_12∧1=xs_12.length∧(1:Int)<=(1:Int)∧(1:Int)<=(7:Int)∧xs_12.length<=1000000
abbrev aQ2(xs:QT):Nat:=(xs.length+6)/7*7
abbrev bR1(x_17:Nat)(xs:QT):Prop:=Lf (x_17<=aQ2 xs∧dG (xs.take x_17)=0)
abbrev aJl(bs:LA)(xs:QT)(ref round:Int)(l:QT)(x_17:Nat):LA:=bs++bD xs ref round++bC (dC xs l) x_17
abbrev gK(bs:LA)(xs:QT)(ref round:Int)(l:QT)(x_17:Nat):HB:=ofBytes (aJl bs xs ref round l x_17)
abbrev aKf(bs:LA)(xs:QT)(ref round:Int)(l:QT)(x_17:Nat):AV:=.sl 0 (aJl bs xs ref round l x_17).length 0 (aJl bs xs ref round l x_17).length 1
abbrev zA(t:Nat)(xs:QT):Prop:=aK (AV.lst t (aA xs) xs.length 1)
abbrev zK(xs l:QT)(x_17:Nat):AV:=.int .i64 (gM (dC xs l) x_17)
abbrev aSe(x_17:Nat)(xs:QT):Prop:=Lf (x_17<=aQ2 xs∧1<=dG (xs.take x_17))
abbrev aZ8(n_18:Int)(xs:QT):Bool:=decide (0<=n_18)&&Nat.blt n_18.toNat xs.length&&true
abbrev aA2(n_18:Int)(xs:QT):Bool:=Nat.blt (n_18.toNat*1) (aA xs).length
abbrev aA4(xs:QT)(n_18:Int):AV:=(aA xs).getD (n_18.toNat*1) AV.undef
abbrev aMn(n_30:Int):Nat:=(n_30%18446744073709551616).toNat
abbrev aPw(n_31:Int):Int:=((49152 ||| aMn n_31:Nat):Int)
abbrev aQg(bs:LA)(xs:QT)(ref round:Int)(l:QT)(x_17:Nat)(bs_34:LA)(n_33:Int)(xs_35:QT):Prop:=(aJl bs xs ref round l x_17).length=bs_34.length∧(aJl bs xs ref round l x_17).length=bs_34.length∧bRk bs_34 n_33 xs_35
abbrev aAy:Prop:=True∧(0:Nat)=(0:Nat)
abbrev aSd(xs:QT)(x_17:Nat)(bs_34:LA)(xs_35:QT)(bs:LA)(ref round:Int)(l:QT):Prop:=∃y_37:Nat,bR1 y_37 xs∧aQ2 xs-y_37<aQ2 xs-x_17∧ofBytes (bs_34++aB 2 xs_35)=gK bs xs ref round l y_37∧False
abbrev yU(xs:QT)(y_37 x_17:Nat):Prop:=aQ2 xs-y_37<aQ2 xs-x_17
abbrev aDt(y_37:Nat)(xs l:QT):LA:=dK (l.take (dG (xs.take y_37)))
abbrev qR(y_37:Nat)(xs l:QT):HB:=ofBytes (aDt y_37 xs l)
abbrev aTa(bs_34:LA)(xs_35:QT):AV:=.sl 0 (bs_34++aB 2 xs_35).length 0 (bs_34++aB 2 xs_35).length 1
abbrev aCi(n_36:Int)(y_37:Nat):Prop:=AV.int .i64 n_36=AV.int .i64 (y_37:Int)
abbrev bPl(xs:QT)(x_17:Nat)(bs:LA)(ref round:Int)(l:QT):Prop:=∃y_34:Nat,Lf (y_34<=aQ2 xs∧dG (xs.take y_34)=0)∧yU xs y_34 x_17∧ofBytes (aJl bs xs ref round l x_17)=ofBytes (aJl bs xs ref round l y_34)∧False
abbrev bIh(x_17:Nat)(xs l:QT):HB:=((qR x_17 xs l).drop 0).take ((aDt x_17 xs l).length*1)
theorem bTg(t:Nat)(xs:QT)(l:QT)(ref:Int)(round:Int)(bs:LA)(Q:BS):aIn (aW [(606228,.bool),(606217,.bool),(606231,.int .i64),(606243,.int .i64),(606244,.int
 .i64),(606245,.int .i64),(606246,.int .i64),(606249,.int .i64),(606252,.int .i64),(606258,.int .i64),(606264,.int .i64),(606265,.int .i64),(606272,.int .i64),(606277,.int .i64),(606278,.int .i64),(606280,.int .i64),
 (606282,.int .i64),(606286,.int .i64),(606289,.int .i64),(606262,.int .i64),(606270,.int .i64),(606275,.int .i64),(606276,.int .i64)]) (aV [(610302,true)]) t xs l ref round bs Q=(∃xs_0:QT,Lf (aA xs=aA
 xs_0∧xs.length=xs_0.length∧aMc xs_0)∧∀r_1:Int,∀l_2:QT,∀b_3:Bool,Lf (bM xs_0=Prod.mk r_1 (Prod.mk l_2 b_3))->exB (.bool b_3) (λb_4=>exB (.bool b_4) (λb_5=>exI .i64 (xs.length:Int) (λn_6=>
 ∃bs_7:LA,∃xs_8:QT,Lf (GetElem?.getElem? [wL bs] 0=Option.some (wL bs_7)∧bs.length=bs_7.length∧bs.length=bs_7.length∧bRk bs_7 n_6 xs_8)∧∃bs_9:LA,∃xs_10:QT,Lf
 (GetElem?.getElem? [Blk.mk BK.grow true (aC8 bs_7 xs_8)] 0=Option.some (wL bs_9)∧(bs_7++aB 2 xs_8).length=bs_9.length∧(bs_7++aB 2 xs_8).length=bs_9.length∧bs_9.length<=1000000∧[AV.int .i64 r_1]=aA
 xs_10∧1=xs_10.length∧(1:Int)<=(3:Int)∧(3:Int)<=(7:Int)∧aMc xs_10)∧∃bs_11:LA,∃xs_12:QT,Lf (GetElem?.getElem? [Blk.mk BK.grow true (ofBytes (bs_9++aB 3 xs_10))] 0=Option.some (wL
 bs_11)∧(bs_9++aB 3 xs_10).length=bs_11.length∧(bs_9++aB 3 xs_10).length=bs_11.length∧bs_11.length<=1000000∧bF2 round xs_12)∧exI .i64 (xs.length:Int) (λn_13=>exW .i64 (n_13+6) (λn_14=>exW .i64
 (n_14.tdiv 7) (λn_15=>exW .i64 (n_15*7) (λn_16=>((∃x_17:Nat,bR1 x_17 xs∧ofBytes (bs_11++aB 1 xs_12)=gK bs xs ref round l x_17∧AV.sl 0 (bs_11++aB 1 xs_12).length 0 (bs_11++aB 1 xs_12).length 1 =
 aKf bs xs ref round l x_17∧zA t xs∧AV.int .i64 0=AV.int .i64 (x_17:Int)∧AV.int .i64 0=zK xs l x_17∧AV.lst 0 (aA l_2) l_2.length 1=AV.lst 0 (aA l) l.length 1∧aK (AV.int .i64 0)∧AV.nils=AV.nils∧AV.int
 .i64 n_16=AV.int .i64 ((aQ2 xs:Nat):Int)∧True)∨∃x_17:Nat,aSe x_17 xs∧ofBytes (bs_11++aB 1 xs_12)=gK bs xs ref round l x_17∧False)∧(∀x_17:Nat,bR1 x_17 xs->bif decide ((x_17:Int)<((aQ2 xs:Nat) :
 Int))then exI .i64 (x_17:Int) (λn_18=>exI .i64 (xs.length:Int) (λn_19=>bif decide (n_18<n_19)then ckQ (aZ8 n_18 xs) (ckQ (aA2 n_18 xs) (exV .i64 (aA4 xs n_18) (λn_20=>bif n_20 !=-1 then exI .i64 0 (λn_21=>
 ckQ (aZ8 n_21 l) (ckQ (aA2 n_21 l) (exV .i64 (aA4 l n_21) (λn_22=>exI .i64 (Int.fdiv n_22 256) (λn_23=>bif n_23 !=0 then exI .i64 0 (λn_24=>ckQ (aZ8 n_24 l) (ckQ (aA2 n_24 l) (exV .i64 (aA4 l n_24) (λn_25=>∃
 xs_26:QT,Lf ([AV.int .i64 n_25]=aA xs_26∧1=xs_26.length∧(1:Int)<=(2:Int)∧(2:Int)<=(7:Int)∧1<=xs_26.length∧aMc xs_26)∧exI .i64 0 (λn_27=>exW .i64 (n_27+1) (λn_28=>exI .i64 (gM (dC xs
 l) x_17) (λn_29=>exW .i64 (n_29*4) (λn_30=>exW .i64 ((aMn n_30 ||| 2:Nat):Int) (λn_31=>exI .i64 (n_18.tmod 7) (λn_32=>bif n_32==6 then exW .i64 (aPw n_31) (λn_33=>∃bs_34:LA,∃xs_35:List
 Int,Lf (GetElem?.getElem? [Blk.mk BK.grow true (gK bs xs ref round l x_17),Blk.mk BK.grow true (ofBytes (aB 2 xs_26))] 0=Option.some (wL bs_34)∧aQg bs xs ref round l x_17 bs_34 n_33 xs_35)∧exW .i64 ((x_17:Int)+1)
 (λn_36=>aAy∧(aSd xs x_17 bs_34 xs_35 bs ref round l∨∃y_37:Nat,aSe y_37 xs∧yU xs y_37 x_17∧aC8 bs_34 xs_35=gK bs xs ref round l y_37∧ofBytes (aB 2 xs_26)=qR y_37 xs l∧aTa bs_34 xs_35=aKf bs
 xs ref round l y_37∧zA t xs∧aCi n_36 y_37∧AV.int .i64 0=zK xs l y_37∧uT l n_28 y_37 xs xs_26)))else exW .i64 ((x_17:Int)+1) (λn_33=>aAy∧(bPl xs x_17 bs ref round l∨∃y_34:Nat,aSe y_34 xs ∧
 yU xs y_34 x_17∧gK bs xs ref round l x_17=gK bs xs ref round l y_34∧ofBytes (aB 2 xs_26)=qR y_34 xs l∧aKf bs xs ref round l x_17=aKf bs xs ref round l y_34∧zA t xs∧aCi n_33 y_34∧AV.int .i64 n_31 =
 zK xs l y_34∧uT l n_28 y_34 xs xs_26))))))))))))else exI .i64 0 (λn_24=>ckQ (aZ8 n_24 l) (ckQ (aA2 n_24 l) (exV .i64 (aA4 l n_24) (λn_25=>∃xs_26:QT,Lf ([AV.int .i64 n_25]=aA xs_26∧1 =
 xs_26.length∧(1:Int)<=(1:Int)∧(1:Int)<=(7:Int)∧1<=xs_26.length∧aMc xs_26)∧exI .i64 0 (λn_27=>exW .i64 (n_27+1) (λn_28=>exI .i64 (gM (dC xs l) x_17) (λn_29=>exW .i64 (n_29*4) (λn_30=>exW
 .i64 ((aMn n_30 ||| 1:Nat):Int) (λn_31=>exI .i64 (n_18.tmod 7) (λn_32=>bif n_32==6 then exW .i64 (aPw n_31) (λn_33=>∃bs_34:LA,∃xs_35:QT,Lf (GetElem?.getElem? [Blk.mk BK.grow true (gK bs xs
 ref round l x_17),Blk.mk BK.grow true (ofBytes (aB 1 xs_26))] 0=Option.some (wL bs_34)∧aQg bs xs ref round l x_17 bs_34 n_33 xs_35)∧exW .i64 ((x_17:Int)+1) (λn_36=>aAy∧(aSd xs x_17 bs_34 xs_35 bs ref round l
 ∨ ∃y_37:Nat,aSe y_37 xs∧yU xs y_37 x_17∧aC8 bs_34 xs_35=gK bs xs ref round l y_37∧ofBytes (aB 1 xs_26)=qR y_37 xs l∧aTa bs_34 xs_35=aKf bs xs ref round l y_37∧zA t xs∧aCi n_36 y_37∧AV.int
 .i64 0=zK xs l y_37∧xN l n_28 y_37 xs xs_26)))else exW .i64 ((x_17:Int)+1) (λn_33=>aAy∧(bPl xs x_17 bs ref round l∨∃y_34:Nat,aSe y_34 xs∧yU xs y_34 x_17∧gK bs xs ref round l x_17=gK bs xs
 ref round l y_34∧ofBytes (aB 1 xs_26)=qR y_34 xs l∧aKf bs xs ref round l x_17=aKf bs xs ref round l y_34∧zA t xs∧aCi n_33 y_34∧AV.int .i64 n_31=zK xs l y_34∧xN l n_28 y_34 xs xs_26)))))))))))))))))
 else ∃n_21:Int,xM xs l x_17 n_21 n_18 bs ref round t)))else ∃n_20:Int,xM xs l x_17 n_20 n_18 bs ref round t))else uG bs xs ref round l x_17 Q)∧∀x_17:Nat,aSe x_17 xs->bif decide ((x_17:Int)<((aQ2
 xs:Nat):Int))then exI .i64 (x_17:Int) (λn_18=>exI .i64 (xs.length:Int) (λn_19=>bif decide (n_18<n_19)then ckQ (aZ8 n_18 xs) (ckQ (aA2 n_18 xs) (exV .i64 (aA4 xs n_18) (λn_20=>bif n_20 !=-1 then exI .i64
 (dG (xs.take x_17):Int) (λn_21=>ckQ (aZ8 n_21 l) (ckQ (aA2 n_21 l) (exV .i64 (aA4 l n_21) (λn_22=>exI .i64 (Int.fdiv n_22 256) (λn_23=>bif n_23 !=0 then exI .i64 (dG (xs.take x_17):Int) (λn_24=>ckQ (aZ8
 n_24 l) (ckQ (aA2 n_24 l) (exV .i64 (aA4 l n_24) (λn_25=>∃bs_26:LA,∃xs_27:QT,Lf (GetElem?.getElem? [Blk.mk BK.grow true (gK bs xs ref round l x_17),Blk.mk BK.grow true (qR x_17 xs l)] 1=Option.some
 (wL bs_26)∧(aDt x_17 xs l).length=bs_26.length∧(aDt x_17 xs l).length=bs_26.length∧bRk bs_26 n_25 xs_27)∧exI .i64 (dG (xs.take x_17):Int) (λn_28=>exW .i64 (n_28+1) (λn_29=>exI .i64 (gM (dC xs l) x_17)
 (λn_30=>exW .i64 (n_30*4) (λn_31=>exW .i64 ((aMn n_31 ||| 2:Nat):Int) (λn_32=>exI .i64 (n_18.tmod 7) (λn_33=>bif n_33==6 then exW .i64 (aPw n_32) (λn_34=>∃bs_35:LA,∃xs_36:QT,Lf
 (GetElem?.getElem? [Blk.mk BK.grow true (gK bs xs ref round l x_17),Blk.mk BK.grow true (aC8 bs_26 xs_27)] 0=Option.some (wL bs_35)∧aQg bs xs ref round l x_17 bs_35 n_34 xs_36)∧exW .i64 ((x_17:Int)+1) (λn_37=>
 aAy∧(aSd xs x_17 bs_35 xs_36 bs ref round l∨∃y_38:Nat,aSe y_38 xs∧yU xs y_38 x_17∧aC8 bs_35 xs_36=gK bs xs ref round l y_38∧aC8 bs_26 xs_27=qR y_38 xs l∧aTa bs_35 xs_36=aKf bs xs ref round l y_38
 ∧ zA t xs∧aCi n_37 y_38∧AV.int .i64 0=zK xs l y_38∧yH l n_29 y_38 xs bs_26 xs_27)))else exW .i64 ((x_17:Int)+1) (λn_34=>aAy∧(bPl xs x_17 bs ref round l∨∃y_35:Nat,aSe y_35 xs∧yU xs y_35 x_17
 ∧ gK bs xs ref round l x_17=gK bs xs ref round l y_35∧aC8 bs_26 xs_27=qR y_35 xs l∧aKf bs xs ref round l x_17=aKf bs xs ref round l y_35∧zA t xs∧aCi n_34 y_35∧AV.int .i64 n_32=zK xs l y_35∧yH
 l n_29 y_35 xs bs_26 xs_27))))))))))))else exI .i64 (dG (xs.take x_17):Int) (λn_24=>ckQ (aZ8 n_24 l) (ckQ (aA2 n_24 l) (exV .i64 (aA4 l n_24) (λn_25=>∃bs_26:LA,∃xs_27:QT,Lf (GetElem?.getElem?
 [Blk.mk BK.grow true (gK bs xs ref round l x_17),Blk.mk BK.grow true (qR x_17 xs l)] 1=Option.some (wL bs_26)∧(aDt x_17 xs l).length=bs_26.length∧(aDt x_17 xs l).length=bs_26.length∧bs_26.length<=1000000∧bF2
 n_25 xs_27)∧exI .i64 (dG (xs.take x_17):Int) (λn_28=>exW .i64 (n_28+1) (λn_29=>exI .i64 (gM (dC xs l) x_17) (λn_30=>exW .i64 (n_30*4) (λn_31=>exW .i64 ((aMn n_31 ||| 1:Nat):Int) (λn_32=>exI .i64
 (n_18.tmod 7) (λn_33=>bif n_33==6 then exW .i64 (aPw n_32) (λn_34=>∃bs_35:LA,∃xs_36:QT,Lf (GetElem?.getElem? [Blk.mk BK.grow true (gK bs xs ref round l x_17),Blk.mk BK.grow true (ofBytes (bs_26 ++
 aB 1 xs_27))] 0=Option.some (wL bs_35)∧aQg bs xs ref round l x_17 bs_35 n_34 xs_36)∧exW .i64 ((x_17:Int)+1) (λn_37=>aAy∧(aSd xs x_17 bs_35 xs_36 bs ref round l∨∃y_38:Nat,aSe y_38 xs∧yU xs y_38 x_17
 ∧ aC8 bs_35 xs_36=gK bs xs ref round l y_38∧ofBytes (bs_26++aB 1 xs_27)=qR y_38 xs l∧aTa bs_35 xs_36=aKf bs xs ref round l y_38∧zA t xs∧aCi n_37 y_38∧AV.int .i64 0=zK xs l y_38∧vH l n_29
 y_38 xs bs_26 xs_27)))else exW .i64 ((x_17:Int)+1) (λn_34=>aAy∧(bPl xs x_17 bs ref round l∨∃y_35:Nat,aSe y_35 xs∧yU xs y_35 x_17∧gK bs xs ref round l x_17=gK bs xs ref round l y_35∧ofBytes (bs_26 ++
 aB 1 xs_27)=qR y_35 xs l∧aKf bs xs ref round l x_17=aKf bs xs ref round l y_35∧zA t xs∧aCi n_34 y_35∧AV.int .i64 n_32=zK xs l y_35∧vH l n_29 y_35 xs bs_26 xs_27)))))))))))))))))else ∃n_21:Int,
 vK xs l x_17 n_21 n_18 bs ref round t)))else ∃n_20:Int,vK xs l x_17 n_20 n_18 bs ref round t))else ckQ (Nat.beq (qR x_17 xs l).length (aDt x_17 xs l).length&&true&&Nat.ble (0+(aDt x_17 xs l).length*1) (aDt
 x_17 xs l).length&&eH (bIh x_17 xs l)&&true&&Nat.ble ((aDt x_17 xs l).length*1) 1099511627776) (bif Nat.beq (aDt x_17 xs l).length 0 then ckQ (Nat.beq (aDt x_17 xs l).length 0) (uG bs xs ref round l x_17 Q)else ckQ
 (Nat.blt 0 (aDt x_17 xs l).length) (ckQ (Nat.beq (gK bs xs ref round l x_17).length (aJl bs xs ref round l x_17).length&&true&&Nat.beq (0+(aJl bs xs ref round l x_17).length*1) (aJl bs xs ref round l x_17).length&&Nat.ble
 ((aJl bs xs ref round l x_17).length+(aDt x_17 xs l).length) 1099511627776&&Nat.ble (((aJl bs xs ref round l x_17).length+(aDt x_17 xs l).length)*1) 1099511627776) (((aP 0 (bIh x_17 xs l)||aP 1 (gK bs xs ref round l
 x_17++bIh x_17 xs l))&&true)=true∧Q (.ret (.sl 0 ((aJl bs xs ref round l x_17).length+(bIh x_17 xs l).length) 0 ((aJl bs xs ref round l x_17).length+(aDt x_17 xs l).length) 1)) [Blk.mk BK.grow (aP 0 (bIh x_17 xs l))
 (gK bs xs ref round l x_17++bIh x_17 xs l)] {}))))))))))):=by kernel_rfl

theorem aK5{xs:QT}{i:Nat}(hi:i<xs.length):dG (xs.take (i+1))=dG (xs.take i)+(if xs.getD i 0 = -1 then 0 else 1):=by
 have e:xs.take (i+1)=xs.take i++[xs.getD i 0]:=by
  rw[bYm,bW7,bW8 hi];rfl
 rw[e,dG,List.filter_append,bW2]
 rw[dG]
 congr 1
 generalize xs.getD i 0=x
 by_cases h:x = -1
 ·subst h;rfl
 ·rw[if_neg h,cBq (by simpa using h)];rfl
theorem aLq{xs:QT}{i:Nat}(hi:xs.length<=i):xs.take (i+1)=xs.take i:=by
 rw[bW4 hi,bW4 (by omega)]
theorem bBy{xs:QT}(i:Nat):dG (xs.take i)<=dG xs:=by
 conv=>rhs;rw[←bYw i xs]
 rw[dG,dG,List.filter_append,bW2];omega
theorem aHn(xs:QT):dG xs<=xs.length:=List.length_filter_le _ _
theorem aA7:∀ (xs l:QT),(dC xs l).length=xs.length
 | [],_=>rfl
 | t::ts,l=>by
  rw[dC]
  split<;>simp[aA7 ts]
theorem uK:∀ (xs l:QT) (i:Nat),i<xs.length->(dC xs l).getD i 0=if xs.getD i 0 = -1 then 0 else aD4 (l.getD (dG (xs.take i)) 0)
 | [],_,i,h=>by simp at h
 | t::ts,l,0,h=>by
  rw[dC]
  by_cases ht:t = -1
  ·simp[ht]
  ·simp[ht,dG]
 | t::ts,l,i+1,h=>by
  rw[dC]
  by_cases ht:t = -1
  ·have ih:=uK ts l i (by simpa using h)
   have e:dG ((t::ts).take (i+1))=dG (ts.take i):=by rw[bY7,dG,List.filter_cons_of_neg (by simp[ht])];rfl
   rw[if_pos ht,e,bZc,ih,bZc]
  ·have ih:=uK ts (l.drop 1) i (by simpa using h)
   have e:dG ((t::ts).take (i+1))=dG (ts.take i)+1:=by rw[bY7,dG,cBq (by simpa using ht)];rfl
   rw[if_neg ht,e,bZc,ih,bZc]
   have e2:(l.drop 1).getD (dG (ts.take i)) 0=l.getD (dG (ts.take i)+1) 0:=by
    rw[bW7,bW7,bYo,Nat.add_comm]
   rw[e2]
theorem aH3(d:Int):aD4 d=1∨aD4 d=2:=by
 unfold aD4;split<;>simp
theorem bM4(xs l:QT)(i:Nat):0<=(dC xs l).getD i 0∧(dC xs l).getD i 0<=2:=by
 by_cases h:i<xs.length
 ·rw[uK xs l i h]
  split
  ·omega
  ·rcases aH3 (l.getD (dG (xs.take i)) 0)with e | e<;>omega
 ·rw[bW7,bZn (by rw[aA7];omega)];simp
theorem bCx{S:QT}(h:∀i,0<=S.getD i 0∧S.getD i 0<=2):∀i,0<=gM S i∧gM S i<4^(i%7)
 | 0=>by simp[gM]
 | i+1=>by
  have ih:=bCx h i
  have hs:=h i
  rw[gM]
  split
  ·rename_i h6
   rw[show(i+1)%7=0 by omega];simp
  ·rw[show(i+1)%7=i%7+1 by omega,Int.pow_succ]
   omega
theorem bK5{S:QT}(h:∀i,0<=S.getD i 0∧S.getD i 0<=2)(i:Nat):0<=gM S i∧gM S i<4096:=by
 have:=bCx h i
 have h2:(4:Int)^(i%7)<=4^6:=by
  have:i%7<=6:=by omega
  generalize i%7=j at this
  obtain rfl | rfl | rfl | rfl | rfl | rfl | rfl:j=0∨j=1∨j=2∨j=3∨j=4∨j=5∨j=6:=by omega
  all_goals decide
 omega
theorem oV(S:QT):∀i,(bC S i).length<=2*i
 | 0=>by simp[bC]
 | i+1=>by
  have:=oV S i
  rw[bC]
  split
  ·simp[aB,eU];omega
  ·omega
theorem aEw{l:QT}{k:Nat}(hk:k<l.length):dK (l.take (k+1))=dK (l.take k)++aB (aD4 (l.getD k 0)).toNat [l.getD k 0]:=by
 have e:l.take (k+1)=l.take k++[l.getD k 0]:=by
  rw[bYm,bW7,bW8 hk];rfl
 rw[e,dK,cBg]
 simp[dK]
theorem lY:∀l:QT,(dK l).length<=2*l.length
 | []=>by simp[dK]
 | d::l=>by
  have:=lY l
  have e:dK (d::l)=aB (aD4 d).toNat [d]++dK l:=rfl
  rw[e,bW2,aG,bXc]
  rcases aH3 d with h | h<;>simp[h]<;>omega
theorem aSy:∀l:QT,l.length<=(dK l).length
 | []=>by simp[dK]
 | d::l=>by
  have:=aSy l
  have e:dK (d::l)=aB (aD4 d).toNat [d]++dK l:=rfl
  rw[e,bW2,aG,bXc]
  rcases aH3 d with h | h<;>simp[h]<;>omega
theorem kF:∀ (xs:QT) (r la:Int) (b:Bool) (acc:QT) (p:Int×QT),bQ r la b xs acc=some p->p.2.length=acc.length+dG xs
 | [],r,la,b,acc,p,h=>by simp only[bQ,bW5]at h;subst h;simp[dG]
 | t::ts,r,la,b,acc,p,h=>by
  rw[bQ]at h
  split at h
  ·rename_i ht
   have:=kF ts _ _ _ _ _ h
   rw[this,dG,dG,List.filter_cons_of_neg (by simp[ht])]
  ·rename_i ht
   have e:dG (t::ts)=dG ts+1:=by rw[dG,cBq (by simpa using ht)];rfl
   split at h
   ·cases h
   ·split at h
    ·have:=kF ts _ _ _ _ _ h
     rw[this,e];simp;omega
    ·split at h
     ·cases h
     ·have:=kF ts _ _ _ _ _ h
      rw[this,e];simp;omega
theorem uL{xs l:QT}{ref:Int}(h:jB xs=some (ref,l)):l.length=dG xs:=by
 have:=kF _ _ _ _ _ _ h
 simpa using this
theorem bCq{c:Int}{s i:Nat}(hc:0<=c∧c<4096)(hs:s<4){A B:Int->Prop}(h6:i%7=6->A (49152+(4*c+(s:Int))))(hn:i%7≠6->B (4*c+(s:Int))) :
  ∃n29,AV.int .i64 c=AV.int .i64 n29∧∃n30,AV.int .i64 (IntKind.wrap .i64 (n29*4))=AV.int .i64 n30∧∃n31,AV.int .i64 (IntKind.wrap .i64 (((n30%18446744073709551616).toNat ||| s:Nat):Int))=AV.int .i64 n31∧∃n32,AV.int .i64 (Int.tmod (i:Int) 7)=AV.int .i64 n32 ∧
   bif n32==6 then(∃n33,AV.int .i64 (IntKind.wrap .i64 ((49152 ||| (n31%18446744073709551616).toNat:Nat):Int))=AV.int .i64 n33∧A n33)else B n31:=by
 obtain⟨c,rfl⟩:=cAv hc.1
 have e1:(((c:Nat):Int)*4%18446744073709551616).toNat=4*c:=by omega
 have e2:4*c ||| s=4*c+s:=(bZq (i:=2) (by omega) c).symm
 refine⟨_,rfl,aF ?_⟩
 rw[e1,e2]
 refine aF ⟨_,rfl, ?_⟩
 rw[show Int.tmod (i:Int) 7=((i%7:Nat):Int)from rfl]
 refine bJ (λh => ?_) (λh => ?_)
 ·have e3:(((4*c+s:Nat):Int)%18446744073709551616).toNat=4*c+s:=by omega
  have e4:49152 ||| (4*c+s)=49152+(4*c+s):=(bZq (i:=14) (by omega) 3).symm
  rw[e3,e4]
  refine aF ?_
  have:=h6 (by omega)
  rwa[show((49152+(4*c+s):Nat):Int)=49152+(4*((c:Nat):Int)+(s:Int))by omega]
 ·have:=hn (by omega)
  rwa[show((4*c+s:Nat):Int)=4*((c:Nat):Int)+(s:Int)by omega]
theorem iL(xs:QT)(a b:Int):(bD xs a b).length=6:=by simp[bD,aB,eU]
theorem bEv(t:Nat)(xs l:QT)(ref round:Int)(bs:LA)(hxs:1<=xs.length∧xs.length<=64)(hbs:bs.length<=10000)(hst:jB xs=some (ref,l))(Q:BS)
  (hq:Q (.ret (.sl 0 (bs++yS xs round).length 0 (bs++yS xs round).length 1)) [⟨.grow,true,ofBytes (bs++yS xs round)⟩] {}):∃hv hb,aIn hv hb t xs l ref round bs Q:=by
 obtain⟨hv,hb',e⟩:∃hv hb,aIn hv hb t xs l ref round bs Q=_:=⟨_,_,bTg t xs l ref round bs Q⟩
 refine⟨hv,hb',e.mpr ?_⟩
 delta aMc wL bRk aC8 bF2 aQ2 bR1 aJl gK aKf zA zK aSe aZ8 aA2 aA4 aMn aPw aQg aAy aSd yU aDt qR aTa aCi bPl bIh
 unfold vK xM uG yH vH uT xN
 clear e
 have hll:=uL hst
 have hc:dG xs<=l.length:=by omega
 have hcl:=aHn xs
 have hS:=bM4 xs l
 have hC:=bK5 hS
 have htd:((xs.length:Int)+6).tdiv 7=(((xs.length+6)/7:Nat):Int):=by
  rw[show((xs.length:Int)+6)=((xs.length+6:Nat):Int)by omega];rfl
 refine⟨xs,⟨rfl,rfl,by omega⟩, ?_⟩
 rintro r l2 b ⟨hr⟩
 have hr2:bM xs=(ref,l,true):=by simp only[bM,hst,bXr hxs]
 rw[hr2]at hr
 obtain⟨rfl,rfl,rfl⟩:ref=r∧l=l2∧true=b:=by simpa using hr
 refine⟨_,rfl,_,rfl,_,rfl,bs,[(xs.length:Int)],⟨rfl,rfl,rfl,by omega,rfl,rfl,by omega,by omega,by simp⟩,_,[ref],⟨rfl,rfl,rfl,by simp[aB,eU];omega,rfl,rfl,by omega,by omega,by simp⟩,_,[round],⟨rfl,rfl,rfl,by simp[aB,eU];omega,rfl,rfl,by omega,by omega,by simp⟩,_,rfl,aF ?_⟩
 rw[htd]
 refine aF (aF ⟨.inl ⟨0,⟨by omega,rfl⟩,by simp[bC,bD],by simp[bC,bD],rfl,rfl,rfl,rfl,rfl,rfl, ?_,trivial⟩, ?_, ?_⟩)
 ·congr 1
 ·rintro i ⟨g1,g2⟩
  have b6:i%7=6->∀s:Nat,(dC xs l).getD i 0=(s:Int)->bs++bD xs ref round++bC (dC xs l) i++aB 2 [49152+(4*gM (dC xs l) i+(s:Int))]=bs++bD xs ref round++bC (dC xs l) (i+1)∧gM (dC xs l) (i+1)=0:=λh s hs=>by
   rw[bC,if_pos h,gM,if_pos h,hs];exact⟨by simp only[bW9],rfl⟩
  have bn:i%7≠6->∀s:Nat,(dC xs l).getD i 0=(s:Int)->bC (dC xs l) (i+1)=bC (dC xs l) i∧gM (dC xs l) (i+1)=4*gM (dC xs l) i+(s:Int):=λh s hs=>by
   rw[bC,if_neg h,gM,if_neg h,hs];exact⟨rfl,rfl⟩
  have bl:=oV (dC xs l) i
  refine aH (λhlt=>⟨_,rfl,_,rfl,aH (λhi => ?_) (λhi => ?_)⟩) (λhge => ?_)
  ·have hi':i<xs.length:=by omega
   have hsg:=uK xs l i hi'
   have hct:=aK5 hi'
   have hcm:=bBy (xs:=xs) (i+1)
   refine ckO (ckI (by simp[aM];omega) (aAa (i:=i) (by omega) (by simp) (bK (λhe => ?_) (λhe => ?_))))
   ·rw[if_neg he]at hsg hct
    rw[g2]at hsg hct
    have ht:=aEw (l:=l) (k:=0) (by omega)
    have htl:=lY (l.take 0)
    rw[bXg]at htl
    refine⟨_,rfl,ckO (ckI (by simp[aM];omega) (aAa (xs:=l) (i:=0) (by omega) (by simp) ⟨_,rfl, ?_⟩))⟩
    rw[bX3 _ (by omega)]
    refine bK (λhd => ?_) (λhd => ?_)
    ·have hs2:aD4 (l.getD 0 0)=2:=by unfold aD4;exact if_neg (by omega)
     rw[hs2]at hsg ht
     rw[show Int.toNat 2=2 from rfl]at ht
     have hs:=hsg
     have hc1:=hct
     refine⟨_,rfl,ckO (ckI (by simp[aM];omega) (aAa (xs:=l) (i:=0) (by omega) (by simp) ⟨[_],⟨rfl,rfl,by omega,by omega,by simp,by simp⟩,⟨_,rfl,aF (bCq (s:=2) (hC i) (by omega) (λh6=>⟨_,[_],⟨rfl,rfl,rfl,(by simp only[bW2,iL];omega),rfl,rfl,by omega,by omega,by simp⟩,aF ⟨⟨trivial,rfl⟩,.inr ⟨i+1,⟨by omega,by omega⟩,by omega,by rw[(b6 h6 2 hs).1],by rw[hc1];exact congrArg ofBytes ht.symm,by rw[(b6 h6 2 hs).1],rfl,rfl,by rw[(b6 h6 2 hs).2],rfl,by rw[hc1];rfl,by rw[hc1,ht];rfl,rfl,trivial⟩⟩⟩) (λh6=>aF ⟨⟨trivial,rfl⟩,.inr ⟨i+1,⟨by omega,by omega⟩,by omega,by rw[(bn h6 2 hs).1],by rw[hc1];exact congrArg ofBytes ht.symm,by rw[(bn h6 2 hs).1],rfl,rfl,by rw[(bn h6 2 hs).2],rfl,by rw[hc1];rfl,by rw[hc1,ht];rfl,rfl,trivial⟩⟩))⟩⟩))⟩
    ·have hs1:aD4 (l.getD 0 0)=1:=by unfold aD4;exact if_pos (by omega)
     rw[hs1]at hsg ht
     rw[show Int.toNat 1=1 from rfl]at ht
     have hs:=hsg
     have hc1:=hct
     refine⟨_,rfl,ckO (ckI (by simp[aM];omega) (aAa (xs:=l) (i:=0) (by omega) (by simp) ⟨[_],⟨rfl,rfl,by omega,by omega,by simp,by simp⟩,⟨_,rfl,aF (bCq (s:=1) (hC i) (by omega) (λh6=>⟨_,[_],⟨rfl,rfl,rfl,(by simp only[bW2,iL];omega),rfl,rfl,by omega,by omega,by simp⟩,aF ⟨⟨trivial,rfl⟩,.inr ⟨i+1,⟨by omega,by omega⟩,by omega,by rw[(b6 h6 1 hs).1],by rw[hc1];exact congrArg ofBytes ht.symm,by rw[(b6 h6 1 hs).1],rfl,rfl,by rw[(b6 h6 1 hs).2],rfl,by rw[hc1];rfl,by rw[hc1,ht];rfl,rfl,trivial⟩⟩⟩) (λh6=>aF ⟨⟨trivial,rfl⟩,.inr ⟨i+1,⟨by omega,by omega⟩,by omega,by rw[(bn h6 1 hs).1],by rw[hc1];exact congrArg ofBytes ht.symm,by rw[(bn h6 1 hs).1],rfl,rfl,by rw[(bn h6 1 hs).2],rfl,by rw[hc1];rfl,by rw[hc1,ht];rfl,rfl,trivial⟩⟩))⟩⟩))⟩
   ·rw[if_pos he]at hsg hct
    have hs:=hsg
    have hc1:dG (xs.take (i+1))=0:=by omega
    exact bCq (s:=0) (hC i) (by omega) (λh6=>⟨_,[_],⟨rfl,rfl,rfl,(by simp only[bW2,iL];omega),rfl,rfl,by omega,by omega,by simp⟩,aF ⟨⟨trivial,rfl⟩,.inl ⟨i+1,⟨by omega,hc1⟩,by omega,by rw[(b6 h6 0 hs).1],by rw[(b6 h6 0 hs).1],rfl,rfl,by rw[(b6 h6 0 hs).2],rfl,rfl,rfl,rfl,trivial⟩⟩⟩) (λh6=>aF ⟨⟨trivial,rfl⟩,.inl ⟨i+1,⟨by omega,hc1⟩,by omega,by rw[(bn h6 0 hs).1],by rw[(bn h6 0 hs).1],rfl,rfl,by rw[(bn h6 0 hs).2],rfl,rfl,rfl,rfl,trivial⟩⟩)
  ·have hs:(dC xs l).getD i 0=0:=by rw[bW7,bZn (by rw[aA7];omega)];rfl
   have hc1:dG (xs.take (i+1))=0:=by rw[aLq (by omega)];exact g2
   exact bCq (s:=0) (hC i) (by omega) (λh6=>⟨_,[_],⟨rfl,rfl,rfl,(by simp only[bW2,iL];omega),rfl,rfl,by omega,by omega,by simp⟩,aF ⟨⟨trivial,rfl⟩,.inl ⟨i+1,⟨by omega,hc1⟩,by omega,by rw[(b6 h6 0 hs).1],by rw[(b6 h6 0 hs).1],rfl,rfl,by rw[(b6 h6 0 hs).2],rfl,rfl,rfl,rfl,trivial⟩⟩⟩) (λh6=>aF ⟨⟨trivial,rfl⟩,.inl ⟨i+1,⟨by omega,hc1⟩,by omega,by rw[(bn h6 0 hs).1],by rw[(bn h6 0 hs).1],rfl,rfl,by rw[(bn h6 0 hs).2],rfl,rfl,rfl,rfl,trivial⟩⟩)
  ·have hi:i=(xs.length+6)/7*7:=by omega
   subst hi
   have hx:xs.take ((xs.length+6)/7*7)=xs:=bW4 (by omega)
   rw[hx]at g2 
   have hl0:l=[]:=bXo (by omega)
   have ha:bs++yS xs round=bs++bD xs ref round++bC (dC xs l) ((xs.length+6)/7*7):=by
    simp only[yS,hst,bW9];rw[hl0];simp[dK]
   rw[ha]at hq
   exact ckI (by simp[aC]) ⟨rfl,hq⟩
 ·rintro i ⟨g1,g2⟩
  have b6:i%7=6->∀s:Nat,(dC xs l).getD i 0=(s:Int)->bs++bD xs ref round++bC (dC xs l) i++aB 2 [49152+(4*gM (dC xs l) i+(s:Int))]=bs++bD xs ref round++bC (dC xs l) (i+1)∧gM (dC xs l) (i+1)=0:=λh s hs=>by
   rw[bC,if_pos h,gM,if_pos h,hs];exact⟨by simp only[bW9],rfl⟩
  have bn:i%7≠6->∀s:Nat,(dC xs l).getD i 0=(s:Int)->bC (dC xs l) (i+1)=bC (dC xs l) i∧gM (dC xs l) (i+1)=4*gM (dC xs l) i+(s:Int):=λh s hs=>by
   rw[bC,if_neg h,gM,if_neg h,hs];exact⟨rfl,rfl⟩
  have bl:=oV (dC xs l) i
  refine aH (λhlt=>⟨_,rfl,_,rfl,aH (λhi => ?_) (λhi => ?_)⟩) (λhge => ?_)
  ·have hi':i<xs.length:=by omega
   have hsg:=uK xs l i hi'
   have hct:=aK5 hi'
   have hcm:=bBy (xs:=xs) (i+1)
   refine ckO (ckI (by simp[aM];omega) (aAa (i:=i) (by omega) (by simp) (bK (λhe => ?_) (λhe => ?_))))
   ·rw[if_neg he]at hsg hct

    have ht:=aEw (l:=l) (k:=(dG (xs.take i))) (by omega)
    have htl:=lY (l.take (dG (xs.take i)))
    rw[bXg]at htl
    refine⟨_,rfl,ckO (ckI (by simp[aM];omega) (aAa (xs:=l) (i:=(dG (xs.take i))) (by omega) (by simp) ⟨_,rfl, ?_⟩))⟩
    rw[bX3 _ (by omega)]
    refine bK (λhd => ?_) (λhd => ?_)
    ·have hs2:aD4 (l.getD (dG (xs.take i)) 0)=2:=by unfold aD4;exact if_neg (by omega)
     rw[hs2]at hsg ht
     rw[show Int.toNat 2=2 from rfl]at ht
     have hs:=hsg
     have hc1:=hct
     refine⟨_,rfl,ckO (ckI (by simp[aM];omega) (aAa (xs:=l) (i:=(dG (xs.take i))) (by omega) (by simp) ⟨_,[_],⟨rfl,rfl,rfl,by omega,rfl,rfl,by omega,by omega,by simp⟩,⟨_,rfl,aF (bCq (s:=2) (hC i) (by omega) (λh6=>⟨_,[_],⟨rfl,rfl,rfl,(by simp only[bW2,iL];omega),rfl,rfl,by omega,by omega,by simp⟩,aF ⟨⟨trivial,rfl⟩,.inr ⟨i+1,⟨by omega,by omega⟩,by omega,by rw[(b6 h6 2 hs).1],by rw[hc1,ht],by rw[(b6 h6 2 hs).1],rfl,rfl,by rw[(b6 h6 2 hs).2],rfl,by rw[hc1];rfl,by rw[hc1,ht],rfl,trivial⟩⟩⟩) (λh6=>aF ⟨⟨trivial,rfl⟩,.inr ⟨i+1,⟨by omega,by omega⟩,by omega,by rw[(bn h6 2 hs).1],by rw[hc1,ht],by rw[(bn h6 2 hs).1],rfl,rfl,by rw[(bn h6 2 hs).2],rfl,by rw[hc1];rfl,by rw[hc1,ht],rfl,trivial⟩⟩))⟩⟩))⟩
    ·have hs1:aD4 (l.getD (dG (xs.take i)) 0)=1:=by unfold aD4;exact if_pos (by omega)
     rw[hs1]at hsg ht
     rw[show Int.toNat 1=1 from rfl]at ht
     have hs:=hsg
     have hc1:=hct
     refine⟨_,rfl,ckO (ckI (by simp[aM];omega) (aAa (xs:=l) (i:=(dG (xs.take i))) (by omega) (by simp) ⟨_,[_],⟨rfl,rfl,rfl,by omega,rfl,rfl,by omega,by omega,by simp⟩,⟨_,rfl,aF (bCq (s:=1) (hC i) (by omega) (λh6=>⟨_,[_],⟨rfl,rfl,rfl,(by simp only[bW2,iL];omega),rfl,rfl,by omega,by omega,by simp⟩,aF ⟨⟨trivial,rfl⟩,.inr ⟨i+1,⟨by omega,by omega⟩,by omega,by rw[(b6 h6 1 hs).1],by rw[hc1,ht],by rw[(b6 h6 1 hs).1],rfl,rfl,by rw[(b6 h6 1 hs).2],rfl,by rw[hc1];rfl,by rw[hc1,ht],rfl,trivial⟩⟩⟩) (λh6=>aF ⟨⟨trivial,rfl⟩,.inr ⟨i+1,⟨by omega,by omega⟩,by omega,by rw[(bn h6 1 hs).1],by rw[hc1,ht],by rw[(bn h6 1 hs).1],rfl,rfl,by rw[(bn h6 1 hs).2],rfl,by rw[hc1];rfl,by rw[hc1,ht],rfl,trivial⟩⟩))⟩⟩))⟩
   ·rw[if_pos he]at hsg hct
    have hs:=hsg
    have hc1:dG (xs.take (i+1))=dG (xs.take i):=by omega
    exact bCq (s:=0) (hC i) (by omega) (λh6=>⟨_,[_],⟨rfl,rfl,rfl,(by simp only[bW2,iL];omega),rfl,rfl,by omega,by omega,by simp⟩,aF ⟨⟨trivial,rfl⟩,.inr ⟨i+1,⟨by omega,by omega⟩,by omega,by rw[(b6 h6 0 hs).1],by rw[hc1],by rw[(b6 h6 0 hs).1],rfl,rfl,by rw[(b6 h6 0 hs).2],rfl,by rw[hc1],by rw[hc1],rfl,trivial⟩⟩⟩) (λh6=>aF ⟨⟨trivial,rfl⟩,.inr ⟨i+1,⟨by omega,by omega⟩,by omega,by rw[(bn h6 0 hs).1],by rw[hc1],by rw[(bn h6 0 hs).1],rfl,rfl,by rw[(bn h6 0 hs).2],rfl,by rw[hc1],by rw[hc1],rfl,trivial⟩⟩)
  ·have hs:(dC xs l).getD i 0=0:=by rw[bW7,bZn (by rw[aA7];omega)];rfl
   have hc1:dG (xs.take (i+1))=dG (xs.take i):=by rw[aLq (by omega)]
   exact bCq (s:=0) (hC i) (by omega) (λh6=>⟨_,[_],⟨rfl,rfl,rfl,(by simp only[bW2,iL];omega),rfl,rfl,by omega,by omega,by simp⟩,aF ⟨⟨trivial,rfl⟩,.inr ⟨i+1,⟨by omega,by omega⟩,by omega,by rw[(b6 h6 0 hs).1],by rw[hc1],by rw[(b6 h6 0 hs).1],rfl,rfl,by rw[(b6 h6 0 hs).2],rfl,by rw[hc1],by rw[hc1],rfl,trivial⟩⟩⟩) (λh6=>aF ⟨⟨trivial,rfl⟩,.inr ⟨i+1,⟨by omega,by omega⟩,by omega,by rw[(bn h6 0 hs).1],by rw[hc1],by rw[(bn h6 0 hs).1],rfl,rfl,by rw[(bn h6 0 hs).2],rfl,by rw[hc1],by rw[hc1],rfl,trivial⟩⟩)
  ·have hi:i=(xs.length+6)/7*7:=by omega
   subst hi
   have hx:xs.take ((xs.length+6)/7*7)=xs:=bW4 (by omega)
   rw[hx]at g2 ⊢
   rw[←hll,bX8]
   have ha:bs++yS xs round=bs++bD xs ref round++bC (dC xs l) ((xs.length+6)/7*7)++dK l:=by
    simp only[yS,hst,bW9]
   rw[ha]at hq
   have tg:=aSy l
   have tl:=lY l
   have bl:=oV (dC xs l) ((xs.length+6)/7*7)
   have ln:(bs++bD xs ref round++bC (dC xs l) ((xs.length+6)/7*7)).length<=20000:=by simp only[bW2,iL];omega
   generalize bs++bD xs ref round++bC (dC xs l) ((xs.length+6)/7*7)=B at *
   refine ckI (by simp[aC,aY,bW4];omega) (cK (λh => ?_) (λh => ?_))
   ·rw[bS]at h;omega
   ·refine ckO (ckI (by simp[aC];omega) ?_)
    have e1:List.take ((dK l).length*1) (List.drop 0 (ofBytes (dK l)))=ofBytes (dK l):=by
     rw[bXl,cAc];exact bW4 (by rw[aC];exact bXe _)
    rw[e1,aC,bE,aJ,←bW2]
    exact⟨rfl,hq⟩
theorem stepsR_some{xs:QT}(h:(bM xs).2.2=true):∃ref l,jB xs=some (ref,l)∧1<=xs.length∧xs.length<=64:=by
 unfold bM at h
 cases e:jB xs with
 | none=>simp[e]at h
 | some p=>
  rw[e]at h
  have:=bY8 h
  exact⟨p.1,p.2,rfl,this⟩
def bQ0:iO
 | [.sl id tot 0 len 1,.lst _ cs n 1,.int .i64 round],H,K=>∃ (bs:LA) (xs:QT),Lf (H[id]? = some ⟨.grow,true,ofBytes bs⟩∧tot=bs.length∧len=bs.length∧bs.length<=10000∧cs=aA xs∧n=xs.length∧(bM xs).2.2=true)∧K (.ret (.sl id (bs++yS xs round).length 0 (bs++yS xs round).length 1)) (H.set id ⟨.grow,true,ofBytes (bs++yS xs round)⟩)
 | _,_,_=>False
theorem bBj:aI Tryz.prog gl0 148 bQ0:=by
 refine fZ (enters_of (by kernel_rfl)) aO λargs H Q hc => ?_
 unfold bQ0 at hc
 split at hc
 ·rename_i id tot len t cs n round
  obtain⟨bs,xs,⟨h1,rfl,rfl,h3,rfl,rfl,h4⟩,hq⟩:=hc
  obtain⟨ref,l,h5,h6⟩:=stepsR_some h4
  obtain⟨hv,hb',h⟩:=bEv t xs l ref round bs h6 h3 h5 (λo H' _=>o=.ret (.sl 0 (bs++yS xs round).length 0 (bs++yS xs round).length 1)∧H'=[⟨.grow,true,ofBytes (bs++yS xs round)⟩]) ⟨rfl,rfl⟩
  refine⟨_,1000,λ_=>id,[.sl 0 bs.length 0 bs.length 1,.lst t (aA xs) xs.length 1,.int .i64 round],[⟨.grow,true,ofBytes bs⟩],_, ?_,rfl,rfl,rfl,rfl,jD h1 (aJ 0 _) (aJ 1 _) (bG _),h, ?_⟩
  ·exact⟨qL,pY,dH,bIu⟩
  ·rintro o H0' g' ⟨rfl,rfl⟩
   exact⟨_,gH h1 (aJ 0 _) (bG _),hq⟩
 ·exact hc.elim
end Go.Proofs.YtnhechnaemmdiaaGreatDoor.Cd
