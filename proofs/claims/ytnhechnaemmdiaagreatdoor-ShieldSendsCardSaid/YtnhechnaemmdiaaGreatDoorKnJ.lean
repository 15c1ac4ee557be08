/-
  Chapters 3 and 4: the contract of Apply; numbers in limbs.
-/
import Derived.Test.YtnhechnaemmdiaaGreatDoorKnI
set_option linter.unusedSimpArgs false
set_option linter.unusedVariables false
namespace Go.Proofs.YtnhechnaemmdiaaGreatDoor
open Go.RowKit
set_option maxRecDepth 1000000

def iG(key nonce:LA)(c:Int)(s:LA):LA×Int:=
 if dR key nonce c=false then([],2)else if 4096<s.length then([],3)else if 4294967296<c+((s.length:Int)+63)/64 then([],6)else(tO (fD key nonce) c 70 s,0)
def aFb:Con
 | [.str key,.str nonce,.int .i64 c,.str s],H,K=>∀t e,Lf (iG key nonce c s=(t,e))->K (.ret (.tup [.str t,.int .i64 e])) H
 | _,_,_=>False
theorem uD:aI Tryz.prog gl0 117 aFb:=by
 refine aQ (enters_of (by kernel_rfl)) aO λargs H Q hc => ?_
 unfold aFb at hc
 split at hc
 ·rename_i key nonce c s
  obtain⟨hv,hb',h⟩:=aUd key nonce c s _ rfl (Q:=λo H' _=>H'=[]∧(∃v,o=.ret v∧old 0 v=true∧noY v=true)∧Q o H)
   (λh1=>⟨rfl,⟨_,rfl,rfl,rfl⟩,hc _ _ ⟨by rw[iG,if_pos h1]⟩⟩)
   (λh1 h2=>⟨rfl,⟨_,rfl,rfl,rfl⟩,hc _ _ ⟨by rw[iG,if_neg (by simp[h1]),if_pos h2]⟩⟩)
   (λh1 h2 h3=>⟨rfl,⟨_,rfl,rfl,rfl⟩,hc _ _ ⟨by rw[iG,if_neg (by simp[h1]),if_neg (by omega),if_pos h3]⟩⟩)
   (λh1 h2 h3=>⟨rfl,⟨_,rfl,rfl,rfl⟩,hc _ _ ⟨by rw[iG,if_neg (by simp[h1]),if_neg (by omega),if_neg (by omega)]⟩⟩)
  exact⟨rfl,rfl,_,1000,aS bNe _ _ _,rfl,h⟩
 ·exact hc.elim

def iH:LA->Nat
 | []=>0
 | b::l=>b.toNat+256*iH l
def mE(n:Nat):List Nat:=[n%67108864,n/67108864%67108864,n/4503599627370496%67108864,n/302231454903657293676544%67108864,n/20282409603651670423947251286016%67108864]
def bP(l:List Nat):HB:=l.map λ(n:Nat)=>AV.int .u64 (n:Int)
theorem aWj{a b:Nat}(k:Nat)(h:a<2^k)(hb:b%2^k=0):a ||| b=a+b:=by
 obtain⟨q,rfl⟩:=Nat.dvd_of_mod_eq_zero hb
 have:=bZq h q
 rw[Nat.or_comm,←this,Nat.add_comm]
theorem aPh(i:Nat)(hi:i<17)(N c:Nat)(hN:N<2^(8*i))(hc:c<256)(hx:c*2^(8*i%26)<67108864) :
  (mE N).set (8*i/26) ((mE N).getD (8*i/26) 0 ||| c*2^(8*i%26))=mE (N+c*2^(8*i)):=by
 have h17:i=0∨i=1∨i=2∨i=3∨i=4∨i=5∨i=6∨i=7∨i=8∨i=9∨i=10∨i=11∨i=12∨i=13∨i=14∨i=15∨i=16:=by omega
 rcases h17 with rfl | rfl | rfl | rfl | rfl | rfl | rfl | rfl | rfl | rfl | rfl | rfl | rfl | rfl | rfl | rfl | rfl <;>
 ·rw[aWj (8*_%26) (by simp only[mE,Nat.reduceMul,Nat.reduceDiv,Nat.reduceMod,Nat.reducePow,bZc,cAu]at hN ⊢;omega) (cCw _ _)]
  simp only[mE,Nat.reduceMul,Nat.reduceDiv,Nat.reduceMod,Nat.reducePow,cBo,cAy,bZc,cAu]at hN hx ⊢
  simp only[bZp,cA6]
  refine⟨?_, ?_, ?_, ?_, ?_⟩<;>omega
theorem bBz(i:Nat)(hi:i<17)(N:Nat)(hN:N<2^(8*i)):(mE N).getD (8*i/26) 0<2^(8*i%26):=by
 have h17:i=0∨i=1∨i=2∨i=3∨i=4∨i=5∨i=6∨i=7∨i=8∨i=9∨i=10∨i=11∨i=12∨i=13∨i=14∨i=15∨i=16:=by omega
 rcases h17 with rfl | rfl | rfl | rfl | rfl | rfl | rfl | rfl | rfl | rfl | rfl | rfl | rfl | rfl | rfl | rfl | rfl <;>
 (simp only[mE,Nat.reduceMul,Nat.reduceDiv,Nat.reduceMod,Nat.reducePow,bZc,cAu]at hN ⊢;omega)
theorem bMz(i c:Nat):c*2^(8*i%26)%67108864%2^(8*i%26)=0:=by
 have hd:2^(8*i%26) ∣ 67108864:=Nat.pow_dvd_pow (n:=26) 2 (by omega)
 rw[Nat.mod_mod_of_dvd _ hd,cCw]
theorem aPk(i:Nat)(hi:i<17)(N c:Nat)(hN:N<2^(8*i))(hc:c<256)(hx:67108864<=c*2^(8*i%26))(hb:N+c*2^(8*i)<1361129467683753853853498429727072845824) :
  8*i/26+1<5∧(((mE N).set (8*i/26) ((mE N).getD (8*i/26) 0 ||| c*2^(8*i%26)%67108864)).set (8*i/26+1) (((mE N).set (8*i/26) ((mE N).getD (8*i/26) 0 ||| c*2^(8*i%26)%67108864)).getD (8*i/26+1) 0 ||| c*2^(8*i%26)/67108864))=mE (N+c*2^(8*i)):=by
 rw[aWj (8*i%26) (bBz i hi N hN) (bMz i c)]
 have h17:i=0∨i=1∨i=2∨i=3∨i=4∨i=5∨i=6∨i=7∨i=8∨i=9∨i=10∨i=11∨i=12∨i=13∨i=14∨i=15∨i=16:=by omega
 rcases h17 with rfl | rfl | rfl | rfl | rfl | rfl | rfl | rfl | rfl | rfl | rfl | rfl | rfl | rfl | rfl | rfl | rfl <;>
 first
 | (exfalso;simp only[Nat.reduceMul,Nat.reduceMod,Nat.reducePow]at hx hb;omega)
 | (refine⟨by simp, ?_⟩
    simp only[mE,Nat.reduceMul,Nat.reduceAdd,Nat.reduceDiv,Nat.reduceMod,Nat.reducePow,cBo,cAy,bZc,cAu]at hN hx hb ⊢
    rw[aWj 0 (b:=_/67108864) (by omega) (Nat.mod_one _)]
    simp only[bZp,cA6]
    refine⟨?_, ?_, ?_, ?_, ?_⟩<;>omega)
def bMv:HB:=[.int .u64 0,.int .u64 0,.int .u64 0,.int .u64 0,.int .u64 0]
def bMt(t:Nat)(s:LA):LInv where
 α:=Nat×List Nat
 pre p:=Lf (p.1<=s.length∧p.2=mE (iH (s.take p.1)))
 st p:=⟨mkT [(2,.ptr 0 5 0),(3,.ptr 1 5 0),(9,.lst t (ofBytes s) s.length 1),(10,.int .i64 s.length),(11,.int .i64 (p.1:Nat))],[⟨.exact,true,bMv⟩,⟨.exact,true,bP p.2⟩]⟩
 mu p:=s.length-p.1
noncomputable def bBh(hv:LI)(hb:LB)(t:Nat)(s:LA):Env:=e04 sm0 (λi=>bif Nat.beq i 211000 then some (λ_=>[[bMt t s]])else none) hv hb
noncomputable def aG6(hv:LI)(hb:LB)(t:Nat)(s:LA)(Q:BS):Prop:=
 aT (bBh hv hb t s) (wpx (bBh hv hb t s) 1000) 211 [.lst t (ofBytes s) s.length 1] [] {} Q
abbrev bQa(x_1:Nat×List Nat)(s:LA):Prop:=Lf (x_1.1<=s.length∧x_1.2=mE (iH (s.take x_1.1)))
abbrev bM0:HB:=[.int .u64 0,.int .u64 0,.int .u64 0,.int .u64 0,.int .u64 0]
abbrev bO7(n_4:Int):Bool:=decide (0<=n_4)&&Nat.blt n_4.toNat 5
abbrev bKa(x_1:Nat×List Nat):Bool:=Nat.beq (bP x_1.2).length 5
abbrev bCl(n_4:Int):Nat:=0+n_4.toNat*1
abbrev bKx(n_8:Int):Nat:=(n_8%18446744073709551616).toNat
abbrev bCe(x_1:Nat×List Nat)(n_4 n_11:Int):HB:=aN (bP x_1.2) (0+n_4.toNat*1) [.int .u64 n_11]
abbrev bTe(n_16:Int)(y_17:Nat×List Nat)(t:Nat)(s:LA):Prop:=aK (AV.ptr 1 5 0)∧AV.int .i64 n_16=AV.int .i64 (y_17.1:Int)∧aK (AV.lst t (ofBytes s) s.length 1)∧aK (AV.ptr 0 5 0)∧aK (AV.int .i64 (s.length:Int))∧True
abbrev bQ9(x_1:Nat×List Nat):HB:=aN [.int .u64 0,.int .u64 0,.int .u64 0,.int .u64 0,.int .u64 0] 0 (((bP x_1.2).drop 0).take 5)
theorem bUq(t:Nat)(s:LA)(Q:BS):aG6 (aW [(864266,.int .i64),(864271,.int .u8),(864273,.int .i64),(864274,.int .i64),(864276,.int .i64),(864277,.int .i64),(864279,.int .u64),
 (864281,.int .u64),(864284,.int .u64),(864286,.int .u64),(864287,.int .u64),(864292,.int .i64),(864294,.int .u64),(864296,.int .u64),(864297,.int .u64),(864299,.int .i64)]) (aV [(868350,true)]) t s Q=(exI .i64
 (s.length:Int) (λn_0=>(∃x_1:Nat×List Nat,bQa x_1 s∧aK bM0∧bM0=bP x_1.2∧aK (AV.ptr 1 5 0)∧AV.int .i64 0=AV.int .i64 (x_1.1:Int)∧aK (AV.lst t (ofBytes s) s.length 1)∧aK (AV.ptr 0 5 0)∧AV.int
 .i64 n_0=AV.int .i64 (s.length:Int)∧True)∧∀x_1:Nat×List Nat,bQa x_1 s->bif decide ((x_1.1:Int)<(s.length:Int))then ckQ (Nat.blt (x_1.1:Int).toNat s.length&&true) (ckQ (Nat.blt ((x_1.1:Int).toNat*1) (ofBytes
 s).length) (exV .u8 ((ofBytes s).getD ((x_1.1:Int).toNat*1) AV.undef) (λn_2=>exW .i64 (8*(x_1.1:Int)) (λn_3=>exW .i64 (n_3.tdiv 26) (λn_4=>exW .i64 (8*(x_1.1:Int)) (λn_5=>exI .i64 (n_5.tmod 26) (λn_6=>
 exW .u64 n_2 (λn_7=>ckQ (decide (0<=n_6)&&true) (exW .u64 (n_7*(2:Int)^Min.min n_6.toNat 64) (λn_8=>ckQ (bO7 n_4&&bKa x_1) (ckQ (bKa x_1&&Nat.blt (bCl n_4) 5) (exV .u64 ((((bP x_1.2).drop (bCl n_4)).take
 1).getD 0 AV.undef) (λn_9=>exW .u64 ((bKx n_8 &&& 67108863:Nat):Int) (λn_10=>exW .u64 ((bKx n_9 ||| bKx n_10:Nat):Int) (λn_11=>ckQ (bO7 n_4&&bKa x_1) (ckQ (bKa x_1&&Nat.ble (bCl n_4+1) 5&&true&&true
 && true) (bif decide (n_8≥67108864)then exW .i64 (n_4+1) (λn_12=>ckQ (bO7 n_12&&Nat.beq (bCe x_1 n_4 n_11).length 5) (ckQ (Nat.beq (bCe x_1 n_4 n_11).length 5&&Nat.blt (bCl n_12) 5) (exV .u64 ((((bCe x_1 n_4 n_11).drop
 (bCl n_12)).take 1).getD 0 AV.undef) (λn_13=>exI .u64 (Int.fdiv n_8 67108864) (λn_14=>exW .u64 ((bKx n_13 ||| bKx n_14:Nat):Int) (λn_15=>ckQ (bO7 n_12&&Nat.beq (bCe x_1 n_4 n_11).length 5) (ckQ (Nat.beq (bCe x_1
 n_4 n_11).length 5&&Nat.ble (bCl n_12+1) 5&&true&&true&&true) (exW .i64 ((x_1.1:Int)+1) (λn_16=>(True∧(0:Nat)=(0:Nat))∧∃y_17:Nat×List Nat,bQa y_17 s∧s.length-y_17.1<s.length-x_1.1∧aK bM0 ∧
 aN (bCe x_1 n_4 n_11) (bCl n_12) [.int .u64 n_15]=bP y_17.2∧bTe n_16 y_17 t s)))))))))else exW .i64 ((x_1.1:Int)+1) (λn_12=>(True∧(0:Nat)=(0:Nat))∧∃y_13:Nat×List Nat,bQa y_13 s∧s.length -
 y_13.1<s.length-x_1.1∧aK bM0∧bCe x_1 n_4 n_11=bP y_13.2∧bTe n_12 y_13 t s))))))))))))))))))else ckQ (bKa x_1&&true) (ckQ (Nat.beq (((bP x_1.2).drop 0).take 5).length 5&&eH (((bP x_1.2).drop 0).take
 5)&&true) (ckQ (Nat.beq (bQ9 x_1).length 5&&true) ((old 0 (.agg (((bQ9 x_1).drop 0).take 5))&&true)=true∧Q (.ret (.agg (((bQ9 x_1).drop 0).take 5))) [] {}))))):=by kernel_rfl


theorem mH{α:Type}(l:List α)(d:α){i:Nat}(h:i<l.length):l.take (i+1)=l.take i++[l.getD i d]:=by
 rw[bYm,bW8 h]
 simp[h]
theorem aLk(l:LA)(b:UInt8):iH (l++[b])=iH l+b.toNat*2^(8*l.length):=by
 induction l with
 | nil=>simp[iH]
 | cons x l ih=>
  simp only[bX0,iH,ih,bXc]
  rw[cA4,cA4 8,cC1,Nat.mul_left_comm 256,show(2^(8*1):Nat)=256 from rfl,bZz (2^(8*l.length)) 256,bYp]
theorem aDr(l:LA):iH l<2^(8*l.length):=by
 induction l with
 | nil=>simp[iH]
 | cons x l ih=>
  simp only[iH,bXc]
  have:=x.toNat_lt
  rw[cA4,cC1,show(2^(8*1):Nat)=256 from rfl]
  omega
theorem bA2{s:LA}{i:Nat}(h:i<s.length):iH (s.take (i+1))=iH (s.take i)+(s.getD i 0).toNat*2^(8*i):=by
 rw[mH s 0 h,aLk,bXg,bYf (by omega)]
theorem bWo{s:LA}{i j:Nat}(hi:i<s.length)(hj:j=i){K:Int->Prop}(hk:K ((s.getD i 0).toNat:Int)):∃n:Int,(ofBytes s).getD j AV.undef=AV.int .u8 n∧K n:=by
 subst hj
 refine⟨_, ?_,hk⟩
 simp[ofBytes,hi]
theorem qE(l:List Nat):(bP l).length=l.length:=by simp[bP]
theorem ldU{l:List Nat}{j m:Nat}(hj:j<l.length)(hm:m=j){K:Int->Prop}(hk:K ((l.getD j 0:Nat):Int)):∃n:Int,(List.take 1 (List.drop m (bP l))).getD 0 AV.undef=AV.int .u64 n∧K n:=by
 subst hm
 refine⟨_, ?_,hk⟩
 rw[bW7,bXz,if_pos (by omega),bYo,bP,cAo,bYv,bW8 hj]
 simp[hj]
theorem stU{L:List Nat}{j m x:Nat}(hj:j<L.length)(hm:m=j):aN (bP L) m [AV.int .u64 (x:Int)]=bP (L.set j x):=by
 subst hm
 rw[cBn,if_pos hj]
 simp[aN,bP]
theorem aMf{x:Nat}(h:x<18446744073709551616){K:Int->Prop}(hk:K (x:Int)){y:Int}(hy:y=(x:Int)):∃n:Int,AV.int .u64 (IntKind.wrap .u64 y)=AV.int .u64 n∧K n:=by
 subst hy
 refine⟨_, ?_,hk⟩
 rw[show IntKind.wrap .u64 (x:Int)=(x:Int)%18446744073709551616 from rfl]
 congr 1
 omega
theorem aBc{x:Nat}(h:x<18446744073709551616):((x:Int)%18446744073709551616).toNat=x:=by omega

theorem bLl(l:List Nat):eH (bP l)=true:=by
 induction l with
 | nil=>rfl
 | cons x l ih=>simpa[bP,eH,one]using ih
theorem bB0(l:List Nat):aP 0 (bP l)=true:=by
 induction l with
 | nil=>rfl
 | cons x l ih=>simpa[bP,aP,old]using ih
theorem bSq(l:List Nat):bX (bP l)=true:=by
 induction l with
 | nil=>rfl
 | cons x l ih=>simpa[bP,bX,noY]using ih
theorem bLe(n j:Nat):(mE n).getD j 0<67108864:=by
 match j with
 | 0=>simp[mE];omega
 | 1=>simp[mE];omega
 | 2=>simp[mE];omega
 | 3=>simp[mE];omega
 | 4=>simp[mE];omega
 | j+5=>simp[mE]
theorem bGe(a b:LA):iH (a++b)=iH a+iH b*2^(8*a.length):=by
 induction a with
 | nil=>simp[iH]
 | cons x l ih=>
  simp only[bX0,iH,ih,bXc]
  rw[cA4,cA4 8,cC1,Nat.mul_left_comm 256,show(2^(8*1):Nat)=256 from rfl,bZz (2^(8*l.length)) 256,bYp]
theorem aYt(s:LA){i:Nat}(_:i<=s.length):iH (s.take i)<=iH s:=by
 conv=>rhs;rw[←bYw i s]
 rw[bGe]
 omega

theorem aMp(t:Nat)(s:LA)(Q:BS)(hl:s.length<=17)(hb:iH s<1361129467683753853853498429727072845824)(hq:Q (.ret (.agg (bP (mE (iH s))))) [] {}):∃hv hb,aG6 hv hb t s Q:=by
 obtain⟨hv,hb',e⟩:∃hv hb,aG6 hv hb t s Q=_:=⟨_,_,bUq t s Q⟩
 refine⟨hv,hb',e.mpr ?_⟩
 delta bQa bM0 bO7 bKa bCl bKx bCe bTe bQ9
 clear e
 refine⟨_,rfl,⟨(0,mE 0),⟨by simp,by simp[iH]⟩,by simp[bP,mE]⟩, ?_⟩
 rintro⟨i,L⟩ ⟨g1,g2⟩
 dsimp only at *
 have hLl:L.length=5:=by rw[g2];rfl
 refine aH (λhlt => ?_) (λhge => ?_)
 ·have hi:i<s.length:=by omega
  have hN:=aDr (s.take i)
  rw[bXg,bYf (by omega)]at hN
  have hstep:=bA2 hi
  have hc:=(s.getD i 0).toNat_lt
  have hcl:=qE L
  refine ckI (by first | rfl | (simp[aD]<;>omega)) (ckI (by first | rfl | (simp[aD,dO]<;>omega)) (bWo hi (by omega) ?_))
  generalize (s.getD i 0).toNat=c at *
  have h1:(8*(i:Int)).tdiv 26=((8*i/26:Nat):Int):=by rw[bZt (by omega)];omega
  have h2:(8*(i:Int)).tmod 26=((8*i%26:Nat):Int):=by rw[bX6 (by omega)];omega
  have hA:=bBz i (by omega) _ hN
  rw[←g2]at hA
  have hB:=aPh i (by omega) (iH (s.take i)) c hN hc
  have hC:=aPk i (by omega) (iH (s.take i)) c hN hc
  have hle:=aYt s (show i+1<=s.length by omega)
  rw[←g2,←hstep]at hB hC
  have hsh:8*i%26<26:=cA7 _ (by omega)
  have hp2:2^(8*i%26)<=33554432:=cA9 (n:=2) (j:=25) (by omega) (by omega)
  have hat:8*i/26<5:=by omega
  refine aF ?_
  rw[h1]
  refine aF (aF ⟨_,rfl, ?_⟩)
  rw[h2]
  generalize 8*i%26=sh at *
  generalize 8*i/26=at_ at *
  refine aMf (x:=c) (by omega) ?_ rfl
  refine ckI (by first | rfl | (simp[aD]<;>omega)) ?_
  have hx34:c*2^sh<=255*33554432:=cAe (by omega) hp2
  have hp:(c:Int)*2^min ((sh:Nat):Int).toNat 64=((c*2^sh:Nat):Int):=by
   rw[bXf,bYf (by omega)]
   simp
  refine aMf (x:=c*2^sh) (by omega) ?_ hp
  generalize c*2^sh=x at *
  refine ckI (by first | rfl | (simp[aD,hcl,hLl]<;>omega)) (ckI (by first | rfl | (simp[aD,hcl,hLl]<;>omega)) (ldU (j:=at_) (by omega) (by omega) ?_))
  have hm:∀y:Nat,y &&& 67108863=y%67108864:=λy=>bY2 y 26
  refine aMf (x:=x%67108864) (by omega) ?_ (by rw[aBc (by omega),hm])
  generalize L.getD at_ 0=a at *
  have ha:a<67108864:=by omega
  have hor:a ||| x%67108864<67108864:=bYx (n:=26) ha (cA7 _ (by omega))
  refine aMf (x:=a ||| x%67108864) (by omega) ?_ (by rw[aBc (by omega),aBc (by omega)])
  refine ckI (by first | rfl | (simp[aD,hcl,hLl]<;>omega)) (ckI (by first | rfl | (simp[aD,hcl,hLl]<;>omega)) ?_)
  rw[stU (j:=at_) (by omega) (by omega)]
  generalize hL2:L.set at_ (a ||| x%67108864)=L2 at *
  have hL2l:L2.length=5:=by rw[←hL2,cA1,hLl]
  have hcl2:=qE L2
  refine aH (λhge => ?_) (λhlt2 => ?_)
  ·obtain⟨c1,c2⟩:=hC (by omega) (by omega)
   have ha2:L2.getD (at_+1) 0<67108864:=by
    rw[←hL2]
    have:(L.set at_ (a ||| x%67108864)).getD (at_+1) 0=L.getD (at_+1) 0:=by
     simp only[bW7]
     rw[bYu (by omega)]
    rw[this,g2]
    exact bLe _ _
   have hor2:L2.getD (at_+1) 0 ||| x/67108864<67108864:=bYx (n:=26) ha2 (by omega)
   have hf:Int.fdiv (x:Int) 67108864=((x/67108864:Nat):Int):=aEn x 67108864 67108864 rfl
   refine aF (ckI (by first | rfl | (simp[aD,hcl2,hL2l]<;>omega)) (ckI (by first | rfl | (simp[aD,hcl2,hL2l]<;>omega)) (ldU (j:=at_+1) (by omega) (by omega) ?_)))
   rw[hf]
   refine⟨_,rfl,aMf (x:=L2.getD (at_+1) 0 ||| x/67108864) (by omega) ?_ (by rw[aBc (by omega),aBc (by omega)])⟩
   refine ckI (by first | rfl | (simp[aD,hcl2,hL2l]<;>omega)) (ckI (by first | rfl | (simp[aD,hcl2,hL2l]<;>omega)) (aF ?_))
   rw[stU (j:=at_+1) (by omega) (by omega),c2]
   refine⟨⟨trivial,by trivial⟩,(i+1,mE (iH (s.take (i+1)))),⟨hi,rfl⟩, ?_,by simp⟩
   show s.length-(i+1)<s.length-i
   omega
  ·have c2:=hB (by omega)
   rw[←hL2,bZh (show x<67108864 by omega),c2]
   refine aF ⟨⟨trivial,by trivial⟩,(i+1,mE (iH (s.take (i+1)))),⟨hi,rfl⟩, ?_,by simp⟩
   show s.length-(i+1)<s.length-i
   omega
 ·obtain rfl:i=s.length:=by omega
  rw[bX8]at g2
  rw[←g2]at hq
  clear g2
  have hcl:(bP L).length=5:=by rw[qE,hLl]
  have ht:List.take 5 (List.drop 0 (bP L))=bP L:=by rw[bXl,bW4 (by omega)]
  rw[ht,kC _ _ (by rw[hcl];simp),ht]
  refine ckI (by rw[hcl];rfl) (ckI (by rw[hcl,bLl];rfl) (ckI (by rw[hcl];rfl) ⟨?_,hq⟩))
  rw[old,bB0];rfl
def aAw:Con
 | [.lst _ l n 1],H,K=>∃s:LA,Lf (l=ofBytes s∧n=s.length∧s.length<=17∧iH s<1361129467683753853853498429727072845824)∧∀a b c d e:Nat,Lf (mE (iH s)=[a,b,c,d,e])->K (.ret (.agg [.int .u64 a,.int .u64 b,.int .u64 c,.int .u64 d,.int .u64 e])) H
 | _,_,_=>False
theorem aMm:aI Tryz.prog gl0 211 aAw:=by
 refine aQ (enters_of (by kernel_rfl)) aO λargs H Q hc => ?_
 unfold aAw at hc
 split at hc
 ·rename_i t l n
  obtain⟨s,⟨rfl,rfl,h1,h2⟩,hq⟩:=hc
  obtain⟨hv,hb',h⟩:=aMp t s (Q:=λo H' _=>H'=[]∧(∃v,o=.ret v∧old 0 v=true∧noY v=true)∧Q o H) h1 h2 ⟨rfl,⟨_,rfl,by rw[old,bB0],by rw[noY,bSq]⟩,hq _ _ _ _ _ ⟨rfl⟩⟩
  exact⟨rfl,rfl,_,1000,aS bY _ _ _,rfl,h⟩
 ·exact hc.elim
def aK8:Con:=λargs H Q=>qI [1] H args λa=>aAw a H Q
theorem aQ4:aI Tryz.prog gl0 211 aK8:=eG aMm aO [1] λargs H Q hc=>by
 unfold aAw at hc
 split at hc
 ·obtain⟨s,h,hq⟩:=hc
  exact⟨s,h,λa b c d e he=>⟨rfl,⟨_,rfl,rfl⟩,hq a b c d e he⟩⟩
 ·exact hc.elim
def smG:SM:=gG [(211,aK8)]
theorem bNr:∀f g,smG f=some g->aI Tryz.prog gl0 f g:=bO _ (by simp only[bXd,bXn,bY0,bY4];exact aQ4)

def pM:Nat:=1361129467683753853853498429727072845819
def xU(r:Nat):Nat->Nat->LA->Nat
 | 0,h,_=>h
 | f+1,h,q=>if q=[]then h else xU r f ((h+iH (q.take 16++[1]))*r%pM) (q.drop 16)
def rJ(a b c d e:Nat):Nat:=a+b*67108864+c*4503599627370496+d*302231454903657293676544+e*20282409603651670423947251286016
abbrev X75:=LA×Nat×Nat×Nat×Nat×Nat×Nat
def bMm(rb s:LA)(r0 r1 r2 r3 r4:Nat):LInv where
 α:=X75
 pre p:=Lf (p.1.length<=p.2.1∧p.2.1<=s.length∧p.2.2.1<=67108864∧p.2.2.2.1<=67108864∧p.2.2.2.2.1<=67108864∧p.2.2.2.2.2.1<=67108864∧p.2.2.2.2.2.2<=67108864∧xU (iH rb) p.2.1 (rJ p.2.2.1 p.2.2.2.1 p.2.2.2.2.1 p.2.2.2.2.2.1 p.2.2.2.2.2.2%pM) p.1=xU (iH rb) s.length 0 s)
 st p:=⟨mkT [(0,.yld 0),(1,.ptr 2 1 0)],[⟨.grow,true,ofBytes rb⟩,⟨.exact,true,[.int .u64 (p.2.2.1:Nat),.int .u64 (p.2.2.2.1:Nat),.int .u64 (p.2.2.2.2.1:Nat),.int .u64 (p.2.2.2.2.2.1:Nat),.int .u64 (p.2.2.2.2.2.2:Nat),.int .u64 (r0:Nat),.int .u64 (r1:Nat),.int .u64 (r2:Nat),.int .u64 (r3:Nat),.int .u64 (r4:Nat)]⟩,⟨.exact,true,[.str p.1]⟩]⟩
 mu p:=p.2.1
noncomputable def bCs(hv:LI)(hb:LB)(rb s:LA)(r0 r1 r2 r3 r4:Nat):Env:=
 e04 smG (λi=>bif Nat.beq i 230000 then some (λ_=>[[bMm rb s r0 r1 r2 r3 r4]])else none) hv hb
noncomputable def aGn(hv:LI)(hb:LB)(rb:LA)(r0 r1 r2 r3 r4:Nat)(key s:LA)(Q:BS):Prop:=
 aT (bCs hv hb rb s r0 r1 r2 r3 r4) (wpx (bCs hv hb rb s r0 r1 r2 r3 r4) 1000) 166 [.str key,.str s] [] {} Q
abbrev aDm(s_0:LA):Bool:=Nat.beq (ofBytes s_0).length s_0.length
abbrev aU6(n_1:Int):Int:=(((n_1%256).toNat &&& 15:Nat):Int)
abbrev aE4(s_0:LA):Bool:=aP 0 (ofBytes s_0)&&true
abbrev yO(s_0:LA)(n_2:Int):HB:=aN (ofBytes s_0) 3 [.int .u8 n_2]
abbrev bDo(s_0:LA)(n_2 n_4:Int):HB:=aN (yO s_0 n_2) 7 [.int .u8 n_4]
abbrev bFi(s_0:LA)(n_2 n_4 n_6:Int):HB:=aN (aN (yO s_0 n_2) 7 [.int .u8 n_4]) 11 [.int .u8 n_6]
abbrev aZb(s_0:LA)(n_2 n_4 n_6 n_8:Int):HB:=aN (aN (aN (yO s_0 n_2) 7 [.int .u8 n_4]) 11 [.int .u8 n_6]) 15 [.int .u8 n_8]
abbrev aXc(n_9:Int):Int:=(((n_9%256).toNat &&& 252:Nat):Int)
abbrev aMr(s_0:LA):Bool:=aE4 s_0&&true&&true&&true&&true
abbrev aGp(s_0:LA)(n_2 n_4 n_6 n_8 n_10:Int):HB:=aN (aZb s_0 n_2 n_4 n_6 n_8) 4 [.int .u8 n_10]
abbrev aOv(s_0:LA)(n_2 n_4 n_6 n_8 n_10 n_12:Int):HB:=aN (aN (aZb s_0 n_2 n_4 n_6 n_8) 4 [.int .u8 n_10]) 8 [.int .u8 n_12]
abbrev aRa(s_15:LA):Prop:=s_15.length<=17∧iH s_15<1361129467683753853853498429727072845824
abbrev bQj(x_21:LA×Nat×Nat×Nat×Nat×Nat×Nat)(s rb:LA):Prop:=Lf (x_21.1.length<=x_21.2.1∧x_21.2.1<=s.length∧x_21.2.2.1<=67108864∧x_21.2.2.2.1<=67108864∧x_21.2.2.2.2.1<=67108864∧x_21.2.2.2.2.2.1<=67108864∧x_21.2.2.2.2.2.2<=67108864∧xU (iH rb) x_21.2.1 (rJ x_21.2.2.1 x_21.2.2.2.1 x_21.2.2.2.2.1 x_21.2.2.2.2.2.1 x_21.2.2.2.2.2.2%pM) x_21.1=xU (iH rb) s.length 0 s)
abbrev jX(a_16:Nat):AV:=.int .u64 (a_16:Int)
abbrev bIt(x_21:LA×Nat×Nat×Nat×Nat×Nat×Nat)(r0 r1 r2 r3 r4:Nat):HB:=[.int .u64 (x_21.2.2.1:Int),.int .u64 (x_21.2.2.2.1:Int),.int .u64 (x_21.2.2.2.2.1:Int),.int .u64 (x_21.2.2.2.2.2.1:Int),.int .u64 (x_21.2.2.2.2.2.2:Int),jX r0,jX r1,jX r2,jX r3,jX r4]
abbrev bD6:Prop:=aK (AV.yld 0)∧aK (AV.ptr 2 1 0)∧True
abbrev aMk(s_25:LA):HB:=ofBytes s_25++[AV.int .u8 1]
abbrev bEi(s_25:LA):Prop:=((aP 0 (ofBytes s_25)&&true||aP 5 (aMk s_25))&&true)=true
abbrev gI(n_32:Int)(r0:Nat):Int:=n_32*(r0:Int)
abbrev iX(s_25:LA):Prop:=((aE4 s_25||aP 6 (aMk s_25))&&true)=true
abbrev aOi(n_88:Int):Nat:=(n_88%18446744073709551616).toNat
abbrev aIv(n_88:Int):Int:=((aOi n_88 &&& 67108863:Nat):Int)
abbrev pR(n_97:Int):Int:=aIv n_97
abbrev aYb(s_76:LA):Bool:=aP 0 (ofBytes s_76)
abbrev aLu(s_76:LA):Prop:=((aYb s_76||aP 5 (ofBytes s_76))&&true)=true
abbrev aTd(n_98 n_102:Int):Int:=((aOi n_98 ||| aOi n_102:Nat):Int)
abbrev bTm(s_77:LA)(n_63:Int)(s_76:LA)(n_66 n_69 n_72 n_75:Int)(Q:BS):Prop:=∀a_78 b_79 c_80 d_81 e_82:Nat,Lf (mE (iH s_77)=[a_78,b_79,c_80,d_81,e_82])->exW .u64 (n_63+(a_78:Int)) (λn_83=>aLu s_76∧exW .u64 (n_66+(b_79:Int)) (λn_84=>aLu s_76∧exW .u64 (n_69+(c_80:Int)) (λn_85=>aLu s_76∧exW .u64 (n_72+(d_81:Int)) (λn_86=>aLu s_76∧exW .u64 (n_75+(e_82:Int)) (λn_87=>aLu s_76∧exW .u64 (n_83+0) (λn_88=>exI .u64 (Int.fdiv n_88 67108864) (λn_89=>exW .u64 (aIv n_88) (λn_90=>exW .u64 (n_90*1) (λn_91=>exW .u64 ((0 ||| aOi n_91:Nat):Int) (λn_92=>exW .u8 n_92 (λn_93=>exI .u64 (Int.fdiv n_92 256) (λn_94=>exW .u8 n_94 (λn_95=>exI .u64 (Int.fdiv n_94 256) (λn_96=>exW .u8 n_96 (λn_97=>exI .u64 (Int.fdiv n_96 256) (λn_98=>exW .u64 (n_84+n_89) (λn_99=>exI .u64 (Int.fdiv n_99 67108864) (λn_100=>exW .u64 (aIv n_99) (λn_101=>exW .u64 (n_101*4) (λn_102=>exW .u64 (aTd n_98 n_102) (λn_103=>exW .u8 n_103 (λn_104=>exI .u64 (Int.fdiv n_103 256) (λn_105=>exW .u8 n_105 (λn_106=>exI .u64 (Int.fdiv n_105 256) (λn_107=>exW .u8 n_107 (λn_108=>exI .u64 (Int.fdiv n_107 256) (λn_109=>exW .u64 (n_85+n_100) (λn_110=>exI .u64 (Int.fdiv n_110 67108864) (λn_111=>exW .u64 (aIv n_110) (λn_112=>exW .u64 (n_112*16) (λn_113=>exW .u64 (aTd n_109 n_113) (λn_114=>exW .u8 n_114 (λn_115=>exI .u64 (Int.fdiv n_114 256) (λn_116=>exW .u8 n_116 (λn_117=>exI .u64 (Int.fdiv n_116 256) (λn_118=>exW .u8 n_118 (λn_119=>exI .u64 (Int.fdiv n_118 256) (λn_120=>exW .u64 (n_86+n_111) (λn_121=>exI .u64 (Int.fdiv n_121 67108864) (λn_122=>exW .u64 (aIv n_121) (λn_123=>exW .u64 (n_123*64) (λn_124=>exW .u64 (aTd n_120 n_124) (λn_125=>exW .u8 n_125 (λn_126=>exI .u64 (Int.fdiv n_125 256) (λn_127=>exW .u8 n_127 (λn_128=>exI .u64 (Int.fdiv n_127 256) (λn_129=>exW .u8 n_129 (λn_130=>exI .u64 (Int.fdiv n_129 256) (λn_131=>exW .u8 n_131 (λn_132=>exI .u64 (Int.fdiv n_131 256) (λn_133=>exW .u64 (n_87+n_122) (λn_134=>exI .u64 (Int.fdiv n_134 67108864) (λn_135=>exW .u64 (aIv n_134) (λn_136=>exW .u64 (n_136*1) (λn_137=>exW .u64 (aTd n_133 n_137) (λn_138=>exW .u8 n_138 (λn_139=>exI .u64 (Int.fdiv n_138 256) (λn_140=>exW .u8 n_140 (λn_141=>exI .u64 (Int.fdiv n_140 256) (λn_142=>exW .u8 n_142 (λn_143=>exI .u64 (Int.fdiv n_142 256) (λn_144=>exS (.str [toB (.int .u8 n_93),toB (.int .u8 n_95),toB (.int .u8 n_97),toB (.int .u8 n_104),toB (.int .u8 n_106),toB (.int .u8 n_108),toB (.int .u8 n_115),toB (.int .u8 n_117),toB (.int .u8 n_119),toB (.int .u8 n_126),toB (.int .u8 n_128),toB (.int .u8 n_130),toB (.int .u8 n_132),toB (.int .u8 n_139),toB (.int .u8 n_141),toB (.int .u8 n_143)]) (λs_145=>Q (.ret (.str s_145)) [] (Gh.mk 0 1 []))))))))))))))))))))))))))))))))))))))))))))))))))))))))))))))))
theorem bVi(rb:LA)(r0:Nat)(r1:Nat)(r2:Nat)(r3:Nat)(r4:Nat)(key:LA)(s:LA)(Q:BS):aGn (aW [(679957,.str),(679966,.int .u8),(679967,.int .u8),(679976,
 .int .u8),(679977,.int .u8),(942085,.int .i64),(942088,.int .i64),(942089,.int .i64),(942093,.str),(872472,.int .u64),(872504,.int .u64),(872505,.int .u64),(872514,.int .u64),(872516,.int .u64),(872517,.int .u64),
 (876559,.int .u64),(876567,.int .u64),(876573,.int .u64),(876582,.int .u64),(876583,.int .u64),(876595,.int .u64),(876596,.int .u64),(876603,.int .u64),(942101,.str),(679993,.int .u64),(680002,.int .u64),(680007,.int
 .u64),(680011,.int .u64),(680019,.str),(680031,.int .u64),(680045,.int .u64),(680047,.int .u64),(680050,.int .u64),(680052,.int .u64),(680053,.int .u64),(680060,.int .u8),(680064,.int .u64),(680068,.str)]) (aV
 [(1679936000,true),(1679944192,true),(1872448000,true),(1872464384,true),(1872456192,true),(1876552192,true),(1876544000,true),(880638,true),(876542,true),(1679968768,true),(1679976960,false)]) rb r0 r1 r2 r3 r4 key s
 Q=(ckQ (Nat.ble 16 key.length) (exS (.str ((key.drop 0).take 16)) (λs_0=>ckQ (Nat.blt 3 s_0.length&&aDm s_0&&true) (ckQ (aDm s_0&&Nat.blt 3 s_0.length) (exV .u8 ((((ofBytes s_0).drop 3).take 1).getD 0 AV.undef) (λn_1=>
 exW .u8 (aU6 n_1) (λn_2=>ckQ (Nat.blt 3 s_0.length&&aDm s_0&&true) (ckQ (aDm s_0&&Nat.ble 4 s_0.length&&true&&true&&true) (((aE4 s_0||aP 1 (yO s_0 n_2))&&true)=true∧ckQ (Nat.blt 7 s_0.length&&Nat.beq
 (yO s_0 n_2).length s_0.length&&true) (ckQ (Nat.beq (yO s_0 n_2).length s_0.length&&Nat.blt 7 s_0.length) (exV .u8 ((((yO s_0 n_2).drop 7).take 1).getD 0 AV.undef) (λn_3=>exW .u8 (aU6 n_3) (λn_4=>ckQ (Nat.blt 7
 s_0.length&&Nat.beq (yO s_0 n_2).length s_0.length&&true) (ckQ (Nat.beq (yO s_0 n_2).length s_0.length&&Nat.ble 8 s_0.length&&true&&true&&true) (((aE4 s_0&&true||aP 1 (bDo s_0 n_2 n_4))&&true)=true∧ckQ
 (Nat.blt 11 s_0.length&&Nat.beq (bDo s_0 n_2 n_4).length s_0.length&&true) (ckQ (Nat.beq (bDo s_0 n_2 n_4).length s_0.length&&Nat.blt 11 s_0.length) (exV .u8 ((((bDo s_0 n_2 n_4).drop 11).take 1).getD 0 AV.undef) (λn_5=>exW
 .u8 (aU6 n_5) (λn_6=>ckQ (Nat.blt 11 s_0.length&&Nat.beq (bDo s_0 n_2 n_4).length s_0.length&&true) (ckQ (Nat.beq (bDo s_0 n_2 n_4).length s_0.length&&Nat.ble 12 s_0.length&&true&&true&&true) (((aE4 s_0&&true &&
 true||aP 1 (bFi s_0 n_2 n_4 n_6))&&true)=true∧ckQ (Nat.blt 15 s_0.length&&Nat.beq (bFi s_0 n_2 n_4 n_6).length s_0.length&&true) (ckQ (Nat.beq (bFi s_0 n_2 n_4 n_6).length s_0.length&&Nat.blt 15 s_0.length) (exV .u8
 ((((bFi s_0 n_2 n_4 n_6).drop 15).take 1).getD 0 AV.undef) (λn_7=>exW .u8 (aU6 n_7) (λn_8=>ckQ (Nat.blt 15 s_0.length&&Nat.beq (bFi s_0 n_2 n_4 n_6).length s_0.length&&true) (ckQ (Nat.beq (bFi s_0 n_2 n_4 n_6).length
 s_0.length&&Nat.ble 16 s_0.length&&true&&true&&true) (((aE4 s_0&&true&&true&&true||aP 1 (aZb s_0 n_2 n_4 n_6 n_8))&&true)=true∧ckQ (Nat.blt 4 s_0.length&&Nat.beq (aZb s_0 n_2 n_4 n_6 n_8).length s_0.length &&
 true) (ckQ (Nat.beq (aZb s_0 n_2 n_4 n_6 n_8).length s_0.length&&Nat.blt 4 s_0.length) (exV .u8 ((((aZb s_0 n_2 n_4 n_6 n_8).drop 4).take 1).getD 0 AV.undef) (λn_9=>exW .u8 (aXc n_9) (λn_10=>ckQ (Nat.blt 4 s_0.length &&
 Nat.beq (aZb s_0 n_2 n_4 n_6 n_8).length s_0.length&&true) (ckQ (Nat.beq (aZb s_0 n_2 n_4 n_6 n_8).length s_0.length&&Nat.ble 5 s_0.length&&true&&true&&true) (((aMr s_0||aP 1 (aGp s_0 n_2 n_4 n_6 n_8 n_10))&&true) =
 true∧ckQ (Nat.blt 8 s_0.length&&Nat.beq (aGp s_0 n_2 n_4 n_6 n_8 n_10).length s_0.length&&true) (ckQ (Nat.beq (aGp s_0 n_2 n_4 n_6 n_8 n_10).length s_0.length&&Nat.blt 8 s_0.length) (exV .u8 ((((aGp s_0 n_2 n_4 n_6 n_8
 n_10).drop 8).take 1).getD 0 AV.undef) (λn_11=>exW .u8 (aXc n_11) (λn_12=>ckQ (Nat.blt 8 s_0.length&&Nat.beq (aGp s_0 n_2 n_4 n_6 n_8 n_10).length s_0.length&&true) (ckQ (Nat.beq (aGp s_0 n_2 n_4 n_6 n_8 n_10).length
 s_0.length&&Nat.ble 9 s_0.length&&true&&true&&true) (((aMr s_0&&true||aP 1 (aOv s_0 n_2 n_4 n_6 n_8 n_10 n_12))&&true)=true∧ckQ (Nat.blt 12 s_0.length&&Nat.beq (aOv s_0 n_2 n_4 n_6 n_8 n_10 n_12).length s_0.length
 && true) (ckQ (Nat.beq (aOv s_0 n_2 n_4 n_6 n_8 n_10 n_12).length s_0.length&&Nat.blt 12 s_0.length) (exV .u8 ((((aOv s_0 n_2 n_4 n_6 n_8 n_10 n_12).drop 12).take 1).getD 0 AV.undef) (λn_13=>exW .u8 (aXc n_13) (λn_14=>ckQ
 (Nat.blt 12 s_0.length&&Nat.beq (aOv s_0 n_2 n_4 n_6 n_8 n_10 n_12).length s_0.length&&true) (ckQ (Nat.beq (aOv s_0 n_2 n_4 n_6 n_8 n_10 n_12).length s_0.length&&Nat.ble 13 s_0.length&&true&&true&&true) (((aMr s_0&&true
 && true||aP 1 (aN (aOv s_0 n_2 n_4 n_6 n_8 n_10 n_12) 12 [.int .u8 n_14]))&&true)=true∧ckQ (Nat.beq (aN (aOv s_0 n_2 n_4 n_6 n_8 n_10 n_12) 12 [.int .u8 n_14]).length s_0.length&&Nat.ble (0+s_0.length*1)
 s_0.length&&true) (∃s_15:LA,Lf (List.map (λ(x_16:AV)=>bU 1 [Blk.mk BK.grow (aMr s_0&&true&&true) (aN (aOv s_0 n_2 n_4 n_6 n_8 n_10 n_12) 12 [.int .u8 n_14])] 8 x_16) (((aN (aOv s_0 n_2 n_4 n_6 n_8
 n_10 n_12) 12 [.int .u8 n_14]).drop 0).take (s_0.length*1))=ofBytes s_15∧s_0.length=s_15.length∧aRa s_15)∧∀a_16 b_17 c_18 d_19 e_20:Nat,Lf (mE (iH s_15)=[a_16,b_17,c_18,d_19,e_20])->(∃x_21:LA×Nat ×
 Nat×Nat×Nat×Nat×Nat,bQj x_21 s rb∧ckQ ((aMr s_0&&true&&true)==true) (aN (aOv s_0 n_2 n_4 n_6 n_8 n_10 n_12) 12 [.int .u8 n_14]=ofBytes rb∧[AV.int .u64 0,.int .u64 0,.int .u64 0,.int .u64 0,.int .u64 0,
 jX a_16,jX b_17,jX c_18,jX d_19,jX e_20]=bIt x_21 r0 r1 r2 r3 r4∧[AV.str s]=[AV.str x_21.1]∧bD6))∧∀x_21:LA×Nat×Nat×Nat×Nat×Nat×Nat,bQj x_21 s rb->exI .i64 (x_21.1.length:Int) (fun
 n_22=>bif decide (n_22>0)then exI .i64 (x_21.1.length:Int) (λn_23=>exI .i64 (aR2 n_23 16) (λn_24=>ckQ (decide (0<=n_24)&&true&&Nat.ble n_24.toNat x_21.1.length) (exS (.str ((x_21.1.drop 0).take (n_24.toNat-0)))
 (λs_25=>ckQ (aDm s_25&&true&&Nat.beq (0+s_25.length*1) s_25.length&&Nat.ble (s_25.length+1) 1099511627776&&Nat.ble ((s_25.length+1)*1) 1099511627776) (ckQ (Nat.beq (aMk s_25).length (s_25.length+1)&&Nat.ble
 (0+(s_25.length+1)*1) (s_25.length+1)&&true) (∃s_26:LA,Lf (List.map (λ(x_27:AV)=>bU 1 [Blk.mk BK.grow true (ofBytes rb),Blk.mk BK.exact true [.int .u64 (x_21.2.2.1:Int),.int .u64 (x_21.2.2.2.1:Int),
 .int .u64 (x_21.2.2.2.2.1:Int),.int .u64 (x_21.2.2.2.2.2.1:Int),.int .u64 (x_21.2.2.2.2.2.2:Int),jX r0,jX r1,jX r2,jX r3,jX r4],Blk.mk BK.exact true [.str x_21.1],Blk.mk BK.grow (aE4 s_25) (aMk s_25),Blk.mk
 BK.exact true [.int .u8 1]] 8 x_27) (((aMk s_25).drop 0).take ((s_25.length+1)*1))=ofBytes s_26∧s_25.length+1=s_26.length∧aRa s_26)∧∀a_27 b_28 c_29 d_30 e_31:Nat,Lf (mE (iH s_26)=[a_27,b_28,c_29,d_30,
 e_31])->exW .u64 ((x_21.2.2.1:Int)+(a_27:Int)) (λn_32=>bEi s_25∧exW .u64 ((x_21.2.2.2.1:Int)+(b_28:Int)) (λn_33=>bEi s_25∧exW .u64 ((x_21.2.2.2.2.1:Int)+(c_29:Int)) (λn_34=>bEi s_25∧exW .u64
 ((x_21.2.2.2.2.2.1:Int)+(d_30:Int)) (λn_35=>bEi s_25∧exW .u64 ((x_21.2.2.2.2.2.2:Int)+(e_31:Int)) (λn_36=>bEi s_25∧exW .u64 (gI n_32 r0) (λn_37=>exW .u64 (0+n_37) (λn_38=>iX s_25∧exW .u64
 (gI n_32 r1) (λn_39=>exW .u64 (0+n_39) (λn_40=>iX s_25∧exW .u64 (gI n_32 r2) (λn_41=>exW .u64 (0+n_41) (λn_42=>iX s_25∧exW .u64 (gI n_32 r3) (λn_43=>exW .u64 (0+n_43) (λn_44=>iX s_25 ∧
 exW .u64 (gI n_32 r4) (λn_45=>exW .u64 (0+n_45) (λn_46=>iX s_25∧iX s_25∧exW .u64 (gI n_33 r0) (λn_47=>exW .u64 (n_40+n_47) (λn_48=>iX s_25∧exW .u64 (gI n_33 r1) (λn_49=>exW .u64 (n_42 +
 n_49) (λn_50=>iX s_25∧exW .u64 (gI n_33 r2) (λn_51=>exW .u64 (n_44+n_51) (λn_52=>iX s_25∧exW .u64 (gI n_33 r3) (λn_53=>exW .u64 (n_46+n_53) (λn_54=>iX s_25∧exW .u64 (5*n_33) (λn_55=>exW
 .u64 (gI n_55 r4) (λn_56=>exW .u64 (n_38+n_56) (λn_57=>iX s_25∧iX s_25∧exW .u64 (gI n_34 r0) (λn_58=>exW .u64 (n_50+n_58) (λn_59=>iX s_25∧exW .u64 (gI n_34 r1) (λn_60=>exW .u64 (n_52 +
 n_60) (λn_61=>iX s_25∧exW .u64 (gI n_34 r2) (λn_62=>exW .u64 (n_54+n_62) (λn_63=>iX s_25∧exW .u64 (5*n_34) (λn_64=>exW .u64 (gI n_64 r3) (λn_65=>exW .u64 (n_57+n_65) (λn_66=>iX s_25∧exW
 .u64 (5*n_34) (λn_67=>exW .u64 (gI n_67 r4) (λn_68=>exW .u64 (n_48+n_68) (λn_69=>iX s_25∧iX s_25∧exW .u64 (gI n_35 r0) (λn_70=>exW .u64 (n_61+n_70) (λn_71=>iX s_25∧exW .u64 (gI n_35 r1)
 (λn_72=>exW .u64 (n_63+n_72) (λn_73=>iX s_25∧exW .u64 (5*n_35) (λn_74=>exW .u64 (gI n_74 r2) (λn_75=>exW .u64 (n_66+n_75) (λn_76=>iX s_25∧exW .u64 (5*n_35) (λn_77=>exW .u64 (gI n_77 r3)
 (λn_78=>exW .u64 (n_69+n_78) (λn_79=>iX s_25∧exW .u64 (5*n_35) (λn_80=>exW .u64 (gI n_80 r4) (λn_81=>exW .u64 (n_59+n_81) (λn_82=>iX s_25∧iX s_25∧exW .u64 (gI n_36 r0) (λn_83=>exW .u64
 (n_73+n_83) (λn_84=>iX s_25∧exW .u64 (5*n_36) (λn_85=>exW .u64 (gI n_85 r1) (λn_86=>exW .u64 (n_76+n_86) (λn_87=>iX s_25∧exW .u64 (5*n_36) (λn_88=>exW .u64 (gI n_88 r2) (λn_89=>exW .u64
 (n_79+n_89) (λn_90=>iX s_25∧exW .u64 (5*n_36) (λn_91=>exW .u64 (gI n_91 r3) (λn_92=>exW .u64 (n_82+n_92) (λn_93=>iX s_25∧exW .u64 (5*n_36) (λn_94=>exW .u64 (gI n_94 r4) (λn_95=>exW .u64
 (n_71+n_95) (λn_96=>iX s_25∧iX s_25∧exW .u64 (n_87+0) (λn_97=>exI .u64 (Int.fdiv n_97 67108864) (λn_98=>exW .u64 (pR n_97) (λn_99=>iX s_25∧exW .u64 (n_90+n_98) (λn_100=>exI .u64 (Int.fdiv n_100
 67108864) (λn_101=>exW .u64 (pR n_100) (λn_102=>iX s_25∧exW .u64 (n_93+n_101) (λn_103=>exI .u64 (Int.fdiv n_103 67108864) (λn_104=>exW .u64 (pR n_103) (λn_105=>iX s_25∧exW .u64 (n_96+n_104) (fun
 n_106=>exI .u64 (Int.fdiv n_106 67108864) (λn_107=>exW .u64 (pR n_106) (λn_108=>iX s_25∧exW .u64 (n_84+n_107) (λn_109=>exI .u64 (Int.fdiv n_109 67108864) (λn_110=>exW .u64 (pR n_109) (λn_111=>iX s_25
 ∧ exW .u64 (5*n_110) (λn_112=>exW .u64 (n_99+n_112) (λn_113=>iX s_25∧exW .u64 (n_113+0) (λn_114=>exI .u64 (Int.fdiv n_114 67108864) (λn_115=>exW .u64 (pR n_114) (λn_116=>iX s_25∧exW .u64 (n_102 +
 n_115) (λn_117=>exI .u64 (Int.fdiv n_117 67108864) (λn_118=>exW .u64 (pR n_117) (λn_119=>iX s_25∧exW .u64 (n_105+n_118) (λn_120=>exI .u64 (Int.fdiv n_120 67108864) (λn_121=>exW .u64 (pR n_120) (λn_122
 => iX s_25∧exW .u64 (n_108+n_121) (λn_123=>exI .u64 (Int.fdiv n_123 67108864) (λn_124=>exW .u64 (pR n_123) (λn_125=>iX s_25∧exW .u64 (n_111+n_124) (λn_126=>exI .u64 (Int.fdiv n_126 67108864) (λn_127=>
 exW .u64 (pR n_126) (λn_128=>iX s_25∧exW .u64 (5*n_127) (λn_129=>exW .u64 (n_116+n_129) (λn_130=>iX s_25∧exI .u64 (Int.fdiv n_130 67108864) (λn_131=>exW .u64 (n_119+n_131) (λn_132=>exW .u64 (pR
 n_130) (λn_133=>iX s_25∧bEi s_25∧ckQ (decide (0<=n_24)&&true&&Nat.ble n_24.toNat x_21.1.length&&Nat.ble x_21.1.length x_21.1.length) (exS (.str ((x_21.1.drop n_24.toNat).take (x_21.1.length-n_24.toNat))) (λs_134=>
 (aK [Lp.mk 0 (T.n (T.n (T.n (T.n (T.n T.e .undef (T.n T.e (.fn (Fn.func 230) [] [.ptr 2 1 0]) T.e)) (.int .i64 16) T.e) .undef (T.n T.e .undef (T.n (T.n T.e (.sl 0 s_0.length 0 s_0.length 1) T.e) .undef T.e))) (.str s) (T.n (T.n (T.n
 (T.n T.e (.int .i64 16) T.e) .undef T.e) .undef T.e) (.sl 0 s_0.length 0 s_0.length 1) (T.n T.e .undef (T.n (T.n T.e (.agg [.int .u64 0,.int .u64 0,.int .u64 0,.int .u64 0,.int .u64 0,jX a_16,jX b_17,jX c_18,jX d_19,jX
 e_20]) T.e) .undef T.e)))) (.str key) (T.n (T.n (T.n T.e (.ptr 1 10 0) T.e) (.str []) (T.n T.e .undef (T.n (T.n T.e (.agg [jX a_16,jX b_17,jX c_18,jX d_19,jX e_20]) T.e) .undef T.e))) .undef (T.n (T.n (T.n (T.n T.e (.bool
 false) T.e) .undef T.e) .undef T.e) .undef (T.n T.e .undef (T.n (T.n T.e (.str s) T.e) .undef T.e))))) [48] (AC.region [AOper.mk (Option.some (9:Nat)) (AOp.mv (AO.t 48)) Option.none 0 0]) (AC.block 5 (AC.region [AOper.mk (Option.some (49
 : Nat)) (AOp.mv (AO.t 9)) Option.none 0 0,AOper.mk (Option.some (50:Nat)) (AOp.call (AO.c (.fn (Fn.func 213) [] [])) [AO.t 8,AO.t 49]) Option.none 0 0])) Lst.ready 166]∧(1:Nat)=(1:Nat))∧∃y_135:LA×Nat×Nat×Nat
 × Nat×Nat×Nat,bQj y_135 s rb∧y_135.2.1<x_21.2.1∧aK (ofBytes rb)∧[AV.int .u64 n_133,.int .u64 n_132,.int .u64 n_122,.int .u64 n_125,.int .u64 n_128,jX r0,jX r1,jX r2,jX r3,jX r4]=bIt y_135 r0 r1 r2 r3
 r4∧[AV.str s_134]=[AV.str y_135.1]∧bD6))))))))))))))))))))))))))))))))))))))))))))))))))))))))))))))))))))))))))))))))))))))))))))))))))))))))))))))else exW .u64 ((x_21.2.2.1:Int)+0) (λn_23=>exI .u64 (Int.fdiv n_23
 67108864) (λn_24=>exW .u64 (pR n_23) (λn_25=>true=true∧exW .u64 ((x_21.2.2.2.1:Int)+n_24) (λn_26=>exI .u64 (Int.fdiv n_26 67108864) (λn_27=>exW .u64 (pR n_26) (λn_28=>true=true∧exW .u64
 ((x_21.2.2.2.2.1:Int)+n_27) (λn_29=>exI .u64 (Int.fdiv n_29 67108864) (λn_30=>exW .u64 (pR n_29) (λn_31=>true=true∧exW .u64 ((x_21.2.2.2.2.2.1:Int)+n_30) (λn_32=>exI .u64 (Int.fdiv n_32 67108864) (λn_33
 => exW .u64 (pR n_32) (λn_34=>true=true∧exW .u64 ((x_21.2.2.2.2.2.2:Int)+n_33) (λn_35=>exI .u64 (Int.fdiv n_35 67108864) (λn_36=>exW .u64 (pR n_35) (λn_37=>true=true∧exW .u64 (5*n_36) (λn_38=>exW
 .u64 (n_25+n_38) (λn_39=>true=true∧exW .u64 (n_39+0) (λn_40=>exI .u64 (Int.fdiv n_40 67108864) (λn_41=>exW .u64 (pR n_40) (λn_42=>true=true∧exW .u64 (n_28+n_41) (λn_43=>exI .u64 (Int.fdiv n_43
 67108864) (λn_44=>exW .u64 (pR n_43) (λn_45=>true=true∧exW .u64 (n_31+n_44) (λn_46=>exI .u64 (Int.fdiv n_46 67108864) (λn_47=>exW .u64 (pR n_46) (λn_48=>true=true∧exW .u64 (n_34+n_47) (λn_49=>
 exI .u64 (Int.fdiv n_49 67108864) (λn_50=>exW .u64 (pR n_49) (λn_51=>true=true∧exW .u64 (n_37+n_50) (λn_52=>exI .u64 (Int.fdiv n_52 67108864) (λn_53=>exW .u64 (pR n_52) (λn_54=>true=true∧exW .u64 (5 *
 n_53) (λn_55=>exW .u64 (n_42+n_55) (λn_56=>true=true∧exI .u64 (Int.fdiv n_56 67108864) (λn_57=>exW .u64 (n_45+n_57) (λn_58=>exW .u64 (pR n_56) (λn_59=>true=true∧exW .u64 (n_59+5) (λn_60=>exW
 .u64 (n_60+0) (λn_61=>exI .u64 (Int.fdiv n_61 67108864) (λn_62=>exW .u64 (pR n_61) (λn_63=>exW .u64 (n_58+n_62) (λn_64=>exI .u64 (Int.fdiv n_64 67108864) (λn_65=>exW .u64 (pR n_64) (λn_66=>exW .u64
 (n_48+n_65) (λn_67=>exI .u64 (Int.fdiv n_67 67108864) (λn_68=>exW .u64 (pR n_67) (λn_69=>exW .u64 (n_51+n_68) (λn_70=>exI .u64 (Int.fdiv n_70 67108864) (λn_71=>exW .u64 (pR n_70) (λn_72=>exW .u64 (n_54
 + n_71) (λn_73=>exI .u64 (Int.fdiv n_73 67108864) (λn_74=>exW .u64 (pR n_73) (λn_75=>bif decide (n_74>0)then ckQ (Nat.ble 16 key.length&&Nat.ble key.length key.length) (exS (.str ((key.drop 16).take (key.length -
 16))) (λs_76=>ckQ (aDm s_76&&Nat.ble (0+s_76.length*1) s_76.length&&true) (∃s_77:LA,Lf (List.map (λ(x_78:AV)=>bU 1 [Blk.mk BK.grow true (ofBytes rb),Blk.mk BK.exact true [.int .u64 n_63,.int .u64 n_66,
 .int .u64 n_69,.int .u64 n_72,.int .u64 n_75,jX r0,jX r1,jX r2,jX r3,jX r4],Blk.mk BK.exact true [.str x_21.1],Blk.mk BK.exact true [.int .u64 n_63,.int .u64 n_66,.int .u64 n_69,.int .u64 n_72,.int .u64 n_75],Blk.mk
 BK.grow (aYb s_76) (ofBytes s_76)] 8 x_78) (((ofBytes s_76).drop 0).take (s_76.length*1))=ofBytes s_77∧s_76.length=s_77.length∧aRa s_77)∧bTm s_77 n_63 s_76 n_66 n_69 n_72 n_75 Q)))else ckQ (Nat.ble 16 key.length &&
 Nat.ble key.length key.length) (exS (.str ((key.drop 16).take (key.length-16))) (λs_76=>ckQ (aDm s_76&&Nat.ble (0+s_76.length*1) s_76.length&&true) (∃s_77:LA,Lf (List.map (λ(x_78:AV)=>bU 1 [Blk.mk
 BK.grow true (ofBytes rb),Blk.mk BK.exact true [.int .u64 n_59,.int .u64 n_58,.int .u64 n_48,.int .u64 n_51,.int .u64 n_54,jX r0,jX r1,jX r2,jX r3,jX r4],Blk.mk BK.exact true [.str x_21.1],Blk.mk BK.exact true [.int
 .u64 n_63,.int .u64 n_66,.int .u64 n_69,.int .u64 n_72,.int .u64 n_75],Blk.mk BK.grow (aYb s_76) (ofBytes s_76)] 8 x_78) (((ofBytes s_76).drop 0).take (s_76.length*1))=ofBytes s_77∧s_76.length=s_77.length∧aRa s_77) ∧
 bTm s_77 n_59 s_76 n_58 n_48 n_51 n_54 Q))))))))))))))))))))))))))))))))))))))))))))))))))))))))))))))))))))))))))))))))))))))))))))))))))))))):=by kernel_rfl

end Go.Proofs.YtnhechnaemmdiaaGreatDoor
