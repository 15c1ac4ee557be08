/-
  Chapter 23: short, Check.
-/
import Derived.Test.YtnhechnaemmdiaaGreatDoorKnC
set_option linter.unusedSimpArgs false
set_option linter.unusedVariables false
namespace Go.Proofs.YtnhechnaemmdiaaGreatDoor.Md
open Go.RowKit
set_option maxRecDepth 1000000

abbrev Xt:=Int×LA
def cellsXM:List Xt->HB
 | []=>[]
 | x::l=>.int .i64 x.1::.str x.2::cellsXM l
def isLongM(x:Xt):Bool:=decide (x.1>14)||decide ((x.2.length:Int)=0)||decide ((x.2.length:Int)>16)
def shortM(l:List Xt):Bool := !l.any isLongM
theorem fA:∀l,(cellsXM l).length=2*l.length
 | []=>rfl
 | x::l=>by simp[cellsXM,fA l];omega
theorem yB:∀ (l:List Xt) (i:Nat),(cellsXM l).drop (2*i)=cellsXM (l.drop i)
 | l,0=>rfl
 | [],i+1=>by simp[cellsXM]
 | x::l,i+1=>by
  rw[show 2*(i+1)=2*i+2 by omega,cellsXM,bZm,bZm,yB l i,bZm]
theorem yD{l:List Xt}{i m:Nat}(hi:i<l.length)(hm:m=2*i):List.take 2 (List.drop m (cellsXM l))=[.int .i64 l[i].1,.str l[i].2]:=by
 subst hm
 rw[yB,bZe hi]
 rfl
theorem bKw{l:List Xt}{i m:Nat}(hi:i<l.length)(hm:m=i*2){K:Int->LA->Prop}(hk:K l[i].1 l[i].2):∃ (n:Int) (s:LA),AV.agg (List.take 2 (List.drop m (cellsXM l)))=AV.agg [AV.int .i64 n,AV.str s]∧K n s:=
 ⟨_,_,by rw[yD hi (by omega)],hk⟩

def bL3(t:Nat)(ex:List Xt):LInv where
 α:=Nat
 pre i:=Lf (i<=ex.length∧(ex.take i).any isLongM=false)
 st i:=⟨mkT [(0,.lst t (cellsXM ex) ex.length 2),(1,.fn (.func 178) [] []),(7,.int .i64 ex.length),(8,.int .i64 (i:Nat))],[]⟩
 mu i:=ex.length-i
noncomputable def bBr(hv:LI)(hb:LB)(t:Nat)(ex:List Xt):Env:=e23 sm0 (λi=>bif Nat.beq i 222000 then some (λ_=>[[bL3 t ex]])else none) hv hb
noncomputable def xJ(hv:LI)(hb:LB)(t:Nat)(ex:List Xt)(Q:BS):Prop:=
 aT (bBr hv hb t ex) (wpx (bBr hv hb t ex) 1000) 134 [.lst t (cellsXM ex) ex.length 2] [] {} Q
abbrev bRu(x_1:Nat)(ex:List Xt):Prop:=Lf (x_1<=ex.length∧List.any (ex.take x_1) isLongM=false)
abbrev bDy(t:Nat)(ex:List Xt):Prop:=aK (AV.lst t (cellsXM ex) ex.length 2)
abbrev bCi(ex:List Xt):AV:=.int .i64 (ex.length:Int)
abbrev bRa(n_2:Int)(Q:BS):Prop:=bif decide (n_2≥0)then Q (.ret (.bool false)) [] {}else Q (.ret (.bool true)) [] {}
abbrev bRq:Prop:=True∧(0:Nat)=(0:Nat)
theorem bEf(t:Nat)(ex:List Xt)(Q:BS):xJ (aW [(909319,.int .i64),(909322,.int .i64),(909327,.agg [(.int .i64),(.str)]),(729097,.int .i64),(729103,.int .i64),(909330,.int .i64)]) (aV []) t ex Q=(exI .i64 (ex.length:Int) (λn_0=>(∃x_1:Nat,bRu x_1 ex∧bDy t ex∧aK (AV.fn (Fn.func 178) [] [])∧AV.int .i64 n_0=bCi ex∧AV.int .i64 0=AV.int .i64 (x_1:Int)∧True)∧∀x_1:Nat,bRu x_1 ex->bif decide ((x_1:Int)<(ex.length:Int))then exI .i64 (x_1:Int) (λn_2=>ckQ (decide (0<=n_2)&&Nat.blt n_2.toNat ex.length&&true) (ckQ (Nat.ble (n_2.toNat*2+2) (cellsXM ex).length) (∃n_3 s_4,AV.agg (((cellsXM ex).drop (n_2.toNat*2)).take 2)=AV.agg [.int .i64 n_3,.str s_4]∧bif decide (n_3>14)then bRa n_2 Q else exI .i64 (s_4.length:Int) (λn_5=>bif n_5==0 then bRa n_2 Q else exI .i64 (s_4.length:Int) (λn_6=>bif decide (n_6>16)then bRa n_2 Q else exW .i64 ((x_1:Int)+1) (λn_7=>bRq∧∃y_8:Nat,bRu y_8 ex∧ex.length-y_8<ex.length-x_1∧bDy t ex∧aK (AV.fn (Fn.func 178) [] [])∧aK (bCi ex)∧AV.int .i64 n_7=AV.int .i64 (y_8:Int)∧True))))))else Q (.ret (.bool true)) [] {})):=by kernel_rfl

def smF:SM:=gG [(176,aJ2)]
theorem bOf:∀f g,smF f=some g->aI Tryz.prog gl0 f g:=bO _ (by simp only[bXd,bXn,bY0,bY4];exact aRm)
def extsOkM:Int->List Xt->Bool
 | _,[]=>true
 | last,x::l=>decide (last<x.1∧x.1<=255∧x.2.length<=255)&&extsOkM x.1 l
def jW(mk:Bool)(ty seq ti ss:Int)(tc:Nat)(cs:QT)(tx:Nat)(ex:List Xt)(pad:Int)(pl:LA):HB:=[.bool mk,.int .i64 ty,.int .i64 seq,.int .i64 ti,.int .i64 ss,.lst tc (aA cs) cs.length 1,.lst tx (cellsXM ex) ex.length 2,.int .i64 pad,.str pl]
def flagsM(ty seq ti ss:Int)(cs:QT)(n:Nat)(pad:Int):Bool:=decide (0<=ty∧ty<=127∧0<=seq∧seq<=65535∧0<=ti∧ti<4294967296∧0<=ss∧ss<4294967296∧(∀x∈cs,0<=x∧x<4294967296)∧0<=pad∧pad<=255∧cs.length<=15∧n<=16)
def aX2(mk:Bool)(ty seq ti ss:Int)(tc:Nat)(cs:QT)(tx:Nat)(ex:List Xt)(pad:Int)(pl:LA):LInv where
 α:=Nat×Bool
 pre p:=Lf (p.1<=ex.length∧p.2=(flagsM ty seq ti ss cs ex.length pad&&extsOkM 0 (ex.take p.1)))
 st p:=⟨mkT [(1,.ptr 0 9 0),(3,.bool p.2),(48,.lst tx (cellsXM ex) ex.length 2),(49,.int .i64 ex.length),(50,.int .i64 (p.1:Nat))],[⟨.exact,true,(jW mk ty seq ti ss tc cs tx ex pad pl)⟩]⟩
 mu p:=ex.length-p.1
noncomputable def aKt(hv:LI)(hb:LB)(mk:Bool)(ty seq ti ss:Int)(tc:Nat)(cs:QT)(tx:Nat)(ex:List Xt)(pad:Int)(pl:LA):Env := { e23 smF (λi=>bif Nat.beq i 132000 then some (λ_=>[[aX2 mk ty seq ti ss tc cs tx ex pad pl]])else none) hv hb with hz:=λk=>Nat.beq k 540680||Nat.beq k 540685||Nat.beq k 540693||Nat.beq k 540704 }
noncomputable def wM(hv:LI)(hb:LB)(mk:Bool)(ty seq ti ss:Int)(tc:Nat)(cs:QT)(tx:Nat)(ex:List Xt)(pad:Int)(pl:LA)(Q:BS):Prop:=
 aT (aKt hv hb mk ty seq ti ss tc cs tx ex pad pl) (wpx (aKt hv hb mk ty seq ti ss tc cs tx ex pad pl) 1000) 132 [.agg (jW mk ty seq ti ss tc cs tx ex pad pl)] [] {} Q
abbrev bOs(x_0:Nat×Bool)(ex:List Xt)(ty seq ti ss:Int)(cs:QT)(pad:Int):Prop:=Lf (x_0.1<=ex.length∧x_0.2=(flagsM ty seq ti ss cs ex.length pad&&extsOkM 0 (ex.take x_0.1)))
abbrev bHl(xs_5:QT):Prop:=xs_5.length<=4611686018427387904
abbrev bQq(mk:Bool)(ty seq ti ss:Int)(tc:Nat)(cs:QT)(tx:Nat)(ex:List Xt)(pad:Int)(pl:LA):Prop:=aK [AV.bool mk,.int .i64 ty,.int .i64 seq,.int .i64 ti,.int .i64 ss,.lst tc (aA cs) cs.length 1,.lst tx (cellsXM ex) ex.length 2,.int .i64 pad,.str pl]
abbrev aRz:Prop:=aK (AV.ptr 0 9 0)
abbrev bVw(x_0:Nat×Bool)(ex:List Xt)(ty seq ti ss:Int)(cs:QT)(pad:Int)(mk:Bool)(tc tx:Nat)(pl:LA):Prop:=exW .i64 ((x_0.1:Int)+1) (λn_6=>bRq∧∃y_7:Nat×Bool,Lf (y_7.1<=ex.length∧y_7.2=(flagsM ty seq ti ss cs ex.length pad&&extsOkM 0 (ex.take y_7.1)))∧ex.length-y_7.1<ex.length-x_0.1∧bQq mk ty seq ti ss tc cs tx ex pad pl∧aRz∧AV.bool true=AV.bool y_7.2∧aK (bCi ex)∧aK (AV.lst tx (cellsXM ex) ex.length 2)∧AV.int .i64 n_6=AV.int .i64 (y_7.1:Int)∧True)
abbrev bRs(x_0:Nat×Bool)(ex:List Xt)(ty seq ti ss:Int)(cs:QT)(pad:Int)(mk:Bool)(tc tx:Nat)(pl:LA):Prop:=exW .i64 ((x_0.1:Int)+1) (λn_8=>bRq∧∃y_9:Nat×Bool,bOs y_9 ex ty seq ti ss cs pad∧ex.length-y_9.1<ex.length-x_0.1∧aK [AV.bool mk,.int .i64 ty,.int .i64 seq,.int .i64 ti,.int .i64 ss,.lst tc (aA cs) cs.length 1,.lst tx (cellsXM ex) ex.length 2,.int .i64 pad,.str pl]∧aRz∧AV.bool false=AV.bool y_9.2∧aK (bCi ex)∧bDy tx ex∧AV.int .i64 n_8=AV.int .i64 (y_9.1:Int)∧True)
def wF(mk:Bool)(ty:Int)(seq:Int)(ti:Int)(ss:Int)(tc:Nat)(cs:QT)(tx:Nat)(ex:List Xt)(pad:Int)(pl:LA)(Q:BS):Prop:=
∀x_0:Nat×Bool,bOs x_0 ex ty seq ti ss cs pad->bif decide ((x_0.1:Int)<(ex.length:Int))then exI .i64 (x_0.1:Int) (λn_1=>ckQ (Nat.blt (x_0.1:Int).toNat ex.length&&true) (ckQ (Nat.ble ((x_0.1:Int).toNat*2+2) (cellsXM ex).length) (∃n_2 s_3,AV.agg (((cellsXM ex).drop ((x_0.1:Int).toNat*2)).take 2)=AV.agg [.int .i64 n_2,.str s_3]∧bif x_0.2 then exI .i64 (s_3.length:Int) (λn_4=>∃xs_5:QT,Lf ([AV.int .i64 n_2,.int .i64 n_4]=aA xs_5∧2=xs_5.length∧(0:Int)<=(8:Int)∧bHl xs_5)∧bif !List.any xs_5 (eD 8)then bif decide (n_2>0)then bif n_1==0 then bVw x_0 ex ty seq ti ss cs pad mk tc tx pl else exW .i64 (n_1-1) (λn_6=>ckQ (decide (0<=n_6)&&Nat.blt n_6.toNat ex.length&&true) (ckQ (Nat.blt (n_6.toNat*2+0) (cellsXM ex).length) (exV .i64 ((cellsXM ex).getD (n_6.toNat*2+0) AV.undef) (λn_7=>bif decide (n_2>n_7)then bVw x_0 ex ty seq ti ss cs pad mk tc tx pl else bRs x_0 ex ty seq ti ss cs pad mk tc tx pl))))else bRs x_0 ex ty seq ti ss cs pad mk tc tx pl else bRs x_0 ex ty seq ti ss cs pad mk tc tx pl)else bRs x_0 ex ty seq ti ss cs pad mk tc tx pl)))else bif x_0.2 then Q (.ret (.int .i64 0)) [] {}else Q (.ret (.int .i64 230)) [] {}
def nQ(mk:Bool)(ty:Int)(seq:Int)(ti:Int)(ss:Int)(tc:Nat)(cs:QT)(tx:Nat)(ex:List Xt)(pad:Int)(pl:LA)(Q:BS):Prop:=
exI .i64 (ex.length:Int) (λn_0=>(∃x_1:Nat×Bool,bOs x_1 ex ty seq ti ss cs pad∧bQq mk ty seq ti ss tc cs tx ex pad pl∧aRz∧AV.bool false=AV.bool x_1.2∧AV.int .i64 n_0=bCi ex∧bDy tx ex∧AV.int .i64 0=AV.int .i64 (x_1.1:Int)∧True)∧wF mk ty seq ti ss tc cs tx ex pad pl Q)
theorem bJs(mk:Bool)(ty:Int)(seq:Int)(ti:Int)(ss:Int)(tc:Nat)(cs:QT)(tx:Nat)(ex:List Xt)(pad:Int)(pl:LA)(Q:BS):wM (aW [(540710,.int .i64),(540716,
 .int .i64),(540721,.int .i64),(540724,.int .i64),(540726,.agg [(.int .i64),(.str)]),(540733,.int .i64),(540758,.int .i64),(540751,.int .i64),(540754,.int .i64)]) (aV []) mk ty seq ti ss tc cs tx ex pad pl Q=(∃xs_0 :
 QT,Lf ([AV.int .i64 ty]=aA xs_0∧1=xs_0.length∧(0:Int)<=(7:Int)∧bHl xs_0)∧bif !List.any xs_0 (eD 7)then ∃xs_1:QT,Lf ([AV.int .i64 seq]=aA xs_1∧1=xs_1.length∧(0:Int)<=(16:Int) ∧
 bHl xs_1)∧bif !List.any xs_1 (eD 16)then ∃xs_2:QT,Lf ([AV.int .i64 ti,.int .i64 ss]=aA xs_2∧2=xs_2.length∧(0:Int)<=(32:Int)∧bHl xs_2)∧bif !List.any xs_2 (eD 32)then ∃xs_3:QT,Lf
 (aA cs=aA xs_3∧cs.length=xs_3.length∧(0:Int)<=(32:Int)∧bHl xs_3)∧bif !List.any xs_3 (eD 32)then ∃xs_4:QT,Lf ([AV.int .i64 pad]=aA xs_4∧1=xs_4.length∧(0:Int)<=(8:Int)∧bHl xs_4) ∧
 bif !List.any xs_4 (eD 8)then exI .i64 (cs.length:Int) (λn_5=>bif decide (n_5<=15)then exI .i64 (ex.length:Int) (λn_6=>bif decide (n_6<=16)then exI .i64 (ex.length:Int) (λn_7=>(∃x_8:Nat×Bool,bOs x_8 ex
 ty seq ti ss cs pad∧bQq mk ty seq ti ss tc cs tx ex pad pl∧aRz∧AV.bool true=AV.bool x_8.2∧AV.int .i64 n_7=bCi ex∧bDy tx ex∧AV.int .i64 0=AV.int .i64 (x_8.1:Int)∧True)∧wF mk ty seq ti ss tc cs tx ex pad
 pl Q)else nQ mk ty seq ti ss tc cs tx ex pad pl Q)else nQ mk ty seq ti ss tc cs tx ex pad pl Q)else nQ mk ty seq ti ss tc cs tx ex pad pl Q else nQ mk ty seq ti ss tc cs tx ex pad pl Q else nQ mk ty seq ti ss tc
 cs tx ex pad pl Q else nQ mk ty seq ti ss tc cs tx ex pad pl Q else nQ mk ty seq ti ss tc cs tx ex pad pl Q):=by kernel_rfl

theorem aTv(t:Nat)(ex:List Xt)(hx:ex.length<=1000000)(hd:∀x∈ex,x.2.length<=4611686018427387904)(Q:BS)(hq:Q (.ret (.bool (shortM ex))) [] {}):∃hv hb,xJ hv hb t ex Q:=by
 obtain⟨hv,hb',e⟩:∃hv hb,xJ hv hb t ex Q=_:=⟨_,_,bEf t ex Q⟩
 refine⟨hv,hb',e.mpr ?_⟩
 delta bRu bDy bCi bRa bRq
 clear e
 refine⟨_,rfl,⟨0,⟨by omega,by simp⟩,rfl,rfl,rfl,rfl,trivial⟩, ?_⟩
 rintro i ⟨hi,hany⟩
 refine aH (λhlt => ?_) (λhge => ?_)
 ·have hlt':i<ex.length:=by omega
  have hdi:=hd ex[i] (bXk hlt')
  have hstep:(ex.take (i+1)).any isLongM=isLongM ex[i]:=by
   rw[bYm,cCa,hany];simp[hlt']
  have hbad:isLongM ex[i]=true->shortM ex=false:=λh=>by
   have:ex.any isLongM=true:=bZ8.2 ⟨ex[i],bXk _,h⟩
   rw[shortM,this];rfl
  refine⟨_,rfl,ckO (ckI (by rw[fA];simp;omega) (bKw hlt' (by simp) ?_))⟩
  refine aH (λh1=>aH (λ_ => ?_) (λh=>by exfalso;omega)) (λh1=>⟨_,rfl,bJ (λh2=>aH (λ_ => ?_) (λh=>by exfalso;omega)) (λh2=>⟨_,rfl,aH (λh3=>aH (λ_ => ?_) (λh=>by exfalso;omega)) (λh3 => ?_)⟩)⟩)
  ·rw[←hbad (by simp[isLongM,h1])];exact hq
  ·rw[←hbad (by simp only[isLongM,bXr h2,Bool.or_true,Bool.true_or])];exact hq
  ·rw[←hbad (by simp only[isLongM,bXr h3,Bool.or_true])];exact hq
  ·refine aF ⟨⟨trivial,rfl⟩,i+1,⟨hlt', ?_⟩,by omega,rfl,rfl,rfl,rfl,trivial⟩
   rw[hstep]
   simp only[isLongM,bXt h1,bXt h2,bXt h3,bYn]
 ·have hle:i=ex.length:=by omega
  subst hle
  rw[bX8]at hany
  have:shortM ex=true:=by rw[shortM,hany];rfl
  rw[←this];exact hq
theorem aCw{bits P:Int}(hP:(2:Int)^min bits.toNat 64=P)(h0:0<P)(n:Int):eD bits n = !decide (0<=n∧n<P):=by
 unfold eD
 rw[hP,bX3 _ (by omega)]
 by_cases h:n<0
 ·rw[bXr h,bXt (by omega)];rfl
 ·rw[bXt h,cB4]
  by_cases h2:n<P
  ·rw[bXr ⟨by omega,h2⟩,Int.ediv_eq_zero_of_lt (by omega) h2];rfl
  ·rw[bXt (by omega)]
   have:n/P≠0:=by
    intro h3
    have h4:=Int.emod_add_mul_ediv n P
    have h5:=cCh n h0
    rw[h3]at h4
    omega
   simpa using this
theorem bJf{bits P n:Int}(hP:(2:Int)^min bits.toNat 64=P)(h0:0<P){A B:Prop}(h:0<=n∧n<P->A)(k:¬ (0<=n∧n<P)->B):bif !(List.any [n] (eD bits))then A else B:=by
 rw[bYk,bYs,bYn,aCw hP h0,Bool.not_not]
 exact aH h k
theorem bMg{bits P n m:Int}(hP:(2:Int)^min bits.toNat 64=P)(h0:0<P){A B:Prop}(h:(0<=n∧n<P)∧0<=m∧m<P->A)(k:¬ ((0<=n∧n<P)∧0<=m∧m<P)->B):bif !(List.any [n,m] (eD bits))then A else B:=by
 rw[bYk,bYk,bYs,bYn,aCw hP h0,aCw hP h0]
 have e:(!(!decide (0<=n∧n<P) || !decide (0<=m∧m<P)))=decide ((0<=n∧n<P)∧0<=m∧m<P):=by rw[bZ7];simp
 rw[e]
 exact aH h k
theorem bTj{bits P:Int}{l:QT}(hP:(2:Int)^min bits.toNat 64=P)(h0:0<P){A B:Prop}(h:(∀x∈l,0<=x∧x<P)->A)(k:¬ (∀x∈l,0<=x∧x<P)->B):bif !(List.any l (eD bits))then A else B:=by
 have e:(!(List.any l (eD bits)))=decide (∀x∈l,0<=x∧x<P):=by
  rw[bZ7,bW6]
  simp only[bYc,cAp,aCw hP h0,bYc,cCs,bW6]
  constructor
  ·intro hh x hx
   have:=hh x hx
   simpa using this
  ·intro hh x hx
   have:=hh x hx
   simpa using this
 rw[e]
 exact aH h k
def gN(a:Int):List Xt->Int
 | []=>a
 | x::l=>gN x.1 l
theorem aD0(x:Xt):∀ (l:List Xt) (a:Int),extsOkM a (l++[x])=(extsOkM a l&&decide (gN a l<x.1∧x.1<=255∧x.2.length<=255))
 | [],a=>by rw[bX2,extsOkM,extsOkM,extsOkM,gN,bX4,bX7]
 | y::l,a=>by rw[bX0,extsOkM,aD0 x l y.1,extsOkM,gN,bZk]
theorem aD9:∀ (l:List Xt) (a:Int),extsOkM a l=true->a<=gN a l
 | [],a,_=>cCc _
 | y::l,a,h=>by
  rw[extsOkM,bW3,bW6]at h
  have:=aD9 l y.1 h.2
  rw[gN];omega
theorem aDh:∀ (l:List Xt) (a:Int) (i:Nat) (h:i<l.length),gN a (l.take (i+1))=l[i].1
 | x::l,a,0,_=>rfl
 | x::l,a,i+1,h=>by
  rw[bY7,gN,aDh l x.1 i (by simpa using h)]
  rfl
theorem aPn{ex:List Xt}{i:Nat}(hi:i<ex.length):extsOkM 0 (ex.take (i+1))=(extsOkM 0 (ex.take i)&&decide (gN 0 (ex.take i)<ex[i].1∧ex[i].1<=255∧ex[i].2.length<=255)):=by
 rw[←aD0,bYm,bW8 hi]
 rfl
theorem bTu{l:List Xt}{i m:Nat}(hi:i<l.length)(hm:m=i*2+0){K:Int->Prop}(hk:K l[i].1):∃n:Int,(cellsXM l).getD m AV.undef=AV.int .i64 n∧K n:=by
 refine⟨_, ?_,hk⟩
 subst hm
 have e:=yD hi (m:=i*2) (by omega)
 have:((cellsXM l).drop (i*2))[0]? = some (AV.int .i64 l[i].1):=by
  have h2:(List.take 2 (List.drop (i*2) (cellsXM l)))[0]? = some (AV.int .i64 l[i].1):=by rw[e];rfl
  rwa[bXz,if_pos (by omega)]at h2
 rw[bYo]at this
 rw[bW7,this]
 rfl
def rightMMd(ty seq ti ss:Int)(cs:QT)(ex:List Xt)(pad:Int):Bool:=flagsM ty seq ti ss cs ex.length pad&&extsOkM 0 ex
theorem aMe{ty seq ti ss:Int}{cs:QT}{tx:Nat}{ex:List Xt}{pad:Int}{i:Nat}(hi:i<ex.length)(b:Bool)(hb:b=(flagsM ty seq ti ss cs ex.length pad&&extsOkM 0 (ex.take (i+1)))){cells:HB} :
  (True∧(0:Nat)=0)∧∃y:Nat×Bool,Lf (y.1<=ex.length∧y.2=(flagsM ty seq ti ss cs ex.length pad&&extsOkM 0 (ex.take y.1)))∧ex.length-y.1<ex.length-i∧cells=cells∧AV.ptr 0 9 0=AV.ptr 0 9 0∧AV.bool b=AV.bool y.2∧AV.int .i64 (ex.length:Int)=AV.int .i64 (ex.length:Int)∧AV.lst tx (cellsXM ex) ex.length 2=AV.lst tx (cellsXM ex) ex.length 2∧AV.int .i64 ((i:Int)+1)=AV.int .i64 (y.1:Int)∧True:=
 ⟨⟨trivial,rfl⟩,(i+1,b),⟨hi,hb⟩,by dsimp only;omega,rfl,rfl,rfl,rfl,rfl,rfl,trivial⟩
theorem bOr(mk:Bool)(ty seq ti ss:Int)(tc:Nat)(cs:QT)(tx:Nat)(ex:List Xt)(pad:Int)(pl:LA)(hex:ex.length<=1000000)(hd:∀x∈ex,x.2.length<=4611686018427387904)(Q:BS)
  (hT:rightMMd ty seq ti ss cs ex pad=true->Q (.ret (.int .i64 0)) [] {}) (hF:rightMMd ty seq ti ss cs ex pad=false->Q (.ret (.int .i64 230)) [] {}):wF mk ty seq ti ss tc cs tx ex pad pl Q:=by
 rintro⟨i,b⟩ ⟨hi,hbq⟩
 dsimp only at hi hbq ⊢
 refine aH (λhlt => ?_) (λhge => ?_)
 ·have hlt':i<ex.length:=by omega
  have hdi:=hd ex[i] (bXk hlt')
  refine⟨_,rfl,ckO (ckI (by rw[fA];simp;omega) (bKw hlt' (by simp) ?_))⟩
  have et:=aPn hlt'
  have key:∀b',b'=(b&&decide (gN 0 (ex.take i)<ex[i].1∧ex[i].1<=255∧ex[i].2.length<=255))->b'=(flagsM ty seq ti ss cs ex.length pad&&extsOkM 0 (ex.take (i+1))):=λb' hb=>by rw[hb,hbq,et,bZk]
  cases b
  ·exact aF (aMe hlt' false (key _ (by rw[bZi])))
  ·have hx0:extsOkM 0 (ex.take i)=true:=by
    have:=hbq.symm
    rw[bW3]at this
    exact this.2
   have hl0:=aD9 _ _ hx0
   have hl1:i=0->gN 0 (ex.take i)=0:=λe=>by rw[e];rfl
   have hl2:∀ (k:Nat) (hk:k<ex.length),i=k+1->gN 0 (ex.take i)=ex[k].1:=λk hk e=>by subst e;exact aDh ex 0 k hk
   refine⟨_,rfl,[ex[i].1,(ex[i].2.length:Int)],⟨rfl,rfl,by omega,by simp⟩,bMg (P:=256) rfl (by decide) (λg1=>aH (λg2=>bJ (λg3 => ?_) (λg3=>aF (ckO (ckI (by rw[fA];simp;omega) (bTu (i:=i-1) (by omega) (by omega) (aH (λg4 => ?_) (λg4 => ?_))))))) (λg2 => ?_)) (λg1 => ?_)⟩
   ·exact aF (aMe hlt' true (key _ (by rw[bX7,bXr ⟨by rw[hl1 (by omega)];omega,by omega,by omega⟩])))
   ·exact aF (aMe hlt' true (key _ (by rw[bX7,bXr ⟨by rw[hl2 (i-1) (by omega) (by omega)];omega,by omega,by omega⟩])))
   ·exact aF (aMe hlt' false (key _ (by rw[bX7,bXt (λhh=>g4 (by rw[hl2 (i-1) (by omega) (by omega)]at hh;omega))])))
   ·exact aF (aMe hlt' false (key _ (by rw[bX7,bXt (λhh=>by omega)])))
   ·exact aF (aMe hlt' false (key _ (by rw[bX7,bXt (λhh=>by omega)])))
 ·have hle:i=ex.length:=by omega
  subst hle
  rw[bX8]at hbq
  cases b
  ·exact hF hbq.symm
  ·exact hT hbq.symm
theorem aHg(mk:Bool)(ty seq ti ss:Int)(tc:Nat)(cs:QT)(tx:Nat)(ex:List Xt)(pad:Int)(pl:LA)(hcs:cs.length<=1000000)(hex:ex.length<=1000000)(hd:∀x∈ex,x.2.length<=4611686018427387904)(Q:BS)
  (hT:rightMMd ty seq ti ss cs ex pad=true->Q (.ret (.int .i64 0)) [] {}) (hF:rightMMd ty seq ti ss cs ex pad=false->Q (.ret (.int .i64 230)) [] {}):∃hv hb,wM hv hb mk ty seq ti ss tc cs tx ex pad pl Q:=by
 obtain⟨hv,hb',e⟩:∃hv hb,wM hv hb mk ty seq ti ss tc cs tx ex pad pl Q=_:=⟨_,_,bJs mk ty seq ti ss tc cs tx ex pad pl Q⟩
 refine⟨hv,hb',e.mpr ?_⟩
 delta bHl bOs bQq aRz bCi bDy
 clear e
 refine⟨[ty],⟨rfl,rfl,by omega,by simp⟩,bJf (P:=128) rfl (by decide) (λh1=>⟨[seq],⟨rfl,rfl,by omega,by simp⟩,bJf (P:=65536) rfl (by decide) (λh2=>⟨[ti,ss],⟨rfl,rfl,by omega,by simp⟩,bMg (P:=4294967296) rfl (by decide) (λh3=>⟨cs,⟨rfl,rfl,by omega,by omega⟩,bTj (P:=4294967296) rfl (by decide) (λh4=>⟨[pad],⟨rfl,rfl,by omega,by simp⟩,bJf (P:=256) rfl (by decide) (λh5=>⟨_,rfl,aH (λh6=>⟨_,rfl,aH (λh7 => ?_) (λh7 => ?_)⟩) (λh6 => ?_)⟩) (λh5 => ?_)⟩) (λh4 => ?_)⟩) (λh3 => ?_)⟩) (λh2 => ?_)⟩) (λh1 => ?_)⟩
 all_goals first
  | refine⟨_,rfl,⟨(0,true),⟨bYb _,by
    rw[bZ3,extsOkM,bX4]
    exact(bXr ⟨by omega,by omega,by omega,by omega,by omega,by omega,by omega,by omega,h4,by omega,by omega,by omega,by omega⟩).symm⟩,rfl,rfl,rfl,rfl,rfl,rfl,trivial⟩, ?_⟩
  | refine⟨_,rfl,⟨(0,false),⟨bYb _,by
    rw[bZ3,extsOkM,bX4]
    refine(bXt λhh => ?_).symm
    obtain⟨a1,a2,a3,a4,a5,a6,a7,a8,a9,a10,a11,a12,a13⟩:=hh
    first | exact h4 a9 | omega⟩,rfl,rfl,rfl,rfl,rfl,rfl,trivial⟩, ?_⟩
 all_goals exact bOr mk ty seq ti ss tc cs tx ex pad pl hex hd Q hT hF
def aNb(ex:List Xt):Prop:=∀x∈ex,x.2.length<=4611686018427387904
def aRv:Con
 | [.lst _ l n 2],H,K=>∃ex:List Xt,Lf (l=cellsXM ex∧n=ex.length∧ex.length<=1000000∧aNb ex)∧K (.ret (.bool (shortM ex))) H
 | _,_,_=>False
theorem aZn:aI Tryz.prog gl0 134 aRv:=by
 refine aQ (enters_of (by kernel_rfl)) aO λargs H Q hc => ?_
 unfold aRv at hc
 split at hc
 ·rename_i t l n
  obtain⟨ex,⟨rfl,rfl,hl,hd⟩,hq⟩:=hc
  obtain⟨hv,hb',h⟩:=aTv t ex hl hd (λo H' _=>H'=[]∧(∃v,o=.ret v∧old 0 v=true∧noY v=true)∧Q o H) ⟨rfl,⟨_,rfl,rfl,rfl⟩,hq⟩
  exact⟨rfl,rfl,_,1000,aJ9 bY _ _ _,rfl,h⟩
 ·exact hc.elim
def aCz:Con
 | [.agg [.bool mk,.int .i64 ty,.int .i64 seq,.int .i64 ti,.int .i64 ss,.lst _ c5 n5 1,.lst _ c6 n6 2,.int .i64 pad,.str pl]],H,K=>∃ (cs:QT) (ex:List Xt),Lf (c5=aA cs∧n5=cs.length∧c6=cellsXM ex∧n6=ex.length∧cs.length<=1000000∧ex.length<=1000000∧aNb ex)∧∀r:Int,Lf (r=if rightMMd ty seq ti ss cs ex pad=true then 0 else 230)->K (.ret (.int .i64 r)) H
 | _,_,_=>False
theorem aNw:aI Tryz.prog gl0 132 aCz:=by
 refine aQ (enters_of (by kernel_rfl)) aO λargs H Q hc => ?_
 unfold aCz at hc
 split at hc
 ·rename_i mk ty seq ti ss tc c5 n5 tx c6 n6 pad pl
  obtain⟨cs,ex,⟨rfl,rfl,rfl,rfl,h1,h2,hd⟩,hq⟩:=hc
  obtain⟨hv,hb',h⟩:=aHg mk ty seq ti ss tc cs tx ex pad pl h1 h2 hd (λo H' _=>H'=[]∧(∃v,o=.ret v∧old 0 v=true∧noY v=true)∧Q o H) (λhr=>⟨rfl,⟨_,rfl,rfl,rfl⟩,hq _ ⟨by rw[if_pos hr]⟩⟩) (λhr=>⟨rfl,⟨_,rfl,rfl,rfl⟩,hq _ ⟨by rw[hr];rfl⟩⟩)
  refine⟨rfl,rfl,_,1000, ?_,rfl,h⟩
  exact⟨kU,kZ,dH,bOf⟩
 ·exact hc.elim
def fstM(cs:QT)(n:Nat)(pad:Int):Int:=128+cs.length+(if 0<pad then 32 else 0)+(if 0<n then 16 else 0)
def kindM(mk:Bool)(ty:Int):Int:=ty+(if mk=true then 128 else 0)
def headBM(mk:Bool)(ty seq ti ss:Int)(cs:QT)(n:Nat)(pad:Int):LA:=putMMd 1 [fstM cs n pad,kindM mk ty]++putMMd 2 [seq]++putMMd 4 [ti,ss]++putMMd 4 cs
def extBM(sh:Bool):List Xt->LA
 | []=>[]
 | x::l=>(if sh=true then putMMd 1 [x.1*16+(x.2.length-1)]else putMMd 1 [x.1,(x.2.length:Int)])++x.2++extBM sh l
def zerosMMd(n:Nat):LA:=List.replicate ((4-n%4)%4) 0
def zL(sh:Bool):Int:=if sh=true then 48862 else 4096
def extPM(ex:List Xt):LA:=extBM (shortM ex) ex++zerosMMd (extBM (shortM ex) ex).length
def headM(mk:Bool)(ty seq ti ss:Int)(cs:QT)(ex:List Xt)(pad:Int):LA:=headBM mk ty seq ti ss cs ex.length pad++(if ex.length=0 then[]else putMMd 2 [zL (shortM ex),((extPM ex).length/4:Nat)]++extPM ex)
def eZ(ex:List Xt):HB:=(cellsXM ex).take 2
def bK2:SM:=gG [(89,aJ5),(134,aRv)]
theorem bA6:∀f g,bK2 f=some g->aI Tryz.prog gl0 f g:=bO _ (by simp only[bXd,bXn,bY0,bYd,bY4];exact⟨put_rawMd,aZn⟩)
def aUh(sh:Bool)(mk:Bool)(ty seq ti ss:Int)(tc:Nat)(cs:QT)(tx:Nat)(ex:List Xt)(pad:Int)(pl:LA):LInv where
 α:=Nat
 pre i:=Lf (i=0∧sh=shortM ex)
 st i:=⟨mkT [(5,.sl 1 (headBM mk ty seq ti ss cs ex.length pad).length 0 (headBM mk ty seq ti ss cs ex.length pad).length 1),(6,.nils),(7,.int .i64 (bif sh then 48862 else 4096)),(60,.lst tx (cellsXM ex) ex.length 2),(61,.int .i64 ex.length),(62,.int .i64 (i:Nat))],[⟨.exact,true,(jW mk ty seq ti ss tc cs tx ex pad pl)⟩,⟨.grow,true,ofBytes (headBM mk ty seq ti ss cs ex.length pad)⟩]⟩
 mu i:=ex.length+1
def aQp(sh:Bool)(mk:Bool)(ty seq ti ss:Int)(tc:Nat)(cs:QT)(tx:Nat)(ex:List Xt)(pad:Int)(pl:LA):LInv where
 α:=Nat
 pre i:=Lf (1<=i∧i<=ex.length∧sh=shortM ex)
 st i:=⟨mkT [(5,.sl 1 (headBM mk ty seq ti ss cs ex.length pad).length 0 (headBM mk ty seq ti ss cs ex.length pad).length 1),(6,.sl 3 (extBM sh (ex.take i)).length 0 (extBM sh (ex.take i)).length 1),(7,.int .i64 (bif sh then 48862 else 4096)),(60,.lst tx (cellsXM ex) ex.length 2),(61,.int .i64 ex.length),(62,.int .i64 (i:Nat))],[⟨.exact,true,(jW mk ty seq ti ss tc cs tx ex pad pl)⟩,⟨.grow,true,ofBytes (headBM mk ty seq ti ss cs ex.length pad)⟩,⟨.exact,true,eZ ex⟩,⟨.grow,true,ofBytes (extBM sh (ex.take i))⟩]⟩
 mu i:=ex.length-i
def bA5(mk:Bool)(ty seq ti ss:Int)(tc:Nat)(cs:QT)(tx:Nat)(ex:List Xt)(pad:Int)(pl:LA)(s:S):List (List LInv):=match s.tm.get 7 with
 | .int _ p=>bif p==48862 then[[aUh true mk ty seq ti ss tc cs tx ex pad pl,aQp true mk ty seq ti ss tc cs tx ex pad pl]]else[[aUh false mk ty seq ti ss tc cs tx ex pad pl,aQp false mk ty seq ti ss tc cs tx ex pad pl]]
 | _=>[]
noncomputable def bCj(hv:LI)(hb:LB)(mk:Bool)(ty seq ti ss:Int)(tc:Nat)(cs:QT)(tx:Nat)(ex:List Xt)(pad:Int)(pl:LA):Env := { e23 bK2 (λi=>bif Nat.beq i 133000 then some (bA5 mk ty seq ti ss tc cs tx ex pad pl)else none) hv hb with hz:=λk=>[544801,544806,544813,544845,544853,544871].any (Nat.beq k) }
noncomputable def wR(hv:LI)(hb:LB)(mk:Bool)(ty seq ti ss:Int)(tc:Nat)(cs:QT)(tx:Nat)(ex:List Xt)(pad:Int)(pl:LA)(Q:BS):Prop:=
 aT (bCj hv hb mk ty seq ti ss tc cs tx ex pad pl) (wpx (bCj hv hb mk ty seq ti ss tc cs tx ex pad pl) 1000) 133 [.agg (jW mk ty seq ti ss tc cs tx ex pad pl)] [] {} Q
abbrev sH(mk:Bool)(ty seq ti ss:Int)(cs:QT)(ex:List Xt)(pad:Int):HB:=ofBytes (headBM mk ty seq ti ss cs ex.length pad)
def nL(mk:Bool)(ty:Int)(seq:Int)(ti:Int)(ss:Int)(tc:Nat)(cs:QT)(tx:Nat)(ex:List Xt)(pad:Int)(pl:LA):Prop:=
aK (jW mk ty seq ti ss tc cs tx ex pad pl)∧aK (sH mk ty seq ti ss cs ex pad)∧False
def aRq(mk:Bool)(ty:Int)(seq:Int)(ti:Int)(ss:Int)(tc:Nat)(cs:QT)(tx:Nat)(ex:List Xt)(pad:Int)(pl:LA):Prop:=
ex.length+1<ex.length+1∧nL mk ty seq ti ss tc cs tx ex pad pl
abbrev aNn(y_0:Nat)(ex:List Xt):Prop:=Lf (y_0=0∧true=shortM ex)
def aQk(mk:Bool)(ty:Int)(seq:Int)(ti:Int)(ss:Int)(tc:Nat)(cs:QT)(tx:Nat)(ex:List Xt)(pad:Int)(pl:LA):Prop:=
∃y_0:Nat,aNn y_0 ex∧aRq mk ty seq ti ss tc cs tx ex pad pl
abbrev rC(n_3:Int):Nat:=(n_3%18446744073709551616).toNat
abbrev aVs(xs_7:QT):Prop:=(1:Int)<=(1:Int)∧(1:Int)<=(7:Int)∧1<=xs_7.length∧xs_7.length<=1000000
abbrev oL(xs_7:QT):Nat:=(putMMd 1 xs_7).length
abbrev aOn:Prop:=True∧(0:Nat)=(0:Nat)
abbrev aHe(y_9:Nat)(ex:List Xt):Prop:=Lf (1<=y_9∧y_9<=ex.length∧true=shortM ex)
abbrev bRr(y_9:Nat)(ex:List Xt):LA:=extBM true (ex.take y_9)
abbrev aOy(y_9:Nat)(ex:List Xt):HB:=ofBytes (bRr y_9 ex)
abbrev aUz:Prop:=aK (AV.int .i64 48862)
abbrev aT4(mk:Bool)(ty seq ti ss:Int)(cs:QT)(ex:List Xt)(pad:Int):Prop:=aK (AV.sl 1 (headBM mk ty seq ti ss cs ex.length pad).length 0 (headBM mk ty seq ti ss cs ex.length pad).length 1)
abbrev aSw(ex:List Xt):Prop:=aK (AV.int .i64 (ex.length:Int))
abbrev aS4(tx:Nat)(ex:List Xt):Prop:=aK (AV.lst tx (cellsXM ex) ex.length 2)
abbrev lG(y_9:Nat)(ex:List Xt):Nat:=(bRr y_9 ex).length
abbrev aVm(y_9:Nat)(ex:List Xt):AV:=.sl 3 (lG y_9 ex) 0 (lG y_9 ex) 1
abbrev aPv(n_8:Int)(y_9:Nat):Prop:=AV.int .i64 n_8=AV.int .i64 (y_9:Int)∧True
abbrev bFt(n_3:Int):Bool:=decide (0<=n_3)&&decide (n_3<=1099511627776)&&eH (List.replicate n_3.toNat [AV.int .u8 0]).flatten&&true&&Nat.ble (n_3.toNat*1) 1099511627776
abbrev lM(mk:Bool)(ty seq ti ss:Int)(tc:Nat)(cs:QT)(tx:Nat)(ex:List Xt)(pad:Int)(pl:LA):Blk:=Blk.mk BK.exact true (jW mk ty seq ti ss tc cs tx ex pad pl)
abbrev zH(bs_6:LA):Blk:=Blk.mk BK.grow true (ofBytes bs_6)
abbrev bAa(xs_8:QT):Prop:=(1:Int)<=(2:Int)∧(2:Int)<=(7:Int)∧xs_8.length<=1000000
abbrev bOv(mk:Bool)(ty seq ti ss:Int)(cs:QT)(ex:List Xt)(pad:Int)(bs_6:LA)(n_5:Int)(xs_7:QT):Prop:=(headBM mk ty seq ti ss cs ex.length pad).length=bs_6.length∧(headBM mk ty seq ti ss cs ex.length pad).length=bs_6.length∧bs_6.length<=1000000∧[AV.int .i64 48862,.int .i64 n_5]=aA xs_7∧2=xs_7.length∧bAa xs_7
abbrev bJ5(bs_6:LA)(xs_7:QT):Bool:=Nat.beq (ofBytes (bs_6++putMMd 2 xs_7)).length (bs_6++putMMd 2 xs_7).length&&true
abbrev aAd(bs_6:LA)(xs_7:QT):Nat:=(bs_6++putMMd 2 xs_7).length
abbrev aUk(bs_6:LA)(xs_7:QT):Out:=.ret (.sl 1 (aAd bs_6 xs_7) 0 (aAd bs_6 xs_7) 1)
abbrev aM2(bs_6:LA)(xs_7:QT):LA:=bs_6++putMMd 2 xs_7
abbrev aH4(bs_6:LA)(xs_7:QT):Blk:=Blk.mk BK.grow true (ofBytes (aM2 bs_6 xs_7))
abbrev bAd(n_3:Int):Nat:=(List.replicate n_3.toNat [AV.int .u8 0]).flatten.length
abbrev aUb(n_3:Int):Bool:=aP 0 (List.replicate n_3.toNat [AV.int .u8 0]).flatten
abbrev bAy(n_3:Int):Blk:=Blk.mk BK.grow (aUb n_3) (List.replicate n_3.toNat [AV.int .u8 0]).flatten
abbrev bAm(bs_6:LA)(xs_7:QT):Bool:=bJ5 bs_6 xs_7&&Nat.beq (0+aAd bs_6 xs_7*1) (aAd bs_6 xs_7)
abbrev aF4(ex:List Xt):Blk:=Blk.mk BK.exact true (eZ ex)
abbrev yE(bs_7:LA)(xs_8:QT):Nat:=(bs_7++putMMd 1 xs_8).length
abbrev aNf(x_0:Nat)(ex:List Xt):Bool:=Nat.beq (aOy x_0 ex).length (lG x_0 ex)
abbrev aRi(x_0:Nat)(ex:List Xt):HB:=((aOy x_0 ex).drop 0).take (lG x_0 ex*1)
abbrev bEp(x_0:Nat)(ex:List Xt)(n_3:Int):HB:=ofBytes (bRr x_0 ex)++(List.replicate n_3.toNat [AV.int .u8 0]).flatten
abbrev aT1(x_0:Nat)(ex:List Xt)(n_3:Int):HB:=((bEp x_0 ex n_3).drop 0).take ((lG x_0 ex+n_3.toNat)*1)
abbrev aM6(x_0:Nat)(ex:List Xt):Bool:=decide ((x_0:Int)<(ex.length:Int))
abbrev aNd(x_0:Nat)(ex:List Xt):Bool:=Nat.blt (x_0:Int).toNat ex.length&&true
abbrev aNu(x_0:Nat)(ex:List Xt):Bool:=Nat.ble ((x_0:Int).toNat*2+2) (cellsXM ex).length
abbrev aN3(x_0:Nat)(ex:List Xt):AV:=.agg (((cellsXM ex).drop ((x_0:Int).toNat*2)).take 2)
abbrev yQ(xs_7:QT):HB:=ofBytes (putMMd 1 xs_7)
abbrev yZ(n_3:Int):Bool:=Nat.beq n_3.toNat 0
abbrev aL4(n_3:Int):Bool:=Nat.ble (n_3.toNat*1) 1099511627776
abbrev aZ7(n_3:Int):Bool:=eH (((List.replicate n_3.toNat [AV.int .u8 0]).flatten.drop 0).take (n_3.toNat*1))
abbrev aZl(n_3:Int):Nat:=(((List.replicate n_3.toNat [AV.int .u8 0]).flatten.drop 0).take (n_3.toNat*1)).length
abbrev aWp(n_3:Int):Bool:=aP 0 (((List.replicate n_3.toNat [AV.int .u8 0]).flatten.drop 0).take (n_3.toNat*1))
abbrev aZq(xs_8:QT):Prop:=(1:Int)<=(1:Int)∧(1:Int)<=(7:Int)∧xs_8.length<=1000000
abbrev oM(bs_7:LA)(xs_8:QT):HB:=ofBytes (bs_7++putMMd 1 xs_8)
abbrev aGb(ex:List Xt)(x_0:Nat):Prop:=ex.length+1<ex.length-x_0
def aG2(mk:Bool)(ty:Int)(seq:Int)(ti:Int)(ss:Int)(tc:Nat)(cs:QT)(tx:Nat)(ex:List Xt)(pad:Int)(pl:LA)(Q:BS):Prop:=
(∀x_0:Nat,aNn x_0 ex->bif aM6 x_0 ex then ckQ (aNd x_0 ex) (ckQ (aNu x_0 ex) (∃n_1 s_2,aN3 x_0 ex=AV.agg [.int .i64 n_1,.str s_2]∧exW .i64 (n_1*16) (λn_3=>exI .i64 (s_2.length:Int) (λn_4=>exW .i64 (n_4 -
 1) (λn_5=>exW .i64 ((rC n_3 ||| rC n_5:Nat):Int) (λn_6=>∃xs_7:QT,Lf ([AV.int .i64 n_6]=aA xs_7∧1=xs_7.length∧aVs xs_7)∧ckQ (eH (ofBytes s_2)&&true&&Nat.ble (s_2.length*1) 1099511627776)
 (bif Nat.beq s_2.length 0 then ckQ (Nat.beq s_2.length 0) (ckQ (Nat.beq (yQ xs_7).length (oL xs_7)&&true) (exW .i64 ((x_0:Int)+1) (λn_8=>aOn∧(aQk mk ty seq ti ss tc cs tx ex pad pl∨∃y_9:Nat,aHe y_9 ex ∧
 ex.length-y_9<ex.length+1∧aK (jW mk ty seq ti ss tc cs tx ex pad pl)∧aK (sH mk ty seq ti ss cs ex pad)∧[AV.int .i64 n_1,.str s_2]=eZ ex∧yQ xs_7=aOy y_9 ex∧aUz∧aT4 mk ty seq ti ss cs ex pad ∧
 aSw ex∧aS4 tx ex∧AV.sl 3 (oL xs_7) 0 (oL xs_7) 1=aVm y_9 ex∧aPv n_8 y_9))))else ckQ (Nat.blt 0 s_2.length) (ckQ (Nat.beq (yQ xs_7).length (oL xs_7)&&true&&Nat.beq (0+oL xs_7*1) (oL xs_7) &&
 Nat.ble (oL xs_7+s_2.length) 1099511627776&&Nat.ble ((oL xs_7+s_2.length)*1) 1099511627776) (exW .i64 ((x_0:Int)+1) (λn_8=>aOn∧(aQk mk ty seq ti ss tc cs tx ex pad pl∨∃y_9:Nat,aHe y_9 ex∧ex.length -
 y_9<ex.length+1∧aK (jW mk ty seq ti ss tc cs tx ex pad pl)∧aK (sH mk ty seq ti ss cs ex pad)∧[AV.int .i64 n_1,.str s_2]=eZ ex∧ckQ (aP 0 (ofBytes s_2)==true) (yQ xs_7++ofBytes s_2=aOy y_9 ex∧aUz
 ∧ aT4 mk ty seq ti ss cs ex pad∧aSw ex∧aS4 tx ex∧AV.sl 3 (oL xs_7+(ofBytes s_2).length) 0 (oL xs_7+s_2.length) 1=aVm y_9 ex∧aPv n_8 y_9))))))))))))else exI .i64 0 (λn_1=>exW .i64 (0-n_1) (λn_2=>
 exW .i64 ((rC n_2 &&& 3:Nat):Int) (λn_3=>ckQ (bFt n_3) (bif decide (n_3=0)then ckQ (yZ n_3) (exI .i64 0 (λn_4=>exW .i64 (n_4.tdiv 4) (λn_5=>∃bs_6:LA,∃xs_7:QT,Lf (GetElem?.getElem? [lM
 mk ty seq ti ss tc cs tx ex pad pl,Blk.mk BK.grow true (sH mk ty seq ti ss cs ex pad)] 1=Option.some (zH bs_6)∧bOv mk ty seq ti ss cs ex pad bs_6 n_5 xs_7)∧ckQ (bJ5 bs_6 xs_7) (Q (aUk bs_6 xs_7) [lM mk ty seq ti ss tc
 cs tx ex pad pl,aH4 bs_6 xs_7] {}))))else ckQ (Nat.blt 0 n_3.toNat) (ckQ (Nat.ble n_3.toNat 1099511627776&&aL4 n_3) (ckQ (Nat.beq (bAd n_3) (bAd n_3)) (exI .i64 (n_3.toNat:Int) (λn_4=>exW .i64 (n_4.tdiv 4) (λn_5=>∃
 bs_6:LA,∃xs_7:QT,Lf (GetElem?.getElem? [lM mk ty seq ti ss tc cs tx ex pad pl,Blk.mk BK.grow true (sH mk ty seq ti ss cs ex pad),bAy n_3] 1=Option.some (zH bs_6)∧bOv mk ty seq ti ss cs ex pad bs_6 n_5
 xs_7)∧ckQ (Nat.beq (bAd n_3) (bAd n_3)&&true&&Nat.ble (0+n_3.toNat*1) (bAd n_3)&&aZ7 n_3&&true&&aL4 n_3) (bif yZ n_3 then ckQ (yZ n_3) (ckQ (bJ5 bs_6 xs_7) (Q (aUk bs_6 xs_7) [lM mk ty seq ti ss tc cs tx
 ex pad pl,aH4 bs_6 xs_7,bAy n_3] {}))else ckQ (Nat.blt 0 n_3.toNat) (ckQ (bAm bs_6 xs_7&&Nat.ble (aAd bs_6 xs_7+n_3.toNat) 1099511627776&&Nat.ble ((aAd bs_6 xs_7+n_3.toNat)*1) 1099511627776) (Q (.ret (.sl 1 (aAd bs_6
 xs_7+aZl n_3) 0 (aAd bs_6 xs_7+n_3.toNat) 1)) [lM mk ty seq ti ss tc cs tx ex pad pl,Blk.mk BK.grow (aWp n_3) (ofBytes (aM2 bs_6 xs_7)++((List.replicate n_3.toNat [AV.int .u8 0]).flatten.drop 0).take (n_3.toNat*1)),
 bAy n_3] {})))))))))))))∧∀x_0:Nat,aHe x_0 ex->bif aM6 x_0 ex then ckQ (aNd x_0 ex) (ckQ (aNu x_0 ex) (∃n_1 s_2,aN3 x_0 ex=AV.agg [.int .i64 n_1,.str s_2]∧exW .i64 (n_1*16) (λn_3=>exI .i64 (s_2.length:Int)
 (λn_4=>exW .i64 (n_4-1) (λn_5=>exW .i64 ((rC n_3 ||| rC n_5:Nat):Int) (λn_6=>∃bs_7:LA,∃xs_8:QT,Lf (GetElem?.getElem? [lM mk ty seq ti ss tc cs tx ex pad pl,Blk.mk BK.grow true (sH mk
 ty seq ti ss cs ex pad),aF4 ex,Blk.mk BK.grow true (aOy x_0 ex),Blk.mk BK.exact true [.int .i64 n_1,.str s_2]] 3=Option.some (zH bs_7)∧lG x_0 ex=bs_7.length∧lG x_0 ex=bs_7.length∧bs_7.length<=1000000∧[AV.int
 .i64 n_6]=aA xs_8∧1=xs_8.length∧aZq xs_8)∧ckQ (eH (ofBytes s_2)&&true&&Nat.ble (s_2.length*1) 1099511627776) (bif Nat.beq s_2.length 0 then ckQ (Nat.beq s_2.length 0) (ckQ (Nat.beq (oM bs_7 xs_8).length (yE
 bs_7 xs_8)&&true) (exW .i64 ((x_0:Int)+1) (λn_9=>aOn∧((∃y_10:Nat,aNn y_10 ex∧aGb ex x_0∧nL mk ty seq ti ss tc cs tx ex pad pl)∨∃y_10:Nat,aHe y_10 ex∧ex.length-y_10<ex.length-x_0∧aK (jW
 mk ty seq ti ss tc cs tx ex pad pl)∧aK (sH mk ty seq ti ss cs ex pad)∧aK (eZ ex)∧oM bs_7 xs_8=aOy y_10 ex∧aUz∧aT4 mk ty seq ti ss cs ex pad∧aSw ex∧aS4 tx ex∧AV.sl 3 (yE bs_7 xs_8) 0 (yE bs_7
 xs_8) 1=aVm y_10 ex∧aPv n_9 y_10))))else ckQ (Nat.blt 0 s_2.length) (ckQ (Nat.beq (oM bs_7 xs_8).length (yE bs_7 xs_8)&&true&&Nat.beq (0+yE bs_7 xs_8*1) (yE bs_7 xs_8)&&Nat.ble (yE bs_7 xs_8+s_2.length)
 1099511627776&&Nat.ble ((yE bs_7 xs_8+s_2.length)*1) 1099511627776) (exW .i64 ((x_0:Int)+1) (λn_9=>bif(aP 0 (ofBytes s_2)||aP 4 (oM bs_7 xs_8++ofBytes s_2))&&true then aOn∧((∃y_10:Nat,aNn y_10 ex ∧
 aGb ex x_0∧nL mk ty seq ti ss tc cs tx ex pad pl)∨∃y_10:Nat,aHe y_10 ex∧ex.length-y_10<ex.length-x_0∧aK (jW mk ty seq ti ss tc cs tx ex pad pl)∧aK (sH mk ty seq ti ss cs ex pad)∧aK (eZ ex) ∧
 ckQ (aP 0 (ofBytes s_2)==true) (oM bs_7 xs_8++ofBytes s_2=aOy y_10 ex∧aUz∧aT4 mk ty seq ti ss cs ex pad∧aSw ex∧aS4 tx ex∧AV.sl 3 (yE bs_7 xs_8+(ofBytes s_2).length) 0 (yE bs_7 xs_8+s_2.length) 1 =
 aVm y_10 ex∧aPv n_9 y_10))else aOn∧((∃y_10:Nat,aNn y_10 ex∧aGb ex x_0∧nL mk ty seq ti ss tc cs tx ex pad pl)∨∃y_10:Nat,aHe y_10 ex∧ex.length-y_10<ex.length-x_0∧aK (jW mk ty seq ti ss tc cs
 tx ex pad pl)∧aK (sH mk ty seq ti ss cs ex pad)∧aK (eZ ex)∧ckQ (aP 0 (ofBytes s_2)==true) (oM bs_7 xs_8++ofBytes s_2=aOy y_10 ex∧False))))))))))))else ckQ (aNf x_0 ex) (exI .i64 (lG x_0 ex:Int) (fun
 n_1=>exW .i64 (0-n_1) (λn_2=>exW .i64 ((rC n_2 &&& 3:Nat):Int) (λn_3=>ckQ (bFt n_3) (bif decide (n_3=0)then ckQ (yZ n_3) (ckQ (aNf x_0 ex&&true) (ckQ (aNf x_0 ex) (exI .i64 (lG x_0 ex:Int) (λn_4=>
 exW .i64 (n_4.tdiv 4) (λn_5=>∃bs_6:LA,∃xs_7:QT,Lf (GetElem?.getElem? [lM mk ty seq ti ss tc cs tx ex pad pl,Blk.mk BK.grow true (sH mk ty seq ti ss cs ex pad),aF4 ex,Blk.mk BK.grow true (aOy x_0 ex)]
 1=Option.some (zH bs_6)∧bOv mk ty seq ti ss cs ex pad bs_6 n_5 xs_7)∧ckQ (aNf x_0 ex&&true&&Nat.ble (0+lG x_0 ex*1) (lG x_0 ex)&&eH (aRi x_0 ex)&&true&&Nat.ble (lG x_0 ex*1) 1099511627776) (bif Nat.beq
 (lG x_0 ex) 0 then ckQ (Nat.beq (lG x_0 ex) 0) (ckQ (bJ5 bs_6 xs_7) (Q (aUk bs_6 xs_7) [lM mk ty seq ti ss tc cs tx ex pad pl,aH4 bs_6 xs_7,aF4 ex,Blk.mk BK.grow true (aOy x_0 ex)] {}))else ckQ (Nat.blt 0 (lG x_0 ex))
 (ckQ (bAm bs_6 xs_7&&Nat.ble (aAd bs_6 xs_7+lG x_0 ex) 1099511627776&&Nat.ble ((aAd bs_6 xs_7+lG x_0 ex)*1) 1099511627776) (Q (.ret (.sl 1 (aAd bs_6 xs_7+(aRi x_0 ex).length) 0 (aAd bs_6 xs_7+lG x_0 ex) 1))
 [lM mk ty seq ti ss tc cs tx ex pad pl,Blk.mk BK.grow (aP 0 (aRi x_0 ex)) (ofBytes (aM2 bs_6 xs_7)++aRi x_0 ex),aF4 ex,Blk.mk BK.grow true (aOy x_0 ex)] {}))))))))else ckQ (Nat.blt 0 n_3.toNat) (ckQ (aNf x_0 ex &&
 true&&Nat.beq (0+lG x_0 ex*1) (lG x_0 ex)&&Nat.ble (lG x_0 ex+n_3.toNat) 1099511627776&&Nat.ble ((lG x_0 ex+n_3.toNat)*1) 1099511627776) (ckQ (Nat.beq (bEp x_0 ex n_3).length (lG x_0 ex+bAd n_3)) (exI .i64
 ((lG x_0 ex+n_3.toNat:Nat):Int) (λn_4=>exW .i64 (n_4.tdiv 4) (λn_5=>∃bs_6:LA,∃xs_7:QT,Lf (GetElem?.getElem? [lM mk ty seq ti ss tc cs tx ex pad pl,Blk.mk BK.grow true (sH mk ty seq ti ss cs ex
 pad),aF4 ex,Blk.mk BK.grow (aUb n_3) (bEp x_0 ex n_3)] 1=Option.some (zH bs_6)∧bOv mk ty seq ti ss cs ex pad bs_6 n_5 xs_7)∧ckQ (Nat.beq (bEp x_0 ex n_3).length (lG x_0 ex+bAd n_3)&&true&&Nat.ble (0+(lG x_0
 ex+n_3.toNat)*1) (lG x_0 ex+bAd n_3)&&eH (aT1 x_0 ex n_3)&&true&&Nat.ble ((lG x_0 ex+n_3.toNat)*1) 1099511627776) (bif Nat.beq (lG x_0 ex+n_3.toNat) 0 then ckQ (Nat.beq (lG x_0 ex+n_3.toNat) 0) (ckQ (bJ5
 bs_6 xs_7) (Q (aUk bs_6 xs_7) [lM mk ty seq ti ss tc cs tx ex pad pl,aH4 bs_6 xs_7,aF4 ex,Blk.mk BK.grow (aUb n_3) (bEp x_0 ex n_3)] {}))else ckQ (Nat.blt 0 (lG x_0 ex+n_3.toNat)) (ckQ (bAm bs_6 xs_7&&Nat.ble (aAd
 bs_6 xs_7+(lG x_0 ex+n_3.toNat)) 1099511627776&&Nat.ble ((aAd bs_6 xs_7+(lG x_0 ex+n_3.toNat))*1) 1099511627776) (Q (.ret (.sl 1 (aAd bs_6 xs_7+(aT1 x_0 ex n_3).length) 0 (aAd bs_6 xs_7+(lG x_0 ex+n_3.toNat))
 1)) [lM mk ty seq ti ss tc cs tx ex pad pl,Blk.mk BK.grow (aP 0 (aT1 x_0 ex n_3)) (ofBytes (aM2 bs_6 xs_7)++aT1 x_0 ex n_3),aF4 ex,Blk.mk BK.grow (aUb n_3) (bEp x_0 ex n_3)] {})))))))))))))
abbrev aOk(y_0:Nat)(ex:List Xt):Prop:=Lf (y_0=0∧false=shortM ex)
def aS5(mk:Bool)(ty:Int)(seq:Int)(ti:Int)(ss:Int)(tc:Nat)(cs:QT)(tx:Nat)(ex:List Xt)(pad:Int)(pl:LA):Prop:=
∃y_0:Nat,aOk y_0 ex∧aRq mk ty seq ti ss tc cs tx ex pad pl
abbrev xL(xs_4:QT):Nat:=(putMMd 1 xs_4).length
abbrev aM0:Prop:=True∧(0:Nat)=(0:Nat)
abbrev bF7(y_6:Nat)(ex:List Xt):Prop:=Lf (1<=y_6∧y_6<=ex.length∧false=shortM ex)
abbrev aOb(mk:Bool)(ty seq ti ss:Int)(cs:QT)(ex:List Xt)(pad:Int):HB:=ofBytes (headBM mk ty seq ti ss cs ex.length pad)
abbrev bQv(y_6:Nat)(ex:List Xt):LA:=extBM false (ex.take y_6)
abbrev aO4(y_6:Nat)(ex:List Xt):HB:=ofBytes (bQv y_6 ex)
abbrev aSk:Prop:=aK (AV.int .i64 4096)
abbrev aTt(mk:Bool)(ty seq ti ss:Int)(cs:QT)(ex:List Xt)(pad:Int):Prop:=aK (AV.sl 1 (headBM mk ty seq ti ss cs ex.length pad).length 0 (headBM mk ty seq ti ss cs ex.length pad).length 1)
abbrev aR6(ex:List Xt):Prop:=aK (AV.int .i64 (ex.length:Int))
abbrev aU4(tx:Nat)(ex:List Xt):Prop:=aK (AV.lst tx (cellsXM ex) ex.length 2)
abbrev lF(y_6:Nat)(ex:List Xt):Nat:=(bQv y_6 ex).length
abbrev aS1(y_6:Nat)(ex:List Xt):AV:=.sl 3 (lF y_6 ex) 0 (lF y_6 ex) 1
abbrev aSc(n_5:Int)(y_6:Nat):Prop:=AV.int .i64 n_5=AV.int .i64 (y_6:Int)∧True
abbrev bHo(n_3:Int):Bool:=decide (0<=n_3)&&decide (n_3<=1099511627776)&&eH (List.replicate n_3.toNat [AV.int .u8 0]).flatten&&true&&Nat.ble (n_3.toNat*1) 1099511627776
abbrev qX(mk:Bool)(ty seq ti ss:Int)(tc:Nat)(cs:QT)(tx:Nat)(ex:List Xt)(pad:Int)(pl:LA):Blk:=Blk.mk BK.exact true (jW mk ty seq ti ss tc cs tx ex pad pl)
abbrev aNz(mk:Bool)(ty seq ti ss:Int)(cs:QT)(ex:List Xt)(pad:Int):Blk:=Blk.mk BK.grow true (ofBytes (headBM mk ty seq ti ss cs ex.length pad))
abbrev aMj(bs_6:LA):Blk:=Blk.mk BK.grow true (ofBytes bs_6)
abbrev bL4(mk:Bool)(ty seq ti ss:Int)(cs:QT)(ex:List Xt)(pad:Int)(bs_6:LA)(n_5:Int)(xs_7:QT):Prop:=(headBM mk ty seq ti ss cs ex.length pad).length=bs_6.length∧(headBM mk ty seq ti ss cs ex.length pad).length=bs_6.length∧bs_6.length<=1000000∧[AV.int .i64 4096,.int .i64 n_5]=aA xs_7∧2=xs_7.length∧(1:Int)<=(2:Int)∧(2:Int)<=(7:Int)∧xs_7.length<=1000000
abbrev bKq(bs_6:LA)(xs_7:QT):Bool:=Nat.beq (ofBytes (bs_6++putMMd 2 xs_7)).length (bs_6++putMMd 2 xs_7).length&&true
abbrev aEl(bs_6:LA)(xs_7:QT):Nat:=(bs_6++putMMd 2 xs_7).length
abbrev aSt(bs_6:LA)(xs_7:QT):Out:=.ret (.sl 1 (aEl bs_6 xs_7) 0 (aEl bs_6 xs_7) 1)
abbrev aVr(bs_6:LA)(xs_7:QT):LA:=bs_6++putMMd 2 xs_7
abbrev aQj(bs_6:LA)(xs_7:QT):Blk:=Blk.mk BK.grow true (ofBytes (aVr bs_6 xs_7))
abbrev aZe(n_3:Int):Nat:=(List.replicate n_3.toNat [AV.int .u8 0]).flatten.length
abbrev bOt(n_3:Int):Bool:=aP 0 (List.replicate n_3.toNat [AV.int .u8 0]).flatten
abbrev aYx(n_3:Int):Blk:=Blk.mk BK.grow (bOt n_3) (List.replicate n_3.toNat [AV.int .u8 0]).flatten
abbrev bAz(bs_6:LA)(xs_7:QT):Bool:=bKq bs_6 xs_7&&Nat.beq (0+aEl bs_6 xs_7*1) (aEl bs_6 xs_7)
abbrev aD2(ex:List Xt):Blk:=Blk.mk BK.exact true (eZ ex)
abbrev xZ(bs_4:LA)(xs_5:QT):Nat:=(bs_4++putMMd 1 xs_5).length
abbrev aL7(x_0:Nat)(ex:List Xt):Bool:=Nat.beq (aO4 x_0 ex).length (lF x_0 ex)
abbrev aO6(x_0:Nat)(ex:List Xt):HB:=((aO4 x_0 ex).drop 0).take (lF x_0 ex*1)
abbrev bDn(x_0:Nat)(ex:List Xt)(n_3:Int):HB:=ofBytes (bQv x_0 ex)++(List.replicate n_3.toNat [AV.int .u8 0]).flatten
abbrev aVa(x_0:Nat)(ex:List Xt)(n_3:Int):HB:=((bDn x_0 ex n_3).drop 0).take ((lF x_0 ex+n_3.toNat)*1)
def aIa(mk:Bool)(ty:Int)(seq:Int)(ti:Int)(ss:Int)(tc:Nat)(cs:QT)(tx:Nat)(ex:List Xt)(pad:Int)(pl:LA)(Q:BS):Prop:=
(∀x_0:Nat,aOk x_0 ex->bif aM6 x_0 ex then ckQ (aNd x_0 ex) (ckQ (aNu x_0 ex) (∃n_1 s_2,aN3 x_0 ex=AV.agg [.int .i64 n_1,.str s_2]∧exI .i64 (s_2.length:Int) (λn_3=>∃xs_4:QT,Lf ([AV.int .i64 n_1,.int
 .i64 n_3]=aA xs_4∧2=xs_4.length∧(1:Int)<=(1:Int)∧(1:Int)<=(7:Int)∧1<=xs_4.length∧xs_4.length<=1000000)∧ckQ (eH (ofBytes s_2)&&true&&Nat.ble (s_2.length*1) 1099511627776) (bif Nat.beq s_2.length 0
 then ckQ (Nat.beq s_2.length 0) (ckQ (Nat.beq (yQ xs_4).length (xL xs_4)&&true) (exW .i64 ((x_0:Int)+1) (λn_5=>aM0∧(aS5 mk ty seq ti ss tc cs tx ex pad pl∨∃y_6:Nat,bF7 y_6 ex∧ex.length-y_6<ex.length +
 1∧aK (jW mk ty seq ti ss tc cs tx ex pad pl)∧aK (aOb mk ty seq ti ss cs ex pad)∧[AV.int .i64 n_1,.str s_2]=eZ ex∧yQ xs_4=aO4 y_6 ex∧aSk∧aTt mk ty seq ti ss cs ex pad∧aR6 ex∧aU4 tx ex∧AV.sl 3
 (xL xs_4) 0 (xL xs_4) 1=aS1 y_6 ex∧aSc n_5 y_6))))else ckQ (Nat.blt 0 s_2.length) (ckQ (Nat.beq (yQ xs_4).length (xL xs_4)&&true&&Nat.beq (0+xL xs_4*1) (xL xs_4)&&Nat.ble (xL xs_4+s_2.length)
 1099511627776&&Nat.ble ((xL xs_4+s_2.length)*1) 1099511627776) (exW .i64 ((x_0:Int)+1) (λn_5=>aM0∧(aS5 mk ty seq ti ss tc cs tx ex pad pl∨∃y_6:Nat,bF7 y_6 ex∧ex.length-y_6<ex.length+1∧aK (jW
 mk ty seq ti ss tc cs tx ex pad pl)∧aK (aOb mk ty seq ti ss cs ex pad)∧[AV.int .i64 n_1,.str s_2]=eZ ex∧ckQ (aP 0 (ofBytes s_2)==true) (yQ xs_4++ofBytes s_2=aO4 y_6 ex∧aSk∧aTt mk ty seq ti ss cs ex pad
 ∧ aR6 ex∧aU4 tx ex∧AV.sl 3 (xL xs_4+(ofBytes s_2).length) 0 (xL xs_4+s_2.length) 1=aS1 y_6 ex∧aSc n_5 y_6)))))))))else exI .i64 0 (λn_1=>exW .i64 (0-n_1) (λn_2=>exW .i64 (((n_2 %
 18446744073709551616).toNat &&& 3:Nat):Int) (λn_3=>ckQ (bHo n_3) (bif decide (n_3=0)then ckQ (yZ n_3) (exI .i64 0 (λn_4=>exW .i64 (n_4.tdiv 4) (λn_5=>∃bs_6:LA,∃xs_7:QT,Lf (GetElem?.getElem?
 [qX mk ty seq ti ss tc cs tx ex pad pl,aNz mk ty seq ti ss cs ex pad] 1=Option.some (aMj bs_6)∧bL4 mk ty seq ti ss cs ex pad bs_6 n_5 xs_7)∧ckQ (bKq bs_6 xs_7) (Q (aSt bs_6 xs_7) [qX mk ty seq ti ss tc cs tx ex pad pl,
 aQj bs_6 xs_7] {}))))else ckQ (Nat.blt 0 n_3.toNat) (ckQ (Nat.ble n_3.toNat 1099511627776&&aL4 n_3) (ckQ (Nat.beq (aZe n_3) (aZe n_3)) (exI .i64 (n_3.toNat:Int) (λn_4=>exW .i64 (n_4.tdiv 4) (λn_5=>∃bs_6:LA,
 ∃xs_7:QT,Lf (GetElem?.getElem? [qX mk ty seq ti ss tc cs tx ex pad pl,aNz mk ty seq ti ss cs ex pad,aYx n_3] 1=Option.some (aMj bs_6)∧bL4 mk ty seq ti ss cs ex pad bs_6 n_5 xs_7)∧ckQ (Nat.beq (aZe n_3) (aZe
 n_3)&&true&&Nat.ble (0+n_3.toNat*1) (aZe n_3)&&aZ7 n_3&&true&&aL4 n_3) (bif yZ n_3 then ckQ (yZ n_3) (ckQ (bKq bs_6 xs_7) (Q (aSt bs_6 xs_7) [qX mk ty seq ti ss tc cs tx ex pad pl,aQj bs_6 xs_7,aYx n_3]
 {}))else ckQ (Nat.blt 0 n_3.toNat) (ckQ (bAz bs_6 xs_7&&Nat.ble (aEl bs_6 xs_7+n_3.toNat) 1099511627776&&Nat.ble ((aEl bs_6 xs_7+n_3.toNat)*1) 1099511627776) (Q (.ret (.sl 1 (aEl bs_6 xs_7+aZl n_3) 0 (aEl bs_6 xs_7 +
 n_3.toNat) 1)) [qX mk ty seq ti ss tc cs tx ex pad pl,Blk.mk BK.grow (aWp n_3) (ofBytes (aVr bs_6 xs_7)++((List.replicate n_3.toNat [AV.int .u8 0]).flatten.drop 0).take (n_3.toNat*1)),aYx n_3] {})))))))))))))∧∀x_0:Nat,
 bF7 x_0 ex->bif aM6 x_0 ex then ckQ (aNd x_0 ex) (ckQ (aNu x_0 ex) (∃n_1 s_2,aN3 x_0 ex=AV.agg [.int .i64 n_1,.str s_2]∧exI .i64 (s_2.length:Int) (λn_3=>∃bs_4:LA,∃xs_5:QT,Lf (GetElem?.getElem?
 [qX mk ty seq ti ss tc cs tx ex pad pl,aNz mk ty seq ti ss cs ex pad,aD2 ex,Blk.mk BK.grow true (aO4 x_0 ex),Blk.mk BK.exact true [.int .i64 n_1,.str s_2]] 3=Option.some (aMj bs_4)∧lF x_0 ex=bs_4.length∧lF x_0 ex
 = bs_4.length∧bs_4.length<=1000000∧[AV.int .i64 n_1,.int .i64 n_3]=aA xs_5∧2=xs_5.length∧aZq xs_5)∧ckQ (eH (ofBytes s_2)&&true&&Nat.ble (s_2.length*1) 1099511627776) (bif Nat.beq s_2.length 0 then ckQ (Nat.beq
 s_2.length 0) (ckQ (Nat.beq (oM bs_4 xs_5).length (xZ bs_4 xs_5)&&true) (exW .i64 ((x_0:Int)+1) (λn_6=>aM0∧((∃y_7:Nat,aOk y_7 ex∧aGb ex x_0∧nL mk ty seq ti ss tc cs tx ex pad pl)∨∃y_7:Nat,bF7
 y_7 ex∧ex.length-y_7<ex.length-x_0∧aK (jW mk ty seq ti ss tc cs tx ex pad pl)∧aK (aOb mk ty seq ti ss cs ex pad)∧aK (eZ ex)∧oM bs_4 xs_5=aO4 y_7 ex∧aSk∧aTt mk ty seq ti ss cs ex pad∧aR6 ex ∧
 aU4 tx ex∧AV.sl 3 (xZ bs_4 xs_5) 0 (xZ bs_4 xs_5) 1=aS1 y_7 ex∧aSc n_6 y_7))))else ckQ (Nat.blt 0 s_2.length) (ckQ (Nat.beq (oM bs_4 xs_5).length (xZ bs_4 xs_5)&&true&&Nat.beq (0+xZ bs_4 xs_5*1) (xZ
 bs_4 xs_5)&&Nat.ble (xZ bs_4 xs_5+s_2.length) 1099511627776&&Nat.ble ((xZ bs_4 xs_5+s_2.length)*1) 1099511627776) (exW .i64 ((x_0:Int)+1) (λn_6=>bif(aP 0 (ofBytes s_2)||aP 4 (oM bs_4 xs_5++ofBytes s_2))
 && true then aM0∧((∃y_7:Nat,aOk y_7 ex∧aGb ex x_0∧nL mk ty seq ti ss tc cs tx ex pad pl)∨∃y_7:Nat,bF7 y_7 ex∧ex.length-y_7<ex.length-x_0∧aK (jW mk ty seq ti ss tc cs tx ex pad pl)∧aK (aOb mk
 ty seq ti ss cs ex pad)∧aK (eZ ex)∧ckQ (aP 0 (ofBytes s_2)==true) (oM bs_4 xs_5++ofBytes s_2=aO4 y_7 ex∧aSk∧aTt mk ty seq ti ss cs ex pad∧aR6 ex∧aU4 tx ex∧AV.sl 3 (xZ bs_4 xs_5+(ofBytes
 s_2).length) 0 (xZ bs_4 xs_5+s_2.length) 1=aS1 y_7 ex∧aSc n_6 y_7))else aM0∧((∃y_7:Nat,aOk y_7 ex∧aGb ex x_0∧nL mk ty seq ti ss tc cs tx ex pad pl)∨∃y_7:Nat,bF7 y_7 ex∧ex.length-y_7<ex.length
 - x_0∧aK (jW mk ty seq ti ss tc cs tx ex pad pl)∧aK (aOb mk ty seq ti ss cs ex pad)∧aK (eZ ex)∧ckQ (aP 0 (ofBytes s_2)==true) (oM bs_4 xs_5++ofBytes s_2=aO4 y_7 ex∧False)))))))))else ckQ (aL7 x_0 ex)
 (exI .i64 (lF x_0 ex:Int) (λn_1=>exW .i64 (0-n_1) (λn_2=>exW .i64 (((n_2%18446744073709551616).toNat &&& 3:Nat):Int) (λn_3=>ckQ (bHo n_3) (bif decide (n_3=0)then ckQ (yZ n_3) (ckQ (aL7 x_0 ex&&true)
 (ckQ (aL7 x_0 ex) (exI .i64 (lF x_0 ex:Int) (λn_4=>exW .i64 (n_4.tdiv 4) (λn_5=>∃bs_6:LA,∃xs_7:QT,Lf (GetElem?.getElem? [qX mk ty seq ti ss tc cs tx ex pad pl,aNz mk ty seq ti ss cs ex pad,aD2
 ex,Blk.mk BK.grow true (aO4 x_0 ex)] 1=Option.some (aMj bs_6)∧bL4 mk ty seq ti ss cs ex pad bs_6 n_5 xs_7)∧ckQ (aL7 x_0 ex&&true&&Nat.ble (0+lF x_0 ex*1) (lF x_0 ex)&&eH (aO6 x_0 ex)&&true&&Nat.ble (lF
 x_0 ex*1) 1099511627776) (bif Nat.beq (lF x_0 ex) 0 then ckQ (Nat.beq (lF x_0 ex) 0) (ckQ (bKq bs_6 xs_7) (Q (aSt bs_6 xs_7) [qX mk ty seq ti ss tc cs tx ex pad pl,aQj bs_6 xs_7,aD2 ex,Blk.mk BK.grow true (aO4 x_0 ex)]
 {}))else ckQ (Nat.blt 0 (lF x_0 ex)) (ckQ (bAz bs_6 xs_7&&Nat.ble (aEl bs_6 xs_7+lF x_0 ex) 1099511627776&&Nat.ble ((aEl bs_6 xs_7+lF x_0 ex)*1) 1099511627776) (Q (.ret (.sl 1 (aEl bs_6 xs_7+(aO6 x_0 ex).length) 0
 (aEl bs_6 xs_7+lF x_0 ex) 1)) [qX mk ty seq ti ss tc cs tx ex pad pl,Blk.mk BK.grow (aP 0 (aO6 x_0 ex)) (ofBytes (aVr bs_6 xs_7)++aO6 x_0 ex),aD2 ex,Blk.mk BK.grow true (aO4 x_0 ex)] {}))))))))else ckQ (Nat.blt 0
 n_3.toNat) (ckQ (aL7 x_0 ex&&true&&Nat.beq (0+lF x_0 ex*1) (lF x_0 ex)&&Nat.ble (lF x_0 ex+n_3.toNat) 1099511627776&&Nat.ble ((lF x_0 ex+n_3.toNat)*1) 1099511627776) (ckQ (Nat.beq (bDn x_0 ex n_3).length (lF
 x_0 ex+aZe n_3)) (exI .i64 ((lF x_0 ex+n_3.toNat:Nat):Int) (λn_4=>exW .i64 (n_4.tdiv 4) (λn_5=>∃bs_6:LA,∃xs_7:QT,Lf (GetElem?.getElem? [qX mk ty seq ti ss tc cs tx ex pad pl,aNz mk ty seq ti
 ss cs ex pad,aD2 ex,Blk.mk BK.grow (bOt n_3) (bDn x_0 ex n_3)] 1=Option.some (aMj bs_6)∧bL4 mk ty seq ti ss cs ex pad bs_6 n_5 xs_7)∧ckQ (Nat.beq (bDn x_0 ex n_3).length (lF x_0 ex+aZe n_3)&&true&&Nat.ble (0 +
 (lF x_0 ex+n_3.toNat)*1) (lF x_0 ex+aZe n_3)&&eH (aVa x_0 ex n_3)&&true&&Nat.ble ((lF x_0 ex+n_3.toNat)*1) 1099511627776) (bif Nat.beq (lF x_0 ex+n_3.toNat) 0 then ckQ (Nat.beq (lF x_0 ex+n_3.toNat) 0)
 (ckQ (bKq bs_6 xs_7) (Q (aSt bs_6 xs_7) [qX mk ty seq ti ss tc cs tx ex pad pl,aQj bs_6 xs_7,aD2 ex,Blk.mk BK.grow (bOt n_3) (bDn x_0 ex n_3)] {}))else ckQ (Nat.blt 0 (lF x_0 ex+n_3.toNat)) (ckQ (bAz bs_6 xs_7 &&
 Nat.ble (aEl bs_6 xs_7+(lF x_0 ex+n_3.toNat)) 1099511627776&&Nat.ble ((aEl bs_6 xs_7+(lF x_0 ex+n_3.toNat))*1) 1099511627776) (Q (.ret (.sl 1 (aEl bs_6 xs_7+(aVa x_0 ex n_3).length) 0 (aEl bs_6 xs_7+(lF x_0 ex +
 n_3.toNat)) 1)) [qX mk ty seq ti ss tc cs tx ex pad pl,Blk.mk BK.grow (aP 0 (aVa x_0 ex n_3)) (ofBytes (aVr bs_6 xs_7)++aVa x_0 ex n_3),aD2 ex,Blk.mk BK.grow (bOt n_3) (bDn x_0 ex n_3)] {})))))))))))))
@[reducible] def bS5(mk:Bool)(ty seq ti ss:Int)(tc:Nat)(cs:QT)(tx:Nat)(ex:List Xt)(pad:Int)(pl:LA)(bs:LA)(xs:QT)(Q:BS):Prop:=
(∃n_13:Int,(((AV.int .i64 (Nat.cast (List.length ex):Int))=(AV.int .i64 n_13)) ∧
 (bif(n_13==(0:Int))then(Q (Out.ret (AV.sl (1:Nat) (List.length (bs++(putMMd (4:Nat) xs))) (0:Nat) (List.length (bs++(putMMd (4:Nat) xs))) (1:Nat))) ((Blk.mk BK.exact true (jW mk ty seq ti ss tc cs tx ex pad pl))::((Blk.mk BK.grow true (ofBytes (bs++(putMMd (4:Nat) xs))))::[])) (Gh.mk (0:Nat) (0:Nat) []))
else(∃ex_14:(List Xt),((Lf (((cellsXM ex)=(cellsXM ex_14)) ∧
 (((List.length ex)=(List.length ex_14)) ∧
 (((List.length ex_14)<=(1000000:Nat)) ∧
 (aNb ex_14))))) ∧
 (bif(shortM ex_14)then(∃n_15:Int,(((AV.int .i64 (Nat.cast (List.length ex):Int))=(AV.int .i64 n_15)) ∧
 (((∃x_16:Nat,((Lf ((x_16=(0:Nat)) ∧
 (true=(shortM ex)))) ∧
 (((jW mk ty seq ti ss tc cs tx ex pad pl)=(jW mk ty seq ti ss tc cs tx ex pad pl)) ∧
 (((ofBytes (bs++(putMMd (4:Nat) xs)))=(ofBytes (headBM mk ty seq ti ss cs (List.length ex) pad))) ∧
 (((AV.int .i64 (48862:Int))=(AV.int .i64 (48862:Int))) ∧
 (((AV.sl (1:Nat) (List.length (bs++(putMMd (4:Nat) xs))) (0:Nat) (List.length (bs++(putMMd (4:Nat) xs))) (1:Nat))=(AV.sl (1:Nat) (List.length (headBM mk ty seq ti ss cs (List.length ex) pad)) (0:Nat) (List.length (headBM mk ty seq ti ss cs (List.length ex) pad)) (1:Nat))) ∧
 (((AV.int .i64 n_15)=(AV.int .i64 (Nat.cast (List.length ex):Int))) ∧
 (((AV.lst tx (cellsXM ex) (List.length ex) (2:Nat))=(AV.lst tx (cellsXM ex) (List.length ex) (2:Nat))) ∧
 ((AV.nils=AV.nils) ∧
 (((AV.int .i64 (0:Int))=(AV.int .i64 (Nat.cast x_16:Int))) ∧
 True)))))))))) ∨
 (∃x_16:Nat,((Lf (((1:Nat)<=x_16) ∧
 ((x_16<=(List.length ex)) ∧
 (true=(shortM ex))))) ∧
 (((jW mk ty seq ti ss tc cs tx ex pad pl)=(jW mk ty seq ti ss tc cs tx ex pad pl)) ∧
 (((ofBytes (bs++(putMMd (4:Nat) xs)))=(ofBytes (headBM mk ty seq ti ss cs (List.length ex) pad))) ∧
 False))))) ∧
 (aG2 mk ty seq ti ss tc cs tx ex pad pl Q))))
else(∃n_15:Int,(((AV.int .i64 (Nat.cast (List.length ex):Int))=(AV.int .i64 n_15)) ∧
 (((∃x_16:Nat,((Lf ((x_16=(0:Nat)) ∧
 (false=(shortM ex)))) ∧
 (((jW mk ty seq ti ss tc cs tx ex pad pl)=(jW mk ty seq ti ss tc cs tx ex pad pl)) ∧
 (((ofBytes (bs++(putMMd (4:Nat) xs)))=(ofBytes (headBM mk ty seq ti ss cs (List.length ex) pad))) ∧
 (((AV.int .i64 (4096:Int))=(AV.int .i64 (4096:Int))) ∧
 (((AV.sl (1:Nat) (List.length (bs++(putMMd (4:Nat) xs))) (0:Nat) (List.length (bs++(putMMd (4:Nat) xs))) (1:Nat))=(AV.sl (1:Nat) (List.length (headBM mk ty seq ti ss cs (List.length ex) pad)) (0:Nat) (List.length (headBM mk ty seq ti ss cs (List.length ex) pad)) (1:Nat))) ∧
 (((AV.int .i64 n_15)=(AV.int .i64 (Nat.cast (List.length ex):Int))) ∧
 (((AV.lst tx (cellsXM ex) (List.length ex) (2:Nat))=(AV.lst tx (cellsXM ex) (List.length ex) (2:Nat))) ∧
 ((AV.nils=AV.nils) ∧
 (((AV.int .i64 (0:Int))=(AV.int .i64 (Nat.cast x_16:Int))) ∧
 True)))))))))) ∨
 (∃x_16:Nat,((Lf (((1:Nat)<=x_16) ∧
 ((x_16<=(List.length ex)) ∧
 (false=(shortM ex))))) ∧
 (((jW mk ty seq ti ss tc cs tx ex pad pl)=(jW mk ty seq ti ss tc cs tx ex pad pl)) ∧
 (((ofBytes (bs++(putMMd (4:Nat) xs)))=(ofBytes (headBM mk ty seq ti ss cs (List.length ex) pad))) ∧
 False))))) ∧
 (aIa mk ty seq ti ss tc cs tx ex pad pl Q))))))))))
abbrev bUk(mk:Bool)(ty seq ti ss:Int)(tc:Nat)(cs:QT)(tx:Nat)(ex:List Xt)(pad:Int)(pl:LA)(xs_6:QT)(Q:BS):Prop:=∃bs_7:LA,∃xs_8:QT,Lf (GetElem?.getElem? [lM mk ty seq ti ss tc cs tx ex pad pl,Blk.mk BK.grow true (ofBytes (putMMd 1 xs_6))] 1=Option.some (zH bs_7)∧oL xs_6=bs_7.length∧oL xs_6=bs_7.length∧bs_7.length<=1000000∧[AV.int .i64 seq]=aA xs_8∧1=xs_8.length∧bAa xs_8)∧∃bs_9:LA,∃xs_10:QT,Lf (GetElem?.getElem? [lM mk ty seq ti ss tc cs tx ex pad pl,aH4 bs_7 xs_8] 1=Option.some (zH bs_9)∧aAd bs_7 xs_8=bs_9.length∧aAd bs_7 xs_8=bs_9.length∧bs_9.length<=1000000∧[AV.int .i64 ti,.int .i64 ss]=aA xs_10∧2=xs_10.length∧(1:Int)<=(4:Int)∧(4:Int)<=(7:Int)∧xs_10.length<=1000000)∧∃bs_11:LA,∃xs_12:QT,Lf (GetElem?.getElem? [lM mk ty seq ti ss tc cs tx ex pad pl,Blk.mk BK.grow true (ofBytes (bs_9++putMMd 4 xs_10))] 1=Option.some (zH bs_11)∧(bs_9++putMMd 4 xs_10).length=bs_11.length∧(bs_9++putMMd 4 xs_10).length=bs_11.length∧bs_11.length<=1000000∧aA cs=aA xs_12∧cs.length=xs_12.length∧(1:Int)<=(4:Int)∧(4:Int)<=(7:Int)∧xs_12.length<=1000000)∧bS5 mk ty seq ti ss tc cs tx ex pad pl bs_11 xs_12 Q
abbrev bLd(mk:Bool)(ty n_4 seq ti ss:Int)(tc:Nat)(cs:QT)(tx:Nat)(ex:List Xt)(pad:Int)(pl:LA)(Q:BS):Prop:=bif mk then exW .i64 ((rC ty ||| 128:Nat):Int) (λn_5=>∃xs_6:QT,Lf ([AV.int .i64 n_4,.int .i64 n_5]=aA xs_6∧2=xs_6.length∧aVs xs_6)∧bUk mk ty seq ti ss tc cs tx ex pad pl xs_6 Q)else ∃xs_5:QT,Lf ([AV.int .i64 n_4,.int .i64 ty]=aA xs_5∧2=xs_5.length∧aVs xs_5)∧bUk mk ty seq ti ss tc cs tx ex pad pl xs_5 Q
theorem bEr(mk:Bool)(ty:Int)(seq:Int)(ti:Int)(ss:Int)(tc:Nat)(cs:QT)(tx:Nat)(ex:List Xt)(pad:Int)(pl:LA)(Q:BS):wR (aW [(544780,.int .i64),(544781,.int .i64),(544788,.int .i64),(544791,.int .i64),(544794,.int .i64),(544798,.int .i64),(544821,.int .i64),(544829,.int .i64),(544833,.agg [(.int .i64),(.str)]),(544839,.int .i64),(544842,.int .i64),(544843,.int .i64),(544844,.int .i64),(544859,.int .i64),(544862,.int .i64),(544863,.int .i64),(544864,.int .i64),(544869,.int .i64),(544870,.int .i64),(544852,.int .i64)]) (aV []) mk ty seq ti ss tc cs tx ex pad pl Q=(exI .i64 (cs.length:Int) (λn_0=>exW .i64 ((128 ||| rC n_0:Nat):Int) (λn_1=>bif decide (pad>0)then exW .i64 ((rC n_1 ||| 32:Nat):Int) (λn_2=>exI .i64 (ex.length:Int) (λn_3=>bif decide (n_3>0)then exW .i64 ((rC n_2 ||| 16:Nat):Int) (λn_4=>bLd mk ty n_4 seq ti ss tc cs tx ex pad pl Q)else bLd mk ty n_2 seq ti ss tc cs tx ex pad pl Q))else exI .i64 (ex.length:Int) (λn_2=>bif decide (n_2>0)then exW .i64 ((rC n_1 ||| 16:Nat):Int) (λn_3=>bLd mk ty n_3 seq ti ss tc cs tx ex pad pl Q)else bLd mk ty n_1 seq ti ss tc cs tx ex pad pl Q)))):=by kernel_rfl

theorem oH{a b:Nat}{A B:Prop}(h:a=b->A)(k:a≠b->B):bif Nat.beq a b then A else B:=by
 cases e:Nat.beq a b
 ·exact k (Nat.ne_of_beq_eq_false e)
 ·exact h (bYg e)
theorem aFk(n:Int)(h : -9223372036854775808<=n∧n<=9223372036854775807):IntKind.wrap .i64 n=n:=by rw[cBe];omega
theorem bV9{x y:Int}{a b r:Nat}(hx:x=(a:Int))(hy:y=(b:Int))(ha:a<=1000000)(hb:b<=1000000)(hr:a ||| b=r)(hr2:r<=4000000){K:Int->Prop}(h:K ((r:Nat):Int)):∃n:Int,AV.int .i64 (IntKind.wrap .i64 (((x%18446744073709551616).toNat ||| (y%18446744073709551616).toNat:Nat):Int))=AV.int .i64 n∧K n:=by
 subst hx hy
 have e1:((a:Int)%18446744073709551616).toNat=a:=by omega
 have e2:((b:Int)%18446744073709551616).toNat=b:=by omega
 rw[e1,e2,hr]
 exact⟨_,by rw[aFk _ ⟨by omega,by omega⟩],h⟩
theorem bGk{x:Int}{a b r:Nat}(hx:x=(a:Int))(ha:a<=1000000)(hr:a ||| b=r)(hr2:r<=4000000){K:Int->Prop}(h:K ((r:Nat):Int)):∃n:Int,AV.int .i64 (IntKind.wrap .i64 (((x%18446744073709551616).toNat ||| b:Nat):Int))=AV.int .i64 n∧K n:=by
 subst hx
 have e1:((a:Int)%18446744073709551616).toNat=a:=by omega
 rw[e1,hr]
 exact⟨_,by rw[aFk _ ⟨by omega,by omega⟩],h⟩
theorem bW0{x:Int}{a b r:Nat}(hx:x=(a:Int))(ha:a<=1000000)(hr:b ||| a=r)(hr2:r<=4000000){K:Int->Prop}(h:K ((r:Nat):Int)):∃n:Int,AV.int .i64 (IntKind.wrap .i64 ((b ||| (x%18446744073709551616).toNat:Nat):Int))=AV.int .i64 n∧K n:=by
 subst hx
 have e1:((a:Int)%18446744073709551616).toNat=a:=by omega
 rw[e1,hr]
 exact⟨_,by rw[aFk _ ⟨by omega,by omega⟩],h⟩
theorem bOw{x:Int}{z:Nat}(hz:(z:Int)=x%4){K:Int->Prop}(h:K ((z:Nat):Int)):∃n:Int,AV.int .i64 (IntKind.wrap .i64 (((x%18446744073709551616).toNat &&& 3:Nat):Int))=AV.int .i64 n∧K n:=by
 have e1:((x%18446744073709551616).toNat &&& 3)=(x%18446744073709551616).toNat%4:=bY2 _ 2
 have e2:(x%18446744073709551616).toNat%4=z:=by omega
 rw[e1,e2]
 exact⟨_,by rw[aFk _ ⟨by omega,by omega⟩],h⟩
theorem tdI{x:Int}{m d:Nat}(hx:x=(m:Int))(hm:m<=1000000000){K:Int->Prop}(h:K ((m/d:Nat):Int)):∃n:Int,AV.int .i64 (IntKind.wrap .i64 (Int.tdiv x (d:Int)))=AV.int .i64 n∧K n:=by
 subst hx
 have e1:Int.tdiv (m:Int) (d:Int)=((m/d:Nat):Int):=rfl
 have h2:m/d<=m:=cCz _ _
 rw[e1]
 generalize m/d=q at *
 exact⟨_,by rw[aFk _ ⟨by omega,by omega⟩],h⟩
theorem aKa(n:Nat):List.flatten (List.replicate n [AV.int .u8 0])=ofBytes (List.replicate n 0):=by
 induction n with
 | zero=>rfl
 | succ n ih=>rw[bZl,bZv,ih,bZl];rfl
theorem aXw(sh:Bool)(a b:List Xt):extBM sh (a++b)=extBM sh a++extBM sh b:=by
 induction a with
 | nil=>rfl
 | cons x a ih=>simp only[bX0,extBM,ih,bW9]
def jS(sh:Bool)(x:Xt):LA:=if sh=true then putMMd 1 [x.1*16+(x.2.length-1)]else putMMd 1 [x.1,(x.2.length:Int)]
theorem jQ(sh:Bool){ex:List Xt}{i:Nat}(hi:i<ex.length):extBM sh (ex.take (i+1))=extBM sh (ex.take i)++(jS sh ex[i]++ex[i].2):=by
 rw[bYm,bW8 hi,Option.toList_some,aXw,extBM,extBM,bXs]
 rfl
theorem iF(sh:Bool)(x:Xt):1<=(jS sh x).length∧(jS sh x).length<=2:=by
 unfold jS
 split
 ·rw[put_lenMd];simp
 ·rw[put_lenMd];simp
theorem oI:∀ (l:List Xt) (a:Int),0<=a->extsOkM a l=true->∀x∈l,0<x.1∧x.1<=255∧x.2.length<=255
 | [],_,_,_,x,hx=>by simp at hx
 | y::l,a,ha,h,x,hx=>by
  rw[extsOkM,bW3,bW6]at h
  rcases bXd.1 hx with rfl | hx
  ·exact⟨by omega,h.1.2.1,h.1.2.2⟩
  ·exact oI l y.1 (by omega) h.2 x hx
theorem extB_len(sh:Bool):∀ (l:List Xt),(∀x∈l,x.2.length<=255)->(extBM sh l).length<=257*l.length
 | [],_=>by simp[extBM]
 | x::l,h=>by
  have h1:=extB_len sh l λy hy=>h y (by simp[hy])
  have h2:=h x (by simp)
  have h3:=iF sh x
  have e:extBM sh (x::l)=jS sh x++x.2++extBM sh l:=rfl
  rw[e,bW2,bW2,bXc]
  omega
theorem short_at{ex:List Xt}(h:shortM ex=true):∀x∈ex,x.1<=14∧1<=x.2.length∧x.2.length<=16:=λx hx=>by
 have h1:ex.any isLongM=false:=by rw[shortM,bYc]at h;exact h
 have h2:=cAp.1 h1 x hx
 simp only[isLongM,bXh,bW6,not_or]at h2
 omega
theorem aEm{ex:List Xt}(h:0<ex.length):eZ ex=[.int .i64 ex[0].1,.str ex[0].2]:=by
 have:=yD h (m:=0) (by omega)
 simpa[eZ]using this
theorem bVu(a b:Nat)(hb:b<16):a*16 ||| b=a*16+b:=by
 have:=bZq (i:=4) hb a
 rw[show(2:Nat)^4=16 from rfl,bZz 16 a]at this
 exact this.symm
theorem tT(mk:Bool)(ty seq ti ss:Int)(cs:QT)(n:Nat)(pad:Int):(headBM mk ty seq ti ss cs n pad).length=12+4*cs.length:=by
 unfold headBM
 simp only[bW2,put_lenMd,bXc,bXm]
def aVn(mk:Bool)(ty seq ti ss:Int)(tc:Nat)(cs:QT)(tx:Nat)(ex:List Xt)(pad:Int)(pl:LA)(Q:BS):Prop:=
 ∀ (tot len:Nat) (lf:Bool) (c:HB) (g:HV),tot=(headM mk ty seq ti ss cs ex pad).length->len=(headM mk ty seq ti ss cs ex pad).length->lf=true->c=ofBytes (headM mk ty seq ti ss cs ex pad)->Q (.ret (.sl 1 tot 0 len 1)) (⟨.exact,true,jW mk ty seq ti ss tc cs tx ex pad pl⟩::⟨.grow,lf,c⟩::g) {}
theorem ckI2{b:Bool}{A B:Prop}(h:b=true)(k:A):bif b then A else B:=by rw[h];exact k
theorem bUv(mk:Bool)(ty seq ti ss:Int)(tc:Nat)(cs:QT)(tx:Nat)(ex:List Xt)(pad:Int)(pl:LA)(Q:BS)(hcs:cs.length<=15)(hex:ex.length<=16)(hne:0<ex.length)(hx:extsOkM 0 ex=true)(hq:aVn mk ty seq ti ss tc cs tx ex pad pl Q):aG2 mk ty seq ti ss tc cs tx ex pad pl Q:=by
 unfold aG2
 delta bEp bRr aUb aF4 aT1 lG aM2 lM aAd bAm bJ5 aH4 aUk bAd bOv bAa zH sH aNf aOy aRi yZ bFt rC oM aHe aGb aNn aOn aPv aVm yE aS4 aSw aT4 aUz aZq aN3 aNu aNd aM6 bAy aWp aZl aL4 aZ7 oL yQ aVs
 have hall:=oI ex 0 (cCc _) hx
 have hhl:=tT mk ty seq ti ss cs ex.length pad
 refine⟨?_, ?_⟩
 ·rintro _ ⟨rfl,hsh⟩
  have hs:=short_at hsh.symm
  refine aH (λ_ => ?_) (λh=>by exfalso;omega)
  have hm:=bXk hne
  have ha:=hall _ hm
  have hs0:=hs _ hm
  have fx:=aEm hne
  have et:=jQ true hne
  have pl1:=iF true ex[0]
  rw[bZ3,extBM,bX2]at et
  refine ckO (ckI (by rw[fA];simp;omega) (bKw hne (by simp) (aF ⟨_,rfl,aF ?_⟩)))
  obtain⟨id,hid⟩:∃n:Nat,ex[0].1=n:=⟨ex[0].1.toNat,by omega⟩
  have hp:putMMd 1 [((id*16+(ex[0].2.length-1):Nat):Int)]=jS true ex[0]:=by
   rw[jS,if_pos rfl,hid]
   congr 2
   omega
  refine bV9 (a:=id*16) (b:=ex[0].2.length-1) (r:=id*16+(ex[0].2.length-1)) (by omega) (by omega) (by omega) (by omega) (bVu _ _ (by omega)) (by omega) ⟨[((id*16+(ex[0].2.length-1):Nat):Int)],⟨rfl,rfl,by omega,by omega,by simp,by simp⟩, ?_⟩
  rw[hp]
  refine ckI (by rw[dB];simp;omega) (oH (λh=>by exfalso;omega) (λh=>ckI (bltQ_iff.2 (by omega)) (ckI (by simp[aL];omega) (aF ⟨⟨trivial,rfl⟩,.inr ⟨1,⟨by omega,by omega,hsh⟩,by omega,rfl,rfl,fx.symm,ckI (by rw[aZ];rfl) ⟨by rw[dF,et],rfl,rfl,rfl,rfl,by rw[et,bW2,aL],rfl,trivial⟩⟩⟩))))
 ·rintro i ⟨h1i,hi,hsh⟩
  have hs:=short_at hsh.symm
  refine aH (λhlt => ?_) (λhge => ?_)
  ·have hlt':i<ex.length:=by omega
   have hm:=bXk hlt'
   have ha:=hall _ hm
   have hs0:=hs _ hm
   have et:=jQ true hlt'
   have pl1:=iF true ex[i]
   have hXl:=extB_len true (ex.take i) λx hx=>(hall x (cAi hx)).2.2
   rw[bXg,bYf hi]at hXl
   refine ckO (ckI (by rw[fA];simp;omega) (bKw hlt' (by simp) (aF ⟨_,rfl,aF ?_⟩)))
   obtain⟨id,hid⟩:∃n:Nat,ex[i].1=n:=⟨ex[i].1.toNat,by omega⟩
   have hp:putMMd 1 [((id*16+(ex[i].2.length-1):Nat):Int)]=jS true ex[i]:=by
    rw[jS,if_pos rfl,hid]
    congr 2
    omega
   refine bV9 (a:=id*16) (b:=ex[i].2.length-1) (r:=id*16+(ex[i].2.length-1)) (by omega) (by omega) (by omega) (by omega) (bVu _ _ (by omega)) (by omega) ⟨extBM true (ex.take i),[((id*16+(ex[i].2.length-1):Nat):Int)],⟨rfl,rfl,rfl,by omega,rfl,rfl,by omega,by omega,by simp⟩, ?_⟩
   rw[hp]
   refine ckI (by rw[dB];simp;omega) (oH (λh=>by exfalso;omega) (λh=>ckI (bltQ_iff.2 (by omega)) (ckI (by simp[aL];omega) (aF (ckI2 (by rw[aZ];rfl) ⟨⟨trivial,rfl⟩,.inr ⟨i+1,⟨by omega,by omega,hsh⟩,by omega,rfl,rfl,rfl,ckI (by rw[aZ];rfl) ⟨by rw[dF,et,bW9],rfl,rfl,rfl,rfl,by rw[et,aL,bW2,bW2,bW2,bYp],rfl,trivial⟩⟩⟩)))))
  ·have hi:i=ex.length:=by omega
   subst hi
   rw[bX8]
   have hel:=extB_len true ex λx hx=>(hall x hx).2.2
   have hE1:1<=(extBM true ex).length:=by
    have e1:=jQ true (ex:=ex) (i:=ex.length-1) (by omega)
    have e2:=iF true ex[ex.length-1]
    rw[show ex.length-1+1=ex.length by omega,bX8]at e1
    rw[e1,bW2,bW2]
    omega
   have hq:=hq
   unfold aVn headM extPM at hq
   rw[if_neg (by omega),←hsh]at hq
   generalize hE:extBM true ex=E at *
   have hz:∃z:Nat,z=(4-E.length%4)%4:=⟨_,rfl⟩
   obtain⟨z,hz⟩:=hz
   have hzz:zerosMMd E.length=List.replicate z 0:=by rw[zerosMMd,hz]
   rw[hzz]at hq
   have hZ:(List.replicate z (0:UInt8)).length=z:=bXb
   refine ckI (by rw[aL];simp) ⟨_,rfl,aF (bOw (z:=z) (by omega) ?_)⟩
   simp only[aKa,bXf]
   refine ckI (by rw[dB];simp;omega) (aH (λh0 => ?_) (λh0 => ?_))
   ·have hz0:z=0:=by omega
    subst hz0
    simp only[bYz,bXs]at hq
    refine ckI rfl (ckI (by rw[aL];simp) (ckI (by rw[aL];simp) ⟨_,rfl,tdI (m:=E.length) rfl (by omega) ⟨headBM mk ty seq ti ss cs ex.length pad,[48862,((E.length/4:Nat):Int)],⟨rfl,rfl,rfl,by omega,rfl,rfl,by omega,by omega,by simp⟩, ?_⟩⟩))
    refine ckI ?_ (oH (λh=>by exfalso;omega) (λh=>ckI (bltQ_iff.2 (by omega)) (ckI ?_ (hq _ _ _ _ _ ?_ ?_ ?_ ?_))))
    ·have e1:List.take (E.length*1) (List.drop 0 (ofBytes E))=ofBytes E:=by rw[bXl,bW4 (by rw[aL];omega)]
     rw[e1,dB,aL];simp;omega
    ·simp only[aL,bW2,put_lenMd,bXc,bXm];simp;omega
    ·rw[cAc,bXl,bW4 (by rw[aL];omega),aL]
     simp only[bW2,put_lenMd,zL]
     simp
     omega
    ·simp only[bW2,put_lenMd,zL]
     simp
     omega
    ·rw[cAc,bXl,bW4 (by rw[aL];omega),aZ]
    ·rw[cAc,bXl,bW4 (by rw[aL];omega),dF,bW9]
     rfl
   ·have hz1:1<=z:=by omega
    have hEZ:(E++List.replicate z (0:UInt8)).length=E.length+z:=by rw[bW2,hZ]
    refine ckI (bltQ_iff.2 (by omega)) (ckI (by rw[aL];simp;omega) (ckI (by rw[dF,aL,aL,bW2];simp) ⟨_,rfl,tdI (m:=E.length+z) (by omega) (by omega) ⟨headBM mk ty seq ti ss cs ex.length pad,[48862,(((E.length+z)/4:Nat):Int)],⟨rfl,rfl,rfl,by omega,rfl,rfl,by omega,by omega,by simp⟩, ?_⟩⟩))
    have e1:List.take ((E.length+z)*1) (List.drop 0 (ofBytes (E++List.replicate z (0:UInt8))))=ofBytes (E++List.replicate z 0):=by rw[bXl,bW4 (by rw[aL,hEZ];omega)]
    rw[dF,e1]
    refine ckI ?_ (oH (λh=>by exfalso;omega) (λh=>ckI (bltQ_iff.2 (by omega)) (ckI ?_ (hq _ _ _ _ _ ?_ ?_ ?_ ?_))))
    ·rw[dB,aL,aL,hEZ,hZ];simp;omega
    ·simp only[aL,bW2,put_lenMd,bXc,bXm];simp;omega
    ·rw[aL]
     simp only[bW2,put_lenMd,zL,hZ]
     simp
     omega
    ·simp only[bW2,put_lenMd,zL,hZ]
     simp
     omega
    ·rw[aZ]
    ·rw[dF,bW9,bW2,hZ]
     rfl
theorem bVk(mk:Bool)(ty seq ti ss:Int)(tc:Nat)(cs:QT)(tx:Nat)(ex:List Xt)(pad:Int)(pl:LA)(Q:BS)(hcs:cs.length<=15)(hex:ex.length<=16)(hne:0<ex.length)(hx:extsOkM 0 ex=true)(hq:aVn mk ty seq ti ss tc cs tx ex pad pl Q):aIa mk ty seq ti ss tc cs tx ex pad pl Q:=by
 unfold aIa
 delta bDn bQv bOt aD2 aVa lF aVr qX aEl bAz bKq aQj aSt aZe bL4 aMj aNz aL7 aO4 aO6 yZ bHo oM aOb bF7 aGb aOk aM0 aSc aS1 xZ aU4 aR6 aTt aSk aZq aN3 aNu aNd aM6 aYx aWp aZl aL4 aZ7 xL yQ
 have hall:=oI ex 0 (cCc _) hx
 have hhl:=tT mk ty seq ti ss cs ex.length pad
 refine⟨?_, ?_⟩
 ·rintro _ ⟨rfl,hsh⟩
  refine aH (λ_ => ?_) (λh=>by exfalso;omega)
  have hm:=bXk hne
  have ha:=hall _ hm
  have fx:=aEm hne
  have et:=jQ false hne
  have pl1:=iF false ex[0]
  rw[bZ3,extBM,bX2]at et
  have hp:putMMd 1 [ex[0].1,(ex[0].2.length:Int)]=jS false ex[0]:=by rw[jS,if_neg (by simp)]
  refine ckO (ckI (by rw[fA];simp;omega) (bKw hne (by simp) ⟨_,rfl,[ex[0].1,(ex[0].2.length:Int)],⟨rfl,rfl,by omega,by omega,by simp,by simp⟩, ?_⟩))
  rw[hp]
  refine ckI (by rw[dB];simp;omega) (oH (λh => ?_) (λh=>ckI (bltQ_iff.2 (by omega)) (ckI (by simp[aL];omega) (aF ⟨⟨trivial,rfl⟩,.inr ⟨1,⟨by omega,by omega,hsh⟩,by omega,rfl,rfl,fx.symm,ckI (by rw[aZ];rfl) ⟨by rw[dF,et],rfl,rfl,rfl,rfl,by rw[et,bW2,aL],rfl,trivial⟩⟩⟩))))
  have hnil:ex[0].2=[]:=bYq.1 h
  rw[hnil,bXs]at et
  exact ckI (by rw[h];rfl) (ckI (by simp[aL]) (aF ⟨⟨trivial,rfl⟩,.inr ⟨1,⟨by omega,by omega,hsh⟩,by omega,rfl,rfl,fx.symm,by rw[et],rfl,rfl,rfl,rfl,by rw[et],rfl,trivial⟩⟩))
 ·rintro i ⟨h1i,hi,hsh⟩
  refine aH (λhlt => ?_) (λhge => ?_)
  ·have hlt':i<ex.length:=by omega
   have hm:=bXk hlt'
   have ha:=hall _ hm
   have et:=jQ false hlt'
   have pl1:=iF false ex[i]
   have hXl:=extB_len false (ex.take i) λx hx=>(hall x (cAi hx)).2.2
   rw[bXg,bYf hi]at hXl
   have hp:putMMd 1 [ex[i].1,(ex[i].2.length:Int)]=jS false ex[i]:=by rw[jS,if_neg (by simp)]
   refine ckO (ckI (by rw[fA];simp;omega) (bKw hlt' (by simp) ⟨_,rfl,extBM false (ex.take i),[ex[i].1,(ex[i].2.length:Int)],⟨rfl,rfl,rfl,by omega,rfl,rfl,by omega,by omega,by simp⟩, ?_⟩))
   rw[hp]
   refine ckI (by rw[dB];simp;omega) (oH (λh => ?_) (λh=>ckI (bltQ_iff.2 (by omega)) (ckI (by simp[aL];omega) (aF (ckI2 (by rw[aZ];rfl) ⟨⟨trivial,rfl⟩,.inr ⟨i+1,⟨by omega,by omega,hsh⟩,by omega,rfl,rfl,rfl,ckI (by rw[aZ];rfl) ⟨by rw[dF,et,bW9],rfl,rfl,rfl,rfl,by rw[et,aL,bW2,bW2,bW2,bYp],rfl,trivial⟩⟩⟩)))))
   have hnil:ex[i].2=[]:=bYq.1 h
   rw[hnil,bXs]at et
   exact ckI (by rw[h];rfl) (ckI (by simp[aL]) (aF ⟨⟨trivial,rfl⟩,.inr ⟨i+1,⟨by omega,by omega,hsh⟩,by omega,rfl,rfl,rfl,by rw[et],rfl,rfl,rfl,rfl,by rw[et],rfl,trivial⟩⟩))
  ·have hi:i=ex.length:=by omega
   subst hi
   rw[bX8]
   have hel:=extB_len false ex λx hx=>(hall x hx).2.2
   have hE1:1<=(extBM false ex).length:=by
    have e1:=jQ false (ex:=ex) (i:=ex.length-1) (by omega)
    have e2:=iF false ex[ex.length-1]
    rw[show ex.length-1+1=ex.length by omega,bX8]at e1
    rw[e1,bW2,bW2]
    omega
   have hq:=hq
   unfold aVn headM extPM at hq
   rw[if_neg (by omega),←hsh]at hq
   generalize hE:extBM false ex=E at *
   have hz:∃z:Nat,z=(4-E.length%4)%4:=⟨_,rfl⟩
   obtain⟨z,hz⟩:=hz
   have hzz:zerosMMd E.length=List.replicate z 0:=by rw[zerosMMd,hz]
   rw[hzz]at hq
   have hZ:(List.replicate z (0:UInt8)).length=z:=bXb
   refine ckI (by rw[aL];simp) ⟨_,rfl,aF (bOw (z:=z) (by omega) ?_)⟩
   simp only[aKa,bXf]
   refine ckI (by rw[dB];simp;omega) (aH (λh0 => ?_) (λh0 => ?_))
   ·have hz0:z=0:=by omega
    subst hz0
    simp only[bYz,bXs]at hq
    refine ckI rfl (ckI (by rw[aL];simp) (ckI (by rw[aL];simp) ⟨_,rfl,tdI (m:=E.length) rfl (by omega) ⟨headBM mk ty seq ti ss cs ex.length pad,[4096,((E.length/4:Nat):Int)],⟨rfl,rfl,rfl,by omega,rfl,rfl,by omega,by omega,by simp⟩, ?_⟩⟩))
    refine ckI ?_ (oH (λh=>by exfalso;omega) (λh=>ckI (bltQ_iff.2 (by omega)) (ckI ?_ (hq _ _ _ _ _ ?_ ?_ ?_ ?_))))
    ·have e1:List.take (E.length*1) (List.drop 0 (ofBytes E))=ofBytes E:=by rw[bXl,bW4 (by rw[aL];omega)]
     rw[e1,dB,aL];simp;omega
    ·simp only[aL,bW2,put_lenMd,bXc,bXm];simp;omega
    ·rw[cAc,bXl,bW4 (by rw[aL];omega),aL]
     simp only[bW2,put_lenMd,zL]
     simp
     omega
    ·simp only[bW2,put_lenMd,zL]
     simp
     omega
    ·rw[cAc,bXl,bW4 (by rw[aL];omega),aZ]
    ·rw[cAc,bXl,bW4 (by rw[aL];omega),dF,bW9]
     rfl
   ·have hz1:1<=z:=by omega
    have hEZ:(E++List.replicate z (0:UInt8)).length=E.length+z:=by rw[bW2,hZ]
    refine ckI (bltQ_iff.2 (by omega)) (ckI (by rw[aL];simp;omega) (ckI (by rw[dF,aL,aL,bW2];simp) ⟨_,rfl,tdI (m:=E.length+z) (by omega) (by omega) ⟨headBM mk ty seq ti ss cs ex.length pad,[4096,(((E.length+z)/4:Nat):Int)],⟨rfl,rfl,rfl,by omega,rfl,rfl,by omega,by omega,by simp⟩, ?_⟩⟩))
    have e1:List.take ((E.length+z)*1) (List.drop 0 (ofBytes (E++List.replicate z (0:UInt8))))=ofBytes (E++List.replicate z 0):=by rw[bXl,bW4 (by rw[aL,hEZ];omega)]
    rw[dF,e1]
    refine ckI ?_ (oH (λh=>by exfalso;omega) (λh=>ckI (bltQ_iff.2 (by omega)) (ckI ?_ (hq _ _ _ _ _ ?_ ?_ ?_ ?_))))
    ·rw[dB,aL,aL,hEZ,hZ];simp;omega
    ·simp only[aL,bW2,put_lenMd,bXc,bXm];simp;omega
    ·rw[aL]
     simp only[bW2,put_lenMd,zL,hZ]
     simp
     omega
    ·simp only[bW2,put_lenMd,zL,hZ]
     simp
     omega
    ·rw[aZ]
    ·rw[dF,bW9,bW2,hZ]
     rfl
theorem bS6(c:Nat)(h:c<=15):128 ||| c=128+c∧(128+c) ||| 32=160+c∧(128+c) ||| 16=144+c∧(160+c) ||| 16=176+c:=by
 have:∀c,c<16->128 ||| c=128+c∧(128+c) ||| 32=160+c∧(128+c) ||| 16=144+c∧(160+c) ||| 16=176+c:=by decide
 exact this c (by omega)
theorem or7(t:Nat)(h:t<=127):t ||| 128=t+128:=by
 have:∀t,t<128->t ||| 128=t+128:=by decide
 exact this t (by omega)
theorem aMu(mk:Bool)(ty seq ti ss:Int)(tc:Nat)(cs:QT)(tx:Nat)(ex:List Xt)(pad:Int)(pl:LA)(Q:BS)(hty:0<=ty∧ty<=127)(hcs:cs.length<=15)(hex:ex.length<=16)(hx:extsOkM 0 ex=true)(hq:aVn mk ty seq ti ss tc cs tx ex pad pl Q):∃hv hb,wR hv hb mk ty seq ti ss tc cs tx ex pad pl Q:=by
 obtain⟨hv,hb',e⟩:∃hv hb,wR hv hb mk ty seq ti ss tc cs tx ex pad pl Q=_:=⟨_,_,bEr mk ty seq ti ss tc cs tx ex pad pl Q⟩
 refine⟨hv,hb',e.mpr ?_⟩
 delta rC aVs lM zH oL bAa aM2 aH4 aAd bUk bLd
 clear e
 obtain⟨t,rfl⟩:∃n:Nat,ty=n:=⟨ty.toNat,by omega⟩
 obtain⟨o1,o2,o3,o4⟩:=bS6 cs.length hcs
 have o5:=or7 t (by omega)
 have hall:=oI ex 0 (cCc _) hx
 have hd:aNb ex:=λx hx=>by have:=hall x hx;omega
 have hhl:=tT mk t seq ti ss cs ex.length pad
 -- behind the flags
 have end0:∀f k:Int,f=fstM cs ex.length pad->k=kindM mk t->ex.length=0->∀g,Q (.ret (.sl 1 (putMMd 1 [f,k]++putMMd 2 [seq]++putMMd 4 [ti,ss]++putMMd 4 cs).length 0 (putMMd 1 [f,k]++putMMd 2 [seq]++putMMd 4 [ti,ss]++putMMd 4 cs).length 1)) (⟨.exact,true,jW mk t seq ti ss tc cs tx ex pad pl⟩::⟨.grow,true,ofBytes (putMMd 1 [f,k]++putMMd 2 [seq]++putMMd 4 [ti,ss]++putMMd 4 cs)⟩::g) {}:=λf k hf hk h0 g=>by
  have hh:headM mk t seq ti ss cs ex pad=putMMd 1 [f,k]++putMMd 2 [seq]++putMMd 4 [ti,ss]++putMMd 4 cs:=by
   rw[headM,if_pos h0,bXs,headBM,←hf,←hk]
  exact hq _ _ _ _ g (by rw[hh]) (by rw[hh]) rfl (by rw[hh])
 have end1:∀f k:Int,f=fstM cs ex.length pad->k=kindM mk t->headBM mk t seq ti ss cs ex.length pad=putMMd 1 [f,k]++putMMd 2 [seq]++putMMd 4 [ti,ss]++putMMd 4 cs:=λf k hf hk=>by
  rw[headBM,←hf,←hk]
 have hkT:mk=true->((t+128:Nat):Int)=kindM mk t:=λh=>by rw[kindM,if_pos h];omega
 have hkF:mk=false->(t:Int)=kindM mk t:=λh=>by rw[kindM,if_neg (by rw[h];simp)];omega
 have ml:=put_lenMd
 refine⟨_,rfl,bW0 (a:=cs.length) rfl (by omega) o1 (by omega) (aH (λhp=>bGk (a:=128+cs.length) rfl (by omega) o2 (by omega) ⟨_,rfl,aH (λhe=>bGk (a:=160+cs.length) rfl (by omega) o4 (by omega) (dJ (λhm=>bGk (a:=t) rfl (by omega) o5 (by omega) ?_) (λhm => ?_))) (λhe=>dJ (λhm=>bGk (a:=t) rfl (by omega) o5 (by omega) ?_) (λhm => ?_))⟩) (λhp=>⟨_,rfl,aH (λhe=>bGk (a:=128+cs.length) rfl (by omega) o3 (by omega) (dJ (λhm=>bGk (a:=t) rfl (by omega) o5 (by omega) ?_) (λhm => ?_))) (λhe=>dJ (λhm=>bGk (a:=t) rfl (by omega) o5 (by omega) ?_) (λhm => ?_))⟩))⟩
 all_goals
  refine⟨[_,_],⟨rfl,rfl,by omega,by omega,by simp,by simp⟩,putMMd 1 [_,_],[seq],⟨rfl,rfl,rfl,by simp[ml],rfl,rfl,by omega,by omega,by simp⟩,_++putMMd 2 [seq],[ti,ss],⟨rfl,rfl,rfl,by simp[ml],rfl,rfl,by omega,by omega,by simp⟩,_++putMMd 4 [ti,ss],cs,⟨rfl,rfl,rfl,by simp[ml],rfl,rfl,by omega,by omega,by omega⟩,_,rfl,bJ (λh0 => ?_) (λh0 => ?_)⟩
  ·refine end0 _ _ ?_ ?_ (by omega) _<;>first
    | exact hkT hm
    | exact hkF hm
    | (unfold fstM;(repeat' split)<;>omega)
  ·refine⟨ex,⟨rfl,rfl,by omega,hd⟩,dJ (λhs=>⟨_,rfl,.inl ⟨0,⟨rfl,hs.symm⟩,rfl, ?_,rfl, ?_,rfl,rfl,rfl,rfl,trivial⟩,bUv mk t seq ti ss tc cs tx ex pad pl Q hcs hex (by omega) hx hq⟩) (λhs=>⟨_,rfl,.inl ⟨0,⟨rfl,hs.symm⟩,rfl, ?_,rfl, ?_,rfl,rfl,rfl,rfl,trivial⟩,bVk mk t seq ti ss tc cs tx ex pad pl Q hcs hex (by omega) hx hq⟩)⟩
   all_goals first
    | (refine congrArg ofBytes (end1 _ _ ?_ ?_).symm)
    | (refine congrArg (λl:LA=>AV.sl 1 l.length 0 l.length 1) (end1 _ _ ?_ ?_).symm)
   all_goals first
    | exact hkT hm
    | exact hkF hm
    | (unfold fstM;(repeat' split)<;>omega)
theorem qW{ty seq ti ss:Int}{cs:QT}{ex:List Xt}{pad:Int}(h:rightMMd ty seq ti ss cs ex pad=true):(0<=ty∧ty<=127)∧cs.length<=15∧ex.length<=16∧extsOkM 0 ex=true∧(0<=pad∧pad<=255):=by
 rw[rightMMd,bW3]at h
 have:=bY8 h.1
 obtain⟨a1,a2,a3,a4,a5,a6,a7,a8,a9,a10,a11,a12,a13⟩:=this
 exact⟨⟨a1,a2⟩,a12,a13,h.2,a10,a11⟩
def medK(c5:HB)(n5:Nat)(c6:HB)(n6:Nat)(cs:QT)(ex:List Xt):Prop:=c5=aA cs∧n5=cs.length∧c6=cellsXM ex∧n6=ex.length∧cs.length<=1000000∧ex.length<=1000000∧aNb ex
def aHt:Con
 | [.agg [.bool mk,.int .i64 ty,.int .i64 seq,.int .i64 ti,.int .i64 ss,.lst _ c5 n5 1,.lst _ c6 n6 2,.int .i64 pad,.str pl]],H,K=>∃ (cs:QT) (ex:List Xt),Lf (medK c5 n5 c6 n6 cs ex∧rightMMd ty seq ti ss cs ex pad=true) ∧
   K (.ret (.sl H.length (headM mk ty seq ti ss cs ex pad).length 0 (headM mk ty seq ti ss cs ex pad).length 1)) (H++[⟨.grow,true,ofBytes (headM mk ty seq ti ss cs ex pad)⟩])
 | _,_,_=>False
theorem aQb:aI Tryz.prog gl0 133 aHt:=by
 refine aFx (enters_of (by kernel_rfl)) aO λargs H Q hc => ?_
 unfold aHt at hc
 split at hc
 ·rename_i mk ty seq ti ss tc c5 n5 tx c6 n6 pad pl
  obtain⟨cs,ex,⟨⟨rfl,rfl,rfl,rfl,h1,h2,hd⟩,hr⟩,hq⟩:=hc
  obtain⟨r1,r2,r3,r4,r5⟩:=qW hr
  obtain⟨hv,hb',h⟩:=aMu mk ty seq ti ss tc cs tx ex pad pl (λo H' _=>aPs Q H o H') r1 r2 r3 r4 (λtot len lf c g e1 e2 e3 e4=>by
   subst e1 e2 e3 e4
   exact⟨1,.sl 0 _ 0 _ 1,rfl,rfl,.inr ⟨rfl,_,rfl,by simp,aZ 0 _,gD _,hq⟩⟩)
  refine⟨rfl,rfl,_,1000, ?_,rfl,h⟩
  exact⟨kU,kZ,dH,bA6⟩
 ·exact hc.elim
def bIc:SM:=gG [(132,aCz),(133,aHt)]
theorem aW8:∀f g,bIc f=some g->aI Tryz.prog gl0 f g:=bO _ (by simp only[bXd,bXn,bY0,bYd,bY4];exact⟨aNw,aQb⟩)
noncomputable def aJj(hv:LI)(hb:LB)(mk:Bool)(ty seq ti ss:Int)(tc:Nat)(cs:QT)(tx:Nat)(ex:List Xt)(pad:Int)(pl:LA)(Q:BS):Prop:=
 aT (e23 bIc (λ_=>none) hv hb) (wpx (e23 bIc (λ_=>none) hv hb) 1000) 88 [.agg (jW mk ty seq ti ss tc cs tx ex pad pl)] [] {} Q
theorem bUy(mk:Bool)(ty:Int)(seq:Int)(ti:Int)(ss:Int)(tc:Nat)(cs:QT)(tx:Nat)(ex:List Xt)(pad:Int)(pl:LA)(Q:BS):aJj (aW [(360462,.int .i64),(360465,.int
 .i64),(360466,.int .i64),(360469,.int .i64)]) (aV []) mk ty seq ti ss tc cs tx ex pad pl Q=(∃cs_0:QT,∃ex_1:List Xt,Lf (aA cs=aA cs_0∧cs.length=cs_0.length∧cellsXM ex=cellsXM ex_1∧ex.length =
 ex_1.length∧cs_0.length<=1000000∧ex_1.length<=1000000∧aNb ex_1)∧∀r_2:Int,Lf (r_2=ite (rightMMd ty seq ti ss cs_0 ex_1 pad=true) 0 230)->bif r_2 !=0 then Q (.ret (.tup [.nils,.int .i64 r_2])) [] {}else ∃cs_3:List
 Int,∃ex_4:List Xt,Lf (medK (aA cs) cs.length (cellsXM ex) ex.length cs_3 ex_4∧rightMMd ty seq ti ss cs_3 ex_4 pad=true)∧ckQ (Nat.beq (ofBytes (headM mk ty seq ti ss cs_3 ex_4 pad)).length (headM mk ty seq ti ss cs_3 ex_4
 pad).length) (exI .i64 ((headM mk ty seq ti ss cs_3 ex_4 pad).length:Int) (λn_5=>exI .i64 (pl.length:Int) (λn_6=>exW .i64 (n_5+n_6) (λn_7=>exW .i64 (n_7+pad) (λn_8=>bif decide (n_8>1200)then Q (.ret (.tup
 [.nils,.int .i64 3])) [] {}else Q (.ret (.tup [.sl 1 (headM mk ty seq ti ss cs_3 ex_4 pad).length 0 (headM mk ty seq ti ss cs_3 ex_4 pad).length 1,.int .i64 0])) [Blk.mk BK.exact true (jW mk ty seq ti ss tc cs tx ex pad pl),Blk.mk
 BK.grow true (ofBytes (headM mk ty seq ti ss cs_3 ex_4 pad))] {})))))):=by kernel_rfl

theorem aAu(mk:Bool)(ty seq ti ss:Int)(cs:QT)(ex:List Xt)(pad:Int)(h2:cs.length<=15)(h3:ex.length<=16)(h4:extsOkM 0 ex=true):(headM mk ty seq ti ss cs ex pad).length<=10000:=by
 have h5:=oI ex 0 (cCc _) h4
 have h6:=extB_len (shortM ex) ex λx hx=>(h5 x hx).2.2
 unfold headM
 rw[bW2,tT]
 split
 ·simp;omega
 ·rw[bW2,put_lenMd,extPM,bW2,zerosMMd,bXb]
  simp
  omega
def totalM(mk:Bool)(ty seq ti ss:Int)(cs:QT)(ex:List Xt)(pad:Int)(pl:LA):Int:=(headM mk ty seq ti ss cs ex pad).length+pl.length+pad
theorem aZp(mk:Bool)(ty seq ti ss:Int)(tc:Nat)(cs:QT)(tx:Nat)(ex:List Xt)(pad:Int)(pl:LA)(hk:medK (aA cs) cs.length (cellsXM ex) ex.length cs ex)(hpl:pl.length<=1000000000)(Q:BS)
  (h1:rightMMd ty seq ti ss cs ex pad=false->Q (.ret (.tup [.nils,.int .i64 230])) [] {})
  (h2:rightMMd ty seq ti ss cs ex pad=true->1200<totalM mk ty seq ti ss cs ex pad pl->∀g,Q (.ret (.tup [.nils,.int .i64 3])) g {})
  (h3:rightMMd ty seq ti ss cs ex pad=true->totalM mk ty seq ti ss cs ex pad pl<=1200->∀g,Q (.ret (.tup [.sl 1 (headM mk ty seq ti ss cs ex pad).length 0 (headM mk ty seq ti ss cs ex pad).length 1,.int .i64 0])) (g::[⟨.grow,true,ofBytes (headM mk ty seq ti ss cs ex pad)⟩]) {}):∃hv hb,aJj hv hb mk ty seq ti ss tc cs tx ex pad pl Q:=by
 obtain⟨hv,hb',e⟩:∃hv hb,aJj hv hb mk ty seq ti ss tc cs tx ex pad pl Q=_:=⟨_,_,bUy mk ty seq ti ss tc cs tx ex pad pl Q⟩
 refine⟨hv,hb',e.mpr ?_⟩
 clear e
 refine⟨cs,ex,⟨hk⟩, ?_⟩
 rintro r ⟨hr⟩
 have hcl:=hk.2.2.2.2.1
 cases hT:rightMMd ty seq ti ss cs ex pad
 ·rw[hT,if_neg (by simp)]at hr
  subst hr
  exact h1 hT
 ·rw[hT,if_pos rfl]at hr
  subst hr
  obtain⟨r1,r2,r3,r4,r5⟩:=qW hT
  have hb:=aAu mk ty seq ti ss cs ex pad r2 r3 r4
  refine bK (λh=>absurd rfl h) (λ_=>⟨cs,ex,⟨hk,hT⟩,ckI (by rw[aL];simp) ⟨_,rfl,_,rfl,aF (aF (aH (λhg=>h2 hT (by unfold totalM;omega) _) (λhg=>h3 hT (by unfold totalM;omega) _)))⟩⟩)
def bIe:Con
 | [.agg [.bool mk,.int .i64 ty,.int .i64 seq,.int .i64 ti,.int .i64 ss,.lst _ c5 n5 1,.lst _ c6 n6 2,.int .i64 pad,.str pl]],H,K=>∃ (cs:QT) (ex:List Xt),Lf (medK c5 n5 c6 n6 cs ex∧pl.length<=1000000000) ∧
   (Lf (rightMMd ty seq ti ss cs ex pad=false)->K (.ret (.tup [.nils,.int .i64 230])) H) ∧
   (Lf (rightMMd ty seq ti ss cs ex pad=true∧1200<totalM mk ty seq ti ss cs ex pad pl)->K (.ret (.tup [.nils,.int .i64 3])) H) ∧
   (∀b:LA,Lf (rightMMd ty seq ti ss cs ex pad=true∧totalM mk ty seq ti ss cs ex pad pl<=1200∧b=headM mk ty seq ti ss cs ex pad)->K (.ret (.tup [.sl H.length b.length 0 b.length 1,.int .i64 0])) (H++[⟨.grow,true,ofBytes b⟩]))
 | _,_,_=>False
theorem bJy:aI Tryz.prog gl0 88 bIe:=by
 refine aFx (enters_of (by kernel_rfl)) aO λargs H Q hc => ?_
 unfold bIe at hc
 split at hc
 ·rename_i mk ty seq ti ss tc c5 n5 tx c6 n6 pad pl
  obtain⟨cs,ex,⟨⟨rfl,rfl,rfl,rfl,k1,k2,hd⟩,hpl⟩,q1,q2,q3⟩:=hc
  obtain⟨hv,hb',h⟩:=aZp mk ty seq ti ss tc cs tx ex pad pl ⟨rfl,rfl,rfl,rfl,k1,k2,hd⟩ hpl (λo H' _=>aPs Q H o H')
   (λhr=>⟨0,.tup [.nils,.int .i64 230],rfl,rfl,.inl ⟨rfl,q1 ⟨hr⟩⟩⟩)
   (λhr ht g=>⟨0,.tup [.nils,.int .i64 3],rfl,rfl,.inl ⟨rfl,q2 ⟨hr,ht⟩⟩⟩)
   (λhr ht g=>⟨1,.tup [.sl 0 _ 0 _ 1,.int .i64 0],rfl,rfl,.inr ⟨rfl,_,rfl,by simp,aZ 0 _,gD _,q3 _ ⟨hr,ht,rfl⟩⟩⟩)
  refine⟨rfl,rfl,_,1000, ?_,rfl,h⟩
  exact⟨kU,kZ,dH,aW8⟩
 ·exact hc.elim
end Go.Proofs.YtnhechnaemmdiaaGreatDoor.Md
