/-
  Chapter 24: the reference's Nacks.
-/
import Derived.Test.YtnhechnaemmdiaaGreatDoorZnA
set_option linter.unusedSimpArgs false
set_option linter.unusedVariables false
namespace Go.Proofs.YtnhechnaemmdiaaGreatDoor.Cd
open Go.RowKit
set_option maxRecDepth 1000000

theorem bC4(x:Int):bW 16 x=true↔x<0∨65536<=x:=by
 simp only[bW,bXh,bW6]
 have e:(2:Int)^min (16:Int).toNat 64=65536:=rfl
 rw[e,bX3 _ (by omega),bZw]
 omega

def bI(ps:List (Int×Int)):HB:=ps.flatMap λp=>[.int .i64 p.1,.int .i64 p.2]
def gP(b m:Int):QT->List (Int×Int)
 | []=>[(b,m)]
 | n::l=>if 16<(n-b)%65536 then(b,m)::gP n 0 l else gP b (((m%18446744073709551616).toNat ||| (2^((n-b)%65536-1).toNat):Nat):Int) l
def bA:QT->List (Int×Int)
 | []=>[]
 | n::l=>gP n 0 l
def aZ3(b:Int):QT->Bool
 | []=>true
 | n::l=>decide (1<=(n-b)%65536)&&aZ3 (if 16<(n-b)%65536 then n else b) l

def bHq(t:Nat)(xs:QT):LInv where
 α:=Nat
 pre _:=Lf True
 st _:=⟨mkT [(2,.ptr 0 1 0),(3,.fn (.func 188) [] [.ptr 0 1 0]),(7,.lst t (aA xs) xs.length 1),(8,.int .i64 xs.length),(9,.int .i64 0)],[⟨.exact,true,[.nils]⟩]⟩
 mu _:=xs.length+1
def bLg(t:Nat)(xs:QT):LInv where
 α:=Nat×List (Int×Int)×Int×Int
 pre p:=Lf (1<=p.1∧p.1<=xs.length∧p.2.1.length<p.1∧0<=p.2.2.2∧p.2.2.2<=65535∧bA xs=p.2.1++gP p.2.2.1 p.2.2.2 (xs.drop p.1)∧aZ3 p.2.2.1 (xs.drop p.1)=true∧(0<=p.2.2.1∧p.2.2.1<=65535))
 st p:=⟨mkT [(2,.ptr 0 1 0),(3,.fn (.func 188) [] [.ptr 0 1 0]),(7,.lst t (aA xs) xs.length 1),(8,.int .i64 xs.length),(9,.int .i64 p.1)],
  [⟨.exact,false,[.sl 1 (2*p.2.1.length+2) 0 (p.2.1.length+1) 2]⟩,⟨.grow,true,bI p.2.1++[.int .i64 p.2.2.1,.int .i64 p.2.2.2]⟩]⟩
 mu p:=xs.length-p.1
noncomputable def bBd(hv:LI)(hb:LB)(t:Nat)(xs:QT):Env:=e24 sm0 (λi=>bif Nat.beq i 147000 then some (λ_=>[[bHq t xs,bLg t xs]])else none) hv hb
noncomputable def aIi(hv:LI)(hb:LB)(t:Nat)(xs:QT)(Q:BS):Prop:=
 aT (bBd hv hb t xs) (wpx (bBd hv hb t xs) 1000) 147 [.lst t (aA xs) xs.length 1] [] {} Q
abbrev xX(x_1:Nat×List (Int×Int)×Int×Int)(xs:QT)(n_2:Int)(t:Nat):Prop:=
ckQ (Nat.beq (bI x_1.2.1++[AV.int .i64 x_1.2.2.1,.int .i64 x_1.2.2.2]).length (2*x_1.2.1.length+2)&&Bool.true&&Nat.beq (0+(x_1.2.1.length+1)*2) (2*x_1.2.1.length+2)&&Nat.ble (x_1.2.1.length+1+1)
 1099511627776&&Nat.ble ((x_1.2.1.length+1+1)*16) 1099511627776) (exW .i64 ((x_1.1:Int)+1) λn_4=>(True∧(0:Nat)=(0:Nat))∧((∃y_5:Nat,Lf True∧xs.length+1<xs.length-x_1.1∧False)∨∃y_5:Nat ×
 List (Int×Int)×Int×Int,Lf (1<=y_5.1∧y_5.1<=xs.length∧y_5.2.1.length<y_5.1∧0<=y_5.2.2.2∧y_5.2.2.2<=65535∧bA xs=y_5.2.1++gP y_5.2.2.1 y_5.2.2.2 (xs.drop y_5.1)∧aZ3 y_5.2.2.1 (xs.drop y_5.1)=Bool.true
 ∧ 0<=y_5.2.2.1∧y_5.2.2.1<=65535)∧xs.length-y_5.1<xs.length-x_1.1∧[AV.sl 1 (2*x_1.2.1.length+2+2) 0 (x_1.2.1.length+1+1) 2]=[AV.sl 1 (2*y_5.2.1.length+2) 0 (y_5.2.1.length+1) 2]∧bI x_1.2.1++[AV.int
 IntKind.i64 x_1.2.2.1,.int .i64 x_1.2.2.2]++[AV.int .i64 n_2,.int .i64 0]=bI y_5.2.1++[AV.int .i64 y_5.2.2.1,.int .i64 y_5.2.2.2]∧aK (AV.fn (Fn.func 188) [] [.ptr 0 1 0])∧aK (AV.lst t
 (aA xs) xs.length 1)∧AV.int .i64 n_4=AV.int .i64 (y_5.1:Int)∧aK (AV.ptr 0 1 0)∧aK (AV.int .i64 (xs.length:Int))∧True))
abbrev bOp(x_1:Nat×List (Int×Int)×Int×Int)(xs:QT):Prop:=Lf (1<=x_1.1∧x_1.1<=xs.length∧x_1.2.1.length<x_1.1∧0<=x_1.2.2.2∧x_1.2.2.2<=65535∧bA xs=x_1.2.1++gP x_1.2.2.1 x_1.2.2.2 (xs.drop x_1.1)∧aZ3 x_1.2.2.1 (xs.drop x_1.1)=Bool.true∧0<=x_1.2.2.1∧x_1.2.2.1<=65535)
abbrev aV8(y_4:Nat×List (Int×Int)×Int×Int):Nat:=2*y_4.2.1.length+2
abbrev bFb(y_4:Nat×List (Int×Int)×Int×Int):HB:=bI y_4.2.1++[AV.int .i64 y_4.2.2.1,.int .i64 y_4.2.2.2]
abbrev bSc(t:Nat)(xs:QT)(n_3:Int)(y_4:Nat×List (Int×Int)×Int×Int):Prop:=aK (AV.fn (Fn.func 188) [] [.ptr 0 1 0])∧aK (AV.lst t (aA xs) xs.length 1)∧AV.int .i64 n_3=AV.int .i64 (y_4.1:Int)∧aK (AV.ptr 0 1 0)∧aK (AV.int .i64 (xs.length:Int))∧True
abbrev aNx(x_1:Nat×List (Int×Int)×Int×Int):Bool:=Nat.beq (bI x_1.2.1++[AV.int .i64 x_1.2.2.1,.int .i64 x_1.2.2.2]).length (aV8 x_1)
theorem bUt(t:Nat)(xs:QT)(Q:BS):aIi (aW [(602120,.int .i64),(602124,.int .i64),(770055,.int .i64),(602134,.int .i64),(770059,.int .i64),(770060,.int .i64),(770066,.int .i64),
 (770067,.int .i64),(770068,.int .i64),(770074,.int .i64),(770076,.int .i64),(770077,.int .i64),(770078,.int .i64)]) (aV []) t xs Q=(exI .i64 (xs.length:Int) (λn_0=>((∃x_1:Nat,Lf True∧[AV.nils] =
 [AV.nils]∧aK (AV.fn (Fn.func 188) [] [.ptr 0 1 0])∧aK (AV.lst t (aA xs) xs.length 1)∧aK (AV.int .i64 0)∧aK (AV.ptr 0 1 0)∧AV.int .i64 n_0=AV.int .i64 (xs.length:Int)∧True)∨∃x_1:Nat ×
 List (Int×Int)×Int×Int,bOp x_1 xs∧False)∧(Nat->Lf True->bif decide (0<(xs.length:Int))then ckQ (Nat.blt 0 xs.length&&Bool.true) (ckQ (Nat.blt 0 (aA xs).length) (exV IntKind.i64 ((aA xs).getD 0 AV.undef) (fun
 n_1=>exI .i64 0 (λn_2=>bif n_2==0 then exI .i64 1 (λn_3=>(True∧(0:Nat)=(0:Nat))∧((∃y_4:Nat,Lf True∧xs.length+1<xs.length+1∧False)∨∃y_4:Nat×List (Int×Int)×Int×Int,bOp y_4 xs
 ∧ xs.length-y_4.1<xs.length+1∧[AV.sl 1 2 0 1 2]=[AV.sl 1 (aV8 y_4) 0 (y_4.2.1.length+1) 2]∧[AV.int .i64 n_1,.int .i64 0]=bFb y_4∧bSc t xs n_3 y_4))else exI .i64 0 (λn_3=>exW .i64 (n_3
 - 1) (λn_4=>False))))))else Q (.ret .nils) [] {})∧∀x_1:Nat×List (Int×Int)×Int×Int,bOp x_1 xs->bif decide ((x_1.1:Int)<(xs.length:Int))then ckQ (Nat.blt (x_1.1:Int).toNat xs.length&&Bool.true) (ckQ (Nat.blt
 ((x_1.1:Int).toNat*1) (aA xs).length) (exV IntKind.i64 ((aA xs).getD ((x_1.1:Int).toNat*1) AV.undef) (λn_2=>ckQ (aNx x_1) (exI .i64 ((x_1.2.1.length+1:Nat):Int) (λn_3=>bif n_3==0 then xX x_1
 xs n_2 t else ckQ (aNx x_1) (exI .i64 ((x_1.2.1.length+1:Nat):Int) (λn_4=>exW .i64 (n_4-1) (λn_5=>ckQ (decide (0<=n_5)&&Nat.blt n_5.toNat (x_1.2.1.length+1)&&aNx x_1&&Bool.true) (ckQ (aNx x_1)
 (ckQ (aNx x_1) (ckQ (aNx x_1&&Nat.blt (0+n_5.toNat*2+0) (aV8 x_1)) (exV IntKind.i64 ((((bFb x_1).drop (0+n_5.toNat*2+0)).take 1).getD 0 AV.undef) (λn_6=>exW .i64 (n_2-n_6) (λn_7=>exW .i64 (((n_7
 % 18446744073709551616).toNat &&& 65535:Nat):Int) (λn_8=>bif decide (n_8>16)then xX x_1 xs n_2 t else ckQ (aNx x_1) (ckQ (aNx x_1) (ckQ (aNx x_1&&Nat.blt (0+n_5.toNat*2+1) (aV8 x_1)) (exV IntKind.i64 ((((bFb
 x_1).drop (0+n_5.toNat*2+1)).take 1).getD 0 AV.undef) (λn_9=>exW .i64 (n_8-1) (λn_10=>ckQ (decide (0<=n_10)&&Bool.true) (exW .i64 (1*(2:Int)^Min.min n_10.toNat 64) (λn_11=>exW .i64
 (((n_9%18446744073709551616).toNat ||| (n_11%18446744073709551616).toNat:Nat):Int) (λn_12=>ckQ (aNx x_1) (ckQ (aNx x_1) (ckQ (aNx x_1&&Nat.ble (0+n_5.toNat*2+1+1) (aV8 x_1)&&Bool.true&&Bool.true&&Bool.true)
 (exW .i64 ((x_1.1:Int)+1) (λn_13=>(True∧(0:Nat)=(0:Nat))∧((∃y_14:Nat,Lf True∧xs.length+1<xs.length-x_1.1∧False)∨∃y_14:Nat×List (Int×Int)×Int×Int,bOp y_14 xs∧xs.length-y_14.1 <
 xs.length-x_1.1∧[AV.sl 1 (aV8 x_1) 0 (x_1.2.1.length+1) 2]=[AV.sl 1 (aV8 y_14) 0 (y_14.2.1.length+1) 2]∧aN (bFb x_1) (0+n_5.toNat*2+1) [.int .i64 n_12]=bFb y_14∧bSc t xs n_13
 y_14))))))))))))))))))))))))))))else Q (.ret (.sl 1 (aV8 x_1) 0 (x_1.2.1.length+1) 2)) [Blk.mk BK.exact Bool.false [.sl 1 (aV8 x_1) 0 (x_1.2.1.length+1) 2],Blk.mk BK.grow Bool.true (bFb x_1)] {})):=by kernel_rfl


theorem dS(ps:List (Int×Int)):(bI ps).length=2*ps.length:=by
 induction ps with
 | nil=>rfl
 | cons p ps ih=>simp only[bI,bZ5,bW2,bXc,bXm]at ih ⊢;omega
theorem bWm{A:List (Int×Int)}{x y:Int}{j:Nat}(hj:j=2*A.length){K:Int->Prop}(hk:K x):∃n:Int,(List.take 1 (List.drop j (bI A++[.int .i64 x,.int .i64 y]))).getD 0 AV.undef=.int .i64 n∧K n:=by
 refine⟨x, ?_,hk⟩
 rw[hj,←dS,cBs]
 rfl
theorem bWu{A:List (Int×Int)}{x y:Int}{j:Nat}(hj:j=2*A.length+1){K:Int->Prop}(hk:K y):∃n:Int,(List.take 1 (List.drop j (bI A++[.int .i64 x,.int .i64 y]))).getD 0 AV.undef=.int .i64 n∧K n:=by
 refine⟨y, ?_,hk⟩
 rw[hj,←dS,←bY9,cBs]
 rfl
theorem bWq{A:List (Int×Int)}{x y z:Int}{j:Nat}(hj:j=2*A.length+1):aN (bI A++[.int .i64 x,.int .i64 y]) j [.int .i64 z]=bI A++[.int .i64 x,.int .i64 z]:=by
 rw[hj,←dS,aN,List.take_append,cCv,bW4 (by omega),bX9 (by simp;omega),cBp,show(bI A).length+1+[AV.int .i64 z].length-(bI A).length=2 by simp;omega]
 simp
theorem bCb{xs:QT}(h:xs.any (bW 16)=false){i:Nat}(hi:i<xs.length):0<=xs.getD i 0∧xs.getD i 0<=65535:=by
 have:=bDu h hi
 simpa[hi]using this
theorem pF{xs:QT}{i:Nat}(hi:i<xs.length):xs.drop i=xs.getD i 0::xs.drop (i+1):=by
 rw[bZe hi];simp[hi]
theorem orI{m d:Int}{K:Int->Prop}(hm:0<=m∧m<=65535)(hd:1<=d∧d<=16)(h:∀z:Int,z=((m%18446744073709551616).toNat ||| (2^(d-1).toNat):Nat)->0<=z->z<=65535->K z) :
  ∃n,AV.int .i64 (IntKind.wrap .i64 (1*2^min (d-1).toNat 64))=AV.int .i64 n∧∃z,AV.int .i64 (IntKind.wrap .i64 (((m%18446744073709551616).toNat ||| (n%18446744073709551616).toNat:Nat):Int))=AV.int .i64 z∧K z:=by
 have e0:min (d-1).toNat 64=(d-1).toNat:=by omega
 have e1:(2:Nat)^(d-1).toNat<=2^15:=cA9 (by omega) (by omega)
 have e2:(1:Int)*2^(d-1).toNat=((2^(d-1).toNat:Nat):Int):=by simp
 rw[e0,e2]
 generalize 2^(d-1).toNat=p at *
 refine aF ?_
 have e3:((p:Int)%18446744073709551616).toNat=p:=by omega
 rw[e3]
 have e4:(m%18446744073709551616).toNat ||| p<2^16:=bYx (by omega) (by omega)
 exact aF (h _ rfl (by omega) (by omega))

theorem aTq(t:Nat)(xs:QT)(Q:BS)(hb:xs.any (bW 16)=false)(hl:1<=xs.length∧xs.length<=64)(hf:aZ3 (xs.getD 0 0) (xs.drop 1)=true)
  (hq:∀A b m,bA xs=A++[(b,m)]->Q (.ret (.sl 1 (2*A.length+2) 0 (A.length+1) 2)) [⟨.exact,false,[.sl 1 (2*A.length+2) 0 (A.length+1) 2]⟩,⟨.grow,true,bI A++[.int .i64 b,.int .i64 m]⟩] {}):∃hv hb,aIi hv hb t xs Q:=by
 obtain⟨hv,hb',e⟩:∃hv hb,aIi hv hb t xs Q=_:=⟨_,_,bUt t xs Q⟩
 refine⟨hv,hb',e.mpr ?_⟩
 delta bOp aV8 bFb bSc aNx
 unfold xX
 clear e
 refine⟨_,rfl,.inl ⟨0,⟨trivial⟩,by simp⟩, ?_, ?_⟩
 ·rintro _ ⟨_⟩
  have h0:=bCb hb (i:=0) (by omega)
  refine aH (λh => ?_) (λh=>by omega)
  refine ckI (by first | rfl | (simp[aD]<;>omega)) (ckI (by first | rfl | (simp[aD,bS,aM]<;>omega)) (aAa (i:=0) (by omega) rfl ?_))
  (repeat' (first | (with_reducible trivial) | (guard_target=False;omega) | (with_reducible refine wX ?_ ?_ ?_;omega;omega) | ((fail_if_success (with_reducible refine wX ?_ ?_ ?_));(with_reducible refine⟨_,rfl, ?_⟩)) | (with_reducible refine ckI ?_ ?_;first | rfl | (simp[aD,aM]<;>omega)) | ((first | (with_reducible refine aH (λ_ => ?_) λ_ => ?_) | (with_reducible refine bJ (λ_ => ?_) λ_ => ?_))<;>try(exfalso;omega))))
  ·have hd:xs=xs.getD 0 0::xs.drop 1:=pF (i:=0) (by omega)
   have hp:bA xs=[]++gP (xs.getD 0 0) 0 (xs.drop 1):=by rw[hd];rfl
   exact⟨⟨trivial,rfl⟩,.inr ⟨(1,[],xs.getD 0 0,0),⟨bXe _,hl.1,by simp,by simp,by simp,hp,hf,h0⟩,by simp only;omega,by simp[bI]⟩⟩
 ·rintro⟨i,A,b,m⟩ ⟨g1,g2,g3,g4,g5,g6,g7,g8⟩
  simp only at g1 g2 g3 g4 g5 g6 g7 g8 ⊢
  refine aH (λh => ?_) (λh => ?_)
  ·have hi:=bCb hb (i:=i) (by omega)
   refine ckI (by first | rfl | (simp[aD]<;>omega)) (ckI (by first | rfl | (simp[aD,bS,aM]<;>omega)) (aAa (i:=i) (by omega) (by omega) ?_))
   have hlen:=dS A
   have hlen2:=dS (A++[(b,m)])
   have hdr:=pF (xs:=xs) (i:=i) (by omega)
   rw[hdr]at g6 g7
   simp only[aZ3,bW3,bW6]at g7
   (repeat' (first | (with_reducible trivial) | (guard_target=False;omega) | (with_reducible refine wX ?_ ?_ ?_;omega;omega) | ((fail_if_success (with_reducible refine wX ?_ ?_ ?_));(with_reducible refine⟨_,rfl, ?_⟩)) | (with_reducible refine ckI ?_ ?_;first | rfl | (simp[aD,aM,hlen]<;>omega)) | ((first | (with_reducible refine aH (λ_ => ?_) λ_ => ?_) | (with_reducible refine bJ (λ_ => ?_) λ_ => ?_))<;>try(exfalso;omega))))
   refine bWm (by omega) ?_
   refine aF (bOb ?_)
   (repeat' (first | (with_reducible trivial) | (guard_target=False;omega) | (with_reducible refine wX ?_ ?_ ?_;omega;omega) | ((fail_if_success (with_reducible refine wX ?_ ?_ ?_));(with_reducible refine⟨_,rfl, ?_⟩)) | (with_reducible refine ckI ?_ ?_;first | rfl | (simp[aD,aM,hlen]<;>omega)) | ((first | (with_reducible refine aH (λ_ => ?_) λ_ => ?_) | (with_reducible refine bJ (λ_ => ?_) λ_ => ?_))<;>try(exfalso;omega))))
   ·rename_i hgt
    have hgt':16<(xs.getD i 0-b)%65536:=by omega
    rw[gP,if_pos hgt']at g6
    rw[if_pos hgt']at g7
    refine⟨⟨trivial,trivial⟩,.inr ⟨(i+1,A++[(b,m)],xs.getD i 0,0),⟨⟨by simp,by simp;omega,by simp;omega,by simp,by simp,by rw[g6];simp,g7.2,hi⟩⟩,by simp only;omega, ?_⟩⟩
    simp[bI,cA4]
   ·rename_i hle
    have hle':¬ 16<(xs.getD i 0-b)%65536:=by omega
    rw[gP,if_neg hle']at g6
    rw[if_neg hle']at g7
    refine bWu (by omega) (aF (ckI (by first | (simp only[bW3,bX4,bX7,bW6,aD,bX5,bS,aM,bW2,bXc,bXm,bXf,cA6,cB5,bXh,bYc,bZw,ne_eq];done) | (simp only[bW3,bX4,bX7,bW6,aD,bX5,bS,aM,bW2,bXc,bXm,bXf,cA6,cB5,bXh,bYc,bZw,ne_eq];omega) | rfl | (simp;done) | (simp;omega)) (orI ⟨g4,g5⟩ (by omega) λz hz z1 z2 => ?_)))
    rw[←hz]at g6
    (repeat' (first | (with_reducible trivial) | (guard_target=False;omega) | (with_reducible refine wX ?_ ?_ ?_;omega;omega) | ((fail_if_success (with_reducible refine wX ?_ ?_ ?_));(with_reducible refine⟨_,rfl, ?_⟩)) | (with_reducible refine ckI ?_ ?_;first | rfl | (simp[aD,aM,hlen]<;>omega)) | ((first | (with_reducible refine aH (λ_ => ?_) λ_ => ?_) | (with_reducible refine bJ (λ_ => ?_) λ_ => ?_))<;>try(exfalso;omega))))
    refine⟨⟨trivial,trivial⟩,.inr ⟨(i+1,A,b,z),⟨⟨by simp,by simp;omega,by simp;omega,z1,z2,g6,g7.2,g8⟩⟩,by simp only;omega, ?_⟩⟩
    rw[bWq (by omega)]
    simp
  ·have hle:xs.length<=i:=by omega
   rw[bX9 hle]at g6
   exact ckI (by first | rfl | (simp[aD,dS]<;>omega)) (hq A b m g6)
def mG:AV->Bool
 | .int _ _=>true | .bool _=>true | .str _=>true | .nils=>true | .nilp=>true | _=>false
theorem vP(τ:Nat)(H:HV)(d:Nat):∀l:HB,(∀x∈l,mG x=true)->l.map (λx=>bU τ H (d+1) x)=l
 | [],_=>rfl
 | x::l,h=>by
  have hx:bU τ H (d+1) x=x:=by
   have:=h x (by simp)
   cases x<;>first | rfl | simp[mG]at this
  rw[bXu,vP τ H d l λy hy=>h y (by simp[hy]),hx]
theorem aAv(ps:List (Int×Int)):∀x∈bI ps,mG x=true:=by
 intro x hx
 simp only[bI,List.mem_flatMap,bXd,bXn,bY0]at hx
 obtain⟨p,_,rfl | rfl⟩:=hx<;>rfl
theorem aHz(ps:List (Int×Int)):zZ (bI ps)=true:=by
 induction ps with
 | nil=>rfl
 | cons p ps ih=>simpa[bI,zZ,noT]using ih
theorem bCg(x0:Int):∀ (l:QT) (far b:Int),dI x0 far l=true->(b-x0)%65536<=far->aZ3 b l=true
 | [],_,_,_,_=>rfl
 | n::l,far,b,h,hb=>by
  rw[dI]at h
  split at h
  ·cases h
  ·rename_i hc
   have h1:1<=(n-b)%65536:=by omega
   rw[aZ3,bXr h1,bX7]
   refine bCg x0 l _ _ h ?_
   split<;>omega
theorem nacks_parts{xs:QT}(h:eT xs=true):xs.any (bW 16)=false∧(1<=xs.length∧xs.length<=64)∧aZ3 (xs.getD 0 0) (xs.drop 1)=true∧dI (xs.getD 0 0) (-1) xs=true:=by
 simp only[eT,bW3,bW6,bYc]at h
 obtain⟨⟨⟨h1,h2⟩,h3⟩,h4⟩:=h
 refine⟨h3,⟨h1,h2⟩, ?_,h4⟩
 cases xs with
 | nil=>rfl
 | cons x l=>
  simp only[cAu,List.drop_one,List.tail_cons]at h4 ⊢
  rw[dI]at h4
  split at h4
  ·cases h4
  ·exact bCg x l _ x h4 (cCc _)
theorem tC{τ:Nat}{H:HV}{d id tot off len sz:Nat}{b:Blk}{cs:HB}(hb:H[id]? = some b)(h1:b.cs.length=tot)(h2:off+len*sz<=tot)(hk:b.k≠.ro)(hc:(b.cs.drop off).take (len*sz)=cs)(hp:∀x∈cs,mG x=true) :
  bU τ H (d+2) (.sl id tot off len sz)=.lst τ cs len sz:=by
 have c1:b.cs.length.beq tot=true:=aOe h1
 have c2:(off+len*sz).ble tot=true:=aNk h2
 have c3:(b.k !=.ro)=true:=by simpa using hk
 rw[bU]
 simp only[hb,c1,c2,c3,bX4,bXw,hc,vP τ H d cs hp]
def zS:iO
 | [.lst _ l n 1],H,K=>∃xs:QT,Lf (l=aA xs∧n=xs.length∧eT xs=true)∧K (.ret (.lst 0 (bI (bA xs)) (bA xs).length 2)) H
 | _,_,_=>False
theorem aHi:∀args H Q,zS args H Q->zS args [] λo H'=>H'=[]∧(∃v,o=.ret v∧noT v=true)∧Q o H:=by
 intro args H Q hc
 unfold zS at hc
 split at hc
 ·obtain⟨xs,h,hq⟩:=hc
  exact⟨xs,h,rfl,⟨_,rfl,by simp[noT,aHz]⟩,hq⟩
 ·exact hc.elim
def aPl:iO:=λargs H Q=>qI [1] H args λa=>zS a H Q

theorem aU0:aI Tryz.prog gl0 147 zS:=by
 refine dV (enters_of (by kernel_rfl)) aO 9 (nlR [2]) (vT _) λargs H Q hc => ?_
 unfold zS at hc
 split at hc
 ·rename_i t l n
  obtain⟨xs,⟨rfl,rfl,hn⟩,hq⟩:=hc
  obtain⟨h1,h2,h3,h4⟩:=nacks_parts hn
  obtain⟨hv,hb',h⟩:=aTq t xs (λo H' _=>∃v,o=.ret v∧Q (.ret (nlR [2] (bU 0 H' 9 v))) H) h1 h2 h3 (λA b m e=>by
   refine⟨_,rfl, ?_⟩
   have ec:bI A++[AV.int .i64 b,.int .i64 m]=bI (bA xs):=by rw[e];simp[bI]
   have el:(bA xs).length=A.length+1:=by rw[e];simp
   have hlen:=dS (bA xs)
   have hle:(bI (bA xs)).length<=(A.length+1)*2:=by omega
   rw[tC (cs:=bI (bA xs)) rfl (by rw[ec];show(bI (bA xs)).length=_;omega) (by omega) (by simp) (by rw[ec,bXl];exact bW4 hle) (aAv _),←el]
   exact hq)
  exact⟨rfl,rfl,_,1000,bL bY _ _ _,rfl,h⟩
 ·exact hc.elim
theorem bA3:aI Tryz.prog gl0 147 aPl:=eG aU0 aO [1] aHi

end Go.Proofs.YtnhechnaemmdiaaGreatDoor.Cd
