/-
  Chapter 23: equal packets; a draft's packet is valid.
-/
import Derived.Test.YtnhechnaemmdiaaGreatDoorKnE
import Derived.Test.YtnhechnaemmdiaaGreatDoorKnB
import Derived.Test.YtnhechnaemmdiaaGreatDoorKnL
set_option linter.unusedSimpArgs false
set_option linter.unusedVariables false
namespace Go.Proofs.YtnhechnaemmdiaaGreatDoor.Md
open Go.RowKit
set_option maxRecDepth 1000000

set_option linter.unusedSectionVars false
end Go.Proofs.YtnhechnaemmdiaaGreatDoor.Md

set_option linter.unusedSectionVars false
namespace Go.Proofs.YtnhechnaemmdiaaGreatDoor
open Go.RowKit
set_option maxRecDepth 1000000

def dM(s:LA)(n:Nat):LA:=if s=[]then List.replicate n 0 else(List.range n).map λi=>s.getD (i%s.length) 0
def bQd(s:LA)(n:Nat):LInv where
 α:=Nat×LA
 pre p:=Lf (p.1<=n∧(p.1=0∨s≠[])∧p.2=(dM s n).take p.1++List.replicate (n-p.1) 0)
 st p:=⟨mkT [(0,.str s),(1,.int .i64 (n:Nat)),(5,.sl 0 n 0 n 1),(6,.int .i64 (p.1:Nat))],[⟨.exact,true,ofBytes p.2⟩]⟩
 mu p:=n-p.1
noncomputable def bBc(hv:LI)(hb:LB)(s:LA)(n:Nat):Env:=e04 sm0 (λi=>bif Nat.beq i 79000 then some (λ_=>[[bQd s n]])else none) hv hb
noncomputable def aIh(hv:LI)(hb:LB)(s:LA)(n:Nat)(Q:BS):Prop:=
 aT (bBc hv hb s n) (wpx (bBc hv hb s n) 1000) 79 [.str s,.int .i64 (n:Nat)] [] {} Q
abbrev bRt(x_0:Nat×LA)(n:Nat)(s:LA):Prop:=Lf (x_0.1<=n∧(x_0.1=0∨s≠[])∧x_0.2=(dM s n).take x_0.1++List.replicate (n-x_0.1) 0)
abbrev bSa(x_0:Nat×LA)(n:Nat)(Q:BS):Prop:=ckQ (Nat.beq (ofBytes x_0.2).length n&&Nat.ble (0+n) n&&true&&fU (((ofBytes x_0.2).drop 0).take n)) (exS (.str (List.map toB (((ofBytes x_0.2).drop 0).take n))) (λs_2=>Q (.ret (.str s_2)) [] {}))
theorem bU3(s:LA)(n:Nat)(Q:BS):aIh (aW [(323598,.int .i64),(323608,.int .i64),(323609,.int .i64),(323610,.int .u8),(323602,.int .i64),(323613,.str)]) (aV []) s n Q=(ckQ
 (decide ((n:Int)<=(n:Int))&&decide ((n:Int)<=1099511627776)&&decide ((n:Int)*1<=1099511627776)) ((∃x_0:Nat×LA,bRt x_0 n s∧ckQ (aP 0 (List.replicate (n:Int).toNat [AV.int .u8 0]).flatten==true)
 ((List.replicate (n:Int).toNat [AV.int .u8 0]).flatten=ofBytes x_0.2∧aK (AV.str s)∧aK (AV.int .i64 (n:Int))∧AV.sl 0 ((n:Int).toNat*1) 0 (n:Int).toNat 1=AV.sl 0 n 0 n 1∧AV.int .i64 0=AV.int .i64 (x_0.1:Int) ∧
 True))∧∀x_0:Nat×LA,bRt x_0 n s->bif decide ((x_0.1:Int)<(n:Int))then exI .i64 (s.length:Int) (λn_1=>bif decide (n_1>0)then exI .i64 (s.length:Int) (λn_2=>ckQ (n_2 !=0&&true) (exI .i64 ((x_0.1 :
 Int).tmod n_2) (λn_3=>ckQ (decide (0<=n_3)&&Nat.blt n_3.toNat s.length) (exI .u8 (UInt8.toNat (s.getD n_3.toNat (UInt8.ofNat 0)):Int) (λn_4=>ckQ (Nat.blt (x_0.1:Int).toNat n&&Nat.beq (ofBytes x_0.2).length n&&true)
 (ckQ (Nat.beq (ofBytes x_0.2).length n&&Nat.ble (0+(x_0.1:Int).toNat*1+1) n&&true&&true&&true) (exW .i64 ((x_0.1:Int)+1) (λn_5=>(True∧(0:Nat)=(0:Nat))∧∃y_6:Nat×LA,bRt y_6 n s∧n-y_6.1 <
 n-x_0.1∧aN (ofBytes x_0.2) (0+(x_0.1:Int).toNat*1) [.int .u8 n_4]=ofBytes y_6.2∧aK (AV.str s)∧aK (AV.int .i64 (n:Int))∧aK (AV.sl 0 n 0 n 1)∧AV.int .i64 n_5=AV.int .i64 (y_6.1:Int)∧True))))))))else
 bSa x_0 n Q)else bSa x_0 n Q)):=by kernel_rfl

theorem oD(s:LA)(n:Nat):(dM s n).length=n:=by
 unfold dM
 split<;>simp
theorem aRe(s:LA)(n:Nat)(Q:BS)(hn:n<=100000)(hs:s.length<=9223372036854775807)(hq:Q (.ret (.str (dM s n))) [] {}):∃hv hb,aIh hv hb s n Q:=by
 obtain⟨hv,hb',e⟩:∃hv hb,aIh hv hb s n Q=_:=⟨_,_,bU3 s n Q⟩
 refine⟨hv,hb',e.mpr ?_⟩
 delta bRt bSa
 clear e
 have z:List.flatten (List.replicate n [AV.int .u8 0])=ofBytes (List.replicate n 0):=by
  have e1:∀k,List.flatten (List.replicate k [AV.int .u8 0])=List.replicate k (AV.int .u8 0):=λk=>by
   induction k with
   | zero=>rfl
   | succ k ih=>rw[bZl,bZv,ih];rfl
  rw[e1];simp[ofBytes]
 have hl:=oD s n
 rw[bXf,z]
 refine ckO ⟨⟨(0,List.replicate n 0),⟨by simp,.inl rfl,by simp⟩,ckI (by rw[fG];rfl) ⟨rfl,rfl,rfl,by simp,rfl,trivial⟩⟩, ?_⟩
 rintro⟨i,b⟩ ⟨g1,g2,g3⟩
 dsimp only at *
 have hb:b.length=n:=by rw[g3,bW2,bXg,bXb,hl];omega
 have fin:(i=n∨s=[])->b=dM s n:=λh=>by
  rw[g3]
  rcases h with h | h
  ·rw[h,bZ4,bYz,bXs,bW4 (by omega)]
  ·rcases g2 with g2 | g2
   ·rw[g2,bZ3,bX2,cCg,dM,if_pos h]
   ·exact absurd h g2
 have cl:((Nat.beq (List.length (ofBytes b)) n&&Nat.ble (0+n) n&&true)&&fU (List.take n (List.drop 0 (ofBytes b))))=true:=by
  rw[fP,dO,hb];simp
 have st:List.map toB (List.take n (List.drop 0 (ofBytes b)))=b:=bRo hb.symm rfl
 refine aH (λhlt=>⟨_,rfl,aH (λhpos => ?_) (λhz => ?_)⟩) (λhge => ?_)
 ·have hi:i<n:=by omega
  have hs0:s≠[]:=λh=>by rw[h]at hpos;simp at hpos
  have hm:Int.tmod (i:Int) (s.length:Int)=((i%s.length:Nat):Int):=by rw[bX6 (by omega)];omega
  have hlt2:i%s.length<s.length:=cA7 _ (by omega)
  have hx:b.getD i 0=0∨True:=.inr trivial
  refine⟨_,rfl,ckO ⟨_,rfl,ckI (by rw[hm];simp;omega) ⟨_,rfl,ckI (by rw[dO];simp;omega) (ckI (by rw[dO];simp;omega) ?_)⟩⟩⟩
  rw[hm,bXf,bXf,bY6,cAc,stB (by omega) rfl]
  refine aF ⟨⟨trivial,rfl⟩,(i+1,b.set i (s.getD (i%s.length) 0)),⟨hi,.inr hs0, ?_⟩, ?_,by simp⟩
  ·show b.set i (s.getD (i%s.length) 0)=(dM s n).take (i+1)++List.replicate (n-(i+1)) 0
   have e1:(dM s n).getD i 0=s.getD (i%s.length) 0:=by
    rw[dM,if_neg hs0]
    simp[bW7,hi]
   have e2:List.replicate (n-i) (0:UInt8)=0::List.replicate (n-(i+1)) 0:=by
    rw[show n-i=(n-(i+1))+1 by omega,bZl]
   have e3:((dM s n).take i).length=i:=by rw[bXg,hl];omega
   rw[mH _ 0 (by omega:i<(dM s n).length),e1,g3,e2,bZ0 _ _ (by omega),e3,bZ4,cAy,bW9]
   rfl
  ·show n-(i+1)<n-i
   omega
 ·refine ckI cl ⟨_,rfl, ?_⟩
  rw[st,fin (.inr (bYq.1 (by omega)))]
  exact hq
 ·refine ckI cl ⟨_,rfl, ?_⟩
  rw[st,fin (.inl (by omega))]
  exact hq
def aPa:Con
 | [.str s,.int .i64 n],H,K=>Lf (0<=n∧n<=100000∧s.length<=9223372036854775807)∧∀t,Lf (t=dM s n.toNat)->K (.ret (.str t)) H
 | _,_,_=>False
theorem bAq:aI Tryz.prog gl0 79 aPa:=by
 refine aQ (enters_of (by kernel_rfl)) aO λargs H Q hc => ?_
 unfold aPa at hc
 split at hc
 ·rename_i s n
  obtain⟨⟨h0,h1,h2⟩,hq⟩:=hc
  obtain⟨m,rfl⟩:=cAv h0
  obtain⟨hv,hb',h⟩:=aRe s m (Q:=λo H' _=>H'=[]∧(∃v,o=.ret v∧old 0 v=true∧noY v=true)∧Q o H) (by omega) (by omega) ⟨rfl,⟨_,rfl,rfl,rfl⟩,hq _ ⟨rfl⟩⟩
  exact⟨rfl,rfl,_,1000,aS bY _ _ _,rfl,h⟩
 ·exact hc.elim
def iU(w:Nat):Nat->QT
 | 0=>[]
 | i+1=>iU w i++if w/2^i%2=1 then[1+(i:Int)]else[]
def bM1(w:Nat)(s:S):List (List LInv):=[[
 { α:=Nat,pre:=λi=>Lf (i<=16∧iU w i=[]),st:=λi=>⟨mkT [(1,s.tm.get 1),(2,s.tm.get 2),(3,.nils),(4,.int .i64 (i:Nat))],s.hp⟩,mu:=λi=>16-i },
 { α:=Nat,pre:=λi=>Lf (i<=16∧0<(iU w i).length),st:=λi=>⟨mkT [(1,s.tm.get 1),(2,s.tm.get 2),(3,.sl 2 (iU w i).length 0 (iU w i).length 1),(4,.int .i64 (i:Nat))],s.hp++[⟨.grow,true,aA (iU w i)⟩]⟩,mu:=λi=>16-i }]]
theorem bO4(xs:QT):zZ (aA xs)=true:=by
 unfold aA
 induction xs with
 | nil=>rfl
 | cons x xs ih=>simp[zZ,noT,ih]
theorem bBt:∀l:List Tr,zZ (trM l)=true
 | []=>rfl
 | x::l=>by simp[trM,zZ,noT,bBt l]
theorem bLj(a b c:LA)(xs:QT)(l:List Tr)(nx rs rt:Int)(rk:Nat):noT (shV 0 0 a b c xs l nx rs rt rk)=true:=by
 simp[shV,noT,zZ,bO4,bBt]
def bLk:Con:=λargs H Q=>qI [0,1] H args λa=>bR0 a H Q
theorem bGi:aI Tryz.prog gl0 16 bLk:=eG bJ1 aO [0,1] λargs H Q h=>by
 unfold bR0 at h ⊢
 split at h
 ·obtain⟨xs,hx,hq⟩:=h
  exact⟨xs,hx,λa' b' c' xs' rt e he=>⟨rfl,⟨_,rfl,by simp[noT,zZ,bLj]⟩,hq a' b' c' xs' rt e he⟩⟩
 ·exact h.elim
def bV5:SM:=gG [(79,aPa),(16,bLk)]
theorem bH2:∀f g,bV5 f=some g->aI Tryz.prog gl0 f g:=bO _ (by simp only[bXd,bXn,bY0,bYd,bY4];exact⟨bAq,bGi⟩)
noncomputable def bBe(hv:LI)(hb:LB)(w:Nat):Env := { e04 bV5 (λi=>bif Nat.beq i 26000 then some (bM1 w)else none) hv hb with hz:=λk=>Nat.beq k 106516 }
noncomputable def aJu(hv:LI)(hb:LB)(key:LA)(w:Nat)(fi:Int)(st:HB)(n:Nat)(ss:Int)(Q:BS):Prop:=
 aT (bBe hv hb w) (wpx (bBe hv hb w) 1000) 26 [.agg [.str key,.int .u16 (w:Nat),.int .u16 fi,.lst 0 st n 1,.int .u32 ss]] [] {} Q
abbrev bG0(key:LA)(w:Nat)(fi:Int)(st:HB)(n:Nat)(ss:Int):Prop:=aK [AV.str key,.int .u16 (w:Int),.int .u16 fi,.lst 0 st n 1,.int .u32 ss]
abbrev bI1:Prop:=aK [AV.str [],.str [],.str [],.nils,.nils,.int .i64 0,.int .i64 0,.int .i64 0,.int .u64 0]
def vY(key:LA)(w:Nat)(fi:Int)(st:HB)(n:Nat)(ss:Int):Prop:=
bG0 key w fi st n ss∧bI1∧False
abbrev bF3(x_0 w:Nat):Prop:=Lf (x_0<=16∧iU w x_0=[])
abbrev aL9:Prop:=aK (AV.ptr 0 5 0)
abbrev aGd(w x_0:Nat):Nat:=(iU w x_0).length
abbrev aGs(x_0 w:Nat):Prop:=Lf (x_0<=16∧0<aGd w x_0)
abbrev aR8:Prop:=True∧(0:Nat)=(0:Nat)
abbrev aS8(w y_10:Nat):AV:=.sl 2 (aGd w y_10) 0 (aGd w y_10) 1
abbrev bP6(n_9:Int)(y_10:Nat):Prop:=aK (AV.ptr 1 9 0)∧AV.int .i64 n_9=AV.int .i64 (y_10:Int)∧True
abbrev bMq(key:LA):Bool:=decide (key.length+1<=9223372036854775807)&&true
abbrev bN2(key:LA):Prop:=Lf ((0:Int)<=(32:Int)∧(32:Int)<=(100000:Int)∧key.length<=9223372036854775807)
abbrev bE8(key:LA):Bool:=dE [.str key] [.str key]&&true
abbrev bHg(s_2:LA):Prop:=Lf ((0:Int)<=(12:Int)∧(12:Int)<=(100000:Int)∧s_2.length<=9223372036854775807)
abbrev bTs(t_4 t_5 t_6:LA)(xs_7:QT)(Q:BS):Prop:=∀a'_8 b'_9 c'_10:LA,∀xs'_11:QT,∀rt_12 e_13:Int,Lf (bKk t_4 t_5 t_6 xs_7=Prod.mk a'_8 (Prod.mk b'_9 (Prod.mk c'_10 (Prod.mk xs'_11 (Prod.mk rt_12 e_13)))))->Q (.ret (.agg [.str a'_8,.str b'_9,.str c'_10,.lst 0 (aA xs'_11) xs'_11.length 1,.lst 0 (trM []) 0 3,.int .i64 0,.int .i64 0,.int .i64 rt_12,.int .u64 0])) [] {}
abbrev bSb:Blk:=Blk.mk BK.exact true [.str [],.str [],.str [],.nils,.nils,.int .i64 0,.int .i64 0,.int .i64 0,.int .u64 0]
theorem bSr(key:LA)(w:Nat)(fi:Int)(st:HB)(n:Nat)(ss:Int)(Q:BS):aJu (aW [(106503,.int .i64),(106508,.int .u16),(106509,.int .i64),(106510,.int .u16),(106511,.int
 .u16),(106514,.int .i64),(106515,.int .i64),(106505,.int .i64),(106506,.int .i64),(106524,.str),(106528,.str)]) (aV []) key w fi st n ss Q=(((∃x_0:Nat,bF3 x_0 w∧bG0 key w fi st n ss∧bI1∧aL9∧AV.nils =
 AV.nils∧aK (AV.ptr 1 9 0)∧AV.int .i64 0=AV.int .i64 (x_0:Int)∧True)∨∃x_0:Nat,aGs x_0 w∧vY key w fi st n ss)∧(∀x_0:Nat,bF3 x_0 w->exI .i64 (x_0:Int) (λn_1=>bif decide (n_1<16)then exI .u16 (w :
 Int) (λn_2=>exI .i64 (x_0:Int) (λn_3=>ckQ (decide (0<=n_3)&&true) (exI .u16 (Int.fdiv n_2 ((2:Int)^Min.min n_3.toNat 16)) (λn_4=>exW .u16 (((n_4%65536).toNat &&& 1:Nat):Int) (λn_5=>bif n_5==1 then exI
 .i64 (x_0:Int) (λn_6=>exW .i64 (1+n_6) (λn_7=>exI .i64 (x_0:Int) (λn_8=>exW .i64 (n_8+1) (λn_9=>aR8∧((∃y_10:Nat,bF3 y_10 w∧16-y_10<16-x_0∧vY key w fi st n ss)∨∃y_10:Nat,aGs y_10 w
 ∧ 16-y_10<16-x_0∧bG0 key w fi st n ss∧bI1∧[AV.int .i64 n_7]=aA (iU w y_10)∧aL9∧AV.sl 2 1 0 1 1=aS8 w y_10∧bP6 n_9 y_10)))))else exI .i64 (x_0:Int) (λn_6=>exW .i64 (n_6+1) (λn_7=>aR8∧((∃
 y_8:Nat,bF3 y_8 w∧16-y_8<16-x_0∧bG0 key w fi st n ss∧bI1∧aL9∧AV.nils=AV.nils∧bP6 n_7 y_8)∨∃y_8:Nat,aGs y_8 w∧16-y_8<16-x_0∧vY key w fi st n ss))))))))else ckQ (bMq key) (exS (.str (key
 ++ [UInt8.ofNat 115])) (λs_2=>ckQ (bMq key) (exS (.str (key++[UInt8.ofNat 109])) (λs_3=>bN2 key∧∀t_4:LA,Lf (t_4=dM key (Int.toNat 32))->ckQ (bE8 key) (ckQ (bE8 key) (bHg s_2∧∀t_5:LA,Lf
 (t_5=dM s_2 (Int.toNat 12))->ckQ (bE8 key) (bN2 s_3∧∀t_6:LA,Lf (t_6=dM s_3 (Int.toNat 32))->∃xs_7:QT,Lf (([]:HB)=aA xs_7∧0=xs_7.length∧xs_7.length<=9223372036854775807)∧bTs t_4
 t_5 t_6 xs_7 Q)))))))))∧∀x_0:Nat,aGs x_0 w->exI .i64 (x_0:Int) (λn_1=>bif decide (n_1<16)then exI .u16 (w:Int) (λn_2=>exI .i64 (x_0:Int) (λn_3=>ckQ (decide (0<=n_3)&&true) (exI .u16 (Int.fdiv n_2 ((2 :
 Int)^Min.min n_3.toNat 16)) (λn_4=>exW .u16 (((n_4%65536).toNat &&& 1:Nat):Int) (λn_5=>bif n_5==1 then exI .i64 (x_0:Int) (λn_6=>exW .i64 (1+n_6) (λn_7=>ckQ (Nat.beq (aA (iU w x_0)).length (aGd w
 x_0)&&true&&Nat.beq (0+aGd w x_0*1) (aGd w x_0)&&Nat.ble (aGd w x_0+1) 1099511627776&&Nat.ble ((aGd w x_0+1)*8) 1099511627776) (exI .i64 (x_0:Int) (λn_8=>exW .i64 (n_8+1) (λn_9=>aR8∧((∃y_10:Nat,
 bF3 y_10 w∧16-y_10<16-x_0∧vY key w fi st n ss)∨∃y_10:Nat,aGs y_10 w∧16-y_10<16-x_0∧bG0 key w fi st n ss∧bI1∧aA (iU w x_0)++[AV.int .i64 n_7]=aA (iU w y_10)∧aL9∧AV.sl 2 (aGd w
 x_0+1) 0 (aGd w x_0+1) 1=aS8 w y_10∧bP6 n_9 y_10))))))else exI .i64 (x_0:Int) (λn_6=>exW .i64 (n_6+1) (λn_7=>aR8∧((∃y_8:Nat,bF3 y_8 w∧16-y_8<16-x_0∧vY key w fi st n ss)∨∃y_8:Nat,
 aGs y_8 w∧16-y_8<16-x_0∧bG0 key w fi st n ss∧bI1∧aA (iU w x_0)=aA (iU w y_8)∧aL9∧aS8 w x_0=aS8 w y_8∧bP6 n_7 y_8))))))))else ckQ (bMq key) (exS (.str (key++[UInt8.ofNat 115])) (λs_2=>
 ckQ (bMq key) (exS (.str (key++[UInt8.ofNat 109])) (λs_3=>bN2 key∧∀t_4:LA,Lf (t_4=dM key (Int.toNat 32))->ckQ (bE8 key) (ckQ (bE8 key) (bHg s_2∧∀t_5:LA,Lf (t_5=dM s_2 (Int.toNat 12)) →
 ckQ (bE8 key) (bN2 s_3∧∀t_6:LA,Lf (t_6=dM s_3 (Int.toNat 32))->ckQ (Nat.beq (aA (iU w x_0)).length (aGd w x_0)&&Nat.ble (0+aGd w x_0*1) (aGd w x_0)&&true) (∃xs_7:QT,Lf (List.map (λ(x_8 :
 AV)=>bU 1 [Blk.mk BK.exact true [.str key,.int .u16 (w:Int),.int .u16 fi,.lst 0 st n 1,.int .u32 ss],bSb,Blk.mk BK.grow true (aA (iU w x_0)),bSb] 8 x_8) (((aA (iU w x_0)).drop 0).take (aGd w x_0*1))=aA
 xs_7∧aGd w x_0=xs_7.length∧xs_7.length<=9223372036854775807)∧bTs t_4 t_5 t_6 xs_7 Q)))))))))):=by kernel_rfl

theorem aGk(w:Nat):∀i,(iU w i).length<=i
 | 0=>by simp[iU]
 | i+1=>by
  have h:=aGk w i
  rw[iU,bW2]
  split<;>simp<;>omega
theorem bBn(w:Nat):∀i,∀x∈iU w i,1<=x∧x<=i
 | 0,x,h=>by simp[iU]at h
 | i+1,x,h=>by
  rw[iU,bYj]at h
  rcases h with h | h
  ·have:=bBn w i x h;omega
  ·split at h
   ·rw[bXp]at h;omega
   ·simp at h
theorem aLn(x:Int)(l:QT):∀i,i<=l.length->kI (l++[x]) i=kI l i
 | 0,_=>rfl
 | i+1,h=>by
  have e1:(l++[x]).getD i 0=l.getD i 0:=by rw[bW7,bW7,bXx (by omega)]
  have e2:(l++[x]).getD (i-1) 0=l.getD (i-1) 0:=by rw[bW7,bW7,bXx (by omega)]
  rw[kI,kI,aLn x l i (by omega),e1,e2]
theorem aRl(w:Nat):∀i,i<=255->kI (iU w i) (iU w i).length=true
 | 0,_=>rfl
 | i+1,hi=>by
  have h:=aRl w i (by omega)
  rw[iU]
  split
  ·rw[bW2,bZa,kI,aLn _ _ _ (bXe _),h,bX7]
   have e1:(iU w i++[1+(i:Int)]).getD (iU w i).length 0=1+(i:Int):=by rw[bW7,bYa (bXe _),bZ4];rfl
   rw[e1,bXr (by omega),bXr (by omega),bX7,bX7,bXh,bS,bW6]
   by_cases h0:(iU w i).length=0
   ·exact .inl h0
   ·right
    have hlt:(iU w i).length-1<(iU w i).length:=by omega
    have e2:(iU w i++[1+(i:Int)]).getD ((iU w i).length-1) 0=(iU w i)[(iU w i).length-1]:=by
     rw[bW7,bXx hlt,bW8 hlt];rfl
    have:=bBn w i _ (bXk hlt)
    rw[e2];omega
  ·rw[bXs];exact h
theorem wC(a b c:LA)(w:Nat):dA (dM a 32) (dM b 12) (dM c 32) (iU w 16)=true:=by
 have:=aGk w 16
 rw[dA,aRl w 16 (by omega),gV,oD,oD,oD,bX4]
 simp[bS,bX5];omega
theorem bD5(l:QT)(x:Int):aA l++[AV.int .i64 x]=aA (l++[x]):=by
 rw[aA,aA,cBk];rfl
theorem aVo(key:LA)(w:Nat)(hw:w<65536)(hk:key.length<=9223372036854775000)(fi:Int)(st:HB)(n:Nat)(ss:Int)(Q:BS)
  (hq:Q (.ret (shV 0 0 (dM key 32) (dM (key++[115]) 12) (dM (key++[109]) 32) (iU w 16) [] 0 0 (-1) 0)) [] {}):∃hv hb,aJu hv hb key w fi st n ss Q:=by
 obtain⟨hv,hb',e⟩:∃hv hb,aJu hv hb key w fi st n ss Q=_:=⟨_,_,bSr key w fi st n ss Q⟩
 refine⟨hv,hb',e.mpr ?_⟩
 delta bF3 bG0 bI1 aL9 aGd aGs aR8 aS8 bP6 bMq bN2 bE8 bHg bTs bSb
 clear e
 have hnew:=wC key (key++[115]) (key++[109]) w
 have bit:∀ {i:Nat} {P:Int->Prop},i<16->P ((w/2^i%2:Nat):Int)->∃n4:Int,AV.int .u16 (Int.fdiv (w:Int) ((2:Int)^(min (Int.toNat (i:Int)) 16)))=AV.int .u16 n4∧∃n5:Int,AV.int .u16 (IntKind.wrap .u16 ((Int.toNat (n4%65536) &&& 1:Nat):Int))=AV.int .u16 n5∧P n5:=λ{i} {P} hi h=>by
  rw[show min (Int.toNat (i:Int)) 16=i by omega,bVx]
  have hd:w/2^i<=w:=cCz _ _
  generalize w/2^i=q at hd h ⊢
  refine⟨_,rfl,((q%2:Nat):Int), ?_,h⟩
  rw[show Int.toNat ((q:Int)%65536)=q by omega,Nat.and_one_is_mod,show IntKind.wrap .u16 ((q%2:Nat):Int)=((q%2:Nat):Int)%65536 from rfl,show((q%2:Nat):Int)%65536=((q%2:Nat):Int)by omega]
 have succ1:∀ {i:Nat},w/2^i%2=1->iU w (i+1)=iU w i++[1+(i:Int)]:=λh=>by rw[iU,if_pos h]
 have succ0:∀ {i:Nat},¬ w/2^i%2=1->iU w (i+1)=iU w i:=λh=>by rw[iU,if_neg h,bXs]
 have ckk:∀ {s:LA} {A:Prop},A->bif dE [AV.str s] [AV.str s]&&true then A else False:=λh=>ckI (by simp[dE,iC,aSu]) h
 refine⟨.inl ⟨0,⟨by omega,rfl⟩,rfl,rfl,rfl,rfl,rfl,rfl,trivial⟩, ?_, ?_⟩
 ·rintro i ⟨g1,g2⟩
  refine⟨_,rfl,aH (λh => ?_) (λh => ?_)⟩
  ·refine⟨_,rfl,_,rfl,ckI (by simp) (bit (by omega) (bJ (λhb => ?_) (λhb => ?_)))⟩
   ·have hh:=succ1 (i:=i) (by omega)
    rw[g2]at hh
    exact⟨_,rfl,aF ⟨_,rfl,aF ⟨⟨trivial,rfl⟩,.inr ⟨i+1,⟨by omega,by rw[hh];simp⟩,by omega,rfl,rfl,by rw[hh];rfl,rfl,by rw[hh];rfl,rfl,rfl,trivial⟩⟩⟩⟩
   ·have hh:=succ0 (i:=i) (by omega)
    exact⟨_,rfl,aF ⟨⟨trivial,rfl⟩,.inl ⟨i+1,⟨by omega,by rw[hh,g2]⟩,by omega,rfl,rfl,rfl,rfl,rfl,rfl,trivial⟩⟩⟩
  ·obtain rfl:i=16:=by omega
   generalize iU w 16=X at *
   refine ckO ⟨_,rfl,ckO ⟨_,rfl,⟨by omega,by omega,by omega⟩, ?_⟩⟩
   rintro t4 ⟨rfl⟩
   refine ckk (ckk ⟨⟨by omega,by omega,by simp;omega⟩, ?_⟩)
   rintro t5 ⟨rfl⟩
   refine ckk ⟨⟨by omega,by omega,by simp;omega⟩, ?_⟩
   rintro t6 ⟨rfl⟩
   refine⟨[],⟨rfl,rfl,by simp⟩, ?_⟩
   rintro a b c xs rt e ⟨he⟩
   subst g2
   rw[bKk,if_pos (by exact hnew)]at he
   simp only[bX1]at he
   obtain⟨rfl,rfl,rfl,rfl,rfl,rfl⟩:=he
   exact hq
 ·rintro i ⟨g1,g2⟩
  have hcl:=aM (iU w i)
  have hl:=aGk w i
  refine⟨_,rfl,aH (λh => ?_) (λh => ?_)⟩
  ·refine⟨_,rfl,_,rfl,ckI (by simp) (bit (by omega) (bJ (λhb => ?_) (λhb => ?_)))⟩
   ·have hh:=succ1 (i:=i) (by omega)
    exact⟨_,rfl,aF (ckI (by rw[hcl];simp[bS];omega) ⟨_,rfl,aF ⟨⟨trivial,rfl⟩,.inr ⟨i+1,⟨by omega,by rw[hh];simp⟩,by omega,rfl,rfl,by rw[hh,bD5],rfl,by rw[hh,bW2];rfl,rfl,rfl,trivial⟩⟩⟩)⟩
   ·have hh:=succ0 (i:=i) (by omega)
    exact⟨_,rfl,aF ⟨⟨trivial,rfl⟩,.inr ⟨i+1,⟨by omega,by rw[hh];exact g2⟩,by omega,rfl,rfl,by rw[hh],rfl,by rw[hh],rfl,rfl,trivial⟩⟩⟩
  ·obtain rfl:i=16:=by omega
   generalize iU w 16=X at *
   refine ckO ⟨_,rfl,ckO ⟨_,rfl,⟨by omega,by omega,by omega⟩, ?_⟩⟩
   rintro t4 ⟨rfl⟩
   refine ckk (ckk ⟨⟨by omega,by omega,by simp;omega⟩, ?_⟩)
   rintro t5 ⟨rfl⟩
   refine ckk ⟨⟨by omega,by omega,by simp;omega⟩, ?_⟩
   rintro t6 ⟨rfl⟩
   refine ckI (by rw[hcl];simp[bS]) ⟨X,⟨?_,rfl,by omega⟩, ?_⟩
   ·rw[bXl,bW4 (by rw[hcl];omega)]
    exact aHw 1 _ 7 _ (bP2 _)
   rintro a b c xs rt e ⟨he⟩
   rw[bKk,if_pos (by exact hnew)]at he
   simp only[bX1]at he
   obtain⟨rfl,rfl,rfl,rfl,rfl,rfl⟩:=he
   exact hq
def tX(ks:QT):HB:=ks.map (AV.int .i16)
theorem aYs(ks:QT):aP 0 (tX ks)=true∧bX (tX ks)=true:=by
 unfold tX
 induction ks with
 | nil=>exact⟨rfl,rfl⟩
 | cons x xs ih=>simp[aP,bX,old,noY,ih.1,ih.2]
def bBa:Con
 | [.agg [.str key,.int .u16 u,.int .u16 _,.lst 0 l n 1,.int .u32 _]],H,K=>∃ (w:Nat) (ks:QT),Lf (u=(w:Int)∧l=tX ks∧n=ks.length∧w<65536∧key.length<=140737488351232) ∧
   ∀ (a b c:LA) (xs:QT),Lf (a=dM key 32∧b=dM (key++[115]) 12∧c=dM (key++[109]) 32∧xs=iU w 16)->K (.ret (shV 0 0 a b c xs [] 0 0 (-1) 0)) H
 | _,_,_=>False
theorem aZ2:aI Tryz.prog gl0 26 bBa:=by
 refine aQ (enters_of (by kernel_rfl)) aO λargs H Q hc => ?_
 unfold bBa at hc
 split at hc
 ·rename_i key u fi l n ss
  obtain⟨w,ks,⟨rfl,rfl,rfl,h1,h2⟩,hq⟩:=hc
  obtain⟨hv,hb',h⟩:=aVo key w h1 (by omega) fi (tX ks) ks.length ss (Q:=λo H' _=>H'=[]∧(∃v,o=.ret v∧old 0 v=true∧noY v=true)∧Q o H)
   ⟨rfl,⟨_,rfl,by simp[shV,old,aP,aLj,trM],by simp[shV,noY,bX,(pX _).2,trM]⟩,hq _ _ _ _ ⟨rfl,rfl,rfl,rfl⟩⟩
  exact⟨by simp[aP,old,(aYs ks).1],by simp[bX,noY,(aYs ks).2],_,1000,⟨jL,jM,dH,bH2⟩,rfl,h⟩
 ·exact hc.elim
end Go.Proofs.YtnhechnaemmdiaaGreatDoor
