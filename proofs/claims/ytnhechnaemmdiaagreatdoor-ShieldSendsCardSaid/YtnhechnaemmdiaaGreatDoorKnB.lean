/-
  Chapter 25: whether a shield is valid (Check).
-/
import Derived.Test.YtnhechnaemmdiaaGreatDoorKnA
set_option linter.unusedSimpArgs false
set_option linter.unusedVariables false
set_option linter.unusedSectionVars false
namespace Go.Proofs.YtnhechnaemmdiaaGreatDoor
open Go.RowKit
set_option maxRecDepth 1000000

def jE(a b c:LA)(xs:QT)(nx rs rt:Int)(rk n:Nat):Bool:=dA a b c xs&&(decide (0<=nx)&&decide (nx<=2147483648))&&decide (rs=0)&&tN (-1) 2147483647 rt rk&&Nat.ble n 16
def wK(l:List Tr)(i:Nat):Bool:=match l[i]? with
 | some t=>(decide (0<=t.1)&&decide (t.1<=4294967295))&&tN 0 281474976710655 t.2.1 t.2.2 && !pU t.1 l i
 | none=>true
def qH(l:List Tr):Nat->Bool
 | 0=>true
 | i+1=>qH l i&&wK l i
def dQ(a b c:LA)(xs:QT)(l:List Tr)(nx rs rt:Int)(rk:Nat):Bool:=jE a b c xs nx rs rt rk l.length&&qH l l.length
def bNk(hd:Bool)(l:List Tr)(s:S):List (List LInv):=[[
 { α:=Nat,pre:=λi=>Lf (i<=l.length∧qH l i=true∧(hd=true∨i=0)),st:=λi=>⟨mkT [(1,s.tm.get 1),(3,s.tm.get 3),(35,s.tm.get 35),(36,s.tm.get 36),(37,.int .i64 (i:Nat))],s.hp⟩,mu:=λi=>l.length-i }]]
def bWb:SM:=gG [(51,uF),(52,aCn),(53,aId),(55,bTt)]
theorem bFg:∀f g,bWb f=some g->aI Tryz.prog gl0 f g:=bO _ (by simp only[bXd,bXn,bY0,bYd,bY4];exact⟨aLp,aFw,aUs,aY5⟩)
noncomputable def bC6(hv:LI)(hb:LB)(hd:Bool)(l:List Tr):Env:=e04 bWb (λi=>bif Nat.beq i 13000 then some (bNk hd l)else none) hv hb
noncomputable def aIl(hv:LI)(hb:LB)(tg tg2:Nat)(a b c:LA)(xs:QT)(l:List Tr)(nx rs rt:Int)(rk:Nat)(Q:BS):Prop:=
 aT (bC6 hv hb (jE a b c xs nx rs rt rk l.length) l) (wpx (bC6 hv hb (jE a b c xs nx rs rt rk l.length) l) 1000) 13 [.agg [.str a,.str b,.str c,.lst tg (aA xs) xs.length 1,.lst tg2 (trM l) l.length 3,.int .i64 nx,.int .i64 rs,.int .i64 rt,.int .u64 (rk:Nat)]] [] {} Q
abbrev bJb(x_1:Nat)(l:List Tr)(a b c:LA)(xs:QT)(nx rs rt:Int)(rk:Nat):Prop:=Lf (x_1<=l.length∧qH l x_1=true∧(jE a b c xs nx rs rt rk l.length=true∨x_1=0))
abbrev bM2(a b c:LA)(tg:Nat)(xs:QT)(tg2:Nat)(l:List Tr)(nx rs rt:Int)(rk:Nat):Prop:=aK [AV.str a,.str b,.str c,.lst tg (aA xs) xs.length 1,.lst tg2 (trM l) l.length 3,.int .i64 nx,.int .i64 rs,.int .i64 rt,.int .u64 (rk:Int)]
abbrev bHk:Out:=.ret (.int .i64 250)
def nX(tg:Nat)(tg2:Nat)(a:LA)(b:LA)(c:LA)(xs:QT)(l:List Tr)(nx:Int)(rs:Int)(rt:Int)(rk:Nat)(Q:BS):Prop:=
exI .i64 (l.length:Int) (λn_0=>(∃x_1:Nat,bJb x_1 l a b c xs nx rs rt rk∧bM2 a b c tg xs tg2 l nx rs rt rk∧aK (AV.ptr 0 9 0)∧aK (AV.bool false)∧aK (AV.lst tg2 (trM l) l.length 3)∧AV.int .i64 0=AV.int .i64 (x_1:Int)∧aK (AV.int .i64 n_0)∧True)∧∀x_1:Nat,bJb x_1 l a b c xs nx rs rt rk->bif decide ((x_1:Int)<n_0)then exI .i64 (x_1:Int) (λn_2=>ckQ (Nat.blt (x_1:Int).toNat l.length&&true) (ckQ (Nat.ble ((x_1:Int).toNat*3+3) (trM l).length) (∃n_3 n_4 n_5,AV.agg (((trM l).drop ((x_1:Int).toNat*3)).take 3)=AV.agg [.int .i64 n_3,.int .i64 n_4,.int .u64 n_5]∧Q bHk [] {})))else Q bHk [] {})
theorem bUa(tg:Nat)(tg2:Nat)(a:LA)(b:LA)(c:LA)(xs:QT)(l:List Tr)(nx:Int)(rs:Int)(rt:Int)(rk:Nat)(Q:BS):aIl (aW [(53273,.agg [(.int .i64),
 (.int .i64),(.int .u64)]),(53279,.int .i64),(53284,.int .i64),(53287,.int .i64),(53289,.agg [.int .i64,.int .i64,.int .u64]),(53312,.int .i64)]) (aV []) tg tg2 a b c xs l nx rs rt rk Q=(∃xs_0:QT,Lf (aA xs =
 aA xs_0∧xs.length=xs_0.length∧xs_0.length<=9223372036854775807)∧∀r_1:Bool,Lf (r_1=dA a b c xs_0)->bif r_1 then bif decide (0<=nx)&&decide (nx<=2147483648)then bif rs==0 then ∃n_2 n_3 n_4,AV.agg [.int .i64
 rs,.int .i64 rt,.int .u64 (rk:Int)]=AV.agg [.int .i64 n_2,.int .i64 n_3,.int .u64 n_4]∧∃s_5:Nat,Lf (n_4=(s_5:Int)∧s_5<18446744073709551616∧(-9223372036854775808<=n_3∧n_3<=9223372036854775807) ∧ -1<=Int.negSucc
 0)∧∀b_6:Bool,Lf (b_6=tN (Int.negSucc 0) 2147483647 n_3 s_5)->bif b_6 then exI .i64 (l.length:Int) (λn_7=>bif decide (n_7<=16)then exI .i64 (l.length:Int) (λn_8=>(∃x_9:Nat,bJb x_9 l a b c xs nx rs rt rk ∧
 bM2 a b c tg xs tg2 l nx rs rt rk∧aK (AV.ptr 0 9 0)∧aK (AV.bool true)∧aK (AV.lst tg2 (trM l) l.length 3)∧AV.int .i64 0=AV.int .i64 (x_9:Int)∧aK (AV.int .i64 n_8)∧True)∧∀x_9:Nat,bJb x_9 l a b c xs nx rs rt rk
 → bif decide ((x_9:Int)<n_8)then exI .i64 (x_9:Int) (λn_10=>ckQ (Nat.blt (x_9:Int).toNat l.length&&true) (ckQ (Nat.ble ((x_9:Int).toNat*3+3) (trM l).length) (∃n_11 n_12 n_13,AV.agg (((trM l).drop ((x_9:Int).toNat
 * 3)).take 3)=AV.agg [.int .i64 n_11,.int .i64 n_12,.int .u64 n_13]∧bif decide (0<=n_11)&&decide (n_11<=4294967295)then ∃s_14:Nat,Lf (n_13=(s_14:Int)∧s_14<18446744073709551616∧(-9223372036854775808<=n_12∧n_12 ≤
 9223372036854775807) ∧ -(1:Int)<=(0:Int))∧∀b_15:Bool,Lf (b_15=tN 0 281474976710655 n_12 s_14)->bif b_15 then ckQ (decide (0<=n_10)&&true&&Nat.ble n_10.toNat l.length&&true) (∃ts_16:List Tr,∃s_17:Nat,Lf
 (Nat.blt 1 (List.length [Blk.mk BK.exact true [.str a,.str b,.str c,.lst tg (aA xs) xs.length 1,.lst tg2 (trM l) l.length 3,.int .i64 nx,.int .i64 rs,.int .i64 rt,.int .u64 (rk:Int)],Blk.mk BK.exact true [.int .i64 n_11,
 .int .i64 n_12,.int .u64 n_13]])=true∧n_13=(s_17:Int)∧((trM l).drop 0).take ((n_10.toNat-0)*3)=trM ts_16∧n_10.toNat-0=ts_16.length∧ts_16.length<=1000)∧∀b_18:Bool,Lf (b_18=pU n_11 ts_16 ts_16.length) →
 bif b_18 then Q bHk [] {}else exW .i64 ((x_9:Int)+1) (λn_19=>(True∧(0:Nat)=(0:Nat))∧∃y_20:Nat,bJb y_20 l a b c xs nx rs rt rk∧l.length-y_20<l.length-x_9∧bM2 a b c tg xs tg2 l nx rs rt rk∧aK (AV.ptr
 0 9 0)∧aK (AV.bool true)∧aK (AV.lst tg2 (trM l) l.length 3)∧AV.int .i64 n_19=AV.int .i64 (y_20:Int)∧aK (AV.int .i64 n_8)∧True))else Q bHk [] {}else Q bHk [] {})))else Q (.ret (.int .i64 0)) [] {})else nX tg
 tg2 a b c xs l nx rs rt rk Q)else nX tg tg2 a b c xs l nx rs rt rk Q else nX tg tg2 a b c xs l nx rs rt rk Q else nX tg tg2 a b c xs l nx rs rt rk Q else nX tg tg2 a b c xs l nx rs rt rk Q):=by kernel_rfl

def aWa(l:List Tr):Prop:=∀t∈l,(-9223372036854775808<=t.2.1∧t.2.1<=9223372036854775807)∧t.2.2<18446744073709551616
theorem aQ1:∀ (l:List Tr) (i:Nat),List.take (i*3) (trM l)=trM (l.take i)
 | l,0=>by simp[trM]
 | [],i+1=>by simp[trM]
 | t::l,i+1=>by
  rw[show(i+1)*3=i*3+3 by omega,bY7,trM,trM,←aQ1 l i]
  rfl
theorem bN6{l:List Tr}{i n:Nat}(h:i<=n)(hi:qH l i=false):qH l n=false:=by
 induction n with
 | zero=>
  obtain rfl:i=0:=by omega
  exact hi
 | succ n ih=>
  by_cases e:i=n+1
  ·rw[←e];exact hi
  ·rw[qH,ih (by omega)];rfl
theorem aYz(c:Int)(l:List Tr)(i:Nat)(h:i<=l.length):pU c (l.take i) (l.take i).length=pU c l i:=by
 unfold pU
 rw[bX8]
theorem aPr(tg tg2:Nat)(a b c:LA)(xs:QT)(l:List Tr)(nx rs rt:Int)(rk:Nat)(hx:xs.length<=9223372036854775807)(hl:aWa l)(hrt : -9223372036854775808<=rt∧rt<=9223372036854775807)(hrk:rk<18446744073709551616)(Q:BS)
  (hq:Q (.ret (.int .i64 (if dQ a b c xs l nx rs rt rk=true then 0 else 250))) [] {}):∃hv hb,aIl hv hb tg tg2 a b c xs l nx rs rt rk Q:=by
 obtain⟨hv,hb',e⟩:∃hv hb,aIl hv hb tg tg2 a b c xs l nx rs rt rk Q=_:=⟨_,_,bUa tg tg2 a b c xs l nx rs rt rk Q⟩
 refine⟨hv,hb',e.mpr ?_⟩
 delta bJb bM2 bHk
 clear e
 have yes:dQ a b c xs l nx rs rt rk=true->Q (.ret (.int .i64 0)) [] {}:=λh=>by rwa[if_pos h]at hq
 have no:dQ a b c xs l nx rs rt rk=false->Q (.ret (.int .i64 250)) [] {}:=λh=>by rwa[if_neg (by rw[h];decide)]at hq
 have hln:=pO l
 have one:jE a b c xs nx rs rt rk l.length=false->nX tg tg2 a b c xs l nx rs rt rk Q:=λh=>by
  have bad:=no (by rw[dQ,h];rfl)
  unfold nX
  delta bHk bJb bM2
  refine⟨_,rfl,⟨0,⟨by omega,rfl,.inr rfl⟩,rfl,rfl,rfl,rfl,rfl,rfl,trivial⟩, ?_⟩
  rintro i ⟨g1,g2,g3⟩
  refine aH (λh3=>⟨_,rfl,ckO (ckI (by rw[hln];simp;omega) ?_)⟩) (λ_=>bad)
  rw[show Int.toNat ((i:Nat):Int)=i from rfl,xA l i (by omega)]
  exact⟨_,_,_,rfl,bad⟩
 refine⟨xs,⟨rfl,rfl,hx⟩, ?_⟩
 rintro r ⟨rfl⟩
 cases h1:dA a b c xs
 ·exact one (by rw[jE,h1];rfl)
 rw[bXw]
 cases h2:decide (0<=nx)&&decide (nx<=2147483648)
 ·exact one (by rw[jE,h1,h2];rfl)
 rw[bXw]
 refine bJ (λh3 => ?_) (λh3=>one (by rw[jE,h1,h2,bXt h3];rfl))
 refine⟨_,_,_,rfl,rk,⟨rfl,hrk,hrt,by decide⟩, ?_⟩
 rintro w ⟨rfl⟩
 cases h4:tN (Int.negSucc 0) 2147483647 rt rk
 ·exact one (by rw[jE,h1,h2,bXr h3,show(-1:Int)=Int.negSucc 0 from rfl,h4];rfl)
 rw[bXw]
 refine⟨_,rfl,aH (λh5 => ?_) (λh5=>one (by
  rw[jE,show Nat.ble l.length 16=false from bZo.2 (by rw[ne_eq,bX5];omega),cAd]))⟩
 have hd:jE a b c xs nx rs rt rk l.length=true:=by
  rw[jE,h1,h2,bXr h3,show(-1:Int)=Int.negSucc 0 from rfl,h4,show Nat.ble l.length 16=true from by rw[bX5];omega];rfl
 refine⟨_,rfl,⟨0,⟨by omega,rfl,.inr rfl⟩,rfl,rfl,rfl,rfl,rfl,rfl,trivial⟩, ?_⟩
 rintro i ⟨g1,g2,g3⟩
 refine aH (λh6 => ?_) (λh6 => ?_)
 ·have hi:i<l.length:=by omega
  refine⟨_,rfl,ckO (ckI (by rw[hln];simp;omega) ?_)⟩
  rw[show Int.toNat ((i:Nat):Int)=i from rfl,xA l i hi]
  obtain⟨k1,k2⟩:=hl l[i] (bXk hi)
  have ho:wK l i=((decide (0<=l[i].1)&&decide (l[i].1<=4294967295))&&tN 0 281474976710655 l[i].2.1 l[i].2.2 && !pU l[i].1 l i):=by rw[wK,bW8 hi]
  have bad:wK l i=false->Q (.ret (.int .i64 250)) [] {}:=λh=>no (by rw[dQ,bN6 (i:=i+1) (by omega) (by rw[qH,h,cAd]),cAd])
  refine⟨_,_,_,rfl, ?_⟩
  cases h7:decide (0<=l[i].1)&&decide (l[i].1<=4294967295)
  ·exact bad (by rw[ho,h7];rfl)
  rw[bXw]
  refine⟨l[i].2.2,⟨rfl,k2,k1,by decide⟩, ?_⟩
  rintro w ⟨rfl⟩
  cases h8:tN 0 281474976710655 l[i].2.1 l[i].2.2
  ·exact bad (by rw[ho,h7,h8];rfl)
  rw[bXw]
  refine ckO ⟨l.take i,l[i].2.2,⟨by simp[Nat.blt],rfl, ?_,by simp;omega,by simp;omega⟩, ?_⟩
  ·rw[cCg,bXl];exact aQ1 l i
  rintro w ⟨rfl⟩
  rw[aYz _ l i (by omega)]
  cases h9:pU l[i].1 l i
  ·rw[bYi]
   exact aF ⟨⟨trivial,rfl⟩,i+1,⟨by omega,by rw[qH,g2,ho,h7,h8,h9];rfl,.inl hd⟩,by omega,rfl,rfl,rfl,rfl,rfl,rfl,trivial⟩
  ·exact bad (by rw[ho,h7,h8,h9];rfl)
 ·obtain rfl:i=l.length:=by omega
  exact yes (by rw[dQ,hd,g2];rfl)
theorem aLj(xs:QT):aP 0 (aA xs)=true:=by
 unfold aA
 induction xs with
 | nil=>rfl
 | cons x xs ih=>simp[aP,old,ih]
def bDh:Con
 | [.agg [.str a,.str b,.str c,.lst _ h n 1,.lst _ tr m 3,.int .i64 nx,.int .i64 rs,.int .i64 rt,.int .u64 u]],H,K=>∃ (xs:QT) (l:List Tr) (rk:Nat),
  Lf (h=aA xs∧n=xs.length∧tr=trM l∧m=l.length∧u=(rk:Int)∧xs.length<=9223372036854775807∧aWa l∧(-9223372036854775808<=rt∧rt<=9223372036854775807)∧rk<18446744073709551616)∧∀e:Int,Lf (e=if dQ a b c xs l nx rs rt rk=true then 0 else 250)->K (.ret (.int .i64 e)) H
 | _,_,_=>False
theorem aWn:aI Tryz.prog gl0 13 bDh:=by
 refine aQ (enters_of (by kernel_rfl)) aO λargs H Q hc => ?_
 unfold bDh at hc
 split at hc
 ·rename_i a b c tg h n tg2 tr m nx rs rt u
  obtain⟨xs,l,rk,⟨rfl,rfl,rfl,rfl,rfl,h1,h2,h3,h4⟩,hq⟩:=hc
  obtain⟨hv,hb',h⟩:=aPr tg tg2 a b c xs l nx rs rt rk h1 h2 h3 h4 (Q:=λo H' _=>H'=[]∧(∃v,o=.ret v∧old 0 v=true∧noY v=true)∧Q o H) ⟨rfl,⟨_,rfl,rfl,rfl⟩,hq _ ⟨rfl⟩⟩
  exact⟨by simp[aP,old,aLj,(aJt l).1],by simp[bX,noY,(pX xs).2,(aJt l).2],_,1000,aS bFg _ _ _,rfl,h⟩
 ·exact hc.elim
theorem aSu(s:LA):eqB s s=true:=by
 rw[jG];exact cBv s
theorem bAj:∀l:QT,aP 0 (aA l)=true∧bX (aA l)=true∧eH (aA l)=true
 | []=>⟨rfl,rfl,rfl⟩
 | x::l=>by
  have h:=bAj l
  rw[show aA (x::l)=.int .i64 x::aA l from rfl]
  simp[aP,old,bX,noY,eH,one,h.1,h.2.1,h.2.2]
theorem vC:∀l:List Tr,aP 0 (trM l)=true∧bX (trM l)=true∧eH (trM l)=true
 | []=>⟨rfl,rfl,rfl⟩
 | x::l=>by
  have h:=vC l
  rw[trM]
  simp[aP,old,bX,noY,eH,one,h.1,h.2.1,h.2.2]
def bPi:AV->Bool
 | .int _ _=>true | .bool _=>true | .str _=>true | .nils=>true | .nilp=>true | _=>false
theorem aHw(τ:Nat)(H:HV)(d:Nat):∀l:HB,(∀x∈l,bPi x=true)->l.map (λx=>bU τ H (d+1) x)=l
 | [],_=>rfl
 | x::l,h=>by
  have hx:bU τ H (d+1) x=x:=by
   have:=h x (by simp)
   cases x<;>first | rfl | simp[bPi]at this
  rw[bXu,aHw τ H d l λy hy=>h y (by simp[hy]),hx]
theorem aR1{τ:Nat}{H:HV}{d id tot off len sz:Nat}{b:Blk}{cs:HB}(hb:H[id]? = some b)(h1:b.cs.length=tot)(h2:off+len*sz<=tot)(hk:b.k≠.ro)(hc:(b.cs.drop off).take (len*sz)=cs)(hp:∀x∈cs,bPi x=true) :
  bU τ H (d+2) (.sl id tot off len sz)=.lst τ cs len sz:=by
 have c1:b.cs.length.beq tot=true:=aOe h1
 have c2:(off+len*sz).ble tot=true:=aNk h2
 have c3:(b.k !=.ro)=true:=by simpa using hk
 rw[bU]
 simp only[hb,c1,c2,c3,bX4,bXw,hc,aHw τ H d cs hp]
theorem bP2(l:QT):∀x∈aA l,bPi x=true:=λx h=>by
 simp only[aA,bZb]at h
 obtain⟨s,_,rfl⟩:=h
 rfl
theorem bOu:∀ (l:List Tr),∀x∈trM l,bPi x=true
 | [],x,h=>by simp[trM]at h
 | t::l,x,h=>by
  simp only[trM,bXd]at h
  rcases h with rfl | rfl | rfl | h
  ·rfl
  ·rfl
  ·rfl
  ·exact bOu l x h
def shV(tg tg2:Nat)(a b c:LA)(xs:QT)(l:List Tr)(nx rs rt:Int)(rk:Nat):AV:=
 .agg [.str a,.str b,.str c,.lst tg (aA xs) xs.length 1,.lst tg2 (trM l) l.length 3,.int .i64 nx,.int .i64 rs,.int .i64 rt,.int .u64 (rk:Nat)]
def shK:AV->AV
 | .agg l=>.agg (nlL [0,0,0,1,3] l)
 | .tup (.agg l::r)=>.tup (.agg (nlL [0,0,0,1,3] l)::r)
 | v=>v
theorem aQq(v:AV):wk v (shK v):=by
 unfold shK
 split
 ·exact aAi (pG _ _)
 ·exact bDa (pJ (aAi (pG _ _)) (kL _))
 ·exact kW _
def bSm:SM:=gG [(51,uF),(56,uF)]
theorem bH5:∀f g,bSm f=some g->aI Tryz.prog gl0 f g:=bO _ (by simp only[bXd,bXn,bY0,bYd,bY4];exact⟨aLp,aVg⟩)
abbrev bWa(xs xs_0:QT):Prop:=Lf (aA xs=aA xs_0∧xs.length=xs_0.length∧xs_0.length<=9223372036854775807)
abbrev bWk(xs:QT):Bool:=Nat.beq (aA xs).length (xs.length*1)&&eH (aA xs)&&true&&Nat.ble (xs.length*8) 1099511627776
abbrev bUi(a b c:LA):Bool:=dE [.str a,.str b,.str c] [.str a,.str b,.str c]&&true
abbrev bWf(xs:QT):Bool:=Nat.ble (0+xs.length) 1099511627776&&Nat.ble ((0+xs.length)*8) 1099511627776
abbrev bVv:Out:=.ret (.tup [.agg [.str [],.str [],.str [],.nils,.nils,.int .i64 0,.int .i64 0,.int .i64 0,.int .u64 0],.int .i64 2])
noncomputable def aHy(hv:LI)(hb:LB)(tg:Nat)(a b c:LA)(xs:QT)(Q:BS):Prop:=
 aT (e04 bSm (λ_=>none) hv hb) (wpx (e04 bSm (λ_=>none) hv hb) 1000) 16 [.agg [.str a,.str b,.str c],.lst tg (aA xs) xs.length 1] [] {} Q
abbrev bT7(a b c:LA):HB:=[.str a,.str b,.str c,.sl 2 0 0 0 1,.nils,.int .i64 0,.int .i64 0,.int .i64 (-1),.int .u64 0]
abbrev bT6(a b c:LA):HB:=[.str a,.str b,.str c]
abbrev bUp(a b c:LA)(xs:QT):HB:=[.str a,.str b,.str c,.sl 3 (0+(aA xs).length) 0 (0+xs.length) 1,.nils,.int .i64 0,.int .i64 0,.int .i64 (-1),.int .u64 0]
theorem bUx(tg:Nat)(a:LA)(b:LA)(c:LA)(xs:QT)(Q:BS):aHy (aW []) (aV []) tg a b c xs Q=(∃xs_0:QT,bWa xs xs_0∧∀r_1:Bool,Lf (r_1=dA a b c xs_0)->bif r_1 then ckQ (bWk xs) (bif Nat.beq xs.length 0 then ckQ (Nat.beq xs.length 0) (ckQ (bUi a b c) (Q (.ret (.tup [.agg (bT7 a b c),.int .i64 0])) [Blk.mk BK.exact true (bT6 a b c),Blk.mk BK.exact false (bT7 a b c),Blk.mk BK.exact true []] {}))else ckQ (Nat.blt 0 xs.length) (ckQ (bWf xs) (ckQ (bUi a b c) (Q (.ret (.tup [.agg (bUp a b c xs),.int .i64 0])) [Blk.mk BK.exact true (bT6 a b c),Blk.mk BK.exact false (bUp a b c xs),Blk.mk BK.exact true [],Blk.mk BK.grow (aP 0 ([]++aA xs)) ([]++aA xs)] {}))))else Q bVv [] {}):=by kernel_rfl

def bKk(a b c:LA)(xs:QT):LA×LA×LA×QT×Int×Int:=if dA a b c xs=true then(a,b,c,xs, -1,0)else([],[],[],[],0,2)
theorem aKc{a b c:LA}{xs:QT}(h:dA a b c xs=true):xs.length<=16:=by
 rw[dA,bW3]at h
 have h1:=h.1
 unfold gV at h1
 rw[bW3,bX5]at h1
 exact h1.2
theorem aWo(tg:Nat)(a b c:LA)(xs:QT)(hx:xs.length<=9223372036854775807)(Q:BS)
  (h0:dA a b c xs=false->Q (.ret (.tup [.agg [.str [],.str [],.str [],.nils,.nils,.int .i64 0,.int .i64 0,.int .i64 0,.int .u64 0],.int .i64 2])) [] {})
  (h1:dA a b c xs=true->∀i tot n H b',H[i]? = some b'->b'.cs.length=tot->b'.cs=aA xs->n=xs.length->b'.k≠.ro->Q (.ret (.tup [.agg [.str a,.str b,.str c,.sl i tot 0 n 1,.nils,.int .i64 0,.int .i64 0,.int .i64 (-1),.int .u64 0],.int .i64 0])) H {}):∃hv hb,aHy hv hb tg a b c xs Q:=by
 obtain⟨hv,hb',e⟩:∃hv hb,aHy hv hb tg a b c xs Q=_:=⟨_,_,bUx tg a b c xs Q⟩
 refine⟨hv,hb',e.mpr ?_⟩
 delta bWa bWk bUi bT7 bT6 bWf bUp bVv
 clear e
 refine⟨xs,⟨rfl,rfl,hx⟩, ?_⟩
 rintro r ⟨rfl⟩
 cases hn:dA a b c xs
 ·exact h0 hn
 rw[bXw]
 have h1:=h1 hn
 have hl:=aKc hn
 have hcl:=aM xs
 obtain⟨f1,f2,f3⟩:=bAj xs
 have ck:∀ {A:Prop},A->bif dE [AV.str a,AV.str b,AV.str c] [AV.str a,AV.str b,AV.str c]&&true then A else False:=λh=>ckI (by simp[dE,iC,aSu]) h
 refine ckI (by rw[f3];simp[hcl,bS];omega) (dJ (λh => ?_) (λh => ?_))
 ·have hn0:xs=[]:=bXo (by rwa[bS]at h)
  subst hn0
  exact ckI rfl (ck (h1 2 0 _ _ _ rfl rfl rfl rfl (by simp)))
 ·have hn0:xs.length≠0:=λh'=>by rw[h']at h;cases h
  exact ckI (aXd (by omega)) (ckO (ck (h1 3 _ _ _ _ rfl (by simp) rfl (by omega) (by simp))))
def bR0:Con
 | [.agg [.str a,.str b,.str c],.lst _ h n 1],H,K=>∃xs:QT,Lf (h=aA xs∧n=xs.length∧xs.length<=9223372036854775807) ∧
   ∀ (a' b' c':LA) (xs':QT) (rt e:Int),Lf (bKk a b c xs=(a',b',c',xs',rt,e))->K (.ret (.tup [shV 0 0 a' b' c' xs' [] 0 0 rt 0,.int .i64 e])) H
 | _,_,_=>False
theorem bJ1:aI Tryz.prog gl0 16 bR0:=dV (enters_of (by kernel_rfl)) aO 9 shK aQq λargs H Q hc=>by
 unfold bR0 at hc
 split at hc
 ·rename_i a b c tg h n
  obtain⟨xs,⟨rfl,rfl,h1⟩,hq⟩:=hc
  obtain⟨hv,hb',h⟩:=aWo tg a b c xs h1 (Q:=λo H' _=>∃v,o=.ret v∧Q (.ret (shK (bU 0 H' 9 v))) H)
   (λhn=>⟨_,rfl,hq [] [] [] [] 0 2 ⟨by rw[bKk,if_neg (by rw[hn];decide)]⟩⟩)
   (λhn i tot n H' b' g1 g2 g3 g4 g5=>⟨_,rfl,by
    have:=hq a b c xs (-1) 0 ⟨by rw[bKk,if_pos hn]⟩
    have hcl:=aM xs
    have e:bU 0 H' 9 (AV.tup [.agg [.str a,.str b,.str c,.sl i tot 0 n 1,.nils,.int .i64 0,.int .i64 0,.int .i64 (-1),.int .u64 0],.int .i64 0])=AV.tup [.agg [.str a,.str b,.str c,bU 0 H' 7 (.sl i tot 0 n 1),.nils,.int .i64 0,.int .i64 0,.int .i64 (-1),.int .u64 0],.int .i64 0]:=rfl
    rw[e,aR1 (d:=5) g1 g2 (by rw[←g2,g3,hcl];omega) g5 (by rw[g3,bXl,bW4 (by rw[hcl];omega)]) (bP2 xs),g4]
    exact this⟩)
  exact⟨by simp[aP,old,(bAj xs).1],by simp[bX,noY,(bAj xs).2.1],_,1000,aS bH5 _ _ _,rfl,h⟩
 ·exact hc.elim
end Go.Proofs.YtnhechnaemmdiaaGreatDoor
