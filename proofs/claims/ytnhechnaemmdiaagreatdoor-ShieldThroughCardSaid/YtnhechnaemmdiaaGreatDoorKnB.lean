/-
  Chapter 25: whether a shield is valid (Check).
-/
import Derived.Test.YtnhechnaemmdiaaGreatDoorKnA
set_option linter.unusedSimpArgs false
set_option linter.unusedVariables false
set_option linter.unusedSectionVars false
namespace Go.Proofs.YtnhechnaemmdiaaGreatDoor
open Go.RowKit
set_option maxRecDepth 1000000

def gU (a b c:List UInt8) (xs:List Int) (nx rs rt:Int) (rk n:Nat):Bool:=bO a b c xs&&(decide (0≤nx)&&decide (nx≤2147483648))&&decide (rs=0)&&qK (-1) 2147483647 rt rk&&Nat.ble n 16
def aPw (l:List Tr) (i:Nat):Bool:=match l[i]? with
 | some t=>(decide (0≤t.1)&&decide (t.1≤4294967295))&&qK 0 281474976710655 t.2.1 t.2.2 && !qG t.1 l i
 | none=>true
def lJ (l:List Tr):Nat→Bool
 | 0=>true
 | i+1=>lJ l i&&aPw l i
def bU (a b c:List UInt8) (xs:List Int) (l:List Tr) (nx rs rt:Int) (rk:Nat):Bool:=gU a b c xs nx rs rt rk l.length&&lJ l l.length
def aMb (hd:Bool) (l:List Tr) (s:S):List (List LInv):=[[
 { α:=Nat,pre:=fun i=>Lf (i≤l.length∧lJ l i=true∧(hd=true∨i=0)),st:=fun i=>⟨mkT [(1,s.tm.get 1),(3,s.tm.get 3),(35,s.tm.get 35),(36,s.tm.get 36),(37,.int .i64 (i:Nat))],s.hp⟩,mu:=fun i=>l.length-i }]]
def bNt:SM:=dV [(51,oV),(52,zC),(53,zY),(55,bLs)]
theorem bAa:∀f g,bNt f=some g→aF Tryz.prog gl0 f g:=bF _ (by simp only[bOr,bOx,bP3,bPj,bQe];exact ⟨aG8,aCn,aNv,aRb⟩)
noncomputable def aCv (hv:Nat→Option Pa) (hb:Nat→Option Bool) (hd:Bool) (l:List Tr):Env:=e04 bNt (fun i=>bif Nat.beq i 13000 then some (aMb hd l) else none) hv hb
noncomputable def lX (hv:Nat→Option Pa) (hb:Nat→Option Bool) (tg tg2:Nat) (a b c:List UInt8) (xs:List Int) (l:List Tr) (nx rs rt:Int) (rk:Nat) (Q:Out→List Blk→Gh→Prop):Prop:=
 aY (aCv hv hb (gU a b c xs nx rs rt rk l.length) l) (wpx (aCv hv hb (gU a b c xs nx rs rt rk l.length) l) 1000) 13 [.agg [.str a,.str b,.str c,.lst tg (aB xs) xs.length 1,.lst tg2 (trM l) l.length 3,.int .i64 nx,.int .i64 rs,.int .i64 rt,.int .u64 (rk:Nat)]] [] {} Q
abbrev bAm (x_1:Nat) (l:List Tr) (a b c:List UInt8) (xs:List Int) (nx rs rt:Int) (rk:Nat):Prop:=Lf (x_1≤l.length∧lJ l x_1=true∧(gU a b c xs nx rs rt rk l.length=true∨x_1=0))
abbrev bC4 (a b c:List UInt8) (tg:Nat) (xs:List Int) (tg2:Nat) (l:List Tr) (nx rs rt:Int) (rk:Nat):Prop:=aJ [AV.str a,.str b,.str c,.lst tg (aB xs) xs.length 1,.lst tg2 (trM l) l.length 3,.int .i64 nx,.int .i64 rs,.int .i64 rt,.int .u64 (rk:Int)]
abbrev bAq:Out:=.ret (.int .i64 250)
def gQ (tg:Nat) (tg2:Nat) (a:List UInt8) (b:List UInt8) (c:List UInt8) (xs:List Int) (l:List Tr) (nx:Int) (rs:Int) (rt:Int) (rk:Nat) (Q:Out→List Blk→Gh→Prop):Prop:=
exI .i64 (l.length:Int) (fun n_0=>(∃x_1:Nat,bAm x_1 l a b c xs nx rs rt rk∧bC4 a b c tg xs tg2 l nx rs rt rk∧aJ (AV.ptr 0 9 0)∧aJ (AV.bool false)∧aJ (AV.lst tg2 (trM l) l.length 3)∧AV.int .i64 0=AV.int .i64 (x_1:Int)∧aJ (AV.int .i64 n_0)∧True)∧∀x_1:Nat,bAm x_1 l a b c xs nx rs rt rk→bif decide ((x_1:Int)<n_0) then exI .i64 (x_1:Int) (fun n_2=>ckQ (Nat.blt (x_1:Int).toNat l.length&&true) (ckQ (Nat.ble ((x_1:Int).toNat*3+3) (trM l).length) (∃n_3 n_4 n_5,AV.agg (((trM l).drop ((x_1:Int).toNat*3)).take 3)=AV.agg [.int .i64 n_3,.int .i64 n_4,.int .u64 n_5]∧Q bAq [] {}))) else Q bAq [] {})
theorem aYy (tg:Nat) (tg2:Nat) (a:List UInt8) (b:List UInt8) (c:List UInt8) (xs:List Int) (l:List Tr) (nx:Int) (rs:Int) (rt:Int) (rk:Nat) (Q:Out→List Blk→Gh→Prop):lX (bD [(53273,.agg [(.int .i64),
 (.int .i64),(.int .u64)]),(53279,.int .i64),(53284,.int .i64),(53287,.int .i64),(53289,.agg [.int .i64,.int .i64,.int .u64]),(53312,.int .i64)]) (bE []) tg tg2 a b c xs l nx rs rt rk Q=(∃xs_0:List Int,Lf (aB xs =
 aB xs_0∧xs.length=xs_0.length∧xs_0.length≤9223372036854775807)∧∀r_1:Bool,Lf (r_1=bO a b c xs_0)→bif r_1 then bif decide (0≤nx)&&decide (nx≤2147483648) then bif rs==0 then ∃n_2 n_3 n_4,AV.agg [.int .i64
 rs,.int .i64 rt,.int .u64 (rk:Int)]=AV.agg [.int .i64 n_2,.int .i64 n_3,.int .u64 n_4]∧∃s_5:Nat,Lf (n_4=(s_5:Int)∧s_5<18446744073709551616∧(-9223372036854775808≤n_3∧n_3≤9223372036854775807) ∧ -1≤Int.negSucc
 0)∧∀b_6:Bool,Lf (b_6=qK (Int.negSucc 0) 2147483647 n_3 s_5)→bif b_6 then exI .i64 (l.length:Int) (fun n_7=>bif decide (n_7≤16) then exI .i64 (l.length:Int) (fun n_8=>(∃x_9:Nat,bAm x_9 l a b c xs nx rs rt rk ∧
 bC4 a b c tg xs tg2 l nx rs rt rk∧aJ (AV.ptr 0 9 0)∧aJ (AV.bool true)∧aJ (AV.lst tg2 (trM l) l.length 3)∧AV.int .i64 0=AV.int .i64 (x_9:Int)∧aJ (AV.int .i64 n_8)∧True)∧∀x_9:Nat,bAm x_9 l a b c xs nx rs rt rk
 → bif decide ((x_9:Int)<n_8) then exI .i64 (x_9:Int) (fun n_10=>ckQ (Nat.blt (x_9:Int).toNat l.length&&true) (ckQ (Nat.ble ((x_9:Int).toNat*3+3) (trM l).length) (∃n_11 n_12 n_13,AV.agg (((trM l).drop ((x_9:Int).toNat
 * 3)).take 3)=AV.agg [.int .i64 n_11,.int .i64 n_12,.int .u64 n_13]∧bif decide (0≤n_11)&&decide (n_11≤4294967295) then ∃s_14:Nat,Lf (n_13=(s_14:Int)∧s_14<18446744073709551616∧(-9223372036854775808≤n_12∧n_12 ≤
 9223372036854775807) ∧ -(1:Int)≤(0:Int))∧∀b_15:Bool,Lf (b_15=qK 0 281474976710655 n_12 s_14)→bif b_15 then ckQ (decide (0≤n_10)&&true&&Nat.ble n_10.toNat l.length&&true) (∃ts_16:List Tr,∃s_17:Nat,Lf
 (Nat.blt 1 (List.length [Blk.mk BK.exact true [.str a,.str b,.str c,.lst tg (aB xs) xs.length 1,.lst tg2 (trM l) l.length 3,.int .i64 nx,.int .i64 rs,.int .i64 rt,.int .u64 (rk:Int)],Blk.mk BK.exact true [.int .i64 n_11,
 .int .i64 n_12,.int .u64 n_13]])=true∧n_13=(s_17:Int)∧((trM l).drop 0).take ((n_10.toNat-0)*3)=trM ts_16∧n_10.toNat-0=ts_16.length∧ts_16.length≤1000)∧∀b_18:Bool,Lf (b_18=qG n_11 ts_16 ts_16.length) →
 bif b_18 then Q bAq [] {} else exW .i64 ((x_9:Int)+1) (fun n_19=>(True∧(0:Nat)=(0:Nat))∧∃y_20:Nat,bAm y_20 l a b c xs nx rs rt rk∧l.length-y_20<l.length-x_9∧bC4 a b c tg xs tg2 l nx rs rt rk∧aJ (AV.ptr
 0 9 0)∧aJ (AV.bool true)∧aJ (AV.lst tg2 (trM l) l.length 3)∧AV.int .i64 n_19=AV.int .i64 (y_20:Int)∧aJ (AV.int .i64 n_8)∧True)) else Q bAq [] {} else Q bAq [] {}))) else Q (.ret (.int .i64 0)) [] {}) else gQ tg
 tg2 a b c xs l nx rs rt rk Q) else gQ tg tg2 a b c xs l nx rs rt rk Q else gQ tg tg2 a b c xs l nx rs rt rk Q else gQ tg tg2 a b c xs l nx rs rt rk Q else gQ tg tg2 a b c xs l nx rs rt rk Q):=by kernel_rfl

def bIp (l:List Tr):Prop:=∀t∈l,(-9223372036854775808≤t.2.1∧t.2.1≤9223372036854775807)∧t.2.2<18446744073709551616
theorem aQa:∀ (l:List Tr) (i:Nat),List.take (i*3) (trM l)=trM (l.take i)
 | l,0=>by simp[trM]
 | [],i+1=>by simp[trM]
 | t::l,i+1=>by
  rw[show (i+1)*3=i*3+3 by omega,bQ0,trM,trM,←aQa l i]
  rfl
theorem bF7 {l:List Tr} {i n:Nat} (h:i≤n) (hi:lJ l i=false):lJ l n=false:=by
 induction n with
 | zero=>
  obtain rfl:i=0:=by omega
  exact hi
 | succ n ih=>
  by_cases e:i=n+1
  ·rw[←e];exact hi
  ·rw[lJ,ih (by omega)];rfl
theorem aS7 (c:Int) (l:List Tr) (i:Nat) (h:i≤l.length):qG c (l.take i) (l.take i).length=qG c l i:=by
 unfold qG
 rw[bPy]
theorem rM (tg tg2:Nat) (a b c:List UInt8) (xs:List Int) (l:List Tr) (nx rs rt:Int) (rk:Nat) (hx:xs.length≤9223372036854775807) (hl:bIp l) (hrt : -9223372036854775808≤rt∧rt≤9223372036854775807) (hrk:rk<18446744073709551616) (Q:Out→List Blk→Gh→Prop)
  (hq:Q (.ret (.int .i64 (if bU a b c xs l nx rs rt rk=true then 0 else 250))) [] {}):∃hv hb,lX hv hb tg tg2 a b c xs l nx rs rt rk Q:=by
 obtain ⟨hv,hb',e⟩:∃hv hb,lX hv hb tg tg2 a b c xs l nx rs rt rk Q=_:=⟨_,_,aYy tg tg2 a b c xs l nx rs rt rk Q⟩
 refine ⟨hv,hb',e.mpr ?_⟩
 delta bAm bC4 bAq
 clear e
 have yes:bU a b c xs l nx rs rt rk=true→Q (.ret (.int .i64 0)) [] {}:=fun h=>by rwa [if_pos h] at hq
 have no:bU a b c xs l nx rs rt rk=false→Q (.ret (.int .i64 250)) [] {}:=fun h=>by rwa [if_neg (by rw[h];decide)] at hq
 have hln:=aF6 l
 have one:gU a b c xs nx rs rt rk l.length=false→gQ tg tg2 a b c xs l nx rs rt rk Q:=fun h=>by
  have bad:=no (by rw[bU,h];rfl)
  unfold gQ
  delta bAq bAm bC4
  refine ⟨_,rfl,⟨0,⟨by omega,rfl,.inr rfl⟩,rfl,rfl,rfl,rfl,rfl,rfl,trivial⟩, ?_⟩
  rintro i ⟨g1,g2,g3⟩
  refine aD (fun h3=>⟨_,rfl,ckI (by simp;omega) (ckI (by rw[hln];simp;omega) ?_)⟩) (fun _=>bad)
  rw[show Int.toNat ((i:Nat):Int)=i from rfl,wF l i (by omega)]
  exact ⟨_,_,_,rfl,bad⟩
 refine ⟨xs,⟨rfl,rfl,hx⟩, ?_⟩
 rintro r ⟨rfl⟩
 cases h1:bO a b c xs
 ·exact one (by rw[gU,h1];rfl)
 rw[bO3]
 cases h2:decide (0≤nx)&&decide (nx≤2147483648)
 ·exact one (by rw[gU,h1,h2];rfl)
 rw[bO3]
 refine aS (fun h3 => ?_) (fun h3=>one (by rw[gU,h1,h2,bO0 h3];rfl))
 refine ⟨_,_,_,rfl,rk,⟨rfl,hrk,hrt,by decide⟩, ?_⟩
 rintro w ⟨rfl⟩
 cases h4:qK (Int.negSucc 0) 2147483647 rt rk
 ·exact one (by rw[gU,h1,h2,bO4 h3,show (-1:Int)=Int.negSucc 0 from rfl,h4];rfl)
 rw[bO3]
 refine ⟨_,rfl,aD (fun h5 => ?_) (fun h5=>one (by
  rw[gU,show Nat.ble l.length 16=false from bQk.2 (by rw[ne_eq,bOi];omega),bRt]))⟩
 have hd:gU a b c xs nx rs rt rk l.length=true:=by
  rw[gU,h1,h2,bO4 h3,show (-1:Int)=Int.negSucc 0 from rfl,h4,show Nat.ble l.length 16=true from by rw[bOi];omega];rfl
 refine ⟨_,rfl,⟨0,⟨by omega,rfl,.inr rfl⟩,rfl,rfl,rfl,rfl,rfl,rfl,trivial⟩, ?_⟩
 rintro i ⟨g1,g2,g3⟩
 refine aD (fun h6 => ?_) (fun h6 => ?_)
 ·have hi:i<l.length:=by omega
  refine ⟨_,rfl,ckI (by simp;omega) (ckI (by rw[hln];simp;omega) ?_)⟩
  rw[show Int.toNat ((i:Nat):Int)=i from rfl,wF l i hi]
  obtain ⟨k1,k2⟩:=hl l[i] (bPx hi)
  have ho:aPw l i=((decide (0≤l[i].1)&&decide (l[i].1≤4294967295))&&qK 0 281474976710655 l[i].2.1 l[i].2.2 && !qG l[i].1 l i):=by rw[aPw,bOq hi]
  have bad:aPw l i=false→Q (.ret (.int .i64 250)) [] {}:=fun h=>no (by rw[bU,bF7 (i:=i+1) (by omega) (by rw[lJ,h,bRt]),bRt])
  refine ⟨_,_,_,rfl, ?_⟩
  cases h7:decide (0≤l[i].1)&&decide (l[i].1≤4294967295)
  ·exact bad (by rw[ho,h7];rfl)
  rw[bO3]
  refine ⟨l[i].2.2,⟨rfl,k2,k1,by decide⟩, ?_⟩
  rintro w ⟨rfl⟩
  cases h8:qK 0 281474976710655 l[i].2.1 l[i].2.2
  ·exact bad (by rw[ho,h7,h8];rfl)
  rw[bO3]
  refine ckI (by simp;omega) ⟨l.take i,l[i].2.2,⟨by simp[Nat.blt],rfl, ?_,by simp;omega,by simp;omega⟩, ?_⟩
  ·rw[bQw,bOv];exact aQa l i
  rintro w ⟨rfl⟩
  rw[aS7 _ l i (by omega)]
  cases h9:qG l[i].1 l i
  ·rw[bPi]
   exact aI (by omega) (by omega) ⟨⟨trivial,rfl⟩,i+1,⟨by omega,by rw[lJ,g2,ho,h7,h8,h9];rfl,.inl hd⟩,by omega,rfl,rfl,rfl,rfl,rfl,rfl,trivial⟩
  ·exact bad (by rw[ho,h7,h8,h9];rfl)
 ·obtain rfl:i=l.length:=by omega
  exact yes (by rw[bU,hd,g2];rfl)
theorem yB (xs:List Int):aL 0 (aB xs)=true:=by
 unfold aB
 induction xs with
 | nil=>rfl
 | cons x xs ih=>simp[aL,old,ih]
def wK:Con
 | [.agg [.str a,.str b,.str c,.lst _ h n 1,.lst _ tr m 3,.int .i64 nx,.int .i64 rs,.int .i64 rt,.int .u64 u]],H,K=>∃ (xs:List Int) (l:List Tr) (rk:Nat),
  Lf (h=aB xs∧n=xs.length∧tr=trM l∧m=l.length∧u=(rk:Int)∧xs.length≤9223372036854775807∧bIp l∧(-9223372036854775808≤rt∧rt≤9223372036854775807)∧rk<18446744073709551616)∧∀e:Int,Lf (e=if bU a b c xs l nx rs rt rk=true then 0 else 250)→K (.ret (.int .i64 e)) H
 | _,_,_=>False
theorem zL:aF Tryz.prog gl0 13 wK:=by
 refine aP (enters_of (by kernel_rfl)) aM fun args H Q hc => ?_
 unfold wK at hc
 split at hc
 ·rename_i a b c tg h n tg2 tr m nx rs rt u
  obtain ⟨xs,l,rk,⟨rfl,rfl,rfl,rfl,rfl,h1,h2,h3,h4⟩,hq⟩:=hc
  obtain ⟨hv,hb',h⟩:=rM tg tg2 a b c xs l nx rs rt rk h1 h2 h3 h4 (Q:=fun o H' _=>H'=[]∧(∃v,o=.ret v∧old 0 v=true∧noY v=true)∧Q o H) ⟨rfl,⟨_,rfl,rfl,rfl⟩,hq _ ⟨rfl⟩⟩
  exact ⟨by simp[aL,old,yB,(jK l).1],by simp[bG,noY,(jD xs).2,(jK l).2],_,1000,aT bAa _ _ _,rfl,h⟩
 ·exact hc.elim
def bAp (l:List Tr) (s:S):List (List LInv):=[[
 { α:=Nat,pre:=fun i=>Lf (i≤l.length∧lJ l i=true),st:=fun i=>⟨mkT [(1,s.tm.get 1),(3,.int .i64 (i:Nat))],s.hp⟩,mu:=fun i=>l.length-i }]]
def bBk (l:List Tr) (s:S):List (List LInv):=match s.tm.get 3,s.hp with
 | .int _ i,[b0,⟨_,_,[.int _ c,.int _ t,.int _ u]⟩]=>[[
  { α:=Nat,pre:=fun k=>Lf ((k:Int)≤i∧k≤l.length∧qG c l k=false),st:=fun k=>⟨mkT [(1,s.tm.get 1),(3,.int .i64 i),(4,s.tm.get 4),(5,.int .i64 (k:Nat))],[b0,⟨.exact,true,[.int .i64 c,.int .i64 t,.int .u64 u]⟩]⟩,mu:=fun k=>l.length-k }]]
 | _,_=>[]
def bNv:SM:=dV [(56,oV),(57,zY)]
noncomputable def aV1 (hv:Nat→Option Pa) (hb:Nat→Option Bool) (l:List Tr):Env:=e04 bNv (fun i=>bif Nat.beq i 14000 then some (bAp l) else bif Nat.beq i 14002 then some (bBk l) else none) hv hb
noncomputable def tV (hv:Nat→Option Pa) (hb:Nat→Option Bool) (tg tg2:Nat) (a b c:List UInt8) (xs:List Int) (l:List Tr) (nx rs rt:Int) (rk:Nat) (Q:Out→List Blk→Gh→Prop):Prop:=
 aY (aV1 hv hb l) (wpx (aV1 hv hb l) 1000) 14 [.agg [.str a,.str b,.str c,.lst tg (aB xs) xs.length 1,.lst tg2 (trM l) l.length 3,.int .i64 nx,.int .i64 rs,.int .i64 rt,.int .u64 (rk:Nat)]] [] {} Q
abbrev aQp (Q:Out→List Blk→Gh→Prop):Prop:=Q (.ret (.bool false)) [] {}
abbrev bI2 (a b c:List UInt8) (tg:Nat) (xs:List Int) (tg2:Nat) (l:List Tr) (nx rs rt:Int) (rk:Nat):Prop:=aJ [AV.str a,.str b,.str c,.lst tg (aB xs) xs.length 1,.lst tg2 (trM l) l.length 3,.int .i64 nx,.int .i64 rs,.int .i64 rt,.int .u64 (rk:Int)]
abbrev bH4:Prop:=aJ (AV.ptr 0 9 0)
abbrev bCi (x_8:Nat):AV:=.int .i64 (x_8:Int)
theorem bE8 (tg:Nat) (tg2:Nat) (a:List UInt8) (b:List UInt8) (c:List UInt8) (xs:List Int) (l:List Tr) (nx:Int) (rs:Int) (rt:Int) (rk:Nat) (Q:Out→List Blk→Gh→Prop):tV (bD [(57359,.int .i64),(57380,
 .agg [(.int .i64),(.int .i64),(.int .u64)]),(57384,.int .i64),(57387,.int .i64),(57393,.int .i64),(57395,.agg [.int .i64,.int .i64,.int .u64]),(57409,.int .i64),(57410,.int .i64),(57416,.int .i64),(57419,.int .i64),
 (57412,.int .i64),(57413,.int .i64),(57389,.int .i64),(57390,.int .i64)]) (bE []) tg tg2 a b c xs l nx rs rt rk Q=(∃xs_0:List Int,Lf (aB xs=aB xs_0∧xs.length=xs_0.length∧xs_0.length≤9223372036854775807) ∧
 ∀r_1:Bool,Lf (r_1=bO a b c xs_0)→bif r_1 then exI .i64 (l.length:Int) (fun n_2=>bif decide (n_2>16) then aQp Q else bif decide (nx<0) then aQp Q else bif decide (nx>2147483648) then aQp Q else bif rs !=0 then aQp
 Q else ∃n_3 n_4 n_5,AV.agg [.int .i64 rs,.int .i64 rt,.int .u64 (rk:Int)]=AV.agg [.int .i64 n_3,.int .i64 n_4,.int .u64 n_5]∧∃s_6:Nat,Lf (n_5=(s_6:Int)∧s_6<18446744073709551616∧(-9223372036854775808≤n_4∧n_4 ≤
 9223372036854775807) ∧ -1≤Int.negSucc 0)∧∀b_7:Bool,Lf (b_7=qK (Int.negSucc 0) 2147483647 n_4 s_6)→bif b_7 then (∃x_8:Nat,Lf (x_8≤l.length∧lJ l x_8=true)∧bI2 a b c tg xs tg2 l nx rs rt rk∧bH4∧AV.int .i64 0
 = bCi x_8∧True)∧∀x_8:Nat,Lf (x_8≤l.length∧lJ l x_8=true)→exI .i64 (x_8:Int) (fun n_9=>exI .i64 (l.length:Int) (fun n_10=>bif decide (n_9<n_10) then exI .i64 (x_8:Int) (fun n_11=>ckQ (decide (0≤n_11) &&
 Nat.blt n_11.toNat l.length&&true) (ckQ (Nat.ble (n_11.toNat*3+3) (trM l).length) (∃n_12 n_13 n_14,AV.agg (((trM l).drop (n_11.toNat*3)).take 3)=AV.agg [.int .i64 n_12,.int .i64 n_13,.int .u64 n_14]∧bif decide (n_12<0)
 then aQp Q else bif decide (n_12≥4294967296) then aQp Q else ∃s_15:Nat,Lf (n_14=(s_15:Int)∧s_15<18446744073709551616∧(-9223372036854775808≤n_13∧n_13≤9223372036854775807) ∧ -(1:Int)≤(0:Int))∧∀b_16:Bool,Lf
 (b_16=qK 0 281474976710655 n_13 s_15)→bif b_16 then (∃x_17:Nat,Lf ((x_17:Int)≤(x_8:Int)∧x_17≤l.length∧qG n_12 l x_17=false)∧bI2 a b c tg xs tg2 l nx rs rt rk∧aJ [AV.int .i64 n_12,.int .i64 n_13,.int .u64
 n_14]∧bH4∧aJ (bCi x_8)∧AV.int .i64 0=bCi x_17∧aJ (AV.ptr 1 3 0)∧True)∧∀x_17:Nat,Lf ((x_17:Int)≤(x_8:Int)∧x_17≤l.length∧qG n_12 l x_17=false)→exI .i64 (x_17:Int) (fun n_18=>exI .i64 (x_8:Int)
 (fun n_19=>bif decide (n_18<n_19) then exI .i64 (x_17:Int) (fun n_20=>ckQ (decide (0≤n_20)&&Nat.blt n_20.toNat l.length&&true) (ckQ (Nat.blt (n_20.toNat*3+0) (trM l).length) (exV .i64 ((trM l).getD (n_20.toNat*3+0)
 AV.undef) (fun n_21=>bif n_21==n_12 then aQp Q else exI .i64 (x_17:Int) (fun n_22=>exW .i64 (n_22+1) (fun n_23=>(True∧(0:Nat)=(0:Nat))∧∃y_24:Nat,Lf ((y_24:Int)≤(x_8:Int)∧y_24≤l.length∧qG n_12 l y_24
 = false)∧l.length-y_24<l.length-x_17∧bI2 a b c tg xs tg2 l nx rs rt rk∧aJ [AV.int .i64 n_12,.int .i64 n_13,.int .u64 n_14]∧bH4∧aJ (bCi x_8)∧AV.int .i64 n_23=bCi y_24∧aJ (AV.ptr 1 3 0)∧True)))))) else exI
 .i64 (x_8:Int) (fun n_20=>exW .i64 (n_20+1) (fun n_21=>(True∧(0:Nat)=(0:Nat))∧∃y_22:Nat,Lf (y_22≤l.length∧lJ l y_22=true)∧l.length-y_22<l.length-x_8∧bI2 a b c tg xs tg2 l nx rs rt rk∧bH4 ∧
 AV.int .i64 n_21=bCi y_22∧True)))) else aQp Q))) else Q (.ret (.bool true)) [] {})) else aQp Q) else aQp Q):=by kernel_rfl

theorem tF (s:List UInt8):eqB s s=true:=by
 rw[jR];exact bQh s
theorem aUz:∀l:List Int,aL 0 (aB l)=true∧bG (aB l)=true∧fJ (aB l)=true
 | []=>⟨rfl,rfl,rfl⟩
 | x::l=>by
  have h:=aUz l
  rw[show aB (x::l)=.int .i64 x::aB l from rfl]
  simp[aL,old,bG,noY,fJ,one,h.1,h.2.1,h.2.2]
def bI6:AV→Bool
 | .int _ _=>true | .bool _=>true | .str _=>true | .nils=>true | .nilp=>true | _=>false
theorem aD3 (τ:Nat) (H:List Blk) (d:Nat):∀l:List AV,(∀x∈l,bI6 x=true)→l.map (fun x=>bW τ H (d+1) x)=l
 | [],_=>rfl
 | x::l,h=>by
  have hx:bW τ H (d+1) x=x:=by
   have:=h x (by simp)
   cases x<;>first | rfl | simp[bI6] at this
  rw[bO2,aD3 τ H d l fun y hy=>h y (by simp[hy]),hx]
theorem aXz {τ:Nat} {H:List Blk} {d id tot off len sz:Nat} {b:Blk} {cs:List AV} (hb:H[id]? = some b) (h1:b.cs.length=tot) (h2:off+len*sz≤tot) (hk:b.k≠.ro) (hc:(b.cs.drop off).take (len*sz)=cs) (hp:∀x∈cs,bI6 x=true) :
  bW τ H (d+2) (.sl id tot off len sz)=.lst τ cs len sz:=by
 have c1:b.cs.length.beq tot=true:=bAi h1
 have c2:(off+len*sz).ble tot=true:=bHq h2
 have c3:(b.k !=.ro)=true:=by simpa using hk
 rw[bW]
 simp only[hb,c1,c2,c3,bOh,bO3,hc,aD3 τ H d cs hp]
theorem bD7 (l:List Int):∀x∈aB l,bI6 x=true:=fun x h=>by
 simp only[aB,bPs] at h
 obtain ⟨s,_,rfl⟩:=h
 rfl
def shV (tg tg2:Nat) (a b c:List UInt8) (xs:List Int) (l:List Tr) (nx rs rt:Int) (rk:Nat):AV:=
 .agg [.str a,.str b,.str c,.lst tg (aB xs) xs.length 1,.lst tg2 (trM l) l.length 3,.int .i64 nx,.int .i64 rs,.int .i64 rt,.int .u64 (rk:Nat)]
def shK:AV→AV
 | .agg l=>.agg (nlL [0,0,0,1,3] l)
 | .tup (.agg l::r)=>.tup (.agg (nlL [0,0,0,1,3] l)::r)
 | v=>v
theorem aOy (v:AV):wk v (shK v):=by
 unfold shK
 split
 ·exact sP (kZ _ _)
 ·exact aHj (dZ (sP (kZ _ _)) (iY _))
 ·exact eO _
def bIx:SM:=dV [(51,oV),(56,oV)]
theorem aXn:∀f g,bIx f=some g→aF Tryz.prog gl0 f g:=bF _ (by simp only[bOr,bOx,bP3,bPj,bQe];exact ⟨aG8,aM4⟩)
noncomputable def aVs (hv:Nat→Option Pa) (hb:Nat→Option Bool):Env := { e04 bIx (fun _=>none) hv hb with hz:=fun k=>Nat.beq k 237575 }
noncomputable def tK (hv:Nat→Option Pa) (hb:Nat→Option Bool) (tg:Nat) (a b c:List UInt8) (xs:List Int) (Q:Out→List Blk→Gh→Prop):Prop:=
 aY (aVs hv hb) (wpx (aVs hv hb) 1000) 15 [.agg [.str a,.str b,.str c],.lst tg (aB xs) xs.length 1] [] {} Q
abbrev bKx (xs xs_0:List Int):Prop:=Lf (aB xs=aB xs_0∧xs.length=xs_0.length∧xs_0.length≤9223372036854775807)
abbrev bJv (xs:List Int):Bool:=Nat.beq (aB xs).length (xs.length*1)&&fJ (aB xs)&&true&&Nat.ble (xs.length*8) 1099511627776
abbrev bCj (a b c:List UInt8):Bool:=dI [.str a,.str b,.str c] [.str a,.str b,.str c]&&true
abbrev bJ7 (xs:List Int):Bool:=Nat.ble (0+xs.length) 1099511627776&&Nat.ble ((0+xs.length)*8) 1099511627776
abbrev bMr:Out:=.ret (.tup [.agg [.str [],.str [],.str [],.nils,.nils,.int .i64 0,.int .i64 0,.int .i64 0,.int .u64 0],.int .i64 2])
theorem bDd (tg:Nat) (a:List UInt8) (b:List UInt8) (c:List UInt8) (xs:List Int) (Q:Out→List Blk→Gh→Prop):tK (bD []) (bE [(241662,true)]) tg a b c xs Q=(∃xs_0:List Int,bKx xs xs_0∧∀r_1:Bool,Lf (r_1=bO a b c xs_0)→bif r_1 then ckQ (bJv xs) (bif Nat.beq xs.length 0 then ckQ (Nat.beq xs.length 0) (true=true∧ckQ (bCj a b c) (Q (.ret (.tup [.agg [.str a,.str b,.str c,.lst 0 [] 0 1,.nils,.int .i64 0,.int .i64 0,.int .i64 (-1),.int .u64 0],.int .i64 0])) [] {})) else ckQ (Nat.blt 0 xs.length) (ckQ (bJ7 xs) (ckQ (Nat.beq ([]++aB xs).length (0+(aB xs).length)&&Nat.ble (0+(0+xs.length)*1) (0+(aB xs).length)&&true&&aL 0 ([]++aB xs)&&bG ([]++aB xs)&&true&&true) (true=true∧ckQ (bCj a b c) (Q (.ret (.tup [.agg [.str a,.str b,.str c,.lst 0 ((([]++aB xs).drop 0).take ((0+xs.length)*1)) (0+xs.length) 1,.nils,.int .i64 0,.int .i64 0,.int .i64 (-1),.int .u64 0],.int .i64 0])) [] {})))))∧bif Nat.beq xs.length 0 then true=true∧ckQ (bCj a b c) (Q (.ret (.tup [.agg [.str a,.str b,.str c,.nils,.nils,.int .i64 0,.int .i64 0,.int .i64 (-1),.int .u64 0],.int .i64 0])) [] {}) else True else Q bMr [] {}):=by kernel_rfl

noncomputable def aC9 (hv:Nat→Option Pa) (hb:Nat→Option Bool) (tg:Nat) (a b c:List UInt8) (xs:List Int) (Q:Out→List Blk→Gh→Prop):Prop:=
 aY (e04 bIx (fun _=>none) hv hb) (wpx (e04 bIx (fun _=>none) hv hb) 1000) 16 [.agg [.str a,.str b,.str c],.lst tg (aB xs) xs.length 1] [] {} Q
abbrev bKt (a b c:List UInt8):List AV:=[.str a,.str b,.str c,.sl 2 0 0 0 1,.nils,.int .i64 0,.int .i64 0,.int .i64 (-1),.int .u64 0]
abbrev bLb (a b c:List UInt8):List AV:=[.str a,.str b,.str c]
abbrev bMm (a b c:List UInt8) (xs:List Int):List AV:=[.str a,.str b,.str c,.sl 3 (0+(aB xs).length) 0 (0+xs.length) 1,.nils,.int .i64 0,.int .i64 0,.int .i64 (-1),.int .u64 0]
theorem bLf (tg:Nat) (a:List UInt8) (b:List UInt8) (c:List UInt8) (xs:List Int) (Q:Out→List Blk→Gh→Prop):aC9 (bD []) (bE []) tg a b c xs Q=(∃xs_0:List Int,bKx xs xs_0∧∀r_1:Bool,Lf (r_1=bO a b c xs_0)→bif r_1 then ckQ (bJv xs) (bif Nat.beq xs.length 0 then ckQ (Nat.beq xs.length 0) (ckQ (bCj a b c) (Q (.ret (.tup [.agg (bKt a b c),.int .i64 0])) [Blk.mk BK.exact true (bLb a b c),Blk.mk BK.exact false (bKt a b c),Blk.mk BK.exact true []] {})) else ckQ (Nat.blt 0 xs.length) (ckQ (bJ7 xs) (ckQ (bCj a b c) (Q (.ret (.tup [.agg (bMm a b c xs),.int .i64 0])) [Blk.mk BK.exact true (bLb a b c),Blk.mk BK.exact false (bMm a b c xs),Blk.mk BK.exact true [],Blk.mk BK.grow (aL 0 ([]++aB xs)) ([]++aB xs)] {})))) else Q bMr [] {}):=by kernel_rfl

def bC2 (a b c:List UInt8) (xs:List Int):List UInt8×List UInt8×List UInt8×List Int×Int×Int:=if bO a b c xs=true then (a,b,c,xs, -1,0) else ([],[],[],[],0,2)
theorem aU7 {a b c:List UInt8} {xs:List Int} (h:bO a b c xs=true):xs.length≤16:=by
 rw[bO,bN9] at h
 have h1:=h.1
 unfold gG at h1
 rw[bN9,bOi] at h1
 exact h1.2
theorem aSh (tg:Nat) (a b c:List UInt8) (xs:List Int) (hx:xs.length≤9223372036854775807) (Q:Out→List Blk→Gh→Prop)
  (h0:bO a b c xs=false→Q (.ret (.tup [.agg [.str [],.str [],.str [],.nils,.nils,.int .i64 0,.int .i64 0,.int .i64 0,.int .u64 0],.int .i64 2])) [] {})
  (h1:bO a b c xs=true→∀i tot n H b',H[i]? = some b'→b'.cs.length=tot→b'.cs=aB xs→n=xs.length→b'.k≠.ro→Q (.ret (.tup [.agg [.str a,.str b,.str c,.sl i tot 0 n 1,.nils,.int .i64 0,.int .i64 0,.int .i64 (-1),.int .u64 0],.int .i64 0])) H {}):∃hv hb,aC9 hv hb tg a b c xs Q:=by
 obtain ⟨hv,hb',e⟩:∃hv hb,aC9 hv hb tg a b c xs Q=_:=⟨_,_,bLf tg a b c xs Q⟩
 refine ⟨hv,hb',e.mpr ?_⟩
 delta bKx bJv bCj bKt bLb bJ7 bMm bMr
 clear e
 refine ⟨xs,⟨rfl,rfl,hx⟩, ?_⟩
 rintro r ⟨rfl⟩
 cases hn:bO a b c xs
 ·exact h0 hn
 rw[bO3]
 have h1:=h1 hn
 have hl:=aU7 hn
 have hcl:=aA xs
 obtain ⟨f1,f2,f3⟩:=aUz xs
 have ck:∀ {A:Prop},A→bif dI [AV.str a,AV.str b,AV.str c] [AV.str a,AV.str b,AV.str c]&&true then A else False:=fun h=>ckI (by simp[dI,gZ,tF]) h
 refine ckI (by rw[f3];simp[hcl,aN];omega) (dO (fun h => ?_) (fun h => ?_))
 ·have hn0:xs=[]:=bO5 (by rwa [aN] at h)
  subst hn0
  exact ckI rfl (ck (h1 2 0 _ _ _ rfl rfl rfl rfl (by simp)))
 ·have hn0:xs.length≠0:=fun h'=>by rw[h'] at h;cases h
  exact ckI (bG8 (by omega)) (ckI (by simp;omega) (ck (h1 3 _ _ _ _ rfl (by simp) rfl (by omega) (by simp))))
def bIk:Con
 | [.agg [.str a,.str b,.str c],.lst _ h n 1],H,K=>∃xs:List Int,Lf (h=aB xs∧n=xs.length∧xs.length≤9223372036854775807) ∧
   ∀ (a' b' c':List UInt8) (xs':List Int) (rt e:Int),Lf (bC2 a b c xs=(a',b',c',xs',rt,e))→K (.ret (.tup [shV 0 0 a' b' c' xs' [] 0 0 rt 0,.int .i64 e])) H
 | _,_,_=>False
theorem bA4:aF Tryz.prog gl0 16 bIk:=fF (enters_of (by kernel_rfl)) aM 9 shK aOy fun args H Q hc=>by
 unfold bIk at hc
 split at hc
 ·rename_i a b c tg h n
  obtain ⟨xs,⟨rfl,rfl,h1⟩,hq⟩:=hc
  obtain ⟨hv,hb',h⟩:=aSh tg a b c xs h1 (Q:=fun o H' _=>∃v,o=.ret v∧Q (.ret (shK (bW 0 H' 9 v))) H)
   (fun hn=>⟨_,rfl,hq [] [] [] [] 0 2 ⟨by rw[bC2,if_neg (by rw[hn];decide)]⟩⟩)
   (fun hn i tot n H' b' g1 g2 g3 g4 g5=>⟨_,rfl,by
    have:=hq a b c xs (-1) 0 ⟨by rw[bC2,if_pos hn]⟩
    have hcl:=aA xs
    have e:bW 0 H' 9 (AV.tup [.agg [.str a,.str b,.str c,.sl i tot 0 n 1,.nils,.int .i64 0,.int .i64 0,.int .i64 (-1),.int .u64 0],.int .i64 0])=AV.tup [.agg [.str a,.str b,.str c,bW 0 H' 7 (.sl i tot 0 n 1),.nils,.int .i64 0,.int .i64 0,.int .i64 (-1),.int .u64 0],.int .i64 0]:=rfl
    rw[e,aXz (d:=5) g1 g2 (by rw[←g2,g3,hcl];omega) g5 (by rw[g3,bOv,bOk (by rw[hcl];omega)]) (bD7 xs),g4]
    exact this⟩)
  exact ⟨by simp[aL,old,(aUz xs).1],by simp[bG,noY,(aUz xs).2.1],_,1000,aT aXn _ _ _,rfl,h⟩
 ·exact hc.elim
end Go.Proofs.YtnhechnaemmdiaaGreatDoor
