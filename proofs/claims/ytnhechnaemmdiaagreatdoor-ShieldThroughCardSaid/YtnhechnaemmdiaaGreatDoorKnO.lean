/-
  Chapter 25: guesses.
-/
import Derived.Test.YtnhechnaemmdiaaGreatDoorKnA
import Derived.Test.YtnhechnaemmdiaaGreatDoorKnN
set_option linter.unusedSimpArgs false
set_option linter.unusedVariables false
set_option linter.unusedSectionVars false
namespace Go.Proofs.YtnhechnaemmdiaaGreatDoor
open Go.RowKit
set_option maxRecDepth 1000000

def fP (x y:Int):Int:=if (x-y)%65536<32768 then (x-y)%65536 else (x-y)%65536-65536
noncomputable def xZ (hv:Nat→Option Pa) (hb:Nat→Option Bool) (x y:Int) (Q:Out→List Blk→Gh→Prop):Prop:=
 aY (e04 sm0 (fun _=>none) hv hb) (wpx (e04 sm0 (fun _=>none) hv hb) 1000) 112 [.int .i64 x,.int .i64 y,.int .i64 16] [] {} Q
abbrev bHn:Out:=.ret (.tup [.int .i64 0,.int .i64 2])
theorem bFq (x:Int) (y:Int) (Q:Out→List Blk→Gh→Prop):xZ (bD [(458774,.int .i64),(458784,.int .i64),(458789,.int .i64),(458793,.int .i64),(458797,.int .i64),(458802,.int .i64)]) (bE []) x y Q=(bif decide (x<0) then Q bHn [] {} else exI .i64 (Int.fdiv x 65536) (fun n_0=>bif n_0 !=0 then Q bHn [] {} else bif decide (y<0) then Q bHn [] {} else exI .i64 (Int.fdiv y 65536) (fun n_1=>bif n_1 !=0 then Q bHn [] {} else exW .i64 (x-y) (fun n_2=>exW .i64 (((n_2%18446744073709551616).toNat &&& 65535:Nat):Int) (fun n_3=>exI .i64 (Int.fdiv n_3 32768) (fun n_4=>bif n_4==1 then exW .i64 (n_3-65536) (fun n_5=>Q (.ret (.tup [.int .i64 n_5,.int .i64 0])) [] {}) else Q (.ret (.tup [.int .i64 n_3,.int .i64 0])) [] {})))))):=by kernel_rfl

noncomputable def wY (hv:Nat→Option Pa) (hb:Nat→Option Bool) (x y:Int) (Q:Out→List Blk→Gh→Prop):Prop:=
 aY (e04 sm0 (fun _=>none) hv hb) (wpx (e04 sm0 (fun _=>none) hv hb) 1000) 113 [.int .i64 x,.int .i64 y,.int .i64 16] [] {} Q
theorem bDo (x:Int) (y:Int) (Q:Out→List Blk→Gh→Prop):wY (bD [(462858,.int .i64),(462868,.int .i64),(462877,.int .i64)]) (bE []) x y Q=(
(∃n_0:Int,(((AV.int .i64 (IntKind.wrap .i64 (x-y)))=(AV.int .i64 n_0)) ∧
 (bif (decide (n_0<(- (32768:Int)))) then (∃n_1:Int,(((AV.int .i64 (IntKind.wrap .i64 (n_0+(65536:Int))))=(AV.int .i64 n_1)) ∧
 (bif (decide (n_1≥(32768:Int))) then (∃n_2:Int,(((AV.int .i64 (IntKind.wrap .i64 (n_1-(65536:Int))))=(AV.int .i64 n_2)) ∧
 (Q (Out.ret (AV.int .i64 n_2)) [] (Gh.mk (0:Nat) (0:Nat) []))))
else (Q (Out.ret (AV.int .i64 n_1)) [] (Gh.mk (0:Nat) (0:Nat) [])))))
else (bif (decide (n_0≥(32768:Int))) then (∃n_1:Int,(((AV.int .i64 (IntKind.wrap .i64 (n_0-(65536:Int))))=(AV.int .i64 n_1)) ∧
 (Q (Out.ret (AV.int .i64 n_1)) [] (Gh.mk (0:Nat) (0:Nat) []))))
else (Q (Out.ret (AV.int .i64 n_0)) [] (Gh.mk (0:Nat) (0:Nat) []))))))):=by kernel_rfl

theorem aRw (d:Int):(((Int.toNat (d%18446744073709551616) &&& 65535:Nat)):Int)=d%65536:=by
 rw[show (65535:Nat)=2^16-1 from rfl,bQp]
 omega
theorem aXy (n:Int) (k:Int) (hk:0≤k):Int.fdiv n k=n/k:=bP0 n hk
theorem aLa (x y:Int) (hx:0≤x∧x≤65535) (hy:0≤y∧y≤65535) (Q:Out→List Blk→Gh→Prop) (hq:Q (.ret (.tup [.int .i64 (fP x y),.int .i64 0])) [] {}):∃hv hb,xZ hv hb x y Q:=by
 obtain ⟨hv,hb',e⟩:∃hv hb,xZ hv hb x y Q=_:=⟨_,_,bFq x y Q⟩
 refine ⟨hv,hb',e.mpr ?_⟩
 delta bHn
 clear e
 rw[aXy x _ (by omega),aXy y _ (by omega)]
 refine aD (fun h=>by omega) (fun _=>⟨_,rfl,bA (fun h=>by omega) (fun _=>aD (fun h=>by omega) (fun _=>⟨_,rfl,bA (fun h=>by omega) (fun _=>aI (by omega) (by omega) ?_)⟩))⟩)
 rw[aRw]
 refine aI (by omega) (by omega) ⟨_,rfl, ?_⟩
 rw[aXy _ _ (by omega)]
 unfold fP at hq
 refine aS (fun h=>aI (by omega) (by omega) ?_) (fun h => ?_)
 ·rwa [if_neg (by omega)] at hq
 ·rwa [if_pos (by omega)] at hq
theorem aJm (x y:Int) (hx:0≤x∧x≤65535) (hy:0≤y∧y≤65535) (Q:Out→List Blk→Gh→Prop) (hq:Q (.ret (.int .i64 (fP x y))) [] {}):∃hv hb,wY hv hb x y Q:=by
 obtain ⟨hv,hb',e⟩:∃hv hb,wY hv hb x y Q=_:=⟨_,_,bDo x y Q⟩
 refine ⟨hv,hb',e.mpr ?_⟩
 clear e
 have key:∀z:Int,z=fP x y→Q (.ret (.int .i64 z)) [] {}:=fun z hz=>by rw[hz];exact hq
 refine aI (by omega) (by omega) (aD (fun h1=>aI (by omega) (by omega) (aD (fun h2=>by omega) (fun h2=>key _ ?_))) (fun h1=>aD (fun h2=>aI (by omega) (by omega) (key _ ?_)) (fun h2=>key _ ?_)))
 all_goals (unfold fP;split<;>omega)
def aKo:Con
 | [.int .i64 x,.int .i64 y,.int .i64 b],H,K=>Lf (b=16∧(0≤x∧x≤65535)∧0≤y∧y≤65535)∧∀z:Int,Lf (z=fP x y)→K (.ret (.tup [.int .i64 z,.int .i64 0])) H
 | _,_,_=>False
def aD6:Con
 | [.int .i64 x,.int .i64 y,.int .i64 b],H,K=>Lf (b=16∧(0≤x∧x≤65535)∧0≤y∧y≤65535)∧∀z:Int,Lf (z=fP x y)→K (.ret (.int .i64 z)) H
 | _,_,_=>False
theorem aRz:aF Tryz.prog gl0 112 aKo:=by
 refine aP (enters_of (by kernel_rfl)) aM fun args H Q hc => ?_
 unfold aKo at hc
 split at hc
 ·rename_i x y b
  obtain ⟨⟨rfl,h1,h2⟩,hq⟩:=hc
  obtain ⟨hv,hb',h⟩:=aLa x y h1 h2 (Q:=fun o H' _=>H'=[]∧(∃v,o=.ret v∧old 0 v=true∧noY v=true)∧Q o H) ⟨rfl,⟨_,rfl,rfl,rfl⟩,hq _ ⟨rfl⟩⟩
  exact ⟨rfl,rfl,_,1000,aT bT _ _ _,rfl,h⟩
 ·exact hc.elim
theorem aPm:aF Tryz.prog gl0 113 aD6:=by
 refine aP (enters_of (by kernel_rfl)) aM fun args H Q hc => ?_
 unfold aD6 at hc
 split at hc
 ·rename_i x y b
  obtain ⟨⟨rfl,h1,h2⟩,hq⟩:=hc
  obtain ⟨hv,hb',h⟩:=aJm x y h1 h2 (Q:=fun o H' _=>H'=[]∧(∃v,o=.ret v∧old 0 v=true∧noY v=true)∧Q o H) ⟨rfl,⟨_,rfl,rfl,rfl⟩,hq _ ⟨rfl⟩⟩
  exact ⟨rfl,rfl,_,1000,aT bT _ _ _,rfl,h⟩
 ·exact hc.elim
def dB (t q:Int):Int:=if t<0 then q else if t+fP q (t%65536)<0 then t+fP q (t%65536)+65536 else t+fP q (t%65536)
def bL6:SM:=dV [(112,aKo),(113,aD6)]
theorem aYv:∀f g,bL6 f=some g→aF Tryz.prog gl0 f g:=bF _ (by simp only[bOr,bOx,bP3,bPj,bQe];exact ⟨aRz,aPm⟩)
noncomputable def aDd (hv:Nat→Option Pa) (hb:Nat→Option Bool) (t q:Int) (Q:Out→List Blk→Gh→Prop):Prop:=
 aY (e04 bL6 (fun _=>none) hv hb) (wpx (e04 bL6 (fun _=>none) hv hb) 1000) 59 [.int .i64 t,.int .i64 q] [] {} Q
theorem bJu (t:Int) (q:Int) (Q:Out→List Blk→Gh→Prop):aDd (bD [(241677,.int .i64),(241683,.int .i64),(241687,.int .i64),(241688,.int .i64),(241691,.int .i64)]) (bE []) t q Q=(
(bif (decide (t<(0:Int))) then (Q (Out.ret (AV.int .i64 q)) [] (Gh.mk (0:Nat) (0:Nat) []))
else (∃n_0:Int,(((AV.int .i64 (IntKind.wrap .i64 (Nat.cast ((Int.toNat (t%(18446744073709551616:Int))) &&& (65535:Nat)):Int)))=(AV.int .i64 n_0)) ∧
 ((Lf (((16:Int)=(16:Int)) ∧
 ((((0:Int)≤q) ∧
 (q≤(65535:Int))) ∧
 (((0:Int)≤n_0) ∧
 (n_0≤(65535:Int)))))) ∧
 (∀z_1:Int,((Lf (z_1=(fP q n_0))) →
(∃n_2:Int,(((AV.int .i64 (IntKind.wrap .i64 (t+z_1)))=(AV.int .i64 n_2)) ∧
 (bif (decide (n_2<(0:Int))) then (∃n_3:Int,(((AV.int .i64 (IntKind.wrap .i64 (t+z_1)))=(AV.int .i64 n_3)) ∧
 (∃n_4:Int,(((AV.int .i64 (IntKind.wrap .i64 (n_3+(65536:Int))))=(AV.int .i64 n_4)) ∧
 (Q (Out.ret (AV.int .i64 n_4)) [] (Gh.mk (0:Nat) (0:Nat) []))))))
else (∃n_3:Int,(((AV.int .i64 (IntKind.wrap .i64 (t+z_1)))=(AV.int .i64 n_3)) ∧
 (Q (Out.ret (AV.int .i64 n_3)) [] (Gh.mk (0:Nat) (0:Nat) [])))))))))))))):=by kernel_rfl

theorem aTp (x y:Int) : -32768≤fP x y∧fP x y<32768:=by unfold fP;split<;>omega
theorem aLw (t q:Int) (ht : -9223372036854000000≤t∧t≤9223372036854000000) (hx:0≤q∧q≤65535) (Q:Out→List Blk→Gh→Prop) (hq:Q (.ret (.int .i64 (dB t q))) [] {}):∃hv hb,aDd hv hb t q Q:=by
 obtain ⟨hv,hb',e⟩:∃hv hb,aDd hv hb t q Q=_:=⟨_,_,bJu t q Q⟩
 refine ⟨hv,hb',e.mpr ?_⟩
 clear e
 have key:∀z:Int,z=dB t q→Q (.ret (.int .i64 z)) [] {}:=fun z hz=>by rw[hz];exact hq
 refine aD (fun h1=>key _ (by rw[dB,if_pos h1])) (fun h1 => ?_)
 rw[aRw]
 refine aI (by omega) (by omega) ⟨⟨rfl,hx,by omega,by omega⟩, ?_⟩
 rintro z ⟨rfl⟩
 have ha:=aTp q (t%65536)
 refine aI (by omega) (by omega) (aD (fun h2=>aI (by omega) (by omega) (aI (by omega) (by omega) (key _ ?_))) (fun h2=>aI (by omega) (by omega) (key _ ?_)))
 ·rw[dB,if_neg h1,if_pos h2]
 ·rw[dB,if_neg h1,if_neg h2]
def xU:Con
 | [.int .i64 t,.int .i64 q],H,K=>Lf ((-1≤t∧t≤9223372036854000000)∧0≤q∧q≤65535)∧∀z:Int,Lf (z=dB t q)→K (.ret (.int .i64 z)) H
 | _,_,_=>False
theorem aCu:aF Tryz.prog gl0 59 xU:=by
 refine aP (enters_of (by kernel_rfl)) aM fun args H Q hc => ?_
 unfold xU at hc
 split at hc
 ·rename_i t q
  obtain ⟨⟨h1,h2⟩,hq⟩:=hc
  obtain ⟨hv,hb',h⟩:=aLw t q ⟨by omega,h1.2⟩ h2 (Q:=fun o H' _=>H'=[]∧(∃v,o=.ret v∧old 0 v=true∧noY v=true)∧Q o H) ⟨rfl,⟨_,rfl,rfl,rfl⟩,hq _ ⟨rfl⟩⟩
  exact ⟨rfl,rfl,_,1000,aT aYv _ _ _,rfl,h⟩
 ·exact hc.elim
noncomputable def aDz (hv:Nat→Option Pa) (hb:Nat→Option Bool):Env := { e04 sm0 (fun _=>none) hv hb with hz:=fun k=>Nat.beq k 237575 }
noncomputable def xG (hv:Nat→Option Pa) (hb:Nat→Option Bool) (t:Nat) (xs:List Int) (Q:Out→List Blk→Gh→Prop):Prop:=
 aY (aDz hv hb) (wpx (aDz hv hb) 1000) 58 [.lst t (aB xs) xs.length 1] [] {} Q
theorem bC7 (t:Nat) (xs:List Int) (Q:Out→List Blk→Gh→Prop):xG (bD []) (bE []) t xs Q=(
((bif ((((Nat.beq (List.length (aB xs)) ((List.length xs)*(1:Nat)))&&(fJ (aB xs)))&&true)&&(Nat.ble ((List.length xs)*(8:Nat)) (1099511627776:Nat))) then (bif (Nat.beq (List.length xs) (0:Nat)) then (bif (Nat.beq (List.length xs) (0:Nat)) then (Q (Out.ret (AV.lst (0:Nat) [] (0:Nat) (1:Nat))) [] (Gh.mk (0:Nat) (0:Nat) []))
else False)
else (bif (Nat.blt (0:Nat) (List.length xs)) then (bif ((Nat.ble ((0:Nat)+(List.length xs)) (1099511627776:Nat))&&(Nat.ble (((0:Nat)+(List.length xs))*(8:Nat)) (1099511627776:Nat))) then (bif (((((((Nat.beq (List.length ([]++(aB xs))) ((0:Nat)+(List.length (aB xs))))&&(Nat.ble ((0:Nat)+(((0:Nat)+(List.length xs))*(1:Nat))) ((0:Nat)+(List.length (aB xs)))))&&true)&&(aL (0:Nat) ([]++(aB xs))))&&(bG ([]++(aB xs))))&&true)&&true) then (Q (Out.ret (AV.lst (0:Nat) (List.take (((0:Nat)+(List.length xs))*(1:Nat)) (List.drop (0:Nat) ([]++(aB xs)))) ((0:Nat)+(List.length xs)) (1:Nat))) [] (Gh.mk (0:Nat) (0:Nat) []))
else False)
else False)
else False))
else False) ∧
 (bif (Nat.beq (List.length xs) (0:Nat)) then (Q (Out.ret AV.nils) [] (Gh.mk (0:Nat) (0:Nat) []))
else True))):=by kernel_rfl

def aSb:Con
 | [.lst _ c n 1],H,K=>∃xs:List Int,Lf (c=aB xs∧n=xs.length∧xs.length≤1000000)∧K (.ret (.lst 0 (aB xs) xs.length 1)) H
 | _,_,_=>False
theorem aVd:∀xs:List Int,fJ (aB xs)=true
 | []=>rfl
 | x::l=>by
  have:=aVd l
  show (true&&fJ (aB l))=true
  rw[this];rfl
theorem aNm:∀xs:List Int,aL 0 (aB xs)=true∧bG (aB xs)=true
 | []=>⟨rfl,rfl⟩
 | x::l=>by
  have:=aNm l
  refine ⟨?_, ?_⟩
  ·show (true&&aL 0 (aB l))=true
   rw[this.1];rfl
  ·show (true&&bG (aB l))=true
   rw[this.2];rfl
theorem aLe:aF Tryz.prog gl0 58 aSb:=by
 refine fF (enters_of (by kernel_rfl)) aM 9 (nlR [1]) (aVe _) fun args H Q hc => ?_
 unfold aSb at hc
 split at hc
 ·rename_i t c n
  obtain ⟨xs,⟨rfl,rfl,hl⟩,hq⟩:=hc
  have hlen:(aB xs).length=xs.length:=aA xs
  have hf:=aNm xs
  have run:∀Q:Out→List Blk→Gh→Prop,Q (.ret (.lst 0 (aB xs) xs.length 1)) [] {}→(xs=[]→Q (.ret .nils) [] {})→∃hv hb,xG hv hb t xs Q:=fun Q h1 h2=>by
   obtain ⟨hv,hb',e⟩:∃hv hb,xG hv hb t xs Q=_:=⟨_,_,bC7 t xs Q⟩
   refine ⟨hv,hb',e.mpr ⟨ckI (by rw[aVd];simp[hlen];omega) ?_, ?_⟩⟩
   ·cases xs with
    | nil=>exact ckI rfl h1
    | cons x l=>
     refine splitB (b:=Nat.beq (x::l).length 0) (fun h=>by simp at h) (fun _=>ckI (b:=Nat.blt 0 (x::l).length) (by simp) (ckI (by simp at hl ⊢;omega) (ckI ?_ ?_)))
     ·rw[bPg,hf.1,hf.2]
      simp[hlen]
     ·rw[bPg,bOv,bOk (by rw[hlen];omega),bQo]
      exact h1
   ·cases xs with
    | nil=>exact h2 rfl
    | cons x l=>exact trivial
  obtain ⟨hv,hb',h⟩:=run (fun o H' _=>∃v,o=.ret v∧Q (.ret (nlR [1] (bW 0 H' 9 v))) H) ⟨_,rfl,hq⟩ (fun h=>⟨_,rfl,by subst h;exact hq⟩)
  exact ⟨rfl,rfl,_,1000,(⟨iB,iZ,bY,bT⟩:EnvFor Tryz.prog (aDz hv hb')),rfl,h⟩
 ·exact hc.elim
theorem aAp:∀ (l:Int) (ex:List Md.Xt),Md.extsOkM l ex=true→∀x∈ex,x.2.length≤255
 | _,[],_,x,hx=>by simp at hx
 | l,y::ex,h,x,hx=>by
  rw[Md.extsOkM,bN9,bOc] at h
  rcases bOr.1 hx with rfl | hx
  ·exact h.1.2.2
  ·exact aAp _ ex h.2 x hx
theorem lV {ty sq ti ss:Int} {cs:List Int} {ex:List Md.Xt} {pad:Int} (h:Md.rightM ty sq ti ss cs ex pad=true):(0≤sq∧sq≤65535)∧cs.length≤15∧ex.length≤16∧(∀x∈ex,x.2.length≤255)∧(0≤ss∧ss<4294967296)∧0≤pad∧pad≤255:=by
 rw[Md.rightM,bN9,Md.flagsM,bOc] at h
 obtain ⟨⟨r1,r2,r3,r4,r5,r6,r7,r8,r9,r10,r11,r12,r13⟩,ho⟩:=h
 exact ⟨⟨r3,r4⟩,r12,r13,aAp 0 ex ho,⟨r7,r8⟩,r10,r11⟩
theorem rQ (hid:List Int) (mk:Bool) (ty sq ti ss:Int) (cs:List Int) (ex:List Md.Xt) (pad:Int):(bC hid ex).length≤(Md.headM mk ty sq ti ss cs ex pad).length:=by
 have h:=aN2 hid (Md.shortM ex) ex
 by_cases hn:ex.length=0
 ·have:ex=[]:=bO8.1 hn
  subst this
  exact bPp _
 ·rw[Md.headM,if_neg hn,Md.extPM]
  simp only[bN8]
  omega
theorem oG {a b c:List UInt8} {xs:List Int} (h:bO a b c xs=true):a.length=32∧b.length=12∧c.length=32:=by
 rw[bO,bN9] at h
 have h1:=h.1
 unfold gG at h1
 simp only[bN9] at h1
 exact ⟨bPl h1.1.1.1,bPl h1.1.1.2,bPl h1.1.2⟩
theorem sJ (sq:Int):dB (-1) sq=sq:=by rw[dB,if_pos (by omega)]
theorem aNy {mk:Bool} {ty sq ti ss:Int} {cs:List Int} {ex:List Md.Xt} {pad:Int} {pl:List UInt8} (hr:Md.rightM ty sq ti ss cs ex pad=true) (hl:(Md.encM mk ty sq ti ss cs ex pad pl).length≤1200) :
  Md.headRM mk ty sq ti ss cs ex pad pl=(Md.headM mk ty sq ti ss cs ex pad,0)∧Md.encRM mk ty sq ti ss cs ex pad pl=(Md.encM mk ty sq ti ss cs ex pad pl,0):=by
 have hp:=lV hr
 have ht:¬ 1200<Md.totalM mk ty sq ti ss cs ex pad pl:=by
  have:(Md.padM pad).length=pad.toNat:=by
   unfold Md.padM
   split
   ·rw[bN8,bOn,Md.put_len];simp;omega
   ·simp;omega
  rw[Md.encM,bN8,bN8,this] at hl
  rw[Md.totalM]
  omega
 rw[Md.headRM,Md.encRM,if_neg (by rw[hr];simp),if_neg ht,if_neg (by rw[hr];simp),if_neg ht]
 exact ⟨rfl,rfl⟩
theorem aGh (mk:Bool) (ty sq ti ss:Int) (cs:List Int) (ex:List Md.Xt) (pad:Int) (pl:List UInt8) {n:Nat} (h:n=(Md.headM mk ty sq ti ss cs ex pad).length):(Md.encM mk ty sq ti ss cs ex pad pl).drop n=pl++Md.padM pad:=by
 rw[Md.encM,bOz,bSt h.symm]
theorem wU {x:Int} (h0:0≤x) (h1:x<18446744073709551616) {K:Int→Prop} (k:K x):exW .u64 x K:=by
 have e:IntKind.wrap .u64 x=x:=by
  simp only[IntKind.wrap,IntKind.bits,IntKind.signed,bQ5]
  have e2:(2:Int)^64=18446744073709551616:=rfl
  rw[e2]
  exact Int.emod_eq_of_lt h0 h1
 exact ⟨_,congrArg _ e,k⟩
def bCh (v:AV) (H:List Blk):AV:=shK (bW 0 H 9 v)
end Go.Proofs.YtnhechnaemmdiaaGreatDoor
