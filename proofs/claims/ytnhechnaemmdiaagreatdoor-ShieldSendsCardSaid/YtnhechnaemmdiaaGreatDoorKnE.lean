/-
  Chapter 23: Encode, Header.
-/
import Derived.Test.YtnhechnaemmdiaaGreatDoorKnD
import Derived.Test.YtnhechnaemmdiaaGreatDoorK25NA
set_option linter.unusedSimpArgs false
set_option linter.unusedVariables false
namespace Go.Proofs.YtnhechnaemmdiaaGreatDoor.Md
open Go.RowKit
set_option maxRecDepth 1000000

noncomputable def aBf(hv:LI)(hb:LB)(bs:LA)(n:Int)(Q:BS):Prop:=
 aT (e23 sm0 (λ_=>none) hv hb) (wpx (e23 sm0 (λ_=>none) hv hb) 1000) 89 [.sl 0 bs.length 0 bs.length 1,.int .i64 1,.sl 1 1 0 1 1] [⟨.grow,true,ofBytes bs⟩,⟨.ro,true,[.int .i64 n]⟩] {} Q
theorem bPy(bs:LA)(n:Int)(Q:BS):aBf (aW [(364570,.int .i64),(364571,.int .u8)]) (aV []) bs n Q=(
(∃n_0:Int,(((AV.int .i64 (Int.fdiv n (1:Int)))=(AV.int .i64 n_0)) ∧
 (∃n_1:Int,(((AV.int .u8 (IntKind.wrap .u8 n_0))=(AV.int .u8 n_1)) ∧
 (bif(((((Nat.beq (List.length (ofBytes bs)) (List.length bs))&&true)&&(Nat.beq ((0:Nat)+((List.length bs)*(1:Nat))) (List.length bs)))&&(Nat.ble ((List.length bs)+(1:Nat)) (1099511627776:Nat)))&&(Nat.ble (((List.length bs)+(1:Nat))*(1:Nat)) (1099511627776:Nat)))then(Q (Out.ret (AV.sl (0:Nat) ((List.length bs)+(1:Nat)) (0:Nat) ((List.length bs)+(1:Nat)) (1:Nat))) ((Blk.mk BK.grow true ((ofBytes bs)++((AV.int .u8 n_1)::[])))::((Blk.mk BK.ro true ((AV.int .i64 n)::[]))::[])) (Gh.mk (0:Nat) (0:Nat) []))
else False)))))):=by kernel_rfl

theorem aYw(bs:LA)(n:Int)(hbs:bs.length<=1000000)(Q:BS)(hq:Q (.ret (.sl 0 (bs.length+1) 0 (bs.length+1) 1)) [⟨.grow,true,ofBytes (bs++putMMd 1 [n])⟩,⟨.ro,true,[.int .i64 n]⟩] {}):∃hv hb,aBf hv hb bs n Q:=by
 obtain⟨hv,hb',e⟩:∃hv hb,aBf hv hb bs n Q=_:=⟨_,_,bPy bs n Q⟩
 refine⟨hv,hb',e.mpr ?_⟩
 clear e
 have h1:Int.fdiv n 1=n:=by rw[bX3 _ (by decide),Int.ediv_one]
 have h2:IntKind.wrap .u8 n=((octMMd n 0).toNat:Int):=by
  have:=aEj n 0 (by omega) 0 (by omega)
  rw[show min (Int.toNat 0) 64=0 from rfl,Int.pow_zero,h1]at this
  exact this
 refine⟨_,rfl,_,by rw[h1,h2],ckI (by simp[aL];omega) ?_⟩
 rw[mI]
 exact hq
def bHp:Con
 | [.sl id tot 0 len 1,.int .i64 1,.sl id2 1 0 1 1],H,K=>∃ (bs:LA) (n:Int),Lf (H[id]? = some ⟨.grow,true,ofBytes bs⟩∧tot=bs.length∧len=bs.length∧bs.length<=1000000∧H[id2]? = some ⟨.exact,true,[.int .i64 n]⟩)∧K (.ret (.sl id (bs.length+1) 0 (bs.length+1) 1)) (H.set id ⟨.grow,true,ofBytes (bs++putMMd 1 [n])⟩)
 | _,_,_=>False
theorem put1_ok:aI Tryz.prog gl0 89 bHp:=by
 refine fZ (enters_of (by kernel_rfl)) aO λargs H Q hc => ?_
 unfold bHp at hc
 split at hc
 ·rename_i id tot len id2
  obtain⟨bs,n,⟨h1,rfl,rfl,h3,h4⟩,hq⟩:=hc
  have hne:id≠id2:=λe=>by subst e;rw[h1]at h4;cases h4
  have hl:id<H.length:=(bXq.1 h1).1
  have hl2:id2<H.length:=(bXq.1 h4).1
  obtain⟨hv,hb',h⟩:=aYw bs n h3 (λo H' _=>o=.ret (.sl 0 (bs.length+1) 0 (bs.length+1) 1)∧H'=[⟨.grow,true,ofBytes (bs++putMMd 1 [n])⟩,⟨.ro,true,[.int .i64 n]⟩]) ⟨rfl,rfl⟩
  refine⟨_,1000,λj=>if j=0 then id else id2,[.sl 0 bs.length 0 bs.length 1,.int .i64 1,.sl 1 1 0 1 1],[⟨.grow,true,ofBytes bs⟩,⟨.ro,true,[.int .i64 n]⟩],_, ?_,rfl,rfl,rfl,rfl,⟨λj b0 hb => ?_,λj j' b0 hb hk hj' he => ?_,λj b0 hb hk c hc => ?_⟩,h, ?_⟩
  ·exact⟨kU,kZ,dH,bY⟩
  ·cases j with
   | zero=>
    simp only[bXv,bW5]at hb
    subst hb
    exact⟨hl,aZ _ _,gD _,λ_=>aZ 0 _,_,h1,(aU _ _ (aZ 0 _) (gD _)).symm,.inr rfl⟩
   | succ j=>cases j with
    | zero=>
     simp only[bZr,bXv,bW5]at hb
     subst hb
     exact⟨hl2,rfl,rfl,λ_=>rfl,_,h4,rfl,.inl rfl⟩
    | succ j=>simp at hb
  ·cases j with
   | zero=>
    simp at hj'
    have:j'=0∨j'=1:=by omega
    rcases this with rfl | rfl
    ·rfl
    ·exact absurd he hne
   | succ j=>cases j with
    | zero=>simp at hb;subst hb;exact absurd rfl hk
    | succ j=>simp at hb
  ·cases j with
   | zero=>simp at hb;subst hb;cases hk
   | succ j=>cases j with
    | zero=>simp at hb;subst hb;simp at hc
    | succ j=>simp at hb
  ·rintro o H0' g' ⟨rfl,rfl⟩
   refine⟨_,⟨by simp,λj b0 hb hk => ?_,λj b0 hb hk => ?_,λj b0 hj hb => ?_,by simp,λk hk hn => ?_,λj b hb hk => ?_⟩,hq⟩
   ·cases j with
    | zero=>simp at hb;subst hb;cases hk
    | succ j=>cases j with
     | zero=>simp at hb;subst hb;exact⟨_,rfl,rfl,rfl⟩
     | succ j=>simp at hb
   ·cases j with
    | zero=>simp at hb;subst hb;exact⟨_,rfl,rfl⟩
    | succ j=>cases j with
     | zero=>simp at hb;subst hb;exact absurd rfl hk
     | succ j=>simp at hb
   ·simp at hj
    match j,hb with
    | 0,_=>omega
    | 1,_=>omega
    | j+2,hb=>simp at hb
   ·have:=hn 0 _ rfl (by simp)
    rw[bYu (by simpa using this)]
   ·cases j with
    | zero=>
     simp only[bXv,bW5]at hb
     subst hb
     show(H.set id _)[id]? = some (aDd _ _)
     rw[bZu hl]
     simp only[aDd,aU _ _ (aZ 0 _) (gD _)]
    | succ j=>cases j with
     | zero=>simp at hb;subst hb;exact absurd rfl hk
     | succ j=>simp at hb
 ·exact hc.elim
def bGv:Con:=λargs H K=>match args with
 | [.sl _ _ _ _ _,.int _ _,.sl _ _ _ _ _]=>bHp args H K
 | _=>aJ5 args H K
theorem bGr:aI Tryz.prog gl0 89 bGv:=⟨put1_ok.1,λargs H Q h=>by
 unfold bGv at h
 split at h
 ·exact put1_ok.2 _ H Q h
 ·exact put_rawMd.2 _ H Q h⟩
def aSq:SM:=gG [(88,bIe),(89,bGv)]
theorem aLr:∀f g,aSq f=some g->aI Tryz.prog gl0 f g:=bO _ (by simp only[bXd,bXn,bY0,bYd,bY4];exact⟨bJy,bGr⟩)
noncomputable def uH(hv:LI)(hb:LB)(mk:Bool)(ty seq ti ss:Int)(tc:Nat)(cs:QT)(tx:Nat)(ex:List Xt)(pad:Int)(pl:LA)(Q:BS):Prop:=
 aT (e23 aSq (λ_=>none) hv hb) (wpx (e23 aSq (λ_=>none) hv hb) 1000) 34 [.agg (jW mk ty seq ti ss tc cs tx ex pad pl)] [] {} Q
abbrev aZg(b_2:LA):Nat:=(ofBytes b_2).length
abbrev bRi(b_2:LA)(Q:BS):Prop:=ckQ (Nat.beq (aZg b_2) b_2.length&&Nat.ble (0+b_2.length) b_2.length&&true&&fU (((ofBytes b_2).drop 0).take b_2.length)) (exS (.str (List.map toB (((ofBytes b_2).drop 0).take b_2.length))) (λs_3=>Q (.ret (.tup [.str s_3,.int .i64 0])) [] {}))
theorem bGc(mk:Bool)(ty:Int)(seq:Int)(ti:Int)(ss:Int)(tc:Nat)(cs:QT)(tx:Nat)(ex:List Xt)(pad:Int)(pl:LA)(Q:BS):uH (aW [(139276,.str)]) (aV []) mk ty seq ti ss tc cs tx ex pad pl Q=(∃cs_0:QT,∃ex_1:List Xt,Lf (medK (aA cs) cs.length (cellsXM ex) ex.length cs_0 ex_1∧pl.length<=1000000000)∧(Lf (rightMMd ty seq ti ss cs_0 ex_1 pad=false)->exS (.str []) (λs_2=>Q (.ret (.tup [.str s_2,.int .i64 230])) [] {}))∧(Lf (rightMMd ty seq ti ss cs_0 ex_1 pad=true∧1200<totalM mk ty seq ti ss cs_0 ex_1 pad pl)->exS (.str []) (λs_2=>Q (.ret (.tup [.str s_2,.int .i64 3])) [] {}))∧∀b_2:LA,Lf (rightMMd ty seq ti ss cs_0 ex_1 pad=true∧totalM mk ty seq ti ss cs_0 ex_1 pad pl<=1200∧b_2=headM mk ty seq ti ss cs_0 ex_1 pad)->bRi b_2 Q):=by kernel_rfl

noncomputable def uR(hv:LI)(hb:LB)(mk:Bool)(ty seq ti ss:Int)(tc:Nat)(cs:QT)(tx:Nat)(ex:List Xt)(pad:Int)(pl:LA)(Q:BS):Prop:=
 aT (e23 aSq (λ_=>none) hv hb) (wpx (e23 aSq (λ_=>none) hv hb) 1000) 31 [.agg (jW mk ty seq ti ss tc cs tx ex pad pl)] [] {} Q
abbrev bK9(b_2:LA):Bool:=Nat.beq (aZg b_2) b_2.length
abbrev bUc(n_3:Int):Bool:=decide (0<=n_3)&&decide (n_3<=1099511627776)&&eH (List.replicate n_3.toNat [AV.int .u8 0]).flatten&&true&&Nat.ble (n_3.toNat*1) 1099511627776
abbrev aXt(pad:Int):Bool:=dE [.int .i64 pad] [.int .i64 pad]
abbrev bH0(b_2:LA):Blk:=Blk.mk BK.grow true (ofBytes b_2)
abbrev aOg(pad:Int):Blk:=Blk.mk BK.exact true [.int .i64 pad]
abbrev bNy(bs_4:LA)(n_5:Int)(Q:BS):Prop:=ckQ (Nat.beq (ofBytes (bs_4++putMMd 1 [n_5])).length (bs_4.length+1)&&Nat.ble (0+(bs_4.length+1)) (bs_4.length+1)&&true&&fU (((ofBytes (bs_4++putMMd 1 [n_5])).drop 0).take (bs_4.length+1))) (exS (.str (List.map toB (((ofBytes (bs_4++putMMd 1 [n_5])).drop 0).take (bs_4.length+1)))) (λs_6=>Q (.ret (.tup [.str s_6,.int .i64 0])) [] {}))
abbrev bK1(n_3:Int):Bool:=aP 0 (List.replicate n_3.toNat [AV.int .u8 0]).flatten
abbrev xY(b_2 pl:LA):Nat:=b_2.length+pl.length
abbrev bRn(b_2 pl:LA):Bool:=Nat.beq (ofBytes b_2++ofBytes pl).length (b_2.length+(ofBytes pl).length)
abbrev aIc(b_2 pl:LA):HB:=ofBytes b_2++ofBytes pl
abbrev bO9(b_2 pl:LA):Nat:=b_2.length+(ofBytes pl).length
theorem bJo(mk:Bool)(ty:Int)(seq:Int)(ti:Int)(ss:Int)(tc:Nat)(cs:QT)(tx:Nat)(ex:List Xt)(pad:Int)(pl:LA)(Q:BS):uR (aW [(127000,.int .i64),(127007,
 .str)]) (aV []) mk ty seq ti ss tc cs tx ex pad pl Q=(∃cs_0:QT,∃ex_1:List Xt,Lf (medK (aA cs) cs.length (cellsXM ex) ex.length cs_0 ex_1∧pl.length<=1000000000)∧(Lf (rightMMd ty seq ti ss cs_0 ex_1 pad=false) →
 Q (.ret (.tup [.str [],.int .i64 230])) [] {})∧(Lf (rightMMd ty seq ti ss cs_0 ex_1 pad=true∧1200<totalM mk ty seq ti ss cs_0 ex_1 pad pl)->Q (.ret (.tup [.str [],.int .i64 3])) [] {})∧∀b_2:LA,Lf (rightMMd ty seq
 ti ss cs_0 ex_1 pad=true∧totalM mk ty seq ti ss cs_0 ex_1 pad pl<=1200∧b_2=headM mk ty seq ti ss cs_0 ex_1 pad)->ckQ (eH (ofBytes pl)&&true&&Nat.ble (pl.length*1) 1099511627776) (bif Nat.beq pl.length 0 then ckQ (Nat.beq
 pl.length 0) (ckQ (bK9 b_2&&true) (bif decide (pad>0)then exW .i64 (pad-1) (λn_3=>ckQ (bUc n_3) (bif decide (n_3=0)then ckQ (Nat.beq n_3.toNat 0) (ckQ (bK9 b_2&&true) (ckQ (aXt pad) (ckQ (aXt pad&&true) (∃bs_4 :
 LA,∃n_5:Int,Lf (GetElem?.getElem? [Blk.mk BK.exact true (jW mk ty seq ti ss tc cs tx ex pad pl),bH0 b_2,aOg pad] 1=Option.some (bH0 bs_4)∧b_2.length=bs_4.length∧b_2.length=bs_4.length∧bs_4.length<=1000000 ∧
 GetElem?.getElem? [Blk.mk BK.exact true (jW mk ty seq ti ss tc cs tx ex pad pl),bH0 b_2,aOg pad] 2=Option.some (aOg n_5))∧bNy bs_4 n_5 Q))))else ckQ (Nat.blt 0 n_3.toNat) (ckQ (bK9 b_2&&true&&Nat.beq (0+b_2.length*1)
 b_2.length&&Nat.ble (b_2.length+n_3.toNat) 1099511627776&&Nat.ble ((b_2.length+n_3.toNat)*1) 1099511627776) (ckQ (aXt pad) (ckQ (aXt pad&&true) (∃bs_4:LA,∃n_5:Int,Lf (GetElem?.getElem? [Blk.mk BK.exact true
 (jW mk ty seq ti ss tc cs tx ex pad pl),Blk.mk BK.grow (bK1 n_3) (ofBytes b_2++(List.replicate n_3.toNat [AV.int .u8 0]).flatten),aOg pad] 1=Option.some (bH0 bs_4)∧b_2.length+(List.replicate n_3.toNat [AV.int .u8
 0]).flatten.length=bs_4.length∧b_2.length+n_3.toNat=bs_4.length∧bs_4.length<=1000000∧GetElem?.getElem? [Blk.mk BK.exact true (jW mk ty seq ti ss tc cs tx ex pad pl),Blk.mk BK.grow (bK1 n_3) (ofBytes b_2++(List.replicate
 n_3.toNat [AV.int .u8 0]).flatten),aOg pad] 2=Option.some (aOg n_5))∧bNy bs_4 n_5 Q))))))else bRi b_2 Q))else ckQ (Nat.blt 0 pl.length) (ckQ (bK9 b_2&&true&&Nat.beq (0+b_2.length*1) b_2.length&&Nat.ble (xY b_2 pl)
 1099511627776&&Nat.ble (xY b_2 pl*1) 1099511627776) (bif decide (pad>0)then exW .i64 (pad-1) (λn_3=>ckQ (bUc n_3) (bif decide (n_3=0)then ckQ (Nat.beq n_3.toNat 0) (ckQ (bRn b_2 pl&&true) (ckQ (aXt pad) (ckQ (aXt
 pad&&true) (∃bs_4:LA,∃n_5:Int,Lf (GetElem?.getElem? [Blk.mk BK.exact true (jW mk ty seq ti ss tc cs tx ex pad pl),Blk.mk BK.grow (aP 0 (ofBytes pl)) (aIc b_2 pl),aOg pad] 1=Option.some (bH0 bs_4)∧bO9 b_2 pl
 = bs_4.length∧xY b_2 pl=bs_4.length∧bs_4.length<=1000000∧GetElem?.getElem? [Blk.mk BK.exact true (jW mk ty seq ti ss tc cs tx ex pad pl),Blk.mk BK.grow (aP 0 (ofBytes pl)) (aIc b_2 pl),aOg pad] 2=Option.some (aOg
 n_5))∧bNy bs_4 n_5 Q))))else ckQ (Nat.blt 0 n_3.toNat) (ckQ (bRn b_2 pl&&true&&Nat.beq (0+xY b_2 pl*1) (bO9 b_2 pl)&&Nat.ble (xY b_2 pl+n_3.toNat) 1099511627776&&Nat.ble ((xY b_2 pl+n_3.toNat)*1)
 1099511627776) (ckQ (aXt pad) (ckQ (aXt pad&&true) (∃bs_4:LA,∃n_5:Int,Lf (GetElem?.getElem? [Blk.mk BK.exact true (jW mk ty seq ti ss tc cs tx ex pad pl),Blk.mk BK.grow (aP 0 (ofBytes pl)&&bK1 n_3) (aIc b_2 pl
 ++ (List.replicate n_3.toNat [AV.int .u8 0]).flatten),aOg pad] 1=Option.some (bH0 bs_4)∧bO9 b_2 pl+(List.replicate n_3.toNat [AV.int .u8 0]).flatten.length=bs_4.length∧xY b_2 pl+n_3.toNat=bs_4.length∧bs_4.length ≤
 1000000∧GetElem?.getElem? [Blk.mk BK.exact true (jW mk ty seq ti ss tc cs tx ex pad pl),Blk.mk BK.grow (aP 0 (ofBytes pl)&&bK1 n_3) (aIc b_2 pl++(List.replicate n_3.toNat [AV.int .u8 0]).flatten),aOg pad] 2=Option.some
 (aOg n_5))∧bNy bs_4 n_5 Q))))))else ckQ (bRn b_2 pl&&Nat.ble (0+xY b_2 pl) (bO9 b_2 pl)&&true&&fU (((aIc b_2 pl).drop 0).take (xY b_2 pl))) (exS (.str (List.map toB (((aIc b_2 pl).drop 0).take (xY b_2 pl))))
 (λs_3=>Q (.ret (.tup [.str s_3,.int .i64 0])) [] {})))))):=by kernel_rfl

theorem aGv(l:LA):fU (ofBytes l)=true:=by
 induction l with
 | nil=>rfl
 | cons x l ih=>simpa[ofBytes,fU]using ih
theorem bDk{X:LA}{c:HB}{n1 n2:Nat}(hc:c=ofBytes X)(h1:n1=X.length)(h2:n2=X.length){K:LA->Prop}(h:K X):bif((((Nat.beq c.length n1)&&(Nat.ble (0+n2) n1))&&true)&&fU (List.take n2 (List.drop 0 c)))then(∃s:LA,AV.str (List.map toB (List.take n2 (List.drop 0 c)))=AV.str s∧K s)else False:=by
 subst hc h1 h2
 have e:List.take X.length (List.drop 0 (ofBytes X))=ofBytes X:=by rw[bXl,bW4 (by rw[aL];omega)]
 rw[e,aGv,kY,aL]
 refine ckI ?_ ⟨_,rfl,h⟩
 simp
def padMMd(pad:Int):LA:=if 0<pad then List.replicate (pad-1).toNat 0++putMMd 1 [pad]else[]
def encM(mk:Bool)(ty seq ti ss:Int)(cs:QT)(ex:List Xt)(pad:Int)(pl:LA):LA:=headM mk ty seq ti ss cs ex pad++pl++padMMd pad
theorem aHf(mk:Bool)(ty seq ti ss:Int)(tc:Nat)(cs:QT)(tx:Nat)(ex:List Xt)(pad:Int)(pl:LA)(hk:medK (aA cs) cs.length (cellsXM ex) ex.length cs ex)(hpl:pl.length<=1000000000)(Q:BS)
  (h1:rightMMd ty seq ti ss cs ex pad=false->Q (.ret (.tup [.str [],.int .i64 230])) [] {})
  (h2:rightMMd ty seq ti ss cs ex pad=true->1200<totalM mk ty seq ti ss cs ex pad pl->Q (.ret (.tup [.str [],.int .i64 3])) [] {})
  (h3:rightMMd ty seq ti ss cs ex pad=true->totalM mk ty seq ti ss cs ex pad pl<=1200->Q (.ret (.tup [.str (headM mk ty seq ti ss cs ex pad),.int .i64 0])) [] {}):∃hv hb,uH hv hb mk ty seq ti ss tc cs tx ex pad pl Q:=by
 obtain⟨hv,hb',e⟩:∃hv hb,uH hv hb mk ty seq ti ss tc cs tx ex pad pl Q=_:=⟨_,_,bGc mk ty seq ti ss tc cs tx ex pad pl Q⟩
 refine⟨hv,hb',e.mpr ?_⟩
 delta aZg bRi
 clear e
 refine⟨cs,ex,⟨hk,hpl⟩,λ⟨hr⟩=>⟨_,rfl,h1 hr⟩,λ⟨hr,ht⟩=>⟨_,rfl,h2 hr ht⟩,λb ⟨hr,ht,hb⟩=>bDk rfl rfl rfl (by rw[hb];exact h3 hr ht)⟩
theorem aN8(mk:Bool)(ty seq ti ss:Int)(tc:Nat)(cs:QT)(tx:Nat)(ex:List Xt)(pad:Int)(pl:LA)(hk:medK (aA cs) cs.length (cellsXM ex) ex.length cs ex)(hpl:pl.length<=1000000000)(Q:BS)
  (h1:rightMMd ty seq ti ss cs ex pad=false->Q (.ret (.tup [.str [],.int .i64 230])) [] {})
  (h2:rightMMd ty seq ti ss cs ex pad=true->1200<totalM mk ty seq ti ss cs ex pad pl->Q (.ret (.tup [.str [],.int .i64 3])) [] {})
  (h3:rightMMd ty seq ti ss cs ex pad=true->totalM mk ty seq ti ss cs ex pad pl<=1200->Q (.ret (.tup [.str (encM mk ty seq ti ss cs ex pad pl),.int .i64 0])) [] {}):∃hv hb,uR hv hb mk ty seq ti ss tc cs tx ex pad pl Q:=by
 obtain⟨hv,hb',e⟩:∃hv hb,uR hv hb mk ty seq ti ss tc cs tx ex pad pl Q=_:=⟨_,_,bJo mk ty seq ti ss tc cs tx ex pad pl Q⟩
 refine⟨hv,hb',e.mpr ?_⟩
 delta aZg bK9 bUc aXt bH0 aOg bNy bK1 bRi xY bRn aIc bO9
 clear e
 refine⟨cs,ex,⟨hk,hpl⟩,λ⟨hr⟩=>h1 hr,λ⟨hr,ht⟩=>h2 hr ht,λb ⟨hr,ht,hb⟩ => ?_⟩
 obtain⟨_,r2,r3,r4,r5⟩:=qW hr
 have hbl:=aAu mk ty seq ti ss cs ex pad r2 r3 r4
 rw[←hb]at hbl
 have h3:=h3 hr ht
 unfold encM at h3
 rw[←hb]at h3
 clear hb
 have ht2:pl.length<=1200:=by unfold totalM at ht;omega
 have pe:dE [.int .i64 pad] [.int .i64 pad]=true:=by simp[dE,iC]
 refine ckI (by rw[dB];simp;omega) (oH (λh0=>ckI (by rw[h0];rfl) (ckI (by simp[aL]) (aH (λhp => ?_) (λhp => ?_)))) (λh0=>ckI (bltQ_iff.2 (by omega)) (ckI (by simp[aL];omega) (aH (λhp => ?_) (λhp => ?_)))))
 ·have hnil:pl=[]:=bYq.1 h0
  subst hnil
  obtain⟨p,rfl⟩:∃p:Nat,pad=(p:Int)+1:=⟨(pad-1).toNat,by omega⟩
  have hP:padMMd ((p:Int)+1)=List.replicate p 0++putMMd 1 [(p:Int)+1]:=by rw[padMMd,if_pos (by omega),show((p:Int)+1-1).toNat=p by omega]
  rw[hP,bXs]at h3
  refine aF ?_
  rw[show((p:Int)+1-1)=(p:Int)by omega]
  simp only[aKa,bXf,dF]
  refine ckI (by rw[dB];simp;omega) (aH (λhz => ?_) (λhz => ?_))
  ·obtain rfl:p=0:=by omega
   refine ckI rfl (ckI (by simp[aL]) (ckI pe (ckI (by rw[pe];rfl) ⟨b,_,⟨rfl,rfl,rfl,by omega,rfl⟩,bDk rfl (by simp only[bW2,put_lenMd,bXc,bXm,bXb];try omega) (by simp only[bW2,put_lenMd,bXc,bXm,bXb];try omega) (by simpa using h3)⟩)))
  ·have hlr:(List.replicate p (0:UInt8)).length=p:=bXb
   refine ckI (bltQ_iff.2 (by omega)) (ckI (by simp[aL];omega) (ckI pe (ckI (by rw[pe];rfl) ⟨b++List.replicate p 0,_,⟨by rw[aZ];rfl,by simp[aL],by simp,by simp;omega,rfl⟩,bDk rfl (by simp only[bW2,put_lenMd,bXc,bXm,bXb];try omega) (by simp only[bW2,put_lenMd,bXc,bXm,bXb];try omega) (by simpa using h3)⟩)))
 ·have hnil:pl=[]:=bYq.1 h0
  subst hnil
  have hP:padMMd pad=[]:=by rw[padMMd,if_neg (by omega)]
  rw[hP]at h3
  exact bDk rfl rfl rfl (by simpa using h3)
 ·obtain⟨p,rfl⟩:∃p:Nat,pad=(p:Int)+1:=⟨(pad-1).toNat,by omega⟩
  have hP:padMMd ((p:Int)+1)=List.replicate p 0++putMMd 1 [(p:Int)+1]:=by rw[padMMd,if_pos (by omega),show((p:Int)+1-1).toNat=p by omega]
  rw[hP]at h3
  refine aF ?_
  rw[show((p:Int)+1-1)=(p:Int)by omega]
  simp only[aKa,bXf,dF]
  refine ckI (by rw[dB];simp;omega) (aH (λhz => ?_) (λhz => ?_))
  ·obtain rfl:p=0:=by omega
   refine ckI rfl (ckI (by simp[aL]) (ckI pe (ckI (by rw[pe];rfl) ⟨b++pl,_,⟨by rw[aZ];rfl,by simp[aL],by simp,by simp;omega,rfl⟩,bDk rfl (by simp only[bW2,put_lenMd,bXc,bXm,bXb];try omega) (by simp only[bW2,put_lenMd,bXc,bXm,bXb];try omega) (by simpa using h3)⟩)))
  ·refine ckI (bltQ_iff.2 (by omega)) (ckI (by simp[aL];omega) (ckI pe (ckI (by rw[pe];rfl) ⟨b++pl++List.replicate p 0,_,⟨by rw[aZ,aZ];rfl,by simp[aL,bYp],by simp[bYp],by simp;omega,rfl⟩,bDk rfl (by simp only[bW2,put_lenMd,bXc,bXm,bXb];try omega) (by simp only[bW2,put_lenMd,bXc,bXm,bXb];try omega) (by simpa using h3)⟩)))
 ·have hP:padMMd pad=[]:=by rw[padMMd,if_neg (by omega)]
  rw[hP,bXs]at h3
  exact bDk (X:=b++pl) (dF b pl) (by simp[aL]) (by simp) h3
def encRMMd(mk:Bool)(ty seq ti ss:Int)(cs:QT)(ex:List Xt)(pad:Int)(pl:LA):LA×Int:=if rightMMd ty seq ti ss cs ex pad=false then([],230)else if 1200<totalM mk ty seq ti ss cs ex pad pl then([],3)else(encM mk ty seq ti ss cs ex pad pl,0)
def headRM(mk:Bool)(ty seq ti ss:Int)(cs:QT)(ex:List Xt)(pad:Int)(pl:LA):LA×Int:=if rightMMd ty seq ti ss cs ex pad=false then([],230)else if 1200<totalM mk ty seq ti ss cs ex pad pl then([],3)else(headM mk ty seq ti ss cs ex pad,0)
def aSf:Con
 | [.agg [.bool mk,.int .i64 ty,.int .i64 seq,.int .i64 ti,.int .i64 ss,.lst _ c5 n5 1,.lst _ c6 n6 2,.int .i64 pad,.str pl]],H,K=>∃ (cs:QT) (ex:List Xt),Lf (medK c5 n5 c6 n6 cs ex∧pl.length<=1000000000)∧∀ (s:LA) (e:Int),Lf ((s,e)=encRMMd mk ty seq ti ss cs ex pad pl)->K (.ret (.tup [.str s,.int .i64 e])) H
 | _,_,_=>False
def bK3:Con
 | [.agg [.bool mk,.int .i64 ty,.int .i64 seq,.int .i64 ti,.int .i64 ss,.lst _ c5 n5 1,.lst _ c6 n6 2,.int .i64 pad,.str pl]],H,K=>∃ (cs:QT) (ex:List Xt),Lf (medK c5 n5 c6 n6 cs ex∧pl.length<=1000000000)∧∀ (s:LA) (e:Int),Lf ((s,e)=headRM mk ty seq ti ss cs ex pad pl)->K (.ret (.tup [.str s,.int .i64 e])) H
 | _,_,_=>False
theorem encode_ok:aI Tryz.prog gl0 31 aSf:=by
 refine aQ (enters_of (by kernel_rfl)) aO λargs H Q hc => ?_
 unfold aSf at hc
 split at hc
 ·rename_i mk ty seq ti ss tc c5 n5 tx c6 n6 pad pl
  obtain⟨cs,ex,⟨⟨rfl,rfl,rfl,rfl,k1,k2,hd⟩,hpl⟩,hq⟩:=hc
  obtain⟨hv,hb',h⟩:=aN8 mk ty seq ti ss tc cs tx ex pad pl ⟨rfl,rfl,rfl,rfl,k1,k2,hd⟩ hpl (λo H' _=>H'=[]∧(∃v,o=.ret v∧old 0 v=true∧noY v=true)∧Q o H)
   (λhr=>⟨rfl,⟨_,rfl,rfl,rfl⟩,hq _ _ ⟨by rw[encRMMd,if_pos hr]⟩⟩)
   (λhr ht=>⟨rfl,⟨_,rfl,rfl,rfl⟩,hq _ _ ⟨by rw[encRMMd,if_neg (by rw[hr];simp),if_pos ht]⟩⟩)
   (λhr ht=>⟨rfl,⟨_,rfl,rfl,rfl⟩,hq _ _ ⟨by rw[encRMMd,if_neg (by rw[hr];simp),if_neg (by omega)]⟩⟩)
  refine⟨rfl,rfl,_,1000, ?_,rfl,h⟩
  exact⟨kU,kZ,dH,aLr⟩
 ·exact hc.elim
theorem head_ok:aI Tryz.prog gl0 34 bK3:=by
 refine aQ (enters_of (by kernel_rfl)) aO λargs H Q hc => ?_
 unfold bK3 at hc
 split at hc
 ·rename_i mk ty seq ti ss tc c5 n5 tx c6 n6 pad pl
  obtain⟨cs,ex,⟨⟨rfl,rfl,rfl,rfl,k1,k2,hd⟩,hpl⟩,hq⟩:=hc
  obtain⟨hv,hb',h⟩:=aHf mk ty seq ti ss tc cs tx ex pad pl ⟨rfl,rfl,rfl,rfl,k1,k2,hd⟩ hpl (λo H' _=>H'=[]∧(∃v,o=.ret v∧old 0 v=true∧noY v=true)∧Q o H)
   (λhr=>⟨rfl,⟨_,rfl,rfl,rfl⟩,hq _ _ ⟨by rw[headRM,if_pos hr]⟩⟩)
   (λhr ht=>⟨rfl,⟨_,rfl,rfl,rfl⟩,hq _ _ ⟨by rw[headRM,if_neg (by rw[hr];simp),if_pos ht]⟩⟩)
   (λhr ht=>⟨rfl,⟨_,rfl,rfl,rfl⟩,hq _ _ ⟨by rw[headRM,if_neg (by rw[hr];simp),if_neg (by omega)]⟩⟩)
  refine⟨rfl,rfl,_,1000, ?_,rfl,h⟩
  exact⟨kU,kZ,dH,aLr⟩
 ·exact hc.elim
end Go.Proofs.YtnhechnaemmdiaaGreatDoor.Md

set_option linter.unusedSectionVars false
namespace Go.Proofs.YtnhechnaemmdiaaGreatDoor
open Go.RowKit
set_option maxRecDepth 1000000

noncomputable def aPz(hv:LI)(hb:LB)(k n:Int)(Q:BS):Prop:=
 aT (e04 sm0 (λ_=>none) hv hb) (wpx (e04 sm0 (λ_=>none) hv hb) 1000) 93 [.int .i64 n,.int .i64 k] [] {} Q
noncomputable def aB9(hv:LI)(hb:LB)(n:Int)(Q:BS):Prop:=aPz hv hb 4 n Q
theorem bPx(n:Int)(Q:BS):aB9 (aW [(380950,.int .i64),(380951,.int .u8),(380955,.str)]) (aV []) n Q=(
(∃n_0:Int,(((AV.int .i64 (Int.fdiv n (16777216:Int)))=(AV.int .i64 n_0)) ∧
 (∃n_1:Int,(((AV.int .u8 (IntKind.wrap .u8 n_0))=(AV.int .u8 n_1)) ∧
 (∃n_2:Int,(((AV.int .i64 (Int.fdiv n (65536:Int)))=(AV.int .i64 n_2)) ∧
 (∃n_3:Int,(((AV.int .u8 (IntKind.wrap .u8 n_2))=(AV.int .u8 n_3)) ∧
 (∃n_4:Int,(((AV.int .i64 (Int.fdiv n (256:Int)))=(AV.int .i64 n_4)) ∧
 (∃n_5:Int,(((AV.int .u8 (IntKind.wrap .u8 n_4))=(AV.int .u8 n_5)) ∧
 (∃n_6:Int,(((AV.int .i64 (Int.fdiv n (1:Int)))=(AV.int .i64 n_6)) ∧
 (∃n_7:Int,(((AV.int .u8 (IntKind.wrap .u8 n_6))=(AV.int .u8 n_7)) ∧
 (∃s_8:LA,(((AV.str ((toB (AV.int .u8 n_1))::((toB (AV.int .u8 n_3))::((toB (AV.int .u8 n_5))::((toB (AV.int .u8 n_7))::[])))))=(AV.str s_8)) ∧
 (Q (Out.ret (AV.str s_8)) [] (Gh.mk (0:Nat) (0:Nat) []))))))))))))))))))))):=by kernel_rfl

noncomputable def aBu(hv:LI)(hb:LB)(n:Int)(Q:BS):Prop:=aPz hv hb 8 n Q
theorem bP8(n:Int)(Q:BS):aBu (aW [(380950,.int .i64),(380951,.int .u8),(380955,.str)]) (aV []) n Q=(exI .i64 (Int.fdiv n 72057594037927936) (λn_0=>exW .u8 n_0 (λn_1=>exI .i64 (Int.fdiv n 281474976710656) (λn_2=>exW .u8 n_2 (λn_3=>exI .i64 (Int.fdiv n 1099511627776) (λn_4=>exW .u8 n_4 (λn_5=>exI .i64 (Int.fdiv n 4294967296) (λn_6=>exW .u8 n_6 (λn_7=>exI .i64 (Int.fdiv n 16777216) (λn_8=>exW .u8 n_8 (λn_9=>exI .i64 (Int.fdiv n 65536) (λn_10=>exW .u8 n_10 (λn_11=>exI .i64 (Int.fdiv n 256) (λn_12=>exW .u8 n_12 (λn_13=>exI .i64 (Int.fdiv n 1) (λn_14=>exW .u8 n_14 (λn_15=>exS (.str [toB (.int .u8 n_1),toB (.int .u8 n_3),toB (.int .u8 n_5),toB (.int .u8 n_7),toB (.int .u8 n_9),toB (.int .u8 n_11),toB (.int .u8 n_13),toB (.int .u8 n_15)]) (λs_16=>Q (.ret (.str s_16)) [] {})))))))))))))))))):=by kernel_rfl

end Go.Proofs.YtnhechnaemmdiaaGreatDoor

namespace Go.Proofs.YtnhechnaemmdiaaGreatDoor.Md
open Go.RowKit
set_option maxRecDepth 1000000

theorem iminI{x:Int}{a b:Nat}(hx:x=(a:Int)){K:Int->Prop}(h:K ((min a b:Nat):Int)):∃n:Int,AV.int .i64 (aR2 x (b:Int))=AV.int .i64 n∧K n:=by
 subst hx
 refine⟨_, ?_,h⟩
 congr 1
 unfold aR2
 split<;>omega
def tK:AV->Bool
 | .int _ _=>true | .bool _=>true | .str _=>true | .nils=>true | .nilp=>true | _=>false
theorem wI(τ:Nat)(H:HV)(d:Nat):∀l:HB,(∀x∈l,tK x=true)->l.map (λx=>bU τ H (d+1) x)=l
 | [],_=>rfl
 | x::l,h=>by
  have hx:bU τ H (d+1) x=x:=by
   have:=h x (by simp)
   cases x<;>first | rfl | simp[tK]at this
  rw[bXu,wI τ H d l λy hy=>h y (by simp[hy]),hx]
theorem frz_slMd{τ:Nat}{H:HV}{d id tot len sz:Nat}{k:BK}{lf:Bool}{cs:HB}(hb:H[id]? = some ⟨k,lf,cs⟩)(h1:cs.length=tot)(h2:len*sz=tot)(hk:k≠.ro)(hp:∀x∈cs,tK x=true) :
  bU τ H (d+2) (.sl id tot 0 len sz)=.lst τ cs len sz:=by
 have c1:cs.length.beq tot=true:=aOe h1
 have c2:(0+len*sz).ble tot=true:=aNk (by omega)
 have c3:(k !=.ro)=true:=by simpa using hk
 rw[bU]
 simp only[hb,c1,c2,c3,bX4,bXw,bXl]
 rw[bW4 (by omega),wI τ H d cs hp]
theorem plain_cX:∀ (l:List Xt),∀x∈cellsXM l,tK x=true
 | [],x,h=>by simp[cellsXM]at h
 | y::l,x,h=>by
  rw[cellsXM]at h
  rcases bXd.1 h with rfl | h
  ·rfl
  rcases bXd.1 h with rfl | h
  ·rfl
  ·exact plain_cX l x h
end Go.Proofs.YtnhechnaemmdiaaGreatDoor.Md
