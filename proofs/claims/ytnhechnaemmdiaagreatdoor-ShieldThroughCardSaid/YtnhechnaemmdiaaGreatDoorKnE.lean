/-
  Chapter 23: Encode, Header.
-/
import Derived.Test.YtnhechnaemmdiaaGreatDoorKnD
import Derived.Test.YtnhechnaemmdiaaGreatDoorK25NA
set_option linter.unusedSimpArgs false
set_option linter.unusedVariables false
namespace Go.Proofs.YtnhechnaemmdiaaGreatDoor.Md
open Go.RowKit
set_option maxRecDepth 1000000

noncomputable def zA (hv:Nat→Option Pa) (hb:Nat→Option Bool) (bs:List UInt8) (n:Int) (Q:Out→List Blk→Gh→Prop):Prop:=
 aY (e23 sm0 (fun _=>none) hv hb) (wpx (e23 sm0 (fun _=>none) hv hb) 1000) 89 [.sl 0 bs.length 0 bs.length 1,.int .i64 1,.sl 1 1 0 1 1] [⟨.grow,true,ofBytes bs⟩,⟨.ro,true,[.int .i64 n]⟩] {} Q
theorem bEx (bs:List UInt8) (n:Int) (Q:Out→List Blk→Gh→Prop):zA (bD [(364570,.int .i64),(364571,.int .u8)]) (bE []) bs n Q=(
(∃n_0:Int,(((AV.int .i64 (Int.fdiv n (1:Int)))=(AV.int .i64 n_0)) ∧
 (∃n_1:Int,(((AV.int .u8 (IntKind.wrap .u8 n_0))=(AV.int .u8 n_1)) ∧
 (bif (((((Nat.beq (List.length (ofBytes bs)) (List.length bs))&&true)&&(Nat.beq ((0:Nat)+((List.length bs)*(1:Nat))) (List.length bs)))&&(Nat.ble ((List.length bs)+(1:Nat)) (1099511627776:Nat)))&&(Nat.ble (((List.length bs)+(1:Nat))*(1:Nat)) (1099511627776:Nat))) then (Q (Out.ret (AV.sl (0:Nat) ((List.length bs)+(1:Nat)) (0:Nat) ((List.length bs)+(1:Nat)) (1:Nat))) ((Blk.mk BK.grow true ((ofBytes bs)++((AV.int .u8 n_1)::[])))::((Blk.mk BK.ro true ((AV.int .i64 n)::[]))::[])) (Gh.mk (0:Nat) (0:Nat) []))
else False)))))):=by kernel_rfl

theorem aS1 (bs:List UInt8) (n:Int) (hbs:bs.length≤1000000) (Q:Out→List Blk→Gh→Prop) (hq:Q (.ret (.sl 0 (bs.length+1) 0 (bs.length+1) 1)) [⟨.grow,true,ofBytes (bs++putM 1 [n])⟩,⟨.ro,true,[.int .i64 n]⟩] {}):∃hv hb,zA hv hb bs n Q:=by
 obtain ⟨hv,hb',e⟩:∃hv hb,zA hv hb bs n Q=_:=⟨_,_,bEx bs n Q⟩
 refine ⟨hv,hb',e.mpr ?_⟩
 clear e
 have h1:Int.fdiv n 1=n:=by rw[bP0 _ (by decide),Int.ediv_one]
 have h2:IntKind.wrap .u8 n=((octM n 0).toNat:Int):=by
  have:=bGd n 0 (by omega) 0 (by omega)
  rw[show min (Int.toNat 0) 64=0 from rfl,Int.pow_zero,h1] at this
  exact this
 refine ⟨_,rfl,_,by rw[h1,h2],ckI (by simp[aH];omega) ?_⟩
 rw[qC]
 exact hq
def bAf:Con
 | [.sl id tot 0 len 1,.int .i64 1,.sl id2 1 0 1 1],H,K=>∃ (bs:List UInt8) (n:Int),Lf (H[id]? = some ⟨.grow,true,ofBytes bs⟩∧tot=bs.length∧len=bs.length∧bs.length≤1000000∧H[id2]? = some ⟨.exact,true,[.int .i64 n]⟩)∧K (.ret (.sl id (bs.length+1) 0 (bs.length+1) 1)) (H.set id ⟨.grow,true,ofBytes (bs++putM 1 [n])⟩)
 | _,_,_=>False
theorem put1_ok:aF Tryz.prog gl0 89 bAf:=by
 refine jE (enters_of (by kernel_rfl)) aM fun args H Q hc => ?_
 unfold bAf at hc
 split at hc
 ·rename_i id tot len id2
  obtain ⟨bs,n,⟨h1,rfl,rfl,h3,h4⟩,hq⟩:=hc
  have hne:id≠id2:=fun e=>by subst e;rw[h1] at h4;cases h4
  have hl:id<H.length:=(bPa.1 h1).1
  have hl2:id2<H.length:=(bPa.1 h4).1
  obtain ⟨hv,hb',h⟩:=aS1 bs n h3 (fun o H' _=>o=.ret (.sl 0 (bs.length+1) 0 (bs.length+1) 1)∧H'=[⟨.grow,true,ofBytes (bs++putM 1 [n])⟩,⟨.ro,true,[.int .i64 n]⟩]) ⟨rfl,rfl⟩
  refine ⟨_,1000,fun j=>if j=0 then id else id2,[.sl 0 bs.length 0 bs.length 1,.int .i64 1,.sl 1 1 0 1 1],[⟨.grow,true,ofBytes bs⟩,⟨.ro,true,[.int .i64 n]⟩],_, ?_,rfl,rfl,rfl,rfl,⟨fun j b0 hb => ?_,fun j j' b0 hb hk hj' he => ?_,fun j b0 hb hk c hc => ?_⟩,h, ?_⟩
  ·exact ⟨dQ,dP,bY,bT⟩
  ·cases j with
   | zero=>
    simp only[bQl,bOl] at hb
    subst hb
    exact ⟨hl,aK _ _,iA _,fun _=>aK 0 _,_,h1,(bL _ _ (aK 0 _) (iA _)).symm,.inr rfl⟩
   | succ j=>cases j with
    | zero=>
     simp only[List.getElem?_cons_succ,bQl,bOl] at hb
     subst hb
     exact ⟨hl2,rfl,rfl,fun _=>rfl,_,h4,rfl,.inl rfl⟩
    | succ j=>simp at hb
  ·cases j with
   | zero=>
    simp at hj'
    have:j'=0∨j'=1:=by omega
    rcases this with rfl | rfl
    ·rfl
    ·exact absurd he hne
   | succ j=>cases j with
    | zero=>simp at hb;subst hb;exact absurd rfl hk
    | succ j=>simp at hb
  ·cases j with
   | zero=>simp at hb;subst hb;cases hk
   | succ j=>cases j with
    | zero=>simp at hb;subst hb;simp at hc
    | succ j=>simp at hb
  ·rintro o H0' g' ⟨rfl,rfl⟩
   refine ⟨_,⟨by simp,fun j b0 hb hk => ?_,fun j b0 hb hk => ?_,fun j b0 hj hb => ?_,by simp,fun k hk hn => ?_,fun j b hb hk => ?_⟩,hq⟩
   ·cases j with
    | zero=>simp at hb;subst hb;cases hk
    | succ j=>cases j with
     | zero=>simp at hb;subst hb;exact ⟨_,rfl,rfl,rfl⟩
     | succ j=>simp at hb
   ·cases j with
    | zero=>simp at hb;subst hb;exact ⟨_,rfl,rfl⟩
    | succ j=>cases j with
     | zero=>simp at hb;subst hb;exact absurd rfl hk
     | succ j=>simp at hb
   ·simp at hj
    match j,hb with
    | 0,_=>omega
    | 1,_=>omega
    | j+2,hb=>simp at hb
   ·have:=hn 0 _ rfl (by simp)
    rw[bP8 (by simpa using this)]
   ·cases j with
    | zero=>
     simp only[bQl,bOl] at hb
     subst hb
     show (H.set id _)[id]? = some (aNl _ _)
     rw[bRv hl]
     simp only[aNl,bL _ _ (aK 0 _) (iA _)]
    | succ j=>cases j with
     | zero=>simp at hb;subst hb;exact absurd rfl hk
     | succ j=>simp at hb
 ·exact hc.elim
def aZh:Con:=fun args H K=>match args with
 | [.sl _ _ _ _ _,.int _ _,.sl _ _ _ _ _]=>bAf args H K
 | _=>bJg args H K
theorem bBg:aF Tryz.prog gl0 89 aZh:=⟨put1_ok.1,fun args H Q h=>by
 unfold aZh at h
 split at h
 ·exact put1_ok.2 _ H Q h
 ·exact put_raw.2 _ H Q h⟩
def smI:SM:=dV [(88,bBx),(89,aZh)]
theorem vV:∀f g,smI f=some g→aF Tryz.prog gl0 f g:=bF _ (by simp only[bOr,bOx,bP3,bPj,bQe];exact ⟨aXe,bBg⟩)
noncomputable def tV (hv:Nat→Option Pa) (hb:Nat→Option Bool) (mk:Bool) (ty seq ti ss:Int) (tc:Nat) (cs:List Int) (tx:Nat) (ex:List Xt) (pad:Int) (pl:List UInt8) (Q:Out→List Blk→Gh→Prop):Prop:=
 aY (e23 smI (fun _=>none) hv hb) (wpx (e23 smI (fun _=>none) hv hb) 1000) 34 [.agg (iC mk ty seq ti ss tc cs tx ex pad pl)] [] {} Q
abbrev aSc (b_2:List UInt8):Nat:=(ofBytes b_2).length
abbrev bIe (b_2:List UInt8) (Q:Out→List Blk→Gh→Prop):Prop:=ckQ (Nat.beq (aSc b_2) b_2.length&&Nat.ble (0+b_2.length) b_2.length&&true&&fK (((ofBytes b_2).drop 0).take b_2.length)) (exS (.str (List.map toB (((ofBytes b_2).drop 0).take b_2.length))) (fun s_3=>Q (.ret (.tup [.str s_3,.int .i64 0])) [] {}))
theorem bE8 (mk:Bool) (ty:Int) (seq:Int) (ti:Int) (ss:Int) (tc:Nat) (cs:List Int) (tx:Nat) (ex:List Xt) (pad:Int) (pl:List UInt8) (Q:Out→List Blk→Gh→Prop):tV (bD [(139276,.str)]) (bE []) mk ty seq ti ss tc cs tx ex pad pl Q=(∃cs_0:List Int,∃ex_1:List Xt,Lf (medK (aB cs) cs.length (cellsXM ex) ex.length cs_0 ex_1∧pl.length≤1000000000)∧(Lf (rightM ty seq ti ss cs_0 ex_1 pad=false)→exS (.str []) (fun s_2=>Q (.ret (.tup [.str s_2,.int .i64 230])) [] {}))∧(Lf (rightM ty seq ti ss cs_0 ex_1 pad=true∧1200<totalM mk ty seq ti ss cs_0 ex_1 pad pl)→exS (.str []) (fun s_2=>Q (.ret (.tup [.str s_2,.int .i64 3])) [] {}))∧∀b_2:List UInt8,Lf (rightM ty seq ti ss cs_0 ex_1 pad=true∧totalM mk ty seq ti ss cs_0 ex_1 pad pl≤1200∧b_2=headM mk ty seq ti ss cs_0 ex_1 pad)→bIe b_2 Q):=by kernel_rfl

noncomputable def tK (hv:Nat→Option Pa) (hb:Nat→Option Bool) (mk:Bool) (ty seq ti ss:Int) (tc:Nat) (cs:List Int) (tx:Nat) (ex:List Xt) (pad:Int) (pl:List UInt8) (Q:Out→List Blk→Gh→Prop):Prop:=
 aY (e23 smI (fun _=>none) hv hb) (wpx (e23 smI (fun _=>none) hv hb) 1000) 31 [.agg (iC mk ty seq ti ss tc cs tx ex pad pl)] [] {} Q
abbrev bDw (b_2:List UInt8):Bool:=Nat.beq (aSc b_2) b_2.length
abbrev bMp (n_3:Int):Bool:=decide (0≤n_3)&&decide (n_3≤1099511627776)&&fJ (List.replicate n_3.toNat [AV.int .u8 0]).flatten&&true&&Nat.ble (n_3.toNat*1) 1099511627776
abbrev aR6 (pad:Int):Bool:=dI [.int .i64 pad] [.int .i64 pad]
abbrev bBu (b_2:List UInt8):Blk:=Blk.mk BK.grow true (ofBytes b_2)
abbrev aH6 (pad:Int):Blk:=Blk.mk BK.exact true [.int .i64 pad]
abbrev bGy (bs_4:List UInt8) (n_5:Int) (Q:Out→List Blk→Gh→Prop):Prop:=ckQ (Nat.beq (ofBytes (bs_4++putM 1 [n_5])).length (bs_4.length+1)&&Nat.ble (0+(bs_4.length+1)) (bs_4.length+1)&&true&&fK (((ofBytes (bs_4++putM 1 [n_5])).drop 0).take (bs_4.length+1))) (exS (.str (List.map toB (((ofBytes (bs_4++putM 1 [n_5])).drop 0).take (bs_4.length+1)))) (fun s_6=>Q (.ret (.tup [.str s_6,.int .i64 0])) [] {}))
abbrev bEk (n_3:Int):Bool:=aL 0 (List.replicate n_3.toNat [AV.int .u8 0]).flatten
abbrev rD (b_2 pl:List UInt8):Nat:=b_2.length+pl.length
abbrev bJa (b_2 pl:List UInt8):Bool:=Nat.beq (ofBytes b_2++ofBytes pl).length (b_2.length+(ofBytes pl).length)
abbrev aFi (b_2 pl:List UInt8):List AV:=ofBytes b_2++ofBytes pl
abbrev bHt (b_2 pl:List UInt8):Nat:=b_2.length+(ofBytes pl).length
theorem bDd (mk:Bool) (ty:Int) (seq:Int) (ti:Int) (ss:Int) (tc:Nat) (cs:List Int) (tx:Nat) (ex:List Xt) (pad:Int) (pl:List UInt8) (Q:Out→List Blk→Gh→Prop):tK (bD [(127000,.int .i64),(127007,
 .str)]) (bE []) mk ty seq ti ss tc cs tx ex pad pl Q=(∃cs_0:List Int,∃ex_1:List Xt,Lf (medK (aB cs) cs.length (cellsXM ex) ex.length cs_0 ex_1∧pl.length≤1000000000)∧(Lf (rightM ty seq ti ss cs_0 ex_1 pad=false)→Q
 (.ret (.tup [.str [],.int .i64 230])) [] {})∧(Lf (rightM ty seq ti ss cs_0 ex_1 pad=true∧1200<totalM mk ty seq ti ss cs_0 ex_1 pad pl)→Q (.ret (.tup [.str [],.int .i64 3])) [] {})∧∀b_2:List UInt8,Lf (rightM ty seq ti ss
 cs_0 ex_1 pad=true∧totalM mk ty seq ti ss cs_0 ex_1 pad pl≤1200∧b_2=headM mk ty seq ti ss cs_0 ex_1 pad)→ckQ (fJ (ofBytes pl)&&true&&Nat.ble (pl.length*1) 1099511627776) (bif Nat.beq pl.length 0 then ckQ (Nat.beq
 pl.length 0) (ckQ (bDw b_2&&true) (bif decide (pad>0) then exW .i64 (pad-1) (fun n_3=>ckQ (bMp n_3) (bif decide (n_3=0) then ckQ (Nat.beq n_3.toNat 0) (ckQ (bDw b_2&&true) (ckQ (aR6 pad) (ckQ (aR6 pad&&true) (∃bs_4 :
 List UInt8,∃n_5:Int,Lf (GetElem?.getElem? [Blk.mk BK.exact true (iC mk ty seq ti ss tc cs tx ex pad pl),bBu b_2,aH6 pad] 1=Option.some (bBu bs_4)∧b_2.length=bs_4.length∧b_2.length=bs_4.length∧bs_4.length≤1000000 ∧
 GetElem?.getElem? [Blk.mk BK.exact true (iC mk ty seq ti ss tc cs tx ex pad pl),bBu b_2,aH6 pad] 2=Option.some (aH6 n_5))∧bGy bs_4 n_5 Q)))) else ckQ (Nat.blt 0 n_3.toNat) (ckQ (bDw b_2&&true&&Nat.beq (0+b_2.length*1)
 b_2.length&&Nat.ble (b_2.length+n_3.toNat) 1099511627776&&Nat.ble ((b_2.length+n_3.toNat)*1) 1099511627776) (ckQ (aR6 pad) (ckQ (aR6 pad&&true) (∃bs_4:List UInt8,∃n_5:Int,Lf (GetElem?.getElem? [Blk.mk BK.exact true
 (iC mk ty seq ti ss tc cs tx ex pad pl),Blk.mk BK.grow (bEk n_3) (ofBytes b_2++(List.replicate n_3.toNat [AV.int .u8 0]).flatten),aH6 pad] 1=Option.some (bBu bs_4)∧b_2.length+(List.replicate n_3.toNat [AV.int .u8
 0]).flatten.length=bs_4.length∧b_2.length+n_3.toNat=bs_4.length∧bs_4.length≤1000000∧GetElem?.getElem? [Blk.mk BK.exact true (iC mk ty seq ti ss tc cs tx ex pad pl),Blk.mk BK.grow (bEk n_3) (ofBytes b_2++(List.replicate
 n_3.toNat [AV.int .u8 0]).flatten),aH6 pad] 2=Option.some (aH6 n_5))∧bGy bs_4 n_5 Q)))))) else bIe b_2 Q)) else ckQ (Nat.blt 0 pl.length) (ckQ (bDw b_2&&true&&Nat.beq (0+b_2.length*1) b_2.length&&Nat.ble (rD b_2 pl)
 1099511627776&&Nat.ble (rD b_2 pl*1) 1099511627776) (bif decide (pad>0) then exW .i64 (pad-1) (fun n_3=>ckQ (bMp n_3) (bif decide (n_3=0) then ckQ (Nat.beq n_3.toNat 0) (ckQ (bJa b_2 pl&&true) (ckQ (aR6 pad) (ckQ (aR6
 pad&&true) (∃bs_4:List UInt8,∃n_5:Int,Lf (GetElem?.getElem? [Blk.mk BK.exact true (iC mk ty seq ti ss tc cs tx ex pad pl),Blk.mk BK.grow (aL 0 (ofBytes pl)) (aFi b_2 pl),aH6 pad] 1=Option.some (bBu bs_4)∧bHt b_2 pl
 = bs_4.length∧rD b_2 pl=bs_4.length∧bs_4.length≤1000000∧GetElem?.getElem? [Blk.mk BK.exact true (iC mk ty seq ti ss tc cs tx ex pad pl),Blk.mk BK.grow (aL 0 (ofBytes pl)) (aFi b_2 pl),aH6 pad] 2=Option.some (aH6
 n_5))∧bGy bs_4 n_5 Q)))) else ckQ (Nat.blt 0 n_3.toNat) (ckQ (bJa b_2 pl&&true&&Nat.beq (0+rD b_2 pl*1) (bHt b_2 pl)&&Nat.ble (rD b_2 pl+n_3.toNat) 1099511627776&&Nat.ble ((rD b_2 pl+n_3.toNat)*1)
 1099511627776) (ckQ (aR6 pad) (ckQ (aR6 pad&&true) (∃bs_4:List UInt8,∃n_5:Int,Lf (GetElem?.getElem? [Blk.mk BK.exact true (iC mk ty seq ti ss tc cs tx ex pad pl),Blk.mk BK.grow (aL 0 (ofBytes pl)&&bEk n_3) (aFi b_2 pl
 ++ (List.replicate n_3.toNat [AV.int .u8 0]).flatten),aH6 pad] 1=Option.some (bBu bs_4)∧bHt b_2 pl+(List.replicate n_3.toNat [AV.int .u8 0]).flatten.length=bs_4.length∧rD b_2 pl+n_3.toNat=bs_4.length∧bs_4.length ≤
 1000000∧GetElem?.getElem? [Blk.mk BK.exact true (iC mk ty seq ti ss tc cs tx ex pad pl),Blk.mk BK.grow (aL 0 (ofBytes pl)&&bEk n_3) (aFi b_2 pl++(List.replicate n_3.toNat [AV.int .u8 0]).flatten),aH6 pad] 2=Option.some
 (aH6 n_5))∧bGy bs_4 n_5 Q)))))) else ckQ (bJa b_2 pl&&Nat.ble (0+rD b_2 pl) (bHt b_2 pl)&&true&&fK (((aFi b_2 pl).drop 0).take (rD b_2 pl))) (exS (.str (List.map toB (((aFi b_2 pl).drop 0).take (rD b_2 pl))))
 (fun s_3=>Q (.ret (.tup [.str s_3,.int .i64 0])) [] {})))))):=by kernel_rfl

theorem jP (l:List UInt8):fK (ofBytes l)=true:=by
 induction l with
 | nil=>rfl
 | cons x l ih=>simpa [ofBytes,fK] using ih
theorem aYq {X:List UInt8} {c:List AV} {n1 n2:Nat} (hc:c=ofBytes X) (h1:n1=X.length) (h2:n2=X.length) {K:List UInt8→Prop} (h:K X):bif ((((Nat.beq c.length n1)&&(Nat.ble (0+n2) n1))&&true)&&fK (List.take n2 (List.drop 0 c))) then (∃s:List UInt8,AV.str (List.map toB (List.take n2 (List.drop 0 c)))=AV.str s∧K s) else False:=by
 subst hc h1 h2
 have e:List.take X.length (List.drop 0 (ofBytes X))=ofBytes X:=by rw[bOv,bOk (by rw[aH];omega)]
 rw[e,jP,mG,aH]
 refine ckI ?_ ⟨_,rfl,h⟩
 simp
def padM (pad:Int):List UInt8:=if 0<pad then List.replicate (pad-1).toNat 0++putM 1 [pad] else []
def encM (mk:Bool) (ty seq ti ss:Int) (cs:List Int) (ex:List Xt) (pad:Int) (pl:List UInt8):List UInt8:=headM mk ty seq ti ss cs ex pad++pl++padM pad
theorem aDg (mk:Bool) (ty seq ti ss:Int) (tc:Nat) (cs:List Int) (tx:Nat) (ex:List Xt) (pad:Int) (pl:List UInt8) (hk:medK (aB cs) cs.length (cellsXM ex) ex.length cs ex) (hpl:pl.length≤1000000000) (Q:Out→List Blk→Gh→Prop)
  (h1:rightM ty seq ti ss cs ex pad=false→Q (.ret (.tup [.str [],.int .i64 230])) [] {})
  (h2:rightM ty seq ti ss cs ex pad=true→1200<totalM mk ty seq ti ss cs ex pad pl→Q (.ret (.tup [.str [],.int .i64 3])) [] {})
  (h3:rightM ty seq ti ss cs ex pad=true→totalM mk ty seq ti ss cs ex pad pl≤1200→Q (.ret (.tup [.str (headM mk ty seq ti ss cs ex pad),.int .i64 0])) [] {}):∃hv hb,tV hv hb mk ty seq ti ss tc cs tx ex pad pl Q:=by
 obtain ⟨hv,hb',e⟩:∃hv hb,tV hv hb mk ty seq ti ss tc cs tx ex pad pl Q=_:=⟨_,_,bE8 mk ty seq ti ss tc cs tx ex pad pl Q⟩
 refine ⟨hv,hb',e.mpr ?_⟩
 delta aSc bIe
 clear e
 refine ⟨cs,ex,⟨hk,hpl⟩,fun ⟨hr⟩=>⟨_,rfl,h1 hr⟩,fun ⟨hr,ht⟩=>⟨_,rfl,h2 hr ht⟩,fun b ⟨hr,ht,hb⟩=>aYq rfl rfl rfl (by rw[hb];exact h3 hr ht)⟩
theorem aJf (mk:Bool) (ty seq ti ss:Int) (tc:Nat) (cs:List Int) (tx:Nat) (ex:List Xt) (pad:Int) (pl:List UInt8) (hk:medK (aB cs) cs.length (cellsXM ex) ex.length cs ex) (hpl:pl.length≤1000000000) (Q:Out→List Blk→Gh→Prop)
  (h1:rightM ty seq ti ss cs ex pad=false→Q (.ret (.tup [.str [],.int .i64 230])) [] {})
  (h2:rightM ty seq ti ss cs ex pad=true→1200<totalM mk ty seq ti ss cs ex pad pl→Q (.ret (.tup [.str [],.int .i64 3])) [] {})
  (h3:rightM ty seq ti ss cs ex pad=true→totalM mk ty seq ti ss cs ex pad pl≤1200→Q (.ret (.tup [.str (encM mk ty seq ti ss cs ex pad pl),.int .i64 0])) [] {}):∃hv hb,tK hv hb mk ty seq ti ss tc cs tx ex pad pl Q:=by
 obtain ⟨hv,hb',e⟩:∃hv hb,tK hv hb mk ty seq ti ss tc cs tx ex pad pl Q=_:=⟨_,_,bDd mk ty seq ti ss tc cs tx ex pad pl Q⟩
 refine ⟨hv,hb',e.mpr ?_⟩
 delta aSc bDw bMp aR6 bBu aH6 bGy bEk bIe rD bJa aFi bHt
 clear e
 refine ⟨cs,ex,⟨hk,hpl⟩,fun ⟨hr⟩=>h1 hr,fun ⟨hr,ht⟩=>h2 hr ht,fun b ⟨hr,ht,hb⟩ => ?_⟩
 obtain ⟨_,r2,r3,r4,r5⟩:=zN hr
 have hbl:=vL mk ty seq ti ss cs ex pad r2 r3 r4
 rw[←hb] at hbl
 have h3:=h3 hr ht
 unfold encM at h3
 rw[←hb] at h3
 clear hb
 have ht2:pl.length≤1200:=by unfold totalM at ht;omega
 have pe:dI [.int .i64 pad] [.int .i64 pad]=true:=by simp[dI,gZ]
 refine ckI (by rw[bZ];simp;omega) (mJ (fun h0=>ckI (by rw[h0];rfl) (ckI (by simp[aH]) (aD (fun hp => ?_) (fun hp => ?_)))) (fun h0=>ckI (bltQ_iff.2 (by omega)) (ckI (by simp[aH];omega) (aD (fun hp => ?_) (fun hp => ?_)))))
 ·have hnil:pl=[]:=bO8.1 h0
  subst hnil
  obtain ⟨p,rfl⟩:∃p:Nat,pad=(p:Int)+1:=⟨(pad-1).toNat,by omega⟩
  have hP:padM ((p:Int)+1)=List.replicate p 0++putM 1 [(p:Int)+1]:=by rw[padM,if_pos (by omega),show ((p:Int)+1-1).toNat=p by omega]
  rw[hP,bPd] at h3
  refine aI (by omega) (by omega) ?_
  rw[show ((p:Int)+1-1)=(p:Int) by omega]
  simp only[aF7,bOa,dE]
  refine ckI (by rw[bZ];simp;omega) (aD (fun hz => ?_) (fun hz => ?_))
  ·obtain rfl:p=0:=by omega
   refine ckI rfl (ckI (by simp[aH]) (ckI pe (ckI (by rw[pe];rfl) ⟨b,_,⟨rfl,rfl,rfl,by omega,rfl⟩,aYq rfl (by simp only[bN8,put_len,bOb,bOe,bOn];try omega) (by simp only[bN8,put_len,bOb,bOe,bOn];try omega) (by simpa using h3)⟩)))
  ·have hlr:(List.replicate p (0:UInt8)).length=p:=bOn
   refine ckI (bltQ_iff.2 (by omega)) (ckI (by simp[aH];omega) (ckI pe (ckI (by rw[pe];rfl) ⟨b++List.replicate p 0,_,⟨by rw[aK];rfl,by simp[aH],by simp,by simp;omega,rfl⟩,aYq rfl (by simp only[bN8,put_len,bOb,bOe,bOn];try omega) (by simp only[bN8,put_len,bOb,bOe,bOn];try omega) (by simpa using h3)⟩)))
 ·have hnil:pl=[]:=bO8.1 h0
  subst hnil
  have hP:padM pad=[]:=by rw[padM,if_neg (by omega)]
  rw[hP] at h3
  exact aYq rfl rfl rfl (by simpa using h3)
 ·obtain ⟨p,rfl⟩:∃p:Nat,pad=(p:Int)+1:=⟨(pad-1).toNat,by omega⟩
  have hP:padM ((p:Int)+1)=List.replicate p 0++putM 1 [(p:Int)+1]:=by rw[padM,if_pos (by omega),show ((p:Int)+1-1).toNat=p by omega]
  rw[hP] at h3
  refine aI (by omega) (by omega) ?_
  rw[show ((p:Int)+1-1)=(p:Int) by omega]
  simp only[aF7,bOa,dE]
  refine ckI (by rw[bZ];simp;omega) (aD (fun hz => ?_) (fun hz => ?_))
  ·obtain rfl:p=0:=by omega
   refine ckI rfl (ckI (by simp[aH]) (ckI pe (ckI (by rw[pe];rfl) ⟨b++pl,_,⟨by rw[aK];rfl,by simp[aH],by simp,by simp;omega,rfl⟩,aYq rfl (by simp only[bN8,put_len,bOb,bOe,bOn];try omega) (by simp only[bN8,put_len,bOb,bOe,bOn];try omega) (by simpa using h3)⟩)))
  ·refine ckI (bltQ_iff.2 (by omega)) (ckI (by simp[aH];omega) (ckI pe (ckI (by rw[pe];rfl) ⟨b++pl++List.replicate p 0,_,⟨by rw[aK,aK];rfl,by simp[aH,bPv],by simp[bPv],by simp;omega,rfl⟩,aYq rfl (by simp only[bN8,put_len,bOb,bOe,bOn];try omega) (by simp only[bN8,put_len,bOb,bOe,bOn];try omega) (by simpa using h3)⟩)))
 ·have hP:padM pad=[]:=by rw[padM,if_neg (by omega)]
  rw[hP,bPd] at h3
  exact aYq (X:=b++pl) (dE b pl) (by simp[aH]) (by simp) h3
def encRM (mk:Bool) (ty seq ti ss:Int) (cs:List Int) (ex:List Xt) (pad:Int) (pl:List UInt8):List UInt8×Int:=if rightM ty seq ti ss cs ex pad=false then ([],230) else if 1200<totalM mk ty seq ti ss cs ex pad pl then ([],3) else (encM mk ty seq ti ss cs ex pad pl,0)
def headRM (mk:Bool) (ty seq ti ss:Int) (cs:List Int) (ex:List Xt) (pad:Int) (pl:List UInt8):List UInt8×Int:=if rightM ty seq ti ss cs ex pad=false then ([],230) else if 1200<totalM mk ty seq ti ss cs ex pad pl then ([],3) else (headM mk ty seq ti ss cs ex pad,0)
def aLg:Con
 | [.agg [.bool mk,.int .i64 ty,.int .i64 seq,.int .i64 ti,.int .i64 ss,.lst _ c5 n5 1,.lst _ c6 n6 2,.int .i64 pad,.str pl]],H,K=>∃ (cs:List Int) (ex:List Xt),Lf (medK c5 n5 c6 n6 cs ex∧pl.length≤1000000000)∧∀ (s:List UInt8) (e:Int),Lf ((s,e)=encRM mk ty seq ti ss cs ex pad pl)→K (.ret (.tup [.str s,.int .i64 e])) H
 | _,_,_=>False
def bDj:Con
 | [.agg [.bool mk,.int .i64 ty,.int .i64 seq,.int .i64 ti,.int .i64 ss,.lst _ c5 n5 1,.lst _ c6 n6 2,.int .i64 pad,.str pl]],H,K=>∃ (cs:List Int) (ex:List Xt),Lf (medK c5 n5 c6 n6 cs ex∧pl.length≤1000000000)∧∀ (s:List UInt8) (e:Int),Lf ((s,e)=headRM mk ty seq ti ss cs ex pad pl)→K (.ret (.tup [.str s,.int .i64 e])) H
 | _,_,_=>False
theorem encode_ok:aF Tryz.prog gl0 31 aLg:=by
 refine aP (enters_of (by kernel_rfl)) aM fun args H Q hc => ?_
 unfold aLg at hc
 split at hc
 ·rename_i mk ty seq ti ss tc c5 n5 tx c6 n6 pad pl
  obtain ⟨cs,ex,⟨⟨rfl,rfl,rfl,rfl,k1,k2,hd⟩,hpl⟩,hq⟩:=hc
  obtain ⟨hv,hb',h⟩:=aJf mk ty seq ti ss tc cs tx ex pad pl ⟨rfl,rfl,rfl,rfl,k1,k2,hd⟩ hpl (fun o H' _=>H'=[]∧(∃v,o=.ret v∧old 0 v=true∧noY v=true)∧Q o H)
   (fun hr=>⟨rfl,⟨_,rfl,rfl,rfl⟩,hq _ _ ⟨by rw[encRM,if_pos hr]⟩⟩)
   (fun hr ht=>⟨rfl,⟨_,rfl,rfl,rfl⟩,hq _ _ ⟨by rw[encRM,if_neg (by rw[hr];simp),if_pos ht]⟩⟩)
   (fun hr ht=>⟨rfl,⟨_,rfl,rfl,rfl⟩,hq _ _ ⟨by rw[encRM,if_neg (by rw[hr];simp),if_neg (by omega)]⟩⟩)
  refine ⟨rfl,rfl,_,1000, ?_,rfl,h⟩
  exact ⟨dQ,dP,bY,vV⟩
 ·exact hc.elim
theorem head_ok:aF Tryz.prog gl0 34 bDj:=by
 refine aP (enters_of (by kernel_rfl)) aM fun args H Q hc => ?_
 unfold bDj at hc
 split at hc
 ·rename_i mk ty seq ti ss tc c5 n5 tx c6 n6 pad pl
  obtain ⟨cs,ex,⟨⟨rfl,rfl,rfl,rfl,k1,k2,hd⟩,hpl⟩,hq⟩:=hc
  obtain ⟨hv,hb',h⟩:=aDg mk ty seq ti ss tc cs tx ex pad pl ⟨rfl,rfl,rfl,rfl,k1,k2,hd⟩ hpl (fun o H' _=>H'=[]∧(∃v,o=.ret v∧old 0 v=true∧noY v=true)∧Q o H)
   (fun hr=>⟨rfl,⟨_,rfl,rfl,rfl⟩,hq _ _ ⟨by rw[headRM,if_pos hr]⟩⟩)
   (fun hr ht=>⟨rfl,⟨_,rfl,rfl,rfl⟩,hq _ _ ⟨by rw[headRM,if_neg (by rw[hr];simp),if_pos ht]⟩⟩)
   (fun hr ht=>⟨rfl,⟨_,rfl,rfl,rfl⟩,hq _ _ ⟨by rw[headRM,if_neg (by rw[hr];simp),if_neg (by omega)]⟩⟩)
  refine ⟨rfl,rfl,_,1000, ?_,rfl,h⟩
  exact ⟨dQ,dP,bY,vV⟩
 ·exact hc.elim
end Go.Proofs.YtnhechnaemmdiaaGreatDoor.Md

set_option linter.unusedSectionVars false
namespace Go.Proofs.YtnhechnaemmdiaaGreatDoor
open Go.RowKit
set_option maxRecDepth 1000000

noncomputable def aO6 (hv:Nat→Option Pa) (hb:Nat→Option Bool) (k n:Int) (Q:Out→List Blk→Gh→Prop):Prop:=
 aY (e04 sm0 (fun _=>none) hv hb) (wpx (e04 sm0 (fun _=>none) hv hb) 1000) 93 [.int .i64 n,.int .i64 k] [] {} Q
noncomputable def zU (hv:Nat→Option Pa) (hb:Nat→Option Bool) (n:Int) (Q:Out→List Blk→Gh→Prop):Prop:=aO6 hv hb 4 n Q
theorem bF4 (n:Int) (Q:Out→List Blk→Gh→Prop):zU (bD [(380950,.int .i64),(380951,.int .u8),(380955,.str)]) (bE []) n Q=(
(∃n_0:Int,(((AV.int .i64 (Int.fdiv n (16777216:Int)))=(AV.int .i64 n_0)) ∧
 (∃n_1:Int,(((AV.int .u8 (IntKind.wrap .u8 n_0))=(AV.int .u8 n_1)) ∧
 (∃n_2:Int,(((AV.int .i64 (Int.fdiv n (65536:Int)))=(AV.int .i64 n_2)) ∧
 (∃n_3:Int,(((AV.int .u8 (IntKind.wrap .u8 n_2))=(AV.int .u8 n_3)) ∧
 (∃n_4:Int,(((AV.int .i64 (Int.fdiv n (256:Int)))=(AV.int .i64 n_4)) ∧
 (∃n_5:Int,(((AV.int .u8 (IntKind.wrap .u8 n_4))=(AV.int .u8 n_5)) ∧
 (∃n_6:Int,(((AV.int .i64 (Int.fdiv n (1:Int)))=(AV.int .i64 n_6)) ∧
 (∃n_7:Int,(((AV.int .u8 (IntKind.wrap .u8 n_6))=(AV.int .u8 n_7)) ∧
 (∃s_8:(List UInt8),(((AV.str ((toB (AV.int .u8 n_1))::((toB (AV.int .u8 n_3))::((toB (AV.int .u8 n_5))::((toB (AV.int .u8 n_7))::[])))))=(AV.str s_8)) ∧
 (Q (Out.ret (AV.str s_8)) [] (Gh.mk (0:Nat) (0:Nat) []))))))))))))))))))))):=by kernel_rfl

noncomputable def yR (hv:Nat→Option Pa) (hb:Nat→Option Bool) (n:Int) (Q:Out→List Blk→Gh→Prop):Prop:=aO6 hv hb 8 n Q
theorem bF6 (n:Int) (Q:Out→List Blk→Gh→Prop):yR (bD [(380950,.int .i64),(380951,.int .u8),(380955,.str)]) (bE []) n Q=(exI .i64 (Int.fdiv n 72057594037927936) (fun n_0=>exW .u8 n_0 (fun n_1=>exI .i64 (Int.fdiv n 281474976710656) (fun n_2=>exW .u8 n_2 (fun n_3=>exI .i64 (Int.fdiv n 1099511627776) (fun n_4=>exW .u8 n_4 (fun n_5=>exI .i64 (Int.fdiv n 4294967296) (fun n_6=>exW .u8 n_6 (fun n_7=>exI .i64 (Int.fdiv n 16777216) (fun n_8=>exW .u8 n_8 (fun n_9=>exI .i64 (Int.fdiv n 65536) (fun n_10=>exW .u8 n_10 (fun n_11=>exI .i64 (Int.fdiv n 256) (fun n_12=>exW .u8 n_12 (fun n_13=>exI .i64 (Int.fdiv n 1) (fun n_14=>exW .u8 n_14 (fun n_15=>exS (.str [toB (.int .u8 n_1),toB (.int .u8 n_3),toB (.int .u8 n_5),toB (.int .u8 n_7),toB (.int .u8 n_9),toB (.int .u8 n_11),toB (.int .u8 n_13),toB (.int .u8 n_15)]) (fun s_16=>Q (.ret (.str s_16)) [] {})))))))))))))))))):=by kernel_rfl

end Go.Proofs.YtnhechnaemmdiaaGreatDoor

namespace Go.Proofs.YtnhechnaemmdiaaGreatDoor.Md
open Go.RowKit
set_option maxRecDepth 1000000

def aU:List AV:=[.bool false,.int .i64 0,.int .i64 0,.int .i64 0,.int .i64 0,.nils,.nils,.int .i64 0,.str []]
theorem iminI {x:Int} {a b:Nat} (hx:x=(a:Int)) {K:Int→Prop} (h:K ((min a b:Nat):Int)):∃n:Int,AV.int .i64 (vH x (b:Int))=AV.int .i64 n∧K n:=by
 subst hx
 refine ⟨_, ?_,h⟩
 congr 1
 unfold vH
 split<;>omega
theorem wP (a b:List Xt):cellsXM (a++b)=cellsXM a++cellsXM b:=by
 induction a with
 | nil=>rfl
 | cons x a ih=>simp only[bPh,cellsXM,ih]
def aAm:AV→Bool
 | .int _ _=>true | .bool _=>true | .str _=>true | .nils=>true | .nilp=>true | _=>false
theorem mU (τ:Nat) (H:List Blk) (d:Nat):∀l:List AV,(∀x∈l,aAm x=true)→l.map (fun x=>bW τ H (d+1) x)=l
 | [],_=>rfl
 | x::l,h=>by
  have hx:bW τ H (d+1) x=x:=by
   have:=h x (by simp)
   cases x<;>first | rfl | simp[aAm] at this
  rw[bO2,mU τ H d l fun y hy=>h y (by simp[hy]),hx]
theorem frz_sl {τ:Nat} {H:List Blk} {d id tot len sz:Nat} {k:BK} {lf:Bool} {cs:List AV} (hb:H[id]? = some ⟨k,lf,cs⟩) (h1:cs.length=tot) (h2:len*sz=tot) (hk:k≠.ro) (hp:∀x∈cs,aAm x=true) :
  bW τ H (d+2) (.sl id tot 0 len sz)=.lst τ cs len sz:=by
 have c1:cs.length.beq tot=true:=bAi h1
 have c2:(0+len*sz).ble tot=true:=bHq (by omega)
 have c3:(k !=.ro)=true:=by simpa using hk
 rw[bW]
 simp only[hb,c1,c2,c3,bOh,bO3,bOv]
 rw[bOk (by omega),mU τ H d cs hp]
theorem aR2 (l:List Int):∀x∈aB l,aAm x=true:=by
 intro x hx
 simp only[aB,bPs] at hx
 obtain ⟨n,_,rfl⟩:=hx
 rfl
theorem plain_cX:∀ (l:List Xt),∀x∈cellsXM l,aAm x=true
 | [],x,h=>by simp[cellsXM] at h
 | y::l,x,h=>by
  rw[cellsXM] at h
  rcases bOr.1 h with rfl | h
  ·rfl
  rcases bOr.1 h with rfl | h
  ·rfl
  ·exact plain_cX l x h
def aggK:AV→AV
 | .agg l=>.agg (nlL [0,0,0,0,0,1,2] l)
 | v=>v
theorem wk_aggK (v:AV):wk v (aggK v):=by
 cases v with
 | agg l=>exact sP (kZ _ l)
 | _=>exact eO _
end Go.Proofs.YtnhechnaemmdiaaGreatDoor.Md
