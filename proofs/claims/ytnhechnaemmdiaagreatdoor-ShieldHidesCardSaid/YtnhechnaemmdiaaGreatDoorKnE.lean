/-
  Chapter 23: Encode, Header.
-/
import Derived.Test.YtnhechnaemmdiaaGreatDoorKnD
import Derived.Test.YtnhechnaemmdiaaGreatDoorK25NA
set_option linter.unusedSimpArgs false
set_option linter.unusedVariables false
namespace Go.Proofs.YtnhechnaemmdiaaGreatDoor.Md
open Go.RowKit
set_option maxRecDepth 1000000

noncomputable def wV (hv:Nat→Option Pa) (hb:Nat→Option Bool) (bs:List UInt8) (n:Int) (Q:Out→List Blk→Gh→Prop):Prop:=
 bC (e23 sm0 (fun _=>none) hv hb) (wpx (e23 sm0 (fun _=>none) hv hb) 1000) 89 [.sl 0 bs.length 0 bs.length 1,.int .i64 1,.sl 1 1 0 1 1] [⟨.grow,true,ofBytes bs⟩,⟨.ro,true,[.int .i64 n]⟩] {} Q
theorem bF2 (bs:List UInt8) (n:Int) (Q:Out→List Blk→Gh→Prop):wV (bH [(364570,.int .i64),(364571,.int .u8)]) (bI []) bs n Q=(
(∃n_0:Int,(((AV.int .i64 (Int.fdiv n (1:Int)))=(AV.int .i64 n_0)) ∧
 (∃n_1:Int,(((AV.int .u8 (IntKind.wrap .u8 n_0))=(AV.int .u8 n_1)) ∧
 (bif (((((Nat.beq (List.length (ofBytes bs)) (List.length bs))&&true)&&(Nat.beq ((0:Nat)+((List.length bs)*(1:Nat))) (List.length bs)))&&(Nat.ble ((List.length bs)+(1:Nat)) (1099511627776:Nat)))&&(Nat.ble (((List.length bs)+(1:Nat))*(1:Nat)) (1099511627776:Nat))) then (Q (Out.ret (AV.sl (0:Nat) ((List.length bs)+(1:Nat)) (0:Nat) ((List.length bs)+(1:Nat)) (1:Nat))) ((Blk.mk BK.grow true ((ofBytes bs)++((AV.int .u8 n_1)::[])))::((Blk.mk BK.ro true ((AV.int .i64 n)::[]))::[])) (Gh.mk (0:Nat) (0:Nat) []))
else False)))))):=by kernel_rfl

theorem aRv (bs:List UInt8) (n:Int) (hbs:bs.length≤1000000) (Q:Out→List Blk→Gh→Prop) (hq:Q (.ret (.sl 0 (bs.length+1) 0 (bs.length+1) 1)) [⟨.grow,true,ofBytes (bs++putM 1 [n])⟩,⟨.ro,true,[.int .i64 n]⟩] {}):∃hv hb,wV hv hb bs n Q:=by
 obtain ⟨hv,hb',e⟩:∃hv hb,wV hv hb bs n Q=_:=⟨_,_,bF2 bs n Q⟩
 refine ⟨hv,hb',e.mpr ?_⟩
 clear e
 have h1:Int.fdiv n 1=n:=by rw[Int.fdiv_eq_ediv_of_nonneg _ (by decide),Int.ediv_one]
 have h2:IntKind.wrap .u8 n=((octM n 0).toNat:Int):=by
  have:=bE4 n 0 (by omega) 0 (by omega)
  rw[show min (Int.toNat 0) 64=0 from rfl,Int.pow_zero,h1] at this
  exact this
 refine ⟨_,rfl,_,by rw[h1,h2],ckI (by simp[aH];omega) ?_⟩
 rw[rA]
 exact hq
def aYy:Con
 | [.sl id tot 0 len 1,.int .i64 1,.sl id2 1 0 1 1],H,K=>∃ (bs:List UInt8) (n:Int),Lf (H[id]? = some ⟨.grow,true,ofBytes bs⟩∧tot=bs.length∧len=bs.length∧bs.length≤1000000∧H[id2]? = some ⟨.exact,true,[.int .i64 n]⟩)∧K (.ret (.sl id (bs.length+1) 0 (bs.length+1) 1)) (H.set id ⟨.grow,true,ofBytes (bs++putM 1 [n])⟩)
 | _,_,_=>False
theorem put1_ok:aG Tryz.prog gl0 89 aYy:=by
 refine jS (enters_of (by kernel_rfl)) aQ fun args H Q hc => ?_
 unfold aYy at hc
 split at hc
 ·rename_i id tot len id2
  obtain ⟨bs,n,⟨h1,rfl,rfl,h3,h4⟩,hq⟩:=hc
  have hne:id≠id2:=fun e=>by subst e;rw[h1] at h4;cases h4
  have hl:id<H.length:=(List.getElem?_eq_some_iff.1 h1).1
  have hl2:id2<H.length:=(List.getElem?_eq_some_iff.1 h4).1
  obtain ⟨hv,hb',h⟩:=aRv bs n h3 (fun o H' _=>o=.ret (.sl 0 (bs.length+1) 0 (bs.length+1) 1)∧H'=[⟨.grow,true,ofBytes (bs++putM 1 [n])⟩,⟨.ro,true,[.int .i64 n]⟩]) ⟨rfl,rfl⟩
  refine ⟨_,1000,fun j=>if j=0 then id else id2,[.sl 0 bs.length 0 bs.length 1,.int .i64 1,.sl 1 1 0 1 1],[⟨.grow,true,ofBytes bs⟩,⟨.ro,true,[.int .i64 n]⟩],_, ?_,rfl,rfl,rfl,rfl,⟨fun j b0 hb => ?_,fun j j' b0 hb hk hj' he => ?_,fun j b0 hb hk c hc => ?_⟩,h, ?_⟩
  ·exact ⟨dZ,dY,cZ,cB⟩
  ·cases j with
   | zero=>
    simp only[List.getElem?_cons_zero,Option.some.injEq] at hb
    subst hb
    exact ⟨hl,aK _ _,iU _,fun _=>aK 0 _,_,h1,(bL _ _ (aK 0 _) (iU _)).symm,.inr rfl⟩
   | succ j=>cases j with
    | zero=>
     simp only[List.getElem?_cons_succ,List.getElem?_cons_zero,Option.some.injEq] at hb
     subst hb
     exact ⟨hl2,rfl,rfl,fun _=>rfl,_,h4,rfl,.inl rfl⟩
    | succ j=>simp at hb
  ·cases j with
   | zero=>
    simp at hj'
    have:j'=0∨j'=1:=by omega
    rcases this with rfl | rfl
    ·rfl
    ·exact absurd he hne
   | succ j=>cases j with
    | zero=>simp at hb;subst hb;exact absurd rfl hk
    | succ j=>simp at hb
  ·cases j with
   | zero=>simp at hb;subst hb;cases hk
   | succ j=>cases j with
    | zero=>simp at hb;subst hb;simp at hc
    | succ j=>simp at hb
  ·rintro o H0' g' ⟨rfl,rfl⟩
   refine ⟨_,⟨by simp,fun j b0 hb hk => ?_,fun j b0 hb hk => ?_,fun j b0 hj hb => ?_,by simp,fun k hk hn => ?_,fun j b hb hk => ?_⟩,hq⟩
   ·cases j with
    | zero=>simp at hb;subst hb;cases hk
    | succ j=>cases j with
     | zero=>simp at hb;subst hb;exact ⟨_,rfl,rfl,rfl⟩
     | succ j=>simp at hb
   ·cases j with
    | zero=>simp at hb;subst hb;exact ⟨_,rfl,rfl⟩
    | succ j=>cases j with
     | zero=>simp at hb;subst hb;exact absurd rfl hk
     | succ j=>simp at hb
   ·simp at hj
    match j,hb with
    | 0,_=>omega
    | 1,_=>omega
    | j+2,hb=>simp at hb
   ·have:=hn 0 _ rfl (by simp)
    rw[List.getElem?_set_ne (by simpa using this)]
   ·cases j with
    | zero=>
     simp only[List.getElem?_cons_zero,Option.some.injEq] at hb
     subst hb
     show (H.set id _)[id]? = some (aL8 _ _)
     rw[List.getElem?_set_self hl]
     simp only[aL8,bL _ _ (aK 0 _) (iU _)]
    | succ j=>cases j with
     | zero=>simp at hb;subst hb;exact absurd rfl hk
     | succ j=>simp at hb
 ·exact hc.elim
def bBc:Con:=fun args H K=>match args with
 | [.sl _ _ _ _ _,.int _ _,.sl _ _ _ _ _]=>aYy args H K
 | _=>bJ8 args H K
theorem aYw:aG Tryz.prog gl0 89 bBc:=⟨put1_ok.1,fun args H Q h=>by
 unfold bBc at h
 split at h
 ·exact put1_ok.2 _ H Q h
 ·exact put_raw.2 _ H Q h⟩
def smI:SM:=eY [(88,bA7),(89,bBc)]
theorem vO:∀f g,smI f=some g→aG Tryz.prog gl0 f g:=bK _ (by simp only[List.mem_cons,List.not_mem_nil,or_false,forall_eq_or_imp,forall_eq];exact ⟨bCf,aYw⟩)
noncomputable def tH (hv:Nat→Option Pa) (hb:Nat→Option Bool) (mk:Bool) (ty seq ti ss:Int) (tc:Nat) (cs:List Int) (tx:Nat) (ex:List Xt) (pad:Int) (pl:List UInt8) (Q:Out→List Blk→Gh→Prop):Prop:=
 bC (e23 smI (fun _=>none) hv hb) (wpx (e23 smI (fun _=>none) hv hb) 1000) 34 [.agg (iY mk ty seq ti ss tc cs tx ex pad pl)] [] {} Q
abbrev aT4 (b_2:List UInt8):Nat:=(ofBytes b_2).length
abbrev bJv (b_2:List UInt8) (Q:Out→List Blk→Gh→Prop):Prop:=ckQ (Nat.beq (aT4 b_2) b_2.length&&Nat.ble (0+b_2.length) b_2.length&&true&&gH (((ofBytes b_2).drop 0).take b_2.length)) (exS (.str (List.map toB (((ofBytes b_2).drop 0).take b_2.length))) (fun s_3=>Q (.ret (.tup [.str s_3,.int .i64 0])) [] {}))
theorem bHe (mk:Bool) (ty:Int) (seq:Int) (ti:Int) (ss:Int) (tc:Nat) (cs:List Int) (tx:Nat) (ex:List Xt) (pad:Int) (pl:List UInt8) (Q:Out→List Blk→Gh→Prop):tH (bH [(139276,.str)]) (bI []) mk ty seq ti ss tc cs tx ex pad pl Q=(∃cs_0:List Int,∃ex_1:List Xt,Lf (medK (aC cs) cs.length (cellsXM ex) ex.length cs_0 ex_1∧pl.length≤1000000000)∧(Lf (rightM ty seq ti ss cs_0 ex_1 pad=false)→exS (.str []) (fun s_2=>Q (.ret (.tup [.str s_2,.int .i64 230])) [] {}))∧(Lf (rightM ty seq ti ss cs_0 ex_1 pad=true∧1200<totalM mk ty seq ti ss cs_0 ex_1 pad pl)→exS (.str []) (fun s_2=>Q (.ret (.tup [.str s_2,.int .i64 3])) [] {}))∧∀b_2:List UInt8,Lf (rightM ty seq ti ss cs_0 ex_1 pad=true∧totalM mk ty seq ti ss cs_0 ex_1 pad pl≤1200∧b_2=headM mk ty seq ti ss cs_0 ex_1 pad)→bJv b_2 Q):=by kernel_rfl

noncomputable def tT (hv:Nat→Option Pa) (hb:Nat→Option Bool) (mk:Bool) (ty seq ti ss:Int) (tc:Nat) (cs:List Int) (tx:Nat) (ex:List Xt) (pad:Int) (pl:List UInt8) (Q:Out→List Blk→Gh→Prop):Prop:=
 bC (e23 smI (fun _=>none) hv hb) (wpx (e23 smI (fun _=>none) hv hb) 1000) 31 [.agg (iY mk ty seq ti ss tc cs tx ex pad pl)] [] {} Q
abbrev bEc (b_2:List UInt8):Bool:=Nat.beq (aT4 b_2) b_2.length
abbrev bLj (n_3:Int):Bool:=decide (0≤n_3)&&decide (n_3≤1099511627776)&&fJ (List.replicate n_3.toNat [AV.int .u8 0]).flatten&&true&&Nat.ble (n_3.toNat*1) 1099511627776
abbrev aUd (pad:Int):Bool:=dF [.int .i64 pad] [.int .i64 pad]
abbrev bC2 (b_2:List UInt8):Blk:=Blk.mk BK.grow true (ofBytes b_2)
abbrev aIx (pad:Int):Blk:=Blk.mk BK.exact true [.int .i64 pad]
abbrev bGk (bs_4:List UInt8) (n_5:Int) (Q:Out→List Blk→Gh→Prop):Prop:=ckQ (Nat.beq (ofBytes (bs_4++putM 1 [n_5])).length (bs_4.length+1)&&Nat.ble (0+(bs_4.length+1)) (bs_4.length+1)&&true&&gH (((ofBytes (bs_4++putM 1 [n_5])).drop 0).take (bs_4.length+1))) (exS (.str (List.map toB (((ofBytes (bs_4++putM 1 [n_5])).drop 0).take (bs_4.length+1)))) (fun s_6=>Q (.ret (.tup [.str s_6,.int .i64 0])) [] {}))
abbrev bIm (n_3:Int):Bool:=aR 0 (List.replicate n_3.toNat [AV.int .u8 0]).flatten
abbrev tN (b_2 pl:List UInt8):Nat:=b_2.length+pl.length
abbrev bKr (b_2 pl:List UInt8):Bool:=Nat.beq (ofBytes b_2++ofBytes pl).length (b_2.length+(ofBytes pl).length)
abbrev aDq (b_2 pl:List UInt8):List AV:=ofBytes b_2++ofBytes pl
abbrev bH5 (b_2 pl:List UInt8):Nat:=b_2.length+(ofBytes pl).length
theorem bEf (mk:Bool) (ty:Int) (seq:Int) (ti:Int) (ss:Int) (tc:Nat) (cs:List Int) (tx:Nat) (ex:List Xt) (pad:Int) (pl:List UInt8) (Q:Out→List Blk→Gh→Prop):tT (bH [(127000,.int .i64),(127007,
 .str)]) (bI []) mk ty seq ti ss tc cs tx ex pad pl Q=(∃cs_0:List Int,∃ex_1:List Xt,Lf (medK (aC cs) cs.length (cellsXM ex) ex.length cs_0 ex_1∧pl.length≤1000000000)∧(Lf (rightM ty seq ti ss cs_0 ex_1 pad=false)→Q
 (.ret (.tup [.str [],.int .i64 230])) [] {})∧(Lf (rightM ty seq ti ss cs_0 ex_1 pad=true∧1200<totalM mk ty seq ti ss cs_0 ex_1 pad pl)→Q (.ret (.tup [.str [],.int .i64 3])) [] {})∧∀b_2:List UInt8,Lf (rightM ty seq ti ss
 cs_0 ex_1 pad=true∧totalM mk ty seq ti ss cs_0 ex_1 pad pl≤1200∧b_2=headM mk ty seq ti ss cs_0 ex_1 pad)→ckQ (fJ (ofBytes pl)&&true&&Nat.ble (pl.length*1) 1099511627776) (bif Nat.beq pl.length 0 then ckQ (Nat.beq
 pl.length 0) (ckQ (bEc b_2&&true) (bif decide (pad>0) then exW .i64 (pad-1) (fun n_3=>ckQ (bLj n_3) (bif decide (n_3=0) then ckQ (Nat.beq n_3.toNat 0) (ckQ (bEc b_2&&true) (ckQ (aUd pad) (ckQ (aUd pad&&true) (∃bs_4 :
 List UInt8,∃n_5:Int,Lf (GetElem?.getElem? [Blk.mk BK.exact true (iY mk ty seq ti ss tc cs tx ex pad pl),bC2 b_2,aIx pad] 1=Option.some (bC2 bs_4)∧b_2.length=bs_4.length∧b_2.length=bs_4.length∧bs_4.length≤1000000 ∧
 GetElem?.getElem? [Blk.mk BK.exact true (iY mk ty seq ti ss tc cs tx ex pad pl),bC2 b_2,aIx pad] 2=Option.some (aIx n_5))∧bGk bs_4 n_5 Q)))) else ckQ (Nat.blt 0 n_3.toNat) (ckQ (bEc b_2&&true&&Nat.beq (0+b_2.length*1)
 b_2.length&&Nat.ble (b_2.length+n_3.toNat) 1099511627776&&Nat.ble ((b_2.length+n_3.toNat)*1) 1099511627776) (ckQ (aUd pad) (ckQ (aUd pad&&true) (∃bs_4:List UInt8,∃n_5:Int,Lf (GetElem?.getElem? [Blk.mk BK.exact true
 (iY mk ty seq ti ss tc cs tx ex pad pl),Blk.mk BK.grow (bIm n_3) (ofBytes b_2++(List.replicate n_3.toNat [AV.int .u8 0]).flatten),aIx pad] 1=Option.some (bC2 bs_4)∧b_2.length+(List.replicate n_3.toNat [AV.int .u8
 0]).flatten.length=bs_4.length∧b_2.length+n_3.toNat=bs_4.length∧bs_4.length≤1000000∧GetElem?.getElem? [Blk.mk BK.exact true (iY mk ty seq ti ss tc cs tx ex pad pl),Blk.mk BK.grow (bIm n_3) (ofBytes b_2++(List.replicate
 n_3.toNat [AV.int .u8 0]).flatten),aIx pad] 2=Option.some (aIx n_5))∧bGk bs_4 n_5 Q)))))) else bJv b_2 Q)) else ckQ (Nat.blt 0 pl.length) (ckQ (bEc b_2&&true&&Nat.beq (0+b_2.length*1) b_2.length&&Nat.ble (tN b_2 pl)
 1099511627776&&Nat.ble (tN b_2 pl*1) 1099511627776) (bif decide (pad>0) then exW .i64 (pad-1) (fun n_3=>ckQ (bLj n_3) (bif decide (n_3=0) then ckQ (Nat.beq n_3.toNat 0) (ckQ (bKr b_2 pl&&true) (ckQ (aUd pad) (ckQ (aUd
 pad&&true) (∃bs_4:List UInt8,∃n_5:Int,Lf (GetElem?.getElem? [Blk.mk BK.exact true (iY mk ty seq ti ss tc cs tx ex pad pl),Blk.mk BK.grow (aR 0 (ofBytes pl)) (aDq b_2 pl),aIx pad] 1=Option.some (bC2 bs_4)∧bH5 b_2 pl
 = bs_4.length∧tN b_2 pl=bs_4.length∧bs_4.length≤1000000∧GetElem?.getElem? [Blk.mk BK.exact true (iY mk ty seq ti ss tc cs tx ex pad pl),Blk.mk BK.grow (aR 0 (ofBytes pl)) (aDq b_2 pl),aIx pad] 2=Option.some (aIx
 n_5))∧bGk bs_4 n_5 Q)))) else ckQ (Nat.blt 0 n_3.toNat) (ckQ (bKr b_2 pl&&true&&Nat.beq (0+tN b_2 pl*1) (bH5 b_2 pl)&&Nat.ble (tN b_2 pl+n_3.toNat) 1099511627776&&Nat.ble ((tN b_2 pl+n_3.toNat)*1)
 1099511627776) (ckQ (aUd pad) (ckQ (aUd pad&&true) (∃bs_4:List UInt8,∃n_5:Int,Lf (GetElem?.getElem? [Blk.mk BK.exact true (iY mk ty seq ti ss tc cs tx ex pad pl),Blk.mk BK.grow (aR 0 (ofBytes pl)&&bIm n_3) (aDq b_2 pl
 ++ (List.replicate n_3.toNat [AV.int .u8 0]).flatten),aIx pad] 1=Option.some (bC2 bs_4)∧bH5 b_2 pl+(List.replicate n_3.toNat [AV.int .u8 0]).flatten.length=bs_4.length∧tN b_2 pl+n_3.toNat=bs_4.length∧bs_4.length ≤
 1000000∧GetElem?.getElem? [Blk.mk BK.exact true (iY mk ty seq ti ss tc cs tx ex pad pl),Blk.mk BK.grow (aR 0 (ofBytes pl)&&bIm n_3) (aDq b_2 pl++(List.replicate n_3.toNat [AV.int .u8 0]).flatten),aIx pad] 2=Option.some
 (aIx n_5))∧bGk bs_4 n_5 Q)))))) else ckQ (bKr b_2 pl&&Nat.ble (0+tN b_2 pl) (bH5 b_2 pl)&&true&&gH (((aDq b_2 pl).drop 0).take (tN b_2 pl))) (exS (.str (List.map toB (((aDq b_2 pl).drop 0).take (tN b_2 pl))))
 (fun s_3=>Q (.ret (.tup [.str s_3,.int .i64 0])) [] {})))))):=by kernel_rfl

theorem kG (l:List UInt8):gH (ofBytes l)=true:=by
 induction l with
 | nil=>rfl
 | cons x l ih=>simpa [ofBytes,gH] using ih
theorem bBk {X:List UInt8} {c:List AV} {n1 n2:Nat} (hc:c=ofBytes X) (h1:n1=X.length) (h2:n2=X.length) {K:List UInt8→Prop} (h:K X):bif ((((Nat.beq c.length n1)&&(Nat.ble (0+n2) n1))&&true)&&gH (List.take n2 (List.drop 0 c))) then (∃s:List UInt8,AV.str (List.map toB (List.take n2 (List.drop 0 c)))=AV.str s∧K s) else False:=by
 subst hc h1 h2
 have e:List.take X.length (List.drop 0 (ofBytes X))=ofBytes X:=by rw[List.drop_zero,List.take_of_length_le (by rw[aH];omega)]
 rw[e,kG,mX,aH]
 refine ckI ?_ ⟨_,rfl,h⟩
 simp
def padM (pad:Int):List UInt8:=if 0<pad then List.replicate (pad-1).toNat 0++putM 1 [pad] else []
def encM (mk:Bool) (ty seq ti ss:Int) (cs:List Int) (ex:List Xt) (pad:Int) (pl:List UInt8):List UInt8:=headM mk ty seq ti ss cs ex pad++pl++padM pad
theorem aE8 (mk:Bool) (ty seq ti ss:Int) (tc:Nat) (cs:List Int) (tx:Nat) (ex:List Xt) (pad:Int) (pl:List UInt8) (hk:medK (aC cs) cs.length (cellsXM ex) ex.length cs ex) (hpl:pl.length≤1000000000) (Q:Out→List Blk→Gh→Prop)
  (h1:rightM ty seq ti ss cs ex pad=false→Q (.ret (.tup [.str [],.int .i64 230])) [] {})
  (h2:rightM ty seq ti ss cs ex pad=true→1200<totalM mk ty seq ti ss cs ex pad pl→Q (.ret (.tup [.str [],.int .i64 3])) [] {})
  (h3:rightM ty seq ti ss cs ex pad=true→totalM mk ty seq ti ss cs ex pad pl≤1200→Q (.ret (.tup [.str (headM mk ty seq ti ss cs ex pad),.int .i64 0])) [] {}):∃hv hb,tH hv hb mk ty seq ti ss tc cs tx ex pad pl Q:=by
 obtain ⟨hv,hb',e⟩:∃hv hb,tH hv hb mk ty seq ti ss tc cs tx ex pad pl Q=_:=⟨_,_,bHe mk ty seq ti ss tc cs tx ex pad pl Q⟩
 refine ⟨hv,hb',e.mpr ?_⟩
 delta aT4 bJv
 clear e
 refine ⟨cs,ex,⟨hk,hpl⟩,fun ⟨hr⟩=>⟨_,rfl,h1 hr⟩,fun ⟨hr,ht⟩=>⟨_,rfl,h2 hr ht⟩,fun b ⟨hr,ht,hb⟩=>bBk rfl rfl rfl (by rw[hb];exact h3 hr ht)⟩
theorem aJs (mk:Bool) (ty seq ti ss:Int) (tc:Nat) (cs:List Int) (tx:Nat) (ex:List Xt) (pad:Int) (pl:List UInt8) (hk:medK (aC cs) cs.length (cellsXM ex) ex.length cs ex) (hpl:pl.length≤1000000000) (Q:Out→List Blk→Gh→Prop)
  (h1:rightM ty seq ti ss cs ex pad=false→Q (.ret (.tup [.str [],.int .i64 230])) [] {})
  (h2:rightM ty seq ti ss cs ex pad=true→1200<totalM mk ty seq ti ss cs ex pad pl→Q (.ret (.tup [.str [],.int .i64 3])) [] {})
  (h3:rightM ty seq ti ss cs ex pad=true→totalM mk ty seq ti ss cs ex pad pl≤1200→Q (.ret (.tup [.str (encM mk ty seq ti ss cs ex pad pl),.int .i64 0])) [] {}):∃hv hb,tT hv hb mk ty seq ti ss tc cs tx ex pad pl Q:=by
 obtain ⟨hv,hb',e⟩:∃hv hb,tT hv hb mk ty seq ti ss tc cs tx ex pad pl Q=_:=⟨_,_,bEf mk ty seq ti ss tc cs tx ex pad pl Q⟩
 refine ⟨hv,hb',e.mpr ?_⟩
 delta aT4 bEc bLj aUd bC2 aIx bGk bIm bJv tN bKr aDq bH5
 clear e
 refine ⟨cs,ex,⟨hk,hpl⟩,fun ⟨hr⟩=>h1 hr,fun ⟨hr,ht⟩=>h2 hr ht,fun b ⟨hr,ht,hb⟩ => ?_⟩
 obtain ⟨_,r2,r3,r4,r5⟩:=yI hr
 have hbl:=wQ mk ty seq ti ss cs ex pad r2 r3 r4
 rw[←hb] at hbl
 have h3:=h3 hr ht
 unfold encM at h3
 rw[←hb] at h3
 clear hb
 have ht2:pl.length≤1200:=by unfold totalM at ht;omega
 have pe:dF [.int .i64 pad] [.int .i64 pad]=true:=by simp[dF,iQ]
 refine ckI (by rw[cK];simp;omega) (nU (fun h0=>ckI (by rw[h0];rfl) (ckI (by simp[aH]) (aF (fun hp => ?_) (fun hp => ?_)))) (fun h0=>ckI (bltQ_iff.2 (by omega)) (ckI (by simp[aH];omega) (aF (fun hp => ?_) (fun hp => ?_)))))
 ·have hnil:pl=[]:=List.length_eq_zero_iff.1 h0
  subst hnil
  obtain ⟨p,rfl⟩:∃p:Nat,pad=(p:Int)+1:=⟨(pad-1).toNat,by omega⟩
  have hP:padM ((p:Int)+1)=List.replicate p 0++putM 1 [(p:Int)+1]:=by rw[padM,if_pos (by omega),show ((p:Int)+1-1).toNat=p by omega]
  rw[hP,List.append_nil] at h3
  refine aI (by omega) (by omega) ?_
  rw[show ((p:Int)+1-1)=(p:Int) by omega]
  simp only[aGg,Int.toNat_natCast,dH]
  refine ckI (by rw[cK];simp;omega) (aF (fun hz => ?_) (fun hz => ?_))
  ·obtain rfl:p=0:=by omega
   refine ckI rfl (ckI (by simp[aH]) (ckI pe (ckI (by rw[pe];rfl) ⟨b,_,⟨rfl,rfl,rfl,by omega,rfl⟩,bBk rfl (by simp only[List.length_append,put_len,List.length_cons,List.length_nil,List.length_replicate];try omega) (by simp only[List.length_append,put_len,List.length_cons,List.length_nil,List.length_replicate];try omega) (by simpa using h3)⟩)))
  ·have hlr:(List.replicate p (0:UInt8)).length=p:=List.length_replicate
   refine ckI (bltQ_iff.2 (by omega)) (ckI (by simp[aH];omega) (ckI pe (ckI (by rw[pe];rfl) ⟨b++List.replicate p 0,_,⟨by rw[aK];rfl,by simp[aH],by simp,by simp;omega,rfl⟩,bBk rfl (by simp only[List.length_append,put_len,List.length_cons,List.length_nil,List.length_replicate];try omega) (by simp only[List.length_append,put_len,List.length_cons,List.length_nil,List.length_replicate];try omega) (by simpa using h3)⟩)))
 ·have hnil:pl=[]:=List.length_eq_zero_iff.1 h0
  subst hnil
  have hP:padM pad=[]:=by rw[padM,if_neg (by omega)]
  rw[hP] at h3
  exact bBk rfl rfl rfl (by simpa using h3)
 ·obtain ⟨p,rfl⟩:∃p:Nat,pad=(p:Int)+1:=⟨(pad-1).toNat,by omega⟩
  have hP:padM ((p:Int)+1)=List.replicate p 0++putM 1 [(p:Int)+1]:=by rw[padM,if_pos (by omega),show ((p:Int)+1-1).toNat=p by omega]
  rw[hP] at h3
  refine aI (by omega) (by omega) ?_
  rw[show ((p:Int)+1-1)=(p:Int) by omega]
  simp only[aGg,Int.toNat_natCast,dH]
  refine ckI (by rw[cK];simp;omega) (aF (fun hz => ?_) (fun hz => ?_))
  ·obtain rfl:p=0:=by omega
   refine ckI rfl (ckI (by simp[aH]) (ckI pe (ckI (by rw[pe];rfl) ⟨b++pl,_,⟨by rw[aK];rfl,by simp[aH],by simp,by simp;omega,rfl⟩,bBk rfl (by simp only[List.length_append,put_len,List.length_cons,List.length_nil,List.length_replicate];try omega) (by simp only[List.length_append,put_len,List.length_cons,List.length_nil,List.length_replicate];try omega) (by simpa using h3)⟩)))
  ·refine ckI (bltQ_iff.2 (by omega)) (ckI (by simp[aH];omega) (ckI pe (ckI (by rw[pe];rfl) ⟨b++pl++List.replicate p 0,_,⟨by rw[aK,aK];rfl,by simp[aH,Nat.add_assoc],by simp[Nat.add_assoc],by simp;omega,rfl⟩,bBk rfl (by simp only[List.length_append,put_len,List.length_cons,List.length_nil,List.length_replicate];try omega) (by simp only[List.length_append,put_len,List.length_cons,List.length_nil,List.length_replicate];try omega) (by simpa using h3)⟩)))
 ·have hP:padM pad=[]:=by rw[padM,if_neg (by omega)]
  rw[hP,List.append_nil] at h3
  exact bBk (X:=b++pl) (dH b pl) (by simp[aH]) (by simp) h3
def encRM (mk:Bool) (ty seq ti ss:Int) (cs:List Int) (ex:List Xt) (pad:Int) (pl:List UInt8):List UInt8×Int:=if rightM ty seq ti ss cs ex pad=false then ([],230) else if 1200<totalM mk ty seq ti ss cs ex pad pl then ([],3) else (encM mk ty seq ti ss cs ex pad pl,0)
def headRM (mk:Bool) (ty seq ti ss:Int) (cs:List Int) (ex:List Xt) (pad:Int) (pl:List UInt8):List UInt8×Int:=if rightM ty seq ti ss cs ex pad=false then ([],230) else if 1200<totalM mk ty seq ti ss cs ex pad pl then ([],3) else (headM mk ty seq ti ss cs ex pad,0)
def cEncode:Con
 | [.agg [.bool mk,.int .i64 ty,.int .i64 seq,.int .i64 ti,.int .i64 ss,.lst _ c5 n5 1,.lst _ c6 n6 2,.int .i64 pad,.str pl]],H,K=>∃ (cs:List Int) (ex:List Xt),Lf (medK c5 n5 c6 n6 cs ex∧pl.length≤1000000000)∧∀ (s:List UInt8) (e:Int),Lf ((s,e)=encRM mk ty seq ti ss cs ex pad pl)→K (.ret (.tup [.str s,.int .i64 e])) H
 | _,_,_=>False
def cHead:Con
 | [.agg [.bool mk,.int .i64 ty,.int .i64 seq,.int .i64 ti,.int .i64 ss,.lst _ c5 n5 1,.lst _ c6 n6 2,.int .i64 pad,.str pl]],H,K=>∃ (cs:List Int) (ex:List Xt),Lf (medK c5 n5 c6 n6 cs ex∧pl.length≤1000000000)∧∀ (s:List UInt8) (e:Int),Lf ((s,e)=headRM mk ty seq ti ss cs ex pad pl)→K (.ret (.tup [.str s,.int .i64 e])) H
 | _,_,_=>False
theorem encode_ok:aG Tryz.prog gl0 31 cEncode:=by
 refine aT (enters_of (by kernel_rfl)) aQ fun args H Q hc => ?_
 unfold cEncode at hc
 split at hc
 ·rename_i mk ty seq ti ss tc c5 n5 tx c6 n6 pad pl
  obtain ⟨cs,ex,⟨⟨rfl,rfl,rfl,rfl,k1,k2,hd⟩,hpl⟩,hq⟩:=hc
  obtain ⟨hv,hb',h⟩:=aJs mk ty seq ti ss tc cs tx ex pad pl ⟨rfl,rfl,rfl,rfl,k1,k2,hd⟩ hpl (fun o H' _=>H'=[]∧(∃v,o=.ret v∧old 0 v=true∧noY v=true)∧Q o H)
   (fun hr=>⟨rfl,⟨_,rfl,rfl,rfl⟩,hq _ _ ⟨by rw[encRM,if_pos hr]⟩⟩)
   (fun hr ht=>⟨rfl,⟨_,rfl,rfl,rfl⟩,hq _ _ ⟨by rw[encRM,if_neg (by rw[hr];simp),if_pos ht]⟩⟩)
   (fun hr ht=>⟨rfl,⟨_,rfl,rfl,rfl⟩,hq _ _ ⟨by rw[encRM,if_neg (by rw[hr];simp),if_neg (by omega)]⟩⟩)
  refine ⟨rfl,rfl,_,1000, ?_,rfl,h⟩
  exact ⟨dZ,dY,cZ,vO⟩
 ·exact hc.elim
theorem head_ok:aG Tryz.prog gl0 34 cHead:=by
 refine aT (enters_of (by kernel_rfl)) aQ fun args H Q hc => ?_
 unfold cHead at hc
 split at hc
 ·rename_i mk ty seq ti ss tc c5 n5 tx c6 n6 pad pl
  obtain ⟨cs,ex,⟨⟨rfl,rfl,rfl,rfl,k1,k2,hd⟩,hpl⟩,hq⟩:=hc
  obtain ⟨hv,hb',h⟩:=aE8 mk ty seq ti ss tc cs tx ex pad pl ⟨rfl,rfl,rfl,rfl,k1,k2,hd⟩ hpl (fun o H' _=>H'=[]∧(∃v,o=.ret v∧old 0 v=true∧noY v=true)∧Q o H)
   (fun hr=>⟨rfl,⟨_,rfl,rfl,rfl⟩,hq _ _ ⟨by rw[headRM,if_pos hr]⟩⟩)
   (fun hr ht=>⟨rfl,⟨_,rfl,rfl,rfl⟩,hq _ _ ⟨by rw[headRM,if_neg (by rw[hr];simp),if_pos ht]⟩⟩)
   (fun hr ht=>⟨rfl,⟨_,rfl,rfl,rfl⟩,hq _ _ ⟨by rw[headRM,if_neg (by rw[hr];simp),if_neg (by omega)]⟩⟩)
  refine ⟨rfl,rfl,_,1000, ?_,rfl,h⟩
  exact ⟨dZ,dY,cZ,vO⟩
 ·exact hc.elim
end Go.Proofs.YtnhechnaemmdiaaGreatDoor.Md

set_option linter.unusedSectionVars false
namespace Go.Proofs.YtnhechnaemmdiaaGreatDoor
open Go.RowKit
set_option maxRecDepth 1000000

noncomputable def aLw (hv:Nat→Option Pa) (hb:Nat→Option Bool) (k n:Int) (Q:Out→List Blk→Gh→Prop):Prop:=
 bC (e04 sm0 (fun _=>none) hv hb) (wpx (e04 sm0 (fun _=>none) hv hb) 1000) 93 [.int .i64 n,.int .i64 k] [] {} Q
noncomputable def zO (hv:Nat→Option Pa) (hb:Nat→Option Bool) (n:Int) (Q:Out→List Blk→Gh→Prop):Prop:=aLw hv hb 4 n Q
theorem bGo (n:Int) (Q:Out→List Blk→Gh→Prop):zO (bH [(380950,.int .i64),(380951,.int .u8),(380955,.str)]) (bI []) n Q=(
(∃n_0:Int,(((AV.int .i64 (Int.fdiv n (16777216:Int)))=(AV.int .i64 n_0)) ∧
 (∃n_1:Int,(((AV.int .u8 (IntKind.wrap .u8 n_0))=(AV.int .u8 n_1)) ∧
 (∃n_2:Int,(((AV.int .i64 (Int.fdiv n (65536:Int)))=(AV.int .i64 n_2)) ∧
 (∃n_3:Int,(((AV.int .u8 (IntKind.wrap .u8 n_2))=(AV.int .u8 n_3)) ∧
 (∃n_4:Int,(((AV.int .i64 (Int.fdiv n (256:Int)))=(AV.int .i64 n_4)) ∧
 (∃n_5:Int,(((AV.int .u8 (IntKind.wrap .u8 n_4))=(AV.int .u8 n_5)) ∧
 (∃n_6:Int,(((AV.int .i64 (Int.fdiv n (1:Int)))=(AV.int .i64 n_6)) ∧
 (∃n_7:Int,(((AV.int .u8 (IntKind.wrap .u8 n_6))=(AV.int .u8 n_7)) ∧
 (∃s_8:(List UInt8),(((AV.str ((toB (AV.int .u8 n_1))::((toB (AV.int .u8 n_3))::((toB (AV.int .u8 n_5))::((toB (AV.int .u8 n_7))::[])))))=(AV.str s_8)) ∧
 (Q (Out.ret (AV.str s_8)) [] (Gh.mk (0:Nat) (0:Nat) []))))))))))))))))))))):=by kernel_rfl

noncomputable def zT (hv:Nat→Option Pa) (hb:Nat→Option Bool) (n:Int) (Q:Out→List Blk→Gh→Prop):Prop:=aLw hv hb 8 n Q
theorem bH0 (n:Int) (Q:Out→List Blk→Gh→Prop):zT (bH [(380950,.int .i64),(380951,.int .u8),(380955,.str)]) (bI []) n Q=(exI .i64 (Int.fdiv n 72057594037927936) (fun n_0=>exW .u8 n_0 (fun n_1=>exI .i64 (Int.fdiv n 281474976710656) (fun n_2=>exW .u8 n_2 (fun n_3=>exI .i64 (Int.fdiv n 1099511627776) (fun n_4=>exW .u8 n_4 (fun n_5=>exI .i64 (Int.fdiv n 4294967296) (fun n_6=>exW .u8 n_6 (fun n_7=>exI .i64 (Int.fdiv n 16777216) (fun n_8=>exW .u8 n_8 (fun n_9=>exI .i64 (Int.fdiv n 65536) (fun n_10=>exW .u8 n_10 (fun n_11=>exI .i64 (Int.fdiv n 256) (fun n_12=>exW .u8 n_12 (fun n_13=>exI .i64 (Int.fdiv n 1) (fun n_14=>exW .u8 n_14 (fun n_15=>exS (.str [toB (.int .u8 n_1),toB (.int .u8 n_3),toB (.int .u8 n_5),toB (.int .u8 n_7),toB (.int .u8 n_9),toB (.int .u8 n_11),toB (.int .u8 n_13),toB (.int .u8 n_15)]) (fun s_16=>Q (.ret (.str s_16)) [] {})))))))))))))))))):=by kernel_rfl

end Go.Proofs.YtnhechnaemmdiaaGreatDoor

namespace Go.Proofs.YtnhechnaemmdiaaGreatDoor.Md
open Go.RowKit
set_option maxRecDepth 1000000

def aV:List AV:=[.bool false,.int .i64 0,.int .i64 0,.int .i64 0,.int .i64 0,.nils,.nils,.int .i64 0,.str []]
theorem iminI {x:Int} {a b:Nat} (hx:x=(a:Int)) {K:Int→Prop} (h:K ((min a b:Nat):Int)):∃n:Int,AV.int .i64 (aDe x (b:Int))=AV.int .i64 n∧K n:=by
 subst hx
 refine ⟨_, ?_,h⟩
 congr 1
 unfold aDe
 split<;>omega
theorem wH (a b:List Xt):cellsXM (a++b)=cellsXM a++cellsXM b:=by
 induction a with
 | nil=>rfl
 | cons x a ih=>simp only[List.cons_append,cellsXM,ih]
def aCs:AV→Bool
 | .int _ _=>true | .bool _=>true | .str _=>true | .nils=>true | .nilp=>true | _=>false
theorem nL (τ:Nat) (H:List Blk) (d:Nat):∀l:List AV,(∀x∈l,aCs x=true)→l.map (fun x=>dG τ H (d+1) x)=l
 | [],_=>rfl
 | x::l,h=>by
  have hx:dG τ H (d+1) x=x:=by
   have:=h x (by simp)
   cases x<;>first | rfl | simp[aCs] at this
  rw[List.map_cons,nL τ H d l fun y hy=>h y (by simp[hy]),hx]
theorem frz_sl {τ:Nat} {H:List Blk} {d id tot len sz:Nat} {k:BK} {lf:Bool} {cs:List AV} (hb:H[id]? = some ⟨k,lf,cs⟩) (h1:cs.length=tot) (h2:len*sz=tot) (hk:k≠.ro) (hp:∀x∈cs,aCs x=true) :
  dG τ H (d+2) (.sl id tot 0 len sz)=.lst τ cs len sz:=by
 have c1:cs.length.beq tot=true:=aXz h1
 have c2:(0+len*sz).ble tot=true:=bHa (by omega)
 have c3:(k !=.ro)=true:=by simpa using hk
 rw[dG]
 simp only[hb,c1,c2,c3,Bool.and_true,cond_true,List.drop_zero]
 rw[List.take_of_length_le (by omega),nL τ H d cs hp]
theorem aQr (l:List Int):∀x∈aC l,aCs x=true:=by
 intro x hx
 simp only[aC,List.mem_map] at hx
 obtain ⟨n,_,rfl⟩:=hx
 rfl
theorem plain_cX:∀ (l:List Xt),∀x∈cellsXM l,aCs x=true
 | [],x,h=>by simp[cellsXM] at h
 | y::l,x,h=>by
  rw[cellsXM] at h
  rcases List.mem_cons.1 h with rfl | h
  ·rfl
  rcases List.mem_cons.1 h with rfl | h
  ·rfl
  ·exact plain_cX l x h
def aggK:AV→AV
 | .agg l=>.agg (nlL [0,0,0,0,0,1,2] l)
 | v=>v
theorem wk_aggK (v:AV):wk v (aggK v):=by
 cases v with
 | agg l=>exact aCv (pI _ l)
 | _=>exact iF _
end Go.Proofs.YtnhechnaemmdiaaGreatDoor.Md
