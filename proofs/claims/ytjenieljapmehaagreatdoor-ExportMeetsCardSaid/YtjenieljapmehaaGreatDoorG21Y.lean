/-
  Chapter 21: Records, proved; Media's residual.
-/
import Derived.Test.YtjenieljapmehaaGreatDoorG21X
set_option linter.unusedSimpArgs false
set_option linter.unusedVariables false
set_option linter.unusedSectionVars false
namespace Go.Proofs.YtjenieljapmehaaGreatDoor
open Go.RowKit
set_option maxRecDepth 1000000

theorem tkI {o:List UInt8} {p k n0:Nat} {zs:List AV} {pos:Int} {g:Bool} {R:Int→List UInt8→Prop} (hz:zs=List.replicate k (.int .u8 0)) (hp:pos=(p:Nat)) (hk:1≤k) (hl:p+k≤o.length) (ho:o.length≤255) (hg:g=true) (hR:R ((p+k:Nat):Int) ((o.drop p).take k)) :
  ∃n_2:Int,AV.int .i64 (o.length:Int)=AV.int .i64 n_2∧bif decide (pos≥n_2) then False else bif g then (∃s_3:List UInt8,AV.str (List.take (o.length-pos.toNat) (List.drop pos.toNat o))=AV.str s_3 ∧
   bif oneL (ofBytes s_3) then (∃n_4:Int,AV.int .i64 ((min s_3.length k:Nat):Int)=AV.int .i64 n_4∧∃n_5:Int,AV.int .i64 (IntKind.wrap .i64 (pos+n_4))=AV.int .i64 n_5 ∧
    ((oldL 0 (List.take (min s_3.length k*1) (ofBytes s_3))||oldL n0 (setRange zs 0 (List.take (min s_3.length k*1) (ofBytes s_3))))&&true)=true ∧
    bif ((((Nat.beq (setRange zs 0 (List.take (min s_3.length k*1) (ofBytes s_3))).length k)&&true)&&true)&&allU8 (List.take k (List.drop 0 (setRange zs 0 (List.take (min s_3.length k*1) (ofBytes s_3)))))) then
     (∃s_6:List UInt8,AV.str (List.map toB (List.take k (List.drop 0 (setRange zs 0 (List.take (min s_3.length k*1) (ofBytes s_3))))))=AV.str s_6∧R n_5 s_6) else False) else False) else False:=by
 subst hz hp hg
 have hs:(List.take (o.length-p) (List.drop p o))=o.drop p:=List.take_of_length_le (by simp)
 have hlen:(o.drop p).length=o.length-p:=by simp
 have hmin:min (o.drop p).length k=k:=by omega
 have h0:List.take (k*1) (ofBytes (o.drop p))=ofBytes ((o.drop p).take k):=by rw[Nat.mul_one];simp[ofBytes]
 have hl2:((o.drop p).take k).length=k:=by rw[List.length_take];omega
 have hset:setRange (List.replicate k (AV.int .u8 0)) 0 (ofBytes ((o.drop p).take k))=ofBytes ((o.drop p).take k):=by
  unfold setRange
  rw[Nat.zero_add,ofB_len,hl2,List.drop_replicate]
  simp
 refine ⟨_,rfl,splitD (fun h=>by omega) (fun _=>⟨_,rfl,ckI (oneL_ofB _) ⟨_,rfl, ?_⟩⟩)⟩
 rw[Int.toNat_natCast,hs,hmin,h0,hset]
 refine wrapI (by omega) (by omega) ⟨by rw[oldL_ofB];rfl, ?_⟩
 have e:List.take k (List.drop 0 (ofBytes ((o.drop p).take k)))=ofBytes ((o.drop p).take k):=by
  rw[List.drop_zero,List.take_of_length_le (by rw[ofB_len];omega)]
 rw[e,toB_ofB]
 refine ckI (by rw[ofB_len,hl2,allU8_ofB];simp) ⟨_,rfl, ?_⟩
 rw[show ((p:Nat):Int)+((k:Nat):Int)=((p+k:Nat):Int) by omega]
 exact hR
def recBM:List UInt8:=[114,101,99,111,114,100,115]
def recSM (m:List UInt8) (r:Int):List UInt8:=octSM (ofSM m r.toNat) [] recBM 88
def recM (o:List UInt8) (c:Bool):List UInt8×List UInt8×List UInt8×List UInt8:=
 if c=true then (o.take 32,(o.drop 32).take 12,(o.drop 44).take 32,(o.drop 76).take 12) else ((o.drop 44).take 32,(o.drop 76).take 12,o.take 32,(o.drop 32).take 12)
theorem eqAV_mp (a b c d:List UInt8):(eqAVL [AV.tup [.str a,.str b,.str c,.str d]] [AV.tup [.str a,.str b,.str c,.str d]]&&true)=true:=by simp[eqAVL,eqAV,eqB_t]
theorem eqAV_int (k:IntKind) (n:Int):(eqAVL [AV.int k n] [AV.int k n]&&true)=true:=by simp[eqAVL,eqAV,eqB_t]
def cRec:Con
 | [.str m,.int .i64 r,.bool c],H,K=>bif okRndM m r then (∀k1 s1 k2 s2,Lf (recM (recSM m r) c=(k1,s1,k2,s2))→K (.ret (.tup [.agg [.int .i64 r,.int .i64 0,.str k1,.str s1],.agg [.int .i64 r,.str k2,.str s2,.int .i64 (-1),.int .u64 0],.int .i64 0])) H)
  else K (.ret (.tup [.agg [.int .i64 0,.int .i64 0,.str [],.str []],.agg [.int .i64 0,.str [],.str [],.int .i64 0,.int .u64 0],.int .i64 2])) H
 | _,_,_=>False
theorem rec_ok13:ValidF Tryz.prog gl0 13 cRec:=by
 refine valid_flat (enters_of (by kernel_rfl)) gl0_noY fun args H Q hc => ?_
 unfold cRec at hc
 split at hc
 ·rename_i m r c
  obtain ⟨hv',hb',e'⟩:∃hv hb,goal_13 hv hb m r c (fun o H' _=>H'=[]∧(∃v,o=.ret v∧old 0 v=true∧noY v=true)∧Q o H)=_:=⟨_,_,vc_13 m r c _⟩
  refine ⟨rfl,rfl,_,1000,envFor18 (smR_ok hv' hb') _ hv' hb',rfl,e'.mpr ?_⟩
  clear e'
  refine ⟨rfl, ?_⟩
  cases h:okRndM m r with
  | false=>
   rw[h] at hc
   cases c<;>exact ⟨rfl,rfl,⟨_,rfl,rfl,rfl⟩,hc⟩
  | true=>
   rw[h] at hc
   have hh:=of_decide_eq_true h
   have hlo:=of_len hh.1 r.toNat
   have hok:okOctM (ofSM m r.toNat) [] 88=true:=decide_eq_true ⟨hlo,by simp,by omega,by omega⟩
   have hol:(recSM m r).length=88:=oct_len (by omega) (by omega)
   cases c with
   | true=>
    rintro o0 ⟨rfl⟩
    refine ⟨⟨by simp⟩, ?_⟩
    rw[hok]
    rintro o ⟨eo⟩
    have eo:o=recSM m r:=eo
    rw[←eo] at hol hc
    refine tkI (p:=0) (k:=32) rfl rfl (by omega) (by omega) (by omega) (by simp) ?_
    refine tkI (p:=32) (k:=12) rfl rfl (by omega) (by omega) (by omega) (by simp;omega) ?_
    refine tkI (p:=44) (k:=32) rfl rfl (by omega) (by omega) (by omega) (by simp;omega) ?_
    refine tkI (p:=76) (k:=12) rfl rfl (by omega) (by omega) (by omega) (by simp;omega) ?_
    exact ⟨rfl,ckI (eqAV_mp _ _ _ _) (ckI (eqAV_mp _ _ _ _) (ckI (eqAV_int _ _) ⟨rfl,⟨_,rfl,rfl,rfl⟩,hc _ _ _ _ ⟨rfl⟩⟩))⟩
   | false=>
    rintro o0 ⟨rfl⟩
    refine ⟨⟨by simp⟩, ?_⟩
    rw[hok]
    rintro o ⟨eo⟩
    have eo:o=recSM m r:=eo
    rw[←eo] at hol hc
    refine tkI (p:=0) (k:=32) rfl rfl (by omega) (by omega) (by omega) (by simp) ?_
    refine tkI (p:=32) (k:=12) rfl rfl (by omega) (by omega) (by omega) (by simp;omega) ?_
    refine tkI (p:=44) (k:=32) rfl rfl (by omega) (by omega) (by omega) (by simp;omega) ?_
    refine tkI (p:=76) (k:=12) rfl rfl (by omega) (by omega) (by omega) (by simp;omega) ?_
    exact ⟨rfl,ckI (eqAV_mp _ _ _ _) (ckI (eqAV_mp _ _ _ _) (ckI (eqAV_int _ _) ⟨rfl,⟨_,rfl,rfl,rfl⟩,hc _ _ _ _ ⟨rfl⟩⟩))⟩
 ·exact hc.elim
noncomputable def goal_14 (hv:Nat→Option Pa) (hb:Nat→Option Bool) (m:List UInt8) (r:Int) (c:Bool) (Q:Out→List Blk→Gh→Prop):Prop:=
 callx (e18 (smR hv hb) (fun _=>none) hv hb) (wpx (e18 (smR hv hb) (fun _=>none) hv hb) 1000) 15 [.str m,.int .i64 r,.bool c] [] {} Q
theorem vc_14 (m:List UInt8) (r:Int) (c:Bool) (Q:Out→List Blk→Gh→Prop):goal_14 (lookV [(495630,.int .i64),(495645,.str),(495646,.int .i64),(495652,.int .i64),(389135,.str)]) (lookB [(499710,true)]) m r c Q=(true
 = true∧bif c then bif okRndM m r then ∀o_0:List UInt8,Lf (o_0=ofSM m r.toNat)→Lf (List.length [UInt8.ofNat 109,UInt8.ofNat 101,UInt8.ofNat 100,UInt8.ofNat 105,UInt8.ofNat 97]≤4000)∧bif okOctM o_0 [] 152 then ∀o_1:List
 UInt8,Lf (o_1=octSM o_0 [] [UInt8.ofNat 109,UInt8.ofNat 101,UInt8.ofNat 100,UInt8.ofNat 105,UInt8.ofNat 97] 152)→exI .i64 (o_1.length:Int) fun n_2=>bif decide (0≥n_2) then False else ckQ (Nat.ble o_1.length o_1.length) (exS
 (.str ((o_1.drop 0).take (o_1.length-0))) fun s_3=>ckQ (oneL (ofBytes s_3)) (exI .i64 (minN s_3.length 32:Int) fun n_4=>exW .i64 (0+n_4) fun n_5=>((oldL 0 ((ofBytes s_3).take (minN s_3.length 32*1))||oldL 17 (setRange (zer8
 32) 0 ((ofBytes s_3).take (minN s_3.length 32*1))))&&true)=true∧ckQ (Nat.beq (setRange (zer8 32) 0 ((ofBytes s_3).take (minN s_3.length 32*1))).length 32&&true&&true&&allU8 (((setRange (zer8 32) 0 ((ofBytes s_3).take (minN
 s_3.length 32*1))).drop 0).take 32)) (exS (.str (List.map toB (((setRange (zer8 32) 0 ((ofBytes s_3).take (minN s_3.length 32*1))).drop 0).take 32))) fun s_6=>exI .i64 (o_1.length:Int) fun n_7=>bif decide (n_5≥n_7) then False
 else ckQ (decide (0≤n_5)&&true&&Nat.ble n_5.toNat o_1.length&&Nat.ble o_1.length o_1.length) (exS (.str ((o_1.drop n_5.toNat).take (o_1.length-n_5.toNat))) fun s_8=>ckQ (oneL (ofBytes s_8)) (exI .i64 (minN s_8.length 12:Int)
 fun n_9=>exW .i64 (n_5+n_9) fun n_10=>((oldL 0 ((ofBytes s_8).take (minN s_8.length 12*1))||oldL 17 (setRange (zer8 12) 0 ((ofBytes s_8).take (minN s_8.length 12*1))))&&true)=true∧ckQ (Nat.beq (setRange (zer8 12) 0
 ((ofBytes s_8).take (minN s_8.length 12*1))).length 12&&true&&true&&allU8 (((setRange (zer8 12) 0 ((ofBytes s_8).take (minN s_8.length 12*1))).drop 0).take 12)) (exS (.str (List.map toB (((setRange (zer8 12) 0 ((ofBytes s_8).take
 (minN s_8.length 12*1))).drop 0).take 12))) fun s_11=>exI .i64 (o_1.length:Int) fun n_12=>bif decide (n_10≥n_12) then False else ckQ (decide (0≤n_10)&&true&&Nat.ble n_10.toNat o_1.length&&Nat.ble o_1.length o_1.length)
 (exS (.str ((o_1.drop n_10.toNat).take (o_1.length-n_10.toNat))) fun s_13=>ckQ (oneL (ofBytes s_13)) (exI .i64 (minN s_13.length 32:Int) fun n_14=>exW .i64 (n_10+n_14) fun n_15=>((oldL 0 ((ofBytes s_13).take (minN s_13.length
 32*1))||oldL 17 (setRange (zer8 32) 0 ((ofBytes s_13).take (minN s_13.length 32*1))))&&true)=true∧ckQ (Nat.beq (setRange (zer8 32) 0 ((ofBytes s_13).take (minN s_13.length 32*1))).length 32&&true&&true&&allU8
 (((setRange (zer8 32) 0 ((ofBytes s_13).take (minN s_13.length 32*1))).drop 0).take 32)) (exS (.str (List.map toB (((setRange (zer8 32) 0 ((ofBytes s_13).take (minN s_13.length 32*1))).drop 0).take 32))) fun s_16=>exI .i64
 (o_1.length:Int) fun n_17=>bif decide (n_15≥n_17) then False else ckQ (decide (0≤n_15)&&true&&Nat.ble n_15.toNat o_1.length&&Nat.ble o_1.length o_1.length) (exS (.str ((o_1.drop n_15.toNat).take (o_1.length-n_15.toNat)))
 fun s_18=>ckQ (oneL (ofBytes s_18)) (exI .i64 (minN s_18.length 32:Int) fun n_19=>exW .i64 (n_15+n_19) fun n_20=>((oldL 0 ((ofBytes s_18).take (minN s_18.length 32*1))||oldL 18 (setRange (zer8 32) 0 ((ofBytes s_18).take (minN
 s_18.length 32*1))))&&true)=true∧ckQ (Nat.beq (setRange (zer8 32) 0 ((ofBytes s_18).take (minN s_18.length 32*1))).length 32&&true&&true&&allU8 (((setRange (zer8 32) 0 ((ofBytes s_18).take (minN s_18.length 32*1))).drop
 0).take 32)) (exS (.str (List.map toB (((setRange (zer8 32) 0 ((ofBytes s_18).take (minN s_18.length 32*1))).drop 0).take 32))) fun s_21=>exI .i64 (o_1.length:Int) fun n_22=>bif decide (n_20≥n_22) then False else ckQ (decide (0 ≤
 n_20)&&true&&Nat.ble n_20.toNat o_1.length&&Nat.ble o_1.length o_1.length) (exS (.str ((o_1.drop n_20.toNat).take (o_1.length-n_20.toNat))) fun s_23=>ckQ (oneL (ofBytes s_23)) (exI .i64 (minN s_23.length 12:Int) fun n_24=>exW
 .i64 (n_20+n_24) fun n_25=>((oldL 0 ((ofBytes s_23).take (minN s_23.length 12*1))||oldL 18 (setRange (zer8 12) 0 ((ofBytes s_23).take (minN s_23.length 12*1))))&&true)=true∧ckQ (Nat.beq (setRange (zer8 12) 0 ((ofBytes
 s_23).take (minN s_23.length 12*1))).length 12&&true&&true&&allU8 (((setRange (zer8 12) 0 ((ofBytes s_23).take (minN s_23.length 12*1))).drop 0).take 12)) (exS (.str (List.map toB (((setRange (zer8 12) 0 ((ofBytes s_23).take
 (minN s_23.length 12*1))).drop 0).take 12))) fun s_26=>exI .i64 (o_1.length:Int) fun n_27=>bif decide (n_25≥n_27) then False else ckQ (decide (0≤n_25)&&true&&Nat.ble n_25.toNat o_1.length&&Nat.ble o_1.length o_1.length)
 (exS (.str ((o_1.drop n_25.toNat).take (o_1.length-n_25.toNat))) fun s_28=>ckQ (oneL (ofBytes s_28)) (exI .i64 (minN s_28.length 32:Int) fun n_29=>exW .i64 (n_25+n_29) fun n_30=>((oldL 0 ((ofBytes s_28).take (minN s_28.length
 32*1))||oldL 18 (setRange (zer8 32) 0 ((ofBytes s_28).take (minN s_28.length 32*1))))&&true)=true∧ckQ (Nat.beq (setRange (zer8 32) 0 ((ofBytes s_28).take (minN s_28.length 32*1))).length 32&&true&&true&&allU8
 (((setRange (zer8 32) 0 ((ofBytes s_28).take (minN s_28.length 32*1))).drop 0).take 32)) (exS (.str (List.map toB (((setRange (zer8 32) 0 ((ofBytes s_28).take (minN s_28.length 32*1))).drop 0).take 32))) fun s_31=>true=true∧ckQ
 (eqAVL [.str s_21,.str s_26,.str s_31] [.str s_21,.str s_26,.str s_31]&&true) (Q (.ret (.tup [.agg [.str s_6,.str s_11,.str s_16],.agg [.str s_21,.str s_26,.str s_31],.int .i64 0])) [] {}))))))))))))))))))) else true=true∧Q
 (.ret (.tup [.agg [.str [],.str [],.str []],.agg [.str [],.str [],.str []],.int .i64 2])) [] {} else true=true∧Q (.ret (.tup [.agg [.str [],.str [],.str []],.agg [.str [],.str [],.str []],.int .i64 2])) [] {} else bif
 okRndM m r then ∀o_0:List UInt8,Lf (o_0=ofSM m r.toNat)→Lf (List.length [UInt8.ofNat 109,UInt8.ofNat 101,UInt8.ofNat 100,UInt8.ofNat 105,UInt8.ofNat 97]≤4000)∧bif okOctM o_0 [] 152 then ∀o_1:List UInt8,Lf (o_1=octSM
 o_0 [] [UInt8.ofNat 109,UInt8.ofNat 101,UInt8.ofNat 100,UInt8.ofNat 105,UInt8.ofNat 97] 152)→exI .i64 (o_1.length:Int) fun n_2=>bif decide (0≥n_2) then False else ckQ (Nat.ble o_1.length o_1.length) (exS (.str ((o_1.drop
 0).take (o_1.length-0))) fun s_3=>ckQ (oneL (ofBytes s_3)) (exI .i64 (minN s_3.length 32:Int) fun n_4=>exW .i64 (0+n_4) fun n_5=>((oldL 0 ((ofBytes s_3).take (minN s_3.length 32*1))||oldL 17 (setRange (zer8 32) 0 ((ofBytes
 s_3).take (minN s_3.length 32*1))))&&true)=true∧ckQ (Nat.beq (setRange (zer8 32) 0 ((ofBytes s_3).take (minN s_3.length 32*1))).length 32&&true&&true&&allU8 (((setRange (zer8 32) 0 ((ofBytes s_3).take (minN s_3.length 32 *
 1))).drop 0).take 32)) (exS (.str (List.map toB (((setRange (zer8 32) 0 ((ofBytes s_3).take (minN s_3.length 32*1))).drop 0).take 32))) fun s_6=>exI .i64 (o_1.length:Int) fun n_7=>bif decide (n_5≥n_7) then False else ckQ (decide
 (0≤n_5)&&true&&Nat.ble n_5.toNat o_1.length&&Nat.ble o_1.length o_1.length) (exS (.str ((o_1.drop n_5.toNat).take (o_1.length-n_5.toNat))) fun s_8=>ckQ (oneL (ofBytes s_8)) (exI .i64 (minN s_8.length 12:Int) fun n_9=>exW
 .i64 (n_5+n_9) fun n_10=>((oldL 0 ((ofBytes s_8).take (minN s_8.length 12*1))||oldL 17 (setRange (zer8 12) 0 ((ofBytes s_8).take (minN s_8.length 12*1))))&&true)=true∧ckQ (Nat.beq (setRange (zer8 12) 0 ((ofBytes s_8).take
 (minN s_8.length 12*1))).length 12&&true&&true&&allU8 (((setRange (zer8 12) 0 ((ofBytes s_8).take (minN s_8.length 12*1))).drop 0).take 12)) (exS (.str (List.map toB (((setRange (zer8 12) 0 ((ofBytes s_8).take (minN s_8.length 12
 * 1))).drop 0).take 12))) fun s_11=>exI .i64 (o_1.length:Int) fun n_12=>bif decide (n_10≥n_12) then False else ckQ (decide (0≤n_10)&&true&&Nat.ble n_10.toNat o_1.length&&Nat.ble o_1.length o_1.length) (exS (.str ((o_1.drop
 n_10.toNat).take (o_1.length-n_10.toNat))) fun s_13=>ckQ (oneL (ofBytes s_13)) (exI .i64 (minN s_13.length 32:Int) fun n_14=>exW .i64 (n_10+n_14) fun n_15=>((oldL 0 ((ofBytes s_13).take (minN s_13.length 32*1))||oldL 17
 (setRange (zer8 32) 0 ((ofBytes s_13).take (minN s_13.length 32*1))))&&true)=true∧ckQ (Nat.beq (setRange (zer8 32) 0 ((ofBytes s_13).take (minN s_13.length 32*1))).length 32&&true&&true&&allU8 (((setRange (zer8 32) 0
 ((ofBytes s_13).take (minN s_13.length 32*1))).drop 0).take 32)) (exS (.str (List.map toB (((setRange (zer8 32) 0 ((ofBytes s_13).take (minN s_13.length 32*1))).drop 0).take 32))) fun s_16=>exI .i64 (o_1.length:Int) fun n_17=>bif
 decide (n_15≥n_17) then False else ckQ (decide (0≤n_15)&&true&&Nat.ble n_15.toNat o_1.length&&Nat.ble o_1.length o_1.length) (exS (.str ((o_1.drop n_15.toNat).take (o_1.length-n_15.toNat))) fun s_18=>ckQ (oneL (ofBytes s_18))
 (exI .i64 (minN s_18.length 32:Int) fun n_19=>exW .i64 (n_15+n_19) fun n_20=>((oldL 0 ((ofBytes s_18).take (minN s_18.length 32*1))||oldL 18 (setRange (zer8 32) 0 ((ofBytes s_18).take (minN s_18.length 32*1))))&&true) =
 true∧ckQ (Nat.beq (setRange (zer8 32) 0 ((ofBytes s_18).take (minN s_18.length 32*1))).length 32&&true&&true&&allU8 (((setRange (zer8 32) 0 ((ofBytes s_18).take (minN s_18.length 32*1))).drop 0).take 32)) (exS (.str (List.map
 toB (((setRange (zer8 32) 0 ((ofBytes s_18).take (minN s_18.length 32*1))).drop 0).take 32))) fun s_21=>exI .i64 (o_1.length:Int) fun n_22=>bif decide (n_20≥n_22) then False else ckQ (decide (0≤n_20)&&true&&Nat.ble
 n_20.toNat o_1.length&&Nat.ble o_1.length o_1.length) (exS (.str ((o_1.drop n_20.toNat).take (o_1.length-n_20.toNat))) fun s_23=>ckQ (oneL (ofBytes s_23)) (exI .i64 (minN s_23.length 12:Int) fun n_24=>exW .i64 (n_20+n_24) fun
 n_25=>((oldL 0 ((ofBytes s_23).take (minN s_23.length 12*1))||oldL 18 (setRange (zer8 12) 0 ((ofBytes s_23).take (minN s_23.length 12*1))))&&true)=true∧ckQ (Nat.beq (setRange (zer8 12) 0 ((ofBytes s_23).take (minN s_23.length
 12*1))).length 12&&true&&true&&allU8 (((setRange (zer8 12) 0 ((ofBytes s_23).take (minN s_23.length 12*1))).drop 0).take 12)) (exS (.str (List.map toB (((setRange (zer8 12) 0 ((ofBytes s_23).take (minN s_23.length 12*1))).drop
 0).take 12))) fun s_26=>exI .i64 (o_1.length:Int) fun n_27=>bif decide (n_25≥n_27) then False else ckQ (decide (0≤n_25)&&true&&Nat.ble n_25.toNat o_1.length&&Nat.ble o_1.length o_1.length) (exS (.str ((o_1.drop
 n_25.toNat).take (o_1.length-n_25.toNat))) fun s_28=>ckQ (oneL (ofBytes s_28)) (exI .i64 (minN s_28.length 32:Int) fun n_29=>exW .i64 (n_25+n_29) fun n_30=>((oldL 0 ((ofBytes s_28).take (minN s_28.length 32*1))||oldL 18
 (setRange (zer8 32) 0 ((ofBytes s_28).take (minN s_28.length 32*1))))&&true)=true∧ckQ (Nat.beq (setRange (zer8 32) 0 ((ofBytes s_28).take (minN s_28.length 32*1))).length 32&&true&&true&&allU8 (((setRange (zer8 32) 0
 ((ofBytes s_28).take (minN s_28.length 32*1))).drop 0).take 32)) (exS (.str (List.map toB (((setRange (zer8 32) 0 ((ofBytes s_28).take (minN s_28.length 32*1))).drop 0).take 32))) fun s_31=>true=true∧ckQ (eqAVL [.str s_6,.str
 s_11,.str s_16] [.str s_6,.str s_11,.str s_16]&&true) (Q (.ret (.tup [.agg [.str s_21,.str s_26,.str s_31],.agg [.str s_6,.str s_11,.str s_16],.int .i64 0])) [] {}))))))))))))))))))) else true=true∧Q (.ret (.tup [.agg [.str
 [],.str [],.str []],.agg [.str [],.str [],.str []],.int .i64 2])) [] {} else true=true∧Q (.ret (.tup [.agg [.str [],.str [],.str []],.agg [.str [],.str [],.str []],.int .i64 2])) [] {}):=by kernel_rfl

end Go.Proofs.YtjenieljapmehaaGreatDoor
