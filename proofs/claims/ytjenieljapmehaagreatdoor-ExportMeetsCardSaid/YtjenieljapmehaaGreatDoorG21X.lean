/-
  Chapter 21: Master, Export, proved; Records' and Media's residuals.
-/
import Derived.Test.YtjenieljapmehaaGreatDoorGmG
set_option linter.unusedSimpArgs false
set_option linter.unusedVariables false
set_option linter.unusedSectionVars false
namespace Go.Proofs.YtjenieljapmehaaGreatDoor
open Go.RowKit
set_option maxRecDepth 1000000

def mastM (m:List UInt8) (r:Int):List UInt8×Int:=if okRndM m r=true then (ofSM m r.toNat,0) else ([],2)
def expoM (m c l:List UInt8) (n:Int):List UInt8×Int:=if l≠[]∧trimM l=[]∧l.length≤24∧okOctM m c n=true then (octSM m c l n,0) else ([],2)
def cMast:Con
 | [.str m,.int .i64 r],H,K=>∀s e,Lf (mastM m r=(s,e))→K (.ret (.tup [.str s,.int .i64 e])) H
 | _,_,_=>False
theorem mast_ok:ValidF Tryz.prog gl0 11 cMast:=by
 refine valid_flat (enters_of (by kernel_rfl)) gl0_noY fun args H Q hc => ?_
 unfold cMast at hc
 split at hc
 ·rename_i m r
  obtain ⟨hv',hb',e'⟩:∃hv hb,goal_7 hv hb m r (fun o H' _=>H'=[]∧(∃v,o=.ret v∧old 0 v=true∧noY v=true)∧Q o H)=_:=⟨_,_,vc_7 m r _⟩
  refine ⟨rfl,rfl,_,1000,envFor18 (smI_ok hv' hb') _ hv' hb',rfl,e'.mpr ?_⟩
  clear e'
  refine ⟨rfl, ?_⟩
  cases h:okRndM m r with
  | true=>
   rintro o ⟨rfl⟩
   exact ⟨rfl,rfl,⟨_,rfl,rfl,rfl⟩,hc _ _ ⟨by rw[mastM,if_pos h]⟩⟩
  | false=>exact ⟨rfl,rfl,⟨_,rfl,rfl,rfl⟩,hc _ _ ⟨by rw[mastM,if_neg (by simp[h])]⟩⟩
 ·exact hc.elim
def cExpo:Con
 | [.str m,.str c,.str l,.int .i64 n],H,K=>Lf (l.length≤9223372036854775807)∧∀s e,Lf (expoM m c l n=(s,e))→K (.ret (.tup [.str s,.int .i64 e])) H
 | _,_,_=>False
theorem eqB_t {a b:List UInt8}:eqB a b=true↔a=b:=by rw[eqB_iff,beq_iff_eq]
theorem eqB_f {a b:List UInt8}:eqB a b=false↔a≠b:=by
 cases h:eqB a b with
 | true=>simp[eqB_t.1 h]
 | false=>simp only[true_iff];intro h2;rw[eqB_t.2 h2] at h;cases h
theorem expo_ok:ValidF Tryz.prog gl0 8 cExpo:=by
 refine valid_flat (enters_of (by kernel_rfl)) gl0_noY fun args H Q hc => ?_
 unfold cExpo at hc
 split at hc
 ·rename_i m c l n
  obtain ⟨⟨hl⟩,hc⟩:=hc
  obtain ⟨hv',hb',e'⟩:∃hv hb,goal_8 hv hb m c l n (fun o H' _=>H'=[]∧(∃v,o=.ret v∧old 0 v=true∧noY v=true)∧Q o H)=_:=⟨_,_,vc_8 m c l n _⟩
  refine ⟨rfl,rfl,_,1000,envFor18 (smI_ok hv' hb') _ hv' hb',rfl,e'.mpr ?_⟩
  clear e'
  have no:¬ (l≠[]∧trimM l=[]∧l.length≤24∧okOctM m c n=true)→true=true∧([]:List Blk)=[]∧(∃v,Out.ret (.tup [.str [],.int .i64 2])=.ret v∧old 0 v=true∧noY v=true)∧Q (.ret (.tup [.str [],.int .i64 2])) H:=fun h=>
   ⟨rfl,rfl,⟨_,rfl,rfl,rfl⟩,hc _ _ ⟨by rw[expoM,if_neg h]⟩⟩
  refine ⟨rfl,⟨rfl,hl⟩, ?_⟩
  rintro t ⟨rfl⟩
  cases h1:eqB l [] with
  | true=>exact no fun h=>h.1 (eqB_t.1 h1)
  | false=>
  cases h2:eqB (trimM l) [] with
  | false=>exact no fun h=>eqB_f.1 h2 h.2.1
  | true=>
  refine ⟨_,rfl,splitD (fun h3=>⟨⟨by omega⟩, ?_⟩) (fun h3=>no fun h=>h3 (by omega))⟩
  cases h4:okOctM m c n with
  | true=>
   rintro o ⟨rfl⟩
   exact ⟨rfl,rfl,⟨_,rfl,rfl,rfl⟩,hc _ _ ⟨by rw[expoM,if_pos ⟨eqB_f.1 h1,eqB_t.1 h2,by omega,h4⟩]⟩⟩
  | false=>exact no fun h=>by rw[h4] at h;cases h.2.2.2
 ·exact hc.elim
abbrev zer8 (n:Nat):List AV:=List.replicate n (AV.int .u8 0)
noncomputable def cTr29 (hv:Nat→Option Pa) (hb:Nat→Option Bool):Con:=cInl (e18 smC5 (fun _=>none) hv hb) 1000 dfn29
theorem tr29_ok (hv:Nat→Option Pa) (hb:Nat→Option Bool):ValidF Tryz.prog gl0 36 (cTr29 hv hb):=inl_ok dfn29_eq (enters_of (by kernel_rfl)) (envFor18 smC5_ok _ _ _) gl0_noY
noncomputable def smR (hv:Nat→Option Pa) (hb:Nat→Option Bool):SM:=lookS [(36,cTr29 hv hb)]
theorem smR_ok (hv:Nat→Option Pa) (hb:Nat→Option Bool):∀f g,smR hv hb f=some g→ValidF Tryz.prog gl0 f g:=lookS_ok _ (by simp only[List.mem_cons,List.not_mem_nil,or_false,forall_eq_or_imp,forall_eq];exact tr29_ok hv hb)
noncomputable def goal_13 (hv:Nat→Option Pa) (hb:Nat→Option Bool) (m:List UInt8) (r:Int) (c:Bool) (Q:Out→List Blk→Gh→Prop):Prop:=
 callx (e18 (smR hv hb) (fun _=>none) hv hb) (wpx (e18 (smR hv hb) (fun _=>none) hv hb) 1000) 13 [.str m,.int .i64 r,.bool c] [] {} Q
theorem vc_13 (m:List UInt8) (r:Int) (c:Bool) (Q:Out→List Blk→Gh→Prop):goal_13 (lookV [(495630,.int .i64),(495645,.str),(495646,.int .i64),(495652,.int .i64),(389135,.str)]) (lookB [(499710,true)]) m r c Q=(true
 = true∧bif c then bif okRndM m r then ∀o_0:List UInt8,Lf (o_0=ofSM m r.toNat)→Lf (List.length [UInt8.ofNat 114,UInt8.ofNat 101,UInt8.ofNat 99,UInt8.ofNat 111,UInt8.ofNat 114,UInt8.ofNat 100,UInt8.ofNat 115]≤4000)∧bif
 okOctM o_0 [] 88 then ∀o_1:List UInt8,Lf (o_1=octSM o_0 [] [UInt8.ofNat 114,UInt8.ofNat 101,UInt8.ofNat 99,UInt8.ofNat 111,UInt8.ofNat 114,UInt8.ofNat 100,UInt8.ofNat 115] 88)→exI .i64 (o_1.length:Int) fun n_2=>bif decide
 (0≥n_2) then False else ckQ (Nat.ble o_1.length o_1.length) (exS (.str ((o_1.drop 0).take (o_1.length-0))) fun s_3=>ckQ (oneL (ofBytes s_3)) (exI .i64 (minN s_3.length 32:Int) fun n_4=>exW .i64 (0+n_4) fun n_5=>((oldL 0
 ((ofBytes s_3).take (minN s_3.length 32*1))||oldL 17 (setRange (zer8 32) 0 ((ofBytes s_3).take (minN s_3.length 32*1))))&&true)=true∧ckQ (Nat.beq (setRange (zer8 32) 0 ((ofBytes s_3).take (minN s_3.length 32*1))).length 32 &&
 true&&true&&allU8 (((setRange (zer8 32) 0 ((ofBytes s_3).take (minN s_3.length 32*1))).drop 0).take 32)) (exS (.str (List.map toB (((setRange (zer8 32) 0 ((ofBytes s_3).take (minN s_3.length 32*1))).drop 0).take 32))) fun s_6=>
 exI .i64 (o_1.length:Int) fun n_7=>bif decide (n_5≥n_7) then False else ckQ (decide (0≤n_5)&&true&&Nat.ble n_5.toNat o_1.length&&Nat.ble o_1.length o_1.length) (exS (.str ((o_1.drop n_5.toNat).take (o_1.length-n_5.toNat)))
 fun s_8=>ckQ (oneL (ofBytes s_8)) (exI .i64 (minN s_8.length 12:Int) fun n_9=>exW .i64 (n_5+n_9) fun n_10=>((oldL 0 ((ofBytes s_8).take (minN s_8.length 12*1))||oldL 17 (setRange (zer8 12) 0 ((ofBytes s_8).take (minN
 s_8.length 12*1))))&&true)=true∧ckQ (Nat.beq (setRange (zer8 12) 0 ((ofBytes s_8).take (minN s_8.length 12*1))).length 12&&true&&true&&allU8 (((setRange (zer8 12) 0 ((ofBytes s_8).take (minN s_8.length 12*1))).drop
 0).take 12)) (exS (.str (List.map toB (((setRange (zer8 12) 0 ((ofBytes s_8).take (minN s_8.length 12*1))).drop 0).take 12))) fun s_11=>exI .i64 (o_1.length:Int) fun n_12=>bif decide (n_10≥n_12) then False else ckQ (decide (0 ≤
 n_10)&&true&&Nat.ble n_10.toNat o_1.length&&Nat.ble o_1.length o_1.length) (exS (.str ((o_1.drop n_10.toNat).take (o_1.length-n_10.toNat))) fun s_13=>ckQ (oneL (ofBytes s_13)) (exI .i64 (minN s_13.length 32:Int) fun n_14=>exW
 .i64 (n_10+n_14) fun n_15=>((oldL 0 ((ofBytes s_13).take (minN s_13.length 32*1))||oldL 18 (setRange (zer8 32) 0 ((ofBytes s_13).take (minN s_13.length 32*1))))&&true)=true∧ckQ (Nat.beq (setRange (zer8 32) 0 ((ofBytes
 s_13).take (minN s_13.length 32*1))).length 32&&true&&true&&allU8 (((setRange (zer8 32) 0 ((ofBytes s_13).take (minN s_13.length 32*1))).drop 0).take 32)) (exS (.str (List.map toB (((setRange (zer8 32) 0 ((ofBytes s_13).take
 (minN s_13.length 32*1))).drop 0).take 32))) fun s_16=>exI .i64 (o_1.length:Int) fun n_17=>bif decide (n_15≥n_17) then False else ckQ (decide (0≤n_15)&&true&&Nat.ble n_15.toNat o_1.length&&Nat.ble o_1.length o_1.length)
 (exS (.str ((o_1.drop n_15.toNat).take (o_1.length-n_15.toNat))) fun s_18=>ckQ (oneL (ofBytes s_18)) (exI .i64 (minN s_18.length 12:Int) fun n_19=>exW .i64 (n_15+n_19) fun n_20=>((oldL 0 ((ofBytes s_18).take (minN s_18.length
 12*1))||oldL 18 (setRange (zer8 12) 0 ((ofBytes s_18).take (minN s_18.length 12*1))))&&true)=true∧ckQ (Nat.beq (setRange (zer8 12) 0 ((ofBytes s_18).take (minN s_18.length 12*1))).length 12&&true&&true&&allU8
 (((setRange (zer8 12) 0 ((ofBytes s_18).take (minN s_18.length 12*1))).drop 0).take 12)) (exS (.str (List.map toB (((setRange (zer8 12) 0 ((ofBytes s_18).take (minN s_18.length 12*1))).drop 0).take 12))) fun s_21=>true=true∧ckQ
 (eqAVL [.tup [.str [UInt8.ofNat 107,UInt8.ofNat 101,UInt8.ofNat 121],.str s_16,.str [UInt8.ofNat 115,UInt8.ofNat 97,UInt8.ofNat 108,UInt8.ofNat 116],.str s_21]] [.tup [.str [UInt8.ofNat 107,UInt8.ofNat 101,UInt8.ofNat 121],.str
 s_16,.str [UInt8.ofNat 115,UInt8.ofNat 97,UInt8.ofNat 108,UInt8.ofNat 116],.str s_21]]&&true) (ckQ (eqAVL [.tup [.str [UInt8.ofNat 107,UInt8.ofNat 101,UInt8.ofNat 121],.str s_16,.str [UInt8.ofNat 115,UInt8.ofNat 97,UInt8.ofNat
 108,UInt8.ofNat 116],.str s_21]] [.tup [.str [UInt8.ofNat 107,UInt8.ofNat 101,UInt8.ofNat 121],.str s_16,.str [UInt8.ofNat 115,UInt8.ofNat 97,UInt8.ofNat 108,UInt8.ofNat 116],.str s_21]]&&true) (ckQ (eqAVL [.int .i64 r] [.int
 .i64 r]&&true) (Q (.ret (.tup [.agg [.int .i64 r,.int .i64 0,.str s_6,.str s_11],.agg [.int .i64 r,.str s_16,.str s_21,.int .i64 (-1),.int .u64 0],.int .i64 0])) [] {}))))))))))))))) else true=true∧Q (.ret (.tup [.agg [.int
 .i64 0,.int .i64 0,.str [],.str []],.agg [.int .i64 0,.str [],.str [],.int .i64 0,.int .u64 0],.int .i64 2])) [] {} else true=true∧Q (.ret (.tup [.agg [.int .i64 0,.int .i64 0,.str [],.str []],.agg [.int .i64 0,.str [],
 .str [],.int .i64 0,.int .u64 0],.int .i64 2])) [] {} else bif okRndM m r then ∀o_0:List UInt8,Lf (o_0=ofSM m r.toNat)→Lf (List.length [UInt8.ofNat 114,UInt8.ofNat 101,UInt8.ofNat 99,UInt8.ofNat 111,UInt8.ofNat 114,
 UInt8.ofNat 100,UInt8.ofNat 115]≤4000)∧bif okOctM o_0 [] 88 then ∀o_1:List UInt8,Lf (o_1=octSM o_0 [] [UInt8.ofNat 114,UInt8.ofNat 101,UInt8.ofNat 99,UInt8.ofNat 111,UInt8.ofNat 114,UInt8.ofNat 100,UInt8.ofNat 115] 88) →
 exI .i64 (o_1.length:Int) fun n_2=>bif decide (0≥n_2) then False else ckQ (Nat.ble o_1.length o_1.length) (exS (.str ((o_1.drop 0).take (o_1.length-0))) fun s_3=>ckQ (oneL (ofBytes s_3)) (exI .i64 (minN s_3.length 32:Int) fun
 n_4=>exW .i64 (0+n_4) fun n_5=>((oldL 0 ((ofBytes s_3).take (minN s_3.length 32*1))||oldL 17 (setRange (zer8 32) 0 ((ofBytes s_3).take (minN s_3.length 32*1))))&&true)=true∧ckQ (Nat.beq (setRange (zer8 32) 0 ((ofBytes
 s_3).take (minN s_3.length 32*1))).length 32&&true&&true&&allU8 (((setRange (zer8 32) 0 ((ofBytes s_3).take (minN s_3.length 32*1))).drop 0).take 32)) (exS (.str (List.map toB (((setRange (zer8 32) 0 ((ofBytes s_3).take (minN
 s_3.length 32*1))).drop 0).take 32))) fun s_6=>exI .i64 (o_1.length:Int) fun n_7=>bif decide (n_5≥n_7) then False else ckQ (decide (0≤n_5)&&true&&Nat.ble n_5.toNat o_1.length&&Nat.ble o_1.length o_1.length) (exS (.str
 ((o_1.drop n_5.toNat).take (o_1.length-n_5.toNat))) fun s_8=>ckQ (oneL (ofBytes s_8)) (exI .i64 (minN s_8.length 12:Int) fun n_9=>exW .i64 (n_5+n_9) fun n_10=>((oldL 0 ((ofBytes s_8).take (minN s_8.length 12*1))||oldL 17
 (setRange (zer8 12) 0 ((ofBytes s_8).take (minN s_8.length 12*1))))&&true)=true∧ckQ (Nat.beq (setRange (zer8 12) 0 ((ofBytes s_8).take (minN s_8.length 12*1))).length 12&&true&&true&&allU8 (((setRange (zer8 12) 0 ((ofBytes
 s_8).take (minN s_8.length 12*1))).drop 0).take 12)) (exS (.str (List.map toB (((setRange (zer8 12) 0 ((ofBytes s_8).take (minN s_8.length 12*1))).drop 0).take 12))) fun s_11=>exI .i64 (o_1.length:Int) fun n_12=>bif decide (n_10
 ≥ n_12) then False else ckQ (decide (0≤n_10)&&true&&Nat.ble n_10.toNat o_1.length&&Nat.ble o_1.length o_1.length) (exS (.str ((o_1.drop n_10.toNat).take (o_1.length-n_10.toNat))) fun s_13=>ckQ (oneL (ofBytes s_13)) (exI .i64
 (minN s_13.length 32:Int) fun n_14=>exW .i64 (n_10+n_14) fun n_15=>((oldL 0 ((ofBytes s_13).take (minN s_13.length 32*1))||oldL 18 (setRange (zer8 32) 0 ((ofBytes s_13).take (minN s_13.length 32*1))))&&true)=true∧ckQ
 (Nat.beq (setRange (zer8 32) 0 ((ofBytes s_13).take (minN s_13.length 32*1))).length 32&&true&&true&&allU8 (((setRange (zer8 32) 0 ((ofBytes s_13).take (minN s_13.length 32*1))).drop 0).take 32)) (exS (.str (List.map toB
 (((setRange (zer8 32) 0 ((ofBytes s_13).take (minN s_13.length 32*1))).drop 0).take 32))) fun s_16=>exI .i64 (o_1.length:Int) fun n_17=>bif decide (n_15≥n_17) then False else ckQ (decide (0≤n_15)&&true&&Nat.ble n_15.toNat
 o_1.length&&Nat.ble o_1.length o_1.length) (exS (.str ((o_1.drop n_15.toNat).take (o_1.length-n_15.toNat))) fun s_18=>ckQ (oneL (ofBytes s_18)) (exI .i64 (minN s_18.length 12:Int) fun n_19=>exW .i64 (n_15+n_19) fun n_20=>
 ((oldL 0 ((ofBytes s_18).take (minN s_18.length 12*1))||oldL 18 (setRange (zer8 12) 0 ((ofBytes s_18).take (minN s_18.length 12*1))))&&true)=true∧ckQ (Nat.beq (setRange (zer8 12) 0 ((ofBytes s_18).take (minN s_18.length 12 *
 1))).length 12&&true&&true&&allU8 (((setRange (zer8 12) 0 ((ofBytes s_18).take (minN s_18.length 12*1))).drop 0).take 12)) (exS (.str (List.map toB (((setRange (zer8 12) 0 ((ofBytes s_18).take (minN s_18.length 12*1))).drop
 0).take 12))) fun s_21=>true=true∧ckQ (eqAVL [.tup [.str [UInt8.ofNat 107,UInt8.ofNat 101,UInt8.ofNat 121],.str s_6,.str [UInt8.ofNat 115,UInt8.ofNat 97,UInt8.ofNat 108,UInt8.ofNat 116],.str s_11]] [.tup [.str [UInt8.ofNat
 107,UInt8.ofNat 101,UInt8.ofNat 121],.str s_6,.str [UInt8.ofNat 115,UInt8.ofNat 97,UInt8.ofNat 108,UInt8.ofNat 116],.str s_11]]&&true) (ckQ (eqAVL [.tup [.str [UInt8.ofNat 107,UInt8.ofNat 101,UInt8.ofNat 121],.str s_6,.str
 [UInt8.ofNat 115,UInt8.ofNat 97,UInt8.ofNat 108,UInt8.ofNat 116],.str s_11]] [.tup [.str [UInt8.ofNat 107,UInt8.ofNat 101,UInt8.ofNat 121],.str s_6,.str [UInt8.ofNat 115,UInt8.ofNat 97,UInt8.ofNat 108,UInt8.ofNat 116],.str
 s_11]]&&true) (ckQ (eqAVL [.int .i64 r] [.int .i64 r]&&true) (Q (.ret (.tup [.agg [.int .i64 r,.int .i64 0,.str s_16,.str s_21],.agg [.int .i64 r,.str s_6,.str s_11,.int .i64 (-1),.int .u64 0],.int .i64 0])) []
 {}))))))))))))))) else true=true∧Q (.ret (.tup [.agg [.int .i64 0,.int .i64 0,.str [],.str []],.agg [.int .i64 0,.str [],.str [],.int .i64 0,.int .u64 0],.int .i64 2])) [] {} else true=true∧Q (.ret (.tup [.agg [.int .i64
 0,.int .i64 0,.str [],.str []],.agg [.int .i64 0,.str [],.str [],.int .i64 0,.int .u64 0],.int .i64 2])) [] {}):=by kernel_rfl

end Go.Proofs.YtjenieljapmehaaGreatDoor
