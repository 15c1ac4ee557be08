/-
  Chapter 21: the reference's Of, proved; Master, Export, Records, Media: residuals.
-/
import Derived.Test.YtjenieljapmehaaGreatDoorGmI
set_option linter.unusedSimpArgs false
set_option linter.unusedVariables false
set_option linter.unusedSectionVars false
namespace Go.Proofs.YtjenieljapmehaaGreatDoor
open Go.RowKit
set_option maxRecDepth 1000000

theorem ofr_run (sc kc:List AV) (m:List UInt8) (r:Int) (ht:tabO sc kc) (hm:m.length=32) (h0:0≤r) (h1:r≤1000) (Q:Out→List Blk→Gh→Prop) (hq:Q (.ret (.str (ofSM m r.toNat))) [] {}):∃hv hb,goal_m35 hv hb sc kc m r Q:=by
 obtain ⟨hv',hb',e'⟩:∃hv hb,goal_m35 hv hb sc kc m r Q=_:=⟨_,_,vc_m35 sc kc m r Q⟩
 refine ⟨hv',hb',e'.mpr ?_⟩
 clear e'
 refine ⟨⟨0,⟨by omega⟩,rfl,rfl,rfl,rfl,rfl,trivial⟩, ?_⟩
 rintro i ⟨hi⟩
 have hl:=of_len hm i
 refine ⟨_,rfl,splitD (fun h => ?_) (fun h => ?_)⟩
 ·refine ⟨_,rfl,⟨ht,by omega,by simp,by simp,by omega,by omega⟩, ?_⟩
  rintro o ⟨eo⟩
  refine ⟨_,rfl,wrapI (by omega) (by omega) ⟨⟨trivial,rfl⟩,i+1,⟨by omega⟩,by omega,rfl, ?_,rfl,rfl,rfl,trivial⟩⟩
  rw[eo]
  rfl
 ·refine ⟨_,rfl, ?_⟩
  rwa [show r.toNat=i by omega] at hq
def cOfT:Con
 | [.agg [.lst 0 sc 8 1,.lst 0 kc 64 1],.str m,.int .i64 r],H,K=>Lf (tabO sc kc∧m.length=32∧0≤r∧r≤1000)∧∀o,Lf (o=ofSM m r.toNat)→K (.ret (.str o)) H
 | _,_,_=>False
theorem oft_ok:ValidF Tryz.prog gl0 35 cOfT:=by
 refine valid_flat (enters_of (by kernel_rfl)) gl0_noY fun args H Q hc => ?_
 unfold cOfT at hc
 split at hc
 ·rename_i sc kc m r
  obtain ⟨⟨h1,h2,h3,h4⟩,hq⟩:=hc
  obtain ⟨hv,hb',h⟩:=ofr_run sc kc m r h1 h2 h3 h4 (Q:=fun o H' _=>H'=[]∧(∃v,o=.ret v∧old 0 v=true∧noY v=true)∧Q o H) ⟨rfl,⟨_,rfl,rfl,rfl⟩,hq _ ⟨rfl⟩⟩
  have ht:=tab_flat sc kc h1
  exact ⟨by simp only[oldL,ht.1,old,Bool.and_self],by simp only[noYL,ht.2,noY,Bool.and_self],_,1000,envFor18 smE4_ok _ hv hb',rfl,h⟩
 ·exact hc.elim
def smE5:SM:=lookS [(28,cLabR),(29,cOctR),(35,cOfT)]
theorem smE5_ok:∀f g,smE5 f=some g→ValidF Tryz.prog gl0 f g:=lookS_ok _ (by simp only[List.mem_cons,List.not_mem_nil,or_false,forall_eq_or_imp,forall_eq];exact ⟨labr_ok,octr_ok,oft_ok⟩)
noncomputable def goal_m12 (hv:Nat→Option Pa) (hb:Nat→Option Bool) (sc kc:List AV) (m:List UInt8) (r:Int) (Q:Out→List Blk→Gh→Prop):Prop:=
 callx (e18 smE5 (fun _=>none) hv hb) (wpx (e18 smE5 (fun _=>none) hv hb) 1000) 12 [.agg [.lst 0 sc 8 1,.lst 0 kc 64 1],.str m,.int .i64 r] [] {} Q
theorem vc_m12 (sc:List AV) (kc:List AV) (m:List UInt8) (r:Int) (Q:Out→List Blk→Gh→Prop):goal_m12 (lookV [(49161,.int .i64)]) (lookB []) sc kc m r Q=(
(∃n_0:Int,(((AV.int .i64 (Nat.cast (List.length m):Int))=(AV.int .i64 n_0)) ∧
 (bif (n_0 !=(32:Int)) then (Q (Out.ret (AV.tup ((AV.str [])::((AV.int .i64 (2:Int))::[])))) [] (Gh.mk (0:Nat) (0:Nat) []))
else (bif (decide (r≥(0:Int))) then (bif (decide (r≤(1000:Int))) then ((Lf ((tabO sc kc) ∧
 (((List.length m)=(32:Nat)) ∧
 (((0:Int)≤r) ∧
 (r≤(1000:Int)))))) ∧
 (∀o_1:(List UInt8),((Lf (o_1=(ofSM m (Int.toNat r)))) →
(Q (Out.ret (AV.tup ((AV.str o_1)::((AV.int .i64 (0:Int))::[])))) [] (Gh.mk (0:Nat) (0:Nat) [])))))
else (Q (Out.ret (AV.tup ((AV.str [])::((AV.int .i64 (2:Int))::[])))) [] (Gh.mk (0:Nat) (0:Nat) [])))
else (Q (Out.ret (AV.tup ((AV.str [])::((AV.int .i64 (2:Int))::[])))) [] (Gh.mk (0:Nat) (0:Nat) []))))))):=by kernel_rfl

noncomputable def goal_m14 (hv:Nat→Option Pa) (hb:Nat→Option Bool) (sc kc:List AV) (m:List UInt8) (r:Int) (c:Bool) (Q:Out→List Blk→Gh→Prop):Prop:=
 callx (e18 smE5 (fun _=>none) hv hb) (wpx (e18 smE5 (fun _=>none) hv hb) 1000) 14 [.agg [.lst 0 sc 8 1,.lst 0 kc 64 1],.str m,.int .i64 r,.bool c] [] {} Q
theorem vc_m14 (sc:List AV) (kc:List AV) (m:List UInt8) (r:Int) (c:Bool) (Q:Out→List Blk→Gh→Prop):goal_m14 (lookV [(57359,.int .i64),(57375,.str),(57377,.str),(57384,.str),(57386,.str),(57390,.str),(57392,
 .str)]) (lookB []) sc kc m r c Q=(exI .i64 (m.length:Int) fun n_0=>bif n_0 !=32 then Q (.ret (.tup [.agg [.int .i64 0,.int .i64 0,.str [],.str []],.agg [.int .i64 0,.str [],.str [],.int .i64 0,.int .u64 0],.int .i64 2])) []
 {} else bif decide (r≥0) then bif decide (r≤1000) then Lf (tabO sc kc∧m.length=32∧0≤r∧r≤1000)∧∀o_1:List UInt8,Lf (o_1=ofSM m r.toNat)→ckQ (eqAVL [.lst 0 sc 8 1,.lst 0 kc 64 1] [.lst 0 sc 8 1,.lst 0 kc 64 1] &&
 true) (Lf (tabO sc kc∧o_1.length≤4096∧([]:List UInt8).length≤4096∧List.length [114,101,99,111,114,100,115]≤4000∧(0:Int)≤(88:Int)∧(88:Int)≤(255:Int))∧∀o_2:List UInt8,Lf (o_2=octSM o_1 [] [114,
 101,99,111,114,100,115] 88)→ckQ (Nat.ble 44 o_2.length) (exS (.str ((o_2.drop 0).take 44)) fun s_3=>ckQ (Nat.ble 44 o_2.length&&Nat.ble o_2.length o_2.length) (exS (.str ((o_2.drop 44).take (o_2.length-44))) fun s_4=>bif c
 then ckQ (Nat.ble 32 s_3.length) (exS (.str ((s_3.drop 0).take 32)) fun s_5=>ckQ (Nat.ble 32 s_3.length&&Nat.ble s_3.length s_3.length) (exS (.str ((s_3.drop 32).take (s_3.length-32))) fun s_6=>ckQ (Nat.ble 32 s_4.length) (exS
 (.str ((s_4.drop 0).take 32)) fun s_7=>ckQ (Nat.ble 32 s_4.length&&Nat.ble s_4.length s_4.length) (exS (.str ((s_4.drop 32).take (s_4.length-32))) fun s_8=>Q (.ret (.tup [.agg [.int .i64 r,.int .i64 0,.str s_5,.str s_6],.agg
 [.int .i64 r,.str s_7,.str s_8,.int .i64 (-1),.int .u64 0],.int .i64 0])) [] {})))) else ckQ (Nat.ble 32 s_4.length) (exS (.str ((s_4.drop 0).take 32)) fun s_5=>ckQ (Nat.ble 32 s_4.length&&Nat.ble s_4.length s_4.length) (exS (.str
 ((s_4.drop 32).take (s_4.length-32))) fun s_6=>ckQ (Nat.ble 32 s_3.length) (exS (.str ((s_3.drop 0).take 32)) fun s_7=>ckQ (Nat.ble 32 s_3.length&&Nat.ble s_3.length s_3.length) (exS (.str ((s_3.drop 32).take (s_3.length-32)))
 fun s_8=>Q (.ret (.tup [.agg [.int .i64 r,.int .i64 0,.str s_5,.str s_6],.agg [.int .i64 r,.str s_7,.str s_8,.int .i64 (-1),.int .u64 0],.int .i64 0])) [] {}))))))) else Q (.ret (.tup [.agg [.int .i64 0,.int .i64 0,.str [],
 .str []],.agg [.int .i64 0,.str [],.str [],.int .i64 0,.int .u64 0],.int .i64 2])) [] {} else Q (.ret (.tup [.agg [.int .i64 0,.int .i64 0,.str [],.str []],.agg [.int .i64 0,.str [],.str [],.int .i64 0,.int .u64 0],.int .i64
 2])) [] {}):=by kernel_rfl

noncomputable def goal_m16 (hv:Nat→Option Pa) (hb:Nat→Option Bool) (sc kc:List AV) (m:List UInt8) (r:Int) (c:Bool) (Q:Out→List Blk→Gh→Prop):Prop:=
 callx (e18 smE5 (fun _=>none) hv hb) (wpx (e18 smE5 (fun _=>none) hv hb) 1000) 16 [.agg [.lst 0 sc 8 1,.lst 0 kc 64 1],.str m,.int .i64 r,.bool c] [] {} Q
theorem vc_m16 (sc:List AV) (kc:List AV) (m:List UInt8) (r:Int) (c:Bool) (Q:Out→List Blk→Gh→Prop):goal_m16 (lookV [(65551,.int .i64),(65567,.str),(65569,.str),(65571,.str),(65574,.str),(65576,.str),(65578,
 .str)]) (lookB []) sc kc m r c Q=(exI .i64 (m.length:Int) fun n_0=>bif n_0 !=32 then Q (.ret (.tup [.agg [.str [],.str [],.str []],.agg [.str [],.str [],.str []],.int .i64 2])) [] {} else bif decide (r≥0) then bif decide (r
 ≤ 1000) then Lf (tabO sc kc∧m.length=32∧0≤r∧r≤1000)∧∀o_1:List UInt8,Lf (o_1=ofSM m r.toNat)→ckQ (eqAVL [.lst 0 sc 8 1,.lst 0 kc 64 1] [.lst 0 sc 8 1,.lst 0 kc 64 1]&&true) (Lf (tabO sc kc∧o_1.length≤4096∧([]
 : List UInt8).length≤4096∧List.length [109,101,100,105,97]≤4000∧(0:Int)≤(152:Int)∧(152:Int)≤(255:Int))∧∀o_2:List UInt8,Lf (o_2=octSM o_1 [] [109,101,100,105,97] 152)→ckQ (Nat.ble 32 o_2.length) (exS
 (.str ((o_2.drop 0).take 32)) fun s_3=>ckQ (Nat.ble 44 o_2.length) (exS (.str ((o_2.drop 32).take 12)) fun s_4=>ckQ (Nat.ble 76 o_2.length) (exS (.str ((o_2.drop 44).take 32)) fun s_5=>ckQ (Nat.ble 108 o_2.length) (exS (.str
 ((o_2.drop 76).take 32)) fun s_6=>ckQ (Nat.ble 120 o_2.length) (exS (.str ((o_2.drop 108).take 12)) fun s_7=>ckQ (Nat.ble 120 o_2.length&&Nat.ble o_2.length o_2.length) (exS (.str ((o_2.drop 120).take (o_2.length-120))) fun s_8=>
 bif c then ckQ (eqAVL [.str s_6,.str s_7,.str s_8] [.str s_6,.str s_7,.str s_8]&&true) (Q (.ret (.tup [.agg [.str s_3,.str s_4,.str s_5],.agg [.str s_6,.str s_7,.str s_8],.int .i64 0])) [] {}) else ckQ (eqAVL [.str s_3,.str
 s_4,.str s_5] [.str s_3,.str s_4,.str s_5]&&true) (Q (.ret (.tup [.agg [.str s_6,.str s_7,.str s_8],.agg [.str s_3,.str s_4,.str s_5],.int .i64 0])) [] {})))))))) else Q (.ret (.tup [.agg [.str [],.str [],.str []],.agg [.str
 [],.str [],.str []],.int .i64 2])) [] {} else Q (.ret (.tup [.agg [.str [],.str [],.str []],.agg [.str [],.str [],.str []],.int .i64 2])) [] {}):=by kernel_rfl

end Go.Proofs.YtjenieljapmehaaGreatDoor
