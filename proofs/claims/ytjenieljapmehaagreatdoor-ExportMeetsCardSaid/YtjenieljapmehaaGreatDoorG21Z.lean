/-
  Chapter 21: Media, proved; residuals of Secret and works.
-/
import Derived.Test.YtjenieljapmehaaGreatDoorG21Y
set_option linter.unusedSimpArgs false
set_option linter.unusedVariables false
set_option linter.unusedSectionVars false
namespace Go.Proofs.YtjenieljapmehaaGreatDoor
open Go.RowKit
set_option maxRecDepth 1000000

def medBM:List UInt8:=[109,101,100,105,97]
def medSM (m:List UInt8) (r:Int):List UInt8:=octSM (ofSM m r.toNat) [] medBM 152
def medM (o:List UInt8) (c:Bool):List UInt8×List UInt8×List UInt8×List UInt8×List UInt8×List UInt8:=
 if c=true then (o.take 32,(o.drop 32).take 12,(o.drop 44).take 32,(o.drop 76).take 32,(o.drop 108).take 12,(o.drop 120).take 32) else ((o.drop 76).take 32,(o.drop 108).take 12,(o.drop 120).take 32,o.take 32,(o.drop 32).take 12,(o.drop 44).take 32)
def cMed:Con
 | [.str m,.int .i64 r,.bool c],H,K=>bif okRndM m r then (∀k1 s1 x1 k2 s2 x2,Lf (medM (medSM m r) c=(k1,s1,x1,k2,s2,x2))→K (.ret (.tup [.agg [.str k1,.str s1,.str x1],.agg [.str k2,.str s2,.str x2],.int .i64 0])) H)
  else K (.ret (.tup [.agg [.str [],.str [],.str []],.agg [.str [],.str [],.str []],.int .i64 2])) H
 | _,_,_=>False
theorem med_ok14:ValidF Tryz.prog gl0 15 cMed:=by
 refine valid_flat (enters_of (by kernel_rfl)) gl0_noY fun args H Q hc => ?_
 unfold cMed at hc
 split at hc
 ·rename_i m r c
  obtain ⟨hv',hb',e'⟩:∃hv hb,goal_14 hv hb m r c (fun o H' _=>H'=[]∧(∃v,o=.ret v∧old 0 v=true∧noY v=true)∧Q o H)=_:=⟨_,_,vc_14 m r c _⟩
  refine ⟨rfl,rfl,_,1000,envFor18 (smR_ok hv' hb') _ hv' hb',rfl,e'.mpr ?_⟩
  clear e'
  refine ⟨rfl, ?_⟩
  cases h:okRndM m r with
  | false=>
   rw[h] at hc
   cases c<;>exact ⟨rfl,rfl,⟨_,rfl,rfl,rfl⟩,hc⟩
  | true=>
   rw[h] at hc
   have hh:=of_decide_eq_true h
   have hlo:=of_len hh.1 r.toNat
   have hok:okOctM (ofSM m r.toNat) [] 152=true:=decide_eq_true ⟨hlo,by simp,by omega,by omega⟩
   have hol:(medSM m r).length=152:=oct_len (by omega) (by omega)
   cases c <;>
   ·rintro o0 ⟨rfl⟩
    refine ⟨⟨by simp⟩, ?_⟩
    rw[hok]
    rintro o ⟨eo⟩
    have eo:o=medSM m r:=eo
    rw[←eo] at hol hc
    refine tkI (p:=0) (k:=32) rfl rfl (by omega) (by omega) (by omega) (by simp) ?_
    refine tkI (p:=32) (k:=12) rfl rfl (by omega) (by omega) (by omega) (by simp;omega) ?_
    refine tkI (p:=44) (k:=32) rfl rfl (by omega) (by omega) (by omega) (by simp;omega) ?_
    refine tkI (p:=76) (k:=32) rfl rfl (by omega) (by omega) (by omega) (by simp;omega) ?_
    refine tkI (p:=108) (k:=12) rfl rfl (by omega) (by omega) (by omega) (by simp;omega) ?_
    refine tkI (p:=120) (k:=32) rfl rfl (by omega) (by omega) (by omega) (by simp;omega) ?_
    exact ⟨rfl,ckI (by simp[eqAVL,eqAV,eqB_t]) ⟨rfl,⟨_,rfl,rfl,rfl⟩,hc _ _ _ _ _ _ ⟨rfl⟩⟩⟩
 ·exact hc.elim
def inv_6 (s:S):List (List LInv):=[[{ α:=List UInt8,pre:=fun x=>Lf (x.length≤32),st:=fun x=>⟨mkT [(1,s.tm.get 1),(3,.str x),(4,.int .i64 (x.length:Nat))],s.hp⟩,mu:=fun x=>32-x.length }]]
noncomputable def env_6 (hv:Nat→Option Pa) (hb:Nat→Option Bool):Env:=e18 sm0 (fun i=>bif Nat.beq i 7000 then some inv_6 else none) hv hb
noncomputable def goal_6 (hv:Nat→Option Pa) (hb:Nat→Option Bool) (a b c d:Int) (Q:Out→List Blk→Gh→Prop):Prop:=
 callx (env_6 hv hb) (wpx (env_6 hv hb) 1000) 7 [.agg [.int .u8 a,.int .u8 b,.int .u8 c,.int .u8 d]] [] {} Q
theorem vc_6 (a:Int) (b:Int) (c:Int) (d:Int) (Q:Out→List Blk→Gh→Prop):goal_6 (lookV [(28677,.int .i64),(28682,.int .i64),(28683,.int .i64),(28685,.int .u8),(28686,.int .i64),(28687,.int .i64),(28688,.int .u8),
 (28689,.int .i64),(28690,.int .i64),(28691,.int .i64),(28693,.int .u8),(28694,.int .u8),(28695,.int .u8),(28697,.str),(28698,.str),(28679,.int .i64),(28680,.int .i64)]) (lookB []) a b c d Q=((∃x_0:List UInt8,Lf
 (x_0.length≤32)∧eqqQ [AV.int .u8 a,.int .u8 b,.int .u8 c,.int .u8 d]∧eqqQ (AV.ptr 0 4 0)∧AV.str []=AV.str x_0∧AV.int .i64 0=AV.int .i64 (x_0.length:Int)∧True)∧∀x_0:List UInt8,Lf (x_0.length≤32)→exI .i64
 (x_0.length:Int) fun n_1=>bif decide (n_1<32) then exI .i64 (x_0.length:Int) fun n_2=>exI .i64 (n_2.tmod 4) fun n_3=>ckQ (decide (0≤n_3)&&Nat.blt n_3.toNat 4&&true) (ckQ (Nat.blt (0+n_3.toNat*1) 4) (exV .u8
 (((List.drop (0+n_3.toNat*1) [AV.int .u8 a,AV.int .u8 b,AV.int .u8 c,AV.int .u8 d]).take 1).getD 0 AV.undef) fun n_4=>exI .i64 (x_0.length:Int) fun n_5=>exW .i64 (n_5.tdiv 4) fun n_6=>exW .u8 n_6 fun n_7=>exI .i64
 (x_0.length:Int) fun n_8=>exW .i64 (n_8+1) fun n_9=>exI .i64 (n_9.tmod 4) fun n_10=>ckQ (decide (0≤n_10)&&Nat.blt n_10.toNat 4&&true) (ckQ (Nat.blt (0+n_10.toNat*1) 4) (exV .u8 (((List.drop (0+n_10.toNat*1) [AV.int
 .u8 a,AV.int .u8 b,AV.int .u8 c,AV.int .u8 d]).take 1).getD 0 AV.undef) fun n_11=>exW .u8 (n_7*n_11) fun n_12=>exW .u8 (n_4+n_12) fun n_13=>exS (.str [toB (.int .u8 n_13)]) fun s_14=>ckQ (decide (x_0.length+s_14.length ≤
 9223372036854775807)&&true) (exS (.str (x_0++s_14)) fun s_15=>exI .i64 (x_0.length:Int) fun n_16=>exW .i64 (n_16+1) fun n_17=>(True∧(0:Nat)=(0:Nat))∧∃y_18:List UInt8,Lf (y_18.length≤32)∧32-y_18.length<32
 - x_0.length∧eqqQ [AV.int .u8 a,.int .u8 b,.int .u8 c,.int .u8 d]∧eqqQ (AV.ptr 0 4 0)∧AV.str s_15=AV.str y_18∧AV.int .i64 n_17=AV.int .i64 (y_18.length:Int)∧True))))) else Q (.ret (.str x_0)) [] {}):=by kernel_rfl

def smW:SM:=lookS [(30,cRepeat),(8,cExpo),(31,cDerive),(11,cMast),(13,cRec)]
theorem smW_ok:∀f g,smW f=some g→ValidF Tryz.prog gl0 f g:=lookS_ok _ (by simp only[List.mem_cons,List.not_mem_nil,or_false,forall_eq_or_imp,forall_eq];exact ⟨repeat_ok,expo_ok,derive_ok,mast_ok,rec_ok13⟩)
noncomputable def goal_5 (hv:Nat→Option Pa) (hb:Nat→Option Bool) (Q:Out→List Blk→Gh→Prop):Prop:=
 callx (e18 smW (fun _=>none) hv hb) (wpx (e18 smW (fun _=>none) hv hb) 1000) 10 [] [] {} Q
theorem vc_5 (Q:Out→List Blk→Gh→Prop):goal_5 (lookV [(41054,.int .i64),(41059,.int .i64),(41064,.str),(41066,.str),(41072,.str),(41074,.str),(41081,.str)]) (lookB []) Q=(Lf (List.length [120]≤9223372036854775807)
 ∧ ∀s_0:List UInt8,∀e_1:Int,Lf (expoM (repM [UInt8.ofNat 7] 32) [] [120] 40=Prod.mk s_0 e_1)→Lf ((repM [UInt8.ofNat 7] 32).length≤4096∧([]:List UInt8).length≤4096∧List.length [116,97,110,110,111,121,32,120] ≤
 4096∧(0:Int)≤(255:Int)∧(255:Int)≤(255:Int))∧∀o_2:List UInt8,Lf (o_2=deriveSM (repM [UInt8.ofNat 7] 32) [] [116,97,110,110,111,121,32,120] (Int.toNat 255))→∀s_3:List UInt8,∀e_4:Int,Lf (mastM (repM
 [UInt8.ofNat 7] 32) 0=Prod.mk s_3 e_4)→∀s_5:List UInt8,∀e_6:Int,Lf (mastM (repM [UInt8.ofNat 7] 32) 1=Prod.mk s_5 e_6)→Lf ((repM [UInt8.ofNat 7] 32).length≤4096∧([]:List UInt8).length≤4096∧List.length [116,97,
 110,110,111,121,32,110,101,120,116]≤4096∧(0:Int)≤(32:Int)∧(32:Int)≤(255:Int))∧∀o_7:List UInt8,Lf (o_7=deriveSM (repM [UInt8.ofNat 7] 32) [] [116,97,110,110,111,121,32,110,101,120,116] (Int.toNat
 32))→∀k1_8 s1_9 k2_10 s2_11:List UInt8,Lf (recM (recSM (repM [UInt8.ofNat 7] 32) 3) true=Prod.mk k1_8 (Prod.mk s1_9 (Prod.mk k2_10 s2_11)))→∀s_12:List UInt8,∀e_13:Int,Lf (mastM (repM [UInt8.ofNat 7] 32) 3=Prod.mk s_12
 e_13)→Lf (s_12.length≤4096∧([]:List UInt8).length≤4096∧List.length [116,97,110,110,111,121,32,114,101,99,111,114,100,115]≤4096∧(0:Int)≤(88:Int)∧(88:Int)≤(255:Int))∧∀o_14:List UInt8,Lf (o_14
 = deriveSM s_12 [] [116,97,110,110,111,121,32,114,101,99,111,114,100,115] (Int.toNat 88))→bif e_1 !=0 then Q (.ret (.bool false)) [] {} else bif e_4 !=0 then Q (.ret (.bool false)) [] {} else bif e_6 !=0 then Q (.ret
 (.bool false)) [] {} else bif e_13 !=0 then Q (.ret (.bool false)) [] {} else exI .i64 (o_2.length:Int) fun n_15=>bif n_15 !=255 then Q (.ret (.bool false)) [] {} else exI .i64 (o_14.length:Int) fun n_16=>bif n_16 !=88 then Q
 (.ret (.bool false)) [] {} else ckQ (Nat.ble 32 o_14.length) (exS (.str ((o_14.drop 0).take 32)) fun s_17=>ckQ (Nat.ble 44 o_14.length) (exS (.str ((o_14.drop 32).take 12)) fun s_18=>bif eqB k1_8 s_17&&(eqB s1_9 s_18&&true) then
 ckQ (Nat.ble 76 o_14.length) (exS (.str ((o_14.drop 44).take 32)) fun s_19=>ckQ (Nat.ble 76 o_14.length&&Nat.ble o_14.length o_14.length) (exS (.str ((o_14.drop 76).take (o_14.length-76))) fun s_20=>bif eqB k2_10 s_19&&(eqB s2_11
 s_20&&true) then ckQ (Nat.ble 40 o_2.length) (exS (.str ((o_2.drop 0).take 40)) fun s_21=>bif eqB s_0 s_21 then bif eqB s_3 (repM [UInt8.ofNat 7] 32) then bif eqB s_5 o_7 then Q (.ret (.bool true)) [] {} else Q (.ret (.bool false)) []
 {} else Q (.ret (.bool false)) [] {} else Q (.ret (.bool false)) [] {}) else ckQ (Nat.ble 40 o_2.length) (exS (.str ((o_2.drop 0).take 40)) fun s_21=>bif eqB s_0 s_21 then bif eqB s_3 (repM [UInt8.ofNat 7] 32) then bif eqB s_5 o_7 then Q
 (.ret (.bool false)) [] {} else Q (.ret (.bool false)) [] {} else Q (.ret (.bool false)) [] {} else Q (.ret (.bool false)) [] {}))) else ckQ (Nat.ble 40 o_2.length) (exS (.str ((o_2.drop 0).take 40)) fun s_19=>bif eqB s_0 s_19 then bif
 eqB s_3 (repM [UInt8.ofNat 7] 32) then bif eqB s_5 o_7 then Q (.ret (.bool false)) [] {} else Q (.ret (.bool false)) [] {} else Q (.ret (.bool false)) [] {} else Q (.ret (.bool false)) [] {})))):=by kernel_rfl

end Go.Proofs.YtjenieljapmehaaGreatDoor
