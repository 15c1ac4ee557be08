/-
  Chapter 21: Media, proved; residuals of Secret and works.
-/
import Derived.Test.YtjenieljapmehaaDoorD21Y
set_option linter.unusedSimpArgs false
set_option linter.unusedVariables false
set_option linter.unusedSectionVars false
namespace Go.Proofs.YtjenieljapmehaaDoor
open Go.RowKit
set_option maxRecDepth 1000000

def medBM:List UInt8:=[109,101,100,105,97]
def medSM (m:List UInt8) (r:Int):List UInt8:=octSM (ofSM m r.toNat) [] medBM 152
def medM (o:List UInt8) (c:Bool):List UInt8×List UInt8×List UInt8×List UInt8×List UInt8×List UInt8:=
 if c=true then (o.take 32,(o.drop 32).take 12,(o.drop 44).take 32,(o.drop 76).take 32,(o.drop 108).take 12,(o.drop 120).take 32) else ((o.drop 76).take 32,(o.drop 108).take 12,(o.drop 120).take 32,o.take 32,(o.drop 32).take 12,(o.drop 44).take 32)
def cMed:Con
 | [.str m,.int .i64 r,.bool c],H,K=>bif okRndM m r then (∀k1 s1 x1 k2 s2 x2,Lf (medM (medSM m r) c=(k1,s1,x1,k2,s2,x2))→K (.ret (.tup [.agg [.str k1,.str s1,.str x1],.agg [.str k2,.str s2,.str x2],.int .i64 0])) H)
  else K (.ret (.tup [.agg [.str [],.str [],.str []],.agg [.str [],.str [],.str []],.int .i64 2])) H
 | _,_,_=>False
theorem med_ok14:ValidF Tryd.prog gl0 14 cMed:=by
 refine valid_flat (enters_of (by kernel_rfl)) gl0_noY fun args H Q hc => ?_
 unfold cMed at hc
 split at hc
 ·rename_i m r c
  obtain ⟨hv',hb',e'⟩:∃hv hb,goal_14 hv hb m r c (fun o H' _=>H'=[]∧(∃v,o=.ret v∧old 0 v=true∧noY v=true)∧Q o H)=_:=⟨_,_,vc_14 m r c _⟩
  refine ⟨rfl,rfl,_,1000,envFor18 (smR_ok hv' hb') _ hv' hb',rfl,e'.mpr ?_⟩
  clear e'
  refine ⟨rfl, ?_⟩
  cases h:okRndM m r with
  | false=>
   rw[h] at hc
   cases c<;>exact ⟨rfl,rfl,⟨_,rfl,rfl,rfl⟩,hc⟩
  | true=>
   rw[h] at hc
   have hh:=of_decide_eq_true h
   have hlo:=of_len hh.1 r.toNat
   have hok:okOctM (ofSM m r.toNat) [] 152=true:=decide_eq_true ⟨hlo,by simp,by omega,by omega⟩
   have hol:(medSM m r).length=152:=oct_len (by omega) (by omega)
   cases c <;>
   ·rintro o0 ⟨rfl⟩
    refine ⟨⟨by simp⟩, ?_⟩
    rw[hok]
    rintro o ⟨eo⟩
    have eo:o=medSM m r:=eo
    rw[←eo] at hol hc
    refine tkI (p:=0) (k:=32) rfl rfl (by omega) (by omega) (by omega) (by simp) ?_
    refine tkI (p:=32) (k:=12) rfl rfl (by omega) (by omega) (by omega) (by simp;omega) ?_
    refine tkI (p:=44) (k:=32) rfl rfl (by omega) (by omega) (by omega) (by simp;omega) ?_
    refine tkI (p:=76) (k:=32) rfl rfl (by omega) (by omega) (by omega) (by simp;omega) ?_
    refine tkI (p:=108) (k:=12) rfl rfl (by omega) (by omega) (by omega) (by simp;omega) ?_
    refine tkI (p:=120) (k:=32) rfl rfl (by omega) (by omega) (by omega) (by simp;omega) ?_
    exact ⟨rfl,ckI (by simp[eqAVL,eqAV,eqB_t]) ⟨rfl,⟨_,rfl,rfl,rfl⟩,hc _ _ _ _ _ _ ⟨rfl⟩⟩⟩
 ·exact hc.elim
def smW:SM:=lookS [(10,cRepeat),(8,cExpo),(15,cDerive),(7,cMast),(13,cRec)]
theorem smW_ok:∀f g,smW f=some g→ValidF Tryd.prog gl0 f g:=lookS_ok _ (by simp only[List.mem_cons,List.not_mem_nil,or_false,forall_eq_or_imp,forall_eq];exact ⟨repeat_ok,expo_ok,derive_ok,mast_ok,rec_ok13⟩)
noncomputable def goal_5 (hv:Nat→Option Pa) (hb:Nat→Option Bool) (Q:Out→List Blk→Gh→Prop):Prop:=
 callx (e18 smW (fun _=>none) hv hb) (wpx (e18 smW (fun _=>none) hv hb) 1000) 5 [] [] {} Q
theorem vc_5 (Q:Out→List Blk→Gh→Prop):goal_5 (lookV [(20574,.int .i64),(20579,.int .i64),(20584,.str),(20586,.str),(20592,.str),(20594,.str),(20601,.str)]) (lookB []) Q=(Lf (List.length [120]≤9223372036854775807)
 ∧ ∀s_0:List UInt8,∀e_1:Int,Lf (expoM (repM [UInt8.ofNat 7] 32) [] [120] 40=Prod.mk s_0 e_1)→Lf ((repM [UInt8.ofNat 7] 32).length≤4096∧([]:List UInt8).length≤4096∧List.length [116,97,110,110,111,121,32,120] ≤
 4096∧(0:Int)≤(255:Int)∧(255:Int)≤(255:Int))∧∀o_2:List UInt8,Lf (o_2=deriveSM (repM [UInt8.ofNat 7] 32) [] [116,97,110,110,111,121,32,120] (Int.toNat 255))→∀s_3:List UInt8,∀e_4:Int,Lf (mastM (repM
 [UInt8.ofNat 7] 32) 0=Prod.mk s_3 e_4)→∀s_5:List UInt8,∀e_6:Int,Lf (mastM (repM [UInt8.ofNat 7] 32) 1=Prod.mk s_5 e_6)→Lf ((repM [UInt8.ofNat 7] 32).length≤4096∧([]:List UInt8).length≤4096∧List.length [116,97,
 110,110,111,121,32,110,101,120,116]≤4096∧(0:Int)≤(32:Int)∧(32:Int)≤(255:Int))∧∀o_7:List UInt8,Lf (o_7=deriveSM (repM [UInt8.ofNat 7] 32) [] [116,97,110,110,111,121,32,110,101,120,116] (Int.toNat
 32))→∀k1_8 s1_9 k2_10 s2_11:List UInt8,Lf (recM (recSM (repM [UInt8.ofNat 7] 32) 3) true=Prod.mk k1_8 (Prod.mk s1_9 (Prod.mk k2_10 s2_11)))→∀s_12:List UInt8,∀e_13:Int,Lf (mastM (repM [UInt8.ofNat 7] 32) 3=Prod.mk s_12
 e_13)→Lf (s_12.length≤4096∧([]:List UInt8).length≤4096∧List.length [116,97,110,110,111,121,32,114,101,99,111,114,100,115]≤4096∧(0:Int)≤(88:Int)∧(88:Int)≤(255:Int))∧∀o_14:List UInt8,Lf (o_14
 = deriveSM s_12 [] [116,97,110,110,111,121,32,114,101,99,111,114,100,115] (Int.toNat 88))→bif e_1 !=0 then Q (.ret (.bool false)) [] {} else bif e_4 !=0 then Q (.ret (.bool false)) [] {} else bif e_6 !=0 then Q (.ret
 (.bool false)) [] {} else bif e_13 !=0 then Q (.ret (.bool false)) [] {} else exI .i64 (o_2.length:Int) fun n_15=>bif n_15 !=255 then Q (.ret (.bool false)) [] {} else exI .i64 (o_14.length:Int) fun n_16=>bif n_16 !=88 then Q
 (.ret (.bool false)) [] {} else ckQ (Nat.ble 32 o_14.length) (exS (.str ((o_14.drop 0).take 32)) fun s_17=>ckQ (Nat.ble 44 o_14.length) (exS (.str ((o_14.drop 32).take 12)) fun s_18=>bif eqB k1_8 s_17&&(eqB s1_9 s_18&&true) then
 ckQ (Nat.ble 76 o_14.length) (exS (.str ((o_14.drop 44).take 32)) fun s_19=>ckQ (Nat.ble 76 o_14.length&&Nat.ble o_14.length o_14.length) (exS (.str ((o_14.drop 76).take (o_14.length-76))) fun s_20=>bif eqB k2_10 s_19&&(eqB s2_11
 s_20&&true) then ckQ (Nat.ble 40 o_2.length) (exS (.str ((o_2.drop 0).take 40)) fun s_21=>bif eqB s_0 s_21 then bif eqB s_3 (repM [UInt8.ofNat 7] 32) then bif eqB s_5 o_7 then Q (.ret (.bool true)) [] {} else Q (.ret (.bool false)) []
 {} else Q (.ret (.bool false)) [] {} else Q (.ret (.bool false)) [] {}) else ckQ (Nat.ble 40 o_2.length) (exS (.str ((o_2.drop 0).take 40)) fun s_21=>bif eqB s_0 s_21 then bif eqB s_3 (repM [UInt8.ofNat 7] 32) then bif eqB s_5 o_7 then Q
 (.ret (.bool false)) [] {} else Q (.ret (.bool false)) [] {} else Q (.ret (.bool false)) [] {} else Q (.ret (.bool false)) [] {}))) else ckQ (Nat.ble 40 o_2.length) (exS (.str ((o_2.drop 0).take 40)) fun s_19=>bif eqB s_0 s_19 then bif
 eqB s_3 (repM [UInt8.ofNat 7] 32) then bif eqB s_5 o_7 then Q (.ret (.bool false)) [] {} else Q (.ret (.bool false)) [] {} else Q (.ret (.bool false)) [] {} else Q (.ret (.bool false)) [] {})))):=by kernel_rfl

end Go.Proofs.YtjenieljapmehaaDoor
