/-
  Chapter 21: Secret, works, proved; residuals of ExportRounds and ExportKnown.
-/
import Derived.Test.YtjenieljapmehaaDoorD21Z
set_option linter.unusedSimpArgs false
set_option linter.unusedVariables false
set_option linter.unusedSectionVars false
namespace Go.Proofs.YtjenieljapmehaaDoor
open Go.RowKit
set_option maxRecDepth 1000000

theorem mast_at {m:List UInt8} (h:m.length=32) {r:Int} (h1:0≤r) (h2:r≤1000):mastM m r=(ofSM m r.toNat,0):=by
 rw[mastM,if_pos (show okRndM m r=true from decide_eq_true ⟨h,h1,h2⟩)]
theorem expo_at {m c l:List UInt8} {n:Int} (h:m.length=32) (hc:c.length≤64) (hl:l≠[]) (ht:trimM l=[]) (hl2:l.length≤24) (h1:1≤n) (h2:n≤255):expoM m c l n=(octSM m c l n,0):=by
 rw[expoM,if_pos ⟨hl,ht,hl2,show okOctM m c n=true from decide_eq_true ⟨h,hc,h1,h2⟩⟩]
theorem works_run (Q:Out→List Blk→Gh→Prop) (hq:Q (.ret (.bool true)) [] {}):∃hv hb,goal_5 hv hb Q:=by
 obtain ⟨hv',hb',e'⟩:∃hv hb,goal_5 hv hb Q=_:=⟨_,_,vc_5 Q⟩
 refine ⟨hv',hb',e'.mpr ?_⟩
 clear e'
 have hm:(repM [UInt8.ofNat 7] 32).length=32:=by kernel_rfl
 obtain ⟨m,hM⟩:∃m,repM [UInt8.ofNat 7] 32=m:=⟨_,rfl⟩
 rw[hM]
 rw[hM] at hm
 clear hM
 refine ⟨⟨by simp⟩, ?_⟩
 rintro s0 e1 ⟨h01⟩
 rw[expo_at hm (by simp) (by simp) (by kernel_rfl) (by simp) (by omega) (by omega)] at h01
 cases h01
 refine ⟨⟨by omega,by simp,by simp,by omega,by omega⟩, ?_⟩
 rintro o2 ⟨e2⟩
 rintro s3 e4 ⟨h34⟩
 rw[mast_at hm (by omega) (by omega)] at h34
 cases h34
 rintro s5 e6 ⟨h56⟩
 rw[mast_at hm (by omega) (by omega)] at h56
 cases h56
 refine ⟨⟨by omega,by simp,by simp,by omega,by omega⟩, ?_⟩
 rintro o7 ⟨e7⟩
 rintro k1 s1 k2 s2 ⟨hr⟩
 rw[recM,if_pos rfl] at hr
 cases hr
 rintro s12 e13 ⟨h12⟩
 rw[mast_at hm (by omega) (by omega)] at h12
 cases h12
 have hl3:=of_len hm 3
 refine ⟨⟨by show (ofSM m 3).length≤4096;omega,by simp,by simp,by omega,by omega⟩, ?_⟩
 rintro o14 ⟨e14⟩
 have e14:o14=recSM m 3:=e14
 have l14:o14.length=88:=by rw[e14];exact oct_len (by omega) (by omega)
 have l2:o2.length=255:=by rw[e2];exact derive_len _ _ _ (by omega)
 rw[←e14]
 refine ckN rfl (ckN rfl (ckN rfl (ckN rfl ⟨_,rfl,ckN (by rw[l2];rfl) ⟨_,rfl,ckN (by rw[l14];rfl) (ckI (by rw[l14];rfl) ⟨_,rfl,ckI (by rw[l14];rfl) ⟨_,rfl,ckT ?_ (ckI (by rw[l14];rfl) ⟨_,rfl,ckI (by rw[l14];rfl) ⟨_,rfl,ckT ?_ (ckI (by rw[l2];rfl) ⟨_,rfl,ckT ?_ (ckT ?_ (ckT ?_ hq))⟩)⟩⟩)⟩⟩)⟩⟩)))
 ·simp[eqB_t]
 ·have:List.take (o14.length-76) (List.drop 76 o14)=List.take 12 (List.drop 76 o14):=by rw[l14]
  simp[eqB_t,this]
 ·rw[eqB_t,List.drop_zero,e2]
  exact (derive_take m [] (lblM [120]) (n:=40) (m:=255) (by omega)).symm
 ·exact eqB_t.2 rfl
 ·rw[eqB_t,e7]
  rfl
theorem works_ok21:ValidF Tryd.prog gl0 5 cTrue:=by
 refine valid_flat (enters_of (by kernel_rfl)) gl0_noY fun args H Q hc => ?_
 unfold cTrue at hc
 split at hc
 ·obtain ⟨hv,hb',h⟩:=works_run (Q:=fun o H' _=>H'=[]∧(∃v,o=.ret v∧old 0 v=true∧noY v=true)∧Q o H) ⟨rfl,⟨_,rfl,rfl,rfl⟩,hc⟩
  exact ⟨rfl,rfl,_,1000,envFor18 smW_ok _ hv hb',rfl,h⟩
 ·exact hc.elim
def smK:SM:=lookS [(5,cTrue),(10,cRepeat),(15,cDerive),(7,cMast),(8,cExpo),(13,cRec),(14,cMed)]
theorem smK_ok:∀f g,smK f=some g→ValidF Tryd.prog gl0 f g:=lookS_ok _ (by simp only[List.mem_cons,List.not_mem_nil,or_false,forall_eq_or_imp,forall_eq];exact ⟨works_ok21,repeat_ok,derive_ok,mast_ok,expo_ok,rec_ok13,med_ok14⟩)
noncomputable def goal_4 (hv:Nat→Option Pa) (hb:Nat→Option Bool) (Q:Out→List Blk→Gh→Prop):Prop:=
 callx (e18 smK (fun _=>none) hv hb) (wpx (e18 smK (fun _=>none) hv hb) 1000) 4 [] [] {} Q
def vc_4_1:Prop:=(
(((List.length (repM ((UInt8.ofNat (7:Nat))::[]) (32:Nat)))≤(4096:Nat)) ∧
 (((List.length ([]:List UInt8))≤(4096:Nat)) ∧
 (((List.length ((116:UInt8)::((97:UInt8)::((110:UInt8)::((110:UInt8)::((111:UInt8)::((121:UInt8)::((32:UInt8)::((109:UInt8)::((101:UInt8)::((100:UInt8)::((105:UInt8)::((97:UInt8)::[])))))))))))))≤(4096:Nat)) ∧
 (((0:Int)≤(152:Int)) ∧
 ((152:Int)≤(255:Int)))))))
def vc_4_2 (Q:Out→List Blk→Gh→Prop):Prop:=
∀s_0:List UInt8,∀e_1:Int,Lf (mastM (repM [UInt8.ofNat 7] 32) 1001=Prod.mk s_0 e_1)→∀s_2:List UInt8,∀e_3:Int,Lf (mastM (repM [UInt8.ofNat 7] 32) 1000=Prod.mk s_2 e_3)→∀s_4:List UInt8,∀e_5:Int,Lf (mastM (repM
 [UInt8.ofNat 7] 32) 999=Prod.mk s_4 e_5)→∀s_6:List UInt8,∀e_7:Int,Lf (mastM s_4 1=Prod.mk s_6 e_7)→∀k1_8 s1_9 x1_10 k2_11 s2_12 x2_13:List UInt8,Lf (medM (medSM (repM [UInt8.ofNat 7] 32) 0) false=Prod.mk k1_8 (Prod.mk
 s1_9 (Prod.mk x1_10 (Prod.mk k2_11 (Prod.mk s2_12 x2_13)))))→Lf vc_4_1∧∀o_14:List UInt8,Lf (o_14=deriveSM (repM [UInt8.ofNat 7] 32) [] [116,97,110,110,111,121,32,109,101,100,105,97] (Int.toNat 152))→exI .i64
 (o_14.length:Int) fun n_15=>bif n_15 !=152 then Q (.ret (.bool false)) [] {} else ckQ (Nat.ble 32 o_14.length) (exS (.str ((o_14.drop 0).take 32)) fun s_16=>ckQ (Nat.ble 44 o_14.length) (exS (.str ((o_14.drop 32).take 12)) fun s_17
 => ckQ (Nat.ble 76 o_14.length) (exS (.str ((o_14.drop 44).take 32)) fun s_18=>bif eqB k2_11 s_16&&(eqB s2_12 s_17&&(eqB x2_13 s_18&&true)) then ckQ (Nat.ble 108 o_14.length) (exS (.str ((o_14.drop 76).take 32)) fun s_19=>ckQ
 (Nat.ble 120 o_14.length) (exS (.str ((o_14.drop 108).take 12)) fun s_20=>ckQ (Nat.ble 120 o_14.length&&Nat.ble o_14.length o_14.length) (exS (.str ((o_14.drop 120).take (o_14.length-120))) fun s_21=>bif eqB k1_8 s_19&&(eqB s1_9
 s_20&&(eqB x1_10 s_21&&true)) then Q (.ret (.bool false)) [] {} else Q (.ret (.bool false)) [] {}))) else Q (.ret (.bool false)) [] {})))
theorem vc_4 (Q:Out→List Blk→Gh→Prop):goal_4 (lookV [(49171,.int .i64),(16537,.int .i64),(16545,.str),(16547,.str),(16549,.str),(16556,.str),(16558,.str),(16560,.str)]) (lookB []) Q=(Lf (List.length [UInt8.ofNat
 88]≤9223372036854775807)∧∀s_0:List UInt8,∀e_1:Int,Lf (expoM (repM [UInt8.ofNat 7] 32) [] [UInt8.ofNat 88] 1=Prod.mk s_0 e_1)→bif eqB s_0 [] then bif e_1==2 then Lf (List.length [UInt8.ofNat 120]≤9223372036854775807)∧∀
 s_2:List UInt8,∀e_3:Int,Lf (expoM (repM [UInt8.ofNat 7] 32) [] [UInt8.ofNat 120] 0=Prod.mk s_2 e_3)→bif eqB s_2 [] then bif e_3==2 then Lf (List.length [UInt8.ofNat 120]≤9223372036854775807)∧∀s_4:List UInt8,∀e_5 :
 Int,Lf (expoM (repM [UInt8.ofNat 7] 32) [] [UInt8.ofNat 120] 256=Prod.mk s_4 e_5)→bif eqB s_4 [] then bif e_5==2 then Lf (([]:List UInt8).length≤9223372036854775807)∧∀s_6:List UInt8,∀e_7:Int,Lf (expoM (repM
 [UInt8.ofNat 7] 32) [] [] 1=Prod.mk s_6 e_7)→bif eqB s_6 [] then bif e_7==2 then Lf (List.length [UInt8.ofNat 120]≤9223372036854775807)∧∀s_8:List UInt8,∀e_9:Int,Lf (expoM [UInt8.ofNat 7,UInt8.ofNat 7,UInt8.ofNat 7,
 UInt8.ofNat 7,UInt8.ofNat 7,UInt8.ofNat 7,UInt8.ofNat 7,UInt8.ofNat 7,UInt8.ofNat 7,UInt8.ofNat 7,UInt8.ofNat 7,UInt8.ofNat 7,UInt8.ofNat 7,UInt8.ofNat 7,UInt8.ofNat 7,UInt8.ofNat 7,UInt8.ofNat 7,UInt8.ofNat 7,UInt8.ofNat 7,
 UInt8.ofNat 7,UInt8.ofNat 7,UInt8.ofNat 7,UInt8.ofNat 7,UInt8.ofNat 7,UInt8.ofNat 7,UInt8.ofNat 7,UInt8.ofNat 7,UInt8.ofNat 7,UInt8.ofNat 7,UInt8.ofNat 7,UInt8.ofNat 7] [] [UInt8.ofNat 120] 1=Prod.mk s_8 e_9)→bif eqB s_8 []
 then bif e_9==2 then Lf (List.length [UInt8.ofNat 120]≤9223372036854775807)∧∀s_10:List UInt8,∀e_11:Int,Lf (expoM [UInt8.ofNat 7,UInt8.ofNat 7,UInt8.ofNat 7,UInt8.ofNat 7,UInt8.ofNat 7,UInt8.ofNat 7,UInt8.ofNat 7,
 UInt8.ofNat 7,UInt8.ofNat 7,UInt8.ofNat 7,UInt8.ofNat 7,UInt8.ofNat 7,UInt8.ofNat 7,UInt8.ofNat 7,UInt8.ofNat 7,UInt8.ofNat 7,UInt8.ofNat 7,UInt8.ofNat 7,UInt8.ofNat 7,UInt8.ofNat 7,UInt8.ofNat 7,UInt8.ofNat 7,UInt8.ofNat 7,
 UInt8.ofNat 7,UInt8.ofNat 7,UInt8.ofNat 7,UInt8.ofNat 7,UInt8.ofNat 7,UInt8.ofNat 7,UInt8.ofNat 7,UInt8.ofNat 7,UInt8.ofNat 7,UInt8.ofNat 120] [] [UInt8.ofNat 120] 1=Prod.mk s_10 e_11)→bif eqB s_10 [] then bif e_11==2 then
 Lf (List.length [UInt8.ofNat 122,UInt8.ofNat 122,UInt8.ofNat 122,UInt8.ofNat 122,UInt8.ofNat 122,UInt8.ofNat 122,UInt8.ofNat 122,UInt8.ofNat 122,UInt8.ofNat 122,UInt8.ofNat 122,UInt8.ofNat 122,UInt8.ofNat 122,UInt8.ofNat 122,
 UInt8.ofNat 122,UInt8.ofNat 122,UInt8.ofNat 122,UInt8.ofNat 122,UInt8.ofNat 122,UInt8.ofNat 122,UInt8.ofNat 122,UInt8.ofNat 122,UInt8.ofNat 122,UInt8.ofNat 122,UInt8.ofNat 122,UInt8.ofNat 122]≤9223372036854775807)∧∀s_12 :
 List UInt8,∀e_13:Int,Lf (expoM (repM [UInt8.ofNat 7] 32) [] [UInt8.ofNat 122,UInt8.ofNat 122,UInt8.ofNat 122,UInt8.ofNat 122,UInt8.ofNat 122,UInt8.ofNat 122,UInt8.ofNat 122,UInt8.ofNat 122,UInt8.ofNat 122,UInt8.ofNat 122,
 UInt8.ofNat 122,UInt8.ofNat 122,UInt8.ofNat 122,UInt8.ofNat 122,UInt8.ofNat 122,UInt8.ofNat 122,UInt8.ofNat 122,UInt8.ofNat 122,UInt8.ofNat 122,UInt8.ofNat 122,UInt8.ofNat 122,UInt8.ofNat 122,UInt8.ofNat 122,UInt8.ofNat 122,
 UInt8.ofNat 122] 1=Prod.mk s_12 e_13)→bif eqB s_12 [] then bif e_13==2 then Lf (List.length [UInt8.ofNat 120]≤9223372036854775807)∧∀s_14:List UInt8,∀e_15:Int,Lf (expoM (repM [UInt8.ofNat 7] 32) [UInt8.ofNat 255,
 UInt8.ofNat 255,UInt8.ofNat 255,UInt8.ofNat 255,UInt8.ofNat 255,UInt8.ofNat 255,UInt8.ofNat 255,UInt8.ofNat 255,UInt8.ofNat 255,UInt8.ofNat 255,UInt8.ofNat 255,UInt8.ofNat 255,UInt8.ofNat 255,UInt8.ofNat 255,UInt8.ofNat 255,
 UInt8.ofNat 255,UInt8.ofNat 255,UInt8.ofNat 255,UInt8.ofNat 255,UInt8.ofNat 255,UInt8.ofNat 255,UInt8.ofNat 255,UInt8.ofNat 255,UInt8.ofNat 255,UInt8.ofNat 255,UInt8.ofNat 255,UInt8.ofNat 255,UInt8.ofNat 255,UInt8.ofNat 255,
 UInt8.ofNat 255,UInt8.ofNat 255,UInt8.ofNat 255,UInt8.ofNat 255,UInt8.ofNat 255,UInt8.ofNat 255,UInt8.ofNat 255,UInt8.ofNat 255,UInt8.ofNat 255,UInt8.ofNat 255,UInt8.ofNat 255,UInt8.ofNat 255,UInt8.ofNat 255,UInt8.ofNat 255,
 UInt8.ofNat 255,UInt8.ofNat 255,UInt8.ofNat 255,UInt8.ofNat 255,UInt8.ofNat 255,UInt8.ofNat 255,UInt8.ofNat 255,UInt8.ofNat 255,UInt8.ofNat 255,UInt8.ofNat 255,UInt8.ofNat 255,UInt8.ofNat 255,UInt8.ofNat 255,UInt8.ofNat 255,
 UInt8.ofNat 255,UInt8.ofNat 255,UInt8.ofNat 255,UInt8.ofNat 255,UInt8.ofNat 255,UInt8.ofNat 255,UInt8.ofNat 255,UInt8.ofNat 120] [UInt8.ofNat 120] 1=Prod.mk s_14 e_15)→bif eqB s_14 [] then bif e_15==2 then Lf (List.length
 [UInt8.ofNat 97,UInt8.ofNat 45,UInt8.ofNat 98]≤9223372036854775807)∧∀s_16:List UInt8,∀e_17:Int,Lf (expoM (repM [UInt8.ofNat 7] 32) [] [UInt8.ofNat 97,UInt8.ofNat 45,UInt8.ofNat 98] 1=Prod.mk s_16 e_17)→bif eqB s_16 []
 then bif e_17==2 then Lf (List.length [UInt8.ofNat 97,UInt8.ofNat 0]≤9223372036854775807)∧∀s_18:List UInt8,∀e_19:Int,Lf (expoM (repM [UInt8.ofNat 7] 32) [] [UInt8.ofNat 97,UInt8.ofNat 0] 1=Prod.mk s_18 e_19)→bif eqB
 s_18 [] then bif e_19==2 then Lf (List.length [UInt8.ofNat 120]≤9223372036854775807)∧∀s_20:List UInt8,∀e_21:Int,Lf (expoM (repM [UInt8.ofNat 7] 32) [] [UInt8.ofNat 120] (-1)=Prod.mk s_20 e_21)→bif eqB s_20 [] then bif
 e_21==2 then Lf ((repM [UInt8.ofNat 122] 24).length≤9223372036854775807)∧∀s_22:List UInt8,∀e_23:Int,Lf (expoM (repM [UInt8.ofNat 7] 32) (repM [UInt8.ofNat 255] 64) (repM [UInt8.ofNat 122] 24) 255=Prod.mk s_22 e_23)→exI
 .i64 (s_22.length:Int) fun n_24=>bif n_24==255 then bif e_23==0 then Lf (List.length [UInt8.ofNat 32]≤9223372036854775807)∧∀s_25:List UInt8,∀e_26:Int,Lf (expoM (repM [UInt8.ofNat 7] 32) [] [UInt8.ofNat 32] 1=Prod.mk
 s_25 e_26)→exI .i64 (s_25.length:Int) fun n_27=>bif n_27==1 then bif e_26==0 then Lf (List.length [UInt8.ofNat 48,UInt8.ofNat 32,UInt8.ofNat 57,UInt8.ofNat 32,UInt8.ofNat 97,UInt8.ofNat 32,UInt8.ofNat 122] ≤
 9223372036854775807)∧∀s_28:List UInt8,∀e_29:Int,Lf (expoM (repM [UInt8.ofNat 7] 32) [] [UInt8.ofNat 48,UInt8.ofNat 32,UInt8.ofNat 57,UInt8.ofNat 32,UInt8.ofNat 97,UInt8.ofNat 32,UInt8.ofNat 122] 32=Prod.mk s_28 e_29) →
 exI .i64 (s_28.length:Int) fun n_30=>bif n_30==32 then bif e_29==0 then ∀s_31:List UInt8,∀e_32:Int,Lf (mastM (repM [UInt8.ofNat 7] 32) 1001=Prod.mk s_31 e_32)→∀s_33:List UInt8,∀e_34:Int,Lf (mastM (repM
 [UInt8.ofNat 7] 32) 1000=Prod.mk s_33 e_34)→∀s_35:List UInt8,∀e_36:Int,Lf (mastM (repM [UInt8.ofNat 7] 32) 999=Prod.mk s_35 e_36)→∀s_37:List UInt8,∀e_38:Int,Lf (mastM s_35 1=Prod.mk s_37 e_38)→∀k1_39 s1_40
 x1_41 k2_42 s2_43 x2_44:List UInt8,Lf (medM (medSM (repM [UInt8.ofNat 7] 32) 0) false=Prod.mk k1_39 (Prod.mk s1_40 (Prod.mk x1_41 (Prod.mk k2_42 (Prod.mk s2_43 x2_44)))))→Lf vc_4_1∧∀o_45:List UInt8,Lf (o_45=deriveSM (repM
 [UInt8.ofNat 7] 32) [] [116,97,110,110,111,121,32,109,101,100,105,97] (Int.toNat 152))→exI .i64 (o_45.length:Int) fun n_46=>bif n_46 !=152 then Q (.ret (.bool false)) [] {} else ckQ (Nat.ble 32 o_45.length) (exS (.str
 ((o_45.drop 0).take 32)) fun s_47=>ckQ (Nat.ble 44 o_45.length) (exS (.str ((o_45.drop 32).take 12)) fun s_48=>ckQ (Nat.ble 76 o_45.length) (exS (.str ((o_45.drop 44).take 32)) fun s_49=>bif eqB k2_42 s_47&&(eqB s2_43 s_48&&(eqB
 x2_44 s_49&&true)) then ckQ (Nat.ble 108 o_45.length) (exS (.str ((o_45.drop 76).take 32)) fun s_50=>ckQ (Nat.ble 120 o_45.length) (exS (.str ((o_45.drop 108).take 12)) fun s_51=>ckQ (Nat.ble 120 o_45.length&&Nat.ble o_45.length
 o_45.length) (exS (.str ((o_45.drop 120).take (o_45.length-120))) fun s_52=>bif eqB k1_39 s_50&&(eqB s1_40 s_51&&(eqB x1_41 s_52&&true)) then bif e_32==2 then bif e_34==0 then bif e_36==0 then bif e_38==0 then bif eqB
 s_33 s_37 then Q (.ret (.bool true)) [] {} else Q (.ret (.bool false)) [] {} else Q (.ret (.bool false)) [] {} else Q (.ret (.bool false)) [] {} else Q (.ret (.bool false)) [] {} else Q (.ret (.bool false)) [] {} else bif e_32==2 then
 bif e_34==0 then bif e_36==0 then bif e_38==0 then bif eqB s_33 s_37 then Q (.ret (.bool false)) [] {} else Q (.ret (.bool false)) [] {} else Q (.ret (.bool false)) [] {} else Q (.ret (.bool false)) [] {} else Q (.ret (.bool false))
 [] {} else Q (.ret (.bool false)) [] {}))) else bif e_32==2 then bif e_34==0 then bif e_36==0 then bif e_38==0 then bif eqB s_33 s_37 then Q (.ret (.bool false)) [] {} else Q (.ret (.bool false)) [] {} else Q (.ret (.bool false))
 [] {} else Q (.ret (.bool false)) [] {} else Q (.ret (.bool false)) [] {} else Q (.ret (.bool false)) [] {}))) else vc_4_2 Q else vc_4_2 Q else vc_4_2 Q else vc_4_2 Q else vc_4_2 Q else vc_4_2 Q else vc_4_2 Q else vc_4_2 Q else vc_4_2 Q
 else vc_4_2 Q else vc_4_2 Q else vc_4_2 Q else vc_4_2 Q else vc_4_2 Q else vc_4_2 Q else vc_4_2 Q else vc_4_2 Q else vc_4_2 Q else vc_4_2 Q else vc_4_2 Q else vc_4_2 Q else vc_4_2 Q else vc_4_2 Q else vc_4_2 Q else vc_4_2 Q else vc_4_2 Q
 else vc_4_2 Q else vc_4_2 Q):=by kernel_rfl

end Go.Proofs.YtjenieljapmehaaDoor
