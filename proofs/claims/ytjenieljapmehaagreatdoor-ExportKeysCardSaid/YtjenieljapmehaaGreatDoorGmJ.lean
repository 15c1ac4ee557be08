/-
  Chapter 21: the reference's Master, Export, Records, Media, proved; residuals of ExportGives and ExportKeys.
-/
import Derived.Test.YtjenieljapmehaaGreatDoorG21RE
import Derived.Test.YtjenieljapmehaaGreatDoorG21DB
set_option linter.unusedSimpArgs false
set_option linter.unusedVariables false
set_option linter.unusedSectionVars false
namespace Go.Proofs.YtjenieljapmehaaGreatDoor
open Go.RowKit
set_option maxRecDepth 1000000

theorem mast_no {m:List UInt8} {r:Int} (h:¬ (m.length=32∧0≤r∧r≤1000)):mastM m r=([],2):=by
 rw[mastM,if_neg (show ¬ okRndM m r=true from fun k=>h (of_decide_eq_true k))]
theorem rnd_no {m:List UInt8} {r:Int} (h:¬ (m.length=32∧0≤r∧r≤1000)):okRndM m r=false:=decide_eq_false h
theorem neI {a b:Int} {A B:Prop} (h:a≠b→A) (k:a=b→B):bif a !=b then A else B:=by
 cases hb:(a !=b) with
 | true=>exact h (by simpa using hb)
 | false=>exact k (by simpa using hb)
def cMastR:Con
 | [.agg [.lst 0 sc 8 1,.lst 0 kc 64 1],.str m,.int .i64 r],H,K=>Lf (tabO sc kc)∧∀s e,Lf (mastM m r=(s,e))→K (.ret (.tup [.str s,.int .i64 e])) H
 | _,_,_=>False
theorem mastr_ok:ValidF Tryz.prog gl0 12 cMastR:=by
 refine valid_flat (enters_of (by kernel_rfl)) gl0_noY fun args H Q hc => ?_
 unfold cMastR at hc
 split at hc
 ·rename_i sc kc m r
  obtain ⟨⟨h1⟩,hq⟩:=hc
  obtain ⟨hv',hb',e'⟩:∃hv hb,goal_m12 hv hb sc kc m r (fun o H' _=>H'=[]∧(∃v,o=.ret v∧old 0 v=true∧noY v=true)∧Q o H)=_:=⟨_,_,vc_m12 sc kc m r _⟩
  have ht:=tab_flat sc kc h1
  refine ⟨by simp only[oldL,ht.1,old,Bool.and_self],by simp only[noYL,ht.2,noY,Bool.and_self],_,1000,envFor18 smE5_ok _ hv' hb',rfl,e'.mpr ?_⟩
  clear e'
  have no:¬ (m.length=32∧0≤r∧r≤1000)→([]:List Blk)=[]∧(∃v,Out.ret (.tup [.str [],.int .i64 2])=.ret v∧old 0 v=true∧noY v=true)∧Q (.ret (.tup [.str [],.int .i64 2])) H:=fun h=>⟨rfl,⟨_,rfl,rfl,rfl⟩,hq _ _ ⟨mast_no h⟩⟩
  refine ⟨_,rfl,neI (fun h=>no (by omega)) (fun hm=>splitD (fun h2=>splitD (fun h3=>⟨⟨h1,by omega,by omega,by omega⟩, ?_⟩) (fun h=>no (by omega))) (fun h=>no (by omega)))⟩
  rintro o ⟨rfl⟩
  exact ⟨rfl,⟨_,rfl,rfl,rfl⟩,hq _ _ ⟨mast_at (by omega) (by omega) (by omega)⟩⟩
 ·exact hc.elim
def recAM (m:List UInt8) (r:Int) (c:Bool):Int×List UInt8×List UInt8×List UInt8×List UInt8×Int×Int:=
 if okRndM m r=true then (r,(recM (recSM m r) c).1,(recM (recSM m r) c).2.1,(recM (recSM m r) c).2.2.1,(recM (recSM m r) c).2.2.2, -1,0) else (0,[],[],[],[],0,2)
def cRecU:Con
 | [.str m,.int .i64 r,.bool c],H,K=>∀ (p:Int) (k1 s1 k2 s2:List UInt8) (t e:Int),Lf (recAM m r c=(p,k1,s1,k2,s2,t,e))→K (.ret (.tup [.agg [.int .i64 p,.int .i64 0,.str k1,.str s1],.agg [.int .i64 p,.str k2,.str s2,.int .i64 t,.int .u64 0],.int .i64 e])) H
 | _,_,_=>False
theorem recu_ok:ValidF Tryz.prog gl0 13 cRecU:=by
 refine ⟨rec_ok13.1,fun args H Q hc=>rec_ok13.2 args H Q ?_⟩
 unfold cRecU at hc
 split at hc
 ·rename_i m r c
  show bif okRndM m r then _ else _
  cases h:okRndM m r with
  | true=>
   rintro k1 s1 k2 s2 ⟨e⟩
   exact hc r k1 s1 k2 s2 (-1) 0 ⟨by rw[recAM,if_pos h,e]⟩
  | false=>exact hc 0 [] [] [] [] 0 2 ⟨by rw[recAM,if_neg (by simp[h])]⟩
 ·exact hc.elim
def medAM (m:List UInt8) (r:Int) (c:Bool):List UInt8×List UInt8×List UInt8×List UInt8×List UInt8×List UInt8×Int:=
 if okRndM m r=true then ((medM (medSM m r) c).1,(medM (medSM m r) c).2.1,(medM (medSM m r) c).2.2.1,(medM (medSM m r) c).2.2.2.1,(medM (medSM m r) c).2.2.2.2.1,(medM (medSM m r) c).2.2.2.2.2,0) else ([],[],[],[],[],[],2)
def cMedU:Con
 | [.str m,.int .i64 r,.bool c],H,K=>∀ (k1 s1 x1 k2 s2 x2:List UInt8) (e:Int),Lf (medAM m r c=(k1,s1,x1,k2,s2,x2,e))→K (.ret (.tup [.agg [.str k1,.str s1,.str x1],.agg [.str k2,.str s2,.str x2],.int .i64 e])) H
 | _,_,_=>False
theorem medu_ok:ValidF Tryz.prog gl0 15 cMedU:=by
 refine ⟨med_ok14.1,fun args H Q hc=>med_ok14.2 args H Q ?_⟩
 unfold cMedU at hc
 split at hc
 ·rename_i m r c
  show bif okRndM m r then _ else _
  cases h:okRndM m r with
  | true=>
   rintro k1 s1 x1 k2 s2 x2 ⟨e⟩
   exact hc k1 s1 x1 k2 s2 x2 0 ⟨by rw[medAM,if_pos h,e]⟩
  | false=>exact hc [] [] [] [] [] [] 2 ⟨by rw[medAM,if_neg (by simp[h])]⟩
 ·exact hc.elim
end Go.Proofs.YtjenieljapmehaaGreatDoor

set_option linter.unusedSimpArgs false
set_option linter.unusedVariables false
set_option linter.unusedSectionVars false
namespace Go.Proofs.YtjenieljapmehaaGreatDoor
open Go.RowKit
set_option maxRecDepth 1000000

theorem table_ok21:ValidF Tryz.prog gl0 6 cTable:=table_ok
theorem iminI (x k:Int) (h:0≤x) (hk:0≤k):0≤imin x k∧imin x k≤x∧imin x k≤k:=by
 unfold imin
 split<;>omega
def cRecR:Con
 | [.agg [.lst 0 sc 8 1,.lst 0 kc 64 1],.str m,.int .i64 r,.bool c],H,K=>Lf (tabO sc kc)∧∀ (p:Int) (k1 s1 k2 s2:List UInt8) (t e:Int),Lf (recAM m r c=(p,k1,s1,k2,s2,t,e))→K (.ret (.tup [.agg [.int .i64 p,.int .i64 0,.str k1,.str s1],.agg [.int .i64 p,.str k2,.str s2,.int .i64 t,.int .u64 0],.int .i64 e])) H
 | _,_,_=>False
theorem recr_ok:ValidF Tryz.prog gl0 14 cRecR:=by
 refine valid_flat (enters_of (by kernel_rfl)) gl0_noY fun args H Q hc => ?_
 unfold cRecR at hc
 split at hc
 ·rename_i sc kc m r c
  obtain ⟨⟨h1⟩,hq⟩:=hc
  obtain ⟨hv',hb',e'⟩:∃hv hb,goal_m14 hv hb sc kc m r c (fun o H' _=>H'=[]∧(∃v,o=.ret v∧old 0 v=true∧noY v=true)∧Q o H)=_:=⟨_,_,vc_m14 sc kc m r c _⟩
  have ht:=tab_flat sc kc h1
  refine ⟨by simp only[oldL,ht.1,old,Bool.and_self],by simp only[noYL,ht.2,noY,Bool.and_self],_,1000,envFor18 smE5_ok _ hv' hb',rfl,e'.mpr ?_⟩
  clear e'
  by_cases h:m.length=32∧0≤r∧r≤1000
  ·have hk:okRndM m r=true:=decide_eq_true h
   have hol:(recSM m r).length=88:=oct_len (by omega) (by omega)
   have hlo:=of_len h.1 r.toNat
   refine ⟨_,rfl,neI (fun k=>absurd h.1 (by omega)) (fun _=>splitD (fun _=>splitD (fun _=>⟨⟨h1,h.1,h.2.1,h.2.2⟩, ?_⟩) (fun k=>absurd h.2.2 (by omega))) (fun k=>absurd h.2.1 (by omega)))⟩
   rintro o1 ⟨rfl⟩
   refine ckF ⟨⟨h1,by omega,by simp,by simp,by omega,by omega⟩, ?_⟩
   rintro o ⟨eo⟩
   have eo:o=recSM m r:=eo
   rw[←eo] at hol
   have l3:(List.take 44 (List.drop 0 o)).length=44:=by rw[List.length_take,List.drop_zero];omega
   have l4:(List.take (o.length-44) (List.drop 44 o)).length=44:=by rw[List.length_take,List.length_drop];omega
   have e1:List.take 32 (List.drop 0 (List.take 44 (List.drop 0 o)))=o.take 32:=by
    rw[List.drop_zero,List.drop_zero,List.take_take];rfl
   have e2:List.take (44-32) (List.drop 32 (List.take 44 (List.drop 0 o)))=(o.drop 32).take 12:=by
    rw[List.drop_zero,List.drop_take];simp[List.take_take]
   have e3:List.take 32 (List.drop 0 (List.take (o.length-44) (List.drop 44 o)))=(o.drop 44).take 32:=by
    rw[List.drop_zero,List.take_take,show min 32 (o.length-44)=32 by omega]
   have e4:List.take (44-32) (List.drop 32 (List.take (o.length-44) (List.drop 44 o)))=(o.drop 76).take 12:=by
    rw[List.drop_take,List.drop_drop,List.take_take,show min (44-32) (o.length-44-32)=12 by omega]
   refine ckI (by rw[hol];rfl) ⟨_,rfl,ckI (by rw[hol];rfl) ⟨_,rfl, ?_⟩⟩
   try dsimp only
   rw[l3,l4,e1,e2,e3,e4]
   cases c with
   | true=>
    refine ckI rfl ⟨_,rfl,ckI rfl ⟨_,rfl,ckI rfl ⟨_,rfl,ckI rfl ⟨_,rfl,rfl,⟨_,rfl,rfl,rfl⟩,hq _ _ _ _ _ _ _ ⟨?_⟩⟩⟩⟩⟩
    rw[recAM,if_pos hk,←eo,recM,if_pos rfl]
   | false=>
    refine ckI rfl ⟨_,rfl,ckI rfl ⟨_,rfl,ckI rfl ⟨_,rfl,ckI rfl ⟨_,rfl,rfl,⟨_,rfl,rfl,rfl⟩,hq _ _ _ _ _ _ _ ⟨?_⟩⟩⟩⟩⟩
    rw[recAM,if_pos hk,←eo,recM,if_neg (by simp)]
  ·have no:=hq _ _ _ _ _ _ _ ⟨show recAM m r c=_ by rw[recAM,if_neg (by rw[rnd_no h];simp)]⟩
   refine ⟨_,rfl,neI (fun _=>⟨rfl,⟨_,rfl,rfl,rfl⟩,no⟩) (fun k=>splitD (fun k2=>splitD (fun k3=>absurd (by omega) h) (fun _=>⟨rfl,⟨_,rfl,rfl,rfl⟩,no⟩)) (fun _=>⟨rfl,⟨_,rfl,rfl,rfl⟩,no⟩))⟩
 ·exact hc.elim
def cMedR:Con
 | [.agg [.lst 0 sc 8 1,.lst 0 kc 64 1],.str m,.int .i64 r,.bool c],H,K=>Lf (tabO sc kc)∧∀ (k1 s1 x1 k2 s2 x2:List UInt8) (e:Int),Lf (medAM m r c=(k1,s1,x1,k2,s2,x2,e))→K (.ret (.tup [.agg [.str k1,.str s1,.str x1],.agg [.str k2,.str s2,.str x2],.int .i64 e])) H
 | _,_,_=>False
theorem medr_ok:ValidF Tryz.prog gl0 16 cMedR:=by
 refine valid_flat (enters_of (by kernel_rfl)) gl0_noY fun args H Q hc => ?_
 unfold cMedR at hc
 split at hc
 ·rename_i sc kc m r c
  obtain ⟨⟨h1⟩,hq⟩:=hc
  obtain ⟨hv',hb',e'⟩:∃hv hb,goal_m16 hv hb sc kc m r c (fun o H' _=>H'=[]∧(∃v,o=.ret v∧old 0 v=true∧noY v=true)∧Q o H)=_:=⟨_,_,vc_m16 sc kc m r c _⟩
  have ht:=tab_flat sc kc h1
  refine ⟨by simp only[oldL,ht.1,old,Bool.and_self],by simp only[noYL,ht.2,noY,Bool.and_self],_,1000,envFor18 smE5_ok _ hv' hb',rfl,e'.mpr ?_⟩
  clear e'
  by_cases h:m.length=32∧0≤r∧r≤1000
  ·have hk:okRndM m r=true:=decide_eq_true h
   have hol:(medSM m r).length=152:=oct_len (by omega) (by omega)
   have hlo:=of_len h.1 r.toNat
   refine ⟨_,rfl,neI (fun k=>absurd h.1 (by omega)) (fun _=>splitD (fun _=>splitD (fun _=>⟨⟨h1,h.1,h.2.1,h.2.2⟩, ?_⟩) (fun k=>absurd h.2.2 (by omega))) (fun k=>absurd h.2.1 (by omega)))⟩
   rintro o1 ⟨rfl⟩
   refine ckF ⟨⟨h1,by omega,by simp,by simp,by omega,by omega⟩, ?_⟩
   rintro o ⟨eo⟩
   have eo:o=medSM m r:=eo
   rw[←eo] at hol
   have e8:List.take (o.length-120) (List.drop 120 o)=(o.drop 120).take 32:=by rw[hol]
   refine ckI (by rw[hol];rfl) ⟨_,rfl,ckI (by rw[hol];rfl) ⟨_,rfl,ckI (by rw[hol];rfl) ⟨_,rfl,ckI (by rw[hol];rfl) ⟨_,rfl,ckI (by rw[hol];rfl) ⟨_,rfl,ckI (by rw[hol];rfl) ⟨_,rfl, ?_⟩⟩⟩⟩⟩⟩
   try dsimp only
   rw[e8,List.drop_zero]
   cases c with
   | true=>exact ckF ⟨rfl,⟨_,rfl,rfl,rfl⟩,hq _ _ _ _ _ _ _ ⟨by rw[medAM,if_pos hk,←eo,medM,if_pos rfl]⟩⟩
   | false=>exact ckF ⟨rfl,⟨_,rfl,rfl,rfl⟩,hq _ _ _ _ _ _ _ ⟨by rw[medAM,if_pos hk,←eo,medM,if_neg (by simp)]⟩⟩
  ·have no:=hq _ _ _ _ _ _ _ ⟨show medAM m r c=_ by rw[medAM,if_neg (by rw[rnd_no h];simp)]⟩
   refine ⟨_,rfl,neI (fun _=>⟨rfl,⟨_,rfl,rfl,rfl⟩,no⟩) (fun k=>splitD (fun k2=>splitD (fun k3=>absurd (by omega) h) (fun _=>⟨rfl,⟨_,rfl,rfl,rfl⟩,no⟩)) (fun _=>⟨rfl,⟨_,rfl,rfl,rfl⟩,no⟩))⟩
 ·exact hc.elim
def smKy:SM:=lookS [(10,cTrue),(7,cSecret),(11,cMast),(12,cMastR),(13,cRecU),(14,cRecR),(15,cMedU),(16,cMedR),(6,cTable)]
theorem smKy_ok:∀f g,smKy f=some g→ValidF Tryz.prog gl0 f g:=lookS_ok _ (by simp only[List.mem_cons,List.not_mem_nil,or_false,forall_eq_or_imp,forall_eq];exact ⟨works_ok21,secret_ok,mast_ok,mastr_ok,recu_ok,recr_ok,medu_ok,medr_ok,table_ok21⟩)
noncomputable def goal_g4 (hv:Nat→Option Pa) (hb:Nat→Option Bool) (raw:List UInt8) (a b c d r sm:Int) (Q:Out→List Blk→Gh→Prop):Prop:=
 callx (e18 smKy (fun _=>none) hv hb) (wpx (e18 smKy (fun _=>none) hv hb) 1000) 4 [.str raw,.agg [.int .u8 a,.int .u8 b,.int .u8 c,.int .u8 d],.int .i64 r,.int .u8 sm] [] {} Q
def vc_g4_1 (raw:List UInt8) (r:Int) (sm:Int) (Q:Out→List Blk→Gh→Prop):Prop:=
exI .i64 (raw.length:Int) fun n_0=>exI .i64 (imin n_0 40) fun n_1=>ckQ (decide (0≤n_1)&&true&&Nat.ble n_1.toNat raw.length) (exS (.str ((raw.drop 0).take (n_1.toNat-0))) fun s_2=>∀s_3:List UInt8,Lf (s_3.length=32) →
 exI .u8 (sm.tmod 4) fun n_4=>exW .i64 n_4 fun n_5=>∀s_6:List UInt8,∀e_7:Int,Lf (mastM s_2 r=Prod.mk s_6 e_7)→Lf (tabO (cells6M startM) (cells6M kkM))∧∀s_8:List UInt8,∀e_9:Int,Lf (mastM s_2 r=Prod.mk s_8 e_9) →
 bif !eqB s_6 s_8 then Q (.ret (.bool false)) [] {} else bif e_7 !=e_9 then Q (.ret (.bool false)) [] {} else ∀p_10:Int,∀k1_11 s1_12 k2_13 s2_14:List UInt8,∀t_15 e_16:Int,Lf (recAM s_2 r false=Prod.mk p_10 (Prod.mk k1_11
 (Prod.mk s1_12 (Prod.mk k2_13 (Prod.mk s2_14 (Prod.mk t_15 e_16))))))→Lf (tabO (cells6M startM) (cells6M kkM))∧∀p_17:Int,∀k1_18 s1_19 k2_20 s2_21:List UInt8,∀t_22 e_23:Int,Lf (recAM s_2 r false=Prod.mk p_17 (Prod.mk k1_18
 (Prod.mk s1_19 (Prod.mk k2_20 (Prod.mk s2_21 (Prod.mk t_22 e_23))))))→∀k1_24 s1_25 x1_26 k2_27 s2_28 x2_29:List UInt8,∀e_30:Int,Lf (medAM s_2 r false=Prod.mk k1_24 (Prod.mk s1_25 (Prod.mk x1_26 (Prod.mk k2_27 (Prod.mk s2_28
 (Prod.mk x2_29 e_30))))))→Lf (tabO (cells6M startM) (cells6M kkM))∧∀k1_31 s1_32 x1_33 k2_34 s2_35 x2_36:List UInt8,∀e_37:Int,Lf (medAM s_2 r false=Prod.mk k1_31 (Prod.mk s1_32 (Prod.mk x1_33 (Prod.mk k2_34 (Prod.mk s2_35
 (Prod.mk x2_36 e_37))))))→bif !(p_10==p_17&&(eqB k1_11 k1_18&&(eqB s1_12 s1_19&&true))) then Q (.ret (.bool false)) [] {} else bif !(p_10==p_17&&(eqB k2_13 k2_20&&(eqB s2_14 s2_21&&(t_15==t_22&&true&&true)))) then Q
 (.ret (.bool false)) [] {} else bif e_16 !=e_23 then Q (.ret (.bool false)) [] {} else bif !(eqB k1_24 k1_31&&(eqB s1_25 s1_32&&(eqB x1_26 x1_33&&true))) then Q (.ret (.bool false)) [] {} else bif !(eqB k2_27 k2_34&&(eqB s2_28
 s2_35&&(eqB x2_29 x2_36&&true))) then Q (.ret (.bool false)) [] {} else bif e_30 !=e_37 then Q (.ret (.bool false)) [] {} else ∀p_38:Int,∀k1_39 s1_40 k2_41 s2_42:List UInt8,∀t_43 e_44:Int,Lf (recAM s_2 r true=Prod.mk
 p_38 (Prod.mk k1_39 (Prod.mk s1_40 (Prod.mk k2_41 (Prod.mk s2_42 (Prod.mk t_43 e_44))))))→Lf (tabO (cells6M startM) (cells6M kkM))∧∀p_45:Int,∀k1_46 s1_47 k2_48 s2_49:List UInt8,∀t_50 e_51:Int,Lf (recAM s_2 r true=Prod.mk
 p_45 (Prod.mk k1_46 (Prod.mk s1_47 (Prod.mk k2_48 (Prod.mk s2_49 (Prod.mk t_50 e_51))))))→∀k1_52 s1_53 x1_54 k2_55 s2_56 x2_57:List UInt8,∀e_58:Int,Lf (medAM s_2 r true=Prod.mk k1_52 (Prod.mk s1_53 (Prod.mk x1_54 (Prod.mk k2_55
 (Prod.mk s2_56 (Prod.mk x2_57 e_58))))))→Lf (tabO (cells6M startM) (cells6M kkM))∧∀k1_59 s1_60 x1_61 k2_62 s2_63 x2_64:List UInt8,∀e_65:Int,Lf (medAM s_2 r true=Prod.mk k1_59 (Prod.mk s1_60 (Prod.mk x1_61 (Prod.mk k2_62
 (Prod.mk s2_63 (Prod.mk x2_64 e_65))))))→bif !(p_38==p_45&&(eqB k1_39 k1_46&&(eqB s1_40 s1_47&&true))) then Q (.ret (.bool false)) [] {} else bif !(p_38==p_45&&(eqB k2_41 k2_48&&(eqB s2_42 s2_49&&(t_43==t_50&&true &&
 true)))) then Q (.ret (.bool false)) [] {} else bif e_44 !=e_51 then Q (.ret (.bool false)) [] {} else bif !(eqB k1_52 k1_59&&(eqB s1_53 s1_60&&(eqB x1_54 x1_61&&true))) then Q (.ret (.bool false)) [] {} else bif !(eqB k2_55 k2_62
 && (eqB s2_56 s2_63&&(eqB x2_57 x2_64&&true))) then Q (.ret (.bool false)) [] {} else bif e_58 !=e_65 then Q (.ret (.bool false)) [] {} else ∀s_66:List UInt8,∀e_67:Int,Lf (mastM s_2 n_5=Prod.mk s_66 e_67)→Lf (tabO (cells6M
 startM) (cells6M kkM))∧∀s_68:List UInt8,∀e_69:Int,Lf (mastM s_2 n_5=Prod.mk s_68 e_69)→bif !eqB s_66 s_68 then Q (.ret (.bool false)) [] {} else bif e_67 !=e_69 then Q (.ret (.bool false)) [] {} else ∀p_70:Int,∀k1_71
 s1_72 k2_73 s2_74:List UInt8,∀t_75 e_76:Int,Lf (recAM s_2 n_5 false=Prod.mk p_70 (Prod.mk k1_71 (Prod.mk s1_72 (Prod.mk k2_73 (Prod.mk s2_74 (Prod.mk t_75 e_76))))))→Lf (tabO (cells6M startM) (cells6M kkM))∧∀p_77:Int,∀
 k1_78 s1_79 k2_80 s2_81:List UInt8,∀t_82 e_83:Int,Lf (recAM s_2 n_5 false=Prod.mk p_77 (Prod.mk k1_78 (Prod.mk s1_79 (Prod.mk k2_80 (Prod.mk s2_81 (Prod.mk t_82 e_83))))))→∀k1_84 s1_85 x1_86 k2_87 s2_88 x2_89:List UInt8,∀
 e_90:Int,Lf (medAM s_2 n_5 false=Prod.mk k1_84 (Prod.mk s1_85 (Prod.mk x1_86 (Prod.mk k2_87 (Prod.mk s2_88 (Prod.mk x2_89 e_90))))))→Lf (tabO (cells6M startM) (cells6M kkM))∧∀k1_91 s1_92 x1_93 k2_94 s2_95 x2_96:List UInt8,∀
 e_97:Int,Lf (medAM s_2 n_5 false=Prod.mk k1_91 (Prod.mk s1_92 (Prod.mk x1_93 (Prod.mk k2_94 (Prod.mk s2_95 (Prod.mk x2_96 e_97))))))→bif !(p_70==p_77&&(eqB k1_71 k1_78&&(eqB s1_72 s1_79&&true))) then Q (.ret (.bool false))
 [] {} else bif !(p_70==p_77&&(eqB k2_73 k2_80&&(eqB s2_74 s2_81&&(t_75==t_82&&true&&true)))) then Q (.ret (.bool false)) [] {} else bif e_76 !=e_83 then Q (.ret (.bool false)) [] {} else bif !(eqB k1_84 k1_91&&(eqB s1_85
 s1_92&&(eqB x1_86 x1_93&&true))) then Q (.ret (.bool false)) [] {} else bif !(eqB k2_87 k2_94&&(eqB s2_88 s2_95&&(eqB x2_89 x2_96&&true))) then Q (.ret (.bool false)) [] {} else bif e_90 !=e_97 then Q (.ret (.bool false)) [] {}
 else ∀p_98:Int,∀k1_99 s1_100 k2_101 s2_102:List UInt8,∀t_103 e_104:Int,Lf (recAM s_2 n_5 true=Prod.mk p_98 (Prod.mk k1_99 (Prod.mk s1_100 (Prod.mk k2_101 (Prod.mk s2_102 (Prod.mk t_103 e_104))))))→Lf (tabO (cells6M startM)
 (cells6M kkM))∧∀p_105:Int,∀k1_106 s1_107 k2_108 s2_109:List UInt8,∀t_110 e_111:Int,Lf (recAM s_2 n_5 true=Prod.mk p_105 (Prod.mk k1_106 (Prod.mk s1_107 (Prod.mk k2_108 (Prod.mk s2_109 (Prod.mk t_110 e_111))))))→∀k1_112
 s1_113 x1_114 k2_115 s2_116 x2_117:List UInt8,∀e_118:Int,Lf (medAM s_2 n_5 true=Prod.mk k1_112 (Prod.mk s1_113 (Prod.mk x1_114 (Prod.mk k2_115 (Prod.mk s2_116 (Prod.mk x2_117 e_118))))))→Lf (tabO (cells6M startM) (cells6M kkM))
 ∧ ∀k1_119 s1_120 x1_121 k2_122 s2_123 x2_124:List UInt8,∀e_125:Int,Lf (medAM s_2 n_5 true=Prod.mk k1_119 (Prod.mk s1_120 (Prod.mk x1_121 (Prod.mk k2_122 (Prod.mk s2_123 (Prod.mk x2_124 e_125))))))→bif !(p_98==p_105&&(eqB
 k1_99 k1_106&&(eqB s1_100 s1_107&&true))) then Q (.ret (.bool false)) [] {} else bif !(p_98==p_105&&(eqB k2_101 k2_108&&(eqB s2_102 s2_109&&(t_103==t_110&&true&&true)))) then Q (.ret (.bool false)) [] {} else bif e_104 !=
 e_111 then Q (.ret (.bool false)) [] {} else bif !(eqB k1_112 k1_119&&(eqB s1_113 s1_120&&(eqB x1_114 x1_121&&true))) then Q (.ret (.bool false)) [] {} else bif !(eqB k2_115 k2_122&&(eqB s2_116 s2_123&&(eqB x2_117 x2_124 &&
 true))) then Q (.ret (.bool false)) [] {} else bif e_118 !=e_125 then Q (.ret (.bool false)) [] {} else exI .u8 (sm.tmod 4) fun n_126=>exW .i64 n_126 fun n_127=>∀s_128:List UInt8,∀e_129:Int,Lf (mastM s_3 r=Prod.mk s_128
 e_129)→Lf (tabO (cells6M startM) (cells6M kkM))∧∀s_130:List UInt8,∀e_131:Int,Lf (mastM s_3 r=Prod.mk s_130 e_131)→bif !eqB s_128 s_130 then Q (.ret (.bool false)) [] {} else bif e_129 !=e_131 then Q (.ret (.bool false)) []
 {} else ∀p_132:Int,∀k1_133 s1_134 k2_135 s2_136:List UInt8,∀t_137 e_138:Int,Lf (recAM s_3 r false=Prod.mk p_132 (Prod.mk k1_133 (Prod.mk s1_134 (Prod.mk k2_135 (Prod.mk s2_136 (Prod.mk t_137 e_138))))))→Lf (tabO (cells6M
 startM) (cells6M kkM))∧∀p_139:Int,∀k1_140 s1_141 k2_142 s2_143:List UInt8,∀t_144 e_145:Int,Lf (recAM s_3 r false=Prod.mk p_139 (Prod.mk k1_140 (Prod.mk s1_141 (Prod.mk k2_142 (Prod.mk s2_143 (Prod.mk t_144 e_145))))))→∀
 k1_146 s1_147 x1_148 k2_149 s2_150 x2_151:List UInt8,∀e_152:Int,Lf (medAM s_3 r false=Prod.mk k1_146 (Prod.mk s1_147 (Prod.mk x1_148 (Prod.mk k2_149 (Prod.mk s2_150 (Prod.mk x2_151 e_152))))))→Lf (tabO (cells6M startM) (cells6M
 kkM))∧∀k1_153 s1_154 x1_155 k2_156 s2_157 x2_158:List UInt8,∀e_159:Int,Lf (medAM s_3 r false=Prod.mk k1_153 (Prod.mk s1_154 (Prod.mk x1_155 (Prod.mk k2_156 (Prod.mk s2_157 (Prod.mk x2_158 e_159))))))→bif !(p_132==p_139 &&
 (eqB k1_133 k1_140&&(eqB s1_134 s1_141&&true))) then Q (.ret (.bool false)) [] {} else bif !(p_132==p_139&&(eqB k2_135 k2_142&&(eqB s2_136 s2_143&&(t_137==t_144&&true&&true)))) then Q (.ret (.bool false)) [] {} else bif
 e_138 !=e_145 then Q (.ret (.bool false)) [] {} else bif !(eqB k1_146 k1_153&&(eqB s1_147 s1_154&&(eqB x1_148 x1_155&&true))) then Q (.ret (.bool false)) [] {} else bif !(eqB k2_149 k2_156&&(eqB s2_150 s2_157&&(eqB x2_151 x2_158
 && true))) then Q (.ret (.bool false)) [] {} else bif e_152 !=e_159 then Q (.ret (.bool false)) [] {} else ∀p_160:Int,∀k1_161 s1_162 k2_163 s2_164:List UInt8,∀t_165 e_166:Int,Lf (recAM s_3 r true=Prod.mk p_160 (Prod.mk
 k1_161 (Prod.mk s1_162 (Prod.mk k2_163 (Prod.mk s2_164 (Prod.mk t_165 e_166))))))→Lf (tabO (cells6M startM) (cells6M kkM))∧∀p_167:Int,∀k1_168 s1_169 k2_170 s2_171:List UInt8,∀t_172 e_173:Int,Lf (recAM s_3 r true=Prod.mk
 p_167 (Prod.mk k1_168 (Prod.mk s1_169 (Prod.mk k2_170 (Prod.mk s2_171 (Prod.mk t_172 e_173))))))→∀k1_174 s1_175 x1_176 k2_177 s2_178 x2_179:List UInt8,∀e_180:Int,Lf (medAM s_3 r true=Prod.mk k1_174 (Prod.mk s1_175 (Prod.mk
 x1_176 (Prod.mk k2_177 (Prod.mk s2_178 (Prod.mk x2_179 e_180))))))→Lf (tabO (cells6M startM) (cells6M kkM))∧∀k1_181 s1_182 x1_183 k2_184 s2_185 x2_186:List UInt8,∀e_187:Int,Lf (medAM s_3 r true=Prod.mk k1_181 (Prod.mk s1_182
 (Prod.mk x1_183 (Prod.mk k2_184 (Prod.mk s2_185 (Prod.mk x2_186 e_187))))))→bif !(p_160==p_167&&(eqB k1_161 k1_168&&(eqB s1_162 s1_169&&true))) then Q (.ret (.bool false)) [] {} else bif !(p_160==p_167&&(eqB k2_163 k2_170 &&
 (eqB s2_164 s2_171&&(t_165==t_172&&true&&true)))) then Q (.ret (.bool false)) [] {} else bif e_166 !=e_173 then Q (.ret (.bool false)) [] {} else bif !(eqB k1_174 k1_181&&(eqB s1_175 s1_182&&(eqB x1_176 x1_183&&true))) then
 Q (.ret (.bool false)) [] {} else bif !(eqB k2_177 k2_184&&(eqB s2_178 s2_185&&(eqB x2_179 x2_186&&true))) then Q (.ret (.bool false)) [] {} else bif e_180 !=e_187 then Q (.ret (.bool false)) [] {} else ∀s_188:List UInt8,∀e_189
 : Int,Lf (mastM s_3 n_127=Prod.mk s_188 e_189)→Lf (tabO (cells6M startM) (cells6M kkM))∧∀s_190:List UInt8,∀e_191:Int,Lf (mastM s_3 n_127=Prod.mk s_190 e_191)→bif !eqB s_188 s_190 then Q (.ret (.bool false)) [] {} else
 bif e_189 !=e_191 then Q (.ret (.bool false)) [] {} else ∀p_192:Int,∀k1_193 s1_194 k2_195 s2_196:List UInt8,∀t_197 e_198:Int,Lf (recAM s_3 n_127 false=Prod.mk p_192 (Prod.mk k1_193 (Prod.mk s1_194 (Prod.mk k2_195 (Prod.mk
 s2_196 (Prod.mk t_197 e_198))))))→Lf (tabO (cells6M startM) (cells6M kkM))∧∀p_199:Int,∀k1_200 s1_201 k2_202 s2_203:List UInt8,∀t_204 e_205:Int,Lf (recAM s_3 n_127 false=Prod.mk p_199 (Prod.mk k1_200 (Prod.mk s1_201
 (Prod.mk k2_202 (Prod.mk s2_203 (Prod.mk t_204 e_205))))))→∀k1_206 s1_207 x1_208 k2_209 s2_210 x2_211:List UInt8,∀e_212:Int,Lf (medAM s_3 n_127 false=Prod.mk k1_206 (Prod.mk s1_207 (Prod.mk x1_208 (Prod.mk k2_209 (Prod.mk
 s2_210 (Prod.mk x2_211 e_212))))))→Lf (tabO (cells6M startM) (cells6M kkM))∧∀k1_213 s1_214 x1_215 k2_216 s2_217 x2_218:List UInt8,∀e_219:Int,Lf (medAM s_3 n_127 false=Prod.mk k1_213 (Prod.mk s1_214 (Prod.mk x1_215 (Prod.mk
 k2_216 (Prod.mk s2_217 (Prod.mk x2_218 e_219))))))→bif !(p_192==p_199&&(eqB k1_193 k1_200&&(eqB s1_194 s1_201&&true))) then Q (.ret (.bool false)) [] {} else bif !(p_192==p_199&&(eqB k2_195 k2_202&&(eqB s2_196 s2_203 &&
 (t_197==t_204&&true&&true)))) then Q (.ret (.bool false)) [] {} else bif e_198 !=e_205 then Q (.ret (.bool false)) [] {} else bif !(eqB k1_206 k1_213&&(eqB s1_207 s1_214&&(eqB x1_208 x1_215&&true))) then Q (.ret (.bool false))
 [] {} else bif !(eqB k2_209 k2_216&&(eqB s2_210 s2_217&&(eqB x2_211 x2_218&&true))) then Q (.ret (.bool false)) [] {} else bif e_212 !=e_219 then Q (.ret (.bool false)) [] {} else ∀p_220:Int,∀k1_221 s1_222 k2_223 s2_224:List
 UInt8,∀t_225 e_226:Int,Lf (recAM s_3 n_127 true=Prod.mk p_220 (Prod.mk k1_221 (Prod.mk s1_222 (Prod.mk k2_223 (Prod.mk s2_224 (Prod.mk t_225 e_226))))))→Lf (tabO (cells6M startM) (cells6M kkM))∧∀p_227:Int,∀k1_228 s1_229
 k2_230 s2_231:List UInt8,∀t_232 e_233:Int,Lf (recAM s_3 n_127 true=Prod.mk p_227 (Prod.mk k1_228 (Prod.mk s1_229 (Prod.mk k2_230 (Prod.mk s2_231 (Prod.mk t_232 e_233))))))→∀k1_234 s1_235 x1_236 k2_237 s2_238 x2_239:List
 UInt8,∀e_240:Int,Lf (medAM s_3 n_127 true=Prod.mk k1_234 (Prod.mk s1_235 (Prod.mk x1_236 (Prod.mk k2_237 (Prod.mk s2_238 (Prod.mk x2_239 e_240))))))→Lf (tabO (cells6M startM) (cells6M kkM))∧∀k1_241 s1_242 x1_243 k2_244 s2_245
 x2_246:List UInt8,∀e_247:Int,Lf (medAM s_3 n_127 true=Prod.mk k1_241 (Prod.mk s1_242 (Prod.mk x1_243 (Prod.mk k2_244 (Prod.mk s2_245 (Prod.mk x2_246 e_247))))))→bif !(p_220==p_227&&(eqB k1_221 k1_228&&(eqB s1_222 s1_229 &&
 true))) then Q (.ret (.bool false)) [] {} else bif !(p_220==p_227&&(eqB k2_223 k2_230&&(eqB s2_224 s2_231&&(t_225==t_232&&true&&true)))) then Q (.ret (.bool false)) [] {} else bif e_226 !=e_233 then Q (.ret (.bool false)) []
 {} else bif !(eqB k1_234 k1_241&&(eqB s1_235 s1_242&&(eqB x1_236 x1_243&&true))) then Q (.ret (.bool false)) [] {} else bif !(eqB k2_237 k2_244&&(eqB s2_238 s2_245&&(eqB x2_239 x2_246&&true))) then Q (.ret (.bool false)) [] {}
 else bif e_240 !=e_247 then Q (.ret (.bool false)) [] {} else Q (.ret (.bool true)) [] {})
theorem vc_g4 (raw:List UInt8) (a:Int) (b:Int) (c:Int) (d:Int) (r:Int) (sm:Int) (Q:Out→List Blk→Gh→Prop):goal_g4 (lookV [(16425,.int .i64),(16426,.int .i64),(16427,.str),(16436,.int .u8),(16437,.int .i64)])
 (lookB []) raw a b c d r sm Q=(bif decide (r>40) then bif decide (r≤1000) then exI .i64 (raw.length:Int) fun n_0=>exI .i64 (imin n_0 40) fun n_1=>ckQ (decide (0≤n_1)&&true&&Nat.ble n_1.toNat raw.length) (exS (.str
 ((raw.drop 0).take (n_1.toNat-0))) fun s_2=>∀s_3:List UInt8,Lf (s_3.length=32)→exI .u8 (sm.tmod 4) fun n_4=>exW .i64 n_4 fun n_5=>∀s_6:List UInt8,∀e_7:Int,Lf (mastM s_2 40=Prod.mk s_6 e_7)→Lf (tabO (cells6M
 startM) (cells6M kkM))∧∀s_8:List UInt8,∀e_9:Int,Lf (mastM s_2 40=Prod.mk s_8 e_9)→bif !eqB s_6 s_8 then Q (.ret (.bool false)) [] {} else bif e_7 !=e_9 then Q (.ret (.bool false)) [] {} else ∀p_10:Int,∀k1_11 s1_12 k2_13
 s2_14:List UInt8,∀t_15 e_16:Int,Lf (recAM s_2 40 false=Prod.mk p_10 (Prod.mk k1_11 (Prod.mk s1_12 (Prod.mk k2_13 (Prod.mk s2_14 (Prod.mk t_15 e_16))))))→Lf (tabO (cells6M startM) (cells6M kkM))∧∀p_17:Int,∀k1_18 s1_19
 k2_20 s2_21:List UInt8,∀t_22 e_23:Int,Lf (recAM s_2 40 false=Prod.mk p_17 (Prod.mk k1_18 (Prod.mk s1_19 (Prod.mk k2_20 (Prod.mk s2_21 (Prod.mk t_22 e_23))))))→∀k1_24 s1_25 x1_26 k2_27 s2_28 x2_29:List UInt8,∀e_30:Int,Lf
 (medAM s_2 40 false=Prod.mk k1_24 (Prod.mk s1_25 (Prod.mk x1_26 (Prod.mk k2_27 (Prod.mk s2_28 (Prod.mk x2_29 e_30))))))→Lf (tabO (cells6M startM) (cells6M kkM))∧∀k1_31 s1_32 x1_33 k2_34 s2_35 x2_36:List UInt8,∀e_37:Int,Lf
 (medAM s_2 40 false=Prod.mk k1_31 (Prod.mk s1_32 (Prod.mk x1_33 (Prod.mk k2_34 (Prod.mk s2_35 (Prod.mk x2_36 e_37))))))→bif !(p_10==p_17&&(eqB k1_11 k1_18&&(eqB s1_12 s1_19&&true))) then Q (.ret (.bool false)) [] {} else bif
 !(p_10==p_17&&(eqB k2_13 k2_20&&(eqB s2_14 s2_21&&(t_15==t_22&&true&&true)))) then Q (.ret (.bool false)) [] {} else bif e_16 !=e_23 then Q (.ret (.bool false)) [] {} else bif !(eqB k1_24 k1_31&&(eqB s1_25 s1_32&&(eqB
 x1_26 x1_33&&true))) then Q (.ret (.bool false)) [] {} else bif !(eqB k2_27 k2_34&&(eqB s2_28 s2_35&&(eqB x2_29 x2_36&&true))) then Q (.ret (.bool false)) [] {} else bif e_30 !=e_37 then Q (.ret (.bool false)) [] {} else ∀p_38 :
 Int,∀k1_39 s1_40 k2_41 s2_42:List UInt8,∀t_43 e_44:Int,Lf (recAM s_2 40 true=Prod.mk p_38 (Prod.mk k1_39 (Prod.mk s1_40 (Prod.mk k2_41 (Prod.mk s2_42 (Prod.mk t_43 e_44))))))→Lf (tabO (cells6M startM) (cells6M kkM))∧∀p_45 :
 Int,∀k1_46 s1_47 k2_48 s2_49:List UInt8,∀t_50 e_51:Int,Lf (recAM s_2 40 true=Prod.mk p_45 (Prod.mk k1_46 (Prod.mk s1_47 (Prod.mk k2_48 (Prod.mk s2_49 (Prod.mk t_50 e_51))))))→∀k1_52 s1_53 x1_54 k2_55 s2_56 x2_57:List UInt8,
 ∀e_58:Int,Lf (medAM s_2 40 true=Prod.mk k1_52 (Prod.mk s1_53 (Prod.mk x1_54 (Prod.mk k2_55 (Prod.mk s2_56 (Prod.mk x2_57 e_58))))))→Lf (tabO (cells6M startM) (cells6M kkM))∧∀k1_59 s1_60 x1_61 k2_62 s2_63 x2_64:List UInt8,∀
 e_65:Int,Lf (medAM s_2 40 true=Prod.mk k1_59 (Prod.mk s1_60 (Prod.mk x1_61 (Prod.mk k2_62 (Prod.mk s2_63 (Prod.mk x2_64 e_65))))))→bif !(p_38==p_45&&(eqB k1_39 k1_46&&(eqB s1_40 s1_47&&true))) then Q (.ret (.bool false)) []
 {} else bif !(p_38==p_45&&(eqB k2_41 k2_48&&(eqB s2_42 s2_49&&(t_43==t_50&&true&&true)))) then Q (.ret (.bool false)) [] {} else bif e_44 !=e_51 then Q (.ret (.bool false)) [] {} else bif !(eqB k1_52 k1_59&&(eqB s1_53
 s1_60&&(eqB x1_54 x1_61&&true))) then Q (.ret (.bool false)) [] {} else bif !(eqB k2_55 k2_62&&(eqB s2_56 s2_63&&(eqB x2_57 x2_64&&true))) then Q (.ret (.bool false)) [] {} else bif e_58 !=e_65 then Q (.ret (.bool false)) [] {}
 else ∀s_66:List UInt8,∀e_67:Int,Lf (mastM s_2 n_5=Prod.mk s_66 e_67)→Lf (tabO (cells6M startM) (cells6M kkM))∧∀s_68:List UInt8,∀e_69:Int,Lf (mastM s_2 n_5=Prod.mk s_68 e_69)→bif !eqB s_66 s_68 then Q (.ret (.bool
 false)) [] {} else bif e_67 !=e_69 then Q (.ret (.bool false)) [] {} else ∀p_70:Int,∀k1_71 s1_72 k2_73 s2_74:List UInt8,∀t_75 e_76:Int,Lf (recAM s_2 n_5 false=Prod.mk p_70 (Prod.mk k1_71 (Prod.mk s1_72 (Prod.mk k2_73
 (Prod.mk s2_74 (Prod.mk t_75 e_76))))))→Lf (tabO (cells6M startM) (cells6M kkM))∧∀p_77:Int,∀k1_78 s1_79 k2_80 s2_81:List UInt8,∀t_82 e_83:Int,Lf (recAM s_2 n_5 false=Prod.mk p_77 (Prod.mk k1_78 (Prod.mk s1_79 (Prod.mk
 k2_80 (Prod.mk s2_81 (Prod.mk t_82 e_83))))))→∀k1_84 s1_85 x1_86 k2_87 s2_88 x2_89:List UInt8,∀e_90:Int,Lf (medAM s_2 n_5 false=Prod.mk k1_84 (Prod.mk s1_85 (Prod.mk x1_86 (Prod.mk k2_87 (Prod.mk s2_88 (Prod.mk x2_89 e_90))))))
 → Lf (tabO (cells6M startM) (cells6M kkM))∧∀k1_91 s1_92 x1_93 k2_94 s2_95 x2_96:List UInt8,∀e_97:Int,Lf (medAM s_2 n_5 false=Prod.mk k1_91 (Prod.mk s1_92 (Prod.mk x1_93 (Prod.mk k2_94 (Prod.mk s2_95 (Prod.mk x2_96 e_97)))))) →
 bif !(p_70==p_77&&(eqB k1_71 k1_78&&(eqB s1_72 s1_79&&true))) then Q (.ret (.bool false)) [] {} else bif !(p_70==p_77&&(eqB k2_73 k2_80&&(eqB s2_74 s2_81&&(t_75==t_82&&true&&true)))) then Q (.ret (.bool false)) [] {}
 else bif e_76 !=e_83 then Q (.ret (.bool false)) [] {} else bif !(eqB k1_84 k1_91&&(eqB s1_85 s1_92&&(eqB x1_86 x1_93&&true))) then Q (.ret (.bool false)) [] {} else bif !(eqB k2_87 k2_94&&(eqB s2_88 s2_95&&(eqB x2_89 x2_96 &&
 true))) then Q (.ret (.bool false)) [] {} else bif e_90 !=e_97 then Q (.ret (.bool false)) [] {} else ∀p_98:Int,∀k1_99 s1_100 k2_101 s2_102:List UInt8,∀t_103 e_104:Int,Lf (recAM s_2 n_5 true=Prod.mk p_98 (Prod.mk k1_99
 (Prod.mk s1_100 (Prod.mk k2_101 (Prod.mk s2_102 (Prod.mk t_103 e_104))))))→Lf (tabO (cells6M startM) (cells6M kkM))∧∀p_105:Int,∀k1_106 s1_107 k2_108 s2_109:List UInt8,∀t_110 e_111:Int,Lf (recAM s_2 n_5 true=Prod.mk p_105
 (Prod.mk k1_106 (Prod.mk s1_107 (Prod.mk k2_108 (Prod.mk s2_109 (Prod.mk t_110 e_111))))))→∀k1_112 s1_113 x1_114 k2_115 s2_116 x2_117:List UInt8,∀e_118:Int,Lf (medAM s_2 n_5 true=Prod.mk k1_112 (Prod.mk s1_113 (Prod.mk x1_114
 (Prod.mk k2_115 (Prod.mk s2_116 (Prod.mk x2_117 e_118))))))→Lf (tabO (cells6M startM) (cells6M kkM))∧∀k1_119 s1_120 x1_121 k2_122 s2_123 x2_124:List UInt8,∀e_125:Int,Lf (medAM s_2 n_5 true=Prod.mk k1_119 (Prod.mk s1_120
 (Prod.mk x1_121 (Prod.mk k2_122 (Prod.mk s2_123 (Prod.mk x2_124 e_125))))))→bif !(p_98==p_105&&(eqB k1_99 k1_106&&(eqB s1_100 s1_107&&true))) then Q (.ret (.bool false)) [] {} else bif !(p_98==p_105&&(eqB k2_101 k2_108 &&
 (eqB s2_102 s2_109&&(t_103==t_110&&true&&true)))) then Q (.ret (.bool false)) [] {} else bif e_104 !=e_111 then Q (.ret (.bool false)) [] {} else bif !(eqB k1_112 k1_119&&(eqB s1_113 s1_120&&(eqB x1_114 x1_121&&true))) then
 Q (.ret (.bool false)) [] {} else bif !(eqB k2_115 k2_122&&(eqB s2_116 s2_123&&(eqB x2_117 x2_124&&true))) then Q (.ret (.bool false)) [] {} else bif e_118 !=e_125 then Q (.ret (.bool false)) [] {} else exI .u8 (sm.tmod 4) fun n_126
 => exW .i64 n_126 fun n_127=>∀s_128:List UInt8,∀e_129:Int,Lf (mastM s_3 40=Prod.mk s_128 e_129)→Lf (tabO (cells6M startM) (cells6M kkM))∧∀s_130:List UInt8,∀e_131:Int,Lf (mastM s_3 40=Prod.mk s_130 e_131)→bif
 !eqB s_128 s_130 then Q (.ret (.bool false)) [] {} else bif e_129 !=e_131 then Q (.ret (.bool false)) [] {} else ∀p_132:Int,∀k1_133 s1_134 k2_135 s2_136:List UInt8,∀t_137 e_138:Int,Lf (recAM s_3 40 false=Prod.mk p_132
 (Prod.mk k1_133 (Prod.mk s1_134 (Prod.mk k2_135 (Prod.mk s2_136 (Prod.mk t_137 e_138))))))→Lf (tabO (cells6M startM) (cells6M kkM))∧∀p_139:Int,∀k1_140 s1_141 k2_142 s2_143:List UInt8,∀t_144 e_145:Int,Lf (recAM s_3 40 false
 = Prod.mk p_139 (Prod.mk k1_140 (Prod.mk s1_141 (Prod.mk k2_142 (Prod.mk s2_143 (Prod.mk t_144 e_145))))))→∀k1_146 s1_147 x1_148 k2_149 s2_150 x2_151:List UInt8,∀e_152:Int,Lf (medAM s_3 40 false=Prod.mk k1_146 (Prod.mk s1_147
 (Prod.mk x1_148 (Prod.mk k2_149 (Prod.mk s2_150 (Prod.mk x2_151 e_152))))))→Lf (tabO (cells6M startM) (cells6M kkM))∧∀k1_153 s1_154 x1_155 k2_156 s2_157 x2_158:List UInt8,∀e_159:Int,Lf (medAM s_3 40 false=Prod.mk k1_153
 (Prod.mk s1_154 (Prod.mk x1_155 (Prod.mk k2_156 (Prod.mk s2_157 (Prod.mk x2_158 e_159))))))→bif !(p_132==p_139&&(eqB k1_133 k1_140&&(eqB s1_134 s1_141&&true))) then Q (.ret (.bool false)) [] {} else bif !(p_132==p_139&&(eqB
 k2_135 k2_142&&(eqB s2_136 s2_143&&(t_137==t_144&&true&&true)))) then Q (.ret (.bool false)) [] {} else bif e_138 !=e_145 then Q (.ret (.bool false)) [] {} else bif !(eqB k1_146 k1_153&&(eqB s1_147 s1_154&&(eqB x1_148 x1_155
 && true))) then Q (.ret (.bool false)) [] {} else bif !(eqB k2_149 k2_156&&(eqB s2_150 s2_157&&(eqB x2_151 x2_158&&true))) then Q (.ret (.bool false)) [] {} else bif e_152 !=e_159 then Q (.ret (.bool false)) [] {} else ∀p_160 :
 Int,∀k1_161 s1_162 k2_163 s2_164:List UInt8,∀t_165 e_166:Int,Lf (recAM s_3 40 true=Prod.mk p_160 (Prod.mk k1_161 (Prod.mk s1_162 (Prod.mk k2_163 (Prod.mk s2_164 (Prod.mk t_165 e_166))))))→Lf (tabO (cells6M startM) (cells6M
 kkM))∧∀p_167:Int,∀k1_168 s1_169 k2_170 s2_171:List UInt8,∀t_172 e_173:Int,Lf (recAM s_3 40 true=Prod.mk p_167 (Prod.mk k1_168 (Prod.mk s1_169 (Prod.mk k2_170 (Prod.mk s2_171 (Prod.mk t_172 e_173))))))→∀k1_174 s1_175
 x1_176 k2_177 s2_178 x2_179:List UInt8,∀e_180:Int,Lf (medAM s_3 40 true=Prod.mk k1_174 (Prod.mk s1_175 (Prod.mk x1_176 (Prod.mk k2_177 (Prod.mk s2_178 (Prod.mk x2_179 e_180))))))→Lf (tabO (cells6M startM) (cells6M kkM))∧∀
 k1_181 s1_182 x1_183 k2_184 s2_185 x2_186:List UInt8,∀e_187:Int,Lf (medAM s_3 40 true=Prod.mk k1_181 (Prod.mk s1_182 (Prod.mk x1_183 (Prod.mk k2_184 (Prod.mk s2_185 (Prod.mk x2_186 e_187))))))→bif !(p_160==p_167&&(eqB k1_161
 k1_168&&(eqB s1_162 s1_169&&true))) then Q (.ret (.bool false)) [] {} else bif !(p_160==p_167&&(eqB k2_163 k2_170&&(eqB s2_164 s2_171&&(t_165==t_172&&true&&true)))) then Q (.ret (.bool false)) [] {} else bif e_166 !=
 e_173 then Q (.ret (.bool false)) [] {} else bif !(eqB k1_174 k1_181&&(eqB s1_175 s1_182&&(eqB x1_176 x1_183&&true))) then Q (.ret (.bool false)) [] {} else bif !(eqB k2_177 k2_184&&(eqB s2_178 s2_185&&(eqB x2_179 x2_186 &&
 true))) then Q (.ret (.bool false)) [] {} else bif e_180 !=e_187 then Q (.ret (.bool false)) [] {} else ∀s_188:List UInt8,∀e_189:Int,Lf (mastM s_3 n_127=Prod.mk s_188 e_189)→Lf (tabO (cells6M startM) (cells6M kkM))∧∀s_190 :
 List UInt8,∀e_191:Int,Lf (mastM s_3 n_127=Prod.mk s_190 e_191)→bif !eqB s_188 s_190 then Q (.ret (.bool false)) [] {} else bif e_189 !=e_191 then Q (.ret (.bool false)) [] {} else ∀p_192:Int,∀k1_193 s1_194 k2_195 s2_196 :
 List UInt8,∀t_197 e_198:Int,Lf (recAM s_3 n_127 false=Prod.mk p_192 (Prod.mk k1_193 (Prod.mk s1_194 (Prod.mk k2_195 (Prod.mk s2_196 (Prod.mk t_197 e_198))))))→Lf (tabO (cells6M startM) (cells6M kkM))∧∀p_199:Int,∀k1_200
 s1_201 k2_202 s2_203:List UInt8,∀t_204 e_205:Int,Lf (recAM s_3 n_127 false=Prod.mk p_199 (Prod.mk k1_200 (Prod.mk s1_201 (Prod.mk k2_202 (Prod.mk s2_203 (Prod.mk t_204 e_205))))))→∀k1_206 s1_207 x1_208 k2_209 s2_210 x2_211 :
 List UInt8,∀e_212:Int,Lf (medAM s_3 n_127 false=Prod.mk k1_206 (Prod.mk s1_207 (Prod.mk x1_208 (Prod.mk k2_209 (Prod.mk s2_210 (Prod.mk x2_211 e_212))))))→Lf (tabO (cells6M startM) (cells6M kkM))∧∀k1_213 s1_214 x1_215 k2_216
 s2_217 x2_218:List UInt8,∀e_219:Int,Lf (medAM s_3 n_127 false=Prod.mk k1_213 (Prod.mk s1_214 (Prod.mk x1_215 (Prod.mk k2_216 (Prod.mk s2_217 (Prod.mk x2_218 e_219))))))→bif !(p_192==p_199&&(eqB k1_193 k1_200&&(eqB s1_194
 s1_201&&true))) then Q (.ret (.bool false)) [] {} else bif !(p_192==p_199&&(eqB k2_195 k2_202&&(eqB s2_196 s2_203&&(t_197==t_204&&true&&true)))) then Q (.ret (.bool false)) [] {} else bif e_198 !=e_205 then Q (.ret (.bool
 false)) [] {} else bif !(eqB k1_206 k1_213&&(eqB s1_207 s1_214&&(eqB x1_208 x1_215&&true))) then Q (.ret (.bool false)) [] {} else bif !(eqB k2_209 k2_216&&(eqB s2_210 s2_217&&(eqB x2_211 x2_218&&true))) then Q (.ret (.bool
 false)) [] {} else bif e_212 !=e_219 then Q (.ret (.bool false)) [] {} else ∀p_220:Int,∀k1_221 s1_222 k2_223 s2_224:List UInt8,∀t_225 e_226:Int,Lf (recAM s_3 n_127 true=Prod.mk p_220 (Prod.mk k1_221 (Prod.mk s1_222 (Prod.mk
 k2_223 (Prod.mk s2_224 (Prod.mk t_225 e_226))))))→Lf (tabO (cells6M startM) (cells6M kkM))∧∀p_227:Int,∀k1_228 s1_229 k2_230 s2_231:List UInt8,∀t_232 e_233:Int,Lf (recAM s_3 n_127 true=Prod.mk p_227 (Prod.mk k1_228
 (Prod.mk s1_229 (Prod.mk k2_230 (Prod.mk s2_231 (Prod.mk t_232 e_233))))))→∀k1_234 s1_235 x1_236 k2_237 s2_238 x2_239:List UInt8,∀e_240:Int,Lf (medAM s_3 n_127 true=Prod.mk k1_234 (Prod.mk s1_235 (Prod.mk x1_236 (Prod.mk k2_237
 (Prod.mk s2_238 (Prod.mk x2_239 e_240))))))→Lf (tabO (cells6M startM) (cells6M kkM))∧∀k1_241 s1_242 x1_243 k2_244 s2_245 x2_246:List UInt8,∀e_247:Int,Lf (medAM s_3 n_127 true=Prod.mk k1_241 (Prod.mk s1_242 (Prod.mk x1_243
 (Prod.mk k2_244 (Prod.mk s2_245 (Prod.mk x2_246 e_247))))))→bif !(p_220==p_227&&(eqB k1_221 k1_228&&(eqB s1_222 s1_229&&true))) then Q (.ret (.bool false)) [] {} else bif !(p_220==p_227&&(eqB k2_223 k2_230&&(eqB s2_224
 s2_231&&(t_225==t_232&&true&&true)))) then Q (.ret (.bool false)) [] {} else bif e_226 !=e_233 then Q (.ret (.bool false)) [] {} else bif !(eqB k1_234 k1_241&&(eqB s1_235 s1_242&&(eqB x1_236 x1_243&&true))) then Q (.ret
 (.bool false)) [] {} else bif !(eqB k2_237 k2_244&&(eqB s2_238 s2_245&&(eqB x2_239 x2_246&&true))) then Q (.ret (.bool false)) [] {} else bif e_240 !=e_247 then Q (.ret (.bool false)) [] {} else Q (.ret (.bool true)) [] {}) else
 vc_g4_1 raw r sm Q else vc_g4_1 raw r sm Q):=by kernel_rfl

end Go.Proofs.YtjenieljapmehaaGreatDoor

set_option linter.unusedSimpArgs false
set_option linter.unusedVariables false
set_option linter.unusedSectionVars false
namespace Go.Proofs.YtjenieljapmehaaGreatDoor
open Go.RowKit
set_option maxRecDepth 1000000

abbrev TAB:Prop:=tabO (cells6M startM) (cells6M kkM)
theorem tabT:TAB:=⟨rfl,rfl⟩
theorem eqBs (s:List UInt8):eqB s s=true:=eqB_t.2 rfl
theorem mastI {m:List UInt8} {r:Int} {A B:Prop} (hA:A) :
  ∀ (s:List UInt8) (e:Int),Lf (mastM m r=(s,e))→Lf TAB∧∀ (s':List UInt8) (e':Int),Lf (mastM m r=(s',e'))→bif !(eqB s s') then B else bif e !=e' then B else A:=by
 rintro s e ⟨h⟩
 refine ⟨⟨tabT⟩, ?_⟩
 rintro s' e' ⟨h'⟩
 rw[h] at h'
 cases h'
 rw[eqBs,show (e !=e)=false by simp]
 exact hA
theorem rmI {m:List UInt8} {r:Int} {c:Bool} {A B:Prop} (hA:A) :
  ∀ (p:Int) (k1 s1 k2 s2:List UInt8) (t e:Int),Lf (recAM m r c=(p,k1,s1,k2,s2,t,e))→Lf TAB∧∀ (p':Int) (k1' s1' k2' s2':List UInt8) (t' e':Int),Lf (recAM m r c=(p',k1',s1',k2',s2',t',e')) →
  ∀ (K1 S1 X1 K2 S2 X2:List UInt8) (E:Int),Lf (medAM m r c=(K1,S1,X1,K2,S2,X2,E))→Lf TAB∧∀ (K1' S1' X1' K2' S2' X2':List UInt8) (E':Int),Lf (medAM m r c=(K1',S1',X1',K2',S2',X2',E')) →
   bif !((p==p')&&(eqB k1 k1'&&(eqB s1 s1'&&true))) then B else bif !((p==p')&&(eqB k2 k2'&&(eqB s2 s2'&&(((t==t')&&true)&&true)))) then B else bif e !=e' then B else
   bif !(eqB K1 K1'&&(eqB S1 S1'&&(eqB X1 X1'&&true))) then B else bif !(eqB K2 K2'&&(eqB S2 S2'&&(eqB X2 X2'&&true))) then B else bif E !=E' then B else A:=by
 rintro p k1 s1 k2 s2 t e ⟨h⟩
 refine ⟨⟨tabT⟩, ?_⟩
 rintro p' k1' s1' k2' s2' t' e' ⟨h'⟩
 rw[h] at h'
 cases h'
 rintro K1 S1 X1 K2 S2 X2 E ⟨h⟩
 refine ⟨⟨tabT⟩, ?_⟩
 rintro K1' S1' X1' K2' S2' X2' E' ⟨h'⟩
 rw[h] at h'
 cases h'
 simp only[eqBs,beq_self_eq_true,bne_self_eq_false,Bool.and_self,Bool.not_true,cond_false]
 exact hA
theorem keys_run (raw:List UInt8) (a b c d r sm:Int) (h1:raw.length≤9223372036854775807) (Q:Out→List Blk→Gh→Prop) (hq:Q (.ret (.bool true)) [] {}):∃hv hb,goal_g4 hv hb raw a b c d r sm Q:=by
 obtain ⟨hv',hb',e'⟩:∃hv hb,goal_g4 hv hb raw a b c d r sm Q=_:=⟨_,_,vc_g4 raw a b c d r sm Q⟩
 refine ⟨hv',hb',e'.mpr ?_⟩
 clear e'
 have m3:=iminI (raw.length:Int) 40 (by omega) (by omega)
 have body:vc_g4_1 raw r sm Q:=by
  unfold vc_g4_1
  refine ⟨_,rfl,_,rfl,ckI (by simp;omega) ⟨_,rfl, ?_⟩⟩
  rintro s9 ⟨h9⟩
  refine ⟨_,rfl,_,rfl, ?_⟩
  refine mastI (rmI (rmI (mastI (rmI (rmI ?_)))))
  refine ⟨_,rfl,_,rfl, ?_⟩
  exact mastI (rmI (rmI (mastI (rmI (rmI hq)))))
 refine splitD (fun _=>splitD (fun _ => ?_) (fun _=>body)) (fun _=>body)
 refine ⟨_,rfl,_,rfl,ckI (by simp;omega) ⟨_,rfl, ?_⟩⟩
 rintro s9 ⟨h9⟩
 refine ⟨_,rfl,_,rfl, ?_⟩
 refine mastI (rmI (rmI (mastI (rmI (rmI ?_)))))
 refine ⟨_,rfl,_,rfl, ?_⟩
 exact mastI (rmI (rmI (mastI (rmI (rmI hq)))))
end Go.Proofs.YtjenieljapmehaaGreatDoor
