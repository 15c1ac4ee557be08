/-
  Chapter 21: the reference's Master, Export, Records, Media, proved; residuals of ExportGives and ExportKeys.
-/
import Derived.Test.YtjenieljapmehaaGreatDoorG21RE
import Derived.Test.YtjenieljapmehaaGreatDoorG21DB
set_option linter.unusedSimpArgs false
set_option linter.unusedVariables false
set_option linter.unusedSectionVars false
namespace Go.Proofs.YtjenieljapmehaaGreatDoor
open Go.RowKit
set_option maxRecDepth 1000000

theorem dropW_nil {s:List UInt8}:s.dropWhile isDot=[]↔labB s=true:=by
 rw[labB,List.all_eq_true]
 induction s with
 | nil=>simp
 | cons x s ih=>
  rw[List.dropWhile_cons]
  cases h:isDot x with
  | true=>simpa [h] using ih
  | false=>simp[h]
theorem trim_lab (s:List UInt8):trimM s=[]↔labB s=true:=by
 have h1:labB (rightT s)=true↔labB s=true:=by
  constructor
  ·intro h
   rw[labB,List.all_eq_true] at h ⊢
   intro c hc
   rw[rightT] at h
   have hs:s.reverse=s.reverse.takeWhile isDot++s.reverse.dropWhile isDot:=(List.takeWhile_append_dropWhile).symm
   have hc':c∈s.reverse:=List.mem_reverse.2 hc
   rw[hs,List.mem_append] at hc'
   rcases hc' with hc' | hc'
   ·exact List.all_eq_true.1 List.all_takeWhile c hc'
   ·exact h c (List.mem_reverse.2 hc')
  ·intro h
   rw[labB,List.all_eq_true] at h ⊢
   intro c hc
   rw[rightT,List.mem_reverse] at hc
   exact h c (List.mem_reverse.1 ((List.dropWhile_sublist isDot).subset hc))
 rw[trimM,dropW_nil,h1]
theorem lab_iff (l:List UInt8):cLabM l=true↔(l≠[]∧trimM l=[]∧l.length≤24):=by
 rw[cLabM,Bool.and_eq_true,decide_eq_true_eq,trim_lab]
 constructor
 ·rintro ⟨h1,h2,h3⟩
  exact ⟨fun h=>by rw[h] at h2;simp at h2,h1,h3⟩
 ·rintro ⟨h1,h2,h3⟩
  exact ⟨h2,by cases l with | nil=>exact absurd rfl h1 | cons=>simp,h3⟩
theorem neI {a b:Int} {A B:Prop} (h:a≠b→A) (k:a=b→B):bif a !=b then A else B:=by
 cases hb:(a !=b) with
 | true=>exact h (by simpa using hb)
 | false=>exact k (by simpa using hb)
def cExpoR:Con
 | [.agg [.lst 0 sc 8 1,.lst 0 kc 64 1],.str m,.str c,.str l,.int .i64 n],H,K=>Lf (tabO sc kc∧l.length≤9223372036854775807)∧∀s e,Lf (expoM m c l n=(s,e))→K (.ret (.tup [.str s,.int .i64 e])) H
 | _,_,_=>False
theorem expor_ok:ValidF Tryz.prog gl0 9 cExpoR:=by
 refine valid_flat (enters_of (by kernel_rfl)) gl0_noY fun args H Q hc => ?_
 unfold cExpoR at hc
 split at hc
 ·rename_i sc kc m c l n
  obtain ⟨⟨h1,h2⟩,hq⟩:=hc
  obtain ⟨hv',hb',e'⟩:∃hv hb,goal_m9 hv hb sc kc m c l n (fun o H' _=>H'=[]∧(∃v,o=.ret v∧old 0 v=true∧noY v=true)∧Q o H)=_:=⟨_,_,vc_m9 sc kc m c l n _⟩
  have ht:=tab_flat sc kc h1
  refine ⟨by simp only[oldL,ht.1,old,Bool.and_self],by simp only[noYL,ht.2,noY,Bool.and_self],_,1000,envFor18 smE5_ok _ hv' hb',rfl,e'.mpr ?_⟩
  clear e'
  have no:¬ (cLabM l=true∧m.length=32∧c.length≤64∧1≤n∧n≤255)→([]:List Blk)=[]∧(∃v,Out.ret (.tup [.str [],.int .i64 2])=.ret v∧old 0 v=true∧noY v=true)∧Q (.ret (.tup [.str [],.int .i64 2])) H:=fun h=>
   ⟨rfl,⟨_,rfl,rfl,rfl⟩,hq _ _ ⟨by
    rw[expoM,if_neg]
    rintro ⟨k1,k2,k3,k4⟩
    exact h ⟨(lab_iff l).2 ⟨k1,k2,k3⟩,of_decide_eq_true k4⟩⟩⟩
  refine ⟨_,rfl,neI (fun h=>no (by omega)) (fun hm=>⟨_,rfl,splitD (fun h=>no (by omega)) (fun hc=>⟨⟨h2⟩, ?_⟩)⟩)⟩
  rintro b ⟨eb⟩
  cases b with
  | false=>exact no (fun h=>by rw[←eb] at h;cases h.1)
  | true=>
   have hl:=(lab_iff l).1 eb.symm
   refine splitD (fun h=>no (by omega)) (fun hn1=>splitD (fun h=>no (by omega)) (fun hn2=>⟨⟨h1,by omega,by omega,by omega,by omega,by omega⟩, ?_⟩))
   rintro o ⟨rfl⟩
   exact ⟨rfl,⟨_,rfl,rfl,rfl⟩,hq _ _ ⟨expo_at (by omega) (by omega) hl.1 hl.2.1 hl.2.2 (by omega) (by omega)⟩⟩
 ·exact hc.elim
def smG:SM:=lookS [(10,cTrue),(7,cSecret),(8,cExpo),(9,cExpoR),(6,cTable)]
noncomputable def goal_g3 (hv:Nat→Option Pa) (hb:Nat→Option Bool) (raw:List UInt8) (a b c d:Int) (ctx lab:List UInt8) (n:Int) (Q:Out→List Blk→Gh→Prop):Prop:=
 callx (e18 smG (fun _=>none) hv hb) (wpx (e18 smG (fun _=>none) hv hb) 1000) 3 [.str raw,.agg [.int .u8 a,.int .u8 b,.int .u8 c,.int .u8 d],.str ctx,.str lab,.int .i64 n] [] {} Q
theorem vc_g3 (raw:List UInt8) (a:Int) (b:Int) (c:Int) (d:Int) (ctx:List UInt8) (lab:List UInt8) (n:Int) (Q:Out→List Blk→Gh→Prop):goal_g3 (lookV [(12313,.int .i64),(12314,.int .i64),(12315,.str),(12318,.int
 .i64),(12319,.int .i64),(12320,.str),(12323,.int .i64),(12324,.int .i64),(12325,.str),(12334,.int .u64),(12335,.int .u64),(12336,.int .i64),(12337,.int .i64)]) (lookB []) raw a b c d ctx lab n Q=(exI .i64 (ctx.length :
 Int) fun n_0=>exI .i64 (imin n_0 70) fun n_1=>ckQ (decide (0≤n_1)&&true&&Nat.ble n_1.toNat ctx.length) (exS (.str ((ctx.drop 0).take (n_1.toNat-0))) fun s_2=>exI .i64 (lab.length:Int) fun n_3=>exI .i64 (imin n_3 30) fun
 n_4=>ckQ (decide (0≤n_4)&&true&&Nat.ble n_4.toNat lab.length) (exS (.str ((lab.drop 0).take (n_4.toNat-0))) fun s_5=>exI .i64 (raw.length:Int) fun n_6=>exI .i64 (imin n_6 40) fun n_7=>ckQ (decide (0≤n_7)&&true &&
 Nat.ble n_7.toNat raw.length) (exS (.str ((raw.drop 0).take (n_7.toNat-0))) fun s_8=>∀s_9:List UInt8,Lf (s_9.length=32)→exW .u64 n fun n_10=>exI .u64 (n_10.tmod 255) fun n_11=>exW .i64 n_11 fun n_12=>exW .i64 (1+n_12)
 fun n_13=>Lf (s_5.length≤9223372036854775807)∧∀s_14:List UInt8,∀e_15:Int,Lf (expoM s_8 s_2 s_5 n=Prod.mk s_14 e_15)→Lf (tabO (cells6M startM) (cells6M kkM)∧s_5.length≤9223372036854775807)∧∀s_16:List UInt8,∀e_17
 : Int,Lf (expoM s_8 s_2 s_5 n=Prod.mk s_16 e_17)→bif !eqB s_14 s_16 then Q (.ret (.bool false)) [] {} else bif e_15 !=e_17 then Q (.ret (.bool false)) [] {} else Lf (List.length [UInt8.ofNat 97,UInt8.ofNat 110,UInt8.ofNat 121,
 UInt8.ofNat 32,UInt8.ofNat 108,UInt8.ofNat 97,UInt8.ofNat 98,UInt8.ofNat 101,UInt8.ofNat 108,UInt8.ofNat 32,UInt8.ofNat 57]≤9223372036854775807)∧∀s_18:List UInt8,∀e_19:Int,Lf (expoM s_8 s_2 [UInt8.ofNat 97,UInt8.ofNat
 110,UInt8.ofNat 121,UInt8.ofNat 32,UInt8.ofNat 108,UInt8.ofNat 97,UInt8.ofNat 98,UInt8.ofNat 101,UInt8.ofNat 108,UInt8.ofNat 32,UInt8.ofNat 57] n=Prod.mk s_18 e_19)→Lf (tabO (cells6M startM) (cells6M kkM)∧List.length
 [UInt8.ofNat 97,UInt8.ofNat 110,UInt8.ofNat 121,UInt8.ofNat 32,UInt8.ofNat 108,UInt8.ofNat 97,UInt8.ofNat 98,UInt8.ofNat 101,UInt8.ofNat 108,UInt8.ofNat 32,UInt8.ofNat 57]≤9223372036854775807)∧∀s_20:List UInt8,∀e_21 :
 Int,Lf (expoM s_8 s_2 [UInt8.ofNat 97,UInt8.ofNat 110,UInt8.ofNat 121,UInt8.ofNat 32,UInt8.ofNat 108,UInt8.ofNat 97,UInt8.ofNat 98,UInt8.ofNat 101,UInt8.ofNat 108,UInt8.ofNat 32,UInt8.ofNat 57] n=Prod.mk s_20 e_21)→bif !eqB
 s_18 s_20 then Q (.ret (.bool false)) [] {} else bif e_19 !=e_21 then Q (.ret (.bool false)) [] {} else Lf (s_5.length≤9223372036854775807)∧∀s_22:List UInt8,∀e_23:Int,Lf (expoM s_8 s_2 s_5 n_13=Prod.mk s_22 e_23)→Lf (tabO
 (cells6M startM) (cells6M kkM)∧s_5.length≤9223372036854775807)∧∀s_24:List UInt8,∀e_25:Int,Lf (expoM s_8 s_2 s_5 n_13=Prod.mk s_24 e_25)→bif !eqB s_22 s_24 then Q (.ret (.bool false)) [] {} else bif e_23 !=e_25 then Q
 (.ret (.bool false)) [] {} else Lf (List.length [UInt8.ofNat 97,UInt8.ofNat 110,UInt8.ofNat 121,UInt8.ofNat 32,UInt8.ofNat 108,UInt8.ofNat 97,UInt8.ofNat 98,UInt8.ofNat 101,UInt8.ofNat 108,UInt8.ofNat 32,UInt8.ofNat 57] ≤
 9223372036854775807)∧∀s_26:List UInt8,∀e_27:Int,Lf (expoM s_8 s_2 [UInt8.ofNat 97,UInt8.ofNat 110,UInt8.ofNat 121,UInt8.ofNat 32,UInt8.ofNat 108,UInt8.ofNat 97,UInt8.ofNat 98,UInt8.ofNat 101,UInt8.ofNat 108,UInt8.ofNat
 32,UInt8.ofNat 57] n_13=Prod.mk s_26 e_27)→Lf (tabO (cells6M startM) (cells6M kkM)∧List.length [UInt8.ofNat 97,UInt8.ofNat 110,UInt8.ofNat 121,UInt8.ofNat 32,UInt8.ofNat 108,UInt8.ofNat 97,UInt8.ofNat 98,UInt8.ofNat 101,
 UInt8.ofNat 108,UInt8.ofNat 32,UInt8.ofNat 57]≤9223372036854775807)∧∀s_28:List UInt8,∀e_29:Int,Lf (expoM s_8 s_2 [UInt8.ofNat 97,UInt8.ofNat 110,UInt8.ofNat 121,UInt8.ofNat 32,UInt8.ofNat 108,UInt8.ofNat 97,UInt8.ofNat
 98,UInt8.ofNat 101,UInt8.ofNat 108,UInt8.ofNat 32,UInt8.ofNat 57] n_13=Prod.mk s_28 e_29)→bif !eqB s_26 s_28 then Q (.ret (.bool false)) [] {} else bif e_27 !=e_29 then Q (.ret (.bool false)) [] {} else exW .u64 n fun n_30=>exI
 .u64 (n_30.tmod 255) fun n_31=>exW .i64 n_31 fun n_32=>exW .i64 (1+n_32) fun n_33=>Lf (s_5.length≤9223372036854775807)∧∀s_34:List UInt8,∀e_35:Int,Lf (expoM s_9 s_2 s_5 n=Prod.mk s_34 e_35)→Lf (tabO (cells6M startM)
 (cells6M kkM)∧s_5.length≤9223372036854775807)∧∀s_36:List UInt8,∀e_37:Int,Lf (expoM s_9 s_2 s_5 n=Prod.mk s_36 e_37)→bif !eqB s_34 s_36 then Q (.ret (.bool false)) [] {} else bif e_35 !=e_37 then Q (.ret (.bool false)) []
 {} else Lf (List.length [UInt8.ofNat 97,UInt8.ofNat 110,UInt8.ofNat 121,UInt8.ofNat 32,UInt8.ofNat 108,UInt8.ofNat 97,UInt8.ofNat 98,UInt8.ofNat 101,UInt8.ofNat 108,UInt8.ofNat 32,UInt8.ofNat 57]≤9223372036854775807)∧∀s_38 :
 List UInt8,∀e_39:Int,Lf (expoM s_9 s_2 [UInt8.ofNat 97,UInt8.ofNat 110,UInt8.ofNat 121,UInt8.ofNat 32,UInt8.ofNat 108,UInt8.ofNat 97,UInt8.ofNat 98,UInt8.ofNat 101,UInt8.ofNat 108,UInt8.ofNat 32,UInt8.ofNat 57] n=Prod.mk
 s_38 e_39)→Lf (tabO (cells6M startM) (cells6M kkM)∧List.length [UInt8.ofNat 97,UInt8.ofNat 110,UInt8.ofNat 121,UInt8.ofNat 32,UInt8.ofNat 108,UInt8.ofNat 97,UInt8.ofNat 98,UInt8.ofNat 101,UInt8.ofNat 108,UInt8.ofNat 32,
 UInt8.ofNat 57]≤9223372036854775807)∧∀s_40:List UInt8,∀e_41:Int,Lf (expoM s_9 s_2 [UInt8.ofNat 97,UInt8.ofNat 110,UInt8.ofNat 121,UInt8.ofNat 32,UInt8.ofNat 108,UInt8.ofNat 97,UInt8.ofNat 98,UInt8.ofNat 101,UInt8.ofNat
 108,UInt8.ofNat 32,UInt8.ofNat 57] n=Prod.mk s_40 e_41)→bif !eqB s_38 s_40 then Q (.ret (.bool false)) [] {} else bif e_39 !=e_41 then Q (.ret (.bool false)) [] {} else Lf (s_5.length≤9223372036854775807)∧∀s_42:List UInt8,∀
 e_43:Int,Lf (expoM s_9 s_2 s_5 n_33=Prod.mk s_42 e_43)→Lf (tabO (cells6M startM) (cells6M kkM)∧s_5.length≤9223372036854775807)∧∀s_44:List UInt8,∀e_45:Int,Lf (expoM s_9 s_2 s_5 n_33=Prod.mk s_44 e_45)→bif !eqB s_42
 s_44 then Q (.ret (.bool false)) [] {} else bif e_43 !=e_45 then Q (.ret (.bool false)) [] {} else Lf (List.length [UInt8.ofNat 97,UInt8.ofNat 110,UInt8.ofNat 121,UInt8.ofNat 32,UInt8.ofNat 108,UInt8.ofNat 97,UInt8.ofNat 98,
 UInt8.ofNat 101,UInt8.ofNat 108,UInt8.ofNat 32,UInt8.ofNat 57]≤9223372036854775807)∧∀s_46:List UInt8,∀e_47:Int,Lf (expoM s_9 s_2 [UInt8.ofNat 97,UInt8.ofNat 110,UInt8.ofNat 121,UInt8.ofNat 32,UInt8.ofNat 108,UInt8.ofNat
 97,UInt8.ofNat 98,UInt8.ofNat 101,UInt8.ofNat 108,UInt8.ofNat 32,UInt8.ofNat 57] n_33=Prod.mk s_46 e_47)→Lf (tabO (cells6M startM) (cells6M kkM)∧List.length [UInt8.ofNat 97,UInt8.ofNat 110,UInt8.ofNat 121,UInt8.ofNat 32,
 UInt8.ofNat 108,UInt8.ofNat 97,UInt8.ofNat 98,UInt8.ofNat 101,UInt8.ofNat 108,UInt8.ofNat 32,UInt8.ofNat 57]≤9223372036854775807)∧∀s_48:List UInt8,∀e_49:Int,Lf (expoM s_9 s_2 [UInt8.ofNat 97,UInt8.ofNat 110,UInt8.ofNat
 121,UInt8.ofNat 32,UInt8.ofNat 108,UInt8.ofNat 97,UInt8.ofNat 98,UInt8.ofNat 101,UInt8.ofNat 108,UInt8.ofNat 32,UInt8.ofNat 57] n_33=Prod.mk s_48 e_49)→bif !eqB s_46 s_48 then Q (.ret (.bool false)) [] {} else bif e_47 !=e_49
 then Q (.ret (.bool false)) [] {} else Q (.ret (.bool true)) [] {})))):=by kernel_rfl

end Go.Proofs.YtjenieljapmehaaGreatDoor

set_option linter.unusedSimpArgs false
set_option linter.unusedVariables false
set_option linter.unusedSectionVars false
namespace Go.Proofs.YtjenieljapmehaaGreatDoor
open Go.RowKit
set_option maxRecDepth 1000000

theorem table_ok21:ValidF Tryz.prog gl0 6 cTable:=table_ok
theorem smG_ok:∀f g,smG f=some g→ValidF Tryz.prog gl0 f g:=lookS_ok _ (by simp only[List.mem_cons,List.not_mem_nil,or_false,forall_eq_or_imp,forall_eq];exact ⟨works_ok21,secret_ok,expo_ok,expor_ok,table_ok21⟩)
theorem pairI {m c l:List UInt8} {n:Int} {A B:Prop} (hl:l.length≤9223372036854775807) (hA:A) :
  Lf (l.length≤9223372036854775807)∧∀ (s:List UInt8) (e:Int),Lf (expoM m c l n=(s,e))→Lf (tabO (cells6M startM) (cells6M kkM)∧l.length≤9223372036854775807)∧∀ (s':List UInt8) (e':Int),Lf (expoM m c l n=(s',e'))→bif !(eqB s s') then B else bif e !=e' then B else A:=by
 refine ⟨⟨hl⟩, ?_⟩
 rintro s e ⟨h⟩
 refine ⟨⟨⟨rfl,rfl⟩,hl⟩, ?_⟩
 rintro s' e' ⟨h'⟩
 rw[h] at h'
 cases h'
 rw[show (!(eqB s s))=false by simp[eqB_t],show (e !=e)=false by simp]
 exact hA
theorem iminI (x k:Int) (h:0≤x) (hk:0≤k):0≤imin x k∧imin x k≤x∧imin x k≤k:=by
 unfold imin
 split<;>omega
theorem gives_run (raw:List UInt8) (a b c d:Int) (ctx lab:List UInt8) (n:Int) (h1:raw.length≤9223372036854775807) (h2:ctx.length≤9223372036854775807) (h3:lab.length≤9223372036854775807) (Q:Out→List Blk→Gh→Prop) (hq:Q (.ret (.bool true)) [] {}):∃hv hb,goal_g3 hv hb raw a b c d ctx lab n Q:=by
 obtain ⟨hv',hb',e'⟩:∃hv hb,goal_g3 hv hb raw a b c d ctx lab n Q=_:=⟨_,_,vc_g3 raw a b c d ctx lab n Q⟩
 refine ⟨hv',hb',e'.mpr ?_⟩
 clear e'
 have m1:=iminI (ctx.length:Int) 70 (by omega) (by omega)
 have m2:=iminI (lab.length:Int) 30 (by omega) (by omega)
 have m3:=iminI (raw.length:Int) 40 (by omega) (by omega)
 refine ⟨_,rfl,_,rfl,ckI (by simp;omega) ⟨_,rfl,_,rfl,_,rfl,ckI (by simp;omega) ⟨_,rfl,_,rfl,_,rfl,ckI (by simp;omega) ⟨_,rfl, ?_⟩⟩⟩⟩
 rintro s9 ⟨h9⟩
 have hl:(List.take ((imin (lab.length:Int) 30).toNat-0) (List.drop 0 lab)).length≤9223372036854775807:=by
  rw[List.length_take]
  omega
 generalize List.take ((imin (lab.length:Int) 30).toNat-0) (List.drop 0 lab)=l5 at hl ⊢
 refine ⟨_,rfl,_,rfl,_,rfl,_,rfl, ?_⟩
 refine pairI hl ?_
 refine pairI (by simp) ?_
 refine pairI hl ?_
 refine pairI (by simp) ?_
 refine ⟨_,rfl,_,rfl,_,rfl,_,rfl, ?_⟩
 refine pairI hl ?_
 refine pairI (by simp) ?_
 refine pairI hl ?_
 refine pairI (by simp) ?_
 exact hq
end Go.Proofs.YtjenieljapmehaaGreatDoor

set_option linter.unusedSimpArgs false
set_option linter.unusedVariables false
set_option linter.unusedSectionVars false
namespace Go.Proofs.YtjenieljapmehaaGreatDoor
open Go.RowKit
set_option maxRecDepth 1000000

end Go.Proofs.YtjenieljapmehaaGreatDoor
