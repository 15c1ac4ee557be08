/-
  Chapter 24: Same.
-/
import Derived.Test.YtafchcmemeinlaaDoorC24XS
set_option linter.unusedSimpArgs false
set_option linter.unusedVariables false
set_option linter.unusedSectionVars false
namespace Go.Proofs.YtafchcmemeinlaaDoor
open Go.RowKit
set_option maxRecDepth 1000000

def aYe (t t':Nat) (xs:List Int):LInv where
 α:=Nat
 pre i:=Lf (i≤xs.length)
 st i:=⟨mkT [(0,.lst t (aA xs) xs.length 1),(1,.lst t' (aA xs) xs.length 1),(5,.int .i64 i)],[]⟩
 mu i:=xs.length-i
noncomputable def aHu (hv:Nat→Option Pa) (hb:Nat→Option Bool) (t t':Nat) (xs:List Int) (Q:Out→List Blk→Gh→Prop):Prop:=
 bH (e24 sm0 (fun i=>bif Nat.beq i 40000 then some (fun _=>[[aYe t t' xs]]) else none) hv hb) (wpx (e24 sm0 (fun i=>bif Nat.beq i 40000 then some (fun _=>[[aYe t t' xs]]) else none) hv hb) 1000) 40 [.lst t (aA xs) xs.length 1,.lst t' (aA xs) xs.length 1] [] {} Q
abbrev aGe (Q:Out→List Blk→Gh→Prop):Prop:=Q (.ret (.bool false)) [] {}
abbrev bJu (t:Nat) (xs:List Int):Prop:=aK (AV.lst t (aA xs) xs.length 1)
abbrev aS9 (x_2:Nat):AV:=.int .i64 (x_2:Int)
abbrev bKq:Prop:=True∧(0:Nat)=(0:Nat)
theorem bOg (t:Nat) (t':Nat) (xs:List Int) (Q:Out→List Blk→Gh→Prop):aHu (bG [(163847,.int .i64),(163849,.int .i64),(163851,.int .i64),(163853,.int .i64),(163858,.int .i64),(163860,.int .i64),(163862,.int .i64),(163864,.int .i64),(163855,.int .i64),(163856,.int .i64)]) (bF []) t t' xs Q=(exI .i64 (xs.length:Int) (fun n_0=>exI .i64 (xs.length:Int) (fun n_1=>bif n_0 !=n_1 then aGe Q else (∃x_2:Nat,Lf (x_2≤xs.length)∧bJu t xs∧bJu t' xs∧AV.int .i64 0=aS9 x_2∧True)∧∀x_2:Nat,Lf (x_2≤xs.length)→exI .i64 (x_2:Int) (fun n_3=>exI .i64 (xs.length:Int) (fun n_4=>bif decide (n_3<n_4) then exI .i64 (x_2:Int) (fun n_5=>ckQ (decide (0≤n_5)&&Nat.blt n_5.toNat xs.length&&true) (ckQ (Nat.blt (n_5.toNat*1) (aA xs).length) (exV .i64 ((aA xs).getD (n_5.toNat*1) AV.undef) (fun n_6=>exI .i64 (x_2:Int) (fun n_7=>ckQ (decide (0≤n_7)&&Nat.blt n_7.toNat xs.length&&true) (ckQ (Nat.blt (n_7.toNat*1) (aA xs).length) (exV .i64 ((aA xs).getD (n_7.toNat*1) AV.undef) (fun n_8=>bif n_6 !=n_8 then aGe Q else exI .i64 (x_2:Int) (fun n_9=>exW .i64 (n_9+1) (fun n_10=>bKq∧∃y_11:Nat,Lf (y_11≤xs.length)∧xs.length-y_11<xs.length-x_2∧bJu t xs∧bJu t' xs∧AV.int .i64 n_10=aS9 y_11∧True)))))))))) else Q (.ret (.bool true)) [] {}))))):=by kernel_rfl

theorem aPq (t t':Nat) (xs:List Int) (Q:Out→List Blk→Gh→Prop) (hl:xs.length≤1000000) (hq:Q (.ret (.bool true)) [] {}):∃hv hb,aHu hv hb t t' xs Q:=by
 obtain ⟨hv,hb',e⟩:∃hv hb,aHu hv hb t t' xs Q=_:=⟨_,_,bOg t t' xs Q⟩
 refine ⟨hv,hb',e.mpr ?_⟩
 delta aGe bJu aS9 bKq
 clear e
 refine ⟨_,rfl,_,rfl,cB (fun h=>absurd rfl h) (fun _=>⟨⟨0,⟨Nat.zero_le _⟩,rfl,rfl,rfl,trivial⟩, ?_⟩)⟩
 rintro i ⟨hi⟩
 refine ⟨_,rfl,_,rfl,aD (fun h1 => ?_) (fun _=>hq)⟩
 have h1:i<xs.length:=by omega
 have hc:=aB xs
 refine ⟨_,rfl,ckI (by simp;omega) (ckI (by rw[aL];omega) (kS h1 (by omega) ?_))⟩
 refine ⟨_,rfl,ckI (by simp;omega) (ckI (by rw[aL];omega) (kS h1 (by omega) ?_))⟩
 refine cB (fun h=>absurd rfl h) (fun _ => ?_)
 exact ⟨_,rfl,aC (by omega) (by omega) ⟨⟨trivial,rfl⟩,i+1,⟨by omega⟩,by omega,rfl,rfl,rfl,trivial⟩⟩
def aOd:Con
 | [.lst _ a n 1,.lst _ b m 1],H,K=>∃xs:List Int,Lf (a=aA xs∧b=aA xs∧n=xs.length∧m=xs.length∧xs.length≤1000000)∧K (.ret (.bool true)) H
 | _,_,_=>False
theorem aU3:aO Tryd.prog glC 40 aOd:=by
 refine bE (enters_of (by kernel_rfl)) aV fun args H Q hc => ?_
 unfold aOd at hc
 split at hc
 ·obtain ⟨xs,⟨rfl,rfl,rfl,rfl,h1⟩,hq⟩:=hc
  obtain ⟨hv,hb',h⟩:=aPq _ _ _ (fun o H' _=>H'=[]∧(∃v,o=.ret v∧old 0 v=true∧noY v=true)∧Q o H) h1 ⟨rfl,⟨_,rfl,rfl,rfl⟩,hq⟩
  exact ⟨rfl,rfl,_,1000,aS fB _ _ _,rfl,h⟩
 ·exact hc.elim
def bQx:SM:=gH [(40,aOd)]
theorem bCf:∀f g,bQx f=some g→aO Tryd.prog glC f g:=bW _ (by simp only[List.mem_cons,List.not_mem_nil,or_false,forall_eq];exact aU3)
def bI8 (t t':Nat) (l:List Ctl):LInv where
 α:=Nat
 pre i:=Lf (i≤l.length)
 st i:=⟨mkT [(0,.lst t (aG l) l.length 13),(1,.lst t' (aG l) l.length 13),(5,.int .i64 i)],[]⟩
 mu i:=l.length-i
def bDk (s:S):List (List LInv):=match s.hp with
 | [⟨_,_,[_,_,_,_,_,_,_,_,.lst _ _ n _,_,_,_,_]⟩,⟨_,_,_⟩]=>[[
  { α:=Nat,pre:=fun j=>Lf (j≤n),st:=fun j=>⟨mkT [(0,s.tm.get 0),(1,s.tm.get 1),(5,s.tm.get 5),(6,.ptr 0 13 0),(7,.ptr 1 13 0),(8,.int .i64 j)],s.hp⟩,mu:=fun j=>n-j }]]
 | _=>[]
noncomputable def aZh (hv:Nat→Option Pa) (hb:Nat→Option Bool) (t t':Nat) (l:List Ctl):Env:=e24 bQx (fun i=>bif Nat.beq i 16000 then some (fun _=>[[bI8 t t' l]]) else bif Nat.beq i 16002 then some bDk else none) hv hb
noncomputable def aHq (hv:Nat→Option Pa) (hb:Nat→Option Bool) (t t':Nat) (l:List Ctl) (Q:Out→List Blk→Gh→Prop):Prop:=
 bH (aZh hv hb t t' l) (wpx (aZh hv hb t t' l) 1000) 16 [.lst t (aG l) l.length 13,.lst t' (aG l) l.length 13] [] {} Q
abbrev aU6 (t:Nat) (l:List Ctl):Prop:=aK (AV.lst t (aG l) l.length 13)
theorem bOh (t:Nat) (t':Nat) (l:List Ctl) (Q:Out→List Blk→Gh→Prop):aHq (bG [(65546,.int .i64),(65548,.int .i64),(65550,.int .i64),(65552,.int .i64),(65557,.int .i64),(65559,.agg [.int .i64,.int .i64,
 .int .i64,.int .i64,.int .i64,.int .i64,.int .i64,.int .i64,.lst 7,.lst 1,.int .i64,.int .i64,.lst 1]),(65561,.int .i64),(65563,.agg [.int .i64,.int .i64,.int .i64,.int .i64,.int .i64,.int .i64,.int .i64,.int .i64,
 .lst 7,.lst 1,.int .i64,.int .i64,.lst 1]),(65568,.lit (.bool false)),(65574,.lit (.bool false)),(65575,.lit (.bool false)),(65651,.int .i64),(65654,.int .i64),(65657,.int .i64),(65660,.int .i64),(65666,.int .i64),
 (65668,.agg [.int .i64,.int .i64,.int .i64,.int .i64,.int .i64,.int .i64,.int .i64]),(65671,.int .i64),(65673,.agg [.int .i64,.int .i64,.int .i64,.int .i64,.int .i64,.int .i64,.int .i64]),(65662,.int .i64),(65663,.int
 .i64),(65554,.int .i64),(65555,.int .i64)]) (bF []) t t' l Q=(exI .i64 (l.length:Int) (fun n_0=>exI .i64 (l.length:Int) (fun n_1=>bif n_0 !=n_1 then aGe Q else (∃x_2:Nat,Lf (x_2≤l.length)∧aU6 t l∧aU6 t' l ∧
 AV.int .i64 0=aS9 x_2∧True)∧∀x_2:Nat,Lf (x_2≤l.length)→exI .i64 (x_2:Int) (fun n_3=>exI .i64 (l.length:Int) (fun n_4=>bif decide (n_3<n_4) then exI .i64 (x_2:Int) (fun n_5=>ckQ (decide (0≤n_5)&&Nat.blt
 n_5.toNat l.length&&true) (ckQ (Nat.ble (n_5.toNat*13+13) (aG l).length) (∃n_6 n_7 n_8 n_9 n_10 n_11 n_12 n_13,∃t_14:Nat,∃cs_15:List AV,∃len_16 t_17:Nat,∃cs_18:List AV,∃len_19:Nat,∃n_20 n_21,∃t_22:Nat,
 ∃cs_23:List AV,∃len_24:Nat,AV.agg (((aG l).drop (n_5.toNat*13)).take 13)=AV.agg [.int .i64 n_6,.int .i64 n_7,.int .i64 n_8,.int .i64 n_9,.int .i64 n_10,.int .i64 n_11,.int .i64 n_12,.int .i64 n_13,.lst t_14 cs_15
 len_16 7,.lst t_17 cs_18 len_19 1,.int .i64 n_20,.int .i64 n_21,.lst t_22 cs_23 len_24 1]∧exI .i64 (x_2:Int) (fun n_25=>ckQ (decide (0≤n_25)&&Nat.blt n_25.toNat l.length&&true) (ckQ (Nat.ble (n_25.toNat*13+13) (aG
 l).length) (∃n_26 n_27 n_28 n_29 n_30 n_31 n_32 n_33,∃t_34:Nat,∃cs_35:List AV,∃len_36 t_37:Nat,∃cs_38:List AV,∃len_39:Nat,∃n_40 n_41,∃t_42:Nat,∃cs_43:List AV,∃len_44:Nat,AV.agg (((aG l).drop
 (n_25.toNat*13)).take 13)=AV.agg [.int .i64 n_26,.int .i64 n_27,.int .i64 n_28,.int .i64 n_29,.int .i64 n_30,.int .i64 n_31,.int .i64 n_32,.int .i64 n_33,.lst t_34 cs_35 len_36 7,.lst t_37 cs_38 len_39 1,.int .i64 n_40,.int
 .i64 n_41,.lst t_42 cs_43 len_44 1]∧AV.bool (n_6 !=n_26)=AV.bool false∧AV.bool (n_7 !=n_27)=AV.bool false∧aK (AV.bool false)∧bif n_8 !=n_28 then aGe Q else bif n_9 !=n_29 then aGe Q else bif n_10 !=n_30 then aGe Q
 else bif n_11 !=n_31 then aGe Q else bif n_12 !=n_32 then aGe Q else bif n_13 !=n_33 then aGe Q else bif n_20 !=n_40 then aGe Q else bif n_21 !=n_41 then aGe Q else ∃xs_45:List Int,Lf (cs_18=aA xs_45∧cs_38=aA
 xs_45∧len_19=xs_45.length∧len_39=xs_45.length∧xs_45.length≤1000000)∧∃xs_46:List Int,Lf (cs_23=aA xs_46∧cs_43=aA xs_46∧len_24=xs_46.length∧len_44=xs_46.length∧xs_46.length≤1000000)∧exI .i64
 (len_16:Int) (fun n_47=>exI .i64 (len_36:Int) (fun n_48=>bif n_47 !=n_48 then aGe Q else (∃x_49:Nat,Lf (x_49≤len_16)∧aK [AV.int .i64 n_6,.int .i64 n_7,.int .i64 n_8,.int .i64 n_9,.int .i64 n_10,.int .i64 n_11,.int
 .i64 n_12,.int .i64 n_13,.lst t_14 cs_15 len_16 7,.lst t_17 cs_18 len_19 1,.int .i64 n_20,.int .i64 n_21,.lst t_22 cs_23 len_24 1]∧aK [AV.int .i64 n_26,.int .i64 n_27,.int .i64 n_28,.int .i64 n_29,.int .i64 n_30,.int .i64
 n_31,.int .i64 n_32,.int .i64 n_33,.lst t_34 cs_35 len_36 7,.lst t_37 cs_38 len_39 1,.int .i64 n_40,.int .i64 n_41,.lst t_42 cs_43 len_44 1]∧aU6 t l∧aU6 t' l∧aK (AV.ptr 1 13 0)∧aK (aS9 x_2)∧AV.int .i64 0=aS9 x_49
 ∧ aK (AV.ptr 0 13 0)∧True)∧∀x_49:Nat,Lf (x_49≤len_16)→exI .i64 (x_49:Int) (fun n_50=>exI .i64 (len_16:Int) (fun n_51=>bif decide (n_50<n_51) then exI .i64 (x_49:Int) (fun n_52=>ckQ (decide (0≤n_52)&&Nat.blt
 n_52.toNat len_16&&true) (ckQ (Nat.ble (n_52.toNat*7+7) cs_15.length) (∃n_53 n_54 n_55 n_56 n_57 n_58 n_59,AV.agg ((cs_15.drop (n_52.toNat*7)).take 7)=AV.agg [.int .i64 n_53,.int .i64 n_54,.int .i64 n_55,.int .i64 n_56,.int
 .i64 n_57,.int .i64 n_58,.int .i64 n_59]∧exI .i64 (x_49:Int) (fun n_60=>ckQ (decide (0≤n_60)&&Nat.blt n_60.toNat len_36&&true) (ckQ (Nat.ble (n_60.toNat*7+7) cs_35.length) (∃n_61 n_62 n_63 n_64 n_65 n_66 n_67,AV.agg
 ((cs_35.drop (n_60.toNat*7)).take 7)=AV.agg [.int .i64 n_61,.int .i64 n_62,.int .i64 n_63,.int .i64 n_64,.int .i64 n_65,.int .i64 n_66,.int .i64 n_67]∧bif !(n_53==n_61&&(n_54==n_62&&(n_55==n_63&&(n_56==n_64 &&
 (n_57==n_65&&(n_58==n_66&&(n_59==n_67&&true))))))) then aGe Q else exI .i64 (x_49:Int) (fun n_68=>exW .i64 (n_68+1) (fun n_69=>bKq∧∃y_70:Nat,Lf (y_70≤len_16)∧len_16-y_70<len_16-x_49∧aK [AV.int .i64
 n_6,.int .i64 n_7,.int .i64 n_8,.int .i64 n_9,.int .i64 n_10,.int .i64 n_11,.int .i64 n_12,.int .i64 n_13,.lst t_14 cs_15 len_16 7,.lst t_17 cs_18 len_19 1,.int .i64 n_20,.int .i64 n_21,.lst t_22 cs_23 len_24 1]∧aK [AV.int
 .i64 n_26,.int .i64 n_27,.int .i64 n_28,.int .i64 n_29,.int .i64 n_30,.int .i64 n_31,.int .i64 n_32,.int .i64 n_33,.lst t_34 cs_35 len_36 7,.lst t_37 cs_38 len_39 1,.int .i64 n_40,.int .i64 n_41,.lst t_42 cs_43 len_44 1]∧aU6
 t l∧aU6 t' l∧aK (AV.ptr 1 13 0)∧aK (aS9 x_2)∧AV.int .i64 n_69=aS9 y_70∧aK (AV.ptr 0 13 0)∧True)))))))) else exI .i64 (x_2:Int) (fun n_52=>exW .i64 (n_52+1) (fun n_53=>bKq∧∃y_54:Nat,Lf (y_54≤l.length)
 ∧ l.length-y_54<l.length-x_2∧aU6 t l∧aU6 t' l∧AV.int .i64 n_53=aS9 y_54∧True)))))))))))) else Q (.ret (.bool true)) [] {}))))):=by kernel_rfl

theorem agC {cs:List AV} {c:Ctl} (e:cs=ctC c) {K:Int→Int→Int→Int→Int→Int→Int→Int→Nat→List AV→Nat→Nat→List AV→Nat→Int→Int→Nat→List AV→Nat→Prop} (h:K c.k c.f c.a c.s1 c.s2 c.s3 c.s4 c.s5 0 (aF c.rs) c.rs.length 0 (aA c.lo) c.lo.length c.ba c.ro 0 (aA c.ti) c.ti.length) :
  ∃ (n0 n1 n2 n3 n4 n5 n6 n7:Int) (t8:Nat) (c8:List AV) (l8:Nat) (t9:Nat) (c9:List AV) (l9:Nat) (n10 n11:Int) (t12:Nat) (c12:List AV) (l12:Nat),AV.agg cs=AV.agg [.int .i64 n0,.int .i64 n1,.int .i64 n2,.int .i64 n3,.int .i64 n4,.int .i64 n5,.int .i64 n6,.int .i64 n7,.lst t8 c8 l8 7,.lst t9 c9 l9 1,.int .i64 n10,.int .i64 n11,.lst t12 c12 l12 1]∧K n0 n1 n2 n3 n4 n5 n6 n7 t8 c8 l8 t9 c9 l9 n10 n11 t12 c12 l12:=
 ⟨_,_,_,_,_,_,_,_,_,_,_,_,_,_,_,_,_,_,_,by rw[e];rfl,h⟩
theorem agR {cs:List AV} {r:Rc} (e:cs=oW r) {K:Int→Int→Int→Int→Int→Int→Int→Prop} (h:K r.1 r.2.1 r.2.2.1 r.2.2.2.1 r.2.2.2.2.1 r.2.2.2.2.2.1 r.2.2.2.2.2.2) :
  ∃n0 n1 n2 n3 n4 n5 n6:Int,AV.agg cs=AV.agg [.int .i64 n0,.int .i64 n1,.int .i64 n2,.int .i64 n3,.int .i64 n4,.int .i64 n5,.int .i64 n6]∧K n0 n1 n2 n3 n4 n5 n6:=
 ⟨_,_,_,_,_,_,_,by rw[e];rfl,h⟩
theorem aT6 (t t':Nat) (l:List Ctl) (Q:Out→List Blk→Gh→Prop) (hl:l.length≤1000000) (hok:∀c∈l,okC c) (hq:Q (.ret (.bool true)) [] {}):∃hv hb,aHq hv hb t t' l Q:=by
 obtain ⟨hv,hb',e⟩:∃hv hb,aHq hv hb t t' l Q=_:=⟨_,_,bOh t t' l Q⟩
 refine ⟨hv,hb',e.mpr ?_⟩
 delta aGe aU6 aS9 bKq
 clear e
 refine ⟨_,rfl,_,rfl,cB (fun h=>absurd rfl h) (fun _=>⟨⟨0,⟨Nat.zero_le _⟩,rfl,rfl,rfl,trivial⟩, ?_⟩)⟩
 rintro i ⟨hi⟩
 refine ⟨_,rfl,_,rfl,aD (fun h1 => ?_) (fun _=>hq)⟩
 have h1:i<l.length:=by omega
 have hc:=bJ l
 obtain ⟨c,e1,e2⟩:=iJ h1 (show (i:Int).toNat*13=13*i by omega)
 have hk:=hok c (List.mem_of_getElem? e1)
 refine ⟨_,rfl,ckI (by simp;omega) (ckI (by rw[Nat.ble_eq];omega) (agC e2 ?_))⟩
 refine ⟨_,rfl,ckI (by simp;omega) (ckI (by rw[Nat.ble_eq];omega) (agC e2 ?_))⟩
 refine ⟨by simp,by simp,rfl, ?_⟩
 iterate 8 refine cB (fun h=>absurd rfl h) (fun _ => ?_)
 refine ⟨c.lo,⟨rfl,rfl,rfl,rfl,hk.2.1⟩,c.ti,⟨rfl,rfl,rfl,rfl,hk.2.2⟩,_,rfl,_,rfl,cB (fun h=>absurd rfl h) (fun _ => ?_)⟩
 refine ⟨⟨0,⟨Nat.zero_le _⟩,rfl,rfl,rfl,rfl,rfl,rfl,rfl,rfl,trivial⟩, ?_⟩
 rintro j ⟨hj⟩
 refine ⟨_,rfl,_,rfl,aD (fun h2 => ?_) (fun h2 => ?_)⟩
 ·have h2:j<c.rs.length:=by omega
  have hr:=bI c.rs
  obtain ⟨r,r1,r2⟩:=fK h2 (show (j:Int).toNat*7=7*j by omega)
  refine ⟨_,rfl,ckI (by simp;omega) (ckI (by rw[Nat.ble_eq];omega) (agR r2 ?_))⟩
  refine ⟨_,rfl,ckI (by simp;omega) (ckI (by rw[Nat.ble_eq];omega) (agR r2 ?_))⟩
  have hk1:=hk.1
  simp only[beq_self_eq_true,Bool.and_self,Bool.not_true,cond_false]
  refine ⟨_,rfl,aC (by omega) (by omega) ⟨by simp,j+1,⟨by omega⟩,by omega, ?_⟩⟩
  simp
 ·exact ⟨_,rfl,aC (by omega) (by omega) ⟨⟨trivial,rfl⟩,i+1,⟨by omega⟩,by omega,rfl,rfl,rfl,trivial⟩⟩
def bEn:Con
 | [.lst _ a n 13,.lst _ b m 13],H,K=>∃l:List Ctl,Lf (a=aG l∧b=aG l∧n=l.length∧m=l.length∧l.length≤1000000∧∀c∈l,okC c)∧K (.ret (.bool true)) H
 | _,_,_=>False
theorem bBt:aO Tryd.prog glC 16 bEn:=by
 refine bE (enters_of (by kernel_rfl)) aV fun args H Q hc => ?_
 unfold bEn at hc
 split at hc
 ·obtain ⟨l,⟨rfl,rfl,rfl,rfl,h1,h2⟩,hq⟩:=hc
  obtain ⟨hv,hb',h⟩:=aT6 _ _ l (fun o H' _=>H'=[]∧(∃v,o=.ret v∧old 0 v=true∧noY v=true)∧Q o H) h1 h2 ⟨rfl,⟨_,rfl,rfl,rfl⟩,hq⟩
  exact ⟨rfl,rfl,_,1000,aS bCf _ _ _,rfl,h⟩
 ·exact hc.elim
end Go.Proofs.YtafchcmemeinlaaDoor
