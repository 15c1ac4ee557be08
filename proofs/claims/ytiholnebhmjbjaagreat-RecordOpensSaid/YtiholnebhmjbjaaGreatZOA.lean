/-
  Chapter 17, RecordOpens: valid receivers, the reference's Open, drafted receivers, datagrams of a sender: residuals.
-/
import Derived.Test.YtiholnebhmjbjaaGreatZR1
import Derived.Test.YtiholnebhmjbjaaGreatZ17N
import Derived.Test.YtiholnebhmjbjaaGreatZ17F
import Derived.Test.YtiholnebhmjbjaaGreatZ17PJ
set_option linter.unusedSimpArgs false
set_option linter.unusedVariables false
set_option linter.unusedSectionVars false
namespace Go.Proofs.YtiholnebhmjbjaaGreat
open Go.RowKit
set_option maxRecDepth 1000000

def smOa:SM:=lookS [(41,cValid)]
theorem smOa_ok:∀f g,smOa f=some g→ValidF Tryz.prog gl0 f g:=lookS_ok _ (by simp only[List.mem_cons,List.not_mem_nil,or_false,forall_eq];exact validW_ok)
noncomputable def goal_o17 (hv:Nat→Option Pa) (hb:Nat→Option Bool) (e:Int) (key salt:List UInt8) (t:Int) (k:Nat) (Q:Out→List Blk→Gh→Prop):Prop:=
 callx (e04 smOa (fun _=>none) hv hb) (wpx (e04 smOa (fun _=>none) hv hb) 1000) 17 [.agg [.int .i64 e,.str key,.str salt,.int .i64 t,.int .u64 (k:Nat)]] [] {} Q
theorem vc_o17 (e:Int) (key:List UInt8) (salt:List UInt8) (t:Int) (k:Nat) (Q:Out→List Blk→Gh→Prop):goal_o17 (lookV [(69646,.int .i64),(69652,.int .i64),(69657,.agg [(.int .i64),(.int .u64)])]) (lookB []) e key salt t k Q=(
(bif (decide (e≥(0:Int))) then (bif (decide (e≤(65535:Int))) then (∃n_0:Int,(((AV.int .i64 (Nat.cast (List.length key):Int))=(AV.int .i64 n_0)) ∧
 (bif (n_0==(32:Int)) then (∃n_1:Int,(((AV.int .i64 (Nat.cast (List.length salt):Int))=(AV.int .i64 n_1)) ∧
 (bif (n_1==(12:Int)) then (∃n_2:Int,(∃n_3:Int,(((AV.agg ((AV.int .i64 t)::((AV.int .u64 (Nat.cast k:Int))::[])))=(AV.agg ((AV.int .i64 n_2)::((AV.int .u64 n_3)::[])))) ∧
 (∃k_4:Nat,((Lf ((n_3=(Nat.cast k_4:Int)) ∧
 (k_4<(18446744073709551616:Nat)))) ∧
 (∀b_5:Bool,((Lf (b_5=(okWM n_2 k_4))) →
(bif b_5 then (Q (Out.ret (AV.bool true)) [] (Gh.mk (0:Nat) (0:Nat) []))
else (Q (Out.ret (AV.bool false)) [] (Gh.mk (0:Nat) (0:Nat) []))))))))))
else (Q (Out.ret (AV.bool false)) [] (Gh.mk (0:Nat) (0:Nat) [])))))
else (Q (Out.ret (AV.bool false)) [] (Gh.mk (0:Nat) (0:Nat) [])))))
else (Q (Out.ret (AV.bool false)) [] (Gh.mk (0:Nat) (0:Nat) [])))
else (Q (Out.ret (AV.bool false)) [] (Gh.mk (0:Nat) (0:Nat) [])))):=by kernel_rfl

def cRcvR:Con
 | [.agg [.int .i64 e,.str key,.str salt,.int .i64 t,.int .u64 u]],H,K=>∃k:Nat,Lf (u=(k:Int)∧k<18446744073709551616)∧∀b,Lf (b=rcvOkM e key salt t k)→K (.ret (.bool b)) H
 | _,_,_=>False
theorem rcvR_run (e:Int) (key salt:List UInt8) (t:Int) (k:Nat) (hk:k<18446744073709551616) (Q:Out→List Blk→Gh→Prop) (hq:Q (.ret (.bool (rcvOkM e key salt t k))) [] {}):∃hv hb,goal_o17 hv hb e key salt t k Q:=by
 obtain ⟨hv,hb',e'⟩:∃hv hb,goal_o17 hv hb e key salt t k Q=_:=⟨_,_,vc_o17 e key salt t k Q⟩
 refine ⟨hv,hb',e'.mpr ?_⟩
 clear e'
 have hi:=rcv_iff e key salt t k
 have no:¬ ((0≤e∧e≤65535)∧key.length=32∧salt.length=12∧okWM t k=true)→Q (.ret (.bool false)) [] {}:=fun h=>by
  rwa [show rcvOkM e key salt t k=false by rw[←Bool.not_eq_true,hi];exact h] at hq
 refine splitD (fun h1=>splitD (fun h2=>⟨_,rfl,splitE (fun h3=>⟨_,rfl,splitE (fun h4=>aggW2 ⟨k,⟨rfl,hk⟩, ?_⟩) (fun h=>no (fun g=>by omega))⟩) (fun h=>no (fun g=>by omega))⟩) (fun h=>no (fun g=>by omega))) (fun h=>no (fun g=>by omega))
 rintro b ⟨hb⟩
 cases b with
 | true=>rwa [hi.2 ⟨by omega,by omega,by omega,hb.symm⟩] at hq
 | false=>exact no (fun g=>by rw[←hb] at g;cases g.2.2.2)
theorem rcvR_ok:ValidF Tryz.prog gl0 17 cRcvR:=by
 refine valid_flat (enters_of (by kernel_rfl)) gl0_noY fun args H Q hc => ?_
 unfold cRcvR at hc
 split at hc
 ·rename_i e key salt t u
  obtain ⟨k,⟨rfl,h1⟩,hq⟩:=hc
  obtain ⟨hv,hb',h⟩:=rcvR_run e key salt t k h1 (Q:=fun o H' _=>H'=[]∧(∃v,o=.ret v∧old 0 v=true∧noY v=true)∧Q o H) ⟨rfl,⟨_,rfl,rfl,rfl⟩,hq _ ⟨rfl⟩⟩
  exact ⟨rfl,rfl,_,1000,envFor04 smOa_ok _ _ _,rfl,h⟩
 ·exact hc.elim
def smOr1:SM:=lookS [(17,cRcvR),(45,cDec),(46,cFresh),(36,cNonce),(34,cHead),(47,cOpenRf),(48,cMark)]
theorem smOr1_ok:∀f g,smOr1 f=some g→ValidF Tryz.prog gl0 f g:=lookS_ok _ (by simp only[List.mem_cons,List.not_mem_nil,or_false,forall_eq_or_imp,forall_eq];exact ⟨rcvR_ok,rdec_ok,freshR_ok,nonceR_ok,rhead_ok,ropen_ok,markR_ok⟩)
abbrev XO21:=Nat×Wn×List Rc×List AV
def inv_o21 (e:Int) (key salt:List UInt8) (t:Int) (k:Nat) (l:List Rc) (s:S):List (List LInv):=[[
 { α:=Nat×Wn,pre:=fun x=>Lf (x.1≤l.length∧okWM x.2.1 x.2.2=true∧x.2.2<18446744073709551616∧opensM e key salt (t,k) (l.take x.1)=(x.2,[])),
   st:=fun x=>⟨mkT [(2,s.tm.get 2),(4,s.tm.get 4),(7,s.tm.get 7),(9,.nils),(10,.int .i64 (x.1:Nat))],
    [⟨.exact,true,[.int .i64 e,.str key,.str salt,.int .i64 x.2.1,.int .u64 (x.2.2:Nat)]⟩,⟨.exact,true,[.int .i64 0,.str [],.str [],.int .i64 0,.int .u64 0]⟩]⟩,mu:=fun x=>l.length-x.1 },
 { α:=XO21,pre:=fun x=>Lf (x.1≤l.length∧okWM x.2.1.1 x.2.1.2=true∧x.2.1.2<18446744073709551616∧0<x.2.2.1.length∧opensM e key salt (t,k) (l.take x.1)=(x.2.1,x.2.2.1)),
   st:=fun x=>⟨mkT [(2,s.tm.get 2),(4,s.tm.get 4),(7,s.tm.get 7),(9,.sl 3 (x.2.2.1.length*4) 0 x.2.2.1.length 4),(10,.int .i64 (x.1:Nat))],
    [⟨.exact,true,[.int .i64 e,.str key,.str salt,.int .i64 x.2.1.1,.int .u64 (x.2.1.2:Nat)]⟩,⟨.exact,true,[.int .i64 0,.str [],.str [],.int .i64 0,.int .u64 0]⟩,
      ⟨.exact,true,x.2.2.2⟩,⟨.grow,true,cellsRM x.2.2.1⟩]⟩,mu:=fun x=>l.length-x.1 }]]
noncomputable def env_o21 (hv:Nat→Option Pa) (hb:Nat→Option Bool) (e:Int) (key salt:List UInt8) (t:Int) (k:Nat) (l:List Rc):Env:=
 { e04 smOr1 (fun i=>bif Nat.beq i 21000 then some (inv_o21 e key salt t k l) else none) hv hb with hz:=fun k=>Nat.beq k 86102 }
theorem envFor_o21 (hv:Nat→Option Pa) (hb:Nat→Option Bool) (e:Int) (key salt:List UInt8) (t:Int) (k:Nat) (l:List Rc):EnvFor Tryz.prog (env_o21 hv hb e key salt t k l):=⟨mixed04,names04,tabA_ok,smOr1_ok⟩
noncomputable def goal_o21 (hv:Nat→Option Pa) (hb:Nat→Option Bool) (e:Int) (key salt:List UInt8) (t:Int) (k:Nat) (l:List Rc) (s:List UInt8) (Q:Out→List Blk→Gh→Prop):Prop:=
 callx (env_o21 hv hb e key salt t k l) (wpx (env_o21 hv hb e key salt t k l) 1000) 21 [.agg [.int .i64 e,.str key,.str salt,.int .i64 t,.int .u64 (k:Nat)],.str s] [] {} Q
abbrev zOA21 (k:Nat):AV:=.int .u64 (k:Int)
abbrev zOA23 (k_5:Nat):Prop:=k_5<18446744073709551616
abbrev zOA26:AV:=.agg [.int .i64 0,.str [],.str [],.int .i64 0,.int .u64 0]
abbrev zOA4 (x_9:Nat×Wn) (l:List Rc) (e:Int) (key salt:List UInt8) (t:Int) (k:Nat):Prop:=Lf (x_9.1≤l.length∧okWM x_9.2.1 x_9.2.2=true∧x_9.2.2<18446744073709551616∧opensM e key salt (Prod.mk t k) (l.take x_9.1)=Prod.mk x_9.2 [])
abbrev zOA10 (e:Int) (key salt:List UInt8) (x_9:Nat×Wn):List AV:=[.int .i64 e,.str key,.str salt,.int .i64 x_9.2.1,.int .u64 (x_9.2.2:Int)]
abbrev zOA5:Prop:=eqqQ [AV.int .i64 0,.str [],.str [],.int .i64 0,.int .u64 0]
abbrev zOA18 (l_7:List Rc):Prop:=eqqQ (AV.lst 0 (cellsRM l_7) l_7.length 4)
abbrev zOA24:Prop:=eqqQ (AV.ptr 0 5 0)
abbrev zOA25:Prop:=eqqQ (AV.ptr 1 5 0)
abbrev zOA13 (y_19:Nat×Wn×List Rc×List AV) (l:List Rc) (e:Int) (key salt:List UInt8) (t:Int) (k:Nat):Prop:=Lf (y_19.1≤l.length∧okWM y_19.2.1.1 y_19.2.1.2=true∧y_19.2.1.2<18446744073709551616∧0<y_19.2.2.1.length∧opensM e key salt (Prod.mk t k) (l.take y_19.1)=Prod.mk y_19.2.1 y_19.2.2.1)
abbrev zOA2 (x_9:Nat×Wn×List Rc×List AV) (l:List Rc) (e:Int) (key salt:List UInt8) (t:Int) (k:Nat):Prop:=zOA13 x_9 l e key salt t k
abbrev zOA9 (e:Int) (key salt:List UInt8) (x_9:Nat×Wn×List Rc×List AV):List AV:=[.int .i64 e,.str key,.str salt,.int .i64 x_9.2.1.1,.int .u64 (x_9.2.1.2:Int)]
abbrev zOA14:Prop:=True∧(0:Nat)=(0:Nat)
abbrev zOA1 (x_9:Nat×Wn) (l:List Rc) (e:Int) (key salt:List UInt8) (t:Int) (k:Nat) (l_7:List Rc):Prop:=exI .i64 (x_9.1:Int) (fun n_17=>exW .i64 (n_17+1) (fun n_18=>zOA14∧((∃y_19:Nat×Wn,zOA4 y_19 l e key salt t k∧l.length-y_19.1<l.length-x_9.1∧zOA10 e key salt x_9=zOA10 e key salt y_19∧zOA5∧zOA18 l_7∧AV.nils=AV.nils∧zOA24∧zOA25∧AV.int .i64 n_18=AV.int .i64 (y_19.1:Int)∧True)∨∃y_19:Nat×Wn×List Rc×List AV,zOA13 y_19 l e key salt t k∧l.length-y_19.1<l.length-x_9.1∧zOA10 e key salt x_9=zOA9 e key salt y_19∧zOA5∧False)))
abbrev zOA17 (key:List UInt8):Bool:=eqAVL [.str key] [.str key]&&true
abbrev zOA28 (n_22:Int):Prop:=0≤n_22∧n_22≤65535
abbrev zOA22 (y_37:Nat×Wn×List Rc×List AV):AV:=.sl 3 (y_37.2.2.1.length*4) 0 y_37.2.2.1.length 4
abbrev zOA19 (n_36:Int) (y_37:Nat×Wn×List Rc×List AV):Prop:=eqqQ (AV.ptr 0 5 0)∧eqqQ (AV.ptr 1 5 0)∧AV.int .i64 n_36=AV.int .i64 (y_37.1:Int)∧True
abbrev zOA0 (x_9:Nat×Wn×List Rc×List AV) (l:List Rc) (e:Int) (key salt:List UInt8) (t:Int) (k:Nat) (l_7:List Rc):Prop:=exI .i64 (x_9.1:Int) (fun n_17=>exW .i64 (n_17+1) (fun n_18=>zOA14∧((∃y_19:Nat×Wn,zOA4 y_19 l e key salt t k∧l.length-y_19.1<l.length-x_9.1∧zOA9 e key salt x_9=zOA10 e key salt y_19∧zOA5∧False)∨∃y_19:Nat×Wn×List Rc×List AV,zOA13 y_19 l e key salt t k∧l.length-y_19.1<l.length-x_9.1∧zOA9 e key salt x_9=zOA9 e key salt y_19∧zOA5∧x_9.2.2.2=y_19.2.2.2∧cellsRM x_9.2.2.1=cellsRM y_19.2.2.1∧zOA18 l_7∧zOA22 x_9=zOA22 y_19∧zOA19 n_18 y_19)))
theorem vc_o21 (e:Int) (key:List UInt8) (salt:List UInt8) (t:Int) (k:Nat) (l:List Rc) (s:List UInt8) (Q:Out→List Blk→Gh→Prop):goal_o21 (lookV [(86030,.agg [(.int .i64),(.str),(.str),(.int .i64),(.int .u64)]),
 (86043,.int .i64),(86045,.int .i64),(86050,.int .i64),(86052,.agg [.int .i64,.int .i64,.int .i64,.str]),(86047,.int .i64),(86048,.int .i64),(86060,.agg [(.int .i64),(.int .u64)]),(86068,.int .i64),(86080,.int .i64),
 (86091,.agg [(.int .i64),(.int .u64)]),(86095,.agg [(.int .i64),(.int .u64)]),(86104,.agg [(.int .i64),(.str),(.str),(.int .i64),(.int .u64)])]) (lookB []) e key salt t k l s Q=(∃n_0 s_1 s_2 n_3 n_4,AV.agg [.int .i64 e,.str
 key,.str salt,.int .i64 t,zOA21 k]=AV.agg [.int .i64 n_0,.str s_1,.str s_2,.int .i64 n_3,.int .u64 n_4]∧∃k_5:Nat,Lf (n_4=(k_5:Int)∧zOA23 k_5)∧∀b_6:Bool,Lf (b_6=rcvOkM n_0 s_1 s_2 n_3 k_5)→bif b_6 then Lf
 (s.length≤9223372036854775807)∧∀l_7:List Rc,∀e_8:Int,Lf (decM s=Prod.mk l_7 e_8)→bif e_8 !=0 then Q (.ret (.tup [zOA26,.nils,.int .i64 e_8])) [] {} else ((∃x_9:Nat×Wn,zOA4 x_9 l e key salt t k∧[AV.int .i64 e,
 .str key,.str salt,.int .i64 t,zOA21 k]=zOA10 e key salt x_9∧zOA5∧zOA18 l_7∧AV.nils=AV.nils∧zOA24∧zOA25∧AV.int .i64 0=AV.int .i64 (x_9.1:Int)∧True)∨∃x_9:Nat×Wn×List Rc×List AV,zOA2 x_9 l e key salt t k
 ∧ [AV.int .i64 e,.str key,.str salt,.int .i64 t,zOA21 k]=zOA9 e key salt x_9∧zOA5∧False)∧(∀x_9:Nat×Wn,zOA4 x_9 l e key salt t k→exI .i64 (x_9.1:Int) (fun n_10=>exI .i64 (l_7.length:Int) (fun n_11=>bif decide
 (n_10<n_11) then exI .i64 (x_9.1:Int) (fun n_12=>ckQ (decide (0≤n_12)&&Nat.blt n_12.toNat l_7.length&&true) (ckQ (Nat.ble (n_12.toNat*4+4) (cellsRM l_7).length) (∃n_13 n_14 n_15 s_16,AV.agg (((cellsRM l_7).drop
 (n_12.toNat*4)).take 4)=AV.agg [.int .i64 n_13,.int .i64 n_14,.int .i64 n_15,.str s_16]∧bif n_14 !=e then zOA1 x_9 l e key salt t k l_7 else ∃n_17 n_18,AV.agg [.int .i64 x_9.2.1,.int .u64 (x_9.2.2:Int)]=AV.agg [.int .i64
 n_17,.int .u64 n_18]∧∃k_19:Nat,Lf (n_18=(k_19:Int)∧zOA23 k_19∧(-9223372036854775808≤n_17∧n_17≤9223372036854775807) ∧ -9223372036854775808≤n_15∧n_15≤9223372036854775807)∧∀e_20:Int,Lf (e_20=freshWM n_17
 k_19 n_15)→bif e_20 !=0 then zOA1 x_9 l e key salt t k l_7 else exI .i64 (s_16.length:Int) (fun n_21=>bif decide (n_21<16) then zOA1 x_9 l e key salt t k l_7 else exI .i64 (s_16.length:Int) (fun n_22=>Lf (salt.length=12∧(0
 ≤ n_14∧n_14≤65535)∧0≤n_15∧n_15≤281474976710655)∧∀x_23:List UInt8,Lf (x_23=nonceM salt n_14 n_15)→ckQ (eqAVL [.str s_16] [.str s_16]&&true) (ckQ (eqAVL [.str s_16] [.str s_16]&&true) (ckQ (eqAVL [.int .i64 n_13,
 .int .i64 n_14,.int .i64 n_15,.str s_16] [.int .i64 n_13,.int .i64 n_14,.int .i64 n_15,.str s_16]&&true) (ckQ (zOA17 key) (Lf (numsOk (Prod.mk n_13 (Prod.mk n_14 (Prod.mk n_15 s_16)))∧zOA28 n_22)∧∀t_24:List UInt8,Lf (t_24 =
 headM (Prod.mk n_13 (Prod.mk n_14 (Prod.mk n_15 s_16))) n_22)→ckQ (eqAVL [.str s_16] [.str s_16]&&true) (ckQ (zOA17 key) (Lf (key.length=32∧x_23.length=12∧t_24.length≤4096∧16≤s_16.length∧s_16.length≤4112)∧∀t_25 :
 List UInt8,∀b_26:Bool,Lf ((t_25=(openM key x_23 t_24 s_16).1∧(openM key x_23 t_24 s_16).2=ite (b_26=true) 0 9)∧(b_26=false→t_25=[]))→bif b_26 then ∃n_27 n_28,AV.agg [.int .i64 x_9.2.1,.int .u64 (x_9.2.2:Int)] =
 AV.agg [.int .i64 n_27,.int .u64 n_28]∧∃k_29:Nat,Lf (n_28=(k_29:Int)∧zOA23 k_29∧(-9223372036854775808≤n_27∧n_27≤9223372036854775807) ∧ -9223372036854775808≤n_15∧n_15≤9223372036854775807)∧∀a_30:Int,∀b_31 :
 Nat,∀e_32:Int,Lf (markRM n_27 k_29 n_15=Prod.mk (Prod.mk a_30 b_31) e_32)→∃n_33 n_34,AV.agg [.int .i64 a_30,zOA21 b_31]=AV.agg [.int .i64 n_33,.int .u64 n_34]∧exI .i64 (x_9.1:Int) (fun n_35=>exW .i64 (n_35+1) (fun
 n_36=>zOA14∧((∃y_37:Nat×Wn,zOA4 y_37 l e key salt t k∧l.length-y_37.1<l.length-x_9.1∧[AV.int .i64 e,.str key,.str salt,.int .i64 n_33,.int .u64 n_34]=zOA10 e key salt y_37∧zOA5∧False)∨∃y_37:Nat×Wn ×
 List Rc×List AV,zOA2 y_37 l e key salt t k∧l.length-y_37.1<l.length-x_9.1∧[AV.int .i64 e,.str key,.str salt,.int .i64 n_33,.int .u64 n_34]=zOA9 e key salt y_37∧zOA5∧[AV.int .i64 n_13,.int .i64 n_14,.int .i64 n_15,
 .str t_25]=y_37.2.2.2∧[AV.int .i64 n_13,.int .i64 n_14,.int .i64 n_15,.str t_25]=cellsRM y_37.2.2.1∧zOA18 l_7∧AV.sl 3 4 0 1 4=zOA22 y_37∧zOA19 n_36 y_37))) else zOA1 x_9 l e key salt t k l_7))))))))))) else ∃n_12 s_13
 s_14 n_15 n_16,AV.agg [.int .i64 e,.str key,.str salt,.int .i64 x_9.2.1,.int .u64 (x_9.2.2:Int)]=AV.agg [.int .i64 n_12,.str s_13,.str s_14,.int .i64 n_15,.int .u64 n_16]∧Q (.ret (.tup [.agg [.int .i64 n_12,.str s_13,.str
 s_14,.int .i64 n_15,.int .u64 n_16],.nils,.int .i64 0])) [] {})))∧∀x_9:Nat×Wn×List Rc×List AV,zOA2 x_9 l e key salt t k→exI .i64 (x_9.1:Int) (fun n_10=>exI .i64 (l_7.length:Int) (fun n_11=>bif decide (n_10<n_11)
 then exI .i64 (x_9.1:Int) (fun n_12=>ckQ (decide (0≤n_12)&&Nat.blt n_12.toNat l_7.length&&true) (ckQ (Nat.ble (n_12.toNat*4+4) (cellsRM l_7).length) (∃n_13 n_14 n_15 s_16,AV.agg (((cellsRM l_7).drop (n_12.toNat*4)).take
 4)=AV.agg [.int .i64 n_13,.int .i64 n_14,.int .i64 n_15,.str s_16]∧bif n_14 !=e then zOA0 x_9 l e key salt t k l_7 else ∃n_17 n_18,AV.agg [.int .i64 x_9.2.1.1,.int .u64 (x_9.2.1.2:Int)]=AV.agg [.int .i64 n_17,.int .u64
 n_18]∧∃k_19:Nat,Lf (n_18=(k_19:Int)∧zOA23 k_19∧(-9223372036854775808≤n_17∧n_17≤9223372036854775807) ∧ -9223372036854775808≤n_15∧n_15≤9223372036854775807)∧∀e_20:Int,Lf (e_20=freshWM n_17 k_19 n_15)→bif
 e_20 !=0 then zOA0 x_9 l e key salt t k l_7 else exI .i64 (s_16.length:Int) (fun n_21=>bif decide (n_21<16) then zOA0 x_9 l e key salt t k l_7 else exI .i64 (s_16.length:Int) (fun n_22=>Lf (salt.length=12∧(0≤n_14∧n_14 ≤
 65535)∧0≤n_15∧n_15≤281474976710655)∧∀x_23:List UInt8,Lf (x_23=nonceM salt n_14 n_15)→ckQ (eqAVL [.str s_16] [.str s_16]&&true) (ckQ (eqAVL [.str s_16] [.str s_16]&&true) (ckQ (eqAVL [.int .i64 n_13,.int .i64 n_14,
 .int .i64 n_15,.str s_16] [.int .i64 n_13,.int .i64 n_14,.int .i64 n_15,.str s_16]&&true) (ckQ (zOA17 key) (Lf (numsOk (Prod.mk n_13 (Prod.mk n_14 (Prod.mk n_15 s_16)))∧zOA28 n_22)∧∀t_24:List UInt8,Lf (t_24=headM (Prod.mk
 n_13 (Prod.mk n_14 (Prod.mk n_15 s_16))) n_22)→ckQ (eqAVL [.str s_16] [.str s_16]&&true) (ckQ (zOA17 key) (Lf (key.length=32∧x_23.length=12∧t_24.length≤4096∧16≤s_16.length∧s_16.length≤4112)∧∀t_25:List UInt8,∀
 b_26:Bool,Lf ((t_25=(openM key x_23 t_24 s_16).1∧(openM key x_23 t_24 s_16).2=ite (b_26=true) 0 9)∧(b_26=false→t_25=[]))→bif b_26 then ∃n_27 n_28,AV.agg [.int .i64 x_9.2.1.1,.int .u64 (x_9.2.1.2:Int)]=AV.agg
 [.int .i64 n_27,.int .u64 n_28]∧∃k_29:Nat,Lf (n_28=(k_29:Int)∧zOA23 k_29∧(-9223372036854775808≤n_27∧n_27≤9223372036854775807) ∧ -9223372036854775808≤n_15∧n_15≤9223372036854775807)∧∀a_30:Int,∀b_31:Nat,∀
 e_32:Int,Lf (markRM n_27 k_29 n_15=Prod.mk (Prod.mk a_30 b_31) e_32)→∃n_33 n_34,AV.agg [.int .i64 a_30,zOA21 b_31]=AV.agg [.int .i64 n_33,.int .u64 n_34]∧ckQ (Nat.beq (cellsRM x_9.2.2.1).length (x_9.2.2.1.length*4)&&true
 && Nat.beq (0+x_9.2.2.1.length*4) (x_9.2.2.1.length*4)&&Nat.ble (x_9.2.2.1.length+1) 1099511627776&&Nat.ble ((x_9.2.2.1.length+1)*40) 1099511627776) (exI .i64 (x_9.1:Int) (fun n_35=>exW .i64 (n_35+1) (fun n_36=>
 zOA14∧((∃y_37:Nat×Wn,zOA4 y_37 l e key salt t k∧l.length-y_37.1<l.length-x_9.1∧[AV.int .i64 e,.str key,.str salt,.int .i64 n_33,.int .u64 n_34]=zOA10 e key salt y_37∧zOA5∧False)∨∃y_37:Nat×Wn×List Rc ×
 List AV,zOA2 y_37 l e key salt t k∧l.length-y_37.1<l.length-x_9.1∧[AV.int .i64 e,.str key,.str salt,.int .i64 n_33,.int .u64 n_34]=zOA9 e key salt y_37∧zOA5∧x_9.2.2.2=y_37.2.2.2∧cellsRM x_9.2.2.1++[AV.int .i64
 n_13,.int .i64 n_14,.int .i64 n_15,.str t_25]=cellsRM y_37.2.2.1∧zOA18 l_7∧AV.sl 3 (x_9.2.2.1.length*4+4) 0 (x_9.2.2.1.length+1) 4=zOA22 y_37∧zOA19 n_36 y_37)))) else zOA0 x_9 l e key salt t k l_7))))))))))) else ∃n_12
 s_13 s_14 n_15 n_16,AV.agg [.int .i64 e,.str key,.str salt,.int .i64 x_9.2.1.1,.int .u64 (x_9.2.1.2:Int)]=AV.agg [.int .i64 n_12,.str s_13,.str s_14,.int .i64 n_15,.int .u64 n_16]∧Q (.ret (.tup [.agg [.int .i64 n_12,.str
 s_13,.str s_14,.int .i64 n_15,.int .u64 n_16],.sl 3 (x_9.2.2.1.length*4) 0 x_9.2.2.1.length 4,.int .i64 0])) [Blk.mk BK.exact true [.int .i64 e,.str key,.str salt,.int .i64 x_9.2.1.1,.int .u64 (x_9.2.1.2:Int)],Blk.mk BK.exact
 true [.int .i64 n_12,.str s_13,.str s_14,.int .i64 n_15,.int .u64 n_16],Blk.mk BK.exact true x_9.2.2.2,Blk.mk BK.grow true (cellsRM x_9.2.2.1)] {})) else Q (.ret (.tup [zOA26,.nils,.int .i64 170])) [] {}):=by kernel_rfl

def smOd:SM:=lookS [(6,cDraftS),(40,cMarks)]
theorem smOd_ok:∀f g,smOd f=some g→ValidF Tryz.prog gl0 f g:=lookS_ok _ (by simp only[List.mem_cons,List.not_mem_nil,or_false,forall_eq_or_imp,forall_eq];exact ⟨draftS_ok,marks_ok⟩)
noncomputable def goal_o14 (hv:Nat→Option Pa) (hb:Nat→Option Bool) (ep st a b:Int) (n:List UInt8) (Q:Out→List Blk→Gh→Prop):Prop:=
 callx (e04 smOd (fun _=>none) hv hb) (wpx (e04 smOd (fun _=>none) hv hb) 1000) 14 [.agg [.int .u16 ep,.int .u16 st,.int .u8 a,.int .u8 b,.lst 0 (ofBytes n) n.length 1]] [] {} Q
theorem vc_o14 (ep:Int) (st:Int) (a:Int) (b:Int) (n:List UInt8) (Q:Out→List Blk→Gh→Prop):goal_o14 (lookV [(57360,.agg [(.int .i64),(.int .u64)])]) (lookB []) ep st a b n Q=(∃s_0:List UInt8,Lf (ofBytes n=ofBytes s_0∧zOA28 ep∧zOA28 st)∧∀e_1:Int,∀key_2 salt_3:List UInt8,Lf (e_1=ep%4∧key_2.length=32∧salt_3.length=12)→∃s_4:List UInt8,Lf (ofBytes n=ofBytes s_4∧n.length=s_4.length∧zOA28 st∧s_4.length≤9223372036854775807)∧∀a_5:Int,∀b_6:Nat,Lf ((-1≤a_5∧a_5<281474976710656)∧zOA23 b_6)→ckQ (zOA17 salt_3) (ckQ (zOA17 key_2) (ckQ (eqAVL [.int .i64 e_1] [.int .i64 e_1]&&true) (∃n_7 n_8,AV.agg [.int .i64 a_5,zOA21 b_6]=AV.agg [.int .i64 n_7,.int .u64 n_8]∧Q (.ret (.agg [.int .i64 e_1,.str key_2,.str salt_3,.int .i64 n_7,.int .u64 n_8])) [] {})))):=by kernel_rfl

noncomputable def goal_o16 (hv:Nat→Option Pa) (hb:Nat→Option Bool) (w n:Int) (s:List UInt8) (wt:Int) (wk:Nat) (e:Int) (key salt:List UInt8) (t:Int) (k:Nat) (Q:Out→List Blk→Gh→Prop):Prop:=
 callx (e04 sm0 (fun _=>none) hv hb) (wpx (e04 sm0 (fun _=>none) hv hb) 1000) 16 [.agg [.int .u8 w,.int .i64 n,.str s,.int .i64 wt,.int .u64 (wk:Nat)],.agg [.int .i64 e,.str key,.str salt,.int .i64 t,.int .u64 (k:Nat)]] [] {} Q
abbrev zOA6 (n:Int) (key salt:List UInt8) (t:Int) (k:Nat) (Q:Out→List Blk→Gh→Prop):Prop:=∃n_1 s_2 s_3 n_4 n_5,AV.agg [.int .i64 n,.str key,.str salt,.int .i64 t,zOA21 k]=AV.agg [.int .i64 n_1,.str s_2,.str s_3,.int .i64 n_4,.int .u64 n_5]∧Q (.ret (.agg [.int .i64 n_1,.str s_2,.str s_3,.int .i64 n_4,.int .u64 n_5])) [] {}
abbrev zOA20 (n_2:Int) (s:List UInt8):Bool:=decide (0≤n_2)&&true&&Nat.ble n_2.toNat s.length
abbrev zOA27 (n_2:Int) (s:List UInt8):AV:=.str ((s.drop 0).take (n_2.toNat-0))
theorem vc_o16 (w:Int) (n:Int) (s:List UInt8) (wt:Int) (wk:Nat) (e:Int) (key:List UInt8) (salt:List UInt8) (t:Int) (k:Nat) (Q:Out→List Blk→Gh→Prop):goal_o16 (lookV [(65543,.int .u8),(65572,.agg [(.int .i64),(.str),(.str),(.int .i64),(.int .u64)]),(65560,.agg [(.int .i64),(.int .u64)]),(65568,.int .i64),(65569,.int .i64),(65570,.str),(65548,.int .i64),(65549,.int .i64),(65550,.str)]) (lookB []) w n s wt wk e key salt t k Q=(exI .u8 (w.tmod 4) (fun n_0=>bif n_0==0 then zOA6 n key salt t k Q else bif n_0==1 then ∃n_1 n_2,AV.agg [.int .i64 wt,zOA21 wk]=AV.agg [.int .i64 n_1,.int .u64 n_2]∧∃n_3 s_4 s_5 n_6 n_7,AV.agg [.int .i64 e,.str key,.str salt,.int .i64 n_1,.int .u64 n_2]=AV.agg [.int .i64 n_3,.str s_4,.str s_5,.int .i64 n_6,.int .u64 n_7]∧Q (.ret (.agg [.int .i64 n_3,.str s_4,.str s_5,.int .i64 n_6,.int .u64 n_7])) [] {} else bif n_0==2 then exI .i64 (s.length:Int) (fun n_1=>exI .i64 (imin n_1 40) (fun n_2=>ckQ (zOA20 n_2 s) (exS (zOA27 n_2 s) (fun s_3=>zOA6 e s_3 salt t k Q)))) else exI .i64 (s.length:Int) (fun n_1=>exI .i64 (imin n_1 40) (fun n_2=>ckQ (zOA20 n_2 s) (exS (zOA27 n_2 s) (fun s_3=>zOA6 e key s_3 t k Q)))))):=by kernel_rfl

def cellsSM (l:List (List UInt8)):List AV:=l.map AV.str
def smOb:SM:=lookS [(11,cSealX)]
theorem smOb_ok:∀f g,smOb f=some g→ValidF Tryz.prog gl0 f g:=lookS_ok _ (by simp only[List.mem_cons,List.not_mem_nil,or_false,forall_eq];exact sealXR_ok)
def inv_o12 (s:S):List (List LInv):=match s.tm.get 16 with
 | .int _ n=>[[
  { α:=Nat×Int×Int×List UInt8×List UInt8,pre:=fun x=>Lf ((x.1:Int)≤n),st:=fun x=>⟨mkT [(2,s.tm.get 2),(5,.nils),(15,s.tm.get 15),(16,s.tm.get 16),(17,.int .i64 (x.1:Nat))],
    [⟨.exact,true,[.int .i64 x.2.1,.int .i64 x.2.2.1,.str x.2.2.2.1,.str x.2.2.2.2]⟩]⟩,mu:=fun x=>n.toNat-x.1 },
  { α:=Nat×(Int×Int×List UInt8×List UInt8)×List (List UInt8)×List AV,pre:=fun x=>Lf ((x.1:Int)≤n∧1≤x.2.2.1.length∧x.2.2.1.length≤x.1∧∀s∈x.2.2.1,s.length≤100),
    st:=fun x=>⟨mkT [(2,s.tm.get 2),(5,.sl 2 x.2.2.1.length 0 x.2.2.1.length 1),(15,s.tm.get 15),(16,s.tm.get 16),(17,.int .i64 (x.1:Nat))],
    [⟨.exact,true,[.int .i64 x.2.1.1,.int .i64 x.2.1.2.1,.str x.2.1.2.2.1,.str x.2.1.2.2.2]⟩,⟨.exact,true,x.2.2.2⟩,⟨.grow,true,cellsSM x.2.2.1⟩]⟩,mu:=fun x=>n.toNat-x.1 }]]
 | _=>[]
noncomputable def env_o12 (hv:Nat→Option Pa) (hb:Nat→Option Bool):Env:=
 { e04 smOb (fun i=>bif Nat.beq i 12000 then some inv_o12 else none) hv hb with hz:=fun k=>Nat.beq k 49191 }
theorem envFor_o12 (hv:Nat→Option Pa) (hb:Nat→Option Bool):EnvFor Tryz.prog (env_o12 hv hb):=⟨mixed04,names04,tabA_ok,smOb_ok⟩
noncomputable def goal_o12 (hv:Nat→Option Pa) (hb:Nat→Option Bool) (e nx:Int) (key salt:List UInt8) (l:List (List UInt8)) (Q:Out→List Blk→Gh→Prop):Prop:=
 callx (env_o12 hv hb) (wpx (env_o12 hv hb) 1000) 12 [.agg [.int .i64 e,.int .i64 nx,.str key,.str salt],.lst 0 (cellsSM l) l.length 1] [] {} Q
abbrev zOA16 (e nx:Int) (key salt:List UInt8):List AV:=[.int .i64 e,.int .i64 nx,.str key,.str salt]
abbrev zOA8 (x_3:Nat×Int×Int×List UInt8×List UInt8):List AV:=[.int .i64 x_3.2.1,.int .i64 x_3.2.2.1,.str x_3.2.2.2.1,.str x_3.2.2.2.2]
abbrev zOA11 (n_1:Int) (l:List (List UInt8)):Prop:=eqqQ (AV.lst 0 (((cellsSM l).drop 0).take ((n_1.toNat-0)*1)) (n_1.toNat-0) 1)
abbrev zOA15 (n_2:Int):Prop:=eqqQ (AV.ptr 0 4 0)∧eqqQ (AV.int .i64 n_2)∧True
abbrev zOA3 (x_3:Nat×(Int×Int×List UInt8×List UInt8)×List (List UInt8)×List AV) (n_2:Int):Prop:=Lf ((x_3.1:Int)≤n_2∧1≤x_3.2.2.1.length∧x_3.2.2.1.length≤x_3.1∧∀s_4:List UInt8,Membership.mem x_3.2.2.1 s_4→s_4.length≤100)
abbrev zOA7 (x_3:Nat×(Int×Int×List UInt8×List UInt8)×List (List UInt8)×List AV):List AV:=[.int .i64 x_3.2.1.1,.int .i64 x_3.2.1.2.1,.str x_3.2.1.2.2.1,.str x_3.2.1.2.2.2]
abbrev zOA12 (n_1:Int) (l:List (List UInt8)):List AV:=((cellsSM l).drop 0).take ((n_1.toNat-0)*1)
theorem vc_o12 (e:Int) (nx:Int) (key:List UInt8) (salt:List UInt8) (l:List (List UInt8)) (Q:Out→List Blk→Gh→Prop):goal_o12 (lookV [(49165,.int .i64),(49166,.int .i64),(49168,.int .i64),(49171,.int .i64),(49173,
 .str),(49179,.int .i64),(49180,.int .i64),(49181,.str),(49193,.int .i64)]) (lookB []) e nx key salt l Q=(exI .i64 (l.length:Int) (fun n_0=>exI .i64 (imin n_0 4) (fun n_1=>ckQ (decide (0≤n_1)&&true&&Nat.ble n_1.toNat
 l.length&&true) (exI .i64 ((n_1.toNat-0:Nat):Int) (fun n_2=>((∃x_3:Nat×Int×Int×List UInt8×List UInt8,Lf ((x_3.1:Int)≤n_2)∧zOA16 e nx key salt=zOA8 x_3∧zOA11 n_1 l∧AV.nils=AV.nils∧AV.int .i64 0=AV.int
 .i64 (x_3.1:Int)∧zOA15 n_2)∨∃x_3:Nat×(Int×Int×List UInt8×List UInt8)×List (List UInt8)×List AV,zOA3 x_3 n_2∧zOA16 e nx key salt=zOA7 x_3∧False)∧(∀x_3:Nat×Int×Int×List UInt8×List UInt8,Lf ((x_3.1 :
 Int)≤n_2)→bif decide ((x_3.1:Int)<n_2) then exI .i64 (x_3.1:Int) (fun n_4=>ckQ (Nat.blt (x_3.1:Int).toNat (n_1.toNat-0)&&true) (ckQ (Nat.blt ((x_3.1:Int).toNat*1) (zOA12 n_1 l).length) (exS ((zOA12 n_1 l).getD ((x_3.1
 : Int).toNat*1) AV.undef) (fun s_5=>exI .i64 (s_5.length:Int) (fun n_6=>exI .i64 (imin n_6 60) (fun n_7=>ckQ (zOA20 n_7 s_5) (exS (zOA27 n_7 s_5) (fun s_8=>∀a_9 b_10:Int,∀k_11 s_12 x_13:List UInt8,∀r_14:Int,Lf
 (sealXM x_3.2.1 x_3.2.2.1 x_3.2.2.2.1 x_3.2.2.2.2 n_4 s_8=Prod.mk a_9 (Prod.mk b_10 (Prod.mk k_11 (Prod.mk s_12 (Prod.mk x_13 r_14)))))→bif r_14==0 then exW .i64 ((x_3.1:Int)+1) (fun n_15=>zOA14∧((∃y_16:Nat×Int×Int ×
 List UInt8×List UInt8,Lf ((y_16.1:Int)≤n_2)∧n_2.toNat-y_16.1<n_2.toNat-x_3.1∧zOA16 a_9 b_10 k_11 s_12=zOA8 y_16∧False)∨∃y_16:Nat×(Int×Int×List UInt8×List UInt8)×List (List UInt8)×List AV,zOA3 y_16 n_2
 ∧ n_2.toNat-y_16.1<n_2.toNat-x_3.1∧zOA16 a_9 b_10 k_11 s_12=zOA7 y_16∧zOA16 a_9 b_10 k_11 s_12=y_16.2.2.2∧[AV.str x_13]=cellsSM y_16.2.2.1∧zOA11 n_1 l∧AV.sl 2 1 0 1 1=AV.sl 2 y_16.2.2.1.length 0 y_16.2.2.1.length 1
 ∧ AV.int .i64 n_15=AV.int .i64 (y_16.1:Int)∧zOA15 n_2)) else exW .i64 ((x_3.1:Int)+1) (fun n_15=>zOA14∧((∃y_16:Nat×Int×Int×List UInt8×List UInt8,Lf ((y_16.1:Int)≤n_2)∧n_2.toNat-y_16.1<n_2.toNat-x_3.1 ∧
 zOA8 x_3=zOA8 y_16∧zOA11 n_1 l∧AV.nils=AV.nils∧AV.int .i64 n_15=AV.int .i64 (y_16.1:Int)∧zOA15 n_2)∨∃y_16:Nat×(Int×Int×List UInt8×List UInt8)×List (List UInt8)×List AV,zOA3 y_16 n_2∧n_2.toNat-y_16.1 <
 n_2.toNat-x_3.1∧zOA8 x_3=zOA7 y_16∧False)))))))))) else Q (.ret .nils) [] {})∧∀x_3:Nat×(Int×Int×List UInt8×List UInt8)×List (List UInt8)×List AV,zOA3 x_3 n_2→bif decide ((x_3.1:Int)<n_2) then exI .i64 (x_3.1
 : Int) (fun n_4=>ckQ (Nat.blt (x_3.1:Int).toNat (n_1.toNat-0)&&true) (ckQ (Nat.blt ((x_3.1:Int).toNat*1) (zOA12 n_1 l).length) (exS ((zOA12 n_1 l).getD ((x_3.1:Int).toNat*1) AV.undef) (fun s_5=>exI .i64 (s_5.length:Int)
 (fun n_6=>exI .i64 (imin n_6 60) (fun n_7=>ckQ (zOA20 n_7 s_5) (exS (zOA27 n_7 s_5) (fun s_8=>∀a_9 b_10:Int,∀k_11 s_12 x_13:List UInt8,∀r_14:Int,Lf (sealXM x_3.2.1.1 x_3.2.1.2.1 x_3.2.1.2.2.1 x_3.2.1.2.2.2 n_4 s_8 =
 Prod.mk a_9 (Prod.mk b_10 (Prod.mk k_11 (Prod.mk s_12 (Prod.mk x_13 r_14)))))→bif r_14==0 then ckQ (Nat.beq (cellsSM x_3.2.2.1).length x_3.2.2.1.length&&true&&Nat.beq (0+x_3.2.2.1.length*1) x_3.2.2.1.length&&Nat.ble
 (x_3.2.2.1.length+1) 1099511627776&&Nat.ble ((x_3.2.2.1.length+1)*16) 1099511627776) (exW .i64 ((x_3.1:Int)+1) (fun n_15=>zOA14∧((∃y_16:Nat×Int×Int×List UInt8×List UInt8,Lf ((y_16.1:Int)≤n_2)∧n_2.toNat -
 y_16.1<n_2.toNat-x_3.1∧zOA16 a_9 b_10 k_11 s_12=zOA8 y_16∧False)∨∃y_16:Nat×(Int×Int×List UInt8×List UInt8)×List (List UInt8)×List AV,zOA3 y_16 n_2∧n_2.toNat-y_16.1<n_2.toNat-x_3.1∧zOA16 a_9 b_10 k_11
 s_12=zOA7 y_16∧x_3.2.2.2=y_16.2.2.2∧cellsSM x_3.2.2.1++[AV.str x_13]=cellsSM y_16.2.2.1∧zOA11 n_1 l∧AV.sl 2 (x_3.2.2.1.length+1) 0 (x_3.2.2.1.length+1) 1=AV.sl 2 y_16.2.2.1.length 0 y_16.2.2.1.length 1∧AV.int .i64
 n_15=AV.int .i64 (y_16.1:Int)∧zOA15 n_2))) else exW .i64 ((x_3.1:Int)+1) (fun n_15=>zOA14∧((∃y_16:Nat×Int×Int×List UInt8×List UInt8,Lf ((y_16.1:Int)≤n_2)∧n_2.toNat-y_16.1<n_2.toNat-x_3.1∧zOA7 x_3 =
 zOA8 y_16∧False)∨∃y_16:Nat×(Int×Int×List UInt8×List UInt8)×List (List UInt8)×List AV,zOA3 y_16 n_2∧n_2.toNat-y_16.1<n_2.toNat-x_3.1∧zOA7 x_3=zOA7 y_16∧x_3.2.2.2=y_16.2.2.2∧cellsSM x_3.2.2.1=cellsSM
 y_16.2.2.1∧zOA11 n_1 l∧AV.sl 2 x_3.2.2.1.length 0 x_3.2.2.1.length 1=AV.sl 2 y_16.2.2.1.length 0 y_16.2.2.1.length 1∧AV.int .i64 n_15=AV.int .i64 (y_16.1:Int)∧zOA15 n_2)))))))))) else Q (.ret (.sl 2 x_3.2.2.1.length 0
 x_3.2.2.1.length 1)) [Blk.mk BK.exact true [.int .i64 x_3.2.1.1,.int .i64 x_3.2.1.2.1,.str x_3.2.1.2.2.1,.str x_3.2.1.2.2.2],Blk.mk BK.exact true x_3.2.2.2,Blk.mk BK.grow true (cellsSM x_3.2.2.1)] {}))))):=by kernel_rfl

end Go.Proofs.YtiholnebhmjbjaaGreat
