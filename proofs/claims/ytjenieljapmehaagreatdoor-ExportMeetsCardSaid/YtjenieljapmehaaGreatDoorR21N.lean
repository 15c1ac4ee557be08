/-
  Chapter 17: receivers; Open of records.
-/
import Derived.Test.YtjenieljapmehaaGreatDoorGrE
set_option linter.unusedSimpArgs false
set_option linter.unusedVariables false
set_option linter.unusedSectionVars false
namespace Go.Proofs.YtjenieljapmehaaGreatDoor.Rc
open Go.RowKit
set_option maxRecDepth 1000000

def smW1:SM:=lookS [(42,cWin)]
theorem smW1_ok:∀f g,smW1 f=some g→ValidF Tryz.prog gl0 f g:=lookS_ok _ (by simp only[List.mem_cons,List.not_mem_nil,or_false,forall_eq];exact win_ok)
noncomputable def goal_28n (hv:Nat→Option Pa) (hb:Nat→Option Bool) (e:Int) (key salt:List UInt8) (t:Int) (k:Nat) (Q:Out→List Blk→Gh→Prop):Prop:=
 callx (e04 smW1 (fun _=>none) hv hb) (wpx (e04 smW1 (fun _=>none) hv hb) 1000) 18 [.agg [.int .i64 e,.str key,.str salt,.int .i64 t,.int .u64 (k:Nat)]] [] {} Q
theorem vc_28n (e:Int) (key:List UInt8) (salt:List UInt8) (t:Int) (k:Nat) (Q:Out→List Blk→Gh→Prop):goal_28n (lookV [(163851,.int .i64),(163856,.int .i64),(73741,.agg [(.int .i64),(.int .u64)])]) (lookB []) e key salt t k Q=(
(bif (decide (e≥(0:Int))) then (bif (decide (e≤(65535:Int))) then (∃n_0:Int,(((AV.int .i64 (Nat.cast (List.length key):Int))=(AV.int .i64 n_0)) ∧
 (bif (n_0==(32:Int)) then (∃n_1:Int,(((AV.int .i64 (Nat.cast (List.length salt):Int))=(AV.int .i64 n_1)) ∧
 (bif (n_1==(12:Int)) then (∃n_2:Int,(∃n_3:Int,(((AV.agg ((AV.int .i64 t)::((AV.int .u64 (Nat.cast k:Int))::[])))=(AV.agg ((AV.int .i64 n_2)::((AV.int .u64 n_3)::[])))) ∧
 (∃k_4:Nat,((Lf ((n_3=(Nat.cast k_4:Int)) ∧
 (k_4<(18446744073709551616:Nat)))) ∧
 (∀b_5:Bool,((Lf (b_5=(okWM n_2 k_4))) →
(bif b_5 then (Q (Out.ret (AV.int .i64 (0:Int))) [] (Gh.mk (0:Nat) (0:Nat) []))
else (Q (Out.ret (AV.int .i64 (170:Int))) [] (Gh.mk (0:Nat) (0:Nat) []))))))))))
else (Q (Out.ret (AV.int .i64 (170:Int))) [] (Gh.mk (0:Nat) (0:Nat) [])))))
else (Q (Out.ret (AV.int .i64 (170:Int))) [] (Gh.mk (0:Nat) (0:Nat) [])))))
else (Q (Out.ret (AV.int .i64 (170:Int))) [] (Gh.mk (0:Nat) (0:Nat) [])))
else (Q (Out.ret (AV.int .i64 (170:Int))) [] (Gh.mk (0:Nat) (0:Nat) [])))):=by kernel_rfl

def rcvOkM (e:Int) (key salt:List UInt8) (t:Int) (k:Nat):Bool:=decide (0≤e∧e≤65535)&&decide (key.length=32)&&decide (salt.length=12)&&okWM t k
theorem rcv_iff (e:Int) (key salt:List UInt8) (t:Int) (k:Nat):rcvOkM e key salt t k=true↔(0≤e∧e≤65535)∧key.length=32∧salt.length=12∧okWM t k=true:=by
 simp[rcvOkM,and_assoc]
theorem chkR_run (e:Int) (key salt:List UInt8) (t:Int) (k:Nat) (hk:k<18446744073709551616) (Q:Out→List Blk→Gh→Prop) (hq:Q (.ret (.int .i64 (chkM (rcvOkM e key salt t k)))) [] {}):∃hv hb,goal_28n hv hb e key salt t k Q:=by
 obtain ⟨hv,hb',e'⟩:∃hv hb,goal_28n hv hb e key salt t k Q=_:=⟨_,_,vc_28n e key salt t k Q⟩
 refine ⟨hv,hb',e'.mpr ?_⟩
 clear e'
 have hi:=rcv_iff e key salt t k
 have no:¬ ((0≤e∧e≤65535)∧key.length=32∧salt.length=12∧okWM t k=true)→Q (.ret (.int .i64 170)) [] {}:=fun h=>by
  rwa [show rcvOkM e key salt t k=false by rw[←Bool.not_eq_true,hi];exact h] at hq
 refine splitD (fun h1=>splitD (fun h2=>⟨_,rfl,splitE (fun h3=>⟨_,rfl,splitE (fun h4=>aggW2 ⟨k,⟨rfl,hk⟩, ?_⟩) (fun h=>no (fun g=>by omega))⟩) (fun h=>no (fun g=>by omega))⟩) (fun h=>no (fun g=>by omega))) (fun h=>no (fun g=>by omega))
 rintro b ⟨rfl⟩
 cases hok:okWM t k with
 | true=>rwa [hi.2 ⟨by omega,by omega,by omega,hok⟩] at hq
 | false=>exact no (fun g=>by rw[hok] at g;cases g.2.2.2)
def cChkR:Con
 | [.agg [.int .i64 e,.str key,.str salt,.int .i64 t,.int .u64 u]],H,K=>∃k:Nat,Lf (u=(k:Int)∧k<18446744073709551616)∧∀x,Lf (x=chkM (rcvOkM e key salt t k))→K (.ret (.int .i64 x)) H
 | _,_,_=>False
theorem chkR_ok:ValidF Tryz.prog gl0 18 cChkR:=by
 refine valid_flat (enters_of (by kernel_rfl)) gl0_noY fun args H Q hc => ?_
 unfold cChkR at hc
 split at hc
 ·rename_i e key salt t u
  obtain ⟨k,⟨rfl,h1⟩,hq⟩:=hc
  obtain ⟨hv,hb',h⟩:=chkR_run e key salt t k h1 (Q:=fun o H' _=>H'=[]∧(∃v,o=.ret v∧old 0 v=true∧noY v=true)∧Q o H) ⟨rfl,⟨_,rfl,rfl,rfl⟩,hq _ ⟨rfl⟩⟩
  exact ⟨rfl,rfl,_,1000,envFor04 smW1_ok _ _ _,rfl,h⟩
 ·exact hc.elim
abbrev Wn:=Int×Nat
def openRM (key salt:List UInt8) (r:Rc):List UInt8×Int:=openM key (nonceM salt r.2.1 r.2.2.1) (headM r r.2.2.2.length) r.2.2.2
def stepRM (e:Int) (key salt:List UInt8) (x:Wn×List Rc) (r:Rc):Wn×List Rc:=
 if r.2.1≠e∨isFreshM x.1.1 x.1.2 r.2.2.1=false∨(openRM key salt r).2≠0 then x else (markWM x.1.1 x.1.2 r.2.2.1,x.2++[(r.1,r.2.1,r.2.2.1,(openRM key salt r).1)])
def opensM (e:Int) (key salt:List UInt8) (w:Wn) (l:List Rc):Wn×List Rc:=l.foldl (stepRM e key salt) (w,[])
abbrev X27:=Nat×Wn×List Rc×List AV×List AV×List AV
def inv_27n (e:Int) (key salt:List UInt8) (t:Int) (k:Nat) (l:List Rc) (s:S):List (List LInv):=[[
 { α:=Nat×Wn,pre:=fun x=>Lf (x.1≤l.length∧okWM x.2.1 x.2.2=true∧x.2.2<18446744073709551616∧opensM e key salt (t,k) (l.take x.1)=(x.2,[])),
   st:=fun x=>⟨mkT [(4,.ptr 1 5 0),(9,.ptr 2 5 0),(10,.nils),(31,s.tm.get 31),(32,s.tm.get 32),(33,.int .i64 (x.1:Nat))],
    [⟨.exact,true,[.int .i64 e,.str key,.str salt,.int .i64 t,.int .u64 (k:Nat)]⟩,⟨.exact,true,[.int .i64 0,.str [],.str [],.int .i64 0,.int .u64 0]⟩,⟨.exact,true,[.int .i64 e,.str key,.str salt,.int .i64 x.2.1,.int .u64 (x.2.2:Nat)]⟩]⟩,mu:=fun x=>l.length-x.1 },
 { α:=X27,pre:=fun x=>Lf (x.1≤l.length∧okWM x.2.1.1 x.2.1.2=true∧x.2.1.2<18446744073709551616∧0<x.2.2.1.length∧opensM e key salt (t,k) (l.take x.1)=(x.2.1,x.2.2.1)),
   st:=fun x=>⟨mkT [(4,.ptr 1 5 0),(9,.ptr 2 5 0),(10,.sl 6 (x.2.2.1.length*4) 0 x.2.2.1.length 4),(31,s.tm.get 31),(32,s.tm.get 32),(33,.int .i64 (x.1:Nat))],
    [⟨.exact,true,[.int .i64 e,.str key,.str salt,.int .i64 t,.int .u64 (k:Nat)]⟩,⟨.exact,true,[.int .i64 0,.str [],.str [],.int .i64 0,.int .u64 0]⟩,⟨.exact,true,[.int .i64 e,.str key,.str salt,.int .i64 x.2.1.1,.int .u64 (x.2.1.2:Nat)]⟩,
      ⟨.exact,true,x.2.2.2.1⟩,⟨.exact,true,x.2.2.2.2.1⟩,⟨.exact,true,x.2.2.2.2.2⟩,⟨.grow,true,cellsRM x.2.2.1⟩]⟩,mu:=fun x=>l.length-x.1 }]]
def smOp:SM:=lookS [(46,cDec),(18,cChkR),(43,cHead),(77,cIsFresh),(48,cMarkW),(45,cNonce),(78,cOpen)]
theorem smOp_ok:∀f g,smOp f=some g→ValidF Tryz.prog gl0 f g:=lookS_ok _ (by simp only[List.mem_cons,List.not_mem_nil,or_false,forall_eq_or_imp,forall_eq];exact ⟨dec_ok,chkR_ok,head_ok,isfresh_ok,markW_ok,nonce_ok,open_ok⟩)
noncomputable def env_27n (hv:Nat→Option Pa) (hb:Nat→Option Bool) (e:Int) (key salt:List UInt8) (t:Int) (k:Nat) (l:List Rc):Env:=
 e04 smOp (fun i=>bif Nat.beq i 20000 then some (inv_27n e key salt t k l) else none) hv hb
noncomputable def goal_27n (hv:Nat→Option Pa) (hb:Nat→Option Bool) (e:Int) (key salt:List UInt8) (t:Int) (k:Nat) (l:List Rc) (s:List UInt8) (Q:Out→List Blk→Gh→Prop):Prop:=
 callx (env_27n hv hb e key salt t k l) (wpx (env_27n hv hb e key salt t k l) 1000) 20 [.agg [.int .i64 e,.str key,.str salt,.int .i64 t,.int .u64 (k:Nat)],.str s] [] {} Q
theorem vc_27n (e:Int) (key:List UInt8) (salt:List UInt8) (t:Int) (k:Nat) (l:List Rc) (s:List UInt8) (Q:Out→List Blk→Gh→Prop):goal_27n (lookV [(81935,.agg [(.int .i64),(.str),(.str),(.int .i64),(.int .u64)]),
 (81948,.agg [(.int .i64),(.str),(.str),(.int .i64),(.int .u64)]),(81952,.int .i64),(81956,.agg [.int .i64,.int .i64,.int .i64,.str]),(81981,.int .i64),(192533,.agg [(.int .i64),(.int .u64)]),(192556,.int .i64),(81970,
 .agg [(.int .i64),(.int .u64)]),(81973,.agg [(.int .i64),(.int .u64)]),(81985,.agg [(.int .i64),(.str),(.str),(.int .i64),(.int .u64)])]) (lookB []) e key salt t k l s Q=(∃n_0 s_1 s_2 n_3 n_4,AV.agg [.int .i64 e,.str key,
 .str salt,.int .i64 t,.int .u64 (k:Int)]=AV.agg [.int .i64 n_0,.str s_1,.str s_2,.int .i64 n_3,.int .u64 n_4]∧∃k_5:Nat,Lf (n_4=(k_5:Int)∧k_5<18446744073709551616)∧∀x_6:Int,Lf (x_6=chkM (rcvOkM n_0 s_1 s_2
 n_3 k_5))→bif x_6 !=0 then Q (.ret (.tup [.agg [.int .i64 0,.str [],.str [],.int .i64 0,.int .u64 0],.nils,.int .i64 170])) [] {} else Lf (s.length≤9223372036854775807)∧∀l_7:List Rc,∀e_8:Int,Lf (decM s=Prod.mk l_7
 e_8)→bif e_8 !=0 then Q (.ret (.tup [.agg [.int .i64 0,.str [],.str [],.int .i64 0,.int .u64 0],.nils,.int .i64 e_8])) [] {} else ∃n_9 s_10 s_11 n_12 n_13,AV.agg [.int .i64 e,.str key,.str salt,.int .i64 t,.int .u64 (k :
 Int)]=AV.agg [.int .i64 n_9,.str s_10,.str s_11,.int .i64 n_12,.int .u64 n_13]∧exI .i64 (l_7.length:Int) fun n_14=>((∃x_15:Nat×Wn,Lf (x_15.1≤l.length∧okWM x_15.2.1 x_15.2.2=true∧x_15.2.2<18446744073709551616 ∧
 opensM e key salt (Prod.mk t k) (l.take x_15.1)=Prod.mk x_15.2 [])∧eqqQ [AV.int .i64 e,.str key,.str salt,.int .i64 t,.int .u64 (k:Int)]∧eqqQ [AV.int .i64 0,.str [],.str [],.int .i64 0,.int .u64 0]∧[AV.int .i64 n_9,.str
 s_10,.str s_11,.int .i64 n_12,.int .u64 n_13]=[AV.int .i64 e,.str key,.str salt,.int .i64 x_15.2.1,.int .u64 (x_15.2.2:Int)]∧eqqQ (AV.lst 0 (cellsRM l_7) l_7.length 4)∧eqqQ (AV.ptr 2 5 0)∧AV.int .i64 0=AV.int .i64
 (x_15.1:Int)∧eqqQ (AV.ptr 1 5 0)∧eqqQ (AV.int .i64 n_14)∧AV.nils=AV.nils∧True)∨∃x_15:Nat×Wn×List Rc×List AV×List AV×List AV,Lf (x_15.1≤l.length∧okWM x_15.2.1.1 x_15.2.1.2=true∧x_15.2.1.2 <
 18446744073709551616∧0<x_15.2.2.1.length∧opensM e key salt (Prod.mk t k) (l.take x_15.1)=Prod.mk x_15.2.1 x_15.2.2.1)∧eqqQ [AV.int .i64 e,.str key,.str salt,.int .i64 t,.int .u64 (k:Int)]∧eqqQ [AV.int .i64 0,.str [],
 .str [],.int .i64 0,.int .u64 0]∧[AV.int .i64 n_9,.str s_10,.str s_11,.int .i64 n_12,.int .u64 n_13]=[AV.int .i64 e,.str key,.str salt,.int .i64 x_15.2.1.1,.int .u64 (x_15.2.1.2:Int)]∧False)∧(∀x_15:Nat×Wn,Lf
 (x_15.1≤l.length∧okWM x_15.2.1 x_15.2.2=true∧x_15.2.2<18446744073709551616∧opensM e key salt (Prod.mk t k) (l.take x_15.1)=Prod.mk x_15.2 [])→bif decide ((x_15.1:Int)<n_14) then ckQ (Nat.blt (x_15.1:Int).toNat
 l_7.length&&true) (ckQ (Nat.ble ((x_15.1:Int).toNat*4+4) (cellsRM l_7).length) (∃n_16 n_17 n_18 s_19,AV.agg (((cellsRM l_7).drop ((x_15.1:Int).toNat*4)).take 4)=AV.agg [.int .i64 n_16,.int .i64 n_17,.int .i64 n_18,.str
 s_19]∧bif n_17 !=e then exW .i64 ((x_15.1:Int)+1) fun n_20=>(True∧(0:Nat)=(0:Nat))∧((∃y_21:Nat×Wn,Lf (y_21.1≤l.length∧okWM y_21.2.1 y_21.2.2=true∧y_21.2.2<18446744073709551616∧opensM e key salt (Prod.mk
 t k) (l.take y_21.1)=Prod.mk y_21.2 [])∧l.length-y_21.1<l.length-x_15.1∧eqqQ [AV.int .i64 e,.str key,.str salt,.int .i64 t,.int .u64 (k:Int)]∧eqqQ [AV.int .i64 0,.str [],.str [],.int .i64 0,.int .u64 0]∧[AV.int
 .i64 e,.str key,.str salt,.int .i64 x_15.2.1,.int .u64 (x_15.2.2:Int)]=[AV.int .i64 e,.str key,.str salt,.int .i64 y_21.2.1,.int .u64 (y_21.2.2:Int)]∧eqqQ (AV.lst 0 (cellsRM l_7) l_7.length 4)∧eqqQ (AV.ptr 2 5 0)∧AV.int
 .i64 n_20=AV.int .i64 (y_21.1:Int)∧eqqQ (AV.ptr 1 5 0)∧eqqQ (AV.int .i64 n_14)∧AV.nils=AV.nils∧True)∨∃y_21:Nat×Wn×List Rc×List AV×List AV×List AV,Lf (y_21.1≤l.length∧okWM y_21.2.1.1 y_21.2.1.2=true ∧
 y_21.2.1.2<18446744073709551616∧0<y_21.2.2.1.length∧opensM e key salt (Prod.mk t k) (l.take y_21.1)=Prod.mk y_21.2.1 y_21.2.2.1)∧l.length-y_21.1<l.length-x_15.1∧eqqQ [AV.int .i64 e,.str key,.str salt,.int .i64 t,
 .int .u64 (k:Int)]∧eqqQ [AV.int .i64 0,.str [],.str [],.int .i64 0,.int .u64 0]∧[AV.int .i64 e,.str key,.str salt,.int .i64 x_15.2.1,.int .u64 (x_15.2.2:Int)]=[AV.int .i64 e,.str key,.str salt,.int .i64 y_21.2.1.1,
 .int .u64 (y_21.2.1.2:Int)]∧False) else ∃n_20 n_21,AV.agg [.int .i64 x_15.2.1,.int .u64 (x_15.2.2:Int)]=AV.agg [.int .i64 n_20,.int .u64 n_21]∧∃k_22:Nat,Lf (n_21=(k_22:Int)∧k_22<18446744073709551616∧(-1≤n_20 ∧
 n_20<281474976710656)∧0≤n_18∧n_18<281474976710656)∧∀b_23:Bool,Lf (b_23=isFreshM n_20 k_22 n_18)→bif b_23 then exI .i64 (s_19.length:Int) fun n_24=>Lf (salt.length=12∧(0≤n_17∧n_17≤65535)∧0≤n_18∧n_18 ≤
 281474976710655)∧∀x_25:List UInt8,Lf (x_25=nonceM salt n_17 n_18)→ckQ (eqAVL [.str s_19] [.str s_19]&&true) (ckQ (eqAVL [.str s_19] [.str s_19]&&true) (ckQ (eqAVL [.int .i64 n_16,.int .i64 n_17,.int .i64 n_18,.str s_19]
 [.int .i64 n_16,.int .i64 n_17,.int .i64 n_18,.str s_19]&&true) (ckQ (eqAVL [.str key] [.str key]&&true) (Lf (numsOk (Prod.mk n_16 (Prod.mk n_17 (Prod.mk n_18 s_19)))∧0≤n_24∧n_24≤65535)∧∀t_26:List UInt8,Lf (t_26 =
 headM (Prod.mk n_16 (Prod.mk n_17 (Prod.mk n_18 s_19))) n_24)→ckQ (eqAVL [.str s_19] [.str s_19]&&true) (ckQ (eqAVL [.str key] [.str key]&&true) (∀t_27:List UInt8,∀e_28:Int,Lf (openM key x_25 t_26 s_19=Prod.mk t_27 e_28) →
 bif e_28 !=0 then exW .i64 ((x_15.1:Int)+1) fun n_29=>(True∧(0:Nat)=(0:Nat))∧((∃y_30:Nat×Wn,Lf (y_30.1≤l.length∧okWM y_30.2.1 y_30.2.2=true∧y_30.2.2<18446744073709551616∧opensM e key salt (Prod.mk t k)
 (l.take y_30.1)=Prod.mk y_30.2 [])∧l.length-y_30.1<l.length-x_15.1∧eqqQ [AV.int .i64 e,.str key,.str salt,.int .i64 t,.int .u64 (k:Int)]∧eqqQ [AV.int .i64 0,.str [],.str [],.int .i64 0,.int .u64 0]∧[AV.int .i64 e,
 .str key,.str salt,.int .i64 x_15.2.1,.int .u64 (x_15.2.2:Int)]=[AV.int .i64 e,.str key,.str salt,.int .i64 y_30.2.1,.int .u64 (y_30.2.2:Int)]∧eqqQ (AV.lst 0 (cellsRM l_7) l_7.length 4)∧eqqQ (AV.ptr 2 5 0)∧AV.int .i64
 n_29=AV.int .i64 (y_30.1:Int)∧eqqQ (AV.ptr 1 5 0)∧eqqQ (AV.int .i64 n_14)∧AV.nils=AV.nils∧True)∨∃y_30:Nat×Wn×List Rc×List AV×List AV×List AV,Lf (y_30.1≤l.length∧okWM y_30.2.1.1 y_30.2.1.2=true ∧
 y_30.2.1.2<18446744073709551616∧0<y_30.2.2.1.length∧opensM e key salt (Prod.mk t k) (l.take y_30.1)=Prod.mk y_30.2.1 y_30.2.2.1)∧l.length-y_30.1<l.length-x_15.1∧eqqQ [AV.int .i64 e,.str key,.str salt,.int .i64 t,
 .int .u64 (k:Int)]∧eqqQ [AV.int .i64 0,.str [],.str [],.int .i64 0,.int .u64 0]∧[AV.int .i64 e,.str key,.str salt,.int .i64 x_15.2.1,.int .u64 (x_15.2.2:Int)]=[AV.int .i64 e,.str key,.str salt,.int .i64 y_30.2.1.1,
 .int .u64 (y_30.2.1.2:Int)]∧False) else ∃n_29 n_30,AV.agg [.int .i64 x_15.2.1,.int .u64 (x_15.2.2:Int)]=AV.agg [.int .i64 n_29,.int .u64 n_30]∧∃k_31:Nat,Lf (n_30=(k_31:Int)∧k_31<18446744073709551616∧freshWM n_29
 k_31 n_18=0)∧∀a_32:Int,∀b_33:Nat,Lf (markWM n_29 k_31 n_18=Prod.mk a_32 b_33)→∃n_34 n_35,AV.agg [.int .i64 a_32,.int .u64 (b_33:Int)]=AV.agg [.int .i64 n_34,.int .u64 n_35]∧exW .i64 ((x_15.1:Int)+1) fun n_36
 => (True∧(0:Nat)=(0:Nat))∧((∃y_37:Nat×Wn,Lf (y_37.1≤l.length∧okWM y_37.2.1 y_37.2.2=true∧y_37.2.2<18446744073709551616∧opensM e key salt (Prod.mk t k) (l.take y_37.1)=Prod.mk y_37.2 [])∧l.length-y_37.1 <
 l.length-x_15.1∧eqqQ [AV.int .i64 e,.str key,.str salt,.int .i64 t,.int .u64 (k:Int)]∧eqqQ [AV.int .i64 0,.str [],.str [],.int .i64 0,.int .u64 0]∧[AV.int .i64 e,.str key,.str salt,.int .i64 n_34,.int .u64 n_35] =
 [AV.int .i64 e,.str key,.str salt,.int .i64 y_37.2.1,.int .u64 (y_37.2.2:Int)]∧False)∨∃y_37:Nat×Wn×List Rc×List AV×List AV×List AV,Lf (y_37.1≤l.length∧okWM y_37.2.1.1 y_37.2.1.2=true∧y_37.2.1.2 <
 18446744073709551616∧0<y_37.2.2.1.length∧opensM e key salt (Prod.mk t k) (l.take y_37.1)=Prod.mk y_37.2.1 y_37.2.2.1)∧l.length-y_37.1<l.length-x_15.1∧eqqQ [AV.int .i64 e,.str key,.str salt,.int .i64 t,.int .u64 (k :
 Int)]∧eqqQ [AV.int .i64 0,.str [],.str [],.int .i64 0,.int .u64 0]∧[AV.int .i64 e,.str key,.str salt,.int .i64 n_34,.int .u64 n_35]=[AV.int .i64 e,.str key,.str salt,.int .i64 y_37.2.1.1,.int .u64 (y_37.2.1.2:Int)] ∧
 [AV.int .i64 n_16,.int .i64 n_17,.int .i64 n_18,.str s_19]=y_37.2.2.2.1∧[AV.int .i64 n_16,.int .i64 n_17,.int .i64 n_18,.str t_27]=y_37.2.2.2.2.1∧[AV.int .i64 n_16,.int .i64 n_17,.int .i64 n_18,.str t_27]=y_37.2.2.2.2.2
 ∧ [AV.int .i64 n_16,.int .i64 n_17,.int .i64 n_18,.str t_27]=cellsRM y_37.2.2.1∧eqqQ (AV.lst 0 (cellsRM l_7) l_7.length 4)∧eqqQ (AV.ptr 2 5 0)∧AV.int .i64 n_36=AV.int .i64 (y_37.1:Int)∧eqqQ (AV.ptr 1 5 0)∧eqqQ (AV.int
 .i64 n_14)∧AV.sl 6 4 0 1 4=AV.sl 6 (y_37.2.2.1.length*4) 0 y_37.2.2.1.length 4∧True))))))) else exW .i64 ((x_15.1:Int)+1) fun n_24=>(True∧(0:Nat)=(0:Nat))∧((∃y_25:Nat×Wn,Lf (y_25.1≤l.length∧okWM y_25.2.1
 y_25.2.2=true∧y_25.2.2<18446744073709551616∧opensM e key salt (Prod.mk t k) (l.take y_25.1)=Prod.mk y_25.2 [])∧l.length-y_25.1<l.length-x_15.1∧eqqQ [AV.int .i64 e,.str key,.str salt,.int .i64 t,.int .u64 (k:Int)]
 ∧ eqqQ [AV.int .i64 0,.str [],.str [],.int .i64 0,.int .u64 0]∧[AV.int .i64 e,.str key,.str salt,.int .i64 x_15.2.1,.int .u64 (x_15.2.2:Int)]=[AV.int .i64 e,.str key,.str salt,.int .i64 y_25.2.1,.int .u64 (y_25.2.2 :
 Int)]∧eqqQ (AV.lst 0 (cellsRM l_7) l_7.length 4)∧eqqQ (AV.ptr 2 5 0)∧AV.int .i64 n_24=AV.int .i64 (y_25.1:Int)∧eqqQ (AV.ptr 1 5 0)∧eqqQ (AV.int .i64 n_14)∧AV.nils=AV.nils∧True)∨∃y_25:Nat×Wn×List Rc×List AV ×
 List AV×List AV,Lf (y_25.1≤l.length∧okWM y_25.2.1.1 y_25.2.1.2=true∧y_25.2.1.2<18446744073709551616∧0<y_25.2.2.1.length∧opensM e key salt (Prod.mk t k) (l.take y_25.1)=Prod.mk y_25.2.1 y_25.2.2.1)∧l.length-y_25.1 <
 l.length-x_15.1∧eqqQ [AV.int .i64 e,.str key,.str salt,.int .i64 t,.int .u64 (k:Int)]∧eqqQ [AV.int .i64 0,.str [],.str [],.int .i64 0,.int .u64 0]∧[AV.int .i64 e,.str key,.str salt,.int .i64 x_15.2.1,.int .u64
 (x_15.2.2:Int)]=[AV.int .i64 e,.str key,.str salt,.int .i64 y_25.2.1.1,.int .u64 (y_25.2.1.2:Int)]∧False))) else ∃n_16 s_17 s_18 n_19 n_20,AV.agg [.int .i64 e,.str key,.str salt,.int .i64 x_15.2.1,.int .u64 (x_15.2.2 :
 Int)]=AV.agg [.int .i64 n_16,.str s_17,.str s_18,.int .i64 n_19,.int .u64 n_20]∧Q (.ret (.tup [.agg [.int .i64 n_16,.str s_17,.str s_18,.int .i64 n_19,.int .u64 n_20],.nils,.int .i64 0])) [] {})∧∀x_15:Nat×Wn×List Rc
 × List AV×List AV×List AV,Lf (x_15.1≤l.length∧okWM x_15.2.1.1 x_15.2.1.2=true∧x_15.2.1.2<18446744073709551616∧0<x_15.2.2.1.length∧opensM e key salt (Prod.mk t k) (l.take x_15.1)=Prod.mk x_15.2.1 x_15.2.2.1)→bif
 decide ((x_15.1:Int)<n_14) then ckQ (Nat.blt (x_15.1:Int).toNat l_7.length&&true) (ckQ (Nat.ble ((x_15.1:Int).toNat*4+4) (cellsRM l_7).length) (∃n_16 n_17 n_18 s_19,AV.agg (((cellsRM l_7).drop ((x_15.1:Int).toNat *
 4)).take 4)=AV.agg [.int .i64 n_16,.int .i64 n_17,.int .i64 n_18,.str s_19]∧bif n_17 !=e then exW .i64 ((x_15.1:Int)+1) fun n_20=>(True∧(0:Nat)=(0:Nat))∧((∃y_21:Nat×Wn,Lf (y_21.1≤l.length∧okWM y_21.2.1
 y_21.2.2=true∧y_21.2.2<18446744073709551616∧opensM e key salt (Prod.mk t k) (l.take y_21.1)=Prod.mk y_21.2 [])∧l.length-y_21.1<l.length-x_15.1∧eqqQ [AV.int .i64 e,.str key,.str salt,.int .i64 t,.int .u64 (k:Int)]
 ∧ eqqQ [AV.int .i64 0,.str [],.str [],.int .i64 0,.int .u64 0]∧[AV.int .i64 e,.str key,.str salt,.int .i64 x_15.2.1.1,.int .u64 (x_15.2.1.2:Int)]=[AV.int .i64 e,.str key,.str salt,.int .i64 y_21.2.1,.int .u64 (y_21.2.2 :
 Int)]∧False)∨∃y_21:Nat×Wn×List Rc×List AV×List AV×List AV,Lf (y_21.1≤l.length∧okWM y_21.2.1.1 y_21.2.1.2=true∧y_21.2.1.2<18446744073709551616∧0<y_21.2.2.1.length∧opensM e key salt (Prod.mk t k) (l.take
 y_21.1)=Prod.mk y_21.2.1 y_21.2.2.1)∧l.length-y_21.1<l.length-x_15.1∧eqqQ [AV.int .i64 e,.str key,.str salt,.int .i64 t,.int .u64 (k:Int)]∧eqqQ [AV.int .i64 0,.str [],.str [],.int .i64 0,.int .u64 0]∧[AV.int .i64
 e,.str key,.str salt,.int .i64 x_15.2.1.1,.int .u64 (x_15.2.1.2:Int)]=[AV.int .i64 e,.str key,.str salt,.int .i64 y_21.2.1.1,.int .u64 (y_21.2.1.2:Int)]∧x_15.2.2.2.1=y_21.2.2.2.1∧x_15.2.2.2.2.1=y_21.2.2.2.2.1 ∧
 x_15.2.2.2.2.2=y_21.2.2.2.2.2∧cellsRM x_15.2.2.1=cellsRM y_21.2.2.1∧eqqQ (AV.lst 0 (cellsRM l_7) l_7.length 4)∧eqqQ (AV.ptr 2 5 0)∧AV.int .i64 n_20=AV.int .i64 (y_21.1:Int)∧eqqQ (AV.ptr 1 5 0)∧eqqQ (AV.int .i64 n_14) ∧
 AV.sl 6 (x_15.2.2.1.length*4) 0 x_15.2.2.1.length 4=AV.sl 6 (y_21.2.2.1.length*4) 0 y_21.2.2.1.length 4∧True) else ∃n_20 n_21,AV.agg [.int .i64 x_15.2.1.1,.int .u64 (x_15.2.1.2:Int)]=AV.agg [.int .i64 n_20,.int .u64 n_21] ∧
 ∃k_22:Nat,Lf (n_21=(k_22:Int)∧k_22<18446744073709551616∧(-1≤n_20∧n_20<281474976710656)∧0≤n_18∧n_18<281474976710656)∧∀b_23:Bool,Lf (b_23=isFreshM n_20 k_22 n_18)→bif b_23 then exI .i64 (s_19.length :
 Int) fun n_24=>Lf (salt.length=12∧(0≤n_17∧n_17≤65535)∧0≤n_18∧n_18≤281474976710655)∧∀x_25:List UInt8,Lf (x_25=nonceM salt n_17 n_18)→ckQ (eqAVL [.str s_19] [.str s_19]&&true) (ckQ (eqAVL [.str s_19] [.str
 s_19]&&true) (ckQ (eqAVL [.int .i64 n_16,.int .i64 n_17,.int .i64 n_18,.str s_19] [.int .i64 n_16,.int .i64 n_17,.int .i64 n_18,.str s_19]&&true) (ckQ (eqAVL [.str key] [.str key]&&true) (Lf (numsOk (Prod.mk n_16 (Prod.mk n_17
 (Prod.mk n_18 s_19)))∧0≤n_24∧n_24≤65535)∧∀t_26:List UInt8,Lf (t_26=headM (Prod.mk n_16 (Prod.mk n_17 (Prod.mk n_18 s_19))) n_24)→ckQ (eqAVL [.str s_19] [.str s_19]&&true) (ckQ (eqAVL [.str key] [.str key]&&true) (∀
 t_27:List UInt8,∀e_28:Int,Lf (openM key x_25 t_26 s_19=Prod.mk t_27 e_28)→bif e_28 !=0 then exW .i64 ((x_15.1:Int)+1) fun n_29=>(True∧(0:Nat)=(0:Nat))∧((∃y_30:Nat×Wn,Lf (y_30.1≤l.length∧okWM y_30.2.1
 y_30.2.2=true∧y_30.2.2<18446744073709551616∧opensM e key salt (Prod.mk t k) (l.take y_30.1)=Prod.mk y_30.2 [])∧l.length-y_30.1<l.length-x_15.1∧eqqQ [AV.int .i64 e,.str key,.str salt,.int .i64 t,.int .u64 (k:Int)]
 ∧ eqqQ [AV.int .i64 0,.str [],.str [],.int .i64 0,.int .u64 0]∧[AV.int .i64 e,.str key,.str salt,.int .i64 x_15.2.1.1,.int .u64 (x_15.2.1.2:Int)]=[AV.int .i64 e,.str key,.str salt,.int .i64 y_30.2.1,.int .u64 (y_30.2.2 :
 Int)]∧False)∨∃y_30:Nat×Wn×List Rc×List AV×List AV×List AV,Lf (y_30.1≤l.length∧okWM y_30.2.1.1 y_30.2.1.2=true∧y_30.2.1.2<18446744073709551616∧0<y_30.2.2.1.length∧opensM e key salt (Prod.mk t k) (l.take
 y_30.1)=Prod.mk y_30.2.1 y_30.2.2.1)∧l.length-y_30.1<l.length-x_15.1∧eqqQ [AV.int .i64 e,.str key,.str salt,.int .i64 t,.int .u64 (k:Int)]∧eqqQ [AV.int .i64 0,.str [],.str [],.int .i64 0,.int .u64 0]∧[AV.int .i64
 e,.str key,.str salt,.int .i64 x_15.2.1.1,.int .u64 (x_15.2.1.2:Int)]=[AV.int .i64 e,.str key,.str salt,.int .i64 y_30.2.1.1,.int .u64 (y_30.2.1.2:Int)]∧x_15.2.2.2.1=y_30.2.2.2.1∧x_15.2.2.2.2.1=y_30.2.2.2.2.1 ∧
 x_15.2.2.2.2.2=y_30.2.2.2.2.2∧cellsRM x_15.2.2.1=cellsRM y_30.2.2.1∧eqqQ (AV.lst 0 (cellsRM l_7) l_7.length 4)∧eqqQ (AV.ptr 2 5 0)∧AV.int .i64 n_29=AV.int .i64 (y_30.1:Int)∧eqqQ (AV.ptr 1 5 0)∧eqqQ (AV.int .i64 n_14) ∧
 AV.sl 6 (x_15.2.2.1.length*4) 0 x_15.2.2.1.length 4=AV.sl 6 (y_30.2.2.1.length*4) 0 y_30.2.2.1.length 4∧True) else ∃n_29 n_30,AV.agg [.int .i64 x_15.2.1.1,.int .u64 (x_15.2.1.2:Int)]=AV.agg [.int .i64 n_29,.int .u64 n_30] ∧
 ∃k_31:Nat,Lf (n_30=(k_31:Int)∧k_31<18446744073709551616∧freshWM n_29 k_31 n_18=0)∧∀a_32:Int,∀b_33:Nat,Lf (markWM n_29 k_31 n_18=Prod.mk a_32 b_33)→∃n_34 n_35,AV.agg [.int .i64 a_32,.int .u64 (b_33:Int)] =
 AV.agg [.int .i64 n_34,.int .u64 n_35]∧ckQ (Nat.beq (cellsRM x_15.2.2.1).length (x_15.2.2.1.length*4)&&true&&Nat.beq (0+x_15.2.2.1.length*4) (x_15.2.2.1.length*4)&&Nat.ble (x_15.2.2.1.length+1) 1099511627776&&Nat.ble
 ((x_15.2.2.1.length+1)*40) 1099511627776) (exW .i64 ((x_15.1:Int)+1) fun n_36=>(True∧(0:Nat)=(0:Nat))∧((∃y_37:Nat×Wn,Lf (y_37.1≤l.length∧okWM y_37.2.1 y_37.2.2=true∧y_37.2.2<18446744073709551616∧opensM
 e key salt (Prod.mk t k) (l.take y_37.1)=Prod.mk y_37.2 [])∧l.length-y_37.1<l.length-x_15.1∧eqqQ [AV.int .i64 e,.str key,.str salt,.int .i64 t,.int .u64 (k:Int)]∧eqqQ [AV.int .i64 0,.str [],.str [],.int .i64 0,.int
 .u64 0]∧[AV.int .i64 e,.str key,.str salt,.int .i64 n_34,.int .u64 n_35]=[AV.int .i64 e,.str key,.str salt,.int .i64 y_37.2.1,.int .u64 (y_37.2.2:Int)]∧False)∨∃y_37:Nat×Wn×List Rc×List AV×List AV×List AV,Lf
 (y_37.1≤l.length∧okWM y_37.2.1.1 y_37.2.1.2=true∧y_37.2.1.2<18446744073709551616∧0<y_37.2.2.1.length∧opensM e key salt (Prod.mk t k) (l.take y_37.1)=Prod.mk y_37.2.1 y_37.2.2.1)∧l.length-y_37.1<l.length-x_15.1 ∧
 eqqQ [AV.int .i64 e,.str key,.str salt,.int .i64 t,.int .u64 (k:Int)]∧eqqQ [AV.int .i64 0,.str [],.str [],.int .i64 0,.int .u64 0]∧[AV.int .i64 e,.str key,.str salt,.int .i64 n_34,.int .u64 n_35]=[AV.int .i64 e,.str
 key,.str salt,.int .i64 y_37.2.1.1,.int .u64 (y_37.2.1.2:Int)]∧x_15.2.2.2.1=y_37.2.2.2.1∧x_15.2.2.2.2.1=y_37.2.2.2.2.1∧x_15.2.2.2.2.2=y_37.2.2.2.2.2∧cellsRM x_15.2.2.1++[AV.int .i64 n_16,.int .i64 n_17,.int .i64
 n_18,.str t_27]=cellsRM y_37.2.2.1∧eqqQ (AV.lst 0 (cellsRM l_7) l_7.length 4)∧eqqQ (AV.ptr 2 5 0)∧AV.int .i64 n_36=AV.int .i64 (y_37.1:Int)∧eqqQ (AV.ptr 1 5 0)∧eqqQ (AV.int .i64 n_14)∧AV.sl 6 (x_15.2.2.1.length*4+4)
 0 (x_15.2.2.1.length+1) 4=AV.sl 6 (y_37.2.2.1.length*4) 0 y_37.2.2.1.length 4∧True)))))))) else exW .i64 ((x_15.1:Int)+1) fun n_24=>(True∧(0:Nat)=(0:Nat))∧((∃y_25:Nat×Wn,Lf (y_25.1≤l.length∧okWM y_25.2.1
 y_25.2.2=true∧y_25.2.2<18446744073709551616∧opensM e key salt (Prod.mk t k) (l.take y_25.1)=Prod.mk y_25.2 [])∧l.length-y_25.1<l.length-x_15.1∧eqqQ [AV.int .i64 e,.str key,.str salt,.int .i64 t,.int .u64 (k:Int)]
 ∧ eqqQ [AV.int .i64 0,.str [],.str [],.int .i64 0,.int .u64 0]∧[AV.int .i64 e,.str key,.str salt,.int .i64 x_15.2.1.1,.int .u64 (x_15.2.1.2:Int)]=[AV.int .i64 e,.str key,.str salt,.int .i64 y_25.2.1,.int .u64 (y_25.2.2 :
 Int)]∧False)∨∃y_25:Nat×Wn×List Rc×List AV×List AV×List AV,Lf (y_25.1≤l.length∧okWM y_25.2.1.1 y_25.2.1.2=true∧y_25.2.1.2<18446744073709551616∧0<y_25.2.2.1.length∧opensM e key salt (Prod.mk t k) (l.take
 y_25.1)=Prod.mk y_25.2.1 y_25.2.2.1)∧l.length-y_25.1<l.length-x_15.1∧eqqQ [AV.int .i64 e,.str key,.str salt,.int .i64 t,.int .u64 (k:Int)]∧eqqQ [AV.int .i64 0,.str [],.str [],.int .i64 0,.int .u64 0]∧[AV.int .i64
 e,.str key,.str salt,.int .i64 x_15.2.1.1,.int .u64 (x_15.2.1.2:Int)]=[AV.int .i64 e,.str key,.str salt,.int .i64 y_25.2.1.1,.int .u64 (y_25.2.1.2:Int)]∧x_15.2.2.2.1=y_25.2.2.2.1∧x_15.2.2.2.2.1=y_25.2.2.2.2.1 ∧
 x_15.2.2.2.2.2=y_25.2.2.2.2.2∧cellsRM x_15.2.2.1=cellsRM y_25.2.2.1∧eqqQ (AV.lst 0 (cellsRM l_7) l_7.length 4)∧eqqQ (AV.ptr 2 5 0)∧AV.int .i64 n_24=AV.int .i64 (y_25.1:Int)∧eqqQ (AV.ptr 1 5 0)∧eqqQ (AV.int .i64 n_14) ∧
 AV.sl 6 (x_15.2.2.1.length*4) 0 x_15.2.2.1.length 4=AV.sl 6 (y_25.2.2.1.length*4) 0 y_25.2.2.1.length 4∧True))) else ∃n_16 s_17 s_18 n_19 n_20,AV.agg [.int .i64 e,.str key,.str salt,.int .i64 x_15.2.1.1,.int .u64 (x_15.2.1.2
 : Int)]=AV.agg [.int .i64 n_16,.str s_17,.str s_18,.int .i64 n_19,.int .u64 n_20]∧Q (.ret (.tup [.agg [.int .i64 n_16,.str s_17,.str s_18,.int .i64 n_19,.int .u64 n_20],.sl 6 (x_15.2.2.1.length*4) 0 x_15.2.2.1.length 4,.int
 .i64 0])) [Blk.mk BK.exact true [.int .i64 e,.str key,.str salt,.int .i64 t,.int .u64 (k:Int)],Blk.mk BK.exact true [.int .i64 n_16,.str s_17,.str s_18,.int .i64 n_19,.int .u64 n_20],Blk.mk BK.exact true [.int .i64 e,.str key,
 .str salt,.int .i64 x_15.2.1.1,.int .u64 (x_15.2.1.2:Int)],Blk.mk BK.exact true x_15.2.2.2.1,Blk.mk BK.exact true x_15.2.2.2.2.1,Blk.mk BK.exact true x_15.2.2.2.2.2,Blk.mk BK.grow true (cellsRM x_15.2.2.1)] {}):=by kernel_rfl

theorem mark_okW {t:Int} {k:Nat} {q:Int} (hk:k<18446744073709551616) (hf:freshWM t k q=0):okWM (markWM t k q).1 (markWM t k q).2=true:=by
 obtain ⟨h1,h2,h3⟩:=fresh_parts hf
 have hlt:=mark_lt hk hf
 by_cases hqt:q≤t
 ·have h4:=(h3 hqt).1
  rcases ok_parts h1 with h | ⟨g1,g2,g3,g4⟩
  ·omega
  ·have hb:=(high_zero hk g1).1 g4
   rw[markWM,if_pos hqt] at hlt ⊢
   refine (ok_iff hlt (by first | omega | (dsimp only;omega)) g1 g2).2 ⟨?_,fun j hj htj => ?_⟩
   ·rw[bitW_test,Nat.testBit_or,←bitW_test,g3]
    rfl
   ·have:=hb j hj htj
    rw[bitW_test] at this ⊢
    rw[Nat.testBit_or,this,Nat.testBit_two_pow,decide_eq_false (by omega)]
    rfl
 ·have htr : -1≤t:=by rcases ok_parts h1 with h | h<;>omega
  rw[markWM,if_neg hqt] at hlt ⊢
  refine (ok_iff hlt (by first | omega | (dsimp only;omega)) (by first | omega | (dsimp only;omega)) (by first | omega | (dsimp only;omega))).2 ⟨?_,fun j hj hqj => ?_⟩
  ·rw[bitW_test,Nat.testBit_or]
   simp
  ·rw[bitW_test,Nat.testBit_or,show (18446744073709551616:Nat)=2^64 from rfl,Nat.testBit_mod_two_pow,Nat.testBit_mul_two_pow,show Nat.testBit 1 j=false by rw[show (1:Nat)=2^0 from rfl,Nat.testBit_two_pow,decide_eq_false (by omega)],Bool.or_false]
   by_cases h0:t<0
   ·rw[if_pos h0];simp
   ·rw[if_neg h0]
    rcases ok_parts h1 with h | ⟨g1,g2,g3,g4⟩
    ·omega
    ·by_cases h5:min (q-t).toNat 64≤j
     ·have:=(high_zero hk g1).1 g4 (j-min (q-t).toNat 64) (by omega) (by omega)
      rw[bitW_test] at this
      rw[this]
      simp
     ·rw[decide_eq_false (by omega:¬ j≥min (q-t).toNat 64)]
      simp
theorem opens_snoc {e:Int} {key salt:List UInt8} {w:Wn} {l:List Rc} {i:Nat} (hi:i<l.length):opensM e key salt w (l.take (i+1))=stepRM e key salt (opensM e key salt w (l.take i)) l[i]:=by
 rw[take_snoc hi,opensM,opensM,List.foldl_append]
 rfl
theorem first_right {s:List UInt8} (hh:headEM s=0):rightRM (firstRM s)=true:=by
 unfold headEM at hh
 split at hh
 ·cases hh
 ·split at hh
  ·cases hh
  ·split at hh
   ·cases hh
   ·rename_i h1 h2 h3
    have hs0:0≤sizeRM s:=be_nn _
    have l1:(s.take 1).length≤1:=by rw[List.length_take];omega
    have l2:((s.drop 1).take 2).length≤2:=by rw[List.length_take];omega
    have l3:((s.drop 3).take 6).length≤6:=by rw[List.length_take];omega
    have b1:=be_hi l1
    have b2:=be_hi l2
    have b3:=be_hi l3
    have n1:=be_nn (s.take 1)
    have n2:=be_nn ((s.drop 1).take 2)
    have n3:=be_nn ((s.drop 3).take 6)
    refine (rightM_iff _ _ _ _).2 ⟨by omega,by omega,by omega, ?_⟩
    rw[List.length_take]
    omega
theorem recs_right:∀ (f:Nat) (s:List UInt8),(recsM f s).1.all rightRM=true
 | 0,_=>rfl
 | f+1,s=>by
  rw[recsM]
  split
  ·rfl
  ·split
   ·rfl
   ·rename_i hh
    split
    ·rfl
    ·rw[List.all_cons,first_right (Decidable.of_not_not hh),recs_right f]
     rfl
theorem dec_right (s:List UInt8):(decM s).1.all rightRM=true:=by
 rw[decM]
 split
 ·rfl
 ·split
  ·rfl
  ·exact recs_right _ _
theorem dec_nil {s:List UInt8} {l:List Rc} {f:Int} (h:decM s=(l,f)) (hf:f≠0):l=[]:=by
 rw[decM] at h
 split at h
 ·rw[Prod.mk.injEq] at h;exact h.1.symm
 ·split at h
  ·rw[Prod.mk.injEq] at h;exact h.1.symm
  ·have h2:=recs_err s.length s (by rw[h];exact hf)
   rw[h] at h2
   exact h2
theorem agg5 {e:Int} {key salt:List UInt8} {t:Int} {u:Int} {K:Int→List UInt8→List UInt8→Int→Int→Prop} (h:K e key salt t u):∃ (n0:Int) (s1 s2:List UInt8) (n3 n4:Int),AV.agg [.int .i64 e,.str key,.str salt,.int .i64 t,.int .u64 u]=AV.agg [.int .i64 n0,.str s1,.str s2,.int .i64 n3,.int .u64 n4]∧K n0 s1 s2 n3 n4:=⟨_,_,_,_,_,rfl,h⟩
theorem step_no {e:Int} {key salt:List UInt8} {x:Wn×List Rc} {r:Rc} (h:r.2.1≠e∨isFreshM x.1.1 x.1.2 r.2.2.1=false∨(openRM key salt r).2≠0):stepRM e key salt x r=x:=by rw[stepRM,if_pos h]
theorem step_yes {e:Int} {key salt:List UInt8} {x:Wn×List Rc} {r:Rc} (h1:r.2.1=e) (h2:isFreshM x.1.1 x.1.2 r.2.2.1=true) (h3:(openRM key salt r).2=0):stepRM e key salt x r=(markWM x.1.1 x.1.2 r.2.2.1,x.2++[(r.1,r.2.1,r.2.2.1,(openRM key salt r).1)]):=by
 rw[stepRM,if_neg]
 rintro (h | h | h)
 ·exact h h1
 ·rw[h2] at h;cases h
 ·exact h h3
theorem opens_len (e:Int) (key salt:List UInt8):∀ (l:List Rc) (x:Wn×List Rc),(l.foldl (stepRM e key salt) x).2.length≤x.2.length+l.length
 | [],x=>by simp
 | r::l,x=>by
  have h:=opens_len e key salt l (stepRM e key salt x r)
  have h2:(stepRM e key salt x r).2.length≤x.2.length+1:=by
   rw[stepRM]
   split
   ·omega
   ·simp
  rw[List.foldl_cons,List.length_cons]
  omega
theorem dec_le {s:List UInt8} {l:List Rc} (h:decM s=(l,0)):s.length≤1200:=by
 rw[decM] at h
 split at h
 ·simp at h
 ·omega
theorem openrec_run (e:Int) (key salt:List UInt8) (t:Int) (k:Nat) (l:List Rc) (s:List UInt8) (hr:rcvOkM e key salt t k=true) (hk:k<18446744073709551616) (hs:s.length≤9223372036854775807) (hl:(decM s).1=l) (Q:Out→List Blk→Gh→Prop)
  (hq0:∀f,decM s=([],f)→f≠0→Q (.ret (.tup [.agg [.int .i64 0,.str [],.str [],.int .i64 0,.int .u64 0],.nils,.int .i64 f])) [] {})
  (hq1:∀ (a:Int) (b:Nat),decM s=(l,0)→b<18446744073709551616→okWM a b=true→opensM e key salt (t,k) l=((a,b),[])→Q (.ret (.tup [.agg [.int .i64 e,.str key,.str salt,.int .i64 a,.int .u64 (b:Nat)],.nils,.int .i64 0])) [] {})
  (hq2:∀ (a:Int) (b:Nat) (out:List Rc) (H:List Blk),decM s=(l,0)→b<18446744073709551616→okWM a b=true→opensM e key salt (t,k) l=((a,b),out)→H[6]? = some ⟨.grow,true,cellsRM out⟩→Q (.ret (.tup [.agg [.int .i64 e,.str key,.str salt,.int .i64 a,.int .u64 (b:Nat)],.sl 6 (out.length*4) 0 out.length 4,.int .i64 0])) H {}) :
  ∃hv hb,goal_27n hv hb e key salt t k l s Q:=by
 obtain ⟨hv,hb',e'⟩:∃hv hb,goal_27n hv hb e key salt t k l s Q=_:=⟨_,_,vc_27n e key salt t k l s Q⟩
 refine ⟨hv,hb',e'.mpr ?_⟩
 clear e'
 obtain ⟨r1,r2,r3,r4⟩:=(rcv_iff e key salt t k).1 hr
 refine agg5 ⟨k,⟨rfl,hk⟩, ?_⟩
 rintro x ⟨rfl⟩
 rw[hr]
 refine splitNE (fun h=>absurd rfl h) (fun _=>⟨⟨hs⟩, ?_⟩)
 rintro l' f ⟨hd⟩
 refine splitNE (fun h=>hq0 f (by rw[hd,dec_nil hd h]) h) (fun h0 => ?_)
 subst h0
 have hll:l'=l:=by rw[←hl,hd]
 subst hll
 have hall:=dec_right s
 rw[hl] at hall
 have hlen:=dec_len s
 rw[hl] at hlen
 have hcl:=cellsR_len l'
 have hm:∀i (hi:i<l'.length),∃a b c u,l'[i]=(a,b,c,u)∧(0≤a∧a≤255)∧(0≤b∧b≤65535)∧(0≤c∧c≤281474976710655)∧u.length≤1000:=fun i hi=>by
  obtain ⟨⟨a,b,c,u⟩,hR⟩:∃r,l'[i]=r:=⟨_,rfl⟩
  have hr:rightRM (a,b,c,u)=true:=by rw[←hR];exact List.all_eq_true.1 hall _ (List.getElem_mem hi)
  exact ⟨a,b,c,u,hR,(rightM_iff a b c u).1 hr⟩
 have eS:∀u:List UInt8,(eqAVL [AV.str u] [AV.str u]&&true)=true:=fun u=>by simp[eqAVL,eqAV,eqB_refl]
 have eR:∀ (a b c:Int) (u:List UInt8),(eqAVL [AV.int .i64 a,AV.int .i64 b,AV.int .i64 c,AV.str u] [AV.int .i64 a,AV.int .i64 b,AV.int .i64 c,AV.str u]&&true)=true:=fun a b c u=>by simp[eqAVL,eqAV,eqB_refl]
 refine agg5 ⟨_,rfl,.inl ⟨(0,(t,k)),⟨by omega,r4,hk,rfl⟩,rfl,rfl,rfl,rfl,rfl,rfl,rfl,rfl,rfl,trivial⟩, ?_, ?_⟩
 ·rintro ⟨i,wt,wk⟩ ⟨g1,g2,g3,g4⟩
  dsimp only at g1 g2 g3 g4 ⊢
  have wtr : -1≤wt∧wt<281474976710656:=by rcases ok_parts g2 with h | h<;>omega
  refine splitD (fun h1 => ?_) (fun h1 => ?_)
  ·have hi:i<l'.length:=by omega
   obtain ⟨a,b,c,u,hR,k1,k2,k3,k4⟩:=hm i hi
   have hst:=opens_snoc (e:=e) (key:=key) (salt:=salt) (w:=(t,k)) hi
   rw[g4,hR] at hst
   refine ckI (by simp;omega) (ckI (by rw[hcl];simp;omega) (getR hi hR (by simp) (splitNE (fun h2 => ?_) (fun h2=>aggW2 ⟨wk,⟨rfl,g3,wtr,by omega,by omega⟩, ?_⟩))))
   ·rw[step_no (.inl h2)] at hst
    exact wrapI (by omega) (by omega) ⟨⟨trivial,rfl⟩,.inl ⟨(i+1,(wt,wk)),⟨by dsimp only;omega,g2,g3,hst⟩,by dsimp only;omega,rfl,rfl,rfl,rfl,rfl,rfl,rfl,rfl,rfl,trivial⟩⟩
   ·rintro fb ⟨hfb⟩
    cases hfr:isFreshM wt wk c with
    | false=>
     rw[hfb,hfr]
     rw[step_no (.inr (.inl hfr))] at hst
     exact wrapI (by omega) (by omega) ⟨⟨trivial,rfl⟩,.inl ⟨(i+1,(wt,wk)),⟨by dsimp only;omega,g2,g3,hst⟩,by dsimp only;omega,rfl,rfl,rfl,rfl,rfl,rfl,rfl,rfl,rfl,trivial⟩⟩
    | true=>
     rw[hfb,hfr]
     refine ⟨_,rfl,⟨r3,k2,k3⟩, ?_⟩
     rintro no ⟨hno⟩
     refine ckI (eS u) (ckI (eS u) (ckI (eR a b c u) (ckI (eS key) ⟨⟨⟨k1,k2,k3⟩,by omega,by omega⟩, ?_⟩)))
     rintro hd' ⟨hhd⟩
     refine ckI (eS u) (ckI (eS key) ?_)
     rintro pl f ⟨hop⟩
     have hop':openRM key salt (a,b,c,u)=(pl,f):=by rw[←hop,hno,hhd];rfl
     refine splitNE (fun h3 => ?_) (fun h3 => ?_)
     ·rw[step_no (.inr (.inr (by rw[hop'];exact h3)))] at hst
      exact wrapI (by omega) (by omega) ⟨⟨trivial,rfl⟩,.inl ⟨(i+1,(wt,wk)),⟨by dsimp only;omega,g2,g3,hst⟩,by dsimp only;omega,rfl,rfl,rfl,rfl,rfl,rfl,rfl,rfl,rfl,trivial⟩⟩
     ·rw[step_yes h2 hfr (by rw[hop'];exact h3),hop'] at hst
      have hf0:=(fresh_eq g2 (by omega)).2 hfr
      refine aggW2 ⟨wk,⟨rfl,g3,hf0⟩, ?_⟩
      rintro a' b' ⟨hmk⟩
      have hmo:=mark_okW g3 hf0
      have hml:=mark_lt g3 hf0
      dsimp only at hst
      rw[hmk] at hst hmo hml
      exact aggW2 (wrapI (by omega) (by omega) ⟨⟨trivial,rfl⟩,.inr ⟨(i+1,(a',b'),[(a,b,c,pl)],_,_,_),⟨by dsimp only;omega,hmo,hml,by simp,hst⟩,by dsimp only;omega,rfl,rfl,rfl,rfl,rfl,rfl,rfl,rfl,rfl,rfl,rfl,rfl,rfl,trivial⟩⟩)
  ·have hi:l'.take i=l':=List.take_of_length_le (by omega)
   rw[hi] at g4
   exact agg5 (hq1 wt wk hd g3 g2 g4)
 ·rintro ⟨i,⟨wt,wk⟩,out,d3,d4,d5⟩ ⟨g1,g2,g3,g5,g4⟩
  dsimp only at g1 g2 g3 g4 g5 ⊢
  have wtr : -1≤wt∧wt<281474976710656:=by rcases ok_parts g2 with h | h<;>omega
  refine splitD (fun h1 => ?_) (fun h1 => ?_)
  ·have hi:i<l'.length:=by omega
   obtain ⟨a,b,c,u,hR,k1,k2,k3,k4⟩:=hm i hi
   have hst:=opens_snoc (e:=e) (key:=key) (salt:=salt) (w:=(t,k)) hi
   rw[g4,hR] at hst
   refine ckI (by simp;omega) (ckI (by rw[hcl];simp;omega) (getR hi hR (by simp) (splitNE (fun h2 => ?_) (fun h2=>aggW2 ⟨wk,⟨rfl,g3,wtr,by omega,by omega⟩, ?_⟩))))
   ·rw[step_no (.inl h2)] at hst
    exact wrapI (by omega) (by omega) ⟨⟨trivial,rfl⟩,.inr ⟨(i+1,(wt,wk),out,d3,d4,d5),⟨by dsimp only;omega,g2,g3,g5,hst⟩,by dsimp only;omega,rfl,rfl,rfl,rfl,rfl,rfl,rfl,rfl,rfl,rfl,rfl,rfl,rfl,trivial⟩⟩
   ·rintro fb ⟨hfb⟩
    cases hfr:isFreshM wt wk c with
    | false=>
     rw[hfb,hfr]
     rw[step_no (.inr (.inl hfr))] at hst
     exact wrapI (by omega) (by omega) ⟨⟨trivial,rfl⟩,.inr ⟨(i+1,(wt,wk),out,d3,d4,d5),⟨by dsimp only;omega,g2,g3,g5,hst⟩,by dsimp only;omega,rfl,rfl,rfl,rfl,rfl,rfl,rfl,rfl,rfl,rfl,rfl,rfl,rfl,trivial⟩⟩
    | true=>
     rw[hfb,hfr]
     refine ⟨_,rfl,⟨r3,k2,k3⟩, ?_⟩
     rintro no ⟨hno⟩
     refine ckI (eS u) (ckI (eS u) (ckI (eR a b c u) (ckI (eS key) ⟨⟨⟨k1,k2,k3⟩,by omega,by omega⟩, ?_⟩)))
     rintro hd' ⟨hhd⟩
     refine ckI (eS u) (ckI (eS key) ?_)
     rintro pl f ⟨hop⟩
     have hop':openRM key salt (a,b,c,u)=(pl,f):=by rw[←hop,hno,hhd];rfl
     refine splitNE (fun h3 => ?_) (fun h3 => ?_)
     ·rw[step_no (.inr (.inr (by rw[hop'];exact h3)))] at hst
      exact wrapI (by omega) (by omega) ⟨⟨trivial,rfl⟩,.inr ⟨(i+1,(wt,wk),out,d3,d4,d5),⟨by dsimp only;omega,g2,g3,g5,hst⟩,by dsimp only;omega,rfl,rfl,rfl,rfl,rfl,rfl,rfl,rfl,rfl,rfl,rfl,rfl,rfl,trivial⟩⟩
     ·rw[step_yes h2 hfr (by rw[hop'];exact h3),hop'] at hst
      have hf0:=(fresh_eq g2 (by omega)).2 hfr
      have hol:=cellsR_len out
      refine aggW2 ⟨wk,⟨rfl,g3,hf0⟩, ?_⟩
      rintro a' b' ⟨hmk⟩
      have hmo:=mark_okW g3 hf0
      have hml:=mark_lt g3 hf0
      dsimp only at hst
      rw[hmk] at hst hmo hml
      have h12:=dec_le hd
      have hou:=opens_len e key salt (l'.take i) ((t,k),[])
      rw[show (l'.take i).foldl (stepRM e key salt) ((t,k),[])=opensM e key salt (t,k) (l'.take i) from rfl,g4,List.length_take] at hou
      dsimp only[List.length_nil] at hou
      refine aggW2 (ckI (by rw[hol];simp;omega) (wrapI (by omega) (by omega) ⟨⟨trivial,rfl⟩,.inr ⟨(i+1,(a',b'),out++[(a,b,c,pl)],d3,d4,d5),⟨by dsimp only;omega,hmo,hml,by simp,hst⟩,by dsimp only;omega,rfl,rfl,rfl,rfl,rfl,rfl, ?_,rfl,rfl,rfl,rfl,rfl, ?_,trivial⟩⟩))
      ·dsimp only
       rw[cellsR_app]
       rfl
      ·dsimp only
       rw[List.length_append,Nat.add_mul]
       rfl
  ·have hi:l'.take i=l':=List.take_of_length_le (by omega)
   rw[hi] at g4
   exact agg5 (hq2 wt wk out _ hd g3 g2 g4 rfl)
theorem frz_rec3 {H:List Blk} {l:List Rc} {e a:Int} {b:Nat} {key salt:List UInt8} {f:Int} (hb:H[6]? = some ⟨.grow,true,cellsRM l⟩) :
  nlR [0,4] (frzV 0 H 9 (.tup [.agg [.int .i64 e,.str key,.str salt,.int .i64 a,.int .u64 (b:Nat)],.sl 6 (l.length*4) 0 l.length 4,.int .i64 f]))=.tup [.agg [.int .i64 e,.str key,.str salt,.int .i64 a,.int .u64 (b:Nat)],.lst 0 (cellsRM l) l.length 4,.int .i64 f]:=by
 have h:=frz_sl (τ:=0) (d:=6) (cs:=cellsRM l) (off:=0) (len:=l.length) (sz:=4) hb (cellsR_len l) (by omega) (by simp) (by rw[List.drop_zero];exact List.take_of_length_le (by rw[cellsR_len];omega)) (cellsR_plain l)
 have e1:frzV 0 H 9 (.tup [.agg [.int .i64 e,.str key,.str salt,.int .i64 a,.int .u64 (b:Nat)],.sl 6 (l.length*4) 0 l.length 4,.int .i64 f])=.tup [.agg [.int .i64 e,.str key,.str salt,.int .i64 a,.int .u64 (b:Nat)],frzV 0 H 8 (.sl 6 (l.length*4) 0 l.length 4),.int .i64 f]:=rfl
 rw[e1,h]
 rfl
def cOpenR:Con
 | [.agg [.int .i64 e,.str key,.str salt,.int .i64 t,.int .u64 u],.str s],H,K=>∃k:Nat,Lf (u=(k:Int)∧k<18446744073709551616∧rcvOkM e key salt t k=true∧s.length≤9223372036854775807) ∧
   ∀l f,Lf (decM s=(l,f))→bif f !=0 then K (.ret (.tup [.agg [.int .i64 0,.str [],.str [],.int .i64 0,.int .u64 0],.lst 0 [] 0 4,.int .i64 f])) H else
    ∀ (a:Int) (b:Nat) (out:List Rc),Lf (opensM e key salt (t,k) l=((a,b),out)∧okWM a b=true∧b<18446744073709551616∧l.all rightRM=true) →
     K (.ret (.tup [.agg [.int .i64 e,.str key,.str salt,.int .i64 a,.int .u64 (b:Nat)],.lst 0 (cellsRM out) out.length 4,.int .i64 0])) H
 | _,_,_=>False
theorem openR_ok:ValidF Tryz.prog gl0 20 cOpenR:=valid_frz (enters_of (by kernel_rfl)) gl0_noY 9 (nlR [0,4]) (wk_nlR _) fun args H Q hc=>by
 unfold cOpenR at hc
 split at hc
 ·rename_i e key salt t u s
  obtain ⟨k,⟨rfl,h1,h2,h3⟩,hq⟩:=hc
  have hdr:∀l f,decM s=(l,f)→l.all rightRM=true:=fun l f h=>by have:=dec_right s;rwa [h] at this
  obtain ⟨hv,hb',h⟩:=openrec_run e key salt t k (decM s).1 s h2 h1 h3 rfl (Q:=fun o H' _=>∃v,o=.ret v∧Q (.ret (nlR [0,4] (frzV 0 H' 9 v))) H)
   (fun f hd hf=>⟨_,rfl,by
    have:=hq [] f ⟨hd⟩
    rw[show (f !=0)=true by simpa using hf] at this
    exact this⟩)
   (fun a b hd k1 k2 k3=>⟨_,rfl,hq _ 0 ⟨hd⟩ a b [] ⟨k3,k2,k1,hdr _ _ hd⟩⟩)
   (fun a b out H' hd k1 k2 k3 k4=>⟨_,rfl,by
    rw[frz_rec3 k4]
    exact hq _ 0 ⟨hd⟩ a b out ⟨k3,k2,k1,hdr _ _ hd⟩⟩)
  exact ⟨rfl,rfl,_,1000,envFor04 smOp_ok _ _ _,rfl,h⟩
 ·exact hc.elim
end Go.Proofs.YtjenieljapmehaaGreatDoor.Rc
