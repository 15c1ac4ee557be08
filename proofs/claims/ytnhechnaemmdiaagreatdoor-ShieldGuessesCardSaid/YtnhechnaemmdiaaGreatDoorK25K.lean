/-
  Chapter 25: equal shields are the same.
-/
import Derived.Test.YtnhechnaemmdiaaGreatDoorK25J
set_option linter.unusedSimpArgs false
set_option linter.unusedVariables false
set_option linter.unusedSectionVars false
namespace Go.Proofs.YtnhechnaemmdiaaGreatDoor
open Go.RowKit
set_option maxRecDepth 1000000

def inv_17a (xs:List Int) (s:S):List (List LInv):=[[
 { α:=Nat,pre:=fun i=>Lf (i≤xs.length),st:=fun i=>⟨mkT [(2,s.tm.get 2),(3,s.tm.get 3),(5,.int .i64 (i:Nat))],s.hp⟩,mu:=fun i=>xs.length-i }]]
def inv_17b (l:List Tr) (s:S):List (List LInv):=[[
 { α:=Nat,pre:=fun i=>Lf (i≤l.length),st:=fun i=>⟨mkT [(2,s.tm.get 2),(3,s.tm.get 3),(6,.int .i64 (i:Nat))],s.hp⟩,mu:=fun i=>l.length-i }]]
noncomputable def env_17 (hv:Nat→Option Pa) (hb:Nat→Option Bool) (xs:List Int) (l:List Tr):Env:=e04 sm0 (fun i=>bif Nat.beq i 17000 then some (inv_17a xs) else bif Nat.beq i 17002 then some (inv_17b l) else none) hv hb
noncomputable def goal_17 (hv:Nat→Option Pa) (hb:Nat→Option Bool) (t1 t2 t3 t4:Nat) (a b c:List UInt8) (xs:List Int) (l:List Tr) (nx rs rt:Int) (rk:Nat) (Q:Out→List Blk→Gh→Prop):Prop:=
 callx (env_17 hv hb xs l) (wpx (env_17 hv hb xs l) 1000) 17 [shV t1 t2 a b c xs l nx rs rt rk,shV t3 t4 a b c xs l nx rs rt rk] [] {} Q
theorem vc_17 (t1:Nat) (t2:Nat) (t3:Nat) (t4:Nat) (a:List UInt8) (b:List UInt8) (c:List UInt8) (xs:List Int) (l:List Tr) (nx:Int) (rs:Int) (rt:Int) (rk:Nat) (Q:Out→List Blk→Gh→Prop):goal_17 (lookV
 [(69653,.agg [(.int .i64),(.int .i64),(.int .u64)]),(69655,.agg [(.int .i64),(.int .i64),(.int .u64)]),(69661,.int .i64),(69664,.int .i64),(69670,.int .i64),(69673,.int .i64),(69676,.int .i64),(69679,.int .i64),(69685,
 .int .i64),(69687,.int .i64),(69690,.int .i64),(69692,.int .i64),(69681,.int .i64),(69682,.int .i64),(69694,.int .i64),(69697,.int .i64),(69703,.int .i64),(69705,.agg [.int .i64,.int .i64,.int .u64]),(69708,.int
 .i64),(69710,.agg [.int .i64,.int .i64,.int .u64]),(69699,.int .i64),(69700,.int .i64)]) (lookB []) t1 t2 t3 t4 a b c xs l nx rs rt rk Q=(bif !(eqB a a&&(eqB b b&&(eqB c c&&true))) then Q (.ret (.bool false)) [] {} else bif
 nx !=nx then Q (.ret (.bool false)) [] {} else ∃n_0 n_1 n_2,AV.agg [.int .i64 rs,.int .i64 rt,.int .u64 (rk:Int)]=AV.agg [.int .i64 n_0,.int .i64 n_1,.int .u64 n_2]∧∃n_3 n_4 n_5,AV.agg [.int .i64 rs,.int .i64 rt,.int .u64
 (rk:Int)]=AV.agg [.int .i64 n_3,.int .i64 n_4,.int .u64 n_5]∧bif !(n_0==n_3&&(n_1==n_4&&(n_2==n_5&&true))) then Q (.ret (.bool false)) [] {} else exI .i64 (xs.length:Int) fun n_6=>exI .i64 (xs.length:Int) fun n_7
 => bif n_6 !=n_7 then Q (.ret (.bool false)) [] {} else exI .i64 (l.length:Int) fun n_8=>exI .i64 (l.length:Int) fun n_9=>bif n_8 !=n_9 then Q (.ret (.bool false)) [] {} else (∃x_10:Nat,Lf (x_10≤xs.length)∧eqqQ [AV.str a,
 .str b,.str c,.lst t1 (cellsI xs) xs.length 1,.lst t2 (trM l) l.length 3,.int .i64 nx,.int .i64 rs,.int .i64 rt,.int .u64 (rk:Int)]∧eqqQ [AV.str a,.str b,.str c,.lst t3 (cellsI xs) xs.length 1,.lst t4 (trM l) l.length 3,
 .int .i64 nx,.int .i64 rs,.int .i64 rt,.int .u64 (rk:Int)]∧eqqQ (AV.ptr 1 9 0)∧AV.int .i64 0=AV.int .i64 (x_10:Int)∧eqqQ (AV.ptr 0 9 0)∧True)∧∀x_10:Nat,Lf (x_10≤xs.length)→exI .i64 (x_10:Int) fun n_11=>exI
 .i64 (xs.length:Int) fun n_12=>bif decide (n_11<n_12) then exI .i64 (x_10:Int) fun n_13=>ckQ (decide (0≤n_13)&&Nat.blt n_13.toNat xs.length&&true) (ckQ (Nat.blt (n_13.toNat*1) (cellsI xs).length) (exV .i64 ((cellsI
 xs).getD (n_13.toNat*1) AV.undef) fun n_14=>exI .i64 (x_10:Int) fun n_15=>ckQ (decide (0≤n_15)&&Nat.blt n_15.toNat xs.length&&true) (ckQ (Nat.blt (n_15.toNat*1) (cellsI xs).length) (exV .i64 ((cellsI xs).getD (n_15.toNat *
 1) AV.undef) fun n_16=>bif n_14 !=n_16 then Q (.ret (.bool false)) [] {} else exI .i64 (x_10:Int) fun n_17=>exW .i64 (n_17+1) fun n_18=>(True∧(0:Nat)=(0:Nat))∧∃y_19:Nat,Lf (y_19≤xs.length)∧xs.length-y_19 <
 xs.length-x_10∧eqqQ [AV.str a,.str b,.str c,.lst t1 (cellsI xs) xs.length 1,.lst t2 (trM l) l.length 3,.int .i64 nx,.int .i64 rs,.int .i64 rt,.int .u64 (rk:Int)]∧eqqQ [AV.str a,.str b,.str c,.lst t3 (cellsI xs) xs.length
 1,.lst t4 (trM l) l.length 3,.int .i64 nx,.int .i64 rs,.int .i64 rt,.int .u64 (rk:Int)]∧eqqQ (AV.ptr 1 9 0)∧AV.int .i64 n_18=AV.int .i64 (y_19:Int)∧eqqQ (AV.ptr 0 9 0)∧True)))) else (∃x_13:Nat,Lf (x_13≤l.length) ∧
 eqqQ [AV.str a,.str b,.str c,.lst t1 (cellsI xs) xs.length 1,.lst t2 (trM l) l.length 3,.int .i64 nx,.int .i64 rs,.int .i64 rt,.int .u64 (rk:Int)]∧eqqQ [AV.str a,.str b,.str c,.lst t3 (cellsI xs) xs.length 1,.lst t4 (trM l)
 l.length 3,.int .i64 nx,.int .i64 rs,.int .i64 rt,.int .u64 (rk:Int)]∧eqqQ (AV.ptr 1 9 0)∧eqqQ (AV.ptr 0 9 0)∧AV.int .i64 0=AV.int .i64 (x_13:Int)∧True)∧∀x_13:Nat,Lf (x_13≤l.length)→exI .i64 (x_13:Int) fun
 n_14=>exI .i64 (l.length:Int) fun n_15=>bif decide (n_14<n_15) then exI .i64 (x_13:Int) fun n_16=>ckQ (decide (0≤n_16)&&Nat.blt n_16.toNat l.length&&true) (ckQ (Nat.ble (n_16.toNat*3+3) (trM l).length) (∃n_17 n_18
 n_19,AV.agg (((trM l).drop (n_16.toNat*3)).take 3)=AV.agg [.int .i64 n_17,.int .i64 n_18,.int .u64 n_19]∧exI .i64 (x_13:Int) fun n_20=>ckQ (decide (0≤n_20)&&Nat.blt n_20.toNat l.length&&true) (ckQ (Nat.ble (n_20.toNat *
 3+3) (trM l).length) (∃n_21 n_22 n_23,AV.agg (((trM l).drop (n_20.toNat*3)).take 3)=AV.agg [.int .i64 n_21,.int .i64 n_22,.int .u64 n_23]∧bif !(n_17==n_21&&(n_18==n_22&&(n_19==n_23&&true))) then Q (.ret (.bool
 false)) [] {} else exI .i64 (x_13:Int) fun n_24=>exW .i64 (n_24+1) fun n_25=>(True∧(0:Nat)=(0:Nat))∧∃y_26:Nat,Lf (y_26≤l.length)∧l.length-y_26<l.length-x_13∧eqqQ [AV.str a,.str b,.str c,.lst t1 (cellsI
 xs) xs.length 1,.lst t2 (trM l) l.length 3,.int .i64 nx,.int .i64 rs,.int .i64 rt,.int .u64 (rk:Int)]∧eqqQ [AV.str a,.str b,.str c,.lst t3 (cellsI xs) xs.length 1,.lst t4 (trM l) l.length 3,.int .i64 nx,.int .i64 rs,.int
 .i64 rt,.int .u64 (rk:Int)]∧eqqQ (AV.ptr 1 9 0)∧eqqQ (AV.ptr 0 9 0)∧AV.int .i64 n_25=AV.int .i64 (y_26:Int)∧True)))) else Q (.ret (.bool true)) [] {}):=by kernel_rfl

theorem same_run (t1 t2 t3 t4:Nat) (a b c:List UInt8) (xs:List Int) (l:List Tr) (nx rs rt:Int) (rk:Nat) (hx:xs.length≤9223372036854775807) (hl:l.length≤9223372036854775807) (Q:Out→List Blk→Gh→Prop) (hq:Q (.ret (.bool true)) [] {}):∃hv hb,goal_17 hv hb t1 t2 t3 t4 a b c xs l nx rs rt rk Q:=by
 obtain ⟨hv,hb',e⟩:∃hv hb,goal_17 hv hb t1 t2 t3 t4 a b c xs l nx rs rt rk Q=_:=⟨_,_,vc_17 t1 t2 t3 t4 a b c xs l nx rs rt rk Q⟩
 refine ⟨hv,hb',e.mpr ?_⟩
 clear e
 have hcl:=cellsI_len xs
 have hln:=tr_len l
 rw[eqB_rf5,eqB_rf5,eqB_rf5]
 refine splitNE (fun h=>absurd rfl h) (fun _=>⟨_,_,_,rfl,_,_,_,rfl, ?_⟩)
 rw[beq_self_eq_true,beq_self_eq_true,beq_self_eq_true]
 refine ⟨_,rfl,_,rfl,splitNE (fun h=>absurd rfl h) (fun _=>⟨_,rfl,_,rfl,splitNE (fun h=>absurd rfl h) (fun _=>⟨⟨0,⟨by omega⟩,rfl,rfl,rfl,rfl,rfl,trivial⟩, ?_⟩)⟩)⟩
 rintro i ⟨g1⟩
 refine ⟨_,rfl,_,rfl,splitD (fun h => ?_) (fun _=>⟨⟨0,⟨by omega⟩,rfl,rfl,rfl,rfl,rfl,trivial⟩, ?_⟩)⟩
 ·have hi:i<xs.length:=by omega
  exact ⟨_,rfl,ckI (by simp;omega) (ckI (by rw[hcl];simp;omega) (getI0 (i:=i) hi (by simp) ⟨_,rfl,ckI (by simp;omega) (ckI (by rw[hcl];simp;omega) (getI0 (i:=i) hi (by simp) (splitNE (fun h=>absurd rfl h) (fun _=>⟨_,rfl,wrapI (by omega) (by omega) ⟨⟨trivial,rfl⟩,i+1,⟨by omega⟩,by omega,rfl,rfl,rfl,rfl,rfl,trivial⟩⟩))))⟩))⟩
 ·rintro j ⟨g2⟩
  refine ⟨_,rfl,_,rfl,splitD (fun h => ?_) (fun _=>hq)⟩
  have hj:j<l.length:=by omega
  refine ⟨_,rfl,ckI (by simp;omega) (ckI (by rw[hln];simp;omega) ?_)⟩
  rw[show Int.toNat ((j:Nat):Int)=j from rfl,tr_get l j hj]
  refine ⟨_,_,_,rfl,_,rfl,ckI (by simp;omega) (ckI (by rw[hln];simp;omega) ?_)⟩
  rw[show Int.toNat ((j:Nat):Int)=j from rfl,tr_get l j hj]
  refine ⟨_,_,_,rfl, ?_⟩
  rw[beq_self_eq_true,beq_self_eq_true,beq_self_eq_true]
  exact ⟨_,rfl,wrapI (by omega) (by omega) ⟨⟨trivial,rfl⟩,j+1,⟨by omega⟩,by omega,rfl,rfl,rfl,rfl,rfl,trivial⟩⟩
def cSameS:Con
 | [.agg [.str a,.str b,.str c,.lst _ h n 1,.lst _ tr m 3,.int .i64 nx,.int .i64 rs,.int .i64 rt,.int .u64 u],.agg [.str a',.str b',.str c',.lst _ h' n' 1,.lst _ tr' m' 3,.int .i64 nx',.int .i64 rs',.int .i64 rt',.int .u64 u']],H,K=>∃ (xs:List Int) (l:List Tr) (rk:Nat),
  Lf (h=cellsI xs∧n=xs.length∧tr=trM l∧m=l.length∧u=(rk:Int)∧xs.length≤9223372036854775807∧l.length≤9223372036854775807∧a'=a∧b'=b∧c'=c∧h'=cellsI xs∧n'=xs.length∧tr'=trM l∧m'=l.length∧nx'=nx∧rs'=rs∧rt'=rt∧u'=(rk:Int))∧K (.ret (.bool true)) H
 | _,_,_=>False
theorem same_ok:ValidF Tryz.prog gl0 17 cSameS:=by
 refine valid_flat (enters_of (by kernel_rfl)) gl0_noY fun args H Q hc => ?_
 unfold cSameS at hc
 split at hc
 ·obtain ⟨xs,l,rk,⟨rfl,rfl,rfl,rfl,rfl,h1,h2,rfl,rfl,rfl,rfl,rfl,rfl,rfl,rfl,rfl,rfl,rfl⟩,hq⟩:=hc
  obtain ⟨hv,hb',h⟩:=same_run _ _ _ _ _ _ _ xs l _ _ _ rk h1 h2 (Q:=fun o H' _=>H'=[]∧(∃v,o=.ret v∧old 0 v=true∧noY v=true)∧Q o H) ⟨rfl,⟨_,rfl,rfl,rfl⟩,hq⟩
  exact ⟨by simp[oldL,old,flat_cI0,(flat_tr l).1],by simp[noYL,noY,(flat_cI xs).2,(flat_tr l).2],_,1000,envFor04 sm0_ok _ _ _,rfl,h⟩
 ·exact hc.elim
end Go.Proofs.YtnhechnaemmdiaaGreatDoor
