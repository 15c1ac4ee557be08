/-
  Chapter 25: whether a shield is valid (the reference's Right).
-/
import Derived.Test.YtnhechnaemmdiaaGreatDoorK25H
set_option linter.unusedSimpArgs false
set_option linter.unusedVariables false
set_option linter.unusedSectionVars false
namespace Go.Proofs.YtnhechnaemmdiaaGreatDoor
open Go.RowKit
set_option maxRecDepth 1000000

def inv_14a (l:List Tr) (s:S):List (List LInv):=[[
 { α:=Nat,pre:=fun i=>Lf (i≤l.length∧allTM l i=true),st:=fun i=>⟨mkT [(1,s.tm.get 1),(3,.int .i64 (i:Nat))],s.hp⟩,mu:=fun i=>l.length-i }]]
def inv_14b (l:List Tr) (s:S):List (List LInv):=match s.tm.get 3,s.hp with
 | .int _ i,[b0,⟨_,_,[.int _ c,.int _ t,.int _ u]⟩]=>[[
  { α:=Nat,pre:=fun k=>Lf ((k:Int)≤i∧k≤l.length∧hasM c l k=false),st:=fun k=>⟨mkT [(1,s.tm.get 1),(3,.int .i64 i),(4,s.tm.get 4),(5,.int .i64 (k:Nat))],[b0,⟨.exact,true,[.int .i64 c,.int .i64 t,.int .u64 u]⟩]⟩,mu:=fun k=>l.length-k }]]
 | _,_=>[]
def smRt:SM:=lookS [(56,cNames),(57,cWindow)]
theorem smRt_ok:∀f g,smRt f=some g→ValidF Tryz.prog gl0 f g:=lookS_ok _ (by simp only[List.mem_cons,List.not_mem_nil,or_false,forall_eq_or_imp,forall_eq];exact ⟨rnames_ok,rwindow_ok⟩)
noncomputable def env_14 (hv:Nat→Option Pa) (hb:Nat→Option Bool) (l:List Tr):Env:=e04 smRt (fun i=>bif Nat.beq i 14000 then some (inv_14a l) else bif Nat.beq i 14002 then some (inv_14b l) else none) hv hb
noncomputable def goal_14 (hv:Nat→Option Pa) (hb:Nat→Option Bool) (tg tg2:Nat) (a b c:List UInt8) (xs:List Int) (l:List Tr) (nx rs rt:Int) (rk:Nat) (Q:Out→List Blk→Gh→Prop):Prop:=
 callx (env_14 hv hb l) (wpx (env_14 hv hb l) 1000) 14 [.agg [.str a,.str b,.str c,.lst tg (cellsI xs) xs.length 1,.lst tg2 (trM l) l.length 3,.int .i64 nx,.int .i64 rs,.int .i64 rt,.int .u64 (rk:Nat)]] [] {} Q
theorem vc_14 (tg:Nat) (tg2:Nat) (a:List UInt8) (b:List UInt8) (c:List UInt8) (xs:List Int) (l:List Tr) (nx:Int) (rs:Int) (rt:Int) (rk:Nat) (Q:Out→List Blk→Gh→Prop):goal_14 (lookV [(57359,.int .i64),(57380,
 .agg [(.int .i64),(.int .i64),(.int .u64)]),(57384,.int .i64),(57387,.int .i64),(57393,.int .i64),(57395,.agg [.int .i64,.int .i64,.int .u64]),(57409,.int .i64),(57410,.int .i64),(57416,.int .i64),(57419,.int .i64),
 (57412,.int .i64),(57413,.int .i64),(57389,.int .i64),(57390,.int .i64)]) (lookB []) tg tg2 a b c xs l nx rs rt rk Q=(∃xs_0:List Int,Lf (cellsI xs=cellsI xs_0∧xs.length=xs_0.length∧xs_0.length≤9223372036854775807) ∧
 ∀r_1:Bool,Lf (r_1=namesM a b c xs_0)→bif r_1 then exI .i64 (l.length:Int) fun n_2=>bif decide (n_2>16) then Q (.ret (.bool false)) [] {} else bif decide (nx<0) then Q (.ret (.bool false)) [] {} else bif decide (nx >
 2147483648) then Q (.ret (.bool false)) [] {} else bif rs !=0 then Q (.ret (.bool false)) [] {} else ∃n_3 n_4 n_5,AV.agg [.int .i64 rs,.int .i64 rt,.int .u64 (rk:Int)]=AV.agg [.int .i64 n_3,.int .i64 n_4,.int .u64 n_5]∧∃s_6 :
 Nat,Lf (n_5=(s_6:Int)∧s_6<18446744073709551616∧(-9223372036854775808≤n_4∧n_4≤9223372036854775807) ∧ -1≤Int.negSucc 0)∧∀b_7:Bool,Lf (b_7=winM (Int.negSucc 0) 2147483647 n_4 s_6)→bif b_7 then (∃x_8:Nat,Lf
 (x_8≤l.length∧allTM l x_8=true)∧eqqQ [AV.str a,.str b,.str c,.lst tg (cellsI xs) xs.length 1,.lst tg2 (trM l) l.length 3,.int .i64 nx,.int .i64 rs,.int .i64 rt,.int .u64 (rk:Int)]∧eqqQ (AV.ptr 0 9 0)∧AV.int .i64 0 =
 AV.int .i64 (x_8:Int)∧True)∧∀x_8:Nat,Lf (x_8≤l.length∧allTM l x_8=true)→exI .i64 (x_8:Int) fun n_9=>exI .i64 (l.length:Int) fun n_10=>bif decide (n_9<n_10) then exI .i64 (x_8:Int) fun n_11=>ckQ (decide (0 ≤
 n_11)&&Nat.blt n_11.toNat l.length&&true) (ckQ (Nat.ble (n_11.toNat*3+3) (trM l).length) (∃n_12 n_13 n_14,AV.agg (((trM l).drop (n_11.toNat*3)).take 3)=AV.agg [.int .i64 n_12,.int .i64 n_13,.int .u64 n_14]∧bif decide
 (n_12<0) then Q (.ret (.bool false)) [] {} else bif decide (n_12≥4294967296) then Q (.ret (.bool false)) [] {} else ∃s_15:Nat,Lf (n_14=(s_15:Int)∧s_15<18446744073709551616∧(-9223372036854775808≤n_13∧n_13 ≤
 9223372036854775807) ∧ -(1:Int)≤(0:Int))∧∀b_16:Bool,Lf (b_16=winM 0 281474976710655 n_13 s_15)→bif b_16 then (∃x_17:Nat,Lf ((x_17:Int)≤(x_8:Int)∧x_17≤l.length∧hasM n_12 l x_17=false)∧eqqQ [AV.str a,.str
 b,.str c,.lst tg (cellsI xs) xs.length 1,.lst tg2 (trM l) l.length 3,.int .i64 nx,.int .i64 rs,.int .i64 rt,.int .u64 (rk:Int)]∧eqqQ [AV.int .i64 n_12,.int .i64 n_13,.int .u64 n_14]∧eqqQ (AV.ptr 0 9 0)∧eqqQ (AV.int .i64
 (x_8:Int))∧AV.int .i64 0=AV.int .i64 (x_17:Int)∧eqqQ (AV.ptr 1 3 0)∧True)∧∀x_17:Nat,Lf ((x_17:Int)≤(x_8:Int)∧x_17≤l.length∧hasM n_12 l x_17=false)→exI .i64 (x_17:Int) fun n_18=>exI .i64 (x_8:Int) fun
 n_19=>bif decide (n_18<n_19) then exI .i64 (x_17:Int) fun n_20=>ckQ (decide (0≤n_20)&&Nat.blt n_20.toNat l.length&&true) (ckQ (Nat.blt (n_20.toNat*3+0) (trM l).length) (exV .i64 ((trM l).getD (n_20.toNat*3+0)
 AV.undef) fun n_21=>bif n_21==n_12 then Q (.ret (.bool false)) [] {} else exI .i64 (x_17:Int) fun n_22=>exW .i64 (n_22+1) fun n_23=>(True∧(0:Nat)=(0:Nat))∧∃y_24:Nat,Lf ((y_24:Int)≤(x_8:Int)∧y_24≤l.length
 ∧ hasM n_12 l y_24=false)∧l.length-y_24<l.length-x_17∧eqqQ [AV.str a,.str b,.str c,.lst tg (cellsI xs) xs.length 1,.lst tg2 (trM l) l.length 3,.int .i64 nx,.int .i64 rs,.int .i64 rt,.int .u64 (rk:Int)]∧eqqQ [AV.int
 .i64 n_12,.int .i64 n_13,.int .u64 n_14]∧eqqQ (AV.ptr 0 9 0)∧eqqQ (AV.int .i64 (x_8:Int))∧AV.int .i64 n_23=AV.int .i64 (y_24:Int)∧eqqQ (AV.ptr 1 3 0)∧True)) else exI .i64 (x_8:Int) fun n_20=>exW .i64 (n_20+1) fun
 n_21=>(True∧(0:Nat)=(0:Nat))∧∃y_22:Nat,Lf (y_22≤l.length∧allTM l y_22=true)∧l.length-y_22<l.length-x_8∧eqqQ [AV.str a,.str b,.str c,.lst tg (cellsI xs) xs.length 1,.lst tg2 (trM l) l.length 3,.int .i64
 nx,.int .i64 rs,.int .i64 rt,.int .u64 (rk:Int)]∧eqqQ (AV.ptr 0 9 0)∧AV.int .i64 n_21=AV.int .i64 (y_22:Int)∧True else Q (.ret (.bool false)) [] {})) else Q (.ret (.bool true)) [] {} else Q (.ret (.bool false)) [] {} else Q
 (.ret (.bool false)) [] {}):=by kernel_rfl

theorem tr_getD:∀ (l:List Tr) (i:Nat) (h:i<l.length),List.getD (trM l) (i*3+0) AV.undef=.int .i64 l[i].1
 | [],i,h=>by simp at h
 | t::l,0,_=>rfl
 | t::l,i+1,h=>by
  rw[show (i+1)*3+0=(i*3+0)+1+1+1 by omega]
  exact tr_getD l i (by simpa using h)
theorem right_run (tg tg2:Nat) (a b c:List UInt8) (xs:List Int) (l:List Tr) (nx rs rt:Int) (rk:Nat) (hx:xs.length≤9223372036854775807) (hll:l.length≤9223372036854775807) (hl:trOk l) (hrt : -9223372036854775808≤rt∧rt≤9223372036854775807) (hrk:rk<18446744073709551616) (Q:Out→List Blk→Gh→Prop)
  (hq:Q (.ret (.bool (rightSM a b c xs l nx rs rt rk))) [] {}):∃hv hb,goal_14 hv hb tg tg2 a b c xs l nx rs rt rk Q:=by
 obtain ⟨hv,hb',e⟩:∃hv hb,goal_14 hv hb tg tg2 a b c xs l nx rs rt rk Q=_:=⟨_,_,vc_14 tg tg2 a b c xs l nx rs rt rk Q⟩
 refine ⟨hv,hb',e.mpr ?_⟩
 clear e
 have yes:rightSM a b c xs l nx rs rt rk=true→Q (.ret (.bool true)) [] {}:=fun h=>by rwa [h] at hq
 have no:rightSM a b c xs l nx rs rt rk=false→Q (.ret (.bool false)) [] {}:=fun h=>by rwa [h] at hq
 have hln:=tr_len l
 have nh:headSM a b c xs nx rs rt rk l.length=false→Q (.ret (.bool false)) [] {}:=fun h=>no (by rw[rightSM,h];rfl)
 refine ⟨xs,⟨rfl,rfl,hx⟩, ?_⟩
 rintro r ⟨rfl⟩
 cases h1:namesM a b c xs
 ·exact nh (by rw[headSM,h1];rfl)
 rw[cond_true]
 refine ⟨_,rfl,splitD (fun h=>nh (by rw[headSM,show Nat.ble l.length 16=false from Bool.eq_false_iff.2 (by rw[ne_eq,Nat.ble_eq];omega),Bool.and_false])) (fun h2=>splitD (fun h=>nh (by rw[headSM,decide_eq_false (by omega:¬ 0≤nx),Bool.false_and,Bool.and_false];rfl)) (fun h3=>splitD (fun h=>nh (by rw[headSM,decide_eq_false (by omega:¬ nx≤2147483648),Bool.and_false,Bool.and_false];rfl)) (fun h4=>splitNE (fun h=>nh (by rw[headSM,decide_eq_false h,Bool.and_false];rfl)) (fun h5 => ?_))))⟩
 refine ⟨_,_,_,rfl,rk,⟨rfl,hrk,hrt,by decide⟩, ?_⟩
 rintro w ⟨rfl⟩
 cases h6:winM (Int.negSucc 0) 2147483647 rt rk
 ·exact nh (by rw[headSM,show (-1:Int)=Int.negSucc 0 from rfl,h6,Bool.and_false];rfl)
 rw[cond_true]
 have hd:headSM a b c xs nx rs rt rk l.length=true:=by
  rw[headSM,h1,decide_eq_true (by omega:0≤nx),decide_eq_true (by omega:nx≤2147483648),decide_eq_true h5,show (-1:Int)=Int.negSucc 0 from rfl,h6,show Nat.ble l.length 16=true from by rw[Nat.ble_eq];omega];rfl
 refine ⟨⟨0,⟨by omega,rfl⟩,rfl,rfl,rfl,trivial⟩, ?_⟩
 rintro i ⟨g1,g2⟩
 refine ⟨_,rfl,_,rfl,splitD (fun g3 => ?_) (fun g3 => ?_)⟩
 ·have hi:i<l.length:=by omega
  refine ⟨_,rfl,ckI (by simp;omega) (ckI (by rw[hln];simp;omega) ?_)⟩
  rw[show Int.toNat ((i:Nat):Int)=i from rfl,tr_get l i hi]
  obtain ⟨k1,k2⟩:=hl l[i] (List.getElem_mem hi)
  have ho:oneTM l i=((decide (0≤l[i].1)&&decide (l[i].1≤4294967295))&&winM 0 281474976710655 l[i].2.1 l[i].2.2 && !hasM l[i].1 l i):=by rw[oneTM,List.getElem?_eq_getElem hi]
  have bad:oneTM l i=false→Q (.ret (.bool false)) [] {}:=fun h=>no (by rw[rightSM,all_le (i:=i+1) (by omega) (by rw[allTM,h,Bool.and_false]),Bool.and_false])
  refine ⟨_,_,_,rfl,splitD (fun h=>bad (by rw[ho,decide_eq_false (by omega:¬ 0≤l[i].1)];rfl)) (fun h7=>splitD (fun h=>bad (by rw[ho,decide_eq_false (by omega:¬ l[i].1≤4294967295),Bool.and_false];rfl)) (fun h8 => ?_))⟩
  have h78:(decide (0≤l[i].1)&&decide (l[i].1≤4294967295))=true:=by rw[decide_eq_true (by omega:0≤l[i].1),decide_eq_true (by omega:l[i].1≤4294967295)];rfl
  refine ⟨l[i].2.2,⟨rfl,k2,k1,by decide⟩, ?_⟩
  rintro w ⟨rfl⟩
  cases h9:winM 0 281474976710655 l[i].2.1 l[i].2.2
  ·exact bad (by rw[ho,h9,Bool.and_false];rfl)
  rw[cond_true]
  refine ⟨⟨0,⟨by omega,by omega,rfl⟩,rfl,rfl,rfl,rfl,rfl,rfl,trivial⟩, ?_⟩
  rintro k ⟨f1,f2,f3⟩
  refine ⟨_,rfl,_,rfl,splitD (fun f4 => ?_) (fun f4 => ?_)⟩
  ·have hk:k<l.length:=by omega
   refine ⟨_,rfl,ckI (by simp;omega) (ckI (by rw[hln];simp;omega) ?_)⟩
   rw[show Int.toNat ((k:Nat):Int)=k from rfl,tr_getD l k hk]
   refine ⟨_,rfl,splitE (fun h => ?_) (fun h => ?_)⟩
   ·have:hasM l[i].1 l i=true:=has_le (i:=k+1) (by omega) (by rw[has_succ hk,decide_eq_true h,Bool.or_true])
    exact bad (by rw[ho,this,Bool.not_true,Bool.and_false])
   ·exact ⟨_,rfl,wrapI (by omega) (by omega) ⟨⟨trivial,rfl⟩,k+1,⟨by omega,by omega,by rw[has_succ hk,f3,decide_eq_false h];rfl⟩,by omega,rfl,rfl,rfl,rfl,rfl,rfl,trivial⟩⟩
  ·obtain rfl:k=i:=by omega
   exact ⟨_,rfl,wrapI (by omega) (by omega) ⟨⟨trivial,rfl⟩,k+1,⟨by omega,by rw[allTM,g2,ho,h78,h9,f3];rfl⟩,by omega,rfl,rfl,rfl,trivial⟩⟩
 ·obtain rfl:i=l.length:=by omega
  exact yes (by rw[rightSM,hd,g2];rfl)
def cRight:Con
 | [.agg [.str a,.str b,.str c,.lst _ h n 1,.lst _ tr m 3,.int .i64 nx,.int .i64 rs,.int .i64 rt,.int .u64 u]],H,K=>∃ (xs:List Int) (l:List Tr) (rk:Nat),
  Lf (h=cellsI xs∧n=xs.length∧tr=trM l∧m=l.length∧u=(rk:Int)∧xs.length≤9223372036854775807∧l.length≤9223372036854775807∧trOk l∧(-9223372036854775808≤rt∧rt≤9223372036854775807)∧rk<18446744073709551616)∧∀r:Bool,Lf (r=rightSM a b c xs l nx rs rt rk)→K (.ret (.bool r)) H
 | _,_,_=>False
theorem right_ok:ValidF Tryz.prog gl0 14 cRight:=by
 refine valid_flat (enters_of (by kernel_rfl)) gl0_noY fun args H Q hc => ?_
 unfold cRight at hc
 split at hc
 ·rename_i a b c tg h n tg2 tr m nx rs rt u
  obtain ⟨xs,l,rk,⟨rfl,rfl,rfl,rfl,rfl,h1,h1',h2,h3,h4⟩,hq⟩:=hc
  obtain ⟨hv,hb',h⟩:=right_run tg tg2 a b c xs l nx rs rt rk h1 h1' h2 h3 h4 (Q:=fun o H' _=>H'=[]∧(∃v,o=.ret v∧old 0 v=true∧noY v=true)∧Q o H) ⟨rfl,⟨_,rfl,rfl,rfl⟩,hq _ ⟨rfl⟩⟩
  exact ⟨by simp[oldL,old,flat_cI0,(flat_tr l).1],by simp[noYL,noY,(flat_cI xs).2,(flat_tr l).2],_,1000,envFor04 smRt_ok _ _ _,rfl,h⟩
 ·exact hc.elim
end Go.Proofs.YtnhechnaemmdiaaGreatDoor
