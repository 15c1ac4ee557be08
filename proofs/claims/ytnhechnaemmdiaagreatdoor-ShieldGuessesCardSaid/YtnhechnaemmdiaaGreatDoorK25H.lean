/-
  Chapter 25: whether a shield is valid (Check).
-/
import Derived.Test.YtnhechnaemmdiaaGreatDoorK25G
set_option linter.unusedSimpArgs false
set_option linter.unusedVariables false
set_option linter.unusedSectionVars false
namespace Go.Proofs.YtnhechnaemmdiaaGreatDoor
open Go.RowKit
set_option maxRecDepth 1000000

def headSM (a b c:List UInt8) (xs:List Int) (nx rs rt:Int) (rk n:Nat):Bool:=namesM a b c xs&&(decide (0≤nx)&&decide (nx≤2147483648))&&decide (rs=0)&&winM (-1) 2147483647 rt rk&&Nat.ble n 16
def oneTM (l:List Tr) (i:Nat):Bool:=match l[i]? with
 | some t=>(decide (0≤t.1)&&decide (t.1≤4294967295))&&winM 0 281474976710655 t.2.1 t.2.2 && !hasM t.1 l i
 | none=>true
def allTM (l:List Tr):Nat→Bool
 | 0=>true
 | i+1=>allTM l i&&oneTM l i
def rightSM (a b c:List UInt8) (xs:List Int) (l:List Tr) (nx rs rt:Int) (rk:Nat):Bool:=headSM a b c xs nx rs rt rk l.length&&allTM l l.length
def inv_13 (hd:Bool) (l:List Tr) (s:S):List (List LInv):=[[
 { α:=Nat,pre:=fun i=>Lf (i≤l.length∧allTM l i=true∧(hd=true∨i=0)),st:=fun i=>⟨mkT [(1,s.tm.get 1),(3,s.tm.get 3),(35,s.tm.get 35),(36,s.tm.get 36),(37,.int .i64 (i:Nat))],s.hp⟩,mu:=fun i=>l.length-i }]]
def smCk:SM:=lookS [(51,cNames),(52,cWithin),(53,cWindow),(55,cHas)]
theorem smCk_ok:∀f g,smCk f=some g→ValidF Tryz.prog gl0 f g:=lookS_ok _ (by simp only[List.mem_cons,List.not_mem_nil,or_false,forall_eq_or_imp,forall_eq];exact ⟨names_ok,within_ok,window_ok,has55_ok⟩)
noncomputable def env_13 (hv:Nat→Option Pa) (hb:Nat→Option Bool) (hd:Bool) (l:List Tr):Env:=e04 smCk (fun i=>bif Nat.beq i 13000 then some (inv_13 hd l) else none) hv hb
noncomputable def goal_13 (hv:Nat→Option Pa) (hb:Nat→Option Bool) (tg tg2:Nat) (a b c:List UInt8) (xs:List Int) (l:List Tr) (nx rs rt:Int) (rk:Nat) (Q:Out→List Blk→Gh→Prop):Prop:=
 callx (env_13 hv hb (headSM a b c xs nx rs rt rk l.length) l) (wpx (env_13 hv hb (headSM a b c xs nx rs rt rk l.length) l) 1000) 13 [.agg [.str a,.str b,.str c,.lst tg (cellsI xs) xs.length 1,.lst tg2 (trM l) l.length 3,.int .i64 nx,.int .i64 rs,.int .i64 rt,.int .u64 (rk:Nat)]] [] {} Q
def vc_13_1 (tg:Nat) (tg2:Nat) (a:List UInt8) (b:List UInt8) (c:List UInt8) (xs:List Int) (l:List Tr) (nx:Int) (rs:Int) (rt:Int) (rk:Nat) (Q:Out→List Blk→Gh→Prop):Prop:=
exI .i64 (l.length:Int) fun n_0=>(∃x_1:Nat,Lf (x_1≤l.length∧allTM l x_1=true∧(headSM a b c xs nx rs rt rk l.length=true∨x_1=0))∧eqqQ [AV.str a,.str b,.str c,.lst tg (cellsI xs) xs.length 1,.lst tg2 (trM l)
 l.length 3,.int .i64 nx,.int .i64 rs,.int .i64 rt,.int .u64 (rk:Int)]∧eqqQ (AV.ptr 0 9 0)∧eqqQ (AV.bool false)∧eqqQ (AV.lst tg2 (trM l) l.length 3)∧AV.int .i64 0=AV.int .i64 (x_1:Int)∧eqqQ (AV.int .i64 n_0)∧True)∧∀
 x_1:Nat,Lf (x_1≤l.length∧allTM l x_1=true∧(headSM a b c xs nx rs rt rk l.length=true∨x_1=0))→bif decide ((x_1:Int)<n_0) then exI .i64 (x_1:Int) fun n_2=>ckQ (Nat.blt (x_1:Int).toNat l.length&&true) (ckQ
 (Nat.ble ((x_1:Int).toNat*3+3) (trM l).length) (∃n_3 n_4 n_5,AV.agg (((trM l).drop ((x_1:Int).toNat*3)).take 3)=AV.agg [.int .i64 n_3,.int .i64 n_4,.int .u64 n_5]∧Q (.ret (.int .i64 250)) [] {})) else Q (.ret (.int .i64
 250)) [] {}
theorem vc_13 (tg:Nat) (tg2:Nat) (a:List UInt8) (b:List UInt8) (c:List UInt8) (xs:List Int) (l:List Tr) (nx:Int) (rs:Int) (rt:Int) (rk:Nat) (Q:Out→List Blk→Gh→Prop):goal_13 (lookV [(53273,.agg [(.int .i64),
 (.int .i64),(.int .u64)]),(53279,.int .i64),(53284,.int .i64),(53287,.int .i64),(53289,.agg [.int .i64,.int .i64,.int .u64]),(53312,.int .i64)]) (lookB []) tg tg2 a b c xs l nx rs rt rk Q=(∃xs_0:List Int,Lf (cellsI xs =
 cellsI xs_0∧xs.length=xs_0.length∧xs_0.length≤9223372036854775807)∧∀r_1:Bool,Lf (r_1=namesM a b c xs_0)→bif r_1 then bif decide (0≤nx)&&decide (nx≤2147483648) then bif rs==0 then ∃n_2 n_3 n_4,AV.agg [.int .i64
 rs,.int .i64 rt,.int .u64 (rk:Int)]=AV.agg [.int .i64 n_2,.int .i64 n_3,.int .u64 n_4]∧∃s_5:Nat,Lf (n_4=(s_5:Int)∧s_5<18446744073709551616∧(-9223372036854775808≤n_3∧n_3≤9223372036854775807) ∧ -1≤Int.negSucc
 0)∧∀b_6:Bool,Lf (b_6=winM (Int.negSucc 0) 2147483647 n_3 s_5)→bif b_6 then exI .i64 (l.length:Int) fun n_7=>bif decide (n_7≤16) then exI .i64 (l.length:Int) fun n_8=>(∃x_9:Nat,Lf (x_9≤l.length∧allTM l x_9=true
 ∧ (headSM a b c xs nx rs rt rk l.length=true∨x_9=0))∧eqqQ [AV.str a,.str b,.str c,.lst tg (cellsI xs) xs.length 1,.lst tg2 (trM l) l.length 3,.int .i64 nx,.int .i64 rs,.int .i64 rt,.int .u64 (rk:Int)]∧eqqQ (AV.ptr 0 9
 0)∧eqqQ (AV.bool true)∧eqqQ (AV.lst tg2 (trM l) l.length 3)∧AV.int .i64 0=AV.int .i64 (x_9:Int)∧eqqQ (AV.int .i64 n_8)∧True)∧∀x_9:Nat,Lf (x_9≤l.length∧allTM l x_9=true∧(headSM a b c xs nx rs rt rk l.length =
 true∨x_9=0))→bif decide ((x_9:Int)<n_8) then exI .i64 (x_9:Int) fun n_10=>ckQ (Nat.blt (x_9:Int).toNat l.length&&true) (ckQ (Nat.ble ((x_9:Int).toNat*3+3) (trM l).length) (∃n_11 n_12 n_13,AV.agg (((trM l).drop
 ((x_9:Int).toNat*3)).take 3)=AV.agg [.int .i64 n_11,.int .i64 n_12,.int .u64 n_13]∧bif decide (0≤n_11)&&decide (n_11≤4294967295) then ∃s_14:Nat,Lf (n_13=(s_14:Int)∧s_14<18446744073709551616 ∧
 (-9223372036854775808≤n_12∧n_12≤9223372036854775807) ∧ -(1:Int)≤(0:Int))∧∀b_15:Bool,Lf (b_15=winM 0 281474976710655 n_12 s_14)→bif b_15 then ckQ (decide (0≤n_10)&&true&&Nat.ble n_10.toNat l.length&&true) (∃
 ts_16:List Tr,∃s_17:Nat,Lf (Nat.blt 1 (List.length [Blk.mk BK.exact true [.str a,.str b,.str c,.lst tg (cellsI xs) xs.length 1,.lst tg2 (trM l) l.length 3,.int .i64 nx,.int .i64 rs,.int .i64 rt,.int .u64 (rk:Int)],Blk.mk
 BK.exact true [.int .i64 n_11,.int .i64 n_12,.int .u64 n_13]])=true∧n_13=(s_17:Int)∧((trM l).drop 0).take ((n_10.toNat-0)*3)=trM ts_16∧n_10.toNat-0=ts_16.length∧ts_16.length≤1000)∧∀b_18:Bool,Lf (b_18 =
 hasM n_11 ts_16 ts_16.length)→bif b_18 then Q (.ret (.int .i64 250)) [] {} else exW .i64 ((x_9:Int)+1) fun n_19=>(True∧(0:Nat)=(0:Nat))∧∃y_20:Nat,Lf (y_20≤l.length∧allTM l y_20=true∧(headSM a b c xs nx rs rt
 rk l.length=true∨y_20=0))∧l.length-y_20<l.length-x_9∧eqqQ [AV.str a,.str b,.str c,.lst tg (cellsI xs) xs.length 1,.lst tg2 (trM l) l.length 3,.int .i64 nx,.int .i64 rs,.int .i64 rt,.int .u64 (rk:Int)]∧eqqQ
 (AV.ptr 0 9 0)∧eqqQ (AV.bool true)∧eqqQ (AV.lst tg2 (trM l) l.length 3)∧AV.int .i64 n_19=AV.int .i64 (y_20:Int)∧eqqQ (AV.int .i64 n_8)∧True) else Q (.ret (.int .i64 250)) [] {} else Q (.ret (.int .i64 250)) [] {})) else Q
 (.ret (.int .i64 0)) [] {} else vc_13_1 tg tg2 a b c xs l nx rs rt rk Q else vc_13_1 tg tg2 a b c xs l nx rs rt rk Q else vc_13_1 tg tg2 a b c xs l nx rs rt rk Q else vc_13_1 tg tg2 a b c xs l nx rs rt rk Q else vc_13_1 tg tg2 a b c xs l
 nx rs rt rk Q):=by kernel_rfl

def trOk (l:List Tr):Prop:=∀t∈l,(-9223372036854775808≤t.2.1∧t.2.1≤9223372036854775807)∧t.2.2<18446744073709551616
theorem tr_take:∀ (l:List Tr) (i:Nat),List.take (i*3) (trM l)=trM (l.take i)
 | l,0=>by simp[trM]
 | [],i+1=>by simp[trM]
 | t::l,i+1=>by
  rw[show (i+1)*3=i*3+3 by omega,List.take_succ_cons,trM,trM,←tr_take l i]
  rfl
theorem all_le {l:List Tr} {i n:Nat} (h:i≤n) (hi:allTM l i=false):allTM l n=false:=by
 induction n with
 | zero=>
  obtain rfl:i=0:=by omega
  exact hi
 | succ n ih=>
  by_cases e:i=n+1
  ·rw[←e];exact hi
  ·rw[allTM,ih (by omega)];rfl
theorem has_take (c:Int) (l:List Tr) (i:Nat) (h:i≤l.length):hasM c (l.take i) (l.take i).length=hasM c l i:=by
 unfold hasM
 rw[List.take_length]
theorem check_run (tg tg2:Nat) (a b c:List UInt8) (xs:List Int) (l:List Tr) (nx rs rt:Int) (rk:Nat) (hx:xs.length≤9223372036854775807) (hl:trOk l) (hrt : -9223372036854775808≤rt∧rt≤9223372036854775807) (hrk:rk<18446744073709551616) (Q:Out→List Blk→Gh→Prop)
  (hq:Q (.ret (.int .i64 (if rightSM a b c xs l nx rs rt rk=true then 0 else 250))) [] {}):∃hv hb,goal_13 hv hb tg tg2 a b c xs l nx rs rt rk Q:=by
 obtain ⟨hv,hb',e⟩:∃hv hb,goal_13 hv hb tg tg2 a b c xs l nx rs rt rk Q=_:=⟨_,_,vc_13 tg tg2 a b c xs l nx rs rt rk Q⟩
 refine ⟨hv,hb',e.mpr ?_⟩
 clear e
 have yes:rightSM a b c xs l nx rs rt rk=true→Q (.ret (.int .i64 0)) [] {}:=fun h=>by rwa [if_pos h] at hq
 have no:rightSM a b c xs l nx rs rt rk=false→Q (.ret (.int .i64 250)) [] {}:=fun h=>by rwa [if_neg (by rw[h];decide)] at hq
 have hln:=tr_len l
 have one:headSM a b c xs nx rs rt rk l.length=false→vc_13_1 tg tg2 a b c xs l nx rs rt rk Q:=fun h=>by
  have bad:=no (by rw[rightSM,h];rfl)
  unfold vc_13_1
  refine ⟨_,rfl,⟨0,⟨by omega,rfl,.inr rfl⟩,rfl,rfl,rfl,rfl,rfl,rfl,trivial⟩, ?_⟩
  rintro i ⟨g1,g2,g3⟩
  refine splitD (fun h3=>⟨_,rfl,ckI (by simp;omega) (ckI (by rw[hln];simp;omega) ?_)⟩) (fun _=>bad)
  rw[show Int.toNat ((i:Nat):Int)=i from rfl,tr_get l i (by omega)]
  exact ⟨_,_,_,rfl,bad⟩
 refine ⟨xs,⟨rfl,rfl,hx⟩, ?_⟩
 rintro r ⟨rfl⟩
 cases h1:namesM a b c xs
 ·exact one (by rw[headSM,h1];rfl)
 rw[cond_true]
 cases h2:decide (0≤nx)&&decide (nx≤2147483648)
 ·exact one (by rw[headSM,h1,h2];rfl)
 rw[cond_true]
 refine splitE (fun h3 => ?_) (fun h3=>one (by rw[headSM,h1,h2,decide_eq_false h3];rfl))
 refine ⟨_,_,_,rfl,rk,⟨rfl,hrk,hrt,by decide⟩, ?_⟩
 rintro w ⟨rfl⟩
 cases h4:winM (Int.negSucc 0) 2147483647 rt rk
 ·exact one (by rw[headSM,h1,h2,decide_eq_true h3,show (-1:Int)=Int.negSucc 0 from rfl,h4];rfl)
 rw[cond_true]
 refine ⟨_,rfl,splitD (fun h5 => ?_) (fun h5=>one (by
  rw[headSM,show Nat.ble l.length 16=false from Bool.eq_false_iff.2 (by rw[ne_eq,Nat.ble_eq];omega),Bool.and_false]))⟩
 have hd:headSM a b c xs nx rs rt rk l.length=true:=by
  rw[headSM,h1,h2,decide_eq_true h3,show (-1:Int)=Int.negSucc 0 from rfl,h4,show Nat.ble l.length 16=true from by rw[Nat.ble_eq];omega];rfl
 refine ⟨_,rfl,⟨0,⟨by omega,rfl,.inr rfl⟩,rfl,rfl,rfl,rfl,rfl,rfl,trivial⟩, ?_⟩
 rintro i ⟨g1,g2,g3⟩
 refine splitD (fun h6 => ?_) (fun h6 => ?_)
 ·have hi:i<l.length:=by omega
  refine ⟨_,rfl,ckI (by simp;omega) (ckI (by rw[hln];simp;omega) ?_)⟩
  rw[show Int.toNat ((i:Nat):Int)=i from rfl,tr_get l i hi]
  obtain ⟨k1,k2⟩:=hl l[i] (List.getElem_mem hi)
  have ho:oneTM l i=((decide (0≤l[i].1)&&decide (l[i].1≤4294967295))&&winM 0 281474976710655 l[i].2.1 l[i].2.2 && !hasM l[i].1 l i):=by rw[oneTM,List.getElem?_eq_getElem hi]
  have bad:oneTM l i=false→Q (.ret (.int .i64 250)) [] {}:=fun h=>no (by rw[rightSM,all_le (i:=i+1) (by omega) (by rw[allTM,h,Bool.and_false]),Bool.and_false])
  refine ⟨_,_,_,rfl, ?_⟩
  cases h7:decide (0≤l[i].1)&&decide (l[i].1≤4294967295)
  ·exact bad (by rw[ho,h7];rfl)
  rw[cond_true]
  refine ⟨l[i].2.2,⟨rfl,k2,k1,by decide⟩, ?_⟩
  rintro w ⟨rfl⟩
  cases h8:winM 0 281474976710655 l[i].2.1 l[i].2.2
  ·exact bad (by rw[ho,h7,h8];rfl)
  rw[cond_true]
  refine ckI (by simp;omega) ⟨l.take i,l[i].2.2,⟨by simp[Nat.blt],rfl, ?_,by simp;omega,by simp;omega⟩, ?_⟩
  ·rw[Nat.sub_zero,List.drop_zero];exact tr_take l i
  rintro w ⟨rfl⟩
  rw[has_take _ l i (by omega)]
  cases h9:hasM l[i].1 l i
  ·rw[cond_false]
   exact wrapI (by omega) (by omega) ⟨⟨trivial,rfl⟩,i+1,⟨by omega,by rw[allTM,g2,ho,h7,h8,h9];rfl,.inl hd⟩,by omega,rfl,rfl,rfl,rfl,rfl,rfl,trivial⟩
  ·exact bad (by rw[ho,h7,h8,h9];rfl)
 ·obtain rfl:i=l.length:=by omega
  exact yes (by rw[rightSM,hd,g2];rfl)
theorem flat_cI0 (xs:List Int):oldL 0 (cellsI xs)=true:=by
 unfold cellsI
 induction xs with
 | nil=>rfl
 | cons x xs ih=>simp[oldL,old,ih]
def cCheck:Con
 | [.agg [.str a,.str b,.str c,.lst _ h n 1,.lst _ tr m 3,.int .i64 nx,.int .i64 rs,.int .i64 rt,.int .u64 u]],H,K=>∃ (xs:List Int) (l:List Tr) (rk:Nat),
  Lf (h=cellsI xs∧n=xs.length∧tr=trM l∧m=l.length∧u=(rk:Int)∧xs.length≤9223372036854775807∧trOk l∧(-9223372036854775808≤rt∧rt≤9223372036854775807)∧rk<18446744073709551616)∧∀e:Int,Lf (e=if rightSM a b c xs l nx rs rt rk=true then 0 else 250)→K (.ret (.int .i64 e)) H
 | _,_,_=>False
theorem check_ok:ValidF Tryz.prog gl0 13 cCheck:=by
 refine valid_flat (enters_of (by kernel_rfl)) gl0_noY fun args H Q hc => ?_
 unfold cCheck at hc
 split at hc
 ·rename_i a b c tg h n tg2 tr m nx rs rt u
  obtain ⟨xs,l,rk,⟨rfl,rfl,rfl,rfl,rfl,h1,h2,h3,h4⟩,hq⟩:=hc
  obtain ⟨hv,hb',h⟩:=check_run tg tg2 a b c xs l nx rs rt rk h1 h2 h3 h4 (Q:=fun o H' _=>H'=[]∧(∃v,o=.ret v∧old 0 v=true∧noY v=true)∧Q o H) ⟨rfl,⟨_,rfl,rfl,rfl⟩,hq _ ⟨rfl⟩⟩
  exact ⟨by simp[oldL,old,flat_cI0,(flat_tr l).1],by simp[noYL,noY,(flat_cI xs).2,(flat_tr l).2],_,1000,envFor04 smCk_ok _ _ _,rfl,h⟩
 ·exact hc.elim
end Go.Proofs.YtnhechnaemmdiaaGreatDoor
