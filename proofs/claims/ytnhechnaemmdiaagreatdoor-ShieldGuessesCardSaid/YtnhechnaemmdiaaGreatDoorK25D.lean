/-
  Chapter 25: windows.
-/
import Derived.Test.YtnhechnaemmdiaaGreatDoorK25SA
set_option linter.unusedSimpArgs false
set_option linter.unusedVariables false
set_option linter.unusedSectionVars false
namespace Go.Proofs.YtnhechnaemmdiaaGreatDoor
open Go.RowKit
set_option maxRecDepth 1000000

def winM (lo hi t:Int) (s:Nat):Bool:=decide (lo≤t)&&decide (t≤hi)&&(if t<0 then Nat.beq s 0 else Nat.beq (s%2) 1&&(decide (62<t)||Nat.beq (s/2^(t.toNat+1)) 0))
noncomputable def goal_52 (hv:Nat→Option Pa) (hb:Nat→Option Bool) (lo hi n:Int) (Q:Out→List Blk→Gh→Prop):Prop:=
 callx (e04 sm0 (fun _=>none) hv hb) (wpx (e04 sm0 (fun _=>none) hv hb) 1000) 52 [.int .i64 lo,.int .i64 hi,.int .i64 n] [] {} Q
theorem vc_52 (lo:Int) (hi:Int) (n:Int) (Q:Out→List Blk→Gh→Prop):goal_52 (lookV []) (lookB []) lo hi n Q=(
(bif (decide (n≥lo)) then (bif (decide (n≤hi)) then (Q (Out.ret (AV.bool true)) [] (Gh.mk (0:Nat) (0:Nat) []))
else (Q (Out.ret (AV.bool false)) [] (Gh.mk (0:Nat) (0:Nat) [])))
else (Q (Out.ret (AV.bool false)) [] (Gh.mk (0:Nat) (0:Nat) [])))):=by kernel_rfl

def cWithin:Con
 | [.int .i64 lo,.int .i64 hi,.int .i64 n],H,K=>K (.ret (.bool (decide (lo≤n)&&decide (n≤hi)))) H
 | _,_,_=>False
theorem within_run (lo hi n:Int) (Q:Out→List Blk→Gh→Prop) (hq:Q (.ret (.bool (decide (lo≤n)&&decide (n≤hi)))) [] {}):∃hv hb,goal_52 hv hb lo hi n Q:=by
 obtain ⟨hv,hb',e⟩:∃hv hb,goal_52 hv hb lo hi n Q=_:=⟨_,_,vc_52 lo hi n Q⟩
 refine ⟨hv,hb',e.mpr ?_⟩
 clear e
 refine splitD (fun h1=>splitD (fun h2 => ?_) (fun h2 => ?_)) (fun h1 => ?_)
 ·rwa [decide_eq_true h1,decide_eq_true h2] at hq
 ·rwa [decide_eq_false h2,Bool.and_false] at hq
 ·rwa [decide_eq_false h1,Bool.false_and] at hq
theorem within_ok:ValidF Tryz.prog gl0 52 cWithin:=by
 refine valid_flat (enters_of (by kernel_rfl)) gl0_noY fun args H Q hc => ?_
 unfold cWithin at hc
 split at hc
 ·rename_i lo hi n
  obtain ⟨hv,hb',h⟩:=within_run lo hi n (Q:=fun o H' _=>H'=[]∧(∃v,o=.ret v∧old 0 v=true∧noY v=true)∧Q o H) ⟨rfl,⟨_,rfl,rfl,rfl⟩,hc⟩
  exact ⟨rfl,rfl,_,1000,envFor04 sm0_ok _ _ _,rfl,h⟩
 ·exact hc.elim
def smI:SM:=lookS [(52,cWithin)]
theorem smI_ok:∀f g,smI f=some g→ValidF Tryz.prog gl0 f g:=lookS_ok _ (by simp only[List.mem_cons,List.not_mem_nil,or_false,forall_eq];exact within_ok)
noncomputable def goal_53 (hv:Nat→Option Pa) (hb:Nat→Option Bool) (c t:Int) (s:Nat) (lo hi:Int) (Q:Out→List Blk→Gh→Prop):Prop:=
 callx (e04 smI (fun _=>none) hv hb) (wpx (e04 smI (fun _=>none) hv hb) 1000) 53 [.agg [.int .i64 c,.int .i64 t,.int .u64 (s:Nat)],.int .i64 lo,.int .i64 hi] [] {} Q
theorem vc_53 (c:Int) (t:Int) (s:Nat) (lo:Int) (hi:Int) (Q:Out→List Blk→Gh→Prop):goal_53 (lookV [(217105,.int .u64),(217108,.int .u64),(217109,.int .u64),(217117,.int .u64),(217120,.int .i64),(217121,.int
 .u64)]) (lookB []) c t s lo hi Q=(bif decide (lo≤t)&&decide (t≤hi) then bif decide (t<0) then exI .u64 (s:Int) fun n_0=>bif n_0==0 then Q (.ret (.bool true)) [] {} else Q (.ret (.bool false)) [] {} else exI .u64 (s:Int)
 fun n_0=>exW .u64 (((n_0%18446744073709551616).toNat &&& 1:Nat):Int) fun n_1=>bif n_1==1 then bif decide (t>62) then Q (.ret (.bool true)) [] {} else exI .u64 (s:Int) fun n_2=>exW .i64 (t+1) fun n_3=>ckQ (decide (0 ≤
 n_3)&&true) (exI .u64 (Int.fdiv n_2 ((2:Int)^Min.min n_3.toNat 64)) fun n_4=>bif n_4==0 then Q (.ret (.bool true)) [] {} else Q (.ret (.bool false)) [] {}) else Q (.ret (.bool false)) [] {} else Q (.ret (.bool false)) [] {}):=
 by kernel_rfl

noncomputable def goal_57 (hv:Nat→Option Pa) (hb:Nat→Option Bool) (c t:Int) (s:Nat) (lo hi:Int) (Q:Out→List Blk→Gh→Prop):Prop:=
 callx (e04 sm0 (fun _=>none) hv hb) (wpx (e04 sm0 (fun _=>none) hv hb) 1000) 57 [.agg [.int .i64 c,.int .i64 t,.int .u64 (s:Nat)],.int .i64 lo,.int .i64 hi] [] {} Q
theorem vc_57 (c:Int) (t:Int) (s:Nat) (lo:Int) (hi:Int) (Q:Out→List Blk→Gh→Prop):goal_57 (lookV [(233493,.int .u64),(233496,.int .u64),(233497,.int .u64),(233504,.int .u64),(233507,.int .i64),(233508,.int
 .u64)]) (lookB []) c t s lo hi Q=(bif decide (t<lo) then Q (.ret (.bool false)) [] {} else bif decide (t>hi) then Q (.ret (.bool false)) [] {} else bif t == -1 then exI .u64 (s:Int) fun n_0=>bif n_0==0 then Q (.ret (.bool
 true)) [] {} else Q (.ret (.bool false)) [] {} else exI .u64 (s:Int) fun n_0=>exI .u64 (n_0.tmod 2) fun n_1=>bif n_1 !=1 then Q (.ret (.bool false)) [] {} else bif decide (t≥63) then Q (.ret (.bool true)) [] {} else exI .u64 (s :
 Int) fun n_2=>exW .i64 (t+1) fun n_3=>ckQ (decide (0≤n_3)&&true) (exI .u64 (Int.fdiv n_2 ((2:Int)^Min.min n_3.toNat 64)) fun n_4=>bif n_4==0 then Q (.ret (.bool true)) [] {} else Q (.ret (.bool false)) [] {})):=by
 kernel_rfl

theorem shrN (s j:Nat):Int.fdiv (s:Int) ((2:Int)^j)=((s/2^j:Nat):Int):=by
 rw[show ((2:Int)^j)=((2^j:Nat):Int) by simp,Int.ofNat_fdiv]
theorem shr64 (s:Nat) (hs:s<18446744073709551616) (t:Int) (h0:0≤t):s/2^(min (t+1).toNat 64)=s/2^(t.toNat+1)∨62<t:=by
 by_cases h:62<t
 ·exact .inr h
 ·left
  congr 2
  omega
theorem and1 (s:Nat) (hs:s<18446744073709551616):((Int.toNat ((s:Int)%18446744073709551616)) &&& 1:Nat)=s%2:=by
 rw[show Int.toNat ((s:Int)%18446744073709551616)=s by omega,Nat.and_one_is_mod]
theorem window_run (c t:Int) (s:Nat) (lo hi:Int) (ht : -9223372036854775808≤t∧t≤9223372036854775807) (hs:s<18446744073709551616) (Q:Out→List Blk→Gh→Prop) (hq:Q (.ret (.bool (winM lo hi t s))) [] {}):∃hv hb,goal_53 hv hb c t s lo hi Q:=by
 obtain ⟨hv,hb',e⟩:∃hv hb,goal_53 hv hb c t s lo hi Q=_:=⟨_,_,vc_53 c t s lo hi Q⟩
 refine ⟨hv,hb',e.mpr ?_⟩
 clear e
 have yes:winM lo hi t s=true→Q (.ret (.bool true)) [] {}:=fun h=>by rwa [h] at hq
 have no:winM lo hi t s=false→Q (.ret (.bool false)) [] {}:=fun h=>by rwa [h] at hq
 cases hr:decide (lo≤t)&&decide (t≤hi)
 ·exact no (by rw[winM,hr,Bool.false_and])
 ·rw[cond_true]
  refine splitD (fun h1=>⟨_,rfl,splitE (fun h2 => ?_) (fun h2 => ?_)⟩) (fun h1=>⟨_,rfl, ?_⟩)
  ·exact yes (by rw[winM,hr,if_pos h1,Bool.true_and,nbeq];omega)
  ·exact no (by rw[winM,hr,if_pos h1,Bool.true_and];exact Bool.eq_false_iff.2 (by rw[ne_eq,nbeq];omega))
  ·(try dsimp only);rw[and1 s hs]
   refine ⟨_,rfl, ?_⟩
   rw[show IntKind.wrap .u64 ((s%2:Nat):Int)=((s%2:Nat):Int)%18446744073709551616 from rfl,show ((s%2:Nat):Int)%18446744073709551616=((s%2:Nat):Int) by omega]
   refine splitE (fun h2=>splitD (fun h3 => ?_) (fun h3=>⟨_,rfl,wrapI (by omega) (by omega) (ckI (by simp;omega) ⟨_,rfl, ?_⟩)⟩)) (fun h2 => ?_)
   ·exact yes (by rw[winM,hr,if_neg h1,Bool.true_and,decide_eq_true (by omega:62<t),Bool.true_or,Bool.and_true,nbeq];omega)
   ·rw[shrN]
    have hk:=(shr64 s hs t (by omega)).resolve_right (by omega)
    rw[hk]
    refine splitE (fun h4 => ?_) (fun h4 => ?_)
    ·exact yes (by rw[winM,hr,if_neg h1,Bool.true_and,decide_eq_false (by omega:¬ 62<t),Bool.false_or,Bool.and_eq_true,nbeq,nbeq];omega)
    ·exact no (by
      rw[winM,hr,if_neg h1,Bool.true_and,decide_eq_false (by omega:¬ 62<t),Bool.false_or]
      exact Bool.eq_false_iff.2 (by rw[ne_eq,Bool.and_eq_true,nbeq,nbeq];omega))
   ·exact no (by
     rw[winM,hr,if_neg h1,Bool.true_and]
     exact Bool.eq_false_iff.2 (by rw[ne_eq,Bool.and_eq_true,nbeq];omega))
theorem rwindow_run (c t:Int) (s:Nat) (lo hi:Int) (hlo : -1≤lo) (ht : -9223372036854775808≤t∧t≤9223372036854775807) (hs:s<18446744073709551616) (Q:Out→List Blk→Gh→Prop) (hq:Q (.ret (.bool (winM lo hi t s))) [] {}):∃hv hb,goal_57 hv hb c t s lo hi Q:=by
 obtain ⟨hv,hb',e⟩:∃hv hb,goal_57 hv hb c t s lo hi Q=_:=⟨_,_,vc_57 c t s lo hi Q⟩
 refine ⟨hv,hb',e.mpr ?_⟩
 clear e
 have yes:winM lo hi t s=true→Q (.ret (.bool true)) [] {}:=fun h=>by rwa [h] at hq
 have no:winM lo hi t s=false→Q (.ret (.bool false)) [] {}:=fun h=>by rwa [h] at hq
 have hm:Int.tmod ((s:Nat):Int) 2=((s%2:Nat):Int):=rfl
 refine splitD (fun h1=>no (by rw[winM,decide_eq_false (by omega:¬ lo≤t)];rfl)) (fun h1=>splitD (fun h2=>no (by rw[winM,decide_eq_false (by omega:¬ t≤hi),Bool.and_false];rfl)) (fun h2 => ?_))
 have hr:(decide (lo≤t)&&decide (t≤hi))=true:=by rw[decide_eq_true (by omega),decide_eq_true (by omega)];rfl
 refine splitE (fun h3=>⟨_,rfl,splitE (fun h4 => ?_) (fun h4 => ?_)⟩) (fun h3=>⟨_,rfl,_,rfl, ?_⟩)
 ·exact yes (by rw[winM,hr,if_pos (by omega),Bool.true_and,nbeq];omega)
 ·exact no (by rw[winM,hr,if_pos (by omega),Bool.true_and];exact Bool.eq_false_iff.2 (by rw[ne_eq,nbeq];omega))
 ·have h1':¬ t<0:=by omega
  rw[hm]
  refine splitNE (fun h4 => ?_) (fun h4=>splitD (fun h5 => ?_) (fun h5=>⟨_,rfl,wrapI (by omega) (by omega) (ckI (by simp;omega) ⟨_,rfl, ?_⟩)⟩))
  ·exact no (by
    rw[winM,hr,if_neg h1',Bool.true_and]
    exact Bool.eq_false_iff.2 (by rw[ne_eq,Bool.and_eq_true,nbeq];omega))
  ·exact yes (by rw[winM,hr,if_neg h1',Bool.true_and,decide_eq_true (by omega:62<t),Bool.true_or,Bool.and_true,nbeq];omega)
  ·rw[shrN]
   have hk:=(shr64 s hs t (by omega)).resolve_right (by omega)
   rw[hk]
   refine splitE (fun h6 => ?_) (fun h6 => ?_)
   ·exact yes (by rw[winM,hr,if_neg h1',Bool.true_and,decide_eq_false (by omega:¬ 62<t),Bool.false_or,Bool.and_eq_true,nbeq,nbeq];omega)
   ·exact no (by
     rw[winM,hr,if_neg h1',Bool.true_and,decide_eq_false (by omega:¬ 62<t),Bool.false_or]
     exact Bool.eq_false_iff.2 (by rw[ne_eq,Bool.and_eq_true,nbeq,nbeq];omega))
def cWindow:Con
 | [.agg [.int .i64 c,.int .i64 t,.int .u64 u],.int .i64 lo,.int .i64 hi],H,K=>∃s:Nat,Lf (u=(s:Int)∧s<18446744073709551616∧(-9223372036854775808≤t∧t≤9223372036854775807) ∧ -1≤lo)∧∀b:Bool,Lf (b=winM lo hi t s)→K (.ret (.bool b)) H
 | _,_,_=>False
theorem window_ok:ValidF Tryz.prog gl0 53 cWindow:=by
 refine valid_flat (enters_of (by kernel_rfl)) gl0_noY fun args H Q hc => ?_
 unfold cWindow at hc
 split at hc
 ·rename_i c t u lo hi
  obtain ⟨s,⟨rfl,h1,h2,h3⟩,hq⟩:=hc
  obtain ⟨hv,hb',h⟩:=window_run c t s lo hi h2 h1 (Q:=fun o H' _=>H'=[]∧(∃v,o=.ret v∧old 0 v=true∧noY v=true)∧Q o H) ⟨rfl,⟨_,rfl,rfl,rfl⟩,hq _ ⟨rfl⟩⟩
  exact ⟨rfl,rfl,_,1000,envFor04 smI_ok _ _ _,rfl,h⟩
 ·exact hc.elim
theorem rwindow_ok:ValidF Tryz.prog gl0 57 cWindow:=by
 refine valid_flat (enters_of (by kernel_rfl)) gl0_noY fun args H Q hc => ?_
 unfold cWindow at hc
 split at hc
 ·rename_i c t u lo hi
  obtain ⟨s,⟨rfl,h1,h2,h3⟩,hq⟩:=hc
  obtain ⟨hv,hb',h⟩:=rwindow_run c t s lo hi h3 h2 h1 (Q:=fun o H' _=>H'=[]∧(∃v,o=.ret v∧old 0 v=true∧noY v=true)∧Q o H) ⟨rfl,⟨_,rfl,rfl,rfl⟩,hq _ ⟨rfl⟩⟩
  exact ⟨rfl,rfl,_,1000,envFor04 sm0_ok _ _ _,rfl,h⟩
 ·exact hc.elim
end Go.Proofs.YtnhechnaemmdiaaGreatDoor
