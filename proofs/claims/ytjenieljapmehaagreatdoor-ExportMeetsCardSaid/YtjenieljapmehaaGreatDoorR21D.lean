/-
  Chapter 17: windows: Fresh and Mark of the program.
-/
import Derived.Test.YtjenieljapmehaaGreatDoorR21B
set_option linter.unusedSimpArgs false
set_option linter.unusedVariables false
set_option linter.unusedSectionVars false
namespace Go.Proofs.YtjenieljapmehaaGreatDoor.Rc
open Go.RowKit
set_option maxRecDepth 1000000

def bitWM (k i:Nat):Bool:=k/2^i%2==1
def okWM (t:Int) (k:Nat):Bool:=(decide (t = -1)&&Nat.beq k 0)||(decide (0≤t)&&decide (t<281474976710656)&&bitWM k 0&&(decide (63≤t)||Nat.beq (k/2^(t.toNat+1)) 0))
def freshWM (t:Int) (k:Nat) (q:Int):Int:=if okWM t k=false then 170 else if q<0∨281474976710656≤q then 2 else if q≤t∧(q≤t-64∨bitWM k (t-q).toNat=true) then 10 else 0
noncomputable def goal_47w (hv:Nat→Option Pa) (hb:Nat→Option Bool) (t:Int) (k:Nat) (q:Int) (Q:Out→List Blk→Gh→Prop):Prop:=
 callx (e04 sm0 (fun _=>none) hv hb) (wpx (e04 sm0 (fun _=>none) hv hb) 1000) 48 [.agg [.int .i64 t,.int .u64 (k:Nat)],.int .i64 q] [] {} Q
theorem vc_47w (t:Int) (k:Nat) (q:Int) (Q:Out→List Blk→Gh→Prop):goal_47w (lookV [(196618,.int .u64),(196622,.int .i64),(196623,.int .u64),(196624,.int .u64),(196637,.int .i64),(196638,.int .i64),(196639,.int
 .u64),(196640,.int .u64),(196633,.int .u64)]) (lookB []) t k q Q=(bif decide (q≤t) then exI .u64 (k:Int) fun n_0=>exW .i64 (t-q) fun n_1=>ckQ (decide (0≤n_1)&&true) (exW .u64 (1*(2:Int)^Min.min n_1.toNat 64) fun
 n_2=>exW .u64 (((n_0%18446744073709551616).toNat ||| (n_2%18446744073709551616).toNat:Nat):Int) fun n_3=>Q (.ret (.agg [.int .i64 t,.int .u64 n_3])) [] {}) else bif decide (t<0) then exI .u64 0 fun n_0=>exW .i64 (q-t)
 fun n_1=>exI .i64 (imin n_1 64) fun n_2=>ckQ (decide (0≤n_2)&&true) (exW .u64 (n_0*(2:Int)^Min.min n_2.toNat 64) fun n_3=>exW .u64 (((n_3%18446744073709551616).toNat ||| 1:Nat):Int) fun n_4=>Q (.ret (.agg [.int .i64
 q,.int .u64 n_4])) [] {}) else exI .u64 (k:Int) fun n_0=>exW .i64 (q-t) fun n_1=>exI .i64 (imin n_1 64) fun n_2=>ckQ (decide (0≤n_2)&&true) (exW .u64 (n_0*(2:Int)^Min.min n_2.toNat 64) fun n_3=>exW .u64 (((n_3 %
 18446744073709551616).toNat ||| 1:Nat):Int) fun n_4=>Q (.ret (.agg [.int .i64 q,.int .u64 n_4])) [] {})):=by kernel_rfl


theorem and1 (k:Nat):k &&& 1=k%2:=by simp
theorem fdiv2 (k m:Nat):Int.fdiv (k:Int) ((2:Int)^m)=((k/2^m:Nat):Int):=by
 rw[Int.fdiv_eq_ediv_of_nonneg _ (Int.pow_nonneg (by omega))]
 exact_mod_cast (Int.natCast_ediv k (2^m)).symm
theorem aggW {t:Int} {k:Nat} {K:Int→Int→Prop} (h:K t k):∃a b:Int,AV.agg [.int .i64 t,.int .u64 (k:Nat)]=AV.agg [.int .i64 a,.int .u64 b]∧K a b:=⟨_,_,rfl,h⟩
theorem bit0 (k:Nat):bitWM k 0=(k%2==1):=by rw[bitWM,Nat.pow_zero,Nat.div_one]
theorem wrapW {n:Nat} (h:n<18446744073709551616) {K:Int→Prop} (hk:K n):∃m:Int,AV.int .u64 (IntKind.wrap .u64 ((n:Nat):Int))=AV.int .u64 m∧K m:=by
 refine ⟨_, ?_,hk⟩
 congr 1
 show ((n:Int)%18446744073709551616)=_
 omega
def markWM (t:Int) (k:Nat) (q:Int):Int×Nat:=if q≤t then (t,k ||| 2^(t-q).toNat) else (q,(if t<0 then 0 else k)*2^(min (q-t).toNat 64)%18446744073709551616 ||| 1)
theorem ok_parts {t:Int} {k:Nat} (h:okWM t k=true):(t = -1∧k=0)∨(0≤t∧t<281474976710656∧bitWM k 0=true∧(63≤t∨k/2^(t.toNat+1)=0)):=by
 unfold okWM at h
 simp only[Bool.or_eq_true,Bool.and_eq_true,decide_eq_true_eq,nbeq] at h
 rcases h with h | ⟨⟨⟨h1,h2⟩,h3⟩,h4⟩
 ·exact .inl h
 ·exact .inr ⟨h1,h2,h3,h4⟩
theorem fresh_parts {t:Int} {k:Nat} {q:Int} (h:freshWM t k q=0):okWM t k=true∧(0≤q∧q<281474976710656)∧(q≤t→t-64<q∧bitWM k (t-q).toNat=false):=by
 unfold freshWM at h
 split at h
 ·cases h
 ·rename_i h1
  split at h
  ·cases h
  ·rename_i h2
   split at h
   ·cases h
   ·rename_i h3
    refine ⟨by simpa using h1,by omega,fun h4=>⟨Int.not_le.1 fun h5=>h3 ⟨h4,.inl h5⟩, ?_⟩⟩
    cases hb:bitWM k (t-q).toNat with
    | false=>rfl
    | true=>exact absurd ⟨h4,.inr hb⟩ h3
theorem two_lt {a:Nat} (h:a<64):2^a<18446744073709551616:=Nat.pow_lt_pow_right (a:=2) (by omega) h
theorem mark_lt {t:Int} {k:Nat} {q:Int} (hk:k<18446744073709551616) (h:freshWM t k q=0):(markWM t k q).2<18446744073709551616:=by
 obtain ⟨_,h2,h3⟩:=fresh_parts h
 rw[markWM]
 split
 ·rename_i h4
  have:=h3 h4
  exact Nat.or_lt_two_pow (n:=64) hk (two_lt (by omega))
 ·exact Nat.or_lt_two_pow (n:=64) (Nat.mod_lt _ (by omega)) (by omega)
theorem mark_run (t:Int) (k:Nat) (q:Int) (hk:k<18446744073709551616) (hf:freshWM t k q=0) (Q:Out→List Blk→Gh→Prop)
  (hq:Q (.ret (.agg [.int .i64 (markWM t k q).1,.int .u64 ((markWM t k q).2:Nat)])) [] {}):∃hv hb,goal_47w hv hb t k q Q:=by
 obtain ⟨hv,hb',e⟩:∃hv hb,goal_47w hv hb t k q Q=_:=⟨_,_,vc_47w t k q Q⟩
 refine ⟨hv,hb',e.mpr ?_⟩
 clear e
 have hlt:=mark_lt hk hf
 obtain ⟨h1,h2,h3⟩:=fresh_parts hf
 have ht : -1≤t∧t<281474976710656:=by rcases ok_parts h1 with h | h<;>omega
 refine splitD (fun h4 => ?_) (fun h4=>splitD (fun h5 => ?_) (fun h5 => ?_))
 ·have h5:=(h3 h4).1
  rw[markWM,if_pos h4] at hq hlt
  refine ⟨_,rfl,wrapI (by omega) (by omega) (ckI (by simp;omega) ?_)⟩
  rw[show min (Int.toNat (t-q)) 64=(t-q).toNat by omega]
  have hp:=two_lt (show (t-q).toNat<64 by omega)
  rw[show (1:Int)*(2:Int)^(t-q).toNat=((2^(t-q).toNat:Nat):Int) by rw[Int.one_mul];try norm_cast]
  generalize 2^(t-q).toNat=p at *
  refine wrapW hp ?_
  rw[show Int.toNat (((k:Nat):Int)%18446744073709551616)=k by omega,show Int.toNat (((p:Nat):Int)%18446744073709551616)=p by omega]
  exact wrapW hlt hq
 ·rw[markWM,if_neg h4,if_pos h5] at hq hlt
  refine ⟨_,rfl,wrapI (by omega) (by omega) ⟨_,rfl,ckI (by unfold imin;split<;>first | (simp;done) | (simp;omega)) ?_⟩⟩
  rw[Int.zero_mul]
  rw[Nat.zero_mul] at hq hlt
  exact wrapW (n:=0) (by omega) (wrapW (n:=1) (by omega) hq)
 ·rw[markWM,if_neg h4,if_neg h5] at hq hlt
  have hm:imin (q-t) 64=((min (q-t).toNat 64:Nat):Int):=by unfold imin;split<;>omega
  refine ⟨_,rfl,wrapI (by omega) (by omega) ⟨_,rfl, ?_⟩⟩
  rw[hm]
  refine ckI (by simp) ?_
  rw[show min (Int.toNat ((min (q-t).toNat 64:Nat):Int)) 64=min (q-t).toNat 64 by omega,show ((k:Nat):Int)*(2:Int)^(min (q-t).toNat 64)=((k*2^(min (q-t).toNat 64):Nat):Int) by norm_cast]
  generalize k*2^(min (q-t).toNat 64)=x at *
  refine ⟨((x%18446744073709551616:Nat):Int), ?_, ?_⟩
  ·congr 1
  ·try dsimp only
   rw[show Int.toNat (((x%18446744073709551616:Nat):Int)%18446744073709551616)=x%18446744073709551616 by omega]
   exact wrapW hlt hq
def cMarkW:Con
 | [.agg [.int .i64 t,.int .u64 u],.int .i64 q],H,K=>∃k:Nat,Lf (u=(k:Int)∧k<18446744073709551616∧freshWM t k q=0)∧∀ (a:Int) (b:Nat),Lf (markWM t k q=(a,b))→K (.ret (.agg [.int .i64 a,.int .u64 (b:Nat)])) H
 | _,_,_=>False
theorem markW_ok:ValidF Tryz.prog gl0 48 cMarkW:=by
 refine valid_flat (enters_of (by kernel_rfl)) gl0_noY fun args H Q hc => ?_
 unfold cMarkW at hc
 split at hc
 ·rename_i t u q
  obtain ⟨k,⟨rfl,h1,h2⟩,hq⟩:=hc
  obtain ⟨hv,hb',h⟩:=mark_run t k q h1 h2 (Q:=fun o H' _=>H'=[]∧(∃v,o=.ret v∧old 0 v=true∧noY v=true)∧Q o H) ⟨rfl,⟨_,rfl,rfl,rfl⟩,hq _ _ ⟨rfl⟩⟩
  exact ⟨rfl,rfl,_,1000,envFor04 sm0_ok _ _ _,rfl,h⟩
 ·exact hc.elim
theorem aggW2 {t u:Int} {K:Int→Int→Prop} (h:K t u):∃a b:Int,AV.agg [.int .i64 t,.int .u64 u]=AV.agg [.int .i64 a,.int .u64 b]∧K a b:=⟨_,_,rfl,h⟩
end Go.Proofs.YtjenieljapmehaaGreatDoor.Rc
