/-
  Chapter 21: Derive, proved; octets' residual.
-/
import Derived.Test.YtjenieljapmehaaGreatDoorGmF
import Derived.Test.YtjenieljapmehaaGreatDoorG21J2
import Derived.Test.YtjenieljapmehaaGreatDoorEngX8
set_option linter.unusedSimpArgs false
set_option linter.unusedVariables false
set_option linter.unusedSectionVars false
namespace Go.Proofs.YtjenieljapmehaaGreatDoor
open Go.RowKit
set_option maxRecDepth 1000000

theorem step_len (key label:List UInt8):∀n,(stepM key label n).2.length=32*n
 | 0=>rfl
 | n+1=>by rw[stepM,List.length_append,step_len key label n,mac_len];omega
theorem step_le1 (key label:List UInt8):∀n,(stepM key label n).1.length≤32
 | 0=>by rw[stepM];simp
 | n+1=>by rw[stepM,mac_len];omega
theorem step_pre (key label:List UInt8) (i:Nat):∀k,(stepM key label i).2 <+: (stepM key label (i+k)).2
 | 0=>List.prefix_refl _
 | k+1=>by
  rw[show i+(k+1)=(i+k)+1 from rfl,stepM]
  exact (step_pre key label i k).trans (List.prefix_append _ _)
def deriveSM (secret salt label:List UInt8) (n:Nat):List UInt8:=(stepM (macSM salt [secret]) label 8).2.take n
theorem derive_len (secret salt label:List UInt8) {n:Nat} (h:n≤255):(deriveSM secret salt label n).length=n:=by
 rw[deriveSM,List.length_take,step_len]
 omega
theorem derive_take (secret salt label:List UInt8) {n m:Nat} (h:n≤m):(deriveSM secret salt label m).take n=deriveSM secret salt label n:=by
 rw[deriveSM,deriveSM,List.take_take,Nat.min_eq_left h]
theorem setK_eq:setK makM=cells32M makM:=by
 have h:(cells32M makM).length=72:=by rw[cells32_len];rfl
 unfold setK
 rw[setRange,h]
 simp[zer72,List.drop_replicate]
theorem derive_run (secret salt label:List UInt8) (n:Int) (h1:secret.length≤4096) (h2:salt.length≤4096) (h3:label.length≤4096) (h4:0≤n) (h5:n≤255) (Q:Out→List Blk→Gh→Prop)
  (hq:Q (.ret (.tup [.str (deriveSM secret salt label n.toNat),.int .i64 0])) [] {}):∃hv hb,goal_15 hv hb (macSM salt [secret]) secret salt label n Q:=by
 obtain ⟨hv',hb',e'⟩:∃hv hb,goal_15 hv hb (macSM salt [secret]) secret salt label n Q=_:=⟨_,_,vc_15 (macSM salt [secret]) secret salt label n Q⟩
 refine ⟨hv',hb',e'.mpr ?_⟩
 clear e'
 refine ⟨_,rfl,splitD (fun h=>by omega) (fun _=>⟨_,rfl,splitD (fun h=>by omega) (fun _=>⟨_,rfl,splitD (fun h=>by omega) (fun _=>splitD (fun h=>by omega) (fun _=>splitD (fun h=>by omega) (fun _ => ?_)))⟩)⟩)⟩
 rintro ks ⟨rfl⟩
 have hks:startM++kkM=makM:=rfl
 rw[hks,setK_eq]
 have hN:(cells32M makM).length=72:=by rw[cells32_len];rfl
 have hT:List.take 72 (List.drop 0 (cells32M makM))=cells32M makM:=by rw[List.drop_zero,List.take_of_length_le (by omega)]
 have hB:(oldL 0 (cells32M makM)==oldL 0 (cells32M makM))=true:=by simp
 refine ckI (by rw[hN];rfl) (ckI (by rw[hN];rfl) ⟨⟨hT,by omega⟩,[secret],⟨rfl,rfl,by simp,fun s hs=>by simp at hs;subst hs;omega⟩, ?_⟩)
 rintro key ⟨ek⟩
 rw[←ek]
 rw[deriveSM,←ek] at hq
 have hk:key.length=32:=by rw[ek,mac_len]
 clear ek
 refine ⟨⟨0,⟨by omega⟩,rfl,ckI hB ⟨rfl,rfl,rfl,rfl,rfl,rfl,rfl,rfl,rfl,trivial⟩⟩, ?_⟩
 rintro i ⟨hi⟩
 have hl:=step_len key label i
 refine ⟨_,rfl,splitD (fun h => ?_) (fun h => ?_)⟩
 ·have hi8:i<8:=by omega
  refine ckI (by rw[hN];rfl) ⟨_,rfl,_,rfl,_,rfl,⟨hT,by omega⟩,[_,label,_],⟨rfl,rfl,by simp,fun s hs => ?_⟩, ?_⟩
  ·simp only[List.mem_cons,List.not_mem_nil,or_false] at hs
   have:=step_le1 key label i
   rcases hs with rfl | rfl | rfl
   ·omega
   ·omega
   ·simp
  rintro o ⟨eo⟩
  have e2:[toB (AV.int .u8 (IntKind.wrap .u8 ((i+1:Nat):Int)))]=[UInt8.ofNat (i+1)]:=by
   rw[u8_wrap]
   simp only[toB,Int.toNat_natCast]
   rw[Nat.mod_eq_of_lt (by omega)]
  rw[e2] at eo
  have e3:stepM key label (i+1)=(o,(stepM key label i).2++o):=by rw[stepM,eo]
  have ho:o.length=32:=by rw[eo,mac_len]
  refine ckI (by simp;omega) ⟨_,rfl,_,rfl,wrapI (by omega) (by omega) ⟨by simp[old32],⟨trivial,rfl⟩,i+1,⟨by omega⟩,by omega,rfl,ckI hB ⟨rfl,rfl,rfl,rfl, ?_,rfl, ?_,rfl,rfl,trivial⟩⟩⟩
  ·rw[e3]
  ·rw[e3]
 ·refine ckI (by simp;omega) ⟨_,rfl, ?_⟩
  have hp:=step_pre key label i (8-i)
  rw[show i+(8-i)=8 by omega] at hp
  obtain ⟨t,ht⟩:=hp
  rw[←ht,List.take_append_of_le_length (by omega)] at hq
  exact hq
def cDerive:Con
 | [.str secret,.str salt,.str label,.int .i64 n],H,K=>Lf (secret.length≤4096∧salt.length≤4096∧label.length≤4096∧0≤n∧n≤255)∧∀o,Lf (o=deriveSM secret salt label n.toNat)→K (.ret (.tup [.str o,.int .i64 0])) H
 | _,_,_=>False
theorem derive_ok:ValidF Tryz.prog gl0 31 cDerive:=by
 refine valid_flat (enters_of (by kernel_rfl)) gl0_noY fun args H Q hc => ?_
 unfold cDerive at hc
 split at hc
 ·rename_i secret salt label n
  obtain ⟨⟨k1,k2,k3,k4,k5⟩,hq⟩:=hc
  obtain ⟨hv,hb',h⟩:=derive_run secret salt label n k1 k2 k3 k4 k5 (Q:=fun o H' _=>H'=[]∧(∃v,o=.ret v∧old 0 v=true∧noY v=true)∧Q o H) ⟨rfl,⟨_,rfl,rfl,rfl⟩,hq _ ⟨rfl⟩⟩
  exact ⟨rfl,rfl,_,1000,envFor18 smC2_ok _ hv hb',rfl,h⟩
 ·exact hc.elim
def smC3:SM:=lookS [(31,cDerive),(85,cJoinV)]
theorem smC3_ok:∀f g,smC3 f=some g→ValidF Tryz.prog gl0 f g:=lookS_ok _ (by simp only[List.mem_cons,List.not_mem_nil,or_false,forall_eq_or_imp,forall_eq];exact ⟨derive_ok,joinV_ok⟩)
noncomputable def goal_22 (hv:Nat→Option Pa) (hb:Nat→Option Bool) (m c l:List UInt8) (n:Int) (Q:Out→List Blk→Gh→Prop):Prop:=
 callx (e18 smC3 (fun _=>none) hv hb) (wpx (e18 smC3 (fun _=>none) hv hb) 1000) 27 [.str m,.str c,.str l,.int .i64 n] [] {} Q
theorem vc_22 (m:List UInt8) (c:List UInt8) (l:List UInt8) (n:Int) (Q:Out→List Blk→Gh→Prop):goal_22 (lookV [(110604,.int .i64),(110608,.int .i64)]) (lookB []) m c l n Q=(exI .i64 (m.length:Int) fun n_0=>bif n_0 ==
 32 then exI .i64 (c.length:Int) fun n_1=>bif decide (n_1≤64) then bif decide (n≥1) then bif decide (n≤255) then ∃l_2:List (List UInt8),Lf ([AV.str [UInt8.ofNat 116,UInt8.ofNat 97,UInt8.ofNat 110,UInt8.ofNat 110,
 UInt8.ofNat 111,UInt8.ofNat 121],.str l]=cellsSM l_2∧2=l_2.length∧l_2.length≤1000∧(joinM l_2 [32]).length≤1000000)∧∀x_3:List UInt8,Lf (x_3=joinM l_2 [32])→Lf (m.length≤4096∧c.length≤4096∧x_3.length≤4096
 ∧ 0≤n∧n≤255)∧∀o_4:List UInt8,Lf (o_4=deriveSM m c x_3 n.toNat)→Q (.ret (.str o_4)) [] {} else Q (.pan (.iface 102 (.agg []))) [] {} else Q (.pan (.iface 102 (.agg []))) [] {} else Q (.pan (.iface 102 (.agg []))) [] {} else
 Q (.pan (.iface 102 (.agg []))) [] {}):=by kernel_rfl

end Go.Proofs.YtjenieljapmehaaGreatDoor
