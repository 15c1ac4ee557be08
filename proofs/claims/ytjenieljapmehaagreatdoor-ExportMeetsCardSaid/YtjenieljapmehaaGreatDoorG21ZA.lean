/-
  Chapter 21: Secret, works, proved.
-/
import Derived.Test.YtjenieljapmehaaGreatDoorG21Z
set_option linter.unusedSimpArgs false
set_option linter.unusedVariables false
set_option linter.unusedSectionVars false
namespace Go.Proofs.YtjenieljapmehaaGreatDoor
open Go.RowKit
set_option maxRecDepth 1000000

theorem get4 (a b c d:Int) {i m:Nat} (h:i<4) (hm:m=i):∃n,(List.take 1 (List.drop m [AV.int .u8 a,AV.int .u8 b,AV.int .u8 c,AV.int .u8 d])).getD 0 AV.undef=AV.int .u8 n:=by
 subst hm
 match m,h with
 | 0,_=>exact ⟨_,rfl⟩
 | 1,_=>exact ⟨_,rfl⟩
 | 2,_=>exact ⟨_,rfl⟩
 | 3,_=>exact ⟨_,rfl⟩
theorem secret_run (a b c d:Int) (Q:Out→List Blk→Gh→Prop) (hq:∀s:List UInt8,s.length=32→Q (.ret (.str s)) [] {}):∃hv hb,goal_6 hv hb a b c d Q:=by
 obtain ⟨hv',hb',e'⟩:∃hv hb,goal_6 hv hb a b c d Q=_:=⟨_,_,vc_6 a b c d Q⟩
 refine ⟨hv',hb',e'.mpr ?_⟩
 clear e'
 refine ⟨⟨[],⟨by simp⟩,rfl,rfl,rfl,rfl,trivial⟩, ?_⟩
 rintro x ⟨hx⟩
 refine ⟨_,rfl,splitD (fun h => ?_) (fun h=>hq x (by omega))⟩
 have t1:Int.tmod (x.length:Int) 4=((x.length%4:Nat):Int):=by rw[Int.tmod_eq_emod_of_nonneg (by omega)];omega
 have t2:Int.tmod ((x.length:Int)+1) 4=(((x.length+1)%4:Nat):Int):=by rw[Int.tmod_eq_emod_of_nonneg (by omega)];omega
 refine ⟨_,rfl,_,rfl, ?_⟩
 rw[t1]
 obtain ⟨v1,e1⟩:=get4 a b c d (i:=x.length%4) (m:=0+Int.toNat ((x.length%4:Nat):Int)*1) (by omega) (by rw[Int.toNat_natCast];omega)
 refine ckI (by simp;omega) (ckI (by simp;omega) ⟨v1,e1,_,rfl,_,rfl,_,rfl,_,rfl,wrapI (by omega) (by omega) ⟨_,rfl, ?_⟩⟩)
 rw[t2]
 obtain ⟨v2,e2⟩:=get4 a b c d (i:=(x.length+1)%4) (m:=0+Int.toNat (((x.length+1)%4:Nat):Int)*1) (by omega) (by rw[Int.toNat_natCast];omega)
 refine ckI (by simp;omega) (ckI (by simp;omega) ⟨v2,e2,_,rfl,_,rfl,_,rfl,ckI (by simp;omega) ⟨_,rfl,_,rfl,wrapI (by omega) (by omega) ⟨⟨trivial,rfl⟩,_,⟨?_⟩, ?_,rfl,rfl,rfl, ?_,trivial⟩⟩⟩)
 ·simp;omega
 ·simp;omega
 ·simp
def cSecret:Con
 | [.agg [.int .u8 a,.int .u8 b,.int .u8 c,.int .u8 d]],H,K=>∀s:List UInt8,Lf (s.length=32)→K (.ret (.str s)) H
 | _,_,_=>False
theorem secret_ok:ValidF Tryz.prog gl0 7 cSecret:=by
 refine valid_flat (enters_of (by kernel_rfl)) gl0_noY fun args H Q hc => ?_
 unfold cSecret at hc
 split at hc
 ·rename_i a b c d
  obtain ⟨hv,hb',h⟩:=secret_run a b c d (Q:=fun o H' _=>H'=[]∧(∃v,o=.ret v∧old 0 v=true∧noY v=true)∧Q o H) (fun s h=>⟨rfl,⟨_,rfl,rfl,rfl⟩,hc s ⟨h⟩⟩)
  exact ⟨rfl,rfl,_,1000,envFor18 sm0_ok _ hv hb',rfl,h⟩
 ·exact hc.elim
theorem mast_at {m:List UInt8} (h:m.length=32) {r:Int} (h1:0≤r) (h2:r≤1000):mastM m r=(ofSM m r.toNat,0):=by
 rw[mastM,if_pos (show okRndM m r=true from decide_eq_true ⟨h,h1,h2⟩)]
theorem expo_at {m c l:List UInt8} {n:Int} (h:m.length=32) (hc:c.length≤64) (hl:l≠[]) (ht:trimM l=[]) (hl2:l.length≤24) (h1:1≤n) (h2:n≤255):expoM m c l n=(octSM m c l n,0):=by
 rw[expoM,if_pos ⟨hl,ht,hl2,show okOctM m c n=true from decide_eq_true ⟨h,hc,h1,h2⟩⟩]
theorem works_run (Q:Out→List Blk→Gh→Prop) (hq:Q (.ret (.bool true)) [] {}):∃hv hb,goal_5 hv hb Q:=by
 obtain ⟨hv',hb',e'⟩:∃hv hb,goal_5 hv hb Q=_:=⟨_,_,vc_5 Q⟩
 refine ⟨hv',hb',e'.mpr ?_⟩
 clear e'
 have hm:(repM [UInt8.ofNat 7] 32).length=32:=by kernel_rfl
 obtain ⟨m,hM⟩:∃m,repM [UInt8.ofNat 7] 32=m:=⟨_,rfl⟩
 rw[hM]
 rw[hM] at hm
 clear hM
 refine ⟨⟨by simp⟩, ?_⟩
 rintro s0 e1 ⟨h01⟩
 rw[expo_at hm (by simp) (by simp) (by kernel_rfl) (by simp) (by omega) (by omega)] at h01
 cases h01
 refine ⟨⟨by omega,by simp,by simp,by omega,by omega⟩, ?_⟩
 rintro o2 ⟨e2⟩
 rintro s3 e4 ⟨h34⟩
 rw[mast_at hm (by omega) (by omega)] at h34
 cases h34
 rintro s5 e6 ⟨h56⟩
 rw[mast_at hm (by omega) (by omega)] at h56
 cases h56
 refine ⟨⟨by omega,by simp,by simp,by omega,by omega⟩, ?_⟩
 rintro o7 ⟨e7⟩
 rintro k1 s1 k2 s2 ⟨hr⟩
 rw[recM,if_pos rfl] at hr
 cases hr
 rintro s12 e13 ⟨h12⟩
 rw[mast_at hm (by omega) (by omega)] at h12
 cases h12
 have hl3:=of_len hm 3
 refine ⟨⟨by show (ofSM m 3).length≤4096;omega,by simp,by simp,by omega,by omega⟩, ?_⟩
 rintro o14 ⟨e14⟩
 have e14:o14=recSM m 3:=e14
 have l14:o14.length=88:=by rw[e14];exact oct_len (by omega) (by omega)
 have l2:o2.length=255:=by rw[e2];exact derive_len _ _ _ (by omega)
 rw[←e14]
 refine ckN rfl (ckN rfl (ckN rfl (ckN rfl ⟨_,rfl,ckN (by rw[l2];rfl) ⟨_,rfl,ckN (by rw[l14];rfl) (ckI (by rw[l14];rfl) ⟨_,rfl,ckI (by rw[l14];rfl) ⟨_,rfl,ckT ?_ (ckI (by rw[l14];rfl) ⟨_,rfl,ckI (by rw[l14];rfl) ⟨_,rfl,ckT ?_ (ckI (by rw[l2];rfl) ⟨_,rfl,ckT ?_ (ckT ?_ (ckT ?_ hq))⟩)⟩⟩)⟩⟩)⟩⟩)))
 ·simp[eqB_t]
 ·have:List.take (o14.length-76) (List.drop 76 o14)=List.take 12 (List.drop 76 o14):=by rw[l14]
  simp[eqB_t,this]
 ·rw[eqB_t,List.drop_zero,e2]
  exact (derive_take m [] (lblM [120]) (n:=40) (m:=255) (by omega)).symm
 ·exact eqB_t.2 rfl
 ·rw[eqB_t,e7]
  rfl
theorem works_ok21:ValidF Tryz.prog gl0 10 cTrue:=by
 refine valid_flat (enters_of (by kernel_rfl)) gl0_noY fun args H Q hc => ?_
 unfold cTrue at hc
 split at hc
 ·obtain ⟨hv,hb',h⟩:=works_run (Q:=fun o H' _=>H'=[]∧(∃v,o=.ret v∧old 0 v=true∧noY v=true)∧Q o H) ⟨rfl,⟨_,rfl,rfl,rfl⟩,hc⟩
  exact ⟨rfl,rfl,_,1000,envFor18 smW_ok _ hv hb',rfl,h⟩
 ·exact hc.elim
end Go.Proofs.YtjenieljapmehaaGreatDoor
