/-
  Chapter 21: Secret, works, proved; residuals of ExportRounds and ExportKnown.
-/
import Derived.Test.YtjenieljapmehaaDoorD21Z
set_option linter.unusedSimpArgs false
set_option linter.unusedVariables false
set_option linter.unusedSectionVars false
namespace Go.Proofs.YtjenieljapmehaaDoor
open Go.RowKit
set_option maxRecDepth 1000000

theorem get4 (a b c d:Int) {i m:Nat} (h:i<4) (hm:m=i):∃n,(List.take 1 (List.drop m [AV.int .u8 a,AV.int .u8 b,AV.int .u8 c,AV.int .u8 d])).getD 0 AV.undef=AV.int .u8 n:=by
 subst hm
 match m,h with
 | 0,_=>exact ⟨_,rfl⟩
 | 1,_=>exact ⟨_,rfl⟩
 | 2,_=>exact ⟨_,rfl⟩
 | 3,_=>exact ⟨_,rfl⟩
theorem secret_run (a b c d:Int) (Q:Out→List Blk→Gh→Prop) (hq:∀s:List UInt8,s.length=32→Q (.ret (.str s)) [] {}):∃hv hb,goal_6 hv hb a b c d Q:=by
 obtain ⟨hv',hb',e'⟩:∃hv hb,goal_6 hv hb a b c d Q=_:=⟨_,_,vc_6 a b c d Q⟩
 refine ⟨hv',hb',e'.mpr ?_⟩
 clear e'
 refine ⟨⟨[],⟨by simp⟩,rfl,rfl,rfl,rfl,trivial⟩, ?_⟩
 rintro x ⟨hx⟩
 refine ⟨_,rfl,splitD (fun h => ?_) (fun h=>hq x (by omega))⟩
 have t1:Int.tmod (x.length:Int) 4=((x.length%4:Nat):Int):=by rw[Int.tmod_eq_emod_of_nonneg (by omega)];omega
 have t2:Int.tmod ((x.length:Int)+1) 4=(((x.length+1)%4:Nat):Int):=by rw[Int.tmod_eq_emod_of_nonneg (by omega)];omega
 refine ⟨_,rfl,_,rfl, ?_⟩
 rw[t1]
 obtain ⟨v1,e1⟩:=get4 a b c d (i:=x.length%4) (m:=0+Int.toNat ((x.length%4:Nat):Int)*1) (by omega) (by rw[Int.toNat_natCast];omega)
 refine ckI (by simp;omega) (ckI (by simp;omega) ⟨v1,e1,_,rfl,_,rfl,_,rfl,_,rfl,wrapI (by omega) (by omega) ⟨_,rfl, ?_⟩⟩)
 rw[t2]
 obtain ⟨v2,e2⟩:=get4 a b c d (i:=(x.length+1)%4) (m:=0+Int.toNat (((x.length+1)%4:Nat):Int)*1) (by omega) (by rw[Int.toNat_natCast];omega)
 refine ckI (by simp;omega) (ckI (by simp;omega) ⟨v2,e2,_,rfl,_,rfl,_,rfl,ckI (by simp;omega) ⟨_,rfl,_,rfl,wrapI (by omega) (by omega) ⟨⟨trivial,rfl⟩,_,⟨?_⟩, ?_,rfl,rfl,rfl, ?_,trivial⟩⟩⟩)
 ·simp;omega
 ·simp;omega
 ·simp
def cSecret:Con
 | [.agg [.int .u8 a,.int .u8 b,.int .u8 c,.int .u8 d]],H,K=>∀s:List UInt8,Lf (s.length=32)→K (.ret (.str s)) H
 | _,_,_=>False
theorem secret_ok:ValidF Tryd.prog gl0 6 cSecret:=by
 refine valid_flat (enters_of (by kernel_rfl)) gl0_noY fun args H Q hc => ?_
 unfold cSecret at hc
 split at hc
 ·rename_i a b c d
  obtain ⟨hv,hb',h⟩:=secret_run a b c d (Q:=fun o H' _=>H'=[]∧(∃v,o=.ret v∧old 0 v=true∧noY v=true)∧Q o H) (fun s h=>⟨rfl,⟨_,rfl,rfl,rfl⟩,hc s ⟨h⟩⟩)
  exact ⟨rfl,rfl,_,1000,envFor18 sm0_ok _ hv hb',rfl,h⟩
 ·exact hc.elim
theorem mast_at {m:List UInt8} (h:m.length=32) {r:Int} (h1:0≤r) (h2:r≤1000):mastM m r=(ofSM m r.toNat,0):=by
 rw[mastM,if_pos (show okRndM m r=true from decide_eq_true ⟨h,h1,h2⟩)]
theorem expo_at {m c l:List UInt8} {n:Int} (h:m.length=32) (hc:c.length≤64) (hl:l≠[]) (ht:trimM l=[]) (hl2:l.length≤24) (h1:1≤n) (h2:n≤255):expoM m c l n=(octSM m c l n,0):=by
 rw[expoM,if_pos ⟨hl,ht,hl2,show okOctM m c n=true from decide_eq_true ⟨h,hc,h1,h2⟩⟩]
theorem works_run (Q:Out→List Blk→Gh→Prop) (hq:Q (.ret (.bool true)) [] {}):∃hv hb,goal_5 hv hb Q:=by
 obtain ⟨hv',hb',e'⟩:∃hv hb,goal_5 hv hb Q=_:=⟨_,_,vc_5 Q⟩
 refine ⟨hv',hb',e'.mpr ?_⟩
 clear e'
 have hm:(repM [UInt8.ofNat 7] 32).length=32:=by kernel_rfl
 obtain ⟨m,hM⟩:∃m,repM [UInt8.ofNat 7] 32=m:=⟨_,rfl⟩
 rw[hM]
 rw[hM] at hm
 clear hM
 refine ⟨⟨by simp⟩, ?_⟩
 rintro s0 e1 ⟨h01⟩
 rw[expo_at hm (by simp) (by simp) (by kernel_rfl) (by simp) (by omega) (by omega)] at h01
 cases h01
 refine ⟨⟨by omega,by simp,by simp,by omega,by omega⟩, ?_⟩
 rintro o2 ⟨e2⟩
 rintro s3 e4 ⟨h34⟩
 rw[mast_at hm (by omega) (by omega)] at h34
 cases h34
 rintro s5 e6 ⟨h56⟩
 rw[mast_at hm (by omega) (by omega)] at h56
 cases h56
 refine ⟨⟨by omega,by simp,by simp,by omega,by omega⟩, ?_⟩
 rintro o7 ⟨e7⟩
 rintro k1 s1 k2 s2 ⟨hr⟩
 rw[recM,if_pos rfl] at hr
 cases hr
 rintro s12 e13 ⟨h12⟩
 rw[mast_at hm (by omega) (by omega)] at h12
 cases h12
 have hl3:=of_len hm 3
 refine ⟨⟨by show (ofSM m 3).length≤4096;omega,by simp,by simp,by omega,by omega⟩, ?_⟩
 rintro o14 ⟨e14⟩
 have e14:o14=recSM m 3:=e14
 have l14:o14.length=88:=by rw[e14];exact oct_len (by omega) (by omega)
 have l2:o2.length=255:=by rw[e2];exact derive_len _ _ _ (by omega)
 rw[←e14]
 refine ckN rfl (ckN rfl (ckN rfl (ckN rfl ⟨_,rfl,ckN (by rw[l2];rfl) ⟨_,rfl,ckN (by rw[l14];rfl) (ckI (by rw[l14];rfl) ⟨_,rfl,ckI (by rw[l14];rfl) ⟨_,rfl,ckT ?_ (ckI (by rw[l14];rfl) ⟨_,rfl,ckI (by rw[l14];rfl) ⟨_,rfl,ckT ?_ (ckI (by rw[l2];rfl) ⟨_,rfl,ckT ?_ (ckT ?_ (ckT ?_ hq))⟩)⟩⟩)⟩⟩)⟩⟩)))
 ·simp[eqB_t]
 ·have:List.take (o14.length-76) (List.drop 76 o14)=List.take 12 (List.drop 76 o14):=by rw[l14]
  simp[eqB_t,this]
 ·rw[eqB_t,List.drop_zero,e2]
  exact (derive_take m [] (lblM [120]) (n:=40) (m:=255) (by omega)).symm
 ·exact eqB_t.2 rfl
 ·rw[eqB_t,e7]
  rfl
theorem works_ok21:ValidF Tryd.prog gl0 5 cTrue:=by
 refine valid_flat (enters_of (by kernel_rfl)) gl0_noY fun args H Q hc => ?_
 unfold cTrue at hc
 split at hc
 ·obtain ⟨hv,hb',h⟩:=works_run (Q:=fun o H' _=>H'=[]∧(∃v,o=.ret v∧old 0 v=true∧noY v=true)∧Q o H) ⟨rfl,⟨_,rfl,rfl,rfl⟩,hc⟩
  exact ⟨rfl,rfl,_,1000,envFor18 smW_ok _ hv hb',rfl,h⟩
 ·exact hc.elim
def smL:SM:=lookS [(5,cTrue),(6,cSecret),(7,cMast),(8,cExpo)]
theorem smL_ok:∀f g,smL f=some g→ValidF Tryd.prog gl0 f g:=lookS_ok _ (by simp only[List.mem_cons,List.not_mem_nil,or_false,forall_eq_or_imp,forall_eq];exact ⟨works_ok21,secret_ok,mast_ok,expo_ok⟩)
noncomputable def goal_3 (hv:Nat→Option Pa) (hb:Nat→Option Bool) (a b c d x y n0 n1:Int) (Q:Out→List Blk→Gh→Prop):Prop:=
 callx (e18 smL (fun _=>none) hv hb) (wpx (e18 smL (fun _=>none) hv hb) 1000) 3 [.agg [.int .u8 a,.int .u8 b,.int .u8 c,.int .u8 d],.int .u8 x,.int .u8 y,.agg [.int .u8 n0,.int .u8 n1]] [] {} Q
theorem vc_3 (a:Int) (b:Int) (c:Int) (d:Int) (x:Int) (y:Int) (n0:Int) (n1:Int) (Q:Out→List Blk→Gh→Prop):goal_3 (lookV [(12317,.int .u8),(12318,.int .i64),(12320,.int .u8),(12321,.int .i64),(12338,.int
 .i64),(12346,.int .u8),(12347,.int .i64),(12348,.int .i64),(12353,.int .u8),(12354,.int .i64),(12355,.int .i64),(12359,.int .i64),(12397,.int .i64),(12403,.int .i64),(94214,.int .i64),(94216,.int .i64),(94221,.int
 .i64),(94222,.str)]) (lookB []) a b c d x y n0 n1 Q=(∀s_0:List UInt8,Lf (s_0.length=32)→exI .u8 (x.tmod 21) fun n_1=>exW .i64 n_1 fun n_2=>exI .u8 (y.tmod 21) fun n_3=>exW .i64 n_3 fun n_4=>∀s_5:List UInt8,∀e_6 :
 Int,Lf (mastM s_0 n_2=Prod.mk s_5 e_6)→∀s_7:List UInt8,∀e_8:Int,Lf (mastM s_5 n_4=Prod.mk s_7 e_8)→exW .i64 (n_2+n_4) fun n_9=>∀s_10:List UInt8,∀e_11:Int,Lf (mastM s_0 n_9=Prod.mk s_10 e_11)→exI .u8 (imin
 n0 n1) fun n_12=>exW .i64 n_12 fun n_13=>exW .i64 (1+n_13) fun n_14=>exI .u8 (imax n0 n1) fun n_15=>exW .i64 n_15 fun n_16=>exW .i64 (1+n_16) fun n_17=>bif decide (n_17>255) then exI .i64 (imin n_14 255) fun n_18=>Lf
 (List.length [108,97,98,101,108]≤9223372036854775807)∧∀s_19:List UInt8,∀e_20:Int,Lf (expoM s_5 [99] [108,97,98,101,108] n_18=Prod.mk s_19 e_20)→Lf (List.length [108,97,98,101,108]≤9223372036854775807)∧∀s_21
 : List UInt8,∀e_22:Int,Lf (expoM s_5 [99] [108,97,98,101,108] 255=Prod.mk s_21 e_22)→bif e_6==0 then bif e_8==0 then bif e_11==0 then bif eqB s_7 s_10 then bif e_20==0 then bif e_22==0 then exI .i64 (s_19.length :
 Int) fun n_23=>bif n_23==n_18 then exI .i64 (s_21.length:Int) fun n_24=>bif n_24==255 then exI .i64 (s_21.length:Int) fun n_25=>exI .i64 (s_19.length:Int) fun n_26=>bif decide (n_25≥n_26) then exI .i64 (s_19.length :
 Int) fun n_27=>ckQ (decide (0≤n_27)&&true&&Nat.ble n_27.toNat s_21.length) (exS (.str ((s_21.drop 0).take (n_27.toNat-0))) fun s_28=>bif eqB s_28 s_19 then Q (.ret (.bool true)) [] {} else Q (.ret (.bool false)) [] {}) else Q
 (.ret (.bool false)) [] {} else Q (.ret (.bool false)) [] {} else Q (.ret (.bool false)) [] {} else Q (.ret (.bool false)) [] {} else Q (.ret (.bool false)) [] {} else Q (.ret (.bool false)) [] {} else Q (.ret (.bool false)) [] {} else Q
 (.ret (.bool false)) [] {} else Q (.ret (.bool false)) [] {} else Lf (List.length [108,97,98,101,108]≤9223372036854775807)∧∀s_18:List UInt8,∀e_19:Int,Lf (expoM s_5 [99] [108,97,98,101,108] n_14=Prod.mk s_18 e_19)→Lf
 (List.length [108,97,98,101,108]≤9223372036854775807)∧∀s_20:List UInt8,∀e_21:Int,Lf (expoM s_5 [99] [108,97,98,101,108] n_17=Prod.mk s_20 e_21)→bif e_6==0 then bif e_8==0 then bif e_11==0 then bif eqB s_7 s_10
 then bif e_19==0 then bif e_21==0 then exI .i64 (s_18.length:Int) fun n_22=>bif n_22==n_14 then exI .i64 (s_20.length:Int) fun n_23=>bif n_23==n_17 then exI .i64 (s_20.length:Int) fun n_24=>exI .i64 (s_18.length:Int)
 fun n_25=>bif decide (n_24≥n_25) then exI .i64 (s_18.length:Int) fun n_26=>ckQ (decide (0≤n_26)&&true&&Nat.ble n_26.toNat s_20.length) (exS (.str ((s_20.drop 0).take (n_26.toNat-0))) fun s_27=>bif eqB s_27 s_18 then Q
 (.ret (.bool true)) [] {} else Q (.ret (.bool false)) [] {}) else Q (.ret (.bool false)) [] {} else Q (.ret (.bool false)) [] {} else Q (.ret (.bool false)) [] {} else Q (.ret (.bool false)) [] {} else Q (.ret (.bool false)) [] {} else Q
 (.ret (.bool false)) [] {} else Q (.ret (.bool false)) [] {} else Q (.ret (.bool false)) [] {} else Q (.ret (.bool false)) [] {}):=by kernel_rfl

end Go.Proofs.YtjenieljapmehaaDoor
