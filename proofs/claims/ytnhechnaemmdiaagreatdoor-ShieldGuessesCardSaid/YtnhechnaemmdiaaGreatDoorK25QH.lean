/-
  Chapter 25: three shields.
-/
import Derived.Test.YtnhechnaemmdiaaGreatDoorK25QG
set_option linter.unusedSimpArgs false
set_option linter.unusedVariables false
set_option linter.unusedSectionVars false
namespace Go.Proofs.YtnhechnaemmdiaaGreatDoor
open Go.RowKit
set_option maxRecDepth 1000000

def smS3:SM:=lookS [(49,cShieldD),(50,cBendS)]
theorem smS3_ok:∀f g,smS3 f=some g→ValidF Tryz.prog gl0 f g:=lookS_ok _ (by simp only[List.mem_cons,List.not_mem_nil,or_false,forall_eq_or_imp,forall_eq];exact ⟨shieldD_ok,bendS_ok⟩)
noncomputable def goal_p12 (hv:Nat→Option Pa) (hb:Nat→Option Bool) (key:List UInt8) (w:Nat) (fi:Nat) (ks:List Int) (ss:Nat) (w1 a1 n1 w2 a2 n2:Int) (Q:Out→List Blk→Gh→Prop):Prop:=
 callx (e04 smS3 (fun _=>none) hv hb) (wpx (e04 smS3 (fun _=>none) hv hb) 1000) 12 [.agg [.str key,.int .u16 (w:Nat),.int .u16 (fi:Nat),.lst 0 (c16M ks) ks.length 1,.int .u32 (ss:Nat)],.agg [.int .u8 w1,.int .u8 a1,.int .i64 n1,.int .u8 w2,.int .u8 a2,.int .i64 n2]] [] {} Q
theorem vc_p12 (key:List UInt8) (w:Nat) (fi:Nat) (ks:List Int) (ss:Nat) (w1:Int) (a1:Int) (n1:Int) (w2:Int) (a2:Int) (n2:Int) (Q:Out→List Blk→Gh→Prop):goal_p12 (lookV []) (lookB []) key w fi ks ss w1 a1 n1 w2
 a2 n2 Q=(∃w_0 fi_1 ss_2:Nat,∃ks_3:List Int,Lf ((w:Int)=(w_0:Int)∧(fi:Int)=(fi_1:Int)∧(ss:Int)=(ss_2:Int)∧c16M ks=c16M ks_3∧ks.length=ks_3.length∧w_0<65536∧key.length≤140737488351232∧fi_1 ≤
 65535∧ks_3.length≤9223372036854775807∧∀k_4:Int,Membership.mem ks_3 k_4 → -32768≤k_4∧k_4≤32767)∧∀a_4 b_5 c_6:List UInt8,∀xs_7:List Int,∀t_8:List Tr,∀nx_9 rs_10 rt_11:Int,∀rk_12:Nat,Lf (xs_7.length≤16
 ∧ t_8.length≤16∧trOk t_8∧(-9223372036854775808≤rt_11∧rt_11≤9223372036854775807)∧rk_12<18446744073709551616)→∃xs_13:List Int,∃l_14:List Tr,∃rk_15:Nat,Lf (cellsI xs_7=cellsI xs_13∧xs_7.length=xs_13.length
 ∧ trM t_8=trM l_14∧t_8.length=l_14.length∧(rk_12:Int)=(rk_15:Int)∧(0≤w1∧w1≤255)∧(0≤a1∧a1≤255)∧(-9223372036854775808≤n1∧n1≤9223372036854775807)∧xs_13.length≤1000∧l_14.length≤100∧trOk l_14 ∧
 (-9223372036854775808≤rt_11∧rt_11≤9223372036854775807)∧rk_15<18446744073709551616)∧∀a_16 b_17 c_18:List UInt8,∀xs'_19:List Int,∀t_20:List Tr,∀nx_21 rs_22 rt_23:Int,∀rk_24:Nat,Lf (xs'_19.length≤xs_13.length
 + 1∧t_20.length≤l_14.length+17∧trOk t_20∧(-9223372036854775808≤rt_23∧rt_23≤9223372036854775807)∧rk_24<18446744073709551616)→∃xs_25:List Int,∃l_26:List Tr,∃rk_27:Nat,Lf (cellsI xs'_19=cellsI xs_25 ∧
 xs'_19.length=xs_25.length∧trM t_20=trM l_26∧t_20.length=l_26.length∧(rk_24:Int)=(rk_27:Int)∧(0≤w2∧w2≤255)∧(0≤a2∧a2≤255)∧(-9223372036854775808≤n2∧n2≤9223372036854775807)∧xs_25.length≤1000 ∧
 l_26.length≤100∧trOk l_26∧(-9223372036854775808≤rt_23∧rt_23≤9223372036854775807)∧rk_27<18446744073709551616)∧∀a_28 b_29 c_30:List UInt8,∀xs'_31:List Int,∀t_32:List Tr,∀nx_33 rs_34 rt_35:Int,∀rk_36:Nat,
 Lf (xs'_31.length≤xs_25.length+1∧t_32.length≤l_26.length+17∧trOk t_32∧(-9223372036854775808≤rt_35∧rt_35≤9223372036854775807)∧rk_36<18446744073709551616)→ckQ (eqAVL [.str a_16,.str b_17,.str c_18,.lst 0 (cellsI
 xs'_19) xs'_19.length 1,.lst 0 (trM t_20) t_20.length 3,.int .i64 nx_21,.int .i64 rs_22,.int .i64 rt_23,.int .u64 (rk_24:Int)] [.str a_16,.str b_17,.str c_18,.lst 0 (cellsI xs'_19) xs'_19.length 1,.lst 0 (trM t_20) t_20.length
 3,.int .i64 nx_21,.int .i64 rs_22,.int .i64 rt_23,.int .u64 (rk_24:Int)]&&true) (ckQ (eqAVL [.str a_4,.str b_5,.str c_6,.lst 0 (cellsI xs_7) xs_7.length 1,.lst 0 (trM t_8) t_8.length 3,.int .i64 nx_9,.int .i64 rs_10,.int
 .i64 rt_11,.int .u64 (rk_12:Int)] [.str a_4,.str b_5,.str c_6,.lst 0 (cellsI xs_7) xs_7.length 1,.lst 0 (trM t_8) t_8.length 3,.int .i64 nx_9,.int .i64 rs_10,.int .i64 rt_11,.int .u64 (rk_12:Int)]&&true) (Q (.ret (.agg [.str
 a_4,.str b_5,.str c_6,.lst 0 (cellsI xs_7) xs_7.length 1,.lst 0 (trM t_8) t_8.length 3,.int .i64 nx_9,.int .i64 rs_10,.int .i64 rt_11,.int .u64 (rk_12:Int),.str a_16,.str b_17,.str c_18,.lst 0 (cellsI xs'_19) xs'_19.length 1,
 .lst 0 (trM t_20) t_20.length 3,.int .i64 nx_21,.int .i64 rs_22,.int .i64 rt_23,.int .u64 (rk_24:Int),.str a_28,.str b_29,.str c_30,.lst 0 (cellsI xs'_31) xs'_31.length 1,.lst 0 (trM t_32) t_32.length 3,.int .i64 nx_33,.int
 .i64 rs_34,.int .i64 rt_35,.int .u64 (rk_36:Int)])) [] {}))):=by kernel_rfl

abbrev ShD:=List UInt8×List UInt8×List UInt8×List Int×List Tr×Int×Int×Int×Nat
def shD (s:ShD) (K:List AV→Prop):Prop:=K [.str s.1,.str s.2.1,.str s.2.2.1,.lst 0 (cellsI s.2.2.2.1) s.2.2.2.1.length 1,.lst 0 (trM s.2.2.2.2.1) s.2.2.2.2.1.length 3,.int .i64 s.2.2.2.2.2.1,.int .i64 s.2.2.2.2.2.2.1,.int .i64 s.2.2.2.2.2.2.2.1,.int .u64 (s.2.2.2.2.2.2.2.2:Nat)]
def okSD (s:ShD):Prop:=s.2.2.2.1.length≤1000∧s.2.2.2.2.1.length≤1000∧trOk s.2.2.2.2.1∧(-9223372036854775808≤s.2.2.2.2.2.2.2.1∧s.2.2.2.2.2.2.2.1≤9223372036854775807)∧s.2.2.2.2.2.2.2.2<18446744073709551616
def cShields:Con
 | [.agg [.str key,.int .u16 u,.int .u16 f,.lst 0 l n 1,.int .u32 s],.agg [.int .u8 w1,.int .u8 a1,.int .i64 n1,.int .u8 w2,.int .u8 a2,.int .i64 n2]],H,K=>∃ (w fi ss:Nat) (ks:List Int),Lf ((u=(w:Int)∧f=(fi:Int)∧s=(ss:Int)∧l=c16M ks∧n=ks.length∧w<65536∧key.length≤140737488351232∧fi≤65535∧ks.length≤9223372036854775807∧∀k∈ks, -32768≤k∧k≤32767) ∧
    (0≤w1∧w1≤255)∧(0≤a1∧a1≤255)∧(-9223372036854775808≤n1∧n1≤9223372036854775807)∧(0≤w2∧w2≤255)∧(0≤a2∧a2≤255)∧(-9223372036854775808≤n2∧n2≤9223372036854775807)) ∧
   ∀x y z:ShD,Lf (okSD x∧okSD y∧okSD z)→shD x fun c1=>shD y fun c2=>shD z fun c3=>K (.ret (.agg (c1++c2++c3))) H
 | _,_,_=>False
theorem shields_ok:ValidF Tryz.prog gl0 12 cShields:=by
 refine valid_flat (enters_of (by kernel_rfl)) gl0_noY fun args H Q hc => ?_
 unfold cShields at hc
 split at hc
 ·rename_i key u f l n s w1 a1 n1 w2 a2 n2
  obtain ⟨w,fi,ss,ks,⟨⟨rfl,rfl,rfl,rfl,rfl,h0,h1,h2,h3,h4⟩,g1,g2,g3,g4,g5,g6⟩,hq⟩:=hc
  obtain ⟨hv,hb',e⟩:∃hv hb,goal_p12 hv hb key w fi ks ss w1 a1 n1 w2 a2 n2 (fun o H' _=>H'=[]∧(∃v,o=.ret v∧old 0 v=true∧noY v=true)∧Q o H)=_:=⟨_,_,vc_p12 key w fi ks ss w1 a1 n1 w2 a2 n2 _⟩
  refine ⟨by simp[oldL,old],by simp[noYL,noY],_,1000,envFor04 smS3_ok _ hv hb',rfl,e.mpr ?_⟩
  refine ⟨w,fi,ss,ks,⟨rfl,rfl,rfl,rfl,rfl,h0,h1,h2,h3,h4⟩, ?_⟩
  rintro a b c xs t nx rs rt rk ⟨i1,i2,i3,i4,i5⟩
  refine ⟨xs,t,rk,⟨rfl,rfl,rfl,rfl,rfl,g1,g2,g3,by omega,by omega,i3,i4,i5⟩, ?_⟩
  rintro a' b' c' xs' t' nx' rs' rt' rk' ⟨j1,j2,j3,j4,j5⟩
  refine ⟨xs',t',rk',⟨rfl,rfl,rfl,rfl,rfl,g4,g5,g6,by omega,by omega,j3,j4,j5⟩, ?_⟩
  rintro a'' b'' c'' xs'' t'' nx'' rs'' rt'' rk'' ⟨k1,k2,k3,k4,k5⟩
  exact ckF (ckF ⟨rfl,⟨_,rfl,by simp[oldL,old],by simp[noYL,noY]⟩,hq (a,b,c,xs,t,nx,rs,rt,rk) (a',b',c',xs',t',nx',rs',rt',rk') (a'',b'',c'',xs'',t'',nx'',rs'',rt'',rk'') ⟨⟨by dsimp only;omega,by dsimp only;omega,i3,i4,i5⟩,⟨by dsimp only;omega,by dsimp only;omega,j3,j4,j5⟩,⟨by dsimp only;omega,by dsimp only;omega,k3,k4,k5⟩⟩⟩)
 ·exact hc.elim
end Go.Proofs.YtnhechnaemmdiaaGreatDoor
