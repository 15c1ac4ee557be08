/-
  Chapter 21: ExportMeets: residual.
-/
import Derived.Test.YtjenieljapmehaaGreatDoorG21RU
import Derived.Test.YtjenieljapmehaaGreatDoorR21W1
set_option linter.unusedSimpArgs false
set_option linter.unusedVariables false
set_option linter.unusedSectionVars false
namespace Go.Proofs.YtjenieljapmehaaGreatDoor
open Go.RowKit
set_option maxRecDepth 1000000

def smMt:SM:=lookS [(10,cTrue),(7,cSecret),(13,cRecU),(15,cMedU),(17,Rc.cChkS),(18,Rc.cChkR),(19,Rc.cSealR),(20,Rc.cOpenR)]
theorem smMt_ok:∀f g,smMt f=some g→ValidF Tryz.prog gl0 f g:=lookS_ok _ (by simp only[List.mem_cons,List.not_mem_nil,or_false,forall_eq_or_imp,forall_eq];exact ⟨works_ok21,secret_ok,recu_ok,medu_ok,Rc.chkS_ok,Rc.chkR_ok,Rc.sealR_ok,Rc.openR_ok⟩)
noncomputable def goal_g5t (hv:Nat→Option Pa) (hb:Nat→Option Bool) (a b c d x kind:Int) (body:List UInt8) (Q:Out→List Blk→Gh→Prop):Prop:=
 callx (e18 smMt (fun _=>none) hv hb) (wpx (e18 smMt (fun _=>none) hv hb) 1000) 5 [.agg [.int .u8 a,.int .u8 b,.int .u8 c,.int .u8 d],.int .u8 x,.bool true,.int .u8 kind,.str body] [] {} Q
theorem vc_g5t (a:Int) (b:Int) (c:Int) (d:Int) (x:Int) (kind:Int) (body:List UInt8) (Q:Out→List Blk→Gh→Prop):goal_g5t (lookV [(20516,.int .u8),(20517,.int .i64),(20588,.int .i64),(20589,.int .i64),(20590,
 .str),(20594,.int .i64),(20604,.agg [(.int .i64),(.str),(.str),(.int .i64),(.int .u64)]),(20615,.int .i64),(20621,.agg [.int .i64,.int .i64,.int .i64,.str]),(20623,.int .i64),(20632,.int .i64),(20638,.int .i64),
 (20644,.int .i64)]) (lookB []) a b c d x kind body Q=(∀s_0:List UInt8,Lf (s_0.length=32)→exI .u8 (x.tmod 21) fun n_1=>exW .i64 n_1 fun n_2=>∀p_3:Int,∀k1_4 s1_5 k2_6 s2_7:List UInt8,∀t_8 e_9:Int,Lf (recAM s_0 n_2
 true=Prod.mk p_3 (Prod.mk k1_4 (Prod.mk s1_5 (Prod.mk k2_6 (Prod.mk s2_7 (Prod.mk t_8 e_9))))))→∀p_10:Int,∀k1_11 s1_12 k2_13 s2_14:List UInt8,∀t_15 e_16:Int,Lf (recAM s_0 n_2 false=Prod.mk p_10 (Prod.mk k1_11 (Prod.mk
 s1_12 (Prod.mk k2_13 (Prod.mk s2_14 (Prod.mk t_15 e_16))))))→∀k1_17 s1_18 x1_19 k2_20 s2_21 x2_22:List UInt8,∀e_23:Int,Lf (medAM s_0 n_2 true=Prod.mk k1_17 (Prod.mk s1_18 (Prod.mk x1_19 (Prod.mk k2_20 (Prod.mk s2_21 (Prod.mk
 x2_22 e_23))))))→∀k1_24 s1_25 x1_26 k2_27 s2_28 x2_29:List UInt8,∀e_30:Int,Lf (medAM s_0 n_2 false=Prod.mk k1_24 (Prod.mk s1_25 (Prod.mk x1_26 (Prod.mk k2_27 (Prod.mk s2_28 (Prod.mk x2_29 e_30))))))→bif e_9 !=0 then Q (.ret
 (.bool false)) [] {} else bif e_16 !=0 then Q (.ret (.bool false)) [] {} else bif e_23 !=0 then Q (.ret (.bool false)) [] {} else bif e_30 !=0 then Q (.ret (.bool false)) [] {} else bif !(eqB k1_17 k2_27&&(eqB s1_18 s2_28&&(eqB
 x1_19 x2_29&&true))) then Q (.ret (.bool false)) [] {} else bif !(eqB k2_20 k1_24&&(eqB s2_21 s1_25&&(eqB x2_22 x1_26&&true))) then Q (.ret (.bool false)) [] {} else ∀x_31:Int,Lf (x_31=Rc.chkM (Rc.sndOkM p_3 0 k1_4 s1_5)) →
 bif x_31 !=0 then Q (.ret (.bool false)) [] {} else ∃k_32:Nat,Lf (0=(k_32:Int)∧k_32<18446744073709551616)∧∀x_33:Int,Lf (x_33=Rc.chkM (Rc.rcvOkM p_10 k2_13 s2_14 t_15 k_32))→bif x_33 !=0 then Q (.ret (.bool false))
 [] {} else exI .i64 (body.length:Int) fun n_34=>exI .i64 (imin n_34 100) fun n_35=>ckQ (decide (0≤n_35)&&true&&Nat.ble n_35.toNat body.length) (exS (.str ((body.drop 0).take (n_35.toNat-0))) fun s_36=>exW .i64 kind fun n_37
 => Lf (Rc.sndOkM p_3 0 k1_4 s1_5=true∧(0:Int)≤(281474976710655:Int)∧(0≤n_37∧n_37≤255)∧s_36.length≤984)∧∀box_38:List UInt8,Lf (box_38=Rc.boxM p_3 0 k1_4 s1_5 n_37 s_36)→∃k_39:Nat,Lf (0=(k_39:Int) ∧
 k_39<18446744073709551616∧Rc.rcvOkM p_10 k2_13 s2_14 t_15 k_39=true∧box_38.length≤9223372036854775807)∧∀l_40:List Rc.Rc,∀f_41:Int,Lf (Rc.decM box_38=Prod.mk l_40 f_41)→bif f_41 !=0 then ∃n_42 s_43 s_44 n_45 n_46,
 AV.agg [.int .i64 0,.str [],.str [],.int .i64 0,.int .u64 0]=AV.agg [.int .i64 n_42,.str s_43,.str s_44,.int .i64 n_45,.int .u64 n_46]∧bif f_41==0 then exI .i64 0 fun n_47=>bif n_47==1 then False else Q (.ret (.bool
 false)) [] {} else Q (.ret (.bool false)) [] {} else ∀a_42:Int,∀b_43:Nat,∀out_44:List Rc.Rc,Lf (Rc.opensM p_10 k2_13 s2_14 (Prod.mk t_15 k_39) l_40=Prod.mk (Prod.mk a_42 b_43) out_44∧Rc.okWM a_42 b_43=true∧b_43 <
 18446744073709551616∧List.all l_40 Rc.rightRM=true)→∃n_45 s_46 s_47 n_48 n_49,AV.agg [.int .i64 p_10,.str k2_13,.str s2_14,.int .i64 a_42,.int .u64 (b_43:Int)]=AV.agg [.int .i64 n_45,.str s_46,.str s_47,.int .i64 n_48,
 .int .u64 n_49]∧exI .i64 (out_44.length:Int) fun n_50=>bif n_50==1 then ckQ (Nat.blt 0 out_44.length&&true) (ckQ (Nat.ble 4 (Rc.cellsRM out_44).length) (∃n_51 n_52 n_53 s_54,AV.agg (((Rc.cellsRM out_44).drop 0).take 4)=AV.agg
 [.int .i64 n_51,.int .i64 n_52,.int .i64 n_53,.str s_54]∧exW .i64 kind fun n_55=>bif n_51==n_55&&(n_52==n_2&&(n_53==0&&(eqB s_54 s_36&&true))) then exI .i64 (k1_17.length:Int) fun n_56=>bif n_56==32 then exI .i64
 (s1_18.length:Int) fun n_57=>bif n_57==12 then exI .i64 (x1_19.length:Int) fun n_58=>bif n_58==32 then Q (.ret (.bool true)) [] {} else Q (.ret (.bool false)) [] {} else Q (.ret (.bool false)) [] {} else Q (.ret (.bool false))
 [] {} else Q (.ret (.bool false)) [] {})) else Q (.ret (.bool false)) [] {})):=by kernel_rfl

noncomputable def goal_g5f (hv:Nat→Option Pa) (hb:Nat→Option Bool) (a b c d x kind:Int) (body:List UInt8) (Q:Out→List Blk→Gh→Prop):Prop:=
 callx (e18 smMt (fun _=>none) hv hb) (wpx (e18 smMt (fun _=>none) hv hb) 1000) 5 [.agg [.int .u8 a,.int .u8 b,.int .u8 c,.int .u8 d],.int .u8 x,.bool false,.int .u8 kind,.str body] [] {} Q
theorem vc_g5f (a:Int) (b:Int) (c:Int) (d:Int) (x:Int) (kind:Int) (body:List UInt8) (Q:Out→List Blk→Gh→Prop):goal_g5f (lookV [(20516,.int .u8),(20517,.int .i64),(20588,.int .i64),(20589,.int .i64),(20590,
 .str),(20594,.int .i64),(20604,.agg [(.int .i64),(.str),(.str),(.int .i64),(.int .u64)]),(20615,.int .i64),(20621,.agg [.int .i64,.int .i64,.int .i64,.str]),(20623,.int .i64),(20632,.int .i64),(20638,.int .i64),
 (20644,.int .i64)]) (lookB []) a b c d x kind body Q=(∀s_0:List UInt8,Lf (s_0.length=32)→exI .u8 (x.tmod 21) fun n_1=>exW .i64 n_1 fun n_2=>∀p_3:Int,∀k1_4 s1_5 k2_6 s2_7:List UInt8,∀t_8 e_9:Int,Lf (recAM s_0 n_2
 false=Prod.mk p_3 (Prod.mk k1_4 (Prod.mk s1_5 (Prod.mk k2_6 (Prod.mk s2_7 (Prod.mk t_8 e_9))))))→∀p_10:Int,∀k1_11 s1_12 k2_13 s2_14:List UInt8,∀t_15 e_16:Int,Lf (recAM s_0 n_2 true=Prod.mk p_10 (Prod.mk k1_11 (Prod.mk
 s1_12 (Prod.mk k2_13 (Prod.mk s2_14 (Prod.mk t_15 e_16))))))→∀k1_17 s1_18 x1_19 k2_20 s2_21 x2_22:List UInt8,∀e_23:Int,Lf (medAM s_0 n_2 false=Prod.mk k1_17 (Prod.mk s1_18 (Prod.mk x1_19 (Prod.mk k2_20 (Prod.mk s2_21 (Prod.mk
 x2_22 e_23))))))→∀k1_24 s1_25 x1_26 k2_27 s2_28 x2_29:List UInt8,∀e_30:Int,Lf (medAM s_0 n_2 true=Prod.mk k1_24 (Prod.mk s1_25 (Prod.mk x1_26 (Prod.mk k2_27 (Prod.mk s2_28 (Prod.mk x2_29 e_30))))))→bif e_9 !=0 then Q (.ret
 (.bool false)) [] {} else bif e_16 !=0 then Q (.ret (.bool false)) [] {} else bif e_23 !=0 then Q (.ret (.bool false)) [] {} else bif e_30 !=0 then Q (.ret (.bool false)) [] {} else bif !(eqB k1_17 k2_27&&(eqB s1_18 s2_28&&(eqB
 x1_19 x2_29&&true))) then Q (.ret (.bool false)) [] {} else bif !(eqB k2_20 k1_24&&(eqB s2_21 s1_25&&(eqB x2_22 x1_26&&true))) then Q (.ret (.bool false)) [] {} else ∀x_31:Int,Lf (x_31=Rc.chkM (Rc.sndOkM p_3 0 k1_4 s1_5)) →
 bif x_31 !=0 then Q (.ret (.bool false)) [] {} else ∃k_32:Nat,Lf (0=(k_32:Int)∧k_32<18446744073709551616)∧∀x_33:Int,Lf (x_33=Rc.chkM (Rc.rcvOkM p_10 k2_13 s2_14 t_15 k_32))→bif x_33 !=0 then Q (.ret (.bool false))
 [] {} else exI .i64 (body.length:Int) fun n_34=>exI .i64 (imin n_34 100) fun n_35=>ckQ (decide (0≤n_35)&&true&&Nat.ble n_35.toNat body.length) (exS (.str ((body.drop 0).take (n_35.toNat-0))) fun s_36=>exW .i64 kind fun n_37
 => Lf (Rc.sndOkM p_3 0 k1_4 s1_5=true∧(0:Int)≤(281474976710655:Int)∧(0≤n_37∧n_37≤255)∧s_36.length≤984)∧∀box_38:List UInt8,Lf (box_38=Rc.boxM p_3 0 k1_4 s1_5 n_37 s_36)→∃k_39:Nat,Lf (0=(k_39:Int) ∧
 k_39<18446744073709551616∧Rc.rcvOkM p_10 k2_13 s2_14 t_15 k_39=true∧box_38.length≤9223372036854775807)∧∀l_40:List Rc.Rc,∀f_41:Int,Lf (Rc.decM box_38=Prod.mk l_40 f_41)→bif f_41 !=0 then ∃n_42 s_43 s_44 n_45 n_46,
 AV.agg [.int .i64 0,.str [],.str [],.int .i64 0,.int .u64 0]=AV.agg [.int .i64 n_42,.str s_43,.str s_44,.int .i64 n_45,.int .u64 n_46]∧bif f_41==0 then exI .i64 0 fun n_47=>bif n_47==1 then False else Q (.ret (.bool
 false)) [] {} else Q (.ret (.bool false)) [] {} else ∀a_42:Int,∀b_43:Nat,∀out_44:List Rc.Rc,Lf (Rc.opensM p_10 k2_13 s2_14 (Prod.mk t_15 k_39) l_40=Prod.mk (Prod.mk a_42 b_43) out_44∧Rc.okWM a_42 b_43=true∧b_43 <
 18446744073709551616∧List.all l_40 Rc.rightRM=true)→∃n_45 s_46 s_47 n_48 n_49,AV.agg [.int .i64 p_10,.str k2_13,.str s2_14,.int .i64 a_42,.int .u64 (b_43:Int)]=AV.agg [.int .i64 n_45,.str s_46,.str s_47,.int .i64 n_48,
 .int .u64 n_49]∧exI .i64 (out_44.length:Int) fun n_50=>bif n_50==1 then ckQ (Nat.blt 0 out_44.length&&true) (ckQ (Nat.ble 4 (Rc.cellsRM out_44).length) (∃n_51 n_52 n_53 s_54,AV.agg (((Rc.cellsRM out_44).drop 0).take 4)=AV.agg
 [.int .i64 n_51,.int .i64 n_52,.int .i64 n_53,.str s_54]∧exW .i64 kind fun n_55=>bif n_51==n_55&&(n_52==n_2&&(n_53==0&&(eqB s_54 s_36&&true))) then exI .i64 (k1_17.length:Int) fun n_56=>bif n_56==32 then exI .i64
 (s1_18.length:Int) fun n_57=>bif n_57==12 then exI .i64 (x1_19.length:Int) fun n_58=>bif n_58==32 then Q (.ret (.bool true)) [] {} else Q (.ret (.bool false)) [] {} else Q (.ret (.bool false)) [] {} else Q (.ret (.bool false))
 [] {} else Q (.ret (.bool false)) [] {})) else Q (.ret (.bool false)) [] {})):=by kernel_rfl

end Go.Proofs.YtjenieljapmehaaGreatDoor

set_option linter.unusedSimpArgs false
set_option linter.unusedVariables false
set_option linter.unusedSectionVars false
namespace Go.Proofs.YtjenieljapmehaaGreatDoor
open Go.RowKit
set_option maxRecDepth 1000000

theorem recA_t {m:List UInt8} (h:m.length=32) {r:Int} (h1:0≤r) (h2:r≤1000):recAM m r true=(r,(recSM m r).take 32,((recSM m r).drop 32).take 12,((recSM m r).drop 44).take 32,((recSM m r).drop 76).take 12, -1,0):=by
 rw[recAM,if_pos (show okRndM m r=true from decide_eq_true ⟨h,h1,h2⟩),recM,if_pos rfl]
theorem recA_f {m:List UInt8} (h:m.length=32) {r:Int} (h1:0≤r) (h2:r≤1000):recAM m r false=(r,((recSM m r).drop 44).take 32,((recSM m r).drop 76).take 12,(recSM m r).take 32,((recSM m r).drop 32).take 12, -1,0):=by
 rw[recAM,if_pos (show okRndM m r=true from decide_eq_true ⟨h,h1,h2⟩),recM,if_neg (by simp)]
theorem medA_t {m:List UInt8} (h:m.length=32) {r:Int} (h1:0≤r) (h2:r≤1000):medAM m r true=((medSM m r).take 32,((medSM m r).drop 32).take 12,((medSM m r).drop 44).take 32,((medSM m r).drop 76).take 32,((medSM m r).drop 108).take 12,((medSM m r).drop 120).take 32,0):=by
 rw[medAM,if_pos (show okRndM m r=true from decide_eq_true ⟨h,h1,h2⟩),medM,if_pos rfl]
theorem medA_f {m:List UInt8} (h:m.length=32) {r:Int} (h1:0≤r) (h2:r≤1000):medAM m r false=(((medSM m r).drop 76).take 32,((medSM m r).drop 108).take 12,((medSM m r).drop 120).take 32,(medSM m r).take 32,((medSM m r).drop 32).take 12,((medSM m r).drop 44).take 32,0):=by
 rw[medAM,if_pos (show okRndM m r=true from decide_eq_true ⟨h,h1,h2⟩),medM,if_neg (by simp)]
theorem snd_at {r:Int} {K S:List UInt8} (h1:0≤r) (h2:r≤1000) (hK:K.length=32) (hS:S.length=12):Rc.sndOkM r 0 K S=true:=by
 rw[Rc.sndOkM,hK,hS]
 simp
 omega
theorem rcv_at {r:Int} {K S:List UInt8} (h1:0≤r) (h2:r≤1000) (hK:K.length=32) (hS:S.length=12):Rc.rcvOkM r K S (-1) 0=true:=by
 rw[Rc.rcvOkM,hK,hS,show Rc.okWM (-1) 0=true from by kernel_rfl]
 simp
 omega
theorem fresh0:Rc.isFreshM (-1) 0 0=true:=by kernel_rfl
theorem box_len {r:Int} {K S:List UInt8} {kind:Int} {b:List UInt8} (hK:K.length=32) (hS:S.length=12) (hb:b.length≤984):(Rc.boxM r 0 K S kind b).length≤9223372036854775807:=by
 rw[Rc.box_rec hK hS hb,Rc.recM,List.length_append,Rc.boxR_len hK hS hb]
 have:∀ (x:Rc.Rc) (n:Int),(Rc.headM x n).length=11:=fun x n=>by simp[Rc.headM,Rc.beBM]
 rw[this]
 omega
set_option maxHeartbeats 2000000 in
theorem meetsT_run (a b c d x kind:Int) (body:List UInt8) (hx:0≤x∧x≤255) (hk:0≤kind∧kind≤255) (hb:body.length≤9223372036854775807) (Q:Out→List Blk→Gh→Prop) (hq:Q (.ret (.bool true)) [] {}):∃hv hb,goal_g5t hv hb a b c d x kind body Q:=by
 obtain ⟨hv',hb',e'⟩:∃hv hb,goal_g5t hv hb a b c d x kind body Q=_:=⟨_,_,vc_g5t a b c d x kind body Q⟩
 refine ⟨hv',hb',e'.mpr ?_⟩
 clear e'
 have tx:Int.tmod x 21=x%21:=Int.tmod_eq_emod_of_nonneg hx.1
 rw[tx]
 have r1:0≤x%21:=by omega
 have r2:x%21≤1000:=by omega
 generalize x%21=r at r1 r2 ⊢
 rintro s0 ⟨h0⟩
 have hol:(recSM s0 r).length=88:=oct_len (by omega) (by omega)
 have hml:(medSM s0 r).length=152:=oct_len (by omega) (by omega)
 have m1:=iminI (body.length:Int) 100 (by omega) (by omega)
 refine ⟨_,rfl,wrapI (by omega) (by omega) ?_⟩
 rintro p3 k1 s1 k2 s2 t8 e9 ⟨h⟩
 rw[recA_t h0 r1 r2] at h
 cases h
 rintro p10 k1 s1 k2 s2 t8 e9 ⟨h⟩
 rw[recA_f h0 r1 r2] at h
 cases h
 rintro k1 s1 x1 k2 s2 x2 e ⟨h⟩
 rw[medA_t h0 r1 r2] at h
 cases h
 rintro k1 s1 x1 k2 s2 x2 e ⟨h⟩
 rw[medA_f h0 r1 r2] at h
 cases h
 have hK:((recSM s0 r).take 32).length=32:=by rw[List.length_take];omega
 have hS:(((recSM s0 r).drop 32).take 12).length=12:=by rw[List.length_take,List.length_drop];omega
 have q1:((medSM s0 r).take 32).length=32:=by rw[List.length_take];omega
 have q2:(((medSM s0 r).drop 32).take 12).length=12:=by rw[List.length_take,List.length_drop];omega
 have q3:(((medSM s0 r).drop 44).take 32).length=32:=by rw[List.length_take,List.length_drop];omega
 generalize (recSM s0 r).take 32=K at hK ⊢
 generalize ((recSM s0 r).drop 32).take 12=S at hS ⊢
 have hs:=snd_at r1 r2 hK hS
 have hr:=rcv_at r1 r2 hK hS
 refine ckN rfl (ckN rfl (ckN rfl (ckN rfl (ckN (by simp[eqBs]) (ckN (by simp[eqBs]) ?_)))))
 rintro y ⟨hy⟩
 rw[hs] at hy
 subst hy
 refine ckN rfl ⟨0,⟨rfl,by omega⟩, ?_⟩
 rintro y ⟨hy⟩
 rw[hr] at hy
 subst hy
 refine ckN rfl ⟨_,rfl,_,rfl,ckI (by simp;omega) ⟨_,rfl,wrapI (by omega) (by omega) ?_⟩⟩
 have hb2:(List.take ((imin (body.length:Int) 100).toNat-0) (List.drop 0 body)).length≤984:=by
  rw[List.length_take]
  omega
 generalize List.take ((imin (body.length:Int) 100).toNat-0) (List.drop 0 body)=bd at hb2 ⊢
 refine ⟨⟨hs,by omega,hk,hb2⟩, ?_⟩
 rintro box ⟨rfl⟩
 refine ⟨0,⟨rfl,by omega,hr,box_len hK hS hb2⟩, ?_⟩
 rintro l f ⟨hd⟩
 rw[Rc.box_dec hK hS hb2 hk ⟨r1,by omega⟩ ⟨by omega,by omega⟩] at hd
 cases hd
 refine ckN rfl ?_
 rintro w1 w2 out ⟨ho,_,_,_⟩
 rw[Rc.opens_box hK hS hb2,if_pos fresh0] at ho
 obtain ⟨_,rfl⟩:=Prod.mk.inj ho
 refine ⟨_,_,_,_,_,rfl,_,rfl,ckT rfl (ckI rfl (ckI rfl ⟨_,_,_,_,rfl,wrapI (by omega) (by omega) (ckT (by simp[eqBs]) ⟨_,rfl,ckT (by rw[q1];rfl) ⟨_,rfl,ckT (by rw[q2];rfl) ⟨_,rfl,ckT (by rw[q3];rfl) hq⟩⟩⟩)⟩))⟩
set_option maxHeartbeats 2000000 in
theorem meetsF_run (a b c d x kind:Int) (body:List UInt8) (hx:0≤x∧x≤255) (hk:0≤kind∧kind≤255) (hb:body.length≤9223372036854775807) (Q:Out→List Blk→Gh→Prop) (hq:Q (.ret (.bool true)) [] {}):∃hv hb,goal_g5f hv hb a b c d x kind body Q:=by
 obtain ⟨hv',hb',e'⟩:∃hv hb,goal_g5f hv hb a b c d x kind body Q=_:=⟨_,_,vc_g5f a b c d x kind body Q⟩
 refine ⟨hv',hb',e'.mpr ?_⟩
 clear e'
 have tx:Int.tmod x 21=x%21:=Int.tmod_eq_emod_of_nonneg hx.1
 rw[tx]
 have r1:0≤x%21:=by omega
 have r2:x%21≤1000:=by omega
 generalize x%21=r at r1 r2 ⊢
 rintro s0 ⟨h0⟩
 have hol:(recSM s0 r).length=88:=oct_len (by omega) (by omega)
 have hml:(medSM s0 r).length=152:=oct_len (by omega) (by omega)
 have m1:=iminI (body.length:Int) 100 (by omega) (by omega)
 refine ⟨_,rfl,wrapI (by omega) (by omega) ?_⟩
 rintro p3 k1 s1 k2 s2 t8 e9 ⟨h⟩
 rw[recA_f h0 r1 r2] at h
 cases h
 rintro p10 k1 s1 k2 s2 t8 e9 ⟨h⟩
 rw[recA_t h0 r1 r2] at h
 cases h
 rintro k1 s1 x1 k2 s2 x2 e ⟨h⟩
 rw[medA_f h0 r1 r2] at h
 cases h
 rintro k1 s1 x1 k2 s2 x2 e ⟨h⟩
 rw[medA_t h0 r1 r2] at h
 cases h
 have hK:(((recSM s0 r).drop 44).take 32).length=32:=by rw[List.length_take,List.length_drop];omega
 have hS:(((recSM s0 r).drop 76).take 12).length=12:=by rw[List.length_take,List.length_drop];omega
 have q1:(((medSM s0 r).drop 76).take 32).length=32:=by rw[List.length_take,List.length_drop];omega
 have q2:(((medSM s0 r).drop 108).take 12).length=12:=by rw[List.length_take,List.length_drop];omega
 have q3:(((medSM s0 r).drop 120).take 32).length=32:=by rw[List.length_take,List.length_drop];omega
 generalize ((recSM s0 r).drop 44).take 32=K at hK ⊢
 generalize ((recSM s0 r).drop 76).take 12=S at hS ⊢
 have hs:=snd_at r1 r2 hK hS
 have hr:=rcv_at r1 r2 hK hS
 refine ckN rfl (ckN rfl (ckN rfl (ckN rfl (ckN (by simp[eqBs]) (ckN (by simp[eqBs]) ?_)))))
 rintro y ⟨hy⟩
 rw[hs] at hy
 subst hy
 refine ckN rfl ⟨0,⟨rfl,by omega⟩, ?_⟩
 rintro y ⟨hy⟩
 rw[hr] at hy
 subst hy
 refine ckN rfl ⟨_,rfl,_,rfl,ckI (by simp;omega) ⟨_,rfl,wrapI (by omega) (by omega) ?_⟩⟩
 have hb2:(List.take ((imin (body.length:Int) 100).toNat-0) (List.drop 0 body)).length≤984:=by
  rw[List.length_take]
  omega
 generalize List.take ((imin (body.length:Int) 100).toNat-0) (List.drop 0 body)=bd at hb2 ⊢
 refine ⟨⟨hs,by omega,hk,hb2⟩, ?_⟩
 rintro box ⟨rfl⟩
 refine ⟨0,⟨rfl,by omega,hr,box_len hK hS hb2⟩, ?_⟩
 rintro l f ⟨hd⟩
 rw[Rc.box_dec hK hS hb2 hk ⟨r1,by omega⟩ ⟨by omega,by omega⟩] at hd
 cases hd
 refine ckN rfl ?_
 rintro w1 w2 out ⟨ho,_,_,_⟩
 rw[Rc.opens_box hK hS hb2,if_pos fresh0] at ho
 obtain ⟨_,rfl⟩:=Prod.mk.inj ho
 refine ⟨_,_,_,_,_,rfl,_,rfl,ckT rfl (ckI rfl (ckI rfl ⟨_,_,_,_,rfl,wrapI (by omega) (by omega) (ckT (by simp[eqBs]) ⟨_,rfl,ckT (by rw[q1];rfl) ⟨_,rfl,ckT (by rw[q2];rfl) ⟨_,rfl,ckT (by rw[q3];rfl) hq⟩⟩⟩)⟩))⟩
end Go.Proofs.YtjenieljapmehaaGreatDoor
