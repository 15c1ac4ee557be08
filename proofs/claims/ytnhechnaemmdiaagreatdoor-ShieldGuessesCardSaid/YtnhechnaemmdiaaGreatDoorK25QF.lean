/-
  Chapter 25: the shield of a draft.
-/
import Derived.Test.YtnhechnaemmdiaaGreatDoorK25QE
import Derived.Test.YtnhechnaemmdiaaGreatDoorK25F
import Derived.Test.YtnhechnaemmdiaaGreatDoorK25QR
set_option linter.unusedSimpArgs false
set_option linter.unusedVariables false
set_option linter.unusedSectionVars false
namespace Go.Proofs.YtnhechnaemmdiaaGreatDoor
open Go.RowKit
set_option maxRecDepth 1000000

def nearB (i:Nat) (t:Tr):Prop:=(-1≤t.2.1∧t.2.1≤65536*((i:Int)+1))∧t.2.2<18446744073709551616
abbrev XSh:=Nat×List Tr×Int×Int×Nat
def inv_49 (n:Nat) (s:S):List (List LInv):=match s.hp with
 | [b0,b1,⟨_,_,[.str a,.str b,.str c,.lst _ h hn _,_,_,.int _ rs,_,_]⟩]=>[[
  { α:=XSh,pre:=fun x=>Lf (x.1≤n∧x.2.1.length≤x.1∧(∀t∈x.2.1,nearB x.1 t)∧(-1≤x.2.2.2.1∧x.2.2.2.1≤65535)∧x.2.2.2.2<18446744073709551616),
    st:=fun x=>⟨mkT [(2,s.tm.get 2),(3,s.tm.get 3),(4,s.tm.get 4),(5,.int .i64 (x.1:Nat))],[b0,b1,⟨.exact,true,[.str a,.str b,.str c,.lst 0 h hn 1,.lst 0 (trM x.2.1) x.2.1.length 3,.int .i64 x.2.2.1,.int .i64 rs,.int .i64 x.2.2.2.1,.int .u64 (x.2.2.2.2:Nat)]⟩]⟩,mu:=fun x=>n-x.1 }]]
 | _=>[]
def smSh:SM:=lookS [(26,cStart),(36,cPackets),(72,cTrack),(60,cGuess0),(86,cOldH),(78,cEnterH),(77,cEntered)]
theorem smSh_ok:∀f g,smSh f=some g→ValidF Tryz.prog gl0 f g:=lookS_ok _ (by simp only[List.mem_cons,List.not_mem_nil,or_false,forall_eq_or_imp,forall_eq];exact ⟨start_ok,packets_ok,track_ok,rguess0_ok,old86_ok,enter78_ok,entered_ok⟩)
def inv_49s (s:S):List (List LInv):=match s.tm.get 4 with
 | .lst _ _ n _=>inv_49 n s
 | _=>[]
noncomputable def env_49 (hv:Nat→Option Pa) (hb:Nat→Option Bool):Env:=e04 smSh (fun i=>bif Nat.beq i 49000 then some inv_49s else none) hv hb
noncomputable def goal_p49 (hv:Nat→Option Pa) (hb:Nat→Option Bool) (key:List UInt8) (w:Nat) (fi:Nat) (ks:List Int) (ss:Nat) (Q:Out→List Blk→Gh→Prop):Prop:=
 callx (env_49 hv hb) (wpx (env_49 hv hb) 1000) 49 [.agg [.str key,.int .u16 (w:Nat),.int .u16 (fi:Nat),.lst 0 (c16M ks) ks.length 1,.int .u32 (ss:Nat)]] [] {} Q
theorem vc_p49 (key:List UInt8) (w:Nat) (fi:Nat) (ks:List Int) (ss:Nat) (Q:Out→List Blk→Gh→Prop):goal_p49 (lookV [(200717,.int .i64),(200719,.int .i64),(200726,.int .i64),(200729,.int .i64),(200731,.int .i64),
 (200732,.agg [(.int .i64),(.int .i64),(.int .u64)]),(200736,.int .i64),(200739,.int .i64),(200752,.agg [(.int .i64),(.int .i64),(.int .u64)]),(200754,.int .i64),(200757,.int .i64),(200770,.int .i64),(200773,.int .i64),
 (200721,.int .i64),(200722,.int .i64),(200761,.agg [(.int .i64),(.int .i64),(.int .u64)]),(200763,.int .i64),(200766,.int .i64),(200767,.agg [(.int .i64),(.int .i64),(.int .u64)]),(200749,.agg [(.int .i64),(.int .i64),
 (.int .u64)])]) (lookB []) key w fi ks ss Q=(∃w_0:Nat,∃ks_1:List Int,Lf ((w:Int)=(w_0:Int)∧c16M ks=c16M ks_1∧ks.length=ks_1.length∧w_0<65536∧key.length≤140737488351232)∧∀a_2 b_3 c_4:List UInt8,∀xs_5 :
 List Int,Lf (a_2=sizedM key 32∧b_3=sizedM (key++[(115:UInt8)]) 12∧c_4=sizedM (key++[(109:UInt8)]) 32∧xs_5=hidM w_0 16)→∃w_6 fi_7 ss_8:Nat,∃ks_9:List Int,Lf ((w:Int)=(w_6:Int)∧(fi:Int)=(fi_7 :
 Int)∧(ss:Int)=(ss_8:Int)∧c16M ks=c16M ks_9∧ks.length=ks_9.length∧fi_7≤65535∧ks_9.length≤9223372036854775807∧∀k_10:Int,Membership.mem ks_9 k_10 → -32768≤k_10∧k_10≤32767)∧∀ps_10:List (Int×Nat),Lf
 (ps_10.length≤16∧pkOk ps_10)→(∃x_11:Nat×List Tr×Int×Int×Nat,Lf (x_11.1≤ps_10.length∧x_11.2.1.length≤x_11.1∧(∀t_12:Tr,Membership.mem x_11.2.1 t_12→nearB x_11.1 t_12)∧(-1≤x_11.2.2.2.1∧x_11.2.2.2.1 ≤
 65535)∧x_11.2.2.2.2<18446744073709551616)∧eqqQ [AV.str key,.int .u16 (w:Int),.int .u16 (fi:Int),.lst 0 (c16M ks) ks.length 1,.int .u32 (ss:Int)]∧eqqQ [AV.str [],.str [],.str [],.nils,.nils,.int .i64 0,.int .i64 0,
 .int .i64 0,.int .u64 0]∧[AV.str a_2,.str b_3,.str c_4,.lst 0 (cellsI xs_5) xs_5.length 1,.lst 0 (trM []) 0 3,.int .i64 0,.int .i64 0,.int .i64 (-1),.int .u64 0]=[AV.str a_2,.str b_3,.str c_4,.lst 0 (cellsI xs_5)
 xs_5.length 1,.lst 0 (trM x_11.2.1) x_11.2.1.length 3,.int .i64 x_11.2.2.1,.int .i64 0,.int .i64 x_11.2.2.2.1,.int .u64 (x_11.2.2.2.2:Int)]∧eqqQ (AV.ptr 2 9 0)∧AV.int .i64 0=AV.int .i64 (x_11.1:Int)∧eqqQ (AV.ptr 1 9 0) ∧
 eqqQ (AV.lst 0 (pksM ps_10) ps_10.length 9)∧True)∧∀x_11:Nat×List Tr×Int×Int×Nat,Lf (x_11.1≤ps_10.length∧x_11.2.1.length≤x_11.1∧(∀t_12:Tr,Membership.mem x_11.2.1 t_12→nearB x_11.1 t_12)∧(-1≤x_11.2.2.2.1 ∧
 x_11.2.2.2.1≤65535)∧x_11.2.2.2.2<18446744073709551616)→exI .i64 (x_11.1:Int) fun n_12=>exI .i64 (ps_10.length:Int) fun n_13=>bif decide (n_12<n_13) then exI .i64 (x_11.1:Int) fun n_14=>ckQ (decide (0≤n_14) &&
 Nat.blt n_14.toNat ps_10.length&&true) (ckQ (Nat.blt (n_14.toNat*9+4) (pksM ps_10).length) (exV .i64 ((pksM ps_10).getD (n_14.toNat*9+4) AV.undef) fun n_15=>∃xs_16:List Int,∃l_17:List Tr,∃rk_18:Nat,Lf (cellsI xs_5 =
 cellsI xs_16∧xs_5.length=xs_16.length∧trM x_11.2.1=trM l_17∧x_11.2.1.length=l_17.length∧(x_11.2.2.2.2:Int)=(rk_18:Int)∧l_17.length≤1000)∧∀i_19:Nat,∀t_20:Tr,Lf (i_19≤l_17.length∧(Membership.mem l_17
 t_20∨t_20=Prod.mk n_15 (Prod.mk (-(1:Int)) (0:Nat))))→exI .i64 (i_19:Int) fun n_21=>∃n_22 n_23 n_24,AV.agg [.int .i64 t_20.1,.int .i64 t_20.2.1,.int .u64 (t_20.2.2:Int)]=AV.agg [.int .i64 n_22,.int .i64 n_23,.int
 .u64 n_24]∧exI .i64 (x_11.1:Int) fun n_25=>ckQ (decide (0≤n_25)&&Nat.blt n_25.toNat ps_10.length&&true) (ckQ (Nat.blt (n_25.toNat*9+2) (pksM ps_10).length) (exV .i64 ((pksM ps_10).getD (n_25.toNat*9+2) AV.undef) fun
 n_26=>Lf ((-1≤n_23∧n_23≤9223372036854000000)∧0≤n_26∧n_26≤65535)∧∀z_27:Int,Lf (z_27=guessM n_23 n_26)→∃s_28:Nat,Lf (n_24=(s_28:Int)∧(-1≤n_23∧n_23≤281474976710656)∧(0≤z_27∧z_27 ≤
 281474976710656)∧s_28<18446744073709551616)∧∀b_29:Bool,bif b_29 then ∃n_30 n_31 n_32,AV.agg [.int .i64 0,.int .i64 x_11.2.2.2.1,.int .u64 (x_11.2.2.2.2:Int)]=AV.agg [.int .i64 n_30,.int .i64 n_31,.int .u64 n_32]∧exI
 .i64 (x_11.1:Int) fun n_33=>ckQ (decide (0≤n_33)&&Nat.blt n_33.toNat ps_10.length&&true) (ckQ (Nat.blt (n_33.toNat*9+2) (pksM ps_10).length) (exV .i64 ((pksM ps_10).getD (n_33.toNat*9+2) AV.undef) fun n_34=>∃s_35 :
 Nat,Lf (n_32=(s_35:Int)∧(-1≤n_31∧n_31≤281474976710656)∧(0≤n_34∧n_34≤281474976710656)∧s_35<18446744073709551616)∧∀b_36:Bool,bif b_36 then exI .i64 (x_11.1:Int) fun n_37=>ckQ (decide (0≤n_37)&&Nat.blt
 n_37.toNat ps_10.length&&true) (ckQ (Nat.blt (n_37.toNat*9+2) (pksM ps_10).length) (exV .i64 ((pksM ps_10).getD (n_37.toNat*9+2) AV.undef) fun n_38=>exI .i64 (x_11.1:Int) fun n_39=>exW .i64 (n_39+1) fun n_40=>(True∧(0
 : Nat)=(0:Nat))∧∃y_41:Nat×List Tr×Int×Int×Nat,Lf (y_41.1≤ps_10.length∧y_41.2.1.length≤y_41.1∧(∀t_42:Tr,Membership.mem y_41.2.1 t_42→nearB y_41.1 t_42)∧(-1≤y_41.2.2.2.1∧y_41.2.2.2.1≤65535) ∧
 y_41.2.2.2.2<18446744073709551616)∧ps_10.length-y_41.1<ps_10.length-x_11.1∧eqqQ [AV.str key,.int .u16 (w:Int),.int .u16 (fi:Int),.lst 0 (c16M ks) ks.length 1,.int .u32 (ss:Int)]∧eqqQ [AV.str [],.str [],.str [],
 .nils,.nils,.int .i64 0,.int .i64 0,.int .i64 0,.int .u64 0]∧[AV.str a_2,.str b_3,.str c_4,.lst 0 (cellsI xs_5) xs_5.length 1,.lst 0 (trM x_11.2.1) x_11.2.1.length 3,.int .i64 n_38,.int .i64 0,.int .i64 x_11.2.2.2.1,.int
 .u64 (x_11.2.2.2.2:Int)]=[AV.str a_2,.str b_3,.str c_4,.lst 0 (cellsI xs_5) xs_5.length 1,.lst 0 (trM y_41.2.1) y_41.2.1.length 3,.int .i64 y_41.2.2.1,.int .i64 0,.int .i64 y_41.2.2.2.1,.int .u64 (y_41.2.2.2.2:Int)]∧eqqQ
 (AV.ptr 2 9 0)∧AV.int .i64 n_40=AV.int .i64 (y_41.1:Int)∧eqqQ (AV.ptr 1 9 0)∧eqqQ (AV.lst 0 (pksM ps_10) ps_10.length 9)∧True)) else ∃n_37 n_38 n_39,AV.agg [.int .i64 0,.int .i64 x_11.2.2.2.1,.int .u64 (x_11.2.2.2.2:Int)]
 = AV.agg [.int .i64 n_37,.int .i64 n_38,.int .u64 n_39]∧exI .i64 (x_11.1:Int) fun n_40=>ckQ (decide (0≤n_40)&&Nat.blt n_40.toNat ps_10.length&&true) (ckQ (Nat.blt (n_40.toNat*9+2) (pksM ps_10).length) (exV .i64 ((pksM
 ps_10).getD (n_40.toNat*9+2) AV.undef) fun n_41=>∃s_42:Nat,Lf (n_39=(s_42:Int)∧(-1≤n_38∧n_38≤281474976710656)∧(0≤n_41∧n_41≤281474976710656)∧s_42<18446744073709551616)∧∀t'_43:Int,∀k_44:Nat,Lf
 ((t'_43=n_38∨t'_43=n_41)∧k_44<18446744073709551616)→∃n_45 n_46 n_47,AV.agg [.int .i64 n_37,.int .i64 t'_43,.int .u64 (k_44:Int)]=AV.agg [.int .i64 n_45,.int .i64 n_46,.int .u64 n_47]∧exI .i64 (x_11.1:Int) fun n_48
 => ckQ (decide (0≤n_48)&&Nat.blt n_48.toNat ps_10.length&&true) (ckQ (Nat.blt (n_48.toNat*9+2) (pksM ps_10).length) (exV .i64 ((pksM ps_10).getD (n_48.toNat*9+2) AV.undef) fun n_49=>exI .i64 (x_11.1:Int) fun n_50=>exW
 .i64 (n_50+1) fun n_51=>(True∧(0:Nat)=(0:Nat))∧∃y_52:Nat×List Tr×Int×Int×Nat,Lf (y_52.1≤ps_10.length∧y_52.2.1.length≤y_52.1∧(∀t_53:Tr,Membership.mem y_52.2.1 t_53→nearB y_52.1 t_53)∧(-1 ≤
 y_52.2.2.2.1∧y_52.2.2.2.1≤65535)∧y_52.2.2.2.2<18446744073709551616)∧ps_10.length-y_52.1<ps_10.length-x_11.1∧eqqQ [AV.str key,.int .u16 (w:Int),.int .u16 (fi:Int),.lst 0 (c16M ks) ks.length 1,.int .u32 (ss:Int)]
 ∧ eqqQ [AV.str [],.str [],.str [],.nils,.nils,.int .i64 0,.int .i64 0,.int .i64 0,.int .u64 0]∧[AV.str a_2,.str b_3,.str c_4,.lst 0 (cellsI xs_5) xs_5.length 1,.lst 0 (trM x_11.2.1) x_11.2.1.length 3,.int .i64 n_49,.int
 .i64 n_45,.int .i64 n_46,.int .u64 n_47]=[AV.str a_2,.str b_3,.str c_4,.lst 0 (cellsI xs_5) xs_5.length 1,.lst 0 (trM y_52.2.1) y_52.2.1.length 3,.int .i64 y_52.2.2.1,.int .i64 0,.int .i64 y_52.2.2.2.1,.int .u64 (y_52.2.2.2.2 :
 Int)]∧eqqQ (AV.ptr 2 9 0)∧AV.int .i64 n_51=AV.int .i64 (y_52.1:Int)∧eqqQ (AV.ptr 1 9 0)∧eqqQ (AV.lst 0 (pksM ps_10) ps_10.length 9)∧True)))))) else ∃s_30:Nat,Lf (n_24=(s_30:Int)∧(-1≤n_23∧n_23≤281474976710656)
 ∧ (0≤z_27∧z_27≤281474976710656)∧s_30<18446744073709551616)∧∀t'_31:Int,∀k_32:Nat,Lf ((t'_31=n_23∨t'_31=z_27)∧k_32<18446744073709551616)→ckQ (eqAVL [.str a_2,.str b_3,.str c_4,.lst 0 (cellsI xs_5)
 xs_5.length 1,.lst 0 (trM x_11.2.1) x_11.2.1.length 3,.int .i64 x_11.2.2.1,.int .i64 0,.int .i64 x_11.2.2.2.1,.int .u64 (x_11.2.2.2.2:Int)] [.str a_2,.str b_3,.str c_4,.lst 0 (cellsI xs_5) xs_5.length 1,.lst 0 (trM x_11.2.1)
 x_11.2.1.length 3,.int .i64 x_11.2.2.1,.int .i64 0,.int .i64 x_11.2.2.2.1,.int .u64 (x_11.2.2.2.2:Int)]&&true) (∃n_33 n_34 n_35,AV.agg [.int .i64 n_22,.int .i64 t'_31,.int .u64 (k_32:Int)]=AV.agg [.int .i64 n_33,.int .i64
 n_34,.int .u64 n_35]∧∃xs_36:List Int,∃l_37:List Tr,∃rk_38 i_39 s_40:Nat,Lf (cellsI xs_5=cellsI xs_36∧xs_5.length=xs_36.length∧trM x_11.2.1=trM l_37∧x_11.2.1.length=l_37.length∧(x_11.2.2.2.2:Int)=(rk_38 :
 Int)∧n_21=(i_39:Int)∧n_35=(s_40:Int)∧l_37.length≤1000∧i_39≤l_37.length)∧∀l'_41:List Tr,Lf (l'_41.length≤l_37.length+1∧∀y_42:Tr,Membership.mem l'_41 y_42→Membership.mem l_37 y_42∨y_42=Prod.mk n_33
 (Prod.mk n_34 s_40))→∃n_42 n_43 n_44,AV.agg [.int .i64 0,.int .i64 x_11.2.2.2.1,.int .u64 (rk_38:Int)]=AV.agg [.int .i64 n_42,.int .i64 n_43,.int .u64 n_44]∧exI .i64 (x_11.1:Int) fun n_45=>ckQ (decide (0≤n_45) &&
 Nat.blt n_45.toNat ps_10.length&&true) (ckQ (Nat.blt (n_45.toNat*9+2) (pksM ps_10).length) (exV .i64 ((pksM ps_10).getD (n_45.toNat*9+2) AV.undef) fun n_46=>∃s_47:Nat,Lf (n_44=(s_47:Int)∧(-1≤n_43∧n_43 ≤
 281474976710656)∧(0≤n_46∧n_46≤281474976710656)∧s_47<18446744073709551616)∧∀b_48:Bool,bif b_48 then exI .i64 (x_11.1:Int) fun n_49=>ckQ (decide (0≤n_49)&&Nat.blt n_49.toNat ps_10.length&&true) (ckQ (Nat.blt
 (n_49.toNat*9+2) (pksM ps_10).length) (exV .i64 ((pksM ps_10).getD (n_49.toNat*9+2) AV.undef) fun n_50=>exI .i64 (x_11.1:Int) fun n_51=>exW .i64 (n_51+1) fun n_52=>(True∧(0:Nat)=(0:Nat))∧∃y_53:Nat×List Tr ×
 Int×Int×Nat,Lf (y_53.1≤ps_10.length∧y_53.2.1.length≤y_53.1∧(∀t_54:Tr,Membership.mem y_53.2.1 t_54→nearB y_53.1 t_54)∧(-1≤y_53.2.2.2.1∧y_53.2.2.2.1≤65535)∧y_53.2.2.2.2<18446744073709551616)∧ps_10.length -
 y_53.1<ps_10.length-x_11.1∧eqqQ [AV.str key,.int .u16 (w:Int),.int .u16 (fi:Int),.lst 0 (c16M ks) ks.length 1,.int .u32 (ss:Int)]∧eqqQ [AV.str [],.str [],.str [],.nils,.nils,.int .i64 0,.int .i64 0,.int .i64 0,
 .int .u64 0]∧[AV.str a_2,.str b_3,.str c_4,.lst 0 (cellsI xs_36) xs_36.length 1,.lst 0 (trM l'_41) l'_41.length 3,.int .i64 n_50,.int .i64 0,.int .i64 x_11.2.2.2.1,.int .u64 (rk_38:Int)]=[AV.str a_2,.str b_3,.str c_4,.lst
 0 (cellsI xs_5) xs_5.length 1,.lst 0 (trM y_53.2.1) y_53.2.1.length 3,.int .i64 y_53.2.2.1,.int .i64 0,.int .i64 y_53.2.2.2.1,.int .u64 (y_53.2.2.2.2:Int)]∧eqqQ (AV.ptr 2 9 0)∧AV.int .i64 n_52=AV.int .i64 (y_53.1:Int)∧eqqQ
 (AV.ptr 1 9 0)∧eqqQ (AV.lst 0 (pksM ps_10) ps_10.length 9)∧True)) else ∃n_49 n_50 n_51,AV.agg [.int .i64 0,.int .i64 x_11.2.2.2.1,.int .u64 (rk_38:Int)]=AV.agg [.int .i64 n_49,.int .i64 n_50,.int .u64 n_51]∧exI .i64 (x_11.1
 : Int) fun n_52=>ckQ (decide (0≤n_52)&&Nat.blt n_52.toNat ps_10.length&&true) (ckQ (Nat.blt (n_52.toNat*9+2) (pksM ps_10).length) (exV .i64 ((pksM ps_10).getD (n_52.toNat*9+2) AV.undef) fun n_53=>∃s_54:Nat,Lf (n_51 =
 (s_54:Int)∧(-1≤n_50∧n_50≤281474976710656)∧(0≤n_53∧n_53≤281474976710656)∧s_54<18446744073709551616)∧∀t'_55:Int,∀k_56:Nat,Lf ((t'_55=n_50∨t'_55=n_53)∧k_56<18446744073709551616)→∃n_57 n_58 n_59,
 AV.agg [.int .i64 n_49,.int .i64 t'_55,.int .u64 (k_56:Int)]=AV.agg [.int .i64 n_57,.int .i64 n_58,.int .u64 n_59]∧exI .i64 (x_11.1:Int) fun n_60=>ckQ (decide (0≤n_60)&&Nat.blt n_60.toNat ps_10.length&&true) (ckQ
 (Nat.blt (n_60.toNat*9+2) (pksM ps_10).length) (exV .i64 ((pksM ps_10).getD (n_60.toNat*9+2) AV.undef) fun n_61=>exI .i64 (x_11.1:Int) fun n_62=>exW .i64 (n_62+1) fun n_63=>(True∧(0:Nat)=(0:Nat))∧∃y_64:Nat ×
 List Tr×Int×Int×Nat,Lf (y_64.1≤ps_10.length∧y_64.2.1.length≤y_64.1∧(∀t_65:Tr,Membership.mem y_64.2.1 t_65→nearB y_64.1 t_65)∧(-1≤y_64.2.2.2.1∧y_64.2.2.2.1≤65535)∧y_64.2.2.2.2<18446744073709551616) ∧
 ps_10.length-y_64.1<ps_10.length-x_11.1∧eqqQ [AV.str key,.int .u16 (w:Int),.int .u16 (fi:Int),.lst 0 (c16M ks) ks.length 1,.int .u32 (ss:Int)]∧eqqQ [AV.str [],.str [],.str [],.nils,.nils,.int .i64 0,.int .i64 0,
 .int .i64 0,.int .u64 0]∧[AV.str a_2,.str b_3,.str c_4,.lst 0 (cellsI xs_36) xs_36.length 1,.lst 0 (trM l'_41) l'_41.length 3,.int .i64 n_61,.int .i64 n_57,.int .i64 n_58,.int .u64 n_59]=[AV.str a_2,.str b_3,.str c_4,.lst 0
 (cellsI xs_5) xs_5.length 1,.lst 0 (trM y_64.2.1) y_64.2.1.length 3,.int .i64 y_64.2.2.1,.int .i64 0,.int .i64 y_64.2.2.2.1,.int .u64 (y_64.2.2.2.2:Int)]∧eqqQ (AV.ptr 2 9 0)∧AV.int .i64 n_63=AV.int .i64 (y_64.1:Int)∧eqqQ
 (AV.ptr 1 9 0)∧eqqQ (AV.lst 0 (pksM ps_10) ps_10.length 9)∧True))))))))))) else Q (.ret (.agg [.str a_2,.str b_3,.str c_4,.lst 0 (cellsI xs_5) xs_5.length 1,.lst 0 (trM x_11.2.1) x_11.2.1.length 3,.int .i64 x_11.2.2.1,.int .i64
 0,.int .i64 x_11.2.2.2.1,.int .u64 (x_11.2.2.2.2:Int)])) [] {}):=by kernel_rfl

theorem getPk:∀ (ps:List (Int×Nat)) (i k:Nat) (hi:i<ps.length) (hk:k<9),List.getD (pksM ps) (i*9+k) AV.undef=List.getD (pkM ps[i].1 ps[i].2) k AV.undef
 | [],i,k,hi,_=>by simp at hi
 | x::l,0,k,_,hk=>by
  rw[show pksM (x::l)=pkM x.1 x.2++pksM l from by simp[pksM],Nat.zero_mul,Nat.zero_add,List.getD_eq_getElem?_getD,List.getElem?_append_left (by simpa [pkM] using hk),List.getD_eq_getElem?_getD]
  rfl
 | x::l,i+1,k,hi,hk=>by
  have h9:(pkM x.1 x.2).length=9:=rfl
  rw[show pksM (x::l)=pkM x.1 x.2++pksM l from by simp[pksM],List.getD_eq_getElem?_getD,List.getElem?_append_right (by omega),h9,show (i+1)*9+k-9=i*9+k by omega,←List.getD_eq_getElem?_getD,getPk l i k (by simpa using hi) hk]
  rfl
theorem guess_bd {t q:Int} {i:Nat} (h1 : -1≤t) (h2:t≤65536*((i:Int)+1)) (h3:0≤q) (h4:q≤65535):0≤guessM t q∧guessM t q≤65536*(((i+1:Nat):Int)+1):=by
 have h:=ahead_in q (t%65536)
 unfold guessM
 split
 ·omega
 ·split<;>omega
theorem nearB_succ {i:Nat} {t:Tr} (h:nearB i t):nearB (i+1) t:=⟨⟨h.1.1,by have:=h.1.2;omega⟩,h.2⟩
theorem shield_run (key:List UInt8) (w fi:Nat) (ks:List Int) (ss:Nat) (hw:w<65536) (hk:key.length≤140737488351232) (hf:fi≤65535) (hkl:ks.length≤9223372036854775807) (hks:∀k∈ks, -32768≤k∧k≤32767) (Q:Out→List Blk→Gh→Prop)
  (hq:∀ (a b c:List UInt8) (xs:List Int) (l:List Tr) (nx rt:Int) (rk:Nat),xs.length≤16→l.length≤16→trOk l→(-1≤rt∧rt≤65535)→rk<18446744073709551616→Q (.ret (shV 0 0 a b c xs l nx 0 rt rk)) [] {}):∃hv hb,goal_p49 hv hb key w fi ks ss Q:=by
 obtain ⟨hv,hb',e⟩:∃hv hb,goal_p49 hv hb key w fi ks ss Q=_:=⟨_,_,vc_p49 key w fi ks ss Q⟩
 refine ⟨hv,hb',e.mpr ?_⟩
 clear e
 refine ⟨w,ks,⟨rfl,rfl,rfl,hw,hk⟩, ?_⟩
 rintro a b c xs ⟨-, -, -,hxs⟩
 have hx16:xs.length≤16:=by rw[hxs];exact hid_len w 16
 refine ⟨w,fi,ss,ks,⟨rfl,rfl,rfl,rfl,rfl,hf,hkl,hks⟩, ?_⟩
 rintro ps ⟨p1,p2⟩
 have hpl:=pks_len ps
 refine ⟨⟨(0,[],0, -1,0),⟨by dsimp only;omega,by simp,by simp,by dsimp only;omega,by simp⟩,rfl,rfl,rfl,rfl,rfl,rfl,rfl,trivial⟩, ?_⟩
 rintro ⟨i,l,nx,rt,rk⟩ ⟨g1,g2,g3,g4,g5⟩
 dsimp only at g1 g2 g3 g4 g5 ⊢
 refine ⟨_,rfl,_,rfl,splitD (fun h => ?_) (fun _=>hq a b c xs l nx rt rk hx16 (by omega) (fun t ht => ?_) g4 g5)⟩
 rotate_left
 ·have:=g3 t ht
  exact ⟨⟨by have:=this.1.1;omega,by have:=this.1.2;omega⟩,this.2⟩
 have hi:i<ps.length:=by omega
 obtain ⟨⟨q1,q2⟩,q3⟩:=p2 ps[i] (List.getElem_mem hi)
 have e4:=getPk ps i 4 hi (by omega)
 have e2:=getPk ps i 2 hi (by omega)
 have sq:∀ {K:Int→Prop},K ps[i].1→bif ((decide ((0:Int)≤(i:Int)))&&(Nat.blt (Int.toNat (i:Int)) ps.length))&&true then (bif Nat.blt (Int.toNat (i:Int)*9+2) (pksM ps).length then (∃n:Int,List.getD (pksM ps) (Int.toNat (i:Int)*9+2) AV.undef=AV.int .i64 n∧K n) else False) else False:=fun h=>
  ckI (by simp;omega) (ckI (by rw[hpl];simp;omega) ⟨_,e2,h⟩)
 have hxl:i≤15:=by omega
 refine ⟨_,rfl,ckI (by simp;omega) (ckI (by rw[hpl];simp;omega) ⟨_,e4, ?_⟩)⟩
 refine ⟨xs,l,rk,⟨rfl,rfl,rfl,rfl,rfl,by omega⟩, ?_⟩
 rintro pl t ⟨k1,k2⟩
 have hn:nearB i t:=by
  rcases k2 with k2 | rfl
  ·exact g3 t k2
  ·exact ⟨⟨by dsimp only;omega,by dsimp only;omega⟩,by simp⟩
 obtain ⟨⟨n1,n2⟩,n3⟩:=hn
 have hgb:=guess_bd n1 n2 q1 q2
 refine ⟨_,rfl,_,_,_,rfl,_,rfl,sq ⟨⟨⟨n1,by omega⟩,q1,q2⟩, ?_⟩⟩
 rintro z ⟨rfl⟩
 have sc:∀l':List Tr,(l'=l∨(l'.length≤l.length+1∧∃x,nearB (i+1) x∧∀y∈l',y∈l∨y=x))→l'.length≤i+1∧∀y∈l',nearB (i+1) y:=fun l' h=>by
  rcases h with rfl | ⟨h1,x,h2,h3⟩
  ·exact ⟨by omega,fun y hy=>nearB_succ (g3 y hy)⟩
  ·refine ⟨by omega,fun y hy => ?_⟩
   rcases h3 y hy with h | rfl
   ·exact nearB_succ (g3 y h)
   ·exact h2
 refine ⟨t.2.2,⟨rfl,⟨n1,by omega⟩,⟨hgb.1,by omega⟩,n3⟩,fun ob => ?_⟩
 cases ob
 ·rw[cond_false]
  refine ⟨t.2.2,⟨rfl,⟨n1,by omega⟩,⟨hgb.1,by omega⟩,n3⟩, ?_⟩
  rintro u' k' ⟨m1,m2⟩
  first | refine ckE ?_ | refine ckF ?_
  refine ⟨_,_,_,rfl,xs,l,rk,pl,k',⟨rfl,rfl,rfl,rfl,rfl,rfl,rfl,by omega,k1⟩, ?_⟩
  rintro L ⟨o1,o2⟩
  obtain ⟨s1,s2⟩:=sc L (.inr ⟨o1,_,⟨⟨by dsimp only;exact m1.elim (fun h=>by omega) (fun h=>by rw[h];omega),by dsimp only;exact m1.elim (fun h=>by omega) (fun h=>by rw[h];exact hgb.2)⟩,m2⟩,o2⟩)
  refine ⟨_,_,_,rfl,_,rfl,sq ⟨rk,⟨rfl,by omega,by omega,g5⟩,fun ob2 => ?_⟩⟩
  cases ob2
  ·rw[cond_false]
   refine ⟨_,_,_,rfl,_,rfl,sq ⟨rk,⟨rfl,by omega,by omega,g5⟩, ?_⟩⟩
   rintro t' k' ⟨m1,m2⟩
   exact ⟨_,_,_,rfl,_,rfl,sq ⟨_,rfl,wrapI (by omega) (by omega) ⟨⟨trivial,rfl⟩,(i+1,L,_,t',k'),⟨hi,s1,s2,by dsimp only;omega,m2⟩,by dsimp only;omega,rfl,rfl,rfl,rfl,rfl,rfl,rfl,trivial⟩⟩⟩
  ·rw[cond_true]
   exact ⟨_,rfl,sq ⟨_,rfl,wrapI (by omega) (by omega) ⟨⟨trivial,rfl⟩,(i+1,L,_,rt,rk),⟨hi,s1,s2,g4,g5⟩,by dsimp only;omega,rfl,rfl,rfl,rfl,rfl,rfl,rfl,trivial⟩⟩⟩
 ·rw[cond_true]
  obtain ⟨s1,s2⟩:=sc l (.inl rfl)
  refine ⟨_,_,_,rfl,_,rfl,sq ⟨rk,⟨rfl,by omega,by omega,g5⟩,fun ob2 => ?_⟩⟩
  cases ob2
  ·rw[cond_false]
   refine ⟨_,_,_,rfl,_,rfl,sq ⟨rk,⟨rfl,by omega,by omega,g5⟩, ?_⟩⟩
   rintro t' k' ⟨m1,m2⟩
   exact ⟨_,_,_,rfl,_,rfl,sq ⟨_,rfl,wrapI (by omega) (by omega) ⟨⟨trivial,rfl⟩,(i+1,l,_,t',k'),⟨hi,s1,s2,by dsimp only;omega,m2⟩,by dsimp only;omega,rfl,rfl,rfl,rfl,rfl,rfl,rfl,trivial⟩⟩⟩
  ·rw[cond_true]
   exact ⟨_,rfl,sq ⟨_,rfl,wrapI (by omega) (by omega) ⟨⟨trivial,rfl⟩,(i+1,l,_,rt,rk),⟨hi,s1,s2,g4,g5⟩,by dsimp only;omega,rfl,rfl,rfl,rfl,rfl,rfl,rfl,trivial⟩⟩⟩
def cShieldD:Con
 | [.agg [.str key,.int .u16 u,.int .u16 f,.lst 0 l n 1,.int .u32 s]],H,K=>∃ (w fi ss:Nat) (ks:List Int),Lf (u=(w:Int)∧f=(fi:Int)∧s=(ss:Int)∧l=c16M ks∧n=ks.length∧w<65536∧key.length≤140737488351232∧fi≤65535∧ks.length≤9223372036854775807∧∀k∈ks, -32768≤k∧k≤32767) ∧
   ∀ (a b c:List UInt8) (xs:List Int) (t:List Tr) (nx rs rt:Int) (rk:Nat),Lf (xs.length≤16∧t.length≤16∧trOk t∧(-9223372036854775808≤rt∧rt≤9223372036854775807)∧rk<18446744073709551616)→K (.ret (shV 0 0 a b c xs t nx rs rt rk)) H
 | _,_,_=>False
theorem shieldD_ok:ValidF Tryz.prog gl0 49 cShieldD:=by
 refine valid_flat (enters_of (by kernel_rfl)) gl0_noY fun args H Q hc => ?_
 unfold cShieldD at hc
 split at hc
 ·rename_i key u f l n s
  obtain ⟨w,fi,ss,ks,⟨rfl,rfl,rfl,rfl,rfl,h0,h1,h2,h3,h4⟩,hq⟩:=hc
  obtain ⟨hv,hb',h⟩:=shield_run key w fi ks ss h0 h1 h2 h3 h4 (Q:=fun o H' _=>H'=[]∧(∃v,o=.ret v∧old 0 v=true∧noY v=true)∧Q o H)
   (fun a b c xs t nx rt rk g1 g2 g3 g4 g5=>⟨rfl,⟨_,rfl,by simp[shV,old,oldL,flat_cI0,(flat_tr t).1],by simp[shV,noY,noYL,(flat_cI _).2,(flat_tr t).2]⟩,hq a b c xs t nx 0 rt rk ⟨g1,g2,g3,by omega,g5⟩⟩)
  exact ⟨by simp[oldL,old,(fl_16 ks).1],by simp[noYL,noY,(fl_16 ks).2],_,1000,envFor04 smSh_ok _ _ _,rfl,h⟩
 ·exact hc.elim
end Go.Proofs.YtnhechnaemmdiaaGreatDoor
