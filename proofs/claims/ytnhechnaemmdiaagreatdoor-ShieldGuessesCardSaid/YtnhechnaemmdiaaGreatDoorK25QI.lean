/-
  Chapter 25, ShieldGuesses: the law's residual.
-/
import Derived.Test.YtnhechnaemmdiaaGreatDoorK25QH
set_option linter.unusedSimpArgs false
set_option linter.unusedVariables false
set_option linter.unusedSectionVars false
namespace Go.Proofs.YtnhechnaemmdiaaGreatDoor
open Go.RowKit
set_option maxRecDepth 1000000

def smL3:SM:=lookS [(12,cShields),(13,cCheck),(14,cRight),(15,cNew),(16,cNew),(17,cSameS),(18,cGuess),(19,cGuess),(20,cTrue)]
def inv_3 (s:S):List (List LInv):=[[
 { α:=Nat,pre:=fun i=>Lf (i≤4),st:=fun i=>⟨mkT [(3,s.tm.get 3),(4,s.tm.get 4),(11,s.tm.get 11),(49,s.tm.get 49),(50,s.tm.get 50),(51,.int .i64 (i:Nat))],s.hp⟩,mu:=fun i=>4-i }]]
noncomputable def env_p3 (hv:Nat→Option Pa) (hb:Nat→Option Bool):Env:=e04 smL3 (fun i=>bif Nat.beq i 3000 then some inv_3 else none) hv hb
noncomputable def goal_p3 (hv:Nat→Option Pa) (hb:Nat→Option Bool) (key:List UInt8) (w:Nat) (fi:Nat) (ks:List Int) (ss:Nat) (w1 a1 n1 w2 a2 n2:Int) (a b c:List UInt8) (xs:List Int) (l:List Tr) (nx rs rt:Int) (rk:Nat) (top seq s1 s2:Int) (Q:Out→List Blk→Gh→Prop):Prop:=
 callx (env_p3 hv hb) (wpx (env_p3 hv hb) 1000) 3 [.agg [.str key,.int .u16 (w:Nat),.int .u16 (fi:Nat),.lst 0 (c16M ks) ks.length 1,.int .u32 (ss:Nat)],.agg [.int .u8 w1,.int .u8 a1,.int .i64 n1,.int .u8 w2,.int .u8 a2,.int .i64 n2],shV 0 0 a b c xs l nx rs rt rk,.int .i64 top,.int .i64 seq,.agg [.int .u32 s1,.int .u32 s2]] [] {} Q
def rndG (cs_16:List AV) (len_17:Nat) (s_12:List UInt8) (s_13:List UInt8) (s_14:List UInt8) (x_11:Nat) (key:List UInt8) (w:Nat) (fi:Nat) (ks:List Int) (ss:Nat) (w1:Int) (a1:Int) (n1:Int) (w2:Int) (a2:Int) (n2
 : Int) (a:List UInt8) (b:List UInt8) (c:List UInt8) (n_3:Int) (xs:List Int) (n_1:Int) (l:List Tr) (nx:Int) (rs:Int) (rt:Int) (rk:Nat) (s1:Int) (s2:Int) (x_8:ShD) (y_9:ShD) (z_10:ShD) (top:Int) (seq:Int)
 : Prop:=
eqqQ (AV.bool false)∧∃xs_35:List Int,Lf (cs_16=cellsI xs_35∧len_17=xs_35.length∧xs_35.length≤9223372036854775807)∧∀a'_36 b'_37 c'_38:List UInt8,∀xs'_39:List Int,∀rt_40 e_41:Int,Lf (newM s_12 s_13 s_14 xs_35 =
 Prod.mk a'_36 (Prod.mk b'_37 (Prod.mk c'_38 (Prod.mk xs'_39 (Prod.mk rt_40 e_41)))))→∃xs_42:List Int,Lf (cs_16=cellsI xs_42∧len_17=xs_42.length∧xs_42.length≤9223372036854775807)∧∀a'_43 b'_44 c'_45:List UInt8,∀xs'_46
 : List Int,∀rt_47 e_48:Int,Lf (newM s_12 s_13 s_14 xs_42=Prod.mk a'_43 (Prod.mk b'_44 (Prod.mk c'_45 (Prod.mk xs'_46 (Prod.mk rt_47 e_48)))))→AV.bool (e_41 !=e_48)=AV.bool false∧∃xs_49:List Int,∃l_50:List Tr,∃rk_51 :
 Nat,Lf (cellsI xs'_39=cellsI xs_49∧xs'_39.length=xs_49.length∧trM []=trM l_50∧0=l_50.length∧0=(rk_51:Int)∧xs_49.length≤9223372036854775807∧l_50.length≤9223372036854775807∧a'_43=a'_36∧b'_44=b'_37∧c'_45
 = c'_38∧cellsI xs'_46=cellsI xs_49∧xs'_46.length=xs_49.length∧trM []=trM l_50∧0=l_50.length∧(0:Int)=(0:Int)∧(0:Int)=(0:Int)∧rt_47=rt_40∧0=(rk_51:Int))∧eqqQ (AV.bool false)∧exW .i64
 ((x_11:Int)+1) (fun n_52=>(True∧(0:Nat)=(0:Nat))∧∃y_53:Nat,Lf (y_53≤4)∧4-y_53<4-x_11∧eqqQ [AV.str key,.int .u16 (w:Int),.int .u16 (fi:Int),.lst 0 (c16M ks) ks.length 1,.int .u32
 (ss:Int)]∧eqqQ [AV.int .u8 w1,.int .u8 a1,.int .i64 n1,.int .u8 w2,.int .u8 a2,.int .i64 n2]∧eqqQ [AV.str a,.str b,.str c,.lst 0 (((cellsI xs).drop 0).take ((n_3.toNat-0)*1)) (n_3.toNat
 - 0) 1,.lst 0 (((trM l).drop 0).take ((n_1.toNat-0)*3)) (n_1.toNat-0) 3,.int .i64 nx,.int .i64 rs,.int .i64 rt,.int .u64 (rk:Int)]∧eqqQ [AV.int .u32 s1,.int .u32 s2]∧eqqQ [AV.str x_8.1,
 .str x_8.2.1,.str x_8.2.2.1,.lst 0 (cellsI x_8.2.2.2.1) x_8.2.2.2.1.length 1,.lst 0 (trM x_8.2.2.2.2.1) x_8.2.2.2.2.1.length 3,.int .i64 x_8.2.2.2.2.2.1,.int .i64 x_8.2.2.2.2.2.2.1,.int .i64 x_8.2.2.2.2.2.2.2.1,
 .int .u64 (x_8.2.2.2.2.2.2.2.2:Int),.str y_9.1,.str y_9.2.1,.str y_9.2.2.1,.lst 0 (cellsI y_9.2.2.2.1) y_9.2.2.2.1.length 1,.lst 0 (trM y_9.2.2.2.2.1) y_9.2.2.2.2.1.length 3,.int .i64 y_9.2.2.2.2.2.1,.int .i64
 y_9.2.2.2.2.2.2.1,.int .i64 y_9.2.2.2.2.2.2.2.1,.int .u64 (y_9.2.2.2.2.2.2.2.2:Int),.str z_10.1,.str z_10.2.1,.str z_10.2.2.1,.lst 0 (cellsI z_10.2.2.2.1) z_10.2.2.2.1.length 1,.lst 0 (trM z_10.2.2.2.2.1)
 z_10.2.2.2.2.1.length 3,.int .i64 z_10.2.2.2.2.2.1,.int .i64 z_10.2.2.2.2.2.2.1,.int .i64 z_10.2.2.2.2.2.2.2.1,.int .u64 (z_10.2.2.2.2.2.2.2.2:Int)]∧eqqQ [AV.str a,.str b,.str c,.lst 0 (((cellsI
 xs).drop 0).take ((n_3.toNat-0)*1)) (n_3.toNat-0) 1,.lst 0 (((trM l).drop 0).take ((n_1.toNat-0)*3)) (n_1.toNat-0) 3,.int .i64 nx,.int .i64 rs,.int .i64 rt,.int .u64 (rk:Int)]∧eqqQ [AV.str
 x_8.1,.str x_8.2.1,.str x_8.2.2.1,.lst 0 (cellsI x_8.2.2.2.1) x_8.2.2.2.1.length 1,.lst 0 (trM x_8.2.2.2.2.1) x_8.2.2.2.2.1.length 3,.int .i64 x_8.2.2.2.2.2.1,.int .i64 x_8.2.2.2.2.2.2.1,.int .i64
 x_8.2.2.2.2.2.2.2.1,.int .u64 (x_8.2.2.2.2.2.2.2.2:Int),.str y_9.1,.str y_9.2.1,.str y_9.2.2.1,.lst 0 (cellsI y_9.2.2.2.1) y_9.2.2.2.1.length 1,.lst 0 (trM y_9.2.2.2.2.1) y_9.2.2.2.2.1.length 3,.int .i64
 y_9.2.2.2.2.2.1,.int .i64 y_9.2.2.2.2.2.2.1,.int .i64 y_9.2.2.2.2.2.2.2.1,.int .u64 (y_9.2.2.2.2.2.2.2.2:Int),.str z_10.1,.str z_10.2.1,.str z_10.2.2.1,.lst 0 (cellsI z_10.2.2.2.1) z_10.2.2.2.1.length 1,.lst
 0 (trM z_10.2.2.2.2.1) z_10.2.2.2.2.1.length 3,.int .i64 z_10.2.2.2.2.2.1,.int .i64 z_10.2.2.2.2.2.2.1,.int .i64 z_10.2.2.2.2.2.2.2.1,.int .u64 (z_10.2.2.2.2.2.2.2.2:Int),.str a,.str b,.str c,.lst 0
 (((cellsI xs).drop 0).take ((n_3.toNat-0)*1)) (n_3.toNat-0) 1,.lst 0 (((trM l).drop 0).take ((n_1.toNat-0)*3)) (n_1.toNat-0) 3,.int .i64 nx,.int .i64 rs,.int .i64 rt,.int .u64 (rk:Int)]∧eqqQ
 (AV.int .i64 top)∧eqqQ (AV.ptr 3 2 0)∧AV.int .i64 n_52=AV.int .i64 (y_53:Int)∧eqqQ (AV.sl 6 36 0 4 9)∧eqqQ (AV.int .i64 seq)∧eqqQ (AV.int .i64 4)∧True)
theorem vc_p3 (key:List UInt8) (w:Nat) (fi:Nat) (ks:List Int) (ss:Nat) (w1:Int) (a1:Int) (n1:Int) (w2:Int) (a2:Int) (n2:Int) (a:List UInt8) (b:List UInt8) (c:List UInt8) (xs:List Int) (l:List Tr) (nx:Int)
 (rs:Int) (rt:Int) (rk:Nat) (top:Int) (seq:Int) (s1:Int) (s2:Int) (Q:Out→List Blk→Gh→Prop):goal_p3 (lookV [(12319,.int .i64),(12320,.int .i64),(12326,.int .i64),(12327,.int .i64),(12342,.agg [.str,.str,
 .str,.lst 1,.lst 3,.int .i64,.int .i64,.int .i64,.int .u64]),(12346,.bool),(12348,.bool),(12349,.lit (.bool false)),(12355,.lit (.bool false)),(12357,.lit (.bool false)),(12376,.lit (.bool false)),(12382,.lit (.bool
 false)),(12383,.int .i64),(12390,.int .u32),(12391,.int .i64),(12395,.int .i64),(12398,.int .u32),(12399,.int .i64)]) (lookB []) key w fi ks ss w1 a1 n1 w2 a2 n2 a b c xs l nx rs rt rk top seq s1 s2 Q=(exI .i64
 (l.length:Int) (fun n_0=>exI .i64 (imin n_0 18) (fun n_1=>ckQ (decide (0≤n_1)&&true&&Nat.ble n_1.toNat l.length&&true) (exI .i64 (xs.length:Int) (fun n_2=>exI .i64 (imin n_2 18) (fun n_3=>ckQ
 (decide (0≤n_3)&&true&&Nat.ble n_3.toNat xs.length&&true) (∃w_4 fi_5 ss_6:Nat,∃ks_7:List Int,Lf (((w:Int)=(w_4:Int)∧(fi:Int)=(fi_5:Int)∧(ss:Int)=(ss_6:Int)∧c16M ks=c16M ks_7∧ks.length =
 ks_7.length∧w_4<65536∧key.length≤140737488351232∧fi_5≤65535∧ks_7.length≤9223372036854775807∧∀k_8:Int,Membership.mem ks_7 k_8 → -32768≤k_8∧k_8≤32767)∧(0≤w1∧w1≤255)∧(0≤a1∧a1≤255) ∧
 (-9223372036854775808≤n1∧n1≤9223372036854775807)∧(0≤w2∧w2≤255)∧(0≤a2∧a2≤255) ∧ -9223372036854775808≤n2∧n2≤9223372036854775807)∧∀x_8 y_9 z_10:ShD,Lf (okSD x_8∧okSD y_9∧okSD z_10)→(∃x_11:Nat,Lf
 (x_11≤4)∧eqqQ [AV.str key,.int .u16 (w:Int),.int .u16 (fi:Int),.lst 0 (c16M ks) ks.length 1,.int .u32 (ss:Int)]∧eqqQ [AV.int .u8 w1,.int .u8 a1,.int .i64 n1,.int .u8 w2,.int
 IntKind.u8 a2,.int .i64 n2]∧eqqQ [AV.str a,.str b,.str c,.lst 0 (((cellsI xs).drop 0).take ((n_3.toNat-0)*1)) (n_3.toNat-0) 1,.lst 0 (((trM l).drop 0).take ((n_1.toNat-0)*3)) (n_1.toNat-0) 3,.int .i64 nx,
 .int .i64 rs,.int .i64 rt,.int .u64 (rk:Int)]∧eqqQ [AV.int .u32 s1,.int .u32 s2]∧eqqQ [AV.str x_8.1,.str x_8.2.1,.str x_8.2.2.1,.lst 0 (cellsI x_8.2.2.2.1) x_8.2.2.2.1.length 1,.lst 0 (trM
 x_8.2.2.2.2.1) x_8.2.2.2.2.1.length 3,.int .i64 x_8.2.2.2.2.2.1,.int .i64 x_8.2.2.2.2.2.2.1,.int .i64 x_8.2.2.2.2.2.2.2.1,.int .u64 (x_8.2.2.2.2.2.2.2.2:Int),.str y_9.1,.str y_9.2.1,.str y_9.2.2.1,.lst
 0 (cellsI y_9.2.2.2.1) y_9.2.2.2.1.length 1,.lst 0 (trM y_9.2.2.2.2.1) y_9.2.2.2.2.1.length 3,.int .i64 y_9.2.2.2.2.2.1,.int .i64 y_9.2.2.2.2.2.2.1,.int .i64 y_9.2.2.2.2.2.2.2.1,.int .u64
 (y_9.2.2.2.2.2.2.2.2:Int),.str z_10.1,.str z_10.2.1,.str z_10.2.2.1,.lst 0 (cellsI z_10.2.2.2.1) z_10.2.2.2.1.length 1,.lst 0 (trM z_10.2.2.2.2.1) z_10.2.2.2.2.1.length 3,.int .i64 z_10.2.2.2.2.2.1,.int .i64
 z_10.2.2.2.2.2.2.1,.int .i64 z_10.2.2.2.2.2.2.2.1,.int .u64 (z_10.2.2.2.2.2.2.2.2:Int)]∧eqqQ [AV.str a,.str b,.str c,.lst 0 (((cellsI xs).drop 0).take ((n_3.toNat-0)*1)) (n_3.toNat-0) 1,.lst 0 (((trM l).drop
 0).take ((n_1.toNat-0)*3)) (n_1.toNat-0) 3,.int .i64 nx,.int .i64 rs,.int .i64 rt,.int .u64 (rk:Int)]∧eqqQ [AV.str x_8.1,.str x_8.2.1,.str x_8.2.2.1,.lst 0 (cellsI x_8.2.2.2.1)
 x_8.2.2.2.1.length 1,.lst 0 (trM x_8.2.2.2.2.1) x_8.2.2.2.2.1.length 3,.int .i64 x_8.2.2.2.2.2.1,.int .i64 x_8.2.2.2.2.2.2.1,.int .i64 x_8.2.2.2.2.2.2.2.1,.int .u64 (x_8.2.2.2.2.2.2.2.2:Int),.str y_9.1,
 .str y_9.2.1,.str y_9.2.2.1,.lst 0 (cellsI y_9.2.2.2.1) y_9.2.2.2.1.length 1,.lst 0 (trM y_9.2.2.2.2.1) y_9.2.2.2.2.1.length 3,.int .i64 y_9.2.2.2.2.2.1,.int .i64 y_9.2.2.2.2.2.2.1,.int .i64 y_9.2.2.2.2.2.2.2.1,
 .int .u64 (y_9.2.2.2.2.2.2.2.2:Int),.str z_10.1,.str z_10.2.1,.str z_10.2.2.1,.lst 0 (cellsI z_10.2.2.2.1) z_10.2.2.2.1.length 1,.lst 0 (trM z_10.2.2.2.2.1) z_10.2.2.2.2.1.length 3,.int .i64 z_10.2.2.2.2.2.1,.int
 IntKind.i64 z_10.2.2.2.2.2.2.1,.int .i64 z_10.2.2.2.2.2.2.2.1,.int .u64 (z_10.2.2.2.2.2.2.2.2:Int),.str a,.str b,.str c,.lst 0 (((cellsI xs).drop 0).take ((n_3.toNat-0)*1)) (n_3.toNat-0) 1,.lst 0 (((trM l).drop
 0).take ((n_1.toNat-0)*3)) (n_1.toNat-0) 3,.int .i64 nx,.int .i64 rs,.int .i64 rt,.int .u64 (rk:Int)]∧eqqQ (AV.int .i64 top)∧eqqQ (AV.ptr 3 2 0)∧AV.int .i64 0=AV.int .i64 (x_11:Int)∧eqqQ
 (AV.sl 6 36 0 4 9)∧eqqQ (AV.int .i64 seq)∧eqqQ (AV.int .i64 4)∧True)∧∀x_11:Nat,Lf (x_11≤4)→bif decide ((x_11:Int)<4) then ckQ (Nat.blt (x_11:Int).toNat 4&&true&&true) (ckQ (Nat.ble (0+(x_11:Int).toNat*9+9)
 36) (∃s_12 s_13 s_14,∃t_15:Nat,∃cs_16:List AV,∃len_17 t_18:Nat,∃cs_19:List AV,∃len_20:Nat,∃n_21 n_22 n_23 n_24,AV.agg ((List.drop (0+(x_11:Int).toNat*9) [AV.str x_8.1,AV.str x_8.2.1,AV.str x_8.2.2.1,AV.lst
 0 (cellsI x_8.2.2.2.1) x_8.2.2.2.1.length 1,AV.lst 0 (trM x_8.2.2.2.2.1) x_8.2.2.2.2.1.length 3,AV.int .i64 x_8.2.2.2.2.2.1,AV.int .i64 x_8.2.2.2.2.2.2.1,AV.int .i64 x_8.2.2.2.2.2.2.2.1,AV.int .u64 (x_8.2.2.2.2.2.2.2.2:Int),AV.str
 y_9.1,AV.str y_9.2.1,AV.str y_9.2.2.1,AV.lst 0 (cellsI y_9.2.2.2.1) y_9.2.2.2.1.length 1,AV.lst 0 (trM y_9.2.2.2.2.1) y_9.2.2.2.2.1.length 3,AV.int .i64 y_9.2.2.2.2.2.1,AV.int .i64 y_9.2.2.2.2.2.2.1,AV.int .i64
 y_9.2.2.2.2.2.2.2.1,AV.int .u64 (y_9.2.2.2.2.2.2.2.2:Int),AV.str z_10.1,AV.str z_10.2.1,AV.str z_10.2.2.1,AV.lst 0 (cellsI z_10.2.2.2.1) z_10.2.2.2.1.length 1,AV.lst 0 (trM z_10.2.2.2.2.1) z_10.2.2.2.2.1.length 3,AV.int .i64
 z_10.2.2.2.2.2.1,AV.int .i64 z_10.2.2.2.2.2.2.1,AV.int .i64 z_10.2.2.2.2.2.2.2.1,AV.int .u64 (z_10.2.2.2.2.2.2.2.2:Int),AV.str a,AV.str b,AV.str c,AV.lst 0 (((cellsI xs).drop 0).take ((n_3.toNat-0)*1)) (n_3.toNat-0) 1,
 AV.lst 0 (((trM l).drop 0).take ((n_1.toNat-0)*3)) (n_1.toNat-0) 3,AV.int .i64 nx,AV.int .i64 rs,AV.int .i64 rt,AV.int .u64 (rk:Int)]).take 9)=AV.agg [.str s_12,.str s_13,.str s_14,.lst t_15 cs_16 len_17 1,.lst t_18 cs_19
 len_20 3,.int .i64 n_21,.int .i64 n_22,.int .i64 n_23,.int .u64 n_24]∧∃xs_25:List Int,∃l_26:List Tr,∃rk_27:Nat,Lf (cs_16=cellsI xs_25∧len_17=xs_25.length∧cs_19=trM l_26∧len_20 =
 l_26.length∧n_24=(rk_27:Int)∧xs_25.length≤9223372036854775807∧trOk l_26∧(-9223372036854775808≤n_23∧n_23≤9223372036854775807)∧rk_27<18446744073709551616)∧∀e_28:Int,Lf (e_28=ite (rightSM s_12 s_13 s_14 xs_25
 l_26 n_21 n_22 n_23 rk_27=true) 0 250)→∃xs_29:List Int,∃l_30:List Tr,∃rk_31:Nat,Lf (cs_16=cellsI xs_29∧len_17=xs_29.length∧cs_19=trM l_30∧len_20=l_30.length∧n_24=(rk_31:Int)∧xs_29.length ≤
 9223372036854775807∧l_30.length≤9223372036854775807∧trOk l_30∧(-9223372036854775808≤n_23∧n_23≤9223372036854775807)∧rk_31<18446744073709551616)∧∀r_32:Bool,Lf (r_32=rightSM s_12 s_13 s_14 xs_29 l_30 n_21 n_22 n_23
 rk_31)→exB (.bool r_32) (fun b_33=>exB (.bool (e_28==0)) (fun b_34=>AV.bool (!b_33==b_34)=AV.bool false∧bif e_28 !=0 then AV.bool (e_28 !=250)=AV.bool false∧rndG cs_16 len_17 s_12 s_13 s_14 x_11 key w fi ks ss w1 a1 n1
 w2 a2 n2 a b c n_3 xs n_1 l nx rs rt rk s1 s2 x_8 y_9 z_10 top seq else rndG cs_16 len_17 s_12 s_13 s_14 x_11 key w fi ks ss w1 a1 n1 w2 a2 n2 a b c n_3 xs n_1 l nx rs rt rk s1 s2 x_8 y_9 z_10 top seq)))) else exI .u32 (s2.tmod
 65536) (fun n_12=>exW .i64 n_12 (fun n_13=>exW .i64 s1 (fun n_14=>exI .u32 (s2.tmod 65536) (fun n_15=>exW .i64 n_15 (fun n_16=>∀z_17 e_18:Int,Lf (guessEM top seq=Prod.mk z_17 e_18)→∀z_19 e_20
 : Int,Lf (guessEM top seq=Prod.mk z_19 e_20)→bif z_17 !=z_19 then Q (.ret (.bool false)) [] {} else bif e_18 !=e_20 then Q (.ret (.bool false)) [] {} else ∀z_21 e_22:Int,Lf (guessEM top n_13=Prod.mk z_21 e_22)→∀z_23 e_24 :
 Int,Lf (guessEM top n_13=Prod.mk z_23 e_24)→bif z_21 !=z_23 then Q (.ret (.bool false)) [] {} else bif e_22 !=e_24 then Q (.ret (.bool false)) [] {} else ∀z_25 e_26:Int,Lf (guessEM n_14 n_16=Prod.mk z_25 e_26)→∀z_27 e_28 :
 Int,Lf (guessEM n_14 n_16=Prod.mk z_27 e_28)→bif z_25 !=z_27 then Q (.ret (.bool false)) [] {} else bif e_26 !=e_28 then Q (.ret (.bool false)) [] {} else Q (.ret (.bool true)) [] {})))))))))))):=by kernel_rfl

theorem cI_take (xs:List Int) (m:Nat):List.take ((m-0)*1) (List.drop 0 (cellsI xs))=cellsI (xs.take m):=by
 rw[List.drop_zero,Nat.sub_zero,Nat.mul_one,cellsI,cellsI,List.map_take]
theorem cT_take (l:List Tr) (m:Nat):List.take ((m-0)*3) (List.drop 0 (trM l))=trM (l.take m):=by
 rw[List.drop_zero,Nat.sub_zero];exact tr_take l m
theorem guesses_run (key:List UInt8) (w:Nat) (fi:Nat) (ks:List Int) (ss:Nat) (w1 a1 n1 w2 a2 n2:Int) (a b c:List UInt8) (xs:List Int) (l:List Tr) (nx rs rt:Int) (rk:Nat) (top seq s1 s2:Int)
  (h0:w<65536) (h1:key.length≤140737488351232) (h2:fi≤65535) (h3:ks.length≤9223372036854775807) (h4:∀k∈ks, -32768≤k∧k≤32767) (i1:0≤w1∧w1≤255) (i2:0≤a1∧a1≤255) (i3 : -9223372036854775808≤n1∧n1≤9223372036854775807) (i4:0≤w2∧w2≤255) (i5:0≤a2∧a2≤255) (i6 : -9223372036854775808≤n2∧n2≤9223372036854775807)
  (j1:trOk l) (j2 : -9223372036854775808≤rt∧rt≤9223372036854775807) (j3:rk<18446744073709551616) (j4:0≤s1∧s1≤4294967295) (j5:0≤s2∧s2≤4294967295) (Q:Out→List Blk→Gh→Prop) (hq:Q (.ret (.bool true)) [] {}):∃hv hb,goal_p3 hv hb key w fi ks ss w1 a1 n1 w2 a2 n2 a b c xs l nx rs rt rk top seq s1 s2 Q:=by
 obtain ⟨hv,hb',e⟩:∃hv hb,goal_p3 hv hb key w fi ks ss w1 a1 n1 w2 a2 n2 a b c xs l nx rs rt rk top seq s1 s2 Q=_:=⟨_,_,vc_p3 key w fi ks ss w1 a1 n1 w2 a2 n2 a b c xs l nx rs rt rk top seq s1 s2 Q⟩
 refine ⟨hv,hb',e.mpr ?_⟩
 clear e
 have m1:imin (l.length:Int) 18=((min l.length 18:Nat):Int):=by unfold imin;split<;>omega
 have m2:imin (xs.length:Int) 18=((min xs.length 18:Nat):Int):=by unfold imin;split<;>omega
 refine ⟨_,rfl,_,congrArg _ m1,ckI (by simp;omega) ⟨_,rfl,_,congrArg _ m2,ckI (by simp;omega) ⟨w,fi,ss,ks,⟨⟨rfl,rfl,rfl,rfl,rfl,h0,h1,h2,h3,h4⟩,i1,i2,i3,i4,i5,i6⟩, ?_⟩⟩⟩
 rintro x y z ⟨ox,oy,oz⟩
 refine ⟨⟨0,⟨by omega⟩,rfl,rfl,rfl,rfl,rfl,rfl,rfl,rfl,rfl,rfl,rfl,rfl,rfl,trivial⟩, ?_⟩
 rintro i ⟨g1⟩
 refine splitD (fun h=>ckI (by simp;omega) (ckI (by simp;omega) ?_)) (fun h => ?_)
 ·have fin:∀ (V:AV) (q:ShD),okSD q→V=.agg [.str q.1,.str q.2.1,.str q.2.2.1,.lst 0 (cellsI q.2.2.2.1) q.2.2.2.1.length 1,.lst 0 (trM q.2.2.2.2.1) q.2.2.2.2.1.length 3,.int .i64 q.2.2.2.2.2.1,.int .i64 q.2.2.2.2.2.2.1,.int .i64 q.2.2.2.2.2.2.2.1,.int .u64 (q.2.2.2.2.2.2.2.2:Nat)] →
    ∀K:List UInt8→List UInt8→List UInt8→Nat→List AV→Nat→Nat→List AV→Nat→Int→Int→Int→Int→Prop,K q.1 q.2.1 q.2.2.1 0 (cellsI q.2.2.2.1) q.2.2.2.1.length 0 (trM q.2.2.2.2.1) q.2.2.2.2.1.length q.2.2.2.2.2.1 q.2.2.2.2.2.2.1 q.2.2.2.2.2.2.2.1 (q.2.2.2.2.2.2.2.2:Nat) →
    ∃ (s_12 s_13 s_14:List UInt8) (t_15:Nat) (cs_16:List AV) (len_17 t_18:Nat) (cs_19:List AV) (len_20:Nat) (n_21 n_22 n_23 n_24:Int),V=AV.agg [.str s_12,.str s_13,.str s_14,.lst t_15 cs_16 len_17 1,.lst t_18 cs_19 len_20 3,.int .i64 n_21,.int .i64 n_22,.int .i64 n_23,.int .u64 n_24]∧K s_12 s_13 s_14 t_15 cs_16 len_17 t_18 cs_19 len_20 n_21 n_22 n_23 n_24:=
   fun V q _ hV K hK=>⟨_,_,_,_,_,_,_,_,_,_,_,_,_,hV,hK⟩
  have el:∃q:ShD,okSD q∧AV.agg (List.take 9 (List.drop (0+Int.toNat (i:Int)*9) [.str x.1,.str x.2.1,.str x.2.2.1,.lst 0 (cellsI x.2.2.2.1) x.2.2.2.1.length 1,.lst 0 (trM x.2.2.2.2.1) x.2.2.2.2.1.length 3,.int .i64 x.2.2.2.2.2.1,.int .i64 x.2.2.2.2.2.2.1,.int .i64 x.2.2.2.2.2.2.2.1,.int .u64 (x.2.2.2.2.2.2.2.2:Nat),
    .str y.1,.str y.2.1,.str y.2.2.1,.lst 0 (cellsI y.2.2.2.1) y.2.2.2.1.length 1,.lst 0 (trM y.2.2.2.2.1) y.2.2.2.2.1.length 3,.int .i64 y.2.2.2.2.2.1,.int .i64 y.2.2.2.2.2.2.1,.int .i64 y.2.2.2.2.2.2.2.1,.int .u64 (y.2.2.2.2.2.2.2.2:Nat),
    .str z.1,.str z.2.1,.str z.2.2.1,.lst 0 (cellsI z.2.2.2.1) z.2.2.2.1.length 1,.lst 0 (trM z.2.2.2.2.1) z.2.2.2.2.1.length 3,.int .i64 z.2.2.2.2.2.1,.int .i64 z.2.2.2.2.2.2.1,.int .i64 z.2.2.2.2.2.2.2.1,.int .u64 (z.2.2.2.2.2.2.2.2:Nat),
    .str a,.str b,.str c,.lst 0 (List.take ((Int.toNat ((min xs.length 18:Nat):Int)-0)*1) (List.drop 0 (cellsI xs))) (Int.toNat ((min xs.length 18:Nat):Int)-0) 1,.lst 0 (List.take ((Int.toNat ((min l.length 18:Nat):Int)-0)*3) (List.drop 0 (trM l))) (Int.toNat ((min l.length 18:Nat):Int)-0) 3,.int .i64 nx,.int .i64 rs,.int .i64 rt,.int .u64 (rk:Nat)])) =
    .agg [.str q.1,.str q.2.1,.str q.2.2.1,.lst 0 (cellsI q.2.2.2.1) q.2.2.2.1.length 1,.lst 0 (trM q.2.2.2.2.1) q.2.2.2.2.1.length 3,.int .i64 q.2.2.2.2.2.1,.int .i64 q.2.2.2.2.2.2.1,.int .i64 q.2.2.2.2.2.2.2.1,.int .u64 (q.2.2.2.2.2.2.2.2:Nat)]:=by
   have h4:i<4:=by omega
   rw[cI_take,cT_take]
   match i,h4 with
   | 0,_=>exact ⟨x,ox,rfl⟩
   | 1,_=>exact ⟨y,oy,rfl⟩
   | 2,_=>exact ⟨z,oz,rfl⟩
   | 3,_=>
    refine ⟨(a,b,c,xs.take (min xs.length 18),l.take (min l.length 18),nx,rs,rt,rk),⟨by simp;omega,by simp;omega,fun t ht=>j1 t (List.mem_of_mem_take ht),j2,j3⟩, ?_⟩
    dsimp only
    rw[List.length_take,List.length_take,show min (min xs.length 18) xs.length=min xs.length 18 by omega,show min (min l.length 18) l.length=min l.length 18 by omega]
    rfl
  obtain ⟨q,⟨o1,o2,o3,o4,o5⟩,eq⟩:=el
  refine fin _ q ⟨o1,o2,o3,o4,o5⟩ eq _ ?_
  refine ⟨q.2.2.2.1,q.2.2.2.2.1,q.2.2.2.2.2.2.2.2,⟨rfl,rfl,rfl,rfl,rfl,by omega,o3,o4,o5⟩, ?_⟩
  rintro e ⟨rfl⟩
  refine ⟨q.2.2.2.1,q.2.2.2.2.1,q.2.2.2.2.2.2.2.2,⟨rfl,rfl,rfl,rfl,rfl,by omega,by omega,o3,o4,o5⟩, ?_⟩
  rintro r ⟨rfl⟩
  have hG:rndG (cellsI q.2.2.2.1) q.2.2.2.1.length q.1 q.2.1 q.2.2.1 i key w fi ks ss w1 a1 n1 w2 a2 n2 a b c ((min xs.length 18:Nat):Int) xs ((min l.length 18:Nat):Int) l nx rs rt rk s1 s2 x y z top seq:=by
   unfold rndG
   refine ⟨rfl,q.2.2.2.1,⟨rfl,rfl,by omega⟩, ?_⟩
   rintro a' b' c' xs' rt' e' ⟨he⟩
   refine ⟨q.2.2.2.1,⟨rfl,rfl,by omega⟩, ?_⟩
   rintro a'' b'' c'' xs'' rt'' e'' ⟨he2⟩
   rw[he] at he2
   simp only[Prod.mk.injEq] at he2
   obtain ⟨rfl,rfl,rfl,rfl,rfl,rfl⟩:=he2
   have hlx:xs'.length≤1000:=by
    rw[newM] at he
    split at he
    ·simp only[Prod.mk.injEq] at he
     rw[←he.2.2.2.1];exact o1
    ·simp only[Prod.mk.injEq] at he
     rw[←he.2.2.2.1];simp
   exact ⟨congrArg AV.bool (by simp),xs',[],0,⟨rfl,rfl,rfl,rfl,rfl,by omega,by simp,rfl,rfl,rfl,rfl,rfl,rfl,rfl,rfl,rfl,rfl,rfl⟩,rfl,wrapI (by omega) (by omega) ⟨⟨trivial,rfl⟩,i+1,⟨by omega⟩,by omega,rfl,rfl,rfl,rfl,rfl,rfl,rfl,rfl,rfl,rfl,rfl,rfl,rfl,trivial⟩⟩
  refine ⟨_,rfl,_,rfl, ?_⟩
  cases rightSM q.1 q.2.1 q.2.2.1 q.2.2.2.1 q.2.2.2.2.1 q.2.2.2.2.2.1 q.2.2.2.2.2.2.1 q.2.2.2.2.2.2.2.1 q.2.2.2.2.2.2.2.2
  ·exact ⟨rfl,splitNE (fun _=>⟨rfl,hG⟩) (fun _=>hG)⟩
  ·exact ⟨rfl,splitNE (fun h=>absurd rfl h) (fun _=>hG)⟩
 ·have em:Int.tmod s2 65536=s2%65536:=Int.tmod_eq_emod_of_nonneg j5.1
  refine ⟨_,congrArg _ em,wrapI (by omega) (by omega) (wrapI (by omega) (by omega) ⟨_,congrArg _ em,wrapI (by omega) (by omega) ?_⟩)⟩
  rintro z1 e1 ⟨k1⟩ z2 e2 ⟨k2⟩
  rw[k1] at k2
  simp only[Prod.mk.injEq] at k2
  obtain ⟨rfl,rfl⟩:=k2
  refine splitNE (fun h=>absurd rfl h) (fun _=>splitNE (fun h=>absurd rfl h) (fun _ => ?_))
  rintro z1 e1 ⟨k1⟩ z2 e2 ⟨k2⟩
  rw[k1] at k2
  simp only[Prod.mk.injEq] at k2
  obtain ⟨rfl,rfl⟩:=k2
  refine splitNE (fun h=>absurd rfl h) (fun _=>splitNE (fun h=>absurd rfl h) (fun _ => ?_))
  rintro z1 e1 ⟨k1⟩ z2 e2 ⟨k2⟩
  rw[k1] at k2
  simp only[Prod.mk.injEq] at k2
  obtain ⟨rfl,rfl⟩:=k2
  exact splitNE (fun h=>absurd rfl h) (fun _=>splitNE (fun h=>absurd rfl h) (fun _=>hq))
end Go.Proofs.YtnhechnaemmdiaaGreatDoor
