/-
  Chapter 25: Open, by a fresh shield: residual.
-/
import Derived.Test.YtnhechnaemmdiaaGreatDoorKnO
set_option linter.unusedSimpArgs false
set_option linter.unusedVariables false
set_option linter.unusedSectionVars false
namespace Go.Proofs.YtnhechnaemmdiaaGreatDoor
open Go.RowKit
set_option maxRecDepth 1000000

def aX7:SM:=eY [(13,pV),(34,Md.cHead),(35,Md.cDecode),(58,aU2),(59,yO),(65,cbC aRn),(67,cbC aAk),(80,bNv),(82,bAe),(129,aGu)]
theorem aTg:∀f g,aX7 f=some g→aG Tryz.prog gl0 f g:=bK _ (by simp only[List.mem_cons,List.not_mem_nil,or_false,forall_eq_or_imp,forall_eq];exact ⟨rD,Md.head_ok,Md.decode_ok,aMo,aB7,aL4,xL,bGf,aNk,qR⟩)
noncomputable def xR (hv:Nat→Option Pa) (hb:Nat→Option Bool) (a b c:List UInt8) (hid:List Int) (s:List UInt8) (Q:Out→List Blk→Gh→Prop):Prop:=
 bC (e04 aX7 (fun _=>none) hv hb) (wpx (e04 aX7 (fun _=>none) hv hb) 1000) 28 [.agg [.str a,.str b,.str c,.lst 0 (aC hid) hid.length 1,.lst 0 [] 0 3,.int .i64 0,.int .i64 0,.int .i64 (-1),.int .u64 0],.str s] [] {} Q
abbrev aY3:List AV:=[.str [],.str [],.str [],.nils,.nils,.int .i64 0,.int .i64 0,.int .i64 0,.int .u64 0]
abbrev aYo:List AV:=[.bool false,.int .i64 0,.int .i64 0,.int .i64 0,.int .i64 0,.nils,.nils,.int .i64 0,.str []]
abbrev aNi (e_3:Int):Out:=.ret (.tup [.agg aY3,.agg aYo,.int .i64 e_3])
abbrev aTf:Out:=.ret (.tup [.agg aY3,.agg aYo,.int .i64 3])
abbrev aXo (sq_8:Int):Prop:=Lf ((-(1:Int) ≤ -(1:Int) ∧ -(1:Int)≤(9223372036854000000:Int))∧0≤sq_8∧sq_8≤65535)
abbrev bBs:Out:=.ret (.tup [.agg aY3,.agg aYo,.int .i64 6])
abbrev aVq (n_18:Int):Bool:=decide (0≤n_18)&&true
abbrev aMd (n_18:Int) (s:List UInt8):Bool:=aVq n_18&&Nat.ble n_18.toNat s.length
abbrev aO8 (s:List UInt8):Bool:=Nat.ble s.length s.length
abbrev aBv (a b c:List UInt8) (hid:List Int):Blk:=Blk.mk BK.exact true [.str a,.str b,.str c,.lst 0 (aC hid) hid.length 1,.lst 0 [] 0 3,.int .i64 0,.int .i64 0,.int .i64 (-1),.int .u64 0]
abbrev aPh:Blk:=Blk.mk BK.exact true aY3
abbrev aLg:Blk:=Blk.mk BK.exact true aYo
abbrev bHm (xs_4:List Int):AV:=.lst 0 (aC xs_4) xs_4.length 1
abbrev bA8 (a b c:List UInt8) (xs_4:List Int):Blk:=Blk.mk BK.exact false [.str a,.str b,.str c,bHm xs_4,.sl 5 0 0 0 3,.int .i64 0,.int .i64 0,.int .i64 (-1),.int .u64 0]
abbrev aNs:Blk:=Blk.mk BK.exact true []
abbrev aVd (mk_6:Bool) (ty_7 sq_8 ti_9 ss_10:Int) (cs_11:List Int) (ex_12:List Md.Xt) (pad_13:Int) (pl_14:List UInt8):List AV:=[.bool mk_6,.int .i64 ty_7,.int .i64 sq_8,.int .i64 ti_9,.int .i64 ss_10,.lst 0 (aC cs_11) cs_11.length 1,.lst 0 (Md.cellsXM ex_12) ex_12.length 2,.int .i64 pad_13,.str pl_14]
abbrev oM (mk_6:Bool) (ty_7 sq_8 ti_9 ss_10:Int) (cs_11:List Int) (ex_12:List Md.Xt) (pad_13:Int) (pl_14:List UInt8):Blk:=Blk.mk BK.exact true (aVd mk_6 ty_7 sq_8 ti_9 ss_10 cs_11 ex_12 pad_13 pl_14)
abbrev bIz (ss_10:Int):Blk:=Blk.mk BK.exact true [.int .i64 ss_10,.int .i64 (-1),.int .u64 0]
abbrev bAm:Out:=.ret (.tup [.agg aY3,.agg aYo,.int .i64 9])
abbrev bB3 (xs_4 hid_26:List Int) (ex_12 ex_27:List Md.Xt) (b c:List UInt8):Prop:=Lf (aC xs_4=aC hid_26∧xs_4.length=hid_26.length∧Md.cellsXM ex_12=Md.cellsXM ex_27∧ex_12.length=ex_27.length∧hid_26.length≤1000000∧ex_27.length≤1000000∧(bF hid_26 ex_27).length≤4096∧b.length=12∧c.length=32)
abbrev bAk:Out:=.ret (.tup [.agg aY3,.agg aYo,.int .i64 5])
abbrev aE4 (n_49:Int):Nat:=(n_49%18446744073709551616).toNat
abbrev aK1 (mk_37:Bool) (ty_38 sq_39 ti_40 ss_41:Int) (cs_42:List Int) (ex_43:List Md.Xt) (p_44:Int) (y_45:List UInt8):Bool:=dF (aVd mk_37 ty_38 sq_39 ti_40 ss_41 cs_42 ex_43 p_44 y_45) (aVd mk_37 ty_38 sq_39 ti_40 ss_41 cs_42 ex_43 p_44 y_45)&&true
abbrev aY2 (a b c:List UInt8) (xs_4:List Int):List AV:=[.str a,.str b,.str c,bHm xs_4,.sl 10 3 0 1 3,.int .i64 0,.int .i64 0,.int .i64 (-1),.int .u64 0]
abbrev aOz (s_33 s_34 t_24:List UInt8):Blk:=Blk.mk BK.exact true [.str s_33,.str s_34,.str t_24]
abbrev bFl:Blk:=Blk.mk BK.exact true [.int .i64 0,.int .i64 0,.int .u64 0]
abbrev aKx (ss_10 n_50:Int):List AV:=[.int .i64 ss_10,.int .i64 (-1),.int .u64 n_50]
abbrev bCy (a b c:List UInt8) (xs_4:List Int):Blk:=Blk.mk BK.exact true [.str a,.str b,.str c,bHm xs_4,.nils,.int .i64 0,.int .i64 0,.int .i64 (-1),.int .u64 0]
abbrev aXm (a b c:List UInt8) (xs_4:List Int):List AV:=[.str a,.str b,.str c,bHm xs_4,.sl 9 3 0 1 3,.int .i64 0,.int .i64 0,.int .i64 (-1),.int .u64 0]
theorem bFz (a:List UInt8) (b:List UInt8) (c:List UInt8) (hid:List Int) (s:List UInt8) (Q:Out→List Blk→Gh→Prop):xR (bH [(114716,.int .i64),(114724,.int .i64),(331788,.int .i64),(114778,.str),(114781,
 .str),(114799,.str),(114801,.str),(278539,.int .i64),(278550,.int .i64),(278551,.int .u64),(278570,.int .i64),(278571,.int .u64),(278572,.int .u64)]) (bI []) a b c hid s Q=(∃xs_0:List Int,∃l_1:List Tr,∃rk_2 :
 Nat,Lf (aC hid=aC xs_0∧hid.length=xs_0.length∧([]:List AV)=trM l_1∧0=l_1.length∧0=(rk_2:Int)∧xs_0.length≤9223372036854775807∧bI7 l_1∧(-(9223372036854775808:Int) ≤ -(1:Int) ∧ -(1:Int) ≤
 (9223372036854775807:Int))∧rk_2<18446744073709551616)∧∀e_3:Int,Lf (e_3=ite (iD a b c xs_0 l_1 0 0 (-1) rk_2=true) 0 250)→bif e_3 !=0 then bif e_3 !=0 then Q (aNi e_3) [] {} else exI .i64 (s.length:Int) (fun n_4
 => bif decide (n_4>1200) then Q aTf [] {} else Lf (s.length≤700000)∧∀mk_5:Bool,∀ty_6 sq_7 ti_8 ss_9:Int,∀cs_10:List Int,∀ex_11:List Md.Xt,∀pad_12:Int,∀pl_13:List UInt8,∀x_14:Int,∀n_15:Nat,∀e_16 :
 Int,Lf (aG5 s=Prod.mk (Prod.mk mk_5 (Prod.mk ty_6 (Prod.mk sq_7 (Prod.mk ti_8 (Prod.mk ss_9 (Prod.mk cs_10 (Prod.mk ex_11 (Prod.mk pad_12 (Prod.mk pl_13 x_14))))))))) (Prod.mk n_15 e_16))→exI .i64 (n_15:Int) (fun n_17=>ckQ (e_16
 != 0) (Q (aNi e_16) [] {}))) else ∃xs_4:List Int,Lf (aC hid=aC xs_4∧hid.length=xs_4.length∧xs_4.length≤1000000)∧exI .i64 (s.length:Int) (fun n_5=>bif decide (n_5>1200) then Q aTf [] {} else Lf (s.length ≤
 700000)∧∀mk_6:Bool,∀ty_7 sq_8 ti_9 ss_10:Int,∀cs_11:List Int,∀ex_12:List Md.Xt,∀pad_13:Int,∀pl_14:List UInt8,∀x_15:Int,∀n_16:Nat,∀e_17:Int,Lf (aG5 s=Prod.mk (Prod.mk mk_6 (Prod.mk ty_7 (Prod.mk sq_8
 (Prod.mk ti_9 (Prod.mk ss_10 (Prod.mk cs_11 (Prod.mk ex_12 (Prod.mk pad_13 (Prod.mk pl_14 x_15))))))))) (Prod.mk n_16 e_17))→exI .i64 (n_16:Int) (fun n_18=>bif e_17 !=0 then Q (aNi e_17) [] {} else aXo sq_8∧∀z_19:Int,Lf
 (z_19=jZ (-1) sq_8)→exW .i64 (-1-z_19) (fun n_20=>bif decide (z_19>281474976710655) then Q bBs [] {} else ckQ (aMd n_18 s) (exS (.str ((s.drop 0).take (n_18.toNat-0))) (fun s_21=>ckQ (aMd n_18 s&&aO8 s) (exS
 (.str ((s.drop n_18.toNat).take (s.length-n_18.toNat))) (fun s_22=>Lf (aIc [aBv a b c hid,aPh,aLg,aBv a b c hid,bA8 a b c xs_4,aNs,oM mk_6 ty_7 sq_8 ti_9 ss_10 cs_11 ex_12 pad_13 pl_14,bIz ss_10] (.sl 5 0 0 0 3))
 ∧ Lf (b.length=12)∧∀s_23:List UInt8,Lf (s_23=dN b ss_10 z_19)→ckQ (dF [.str a] [.str a]&&true) (∀t_24:List UInt8,∀e_25:Int,Lf (oH a s_23 s_21 s_22=Prod.mk t_24 e_25)→bif e_25 !=0 then Q bAm [] {} else
 Lf (aIc [aBv a b c hid,aPh,aLg,aBv a b c hid,bA8 a b c xs_4,aNs,oM mk_6 ty_7 sq_8 ti_9 ss_10 cs_11 ex_12 pad_13 pl_14,bIz ss_10] (.sl 5 0 0 0 3))∧∃hid_26:List Int,∃ex_27:List Md.Xt,bB3 xs_4 hid_26 ex_12
 ex_27 b c∧∀ex'_28:List Md.Xt,Lf (ex'_28=eB hid_26 c b ss_10 z_19 ex_27)→∃cs_29:List Int,∃ex_30:List Md.Xt,Lf (Md.medK (aC cs_11) cs_11.length (Md.cellsXM ex'_28) ex'_28.length cs_29 ex_30∧pl_14.length ≤
 1000000000)∧∀s_31:List UInt8,∀e_32:Int,Lf (Prod.mk s_31 e_32=Md.headRM mk_6 ty_7 sq_8 ti_9 ss_10 cs_29 ex_30 pad_13 pl_14)→ckQ (Nat.ble 1 s.length) (exS (.str ((s.drop 0).take 1)) (fun s_33=>ckQ (Nat.ble 1 s_31.length &&
 aO8 s_31) (exS (.str ((s_31.drop 1).take (s_31.length-1))) (fun s_34=>∃l_35:List (List UInt8),Lf ([AV.str s_33,.str s_34,.str t_24]=dX l_35∧3=l_35.length∧l_35.length≤1000∧(iI l_35 []).length≤1000000)∧∀
 x_36:List UInt8,Lf (x_36=iI l_35 [])→ckQ (Nat.ble x_36.length 9223372036854775807) (∀mk_37:Bool,∀ty_38 sq_39 ti_40 ss_41:Int,∀cs_42:List Int,∀ex_43:List Md.Xt,∀p_44:Int,∀y_45:List UInt8,∀e_46:Int,Lf
 (Md.decM x_36=Prod.mk mk_37 (Prod.mk ty_38 (Prod.mk sq_39 (Prod.mk ti_40 (Prod.mk ss_41 (Prod.mk cs_42 (Prod.mk ex_43 (Prod.mk p_44 (Prod.mk y_45 e_46)))))))))→bif e_46 !=0 then Q bAk [] {} else exW .i64 (z_19 - -1) (fun n_47=>bif
 decide (n_47>0) then exI .i64 (aDe n_47 64) (fun n_48=>ckQ (aVq n_48) (exW .u64 (0*(2:Int)^Min.min n_48.toNat 64) (fun n_49=>exW .i64 (z_19-z_19) (fun n_50=>ckQ (aVq n_50) (exW .u64 (1*(2:Int)^Min.min n_50.toNat
 64) (fun n_51=>exW .u64 ((aE4 n_49 ||| aE4 n_51:Nat):Int) (fun n_52=>ckQ (aK1 mk_37 ty_38 sq_39 ti_40 ss_41 cs_42 ex_43 p_44 y_45) (Q (.ret (.tup [.agg (aY2 a b c xs_4),.agg (aVd mk_37 ty_38 sq_39 ti_40 ss_41 cs_42 ex_43
 p_44 y_45),.int .i64 0])) [aBv a b c hid,Blk.mk BK.exact false (aY2 a b c xs_4),oM mk_37 ty_38 sq_39 ti_40 ss_41 cs_42 ex_43 p_44 y_45,aBv a b c hid,Blk.mk BK.exact false (aY2 a b c xs_4),aNs,oM mk_6 ty_7 sq_8 ti_9 ss_10
 cs_11 ex_12 pad_13 pl_14,Blk.mk BK.exact true [.int .i64 ss_10,.int .i64 z_19,.int .u64 n_52],aOz s_33 s_34 t_24,bFl,Blk.mk BK.grow true [.int .i64 ss_10,.int .i64 z_19,.int .u64 n_52]] {})))))))) else exW .i64 (-1-z_19) (fun
 n_48=>ckQ (aVq n_48) (exW .u64 (1*(2:Int)^Min.min n_48.toNat 64) (fun n_49=>exW .u64 ((0 ||| aE4 n_49:Nat):Int) (fun n_50=>ckQ (aK1 mk_37 ty_38 sq_39 ti_40 ss_41 cs_42 ex_43 p_44 y_45) (Q (.ret (.tup [.agg (aY2 a b c
 xs_4),.agg (aVd mk_37 ty_38 sq_39 ti_40 ss_41 cs_42 ex_43 p_44 y_45),.int .i64 0])) [aBv a b c hid,Blk.mk BK.exact false (aY2 a b c xs_4),oM mk_37 ty_38 sq_39 ti_40 ss_41 cs_42 ex_43 p_44 y_45,aBv a b c hid,Blk.mk BK.exact
 false (aY2 a b c xs_4),aNs,oM mk_6 ty_7 sq_8 ti_9 ss_10 cs_11 ex_12 pad_13 pl_14,Blk.mk BK.exact true (aKx ss_10 n_50),aOz s_33 s_34 t_24,bFl,Blk.mk BK.grow true (aKx ss_10 n_50)] {})))))))))))))))))))∧exI .i64
 (s.length:Int) (fun n_5=>bif decide (n_5>1200) then Q aTf [] {} else Lf (s.length≤700000)∧∀mk_6:Bool,∀ty_7 sq_8 ti_9 ss_10:Int,∀cs_11:List Int,∀ex_12:List Md.Xt,∀pad_13:Int,∀pl_14:List UInt8,∀x_15 :
 Int,∀n_16:Nat,∀e_17:Int,Lf (aG5 s=Prod.mk (Prod.mk mk_6 (Prod.mk ty_7 (Prod.mk sq_8 (Prod.mk ti_9 (Prod.mk ss_10 (Prod.mk cs_11 (Prod.mk ex_12 (Prod.mk pad_13 (Prod.mk pl_14 x_15))))))))) (Prod.mk n_16 e_17))→exI .i64 (n_16 :
 Int) (fun n_18=>bif e_17 !=0 then Q (aNi e_17) [] {} else aXo sq_8∧∀z_19:Int,Lf (z_19=jZ (-1) sq_8)→exW .i64 (-1-z_19) (fun n_20=>bif decide (z_19>281474976710655) then Q bBs [] {} else ckQ (aMd n_18 s) (exS
 (.str ((s.drop 0).take (n_18.toNat-0))) (fun s_21=>ckQ (aMd n_18 s&&aO8 s) (exS (.str ((s.drop n_18.toNat).take (s.length-n_18.toNat))) (fun s_22=>Lf (aIc [aBv a b c hid,aPh,aLg,aBv a b c hid,bCy a b c xs_4,
 oM mk_6 ty_7 sq_8 ti_9 ss_10 cs_11 ex_12 pad_13 pl_14,bIz ss_10] .nils)∧Lf (b.length=12)∧∀s_23:List UInt8,Lf (s_23=dN b ss_10 z_19)→ckQ (dF [.str a] [.str a]&&true) (∀t_24:List UInt8,∀e_25:Int,Lf (oH
 a s_23 s_21 s_22=Prod.mk t_24 e_25)→bif e_25 !=0 then Q bAm [] {} else Lf (aIc [aBv a b c hid,aPh,aLg,aBv a b c hid,bCy a b c xs_4,oM mk_6 ty_7 sq_8 ti_9 ss_10 cs_11 ex_12 pad_13 pl_14,bIz ss_10] .nils)∧∃hid_26
 : List Int,∃ex_27:List Md.Xt,bB3 xs_4 hid_26 ex_12 ex_27 b c∧∀ex'_28:List Md.Xt,Lf (ex'_28=eB hid_26 c b ss_10 z_19 ex_27)→∃cs_29:List Int,∃ex_30:List Md.Xt,Lf (Md.medK (aC cs_11) cs_11.length (Md.cellsXM
 ex'_28) ex'_28.length cs_29 ex_30∧pl_14.length≤1000000000)∧∀s_31:List UInt8,∀e_32:Int,Lf (Prod.mk s_31 e_32=Md.headRM mk_6 ty_7 sq_8 ti_9 ss_10 cs_29 ex_30 pad_13 pl_14)→ckQ (Nat.ble 1 s.length) (exS (.str ((s.drop
 0).take 1)) (fun s_33=>ckQ (Nat.ble 1 s_31.length&&aO8 s_31) (exS (.str ((s_31.drop 1).take (s_31.length-1))) (fun s_34=>∃l_35:List (List UInt8),Lf ([AV.str s_33,.str s_34,.str t_24]=dX l_35∧3=l_35.length ∧
 l_35.length≤1000∧(iI l_35 []).length≤1000000)∧∀x_36:List UInt8,Lf (x_36=iI l_35 [])→ckQ (Nat.ble x_36.length 9223372036854775807) (∀mk_37:Bool,∀ty_38 sq_39 ti_40 ss_41:Int,∀cs_42:List Int,∀ex_43:List
 Md.Xt,∀p_44:Int,∀y_45:List UInt8,∀e_46:Int,Lf (Md.decM x_36=Prod.mk mk_37 (Prod.mk ty_38 (Prod.mk sq_39 (Prod.mk ti_40 (Prod.mk ss_41 (Prod.mk cs_42 (Prod.mk ex_43 (Prod.mk p_44 (Prod.mk y_45 e_46)))))))))→bif e_46 !=0
 then Q bAk [] {} else exW .i64 (z_19 - -1) (fun n_47=>bif decide (n_47>0) then exI .i64 (aDe n_47 64) (fun n_48=>ckQ (aVq n_48) (exW .u64 (0*(2:Int)^Min.min n_48.toNat 64) (fun n_49=>exW .i64 (z_19-z_19) (fun n_50=>
 ckQ (aVq n_50) (exW .u64 (1*(2:Int)^Min.min n_50.toNat 64) (fun n_51=>exW .u64 ((aE4 n_49 ||| aE4 n_51:Nat):Int) (fun n_52=>ckQ (aK1 mk_37 ty_38 sq_39 ti_40 ss_41 cs_42 ex_43 p_44 y_45) (Q (.ret (.tup [.agg (aXm a b c
 xs_4),.agg (aVd mk_37 ty_38 sq_39 ti_40 ss_41 cs_42 ex_43 p_44 y_45),.int .i64 0])) [aBv a b c hid,Blk.mk BK.exact false (aXm a b c xs_4),oM mk_37 ty_38 sq_39 ti_40 ss_41 cs_42 ex_43 p_44 y_45,aBv a b c hid,Blk.mk BK.exact
 false (aXm a b c xs_4),oM mk_6 ty_7 sq_8 ti_9 ss_10 cs_11 ex_12 pad_13 pl_14,Blk.mk BK.exact true [.int .i64 ss_10,.int .i64 z_19,.int .u64 n_52],aOz s_33 s_34 t_24,bFl,Blk.mk BK.grow true [.int .i64 ss_10,.int .i64 z_19,
 .int .u64 n_52]] {})))))))) else exW .i64 (-1-z_19) (fun n_48=>ckQ (aVq n_48) (exW .u64 (1*(2:Int)^Min.min n_48.toNat 64) (fun n_49=>exW .u64 ((0 ||| aE4 n_49:Nat):Int) (fun n_50=>ckQ (aK1 mk_37 ty_38 sq_39 ti_40
 ss_41 cs_42 ex_43 p_44 y_45) (Q (.ret (.tup [.agg (aXm a b c xs_4),.agg (aVd mk_37 ty_38 sq_39 ti_40 ss_41 cs_42 ex_43 p_44 y_45),.int .i64 0])) [aBv a b c hid,Blk.mk BK.exact false (aXm a b c xs_4),oM mk_37 ty_38 sq_39 ti_40
 ss_41 cs_42 ex_43 p_44 y_45,aBv a b c hid,Blk.mk BK.exact false (aXm a b c xs_4),oM mk_6 ty_7 sq_8 ti_9 ss_10 cs_11 ex_12 pad_13 pl_14,Blk.mk BK.exact true (aKx ss_10 n_50),aOz s_33 s_34 t_24,bFl,Blk.mk BK.grow true (aKx
 ss_10 n_50)] {})))))))))))))))))))):=by kernel_rfl

theorem aQl (a b c:List UInt8):iI [a,b,c] []=a++(b++c):=by simp[iI,Lib.join]
theorem bFd {a b c:List UInt8} {hid:List Int} {mk:Bool} {ty sq ti ss:Int} {cs:List Int} {exc:List Md.Xt} {pad:Int} {pl:List UInt8} (Q:Out→List Blk→Gh→Prop)
  (hn:bR a b c hid=true) (hr:Md.rightM ty sq ti ss cs exc pad=true) (hl:(Md.encM mk ty sq ti ss cs exc pad pl).length≤1184)
  (hq:∀v H g,bLi v H=.tup [shV 0 0 a b c hid [(ss,sq,1)] 0 0 (-1) 0,.agg [.bool mk,.int .i64 ty,.int .i64 sq,.int .i64 ti,.int .i64 ss,.lst 0 (aC cs) cs.length 1,.lst 0 (Md.cellsXM (eB hid c b ss sq exc)) (eB hid c b ss sq exc).length 2,.int .i64 pad,.str pl],.int .i64 0]→Q (.ret v) H g) :
  ∃hv hb,xR hv hb a b c hid (uS mk ty sq ti ss cs exc pad pl a b sq) Q:=by
 obtain ⟨hv,hb',e⟩:∃hv hb,xR hv hb a b c hid (uS mk ty sq ti ss cs exc pad pl a b sq) Q=_:=⟨_,_,bFz a b c hid (uS mk ty sq ti ss cs exc pad pl a b sq) Q⟩
 refine ⟨hv,hb',e.mpr ?_⟩
 delta aY3 aYo aNi aTf aXo bBs aVq aMd aO8 aBv aPh aLg bHm bA8 aNs aVd oM bIz bAm bB3 bAk aE4 aK1 aY2 aOz bFl aKx bCy aXm
 clear e
 obtain ⟨n1,n2,n3⟩:=oJ hn
 have n4:=aG0 hn
 obtain ⟨⟨r1,r2⟩,r3,r4,r5,⟨r6,r7⟩,r8,r9⟩:=fE hr
 obtain ⟨p1,p2,p3,p4⟩:=aC1 (mk:=mk) (pl:=pl) (ix:=sq) n1 n2 hr hl
 have hL:(Md.encM mk ty sq ti ss cs exc pad pl).length=(Md.headM mk ty sq ti ss cs exc pad).length+(pl.length+(Md.padM pad).length):=by
  rw[Md.encM];simp only[List.length_append];omega
 have hcat:=aA6 hid mk ty sq ti ss cs exc pad
 have hshp:=yU (hid:=hid) (mk:=c) (sa:=b) (ss:=ss) (ix:=sq) (ex:=exc) n3 n2 (by omega)
 obtain ⟨s1,s2,s3,_⟩:=zG (mk:=mk) (ty:=ty) (sq:=sq) (ti:=ti) (ss:=ss) (cs:=cs) pad hshp
 have hr':=s2.trans hr
 have r5':=(fE hr').2.2.2.1
 have hl0:=aBm mk ty sq ti ss cs (eB hid c b ss sq exc) pad 0
 have htl:=xG mk ty sq ti ss cs (eB hid c b ss sq exc)
 have hh12:12≤(Md.headM mk ty sq ti ss cs (eB hid c b ss sq exc) 0).length:=by rw[bY,List.length_cons,htl];omega
 generalize hx':eB hid c b ss sq exc=ex' at *
 have hL':(Md.encM mk ty sq ti ss cs ex' pad pl).length=(Md.encM mk ty sq ti ss cs exc pad pl).length:=by
  rw[Md.encM,Md.encM];simp only[List.length_append,s1]
 have hL0:(Md.encM mk ty sq ti ss cs ex' 0 []).length≤1184:=by
  rw[Md.encM];simp[Md.padM];omega
 have hh:=(yX (mk:=mk) (pl:=[]) (vT hr') (by omega)).1
 have hdec:=Md.dec_enc (mk:=mk) (pl:=pl) hr' (by omega)
 refine ⟨hid,[],0,⟨rfl,rfl,rfl,rfl,rfl,by omega,fun t h=>by simp at h,by omega,by omega⟩, ?_⟩
 rintro e3 ⟨he3⟩
 rw[if_pos (sQ hn)] at he3
 subst he3
 refine aS (fun h=>absurd rfl h) (fun _=>⟨hid,⟨rfl,rfl,by omega⟩, ?_, ?_⟩)
 ·refine ⟨_,rfl,aF (fun h=>absurd h (by omega)) (fun _=>⟨⟨by omega⟩, ?_⟩)⟩
  rintro mk6 ty7 sq8 ti9 ss10 cs11 ex12 pad13 pl14 x15 n16 e17 ⟨h17⟩
  rw[p2] at h17
  cases h17
  refine ⟨_,rfl,aS (fun h=>absurd rfl h) (fun _=>⟨⟨by omega,r1,r2⟩, ?_⟩)⟩
  rintro z ⟨hz⟩
  rw[jP] at hz
  subst hz
  refine aI (by omega) (by omega) (aF (fun h=>absurd h (by omega)) (fun _=>ckI (by simp;omega) ⟨Md.headM mk ty z ti ss cs exc pad,by rw[List.drop_zero,Nat.sub_zero,Int.toNat_natCast,p3],ckI (by simp;omega) ⟨(uS mk ty z ti ss cs exc pad pl a b z).drop (Md.headM mk ty z ti ss cs exc pad).length,by rw[Int.toNat_natCast,List.take_of_length_le (by simp)],⟨.inr ⟨5,0,0,rfl,by simp,rfl,rfl,by simp⟩⟩,⟨n2⟩, ?_⟩⟩))
  rintro s23 ⟨rfl⟩
  refine ckF ?_
  rintro t24 e25 ⟨h25⟩
  rw[p4] at h25
  cases h25
  refine aS (fun h=>absurd rfl h) (fun _=>⟨⟨.inr ⟨5,0,0,rfl,by simp,rfl,rfl,by simp⟩⟩,hid,exc,⟨rfl,rfl,rfl,rfl,by omega,by omega,by omega,n2,n3⟩, ?_⟩)
  rintro e' ⟨he'⟩
  rw[hx'] at he'
  subst he'
  refine ⟨cs,e',⟨⟨rfl,rfl,rfl,rfl,by omega,by omega,fun x hx=>by have:=r5' x hx;omega⟩,by simp⟩, ?_⟩
  rintro s31 e32 ⟨h31⟩
  rw[hh] at h31
  obtain ⟨rfl,rfl⟩:=Prod.mk.inj h31
  refine ckI (by simp;omega) ⟨_,rfl,ckI (by simp;omega) ⟨_,rfl,[_,_,_],⟨rfl,rfl,by simp,by rw[aQl];simp;omega⟩, ?_⟩⟩
  rintro x36 ⟨hx36⟩
  have e36:x36=Md.encM mk ty z ti ss cs e' pad pl:=by
   rw[hx36,aQl,List.drop_zero,List.take_of_length_le (l:=(Md.headM mk ty z ti ss cs e' 0).drop 1) (by simp)]
   rw[uS,aU9 s3.symm,Md.encM,List.append_assoc]
  refine ckI (by rw[e36];simp;omega) ?_
  rw[e36,hdec]
  rintro mk37 ty38 sq39 ti40 ss41 cs42 ex43 p44 y45 e46 ⟨h46⟩
  cases h46
  refine aS (fun h=>absurd rfl h) (fun _=>aI (by omega) (by omega) (aF (fun _=>Md.iminI (a:=(z+1).toNat) (b:=64) (by omega) (ckI (by simp;try omega) ?_)) (fun h=>absurd h (by omega))))
  rw[Int.zero_mul]
  refine wU (by omega) (by omega) (aI (by omega) (by omega) (ckI (by simp) ?_))
  rw[show (1:Int)*2^Min.min (Int.toNat (z-z)) 64=1 by rw[Int.sub_self];rfl]
  refine wU (by omega) (by omega) ?_
  show exW .u64 (1:Int) _
  exact wU (by omega) (by omega) (ckF (hq _ _ _ rfl))
 ·refine ⟨_,rfl,aF (fun h=>absurd h (by omega)) (fun _=>⟨⟨by omega⟩, ?_⟩)⟩
  rintro mk6 ty7 sq8 ti9 ss10 cs11 ex12 pad13 pl14 x15 n16 e17 ⟨h17⟩
  rw[p2] at h17
  cases h17
  refine ⟨_,rfl,aS (fun h=>absurd rfl h) (fun _=>⟨⟨by omega,r1,r2⟩, ?_⟩)⟩
  rintro z ⟨hz⟩
  rw[jP] at hz
  subst hz
  refine aI (by omega) (by omega) (aF (fun h=>absurd h (by omega)) (fun _=>ckI (by simp;omega) ⟨Md.headM mk ty z ti ss cs exc pad,by rw[List.drop_zero,Nat.sub_zero,Int.toNat_natCast,p3],ckI (by simp;omega) ⟨(uS mk ty z ti ss cs exc pad pl a b z).drop (Md.headM mk ty z ti ss cs exc pad).length,by rw[Int.toNat_natCast,List.take_of_length_le (by simp)],⟨.inl ⟨rfl,rfl⟩⟩,⟨n2⟩, ?_⟩⟩))
  rintro s23 ⟨rfl⟩
  refine ckF ?_
  rintro t24 e25 ⟨h25⟩
  rw[p4] at h25
  cases h25
  refine aS (fun h=>absurd rfl h) (fun _=>⟨⟨.inl ⟨rfl,rfl⟩⟩,hid,exc,⟨rfl,rfl,rfl,rfl,by omega,by omega,by omega,n2,n3⟩, ?_⟩)
  rintro e' ⟨he'⟩
  rw[hx'] at he'
  subst he'
  refine ⟨cs,e',⟨⟨rfl,rfl,rfl,rfl,by omega,by omega,fun x hx=>by have:=r5' x hx;omega⟩,by simp⟩, ?_⟩
  rintro s31 e32 ⟨h31⟩
  rw[hh] at h31
  obtain ⟨rfl,rfl⟩:=Prod.mk.inj h31
  refine ckI (by simp;omega) ⟨_,rfl,ckI (by simp;omega) ⟨_,rfl,[_,_,_],⟨rfl,rfl,by simp,by rw[aQl];simp;omega⟩, ?_⟩⟩
  rintro x36 ⟨hx36⟩
  have e36:x36=Md.encM mk ty z ti ss cs e' pad pl:=by
   rw[hx36,aQl,List.drop_zero,List.take_of_length_le (l:=(Md.headM mk ty z ti ss cs e' 0).drop 1) (by simp)]
   rw[uS,aU9 s3.symm,Md.encM,List.append_assoc]
  refine ckI (by rw[e36];simp;omega) ?_
  rw[e36,hdec]
  rintro mk37 ty38 sq39 ti40 ss41 cs42 ex43 p44 y45 e46 ⟨h46⟩
  cases h46
  refine aS (fun h=>absurd rfl h) (fun _=>aI (by omega) (by omega) (aF (fun _=>Md.iminI (a:=(z+1).toNat) (b:=64) (by omega) (ckI (by simp;try omega) ?_)) (fun h=>absurd h (by omega))))
  rw[Int.zero_mul]
  refine wU (by omega) (by omega) (aI (by omega) (by omega) (ckI (by simp) ?_))
  rw[show (1:Int)*2^Min.min (Int.toNat (z-z)) 64=1 by rw[Int.sub_self];rfl]
  refine wU (by omega) (by omega) ?_
  show exW .u64 (1:Int) _
  exact wU (by omega) (by omega) (ckF (hq _ _ _ rfl))
def aYr:Con
 | [.agg [.str a,.str b,.str c,.lst 0 hl hn 1,.lst 0 [] 0 3,.int .i64 0,.int .i64 0,.int .i64 (-1),.int .u64 0],.str s],H,K=>∃ (hid:List Int) (mk:Bool) (ty sq ti ss:Int) (cs:List Int) (exc:List Md.Xt) (pad:Int) (pl:List UInt8),
   Lf ((hl=aC hid∧hn=hid.length∧s=uS mk ty sq ti ss cs exc pad pl a b sq)∧bR a b c hid=true∧Md.rightM ty sq ti ss cs exc pad=true∧(Md.encM mk ty sq ti ss cs exc pad pl).length≤1184) ∧
   ∀ex:List Md.Xt,Lf (ex=eB hid c b ss sq exc)→K (.ret (.tup [shV 0 0 a b c hid [(ss,sq,1)] 0 0 (-1) 0,.agg [.bool mk,.int .i64 ty,.int .i64 sq,.int .i64 ti,.int .i64 ss,.lst 0 (aC cs) cs.length 1,.lst 0 (Md.cellsXM ex) ex.length 2,.int .i64 pad,.str pl],.int .i64 0])) H
 | _,_,_=>False
theorem aX1:aG Tryz.prog gl0 28 aYr:=by
 refine iG (enters_of (by kernel_rfl)) aQ 9 shK aPa fun args H Q hc => ?_
 unfold aYr at hc
 split at hc
 ·rename_i a b c hl hn s
  obtain ⟨hid,mk,ty,sq,ti,ss,cs,exc,pad,pl,⟨⟨rfl,rfl,rfl⟩,h1,h2,h3⟩,hq⟩:=hc
  obtain ⟨hv,hb',h⟩:=bFd (fun o H' _=>∃v,o=.ret v∧Q (.ret (shK (dG 0 H' 9 v))) H) h1 h2 h3 (fun v H' g ho=>⟨v,rfl,by
   have e:shK (dG 0 H' 9 v)=_:=ho
   rw[e]
   exact hq _ ⟨rfl⟩⟩)
  exact ⟨rfl,rfl,_,1000,aY aTg (fun _=>none) hv hb',rfl,h⟩
 ·exact hc.elim
end Go.Proofs.YtnhechnaemmdiaaGreatDoor
