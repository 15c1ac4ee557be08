/-
  Chapter 25: ShieldHides: residual.
-/
import Derived.Test.YtnhechnaemmdiaaGreatDoorKnP
import Derived.Test.YtnhechnaemmdiaaGreatDoorKnQ
set_option linter.unusedSimpArgs false
set_option linter.unusedVariables false
set_option linter.unusedSectionVars false
namespace Go.Proofs.YtnhechnaemmdiaaGreatDoor
open Go.RowKit
set_option maxRecDepth 1000000

def aSv (args:List AV):List AV:=args.map Md.aggK
theorem aDs:∀args:List AV,wkL args (aSv args)
 | []=>wS
 | a::l=>gM (Md.wk_aggK a) (aDs l)
theorem aUz:aG Tryz.prog gl0 30 fun args H Q=>Md.cSame (aSv args) H Q:=jD Md.same_raw fun args H Q h=>⟨aSv args,aDs args,h⟩
def aW6:Con:=fun args H Q=>mZ [0,0] H args fun a=>Md.cSame (aSv a) H Q
theorem aQw:aG Tryz.prog gl0 30 aW6:=dM aUz aQ [0,0] fun args H Q hc=>by
 revert hc
 generalize aSv args=a
 intro hc
 unfold Md.cSame at hc
 split at hc
 ·obtain ⟨cs,ex,h,hq⟩:=hc
  exact ⟨cs,ex,h,rfl,⟨_,rfl,rfl⟩,hq⟩
 ·exact hc.elim
theorem aUb:aG Tryz.prog gl0 34 fun args H Q=>Md.cHead (aSv args) H Q:=jD Md.head_ok fun args H Q h=>⟨aSv args,aDs args,h⟩
def aWp:Con:=fun args H Q=>mZ [0] H args fun a=>Md.cHead (aSv a) H Q
theorem aQf:aG Tryz.prog gl0 34 aWp:=dM aUb aQ [0] fun args H Q hc=>by
 revert hc
 generalize aSv args=a
 intro hc
 unfold Md.cHead at hc
 split at hc
 ·obtain ⟨cs,ex,h,hq⟩:=hc
  exact ⟨cs,ex,h,fun s e he=>⟨rfl,⟨_,rfl,rfl⟩,hq s e he⟩⟩
 ·exact hc.elim
def drA:List AV→List AV
 | [.agg l]=>[.agg (nlL [0,0,0,1] l)]
 | l=>l
def aOf:Con:=fun args H Q=>aPb (drA args) H Q
theorem aNo:aG Tryz.prog gl0 26 aOf:=jD aR8 fun args H Q h=>⟨drA args,by
 unfold drA
 split
 ·exact gM (aCv (pI _ _)) wS
 ·exact iP _,h⟩
def bNr:SM:=eY [(20,aMz),(24,aWe),(26,aOf),(28,aYr),(30,aW6),(34,aWp),(35,Md.cDecode)]
noncomputable def aEr (hv:Nat→Option Pa) (hb:Nat→Option Bool) (key:List UInt8) (sq:Int) (d0 d1:List UInt8) (Q:Out→List Blk→Gh→Prop):Prop:=
 bC (e04 bNr (fun _=>none) hv hb) (wpx (e04 bNr (fun _=>none) hv hb) 1000) 7 [.str key,.int .u16 sq,.agg [.str d0,.str d1]] [] {} Q
abbrev bJh (n_2:Int) (d0:List UInt8):Bool:=decide (0≤n_2)&&true&&Nat.ble n_2.toNat d0.length
abbrev aWv:Out:=.ret (.bool false)
abbrev bNi (cs_57 cs_62:List Int) (ex_61 ex_63:List Md.Xt):Prop:=aC cs_57=aC cs_62∧cs_57.length=cs_62.length∧Md.cellsXM ex_61=Md.cellsXM ex_63∧ex_61.length=ex_63.length∧cs_62.length≤1000000∧ex_63.length≤1000000
theorem bNw (key:List UInt8) (sq:Int) (d0:List UInt8) (d1:List UInt8) (Q:Out→List Blk→Gh→Prop):aEr (bH [(28700,.int .i64),(28706,.int .i64),(28707,.int .i64),(28708,.str),(28714,.int .i64),(28715,.int
 .i64),(28716,.str),(28717,.str),(28743,.int .i64),(28745,.int .i64),(28746,.int .i64),(28747,.int .i64),(28753,.int .i64),(28754,.str),(28763,.int .i64),(28770,.agg [.int .i64,.str]),(28782,.int .i64),(28790,.str),
 (28791,.int .i64),(28797,.int .i64)]) (bI []) key sq d0 d1 Q=(exW .i64 sq (fun n_0=>exI .i64 (d0.length:Int) (fun n_1=>exI .i64 (aDe n_1 30) (fun n_2=>ckQ (bJh n_2 d0) (exS (.str ((d0.drop 0).take (n_2.toNat-0))) (fun
 s_3=>exI .i64 (d1.length:Int) (fun n_4=>exI .i64 (aDe n_4 10) (fun n_5=>ckQ (bJh n_5 d1) (exS (.str ((d1.drop 0).take (n_5.toNat-0))) (fun s_6=>ckQ (decide (s_6.length+16≤9223372036854775807)&&true) (exS (.str (s_6 ++
 [UInt8.ofNat 115,UInt8.ofNat 105,UInt8.ofNat 120,UInt8.ofNat 116,UInt8.ofNat 101,UInt8.ofNat 101,UInt8.ofNat 110,UInt8.ofNat 32,UInt8.ofNat 111,UInt8.ofNat 99,UInt8.ofNat 116,UInt8.ofNat 101,UInt8.ofNat 116,UInt8.ofNat 115,
 UInt8.ofNat 46,UInt8.ofNat 46])) (fun s_7=>∃w_8:Nat,∃ks_9:List Int,Lf (2=(w_8:Int)∧([]:List AV)=bC8 ks_9∧0=ks_9.length∧w_8<65536∧key.length≤140737488351232)∧∀a_10 b_11 c_12:List UInt8,∀xs_13:List
 Int,Lf (a_10=bU key 32∧b_11=bU (key++[(115:UInt8)]) 12∧c_12=bU (key++[(109:UInt8)]) 32∧xs_13=fZ w_8 16)→∃hid_14 cs_15:List Int,∃ex_16:List Md.Xt,Lf ((aC xs_13=aC hid_14 ∧
 xs_13.length=hid_14.length∧([]:List AV)=aC cs_15∧0=cs_15.length∧[AV.int .i64 1,.str s_3,.int .i64 2,.str s_7]=Md.cellsXM ex_16∧2=ex_16.length)∧bR a_10 b_11 c_12 hid_14=true∧Md.rightM 0 n_0 0 3 cs_15
 ex_16 0=true∧(Md.encM false 0 n_0 0 3 cs_15 ex_16 0 [UInt8.ofNat 97]).length≤1184)∧∀p_17:List UInt8,Lf (p_17=uS false 0 n_0 0 3 cs_15 (eB hid_14 c_12 b_11 3 n_0 ex_16) 0 [UInt8.ofNat 97] a_10 b_11 n_0)→∃cs_18:List
 Int,∃ex_19:List Md.Xt,Lf (Md.medK [] 0 [.int .i64 1,.str s_3,.int .i64 2,.str s_7] 2 cs_18 ex_19∧List.length [UInt8.ofNat 97]≤1000000000)∧∀s_20:List UInt8,∀e_21:Int,Lf (Prod.mk s_20 e_21=Md.headRM false 0 n_0 0 3
 cs_18 ex_19 0 [UInt8.ofNat 97])→bif e_21 !=0 then Q aWv [] {} else exI .i64 (p_17.length:Int) (fun n_22=>exI .i64 (s_20.length:Int) (fun n_23=>exW .i64 (n_23+1) (fun n_24=>exW .i64 (n_24+16) (fun n_25=>bif n_22 !=n_25
 then Q aWv [] {} else exI .i64 (s_20.length:Int) (fun n_26=>ckQ (bJh n_26 p_17) (exS (.str ((p_17.drop 0).take (n_26.toNat-0))) (fun s_27=>ckQ (Nat.ble s_27.length 9223372036854775807) (∀mk_28:Bool,∀ty_29 sq_30 ti_31 ss_32 :
 Int,∀cs_33:List Int,∀ex_34:List Md.Xt,∀p_35:Int,∀y_36:List UInt8,∀e_37:Int,Lf (Md.decM s_27=Prod.mk mk_28 (Prod.mk ty_29 (Prod.mk sq_30 (Prod.mk ti_31 (Prod.mk ss_32 (Prod.mk cs_33 (Prod.mk ex_34 (Prod.mk p_35
 (Prod.mk y_36 e_37)))))))))→bif e_37 !=0 then Q aWv [] {} else exI .i64 (ex_34.length:Int) (fun n_38=>bif n_38 !=2 then Q aWv [] {} else ckQ (Nat.blt 0 ex_34.length&&true) (ckQ (Nat.ble 2 (Md.cellsXM ex_34).length) (∃n_39
 s_40,AV.agg (((Md.cellsXM ex_34).drop 0).take 2)=AV.agg [.int .i64 n_39,.str s_40]∧bif !(n_39==1&&(eqB s_40 s_3&&true)) then Q aWv [] {} else ckQ (Nat.blt 1 ex_34.length&&true) (ckQ (Nat.blt 2 (Md.cellsXM ex_34).length) (exV
 .i64 ((Md.cellsXM ex_34).getD 2 AV.undef) (fun n_41=>bif n_41 !=2 then Q aWv [] {} else ckQ (Nat.blt 1 ex_34.length&&true) (ckQ (Nat.blt 3 (Md.cellsXM ex_34).length) (exS ((Md.cellsXM ex_34).getD 3 AV.undef) (fun s_42=>exI .i64
 (s_42.length:Int) (fun n_43=>exI .i64 (s_7.length:Int) (fun n_44=>bif n_43 !=n_44 then Q aWv [] {} else ∃w_45:Nat,∃ks_46:List Int,Lf (0=(w_45:Int)∧([]:List AV)=bC8 ks_46∧0=ks_46.length∧w_45<65536 ∧
 key.length≤140737488351232)∧∀a_47 b_48 c_49:List UInt8,∀xs_50:List Int,Lf (a_47=bU key 32∧b_48=bU (key++[(115:UInt8)]) 12∧c_49=bU (key++[(109:UInt8)]) 32∧xs_50=fZ w_45 16)→∃hid_51:List
 Int,∃mk_52:Bool,∃ty_53 sq_54 ti_55 ss_56:Int,∃cs_57:List Int,∃exc_58:List Md.Xt,∃pad_59:Int,∃pl_60:List UInt8,Lf ((aC xs_13=aC hid_51∧xs_13.length=hid_51.length∧p_17=uS mk_52 ty_53 sq_54 ti_55
 ss_56 cs_57 exc_58 pad_59 pl_60 a_10 b_11 sq_54)∧bR a_10 b_11 c_12 hid_51=true∧Md.rightM ty_53 sq_54 ti_55 ss_56 cs_57 exc_58 pad_59=true∧(Md.encM mk_52 ty_53 sq_54 ti_55 ss_56 cs_57 exc_58 pad_59 pl_60).length≤1184)∧∀
 ex_61:List Md.Xt,Lf (ex_61=eB hid_51 c_12 b_11 ss_56 sq_54 exc_58)→∃cs_62:List Int,∃ex_63:List Md.Xt,Lf (bNi cs_57 cs_62 ex_61 ex_63∧false=mk_52∧0=ty_53∧n_0=sq_54∧0=ti_55∧3=ss_56∧([]:List AV) =
 aC cs_62∧0=cs_62.length∧[AV.int .i64 1,.str s_3,.int .i64 2,.str s_7]=Md.cellsXM ex_63∧2=ex_63.length∧0=pad_59∧[UInt8.ofNat 97]=pl_60)∧∃hid_64:List Int,∃mk_65:Bool,∃ty_66 sq_67 ti_68 ss_69:Int,∃
 cs_70:List Int,∃exc_71:List Md.Xt,∃pad_72:Int,∃pl_73:List UInt8,Lf ((aC xs_50=aC hid_64∧xs_50.length=hid_64.length∧p_17=uS mk_65 ty_66 sq_67 ti_68 ss_69 cs_70 exc_71 pad_72 pl_73 a_47 b_48 sq_67)∧bR
 a_47 b_48 c_49 hid_64=true∧Md.rightM ty_66 sq_67 ti_68 ss_69 cs_70 exc_71 pad_72=true∧(Md.encM mk_65 ty_66 sq_67 ti_68 ss_69 cs_70 exc_71 pad_72 pl_73).length≤1184)∧∀ex_74:List Md.Xt,Lf (ex_74=eB hid_64 c_49 b_48 ss_69
 sq_67 exc_71)→∃cs_75:List Int,∃ex_76:List Md.Xt,Lf (bNi cs_70 cs_75 ex_74 ex_76∧false=mk_65∧0=ty_66∧n_0=sq_67∧0=ti_68∧3=ss_69∧([]:List AV)=aC cs_75∧0=cs_75.length∧Md.cellsXM ex_34=Md.cellsXM
 ex_76∧ex_34.length=ex_76.length∧0=pad_72∧[UInt8.ofNat 97]=pl_73)∧Q (.ret (.bool true)) [] {}))))))))))))))))))))))))))))))):=by kernel_rfl

end Go.Proofs.YtnhechnaemmdiaaGreatDoor
