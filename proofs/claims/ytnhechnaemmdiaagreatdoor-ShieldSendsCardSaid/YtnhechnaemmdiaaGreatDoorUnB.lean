/-
  Chapter 25: ShieldSends: residual.
-/
import Derived.Test.YtnhechnaemmdiaaGreatDoorK25UR
import Derived.Test.YtnhechnaemmdiaaGreatDoorKnQ
import Derived.Test.YtnhechnaemmdiaaGreatDoorKnT
import Derived.Test.YtnhechnaemmdiaaGreatDoorK25CX
set_option linter.unusedSimpArgs false
set_option linter.unusedVariables false
set_option linter.unusedSectionVars false
namespace Go.Proofs.YtnhechnaemmdiaaGreatDoor
open Go.RowKit
set_option maxRecDepth 1000000

def aIb:Con
 | [.agg [.str key,.int .u16 u,.int .u16 f,.lst 0 l n 1,.int .u32 ss]],H,K=>∃ (w:Nat) (ks:QT),Lf (u=(w:Int)∧l=tX ks∧n=ks.length∧w<65536∧key.length<=140737488351232) ∧
   ∀ (a b c:LA) (xs:QT),Lf (dA a b c xs=true)->K (.ret (.agg [.str a,.str b,.str c,.lst 0 (aA xs) xs.length 1,.lst 0 [] 0 3,.int .i64 0,.int .i64 0,.int .i64 (-1),.int .u64 0])) H
 | _,_,_=>False
theorem aQn:aI Tryz.prog gl0 26 aIb:=lQ aZ2 λargs H K hc=>by
 unfold aIb at hc
 split at hc
 ·rename_i key u f l n ss
  obtain⟨w,ks,⟨rfl,rfl,rfl,h1,h2⟩,hq⟩:=hc
  refine⟨w,ks,⟨rfl,rfl,rfl,h1,h2⟩, ?_⟩
  rintro a b c xs ⟨rfl,rfl,rfl,rfl⟩
  exact hq _ _ _ _ ⟨wC _ _ _ _⟩
 ·exact hc.elim
def bKs(i:Nat)(w:List Tr):Prop:=qH w w.length=true∧w.length<=i∧∀t∈w,(0<=t.2.1∧t.2.1<=65536*(i+1:Int))∧t.2.2<18446744073709551616
def bVm(ps:List (Int×Nat))(i:Nat)(w:List Tr)(nx:Int):Prop:=(ps.length<=16∧bJt ps)∧i<=ps.length∧bKs i w∧0<=nx∧nx<=i
def bT8(H:HV)(i:Nat)(w:List Tr)(nx:Int):HV:=match H[i]? with
 | some b=>H.set i ⟨b.k,b.lf,(b.cs.set 4 (.lst 0 (trM w) w.length 3)).set 5 (.int .i64 nx)⟩
 | none=>H
abbrev X8:=List (Int×Nat)×Nat×List Tr×Int
def bTw(s:S):List (List LInv):=[[
 { α:=X8,pre:=λx=>Lf (bVm x.1 x.2.1 x.2.2.1 x.2.2.2),st:=λx=>⟨mkT [(3,s.tm.get 3),(5,.ptr 2 9 0),(23,.lst 0 (mQ x.1) x.1.length 9),(24,.int .i64 (x.1.length:Nat)),(25,.int .i64 (x.2.1:Nat))],bT8 s.hp 2 x.2.2.1 x.2.2.2⟩,mu:=λx=>1000-x.2.1 }]]
def bUz(s:S):List (List LInv):=[[
 { α:=Nat,pre:=λk=>Lf (k<=999),st:=λk=>⟨mkT [(3,s.tm.get 3),(5,s.tm.get 5),(6,s.tm.get 6),(7,s.tm.get 7),(8,s.tm.get 8),(23,s.tm.get 23),(24,s.tm.get 24),(25,s.tm.get 25),(42,s.tm.get 42),(43,s.tm.get 43),(44,.int .i64 (k:Nat))],s.hp⟩,mu:=λk=>1000-k }]]
def bVz(i:Nat):Option (S->List (List LInv)):=bif Nat.beq i 8000 then some bTw else bif Nat.beq i 8002 then some bUz else none
def sm8:SM:=gG [(13,aUt),(20,aYh),(24,aRn),(26,aIb),(36,aCe),(37,aVz),(38,Cd.cComp),(39,aWz)]
theorem bPt:∀f g,sm8 f=some g->aI Tryz.prog gl0 f g:=bO _ (by simp only[bXd,bXn,bY0,bYd,bY4];exact⟨aI8,aX8,aZ5,aQn,aL0,bAl,Cd.comp_ok,aRg⟩)
noncomputable def aQ7(hv:LI)(hb:LB)(key:LA)(u fi:Nat)(ks:QT)(ss:Nat)(b:Bool)(tc:Nat)(qs:List Cd.Pc)(Q:BS):Prop:=
 aT (e04 sm8 bVz hv hb) (wpx (e04 sm8 bVz hv hb) 1000) 8 [.agg [.str key,.int .u16 (u:Nat),.int .u16 (fi:Nat),.lst 0 (tX ks) ks.length 1,.int .u32 (ss:Nat)],.agg [.bool b,.lst tc (Cd.cellsPcM qs) qs.length 10]] [] {} Q
abbrev aRs(x_12:List (Int×Nat)×Nat×List Tr×Int):Prop:=Lf (bVm x_12.1 x_12.2.1 x_12.2.2.1 x_12.2.2.2)
abbrev aSv(key:LA)(u fi:Nat)(ks:QT)(ss:Nat):Prop:=aK [AV.str key,.int .u16 (u:Int),.int .u16 (fi:Int),.lst 0 (tX ks) ks.length 1,.int .u32 (ss:Int)]
abbrev aV9(b:Bool)(tc:Nat)(qs:List Cd.Pc):Prop:=aK [AV.bool b,.lst tc (Cd.cellsPcM qs) qs.length 10]
abbrev bFk(xs_5:QT):AV:=.lst 0 (aA xs_5) xs_5.length 1
abbrev aOq(a_2 b_3 c_4:LA)(xs_5:QT)(x_12:List (Int×Nat)×Nat×List Tr×Int):HB:=[.str a_2,.str b_3,.str c_4,bFk xs_5,.lst 0 (trM x_12.2.2.1) x_12.2.2.1.length 3,.int .i64 x_12.2.2.2,.int .i64 0,.int .i64 (-1),.int .u64 0]
abbrev aN1:Prop:=aK (AV.ptr 1 2 0)
abbrev bKv(x_12:List (Int×Nat)×Nat×List Tr×Int):AV:=.lst 0 (mQ x_12.1) x_12.1.length 9
abbrev aN9:Prop:=aK (AV.ptr 2 9 0)
abbrev bC8(x_12:List (Int×Nat)×Nat×List Tr×Int):AV:=.int .i64 (x_12.1.length:Int)
abbrev bDf:Prop:=True∧(0:Nat)=(0:Nat)
abbrev aNi(w'_31:List Tr):AV:=.lst 0 (trM w'_31) w'_31.length 3
abbrev aVi(n_34:Int)(x_12:List (Int×Nat)×Nat×List Tr×Int):Bool:=decide (0<=n_34)&&Nat.blt n_34.toNat x_12.2.2.1.length&&true
abbrev bJ2(a_2 b_3 c_4:LA)(hid_27:QT)(w'_31:List Tr)(x_12:List (Int×Nat)×Nat×List Tr×Int)(n_32 n_44:Int)(y_45:Nat)(n_13:Int):Prop:=aK [AV.str a_2,.str b_3,.str c_4,bFk hid_27,aNi w'_31,.int .i64 x_12.2.2.2,.int .i64 0,.int .i64 (-1),.int .u64 0]∧aN1∧aK (AV.ptr 3 9 0)∧aK (bKv x_12)∧aK (AV.int .i64 n_32)∧aN9∧aK (AV.int .i64 (x_12.2.1:Int))∧aK (AV.ptr 4 9 0)∧aK (bC8 x_12)∧AV.int .i64 n_44=AV.int .i64 (y_45:Int)∧aK (AV.int .i64 n_13)∧aK (AV.lst 0 (trM w'_31) w'_31.length 3)∧True
abbrev bHh(qs ps_34:List Cd.Pc):Prop:=Lf (Cd.cellsPcM qs=Cd.cellsPcM ps_34∧qs.length=ps_34.length∧∀p_35:Cd.Pc,Membership.mem ps_34 p_35->Cd.okP p_35)
abbrev bPk(l_35:List Cd.Ctl):Prop:=Cd.checkMCd l_35=true∧(Cd.encCM l_35).length<=1180
abbrev bTq(x_12:List (Int×Nat)×Nat×List Tr×Int)(key:LA)(u fi:Nat)(ks:QT)(ss:Nat)(b:Bool)(tc:Nat)(qs:List Cd.Pc)(a_2 b_3 c_4:LA)(hid_36:QT)(w_37:List Tr)(xs_5:QT):Prop:=exW .i64 ((x_12.2.1:Int)+1) (λn_53=>(True∧(0:Nat)=(0:Nat))∧∃y_54:List (Int×Nat)×Nat×List Tr×Int,aRs y_54∧1000-y_54.2.1<1000-x_12.2.1∧aSv key u fi ks ss∧aK [AV.bool b,.lst tc (Cd.cellsPcM qs) qs.length 10]∧[AV.str a_2,.str b_3,.str c_4,.lst 0 (aA hid_36) hid_36.length 1,aNi w_37,.int .i64 (x_12.2.2.2+1),.int .i64 0,.int .i64 (-1),.int .u64 0]=aOq a_2 b_3 c_4 xs_5 y_54∧aN1∧AV.lst 0 (mQ x_12.1) x_12.1.length 9=AV.lst 0 (mQ y_54.1) y_54.1.length 9∧aN9∧AV.int .i64 n_53=AV.int .i64 (y_54.2.1:Int)∧bC8 x_12=bC8 y_54∧True)
theorem bW1(key:LA)(u:Nat)(fi:Nat)(ks:QT)(ss:Nat)(b:Bool)(tc:Nat)(qs:List Cd.Pc)(Q:BS):aQ7 (aW [(32792,.int .i64),(32795,.int .i64),(32797,.agg [.bool,.int
 .i64,.int .i64,.int .i64,.int .i64,.lst 1,.lst 2,.int .i64,.str]),(32915,.int .i64),(32811,.int .i64),(32814,.int .i64),(32816,.agg [.int .i64,.int .i64,.int .u64]),(32825,.int .i64),(32828,.lit (.bool false)),(32833,
 .int .i64),(32843,.int .i64),(32844,.lit (.bool false)),(32860,.agg [.int .i64,.int .i64,.int .u64]),(32861,.lit (.bool false)),(32864,.int .i64),(32887,.int .i64),(32890,.int .i64),(32891,.lit (.bool false)),(32895,
 .int .i64),(32897,.int .i64),(32898,.int .i64),(32899,.int .i64),(32900,.lit (.bool false)),(32908,.int .i64),(32909,.int .i64),(32910,.str),(32911,.lit (.bool false))]) (aV []) key u fi ks ss b tc qs Q=(∃w_0:Nat,∃
 ks_1:QT,Lf ((u:Int)=(w_0:Int)∧tX ks=tX ks_1∧ks.length=ks_1.length∧w_0<65536∧key.length<=140737488351232)∧∀a_2 b_3 c_4:LA,∀xs_5:QT,Lf (dA a_2 b_3 c_4 xs_5=true)->∃w_6 fi_7
 ss_8:Nat,∃ks_9:QT,Lf ((u:Int)=(w_6:Int)∧(fi:Int)=(fi_7:Int)∧(ss:Int)=(ss_8:Int)∧tX ks=tX ks_9∧ks.length=ks_9.length∧fi_7<=65535∧ks_9.length<=9223372036854775807∧∀k_10:Int,
 Membership.mem ks_9 k_10 → -32768<=k_10∧k_10<=32767)∧∀ps_10:List (Int×Nat),Lf (ps_10.length<=16∧bJt ps_10)->exI .i64 (ps_10.length:Int) (λn_11=>(∃x_12:List (Int×Nat)×Nat×List Tr×Int,aRs x_12∧aSv key
 u fi ks ss∧aV9 b tc qs∧[AV.str a_2,.str b_3,.str c_4,bFk xs_5,.lst 0 [] 0 3,.int .i64 0,.int .i64 0,.int .i64 (-1),.int .u64 0]=aOq a_2 b_3 c_4 xs_5 x_12∧aN1∧AV.lst 0 (mQ ps_10) ps_10.length 9=bKv x_12∧aN9 ∧
 AV.int .i64 0=AV.int .i64 (x_12.2.1:Int)∧AV.int .i64 n_11=bC8 x_12∧True)∧∀x_12:List (Int×Nat)×Nat×List Tr×Int,aRs x_12->bif decide ((x_12.2.1:Int)<(x_12.1.length:Int))then exI .i64 (x_12.2.1:Int) (fun
 n_13=>ckQ (Nat.blt (x_12.2.1:Int).toNat x_12.1.length&&true) (ckQ (Nat.ble ((x_12.2.1:Int).toNat*9+9) (mQ x_12.1).length) (∃b_14 n_15 n_16 n_17 n_18,∃t_19:Nat,∃cs_20:HB,∃len_21 t_22:Nat,∃cs_23:HB,∃
 len_24:Nat,∃n_25 s_26,AV.agg (((mQ x_12.1).drop ((x_12.2.1:Int).toNat*9)).take 9)=AV.agg [.bool b_14,.int .i64 n_15,.int .i64 n_16,.int .i64 n_17,.int .i64 n_18,.lst t_19 cs_20 len_21 1,.lst t_22 cs_23 len_24 2,.int
 .i64 n_25,.str s_26]∧∃hid_27 cs_28:QT,∃ex_29:List Md.Xt,∃w_30:List Tr,Lf ((aA xs_5=aA hid_27∧xs_5.length=hid_27.length∧cs_20=aA cs_28∧len_21=cs_28.length∧cs_23=Md.cellsXM ex_29∧len_24 =
 ex_29.length∧trM x_12.2.2.1=trM w_30∧x_12.2.2.1.length=w_30.length)∧(dQ a_2 b_3 c_4 hid_27 w_30 x_12.2.2.2 0 (-1) 0=true∧w_30.length<16∧Md.rightMMd n_15 n_16 n_17 n_18 cs_28 ex_29 n_25=true∧(Md.encM b_14 n_15
 n_16 n_17 n_18 cs_28 ex_29 n_25 s_26).length<=1184)∧∀t_31:Tr,Membership.mem w_30 t_31->(-1<=t_31.2.1∧t_31.2.1<=281474976000000)∧t_31.2.2<18446744073709551616∧dP t_31.2.1 n_16<=281474976710655)∧exW .i64 ((x_12.2.1 :
 Int)+1) (λn_31=>bDf∧∃y_32:List (Int×Nat)×Nat×List Tr×Int,aRs y_32∧1000-y_32.2.1<1000-x_12.2.1∧aSv key u fi ks ss∧aV9 b tc qs∧aOq a_2 b_3 c_4 xs_5 x_12=aOq a_2 b_3 c_4 xs_5 y_32∧aN1∧bKv
 x_12=bKv y_32∧aN9∧AV.int .i64 n_31=AV.int .i64 (y_32.2.1:Int)∧bC8 x_12=bC8 y_32∧True)∧(LA->∀w'_31:List Tr,Lf (bQ8 n_16 n_18 w_30 w'_31)->exI .i64 (w'_31.length:Int) (λn_32=>(∃x_33:Nat,Lf
 (x_33<=999)∧aSv key u fi ks ss∧aV9 b tc qs∧aK (aOq a_2 b_3 c_4 xs_5 x_12)∧aK [AV.bool b_14,.int .i64 n_15,.int .i64 n_16,.int .i64 n_17,.int .i64 n_18,.lst t_19 cs_20 len_21 1,.lst t_22 cs_23 len_24 2,.int .i64 n_25,
 .str s_26]∧aK [AV.str a_2,.str b_3,.str c_4,bFk hid_27,aNi w'_31,.int .i64 x_12.2.2.2,.int .i64 0,.int .i64 (-1),.int .u64 0]∧aN1∧aK (AV.ptr 3 9 0)∧aK (bKv x_12)∧aK (AV.int .i64 n_32)∧aN9∧aK (AV.int
 .i64 (x_12.2.1:Int))∧aK (AV.ptr 4 9 0)∧aK (bC8 x_12)∧AV.int .i64 0=AV.int .i64 (x_33:Int)∧aK (AV.int .i64 n_13)∧aK (AV.lst 0 (trM w'_31) w'_31.length 3)∧True)∧∀x_33:Nat,Lf (x_33<=999)->bif decide ((x_33 :
 Int)<n_32)then exI .i64 (x_33:Int) (λn_34=>ckQ (Nat.blt (x_33:Int).toNat w'_31.length&&true) (ckQ (Nat.ble ((x_33:Int).toNat*3+3) (trM w'_31).length) (∃n_35 n_36 n_37,AV.agg (((trM w'_31).drop ((x_33:Int).toNat *
 3)).take 3)=AV.agg [.int .i64 n_35,.int .i64 n_36,.int .u64 n_37]∧bif n_35==n_18 then exW .i64 (((n_36%18446744073709551616).toNat &&& 65535:Nat):Int) (λn_38=>AV.bool (n_38 !=n_16)=AV.bool false∧exI .i64
 (x_12.2.2.1.length:Int) (λn_39=>bif decide (n_34<n_39)then ckQ (aVi n_34 x_12) (ckQ (Nat.blt (n_34.toNat*3+1) (trM x_12.2.2.1).length) (exV .i64 ((trM x_12.2.2.1).getD (n_34.toNat*3+1) AV.undef) (λn_40=>AV.bool
 (decide (n_36<=n_40))=AV.bool false∧bif n_35 !=n_18 then ckQ (aVi n_34 x_12) (ckQ (Nat.ble (n_34.toNat*3+3) (trM x_12.2.2.1).length) (∃n_41 n_42 n_43,AV.agg (((trM x_12.2.2.1).drop (n_34.toNat*3)).take 3)=AV.agg [.int
 .i64 n_41,.int .i64 n_42,.int .u64 n_43]∧AV.bool (!(n_35==n_41&&(n_36==n_42&&(n_37==n_43&&true))))=AV.bool false∧exW .i64 ((x_33:Int)+1) (λn_44=>bDf∧∃y_45:Nat,Lf (y_45<=999)∧1000-y_45<1000-x_33
 ∧ aSv key u fi ks ss∧aV9 b tc qs∧aK (aOq a_2 b_3 c_4 xs_5 x_12)∧aK [AV.bool b_14,.int .i64 n_15,.int .i64 n_16,.int .i64 n_17,.int .i64 n_18,.lst t_19 cs_20 len_21 1,.lst t_22 cs_23 len_24 2,.int .i64 n_25,.str s_26] ∧
 bJ2 a_2 b_3 c_4 hid_27 w'_31 x_12 n_32 n_44 y_45 n_13)))else exW .i64 ((x_33:Int)+1) (λn_41=>bDf∧∃y_42:Nat,Lf (y_42<=999)∧1000-y_42<1000-x_33∧aSv key u fi ks ss∧aV9 b tc qs∧aK (aOq a_2 b_3 c_4 xs_5
 x_12)∧aK [AV.bool b_14,.int .i64 n_15,.int .i64 n_16,.int .i64 n_17,.int .i64 n_18,.lst t_19 cs_20 len_21 1,.lst t_22 cs_23 len_24 2,.int .i64 n_25,.str s_26]∧bJ2 a_2 b_3 c_4 hid_27 w'_31 x_12 n_32 n_41 y_42 n_13))))else
 bif n_35 !=n_18 then ckQ (aVi n_34 x_12) (ckQ (Nat.ble (n_34.toNat*3+3) (trM x_12.2.2.1).length) (∃n_40 n_41 n_42,AV.agg (((trM x_12.2.2.1).drop (n_34.toNat*3)).take 3)=AV.agg [.int .i64 n_40,.int .i64 n_41,.int .u64 n_42] ∧
 AV.bool (!(n_35==n_40&&(n_36==n_41&&(n_37==n_42&&true))))=AV.bool false∧exW .i64 ((x_33:Int)+1) (λn_43=>bDf∧∃y_44:Nat,Lf (y_44<=999)∧1000-y_44<1000-x_33∧aSv key u fi ks ss∧aV9 b tc qs∧aK
 (aOq a_2 b_3 c_4 xs_5 x_12)∧aK [AV.bool b_14,.int .i64 n_15,.int .i64 n_16,.int .i64 n_17,.int .i64 n_18,.lst t_19 cs_20 len_21 1,.lst t_22 cs_23 len_24 2,.int .i64 n_25,.str s_26]∧bJ2 a_2 b_3 c_4 hid_27 w'_31 x_12 n_32
 n_43 y_44 n_13)))else exW .i64 ((x_33:Int)+1) (λn_40=>bDf∧∃y_41:Nat,Lf (y_41<=999)∧1000-y_41<1000-x_33∧aSv key u fi ks ss∧aV9 b tc qs∧aK (aOq a_2 b_3 c_4 xs_5 x_12)∧aK [AV.bool b_14,.int .i64 n_15,
 .int .i64 n_16,.int .i64 n_17,.int .i64 n_18,.lst t_19 cs_20 len_21 1,.lst t_22 cs_23 len_24 2,.int .i64 n_25,.str s_26]∧bJ2 a_2 b_3 c_4 hid_27 w'_31 x_12 n_32 n_40 y_41 n_13)))else bif n_35 !=n_18 then ckQ (aVi n_34 x_12)
 (ckQ (Nat.ble (n_34.toNat*3+3) (trM x_12.2.2.1).length) (∃n_38 n_39 n_40,AV.agg (((trM x_12.2.2.1).drop (n_34.toNat*3)).take 3)=AV.agg [.int .i64 n_38,.int .i64 n_39,.int .u64 n_40]∧AV.bool (!(n_35==n_38&&(n_36==n_39 &&
 (n_37==n_40&&true))))=AV.bool false∧exW .i64 ((x_33:Int)+1) (λn_41=>bDf∧∃y_42:Nat,Lf (y_42<=999)∧1000-y_42<1000-x_33∧aSv key u fi ks ss∧aV9 b tc qs∧aK (aOq a_2 b_3 c_4 xs_5 x_12)∧aK [AV.bool
 b_14,.int .i64 n_15,.int .i64 n_16,.int .i64 n_17,.int .i64 n_18,.lst t_19 cs_20 len_21 1,.lst t_22 cs_23 len_24 2,.int .i64 n_25,.str s_26]∧bJ2 a_2 b_3 c_4 hid_27 w'_31 x_12 n_32 n_41 y_42 n_13)))else exW .i64 ((x_33:Int) +
 1) (λn_38=>bDf∧∃y_39:Nat,Lf (y_39<=999)∧1000-y_39<1000-x_33∧aSv key u fi ks ss∧aV9 b tc qs∧aK (aOq a_2 b_3 c_4 xs_5 x_12)∧aK [AV.bool b_14,.int .i64 n_15,.int .i64 n_16,.int .i64 n_17,.int .i64 n_18,
 .lst t_19 cs_20 len_21 1,.lst t_22 cs_23 len_24 2,.int .i64 n_25,.str s_26]∧bJ2 a_2 b_3 c_4 hid_27 w'_31 x_12 n_32 n_38 y_39 n_13))))else ∃ps_34:List Cd.Pc,bHh qs ps_34∧∀l_35:List Cd.Ctl,Lf (l_35=Cd.cpF b ps_34
 (Min.min (ps_34.length-1) 3)∧bPk l_35)->ckQ (dE [.str a_2,.str b_3,.str c_4,bFk hid_27,aNi w'_31,.int .i64 x_12.2.2.2,.int .i64 0,.int .i64 (-1),.int .u64 0] [.str a_2,.str b_3,.str c_4,bFk hid_27,aNi w'_31,.int
 .i64 x_12.2.2.2,.int .i64 0,.int .i64 (-1),.int .u64 0]&&true) (∃hid_36:QT,∃w_37:List Tr,∃l_38:List Cd.Ctl,Lf ((aA hid_27=aA hid_36∧hid_27.length=hid_36.length∧trM w'_31=trM w_37∧w'_31.length =
 w_37.length∧Cd.cellsCM l_35=Cd.cellsCM l_38∧l_35.length=l_38.length)∧(dQ a_2 b_3 c_4 hid_36 w_37 x_12.2.2.2 0 (-1) 0=true∧aWa w_37∧1<=w_37.length∧w_37.length<=16)∧(0<=x_12.2.2.2∧x_12.2.2.2<2147483648) ∧
 bPk l_38)∧∀s_39:LA,Lf (s_39.length=(Cd.encCM l_38).length+20∧(x_12.2.2.2=0->s_39.drop ((Cd.encCM l_38).length+16)=[(128:UInt8),0,0,0]))->∃ps_40:List Cd.Pc,bHh qs ps_40∧∀l_41:List Cd.Ctl,Lf
 (l_41=Cd.cpF b ps_40 (Min.min (ps_40.length-1) 3)∧bPk l_41)->∃l_42:List Cd.Ctl,Lf (Cd.cellsCM l_41=Cd.cellsCM l_42∧l_41.length=l_42.length∧bPk l_42)∧∀s_43:LA,Lf (s_43=Cd.encCM l_42)->exI .i64
 (x_12.2.2.2+1) (λn_44=>exW .i64 (x_12.2.2.2+1) (λn_45=>AV.bool (n_44 !=n_45)=AV.bool false∧exI .i64 (s_39.length:Int) (λn_46=>exI .i64 (s_43.length:Int) (λn_47=>exW .i64 (n_47+16) (λn_48=>exW .i64
 (n_48+4) (λn_49=>AV.bool (n_46 !=n_49)=AV.bool false∧bif n_13==0 then exI .i64 (s_39.length:Int) (λn_50=>exW .i64 (n_50-4) (λn_51=>ckQ (decide (0<=n_51)&&true&&Nat.ble n_51.toNat s_39.length&&Nat.ble
 s_39.length s_39.length) (exS (.str ((s_39.drop n_51.toNat).take (s_39.length-n_51.toNat))) (λs_52=>AV.bool (!eqB s_52 [UInt8.ofNat 128,UInt8.ofNat 0,UInt8.ofNat 0,UInt8.ofNat 0])=AV.bool false∧bTq x_12 key u fi ks ss b tc
 qs a_2 b_3 c_4 hid_36 w_37 xs_5))))else bTq x_12 key u fi ks ss b tc qs a_2 b_3 c_4 hid_36 w_37 xs_5))))))))))))else Lf (aV2 a_2 b_3 c_4 (aA xs_5) xs_5.length (trM x_12.2.2.1) x_12.2.2.1.length x_12.2.2.2 0 (-1) 0)∧Q (.ret (.bool
 true)) [] {})):=by kernel_rfl

theorem aKz{t q:Int}(h0 : -1<=t)(hq:0<=q∧q<=65535):0<=dP t q∧dP t q<=(if t<0 then 0 else t)+65536∧dP t q%65536=q:=by
 unfold dP iR
 split
 ·omega
 ·split<;>split<;>omega
theorem aCl(l:List Tr):∀n,qH l n=true↔∀j,j<n->wK l j=true
 | 0=>by simp[qH]
 | n+1=>by
  rw[qH,bW3,aCl l n]
  constructor
  ·rintro⟨h1,h2⟩ j hj
   by_cases e:j=n
   ·exact e▸h2
   ·exact h1 j (by omega)
  ·exact λh=>⟨λj hj=>h j (by omega),h n (by omega)⟩
theorem bDm(c:Int)(l:List Tr)(i:Nat):pU c l i=((l.map (·.1)).take i).any λs=>decide (s=c):=by
 rw[pU,←List.map_take,List.any_map]
 rfl
theorem bDp{t z:Int}{s:Nat}(h:tN 0 281474976710655 t s=true)(h1:t<z)(h2:z<=281474976710655):tN 0 281474976710655 z (s*2^min (z-t).toNat 64%18446744073709551616 ||| 1)=true:=by
 simp only[tN,bW3,bW6,bXh,bS]at h ⊢
 obtain⟨⟨h3,h4⟩,h5⟩:=h
 rw[if_neg (by omega)]at h5
 simp only[bW3,bXh,bW6,bS]at h5
 refine⟨⟨by omega,h2⟩, ?_⟩
 rw[if_neg (by omega)]
 simp only[bW3,bXh,bW6,bS]
 refine⟨by simp[Nat.or_mod_two_eq_one], ?_⟩
 by_cases hz:62<z
 ·exact .inl hz
 right
 have h6:=h5.2.resolve_left (by omega)
 have h7:s<2^(t.toNat+1):=by
  rcases cA3 s (2^(t.toNat+1))with g | g
  ·exact g
  ·have:=Nat.div_pos g (Nat.two_pow_pos _)
   omega
 refine Nat.div_eq_of_lt (bYx ?_ (Nat.one_lt_two_pow (by omega)))
 refine cBm (Nat.mod_le _ _) ?_
 have e:z.toNat+1=(t.toNat+1)+min (z-t).toNat 64:=by omega
 rw[e,cC1]
 exact Nat.mul_lt_mul_of_pos_right h7 (Nat.two_pow_pos _)
def bWp(sq ss:Int)(w w':List Tr):Prop:=∀ (k:Nat) (h:k<w'.length),(w'[k].1=ss->w'[k].2.1%65536=sq∧∀h2:k<w.length,w[k].2.1<w'[k].2.1)∧(w'[k].1≠ss->∃h2:k<w.length,w[k]=w'[k])
theorem bOe{i:Nat}{sq ss:Int}{w w':List Tr}(hw:bKs i w)(h:bQ8 sq ss w w')(hi:i<16)(hq:0<=sq∧sq<=65535)(hs:0<=ss∧ss<=4294967295):bKs (i+1) w'∧1<=w'.length∧bWp sq ss w w':=by
 obtain⟨h1,h2,h3⟩:=hw
 rw[aCl]at h1
 rcases h with ⟨hn,rfl⟩ | ⟨k,hk,hks,hlt,rfl⟩
 ·refine⟨⟨?_,by simp;omega,λt ht => ?_⟩,by simp,λk h=>⟨λe => ?_,λe => ?_⟩⟩
  ·rw[aCl]
   intro j hj
   rw[bW2,bZa]at hj
   by_cases e:j<w.length
   ·have:=h1 j e
    rw[wK,bW8 e]at this
    rw[wK,bXx e,bW8 e]
    dsimp only at this ⊢
    rw[show pU w[j].1 (w++[(ss,sq,1)]) j=pU w[j].1 w j from by rw[pU,pU,bZd (by omega)]]
    exact this
   ·obtain rfl:j=w.length:=by omega
    have hh:pU ss (w++[(ss,sq,1)]) w.length=false:=by
     rw[pU,List.take_left,cAp]
     exact λx hx=>by simpa using hn x hx
    have hwn:tN 0 281474976710655 sq 1=true:=by
     have h1:(1:Nat)/2^(sq.toNat+1)=0:=Nat.div_eq_of_lt (Nat.one_lt_two_pow (by omega))
     rw[tN,if_neg (by omega),h1]
     simp
     omega
    rw[wK,bYa (by omega),bZ4]
    simp only[bXv]
    rw[hh,hwn]
    simp
    omega
  ·rw[bYj,bXp]at ht
   rcases ht with ht | rfl
   ·have:=h3 t ht
    exact⟨⟨by omega,by omega⟩,this.2⟩
   ·exact⟨⟨by dsimp only;omega,by dsimp only;omega⟩,by dsimp only;omega⟩
  ·by_cases g:k<w.length
   ·rw[cBi g]at e
    exact absurd e (hn _ (bXk g))
   ·rw[bW2,bZa]at h
    obtain rfl:k=w.length:=by omega
    refine⟨?_,λh2=>absurd h2 g⟩
    rw[cBc (by omega)]
    simp
    omega
  ·by_cases g:k<w.length
   ·exact⟨g,(cBi g).symm⟩
   ·rw[bW2,bZa]at h
    obtain rfl:k=w.length:=by omega
    rw[cBc (by omega)]at e
    simp at e
 ·have h4:=h3 _ (bXk hk)
  have hg:=aKz (t:=w[k].2.1) (q:=sq) (by omega) hq
  rw[if_neg (by omega)]at hg
  have hmap:∀x:Int×Nat,(w.set k (ss,x)).map (·.1)=w.map (·.1):=λx=>by
   rw[List.map_set]
   refine cCr (by simp) λj a b => ?_
   rw[List.getElem_set]
   split
   ·rename_i e
    subst e
    simp[hks]
   ·rfl
  refine⟨⟨?_,by simp;omega,λt ht => ?_⟩,by simp;omega,λj h => ?_⟩
  ·rw[aCl]
   intro j hj
   rw[cA1]at hj
   have h5:=h1 j hj
   rw[wK,bW8 hj]at h5
   rw[wK,bW8 (by simpa using hj)]
   simp only[bDm,hmap]at h5 ⊢
   simp only[bW3]at h5 ⊢
   rw[List.getElem_set]
   split
   ·rename_i e
    subst e
    rw[hks]at h5
    exact⟨⟨h5.1.1,bDp h5.1.2 hlt (Int.le_trans hg.2.1 (by omega))⟩,h5.2⟩
   ·exact h5
  ·rcases List.mem_or_eq_of_mem_set ht with ht | rfl
   ·have:=h3 t ht
    exact⟨⟨by omega,by omega⟩,this.2⟩
   ·refine⟨⟨hg.1,Int.le_trans hg.2.1 (by omega)⟩, ?_⟩
    exact bYx (n:=64) (cA7 _ (by omega)) (by omega)
  ·rw[cA1]at h
   rw[List.getElem_set]
   split
   ·rename_i e
    subst e
    exact⟨λ_=>⟨hg.2.2,λ_=>hlt⟩,λe=>absurd rfl e⟩
   ·rename_i e
    refine⟨λg => ?_,λ_=>⟨h,rfl⟩⟩
    exfalso
    have ho:=h1 (max j k) (by omega)
    rw[wK,bW8 (by omega)]at ho
    simp only[bW3,bYc]at ho
    have hh:=ho.2
    rw[pU,cAp]at hh
    rcases cA3 j k with hjk | hjk
    ·refine hh w[j] ?_ (by simp[Nat.max_eq_right (Nat.le_of_lt hjk),g,hks])
     rw[Nat.max_eq_right (Nat.le_of_lt hjk)]
     exact List.mem_take_iff_getElem.2 ⟨j,by omega,rfl⟩
    ·refine hh w[k] ?_ (by simp[Nat.max_eq_left hjk,g,hks])
     rw[Nat.max_eq_left hjk]
     exact List.mem_take_iff_getElem.2 ⟨k,by omega,rfl⟩
theorem bCu{i:Nat}{a b c:LA}{hid:QT}{w:List Tr}{nx:Int}(hn:dA a b c hid=true)(hw:bKs i w)(hi:i<=16)(hx:0<=nx∧nx<=16):dQ a b c hid w nx 0 (-1) 0=true∧aWa w:=by
 have hl:tN (-1) 2147483647 (-1) 0=true:=rfl
 obtain⟨h1,h2,h3⟩:=hw
 refine⟨?_,λt ht=>by have:=h3 t ht;omega⟩
 simp[dQ,jE,hn,h1,hl]
 omega
theorem aEv:∀l:List Md.Xt,xtM l=Md.cellsXM l
 | []=>rfl
 | x::l=>by rw[xtM,Md.cellsXM,aEv l]
theorem aUl{q ss:Int}{k:Nat}(hq:0<=q∧q<=65535)(hs:0<=ss∧ss<=4)(hk:k<256):Md.rightMMd 96 q (90*q) ss [] (yR k++sK k) (aUr k)=true∧(Md.encM (decide (k%2=0)) 96 q (90*q) ss [] (yR k++sK k) (aUr k) (bAe q k)).length<=1184:=by
 have hp:0<=aUr k∧aUr k<=4:=by
  unfold aUr
  split<;>omega
 have hx:yR k++sK k=[]∨yR k++sK k=[(1,[111,110,101]),(2,[UInt8.ofNat k])]∨yR k++sK k=[(3,[]),(200,[108,111,110,103])]∨yR k++sK k=[(1,[111,110,101]),(2,[UInt8.ofNat k]),(3,[]),(200,[108,111,110,103])]:=by
  unfold yR sK
  split<;>split<;>simp
 generalize yR k++sK k=X at hx
 have hxl:X.length<=4∧(∀x∈X,x.2.length<=255)∧Md.extsOkM 0 X=true:=by
  rcases hx with h | h | h | h<;>subst h<;>exact⟨by simp,by simp,by simp[Md.extsOkM]⟩
 obtain⟨x1,x2,x3⟩:=hxl
 constructor
 ·rw[Md.rightMMd,Md.flagsM,x3]
  simp
  omega
 ·have hb:=Md.extB_len (Md.shortM X) X x2
  have hpl:(Md.extPM X).length<=1032:=by
   rw[Md.extPM,bW2,Md.zerosMMd,bXb]
   omega
  have hpd:(Md.padMMd (aUr k)).length<=4:=by
   unfold Md.padMMd
   split
   ·rw[bW2,bXb,Md.put_lenMd];simp;omega
   ·simp
  rw[Md.encM,bW2,bW2,aO8,bXc,bGx,aY9]
  split<;>simp[bAe]<;>omega
theorem aRy:∀ (l:List (Int×Nat)) (i:Nat) (h:i<l.length),((mQ l).drop (i*9)).take 9=pkM l[i].1 l[i].2
 | [],i,h=>by simp at h
 | x::l,0,_=>rfl
 | x::l,i+1,h=>by
  rw[show(i+1)*9=i*9+9 by omega]
  exact aRy l i (by simpa using h)
theorem bVo{b:Bool}{A B:Prop}(h:b=false)(k:B):bif b then A else B:=by rw[h];exact k
theorem aQd:∀ (l:List Tr) (i:Nat) (h:i<l.length),List.getD (trM l) (i*3+1) AV.undef=.int .i64 l[i].2.1
 | [],i,h=>by simp at h
 | t::l,0,_=>rfl
 | t::l,i+1,h=>by
  rw[show(i+1)*3+1=i*3+1+3 by omega]
  exact aQd l i (by simpa using h)
theorem bSo{z q:Int}(h0:0<=z)(h1:z<18446744073709551616)(h:z%65536=q):((((z%18446744073709551616).toNat &&& 65535:Nat)):Int)=q:=by
 rw[show(65535:Nat)=2^16-1 from rfl,bY2]
 omega
theorem bPw{i:Nat}{w:List Tr}(h:bKs i w):bKs (i+1) w:=⟨h.1,by have:=h.2.1;omega,λt ht=>by have:=h.2.2 t ht;omega⟩
theorem aUv{key:LA}{u fi:Nat}{ks:QT}{ss:Nat}{b:Bool}{tc:Nat}{qs:List Cd.Pc}{Q:BS}(hu:u<65536)(hf:fi<=65535)(hkey:key.length<=140737488351232)(hkl:ks.length<=9223372036854775807)(hks:∀k∈ks, -32768<=k∧k<=32767)(hqs:∀p∈qs,Cd.okP p)
  (hq:Q (.ret (.bool true)) [] {}):∃hv hb,aQ7 hv hb key u fi ks ss b tc qs Q:=by
 obtain⟨hv,hb',e⟩:∃hv hb,aQ7 hv hb key u fi ks ss b tc qs Q=_:=⟨_,_,bW1 key u fi ks ss b tc qs Q⟩
 refine⟨hv,hb',e.mpr ?_⟩
 delta bTq bC8 aN9 aN1 aOq bFk aNi aSv aRs bPk bHh bJ2 bKv aV9 bDf aVi
 clear e
 refine⟨u,ks,⟨rfl,rfl,rfl,hu,hkey⟩, ?_⟩
 rintro a b2 c xs ⟨hn⟩
 refine⟨u,fi,ss,ks,⟨rfl,rfl,rfl,rfl,rfl,hf,hkl,hks⟩, ?_⟩
 rintro ps0 ⟨g1,g2⟩
 have n4:=aKc hn
 refine⟨_,rfl,⟨(ps0,0,[],0),⟨⟨g1,g2⟩,by simp,⟨rfl,by simp,λt h=>by simp at h⟩,by simp,by simp⟩,rfl,rfl,rfl,rfl,rfl,rfl,rfl,rfl,trivial⟩, ?_⟩
 rintro⟨ps,i,w,nx⟩ ⟨⟨p1,p2⟩,p3,p4,p5,p6⟩
 dsimp only at p1 p2 p3 p4 p5 p6 ⊢
 have hr:=bCu hn p4 (by omega) ⟨p5,by omega⟩
 have p42:=p4.2.1
 refine aH (λhi => ?_) (λhi=>⟨⟨xs,w,0,⟨rfl,rfl,rfl,rfl,rfl,by omega,hr.2,by omega,by omega⟩,hr.1⟩,hq⟩)
 have hil:i<ps.length:=by omega
 have hpl:=aIg ps
 obtain⟨hq8,hk8⟩:=p2 _ (bXk hil)
 obtain⟨pr1,pr2⟩:=aUl (ss:=1+((ps[i].2%4:Nat):Int)) hq8 ⟨by omega,by omega⟩ hk8
 refine⟨_,rfl,ckO (ckI (by rw[hpl];simp;omega) ⟨_,_,_,_,_,_,_,_,_,_,_,_,_,by rw[bXf,aRy ps i hil];rfl, ?_⟩)⟩
 refine⟨xs,[],yR ps[i].2++sK ps[i].2,w,⟨⟨rfl,rfl,rfl,rfl,aEv _,rfl,rfl,rfl⟩,⟨hr.1,by omega,pr1,pr2⟩,λt ht => ?_⟩, ?_, ?_⟩
 ·have h1:=p4.2.2 t ht
  have h2:=aKz (t:=t.2.1) (by omega) hq8
  split at h2<;>exact⟨⟨by omega,by omega⟩,h1.2,by omega⟩
 ·exact aF ⟨⟨trivial,rfl⟩,(ps,i+1,w,nx),⟨⟨p1,p2⟩,by dsimp only;omega,bPw p4,p5,by dsimp only;omega⟩,by dsimp only;omega,rfl,rfl,rfl,rfl,rfl,rfl,rfl,rfl,trivial⟩
 rintro _ w' ⟨he⟩
 obtain⟨t1,t2,t3⟩:=bOe p4 he (by omega) hq8 ⟨by omega,by omega⟩
 have hr2:=bCu hn t1 (by omega) ⟨p5,by omega⟩
 have hw2:=t1.2.1
 have hln:=pO w
 have hln2:=pO w'
 generalize (1+((ps[i].2%4:Nat):Int))=sc at *
 generalize ps[i].1=sq at *
 refine⟨_,rfl,⟨0,⟨by omega⟩,rfl,rfl,rfl,rfl,rfl,rfl,rfl,rfl,rfl,rfl,rfl,rfl,rfl,rfl,rfl,rfl,trivial⟩, ?_⟩
 rintro k ⟨hk⟩
 refine aH (λhkw => ?_) (λ_ => ?_)
 ·have hkl:k<w'.length:=by omega
  obtain⟨y1,y2⟩:=t3 k hkl
  have hb:=t1.2.2 _ (bXk hkl)
  refine⟨_,rfl,ckO (ckI (by rw[hln2];simp;omega) ⟨_,_,_,by rw[bXf,xA w' k hkl],bJ (λe1 => ?_) (λe1 => ?_)⟩)⟩
  ·obtain⟨y3,y4⟩:=y1 e1
   rw[bSo (by omega) (by omega) y3]
   refine aF ⟨by simp,_,rfl,aH (λh2 => ?_) (λh2 => ?_)⟩
   ·have h3:k<w.length:=by omega
    have y5:=y4 h3
    refine ckO (ckI (by rw[hln];simp;omega) ⟨_,aQd w k h3,bF (by omega),bVo (by simp[e1]) ?_⟩)
    exact aF ⟨⟨trivial,rfl⟩,k+1,⟨by omega⟩,by omega,rfl,rfl,rfl,rfl,rfl,rfl,rfl,rfl,rfl,rfl,rfl,rfl,rfl,rfl,rfl,rfl,trivial⟩
   ·refine bVo (by simp[e1]) ?_
    exact aF ⟨⟨trivial,rfl⟩,k+1,⟨by omega⟩,by omega,rfl,rfl,rfl,rfl,rfl,rfl,rfl,rfl,rfl,rfl,rfl,rfl,rfl,rfl,rfl,rfl,trivial⟩
  ·obtain⟨h3,e2⟩:=y2 e1
   refine Md.ckI2 (by simpa using e1) (ckO (ckI (by rw[hln];simp;omega) ⟨_,_,_,by rw[bXf,xA w k h3],by rw[e2];simp, ?_⟩))
   exact aF ⟨⟨trivial,rfl⟩,k+1,⟨by omega⟩,by omega,rfl,rfl,rfl,rfl,rfl,rfl,rfl,rfl,rfl,rfl,rfl,rfl,rfl,rfl,rfl,rfl,trivial⟩
 refine⟨qs,⟨rfl,rfl,hqs⟩, ?_⟩
 rintro l ⟨hl,c1,c2⟩
 refine ckF ⟨xs,w',l,⟨⟨rfl,rfl,rfl,rfl,rfl,rfl⟩,⟨hr2.1,hr2.2,t2,by omega⟩,⟨by omega,by omega⟩,c1,c2⟩, ?_⟩
 rintro s ⟨s1,s2⟩
 refine⟨qs,⟨rfl,rfl,hqs⟩, ?_⟩
 rintro l2 ⟨hl2,_,_⟩
 obtain rfl:l=l2:=hl.trans hl2.symm
 refine⟨l,⟨rfl,rfl,c1,c2⟩, ?_⟩
 rintro s3 ⟨rfl⟩
 refine⟨_,rfl,aF ⟨by simp,_,rfl,_,rfl,aF (aF ⟨by simp;omega,bJ (λh0 => ?_) (λ_ => ?_)⟩)⟩⟩
 ·have s4:=s2 (by omega)
  refine⟨_,rfl,aF (ckO ⟨_,rfl, ?_, ?_⟩)⟩
  ·rw[show(((s.length:Int)-4).toNat)=(Cd.encCM l).length+16 by omega,s4,bW4 (by simp;omega)]
   rfl
  ·exact aF ⟨⟨trivial,rfl⟩,(ps,i+1,w',nx+1),⟨⟨p1,p2⟩,by dsimp only;omega,t1,by dsimp only;omega,by dsimp only;omega⟩,by dsimp only;omega,rfl,rfl,rfl,rfl,rfl,rfl,rfl,rfl,trivial⟩
 ·exact aF ⟨⟨trivial,rfl⟩,(ps,i+1,w',nx+1),⟨⟨p1,p2⟩,by dsimp only;omega,t1,by dsimp only;omega,by dsimp only;omega⟩,by dsimp only;omega,rfl,rfl,rfl,rfl,rfl,rfl,rfl,rfl,trivial⟩
end Go.Proofs.YtnhechnaemmdiaaGreatDoor
