/-
  Chapter 21: Trim of small letters, digits, spaces.
-/
import Derived.Test.YtjenieljapmehaaGreatDoorG21E
set_option linter.unusedSimpArgs false
set_option linter.unusedVariables false
set_option linter.unusedSectionVars false
namespace Go.Proofs.YtjenieljapmehaaGreatDoor
open Go.RowKit
set_option maxRecDepth 1000000

def dotM (c:Nat):Bool:=(Nat.ble 97 c&&Nat.ble c 122)||(Nat.ble 48 c&&Nat.ble c 57)||Nat.beq c 32
def cutB:List UInt8:=[97,98,99,100,101,102,103,104,105,106,107,108,109,110,111,112,113,114,115,116,117,118,119,120,121,122,48,49,50,51,52,53,54,55,56,57,32]
def setCM:List AV:=(List.range 256).map fun i=>AV.bool (dotM i)
noncomputable def goal_105 (hv:Nat→Option Pa) (hb:Nat→Option Bool) (Q:Out→List Blk→Gh→Prop):Prop:=
 callx (e18 sm0 (fun _=>none) hv hb) (wpx (e18 sm0 (fun _=>none) hv hb) 1000) 53 [.str [97,98,99,100,101,102,103,104,105,106,107,108,109,110,111,112,113,114,115,116,117,118,119,120,121,122,48,49,50,51,52,53,54,55,56,57,32]] [] {} Q
theorem vc_105 (Q:Out→List Blk→Gh→Prop):goal_105 (lookV []) (lookB []) Q=(Q (.ret (.tup [.agg [.bool false,.bool false,.bool false,.bool false,.bool false,.bool false,.bool false,.bool false,.bool false,.bool false,
 .bool false,.bool false,.bool false,.bool false,.bool false,.bool false,.bool false,.bool false,.bool false,.bool false,.bool false,.bool false,.bool false,.bool false,.bool false,.bool false,.bool false,.bool false,.bool
 false,.bool false,.bool false,.bool false,.bool true,.bool false,.bool false,.bool false,.bool false,.bool false,.bool false,.bool false,.bool false,.bool false,.bool false,.bool false,.bool false,.bool false,.bool false,
 .bool false,.bool true,.bool true,.bool true,.bool true,.bool true,.bool true,.bool true,.bool true,.bool true,.bool true,.bool false,.bool false,.bool false,.bool false,.bool false,.bool false,.bool false,.bool false,
 .bool false,.bool false,.bool false,.bool false,.bool false,.bool false,.bool false,.bool false,.bool false,.bool false,.bool false,.bool false,.bool false,.bool false,.bool false,.bool false,.bool false,.bool false,.bool
 false,.bool false,.bool false,.bool false,.bool false,.bool false,.bool false,.bool false,.bool false,.bool false,.bool false,.bool false,.bool false,.bool true,.bool true,.bool true,.bool true,.bool true,.bool true,
 .bool true,.bool true,.bool true,.bool true,.bool true,.bool true,.bool true,.bool true,.bool true,.bool true,.bool true,.bool true,.bool true,.bool true,.bool true,.bool true,.bool true,.bool true,.bool true,.bool true,
 .bool false,.bool false,.bool false,.bool false,.bool false,.bool false,.bool false,.bool false,.bool false,.bool false,.bool false,.bool false,.bool false,.bool false,.bool false,.bool false,.bool false,.bool false,.bool
 false,.bool false,.bool false,.bool false,.bool false,.bool false,.bool false,.bool false,.bool false,.bool false,.bool false,.bool false,.bool false,.bool false,.bool false,.bool false,.bool false,.bool false,.bool
 false,.bool false,.bool false,.bool false,.bool false,.bool false,.bool false,.bool false,.bool false,.bool false,.bool false,.bool false,.bool false,.bool false,.bool false,.bool false,.bool false,.bool false,.bool
 false,.bool false,.bool false,.bool false,.bool false,.bool false,.bool false,.bool false,.bool false,.bool false,.bool false,.bool false,.bool false,.bool false,.bool false,.bool false,.bool false,.bool false,.bool
 false,.bool false,.bool false,.bool false,.bool false,.bool false,.bool false,.bool false,.bool false,.bool false,.bool false,.bool false,.bool false,.bool false,.bool false,.bool false,.bool false,.bool false,.bool
 false,.bool false,.bool false,.bool false,.bool false,.bool false,.bool false,.bool false,.bool false,.bool false,.bool false,.bool false,.bool false,.bool false,.bool false,.bool false,.bool false,.bool false,.bool
 false,.bool false,.bool false,.bool false,.bool false,.bool false,.bool false,.bool false,.bool false,.bool false,.bool false,.bool false,.bool false,.bool false,.bool false,.bool false,.bool false,.bool false,.bool
 false,.bool false,.bool false,.bool false,.bool false,.bool false,.bool false],.bool true])) [] {}):=by kernel_rfl

def cSet:Con
 | [.str c],H,K=>Lf (c=cutB)∧∀cs,Lf (cs=setCM)→K (.ret (.tup [.agg cs,.bool true])) H
 | _,_,_=>False
theorem aset_ok:ValidF Tryz.prog gl0 53 cSet:=by
 refine valid_flat (enters_of (by kernel_rfl)) gl0_noY fun args H Q hc => ?_
 unfold cSet at hc
 split at hc
 ·obtain ⟨⟨rfl⟩,hc⟩:=hc
  obtain ⟨hv,hb',e⟩:∃hv hb,goal_105 hv hb (fun o H' _=>H'=[]∧(∃v,o=.ret v∧old 0 v=true∧noY v=true)∧Q o H)=_:=⟨_,_,vc_105 _⟩
  exact ⟨rfl,rfl,_,1000,envFor18 sm0_ok _ hv hb',rfl,e.mpr ⟨rfl,⟨_,rfl,by kernel_rfl,by kernel_rfl⟩,hc _ ⟨by kernel_rfl⟩⟩⟩
 ·exact hc.elim
def zerB:List AV:=List.replicate 256 (AV.bool false)
abbrev setZ (cs:List AV):List AV:=setRange zerB 0 cs
def smT:SM:=lookS [(53,cSet)]
theorem smT_ok:∀f g,smT f=some g→ValidF Tryz.prog gl0 f g:=lookS_ok _ (by simp only[List.mem_cons,List.not_mem_nil,or_false,forall_eq];exact aset_ok)
def isDot (c:UInt8):Bool:=dotM c.toNat
def rightT (s:List UInt8):List UInt8:=(s.reverse.dropWhile isDot).reverse
def inv_107 (s:List UInt8) (z:S):List (List LInv):=[[{ α:=List UInt8,pre:=fun x=>Lf (x.length≤s.length∧rightT x=rightT s),st:=fun x=>⟨mkT [(0,.str x),(1,z.tm.get 1)],z.hp⟩,mu:=fun x=>x.length }]]
def inv_106 (z:S):List (List LInv):=match z.tm.get 0 with
 | .str s=>[[{ α:=List UInt8,pre:=fun x=>Lf (x.length≤s.length∧x.dropWhile isDot=s.dropWhile isDot),st:=fun x=>⟨mkT [(0,.str x),(1,z.tm.get 1)],z.hp⟩,mu:=fun x=>x.length }]]
 | _=>[]
noncomputable def env_76 (hv:Nat→Option Pa) (hb:Nat→Option Bool) (s:List UInt8):Env:=e18 smT (fun i=>bif Nat.beq i 55000 then some (inv_107 s) else bif Nat.beq i 54000 then some inv_106 else none) hv hb
noncomputable def goal_76 (hv:Nat→Option Pa) (hb:Nat→Option Bool) (s:List UInt8) (Q:Out→List Blk→Gh→Prop):Prop:=
 callx (env_76 hv hb s) (wpx (env_76 hv hb s) 1000) 25 [.str s,.str [97,98,99,100,101,102,103,104,105,106,107,108,109,110,111,112,113,114,115,116,117,118,119,120,121,122,48,49,50,51,52,53,54,55,56,57,32]] [] {} Q
theorem vc_76 (s:List UInt8) (Q:Out→List Blk→Gh→Prop):goal_76 (lookV [(225286,.int .i64),(225291,.int .i64),(225292,.int .i64),(225293,.int .u8),(331785,.bool),(225298,.int .i64),(225299,.int .i64),(225300,.str),
 (221190,.int .i64),(221194,.int .u8),(221198,.str)]) (lookB [(335870,true),(1225280000,true),(229374,true),(1221184000,true),(225278,true)]) s Q=(bif eqB s [] then Q (.ret (.str s)) [] {} else Lf ([UInt8.ofNat 97,
 UInt8.ofNat 98,UInt8.ofNat 99,UInt8.ofNat 100,UInt8.ofNat 101,UInt8.ofNat 102,UInt8.ofNat 103,UInt8.ofNat 104,UInt8.ofNat 105,UInt8.ofNat 106,UInt8.ofNat 107,UInt8.ofNat 108,UInt8.ofNat 109,UInt8.ofNat 110,UInt8.ofNat 111,
 UInt8.ofNat 112,UInt8.ofNat 113,UInt8.ofNat 114,UInt8.ofNat 115,UInt8.ofNat 116,UInt8.ofNat 117,UInt8.ofNat 118,UInt8.ofNat 119,UInt8.ofNat 120,UInt8.ofNat 121,UInt8.ofNat 122,UInt8.ofNat 48,UInt8.ofNat 49,UInt8.ofNat 50,
 UInt8.ofNat 51,UInt8.ofNat 52,UInt8.ofNat 53,UInt8.ofNat 54,UInt8.ofNat 55,UInt8.ofNat 56,UInt8.ofNat 57,UInt8.ofNat 32]=cutB)∧∀cs_0:List AV,Lf (cs_0=setCM)→ckQ (Nat.beq cs_0.length 256&&oneL cs_0&&true) ((∃x_1 :
 List UInt8,Lf (x_1.length≤s.length∧rightT x_1=rightT s)∧ckQ (oldL 0 cs_0==oldL 0 cs_0) (eqqQ (setZ cs_0)∧AV.str s=AV.str x_1∧eqqQ (AV.ptr 0 256 0)∧True))∧∀x_1:List UInt8,Lf (x_1.length≤s.length∧rightT x_1 =
 rightT s)→exI .i64 (x_1.length:Int) fun n_2=>bif decide (n_2>0) then exI .i64 (x_1.length:Int) fun n_3=>exW .i64 (n_3-1) fun n_4=>ckQ (decide (0≤n_4)&&Nat.blt n_4.toNat x_1.length) (exI .u8 (UInt8.toNat (x_1.getD
 n_4.toNat (UInt8.ofNat 0)):Int) fun n_5=>ckQ (Nat.beq (setZ cs_0).length 256) (ckQ (decide (0≤n_5)&&Nat.blt n_5.toNat 256&&Nat.beq (setZ cs_0).length 256) (ckQ (Nat.beq (setZ cs_0).length 256&&Nat.blt (0+n_5.toNat*1) 256)
 (exB ((((setZ cs_0).drop (0+n_5.toNat*1)).take 1).getD 0 AV.undef) fun b_6=>bif b_6 then ((oldL 0 cs_0||oldL 1 (setZ cs_0))&&true)=true∧exI .i64 (x_1.length:Int) fun n_7=>exW .i64 (n_7-1) fun n_8=>ckQ (decide (0 ≤
 n_8)&&true&&Nat.ble n_8.toNat x_1.length) (exS (.str ((x_1.drop 0).take (n_8.toNat-0))) fun s_9=>((oldL 0 cs_0||oldL 1 (setZ cs_0))&&true)=true∧(True∧(0:Nat)=(0:Nat))∧∃y_10:List UInt8,Lf (y_10.length ≤
 s.length∧rightT y_10=rightT s)∧y_10.length<x_1.length∧ckQ (oldL 0 cs_0==oldL 0 cs_0) (eqqQ (setZ cs_0)∧AV.str s_9=AV.str y_10∧eqqQ (AV.ptr 0 256 0)∧True)) else ((oldL 0 cs_0||oldL 1 (setZ cs_0))&&true)=true ∧
 ((oldL 0 cs_0||oldL 1 (setZ cs_0))&&true)=true∧(∃x_7:List UInt8,Lf (x_7.length≤x_1.length∧List.dropWhile isDot x_7=List.dropWhile isDot x_1)∧ckQ (oldL 0 cs_0==oldL 0 cs_0) (eqqQ (setZ cs_0)∧AV.str x_1=AV.str x_7 ∧
 eqqQ (AV.ptr 0 256 0)∧True))∧∀x_7:List UInt8,Lf (x_7.length≤x_1.length∧List.dropWhile isDot x_7=List.dropWhile isDot x_1)→exI .i64 (x_7.length:Int) fun n_8=>bif decide (n_8>0) then ckQ (Nat.blt 0 x_7.length) (exI .u8
 (UInt8.toNat (x_7.getD 0 (UInt8.ofNat 0)):Int) fun n_9=>ckQ (Nat.beq (setZ cs_0).length 256) (ckQ (decide (0≤n_9)&&Nat.blt n_9.toNat 256&&Nat.beq (setZ cs_0).length 256) (ckQ (Nat.beq (setZ cs_0).length 256&&Nat.blt (0 +
 n_9.toNat*1) 256) (exB ((((setZ cs_0).drop (0+n_9.toNat*1)).take 1).getD 0 AV.undef) fun b_10=>bif b_10 then ((oldL 0 cs_0||oldL 1 (setZ cs_0))&&true)=true∧ckQ (Nat.ble 1 x_7.length&&Nat.ble x_7.length x_7.length) (exS
 (.str ((x_7.drop 1).take (x_7.length-1))) fun s_11=>((oldL 0 cs_0||oldL 1 (setZ cs_0))&&true)=true∧(True∧(0:Nat)=(0:Nat))∧∃y_12:List UInt8,Lf (y_12.length≤x_1.length∧List.dropWhile isDot y_12=List.dropWhile
 isDot x_1)∧y_12.length<x_7.length∧ckQ (oldL 0 cs_0==oldL 0 cs_0) (eqqQ (setZ cs_0)∧AV.str s_11=AV.str y_12∧eqqQ (AV.ptr 0 256 0)∧True)) else ((oldL 0 cs_0||oldL 1 (setZ cs_0))&&true)=true∧((oldL 0 cs_0||oldL 1
 (setZ cs_0))&&true)=true∧Q (.ret (.str x_7)) [] {})))) else ((oldL 0 cs_0||oldL 1 (setZ cs_0))&&true)=true∧Q (.ret (.str x_7)) [] {})))) else ((oldL 0 cs_0||oldL 1 (setZ cs_0))&&true)=true∧(∃x_3:List UInt8,Lf
 (x_3.length≤x_1.length∧List.dropWhile isDot x_3=List.dropWhile isDot x_1)∧ckQ (oldL 0 cs_0==oldL 0 cs_0) (eqqQ (setZ cs_0)∧AV.str x_1=AV.str x_3∧eqqQ (AV.ptr 0 256 0)∧True))∧∀x_3:List UInt8,Lf (x_3.length ≤
 x_1.length∧List.dropWhile isDot x_3=List.dropWhile isDot x_1)→exI .i64 (x_3.length:Int) fun n_4=>bif decide (n_4>0) then ckQ (Nat.blt 0 x_3.length) (exI .u8 (UInt8.toNat (x_3.getD 0 (UInt8.ofNat 0)):Int) fun n_5=>ckQ
 (Nat.beq (setZ cs_0).length 256) (ckQ (decide (0≤n_5)&&Nat.blt n_5.toNat 256&&Nat.beq (setZ cs_0).length 256) (ckQ (Nat.beq (setZ cs_0).length 256&&Nat.blt (0+n_5.toNat*1) 256) (exB ((((setZ cs_0).drop (0+n_5.toNat*1)).take
 1).getD 0 AV.undef) fun b_6=>bif b_6 then ((oldL 0 cs_0||oldL 1 (setZ cs_0))&&true)=true∧ckQ (Nat.ble 1 x_3.length&&Nat.ble x_3.length x_3.length) (exS (.str ((x_3.drop 1).take (x_3.length-1))) fun s_7=>((oldL 0 cs_0 ||
 oldL 1 (setZ cs_0))&&true)=true∧(True∧(0:Nat)=(0:Nat))∧∃y_8:List UInt8,Lf (y_8.length≤x_1.length∧List.dropWhile isDot y_8=List.dropWhile isDot x_1)∧y_8.length<x_3.length∧ckQ (oldL 0 cs_0==oldL 0 cs_0)
 (eqqQ (setZ cs_0)∧AV.str s_7=AV.str y_8∧eqqQ (AV.ptr 0 256 0)∧True)) else ((oldL 0 cs_0||oldL 1 (setZ cs_0))&&true)=true∧((oldL 0 cs_0||oldL 1 (setZ cs_0))&&true)=true∧Q (.ret (.str x_3)) [] {})))) else ((oldL 0
 cs_0||oldL 1 (setZ cs_0))&&true)=true∧Q (.ret (.str x_3)) [] {})):=by kernel_rfl

end Go.Proofs.YtjenieljapmehaaGreatDoor
