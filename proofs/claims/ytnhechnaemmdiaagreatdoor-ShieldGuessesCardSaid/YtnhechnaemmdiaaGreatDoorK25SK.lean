/-
  Chapter 4: contracts of tag; padded.
-/
import Derived.Test.YtnhechnaemmdiaaGreatDoorK25SJ
set_option linter.unusedSimpArgs false
set_option linter.unusedVariables false
namespace Go.Proofs.YtnhechnaemmdiaaGreatDoor
open Go.RowKit
set_option maxRecDepth 1000000

def cTag:Con
 | [.str key,.str s],H,K=>Lf (key.length=32)∧∀t,Lf (t=tagM key s)→K (.ret (.str t)) H
 | _,_,_=>False
theorem tag_ok:ValidF Tryz.prog gl0 166 cTag:=by
 refine valid_flat (enters_of (by kernel_rfl)) gl0_noY fun args H Q hc => ?_
 unfold cTag at hc
 split at hc
 ·rename_i key s
  obtain ⟨⟨h1⟩,hq⟩:=hc
  obtain ⟨hv,hb',h⟩:=tag_run key s _ _ _ _ _ _ h1 rfl rfl (Q:=fun o H' _=>H'=[]∧(∃v,o=.ret v∧old 0 v=true∧noY v=true)∧Q o H) ⟨rfl,⟨_,rfl,rfl,rfl⟩,hq _ ⟨rfl⟩⟩
  exact ⟨rfl,rfl,_,1000,envFor04 smG_ok _ _ _,rfl,h⟩
 ·exact hc.elim

def mskM:List Nat→Nat
 | []=>0
 | k::l=>2^k+mskM l
def z8M (j:Nat):List AV:=List.replicate j (.int .u8 0)
def inv_65 (s:S):List (List LInv):=match s.tm.get 3 with
 | .sl id tot _ len _=>(match s.hp[id]? with
  | some b=>[[{ α:=Nat,pre:=fun j=>Lf (j≤(16-len%16)%16),st:=fun j=>⟨T.put 12 (s.tm.keep (mskM [3,6,7,8]) 1 0) 3 (.sl id (tot+j) 0 (len+j) 1),s.hp.set id ⟨.grow,b.lf,b.cs++z8M j⟩⟩,mu:=fun j=>16-j }]]
  | none=>[])
 | _=>[[{ α:=Nat,pre:=fun _=>Lf True,st:=fun _=>⟨s.tm.keep (mskM [3,6,7,8]) 1 0,s.hp⟩,mu:=fun _=>0 }]]
noncomputable def goal_65aa (hv:Nat→Option Pa) (hb:Nat→Option Bool) (t:Nat) (x y:UInt8) (a b:List UInt8) (Q:Out→List Blk→Gh→Prop):Prop:=
 callx (e04 sm0 (fun i=>bif Nat.beq i 167002 then some inv_65 else none) hv hb) (wpx (e04 sm0 (fun i=>bif Nat.beq i 167002 then some inv_65 else none) hv hb) 1000) 167 [.lst t [.str (x::a),.str (y::b)] 2 1] [] {} Q
theorem vc_65aa (t:Nat) (x:UInt8) (y:UInt8) (a:List UInt8) (b:List UInt8) (Q:Out→List Blk→Gh→Prop):goal_65aa (lookV [(684043,.str),(684048,.int .i64),(684049,.int .i64),(684056,.str)]) (lookB [(684046,false),
 (1684040192,true),(1684032000,false)]) t x y a b Q=(exS (.str (x::a)) fun s_0=>ckQ (oneL (ofBytes s_0)&&true&&Nat.ble (s_0.length*1) 1099511627776) (ckQ (Nat.blt 0 s_0.length) (ckQ (Nat.ble s_0.length 1099511627776 &&
 Nat.ble (s_0.length*1) 1099511627776) ((∃x_1:Nat,Lf (x_1≤(16-s_0.length%16)%16)∧ckQ (oldL 0 (ofBytes s_0)==oldL 0 (ofBytes s_0)) (ofBytes s_0=ofBytes s_0++z8M x_1∧AV.sl 0 (ofBytes s_0).length 0 s_0.length 1=AV.sl
 0 ((ofBytes s_0).length+x_1) 0 (s_0.length+x_1) 1∧eqqQ (AV.int .i64 2)∧eqqQ (AV.int .i64 0)∧eqqQ (AV.lst t [.str (x::a),.str (y::b)] 2 1)∧True))∧∀x_1:Nat,Lf (x_1≤(16-s_0.length%16)%16)→ckQ (Nat.beq (ofBytes
 s_0++z8M x_1).length ((ofBytes s_0).length+x_1)) (exI .i64 ((s_0.length+x_1:Nat):Int) fun n_2=>exI .i64 (n_2.tmod 16) fun n_3=>bif n_3 !=0 then ckQ (Nat.beq (ofBytes s_0++z8M x_1).length ((ofBytes s_0).length+x_1) &&
 true&&Nat.beq (0+(s_0.length+x_1)*1) ((ofBytes s_0).length+x_1)&&Nat.ble (s_0.length+x_1+1) 1099511627776&&Nat.ble ((s_0.length+x_1+1)*1) 1099511627776) (((oldL 0 (ofBytes s_0)&&true||oldL 1 (ofBytes s_0++z8M
 x_1++[AV.int .u8 0]))&&true)=true∧(True∧(0:Nat)=(0:Nat))∧∃y_4:Nat,Lf (y_4≤(16-s_0.length%16)%16)∧16-y_4<16-x_1∧ckQ ((oldL 0 (ofBytes s_0)&&true)==oldL 0 (ofBytes s_0)) (ofBytes s_0++z8M x_1 ++
 [AV.int .u8 0]=ofBytes s_0++z8M y_4∧AV.sl 0 ((ofBytes s_0).length+x_1+1) 0 (s_0.length+x_1+1) 1=AV.sl 0 ((ofBytes s_0).length+y_4) 0 (s_0.length+y_4) 1∧eqqQ (AV.int .i64 2)∧eqqQ (AV.int .i64 0)∧eqqQ (AV.lst t
 [.str (x::a),.str (y::b)] 2 1)∧True)) else exS (.str (y::b)) fun s_4=>ckQ (oneL (ofBytes s_4)&&true&&Nat.ble (s_4.length*1) 1099511627776) (ckQ (Nat.blt 0 s_4.length) (ckQ (Nat.beq (ofBytes s_0++z8M x_1).length ((ofBytes
 s_0).length+x_1)&&true&&Nat.beq (0+(s_0.length+x_1)*1) ((ofBytes s_0).length+x_1)&&Nat.ble (s_0.length+x_1+s_4.length) 1099511627776&&Nat.ble ((s_0.length+x_1+s_4.length)*1) 1099511627776) ((∃x_5:Nat,Lf (x_5
 ≤ (16-(s_0.length+x_1+s_4.length)%16)%16)∧ckQ ((oldL 0 (ofBytes s_0)&&oldL 0 (ofBytes s_4))==(oldL 0 (ofBytes s_0)&&oldL 0 (ofBytes s_4))) (ofBytes s_0++z8M x_1++ofBytes s_4=ofBytes s_0++z8M x_1++ofBytes s_4 ++
 z8M x_5∧AV.sl 0 ((ofBytes s_0).length+x_1+(ofBytes s_4).length) 0 (s_0.length+x_1+s_4.length) 1=AV.sl 0 ((ofBytes s_0).length+x_1+(ofBytes s_4).length+x_5) 0 (s_0.length+x_1+s_4.length+x_5) 1∧eqqQ (AV.int .i64 2)
 ∧ eqqQ (AV.int .i64 1)∧eqqQ (AV.lst t [.str (x::a),.str (y::b)] 2 1)∧True))∧∀x_5:Nat,Lf (x_5≤(16-(s_0.length+x_1+s_4.length)%16)%16)→ckQ (Nat.beq (ofBytes s_0++z8M x_1++ofBytes s_4++z8M x_5).length
 ((ofBytes s_0).length+x_1+(ofBytes s_4).length+x_5)) (exI .i64 ((s_0.length+x_1+s_4.length+x_5:Nat):Int) fun n_6=>exI .i64 (n_6.tmod 16) fun n_7=>bif n_7 !=0 then ckQ (Nat.beq (ofBytes s_0++z8M x_1++ofBytes s_4 ++
 z8M x_5).length ((ofBytes s_0).length+x_1+(ofBytes s_4).length+x_5)&&true&&Nat.beq (0+(s_0.length+x_1+s_4.length+x_5)*1) ((ofBytes s_0).length+x_1+(ofBytes s_4).length+x_5)&&Nat.ble (s_0.length+x_1 +
 s_4.length+x_5+1) 1099511627776&&Nat.ble ((s_0.length+x_1+s_4.length+x_5+1)*1) 1099511627776) (((oldL 0 (ofBytes s_0)&&oldL 0 (ofBytes s_4)&&true||oldL 1 (ofBytes s_0++z8M x_1++ofBytes s_4++z8M x_5++[AV.int
 .u8 0]))&&true)=true∧(True∧(0:Nat)=(0:Nat))∧∃y_8:Nat,Lf (y_8≤(16-(s_0.length+x_1+s_4.length)%16)%16)∧16-y_8<16-x_5∧ckQ ((oldL 0 (ofBytes s_0)&&oldL 0 (ofBytes s_4)&&true)==(oldL 0 (ofBytes
 s_0)&&oldL 0 (ofBytes s_4))) (ofBytes s_0++z8M x_1++ofBytes s_4++z8M x_5++[AV.int .u8 0]=ofBytes s_0++z8M x_1++ofBytes s_4++z8M y_8∧AV.sl 0 ((ofBytes s_0).length+x_1+(ofBytes s_4).length+x_5+1) 0 (s_0.length +
 x_1+s_4.length+x_5+1) 1=AV.sl 0 ((ofBytes s_0).length+x_1+(ofBytes s_4).length+y_8) 0 (s_0.length+x_1+s_4.length+y_8) 1∧eqqQ (AV.int .i64 2)∧eqqQ (AV.int .i64 1)∧eqqQ (AV.lst t [.str (x::a),.str (y::b)] 2 1)
 ∧ True)) else ckQ (Nat.beq (ofBytes s_0++z8M x_1++ofBytes s_4++z8M x_5).length ((ofBytes s_0).length+x_1+(ofBytes s_4).length+x_5)&&Nat.ble (0+(s_0.length+x_1+s_4.length+x_5)) ((ofBytes s_0).length+x_1+(ofBytes
 s_4).length+x_5)&&true&&allU8 (((ofBytes s_0++z8M x_1++ofBytes s_4++z8M x_5).drop 0).take (s_0.length+x_1+s_4.length+x_5))) (exS (.str (List.map toB (((ofBytes s_0++z8M x_1++ofBytes s_4++z8M x_5).drop 0).take
 (s_0.length+x_1+s_4.length+x_5)))) fun s_8=>Q (.ret (.str s_8)) [] {})))))))))):=by kernel_rfl

noncomputable def goal_65na (hv:Nat→Option Pa) (hb:Nat→Option Bool) (t:Nat) (y:UInt8) (b:List UInt8) (Q:Out→List Blk→Gh→Prop):Prop:=
 callx (e04 sm0 (fun i=>bif Nat.beq i 167002 then some inv_65 else none) hv hb) (wpx (e04 sm0 (fun i=>bif Nat.beq i 167002 then some inv_65 else none) hv hb) 1000) 167 [.lst t [.str [],.str (y::b)] 2 1] [] {} Q
theorem vc_65na (t:Nat) (y:UInt8) (b:List UInt8) (Q:Out→List Blk→Gh→Prop):goal_65na (lookV [(684048,.int .i64),(684049,.int .i64),(684056,.str)]) (lookB [(1684032000,false),(1684040192,true)]) t y b Q=((∃x_0 :
 Nat,Lf True∧AV.nils=AV.nils∧eqqQ (AV.int .i64 2)∧eqqQ (AV.int .i64 0)∧eqqQ (AV.lst t [.str [],.str (y::b)] 2 1)∧True)∧(Nat→Lf True→exI .i64 0 fun n_0=>exI .i64 (n_0.tmod 16) fun n_1=>bif n_1 !=0 then false=true
 ∧ (True∧(0:Nat)=(0:Nat))∧∃y_2:Nat,Lf True∧(0:Nat)<(0:Nat)∧AV.sl 1 1 0 1 1=AV.nils∧eqqQ (AV.int .i64 2)∧eqqQ (AV.int .i64 0)∧eqqQ (AV.lst t [.str [],.str (y::b)] 2 1)∧True else ckQ (oneL (ofBytes (y ::
 b))&&true&&Nat.ble ((y::b).length*1) 1099511627776) (ckQ (Nat.ble (y::b).length 1099511627776&&Nat.ble ((y::b).length*1) 1099511627776) ((∃x_2:Nat,Lf (x_2≤(16-(y::b).length%16)%16)∧ckQ (oldL 0 (ofBytes (y ::
 b))==oldL 0 (ofBytes (y::b))) (ofBytes (y::b)=ofBytes (y::b)++z8M x_2∧AV.sl 0 (ofBytes (y::b)).length 0 (y::b).length 1=AV.sl 0 ((ofBytes (y::b)).length+x_2) 0 ((y::b).length+x_2) 1∧eqqQ (AV.int .i64 2)∧eqqQ
 (AV.int .i64 1)∧eqqQ (AV.lst t [.str [],.str (y::b)] 2 1)∧True))∧∀x_2:Nat,Lf (x_2≤(16-(y::b).length%16)%16)→ckQ (Nat.beq (ofBytes (y::b)++z8M x_2).length ((ofBytes (y::b)).length+x_2)) (exI .i64 (((y ::
 b).length+x_2:Nat):Int) fun n_3=>exI .i64 (n_3.tmod 16) fun n_4=>bif n_4 !=0 then ckQ (Nat.beq (ofBytes (y::b)++z8M x_2).length ((ofBytes (y::b)).length+x_2)&&true&&Nat.beq (0+((y::b).length+x_2)*1) ((ofBytes
 (y::b)).length+x_2)&&Nat.ble ((y::b).length+x_2+1) 1099511627776&&Nat.ble (((y::b).length+x_2+1)*1) 1099511627776) (((oldL 0 (ofBytes (y::b))&&true||oldL 1 (ofBytes (y::b)++z8M x_2++[AV.int .u8 0])) &&
 true)=true∧(True∧(0:Nat)=(0:Nat))∧∃y_5:Nat,Lf (y_5≤(16-(y::b).length%16)%16)∧16-y_5<16-x_2∧ckQ ((oldL 0 (ofBytes (y::b))&&true)==oldL 0 (ofBytes (y::b))) (ofBytes (y::b)++z8M x_2++[AV.int
 .u8 0]=ofBytes (y::b)++z8M y_5∧AV.sl 0 ((ofBytes (y::b)).length+x_2+1) 0 ((y::b).length+x_2+1) 1=AV.sl 0 ((ofBytes (y::b)).length+y_5) 0 ((y::b).length+y_5) 1∧eqqQ (AV.int .i64 2)∧eqqQ (AV.int .i64 1) ∧
 eqqQ (AV.lst t [.str [],.str (y::b)] 2 1)∧True)) else ckQ (Nat.beq (ofBytes (y::b)++z8M x_2).length ((ofBytes (y::b)).length+x_2)&&Nat.ble (0+((y::b).length+x_2)) ((ofBytes (y::b)).length+x_2)&&true&&allU8
 (((ofBytes (y::b)++z8M x_2).drop 0).take ((y::b).length+x_2))) (exS (.str (List.map toB (((ofBytes (y::b)++z8M x_2).drop 0).take ((y::b).length+x_2)))) fun s_5=>Q (.ret (.str s_5)) [] {})))))):=by kernel_rfl

noncomputable def goal_65an (hv:Nat→Option Pa) (hb:Nat→Option Bool) (t:Nat) (x:UInt8) (a:List UInt8) (Q:Out→List Blk→Gh→Prop):Prop:=
 callx (e04 sm0 (fun i=>bif Nat.beq i 167002 then some inv_65 else none) hv hb) (wpx (e04 sm0 (fun i=>bif Nat.beq i 167002 then some inv_65 else none) hv hb) 1000) 167 [.lst t [.str (x::a),.str []] 2 1] [] {} Q
theorem vc_65an (t:Nat) (x:UInt8) (a:List UInt8) (Q:Out→List Blk→Gh→Prop):goal_65an (lookV [(684048,.int .i64),(684049,.int .i64),(684056,.str)]) (lookB [(1684040192,true),(1684032000,false)]) t x a Q=(ckQ (oneL
 (ofBytes (x::a))&&true&&Nat.ble ((x::a).length*1) 1099511627776) (ckQ (Nat.ble (x::a).length 1099511627776&&Nat.ble ((x::a).length*1) 1099511627776) ((∃x_0:Nat,Lf (x_0≤(16-(x::a).length%16)%16)∧ckQ (oldL 0
 (ofBytes (x::a))==oldL 0 (ofBytes (x::a))) (ofBytes (x::a)=ofBytes (x::a)++z8M x_0∧AV.sl 0 (ofBytes (x::a)).length 0 (x::a).length 1=AV.sl 0 ((ofBytes (x::a)).length+x_0) 0 ((x::a).length+x_0) 1∧eqqQ (AV.int
 .i64 2)∧eqqQ (AV.int .i64 0)∧eqqQ (AV.lst t [.str (x::a),.str []] 2 1)∧True))∧∀x_0:Nat,Lf (x_0≤(16-(x::a).length%16)%16)→ckQ (Nat.beq (ofBytes (x::a)++z8M x_0).length ((ofBytes (x::a)).length+x_0)) (exI
 .i64 (((x::a).length+x_0:Nat):Int) fun n_1=>exI .i64 (n_1.tmod 16) fun n_2=>bif n_2 !=0 then ckQ (Nat.beq (ofBytes (x::a)++z8M x_0).length ((ofBytes (x::a)).length+x_0)&&true&&Nat.beq (0+((x::a).length+x_0) *
 1) ((ofBytes (x::a)).length+x_0)&&Nat.ble ((x::a).length+x_0+1) 1099511627776&&Nat.ble (((x::a).length+x_0+1)*1) 1099511627776) (((oldL 0 (ofBytes (x::a))&&true||oldL 1 (ofBytes (x::a)++z8M x_0++[AV.int
 .u8 0]))&&true)=true∧(True∧(0:Nat)=(0:Nat))∧∃y_3:Nat,Lf (y_3≤(16-(x::a).length%16)%16)∧16-y_3<16-x_0∧ckQ ((oldL 0 (ofBytes (x::a))&&true)==oldL 0 (ofBytes (x::a))) (ofBytes (x::a)++z8M
 x_0++[AV.int .u8 0]=ofBytes (x::a)++z8M y_3∧AV.sl 0 ((ofBytes (x::a)).length+x_0+1) 0 ((x::a).length+x_0+1) 1=AV.sl 0 ((ofBytes (x::a)).length+y_3) 0 ((x::a).length+y_3) 1∧eqqQ (AV.int .i64 2)∧eqqQ
 (AV.int .i64 0)∧eqqQ (AV.lst t [.str (x::a),.str []] 2 1)∧True)) else ckQ (Nat.beq (ofBytes (x::a)++z8M x_0).length ((ofBytes (x::a)).length+x_0)&&true) ((∃x_3:Nat,Lf (x_3≤(16-((x::a).length+x_0)%16)%16) ∧
 ckQ (oldL 0 (ofBytes (x::a))==oldL 0 (ofBytes (x::a))) (ofBytes (x::a)++z8M x_0=ofBytes (x::a)++z8M x_0++z8M x_3∧AV.sl 0 ((ofBytes (x::a)).length+x_0) 0 ((x::a).length+x_0) 1=AV.sl 0 ((ofBytes (x::a)).length
 + x_0+x_3) 0 ((x::a).length+x_0+x_3) 1∧eqqQ (AV.int .i64 2)∧eqqQ (AV.int .i64 1)∧eqqQ (AV.lst t [.str (x::a),.str []] 2 1)∧True))∧∀x_3:Nat,Lf (x_3≤(16-((x::a).length+x_0)%16)%16)→ckQ (Nat.beq (ofBytes
 (x::a)++z8M x_0++z8M x_3).length ((ofBytes (x::a)).length+x_0+x_3)) (exI .i64 (((x::a).length+x_0+x_3:Nat):Int) fun n_4=>exI .i64 (n_4.tmod 16) fun n_5=>bif n_5 !=0 then ckQ (Nat.beq (ofBytes (x::a)++z8M x_0
 ++ z8M x_3).length ((ofBytes (x::a)).length+x_0+x_3)&&true&&Nat.beq (0+((x::a).length+x_0+x_3)*1) ((ofBytes (x::a)).length+x_0+x_3)&&Nat.ble ((x::a).length+x_0+x_3+1) 1099511627776&&Nat.ble (((x ::
 a).length+x_0+x_3+1)*1) 1099511627776) (((oldL 0 (ofBytes (x::a))&&true||oldL 1 (ofBytes (x::a)++z8M x_0++z8M x_3++[AV.int .u8 0]))&&true)=true∧(True∧(0:Nat)=(0:Nat))∧∃y_6:Nat,Lf (y_6≤(16-((x
 :: a).length+x_0)%16)%16)∧16-y_6<16-x_3∧ckQ ((oldL 0 (ofBytes (x::a))&&true)==oldL 0 (ofBytes (x::a))) (ofBytes (x::a)++z8M x_0++z8M x_3++[AV.int .u8 0]=ofBytes (x::a)++z8M x_0++z8M y_6∧AV.sl 0
 ((ofBytes (x::a)).length+x_0+x_3+1) 0 ((x::a).length+x_0+x_3+1) 1=AV.sl 0 ((ofBytes (x::a)).length+x_0+y_6) 0 ((x::a).length+x_0+y_6) 1∧eqqQ (AV.int .i64 2)∧eqqQ (AV.int .i64 1)∧eqqQ (AV.lst t [.str (x
 :: a),.str []] 2 1)∧True)) else ckQ (Nat.beq (ofBytes (x::a)++z8M x_0++z8M x_3).length ((ofBytes (x::a)).length+x_0+x_3)&&Nat.ble (0+((x::a).length+x_0+x_3)) ((ofBytes (x::a)).length+x_0+x_3)&&true&&allU8
 (((ofBytes (x::a)++z8M x_0++z8M x_3).drop 0).take ((x::a).length+x_0+x_3))) (exS (.str (List.map toB (((ofBytes (x::a)++z8M x_0++z8M x_3).drop 0).take ((x::a).length+x_0+x_3)))) fun s_6=>Q (.ret (.str s_6)) []
 {}))))))):=by kernel_rfl

noncomputable def goal_65nn (hv:Nat→Option Pa) (hb:Nat→Option Bool) (t:Nat)  (Q:Out→List Blk→Gh→Prop):Prop:=
 callx (e04 sm0 (fun i=>bif Nat.beq i 167002 then some inv_65 else none) hv hb) (wpx (e04 sm0 (fun i=>bif Nat.beq i 167002 then some inv_65 else none) hv hb) 1000) 167 [.lst t [.str [],.str []] 2 1] [] {} Q
theorem vc_65nn (t:Nat) (Q:Out→List Blk→Gh→Prop):goal_65nn (lookV []) (lookB [(1684032000,false)]) t Q=(
((∃x_0:Nat,((Lf True) ∧
 ((AV.nils=AV.nils) ∧
 (((AV.int .i64 (2:Int))=(AV.int .i64 (2:Int))) ∧
 (((AV.int .i64 (0:Int))=(AV.int .i64 (0:Int))) ∧
 (((AV.lst t ((AV.str [])::((AV.str [])::[])) (2:Nat) (1:Nat))=(AV.lst t ((AV.str [])::((AV.str [])::[])) (2:Nat) (1:Nat))) ∧
 True)))))) ∧
 (Nat →
((Lf True) →
((∃x_0:Nat,((Lf True) ∧
 ((AV.nils=AV.nils) ∧
 (((AV.int .i64 (2:Int))=(AV.int .i64 (2:Int))) ∧
 (((AV.int .i64 (1:Int))=(AV.int .i64 (1:Int))) ∧
 (((AV.lst t ((AV.str [])::((AV.str [])::[])) (2:Nat) (1:Nat))=(AV.lst t ((AV.str [])::((AV.str [])::[])) (2:Nat) (1:Nat))) ∧
 True)))))) ∧
 (Nat →
((Lf True) →
(Q (Out.ret (AV.str [])) [] (Gh.mk (0:Nat) (0:Nat) []))))))))):=by kernel_rfl

end Go.Proofs.YtnhechnaemmdiaaGreatDoor
