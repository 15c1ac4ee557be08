/-
  Chapter 18: the reference's words: residuals.
-/
import Derived.Test.YtjenieljapmehaaGreatDoorG21A
set_option linter.unusedSimpArgs false
set_option linter.unusedVariables false
set_option linter.unusedSectionVars false
namespace Go.Proofs.YtjenieljapmehaaGreatDoor
open Go.RowKit
set_option maxRecDepth 1000000

def wrdM (g:Nat→Bool):List AV:=(List.range 32).map fun j=>AV.bool (g j)
def bitsM (x:Nat):List AV:=wrdM fun j=>x.testBit (31-j)
def partM (g:Nat→Bool) (i:Nat):List AV:=wrdM fun j=>decide (j<i)&&g j
def trnM (x k i:Nat):List AV:=wrdM fun j=>decide ((j+32-k)%32<i)&&x.testBit (31-(j+32-k)%32)
def movM (x k i:Nat):List AV:=wrdM fun j=>decide (k≤j∧j-k<i)&&x.testBit (31-(j-k))
def wdM (x c:Nat):List AV:=wrdM fun j=>decide (31<j+c)&&x.testBit (31-j)
def xorG (x y j:Nat):Bool:=x.testBit (31-j) !=y.testBit (31-j)
def andG (x y j:Nat):Bool:=x.testBit (31-j)&&y.testBit (31-j)
def notG (x j:Nat):Bool := !x.testBit (31-j)

abbrev zL32:List AV:=List.replicate 32 (AV.bool false)
def inv_135 (x:Nat) (s:S):List (List LInv):=match s.hp with
 | [b0,⟨k,f,_⟩]=>[[{ α:=Nat×List AV,pre:=fun c=>Lf (c.1≤32∧c.2=wdM x c.1),st:=fun c=>⟨mkT [(0,.int .i64 (x/2^c.1:Nat)),(2,s.tm.get 2),(3,s.tm.get 3),(4,.int .i64 (31-(c.1:Nat):Int))],[b0,⟨k,f,c.2⟩]⟩,mu:=fun c=>32-c.1 }]]
 | _=>[]
noncomputable def env_135 (hv:Nat→Option Pa) (hb:Nat→Option Bool) (x:Nat):Env:=e18 sm0 (fun i=>bif Nat.beq i 153000 then some (inv_135 x) else none) hv hb
noncomputable def goal_135 (hv:Nat→Option Pa) (hb:Nat→Option Bool) (x:Nat) (Q:Out→List Blk→Gh→Prop):Prop:=
 callx (env_135 hv hb x) (wpx (env_135 hv hb x) 1000) 153 [.int .i64 (x:Nat)] [] {} Q
theorem vc_135 (x:Nat) (Q:Out→List Blk→Gh→Prop):goal_135 (lookV [(626693,.int .i64),(626697,.int .i64),(626698,.int .i64),(626699,.int .i64),(626702,.int .i64),(626703,.int .i64),(626695,.int .i64),(626696,.int
 .i64)]) (lookB [(630782,true)]) x Q=((∃x_0:Nat×List AV,Lf (x_0.1≤32∧x_0.2=wdM x x_0.1)∧zL32=zL32∧zL32=x_0.2∧AV.int .i64 (x:Int)=AV.int .i64 ((x/(2:Nat)^x_0.1:Nat):Int)∧eqqQ (AV.ptr 1 32 0)∧eqqQ
 (AV.ptr 0 32 0)∧AV.int .i64 31=AV.int .i64 (31-(x_0.1:Int))∧True)∧∀x_0:Nat×List AV,Lf (x_0.1≤32∧x_0.2=wdM x x_0.1)→exI .i64 (31-(x_0.1:Int)) fun n_1=>bif decide (n_1≥0) then exI .i64 (31-(x_0.1:Int))
 fun n_2=>exI .i64 ((x/(2:Nat)^x_0.1:Nat):Int) fun n_3=>exI .i64 (n_3.tmod 2) fun n_4=>bif n_4==1 then ckQ (decide (0≤n_2)&&Nat.blt n_2.toNat 32&&Nat.beq x_0.2.length 32) (ckQ (Nat.beq x_0.2.length 32&&Nat.ble (0 +
 n_2.toNat*1+1) 32&&true&&true&&true) (exI .i64 ((x/(2:Nat)^x_0.1:Nat):Int) fun n_5=>exW .i64 (n_5.tdiv 2) fun n_6=>exI .i64 (31-(x_0.1:Int)) fun n_7=>exW .i64 (n_7-1) fun n_8=>(True∧(0:Nat)=(0 :
 Nat))∧∃y_9:Nat×List AV,Lf (y_9.1≤32∧y_9.2=wdM x y_9.1)∧32-y_9.1<32-x_0.1∧zL32=zL32∧setRange x_0.2 (0+n_2.toNat*1) [.bool true]=y_9.2∧AV.int .i64 n_6=AV.int .i64 ((x/(2:Nat)^y_9.1:Nat):Int) ∧
 eqqQ (AV.ptr 1 32 0)∧eqqQ (AV.ptr 0 32 0)∧AV.int .i64 n_8=AV.int .i64 (31-(y_9.1:Int))∧True)) else ckQ (decide (0≤n_2)&&Nat.blt n_2.toNat 32&&Nat.beq x_0.2.length 32) (ckQ (Nat.beq x_0.2.length 32&&Nat.ble (0 +
 n_2.toNat*1+1) 32&&true&&true&&true) (exI .i64 ((x/(2:Nat)^x_0.1:Nat):Int) fun n_5=>exW .i64 (n_5.tdiv 2) fun n_6=>exI .i64 (31-(x_0.1:Int)) fun n_7=>exW .i64 (n_7-1) fun n_8=>(True∧(0:Nat)=(0 :
 Nat))∧∃y_9:Nat×List AV,Lf (y_9.1≤32∧y_9.2=wdM x y_9.1)∧32-y_9.1<32-x_0.1∧zL32=zL32∧setRange x_0.2 (0+n_2.toNat*1) [.bool false]=y_9.2∧AV.int .i64 n_6=AV.int .i64 ((x/(2:Nat)^y_9.1:Nat):Int) ∧
 eqqQ (AV.ptr 1 32 0)∧eqqQ (AV.ptr 0 32 0)∧AV.int .i64 n_8=AV.int .i64 (31-(y_9.1:Int))∧True)) else ckQ (Nat.beq x_0.2.length 32&&true) (ckQ (Nat.beq ((x_0.2.drop 0).take 32).length 32&&oneL ((x_0.2.drop 0).take 32)&&true)
 (ckQ (Nat.beq (setRange zL32 0 ((x_0.2.drop 0).take 32)).length 32&&true) ((old 0 (.agg (((setRange zL32 0 ((x_0.2.drop 0).take 32)).drop 0).take 32))&&true)=true∧Q (.ret (.agg (((setRange zL32 0 ((x_0.2.drop 0).take 32)).drop
 0).take 32))) [] {})))):=by kernel_rfl

def inv_137 (x:Nat) (s:S):List (List LInv):=[[{ α:=Nat,pre:=fun i=>Lf (i≤32),st:=fun i=>⟨mkT [(1,s.tm.get 1),(3,.int .i64 (x/2^(32-i):Nat)),(4,.int .i64 (i:Nat))],s.hp⟩,mu:=fun i=>32-i }]]
noncomputable def env_137 (hv:Nat→Option Pa) (hb:Nat→Option Bool) (x:Nat):Env:=e18 sm0 (fun i=>bif Nat.beq i 155000 then some (inv_137 x) else none) hv hb
noncomputable def goal_137 (hv:Nat→Option Pa) (hb:Nat→Option Bool) (la:List AV) (x:Nat) (Q:Out→List Blk→Gh→Prop):Prop:=
 callx (env_137 hv hb x) (wpx (env_137 hv hb x) 1000) 155 [.agg la] [] {} Q
theorem vc_137 (la:List AV) (x:Nat) (Q:Out→List Blk→Gh→Prop):goal_137 (lookV [(634885,.int .i64),(634889,.int .i64),(634890,.int .i64),(634891,.int .i64),(634893,.bool),(634895,.int .i64),(634887,.int .i64),
 (634888,.int .i64),(634896,.int .i64)]) (lookB [(1634880000,true)]) la x Q=((∃x_0:Nat,Lf (x_0≤32)∧ckQ (oldL 0 la==oldL 0 la) (la=la∧eqqQ (AV.ptr 0 la.length 0)∧AV.int .i64 0=AV.int .i64 ((x/(2:Nat)^(32-x_0)
 : Nat):Int)∧AV.int .i64 0=AV.int .i64 (x_0:Int)∧True))∧∀x_0:Nat,Lf (x_0≤32)→exI .i64 (x_0:Int) fun n_1=>bif decide (n_1<32) then exI .i64 ((x/(2:Nat)^(32-x_0):Nat):Int) fun n_2=>exW .i64 (2*n_2)
 fun n_3=>exI .i64 (x_0:Int) fun n_4=>ckQ (decide (0≤n_4)&&Nat.blt n_4.toNat 32&&Nat.beq la.length la.length) (ckQ (Nat.beq la.length la.length&&Nat.blt (0+n_4.toNat*1) la.length) (exB (((la.drop (0+n_4.toNat*1)).take
 1).getD 0 AV.undef) fun b_5=>bif b_5 then exW .i64 (n_3+1) fun n_6=>exI .i64 (x_0:Int) fun n_7=>exW .i64 (n_7+1) fun n_8=>((oldL 0 la||oldL 1 la)&&true)=true∧(True∧(0:Nat)=(0:Nat))∧∃y_9:Nat,Lf (y_9≤32)
 ∧ 32-y_9<32-x_0∧ckQ (oldL 0 la==oldL 0 la) (la=la∧eqqQ (AV.ptr 0 la.length 0)∧AV.int .i64 n_6=AV.int .i64 ((x/(2:Nat)^(32-y_9):Nat):Int)∧AV.int .i64 n_8=AV.int .i64 (y_9:Int)∧True) else exI .i64 (x_0 :
 Int) fun n_6=>exW .i64 (n_6+1) fun n_7=>((oldL 0 la||oldL 1 la)&&true)=true∧(True∧(0:Nat)=(0:Nat))∧∃y_8:Nat,Lf (y_8≤32)∧32-y_8<32-x_0∧ckQ (oldL 0 la==oldL 0 la) (la=la∧eqqQ (AV.ptr 0 la.length
 0)∧AV.int .i64 n_3=AV.int .i64 ((x/(2:Nat)^(32-y_8):Nat):Int)∧AV.int .i64 n_7=AV.int .i64 (y_8:Int)∧True))) else exI .i64 ((x/(2:Nat)^(32-x_0):Nat):Int) fun n_2=>Q (.ret (.int .i64 n_2)) [] {}):=by
 kernel_rfl

def inv_139 (x k:Nat) (s:S):List (List LInv):=match s.hp with
 | [b0,b1,⟨kk,f,_⟩]=>[[{ α:=Nat×List AV,pre:=fun c=>Lf (c.1≤32∧c.2=trnM x k c.1),st:=fun c=>⟨mkT [(1,s.tm.get 1),(2,s.tm.get 2),(4,s.tm.get 4),(5,s.tm.get 5),(6,.int .i64 (c.1:Nat))],[b0,b1,⟨kk,f,c.2⟩]⟩,mu:=fun c=>32-c.1 }]]
 | _=>[]
noncomputable def env_139 (hv:Nat→Option Pa) (hb:Nat→Option Bool) (x k:Nat):Env:=e18 sm0 (fun i=>bif Nat.beq i 157000 then some (inv_139 x k) else none) hv hb
noncomputable def goal_139 (hv:Nat→Option Pa) (hb:Nat→Option Bool) (la:List AV) (x k:Nat) (Q:Out→List Blk→Gh→Prop):Prop:=
 callx (env_139 hv hb x k) (wpx (env_139 hv hb x k) 1000) 157 [.agg la,.int .i64 (k:Nat)] [] {} Q
theorem vc_139 (la:List AV) (x:Nat) (k:Nat) (Q:Out→List Blk→Gh→Prop):goal_139 (lookV [(643079,.int .i64),(643083,.int .i64),(643084,.int .i64),(643085,.int .i64),(643086,.int .i64),(643087,.int .i64),(643089,
 .bool),(643081,.int .i64),(643082,.int .i64)]) (lookB [(1643072000,true),(647166,true)]) la x k Q=((∃x_0:Nat×List AV,Lf (x_0.1≤32∧x_0.2=trnM x k x_0.1)∧ckQ (oldL 0 la==oldL 0 la) (la=la∧zL32=zL32∧zL32 =
 x_0.2∧eqqQ (AV.int .i64 (k:Int))∧eqqQ (AV.ptr 2 32 0)∧eqqQ (AV.ptr 0 la.length 0)∧eqqQ (AV.ptr 1 32 0)∧AV.int .i64 0=AV.int .i64 (x_0.1:Int)∧True))∧∀x_0:Nat×List AV,Lf (x_0.1≤32∧x_0.2=trnM x k x_0.1)→exI
 .i64 (x_0.1:Int) fun n_1=>bif decide (n_1<32) then exI .i64 (x_0.1:Int) fun n_2=>exI .i64 (k:Int) fun n_3=>exW .i64 (n_2+n_3) fun n_4=>exI .i64 (n_4.tmod 32) fun n_5=>exI .i64 (x_0.1:Int) fun n_6=>ckQ (decide (0 ≤
 n_6)&&Nat.blt n_6.toNat 32&&Nat.beq la.length la.length) (ckQ (Nat.beq la.length la.length&&Nat.blt (0+n_6.toNat*1) la.length) (exB (((la.drop (0+n_6.toNat*1)).take 1).getD 0 AV.undef) fun b_7=>ckQ (decide (0≤n_5) &&
 Nat.blt n_5.toNat 32&&Nat.beq x_0.2.length 32) (ckQ (Nat.beq x_0.2.length 32&&Nat.ble (0+n_5.toNat*1+1) 32&&true&&true&&true) (exI .i64 (x_0.1:Int) fun n_8=>exW .i64 (n_8+1) fun n_9=>((oldL 0 la||oldL 3 la) &&
 true)=true∧(True∧(0:Nat)=(0:Nat))∧∃y_10:Nat×List AV,Lf (y_10.1≤32∧y_10.2=trnM x k y_10.1)∧32-y_10.1<32-x_0.1∧ckQ (oldL 0 la==oldL 0 la) (la=la∧zL32=zL32∧setRange x_0.2 (0+n_5.toNat*1)
 [.bool b_7]=y_10.2∧eqqQ (AV.int .i64 (k:Int))∧eqqQ (AV.ptr 2 32 0)∧eqqQ (AV.ptr 0 la.length 0)∧eqqQ (AV.ptr 1 32 0)∧AV.int .i64 n_9=AV.int .i64 (y_10.1:Int)∧True))))) else ckQ (Nat.beq x_0.2.length 32&&true) (ckQ
 (Nat.beq ((x_0.2.drop 0).take 32).length 32&&oneL ((x_0.2.drop 0).take 32)&&true) (ckQ (Nat.beq (setRange zL32 0 ((x_0.2.drop 0).take 32)).length 32&&true) ((old 0 (.agg (((setRange zL32 0 ((x_0.2.drop 0).take 32)).drop 0).take 32))
 && true)=true∧Q (.ret (.agg (((setRange zL32 0 ((x_0.2.drop 0).take 32)).drop 0).take 32))) [] {})))):=by kernel_rfl

def inv_140 (x k:Nat) (s:S):List (List LInv):=match s.hp with
 | [b0,b1,⟨kk,f,_⟩]=>[[{ α:=Nat×List AV,pre:=fun c=>Lf (c.1+k≤32∧c.2=movM x k c.1),st:=fun c=>⟨mkT [(1,s.tm.get 1),(2,s.tm.get 2),(4,s.tm.get 4),(5,s.tm.get 5),(6,.int .i64 (c.1:Nat))],[b0,b1,⟨kk,f,c.2⟩]⟩,mu:=fun c=>32-c.1 }]]
 | _=>[]
noncomputable def env_140 (hv:Nat→Option Pa) (hb:Nat→Option Bool) (x k:Nat):Env:=e18 sm0 (fun i=>bif Nat.beq i 158000 then some (inv_140 x k) else none) hv hb
noncomputable def goal_140 (hv:Nat→Option Pa) (hb:Nat→Option Bool) (la:List AV) (x k:Nat) (Q:Out→List Blk→Gh→Prop):Prop:=
 callx (env_140 hv hb x k) (wpx (env_140 hv hb x k) 1000) 158 [.agg la,.int .i64 (k:Nat)] [] {} Q
theorem vc_140 (la:List AV) (x:Nat) (k:Nat) (Q:Out→List Blk→Gh→Prop):goal_140 (lookV [(647175,.int .i64),(647176,.int .i64),(647177,.int .i64),(647181,.int .i64),(647182,.int .i64),(647183,.int .i64),(647184,
 .int .i64),(647186,.bool),(647179,.int .i64),(647180,.int .i64)]) (lookB [(1647168000,true),(651262,true)]) la x k Q=((∃x_0:Nat×List AV,Lf (x_0.1+k≤32∧x_0.2=movM x k x_0.1)∧ckQ (oldL 0 la==oldL 0 la) (la=la ∧
 zL32=zL32∧zL32=x_0.2∧eqqQ (AV.int .i64 (k:Int))∧eqqQ (AV.ptr 2 32 0)∧eqqQ (AV.ptr 0 la.length 0)∧eqqQ (AV.ptr 1 32 0)∧AV.int .i64 0=AV.int .i64 (x_0.1:Int)∧True))∧∀x_0:Nat×List AV,Lf (x_0.1+k≤32∧x_0.2
 = movM x k x_0.1)→exI .i64 (x_0.1:Int) fun n_1=>exI .i64 (k:Int) fun n_2=>exW .i64 (n_1+n_2) fun n_3=>bif decide (n_3<32) then exI .i64 (x_0.1:Int) fun n_4=>exI .i64 (k:Int) fun n_5=>exW .i64 (n_4+n_5) fun n_6=>
 exI .i64 (x_0.1:Int) fun n_7=>ckQ (decide (0≤n_7)&&Nat.blt n_7.toNat 32&&Nat.beq la.length la.length) (ckQ (Nat.beq la.length la.length&&Nat.blt (0+n_7.toNat*1) la.length) (exB (((la.drop (0+n_7.toNat*1)).take 1).getD 0
 AV.undef) fun b_8=>ckQ (decide (0≤n_6)&&Nat.blt n_6.toNat 32&&Nat.beq x_0.2.length 32) (ckQ (Nat.beq x_0.2.length 32&&Nat.ble (0+n_6.toNat*1+1) 32&&true&&true&&true) (exI .i64 (x_0.1:Int) fun n_9=>exW .i64 (n_9 +
 1) fun n_10=>((oldL 0 la||oldL 3 la)&&true)=true∧(True∧(0:Nat)=(0:Nat))∧∃y_11:Nat×List AV,Lf (y_11.1+k≤32∧y_11.2=movM x k y_11.1)∧32-y_11.1<32-x_0.1∧ckQ (oldL 0 la==oldL 0 la) (la=la∧zL32 =
 zL32∧setRange x_0.2 (0+n_6.toNat*1) [.bool b_8]=y_11.2∧eqqQ (AV.int .i64 (k:Int))∧eqqQ (AV.ptr 2 32 0)∧eqqQ (AV.ptr 0 la.length 0)∧eqqQ (AV.ptr 1 32 0)∧AV.int .i64 n_10=AV.int .i64 (y_11.1:Int)∧True))))) else ckQ
 (Nat.beq x_0.2.length 32&&true) (ckQ (Nat.beq ((x_0.2.drop 0).take 32).length 32&&oneL ((x_0.2.drop 0).take 32)&&true) (ckQ (Nat.beq (setRange zL32 0 ((x_0.2.drop 0).take 32)).length 32&&true) ((old 0 (.agg (((setRange zL32 0
 ((x_0.2.drop 0).take 32)).drop 0).take 32))&&true)=true∧Q (.ret (.agg (((setRange zL32 0 ((x_0.2.drop 0).take 32)).drop 0).take 32))) [] {})))):=by kernel_rfl

def inv_two (g:Nat→Bool) (s:S):List (List LInv):=match s.hp with
 | [b0,b1,b2,⟨kk,f,_⟩]=>[[{ α:=Nat×List AV,pre:=fun c=>Lf (c.1≤32∧c.2=partM g c.1),st:=fun c=>⟨mkT [(2,s.tm.get 2),(3,s.tm.get 3),(4,s.tm.get 4),(5,s.tm.get 5),(6,.int .i64 (c.1:Nat))],[b0,b1,b2,⟨kk,f,c.2⟩]⟩,mu:=fun c=>32-c.1 }]]
 | _=>[]
noncomputable def env_141 (hv:Nat→Option Pa) (hb:Nat→Option Bool) (g:Nat→Bool):Env:=e18 sm0 (fun i=>bif Nat.beq i 159000 then some (inv_two g) else bif Nat.beq i 160000 then some (inv_two g) else none) hv hb
noncomputable def goal_141 (hv:Nat→Option Pa) (hb:Nat→Option Bool) (la lb:List AV) (g:Nat→Bool) (Q:Out→List Blk→Gh→Prop):Prop:=
 callx (env_141 hv hb g) (wpx (env_141 hv hb g) 1000) 159 [.agg la,.agg lb] [] {} Q
abbrev q8DC_141_0 (lb:List AV) (la:List AV) (n_8:Int) (y_9:Nat×List AV):Prop:=
eqqQ (AV.ptr 1 lb.length 0)∧eqqQ (AV.ptr 3 32 0)∧eqqQ (AV.ptr 0 la.length 0)∧eqqQ (AV.ptr 2 32 0)∧AV.int .i64 n_8=AV.int .i64 (y_9.1:Int)∧True
theorem vc_141 (la:List AV) (lb:List AV) (g:Nat→Bool) (Q:Out→List Blk→Gh→Prop):goal_141 (lookV [(651271,.int .i64),(651275,.int .i64),(651276,.int .i64),(651278,.bool),(651279,.int .i64),(651281,.bool),(651273,
 .int .i64),(651274,.int .i64)]) (lookB [(1651264000,true),(655358,true)]) la lb g Q=((∃x_0:Nat×List AV,Lf (x_0.1≤32∧x_0.2=partM g x_0.1)∧ckQ (oldL 0 la==oldL 0 la) (la=la∧ckQ (oldL 0 lb==oldL 0 lb) (lb=lb ∧
 zL32=zL32∧zL32=x_0.2∧eqqQ (AV.ptr 1 lb.length 0)∧eqqQ (AV.ptr 3 32 0)∧eqqQ (AV.ptr 0 la.length 0)∧eqqQ (AV.ptr 2 32 0)∧AV.int .i64 0=AV.int .i64 (x_0.1:Int)∧True)))∧∀x_0:Nat×List AV,Lf (x_0.1≤32∧x_0.2 =
 partM g x_0.1)→exI .i64 (x_0.1:Int) (fun n_1=>bif decide (n_1<32) then exI .i64 (x_0.1:Int) (fun n_2=>exI .i64 (x_0.1:Int) (fun n_3=>ckQ (decide (0≤n_3)&&Nat.blt n_3.toNat 32&&Nat.beq la.length la.length) (ckQ
 (Nat.beq la.length la.length&&Nat.blt (0+n_3.toNat*1) la.length) (exB (((la.drop (0+n_3.toNat*1)).take 1).getD 0 AV.undef) (fun b_4=>exI .i64 (x_0.1:Int) (fun n_5=>ckQ (decide (0≤n_5)&&Nat.blt n_5.toNat 32&&Nat.beq
 lb.length lb.length) (ckQ (Nat.beq lb.length lb.length&&Nat.blt (0+n_5.toNat*1) lb.length) (exB (((lb.drop (0+n_5.toNat*1)).take 1).getD 0 AV.undef) (fun b_6=>bif !b_4==b_6 then ckQ (decide (0≤n_2)&&Nat.blt n_2.toNat 32
 && Nat.beq x_0.2.length 32) (ckQ (Nat.beq x_0.2.length 32&&Nat.ble (0+n_2.toNat*1+1) 32&&true&&true&&true) (exI .i64 (x_0.1:Int) (fun n_7=>exW .i64 (n_7+1) (fun n_8=>((oldL 0 la||oldL 4 la)&&((oldL 0 lb||oldL 4
 lb)&&true))=true∧(True∧(0:Nat)=(0:Nat))∧∃y_9:Nat×List AV,Lf (y_9.1≤32∧y_9.2=partM g y_9.1)∧32-y_9.1<32-x_0.1∧ckQ (oldL 0 la==oldL 0 la) (la=la∧ckQ (oldL 0 lb==oldL 0 lb) (lb=lb∧zL32=zL32
 ∧ setRange x_0.2 (0+n_2.toNat*1) [.bool true]=y_9.2∧q8DC_141_0 lb la n_8 y_9)))))) else ckQ (decide (0≤n_2)&&Nat.blt n_2.toNat 32&&Nat.beq x_0.2.length 32) (ckQ (Nat.beq x_0.2.length 32&&Nat.ble (0+n_2.toNat*1+1) 32
 && true&&true&&true) (exI .i64 (x_0.1:Int) (fun n_7=>exW .i64 (n_7+1) (fun n_8=>((oldL 0 la||oldL 4 la)&&((oldL 0 lb||oldL 4 lb)&&true))=true∧(True∧(0:Nat)=(0:Nat))∧∃y_9:Nat×List AV,Lf (y_9.1≤32 ∧
 y_9.2=partM g y_9.1)∧32-y_9.1<32-x_0.1∧ckQ (oldL 0 la==oldL 0 la) (la=la∧ckQ (oldL 0 lb==oldL 0 lb) (lb=lb∧zL32=zL32∧setRange x_0.2 (0+n_2.toNat*1) [.bool false]=y_9.2∧q8DC_141_0 lb la n_8
 y_9))))))))))))))) else ckQ (Nat.beq x_0.2.length 32&&true) (ckQ (Nat.beq ((x_0.2.drop 0).take 32).length 32&&oneL ((x_0.2.drop 0).take 32)&&true) (ckQ (Nat.beq (setRange zL32 0 ((x_0.2.drop 0).take 32)).length 32&&true) ((old 0
 (.agg (((setRange zL32 0 ((x_0.2.drop 0).take 32)).drop 0).take 32))&&true)=true∧Q (.ret (.agg (((setRange zL32 0 ((x_0.2.drop 0).take 32)).drop 0).take 32))) [] {}))))):=by kernel_rfl

noncomputable def goal_142 (hv:Nat→Option Pa) (hb:Nat→Option Bool) (la lb:List AV) (g:Nat→Bool) (Q:Out→List Blk→Gh→Prop):Prop:=
 callx (env_141 hv hb g) (wpx (env_141 hv hb g) 1000) 160 [.agg la,.agg lb] [] {} Q
abbrev q8DC_142_0 (n_2:Int) (x_0:Nat×List AV) (la:List AV) (lb:List AV) (g:Nat→Bool):Prop:=
ckQ (decide (0≤n_2)&&Nat.blt n_2.toNat 32&&Nat.beq x_0.2.length 32) (ckQ (Nat.beq x_0.2.length 32&&Nat.ble (0+n_2.toNat*1+1) 32&&true&&true&&true) (exI .i64 (x_0.1:Int) fun n_7=>exW .i64 (n_7+1) fun n_8=>((oldL 0
 la||oldL 4 la)&&((oldL 0 lb||oldL 4 lb)&&true))=true∧(True∧(0:Nat)=(0:Nat))∧∃y_9:Nat×List AV,Lf (y_9.1≤32∧y_9.2=partM g y_9.1)∧32-y_9.1<32-x_0.1∧ckQ (oldL 0 la==oldL 0 la) (la=la∧ckQ (oldL
 0 lb==oldL 0 lb) (lb=lb∧zL32=zL32∧setRange x_0.2 (0+n_2.toNat*1) [.bool false]=y_9.2∧eqqQ (AV.ptr 1 lb.length 0)∧eqqQ (AV.ptr 3 32 0)∧eqqQ (AV.ptr 0 la.length 0)∧eqqQ (AV.ptr 2 32 0)∧AV.int .i64 n_8=AV.int .i64
 (y_9.1:Int)∧True))))
theorem vc_142 (la:List AV) (lb:List AV) (g:Nat→Bool) (Q:Out→List Blk→Gh→Prop):goal_142 (lookV [(655367,.int .i64),(655371,.int .i64),(655372,.int .i64),(655374,.bool),(655376,.int .i64),(655378,.bool),(655369,
 .int .i64),(655370,.int .i64)]) (lookB [(1655360000,true),(659454,true)]) la lb g Q=((∃x_0:Nat×List AV,Lf (x_0.1≤32∧x_0.2=partM g x_0.1)∧ckQ (oldL 0 la==oldL 0 la) (la=la∧ckQ (oldL 0 lb==oldL 0 lb) (lb=lb ∧
 zL32=zL32∧zL32=x_0.2∧eqqQ (AV.ptr 1 lb.length 0)∧eqqQ (AV.ptr 3 32 0)∧eqqQ (AV.ptr 0 la.length 0)∧eqqQ (AV.ptr 2 32 0)∧AV.int .i64 0=AV.int .i64 (x_0.1:Int)∧True)))∧∀x_0:Nat×List AV,Lf (x_0.1≤32∧x_0.2 =
 partM g x_0.1)→exI .i64 (x_0.1:Int) (fun n_1=>bif decide (n_1<32) then exI .i64 (x_0.1:Int) (fun n_2=>exI .i64 (x_0.1:Int) (fun n_3=>ckQ (decide (0≤n_3)&&Nat.blt n_3.toNat 32&&Nat.beq la.length la.length) (ckQ
 (Nat.beq la.length la.length&&Nat.blt (0+n_3.toNat*1) la.length) (exB (((la.drop (0+n_3.toNat*1)).take 1).getD 0 AV.undef) (fun b_4=>bif b_4 then exI .i64 (x_0.1:Int) (fun n_5=>ckQ (decide (0≤n_5)&&Nat.blt n_5.toNat 32
 && Nat.beq lb.length lb.length) (ckQ (Nat.beq lb.length lb.length&&Nat.blt (0+n_5.toNat*1) lb.length) (exB (((lb.drop (0+n_5.toNat*1)).take 1).getD 0 AV.undef) (fun b_6=>bif b_6 then ckQ (decide (0≤n_2)&&Nat.blt n_2.toNat
 32&&Nat.beq x_0.2.length 32) (ckQ (Nat.beq x_0.2.length 32&&Nat.ble (0+n_2.toNat*1+1) 32&&true&&true&&true) (exI .i64 (x_0.1:Int) (fun n_7=>exW .i64 (n_7+1) (fun n_8=>((oldL 0 la||oldL 4 la)&&((oldL 0 lb||oldL
 4 lb)&&true))=true∧(True∧(0:Nat)=(0:Nat))∧∃y_9:Nat×List AV,Lf (y_9.1≤32∧y_9.2=partM g y_9.1)∧32-y_9.1<32-x_0.1∧ckQ (oldL 0 la==oldL 0 la) (la=la∧ckQ (oldL 0 lb==oldL 0 lb) (lb=lb∧zL32 =
 zL32∧setRange x_0.2 (0+n_2.toNat*1) [.bool true]=y_9.2∧eqqQ (AV.ptr 1 lb.length 0)∧eqqQ (AV.ptr 3 32 0)∧eqqQ (AV.ptr 0 la.length 0)∧eqqQ (AV.ptr 2 32 0)∧AV.int .i64 n_8=AV.int .i64 (y_9.1:Int)∧True)))))) else
 q8DC_142_0 n_2 x_0 la lb g)))) else q8DC_142_0 n_2 x_0 la lb g))))) else ckQ (Nat.beq x_0.2.length 32&&true) (ckQ (Nat.beq ((x_0.2.drop 0).take 32).length 32&&oneL ((x_0.2.drop 0).take 32)&&true) (ckQ (Nat.beq (setRange zL32 0
 ((x_0.2.drop 0).take 32)).length 32&&true) ((old 0 (.agg (((setRange zL32 0 ((x_0.2.drop 0).take 32)).drop 0).take 32))&&true)=true∧Q (.ret (.agg (((setRange zL32 0 ((x_0.2.drop 0).take 32)).drop 0).take 32))) [] {}))))):=by
 kernel_rfl

def inv_143 (g:Nat→Bool) (s:S):List (List LInv):=match s.hp with
 | [b0,b1,⟨kk,f,_⟩]=>[[{ α:=Nat×List AV,pre:=fun c=>Lf (c.1≤32∧c.2=partM g c.1),st:=fun c=>⟨mkT [(1,s.tm.get 1),(2,s.tm.get 2),(3,s.tm.get 3),(4,.int .i64 (c.1:Nat))],[b0,b1,⟨kk,f,c.2⟩]⟩,mu:=fun c=>32-c.1 }]]
 | _=>[]
noncomputable def env_143 (hv:Nat→Option Pa) (hb:Nat→Option Bool) (g:Nat→Bool):Env:=e18 sm0 (fun i=>bif Nat.beq i 161000 then some (inv_143 g) else none) hv hb
noncomputable def goal_143 (hv:Nat→Option Pa) (hb:Nat→Option Bool) (la:List AV) (g:Nat→Bool) (Q:Out→List Blk→Gh→Prop):Prop:=
 callx (env_143 hv hb g) (wpx (env_143 hv hb g) 1000) 161 [.agg la] [] {} Q
theorem vc_143 (la:List AV) (g:Nat→Bool) (Q:Out→List Blk→Gh→Prop):goal_143 (lookV [(659461,.int .i64),(659465,.int .i64),(659466,.int .i64),(659468,.bool),(659463,.int .i64),(659464,.int .i64)]) (lookB
 [(1659456000,true),(663550,true)]) la g Q=((∃x_0:Nat×List AV,Lf (x_0.1≤32∧x_0.2=partM g x_0.1)∧ckQ (oldL 0 la==oldL 0 la) (la=la∧zL32=zL32∧zL32=x_0.2∧eqqQ (AV.ptr 0 la.length 0)∧eqqQ (AV.ptr 2 32 0) ∧
 eqqQ (AV.ptr 1 32 0)∧AV.int .i64 0=AV.int .i64 (x_0.1:Int)∧True))∧∀x_0:Nat×List AV,Lf (x_0.1≤32∧x_0.2=partM g x_0.1)→exI .i64 (x_0.1:Int) fun n_1=>bif decide (n_1<32) then exI .i64 (x_0.1:Int) fun n_2=>exI
 .i64 (x_0.1:Int) fun n_3=>ckQ (decide (0≤n_3)&&Nat.blt n_3.toNat 32&&Nat.beq la.length la.length) (ckQ (Nat.beq la.length la.length&&Nat.blt (0+n_3.toNat*1) la.length) (exB (((la.drop (0+n_3.toNat*1)).take 1).getD 0
 AV.undef) fun b_4=>bif !b_4 then ckQ (decide (0≤n_2)&&Nat.blt n_2.toNat 32&&Nat.beq x_0.2.length 32) (ckQ (Nat.beq x_0.2.length 32&&Nat.ble (0+n_2.toNat*1+1) 32&&true&&true&&true) (exI .i64 (x_0.1:Int) fun n_5=>
 exW .i64 (n_5+1) fun n_6=>((oldL 0 la||oldL 3 la)&&true)=true∧(True∧(0:Nat)=(0:Nat))∧∃y_7:Nat×List AV,Lf (y_7.1≤32∧y_7.2=partM g y_7.1)∧32-y_7.1<32-x_0.1∧ckQ (oldL 0 la==oldL 0 la) (la=la ∧
 zL32=zL32∧setRange x_0.2 (0+n_2.toNat*1) [.bool true]=y_7.2∧eqqQ (AV.ptr 0 la.length 0)∧eqqQ (AV.ptr 2 32 0)∧eqqQ (AV.ptr 1 32 0)∧AV.int .i64 n_6=AV.int .i64 (y_7.1:Int)∧True))) else ckQ (decide (0≤n_2)&&Nat.blt
 n_2.toNat 32&&Nat.beq x_0.2.length 32) (ckQ (Nat.beq x_0.2.length 32&&Nat.ble (0+n_2.toNat*1+1) 32&&true&&true&&true) (exI .i64 (x_0.1:Int) fun n_5=>exW .i64 (n_5+1) fun n_6=>((oldL 0 la||oldL 3 la)&&true) =
 true∧(True∧(0:Nat)=(0:Nat))∧∃y_7:Nat×List AV,Lf (y_7.1≤32∧y_7.2=partM g y_7.1)∧32-y_7.1<32-x_0.1∧ckQ (oldL 0 la==oldL 0 la) (la=la∧zL32=zL32∧setRange x_0.2 (0+n_2.toNat*1) [.bool false] =
 y_7.2∧eqqQ (AV.ptr 0 la.length 0)∧eqqQ (AV.ptr 2 32 0)∧eqqQ (AV.ptr 1 32 0)∧AV.int .i64 n_6=AV.int .i64 (y_7.1:Int)∧True))))) else ckQ (Nat.beq x_0.2.length 32&&true) (ckQ (Nat.beq ((x_0.2.drop 0).take 32).length 32&&oneL
 ((x_0.2.drop 0).take 32)&&true) (ckQ (Nat.beq (setRange zL32 0 ((x_0.2.drop 0).take 32)).length 32&&true) ((old 0 (.agg (((setRange zL32 0 ((x_0.2.drop 0).take 32)).drop 0).take 32))&&true)=true∧Q (.ret (.agg (((setRange zL32 0
 ((x_0.2.drop 0).take 32)).drop 0).take 32))) [] {})))):=by kernel_rfl

end Go.Proofs.YtjenieljapmehaaGreatDoor

set_option linter.unusedSimpArgs false
set_option linter.unusedVariables false
set_option linter.unusedSectionVars false
namespace Go.Proofs.YtjenieljapmehaaGreatDoor
open Go.RowKit
set_option maxRecDepth 1000000

theorem wrd_len (g:Nat→Bool):(wrdM g).length=32:=by rw[wrdM,List.length_map,List.length_range]
theorem wrd_get (g:Nat→Bool) {i:Nat} (hi:i<32):(wrdM g)[i]? = some (AV.bool (g i)):=by
 rw[wrdM,List.getElem?_map,List.getElem?_range hi];rfl
theorem wrd_ext {g h:Nat→Bool} (e:∀j,j<32→g j=h j):wrdM g=wrdM h:=by
 unfold wrdM
 apply List.map_congr_left
 intro j hj
 rw[e j (List.mem_range.1 hj)]
theorem old_bools:∀l:List Nat,∀ (a:Nat) (g:Nat→Bool),oldL a (l.map fun j=>AV.bool (g j))=true
 | [],_,_=>rfl
 | x::l,a,g=>by simp[oldL,old,old_bools l]
theorem noY_bools:∀l:List Nat,∀ (g:Nat→Bool),noYL (l.map fun j=>AV.bool (g j))=true
 | [],_=>rfl
 | x::l,g=>by simp[noYL,noY,noY_bools l]
theorem one_bools:∀l:List Nat,∀ (g:Nat→Bool),oneL (l.map fun j=>AV.bool (g j))=true
 | [],_=>rfl
 | x::l,g=>by simp[oneL,one,one_bools l]
theorem old_wrd (a:Nat) (g:Nat→Bool):oldL a (wrdM g)=true:=old_bools _ a g
theorem noY_wrd (g:Nat→Bool):noYL (wrdM g)=true:=noY_bools _ g
theorem one_wrd (g:Nat→Bool):oneL (wrdM g)=true:=one_bools _ g
theorem ldBw {la:List AV} {g:Nat→Bool} (hla:la=wrdM g) {i:Nat} {n:Int} (hn:n=i) (hi:i<32) {K:Bool→Prop} (h:K (g i)):∃b,List.getD (List.take 1 (List.drop (0+n.toNat*1) la)) 0 AV.undef=AV.bool b∧K b:=by
 refine ⟨g i, ?_,h⟩
 subst hla;subst hn
 rw[List.getD_eq_getElem?_getD,List.getElem?_take_of_lt (by omega),List.getElem?_drop,show 0+(i:Int).toNat*1+0=i by omega,wrd_get g hi]
 rfl
theorem set_wrd {l:List AV} {g:Nat→Bool} (hl:l=wrdM g) {i:Nat} {n:Int} (hn:n=i) (hi:i<32) (b:Bool):setRange l (0+n.toNat*1) [AV.bool b]=wrdM fun j=>if j=i then b else g j:=by
 subst hl;subst hn
 rw[show 0+(i:Int).toNat*1=i by omega]
 apply List.ext_getElem?
 intro j
 unfold setRange
 rcases Nat.lt_or_ge j 32 with hj | hj
 ·rw[wrd_get _ hj,List.append_assoc]
  rcases Nat.lt_trichotomy j i with h | h | h
  ·rw[List.getElem?_append_left (by rw[List.length_take,wrd_len];omega),List.getElem?_take_of_lt h,wrd_get _ hj,if_neg (by omega)]
  ·subst h
   rw[List.getElem?_append_right (by rw[List.length_take,wrd_len];omega),List.length_take,wrd_len,show j-min j 32=0 by omega,if_pos rfl]
   rfl
  ·rw[List.getElem?_append_right (by rw[List.length_take,wrd_len];omega),List.length_take,wrd_len,show j-min i 32=(j-i-1)+1 by omega,List.singleton_append,List.getElem?_cons_succ,List.getElem?_drop,List.length_singleton,show i+1+(j-i-1)=j by omega,wrd_get _ hj,if_neg (by omega)]
 ·rw[List.getElem?_eq_none (by simp only[List.length_append,List.length_take,List.length_drop,wrd_len,List.length_singleton];omega),List.getElem?_eq_none (by rw[wrd_len];exact hj)]
theorem set_full {z l:List AV} (hz:z.length=l.length):setRange z 0 l=l:=by
 show z.take 0++l++z.drop (0+l.length)=l
 rw[List.take_zero,List.nil_append,Nat.zero_add,←hz,List.drop_length,List.append_nil]
theorem take_all {l:List AV} (hl:l.length=32):List.take 32 (List.drop 0 l)=l:=List.take_of_length_le (by rw[List.drop_zero];omega)
theorem wrd_all {z l:List AV} (hz:z.length=32) (hl:l.length=32):List.take 32 (List.drop 0 (setRange z 0 (List.take 32 (List.drop 0 l))))=l:=by
 rw[take_all hl,set_full (by omega),take_all hl]
theorem set_len {z l:List AV} (hz:z.length=32) (hl:l.length=32):(setRange z 0 (List.take 32 (List.drop 0 l))).length=32:=by
 rw[take_all hl,set_full (by omega),hl]
theorem zer_wrd:wrdM (fun _=>false)=List.replicate 32 (AV.bool false):=rfl
theorem part0 (g:Nat→Bool):partM g 0=List.replicate 32 (AV.bool false):=(wrd_ext fun j _=>by rw[decide_eq_false (by omega)];rfl:wrdM _=wrdM _).trans zer_wrd
theorem part_step (g:Nat→Bool) {l:List AV} {i:Nat} (hl:l=partM g i) {n:Int} (hn:n=i) (hi:i<32) {b:Bool} (hb:b=g i):setRange l (0+n.toNat*1) [AV.bool b]=partM g (i+1):=by
 rw[set_wrd hl hn hi b]
 refine wrd_ext fun j hj => ?_
 by_cases h:j=i
 ·subst h;rw[if_pos rfl,hb,decide_eq_true (by omega),Bool.true_and]
 ·rw[if_neg h]
  by_cases h2:j<i
  ·rw[decide_eq_true h2,decide_eq_true (by omega)]
  ·rw[decide_eq_false h2,decide_eq_false (by omega)]
theorem part_end (g:Nat→Bool):partM g 32=wrdM g:=wrd_ext fun j hj=>by rw[decide_eq_true hj,Bool.true_and]
end Go.Proofs.YtjenieljapmehaaGreatDoor

set_option linter.unusedSimpArgs false
set_option linter.unusedVariables false
set_option linter.unusedSectionVars false
namespace Go.Proofs.YtjenieljapmehaaGreatDoor
open Go.RowKit
set_option maxRecDepth 1000000

theorem exitW {z l:List AV} (hz:z.length=32) (hl:l.length=32) (h1:oneL l=true) (ho:oldL 0 l=true) (K:List AV→Prop) (hK:K l) :
  bif Nat.beq l.length 32&&true then (bif Nat.beq (List.take 32 (List.drop 0 l)).length 32&&oneL (List.take 32 (List.drop 0 l))&&true then (bif Nat.beq (setRange z 0 (List.take 32 (List.drop 0 l))).length 32&&true then ((old 0 (.agg (List.take 32 (List.drop 0 (setRange z 0 (List.take 32 (List.drop 0 l))))))&&true)=true∧K (List.take 32 (List.drop 0 (setRange z 0 (List.take 32 (List.drop 0 l)))))) else False) else False) else False:=by
 rw[set_len hz hl,wrd_all hz hl,take_all hl,hl,h1]
 exact ⟨by rw[old,ho];rfl,hK⟩
theorem ldW {la:List AV} {g:Nat→Bool} (hla:la=wrdM g) {i:Nat} {n:Int} (hn:n=i) (hi:i<32) {K:Bool→Prop} (h:K (g i)) :
  bif (decide (0≤n)&&Nat.blt n.toNat 32)&&Nat.beq la.length la.length then (bif Nat.beq la.length la.length&&Nat.blt (0+n.toNat*1) la.length then (∃b,List.getD (List.take 1 (List.drop (0+n.toNat*1) la)) 0 AV.undef=AV.bool b∧K b) else False) else False:=by
 have hl:la.length=32:=by rw[hla];exact wrd_len _
 refine ckI (by simp only[Bool.and_eq_true,decide_eq_true_eq,Nat.blt_eq,nbeq,and_true];omega) (ckI (by simp only[Bool.and_eq_true,Nat.blt_eq,nbeq,true_and];omega) (ldBw hla hn hi h))
theorem stW {l:List AV} {i:Nat} {n:Int} (hn:n=i) (hi:i<32) (hl:l.length=32) {A:Prop} (h:A) :
  bif (decide (0≤n)&&Nat.blt n.toNat 32)&&Nat.beq l.length 32 then (bif (((Nat.beq l.length 32&&Nat.ble (0+n.toNat*1+1) 32)&&true)&&true)&&true then A else False) else False:=by
 refine ckI (by simp only[Bool.and_eq_true,decide_eq_true_eq,Nat.blt_eq,nbeq];omega) (ckI (by simp only[Bool.and_true,Bool.and_eq_true,Nat.ble_eq,nbeq];omega) h)
theorem splitBo {b:Bool} {A B:Prop} (h1:b=true→A) (h2:b=false→B):bif b then A else B:=by
 cases b
 ·exact h2 rfl
 ·exact h1 rfl
theorem not_run (la:List AV) (x:Nat) (hla:la=bitsM x) (Q:Out→List Blk→Gh→Prop) (hq:Q (.ret (.agg (wrdM (notG x)))) [] {}):∃hv hb,goal_143 hv hb la (notG x) Q:=by
 obtain ⟨hv',hb',e'⟩:∃hv hb,goal_143 hv hb la (notG x) Q=_:=⟨_,_,vc_143 la (notG x) Q⟩
 refine ⟨hv',hb',e'.mpr ?_⟩
 clear e'
 have ho:∀a,oldL a la=true:=fun a=>by rw[hla];exact old_wrd a _
 refine ⟨⟨(0,partM (notG x) 0),⟨Nat.zero_le _,rfl⟩,ckI (by simp) ⟨rfl,rfl,(part0 _).symm,rfl,rfl,rfl,rfl,trivial⟩⟩, ?_⟩
 rintro ⟨i,l⟩ ⟨h1,h2⟩
 dsimp only at h1 h2
 dsimp only
 have hll:l.length=32:=by rw[h2];exact wrd_len _
 refine ⟨_,rfl,splitD (fun h3 => ?_) (fun h3 => ?_)⟩
 ·have hi:i<32:=by omega
  refine ⟨_,rfl,_,rfl,ldW hla rfl hi (splitBo (fun hb => ?_) (fun hb => ?_))⟩
  all_goals
   refine stW rfl hi hll ⟨_,rfl,wrapI (by omega) (by omega) ⟨by rw[ho 0];rfl,⟨trivial,rfl⟩,(i+1,_),⟨hi,part_step _ h2 rfl hi hb.symm⟩,by show 32-(i+1)<32-i;omega,ckI (by simp) ⟨rfl,rfl,rfl,rfl,rfl,rfl,rfl,trivial⟩⟩⟩
 ·obtain rfl:i=32:=by omega
  rw[part_end] at h2
  refine exitW rfl hll (by rw[h2];exact one_wrd _) (by rw[h2];exact old_wrd 0 _) (fun r=>Q (.ret (.agg r)) [] {}) ?_
  rw[h2];exact hq
theorem two_run (two:Bool) (la lb:List AV) (x y:Nat) (hla:la=bitsM x) (hlb:lb=bitsM y) (Q:Out→List Blk→Gh→Prop) (hq:Q (.ret (.agg (wrdM (bif two then xorG x y else andG x y)))) [] {}):∃hv hb,(bif two then goal_141 hv hb la lb (xorG x y) Q else goal_142 hv hb la lb (andG x y) Q):=by
 have ho:∀a,oldL a la=true:=fun a=>by rw[hla];exact old_wrd a _
 have hp:∀a,oldL a lb=true:=fun a=>by rw[hlb];exact old_wrd a _
 cases two with
 | true=>
  obtain ⟨hv',hb',e'⟩:∃hv hb,goal_141 hv hb la lb (xorG x y) Q=_:=⟨_,_,vc_141 la lb (xorG x y) Q⟩
  refine ⟨hv',hb',e'.mpr ?_⟩
  clear e'
  refine ⟨⟨(0,partM (xorG x y) 0),⟨Nat.zero_le _,rfl⟩,ckI (by simp) ⟨rfl,ckI (by simp) ⟨rfl,rfl,(part0 _).symm,rfl,rfl,rfl,rfl,rfl,trivial⟩⟩⟩, ?_⟩
  rintro ⟨i,l⟩ ⟨h1,h2⟩
  dsimp only at h1 h2
  dsimp only
  have hll:l.length=32:=by rw[h2];exact wrd_len _
  refine ⟨_,rfl,splitD (fun h3 => ?_) (fun h3 => ?_)⟩
  ·have hi:i<32:=by omega
   refine ⟨_,rfl,_,rfl,ldW hla rfl hi ⟨_,rfl,ldW hlb rfl hi (splitBo (fun hb => ?_) (fun hb => ?_))⟩⟩
   all_goals
    refine stW rfl hi hll ⟨_,rfl,wrapI (by omega) (by omega) ⟨by rw[ho 0,hp 0];rfl,⟨trivial,rfl⟩,(i+1,_),⟨hi,part_step _ h2 rfl hi hb.symm⟩,by show 32-(i+1)<32-i;omega,ckI (by simp) ⟨rfl,ckI (by simp) ⟨rfl,rfl,rfl,rfl,rfl,rfl,rfl,rfl,trivial⟩⟩⟩⟩
  ·obtain rfl:i=32:=by omega
   rw[part_end] at h2
   refine exitW rfl hll (by rw[h2];exact one_wrd _) (by rw[h2];exact old_wrd 0 _) (fun r=>Q (.ret (.agg r)) [] {}) ?_
   rw[h2];exact hq
 | false=>
  obtain ⟨hv',hb',e'⟩:∃hv hb,goal_142 hv hb la lb (andG x y) Q=_:=⟨_,_,vc_142 la lb (andG x y) Q⟩
  refine ⟨hv',hb',e'.mpr ?_⟩
  clear e'
  refine ⟨⟨(0,partM (andG x y) 0),⟨Nat.zero_le _,rfl⟩,ckI (by simp) ⟨rfl,ckI (by simp) ⟨rfl,rfl,(part0 _).symm,rfl,rfl,rfl,rfl,rfl,trivial⟩⟩⟩, ?_⟩
  rintro ⟨i,l⟩ ⟨h1,h2⟩
  dsimp only at h1 h2
  dsimp only
  have hll:l.length=32:=by rw[h2];exact wrd_len _
  refine ⟨_,rfl,splitD (fun h3 => ?_) (fun h3 => ?_)⟩
  ·have hi:i<32:=by omega
   refine ⟨_,rfl,_,rfl,ldW hla rfl hi (splitBo (fun hb=>⟨_,rfl,ldW hlb rfl hi (splitBo (fun hc => ?_) (fun hc => ?_))⟩) (fun hb => ?_))⟩
   ·have e:true=andG x y i:=by
     show true=(x.testBit (31-i)&&y.testBit (31-i))
     have hb':x.testBit (31-i)=true:=hb
     have hc':y.testBit (31-i)=true:=hc
     rw[hb',hc'];rfl
    exact stW rfl hi hll ⟨_,rfl,wrapI (by omega) (by omega) ⟨by rw[ho 0,hp 0];rfl,⟨trivial,rfl⟩,(i+1,_),⟨hi,part_step _ h2 rfl hi e⟩,by show 32-(i+1)<32-i;omega,ckI (by simp) ⟨rfl,ckI (by simp) ⟨rfl,rfl,rfl,rfl,rfl,rfl,rfl,rfl,trivial⟩⟩⟩⟩
   ·have e:false=andG x y i:=by
     show false=(x.testBit (31-i)&&y.testBit (31-i))
     have hc':y.testBit (31-i)=false:=hc
     rw[hc',Bool.and_false]
    exact stW rfl hi hll ⟨_,rfl,wrapI (by omega) (by omega) ⟨by rw[ho 0,hp 0];rfl,⟨trivial,rfl⟩,(i+1,_),⟨hi,part_step _ h2 rfl hi e⟩,by show 32-(i+1)<32-i;omega,ckI (by simp) ⟨rfl,ckI (by simp) ⟨rfl,rfl,rfl,rfl,rfl,rfl,rfl,rfl,trivial⟩⟩⟩⟩
   ·have e:false=andG x y i:=by
     show false=(x.testBit (31-i)&&y.testBit (31-i))
     have hb':x.testBit (31-i)=false:=hb
     rw[hb',Bool.false_and]
    exact stW rfl hi hll ⟨_,rfl,wrapI (by omega) (by omega) ⟨by rw[ho 0,hp 0];rfl,⟨trivial,rfl⟩,(i+1,_),⟨hi,part_step _ h2 rfl hi e⟩,by show 32-(i+1)<32-i;omega,ckI (by simp) ⟨rfl,ckI (by simp) ⟨rfl,rfl,rfl,rfl,rfl,rfl,rfl,rfl,trivial⟩⟩⟩⟩
  ·obtain rfl:i=32:=by omega
   rw[part_end] at h2
   refine exitW rfl hll (by rw[h2];exact one_wrd _) (by rw[h2];exact old_wrd 0 _) (fun r=>Q (.ret (.agg r)) [] {}) ?_
   rw[h2];exact hq
theorem trn0 (x k:Nat):trnM x k 0=List.replicate 32 (AV.bool false):=(wrd_ext fun j _=>by rw[decide_eq_false (by omega)];rfl:wrdM _=wrdM _).trans zer_wrd
theorem trn_step {x k i:Nat} (hk:k<32) (hi:i<32) {l:List AV} (hl:l=trnM x k i) {n:Int} (hn:n=((i+k)%32:Nat)):setRange l (0+n.toNat*1) [AV.bool (x.testBit (31-i))]=trnM x k (i+1):=by
 rw[set_wrd hl hn (Nat.mod_lt _ (by decide))]
 refine wrd_ext fun j hj => ?_
 by_cases h:j=(i+k)%32
 ·have:(j+32-k)%32=i:=by omega
  rw[if_pos h,this,decide_eq_true (by omega),Bool.true_and]
 ·have:(j+32-k)%32≠i:=by omega
  rw[if_neg h]
  by_cases h2:(j+32-k)%32<i
  ·rw[decide_eq_true h2,decide_eq_true (by omega)]
  ·rw[decide_eq_false h2,decide_eq_false (by omega)]
theorem turned_run (la:List AV) (x k:Nat) (hla:la=bitsM x) (hk:k<32) (Q:Out→List Blk→Gh→Prop) (hq:Q (.ret (.agg (trnM x k 32))) [] {}):∃hv hb,goal_139 hv hb la x k Q:=by
 obtain ⟨hv',hb',e'⟩:∃hv hb,goal_139 hv hb la x k Q=_:=⟨_,_,vc_139 la x k Q⟩
 refine ⟨hv',hb',e'.mpr ?_⟩
 clear e'
 have ho:∀a,oldL a la=true:=fun a=>by rw[hla];exact old_wrd a _
 refine ⟨⟨(0,trnM x k 0),⟨Nat.zero_le _,rfl⟩,ckI (by simp) ⟨rfl,rfl,(trn0 _ _).symm,rfl,rfl,rfl,rfl,rfl,trivial⟩⟩, ?_⟩
 rintro ⟨i,l⟩ ⟨h1,h2⟩
 dsimp only at h1 h2
 dsimp only
 have hll:l.length=32:=by rw[h2];exact wrd_len _
 refine ⟨_,rfl,splitD (fun h3 => ?_) (fun h3 => ?_)⟩
 ·have hi:i<32:=by omega
  have hm:(i+k)%32<32:=Nat.mod_lt _ (by decide)
  refine ⟨_,rfl,_,rfl,wrapI (by omega) (by omega) ⟨(((i+k)%32:Nat):Int),congrArg _ (by rw[Int.tmod_eq_emod_of_nonneg (by omega)];omega),_,rfl,ldW hla rfl hi ?_⟩⟩
  exact stW rfl hm hll ⟨_,rfl,wrapI (by omega) (by omega) ⟨by rw[ho 0];rfl,⟨trivial,rfl⟩,(i+1,_),⟨hi,trn_step hk hi h2 rfl⟩,by show 32-(i+1)<32-i;omega,ckI (by simp) ⟨rfl,rfl,rfl,rfl,rfl,rfl,rfl,rfl,trivial⟩⟩⟩
 ·obtain rfl:i=32:=by omega
  refine exitW rfl hll (by rw[h2];exact one_wrd _) (by rw[h2];exact old_wrd 0 _) (fun r=>Q (.ret (.agg r)) [] {}) ?_
  rw[h2];exact hq
theorem mov0 (x k:Nat):movM x k 0=List.replicate 32 (AV.bool false):=(wrd_ext fun j _=>by rw[decide_eq_false (by omega)];rfl:wrdM _=wrdM _).trans zer_wrd
theorem mov_step {x k i:Nat} (hi:i+k<32) {l:List AV} (hl:l=movM x k i) {n:Int} (hn:n=(i+k:Nat)):setRange l (0+n.toNat*1) [AV.bool (x.testBit (31-i))]=movM x k (i+1):=by
 rw[set_wrd hl hn hi]
 refine wrd_ext fun j hj => ?_
 by_cases h:j=i+k
 ·have:j-k=i:=by omega
  rw[if_pos h,this,decide_eq_true (by omega),Bool.true_and]
 ·rw[if_neg h]
  by_cases h2:k≤j∧j-k<i
  ·rw[decide_eq_true h2,decide_eq_true (by omega)]
  ·rw[decide_eq_false h2,decide_eq_false (by omega)]
theorem moved_run (la:List AV) (x k:Nat) (hla:la=bitsM x) (hk:k<32) (Q:Out→List Blk→Gh→Prop) (hq:Q (.ret (.agg (movM x k (32-k)))) [] {}):∃hv hb,goal_140 hv hb la x k Q:=by
 obtain ⟨hv',hb',e'⟩:∃hv hb,goal_140 hv hb la x k Q=_:=⟨_,_,vc_140 la x k Q⟩
 refine ⟨hv',hb',e'.mpr ?_⟩
 clear e'
 have ho:∀a,oldL a la=true:=fun a=>by rw[hla];exact old_wrd a _
 refine ⟨⟨(0,movM x k 0),⟨by show 0+k≤32;omega,rfl⟩,ckI (by simp) ⟨rfl,rfl,(mov0 _ _).symm,rfl,rfl,rfl,rfl,rfl,trivial⟩⟩, ?_⟩
 rintro ⟨i,l⟩ ⟨h1,h2⟩
 dsimp only at h1 h2
 dsimp only
 have hll:l.length=32:=by rw[h2];exact wrd_len _
 refine ⟨_,rfl,_,rfl,wrapI (by omega) (by omega) (splitD (fun h3 => ?_) (fun h3 => ?_))⟩
 ·have hi:i+k<32:=by omega
  refine ⟨_,rfl,_,rfl,wrapI (by omega) (by omega) ⟨_,rfl,ldW hla rfl (by omega:i<32) ?_⟩⟩
  exact stW (i:=i+k) (by omega) hi hll ⟨_,rfl,wrapI (by omega) (by omega) ⟨by rw[ho 0];rfl,⟨trivial,rfl⟩,(i+1,_),⟨by show i+1+k≤32;omega,mov_step hi h2 (by omega)⟩,by show 32-(i+1)<32-i;omega,ckI (by simp) ⟨rfl,rfl,rfl,rfl,rfl,rfl,rfl,rfl,trivial⟩⟩⟩
 ·obtain rfl:i=32-k:=by omega
  refine exitW rfl hll (by rw[h2];exact one_wrd _) (by rw[h2];exact old_wrd 0 _) (fun r=>Q (.ret (.agg r)) [] {}) ?_
  rw[h2];exact hq
theorem wd0 (x:Nat):wdM x 0=List.replicate 32 (AV.bool false):=(wrd_ext fun j _=>by rw[decide_eq_false (by omega)];rfl:wrdM _=wrdM _).trans zer_wrd
theorem wd_step {x c:Nat} (hc:c<32) {l:List AV} (hl:l=wdM x c) {n:Int} (hn:n=(31-c:Nat)) {b:Bool} (hb:b=x.testBit c):setRange l (0+n.toNat*1) [AV.bool b]=wdM x (c+1):=by
 rw[set_wrd hl hn (by omega)]
 refine wrd_ext fun j hj => ?_
 by_cases h:j=31-c
 ·have:31-j=c:=by omega
  rw[if_pos h,this,decide_eq_true (by omega),Bool.true_and,hb]
 ·rw[if_neg h]
  by_cases h2:31<j+c
  ·rw[decide_eq_true h2,decide_eq_true (by omega)]
  ·rw[decide_eq_false h2,decide_eq_false (by omega)]
theorem wd_end (x:Nat):wdM x 32=bitsM x:=wrd_ext fun j hj=>by rw[decide_eq_true (by omega),Bool.true_and]
theorem div_le (x c:Nat):x/2^c≤x:=Nat.div_le_self _ _
theorem word_run (x:Nat) (hx:x<4294967296) (Q:Out→List Blk→Gh→Prop) (hq:Q (.ret (.agg (bitsM x))) [] {}):∃hv hb,goal_135 hv hb x Q:=by
 obtain ⟨hv',hb',e'⟩:∃hv hb,goal_135 hv hb x Q=_:=⟨_,_,vc_135 x Q⟩
 refine ⟨hv',hb',e'.mpr ?_⟩
 clear e'
 refine ⟨⟨(0,wdM x 0),⟨Nat.zero_le _,rfl⟩,rfl,(wd0 _).symm,by simp,rfl,rfl,rfl,trivial⟩, ?_⟩
 rintro ⟨c,l⟩ ⟨h1,h2⟩
 dsimp only at h1 h2
 dsimp only
 have hll:l.length=32:=by rw[h2];exact wrd_len _
 refine ⟨_,rfl,splitD (fun h3 => ?_) (fun h3 => ?_)⟩
 ·have hc:c<32:=by omega
  have hd:=div_le x c
  have he:=Nat.testBit_eq_decide_div_mod_eq (x:=x) (i:=c)
  have hz:x/2^(c+1)=x/2^c/2:=by rw[Nat.pow_succ,Nat.div_div_eq_div_mul]
  have fin:∀z:Nat,x/2^(c+1)=z→AV.int .i64 (z:Int)=AV.int .i64 ((x/2^(c+1):Nat):Int):=fun z h=>by rw[h]
  generalize x/2^c=y at *
  have tm:Int.tmod (y:Int) 2=((y%2:Nat):Int):=by rw[Int.tmod_eq_emod_of_nonneg (by omega)];omega
  have td:Int.tdiv (y:Int) 2=((y/2:Nat):Int):=by rw[Int.tdiv_eq_ediv_of_nonneg (by omega)];omega
  refine ⟨_,rfl,_,rfl,((y%2:Nat):Int),congrArg _ tm,splitBo (fun hb => ?_) (fun hb => ?_)⟩
  ·have e:true=x.testBit c:=by
    rw[he]
    rw[beq_iff_eq] at hb
    exact (decide_eq_true (by omega)).symm
   refine stW (i:=31-c) (by omega) (by omega) hll ⟨_,rfl, ?_⟩
   try dsimp only
   rw[td]
   exact wrapI (by omega) (by omega) ⟨_,rfl,wrapI (by omega) (by omega) ⟨⟨trivial,rfl⟩,(c+1,_),⟨hc,wd_step hc h2 (by omega) e⟩,by show 32-(c+1)<32-c;omega,rfl,rfl,fin _ hz,rfl,rfl,congrArg _ (by show _=31-((c+1:Nat):Int);omega),trivial⟩⟩
  ·have e:false=x.testBit c:=by
    rw[he]
    rw[beq_eq_false_iff_ne] at hb
    exact (decide_eq_false (by omega)).symm
   refine stW (i:=31-c) (by omega) (by omega) hll ⟨_,rfl, ?_⟩
   try dsimp only
   rw[td]
   exact wrapI (by omega) (by omega) ⟨_,rfl,wrapI (by omega) (by omega) ⟨⟨trivial,rfl⟩,(c+1,_),⟨hc,wd_step hc h2 (by omega) e⟩,by show 32-(c+1)<32-c;omega,rfl,rfl,fin _ hz,rfl,rfl,congrArg _ (by show _=31-((c+1:Nat):Int);omega),trivial⟩⟩
 ·obtain rfl:c=32:=by omega
  rw[wd_end] at h2
  refine exitW rfl hll (by rw[h2];exact one_wrd _) (by rw[h2];exact old_wrd 0 _) (fun r=>Q (.ret (.agg r)) [] {}) ?_
  rw[h2];exact hq
theorem value_run (la:List AV) (x:Nat) (hla:la=bitsM x) (hx:x<4294967296) (Q:Out→List Blk→Gh→Prop) (hq:Q (.ret (.int .i64 (x:Nat))) [] {}):∃hv hb,goal_137 hv hb la x Q:=by
 obtain ⟨hv',hb',e'⟩:∃hv hb,goal_137 hv hb la x Q=_:=⟨_,_,vc_137 la x Q⟩
 refine ⟨hv',hb',e'.mpr ?_⟩
 clear e'
 have ho:∀a,oldL a la=true:=fun a=>by rw[hla];exact old_wrd a _
 have hz:x/2^32=0:=Nat.div_eq_of_lt hx
 refine ⟨⟨0,⟨Nat.zero_le _⟩,ckI (by simp) ⟨rfl,rfl,congrArg _ (by rw[show 32-0=32 from rfl,hz];rfl),rfl,trivial⟩⟩, ?_⟩
 rintro i ⟨h1⟩
 refine ⟨_,rfl,splitD (fun h3 => ?_) (fun h3 => ?_)⟩
 ·have hi:i<32:=by omega
  have hd2:=div_le x (31-i)
  have hh:x/2^(32-i)=x/2^(31-i)/2:=by rw[show 32-i=(31-i)+1 by omega,Nat.pow_succ,Nat.div_div_eq_div_mul]
  have he:=Nat.testBit_eq_decide_div_mod_eq (x:=x) (i:=31-i)
  have fin:∀z:Int,z=((x/2^(31-i):Nat):Int)→AV.int .i64 z=AV.int .i64 ((x/2^(32-(i+1)):Nat):Int):=fun z h=>by rw[h,show 32-(i+1)=31-i by omega]
  rw[hh]
  generalize x/2^(31-i)=y at *
  refine ⟨_,rfl,wrapI (by omega) (by omega) ⟨_,rfl,ldW hla rfl hi (splitBo (fun hb => ?_) (fun hb => ?_))⟩⟩
  ·have e:x.testBit (31-i)=true:=hb
   rw[he,decide_eq_true_eq] at e
   exact wrapI (by omega) (by omega) ⟨_,rfl,wrapI (by omega) (by omega) ⟨by rw[ho 0];rfl,⟨trivial,rfl⟩,i+1,⟨hi⟩,by omega,ckI (by simp) ⟨rfl,rfl,fin _ (by omega),rfl,trivial⟩⟩⟩
  ·have e:x.testBit (31-i)=false:=hb
   rw[he,decide_eq_false_iff_not] at e
   exact ⟨_,rfl,wrapI (by omega) (by omega) ⟨by rw[ho 0];rfl,⟨trivial,rfl⟩,i+1,⟨hi⟩,by omega,ckI (by simp) ⟨rfl,rfl,fin _ (by omega),rfl,trivial⟩⟩⟩
 ·obtain rfl:i=32:=by omega
  refine ⟨_,rfl, ?_⟩
  rw[show 32-32=0 from rfl,Nat.pow_zero,Nat.div_one]
  exact hq
end Go.Proofs.YtjenieljapmehaaGreatDoor
