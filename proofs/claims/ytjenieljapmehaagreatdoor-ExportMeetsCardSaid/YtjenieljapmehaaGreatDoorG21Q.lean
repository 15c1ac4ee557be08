/-
  Chapter 21: the digest's code: the key with an octet (the closure of mac), mac.
-/
import Derived.Test.YtjenieljapmehaaGreatDoorGmC
set_option linter.unusedSimpArgs false
set_option linter.unusedVariables false
set_option linter.unusedSectionVars false
namespace Go.Proofs.YtjenieljapmehaaGreatDoor
open Go.RowKit
set_option maxRecDepth 1000000

def startW:W8:=⟨1779033703,3144134277,1013904242,2773480762,1359893119,2600822924,528734635,1541459225⟩
theorem kk_ok:okK kkM:=⟨rfl,fun i=>by
 by_cases h:i<64
 ·have:∀j:Fin 64,kkM.getD j 0<4294967296:=by decide
  exact this ⟨i,h⟩
 ·rw[List.getD_eq_getElem?_getD,List.getElem?_eq_none (by show 64≤i;omega)]
  decide⟩
theorem start_ok:okW8 startW:=by unfold startW;decide
theorem octs_len (v:W8):(octs8 v).length=32:=rfl
theorem sumL_len (kk:List Nat) (st:W8) (l:List (List UInt8)):(sumLM kk st l).length=32:=octs_len _

abbrev minN (a b:Nat):Nat:=min a b
def x8M (a:UInt8) (n:Nat):UInt8:=a ^^^ UInt8.ofNat n
def padKM (key:List UInt8):List UInt8:=key++List.replicate (64-key.length) 0
def wthM (c:Nat) (p:List UInt8) (i:Nat):List UInt8:=(p.take i).map (x8M · c)++p.drop i
def withM (c:Nat) (key:List UInt8):List UInt8:=(padKM key).map (x8M · c)
abbrev zer64:List AV:=List.replicate 64 (AV.int .u8 0)
def inv_53 (key:List UInt8) (c:Nat) (s:S):List (List LInv):=match s.hp with
 | [b0,⟨k,f,_⟩]=>[[{ α:=Nat,pre:=fun i=>Lf (i≤64),st:=fun i=>⟨mkT [(0,s.tm.get 0),(4,s.tm.get 4),(11,s.tm.get 11),(12,.int .i64 (i:Nat))],[b0,⟨k,f,ofBytes (wthM c (padKM key) i)⟩]⟩,mu:=fun i=>64-i }]]
 | _=>[]
noncomputable def env_53 (hv:Nat→Option Pa) (hb:Nat→Option Bool) (key:List UInt8) (c:Nat):Env:=e18 sm0 (fun i=>bif Nat.beq i 93000 then some (inv_53 key c) else none) hv hb
noncomputable def goal_53 (hv:Nat→Option Pa) (hb:Nat→Option Bool) (key:List UInt8) (c:Nat) (Q:Out→List Blk→Gh→Prop):Prop:=
 callx (env_53 hv hb key c) (wpx (env_53 hv hb key c) 1000) 93 [.int .u8 (c:Nat),.ptr 0 1 0] [⟨.exact,true,[.str key]⟩] {} Q
theorem vc_53 (key:List UInt8) (c:Nat) (Q:Out→List Blk→Gh→Prop):goal_53 (lookV [(380937,.int .i64),(380942,.int .i64),(380946,.int .u8),(380947,.int .u8),(380948,.int .u8),(380950,.int .i64),(380952,.str)]) (lookB
 [(1380928000,true)]) key c Q=(ckQ (oneL (ofBytes key)) (exI .i64 (minN key.length 64:Int) fun n_0=>ckQ (Nat.beq (setRange zer64 0 ((ofBytes key).take (minN key.length 64*1))).length 64) ((∃x_1:Nat,Lf (x_1≤64)∧eqqQ [AV.str
 key]∧ckQ (oldL 0 ((ofBytes key).take (minN key.length 64*1))==oldL 0 ((ofBytes key).take (minN key.length 64*1))) (setRange zer64 0 ((ofBytes key).take (minN key.length 64*1))=ofBytes (wthM c (padKM key) x_1)∧eqqQ (AV.int .u8
 (c:Int))∧eqqQ (AV.int .i64 64)∧eqqQ (AV.sl 1 64 0 64 1)∧AV.int .i64 0=AV.int .i64 (x_1:Int)∧True))∧∀x_1:Nat,Lf (x_1≤64)→bif decide ((x_1:Int)<64) then exI .i64 (x_1:Int) fun n_2=>ckQ (decide (0≤n_2) &&
 Nat.blt n_2.toNat 64&&Nat.beq (ofBytes (wthM c (padKM key) x_1)).length 64&&true) (ckQ (Nat.beq (ofBytes (wthM c (padKM key) x_1)).length 64&&Nat.blt (0+n_2.toNat*1) 64) (exV .u8 ((((ofBytes (wthM c (padKM key) x_1)).drop (0 +
 n_2.toNat*1)).take 1).getD 0 AV.undef) fun n_3=>exI .u8 (c:Int) fun n_4=>exW .u8 (((n_3%256).toNat ^^^ (n_4%256).toNat:Nat):Int) fun n_5=>ckQ (decide (0≤n_2)&&Nat.blt n_2.toNat 64&&Nat.beq (ofBytes (wthM c (padKM
 key) x_1)).length 64&&true) (ckQ (Nat.beq (ofBytes (wthM c (padKM key) x_1)).length 64&&Nat.ble (0+n_2.toNat*1+1) 64&&true&&true&&true) (exW .i64 ((x_1:Int)+1) fun n_6=>((oldL 0 ((ofBytes key).take (minN key.length 64
 * 1))&&true||oldL 2 (setRange (ofBytes (wthM c (padKM key) x_1)) (0+n_2.toNat*1) [.int .u8 n_5]))&&true)=true∧(True∧(0:Nat)=(0:Nat))∧∃y_7:Nat,Lf (y_7≤64)∧64-y_7<64-x_1∧eqqQ [AV.str key]∧ckQ ((oldL
 0 ((ofBytes key).take (minN key.length 64*1))&&true)==oldL 0 ((ofBytes key).take (minN key.length 64*1))) (setRange (ofBytes (wthM c (padKM key) x_1)) (0+n_2.toNat*1) [.int .u8 n_5]=ofBytes (wthM c (padKM key) y_7)∧eqqQ
 (AV.int .u8 (c:Int))∧eqqQ (AV.int .i64 64)∧eqqQ (AV.sl 1 64 0 64 1)∧AV.int .i64 n_6=AV.int .i64 (y_7:Int)∧True))))) else ckQ (Nat.beq (ofBytes (wthM c (padKM key) x_1)).length 64&&true&&true&&allU8 (((ofBytes (wthM c
 (padKM key) x_1)).drop 0).take 64)) (exS (.str (List.map toB (((ofBytes (wthM c (padKM key) x_1)).drop 0).take 64))) fun s_2=>Q (.ret (.str s_2)) [Blk.mk BK.exact true [.str key]] {})))):=by kernel_rfl

end Go.Proofs.YtjenieljapmehaaGreatDoor
