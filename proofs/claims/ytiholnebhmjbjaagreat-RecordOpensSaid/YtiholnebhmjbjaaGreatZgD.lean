/-
  Chapter 4: the reference's Tag.
-/
import Derived.Test.YtiholnebhmjbjaaGreatZ4RE
set_option linter.unusedSimpArgs false
set_option linter.unusedVariables false
set_option linter.unusedSectionVars false
namespace Go.Proofs.YtiholnebhmjbjaaGreat
open Go.RowKit
set_option maxRecDepth 1000000

def fam30 (t:List UInt8) (hp:List Blk) (n:Nat):List (List LInv):=[[
 { α:=Nat,pre:=fun p=>Lf (p=0),st:=fun p=>⟨mkT [(0,.str t),(3,.nils),(4,.int .i64 (p:Nat))],hp⟩,mu:=fun _=>t.length+1 },
 { α:=Nat,pre:=fun i=>Lf (1≤i∧i≤t.length),st:=fun i=>⟨mkT [(0,.str t),(3,.sl n i 0 i 1),(4,.int .i64 (i:Nat))],hp++[⟨.grow,true,cellsNM (numsM (t.take i))⟩]⟩,mu:=fun i=>t.length-i }]]
def inv_30s (s:S):List (List LInv):=match s.tm.get 0,s.hp with
 | .str t,[]=>fam30 t [] 0
 | .str t,[b]=>fam30 t [b] 1
 | _,_=>[]
def mskNM (l:List Nat) (i:Nat):List Nat:=if i%4=3 then l.set i (l.getD i 0%16) else if i%4=0∧0<i then l.set i (l.getD i 0/4*4) else l
def clampNM:Nat→List Nat→List Nat
 | 0,l=>l
 | i+1,l=>mskNM (clampNM i l) i
def inv_13a (s:S):List (List LInv):=match s.tm.get 0 with
 | .str k=>[[{ α:=Nat,pre:=fun i=>Lf (i≤16),st:=fun i=>⟨mkT [(0,s.tm.get 0),(1,s.tm.get 1),(5,.sl 0 16 0 16 1),(6,.int .i64 (i:Nat))],[⟨.grow,true,cellsNM (clampNM i (numsM (k.take 16)))⟩]⟩,mu:=fun i=>16-i }]]
 | _=>[]
def inv_13c (s:S):List (List LInv):=match s.tm.get 0,s.tm.get 1 with
 | .str k,.str t=>[[{ α:=Nat×List Nat,pre:=fun x=>Lf ((∀j,x.2.getD j 0≤255)∧x.2.length≤18∧x.1≤t.length∧polyM (valNM (clampNM 16 (numsM (k.take 16)))) (t.length-x.1) (valNM x.2) (t.drop (16*x.1))=polyM (valNM (clampNM 16 (numsM (k.take 16)))) t.length 0 t),st:=fun x=>⟨mkT [(0,s.tm.get 0),(1,s.tm.get 1),(5,s.tm.get 5),(7,.lst 0 (cellsNM x.2) x.2.length 1),(8,.int .i64 ((16*x.1:Nat):Int))],s.hp⟩,mu:=fun x=>t.length-x.1 }]]
 | _,_=>[]
def outNM (l:List Nat) (i:Nat):List UInt8:=(l.take i).map UInt8.ofNat++List.replicate (16-i) 0
def inv_13e (s:S):List (List LInv):=match s.tm.get 7,s.hp with
 | .lst _ cs n _,[b0,b1,⟨k,f,_⟩]=>[[{ α:=Nat×List Nat,pre:=fun x=>Lf (x.1≤16∧x.1≤x.2.length∧cs=cellsNM x.2∧n=x.2.length),st:=fun x=>⟨mkT [(7,s.tm.get 7),(9,s.tm.get 9),(10,.int .i64 (x.1:Nat))],[b0,b1,⟨k,f,ofBytes (outNM x.2 x.1)⟩]⟩,mu:=fun x=>16-x.1 }]]
 | _,_=>[]
def smT:SM:=lookS [(86,cRestV),(87,cProdV),(88,cSumV)]
theorem smT_ok:∀f g,smT f=some g→ValidF Tryz.prog gl0 f g:=lookS_ok _ (by simp only[List.mem_cons,List.not_mem_nil,or_false,forall_eq_or_imp,forall_eq];exact ⟨rest_ok,prod_ok,sum_ok⟩)
noncomputable def env_13f (hv:Nat→Option Pa) (hb:Nat→Option Bool):Env:=
 { e04 smT (fun i=>bif Nat.beq i 85000 then some inv_30s else bif Nat.beq i 60000 then some inv_13a else bif Nat.beq i 60002 then some inv_13c else bif Nat.beq i 60004 then some inv_13e else none) hv hb with hz:=fun k=>Nat.beq k 348176||Nat.beq k 245805||Nat.beq k 245822 }
theorem envFor_13 (hv:Nat→Option Pa) (hb:Nat→Option Bool):EnvFor Tryz.prog (env_13f hv hb):=⟨mixed04,names04,tabA_ok,smT_ok⟩
noncomputable def goal_13f (hv:Nat→Option Pa) (hb:Nat→Option Bool) (key s:List UInt8) (Q:Out→List Blk→Gh→Prop):Prop:=
 callx (env_13f hv hb) (wpx (env_13f hv hb) 1000) 60 [.str key,.str s] [] {} Q
def vc_13_1 (key:List UInt8) (s:List UInt8) (Q:Out→List Blk→Gh→Prop):Prop:=
∀x_0:Nat,Lf (x_0≤16)→bif decide ((x_0:Int)<16) then exI .i64 ((x_0:Int).tmod 4) fun n_1=>bif n_1==3 then ckQ (Nat.blt (x_0:Int).toNat 16&&Nat.beq (cellsNM (clampNM x_0 (numsM (key.take 16)))).length 16&&true) (ckQ
 (Nat.beq (cellsNM (clampNM x_0 (numsM (key.take 16)))).length 16&&Nat.blt (0+(x_0:Int).toNat*1) 16) (exV .i64 ((((cellsNM (clampNM x_0 (numsM (key.take 16)))).drop (0+(x_0:Int).toNat*1)).take 1).getD 0 AV.undef) fun n_2=>
 exI .i64 (n_2.tmod 16) fun n_3=>ckQ (Nat.blt (x_0:Int).toNat 16&&Nat.beq (cellsNM (clampNM x_0 (numsM (key.take 16)))).length 16&&true) (ckQ (Nat.beq (cellsNM (clampNM x_0 (numsM (key.take 16)))).length 16&&Nat.ble (0+(x_0 :
 Int).toNat*1+1) 16&&true&&true&&true) (exI .i64 ((x_0:Int).tmod 4) fun n_4=>bif n_4==0 then bif decide ((x_0:Int)>0) then ckQ (Nat.blt (x_0:Int).toNat 16&&Nat.beq (setRange (cellsNM (clampNM x_0 (numsM (key.take
 16)))) (0+(x_0:Int).toNat*1) [.int .i64 n_3]).length 16&&true) (ckQ (Nat.beq (setRange (cellsNM (clampNM x_0 (numsM (key.take 16)))) (0+(x_0:Int).toNat*1) [.int .i64 n_3]).length 16&&Nat.blt (0+(x_0:Int).toNat*1) 16)
 (exV .i64 ((((setRange (cellsNM (clampNM x_0 (numsM (key.take 16)))) (0+(x_0:Int).toNat*1) [.int .i64 n_3]).drop (0+(x_0:Int).toNat*1)).take 1).getD 0 AV.undef) fun n_5=>exW .i64 (n_5.tdiv 4) fun n_6=>exW .i64 (n_6*4) fun
 n_7=>ckQ (Nat.blt (x_0:Int).toNat 16&&Nat.beq (setRange (cellsNM (clampNM x_0 (numsM (key.take 16)))) (0+(x_0:Int).toNat*1) [.int .i64 n_3]).length 16&&true) (ckQ (Nat.beq (setRange (cellsNM (clampNM x_0 (numsM (key.take
 16)))) (0+(x_0:Int).toNat*1) [.int .i64 n_3]).length 16&&Nat.ble (0+(x_0:Int).toNat*1+1) 16&&true&&true&&true) (exW .i64 ((x_0:Int)+1) fun n_8=>(True∧(0:Nat)=(0:Nat))∧∃y_9:Nat,Lf (y_9≤16)∧16 -
 y_9<16-x_0∧setRange (setRange (cellsNM (clampNM x_0 (numsM (key.take 16)))) (0+(x_0:Int).toNat*1) [.int .i64 n_3]) (0+(x_0:Int).toNat*1) [.int .i64 n_7]=cellsNM (clampNM y_9 (numsM (key.take 16)))∧eqqQ (AV.str key) ∧
 eqqQ (AV.str s)∧eqqQ (AV.sl 0 16 0 16 1)∧AV.int .i64 n_8=AV.int .i64 (y_9:Int)∧True)))) else exW .i64 ((x_0:Int)+1) fun n_5=>(True∧(0:Nat)=(0:Nat))∧∃y_6:Nat,Lf (y_6≤16)∧16-y_6<16-x_0∧setRange
 (cellsNM (clampNM x_0 (numsM (key.take 16)))) (0+(x_0:Int).toNat*1) [.int .i64 n_3]=cellsNM (clampNM y_6 (numsM (key.take 16)))∧eqqQ (AV.str key)∧eqqQ (AV.str s)∧eqqQ (AV.sl 0 16 0 16 1)∧AV.int .i64 n_5=AV.int .i64 (y_6 :
 Int)∧True else exW .i64 ((x_0:Int)+1) fun n_5=>(True∧(0:Nat)=(0:Nat))∧∃y_6:Nat,Lf (y_6≤16)∧16-y_6<16-x_0∧setRange (cellsNM (clampNM x_0 (numsM (key.take 16)))) (0+(x_0:Int).toNat*1) [.int .i64 n_3] =
 cellsNM (clampNM y_6 (numsM (key.take 16)))∧eqqQ (AV.str key)∧eqqQ (AV.str s)∧eqqQ (AV.sl 0 16 0 16 1)∧AV.int .i64 n_5=AV.int .i64 (y_6:Int)∧True)))) else exI .i64 ((x_0:Int).tmod 4) fun n_2=>bif n_2==0 then bif decide
 ((x_0:Int)>0) then ckQ (Nat.blt (x_0:Int).toNat 16&&Nat.beq (cellsNM (clampNM x_0 (numsM (key.take 16)))).length 16&&true) (ckQ (Nat.beq (cellsNM (clampNM x_0 (numsM (key.take 16)))).length 16&&Nat.blt (0+(x_0:Int).toNat *
 1) 16) (exV .i64 ((((cellsNM (clampNM x_0 (numsM (key.take 16)))).drop (0+(x_0:Int).toNat*1)).take 1).getD 0 AV.undef) fun n_3=>exW .i64 (n_3.tdiv 4) fun n_4=>exW .i64 (n_4*4) fun n_5=>ckQ (Nat.blt (x_0:Int).toNat 16 &&
 Nat.beq (cellsNM (clampNM x_0 (numsM (key.take 16)))).length 16&&true) (ckQ (Nat.beq (cellsNM (clampNM x_0 (numsM (key.take 16)))).length 16&&Nat.ble (0+(x_0:Int).toNat*1+1) 16&&true&&true&&true) (exW .i64 ((x_0:Int) +
 1) fun n_6=>(True∧(0:Nat)=(0:Nat))∧∃y_7:Nat,Lf (y_7≤16)∧16-y_7<16-x_0∧setRange (cellsNM (clampNM x_0 (numsM (key.take 16)))) (0+(x_0:Int).toNat*1) [.int .i64 n_5]=cellsNM (clampNM y_7 (numsM (key.take
 16)))∧eqqQ (AV.str key)∧eqqQ (AV.str s)∧eqqQ (AV.sl 0 16 0 16 1)∧AV.int .i64 n_6=AV.int .i64 (y_7:Int)∧True)))) else exW .i64 ((x_0:Int)+1) fun n_3=>(True∧(0:Nat)=(0:Nat))∧∃y_4:Nat,Lf (y_4≤16)∧16-y_4
 < 16-x_0∧cellsNM (clampNM x_0 (numsM (key.take 16)))=cellsNM (clampNM y_4 (numsM (key.take 16)))∧eqqQ (AV.str key)∧eqqQ (AV.str s)∧eqqQ (AV.sl 0 16 0 16 1)∧AV.int .i64 n_3=AV.int .i64 (y_4:Int)∧True else exW .i64 ((x_0
 : Int)+1) fun n_3=>(True∧(0:Nat)=(0:Nat))∧∃y_4:Nat,Lf (y_4≤16)∧16-y_4<16-x_0∧cellsNM (clampNM x_0 (numsM (key.take 16)))=cellsNM (clampNM y_4 (numsM (key.take 16)))∧eqqQ (AV.str key)∧eqqQ (AV.str s) ∧
 eqqQ (AV.sl 0 16 0 16 1)∧AV.int .i64 n_3=AV.int .i64 (y_4:Int)∧True else (∃x_1:Nat×List Nat,Lf ((∀j_2:Nat,x_1.2.getD j_2 0≤255)∧x_1.2.length≤18∧x_1.1≤s.length∧polyM (valNM (clampNM 16 (numsM (key.take 16))))
 (s.length-x_1.1) (valNM x_1.2) (s.drop (16*x_1.1))=polyM (valNM (clampNM 16 (numsM (key.take 16)))) s.length 0 s)∧eqqQ (cellsNM (clampNM x_0 (numsM (key.take 16))))∧eqqQ (AV.str key)∧eqqQ (AV.str s)∧AV.lst 0 [.int .i64 0] 1 1
 = AV.lst 0 (cellsNM x_1.2) x_1.2.length 1∧eqqQ (AV.sl 0 16 0 16 1)∧AV.int .i64 0=AV.int .i64 ((16*x_1.1:Nat):Int)∧True)∧∀x_1:Nat×List Nat,Lf ((∀j_2:Nat,x_1.2.getD j_2 0≤255)∧x_1.2.length≤18∧x_1.1 ≤
 s.length∧polyM (valNM (clampNM 16 (numsM (key.take 16)))) (s.length-x_1.1) (valNM x_1.2) (s.drop (16*x_1.1))=polyM (valNM (clampNM 16 (numsM (key.take 16)))) s.length 0 s)→exI .i64 ((16*x_1.1:Nat):Int) fun n_2=>exI .i64
 (s.length:Int) fun n_3=>bif decide (n_2<n_3) then exI .i64 ((16*x_1.1:Nat):Int) fun n_4=>exI .i64 ((16*x_1.1:Nat):Int) fun n_5=>exW .i64 (n_5+16) fun n_6=>exI .i64 (s.length:Int) fun n_7=>exI .i64 (imin n_6
 n_7) fun n_8=>ckQ (decide (0≤n_4)&&decide (0≤n_8)&&Nat.ble n_4.toNat n_8.toNat&&Nat.ble n_8.toNat s.length) (exS (.str ((s.drop n_4.toNat).take (n_8.toNat-n_4.toNat))) fun s_9=>((∃x_10:Nat,Lf (x_10=0)∧eqqQ (cellsNM
 (clampNM x_0 (numsM (key.take 16))))∧eqqQ (AV.str s_9)∧AV.nils=AV.nils∧AV.int .i64 0=AV.int .i64 (x_10:Int)∧True)∨∃x_10:Nat,Lf (1≤x_10∧x_10≤s_9.length)∧eqqQ (cellsNM (clampNM x_0 (numsM (key.take 16))))∧False)
 ∧ (∀x_10:Nat,Lf (x_10=0)→exI .i64 (s_9.length:Int) fun n_11=>bif decide ((x_10:Int)<n_11) then ckQ (Nat.blt (x_10:Int).toNat s_9.length) (exI .u8 (UInt8.toNat (s_9.getD (x_10:Int).toNat (UInt8.ofNat 0)):Int) fun n_12
 => exW .i64 n_12 fun n_13=>exW .i64 ((x_10:Int)+1) fun n_14=>(True∧(0:Nat)=(0:Nat))∧((∃y_15:Nat,Lf (y_15=0)∧s_9.length+1<s_9.length+1∧eqqQ (cellsNM (clampNM x_0 (numsM (key.take 16))))∧False)∨∃y_15 :
 Nat,Lf (1≤y_15∧y_15≤s_9.length)∧s_9.length-y_15<s_9.length+1∧eqqQ (cellsNM (clampNM x_0 (numsM (key.take 16))))∧[AV.int .i64 n_13]=cellsNM (numsM (s_9.take y_15))∧eqqQ (AV.str s_9)∧AV.sl 1 1 0 1 1=AV.sl 1 y_15 0
 y_15 1∧AV.int .i64 n_14=AV.int .i64 (y_15:Int)∧True)) else ∃a_12 b_13:List Nat,Lf (numK 0 (cellsNM x_1.2) x_1.2.length a_12∧numK 1 [.int .i64 1] 1 b_13)∧∀l_14:List Nat,Lf (valNM l_14=valNM a_12+valNM b_13∧(∀j_15
 : Nat,l_14.getD j_15 0≤255)∧l_14.length≤Max.max a_12.length b_13.length+1∧(l_14.length≤Max.max a_12.length b_13.length∨(256:Nat)^Max.max a_12.length b_13.length≤valNM l_14))→ckQ (Nat.beq (cellsNM (clampNM x_0 (numsM
 (key.take 16)))).length 16&&true&&true) (∃a_15 b_16:List Nat,Lf (numK 0 (cellsNM l_14) l_14.length a_15∧numK 1 (List.map (fun (x_17:AV)=>frzV 1 [Blk.mk BK.grow true (cellsNM (clampNM x_0 (numsM (key.take 16)))),Blk.mk
 BK.grow true [.int .i64 1]] 8 x_17) (((cellsNM (clampNM x_0 (numsM (key.take 16)))).drop 0).take 16)) 16 b_16∧a_15.length≤1000∧b_16.length≤1000)∧∀l_17:List Nat,Lf (valNM l_17=valNM a_15*valNM b_16∧(∀j_18:Nat,
 l_17.getD j_18 0≤255)∧l_17.length=a_15.length+b_16.length+1)→∃a_18:List Nat,Lf (numK 0 (cellsNM l_17) l_17.length a_18)∧∀l_19:List Nat,Lf (valNM l_19=valNM a_18%pM∧(∀j_20:Nat,l_19.getD j_20 0≤255) ∧
 l_19.length≤18)→exI .i64 ((16*x_1.1:Nat):Int) fun n_20=>exW .i64 (n_20+16) fun n_21=>(True∧(0:Nat)=(0:Nat))∧∃y_22:Nat×List Nat,Lf ((∀j_23:Nat,y_22.2.getD j_23 0≤255)∧y_22.2.length≤18∧y_22.1 ≤
 s.length∧polyM (valNM (clampNM 16 (numsM (key.take 16)))) (s.length-y_22.1) (valNM y_22.2) (s.drop (16*y_22.1))=polyM (valNM (clampNM 16 (numsM (key.take 16)))) s.length 0 s)∧s.length-y_22.1<s.length-x_1.1∧eqqQ (cellsNM
 (clampNM x_0 (numsM (key.take 16))))∧eqqQ (AV.str key)∧eqqQ (AV.str s)∧AV.lst 0 (cellsNM l_19) l_19.length 1=AV.lst 0 (cellsNM y_22.2) y_22.2.length 1∧eqqQ (AV.sl 0 16 0 16 1)∧AV.int .i64 n_21=AV.int .i64 ((16*y_22.1:Nat)
 : Int)∧True))∧∀x_10:Nat,Lf (1≤x_10∧x_10≤s_9.length)→exI .i64 (s_9.length:Int) fun n_11=>bif decide ((x_10:Int)<n_11) then ckQ (Nat.blt (x_10:Int).toNat s_9.length) (exI .u8 (UInt8.toNat (s_9.getD (x_10 :
 Int).toNat (UInt8.ofNat 0)):Int) fun n_12=>exW .i64 n_12 fun n_13=>ckQ (Nat.beq (cellsNM (numsM (s_9.take x_10))).length x_10&&true&&Nat.beq (0+x_10*1) x_10&&Nat.ble (x_10+1) 1099511627776&&Nat.ble ((x_10+1)*8)
 1099511627776) (exW .i64 ((x_10:Int)+1) fun n_14=>(True∧(0:Nat)=(0:Nat))∧((∃y_15:Nat,Lf (y_15=0)∧s_9.length+1<s_9.length-x_10∧eqqQ (cellsNM (clampNM x_0 (numsM (key.take 16))))∧False)∨∃y_15:Nat,Lf (1
 ≤ y_15∧y_15≤s_9.length)∧s_9.length-y_15<s_9.length-x_10∧eqqQ (cellsNM (clampNM x_0 (numsM (key.take 16))))∧cellsNM (numsM (s_9.take x_10))++[AV.int .i64 n_13]=cellsNM (numsM (s_9.take y_15))∧eqqQ (AV.str s_9)∧AV.sl
 1 (x_10+1) 0 (x_10+1) 1=AV.sl 1 y_15 0 y_15 1∧AV.int .i64 n_14=AV.int .i64 (y_15:Int)∧True))) else ckQ (Nat.beq (cellsNM (numsM (s_9.take x_10))).length x_10&&true&&Nat.beq (0+x_10*1) x_10&&Nat.ble (x_10+1)
 1099511627776&&Nat.ble ((x_10+1)*8) 1099511627776) (ckQ (Nat.beq (cellsNM (numsM (s_9.take x_10))++[AV.int .i64 1]).length (x_10+1)&&Nat.ble (0+(x_10+1)*1) (x_10+1)&&true) (∃a_12 b_13:List Nat,Lf (numK 0 (cellsNM
 x_1.2) x_1.2.length a_12∧numK 1 (List.map (fun (x_14:AV)=>frzV 1 [Blk.mk BK.grow true (cellsNM (clampNM x_0 (numsM (key.take 16)))),Blk.mk BK.grow true (cellsNM (numsM (s_9.take x_10))++[AV.int .i64 1])] 8 x_14) (((cellsNM (numsM
 (s_9.take x_10))++[AV.int .i64 1]).drop 0).take ((x_10+1)*1))) (x_10+1) b_13)∧∀l_14:List Nat,Lf (valNM l_14=valNM a_12+valNM b_13∧(∀j_15:Nat,l_14.getD j_15 0≤255)∧l_14.length≤Max.max a_12.length b_13.length +
 1∧(l_14.length≤Max.max a_12.length b_13.length∨(256:Nat)^Max.max a_12.length b_13.length≤valNM l_14))→ckQ (Nat.beq (cellsNM (clampNM x_0 (numsM (key.take 16)))).length 16&&true&&true) (∃a_15 b_16:List Nat,Lf (numK 0
 (cellsNM l_14) l_14.length a_15∧numK 1 (List.map (fun (x_17:AV)=>frzV 1 [Blk.mk BK.grow true (cellsNM (clampNM x_0 (numsM (key.take 16)))),Blk.mk BK.grow true (cellsNM (numsM (s_9.take x_10))++[AV.int .i64 1])] 8 x_17) (((cellsNM
 (clampNM x_0 (numsM (key.take 16)))).drop 0).take 16)) 16 b_16∧a_15.length≤1000∧b_16.length≤1000)∧∀l_17:List Nat,Lf (valNM l_17=valNM a_15*valNM b_16∧(∀j_18:Nat,l_17.getD j_18 0≤255)∧l_17.length=a_15.length +
 b_16.length+1)→∃a_18:List Nat,Lf (numK 0 (cellsNM l_17) l_17.length a_18)∧∀l_19:List Nat,Lf (valNM l_19=valNM a_18%pM∧(∀j_20:Nat,l_19.getD j_20 0≤255)∧l_19.length≤18)→exI .i64 ((16*x_1.1:Nat):Int) fun
 n_20=>exW .i64 (n_20+16) fun n_21=>(True∧(0:Nat)=(0:Nat))∧∃y_22:Nat×List Nat,Lf ((∀j_23:Nat,y_22.2.getD j_23 0≤255)∧y_22.2.length≤18∧y_22.1≤s.length∧polyM (valNM (clampNM 16 (numsM (key.take 16))))
 (s.length-y_22.1) (valNM y_22.2) (s.drop (16*y_22.1))=polyM (valNM (clampNM 16 (numsM (key.take 16)))) s.length 0 s)∧s.length-y_22.1<s.length-x_1.1∧eqqQ (cellsNM (clampNM x_0 (numsM (key.take 16))))∧eqqQ (AV.str key) ∧
 eqqQ (AV.str s)∧AV.lst 0 (cellsNM l_19) l_19.length 1=AV.lst 0 (cellsNM y_22.2) y_22.2.length 1∧eqqQ (AV.sl 0 16 0 16 1)∧AV.int .i64 n_21=AV.int .i64 ((16*y_22.1:Nat):Int)∧True)))) else ckQ (Nat.ble 16 key.length &&
 Nat.ble key.length key.length) (exS (.str ((key.drop 16).take (key.length-16))) fun s_4=>((∃x_5:Nat,Lf (x_5=0)∧eqqQ (cellsNM (clampNM x_0 (numsM (key.take 16))))∧eqqQ (AV.str s_4)∧AV.nils=AV.nils∧AV.int .i64 0=AV.int
 .i64 (x_5:Int)∧True)∨∃x_5:Nat,Lf (1≤x_5∧x_5≤s_4.length)∧eqqQ (cellsNM (clampNM x_0 (numsM (key.take 16))))∧False)∧(∀x_5:Nat,Lf (x_5=0)→exI .i64 (s_4.length:Int) fun n_6=>bif decide ((x_5:Int)<n_6) then
 ckQ (Nat.blt (x_5:Int).toNat s_4.length) (exI .u8 (UInt8.toNat (s_4.getD (x_5:Int).toNat (UInt8.ofNat 0)):Int) fun n_7=>exW .i64 n_7 fun n_8=>exW .i64 ((x_5:Int)+1) fun n_9=>(True∧(0:Nat)=(0:Nat))∧((∃y_10:Nat,
 Lf (y_10=0)∧s_4.length+1<s_4.length+1∧eqqQ (cellsNM (clampNM x_0 (numsM (key.take 16))))∧False)∨∃y_10:Nat,Lf (1≤y_10∧y_10≤s_4.length)∧s_4.length-y_10<s_4.length+1∧eqqQ (cellsNM (clampNM x_0 (numsM
 (key.take 16))))∧[AV.int .i64 n_8]=cellsNM (numsM (s_4.take y_10))∧eqqQ (AV.str s_4)∧AV.sl 1 1 0 1 1=AV.sl 1 y_10 0 y_10 1∧AV.int .i64 n_9=AV.int .i64 (y_10:Int)∧True)) else ∃a_7 b_8:List Nat,Lf (numK 0 (cellsNM
 x_1.2) x_1.2.length a_7∧numK 0 [] 0 b_8)∧∀l_9:List Nat,Lf (valNM l_9=valNM a_7+valNM b_8∧(∀j_10:Nat,l_9.getD j_10 0≤255)∧l_9.length≤Max.max a_7.length b_8.length+1∧(l_9.length≤Max.max a_7.length b_8.length ∨
 (256:Nat)^Max.max a_7.length b_8.length≤valNM l_9))→False)∧∀x_5:Nat,Lf (1≤x_5∧x_5≤s_4.length)→exI .i64 (s_4.length:Int) fun n_6=>bif decide ((x_5:Int)<n_6) then ckQ (Nat.blt (x_5:Int).toNat s_4.length) (exI
 .u8 (UInt8.toNat (s_4.getD (x_5:Int).toNat (UInt8.ofNat 0)):Int) fun n_7=>exW .i64 n_7 fun n_8=>ckQ (Nat.beq (cellsNM (numsM (s_4.take x_5))).length x_5&&true&&Nat.beq (0+x_5*1) x_5&&Nat.ble (x_5+1) 1099511627776 &&
 Nat.ble ((x_5+1)*8) 1099511627776) (exW .i64 ((x_5:Int)+1) fun n_9=>(True∧(0:Nat)=(0:Nat))∧((∃y_10:Nat,Lf (y_10=0)∧s_4.length+1<s_4.length-x_5∧eqqQ (cellsNM (clampNM x_0 (numsM (key.take 16))))∧False)
 ∨ ∃y_10:Nat,Lf (1≤y_10∧y_10≤s_4.length)∧s_4.length-y_10<s_4.length-x_5∧eqqQ (cellsNM (clampNM x_0 (numsM (key.take 16))))∧cellsNM (numsM (s_4.take x_5))++[AV.int .i64 n_8]=cellsNM (numsM (s_4.take y_10))∧eqqQ
 (AV.str s_4)∧AV.sl 1 (x_5+1) 0 (x_5+1) 1=AV.sl 1 y_10 0 y_10 1∧AV.int .i64 n_9=AV.int .i64 (y_10:Int)∧True))) else ckQ (Nat.beq (cellsNM (numsM (s_4.take x_5))).length x_5&&Nat.ble (0+x_5*1) x_5&&true) (∃a_7 b_8 :
 List Nat,Lf (numK 0 (cellsNM x_1.2) x_1.2.length a_7∧numK 1 (List.map (fun (x_9:AV)=>frzV 1 [Blk.mk BK.grow true (cellsNM (clampNM x_0 (numsM (key.take 16)))),Blk.mk BK.grow true (cellsNM (numsM (s_4.take x_5)))] 8 x_9) (((cellsNM
 (numsM (s_4.take x_5))).drop 0).take (x_5*1))) x_5 b_8)∧∀l_9:List Nat,Lf (valNM l_9=valNM a_7+valNM b_8∧(∀j_10:Nat,l_9.getD j_10 0≤255)∧l_9.length≤Max.max a_7.length b_8.length+1∧(l_9.length≤Max.max a_7.length
 b_8.length∨(256:Nat)^Max.max a_7.length b_8.length≤valNM l_9))→(∃x_10:Nat×List Nat,Lf (x_10.1≤16∧x_10.1≤x_10.2.length∧cellsNM l_9=cellsNM x_10.2∧l_9.length=x_10.2.length)∧eqqQ (cellsNM (clampNM x_0 (numsM
 (key.take 16))))∧eqqQ (cellsNM (numsM (s_4.take x_5)))∧[AV.int .u8 0,.int .u8 0,.int .u8 0,.int .u8 0,.int .u8 0,.int .u8 0,.int .u8 0,.int .u8 0,.int .u8 0,.int .u8 0,.int .u8 0,.int .u8 0,.int .u8 0,.int .u8 0,.int .u8
 0,.int .u8 0]=ofBytes (outNM x_10.2 x_10.1)∧eqqQ (AV.lst 0 (cellsNM l_9) l_9.length 1)∧eqqQ (AV.sl 2 16 0 16 1)∧AV.int .i64 0=AV.int .i64 (x_10.1:Int)∧True)∧∀x_10:Nat×List Nat,Lf (x_10.1≤16∧x_10.1≤x_10.2.length
 ∧ cellsNM l_9=cellsNM x_10.2∧l_9.length=x_10.2.length)→bif decide ((x_10.1:Int)<16) then exI .i64 (l_9.length:Int) fun n_11=>bif decide ((x_10.1:Int)<n_11) then ckQ (Nat.blt (x_10.1:Int).toNat l_9.length&&true) (ckQ
 (Nat.blt ((x_10.1:Int).toNat*1) (cellsNM l_9).length) (exV .i64 ((cellsNM l_9).getD ((x_10.1:Int).toNat*1) AV.undef) fun n_12=>exW .u8 n_12 fun n_13=>ckQ (Nat.blt (x_10.1:Int).toNat 16&&Nat.beq (ofBytes (outNM x_10.2
 x_10.1)).length 16&&true) (ckQ (Nat.beq (ofBytes (outNM x_10.2 x_10.1)).length 16&&Nat.ble (0+(x_10.1:Int).toNat*1+1) 16&&true&&true&&true) (exW .i64 ((x_10.1:Int)+1) fun n_14=>(True∧(0:Nat)=(0:Nat))∧∃
 y_15:Nat×List Nat,Lf (y_15.1≤16∧y_15.1≤y_15.2.length∧cellsNM l_9=cellsNM y_15.2∧l_9.length=y_15.2.length)∧16-y_15.1<16-x_10.1∧eqqQ (cellsNM (clampNM x_0 (numsM (key.take 16))))∧eqqQ (cellsNM (numsM (s_4.take
 x_5)))∧setRange (ofBytes (outNM x_10.2 x_10.1)) (0+(x_10.1:Int).toNat*1) [.int .u8 n_13]=ofBytes (outNM y_15.2 y_15.1)∧eqqQ (AV.lst 0 (cellsNM l_9) l_9.length 1)∧eqqQ (AV.sl 2 16 0 16 1)∧AV.int .i64 n_14=AV.int .i64
 (y_15.1:Int)∧True)))) else ckQ (Nat.beq (ofBytes (outNM x_10.2 x_10.1)).length 16&&true&&true&&allU8 (((ofBytes (outNM x_10.2 x_10.1)).drop 0).take 16)) (exS (.str (List.map toB (((ofBytes (outNM x_10.2 x_10.1)).drop 0).take
 16))) fun s_12=>Q (.ret (.str s_12)) [] {}) else ckQ (Nat.beq (ofBytes (outNM x_10.2 x_10.1)).length 16&&true&&true&&allU8 (((ofBytes (outNM x_10.2 x_10.1)).drop 0).take 16)) (exS (.str (List.map toB (((ofBytes (outNM x_10.2
 x_10.1)).drop 0).take 16))) fun s_11=>Q (.ret (.str s_11)) [] {})))
theorem vc_13f (key:List UInt8) (s:List UInt8) (Q:Out→List Blk→Gh→Prop):goal_13f (lookV [(245772,.str),(348167,.int .i64),(348174,.int .u8),(348175,.int .i64),(348170,.int .i64),(245779,.int .i64),(245786,.int
 .i64),(245787,.int .i64),(245790,.int .i64),(245801,.int .i64),(245802,.int .i64),(245803,.int .i64),(245777,.int .i64),(245806,.int .i64),(245808,.int .i64),(245814,.int .i64),(245815,.int .i64),(245816,.int .i64),
 (245818,.int .i64),(245819,.int .i64),(245820,.str),(245810,.int .i64),(245811,.int .i64),(245830,.str),(245839,.int .i64),(245849,.int .i64),(245850,.int .u8),(245843,.int .i64),(245853,.str)]) (lookB []) key s Q =
 (ckQ (Nat.ble 16 key.length) (exS (.str ((key.drop 0).take 16)) (fun s_0=>((∃x_1:Nat,Lf (x_1=0)∧eqqQ (AV.str s_0)∧AV.nils=AV.nils∧AV.int .i64 0=AV.int .i64 (x_1:Int)∧True)∨∃x_1:Nat,Lf (1≤x_1∧x_1 ≤
 s_0.length)∧False)∧(∀x_1:Nat,Lf (x_1=0)→exI .i64 (s_0.length:Int) (fun n_2=>bif decide ((x_1:Int)<n_2) then ckQ (Nat.blt (x_1:Int).toNat s_0.length) (exI .u8 (UInt8.toNat (s_0.getD (x_1:Int).toNat (UInt8.ofNat 0)) :
 Int) (fun n_3=>exW .i64 n_3 (fun n_4=>exW .i64 ((x_1:Int)+1) (fun n_5=>(True∧(0:Nat)=(0:Nat))∧((∃y_6:Nat,Lf (y_6=0)∧s_0.length+1<s_0.length+1∧False)∨∃y_6:Nat,Lf (1≤y_6∧y_6≤s_0.length) ∧
 s_0.length-y_6<s_0.length+1∧[AV.int .i64 n_4]=cellsNM (numsM (s_0.take y_6))∧eqqQ (AV.str s_0)∧AV.sl 0 1 0 1 1=AV.sl 0 y_6 0 y_6 1∧AV.int .i64 n_5=AV.int .i64 (y_6:Int)∧True))))) else (∃x_3:Nat,Lf (x_3≤16) ∧
 False)∧vc_13_1 key s Q))∧∀x_1:Nat,Lf (1≤x_1∧x_1≤s_0.length)→exI .i64 (s_0.length:Int) (fun n_2=>bif decide ((x_1:Int)<n_2) then ckQ (Nat.blt (x_1:Int).toNat s_0.length) (exI .u8 (UInt8.toNat (s_0.getD (x_1 :
 Int).toNat (UInt8.ofNat 0)):Int) (fun n_3=>exW .i64 n_3 (fun n_4=>ckQ (Nat.beq (cellsNM (numsM (s_0.take x_1))).length x_1&&true&&Nat.beq (0+x_1*1) x_1&&Nat.ble (x_1+1) 1099511627776&&Nat.ble ((x_1+1)*8)
 1099511627776) (exW .i64 ((x_1:Int)+1) (fun n_5=>(True∧(0:Nat)=(0:Nat))∧((∃y_6:Nat,Lf (y_6=0)∧s_0.length+1<s_0.length-x_1∧False)∨∃y_6:Nat,Lf (1≤y_6∧y_6≤s_0.length)∧s_0.length-y_6<s_0.length
 - x_1∧cellsNM (numsM (s_0.take x_1))++[AV.int .i64 n_4]=cellsNM (numsM (s_0.take y_6))∧eqqQ (AV.str s_0)∧AV.sl 0 (x_1+1) 0 (x_1+1) 1=AV.sl 0 y_6 0 y_6 1∧AV.int .i64 n_5=AV.int .i64 (y_6:Int)∧True)))))) else (∃x_3 :
 Nat,Lf (x_3≤16)∧cellsNM (numsM (s_0.take x_1))=cellsNM (clampNM x_3 (numsM (key.take 16)))∧eqqQ (AV.str key)∧eqqQ (AV.str s)∧AV.sl 0 x_1 0 x_1 1=AV.sl 0 16 0 16 1∧AV.int .i64 0=AV.int .i64 (x_3:Int)∧True)∧vc_13_1
 key s Q)))):=by kernel_rfl

theorem getN2 {l:List Nat} {j m:Nat} (hj:j<l.length) (hm:m=j) {K:Int→Prop} (hk:K ((l.getD j 0:Nat):Int)):∃n:Int,(List.take 1 (List.drop m (cellsNM l))).getD 0 AV.undef=AV.int .i64 n∧K n:=by
 subst hm
 refine ⟨_, ?_,hk⟩
 simp[cellsNM,List.getD_eq_getElem?_getD,hj]
theorem setN {l:List Nat} {j m:Nat} {v:Int} {w:Nat} (hj:j<l.length) (hm:m=j) (hv:v=(w:Int)):setRange (cellsNM l) m [AV.int .i64 v]=cellsNM (l.set j w):=by
 subst hm hv
 rw[cellsNM,cellsNM,setRange,List.map_set,List.set_eq_take_append_cons_drop,if_pos (by simpa using hj)]
 simp
theorem val_nums:∀s,valNM (numsM s)=leNM s
 | []=>rfl
 | b::s=>by
  show b.toNat+256*valNM (numsM s)=_
  rw[val_nums s]
  rfl
theorem nums_le (s:List UInt8) (j:Nat):(numsM s).getD j 0≤255:=by
 rw[List.getD_eq_getElem?_getD,numsM,List.getElem?_map]
 cases s[j]? with
 | none=>simp
 | some b=>have:=b.toNat_lt;simp;omega
theorem leB_out:∀ (n:Nat) (l:List Nat),(∀j,l.getD j 0≤255)→leBM n (valNM l)=(l.take n).map UInt8.ofNat++List.replicate (n-l.length) 0
 | 0,l,_=>by simp[leBM]
 | n+1,[],h=>by
  have ih:=leB_out n [] h
  rw[valNM] at ih ⊢
  rw[leBM,Nat.zero_mod,Nat.zero_div,ih]
  simp[List.replicate_succ]
 | n+1,x::l,h=>by
  have hx:=h 0
  rw[List.getD_cons_zero] at hx
  have ih:=leB_out n l (fun j=>by have:=h (j+1);rwa [List.getD_cons_succ] at this)
  rw[valNM,leBM,show (x+256*valNM l)%256=x by omega,show (x+256*valNM l)/256=valNM l by omega,ih]
  simp
theorem clampN_len:∀i l,(clampNM i l).length=l.length
 | 0,l=>rfl
 | i+1,l=>by
  rw[clampNM,mskNM]
  split
  ·rw[List.length_set,clampN_len i]
  ·split
   ·rw[List.length_set,clampN_len i]
   ·exact clampN_len i l
theorem and15 (x:UInt8):x.toNat &&& 15=x.toNat%16:=Nat.and_two_pow_sub_one_eq_mod x.toNat 4
theorem and252 (x:UInt8):x.toNat &&& 252=x.toNat/4*4:=by
 have h:∀n:Fin 256,n.val &&& 252=n.val/4*4:=by decide
 exact h ⟨x.toNat,x.toNat_lt⟩
theorem clamp_nums (k:List UInt8) (h:k.length=16):clampNM 16 (numsM k)=numsM (clampM k):=by
 match k,h with
 | [a0,a1,a2,a3,a4,a5,a6,a7,a8,a9,a10,a11,a12,a13,a14,a15],_=>
  simp only[clampNM,mskNM,clampM,mskAtM,numsM,List.map_cons,List.map_nil]
  simp[and15,and252]
theorem clamp_le:∀i l,(∀j,l.getD j 0≤255)→∀j,(clampNM i l).getD j 0≤255
 | 0,l,h,j=>h j
 | i+1,l,h,j=>by
  have ih:=clamp_le i l h
  have hs:∀v,v≤255→((clampNM i l).set i v).getD j 0≤255:=fun v hv=>by
   rw[List.getD_eq_getElem?_getD,List.getElem?_set]
   split
   ·split<;>simp[hv]
   ·have:=ih j
    rwa [List.getD_eq_getElem?_getD] at this
  have:=ih i
  rw[clampNM,mskNM]
  split
  ·exact hs _ (by omega)
  ·split
   ·exact hs _ (by omega)
   ·exact ih j
theorem frz_plain {l:List Nat} {H:List Blk}:List.map (fun x=>frzV 1 H 8 x) (cellsNM l)=cellsNM l:=map_plainf 1 H 7 _ (fun x hx=>by
 obtain ⟨n, -,rfl⟩:=List.mem_map.1 hx
 rfl)
theorem tag_ends {key s:List UInt8} {l a:List Nat} (hk:key.length=32) (ha:valNM a=polyM (leNM (clampM (key.take 16))) s.length 0 s) (hl:valNM l=valNM a+valNM (numsM (key.drop 16))) (hb:∀j,l.getD j 0≤255):∀i,(i=16∨i=l.length)→i≤16→i≤l.length→outNM l i=tagM key s:=fun i h1 h2 h3=>by
 have e:=leB_out 16 l hb
 rw[tagM,←ha,←val_nums (key.drop 16),←hl,show (340282366920938463463374607431768211456:Nat)=256^16 from rfl,leB_mod,e,outNM]
 rcases h1 with rfl | rfl
 ·rw[show 16-16=0 from rfl,Nat.sub_eq_zero_of_le h3]
 ·rw[List.take_of_length_le (Nat.le_refl _),List.take_of_length_le h2]
theorem piece_step {s:List UInt8} {i:Nat} (hi:i<s.length):cellsNM (numsM (s.take i))++[AV.int .i64 ((s.getD i 0).toNat:Int)]=cellsNM (numsM (s.take (i+1))):=by
 rw[take_snocD s 0 hi]
 simp[cellsNM,numsM]
theorem cellsN_inj {a b:List Nat} (h:cellsNM a=cellsNM b):a=b:=by
 have:=congrArg (List.map unNM) h
 rwa [unN_map,unN_map] at this
theorem out_len {l:List Nat} {i:Nat} (h1:i≤16) (h2:i≤l.length):(outNM l i).length=16:=by
 rw[outNM,List.length_append,List.length_map,List.length_take,List.length_replicate]
 omega
theorem out_set {l:List Nat} {i:Nat} (h1:i<16) (h2:i<l.length):(outNM l i).set i (UInt8.ofNat (l.getD i 0))=outNM l (i+1):=by
 have e1:((l.take i).map UInt8.ofNat).length=i:=by rw[List.length_map,List.length_take];omega
 rw[outNM,outNM,take_snocD l 0 h2,List.set_append,if_neg (by omega),e1,Nat.sub_self,show 16-i=(16-(i+1))+1 by omega,List.replicate_succ,List.set_cons_zero]
 simp
theorem tmodN (a b:Nat):(a:Int).tmod (b:Int)=((a%b:Nat):Int):=(Int.ofNat_tmod a b).symm
theorem tdivN (a b:Nat):(a:Int).tdiv (b:Int)=((a/b:Nat):Int):=(Int.ofNat_tdiv a b).symm
theorem rtag_run (key s:List UInt8) (hk:key.length=32) (hs:s.length≤100000) (Q:Out→List Blk→Gh→Prop) (hq:Q (.ret (.str (tagM key s))) [] {}):∃hv hb,goal_13f hv hb key s Q:=by
 obtain ⟨hv,hb',e⟩:∃hv hb,goal_13f hv hb key s Q=_:=⟨_,_,vc_13f key s Q⟩
 refine ⟨hv,hb',e.mpr ?_⟩
 clear e
 have hkt:(key.take 16).length=16:=by rw[List.length_take];omega
 have hnl:(numsM (key.take 16)).length=16:=by rw[numsM,List.length_map,hkt]
 have main:vc_13_1 key s Q:=by
  unfold vc_13_1
  obtain ⟨L,hL⟩:∃L,L=numsM (key.take 16):=⟨_,rfl⟩
  rw[←hL] at hnl ⊢
  have hLb:∀j,L.getD j 0≤255:=by rw[hL];exact nums_le _
  rintro i ⟨hi⟩
  obtain ⟨C,hC⟩:∃C,C=clampNM i L:=⟨_,rfl⟩
  have hCl:C.length=16:=by rw[hC,clampN_len,hnl]
  have hcl:(cellsNM C).length=16:=by rw[cellsN_len,hCl]
  have hCb:∀j,C.getD j 0≤255:=by rw[hC];exact clamp_le _ _ hLb
  rw[←hC]
  refine splitD (fun h => ?_) (fun h => ?_)
  ·have t4:((i:Nat):Int).tmod 4=((i%4:Nat):Int):=tmodN i 4
   have hn:clampNM (i+1) L=mskNM C i:=by rw[clampNM,hC]
   have hci:=hCb i
   rw[t4]
   refine ⟨_,rfl,splitE (fun h3 => ?_) (fun h3 => ?_)⟩
   ·have hm:mskNM C i=C.set i (C.getD i 0%16):=by rw[mskNM,if_pos (by omega)]
    exact ckI (by rw[hcl];simp;omega) (ckI (by rw[hcl];simp;omega) (getN2 (j:=i) (by omega) (by simp) ⟨_,rfl,ckI (by rw[hcl];simp;omega) (ckI (by rw[hcl];simp;omega) ⟨_,rfl,splitE (fun h=>by omega) (fun _=>wrapI (by omega) (by omega) ⟨⟨trivial,rfl⟩,i+1,⟨by omega⟩,by omega,by rw[hn,hm];exact setN (by omega) (by simp) (tmodN _ 16),rfl,rfl,rfl,rfl,trivial⟩)⟩)⟩))
   ·have hB:¬ (i%4=0∧0<i)→exW .i64 ((i:Int)+1) fun n_3=>(True∧(0:Nat)=(0:Nat))∧∃y_4:Nat,Lf (y_4≤16)∧16-y_4<16-i∧cellsNM C=cellsNM (clampNM y_4 L)∧eqqQ (AV.str key)∧eqqQ (AV.str s)∧eqqQ (AV.sl 0 16 0 16 1)∧AV.int .i64 n_3=AV.int .i64 (y_4:Int)∧True:=fun hno=>by
     have hm:mskNM C i=C:=by rw[mskNM,if_neg (by omega),if_neg hno]
     exact wrapI (by omega) (by omega) ⟨⟨trivial,rfl⟩,i+1,⟨by omega⟩,by omega,by rw[hn,hm],rfl,rfl,rfl,rfl,trivial⟩
    refine ⟨_,rfl,splitE (fun h0=>splitD (fun hp => ?_) (fun hp=>hB (by omega))) (fun h0=>hB (by omega))⟩
    have hm:mskNM C i=C.set i (C.getD i 0/4*4):=by rw[mskNM,if_neg (by omega),if_pos (by omega)]
    refine ckI (by rw[hcl];simp;omega) (ckI (by rw[hcl];simp;omega) (getN2 (j:=i) (by omega) (by simp) ?_))
    rw[show ((C.getD i 0:Nat):Int).tdiv 4=((C.getD i 0/4:Nat):Int) from tdivN _ 4]
    exact wrapI (by omega) (by omega) (wrapI (by omega) (by omega) (ckI (by rw[hcl];simp;omega) (ckI (by rw[hcl];simp;omega) (wrapI (by omega) (by omega) ⟨⟨trivial,rfl⟩,i+1,⟨by omega⟩,by omega,by rw[hn,hm];exact setN (by omega) (by simp) (by omega),rfl,rfl,rfl,rfl,trivial⟩))))
  ·obtain rfl:i=16:=by omega
   rw[←hC]
   refine ⟨⟨(0,[0]),⟨fun j=>by cases j<;>simp,by simp,by simp,by simp[valNM]⟩,rfl,rfl,rfl,rfl,rfl,rfl,trivial⟩, ?_⟩
   rintro ⟨k,l⟩ ⟨g1,g2,g3,g4⟩
   dsimp only at g1 g2 g3 g4 ⊢
   refine ⟨_,rfl,_,rfl,splitD (fun h2 => ?_) (fun h2 => ?_)⟩
   ·have him:imin (((16*k:Nat):Int)+16) (s.length:Nat)=((min (16*k+16) s.length:Nat):Int):=by
     unfold imin
     split<;>omega
    obtain ⟨P,hP⟩:∃P,P=(s.drop (16*k)).take 16:=⟨_,rfl⟩
    have hPl:P.length=min 16 (s.length-16*k):=by rw[hP,List.length_take,List.length_drop]
    refine ⟨_,rfl,_,rfl,wrapI (by omega) (by omega) ⟨_,rfl,_,rfl, ?_⟩⟩
    rw[him]
    refine ckI (by simp;omega) ⟨P, ?_,⟨.inl ⟨0,⟨rfl⟩,rfl,rfl,rfl,rfl,trivial⟩, ?_, ?_⟩⟩
    ·rw[hP]
     congr 1
     simp only[Int.toNat_natCast]
     rw[List.take_eq_take_iff,List.length_drop]
     omega
    ·rintro _ ⟨rfl⟩
     refine ⟨_,rfl,splitD (fun h => ?_) (fun h=>by omega)⟩
     have hb:=(P.getD 0 0).toNat_lt
     have h1:=piece_step (s:=P) (i:=0) (by omega)
     refine ckI (by simp;omega) ⟨_,rfl, ?_⟩
     rw[show ((0:Nat):Int).toNat=0 from rfl,show UInt8.ofNat 0=0 from rfl]
     exact wrapI (by omega) (by omega) (wrapI (by omega) (by omega) ⟨⟨trivial,rfl⟩,.inr ⟨1,⟨by omega,by omega⟩,by omega,rfl,h1,rfl,rfl,rfl,trivial⟩⟩)
    ·rintro j ⟨q1,q2⟩
     have hn:(numsM (P.take j)).length=j:=by simp[numsM];omega
     refine ⟨_,rfl,splitD (fun h => ?_) (fun h => ?_)⟩
     ·have hb:=(P.getD j 0).toNat_lt
      have h3:=piece_step (s:=P) (i:=j) (by omega)
      refine ckI (by simp;omega) ⟨_,rfl, ?_⟩
      rw[Int.toNat_natCast,show UInt8.ofNat 0=0 from rfl]
      exact wrapI (by omega) (by omega) (ckI (by rw[cellsN_len,hn];simp;omega) (wrapI (by omega) (by omega) ⟨⟨trivial,rfl⟩,.inr ⟨j+1,⟨by omega,by omega⟩,by omega,rfl,h3,rfl,rfl,rfl,trivial⟩⟩))
     ·obtain rfl:j=P.length:=by omega
      have hap:cellsNM (numsM (P.take P.length))++[AV.int .i64 1]=cellsNM (numsM (P++[1])):=by
       rw[List.take_length]
       simp[cellsNM,numsM]
      have hbl:(numsM (P++[1])).length=P.length+1:=by simp[numsM]
      have hvb:valNM (numsM (P++[1]))=leNM (P++[1]):=val_nums _
      refine ckI (by rw[cellsN_len,hn];simp;omega) ?_
      rw[hap]
      refine ckI (by rw[cellsN_len,hbl];simp) ⟨l,numsM (P++[1]),⟨⟨rfl,rfl,g1,by omega⟩,⟨?_,hbl.symm,nums_le _,by omega⟩⟩, ?_⟩
      ·rw[List.drop_zero,List.take_of_length_le (by rw[cellsN_len,hbl];omega),frz_plain]
      rintro l1 ⟨v1,b1,c1,d1⟩
      refine ckI (by rw[hcl];rfl) ⟨l1,C,⟨⟨rfl,rfl,b1,by omega⟩,⟨?_,hCl.symm,hCb,by omega⟩,by omega,by omega⟩, ?_⟩
      ·rw[List.drop_zero,List.take_of_length_le (by omega),frz_plain]
      rintro l2 ⟨v2,b2,c2⟩
      refine ⟨l2,⟨rfl,rfl,b2,by omega⟩, ?_⟩
      rintro l3 ⟨v3,b3,c3⟩
      refine ⟨_,rfl,wrapI (by omega) (by omega) ⟨⟨trivial,rfl⟩,(k+1,l3),⟨b3,c3,by dsimp only;omega, ?_⟩,by dsimp only;omega,rfl,rfl,rfl,rfl,rfl,by dsimp only;rw[show ((16*k:Nat):Int)+16=((16*(k+1):Nat):Int) by omega],trivial⟩⟩
      dsimp only
      rw[←g4,show s.length-k=(s.length-(k+1))+1 by omega,polyM,if_neg (fun hd=>by have:=congrArg List.length hd;rw[List.length_drop,List.length_nil] at this;omega),List.drop_drop,←hP,←hvb,←v1,←v2,←v3,show 16*k+16=16*(k+1) by omega]
   ·have hd:s.drop (16*k)=[]:=List.drop_of_length_le (by omega)
    rw[hd,poly_nil] at g4
    have hR:valNM C=leNM (clampM (key.take 16)):=by rw[hC,hL,clamp_nums _ hkt,val_nums]
    rw[hR] at g4
    obtain ⟨P,hP⟩:∃P,P=key.drop 16:=⟨_,rfl⟩
    have hPl:P.length=16:=by rw[hP,List.length_drop];omega
    refine ckI (by simp;omega) ⟨P, ?_,⟨.inl ⟨0,⟨rfl⟩,rfl,rfl,rfl,rfl,trivial⟩, ?_, ?_⟩⟩
    ·rw[List.take_of_length_le (by rw[List.length_drop];omega),hP]
    ·rintro _ ⟨rfl⟩
     refine ⟨_,rfl,splitD (fun h => ?_) (fun h=>by omega)⟩
     have hb:=(P.getD 0 0).toNat_lt
     have h1:=piece_step (s:=P) (i:=0) (by omega)
     refine ckI (by simp;omega) ⟨_,rfl, ?_⟩
     rw[show ((0:Nat):Int).toNat=0 from rfl,show UInt8.ofNat 0=0 from rfl]
     exact wrapI (by omega) (by omega) (wrapI (by omega) (by omega) ⟨⟨trivial,rfl⟩,.inr ⟨1,⟨by omega,by omega⟩,by omega,rfl,h1,rfl,rfl,rfl,trivial⟩⟩)
    ·rintro j ⟨q1,q2⟩
     have hn:(numsM (P.take j)).length=j:=by simp[numsM];omega
     refine ⟨_,rfl,splitD (fun h => ?_) (fun h => ?_)⟩
     ·have hb:=(P.getD j 0).toNat_lt
      have h3:=piece_step (s:=P) (i:=j) (by omega)
      refine ckI (by simp;omega) ⟨_,rfl, ?_⟩
      rw[Int.toNat_natCast,show UInt8.ofNat 0=0 from rfl]
      exact wrapI (by omega) (by omega) (ckI (by rw[cellsN_len,hn];simp;omega) (wrapI (by omega) (by omega) ⟨⟨trivial,rfl⟩,.inr ⟨j+1,⟨by omega,by omega⟩,by omega,rfl,h3,rfl,rfl,rfl,trivial⟩⟩))
     ·obtain rfl:j=P.length:=by omega
      have hfp:(numsM P).length=16:=by rw[numsM,List.length_map,hPl]
      rw[List.take_length]
      refine ckI (by rw[cellsN_len,hfp,hPl];rfl) ⟨l,numsM P,⟨⟨rfl,rfl,g1,by omega⟩,⟨?_,by omega,nums_le _,by omega⟩⟩, ?_⟩
      ·rw[List.drop_zero,List.take_of_length_le (by rw[cellsN_len];omega),frz_plain]
      rintro l1 ⟨v1,b1,c1,d1⟩
      rw[hP] at v1
      have hte:=tag_ends (l:=l1) hk g4 v1 b1
      refine ⟨⟨(0,l1),⟨by simp,by simp,rfl,rfl⟩,rfl,rfl,rfl,rfl,rfl,rfl,trivial⟩, ?_⟩
      rintro ⟨i,l'⟩ ⟨r1,r2,r3,r4⟩
      dsimp only at r1 r2 r3 r4 ⊢
      obtain rfl:=cellsN_inj r3
      have hol:=out_len r1 r2
      have hoc:(ofBytes (outNM l1 i)).length=16:=by rw[ofB_len,hol]
      have hend:(i=16∨i=l1.length)→ckQ (Nat.beq (ofBytes (outNM l1 i)).length 16&&true&&true&&allU8 (((ofBytes (outNM l1 i)).drop 0).take 16)) (exS (.str (List.map toB (((ofBytes (outNM l1 i)).drop 0).take 16))) fun s_12=>Q (.ret (.str s_12)) [] {}):=fun hh=>by
       rw[List.drop_zero,List.take_of_length_le (by omega),toB_ofB,hte i hh r1 r2]
       exact ckI (by rw[ofB_len,allU8_ofB,←hte i hh r1 r2,hol];rfl) ⟨_,rfl,hq⟩
      refine splitD (fun h1=>⟨_,rfl,splitD (fun h2 => ?_) (fun h2=>hend (by omega))⟩) (fun h1=>hend (by omega))
      have hbi:=b1 i
      refine ckI (by simp;omega) (ckI (by rw[cellsN_len];simp;omega) (getN (j:=i) (by omega) (by simp) (wrapU8 (by omega) (by omega) (ckI (by rw[hoc];simp;omega) (ckI (by rw[hoc];simp;omega) (wrapI (by omega) (by omega) ⟨⟨trivial,rfl⟩,(i+1,l1),⟨by dsimp only;omega,by dsimp only;omega,rfl,rfl⟩,by dsimp only;omega,rfl,rfl, ?_,rfl,rfl,rfl,trivial⟩))))))
      dsimp only
      rw[←out_set (by omega) (by omega),show ((l1.getD i 0:Nat):Int)=((UInt8.ofNat (l1.getD i 0)).toNat:Int) by rw[UInt8.toNat_ofNat'];omega]
      exact stB (by omega) (by simp)
 refine ckI (by simp;omega) ⟨key.take 16,by simp,⟨.inl ⟨0,⟨rfl⟩,rfl,rfl,rfl,trivial⟩, ?_, ?_⟩⟩
 ·rintro _ ⟨rfl⟩
  refine ⟨_,rfl,splitD (fun h => ?_) (fun h=>by omega)⟩
  have hb:=((key.take 16).getD 0 0).toNat_lt
  have h1:=piece_step (s:=key.take 16) (i:=0) (by omega)
  refine ckI (by simp;omega) ⟨_,rfl, ?_⟩
  rw[show ((0:Nat):Int).toNat=0 from rfl,show UInt8.ofNat 0=0 from rfl]
  exact wrapI (by omega) (by omega) (wrapI (by omega) (by omega) ⟨⟨trivial,rfl⟩,.inr ⟨1,⟨by omega,by omega⟩,by omega,h1,rfl,rfl,rfl,trivial⟩⟩)
 ·rintro i ⟨h1,h2⟩
  refine ⟨_,rfl,splitD (fun h => ?_) (fun h => ?_)⟩
  ·have hb:=((key.take 16).getD i 0).toNat_lt
   have h3:=piece_step (s:=key.take 16) (i:=i) (by omega)
   have hn:(numsM ((key.take 16).take i)).length=i:=by simp[numsM];omega
   refine ckI (by simp;omega) ⟨_,rfl, ?_⟩
   rw[Int.toNat_natCast,show UInt8.ofNat 0=0 from rfl]
   exact wrapI (by omega) (by omega) (ckI (by rw[cellsN_len,hn];simp;omega) (wrapI (by omega) (by omega) ⟨⟨trivial,rfl⟩,.inr ⟨i+1,⟨by omega,by omega⟩,by omega,h3,rfl,rfl,rfl,trivial⟩⟩))
  ·obtain rfl:i=16:=by omega
   exact ⟨⟨0,⟨by omega⟩,by rw[List.take_of_length_le (by omega)];rfl,rfl,rfl,rfl,rfl,trivial⟩,main⟩
end Go.Proofs.YtiholnebhmjbjaaGreat

set_option linter.unusedSimpArgs false
set_option linter.unusedVariables false
set_option linter.unusedSectionVars false
namespace Go.Proofs.YtiholnebhmjbjaaGreat
open Go.RowKit
set_option maxRecDepth 1000000

def cTagR:Con
 | [.str key,.str s],H,K=>Lf (key.length=32∧s.length≤100000)∧∀t,Lf (t=tagM key s)→K (.ret (.str t)) H
 | _,_,_=>False
theorem rtag_ok:ValidF Tryz.prog gl0 60 cTagR:=by
 refine valid_flat (enters_of (by kernel_rfl)) gl0_noY fun args H Q hc => ?_
 unfold cTagR at hc
 split at hc
 ·rename_i key s
  obtain ⟨⟨h1,h2⟩,hq⟩:=hc
  obtain ⟨hv,hb',h⟩:=rtag_run key s h1 h2 (Q:=fun o H' _=>H'=[]∧(∃v,o=.ret v∧old 0 v=true∧noY v=true)∧Q o H) ⟨rfl,⟨_,rfl,rfl,rfl⟩,hq _ ⟨rfl⟩⟩
  exact ⟨rfl,rfl,_,1000,envFor_13 _ _,rfl,h⟩
 ·exact hc.elim
theorem eqBB (s:List UInt8):eqB s s=true:=by
 induction s with
 | nil=>rfl
 | cons a s ih=>simp[eqB,ih]
theorem exW_of {k:IntKind} {x y:Int} {K:Int→Prop} (h:IntKind.wrap k x=y) (hk:K y):∃n,AV.int k (IntKind.wrap k x)=AV.int k n∧K n:=⟨y,by rw[h],hk⟩
end Go.Proofs.YtiholnebhmjbjaaGreat

set_option linter.unusedSimpArgs false
set_option linter.unusedVariables false
set_option linter.unusedSectionVars false
namespace Go.Proofs.YtiholnebhmjbjaaGreat
open Go.RowKit
set_option maxRecDepth 1000000

def turnM:Nat→Nat→Nat
 | 0,x=>x
 | i+1,x=>if 4294967296≤2*turnM i x then 2*turnM i x-4294967296+1 else 2*turnM i x
def inv_76 (x k:Nat):LInv where
 α:=Nat
 pre i:=Lf (i≤k)
 st i:=⟨mkT [(0,.int .i64 (turnM i x:Nat)),(1,.int .i64 (k:Nat)),(5,.int .i64 (i:Nat))],[]⟩
 mu i:=k-i
noncomputable def env_76 (hv:Nat→Option Pa) (hb:Nat→Option Bool) (x k:Nat):Env:=e04 sm0 (fun i=>bif Nat.beq i 112000 then some (fun _=>[[inv_76 x k]]) else none) hv hb
noncomputable def goal_76 (hv:Nat→Option Pa) (hb:Nat→Option Bool) (x k:Nat) (Q:Out→List Blk→Gh→Prop):Prop:=
 callx (env_76 hv hb x k) (wpx (env_76 hv hb x k) 1000) 112 [.int .i64 (x:Nat),.int .i64 (k:Nat)] [] {} Q
theorem vc_76 (x:Nat) (k:Nat) (Q:Out→List Blk→Gh→Prop):goal_76 (lookV [(458758,.int .i64),(458759,.int .i64),(458763,.int .i64),(458764,.int .i64),(458768,.int .i64),(458769,.int .i64),(458761,.int .i64),(458762,
 .int .i64),(458770,.int .i64)]) (lookB []) x k Q=((∃x_0:Nat,Lf (x_0≤k)∧AV.int .i64 (x:Int)=AV.int .i64 (turnM x_0 x:Int)∧eqqQ (AV.int .i64 (k:Int))∧AV.int .i64 0=AV.int .i64 (x_0:Int)∧True)∧∀x_0:Nat,Lf
 (x_0≤k)→exI .i64 (x_0:Int) fun n_1=>exI .i64 (k:Int) fun n_2=>bif decide (n_1<n_2) then exI .i64 (turnM x_0 x:Int) fun n_3=>exW .i64 (2*n_3) fun n_4=>bif decide (n_4≥4294967296) then exW .i64 (n_4-4294967296) fun
 n_5=>exW .i64 (n_5+1) fun n_6=>exI .i64 (x_0:Int) fun n_7=>exW .i64 (n_7+1) fun n_8=>(True∧(0:Nat)=(0:Nat))∧∃y_9:Nat,Lf (y_9≤k)∧k-y_9<k-x_0∧AV.int .i64 n_6=AV.int .i64 (turnM y_9 x:Int)∧eqqQ
 (AV.int .i64 (k:Int))∧AV.int .i64 n_8=AV.int .i64 (y_9:Int)∧True else exI .i64 (x_0:Int) fun n_5=>exW .i64 (n_5+1) fun n_6=>(True∧(0:Nat)=(0:Nat))∧∃y_7:Nat,Lf (y_7≤k)∧k-y_7<k-x_0∧AV.int .i64 n_4
 = AV.int .i64 (turnM y_7 x:Int)∧eqqQ (AV.int .i64 (k:Int))∧AV.int .i64 n_6=AV.int .i64 (y_7:Int)∧True else exI .i64 (turnM x_0 x:Int) fun n_3=>Q (.ret (.int .i64 n_3)) [] {}):=by kernel_rfl

def inv_77f (x y:Nat):LInv where
 α:=Nat
 pre i:=Lf (i≤32)
 st i:=⟨mkT [(0,.int .i64 (x/2^i:Nat)),(1,.int .i64 (y/2^i:Nat)),(5,.int .i64 ((x ^^^ y)%2^i:Nat)),(6,.int .i64 (2^i:Nat)),(7,.int .i64 (i:Nat))],[]⟩
 mu i:=32-i
noncomputable def env_77f (hv:Nat→Option Pa) (hb:Nat→Option Bool) (x y:Nat):Env:=e04 sm0 (fun i=>bif Nat.beq i 113000 then some (fun _=>[[inv_77f x y]]) else none) hv hb
noncomputable def goal_77f (hv:Nat→Option Pa) (hb:Nat→Option Bool) (x y:Nat) (Q:Out→List Blk→Gh→Prop):Prop:=
 callx (env_77f hv hb x y) (wpx (env_77f hv hb x y) 1000) 113 [.int .i64 (x:Nat),.int .i64 (y:Nat)] [] {} Q
theorem vc_77f (x:Nat) (y:Nat) (Q:Out→List Blk→Gh→Prop):goal_77f (lookV [(462856,.int .i64),(462860,.int .i64),(462861,.int .i64),(462862,.int .i64),(462863,.int .i64),(462865,.int .i64),(462866,.int .i64),
 (462867,.int .i64),(462868,.int .i64),(462869,.int .i64),(462870,.int .i64),(462871,.int .i64),(462872,.int .i64),(462873,.int .i64),(462858,.int .i64),(462859,.int .i64),(462874,.int .i64)]) (lookB []) x y Q=((∃x_0 :
 Nat,Lf (x_0≤32)∧AV.int .i64 (x:Int)=AV.int .i64 ((x/(2:Nat)^x_0:Nat):Int)∧AV.int .i64 (y:Int)=AV.int .i64 ((y/(2:Nat)^x_0:Nat):Int)∧AV.int .i64 0=AV.int .i64 (x_0:Int)∧AV.int .i64 0=AV.int .i64
 (((x ^^^ y)%(2:Nat)^x_0:Nat):Int)∧AV.int .i64 1=AV.int .i64 (((2:Nat)^x_0:Nat):Int)∧True)∧∀x_0:Nat,Lf (x_0≤32)→exI .i64 (x_0:Int) fun n_1=>bif decide (n_1<32) then exI .i64 ((x/(2:Nat)^x_0 :
 Nat):Int) fun n_2=>exI .i64 (n_2.tmod 2) fun n_3=>exI .i64 ((y/(2:Nat)^x_0:Nat):Int) fun n_4=>exI .i64 (n_4.tmod 2) fun n_5=>bif n_3 !=n_5 then exI .i64 (((x ^^^ y)%(2:Nat)^x_0:Nat):Int) fun n_6=>exI .i64
 (((2:Nat)^x_0:Nat):Int) fun n_7=>exW .i64 (n_6+n_7) fun n_8=>exI .i64 ((x/(2:Nat)^x_0:Nat):Int) fun n_9=>exW .i64 (n_9.tdiv 2) fun n_10=>exI .i64 ((y/(2:Nat)^x_0:Nat):Int) fun n_11=>exW .i64
 (n_11.tdiv 2) fun n_12=>exI .i64 (((2:Nat)^x_0:Nat):Int) fun n_13=>exW .i64 (2*n_13) fun n_14=>exI .i64 (x_0:Int) fun n_15=>exW .i64 (n_15+1) fun n_16=>(True∧(0:Nat)=(0:Nat))∧∃y_17:Nat,Lf (y_17≤32) ∧
 32-y_17<32-x_0∧AV.int .i64 n_10=AV.int .i64 ((x/(2:Nat)^y_17:Nat):Int)∧AV.int .i64 n_12=AV.int .i64 ((y/(2:Nat)^y_17:Nat):Int)∧AV.int .i64 n_16=AV.int .i64 (y_17:Int)∧AV.int .i64 n_8=AV.int .i64
 (((x ^^^ y)%(2:Nat)^y_17:Nat):Int)∧AV.int .i64 n_14=AV.int .i64 (((2:Nat)^y_17:Nat):Int)∧True else exI .i64 ((x/(2:Nat)^x_0:Nat):Int) fun n_6=>exW .i64 (n_6.tdiv 2) fun n_7=>exI .i64 ((y/(2:Nat) ^
 x_0:Nat):Int) fun n_8=>exW .i64 (n_8.tdiv 2) fun n_9=>exI .i64 (((2:Nat)^x_0:Nat):Int) fun n_10=>exW .i64 (2*n_10) fun n_11=>exI .i64 (x_0:Int) fun n_12=>exW .i64 (n_12+1) fun n_13=>(True∧(0:Nat)=(0 :
 Nat))∧∃y_14:Nat,Lf (y_14≤32)∧32-y_14<32-x_0∧AV.int .i64 n_7=AV.int .i64 ((x/(2:Nat)^y_14:Nat):Int)∧AV.int .i64 n_9=AV.int .i64 ((y/(2:Nat)^y_14:Nat):Int)∧AV.int .i64 n_13=AV.int .i64 (y_14 :
 Int)∧AV.int .i64 (((x ^^^ y)%(2:Nat)^x_0:Nat):Int)=AV.int .i64 (((x ^^^ y)%(2:Nat)^y_14:Nat):Int)∧AV.int .i64 n_11=AV.int .i64 (((2:Nat)^y_14:Nat):Int)∧True else exI .i64 (((x ^^^ y)%(2:Nat)^x_0
 : Nat):Int) fun n_2=>Q (.ret (.int .i64 n_2)) [] {}):=by kernel_rfl

noncomputable def goal_63 (hv:Nat→Option Pa) (hb:Nat→Option Bool) (s:List UInt8) (Q:Out→List Blk→Gh→Prop):Prop:=
 callx (e04 sm0 (fun _=>none) hv hb) (wpx (e04 sm0 (fun _=>none) hv hb) 1000) 90 [.str s] [] {} Q
theorem vc_63 (s:List UInt8) (Q:Out→List Blk→Gh→Prop):goal_63 (lookV [(368644,.int .u8),(368645,.int .i64),(368647,.int .u8),(368648,.int .i64),(368649,.int .i64),(368650,.int .i64),(368652,.int .u8),(368653,.int
 .i64),(368654,.int .i64),(368655,.int .i64),(368657,.int .u8),(368658,.int .i64),(368659,.int .i64),(368660,.int .i64)]) (lookB []) s Q=(ckQ (Nat.blt 0 s.length) (exI .u8 (UInt8.toNat (s.getD 0 (UInt8.ofNat 0)):Int) fun n_0
 => exW .i64 n_0 fun n_1=>ckQ (Nat.blt 1 s.length) (exI .u8 (UInt8.toNat (s.getD 1 (UInt8.ofNat 0)):Int) fun n_2=>exW .i64 n_2 fun n_3=>exW .i64 (256*n_3) fun n_4=>exW .i64 (n_1+n_4) fun n_5=>ckQ (Nat.blt 2 s.length) (exI
 .u8 (UInt8.toNat (s.getD 2 (UInt8.ofNat 0)):Int) fun n_6=>exW .i64 n_6 fun n_7=>exW .i64 (65536*n_7) fun n_8=>exW .i64 (n_5+n_8) fun n_9=>ckQ (Nat.blt 3 s.length) (exI .u8 (UInt8.toNat (s.getD 3 (UInt8.ofNat 0)):Int) fun
 n_10=>exW .i64 n_10 fun n_11=>exW .i64 (16777216*n_11) fun n_12=>exW .i64 (n_9+n_12) fun n_13=>Q (.ret (.int .i64 n_13)) [] {}))))):=by kernel_rfl

noncomputable def goal_62 (hv:Nat→Option Pa) (hb:Nat→Option Bool) (x:Nat) (Q:Out→List Blk→Gh→Prop):Prop:=
 callx (e04 sm0 (fun _=>none) hv hb) (wpx (e04 sm0 (fun _=>none) hv hb) 1000) 89 [.int .i64 (x:Nat)] [] {} Q
theorem vc_62 (x:Nat) (Q:Out→List Blk→Gh→Prop):goal_62 (lookV [(364547,.int .i64),(364548,.int .i64),(364549,.int .u8),(364550,.int .i64),(364551,.int .i64),(364552,.int .i64),(364553,.int .u8),(364554,.int .i64),
 (364555,.int .i64),(364556,.int .i64),(364557,.int .u8),(364558,.int .i64),(364559,.int .i64),(364560,.int .u8),(364562,.str)]) (lookB []) x Q=(exI .i64 (x:Int) fun n_0=>exI .i64 (n_0.tmod 256) fun n_1=>exW .u8 n_1 fun
 n_2=>exI .i64 (x:Int) fun n_3=>exW .i64 (n_3.tdiv 256) fun n_4=>exI .i64 (n_4.tmod 256) fun n_5=>exW .u8 n_5 fun n_6=>exI .i64 (x:Int) fun n_7=>exW .i64 (n_7.tdiv 65536) fun n_8=>exI .i64 (n_8.tmod 256) fun n_9=>exW .u8
 n_9 fun n_10=>exI .i64 (x:Int) fun n_11=>exW .i64 (n_11.tdiv 16777216) fun n_12=>exW .u8 n_12 fun n_13=>exS (.str [toB (.int .u8 n_2),toB (.int .u8 n_6),toB (.int .u8 n_10),toB (.int .u8 n_13)]) fun s_14=>Q (.ret (.str
 s_14)) [] {}):=by kernel_rfl

theorem exM {k:IntKind} (x d:Nat) {K:Int→Prop} (h:K ((x%d:Nat):Int)):∃n,AV.int k ((x:Int).tmod (d:Int))=AV.int k n∧K n:=⟨_,by rw[tmodN],h⟩
theorem exT (x d:Nat) {K:Int→Prop} (hx:x≤9223372036854775807) (h:K ((x/d:Nat):Int)):∃n,AV.int .i64 (IntKind.wrap .i64 ((x:Int).tdiv (d:Int)))=AV.int .i64 n∧K n:=by
 have h2:x/d≤x:=Nat.div_le_self x d
 rw[tdivN]
 obtain ⟨q,hq⟩:∃q,x/d=q:=⟨_,rfl⟩
 rw[hq] at h h2 ⊢
 exact wrapI (by omega) (by omega) h
theorem turn_lt:∀i x,x<4294967296→turnM i x<4294967296
 | 0,x,h=>h
 | i+1,x,h=>by
  have:=turn_lt i x h
  rw[turnM]
  split<;>omega
theorem turn_run (x k:Nat) (hx:x<4294967296) (hk:k≤1000) (Q:Out→List Blk→Gh→Prop) (hq:Q (.ret (.int .i64 (turnM k x:Nat))) [] {}):∃hv hb,goal_76 hv hb x k Q:=by
 obtain ⟨hv,hb',e⟩:∃hv hb,goal_76 hv hb x k Q=_:=⟨_,_,vc_76 x k Q⟩
 refine ⟨hv,hb',e.mpr ?_⟩
 clear e
 refine ⟨⟨0,⟨by omega⟩,rfl,rfl,rfl,trivial⟩, ?_⟩
 rintro i ⟨hi⟩
 have ht:=turn_lt i x hx
 have hs:turnM (i+1) x=if 4294967296≤2*turnM i x then 2*turnM i x-4294967296+1 else 2*turnM i x:=rfl
 refine ⟨_,rfl,_,rfl,splitD (fun h => ?_) (fun h => ?_)⟩
 ·refine ⟨_,rfl,wrapI (by omega) (by omega) (splitD (fun h2 => ?_) (fun h2 => ?_))⟩
  ·exact wrapI (by omega) (by omega) (wrapI (by omega) (by omega) ⟨_,rfl,wrapI (by omega) (by omega) ⟨⟨trivial,rfl⟩,i+1,⟨by omega⟩,by omega,by rw[hs,if_pos (by omega),show ((2*turnM i x-4294967296+1:Nat):Int)=2*(turnM i x:Int)-4294967296+1 by omega],rfl,rfl,trivial⟩⟩)
  ·exact ⟨_,rfl,wrapI (by omega) (by omega) ⟨⟨trivial,rfl⟩,i+1,⟨by omega⟩,by omega,by rw[hs,if_neg (by omega),show ((2*turnM i x:Nat):Int)=2*(turnM i x:Int) by omega],rfl,rfl,trivial⟩⟩
 ·obtain rfl:i=k:=by omega
  exact ⟨_,rfl,hq⟩
theorem testB (x i:Nat):x/2^i%2=(x.testBit i).toNat:=by
 rw[Nat.testBit_eq_decide_div_mod_eq]
 have:=Nat.mod_lt (x/2^i) (by decide:0<2)
 by_cases h:x/2^i%2=1
 ·simp[h]
 ·simp[h];omega
theorem xor_step (x y i:Nat):(x ^^^ y)%2^(i+1)=(if x/2^i%2≠y/2^i%2 then (x ^^^ y)%2^i+2^i else (x ^^^ y)%2^i):=by
 have h1:(x ^^^ y)%2^(i+1)=(x ^^^ y)%2^i+2^i*((x ^^^ y)/2^i%2):=by rw[Nat.pow_succ,Nat.mod_mul]
 rw[h1,testB,testB,testB,Nat.testBit_xor]
 cases x.testBit i<;>cases y.testBit i<;>simp
theorem xor_run (x y:Nat) (hx:x<4294967296) (hy:y<4294967296) (Q:Out→List Blk→Gh→Prop) (hq:Q (.ret (.int .i64 (x ^^^ y:Nat))) [] {}):∃hv hb,goal_77f hv hb x y Q:=by
 obtain ⟨hv,hb',e⟩:∃hv hb,goal_77f hv hb x y Q=_:=⟨_,_,vc_77f x y Q⟩
 refine ⟨hv,hb',e.mpr ?_⟩
 clear e
 refine ⟨⟨0,⟨by omega⟩,by simp,by simp,by simp[Nat.mod_one],by simp,rfl,trivial⟩, ?_⟩
 rintro i ⟨hi⟩
 have hs:=xor_step x y i
 have hlt:(x ^^^ y)<2^32:=Nat.xor_lt_two_pow (by omega) (by omega)
 have h2:2^i≤2^32:=Nat.pow_le_pow_right (by omega) hi
 have h3:(x ^^^ y)%2^i<2^i:=Nat.mod_lt _ (Nat.pow_pos (by decide))
 have h4:(2:Nat)^32=4294967296:=rfl
 have hdx:x/2^i≤x:=Nat.div_le_self _ _
 have hdy:y/2^i≤y:=Nat.div_le_self _ _
 have ex:x/2^(i+1)=x/2^i/2:=by rw[Nat.pow_succ,Nat.div_div_eq_div_mul]
 have ey:y/2^(i+1)=y/2^i/2:=by rw[Nat.pow_succ,Nat.div_div_eq_div_mul]
 have ep:2^(i+1)=2*2^i:=by rw[Nat.pow_succ,Nat.mul_comm]
 refine ⟨_,rfl,splitD (fun h => ?_) (fun h => ?_)⟩
 ·obtain ⟨A,hA⟩:∃A,x/2^i=A:=⟨_,rfl⟩
  obtain ⟨B,hB⟩:∃B,y/2^i=B:=⟨_,rfl⟩
  obtain ⟨P,hP⟩:∃P,2^i=P:=⟨_,rfl⟩
  obtain ⟨Z,hZ⟩:∃Z,(x ^^^ y)%2^i=Z:=⟨_,rfl⟩
  rw[hA] at ex hs hdx
  rw[hB] at ey hs hdy
  rw[hZ,hP] at hs
  rw[hZ,hP] at h3
  rw[hP] at ep h2
  rw[hA,hB,hZ,hP]
  refine ⟨_,rfl,exM A 2 ⟨_,rfl,exM B 2 (splitNE (fun hne => ?_) (fun hne => ?_))⟩⟩
  ·exact ⟨_,rfl,_,rfl,wrapI (by omega) (by omega) ⟨_,rfl,exT A 2 (by omega) ⟨_,rfl,exT B 2 (by omega) ⟨_,rfl,wrapI (by omega) (by omega) ⟨_,rfl,wrapI (by omega) (by omega) ⟨⟨trivial,rfl⟩,i+1,⟨by omega⟩,by omega,by rw[ex],by rw[ey],rfl,by rw[hs,if_pos (by omega)];rfl,by rw[ep];rfl,trivial⟩⟩⟩⟩⟩⟩
  ·exact ⟨_,rfl,exT A 2 (by omega) ⟨_,rfl,exT B 2 (by omega) ⟨_,rfl,wrapI (by omega) (by omega) ⟨_,rfl,wrapI (by omega) (by omega) ⟨⟨trivial,rfl⟩,i+1,⟨by omega⟩,by omega,by rw[ex],by rw[ey],rfl,by rw[hs,if_neg (by omega)],by rw[ep];rfl,trivial⟩⟩⟩⟩⟩
 ·obtain rfl:i=32:=by omega
  rw[Nat.mod_eq_of_lt hlt]
  exact ⟨_,rfl,hq⟩
theorem num_words (s:List UInt8) (m:Nat):numM s m=bytM s m+256*bytM s (m+1)+65536*bytM s (m+2)+16777216*bytM s (m+3):=by
 have a0:=bytM_lt s m
 have a1:=bytM_lt s (m+1)
 have a2:=bytM_lt s (m+2)
 have a3:=bytM_lt s (m+3)
 have e1:bytM s m ||| bytM s (m+1)*256=bytM s m+bytM s (m+1)*256:=or_lo 8 (by omega) (by omega)
 have e2:(bytM s m+bytM s (m+1)*256) ||| bytM s (m+2)*65536=bytM s m+bytM s (m+1)*256+bytM s (m+2)*65536:=or_lo 16 (by omega) (by omega)
 have e3:(bytM s m+bytM s (m+1)*256+bytM s (m+2)*65536) ||| bytM s (m+3)*16777216=bytM s m+bytM s (m+1)*256+bytM s (m+2)*65536+bytM s (m+3)*16777216:=or_lo 24 (by omega) (by omega)
 rw[numM,e1,e2,e3]
 omega
theorem number63_run (s:List UInt8) (hs:s.length=4) (Q:Out→List Blk→Gh→Prop) (hq:Q (.ret (.int .i64 (numM s 0:Nat))) [] {}):∃hv hb,goal_63 hv hb s Q:=by
 obtain ⟨hv,hb',e⟩:∃hv hb,goal_63 hv hb s Q=_:=⟨_,_,vc_63 s Q⟩
 refine ⟨hv,hb',e.mpr ?_⟩
 clear e
 rw[num_words] at hq
 have a0:=bytM_lt s 0
 have a1:=bytM_lt s 1
 have a2:=bytM_lt s 2
 have a3:=bytM_lt s 3
 have e0:(s.getD 0 (UInt8.ofNat 0)).toNat=bytM s 0:=rfl
 have e1:(s.getD 1 (UInt8.ofNat 0)).toNat=bytM s 1:=rfl
 have e2:(s.getD 2 (UInt8.ofNat 0)).toNat=bytM s 2:=rfl
 have e3:(s.getD 3 (UInt8.ofNat 0)).toNat=bytM s 3:=rfl
 rw[e0,e1,e2,e3]
 refine ckI (by simp;omega) ⟨_,rfl,wrapI (by omega) (by omega) (ckI (by simp;omega) ⟨_,rfl,wrapI (by omega) (by omega) (wrapI (by omega) (by omega) (wrapI (by omega) (by omega) (ckI (by simp;omega) ⟨_,rfl,wrapI (by omega) (by omega) (wrapI (by omega) (by omega) (wrapI (by omega) (by omega) (ckI (by simp;omega) ⟨_,rfl,wrapI (by omega) (by omega) (wrapI (by omega) (by omega) (wrapI (by omega) (by omega) ?_))⟩)))⟩)))⟩)⟩
 have hz:((bytM s 0+256*bytM s (0+1)+65536*bytM s (0+2)+16777216*bytM s (0+3):Nat):Int)=(bytM s 0:Int)+256*(bytM s 1:Int)+65536*(bytM s 2:Int)+16777216*(bytM s 3:Int):=by
  rw[show 0+1=1 from rfl,show 0+2=2 from rfl,show 0+3=3 from rfl]
  omega
 rw[hz] at hq
 exact hq
theorem octets62_run (x:Nat) (hx:x<4294967296) (Q:Out→List Blk→Gh→Prop) (hq:Q (.ret (.str ((leW x).map UInt8.ofNat))) [] {}):∃hv hb,goal_62 hv hb x Q:=by
 obtain ⟨hv,hb',e⟩:∃hv hb,goal_62 hv hb x Q=_:=⟨_,_,vc_62 x Q⟩
 refine ⟨hv,hb',e.mpr ?_⟩
 clear e
 refine ⟨_,rfl,exM x 256 (wrapU8 (by omega) (by omega) ⟨_,rfl,exT x 256 (by omega) (exM (x/256) 256 (wrapU8 (by omega) (by omega) ⟨_,rfl,exT x 65536 (by omega) (exM (x/65536) 256 (wrapU8 (by omega) (by omega) ⟨_,rfl,exT x 16777216 (by omega) (wrapU8 (by omega) (by omega) ⟨_,rfl, ?_⟩)⟩))⟩))⟩)⟩
 rw[toB_nat,toB_nat,toB_nat,toB_nat]
 rw[leW,show x/16777216%256=x/16777216 by omega] at hq
 exact hq
theorem turn_split (x:Nat) (hx:x<4294967296):∀k,k≤32→∃h l,x=h*2^(32-k)+l∧l<2^(32-k)∧h<2^k∧turnM k x=l*2^k+h
 | 0,_=>⟨0,x,by omega,by rw[show 2^(32-0)=4294967296 from rfl];omega,by decide,by rw[turnM];omega⟩
 | k+1,hk=>by
  obtain ⟨h,l,e1,e2,e3,e4⟩:=turn_split x hx k (by omega)
  have hp:2^(32-k)=2*2^(32-(k+1)):=by rw[show 32-k=(32-(k+1))+1 by omega,Nat.pow_succ,Nat.mul_comm]
  have hr:2^(k+1)=2*2^k:=by rw[Nat.pow_succ,Nat.mul_comm]
  have hpr:2^(32-(k+1))*2^(k+1)=4294967296:=by
   rw[←Nat.pow_add,show 32-(k+1)+(k+1)=32 by omega]
  rw[hp] at e1 e2
  rw[hr] at hpr ⊢
  obtain ⟨P,hP⟩:∃P,2^(32-(k+1))=P:=⟨_,rfl⟩
  obtain ⟨R,hR⟩:∃R,2^k=R:=⟨_,rfl⟩
  rw[hP] at e1 e2 hpr ⊢
  rw[hR] at e3 e4 hpr ⊢
  have f1:h*(2*P)=2*(h*P):=Nat.mul_left_comm h 2 P
  have f2:P*(2*R)=2*(P*R):=Nat.mul_left_comm P 2 R
  by_cases hl:l<P
  ·have b1:(l+1)*(2*R)≤P*(2*R):=Nat.mul_le_mul_right _ hl
   have b2:(l+1)*(2*R)=l*(2*R)+2*R:=Nat.succ_mul l (2*R)
   have b3:l*(2*R)=2*(l*R):=Nat.mul_left_comm l 2 R
   have b4:2*h*P=2*(h*P):=Nat.mul_assoc 2 h P
   refine ⟨2*h,l,by omega,hl,by omega, ?_⟩
   rw[turnM,e4,if_neg (by omega)]
   omega
  ·obtain ⟨m,rfl⟩:∃m,l=P+m:=⟨l-P,by omega⟩
   have b3:(P+m)*R=P*R+m*R:=Nat.add_mul P m R
   have b4:(2*h+1)*P=2*(h*P)+P:=by rw[Nat.succ_mul,Nat.mul_assoc]
   have b5:m*(2*R)=2*(m*R):=Nat.mul_left_comm m 2 R
   refine ⟨2*h+1,m,by omega,by omega,by omega, ?_⟩
   rw[turnM,e4,if_pos (by omega)]
   omega
theorem turn_rot {x k:Nat} (hx:x<4294967296) (hk:k≤32):turnM k x=rotW k x:=by
 obtain ⟨h,l,e1,e2,e3,e4⟩:=turn_split x hx k hk
 have hpr:2^(32-k)*2^k=4294967296:=by
  rw[←Nat.pow_add,show 32-k+k=32 by omega]
 have hR:2^k≤2^32:=Nat.pow_le_pow_right (by decide) hk
 rw[show (2:Nat)^32=4294967296 from rfl] at hR
 have hm:l*2^k%2^k=0:=Nat.mul_mod_left _ _
 obtain ⟨P,hP⟩:∃P,2^(32-k)=P:=⟨_,rfl⟩
 rw[hP] at e1 e2 hpr
 have hd:x/P=h:=by
  rw[e1,Nat.mul_comm,Nat.mul_add_div (by omega),Nat.div_eq_of_lt e2,Nat.add_zero]
 have hmul:x*2^k=4294967296*h+l*2^k:=by
  rw[e1,Nat.add_mul,Nat.mul_assoc,hpr,Nat.mul_comm]
 have hlt:l*2^k<4294967296:=by
  have b1:(l+1)*2^k≤P*2^k:=Nat.mul_le_mul_right _ e2
  have b2:(l+1)*2^k=l*2^k+2^k:=Nat.succ_mul _ _
  have:=Nat.pow_pos (n:=k) (show 0<2 by decide)
  omega
 have hmm:x*2^k%4294967296=l*2^k:=by rw[hmul,Nat.mul_add_mod,Nat.mod_eq_of_lt hlt]
 rw[rotW,hP,hd,hmm,Nat.mod_eq_of_lt (show h<4294967296 by omega),Nat.or_comm,or_lo k e3 hm,e4,Nat.add_comm]
def cTurn:Con
 | [.int .i64 x,.int .i64 k],H,K=>∃a b:Nat,Lf (x=(a:Int)∧k=(b:Int)∧a<4294967296∧b≤32)∧∀r:Nat,Lf (r=rotW b a)→K (.ret (.int .i64 (r:Nat))) H
 | _,_,_=>False
theorem turn_ok:ValidF Tryz.prog gl0 112 cTurn:=by
 refine valid_flat (enters_of (by kernel_rfl)) gl0_noY fun args H Q hc => ?_
 unfold cTurn at hc
 split at hc
 ·obtain ⟨a,b,⟨rfl,rfl,h1,h2⟩,hq⟩:=hc
  obtain ⟨hv,hb',h⟩:=turn_run a b h1 (by omega) (Q:=fun o H' _=>H'=[]∧(∃v,o=.ret v∧old 0 v=true∧noY v=true)∧Q o H) ⟨rfl,⟨_,rfl,rfl,rfl⟩,hq _ ⟨turn_rot h1 h2⟩⟩
  exact ⟨rfl,rfl,_,1000,envFor04 sm0_ok _ _ _,rfl,h⟩
 ·exact hc.elim
def cXor:Con
 | [.int .i64 x,.int .i64 y],H,K=>∃a b:Nat,Lf (x=(a:Int)∧y=(b:Int)∧a<4294967296∧b<4294967296)∧∀r:Nat,Lf (r=xorW a b)→K (.ret (.int .i64 (r:Nat))) H
 | _,_,_=>False
theorem xor_ok:ValidF Tryz.prog gl0 113 cXor:=by
 refine valid_flat (enters_of (by kernel_rfl)) gl0_noY fun args H Q hc => ?_
 unfold cXor at hc
 split at hc
 ·obtain ⟨a,b,⟨rfl,rfl,h1,h2⟩,hq⟩:=hc
  obtain ⟨hv,hb',h⟩:=xor_run a b h1 h2 (Q:=fun o H' _=>H'=[]∧(∃v,o=.ret v∧old 0 v=true∧noY v=true)∧Q o H) ⟨rfl,⟨_,rfl,rfl,rfl⟩,hq _ ⟨by rw[xorW,Nat.mod_eq_of_lt h1,Nat.mod_eq_of_lt h2]⟩⟩
  exact ⟨rfl,rfl,_,1000,envFor04 sm0_ok _ _ _,rfl,h⟩
 ·exact hc.elim
def cNum63:Con
 | [.str s],H,K=>Lf (s.length=4)∧∀r:Nat,Lf (r=numM s 0)→K (.ret (.int .i64 (r:Nat))) H
 | _,_,_=>False
theorem num63_ok:ValidF Tryz.prog gl0 90 cNum63:=by
 refine valid_flat (enters_of (by kernel_rfl)) gl0_noY fun args H Q hc => ?_
 unfold cNum63 at hc
 split at hc
 ·obtain ⟨⟨h1⟩,hq⟩:=hc
  obtain ⟨hv,hb',h⟩:=number63_run _ h1 (Q:=fun o H' _=>H'=[]∧(∃v,o=.ret v∧old 0 v=true∧noY v=true)∧Q o H) ⟨rfl,⟨_,rfl,rfl,rfl⟩,hq _ ⟨rfl⟩⟩
  exact ⟨rfl,rfl,_,1000,envFor04 sm0_ok _ _ _,rfl,h⟩
 ·exact hc.elim
def cOct62:Con
 | [.int .i64 x],H,K=>∃a:Nat,Lf (x=(a:Int)∧a<4294967296)∧∀r,Lf (r=(leW a).map UInt8.ofNat)→K (.ret (.str r)) H
 | _,_,_=>False
theorem oct62_ok:ValidF Tryz.prog gl0 89 cOct62:=by
 refine valid_flat (enters_of (by kernel_rfl)) gl0_noY fun args H Q hc => ?_
 unfold cOct62 at hc
 split at hc
 ·obtain ⟨a,⟨rfl,h1⟩,hq⟩:=hc
  obtain ⟨hv,hb',h⟩:=octets62_run a h1 (Q:=fun o H' _=>H'=[]∧(∃v,o=.ret v∧old 0 v=true∧noY v=true)∧Q o H) ⟨rfl,⟨_,rfl,rfl,rfl⟩,hq _ ⟨rfl⟩⟩
  exact ⟨rfl,rfl,_,1000,envFor04 sm0_ok _ _ _,rfl,h⟩
 ·exact hc.elim
end Go.Proofs.YtiholnebhmjbjaaGreat
