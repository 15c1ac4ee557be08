/-
  Chapter 4: the reference's quarter round.
-/
import Derived.Test.YtiholnebhmjbjaaGreatZgD
set_option linter.unusedSimpArgs false
set_option linter.unusedVariables false
set_option linter.unusedSectionVars false
namespace Go.Proofs.YtiholnebhmjbjaaGreat
open Go.RowKit
set_option maxRecDepth 1000000

def haM (l:List Nat) (i m:Nat):List Nat:=l.set i (addW (l.getD i 0) (l.getD m 0))
def hxM (r:Nat) (l:List Nat) (i m:Nat):List Nat:=l.set i (rotW r (xorW (l.getD i 0) (l.getD m 0)))
def halfM (r1 r2:Nat) (l:List Nat) (i j k m:Nat):List Nat:=hxM r2 (haM (hxM r1 (haM l i j) m i) k m) j k
def qLM (l:List Nat) (i j k m:Nat):List Nat:=halfM 8 7 (halfM 16 12 l i j k m) i j k m
def fam64 (s:S) (b0 b1:Blk) (c:Nat) (cs:List AV):LInv := { α:=Nat,pre:=fun x=>Lf (x=0),st:=fun _=>⟨mkT [(1,s.tm.get 1),(2,s.tm.get 2),(3,s.tm.get 3),(4,s.tm.get 4),(11,s.tm.get 11),(12,s.tm.get 12),(13,.int .i64 (.ofNat c))],[⟨b0.k,b0.lf,cs⟩,b1]⟩,mu:=fun _=>4-c }
def inv_64 (l:List Nat) (i j k m:Nat) (s:S):List (List LInv):=match s.hp with
 | [b0,b1]=>[[fam64 s b0 b1 0 (cellsNM l),fam64 s b0 b1 2 (cellsNM (halfM 16 12 l i j k m)),fam64 s b0 b1 4 (cellsNM (qLM l i j k m))]]
 | _=>[]
def smQu:SM:=lookS [(112,cTurn),(113,cXor)]
theorem smQu_ok:∀f g,smQu f=some g→ValidF Tryz.prog gl0 f g:=lookS_ok _ (by simp only[List.mem_cons,List.not_mem_nil,or_false,forall_eq_or_imp,forall_eq];exact ⟨turn_ok,xor_ok⟩)
noncomputable def env_64 (hv:Nat→Option Pa) (hb:Nat→Option Bool) (l:List Nat) (i j k m:Nat):Env:=e04 smQu (fun x=>bif Nat.beq x 91000 then some (inv_64 l i j k m) else none) hv hb
noncomputable def goal_64f (hv:Nat→Option Pa) (hb:Nat→Option Bool) (t:Nat) (l:List Nat) (i j k m:Nat) (Q:Out→List Blk→Gh→Prop):Prop:=
 callx (env_64 hv hb l i j k m) (wpx (env_64 hv hb l i j k m) 1000) 91 [.lst t (cellsNM l) l.length 1,.int .i64 (i:Nat),.int .i64 (j:Nat),.int .i64 (k:Nat),.int .i64 (m:Nat)] [] {} Q
abbrev zRI3 (l:List Nat):Nat:=(cellsNM l).length
abbrev zRI17 (l:List Nat):Bool:=oldL 0 (cellsNM l)
abbrev zRI7:Prop:=eqqQ [AV.int .i64 16,.int .i64 12,.int .i64 8,.int .i64 7]
abbrev zRI4 (i:Nat):Prop:=eqqQ (AV.int .i64 (i:Int))
abbrev zRI16 (l:List Nat):Prop:=eqqQ (AV.sl 0 (zRI3 l) 0 l.length 1)
abbrev zRI9 (j m:Nat):Prop:=zRI4 j∧zRI4 m∧eqqQ (AV.ptr 1 4 0)∧True
abbrev zRI12 (l:List Nat) (i j k m:Nat):List AV:=cellsNM (halfM 16 12 l i j k m)
abbrev zRI2 (n_2:Int) (l:List Nat):Bool:=decide (0≤n_2)&&Nat.blt n_2.toNat l.length
abbrev zRI22 (l:List Nat):Bool:=Nat.beq (zRI3 l) (zRI3 l)
abbrev zRI1 (n_2:Int):Nat:=0+n_2.toNat*1
abbrev zRI14 (n_2:Int) (l:List Nat):Bool:=Nat.blt (zRI1 n_2) (zRI3 l)
abbrev zRI19 (n_1:Int) (l:List Nat):Bool:=Nat.ble (zRI1 n_1+1) (zRI3 l)
abbrev zRI6 (l:List Nat) (n_1 n_7:Int):List AV:=setRange (cellsNM l) (zRI1 n_1) [.int .i64 n_7]
abbrev zRI21 (l:List Nat) (n_1 n_7:Int):Bool:=Nat.beq (zRI6 l n_1 n_7).length (zRI3 l)
abbrev zRI18 (n_10:Int) (a_13:Nat) (n_12:Int) (b_14:Nat):Prop:=Lf (n_10=(a_13:Int)∧n_12=(b_14:Int)∧a_13<4294967296∧b_14<4294967296)
abbrev zRI5 (l:List Nat) (n_1 n_7 n_8 n_20:Int):List AV:=setRange (setRange (cellsNM l) (zRI1 n_1) [.int .i64 n_7]) (zRI1 n_8) [.int .i64 n_20]
abbrev zRI23 (l:List Nat) (n_1 n_7 n_8 n_20:Int):Bool:=Nat.beq (zRI5 l n_1 n_7 n_8 n_20).length (zRI3 l)
abbrev zRI13 (l:List Nat) (n_1 n_7 n_8 n_20 n_21 n_27:Int):List AV:=setRange (zRI5 l n_1 n_7 n_8 n_20) (zRI1 n_21) [.int .i64 n_27]
abbrev zRI24 (l:List Nat) (n_1 n_7 n_8 n_20 n_21 n_27:Int):Bool:=Nat.beq (zRI13 l n_1 n_7 n_8 n_20 n_21 n_27).length (zRI3 l)
abbrev zRI11 (l:List Nat):Bool:=oldL 0 (cellsNM l)&&true&&true&&true&&true
abbrev zRI8 (l:List Nat):Bool:=(oldL 0 (cellsNM l)&&true&&true&&true&&true)==oldL 0 (cellsNM l)
abbrev zRI20 (l:List Nat) (i j k m:Nat):Bool:=Nat.beq (zRI12 l i j k m).length (zRI3 l)
abbrev zRI10 (l:List Nat) (i j k m:Nat) (n_1 n_7:Int):Bool:=Nat.beq (setRange (cellsNM (halfM 16 12 l i j k m)) (zRI1 n_1) [.int .i64 n_7]).length (zRI3 l)
abbrev zRI0 (l:List Nat) (i j k m:Nat) (n_1 n_7 n_8 n_20:Int):List AV:=setRange (setRange (zRI12 l i j k m) (0+n_1.toNat*1) [.int .i64 n_7]) (0+n_8.toNat*1) [.int .i64 n_20]
abbrev zRI15 (l:List Nat) (i j k m:Nat) (n_1 n_7 n_8 n_20 n_21 n_27:Int):List AV:=setRange (zRI0 l i j k m n_1 n_7 n_8 n_20) (zRI1 n_21) [.int .i64 n_27]
theorem vc_64f (t:Nat) (l:List Nat) (i:Nat) (j:Nat) (k:Nat) (m:Nat) (Q:Out→List Blk→Gh→Prop):goal_64f (lookV [(372759,.int .i64),(372761,.int .i64),(372763,.int .i64),(372765,.int .i64),(372767,.int .i64),
 (372768,.int .i64),(372769,.int .i64),(372772,.int .i64),(372774,.int .i64),(372776,.int .i64),(372778,.int .i64),(372780,.int .i64),(372781,.int .i64),(372785,.int .i64),(372788,.int .i64),(372790,.int .i64),(372792,
 .int .i64),(372794,.int .i64),(372796,.int .i64),(372797,.int .i64),(372798,.int .i64),(372801,.int .i64),(372803,.int .i64),(372805,.int .i64),(372807,.int .i64),(372809,.int .i64),(372810,.int .i64),(372815,.int
 .i64)]) (lookB [(1372736000,true)]) t l i j k m Q=(ckQ (Nat.beq (zRI3 l) (l.length*1)&&oneL (cellsNM l)&&true&&Nat.ble (l.length*8) 1099511627776) (bif Nat.beq l.length 0 then ckQ (Nat.beq l.length 0) False else ckQ (Nat.blt 0
 l.length) (ckQ (Nat.ble l.length 1099511627776&&Nat.ble (l.length*8) 1099511627776) (((∃x_0:Nat,Lf (x_0=0)∧ckQ (zRI17 l==zRI17 l) (eqqQ (cellsNM l)∧zRI7∧zRI4 i∧zRI4 k∧zRI16 l∧eqqQ (AV.int .i64 0)∧zRI9 j m))∨(∃
 x_0:Nat,Lf (x_0=0)∧ckQ (zRI17 l==zRI17 l) (cellsNM l=zRI12 l i j k m∧zRI7∧zRI4 i∧zRI4 k∧zRI16 l∧AV.int .i64 0=AV.int .i64 2∧zRI9 j m))∨∃x_0:Nat,Lf (x_0=0)∧ckQ (zRI17 l==zRI17 l) (cellsNM l=cellsNM
 (qLM l i j k m)∧zRI7∧zRI4 i∧zRI4 k∧zRI16 l∧AV.int .i64 0=AV.int .i64 4∧zRI9 j m))∧(∀x_0:Nat,Lf (x_0=0)→exI .i64 (i:Int) (fun n_1=>exI .i64 (i:Int) (fun n_2=>ckQ (zRI2 n_2 l&&zRI22 l&&true) (ckQ (zRI22 l
 && zRI14 n_2 l) (exV .i64 ((((cellsNM l).drop (zRI1 n_2)).take 1).getD 0 AV.undef) (fun n_3=>exI .i64 (j:Int) (fun n_4=>ckQ (zRI2 n_4 l&&zRI22 l&&true) (ckQ (zRI22 l&&zRI14 n_4 l) (exV .i64 ((((cellsNM l).drop (zRI1 n_4)).take
 1).getD 0 AV.undef) (fun n_5=>exW .i64 (n_3+n_5) (fun n_6=>exI .i64 (n_6.tmod 4294967296) (fun n_7=>ckQ (zRI2 n_1 l&&zRI22 l&&true) (ckQ (zRI22 l&&zRI19 n_1 l&&true&&true&&true) (exI .i64 (m:Int) (fun n_8=>exI .i64
 (m:Int) (fun n_9=>ckQ (zRI2 n_9 l&&zRI21 l n_1 n_7&&true) (ckQ (zRI21 l n_1 n_7&&zRI14 n_9 l) (exV .i64 ((((zRI6 l n_1 n_7).drop (zRI1 n_9)).take 1).getD 0 AV.undef) (fun n_10=>exI .i64 (i:Int) (fun n_11=>ckQ (zRI2 n_11 l
 && zRI21 l n_1 n_7&&true) (ckQ (zRI21 l n_1 n_7&&zRI14 n_11 l) (exV .i64 ((((zRI6 l n_1 n_7).drop (zRI1 n_11)).take 1).getD 0 AV.undef) (fun n_12=>∃a_13 b_14:Nat,zRI18 n_10 a_13 n_12 b_14∧∀r_15:Nat,Lf (r_15=xorW a_13
 b_14)→exI .i64 (r_15:Int) (fun n_16=>∃a_17 b_18:Nat,Lf (n_16=(a_17:Int)∧16=(b_18:Int)∧a_17<4294967296∧b_18≤32)∧∀r_19:Nat,Lf (r_19=rotW b_18 a_17)→exI .i64 (r_19:Int) (fun n_20=>ckQ (zRI2 n_8 l &&
 zRI21 l n_1 n_7&&true) (ckQ (zRI21 l n_1 n_7&&zRI19 n_8 l&&true&&true&&true) (exI .i64 (k:Int) (fun n_21=>exI .i64 (k:Int) (fun n_22=>ckQ (zRI2 n_22 l&&zRI23 l n_1 n_7 n_8 n_20&&true) (ckQ (zRI23 l n_1 n_7 n_8 n_20 &&
 zRI14 n_22 l) (exV .i64 ((((zRI5 l n_1 n_7 n_8 n_20).drop (zRI1 n_22)).take 1).getD 0 AV.undef) (fun n_23=>exI .i64 (m:Int) (fun n_24=>ckQ (zRI2 n_24 l&&zRI23 l n_1 n_7 n_8 n_20&&true) (ckQ (zRI23 l n_1 n_7 n_8 n_20&&zRI14 n_24
 l) (exV .i64 ((((zRI5 l n_1 n_7 n_8 n_20).drop (zRI1 n_24)).take 1).getD 0 AV.undef) (fun n_25=>exW .i64 (n_23+n_25) (fun n_26=>exI .i64 (n_26.tmod 4294967296) (fun n_27=>ckQ (zRI2 n_21 l&&zRI23 l n_1 n_7 n_8 n_20&&true) (ckQ
 (zRI23 l n_1 n_7 n_8 n_20&&zRI19 n_21 l&&true&&true&&true) (exI .i64 (j:Int) (fun n_28=>exI .i64 (j:Int) (fun n_29=>ckQ (zRI2 n_29 l&&zRI24 l n_1 n_7 n_8 n_20 n_21 n_27&&true) (ckQ (zRI24 l n_1 n_7 n_8 n_20 n_21 n_27 &&
 zRI14 n_29 l) (exV .i64 ((((zRI13 l n_1 n_7 n_8 n_20 n_21 n_27).drop (zRI1 n_29)).take 1).getD 0 AV.undef) (fun n_30=>exI .i64 (k:Int) (fun n_31=>ckQ (zRI2 n_31 l&&zRI24 l n_1 n_7 n_8 n_20 n_21 n_27&&true) (ckQ (zRI24 l n_1 n_7
 n_8 n_20 n_21 n_27&&zRI14 n_31 l) (exV .i64 ((((zRI13 l n_1 n_7 n_8 n_20 n_21 n_27).drop (zRI1 n_31)).take 1).getD 0 AV.undef) (fun n_32=>∃a_33 b_34:Nat,zRI18 n_30 a_33 n_32 b_34∧∀r_35:Nat,Lf (r_35=xorW a_33 b_34)→exI
 .i64 (r_35:Int) (fun n_36=>∃a_37 b_38:Nat,Lf (n_36=(a_37:Int)∧12=(b_38:Int)∧a_37<4294967296∧b_38≤32)∧∀r_39:Nat,Lf (r_39=rotW b_38 a_37)→exI .i64 (r_39:Int) (fun n_40=>ckQ (zRI2 n_28 l&&zRI24 l n_1
 n_7 n_8 n_20 n_21 n_27&&true) (ckQ (zRI24 l n_1 n_7 n_8 n_20 n_21 n_27&&zRI19 n_28 l&&true&&true&&true) (((zRI11 l||oldL 2 (setRange (zRI13 l n_1 n_7 n_8 n_20 n_21 n_27) (zRI1 n_28) [.int .i64 n_40]))&&true)=true∧(True ∧
 (0:Nat)=(0:Nat))∧((∃y_41:Nat,Lf (y_41=0)∧(4:Nat)<(4:Nat)∧ckQ (zRI8 l) (setRange (zRI13 l n_1 n_7 n_8 n_20 n_21 n_27) (zRI1 n_28) [.int .i64 n_40]=cellsNM l∧zRI7∧zRI4 i∧zRI4 k∧zRI16 l∧AV.int .i64 2 =
 AV.int .i64 0∧zRI9 j m))∨(∃y_41:Nat,Lf (y_41=0)∧(2:Nat)<(4:Nat)∧ckQ (zRI8 l) (setRange (zRI13 l n_1 n_7 n_8 n_20 n_21 n_27) (zRI1 n_28) [.int .i64 n_40]=zRI12 l i j k m∧zRI7∧zRI4 i∧zRI4 k∧zRI16 l∧eqqQ
 (AV.int .i64 2)∧zRI9 j m))∨∃y_41:Nat,Lf (y_41=0)∧(0:Nat)<(4:Nat)∧ckQ (zRI8 l) (setRange (zRI13 l n_1 n_7 n_8 n_20 n_21 n_27) (zRI1 n_28) [.int .i64 n_40]=cellsNM (qLM l i j k m)∧zRI7∧zRI4 i∧zRI4 k∧zRI16 l ∧
 AV.int .i64 2=AV.int .i64 4∧zRI9 j m)))))))))))))))))))))))))))))))))))))))))))))))))))))))∧(∀x_0:Nat,Lf (x_0=0)→exI .i64 (i:Int) (fun n_1=>exI .i64 (i:Int) (fun n_2=>ckQ (zRI2 n_2 l&&zRI20 l i j k m&&true) (ckQ
 (zRI20 l i j k m&&zRI14 n_2 l) (exV .i64 ((((zRI12 l i j k m).drop (zRI1 n_2)).take 1).getD 0 AV.undef) (fun n_3=>exI .i64 (j:Int) (fun n_4=>ckQ (zRI2 n_4 l&&zRI20 l i j k m&&true) (ckQ (zRI20 l i j k m&&zRI14 n_4 l) (exV
 .i64 ((((zRI12 l i j k m).drop (zRI1 n_4)).take 1).getD 0 AV.undef) (fun n_5=>exW .i64 (n_3+n_5) (fun n_6=>exI .i64 (n_6.tmod 4294967296) (fun n_7=>ckQ (zRI2 n_1 l&&zRI20 l i j k m&&true) (ckQ (zRI20 l i j k m&&zRI19 n_1 l &&
 true&&true&&true) (exI .i64 (m:Int) (fun n_8=>exI .i64 (m:Int) (fun n_9=>ckQ (zRI2 n_9 l&&zRI10 l i j k m n_1 n_7&&true) (ckQ (zRI10 l i j k m n_1 n_7&&zRI14 n_9 l) (exV .i64 ((((setRange (zRI12 l i j k m) (zRI1 n_1)
 [.int .i64 n_7]).drop (zRI1 n_9)).take 1).getD 0 AV.undef) (fun n_10=>exI .i64 (i:Int) (fun n_11=>ckQ (zRI2 n_11 l&&zRI10 l i j k m n_1 n_7&&true) (ckQ (zRI10 l i j k m n_1 n_7&&zRI14 n_11 l) (exV .i64 ((((setRange (zRI12 l i j
 k m) (zRI1 n_1) [.int .i64 n_7]).drop (zRI1 n_11)).take 1).getD 0 AV.undef) (fun n_12=>∃a_13 b_14:Nat,zRI18 n_10 a_13 n_12 b_14∧∀r_15:Nat,Lf (r_15=xorW a_13 b_14)→exI .i64 (r_15:Int) (fun n_16=>∃a_17 b_18:Nat,Lf
 (n_16=(a_17:Int)∧8=(b_18:Int)∧a_17<4294967296∧b_18≤32)∧∀r_19:Nat,Lf (r_19=rotW b_18 a_17)→exI .i64 (r_19:Int) (fun n_20=>ckQ (zRI2 n_8 l&&zRI10 l i j k m n_1 n_7&&true) (ckQ (zRI10 l i j k m n_1 n_7 &&
 zRI19 n_8 l&&true&&true&&true) (exI .i64 (k:Int) (fun n_21=>exI .i64 (k:Int) (fun n_22=>ckQ (zRI2 n_22 l&&Nat.beq (zRI0 l i j k m n_1 n_7 n_8 n_20).length (zRI3 l)&&true) (ckQ (Nat.beq (zRI0 l i j k m n_1 n_7 n_8
 n_20).length (zRI3 l)&&zRI14 n_22 l) (exV .i64 ((((zRI0 l i j k m n_1 n_7 n_8 n_20).drop (zRI1 n_22)).take 1).getD 0 AV.undef) (fun n_23=>exI .i64 (m:Int) (fun n_24=>ckQ (zRI2 n_24 l&&Nat.beq (zRI0 l i j k m n_1 n_7 n_8
 n_20).length (zRI3 l)&&true) (ckQ (Nat.beq (zRI0 l i j k m n_1 n_7 n_8 n_20).length (zRI3 l)&&zRI14 n_24 l) (exV .i64 ((((zRI0 l i j k m n_1 n_7 n_8 n_20).drop (zRI1 n_24)).take 1).getD 0 AV.undef) (fun n_25=>exW .i64 (n_23+n_25)
 (fun n_26=>exI .i64 (n_26.tmod 4294967296) (fun n_27=>ckQ (zRI2 n_21 l&&Nat.beq (zRI0 l i j k m n_1 n_7 n_8 n_20).length (zRI3 l)&&true) (ckQ (Nat.beq (zRI0 l i j k m n_1 n_7 n_8 n_20).length (zRI3 l)&&zRI19 n_21 l&&true &&
 true&&true) (exI .i64 (j:Int) (fun n_28=>exI .i64 (j:Int) (fun n_29=>ckQ (zRI2 n_29 l&&Nat.beq (zRI15 l i j k m n_1 n_7 n_8 n_20 n_21 n_27).length (zRI3 l)&&true) (ckQ (Nat.beq (zRI15 l i j k m n_1 n_7 n_8 n_20 n_21
 n_27).length (zRI3 l)&&zRI14 n_29 l) (exV .i64 ((((zRI15 l i j k m n_1 n_7 n_8 n_20 n_21 n_27).drop (zRI1 n_29)).take 1).getD 0 AV.undef) (fun n_30=>exI .i64 (k:Int) (fun n_31=>ckQ (zRI2 n_31 l&&Nat.beq (zRI15 l i j k m n_1 n_7
 n_8 n_20 n_21 n_27).length (zRI3 l)&&true) (ckQ (Nat.beq (zRI15 l i j k m n_1 n_7 n_8 n_20 n_21 n_27).length (zRI3 l)&&zRI14 n_31 l) (exV .i64 ((((zRI15 l i j k m n_1 n_7 n_8 n_20 n_21 n_27).drop (zRI1 n_31)).take 1).getD 0 AV.undef)
 (fun n_32=>∃a_33 b_34:Nat,zRI18 n_30 a_33 n_32 b_34∧∀r_35:Nat,Lf (r_35=xorW a_33 b_34)→exI .i64 (r_35:Int) (fun n_36=>∃a_37 b_38:Nat,Lf (n_36=(a_37:Int)∧7=(b_38:Int)∧a_37<4294967296∧b_38≤32)∧∀
 r_39:Nat,Lf (r_39=rotW b_38 a_37)→exI .i64 (r_39:Int) (fun n_40=>ckQ (zRI2 n_28 l&&Nat.beq (zRI15 l i j k m n_1 n_7 n_8 n_20 n_21 n_27).length (zRI3 l)&&true) (ckQ (Nat.beq (zRI15 l i j k m n_1 n_7 n_8 n_20 n_21 n_27).length
 (zRI3 l)&&zRI19 n_28 l&&true&&true&&true) (((zRI11 l||oldL 2 (setRange (zRI15 l i j k m n_1 n_7 n_8 n_20 n_21 n_27) (zRI1 n_28) [.int .i64 n_40]))&&true)=true∧(True∧(0:Nat)=(0:Nat))∧((∃y_41:Nat,Lf (y_41=0) ∧
 (4:Nat)<(2:Nat)∧ckQ (zRI8 l) (setRange (zRI15 l i j k m n_1 n_7 n_8 n_20 n_21 n_27) (zRI1 n_28) [.int .i64 n_40]=cellsNM l∧zRI7∧zRI4 i∧zRI4 k∧zRI16 l∧AV.int .i64 4=AV.int .i64 0∧zRI9 j m))∨(∃y_41:Nat,Lf (y_41
 = 0)∧(2:Nat)<(2:Nat)∧ckQ (zRI8 l) (setRange (zRI15 l i j k m n_1 n_7 n_8 n_20 n_21 n_27) (zRI1 n_28) [.int .i64 n_40]=zRI12 l i j k m∧zRI7∧zRI4 i∧zRI4 k∧zRI16 l∧AV.int .i64 4=AV.int .i64 2∧zRI9 j m))∨∃y_41 :
 Nat,Lf (y_41=0)∧(0:Nat)<(2:Nat)∧ckQ (zRI8 l) (setRange (zRI15 l i j k m n_1 n_7 n_8 n_20 n_21 n_27) (zRI1 n_28) [.int .i64 n_40]=cellsNM (qLM l i j k m)∧zRI7∧zRI4 i∧zRI4 k∧zRI16 l∧eqqQ (AV.int .i64 4)∧zRI9 j
 m)))))))))))))))))))))))))))))))))))))))))))))))))))))))∧∀x_0:Nat,Lf (x_0=0)→Q (.ret (.sl 0 (zRI3 l) 0 l.length 1)) [Blk.mk BK.grow (zRI17 l) (cellsNM (qLM l i j k m)),Blk.mk BK.exact true [.int .i64 16,.int .i64 12,.int .i64
 8,.int .i64 7]] {})))):=by kernel_rfl

theorem exI_of {k:IntKind} {x y:Int} {K:Int→Prop} (h:x=y) (hk:K y):∃n,AV.int k x=AV.int k n∧K n:=⟨y,by rw[h],hk⟩
theorem add_eq (a b:Nat):((a:Int)+(b:Int)).tmod 4294967296=((addW a b:Nat):Int):=by
 rw[show (a:Int)+(b:Int)=((a+b:Nat):Int) by omega]
 exact tmodN (a+b) 4294967296
theorem add_lt (a b:Nat):addW a b<4294967296:=Nat.mod_lt _ (by decide)
theorem set_lt {l:List Nat} {B i v:Nat} (h:∀x,l.getD x 0<B) (hv:v<B):∀x,(l.set i v).getD x 0<B:=fun x=>by
 rw[List.getD_eq_getElem?_getD,List.getElem?_set]
 split
 ·split
  ·exact hv
  ·have:=h x
   simp
   omega
 ·have:=h x
  rwa [List.getD_eq_getElem?_getD] at this
theorem oneL_N (l:List Nat):oneL (cellsNM l)=true:=by
 induction l with
 | nil=>rfl
 | cons x l ih=>simp only[cellsNM,List.map_cons,oneL,one,Bool.true_and] at ih ⊢;exact ih
theorem half_len (r1 r2:Nat) (l:List Nat) (i j k m:Nat):(halfM r1 r2 l i j k m).length=l.length:=by simp[halfM,hxM,haM]
theorem half_lt (r1 r2:Nat) {l:List Nat} (i j k m:Nat) (h:∀x,l.getD x 0<4294967296):∀x,(halfM r1 r2 l i j k m).getD x 0<4294967296:=
 set_lt (set_lt (set_lt (set_lt h (add_lt _ _)) (rotW_lt _ _)) (add_lt _ _)) (rotW_lt _ _)
theorem oldL_N' (l:List Nat):(oldL 0 (cellsNM l)==oldL 0 (cellsNM l))=true:=by simp
theorem quarter_run (t:Nat) (l:List Nat) (i j k m:Nat) (hl:l.length=16) (hb:∀x,l.getD x 0<4294967296) (hi:i<16) (hj:j<16) (hk:k<16) (hm:m<16) (Q:Out→List Blk→Gh→Prop)
  (hq:∀b1,Q (.ret (.sl 0 16 0 16 1)) [⟨.grow,true,cellsNM (qLM l i j k m)⟩,b1] {}):∃hv hb,goal_64f hv hb t l i j k m Q:=by
 obtain ⟨hv,hb',e⟩:∃hv hb,goal_64f hv hb t l i j k m Q=_:=⟨_,_,vc_64f t l i j k m Q⟩
 refine ⟨hv,hb',e.mpr ?_⟩
 delta zRI3 zRI17 zRI7 zRI4 zRI16 zRI9 zRI12 zRI2 zRI22 zRI1 zRI14 zRI19 zRI6 zRI21 zRI18 zRI5 zRI23 zRI13 zRI24 zRI11 zRI8 zRI20 zRI10 zRI0 zRI15
 clear e
 have hcl:(cellsNM l).length=16:=by rw[cellsN_len,hl]
 refine ckI (by rw[hcl,hl,oneL_N];rfl) ?_
 rw[show Nat.beq l.length 0=false by rw[hl];rfl]
 refine ckI (by rw[hl];rfl) (ckI (by rw[hl];rfl) ⟨.inl ⟨0,⟨rfl⟩,ckI (oldL_N' _) ⟨rfl,rfl,rfl,rfl,rfl,rfl,rfl,rfl,rfl,trivial⟩⟩, ?_, ?_, ?_⟩)
 ·rintro _ ⟨rfl⟩
  refine ⟨_,rfl,_,rfl,ckI (by simp[cellsN_len,hl,hl];omega) (ckI (by simp[cellsN_len,hl,hl];omega) (getN2 (j:=i) (by omega) (by simp) ⟨_,rfl,ckI (by simp[cellsN_len,hl,hl];omega) (ckI (by simp[cellsN_len,hl,hl];omega) (getN2 (j:=j) (by omega) (by simp) (wrapI (by have:=hb i;have:=hb j;omega) (by have:=hb i;have:=hb j;omega) (exI_of (add_eq _ _) (ckI (by simp[cellsN_len,hl,hl];omega) (ckI (by simp[cellsN_len,hl,hl];omega) ?_))))))⟩))⟩
  rw[setN (l:=l) (j:=i) (w:=addW (l.getD i 0) (l.getD j 0)) (by omega) (by simp) rfl]
  obtain ⟨A1,hA1⟩:∃A1,A1=haM l i j:=⟨_,rfl⟩
  rw[show l.set i (addW (l.getD i 0) (l.getD j 0))=A1 from hA1.symm]
  have lA1:A1.length=16:=by rw[hA1,haM,List.length_set];exact hl
  have bA1:∀x,A1.getD x 0<4294967296:=by rw[hA1];exact set_lt hb (add_lt _ _)
  refine ⟨_,rfl,_,rfl,ckI (by simp[cellsN_len,lA1,hl];omega) (ckI (by simp[cellsN_len,lA1,hl];omega) (getN2 (j:=m) (by omega) (by simp) ⟨_,rfl,ckI (by simp[cellsN_len,lA1,hl];omega) (ckI (by simp[cellsN_len,lA1,hl];omega) (getN2 (j:=i) (by omega) (by simp) ⟨_,_,⟨rfl,rfl,bA1 m,bA1 i⟩, ?_⟩))⟩))⟩
  rintro x1 ⟨hx1⟩
  refine ⟨_,rfl,x1,16,⟨rfl,rfl,by rw[hx1];exact xorW_lt _ _,by decide⟩, ?_⟩
  rintro x2 ⟨hx2⟩
  refine ⟨_,rfl,ckI (by simp[cellsN_len,lA1,hl];omega) (ckI (by simp[cellsN_len,lA1,hl];omega) ?_)⟩
  rw[setN (l:=A1) (j:=m) (w:=x2) (by omega) (by simp) rfl]
  obtain ⟨B1,hB1⟩:∃B1,B1=hxM 16 A1 m i:=⟨_,rfl⟩
  rw[show A1.set m x2=B1 by rw[hB1,hxM,←hx1,←hx2]]
  have lB1:B1.length=16:=by rw[hB1,hxM,List.length_set];exact lA1
  have bB1:∀x,B1.getD x 0<4294967296:=by rw[hB1];exact set_lt bA1 (rotW_lt _ _)
  refine ⟨_,rfl,_,rfl,ckI (by simp[cellsN_len,lB1,hl];omega) (ckI (by simp[cellsN_len,lB1,hl];omega) (getN2 (j:=k) (by omega) (by simp) ⟨_,rfl,ckI (by simp[cellsN_len,lB1,hl];omega) (ckI (by simp[cellsN_len,lB1,hl];omega) (getN2 (j:=m) (by omega) (by simp) (wrapI (by have:=bB1 k;have:=bB1 m;omega) (by have:=bB1 k;have:=bB1 m;omega) (exI_of (add_eq _ _) (ckI (by simp[cellsN_len,lB1,hl];omega) (ckI (by simp[cellsN_len,lB1,hl];omega) ?_))))))⟩))⟩
  rw[setN (l:=B1) (j:=k) (w:=addW (B1.getD k 0) (B1.getD m 0)) (by omega) (by simp) rfl]
  obtain ⟨C1,hC1⟩:∃C1,C1=haM B1 k m:=⟨_,rfl⟩
  rw[show B1.set k (addW (B1.getD k 0) (B1.getD m 0))=C1 from hC1.symm]
  have lC1:C1.length=16:=by rw[hC1,haM,List.length_set];exact lB1
  have bC1:∀x,C1.getD x 0<4294967296:=by rw[hC1];exact set_lt bB1 (add_lt _ _)
  refine ⟨_,rfl,_,rfl,ckI (by simp[cellsN_len,lC1,hl];omega) (ckI (by simp[cellsN_len,lC1,hl];omega) (getN2 (j:=j) (by omega) (by simp) ⟨_,rfl,ckI (by simp[cellsN_len,lC1,hl];omega) (ckI (by simp[cellsN_len,lC1,hl];omega) (getN2 (j:=k) (by omega) (by simp) ⟨_,_,⟨rfl,rfl,bC1 j,bC1 k⟩, ?_⟩))⟩))⟩
  rintro x1 ⟨hx1⟩
  refine ⟨_,rfl,x1,12,⟨rfl,rfl,by rw[hx1];exact xorW_lt _ _,by decide⟩, ?_⟩
  rintro x2 ⟨hx2⟩
  refine ⟨_,rfl,ckI (by simp[cellsN_len,lC1,hl];omega) (ckI (by simp[cellsN_len,lC1,hl];omega) ?_)⟩
  rw[setN (l:=C1) (j:=j) (w:=x2) (by omega) (by simp) rfl]
  obtain ⟨D1,hD1⟩:∃D1,D1=hxM 12 C1 j k:=⟨_,rfl⟩
  rw[show C1.set j x2=D1 by rw[hD1,hxM,←hx1,←hx2]]
  have lD1:D1.length=16:=by rw[hD1,hxM,List.length_set];exact lC1
  have bD1:∀x,D1.getD x 0<4294967296:=by rw[hD1];exact set_lt bC1 (rotW_lt _ _)
  exact ⟨by rw[oldL_N];rfl,⟨trivial,rfl⟩,.inr (.inl ⟨0,⟨rfl⟩,by decide,ckI (by rw[oldL_N];rfl) ⟨by rw[hD1,hC1,hB1,hA1];rfl,rfl,rfl,rfl,rfl,rfl,rfl,rfl,rfl,trivial⟩⟩)⟩
 ·rintro _ ⟨rfl⟩
  obtain ⟨L,hL⟩:∃L,L=halfM 16 12 l i j k m:=⟨_,rfl⟩
  have lL:L.length=16:=by rw[hL,half_len,hl]
  have bL:∀x,L.getD x 0<4294967296:=by rw[hL];exact half_lt 16 12 i j k m hb
  rw[←hL]
  refine ⟨_,rfl,_,rfl,ckI (by simp[cellsN_len,lL,hl];omega) (ckI (by simp[cellsN_len,lL,hl];omega) (getN2 (j:=i) (by omega) (by simp) ⟨_,rfl,ckI (by simp[cellsN_len,lL,hl];omega) (ckI (by simp[cellsN_len,lL,hl];omega) (getN2 (j:=j) (by omega) (by simp) (wrapI (by have:=bL i;have:=bL j;omega) (by have:=bL i;have:=bL j;omega) (exI_of (add_eq _ _) (ckI (by simp[cellsN_len,lL,hl];omega) (ckI (by simp[cellsN_len,lL,hl];omega) ?_))))))⟩))⟩
  rw[setN (l:=L) (j:=i) (w:=addW (L.getD i 0) (L.getD j 0)) (by omega) (by simp) rfl]
  obtain ⟨A2,hA2⟩:∃A2,A2=haM L i j:=⟨_,rfl⟩
  rw[show L.set i (addW (L.getD i 0) (L.getD j 0))=A2 from hA2.symm]
  have lA2:A2.length=16:=by rw[hA2,haM,List.length_set];exact lL
  have bA2:∀x,A2.getD x 0<4294967296:=by rw[hA2];exact set_lt bL (add_lt _ _)
  refine ⟨_,rfl,_,rfl,ckI (by simp[cellsN_len,lA2,hl];omega) (ckI (by simp[cellsN_len,lA2,hl];omega) (getN2 (j:=m) (by omega) (by simp) ⟨_,rfl,ckI (by simp[cellsN_len,lA2,hl];omega) (ckI (by simp[cellsN_len,lA2,hl];omega) (getN2 (j:=i) (by omega) (by simp) ⟨_,_,⟨rfl,rfl,bA2 m,bA2 i⟩, ?_⟩))⟩))⟩
  rintro x1 ⟨hx1⟩
  refine ⟨_,rfl,x1,8,⟨rfl,rfl,by rw[hx1];exact xorW_lt _ _,by decide⟩, ?_⟩
  rintro x2 ⟨hx2⟩
  refine ⟨_,rfl,ckI (by simp[cellsN_len,lA2,hl];omega) (ckI (by simp[cellsN_len,lA2,hl];omega) ?_)⟩
  rw[setN (l:=A2) (j:=m) (w:=x2) (by omega) (by simp) rfl]
  obtain ⟨B2,hB2⟩:∃B2,B2=hxM 8 A2 m i:=⟨_,rfl⟩
  rw[show A2.set m x2=B2 by rw[hB2,hxM,←hx1,←hx2]]
  have lB2:B2.length=16:=by rw[hB2,hxM,List.length_set];exact lA2
  have bB2:∀x,B2.getD x 0<4294967296:=by rw[hB2];exact set_lt bA2 (rotW_lt _ _)
  refine ⟨_,rfl,_,rfl,ckI (by simp[cellsN_len,lB2,hl];omega) (ckI (by simp[cellsN_len,lB2,hl];omega) (getN2 (j:=k) (by omega) (by simp) ⟨_,rfl,ckI (by simp[cellsN_len,lB2,hl];omega) (ckI (by simp[cellsN_len,lB2,hl];omega) (getN2 (j:=m) (by omega) (by simp) (wrapI (by have:=bB2 k;have:=bB2 m;omega) (by have:=bB2 k;have:=bB2 m;omega) (exI_of (add_eq _ _) (ckI (by simp[cellsN_len,lB2,hl];omega) (ckI (by simp[cellsN_len,lB2,hl];omega) ?_))))))⟩))⟩
  rw[setN (l:=B2) (j:=k) (w:=addW (B2.getD k 0) (B2.getD m 0)) (by omega) (by simp) rfl]
  obtain ⟨C2,hC2⟩:∃C2,C2=haM B2 k m:=⟨_,rfl⟩
  rw[show B2.set k (addW (B2.getD k 0) (B2.getD m 0))=C2 from hC2.symm]
  have lC2:C2.length=16:=by rw[hC2,haM,List.length_set];exact lB2
  have bC2:∀x,C2.getD x 0<4294967296:=by rw[hC2];exact set_lt bB2 (add_lt _ _)
  refine ⟨_,rfl,_,rfl,ckI (by simp[cellsN_len,lC2,hl];omega) (ckI (by simp[cellsN_len,lC2,hl];omega) (getN2 (j:=j) (by omega) (by simp) ⟨_,rfl,ckI (by simp[cellsN_len,lC2,hl];omega) (ckI (by simp[cellsN_len,lC2,hl];omega) (getN2 (j:=k) (by omega) (by simp) ⟨_,_,⟨rfl,rfl,bC2 j,bC2 k⟩, ?_⟩))⟩))⟩
  rintro x1 ⟨hx1⟩
  refine ⟨_,rfl,x1,7,⟨rfl,rfl,by rw[hx1];exact xorW_lt _ _,by decide⟩, ?_⟩
  rintro x2 ⟨hx2⟩
  refine ⟨_,rfl,ckI (by simp[cellsN_len,lC2,hl];omega) (ckI (by simp[cellsN_len,lC2,hl];omega) ?_)⟩
  rw[setN (l:=C2) (j:=j) (w:=x2) (by omega) (by simp) rfl]
  obtain ⟨D2,hD2⟩:∃D2,D2=hxM 7 C2 j k:=⟨_,rfl⟩
  rw[show C2.set j x2=D2 by rw[hD2,hxM,←hx1,←hx2]]
  have lD2:D2.length=16:=by rw[hD2,hxM,List.length_set];exact lC2
  have bD2:∀x,D2.getD x 0<4294967296:=by rw[hD2];exact set_lt bC2 (rotW_lt _ _)
  exact ⟨by rw[oldL_N];rfl,⟨trivial,rfl⟩,.inr (.inr ⟨0,⟨rfl⟩,by decide,ckI (by rw[oldL_N];rfl) ⟨by rw[hD2,hC2,hB2,hA2,qLM,←hL];rfl,rfl,rfl,rfl,rfl,rfl,rfl,rfl,rfl,trivial⟩⟩)⟩
 ·rintro _ ⟨rfl⟩
  have h:=hq ⟨.exact,true,[AV.int .i64 16,AV.int .i64 12,AV.int .i64 8,AV.int .i64 7]⟩
  rw[hcl,hl,oldL_N]
  exact h
theorem qL_len (l:List Nat) (i j k m:Nat):(qLM l i j k m).length=l.length:=by rw[qLM,half_len,half_len]
theorem qL_lt {l:List Nat} (i j k m:Nat) (h:∀x,l.getD x 0<4294967296):∀x,(qLM l i j k m).getD x 0<4294967296:=half_lt 8 7 i j k m (half_lt 16 12 i j k m h)
def cQu:Con
 | [.lst _ cs n 1,.int .i64 a,.int .i64 b,.int .i64 c,.int .i64 d],H,K=>∃ (l:List Nat) (i j k m:Nat),Lf (cs=cellsNM l∧n=16∧l.length=16∧(∀x,l.getD x 0<4294967296)∧a=(i:Int)∧b=(j:Int)∧c=(k:Int)∧d=(m:Int)∧i<16∧j<16∧k<16∧m<16) ∧
   ∀r:List Nat,Lf (r=qLM l i j k m)→K (.ret (.lst 0 (cellsNM r) 16 1)) H
 | _,_,_=>False
theorem qu_raw:ValidF Tryz.prog gl0 91 cQu:=by
 refine valid_frz (enters_of (by kernel_rfl)) gl0_noY 9 (nlR [1]) (wk_nlR _) fun args H Q hc => ?_
 unfold cQu at hc
 split at hc
 ·rename_i t cs n a b c d
  obtain ⟨l,i,j,k,m,⟨rfl,rfl,hl,hb,rfl,rfl,rfl,rfl,hi,hj,hk,hm⟩,hq⟩:=hc
  have hl2:(qLM l i j k m).length=16:=by rw[qL_len,hl]
  obtain ⟨hv,hb',h⟩:=quarter_run t l i j k m hl hb hi hj hk hm (fun o H' _=>∃v,o=.ret v∧Q (.ret (nlR [1] (frzV 0 H' 9 v))) H)
   (fun b1=>⟨_,rfl,by rw[frz_num (by rw[hl2]),hl2];exact hq _ ⟨rfl⟩⟩)
  rw[←hl]
  exact ⟨by simp[oldL,old,oldL_N],by simp[noYL,noY,noY_N],_,1000,envFor04 smQu_ok _ _ _,rfl,h⟩
 ·exact hc.elim
def cQuV:Con:=fun args H Q=>lendL [1,0,0,0,0] H args fun a=>cQu a H Q
theorem qu_ok:ValidF Tryz.prog gl0 91 cQuV:=valid_view qu_raw gl0_noY [1,0,0,0,0] fun args H Q hc=>by
 unfold cQu at hc
 split at hc
 ·obtain ⟨l,i,j,k,m,h,hq⟩:=hc
  exact ⟨l,i,j,k,m,h,fun r hr=>⟨rfl,⟨_,rfl,by simp[noT,noT_cellsN]⟩,hq r hr⟩⟩
 ·exact hc.elim
end Go.Proofs.YtiholnebhmjbjaaGreat
