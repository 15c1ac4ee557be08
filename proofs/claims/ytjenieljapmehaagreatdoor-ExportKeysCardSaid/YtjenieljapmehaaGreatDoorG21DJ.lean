/-
  Chapter 18: the reference's Mixed: residual.
-/
import Derived.Test.YtjenieljapmehaaGreatDoorGmB
import Derived.Test.YtjenieljapmehaaGreatDoorG21CC
import Derived.Test.YtjenieljapmehaaGreatDoorGmD
set_option linter.unusedSimpArgs false
set_option linter.unusedVariables false
set_option linter.unusedSectionVars false
namespace Go.Proofs.YtjenieljapmehaaGreatDoor
open Go.RowKit
set_option maxRecDepth 1000000

def smMi:SM:=lookS [(153,cWord),(155,cValue),(157,cTurn),(158,cMove),(159,cXorB),(160,cAndB),(161,cNotB),(152,cNum51)]
theorem smMi_ok:∀f g,smMi f=some g→ValidF Tryz.prog gl0 f g:=lookS_ok _ (by simp only[List.mem_cons,List.not_mem_nil,or_false,forall_eq_or_imp,forall_eq];exact ⟨word_ok,value_ok,turn_ok,move_ok,xorB_ok,andB_ok,notB_ok,num51_ok⟩)
def inv_116a (b:List UInt8) (s:S):List (List LInv):=match s.hp with
 | [b0]=>[[
  { α:=Nat,pre:=fun x=>Lf (x=0),st:=fun _=>⟨mkT [(1,s.tm.get 1),(2,s.tm.get 2),(3,s.tm.get 3),(7,.nils),(8,.int .i64 0)],[b0]⟩,mu:=fun _=>100 },
  { α:=List Nat,pre:=fun w=>Lf (1≤w.length∧w.length≤64∧w=schM b w.length),st:=fun w=>⟨mkT [(1,s.tm.get 1),(2,s.tm.get 2),(3,s.tm.get 3),(7,.sl 1 w.length 0 w.length 1),(8,.int .i64 (w.length:Nat))],[b0,⟨.grow,true,cells6M w⟩]⟩,mu:=fun w=>64-w.length }]]
 | _=>[]
def inv_116b (ks:List Nat) (v0:W8) (s:S):List (List LInv):=match s.hp,s.tm.get 7,s.tm.get 11 with
 | [b0,⟨k1,f1,cs⟩,b2],t7,t11=>[[
  { α:=Nat,pre:=fun x=>Lf (x=0),st:=fun _=>⟨mkT [(1,s.tm.get 1),(3,s.tm.get 3),(7,t7),(11,t11),(12,.int .i64 0)],[b0,⟨k1,f1,cs⟩,b2]⟩,mu:=fun _=>100 },
  { α:=Nat×W8,pre:=fun x=>Lf (1≤x.1∧x.1≤64∧okW8 x.2∧x.2=rndsM ks (wsM cs) x.1 v0),st:=fun x=>⟨mkT [(1,s.tm.get 1),(3,s.tm.get 3),(7,t7),(11,.lst 0 (cel6 x.2) 8 1),(12,.int .i64 (x.1:Nat))],[b0,⟨k1,f1,cs⟩,b2]⟩,mu:=fun x=>64-x.1 }]]
 | _,_,_=>[]
noncomputable def env_116 (hv:Nat→Option Pa) (hb:Nat→Option Bool) (b:List UInt8) (ks:List Nat) (v0:W8):Env := { e18h smMi (fun k=>Nat.beq k 602150||(Nat.beq k 602192||(Nat.beq k 602301||Nat.beq k 602316))) (fun i=>bif Nat.beq i 147000 then some (inv_116a b) else bif Nat.beq i 147002 then some (inv_116b ks v0) else none) hv hb with hf:=fun i=>bif Nat.beq i 147002 then [(11,1)] else [] }
theorem envFor_116 (hv:Nat→Option Pa) (hb:Nat→Option Bool) (b:List UInt8) (ks:List Nat) (v0:W8):EnvFor Tryz.prog (env_116 hv hb b ks v0):=⟨mixed18,names18,tabA_ok,smMi_ok⟩
noncomputable def goal_116 (hv:Nat→Option Pa) (hb:Nat→Option Bool) (ss:List Nat) (b:List UInt8) (ks:List Nat) (v0:W8) (Q:Out→List Blk→Gh→Prop):Prop:=
 callx (env_116 hv hb b ks v0) (wpx (env_116 hv hb b ks v0) 1000) 147 [.agg [.lst 0 (cells6M ss) 8 1,.lst 0 (cells6M ks) 64 1],.lst 0 (cel6 v0) 8 1,.str b] [] {} Q
abbrev q8DJ_116_0 (v0:W8):Prop:=
eqqQ (AV.lst 0 [.int .i64 (v0.1:Int),.int .i64 (v0.2:Int),.int .i64 (v0.3:Int),.int .i64 (v0.4:Int),.int .i64 (v0.5:Int),.int .i64 (v0.6:Int),.int .i64 (v0.7:Int),.int .i64 (v0.8:Int)] 8 1)
abbrev q8DJ_116_1 (v0:W8):Prop:=
eqqQ [AV.int .i64 (v0.1:Int),.int .i64 (v0.2:Int),.int .i64 (v0.3:Int),.int .i64 (v0.4:Int),.int .i64 (v0.5:Int),.int .i64 (v0.6:Int),.int .i64 (v0.7:Int),.int .i64 (v0.8:Int)]
abbrev q8DJ_116_2 (n_53:Int) (n_54:Int) (n_55:Int) (Q:Out→List Blk→Gh→Prop) (ss:List Nat) (ks:List Nat) (x_0:List Nat) (v0:W8) (n_10:Int) (n_17:Int) (n_24:Int) (n_31:Int) (n_38:Int) (n_45:Int) (n_52:Int):Prop:=
AV.int .i64 (IntKind.wrap .i64 (n_53+n_54))=AV.int .i64 n_55∧exW .i64 (n_55+0) fun n_56=>exW .i64 (n_56+0) fun n_57=>exW .i64 (n_57+0) fun n_58=>exI .i64 (n_58.tmod 4294967296) fun n_59=>true=true∧Q (.ret (.sl 4 8 0
 8 1)) [Blk.mk BK.exact true [.lst 0 (cells6M ss) 8 1,.lst 0 (cells6M ks) 64 1],Blk.mk BK.grow true (cells6M x_0),Blk.mk BK.grow true [.int .i64 (v0.1:Int),.int .i64 (v0.2:Int),.int .i64 (v0.3:Int),.int .i64 (v0.4:Int),.int
 .i64 (v0.5:Int),.int .i64 (v0.6:Int),.int .i64 (v0.7:Int),.int .i64 (v0.8:Int)],Blk.mk BK.exact true [.int .i64 n_10],Blk.mk BK.grow true [.int .i64 n_10,.int .i64 n_17,.int .i64 n_24,.int .i64 n_31,.int .i64 n_38,.int
 .i64 n_45,.int .i64 n_52,.int .i64 n_59]] {}
abbrev q8DJ_116_3 (x_0:List Nat) (n_100:Int) (n_89:Int) (n_90:Int) (n_91:Int) (n_105:Int) (n_93:Int) (n_94:Int) (n_95:Int) (y_108:Nat×W8) (n_107:Int):Prop:=
eqqQ (AV.ptr 0 2 0)∧eqqQ (AV.sl 1 x_0.length 0 x_0.length 1)∧AV.lst 0 [.int .i64 n_100,.int .i64 n_89,.int .i64 n_90,.int .i64 n_91,.int .i64 n_105,.int .i64 n_93,.int .i64 n_94,.int .i64 n_95] 8 1=AV.lst 0 [.int .i64
 (y_108.2.1:Int),.int .i64 (y_108.2.2:Int),.int .i64 (y_108.2.3:Int),.int .i64 (y_108.2.4:Int),.int .i64 (y_108.2.5:Int),.int .i64 (y_108.2.6:Int),.int .i64 (y_108.2.7:Int),.int .i64 (y_108.2.8:Int)] 8 1∧AV.int .i64
 n_107=AV.int .i64 (y_108.1:Int)∧True
abbrev q8DJ_116_4 (x_0:List Nat) (n_100:Int) (n_89:Int) (n_90:Int) (n_91:Int) (n_105:Int) (n_93:Int) (n_94:Int) (n_95:Int) (n_107:Int):Prop:=
eqqQ (AV.ptr 0 2 0)∧eqqQ (AV.sl 1 x_0.length 0 x_0.length 1)∧AV.lst 0 [.int .i64 n_100,.int .i64 n_89,.int .i64 n_90,.int .i64 n_91,.int .i64 n_105,.int .i64 n_93,.int .i64 n_94,.int .i64 n_95] 8 1=AV.sl 2 8 0 8 1∧AV.int .i64
 n_107=AV.int .i64 0∧True
abbrev q8DJ_116_5 (x_0:List Nat) (y_12:List Nat) (b:List UInt8) (n_11:Int):Prop:=
eqqQ (AV.ptr 0 2 0)∧AV.sl 1 (x_0.length+1) 0 (x_0.length+1) 1=AV.sl 1 y_12.length 0 y_12.length 1∧eqqQ (AV.str b)∧AV.int .i64 n_11=AV.int .i64 (y_12.length:Int)∧True
abbrev q8DJ_116_6 (x_0:List Nat) (ss:List Nat) (ks:List Nat):Prop:=
∃y_12:Nat,Lf (y_12=0)∧100<64-x_0.length∧eqqQ [AV.lst 0 (cells6M ss) 8 1,.lst 0 (cells6M ks) 64 1]∧False
theorem vc_116 (ss:List Nat) (b:List UInt8) (ks:List Nat) (v0:W8) (Q:Out→List Blk→Gh→Prop):goal_116 (lookV [(602148,.str),(602135,.int .i64),(602139,.int .i64),(602143,.int .i64),(602144,.int .i64),(602145,.int
 .i64),(602146,.int .i64),(602147,.int .i64),(602137,.int .i64),(602138,.int .i64),(602153,.int .i64),(602154,.int .i64),(602156,.int .i64),(602159,.int .i64),(602160,.int .i64),(602162,.int .i64),(602166,.int .i64),
 (602167,.int .i64),(602169,.int .i64),(602171,.int .i64),(602172,.int .i64),(602174,.int .i64),(630797,.int .i64),(630799,.int .i64),(630801,.int .i64),(630803,.int .i64),(630804,.int .i64),(602203,.int .i64),(602207,
 .int .i64),(602211,.int .i64),(602215,.int .i64),(602219,.int .i64),(602223,.int .i64),(602227,.int .i64),(602249,.int .i64),(602253,.int .i64),(602280,.int .i64),(602283,.int .i64),(602286,.int .i64),(602289,.int
 .i64),(602294,.int .i64),(602297,.int .i64),(602300,.int .i64),(602197,.int .i64),(602247,.int .i64),(602251,.int .i64),(602199,.int .i64),(602200,.int .i64),(602310,.int .i64),(602314,.int .i64)]) (lookB [(643070,
 true),(634878,true)]) ss b ks v0 Q=(((∃x_0:Nat,Lf (x_0=0)∧eqqQ [AV.lst 0 (cells6M ss) 8 1,.lst 0 (cells6M ks) 64 1]∧q8DJ_116_0 v0∧eqqQ (AV.ptr 0 2 0)∧AV.nils=AV.nils∧eqqQ (AV.str b)∧eqqQ (AV.int .i64 0)∧True)∨∃
 x_0:List Nat,Lf (1≤x_0.length∧x_0.length≤64∧x_0=schM b x_0.length)∧eqqQ [AV.lst 0 (cells6M ss) 8 1,.lst 0 (cells6M ks) 64 1]∧False)∧(∀x_0:Nat,Lf (x_0=0)→exI .i64 0 (fun n_1=>ckQ (decide (n_1<64)) (exI .i64 0
 (fun n_2=>bif decide (n_2<16) then exI .i64 0 (fun n_3=>exW .i64 (4*n_3) (fun n_4=>exI .i64 0 (fun n_5=>exW .i64 (4*n_5) (fun n_6=>exW .i64 (n_6+4) (fun n_7=>ckQ (decide (0≤n_4)&&decide (0≤n_7)&&Nat.ble
 n_4.toNat n_7.toNat&&Nat.ble n_7.toNat b.length) (exS (.str ((b.drop n_4.toNat).take (n_7.toNat-n_4.toNat))) (fun s_8=>Lf (s_8.length≤7)∧∀x_9:Int,Lf (x_9=beM s_8)→exI .i64 0 (fun n_10=>exW .i64 (n_10+1) (fun n_11=>
 (True∧(0:Nat)=(0:Nat))∧((∃y_12:Nat,Lf (y_12=0)∧(100:Nat)<(100:Nat)∧eqqQ [AV.lst 0 (cells6M ss) 8 1,.lst 0 (cells6M ks) 64 1]∧False)∨∃y_12:List Nat,Lf (1≤y_12.length∧y_12.length≤64∧y_12=schM b
 y_12.length)∧64-y_12.length<100∧eqqQ [AV.lst 0 (cells6M ss) 8 1,.lst 0 (cells6M ks) 64 1]∧[AV.int .i64 x_9]=cells6M y_12∧q8DJ_116_0 v0∧eqqQ (AV.ptr 0 2 0)∧AV.sl 1 1 0 1 1=AV.sl 1 y_12.length 0 y_12.length 1∧eqqQ
 (AV.str b)∧AV.int .i64 n_11=AV.int .i64 (y_12.length:Int)∧True)))))))))) else exI .i64 0 (fun n_3=>exW .i64 (n_3-15) (fun n_4=>False))))))∧∀x_0:List Nat,Lf (1≤x_0.length∧x_0.length≤64∧x_0=schM b x_0.length) →
 exI .i64 (x_0.length:Int) (fun n_1=>bif decide (n_1<64) then exI .i64 (x_0.length:Int) (fun n_2=>bif decide (n_2<16) then exI .i64 (x_0.length:Int) (fun n_3=>exW .i64 (4*n_3) (fun n_4=>exI .i64 (x_0.length:Int) (fun
 n_5=>exW .i64 (4*n_5) (fun n_6=>exW .i64 (n_6+4) (fun n_7=>ckQ (decide (0≤n_4)&&decide (0≤n_7)&&Nat.ble n_4.toNat n_7.toNat&&Nat.ble n_7.toNat b.length) (exS (.str ((b.drop n_4.toNat).take (n_7.toNat-n_4.toNat))) (fun
 s_8=>Lf (s_8.length≤7)∧∀x_9:Int,Lf (x_9=beM s_8)→ckQ (Nat.beq (cells6M x_0).length x_0.length&&true&&Nat.beq (0+x_0.length*1) x_0.length&&Nat.ble (x_0.length+1) 1099511627776&&Nat.ble ((x_0.length+1)*8)
 1099511627776) (exI .i64 (x_0.length:Int) (fun n_10=>exW .i64 (n_10+1) (fun n_11=>(True∧(0:Nat)=(0:Nat))∧(q8DJ_116_6 x_0 ss ks∨∃y_12:List Nat,Lf (1≤y_12.length∧y_12.length≤64∧y_12=schM b y_12.length)∧64
 - y_12.length<64-x_0.length∧eqqQ [AV.lst 0 (cells6M ss) 8 1,.lst 0 (cells6M ks) 64 1]∧cells6M x_0++[AV.int .i64 x_9]=cells6M y_12∧q8DJ_116_0 v0∧q8DJ_116_5 x_0 y_12 b n_11))))))))))) else exI .i64 (x_0.length:Int) (fun
 n_3=>exW .i64 (n_3-15) (fun n_4=>ckQ (decide (0≤n_4)&&Nat.blt n_4.toNat x_0.length&&Nat.beq (cells6M x_0).length x_0.length&&true) (ckQ (Nat.beq (cells6M x_0).length x_0.length&&Nat.blt (0+n_4.toNat*1) x_0.length) (exV
 .i64 ((((cells6M x_0).drop (0+n_4.toNat*1)).take 1).getD 0 AV.undef) (fun n_5=>exI .i64 (x_0.length:Int) (fun n_6=>exW .i64 (n_6-2) (fun n_7=>ckQ (decide (0≤n_7)&&Nat.blt n_7.toNat x_0.length&&Nat.beq (cells6M
 x_0).length x_0.length&&true) (ckQ (Nat.beq (cells6M x_0).length x_0.length&&Nat.blt (0+n_7.toNat*1) x_0.length) (exV .i64 ((((cells6M x_0).drop (0+n_7.toNat*1)).take 1).getD 0 AV.undef) (fun n_8=>Lf (0≤n_5∧n_5 <
 4294967296)∧∀x_9:Nat,Lf ((x_9:Int)=n_5)→ckQ (eqAVL (((cells6M x_0).drop (0+n_7.toNat*1)).take 1) (((cells6M x_0).drop (0+n_7.toNat*1)).take 1)&&Option.some ((cells6M x_0).length+1)==Option.some ((cells6M
 x_0).length+1)) (ckQ (Option.some ((cells6M x_0).length+1)==Option.some ((cells6M x_0).length+1)) (Lf (0≤n_8∧n_8<4294967296)∧∀x_10:Nat,Lf ((x_10:Int)=n_8)→exI .i64 (x_0.length:Int) (fun n_11=>exW .i64 (n_11 -
 16) (fun n_12=>ckQ (decide (0≤n_12)&&Nat.blt n_12.toNat x_0.length&&Nat.beq (cells6M x_0).length x_0.length&&true) (ckQ (Nat.beq (cells6M x_0).length x_0.length&&Nat.blt (0+n_12.toNat*1) x_0.length) (exV .i64 ((((cells6M
 x_0).drop (0+n_12.toNat*1)).take 1).getD 0 AV.undef) (fun n_13=>exI .i64 (x_0.length:Int) (fun n_14=>exW .i64 (n_14-7) (fun n_15=>ckQ (decide (0≤n_15)&&Nat.blt n_15.toNat x_0.length&&Nat.beq (cells6M x_0).length
 x_0.length&&true) (ckQ (Nat.beq (cells6M x_0).length x_0.length&&Nat.blt (0+n_15.toNat*1) x_0.length) (exV .i64 ((((cells6M x_0).drop (0+n_15.toNat*1)).take 1).getD 0 AV.undef) (fun n_16=>∃x_17:Nat,Lf (wL x_9=wL x_17 ∧
 x_17<4294967296∧(0:Int)<(7:Int)∧(7:Int)<(32:Int))∧∀y_18:Nat,Lf (y_18=rotW (32-Int.toNat 7) x_17)→ckQ (eqAVL (wL x_10) (wL x_10)&&true) (ckQ (eqAVL (wL x_10) (wL x_10)&&true) (ckQ (eqAVL (wL x_10) (wL x_10)
 && true) (ckQ (eqAVL (wL x_9) (wL x_9)&&true) (ckQ (eqAVL (wL x_9) (wL x_9)&&true) (ckQ (eqAVL (((cells6M x_0).drop (0+n_15.toNat*1)).take 1) (((cells6M x_0).drop (0+n_15.toNat*1)).take 1)&&Option.some ((cells6M x_0).length +
 1)==Option.some ((cells6M x_0).length+1)) (ckQ (Option.some ((cells6M x_0).length+1)==Option.some ((cells6M x_0).length+1)) (ckQ (eqAVL (((cells6M x_0).drop (0+n_12.toNat*1)).take 1) (((cells6M x_0).drop (0+n_12.toNat *
 1)).take 1)&&Option.some ((cells6M x_0).length+1)==Option.some ((cells6M x_0).length+1)) (ckQ (Option.some ((cells6M x_0).length+1)==Option.some ((cells6M x_0).length+1)) (∃x_19:Nat,Lf (wL x_9=wL x_19∧x_19 <
 4294967296∧(0:Int)<(18:Int)∧(18:Int)<(32:Int))∧∀y_20:Nat,Lf (y_20=rotW (32-Int.toNat 18) x_19)→ckQ (eqAVL (wL x_10) (wL x_10)&&true) (ckQ (eqAVL (wL x_10) (wL x_10)&&true) (ckQ (eqAVL (wL x_10) (wL x_10) &&
 true) (ckQ (eqAVL (wL x_9) (wL x_9)&&true) (ckQ (eqAVL (((cells6M x_0).drop (0+n_15.toNat*1)).take 1) (((cells6M x_0).drop (0+n_15.toNat*1)).take 1)&&Option.some ((cells6M x_0).length+1)==Option.some ((cells6M x_0).length +
 1)) (ckQ (Option.some ((cells6M x_0).length+1)==Option.some ((cells6M x_0).length+1)) (ckQ (eqAVL (((cells6M x_0).drop (0+n_12.toNat*1)).take 1) (((cells6M x_0).drop (0+n_12.toNat*1)).take 1)&&Option.some ((cells6M
 x_0).length+1)==Option.some ((cells6M x_0).length+1)) (ckQ (Option.some ((cells6M x_0).length+1)==Option.some ((cells6M x_0).length+1)) (∃x_21:Nat,Lf (wL x_9=wL x_21∧x_21<4294967296∧(0:Int)<(3:Int)∧(3:Int)
 < (32:Int))∧∀y_22:Nat,Lf (y_22=x_21/(2:Nat)^Int.toNat 3)→ckQ (eqAVL (wL x_10) (wL x_10)&&true) (ckQ (eqAVL (wL x_10) (wL x_10)&&true) (ckQ (eqAVL (wL x_10) (wL x_10)&&true) (ckQ (eqAVL (((cells6M x_0).drop (0 +
 n_15.toNat*1)).take 1) (((cells6M x_0).drop (0+n_15.toNat*1)).take 1)&&Option.some ((cells6M x_0).length+1)==Option.some ((cells6M x_0).length+1)) (ckQ (Option.some ((cells6M x_0).length+1)==Option.some ((cells6M
 x_0).length+1)) (ckQ (eqAVL (((cells6M x_0).drop (0+n_12.toNat*1)).take 1) (((cells6M x_0).drop (0+n_12.toNat*1)).take 1)&&Option.some ((cells6M x_0).length+1)==Option.some ((cells6M x_0).length+1)) (ckQ (Option.some
 ((cells6M x_0).length+1)==Option.some ((cells6M x_0).length+1)) (∃x_23 y_24:Nat,Lf (wL y_18=wL x_23∧wL y_20=wL y_24)∧∀z_25:Nat,Lf (z_25=xorW x_23 y_24)→ckQ (eqAVL (wL y_22) (wL y_22)&&true) (∃x_26 y_27:Nat,
 Lf (wL z_25=wL x_26∧wL y_22=wL y_27)∧∀z_28:Nat,Lf (z_28=xorW x_26 y_27)→true=true∧ckQ (eqAVL (wL x_10) (wL x_10)&&true) (ckQ (eqAVL (wL x_10) (wL x_10)&&true) (ckQ (eqAVL (wL x_10) (wL x_10)&&true) (ckQ (eqAVL
 (((cells6M x_0).drop (0+n_15.toNat*1)).take 1) (((cells6M x_0).drop (0+n_15.toNat*1)).take 1)&&Option.some ((cells6M x_0).length+1)==Option.some ((cells6M x_0).length+1)) (ckQ (Option.some ((cells6M x_0).length+1) ==
 Option.some ((cells6M x_0).length+1)) (ckQ (eqAVL (((cells6M x_0).drop (0+n_12.toNat*1)).take 1) (((cells6M x_0).drop (0+n_12.toNat*1)).take 1)&&Option.some ((cells6M x_0).length+1)==Option.some ((cells6M x_0).length+1))
 (ckQ (Option.some ((cells6M x_0).length+1)==Option.some ((cells6M x_0).length+1)) (∃x_29:Nat,Lf (wL z_28=wL x_29∧x_29<4294967296)∧∀n_30:Int,Lf (n_30=(x_29:Int))→ckQ (eqAVL (wL x_10) (wL x_10)&&true) (ckQ
 (eqAVL (wL x_10) (wL x_10)&&true) (ckQ (eqAVL (wL x_10) (wL x_10)&&true) (ckQ (eqAVL (((cells6M x_0).drop (0+n_15.toNat*1)).take 1) (((cells6M x_0).drop (0+n_15.toNat*1)).take 1)&&Option.some ((cells6M x_0).length+1) ==
 Option.some ((cells6M x_0).length+1)) (ckQ (Option.some ((cells6M x_0).length+1)==Option.some ((cells6M x_0).length+1)) (ckQ (eqAVL (((cells6M x_0).drop (0+n_12.toNat*1)).take 1) (((cells6M x_0).drop (0+n_12.toNat*1)).take
 1)&&Option.some ((cells6M x_0).length+1)==Option.some ((cells6M x_0).length+1)) (ckQ (Option.some ((cells6M x_0).length+1)==Option.some ((cells6M x_0).length+1)) (∃x_31:Nat,Lf (wL x_10=wL x_31∧x_31<4294967296∧(0 :
 Int)<(17:Int)∧(17:Int)<(32:Int))∧∀y_32:Nat,Lf (y_32=rotW (32-Int.toNat 17) x_31)→ckQ (eqAVL (wL x_10) (wL x_10)&&true) (ckQ (eqAVL (wL x_10) (wL x_10)&&true) (ckQ (eqAVL (((cells6M x_0).drop (0+n_15.toNat *
 1)).take 1) (((cells6M x_0).drop (0+n_15.toNat*1)).take 1)&&Option.some ((cells6M x_0).length+1)==Option.some ((cells6M x_0).length+1)) (ckQ (Option.some ((cells6M x_0).length+1)==Option.some ((cells6M x_0).length+1))
 (ckQ (eqAVL (((cells6M x_0).drop (0+n_12.toNat*1)).take 1) (((cells6M x_0).drop (0+n_12.toNat*1)).take 1)&&Option.some ((cells6M x_0).length+1)==Option.some ((cells6M x_0).length+1)) (ckQ (Option.some ((cells6M x_0).length
 + 1)==Option.some ((cells6M x_0).length+1)) (∃x_33:Nat,Lf (wL x_10=wL x_33∧x_33<4294967296∧(0:Int)<(19:Int)∧(19:Int)<(32:Int))∧∀y_34:Nat,Lf (y_34=rotW (32-Int.toNat 19) x_33)→ckQ (eqAVL (wL x_10)
 (wL x_10)&&true) (ckQ (eqAVL (((cells6M x_0).drop (0+n_15.toNat*1)).take 1) (((cells6M x_0).drop (0+n_15.toNat*1)).take 1)&&Option.some ((cells6M x_0).length+1)==Option.some ((cells6M x_0).length+1)) (ckQ (Option.some
 ((cells6M x_0).length+1)==Option.some ((cells6M x_0).length+1)) (ckQ (eqAVL (((cells6M x_0).drop (0+n_12.toNat*1)).take 1) (((cells6M x_0).drop (0+n_12.toNat*1)).take 1)&&Option.some ((cells6M x_0).length+1) ==
 Option.some ((cells6M x_0).length+1)) (ckQ (Option.some ((cells6M x_0).length+1)==Option.some ((cells6M x_0).length+1)) (∃x_35:Nat,Lf (wL x_10=wL x_35∧x_35<4294967296∧(0:Int)<(10:Int)∧(10:Int)<(32:Int)) ∧
 ∀y_36:Nat,Lf (y_36=x_35/(2:Nat)^Int.toNat 10)→ckQ (eqAVL (((cells6M x_0).drop (0+n_15.toNat*1)).take 1) (((cells6M x_0).drop (0+n_15.toNat*1)).take 1)&&Option.some ((cells6M x_0).length+1)==Option.some ((cells6M
 x_0).length+1)) (ckQ (Option.some ((cells6M x_0).length+1)==Option.some ((cells6M x_0).length+1)) (ckQ (eqAVL (((cells6M x_0).drop (0+n_12.toNat*1)).take 1) (((cells6M x_0).drop (0+n_12.toNat*1)).take 1)&&Option.some
 ((cells6M x_0).length+1)==Option.some ((cells6M x_0).length+1)) (ckQ (Option.some ((cells6M x_0).length+1)==Option.some ((cells6M x_0).length+1)) (∃x_37 y_38:Nat,Lf (wL y_32=wL x_37∧wL y_34=wL y_38)∧∀z_39:Nat,Lf
 (z_39=xorW x_37 y_38)→ckQ (eqAVL (wL y_36) (wL y_36)&&true) (∃x_40 y_41:Nat,Lf (wL z_39=wL x_40∧wL y_36=wL y_41)∧∀z_42:Nat,Lf (z_42=xorW x_40 y_41)→true=true∧ckQ (eqAVL (((cells6M x_0).drop (0+n_15.toNat *
 1)).take 1) (((cells6M x_0).drop (0+n_15.toNat*1)).take 1)&&Option.some ((cells6M x_0).length+1)==Option.some ((cells6M x_0).length+1)) (ckQ (Option.some ((cells6M x_0).length+1)==Option.some ((cells6M x_0).length+1))
 (ckQ (eqAVL (((cells6M x_0).drop (0+n_12.toNat*1)).take 1) (((cells6M x_0).drop (0+n_12.toNat*1)).take 1)&&Option.some ((cells6M x_0).length+1)==Option.some ((cells6M x_0).length+1)) (ckQ (Option.some ((cells6M x_0).length
 + 1)==Option.some ((cells6M x_0).length+1)) (∃x_43:Nat,Lf (wL z_42=wL x_43∧x_43<4294967296)∧∀n_44:Int,Lf (n_44=(x_43:Int))→ckQ (eqAVL (((cells6M x_0).drop (0+n_15.toNat*1)).take 1) (((cells6M x_0).drop (0 +
 n_15.toNat*1)).take 1)&&Option.some ((cells6M x_0).length+1)==Option.some ((cells6M x_0).length+1)) (ckQ (Option.some ((cells6M x_0).length+1)==Option.some ((cells6M x_0).length+1)) (ckQ (eqAVL (((cells6M x_0).drop (0 +
 n_12.toNat*1)).take 1) (((cells6M x_0).drop (0+n_12.toNat*1)).take 1)&&Option.some ((cells6M x_0).length+1)==Option.some ((cells6M x_0).length+1)) (ckQ (Option.some ((cells6M x_0).length+1)==Option.some ((cells6M
 x_0).length+1)) (exW .i64 (n_13+n_16) (fun n_45=>exW .i64 (n_45+n_30) (fun n_46=>exW .i64 (n_46+n_44) (fun n_47=>exW .i64 (n_47+0) (fun n_48=>exI .i64 (n_48.tmod 4294967296) (fun n_49=>true=true∧ckQ (Nat.beq
 (cells6M x_0).length x_0.length&&true&&Nat.beq (0+x_0.length*1) x_0.length&&Nat.ble (x_0.length+1) 1099511627776&&Nat.ble ((x_0.length+1)*8) 1099511627776) (exI .i64 (x_0.length:Int) (fun n_50=>exW .i64 (n_50+1)
 (fun n_51=>(True∧(0:Nat)=(0:Nat))∧(q8DJ_116_6 x_0 ss ks∨∃y_52:List Nat,Lf (1≤y_52.length∧y_52.length≤64∧y_52=schM b y_52.length)∧64-y_52.length<64-x_0.length∧eqqQ [AV.lst 0 (cells6M ss) 8 1,.lst 0
 (cells6M ks) 64 1]∧cells6M x_0++[AV.int .i64 n_49]=cells6M y_52∧q8DJ_116_0 v0∧q8DJ_116_5 x_0 y_52 b n_51))))))))))))))))))))))))))))))))))))))))))))))))))))))))))))))))))))))))))))))))))))))))))))))) else ((∃x_2:Nat,Lf (x_2 =
 0)∧eqqQ [AV.lst 0 (cells6M ss) 8 1,.lst 0 (cells6M ks) 64 1]∧eqqQ (cells6M x_0)∧q8DJ_116_1 v0∧q8DJ_116_0 v0∧eqqQ (AV.ptr 0 2 0)∧eqqQ (AV.sl 1 x_0.length 0 x_0.length 1)∧eqqQ (AV.sl 2 8 0 8 1)∧eqqQ (AV.int .i64 0)∧True) ∨
 ∃x_2:Nat×W8,Lf (1≤x_2.1∧x_2.1≤64∧okW8 x_2.2∧x_2.2=rndsM ks (wsM (cells6M x_0)) x_2.1 v0)∧eqqQ [AV.lst 0 (cells6M ss) 8 1,.lst 0 (cells6M ks) 64 1]∧eqqQ (cells6M x_0)∧q8DJ_116_1 v0∧q8DJ_116_0 v0∧eqqQ (AV.ptr 0 2
 0)∧eqqQ (AV.sl 1 x_0.length 0 x_0.length 1)∧AV.sl 2 8 0 8 1=AV.lst 0 [.int .i64 (x_2.2.1:Int),.int .i64 (x_2.2.2:Int),.int .i64 (x_2.2.3:Int),.int .i64 (x_2.2.4:Int),.int .i64 (x_2.2.5:Int),.int .i64 (x_2.2.6:Int),
 .int .i64 (x_2.2.7:Int),.int .i64 (x_2.2.8:Int)] 8 1∧AV.int .i64 0=AV.int .i64 (x_2.1:Int)∧True)∧(∀x_2:Nat,Lf (x_2=0)→exI .i64 0 (fun n_3=>bif decide (n_3<64) then exI .i64 (v0.1:Int) (fun n_4=>exI .i64 (v0.2
 : Int) (fun n_5=>exI .i64 (v0.3:Int) (fun n_6=>Lf (0≤n_4∧n_4<4294967296)∧∀x_7:Nat,Lf ((x_7:Int)=n_4)→ckQ (eqAVL [.int .i64 (v0.3:Int)] [.int .i64 (v0.3:Int)]&&true) (ckQ (eqAVL [.int .i64 (v0.2:Int)] [.int
 .i64 (v0.2:Int)]&&true) (Lf (0≤n_5∧n_5<4294967296)∧∀x_8:Nat,Lf ((x_8:Int)=n_5)→ckQ (eqAVL [.int .i64 (v0.3:Int)] [.int .i64 (v0.3:Int)]&&true) (Lf (0≤n_6∧n_6<4294967296)∧∀x_9:Nat,Lf ((x_9:Int) =
 n_6)→exI .i64 (v0.5:Int) (fun n_10=>exI .i64 (v0.6:Int) (fun n_11=>exI .i64 (v0.7:Int) (fun n_12=>Lf (0≤n_10∧n_10<4294967296)∧∀x_13:Nat,Lf ((x_13:Int)=n_10)→ckQ (eqAVL [.int .i64 (v0.7:Int)] [.int .i64
 (v0.7:Int)]&&true) (ckQ (eqAVL [.int .i64 (v0.6:Int)] [.int .i64 (v0.6:Int)]&&true) (Lf (0≤n_11∧n_11<4294967296)∧∀x_14:Nat,Lf ((x_14:Int)=n_11)→ckQ (eqAVL [.int .i64 (v0.7:Int)] [.int .i64 (v0.7:Int)] &&
 true) (Lf (0≤n_12∧n_12<4294967296)∧∀x_15:Nat,Lf ((x_15:Int)=n_12)→exI .i64 (v0.8:Int) (fun n_16=>exI .i64 0 (fun n_17=>ckQ (decide (0≤n_17)&&Nat.blt n_17.toNat 64&&true) (ckQ (Nat.blt (n_17.toNat*1) (cells6M
 ks).length) (exV .i64 ((cells6M ks).getD (n_17.toNat*1) AV.undef) (fun n_18=>exI .i64 0 (fun n_19=>ckQ (decide (0≤n_19)&&Nat.blt n_19.toNat x_0.length&&Nat.beq (cells6M x_0).length x_0.length&&true) (ckQ (Nat.beq (cells6M
 x_0).length x_0.length&&Nat.blt (0+n_19.toNat*1) x_0.length) (exV .i64 ((((cells6M x_0).drop (0+n_19.toNat*1)).take 1).getD 0 AV.undef) (fun n_20=>∃x_21:Nat,Lf (wL x_13=wL x_21∧x_21<4294967296∧(0:Int)<(6:Int)
 ∧ (6:Int)<(32:Int))∧∀y_22:Nat,Lf (y_22=rotW (32-Int.toNat 6) x_21)→ckQ (eqAVL (((cells6M x_0).drop (0+n_19.toNat*1)).take 1) (((cells6M x_0).drop (0+n_19.toNat*1)).take 1)&&Option.some ((cells6M x_0).length+1)
 == Option.some ((cells6M x_0).length+1)) (ckQ (Option.some ((cells6M x_0).length+1)==Option.some ((cells6M x_0).length+1)) (ckQ (eqAVL [.lst 0 (cells6M ks) 64 1] [.lst 0 (cells6M ks) 64 1]&&true) (ckQ (eqAVL (wL x_15) (wL x_15)
 && true) (ckQ (eqAVL (wL x_13) (wL x_13)&&true) (ckQ (eqAVL (wL x_14) (wL x_14)&&true) (ckQ (eqAVL (wL x_13) (wL x_13)&&true) (ckQ (eqAVL (wL x_13) (wL x_13)&&true) (ckQ (eqAVL (wL x_13) (wL x_13)&&true) (ckQ (eqAVL [.int .i64
 (v0.8:Int)] [.int .i64 (v0.8:Int)]&&true) (∃x_23:Nat,Lf (wL x_13=wL x_23∧x_23<4294967296∧(0:Int)<(11:Int)∧(11:Int)<(32:Int))∧∀y_24:Nat,Lf (y_24=rotW (32-Int.toNat 11) x_23)→ckQ (eqAVL (((cells6M
 x_0).drop (0+n_19.toNat*1)).take 1) (((cells6M x_0).drop (0+n_19.toNat*1)).take 1)&&Option.some ((cells6M x_0).length+1)==Option.some ((cells6M x_0).length+1)) (ckQ (Option.some ((cells6M x_0).length+1)==Option.some
 ((cells6M x_0).length+1)) (ckQ (eqAVL [.lst 0 (cells6M ks) 64 1] [.lst 0 (cells6M ks) 64 1]&&true) (ckQ (eqAVL (wL x_15) (wL x_15)&&true) (ckQ (eqAVL (wL x_13) (wL x_13)&&true) (ckQ (eqAVL (wL x_14) (wL x_14)&&true) (ckQ (eqAVL
 (wL x_13) (wL x_13)&&true) (ckQ (eqAVL (wL x_13) (wL x_13)&&true) (ckQ (eqAVL [.int .i64 (v0.8:Int)] [.int .i64 (v0.8:Int)]&&true) (∃x_25:Nat,Lf (wL x_13=wL x_25∧x_25<4294967296∧(0:Int)<(25:Int)∧(25:Int) <
 (32:Int))∧∀y_26:Nat,Lf (y_26=rotW (32-Int.toNat 25) x_25)→ckQ (eqAVL (((cells6M x_0).drop (0+n_19.toNat*1)).take 1) (((cells6M x_0).drop (0+n_19.toNat*1)).take 1)&&Option.some ((cells6M x_0).length+1) ==
 Option.some ((cells6M x_0).length+1)) (ckQ (Option.some ((cells6M x_0).length+1)==Option.some ((cells6M x_0).length+1)) (ckQ (eqAVL [.lst 0 (cells6M ks) 64 1] [.lst 0 (cells6M ks) 64 1]&&true) (ckQ (eqAVL (wL x_15) (wL x_15) &&
 true) (ckQ (eqAVL (wL x_13) (wL x_13)&&true) (ckQ (eqAVL (wL x_14) (wL x_14)&&true) (ckQ (eqAVL (wL x_13) (wL x_13)&&true) (ckQ (eqAVL [.int .i64 (v0.8:Int)] [.int .i64 (v0.8:Int)]&&true) (∃x_27 y_28:Nat,Lf (wL y_22=wL
 x_27∧wL y_24=wL y_28)∧∀z_29:Nat,Lf (z_29=xorW x_27 y_28)→ckQ (eqAVL (wL y_26) (wL y_26)&&true) (∃x_30 y_31:Nat,Lf (wL z_29=wL x_30∧wL y_26=wL y_31)∧∀z_32:Nat,Lf (z_32=xorW x_30 y_31)→true=true∧ckQ
 (eqAVL (((cells6M x_0).drop (0+n_19.toNat*1)).take 1) (((cells6M x_0).drop (0+n_19.toNat*1)).take 1)&&Option.some ((cells6M x_0).length+1)==Option.some ((cells6M x_0).length+1)) (ckQ (Option.some ((cells6M x_0).length+1)
 == Option.some ((cells6M x_0).length+1)) (ckQ (eqAVL [.lst 0 (cells6M ks) 64 1] [.lst 0 (cells6M ks) 64 1]&&true) (ckQ (eqAVL (wL x_15) (wL x_15)&&true) (ckQ (eqAVL (wL x_13) (wL x_13)&&true) (ckQ (eqAVL (wL x_14) (wL x_14) &&
 true) (ckQ (eqAVL (wL x_13) (wL x_13)&&true) (ckQ (eqAVL [.int .i64 (v0.8:Int)] [.int .i64 (v0.8:Int)]&&true) (∃x_33:Nat,Lf (wL z_32=wL x_33∧x_33<4294967296)∧∀n_34:Int,Lf (n_34=(x_33:Int))→ckQ (eqAVL
 (((cells6M x_0).drop (0+n_19.toNat*1)).take 1) (((cells6M x_0).drop (0+n_19.toNat*1)).take 1)&&Option.some ((cells6M x_0).length+1)==Option.some ((cells6M x_0).length+1)) (ckQ (Option.some ((cells6M x_0).length+1) ==
 Option.some ((cells6M x_0).length+1)) (ckQ (eqAVL [.lst 0 (cells6M ks) 64 1] [.lst 0 (cells6M ks) 64 1]&&true) (ckQ (eqAVL (wL x_15) (wL x_15)&&true) (ckQ (eqAVL (wL x_13) (wL x_13)&&true) (ckQ (eqAVL (wL x_14) (wL x_14)&&true)
 (ckQ (eqAVL (wL x_13) (wL x_13)&&true) (ckQ (eqAVL [.int .i64 (v0.8:Int)] [.int .i64 (v0.8:Int)]&&true) (∃x_35 y_36:Nat,Lf (wL x_13=wL x_35∧wL x_14=wL y_36)∧∀z_37:Nat,Lf (z_37=andW x_35 y_36)→ckQ (eqAVL
 (((cells6M x_0).drop (0+n_19.toNat*1)).take 1) (((cells6M x_0).drop (0+n_19.toNat*1)).take 1)&&Option.some ((cells6M x_0).length+1)==Option.some ((cells6M x_0).length+1)) (ckQ (Option.some ((cells6M x_0).length+1) ==
 Option.some ((cells6M x_0).length+1)) (ckQ (eqAVL [.lst 0 (cells6M ks) 64 1] [.lst 0 (cells6M ks) 64 1]&&true) (ckQ (eqAVL (wL x_15) (wL x_15)&&true) (ckQ (eqAVL (wL x_13) (wL x_13)&&true) (ckQ (eqAVL [.int .i64 (v0.8:Int)] [.int
 .i64 (v0.8:Int)]&&true) (∃x_38:Nat,Lf (wL x_13=wL x_38)∧∀y_39:Nat,Lf (y_39=notW x_38)→ckQ (eqAVL (((cells6M x_0).drop (0+n_19.toNat*1)).take 1) (((cells6M x_0).drop (0+n_19.toNat*1)).take 1)&&Option.some
 ((cells6M x_0).length+1)==Option.some ((cells6M x_0).length+1)) (ckQ (Option.some ((cells6M x_0).length+1)==Option.some ((cells6M x_0).length+1)) (ckQ (eqAVL [.lst 0 (cells6M ks) 64 1] [.lst 0 (cells6M ks) 64 1]&&true) (ckQ
 (eqAVL (wL x_15) (wL x_15)&&true) (ckQ (eqAVL [.int .i64 (v0.8:Int)] [.int .i64 (v0.8:Int)]&&true) (∃x_40 y_41:Nat,Lf (wL y_39=wL x_40∧wL x_15=wL y_41)∧∀z_42:Nat,Lf (z_42=andW x_40 y_41)→ckQ (eqAVL (((cells6M
 x_0).drop (0+n_19.toNat*1)).take 1) (((cells6M x_0).drop (0+n_19.toNat*1)).take 1)&&Option.some ((cells6M x_0).length+1)==Option.some ((cells6M x_0).length+1)) (ckQ (Option.some ((cells6M x_0).length+1)==Option.some
 ((cells6M x_0).length+1)) (ckQ (eqAVL [.lst 0 (cells6M ks) 64 1] [.lst 0 (cells6M ks) 64 1]&&true) (ckQ (eqAVL [.int .i64 (v0.8:Int)] [.int .i64 (v0.8:Int)]&&true) (∃x_43 y_44:Nat,Lf (wL z_37=wL x_43∧wL z_42=wL y_44) ∧
 ∀z_45:Nat,Lf (z_45=xorW x_43 y_44)→ckQ (eqAVL (((cells6M x_0).drop (0+n_19.toNat*1)).take 1) (((cells6M x_0).drop (0+n_19.toNat*1)).take 1)&&Option.some ((cells6M x_0).length+1)==Option.some ((cells6M x_0).length +
 1)) (ckQ (Option.some ((cells6M x_0).length+1)==Option.some ((cells6M x_0).length+1)) (ckQ (eqAVL [.lst 0 (cells6M ks) 64 1] [.lst 0 (cells6M ks) 64 1]&&true) (ckQ (eqAVL [.int .i64 (v0.8:Int)] [.int .i64 (v0.8:Int)]&&true)
 (∃x_46:Nat,Lf (wL z_45=wL x_46∧x_46<4294967296)∧∀n_47:Int,Lf (n_47=(x_46:Int))→ckQ (eqAVL (((cells6M x_0).drop (0+n_19.toNat*1)).take 1) (((cells6M x_0).drop (0+n_19.toNat*1)).take 1)&&Option.some ((cells6M
 x_0).length+1)==Option.some ((cells6M x_0).length+1)) (ckQ (Option.some ((cells6M x_0).length+1)==Option.some ((cells6M x_0).length+1)) (ckQ (eqAVL [.lst 0 (cells6M ks) 64 1] [.lst 0 (cells6M ks) 64 1]&&true) (ckQ (eqAVL
 [.int .i64 (v0.8:Int)] [.int .i64 (v0.8:Int)]&&true) (exW .i64 (n_16+n_34) (fun n_48=>exW .i64 (n_48+n_47) (fun n_49=>exW .i64 (n_49+n_18) (fun n_50=>exW .i64 (n_50+n_20) (fun n_51=>exI .i64 (n_51.tmod 4294967296)
 (fun n_52=>true=true∧∃x_53:Nat,Lf (wL x_7=wL x_53∧x_53<4294967296∧(0:Int)<(2:Int)∧(2:Int)<(32:Int))∧∀y_54:Nat,Lf (y_54=rotW (32-Int.toNat 2) x_53)→ckQ (eqAVL (wL x_9) (wL x_9)&&true) (ckQ
 (eqAVL (wL x_8) (wL x_8)&&true) (ckQ (eqAVL (wL x_9) (wL x_9)&&true) (ckQ (eqAVL (wL x_7) (wL x_7)&&true) (ckQ (eqAVL (wL x_8) (wL x_8)&&true) (ckQ (eqAVL (wL x_7) (wL x_7)&&true) (ckQ (eqAVL (wL x_7) (wL x_7)&&true) (ckQ
 (eqAVL (wL x_7) (wL x_7)&&true) (∃x_55:Nat,Lf (wL x_7=wL x_55∧x_55<4294967296∧(0:Int)<(13:Int)∧(13:Int)<(32:Int))∧∀y_56:Nat,Lf (y_56=rotW (32-Int.toNat 13) x_55)→ckQ (eqAVL (wL x_9) (wL x_9)&&true)
 (ckQ (eqAVL (wL x_8) (wL x_8)&&true) (ckQ (eqAVL (wL x_9) (wL x_9)&&true) (ckQ (eqAVL (wL x_7) (wL x_7)&&true) (ckQ (eqAVL (wL x_8) (wL x_8)&&true) (ckQ (eqAVL (wL x_7) (wL x_7)&&true) (ckQ (eqAVL (wL x_7) (wL x_7)&&true) (∃
 x_57:Nat,Lf (wL x_7=wL x_57∧x_57<4294967296∧(0:Int)<(22:Int)∧(22:Int)<(32:Int))∧∀y_58:Nat,Lf (y_58=rotW (32-Int.toNat 22) x_57)→ckQ (eqAVL (wL x_9) (wL x_9)&&true) (ckQ (eqAVL (wL x_8) (wL x_8) &&
 true) (ckQ (eqAVL (wL x_9) (wL x_9)&&true) (ckQ (eqAVL (wL x_7) (wL x_7)&&true) (ckQ (eqAVL (wL x_8) (wL x_8)&&true) (ckQ (eqAVL (wL x_7) (wL x_7)&&true) (∃x_59 y_60:Nat,Lf (wL y_54=wL x_59∧wL y_56=wL y_60)∧∀z_61 :
 Nat,Lf (z_61=xorW x_59 y_60)→ckQ (eqAVL (wL y_58) (wL y_58)&&true) (∃x_62 y_63:Nat,Lf (wL z_61=wL x_62∧wL y_58=wL y_63)∧∀z_64:Nat,Lf (z_64=xorW x_62 y_63)→true=true∧ckQ (eqAVL (wL x_9) (wL x_9)&&true) (ckQ
 (eqAVL (wL x_8) (wL x_8)&&true) (ckQ (eqAVL (wL x_9) (wL x_9)&&true) (ckQ (eqAVL (wL x_7) (wL x_7)&&true) (ckQ (eqAVL (wL x_8) (wL x_8)&&true) (ckQ (eqAVL (wL x_7) (wL x_7)&&true) (∃x_65:Nat,Lf (wL z_64=wL x_65∧x_65 <
 4294967296)∧∀n_66:Int,Lf (n_66=(x_65:Int))→ckQ (eqAVL (wL x_9) (wL x_9)&&true) (ckQ (eqAVL (wL x_8) (wL x_8)&&true) (ckQ (eqAVL (wL x_9) (wL x_9)&&true) (ckQ (eqAVL (wL x_7) (wL x_7)&&true) (ckQ (eqAVL (wL x_8) (wL x_8)
 && true) (ckQ (eqAVL (wL x_7) (wL x_7)&&true) (∃x_67 y_68:Nat,Lf (wL x_7=wL x_67∧wL x_8=wL y_68)∧∀z_69:Nat,Lf (z_69=andW x_67 y_68)→ckQ (eqAVL (wL x_9) (wL x_9)&&true) (ckQ (eqAVL (wL x_8) (wL x_8)&&true) (ckQ
 (eqAVL (wL x_9) (wL x_9)&&true) (ckQ (eqAVL (wL x_7) (wL x_7)&&true) (∃x_70 y_71:Nat,Lf (wL x_7=wL x_70∧wL x_9=wL y_71)∧∀z_72:Nat,Lf (z_72=andW x_70 y_71)→ckQ (eqAVL (wL x_9) (wL x_9)&&true) (ckQ (eqAVL (wL x_8)
 (wL x_8)&&true) (∃x_73 y_74:Nat,Lf (wL x_8=wL x_73∧wL x_9=wL y_74)∧∀z_75:Nat,Lf (z_75=andW x_73 y_74)→∃x_76 y_77:Nat,Lf (wL z_69=wL x_76∧wL z_72=wL y_77)∧∀z_78:Nat,Lf (z_78=xorW x_76 y_77)→ckQ
 (eqAVL (wL z_75) (wL z_75)&&true) (∃x_79 y_80:Nat,Lf (wL z_78=wL x_79∧wL z_75=wL y_80)∧∀z_81:Nat,Lf (z_81=xorW x_79 y_80)→true=true∧∃x_82:Nat,Lf (wL z_81=wL x_82∧x_82<4294967296)∧∀n_83:Int,Lf (n_83
 = (x_82:Int))→exW .i64 (n_66+n_83) (fun n_84=>exW .i64 (n_84+0) (fun n_85=>exW .i64 (n_85+0) (fun n_86=>exW .i64 (n_86+0) (fun n_87=>exI .i64 (n_87.tmod 4294967296) (fun n_88=>true=true∧exI .i64 (v0.1:Int) (fun
 n_89=>exI .i64 (v0.2:Int) (fun n_90=>exI .i64 (v0.3:Int) (fun n_91=>exI .i64 (v0.4:Int) (fun n_92=>exI .i64 (v0.5:Int) (fun n_93=>exI .i64 (v0.6:Int) (fun n_94=>exI .i64 (v0.7:Int) (fun n_95=>exW .i64 (n_52 +
 n_88) (fun n_96=>exW .i64 (n_96+0) (fun n_97=>exW .i64 (n_97+0) (fun n_98=>exW .i64 (n_98+0) (fun n_99=>exI .i64 (n_99.tmod 4294967296) (fun n_100=>true=true∧ckQ (eqAVL [.int .i64 (v0.7:Int)] [.int .i64 (v0.7:Int)]
 && true) (ckQ (eqAVL [.int .i64 (v0.6:Int)] [.int .i64 (v0.6:Int)]&&true) (ckQ (eqAVL [.int .i64 (v0.5:Int)] [.int .i64 (v0.5:Int)]&&true) (ckQ (eqAVL [.int .i64 (v0.4:Int)] [.int .i64 (v0.4:Int)]&&true) (ckQ (eqAVL [.int
 .i64 (v0.3:Int)] [.int .i64 (v0.3:Int)]&&true) (ckQ (eqAVL [.int .i64 (v0.2:Int)] [.int .i64 (v0.2:Int)]&&true) (ckQ (eqAVL [.int .i64 (v0.1:Int)] [.int .i64 (v0.1:Int)]&&true) (exW .i64 (n_92+n_52) (fun n_101=>exW
 .i64 (n_101+0) (fun n_102=>exW .i64 (n_102+0) (fun n_103=>exW .i64 (n_103+0) (fun n_104=>exI .i64 (n_104.tmod 4294967296) (fun n_105=>true=true∧ckQ (eqAVL [.int .i64 (v0.7:Int)] [.int .i64 (v0.7:Int)]&&true) (ckQ
 (eqAVL [.int .i64 (v0.6:Int)] [.int .i64 (v0.6:Int)]&&true) (ckQ (eqAVL [.int .i64 (v0.5:Int)] [.int .i64 (v0.5:Int)]&&true) (ckQ (eqAVL [.int .i64 (v0.3:Int)] [.int .i64 (v0.3:Int)]&&true) (ckQ (eqAVL [.int .i64 (v0.2 :
 Int)] [.int .i64 (v0.2:Int)]&&true) (ckQ (eqAVL [.int .i64 (v0.1:Int)] [.int .i64 (v0.1:Int)]&&true) (exI .i64 0 (fun n_106=>exW .i64 (n_106+1) (fun n_107=>(True∧(0:Nat)=(0:Nat))∧((∃y_108:Nat,Lf (y_108=0) ∧
 (100:Nat)<(100:Nat)∧eqqQ [AV.lst 0 (cells6M ss) 8 1,.lst 0 (cells6M ks) 64 1]∧eqqQ (cells6M x_0)∧q8DJ_116_1 v0∧q8DJ_116_0 v0∧q8DJ_116_4 x_0 n_100 n_89 n_90 n_91 n_105 n_93 n_94 n_95 n_107)∨∃y_108:Nat×W8,Lf (1 ≤
 y_108.1∧y_108.1≤64∧okW8 y_108.2∧y_108.2=rndsM ks (wsM (cells6M x_0)) y_108.1 v0)∧64-y_108.1<100∧eqqQ [AV.lst 0 (cells6M ss) 8 1,.lst 0 (cells6M ks) 64 1]∧eqqQ (cells6M x_0)∧q8DJ_116_1 v0∧q8DJ_116_0 v0∧q8DJ_116_3
 x_0 n_100 n_89 n_90 n_91 n_105 n_93 n_94 n_95 y_108 n_107)))))))))))))))))))))))))))))))))))))))))))))))))))))))))))))))))))))))))))))))))))))))))))))))))))))))))))))))))))))))))))))))))))))))))))))))))))))))))))))))))))))))))))) else exI
 .i64 (v0.1:Int) (fun n_4=>exI .i64 (v0.1:Int) (fun n_5=>exW .i64 (n_4+n_5) (fun n_6=>exW .i64 (n_6+0) (fun n_7=>exW .i64 (n_7+0) (fun n_8=>exW .i64 (n_8+0) (fun n_9=>exI .i64 (n_9.tmod 4294967296) (fun n_10=>true
 = true∧exI .i64 (v0.2:Int) (fun n_11=>exI .i64 (v0.2:Int) (fun n_12=>exW .i64 (n_11+n_12) (fun n_13=>exW .i64 (n_13+0) (fun n_14=>exW .i64 (n_14+0) (fun n_15=>exW .i64 (n_15+0) (fun n_16=>exI .i64 (n_16.tmod
 4294967296) (fun n_17=>true=true∧exI .i64 (v0.3:Int) (fun n_18=>exI .i64 (v0.3:Int) (fun n_19=>exW .i64 (n_18+n_19) (fun n_20=>exW .i64 (n_20+0) (fun n_21=>exW .i64 (n_21+0) (fun n_22=>exW .i64 (n_22+0) (fun
 n_23=>exI .i64 (n_23.tmod 4294967296) (fun n_24=>true=true∧exI .i64 (v0.4:Int) (fun n_25=>exI .i64 (v0.4:Int) (fun n_26=>exW .i64 (n_25+n_26) (fun n_27=>exW .i64 (n_27+0) (fun n_28=>exW .i64 (n_28+0) (fun n_29=>
 exW .i64 (n_29+0) (fun n_30=>exI .i64 (n_30.tmod 4294967296) (fun n_31=>true=true∧exI .i64 (v0.5:Int) (fun n_32=>exI .i64 (v0.5:Int) (fun n_33=>exW .i64 (n_32+n_33) (fun n_34=>exW .i64 (n_34+0) (fun n_35=>exW .i64
 (n_35+0) (fun n_36=>exW .i64 (n_36+0) (fun n_37=>exI .i64 (n_37.tmod 4294967296) (fun n_38=>true=true∧exI .i64 (v0.6:Int) (fun n_39=>exI .i64 (v0.6:Int) (fun n_40=>exW .i64 (n_39+n_40) (fun n_41=>exW .i64 (n_41 +
 0) (fun n_42=>exW .i64 (n_42+0) (fun n_43=>exW .i64 (n_43+0) (fun n_44=>exI .i64 (n_44.tmod 4294967296) (fun n_45=>true=true∧exI .i64 (v0.7:Int) (fun n_46=>exI .i64 (v0.7:Int) (fun n_47=>exW .i64 (n_46+n_47) (fun
 n_48=>exW .i64 (n_48+0) (fun n_49=>exW .i64 (n_49+0) (fun n_50=>exW .i64 (n_50+0) (fun n_51=>exI .i64 (n_51.tmod 4294967296) (fun n_52=>true=true∧exI .i64 (v0.8:Int) (fun n_53=>exI .i64 (v0.8:Int) (fun n_54=>∃
 n_55:Int,q8DJ_116_2 n_53 n_54 n_55 Q ss ks x_0 v0 n_10 n_17 n_24 n_31 n_38 n_45 n_52)))))))))))))))))))))))))))))))))))))))))))))))))))))∧∀x_2:Nat×W8,Lf (1≤x_2.1∧x_2.1≤64∧okW8 x_2.2∧x_2.2=rndsM ks (wsM (cells6M x_0))
 x_2.1 v0)→exI .i64 (x_2.1:Int) (fun n_3=>bif decide (n_3<64) then exI .i64 (x_2.2.1:Int) (fun n_4=>exI .i64 (x_2.2.2:Int) (fun n_5=>exI .i64 (x_2.2.3:Int) (fun n_6=>Lf (0≤n_4∧n_4<4294967296)∧∀x_7:Nat,Lf
 ((x_7:Int)=n_4)→Lf (0≤n_5∧n_5<4294967296)∧∀x_8:Nat,Lf ((x_8:Int)=n_5)→Lf (0≤n_6∧n_6<4294967296)∧∀x_9:Nat,Lf ((x_9:Int)=n_6)→exI .i64 (x_2.2.5:Int) (fun n_10=>exI .i64 (x_2.2.6:Int) (fun n_11
 => exI .i64 (x_2.2.7:Int) (fun n_12=>Lf (0≤n_10∧n_10<4294967296)∧∀x_13:Nat,Lf ((x_13:Int)=n_10)→Lf (0≤n_11∧n_11<4294967296)∧∀x_14:Nat,Lf ((x_14:Int)=n_11)→Lf (0≤n_12∧n_12<4294967296)∧∀x_15 :
 Nat,Lf ((x_15:Int)=n_12)→exI .i64 (x_2.2.8:Int) (fun n_16=>exI .i64 (x_2.1:Int) (fun n_17=>ckQ (decide (0≤n_17)&&Nat.blt n_17.toNat 64&&true) (ckQ (Nat.blt (n_17.toNat*1) (cells6M ks).length) (exV .i64 ((cells6M
 ks).getD (n_17.toNat*1) AV.undef) (fun n_18=>exI .i64 (x_2.1:Int) (fun n_19=>ckQ (decide (0≤n_19)&&Nat.blt n_19.toNat x_0.length&&Nat.beq (cells6M x_0).length x_0.length&&true) (ckQ (Nat.beq (cells6M x_0).length x_0.length
 && Nat.blt (0+n_19.toNat*1) x_0.length) (exV .i64 ((((cells6M x_0).drop (0+n_19.toNat*1)).take 1).getD 0 AV.undef) (fun n_20=>∃x_21:Nat,Lf (wL x_13=wL x_21∧x_21<4294967296∧(0:Int)<(6:Int)∧(6:Int)<(32 :
 Int))∧∀y_22:Nat,Lf (y_22=rotW (32-Int.toNat 6) x_21)→ckQ (eqAVL (((cells6M x_0).drop (0+n_19.toNat*1)).take 1) (((cells6M x_0).drop (0+n_19.toNat*1)).take 1)&&Option.some ((cells6M x_0).length+1)==Option.some
 ((cells6M x_0).length+1)) (ckQ (Option.some ((cells6M x_0).length+1)==Option.some ((cells6M x_0).length+1)) (ckQ (eqAVL [.lst 0 (cells6M ks) 64 1] [.lst 0 (cells6M ks) 64 1]&&true) (ckQ (eqAVL (wL x_15) (wL x_15)&&true) (ckQ
 (eqAVL (wL x_13) (wL x_13)&&true) (ckQ (eqAVL (wL x_14) (wL x_14)&&true) (ckQ (eqAVL (wL x_13) (wL x_13)&&true) (ckQ (eqAVL (wL x_13) (wL x_13)&&true) (ckQ (eqAVL (wL x_13) (wL x_13)&&true) (∃x_23:Nat,Lf (wL x_13=wL x_23 ∧
 x_23<4294967296∧(0:Int)<(11:Int)∧(11:Int)<(32:Int))∧∀y_24:Nat,Lf (y_24=rotW (32-Int.toNat 11) x_23)→ckQ (eqAVL (((cells6M x_0).drop (0+n_19.toNat*1)).take 1) (((cells6M x_0).drop (0+n_19.toNat*1)).take
 1)&&Option.some ((cells6M x_0).length+1)==Option.some ((cells6M x_0).length+1)) (ckQ (Option.some ((cells6M x_0).length+1)==Option.some ((cells6M x_0).length+1)) (ckQ (eqAVL [.lst 0 (cells6M ks) 64 1] [.lst 0 (cells6M ks) 64
 1]&&true) (ckQ (eqAVL (wL x_15) (wL x_15)&&true) (ckQ (eqAVL (wL x_13) (wL x_13)&&true) (ckQ (eqAVL (wL x_14) (wL x_14)&&true) (ckQ (eqAVL (wL x_13) (wL x_13)&&true) (ckQ (eqAVL (wL x_13) (wL x_13)&&true) (∃x_25:Nat,Lf (wL
 x_13=wL x_25∧x_25<4294967296∧(0:Int)<(25:Int)∧(25:Int)<(32:Int))∧∀y_26:Nat,Lf (y_26=rotW (32-Int.toNat 25) x_25)→ckQ (eqAVL (((cells6M x_0).drop (0+n_19.toNat*1)).take 1) (((cells6M x_0).drop (0 +
 n_19.toNat*1)).take 1)&&Option.some ((cells6M x_0).length+1)==Option.some ((cells6M x_0).length+1)) (ckQ (Option.some ((cells6M x_0).length+1)==Option.some ((cells6M x_0).length+1)) (ckQ (eqAVL [.lst 0 (cells6M ks) 64 1]
 [.lst 0 (cells6M ks) 64 1]&&true) (ckQ (eqAVL (wL x_15) (wL x_15)&&true) (ckQ (eqAVL (wL x_13) (wL x_13)&&true) (ckQ (eqAVL (wL x_14) (wL x_14)&&true) (ckQ (eqAVL (wL x_13) (wL x_13)&&true) (∃x_27 y_28:Nat,Lf (wL y_22=wL
 x_27∧wL y_24=wL y_28)∧∀z_29:Nat,Lf (z_29=xorW x_27 y_28)→ckQ (eqAVL (wL y_26) (wL y_26)&&true) (∃x_30 y_31:Nat,Lf (wL z_29=wL x_30∧wL y_26=wL y_31)∧∀z_32:Nat,Lf (z_32=xorW x_30 y_31)→true=true∧ckQ
 (eqAVL (((cells6M x_0).drop (0+n_19.toNat*1)).take 1) (((cells6M x_0).drop (0+n_19.toNat*1)).take 1)&&Option.some ((cells6M x_0).length+1)==Option.some ((cells6M x_0).length+1)) (ckQ (Option.some ((cells6M x_0).length+1)
 == Option.some ((cells6M x_0).length+1)) (ckQ (eqAVL [.lst 0 (cells6M ks) 64 1] [.lst 0 (cells6M ks) 64 1]&&true) (ckQ (eqAVL (wL x_15) (wL x_15)&&true) (ckQ (eqAVL (wL x_13) (wL x_13)&&true) (ckQ (eqAVL (wL x_14) (wL x_14) &&
 true) (ckQ (eqAVL (wL x_13) (wL x_13)&&true) (∃x_33:Nat,Lf (wL z_32=wL x_33∧x_33<4294967296)∧∀n_34:Int,Lf (n_34=(x_33:Int))→ckQ (eqAVL (((cells6M x_0).drop (0+n_19.toNat*1)).take 1) (((cells6M x_0).drop (0 +
 n_19.toNat*1)).take 1)&&Option.some ((cells6M x_0).length+1)==Option.some ((cells6M x_0).length+1)) (ckQ (Option.some ((cells6M x_0).length+1)==Option.some ((cells6M x_0).length+1)) (ckQ (eqAVL [.lst 0 (cells6M ks) 64 1]
 [.lst 0 (cells6M ks) 64 1]&&true) (ckQ (eqAVL (wL x_15) (wL x_15)&&true) (ckQ (eqAVL (wL x_13) (wL x_13)&&true) (ckQ (eqAVL (wL x_14) (wL x_14)&&true) (ckQ (eqAVL (wL x_13) (wL x_13)&&true) (∃x_35 y_36:Nat,Lf (wL x_13=wL
 x_35∧wL x_14=wL y_36)∧∀z_37:Nat,Lf (z_37=andW x_35 y_36)→ckQ (eqAVL (((cells6M x_0).drop (0+n_19.toNat*1)).take 1) (((cells6M x_0).drop (0+n_19.toNat*1)).take 1)&&Option.some ((cells6M x_0).length+1) ==
 Option.some ((cells6M x_0).length+1)) (ckQ (Option.some ((cells6M x_0).length+1)==Option.some ((cells6M x_0).length+1)) (ckQ (eqAVL [.lst 0 (cells6M ks) 64 1] [.lst 0 (cells6M ks) 64 1]&&true) (ckQ (eqAVL (wL x_15) (wL x_15) &&
 true) (ckQ (eqAVL (wL x_13) (wL x_13)&&true) (∃x_38:Nat,Lf (wL x_13=wL x_38)∧∀y_39:Nat,Lf (y_39=notW x_38)→ckQ (eqAVL (((cells6M x_0).drop (0+n_19.toNat*1)).take 1) (((cells6M x_0).drop (0+n_19.toNat*1)).take 1)
 && Option.some ((cells6M x_0).length+1)==Option.some ((cells6M x_0).length+1)) (ckQ (Option.some ((cells6M x_0).length+1)==Option.some ((cells6M x_0).length+1)) (ckQ (eqAVL [.lst 0 (cells6M ks) 64 1] [.lst 0 (cells6M ks) 64 1]
 && true) (ckQ (eqAVL (wL x_15) (wL x_15)&&true) (∃x_40 y_41:Nat,Lf (wL y_39=wL x_40∧wL x_15=wL y_41)∧∀z_42:Nat,Lf (z_42=andW x_40 y_41)→ckQ (eqAVL (((cells6M x_0).drop (0+n_19.toNat*1)).take 1) (((cells6M
 x_0).drop (0+n_19.toNat*1)).take 1)&&Option.some ((cells6M x_0).length+1)==Option.some ((cells6M x_0).length+1)) (ckQ (Option.some ((cells6M x_0).length+1)==Option.some ((cells6M x_0).length+1)) (ckQ (eqAVL [.lst 0
 (cells6M ks) 64 1] [.lst 0 (cells6M ks) 64 1]&&true) (∃x_43 y_44:Nat,Lf (wL z_37=wL x_43∧wL z_42=wL y_44)∧∀z_45:Nat,Lf (z_45=xorW x_43 y_44)→ckQ (eqAVL (((cells6M x_0).drop (0+n_19.toNat*1)).take 1) (((cells6M
 x_0).drop (0+n_19.toNat*1)).take 1)&&Option.some ((cells6M x_0).length+1)==Option.some ((cells6M x_0).length+1)) (ckQ (Option.some ((cells6M x_0).length+1)==Option.some ((cells6M x_0).length+1)) (ckQ (eqAVL [.lst 0
 (cells6M ks) 64 1] [.lst 0 (cells6M ks) 64 1]&&true) (∃x_46:Nat,Lf (wL z_45=wL x_46∧x_46<4294967296)∧∀n_47:Int,Lf (n_47=(x_46:Int))→ckQ (eqAVL (((cells6M x_0).drop (0+n_19.toNat*1)).take 1) (((cells6M x_0).drop
 (0+n_19.toNat*1)).take 1)&&Option.some ((cells6M x_0).length+1)==Option.some ((cells6M x_0).length+1)) (ckQ (Option.some ((cells6M x_0).length+1)==Option.some ((cells6M x_0).length+1)) (ckQ (eqAVL [.lst 0 (cells6M ks) 64
 1] [.lst 0 (cells6M ks) 64 1]&&true) (exW .i64 (n_16+n_34) (fun n_48=>exW .i64 (n_48+n_47) (fun n_49=>exW .i64 (n_49+n_18) (fun n_50=>exW .i64 (n_50+n_20) (fun n_51=>exI .i64 (n_51.tmod 4294967296) (fun n_52=>true =
 true∧∃x_53:Nat,Lf (wL x_7=wL x_53∧x_53<4294967296∧(0:Int)<(2:Int)∧(2:Int)<(32:Int))∧∀y_54:Nat,Lf (y_54=rotW (32-Int.toNat 2) x_53)→ckQ (eqAVL (wL x_9) (wL x_9)&&true) (ckQ (eqAVL (wL x_8) (wL x_8)
 && true) (ckQ (eqAVL (wL x_9) (wL x_9)&&true) (ckQ (eqAVL (wL x_7) (wL x_7)&&true) (ckQ (eqAVL (wL x_8) (wL x_8)&&true) (ckQ (eqAVL (wL x_7) (wL x_7)&&true) (ckQ (eqAVL (wL x_7) (wL x_7)&&true) (ckQ (eqAVL (wL x_7) (wL x_7) &&
 true) (∃x_55:Nat,Lf (wL x_7=wL x_55∧x_55<4294967296∧(0:Int)<(13:Int)∧(13:Int)<(32:Int))∧∀y_56:Nat,Lf (y_56=rotW (32-Int.toNat 13) x_55)→ckQ (eqAVL (wL x_9) (wL x_9)&&true) (ckQ (eqAVL (wL x_8) (wL
 x_8)&&true) (ckQ (eqAVL (wL x_9) (wL x_9)&&true) (ckQ (eqAVL (wL x_7) (wL x_7)&&true) (ckQ (eqAVL (wL x_8) (wL x_8)&&true) (ckQ (eqAVL (wL x_7) (wL x_7)&&true) (ckQ (eqAVL (wL x_7) (wL x_7)&&true) (∃x_57:Nat,Lf (wL x_7=wL
 x_57∧x_57<4294967296∧(0:Int)<(22:Int)∧(22:Int)<(32:Int))∧∀y_58:Nat,Lf (y_58=rotW (32-Int.toNat 22) x_57)→ckQ (eqAVL (wL x_9) (wL x_9)&&true) (ckQ (eqAVL (wL x_8) (wL x_8)&&true) (ckQ (eqAVL (wL x_9) (wL
 x_9)&&true) (ckQ (eqAVL (wL x_7) (wL x_7)&&true) (ckQ (eqAVL (wL x_8) (wL x_8)&&true) (ckQ (eqAVL (wL x_7) (wL x_7)&&true) (∃x_59 y_60:Nat,Lf (wL y_54=wL x_59∧wL y_56=wL y_60)∧∀z_61:Nat,Lf (z_61=xorW x_59 y_60) →
 ckQ (eqAVL (wL y_58) (wL y_58)&&true) (∃x_62 y_63:Nat,Lf (wL z_61=wL x_62∧wL y_58=wL y_63)∧∀z_64:Nat,Lf (z_64=xorW x_62 y_63)→true=true∧ckQ (eqAVL (wL x_9) (wL x_9)&&true) (ckQ (eqAVL (wL x_8) (wL x_8)&&true)
 (ckQ (eqAVL (wL x_9) (wL x_9)&&true) (ckQ (eqAVL (wL x_7) (wL x_7)&&true) (ckQ (eqAVL (wL x_8) (wL x_8)&&true) (ckQ (eqAVL (wL x_7) (wL x_7)&&true) (∃x_65:Nat,Lf (wL z_64=wL x_65∧x_65<4294967296)∧∀n_66:Int,Lf (n_66
 = (x_65:Int))→ckQ (eqAVL (wL x_9) (wL x_9)&&true) (ckQ (eqAVL (wL x_8) (wL x_8)&&true) (ckQ (eqAVL (wL x_9) (wL x_9)&&true) (ckQ (eqAVL (wL x_7) (wL x_7)&&true) (ckQ (eqAVL (wL x_8) (wL x_8)&&true) (ckQ (eqAVL (wL x_7) (wL
 x_7)&&true) (∃x_67 y_68:Nat,Lf (wL x_7=wL x_67∧wL x_8=wL y_68)∧∀z_69:Nat,Lf (z_69=andW x_67 y_68)→ckQ (eqAVL (wL x_9) (wL x_9)&&true) (ckQ (eqAVL (wL x_8) (wL x_8)&&true) (ckQ (eqAVL (wL x_9) (wL x_9)&&true)
 (ckQ (eqAVL (wL x_7) (wL x_7)&&true) (∃x_70 y_71:Nat,Lf (wL x_7=wL x_70∧wL x_9=wL y_71)∧∀z_72:Nat,Lf (z_72=andW x_70 y_71)→ckQ (eqAVL (wL x_9) (wL x_9)&&true) (ckQ (eqAVL (wL x_8) (wL x_8)&&true) (∃x_73 y_74 :
 Nat,Lf (wL x_8=wL x_73∧wL x_9=wL y_74)∧∀z_75:Nat,Lf (z_75=andW x_73 y_74)→∃x_76 y_77:Nat,Lf (wL z_69=wL x_76∧wL z_72=wL y_77)∧∀z_78:Nat,Lf (z_78=xorW x_76 y_77)→ckQ (eqAVL (wL z_75) (wL z_75)&&true)
 (∃x_79 y_80:Nat,Lf (wL z_78=wL x_79∧wL z_75=wL y_80)∧∀z_81:Nat,Lf (z_81=xorW x_79 y_80)→true=true∧∃x_82:Nat,Lf (wL z_81=wL x_82∧x_82<4294967296)∧∀n_83:Int,Lf (n_83=(x_82:Int))→exW .i64 (n_66 +
 n_83) (fun n_84=>exW .i64 (n_84+0) (fun n_85=>exW .i64 (n_85+0) (fun n_86=>exW .i64 (n_86+0) (fun n_87=>exI .i64 (n_87.tmod 4294967296) (fun n_88=>true=true∧exI .i64 (x_2.2.1:Int) (fun n_89=>exI .i64 (x_2.2.2:Int)
 (fun n_90=>exI .i64 (x_2.2.3:Int) (fun n_91=>exI .i64 (x_2.2.4:Int) (fun n_92=>exI .i64 (x_2.2.5:Int) (fun n_93=>exI .i64 (x_2.2.6:Int) (fun n_94=>exI .i64 (x_2.2.7:Int) (fun n_95=>exW .i64 (n_52+n_88) (fun n_96=>
 exW .i64 (n_96+0) (fun n_97=>exW .i64 (n_97+0) (fun n_98=>exW .i64 (n_98+0) (fun n_99=>exI .i64 (n_99.tmod 4294967296) (fun n_100=>true=true∧exW .i64 (n_92+n_52) (fun n_101=>exW .i64 (n_101+0) (fun n_102=>exW .i64
 (n_102+0) (fun n_103=>exW .i64 (n_103+0) (fun n_104=>exI .i64 (n_104.tmod 4294967296) (fun n_105=>true=true∧exI .i64 (x_2.1:Int) (fun n_106=>exW .i64 (n_106+1) (fun n_107=>(True∧(0:Nat)=(0:Nat))∧((∃y_108 :
 Nat,Lf (y_108=0)∧100<64-x_2.1∧eqqQ [AV.lst 0 (cells6M ss) 8 1,.lst 0 (cells6M ks) 64 1]∧eqqQ (cells6M x_0)∧q8DJ_116_1 v0∧q8DJ_116_0 v0∧q8DJ_116_4 x_0 n_100 n_89 n_90 n_91 n_105 n_93 n_94 n_95 n_107)∨∃y_108:Nat ×
 W8,Lf (1≤y_108.1∧y_108.1≤64∧okW8 y_108.2∧y_108.2=rndsM ks (wsM (cells6M x_0)) y_108.1 v0)∧64-y_108.1<64-x_2.1∧eqqQ [AV.lst 0 (cells6M ss) 8 1,.lst 0 (cells6M ks) 64 1]∧eqqQ (cells6M x_0)∧q8DJ_116_1 v0 ∧
 q8DJ_116_0 v0∧q8DJ_116_3 x_0 n_100 n_89 n_90 n_91 n_105 n_93 n_94 n_95 y_108 n_107))))))))))))))))))))))))))))))))))))))))))))))))))))))))))))))))))))))))))))))))))))))))))))))))))))))))))))))))))))))))))))))))))))))))))))))) else exI
 .i64 (v0.1:Int) (fun n_4=>exI .i64 (x_2.2.1:Int) (fun n_5=>exW .i64 (n_4+n_5) (fun n_6=>exW .i64 (n_6+0) (fun n_7=>exW .i64 (n_7+0) (fun n_8=>exW .i64 (n_8+0) (fun n_9=>exI .i64 (n_9.tmod 4294967296) (fun n_10=>
 true=true∧exI .i64 (v0.2:Int) (fun n_11=>exI .i64 (x_2.2.2:Int) (fun n_12=>exW .i64 (n_11+n_12) (fun n_13=>exW .i64 (n_13+0) (fun n_14=>exW .i64 (n_14+0) (fun n_15=>exW .i64 (n_15+0) (fun n_16=>exI .i64
 (n_16.tmod 4294967296) (fun n_17=>true=true∧exI .i64 (v0.3:Int) (fun n_18=>exI .i64 (x_2.2.3:Int) (fun n_19=>exW .i64 (n_18+n_19) (fun n_20=>exW .i64 (n_20+0) (fun n_21=>exW .i64 (n_21+0) (fun n_22=>exW .i64 (n_22
 + 0) (fun n_23=>exI .i64 (n_23.tmod 4294967296) (fun n_24=>true=true∧exI .i64 (v0.4:Int) (fun n_25=>exI .i64 (x_2.2.4:Int) (fun n_26=>exW .i64 (n_25+n_26) (fun n_27=>exW .i64 (n_27+0) (fun n_28=>exW .i64 (n_28+0)
 (fun n_29=>exW .i64 (n_29+0) (fun n_30=>exI .i64 (n_30.tmod 4294967296) (fun n_31=>true=true∧exI .i64 (v0.5:Int) (fun n_32=>exI .i64 (x_2.2.5:Int) (fun n_33=>exW .i64 (n_32+n_33) (fun n_34=>exW .i64 (n_34+0) (fun
 n_35=>exW .i64 (n_35+0) (fun n_36=>exW .i64 (n_36+0) (fun n_37=>exI .i64 (n_37.tmod 4294967296) (fun n_38=>true=true∧exI .i64 (v0.6:Int) (fun n_39=>exI .i64 (x_2.2.6:Int) (fun n_40=>exW .i64 (n_39+n_40) (fun n_41
 => exW .i64 (n_41+0) (fun n_42=>exW .i64 (n_42+0) (fun n_43=>exW .i64 (n_43+0) (fun n_44=>exI .i64 (n_44.tmod 4294967296) (fun n_45=>true=true∧exI .i64 (v0.7:Int) (fun n_46=>exI .i64 (x_2.2.7:Int) (fun n_47=>exW
 .i64 (n_46+n_47) (fun n_48=>exW .i64 (n_48+0) (fun n_49=>exW .i64 (n_49+0) (fun n_50=>exW .i64 (n_50+0) (fun n_51=>exI .i64 (n_51.tmod 4294967296) (fun n_52=>true=true∧exI .i64 (v0.8:Int) (fun n_53=>exI .i64
 (x_2.2.8:Int) (fun n_54=>∃n_55:Int,q8DJ_116_2 n_53 n_54 n_55 Q ss ks x_0 v0 n_10 n_17 n_24 n_31 n_38 n_45 n_52)))))))))))))))))))))))))))))))))))))))))))))))))))))):=by kernel_rfl

end Go.Proofs.YtjenieljapmehaaGreatDoor
