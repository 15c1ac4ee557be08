/-
  Chapter 23: the extensions that are read.
-/
import Derived.Test.YtnhechnaemmdiaaGreatDoorKnF
set_option linter.unusedSimpArgs false
set_option linter.unusedVariables false
set_option linter.unusedSectionVars false
namespace Go.Proofs.YtnhechnaemmdiaaGreatDoor.Md
open Go.RowKit
set_option maxRecDepth 1000000

def aYm:Con:=fun args H Q=>sK [2] H args fun a=>aB2 a H Q
def bNg:SM:=dV [(92,aRo),(134,aYm)]
def goM (p:Int) (s:List UInt8) (acc:List Xt) (last:Int) (r:List UInt8):Prop:=
 r.length≤s.length∧∃f,r.length≤f∧aZ p s.length 0 0 s=(acc++(aZ p f last acc.length r).1,(aZ p f last acc.length r).2)
def aN3 (p:Int) (s0:List UInt8) (s:S):List (List LInv):=match s.hp with
 | [b0,⟨k,lf,[a0,a1,a2,a3,a4,cs,ex,a7,a8,a9,a10]⟩,b2,b3]=>[[
  { α:=Nat,pre:=fun i=>Lf (i=0),st:=fun i=>⟨mkT [(0,.ptr 1 11 0),(1,.str s0),(2,.int .i64 p),(6,.int .i64 0)],s.hp⟩,mu:=fun i=>s0.length+1 },
  { α:=List Xt×Int×List UInt8,pre:=fun x=>Lf (goM p s0 x.1 x.2.1 x.2.2∧1≤x.1.length∧x.1.length≤16),st:=fun x=>⟨mkT [(0,.ptr 1 11 0),(1,.str x.2.2),(2,.int .i64 p),(6,.int .i64 x.2.1)],[b0,⟨k,false,[a0,a1,a2,a3,a4,cs,.sl 5 (2*x.1.length) 0 x.1.length 2,a7,a8,a9,.bool false]⟩,b2,b3,⟨.exact,true,cellsXM (x.1.take 1)⟩,⟨.grow,true,cellsXM x.1⟩]⟩,mu:=fun x=>x.2.2.length }]]
 | [b0,⟨k,lf,[a0,a1,a2,a3,a4,cs,ex,a7,a8,a9,a10]⟩,b2,b3,b4,b5]=>[[
  { α:=Nat,pre:=fun i=>Lf (i=0),st:=fun i=>⟨mkT [(0,.ptr 1 11 0),(1,.str s0),(2,.int .i64 p),(6,.int .i64 0)],s.hp⟩,mu:=fun i=>s0.length+1 },
  { α:=List Xt×Int×List UInt8,pre:=fun x=>Lf (goM p s0 x.1 x.2.1 x.2.2∧1≤x.1.length∧x.1.length≤16),st:=fun x=>⟨mkT [(0,.ptr 1 11 0),(1,.str x.2.2),(2,.int .i64 p),(6,.int .i64 x.2.1)],[b0,⟨k,false,[a0,a1,a2,a3,a4,cs,.sl 7 (2*x.1.length) 0 x.1.length 2,a7,a8,a9,.bool false]⟩,b2,b3,b4,b5,⟨.exact,true,cellsXM (x.1.take 1)⟩,⟨.grow,true,cellsXM x.1⟩]⟩,mu:=fun x=>x.2.2.length }]]
 | _=>[]
noncomputable def uE (hv:Nat→Option Pa) (hb:Nat→Option Bool) (p:Int) (s:List UInt8):Env:=e23 bNg (fun i=>bif Nat.beq i 91000 then some (aN3 p s) else none) hv hb
noncomputable def xX (hv:Nat→Option Pa) (hb:Nat→Option Bool) (p:Int) (s:List UInt8) (sq ti ss:Int) (l:List UInt8) (sh:Bool) (Q:Out→List Blk→Gh→Prop):Prop:=
 aY (uE hv hb p s) (wpx (uE hv hb p s) 1000) 91 [.ptr 1 11 0,.str s,.int .i64 p] (pR sq ti ss .nils true l sh []) {} Q
def vM (p:Int) (r:List UInt8) (last cnt:Int) (c1 c2:Bool) (E1 E0:Prop) (STEP:Int→List UInt8→List UInt8→Prop):Prop:=(∃n_1:Int,(((AV.int .i64 (Nat.cast (List.length r):Int))=(AV.int .i64 n_1)) ∧
 (bif (decide (n_1>(0:Int))) then (bif (Nat.blt (0:Nat) (List.length r)) then (∃n_2:Int,(((AV.int .u8 (Nat.cast (UInt8.toNat (List.getD r (0:Nat) (UInt8.ofNat (0:Nat)))):Int))=(AV.int .u8 n_2)) ∧
 (∃n_3:Int,(((AV.int .i64 (IntKind.wrap .i64 n_2))=(AV.int .i64 n_3)) ∧
 (bif (n_3==(0:Int)) then (∃n_4:Int,(((AV.int .i64 (Nat.cast (List.length r):Int))=(AV.int .i64 n_4)) ∧
 (bif (decide (n_4>(3:Int))) then E1
else (bif (Nat.ble (List.length r) (1000000:Nat)) then (∃s_5:(List UInt8),(((AV.str (mR r))=(AV.str s_5)) ∧
 (bif (!(eqB s_5 [])) then E1
else E0)))
else False))))
else (bif (p==(48862:Int)) then (∃n_4:Int,(((AV.int .i64 (Int.fdiv n_3 (16:Int)))=(AV.int .i64 n_4)) ∧
 (∃n_5:Int,(((AV.int .i64 (IntKind.wrap .i64 (Nat.cast ((Int.toNat (n_3%(18446744073709551616:Int))) &&& (15:Nat)):Int)))=(AV.int .i64 n_5)) ∧
 (∃n_6:Int,(((AV.int .i64 (IntKind.wrap .i64 (n_5+(1:Int))))=(AV.int .i64 n_6)) ∧
 (bif (decide (n_4≤last)) then E1
else (∃n_7:Int,(((AV.int .i64 (IntKind.wrap .i64 ((1:Int)+n_6)))=(AV.int .i64 n_7)) ∧
 (∃n_8:Int,(((AV.int .i64 (Nat.cast (List.length r):Int))=(AV.int .i64 n_8)) ∧
 (bif (decide (n_7>n_8)) then E1
else (bif (p==(48862:Int)) then (bif (decide (n_4>(14:Int))) then E1
else (bif c1 then (∃n_9:Int,(((AV.int .i64 cnt)=(AV.int .i64 n_9)) ∧
 (bif (n_9==(16:Int)) then E1
else (∃n_10:Int,(((AV.int .i64 (IntKind.wrap .i64 ((1:Int)+n_6)))=(AV.int .i64 n_10)) ∧
 (bif (((decide ((0:Int)≤n_10))&&(Nat.ble (1:Nat) (Int.toNat n_10)))&&(Nat.ble (Int.toNat n_10) (List.length r))) then (∃s_11:(List UInt8),(((AV.str (List.take ((Int.toNat n_10)-(1:Nat)) (List.drop (1:Nat) r)))=(AV.str s_11)) ∧
 (bif c2 then (∃n_12:Int,(((AV.int .i64 (IntKind.wrap .i64 ((1:Int)+n_6)))=(AV.int .i64 n_12)) ∧
 (bif ((((decide ((0:Int)≤n_12))&&true)&&(Nat.ble (Int.toNat n_12) (List.length r)))&&(Nat.ble (List.length r) (List.length r))) then (∃s_13:(List UInt8),(((AV.str (List.take ((List.length r)-(Int.toNat n_12)) (List.drop (Int.toNat n_12) r)))=(AV.str s_13)) ∧
 (STEP n_4 s_11 s_13)))
else False)))
else False)))
else False))))))
else False))
else (bif c1 then (∃n_9:Int,(((AV.int .i64 cnt)=(AV.int .i64 n_9)) ∧
 (bif (n_9==(16:Int)) then E1
else (∃n_10:Int,(((AV.int .i64 (IntKind.wrap .i64 ((1:Int)+n_6)))=(AV.int .i64 n_10)) ∧
 (bif (((decide ((0:Int)≤n_10))&&(Nat.ble (1:Nat) (Int.toNat n_10)))&&(Nat.ble (Int.toNat n_10) (List.length r))) then (∃s_11:(List UInt8),(((AV.str (List.take ((Int.toNat n_10)-(1:Nat)) (List.drop (1:Nat) r)))=(AV.str s_11)) ∧
 (bif c2 then (∃n_12:Int,(((AV.int .i64 (IntKind.wrap .i64 ((1:Int)+n_6)))=(AV.int .i64 n_12)) ∧
 (bif ((((decide ((0:Int)≤n_12))&&true)&&(Nat.ble (Int.toNat n_12) (List.length r)))&&(Nat.ble (List.length r) (List.length r))) then (∃s_13:(List UInt8),(((AV.str (List.take ((List.length r)-(Int.toNat n_12)) (List.drop (Int.toNat n_12) r)))=(AV.str s_13)) ∧
 (STEP n_4 s_11 s_13)))
else False)))
else False)))
else False))))))
else False))))))))))))))
else (∃n_4:Int,(((AV.int .i64 (Nat.cast (List.length r):Int))=(AV.int .i64 n_4)) ∧
 (bif (decide (n_4<(2:Int))) then E1
else (bif (Nat.blt (1:Nat) (List.length r)) then (∃n_5:Int,(((AV.int .u8 (Nat.cast (UInt8.toNat (List.getD r (1:Nat) (UInt8.ofNat (0:Nat)))):Int))=(AV.int .u8 n_5)) ∧
 (∃n_6:Int,(((AV.int .i64 (IntKind.wrap .i64 n_5))=(AV.int .i64 n_6)) ∧
 (bif (decide (n_3≤last)) then E1
else (∃n_7:Int,(((AV.int .i64 (IntKind.wrap .i64 ((2:Int)+n_6)))=(AV.int .i64 n_7)) ∧
 (∃n_8:Int,(((AV.int .i64 (Nat.cast (List.length r):Int))=(AV.int .i64 n_8)) ∧
 (bif (decide (n_7>n_8)) then E1
else (bif (p==(48862:Int)) then (bif (decide (n_3>(14:Int))) then E1
else (bif c1 then (∃n_9:Int,(((AV.int .i64 cnt)=(AV.int .i64 n_9)) ∧
 (bif (n_9==(16:Int)) then E1
else (∃n_10:Int,(((AV.int .i64 (IntKind.wrap .i64 ((2:Int)+n_6)))=(AV.int .i64 n_10)) ∧
 (bif (((decide ((0:Int)≤n_10))&&(Nat.ble (2:Nat) (Int.toNat n_10)))&&(Nat.ble (Int.toNat n_10) (List.length r))) then (∃s_11:(List UInt8),(((AV.str (List.take ((Int.toNat n_10)-(2:Nat)) (List.drop (2:Nat) r)))=(AV.str s_11)) ∧
 (bif c2 then (∃n_12:Int,(((AV.int .i64 (IntKind.wrap .i64 ((2:Int)+n_6)))=(AV.int .i64 n_12)) ∧
 (bif ((((decide ((0:Int)≤n_12))&&true)&&(Nat.ble (Int.toNat n_12) (List.length r)))&&(Nat.ble (List.length r) (List.length r))) then (∃s_13:(List UInt8),(((AV.str (List.take ((List.length r)-(Int.toNat n_12)) (List.drop (Int.toNat n_12) r)))=(AV.str s_13)) ∧
 (STEP n_3 s_11 s_13)))
else False)))
else False)))
else False))))))
else False))
else (bif c1 then (∃n_9:Int,(((AV.int .i64 cnt)=(AV.int .i64 n_9)) ∧
 (bif (n_9==(16:Int)) then E1
else (∃n_10:Int,(((AV.int .i64 (IntKind.wrap .i64 ((2:Int)+n_6)))=(AV.int .i64 n_10)) ∧
 (bif (((decide ((0:Int)≤n_10))&&(Nat.ble (2:Nat) (Int.toNat n_10)))&&(Nat.ble (Int.toNat n_10) (List.length r))) then (∃s_11:(List UInt8),(((AV.str (List.take ((Int.toNat n_10)-(2:Nat)) (List.drop (2:Nat) r)))=(AV.str s_11)) ∧
 (bif c2 then (∃n_12:Int,(((AV.int .i64 (IntKind.wrap .i64 ((2:Int)+n_6)))=(AV.int .i64 n_12)) ∧
 (bif ((((decide ((0:Int)≤n_12))&&true)&&(Nat.ble (Int.toNat n_12) (List.length r)))&&(Nat.ble (List.length r) (List.length r))) then (∃s_13:(List UInt8),(((AV.str (List.take ((List.length r)-(Int.toNat n_12)) (List.drop (Int.toNat n_12) r)))=(AV.str s_13)) ∧
 (STEP n_3 s_11 s_13)))
else False)))
else False)))
else False))))))
else False))))))))))))
else False))))))))))
else False)
else E0)))
abbrev aJ5:Prop:=aJ [AV.bool false,.int .i64 0,.int .i64 0,.int .i64 0,.int .i64 0,.nils,.nils,.int .i64 0,.str []]
def yP:Prop:=
aJ5∧False
abbrev bB5:Blk:=Blk.mk BK.exact true aU
abbrev bAr:Blk:=Blk.mk BK.exact false [.ptr 1 11 0]
abbrev aYd (sh:Bool):Blk:=Blk.mk BK.exact true [.bool sh]
abbrev aX9 (Q:Out→List Blk→Gh→Prop) (sq ti ss:Int) (l:List UInt8) (sh:Bool):Prop:=Q (.ret (.tup [])) [bB5,Blk.mk BK.exact true [.bool false,.int .i64 0,.int .i64 sq,.int .i64 ti,.int .i64 ss,.nils,.nils,.int .i64 0,.str [],.str l,.bool true],bAr,aYd sh] {}
def aRe (p:Int) (sq:Int) (ti:Int) (ss:Int) (l:List UInt8) (sh:Bool) (Q:Out→List Blk→Gh→Prop):Prop:=
bif p==48862 then aX9 Q sq ti ss l sh else bif p==4096 then aX9 Q sq ti ss l sh else aX9 Q sq ti ss l sh
abbrev bEn (ex_1:List Xt):Prop:=Lf (([]:List AV)=cellsXM ex_1∧0=ex_1.length∧ex_1.length≤1000000∧dataM ex_1)
abbrev bHb (sq ti ss:Int) (l:List UInt8) (sh:Bool):List Blk:=[bB5,Blk.mk BK.exact true [.bool false,.int .i64 0,.int .i64 sq,.int .i64 ti,.int .i64 ss,.nils,.nils,.int .i64 0,.str [],.str l,.bool false],bAr,aYd sh]
def aGu (p:Int) (sq:Int) (ti:Int) (ss:Int) (l:List UInt8) (sh:Bool) (Q:Out→List Blk→Gh→Prop):Prop:=
exI .i64 0 (fun n_0=>bif n_0==0 then aX9 Q sq ti ss l sh else ∃ex_1:List Xt,bEn ex_1∧bif shortM ex_1 then bif p==48862 then Q (.ret (.tup [])) (bHb sq ti ss l sh) {} else aX9 Q sq ti ss l sh else bif p==48862 then aX9 Q sq ti ss l sh else Q (.ret (.tup [])) (bHb sq ti ss l sh) {})
def aS5 (p:Int) (sq:Int) (ti:Int) (ss:Int) (l:List UInt8) (sh:Bool) (Q:Out→List Blk→Gh→Prop):Prop:=
bif p==48862 then aGu p sq ti ss l sh Q else bif p==4096 then aGu p sq ti ss l sh Q else aX9 Q sq ti ss l sh
def aSt (s:List UInt8):Prop:=
∃y_0:Nat,Lf (y_0=0)∧s.length+1<s.length+1∧yP
def qaM (Q:Out→List Blk→Gh→Prop) (sq ti ss:Int) (l:List UInt8) (sh:Bool) (acc:List Xt) (bad:Bool):Prop:=(Q (Out.ret (AV.tup [])) ((Blk.mk BK.exact true aU)::((Blk.mk BK.exact false ((AV.bool false)::((AV.int .i64 (0:Int))::((AV.int .i64 sq)::((AV.int .i64 ti)::((AV.int .i64 ss)::(AV.nils::((AV.sl (5:Nat) ((2:Nat)*(List.length acc)) (0:Nat) (List.length acc) (2:Nat))::((AV.int .i64 (0:Int))::((AV.str [])::((AV.str l)::((AV.bool bad)::[]))))))))))))::((Blk.mk BK.exact false ((AV.ptr (1:Nat) (11:Nat) (0:Nat))::[]))::((Blk.mk BK.exact true ((AV.bool sh)::[]))::((Blk.mk BK.exact true (cellsXM (List.take (1:Nat) acc)))::((Blk.mk BK.grow true (cellsXM acc))::[])))))) (Gh.mk (0:Nat) (0:Nat) []))
def haM (sq ti ss:Int) (l:List UInt8) (sh:Bool) (acc:List Xt):List Blk:=((Blk.mk BK.exact true aU)::((Blk.mk BK.exact false ((AV.bool false)::((AV.int .i64 (0:Int))::((AV.int .i64 sq)::((AV.int .i64 ti)::((AV.int .i64 ss)::(AV.nils::((AV.sl (5:Nat) ((2:Nat)*(List.length acc)) (0:Nat) (List.length acc) (2:Nat))::((AV.int .i64 (0:Int))::((AV.str [])::((AV.str l)::((AV.bool false)::[]))))))))))))::((Blk.mk BK.exact false ((AV.ptr (1:Nat) (11:Nat) (0:Nat))::[]))::((Blk.mk BK.exact true ((AV.bool sh)::[]))::((Blk.mk BK.exact true (cellsXM (List.take (1:Nat) acc)))::((Blk.mk BK.grow true (cellsXM acc))::[]))))))
abbrev rY:Prop:=aJ [AV.ptr 1 11 0]
abbrev uF (sh:Bool):Prop:=aJ [AV.bool sh]
abbrev aQz (s:List UInt8) (p:Int):Prop:=aJ (AV.ptr 1 11 0)∧aJ (AV.str s)∧aJ (AV.int .i64 p)∧aJ (AV.int .i64 0)∧True
abbrev aQk (p:Int) (s:List UInt8) (x_0:List Xt×Int×List UInt8):Prop:=Lf (goM p s x_0.1 x_0.2.1 x_0.2.2∧1≤x_0.1.length∧x_0.1.length≤16)
abbrev aIz:Prop:=True∧(0:Nat)=(0:Nat)
abbrev aYe (sq ti ss:Int) (y_14:List Xt×Int×List UInt8) (l:List UInt8):List AV:=[.bool false,.int .i64 0,.int .i64 sq,.int .i64 ti,.int .i64 ss,.nils,.sl 5 (2*y_14.1.length) 0 y_14.1.length 2,.int .i64 0,.str [],.str l,.bool false]
abbrev bCf (rs_:List UInt8) (y_14:List Xt×Int×List UInt8) (p id_:Int):Prop:=aJ (AV.ptr 1 11 0)∧AV.str rs_=AV.str y_14.2.2∧aJ (AV.int .i64 p)∧AV.int .i64 id_=AV.int .i64 y_14.2.1∧True
abbrev aFd (x_0:List Xt×Int×List UInt8):Bool:=Nat.beq (cellsXM x_0.1).length (2*x_0.1.length)
abbrev bFc (x_0:List Xt×Int×List UInt8):Bool:=aFd x_0
abbrev aSo (x_0:List Xt×Int×List UInt8):Bool:=bFc x_0&&true&&Nat.beq (0+x_0.1.length*2) (2*x_0.1.length)&&Nat.ble (x_0.1.length+1) 1099511627776&&Nat.ble ((x_0.1.length+1)*24) 1099511627776
abbrev aSf (ex_7:List Xt):Prop:=ex_7.length≤1000000∧dataM ex_7
abbrev bK2 (x_0:List Xt×Int×List UInt8) (Q:Out→List Blk→Gh→Prop) (sq ti ss:Int) (l:List UInt8) (sh:Bool) (p:Int):Prop:=ckQ (aFd x_0) (exI .i64 (x_0.1.length:Int) (fun n_6=>bif n_6==0 then qaM Q sq ti ss l sh x_0.1 true else ckQ (aFd x_0&&Nat.ble (0+x_0.1.length*2) (2*x_0.1.length)&&true) (∃ex_7:List Xt,Lf (List.map (fun (x_8:AV)=>bW 1 (haM sq ti ss l sh x_0.1) 8 x_8) (((cellsXM x_0.1).drop 0).take (x_0.1.length*2))=cellsXM ex_7∧x_0.1.length=ex_7.length∧aSf ex_7)∧bif shortM ex_7 then bif p==48862 then qaM Q sq ti ss l sh x_0.1 false else qaM Q sq ti ss l sh x_0.1 true else bif p==48862 then qaM Q sq ti ss l sh x_0.1 true else qaM Q sq ti ss l sh x_0.1 false)))
theorem bEj (p:Int) (s:List UInt8) (sq:Int) (ti:Int) (ss:Int) (l:List UInt8) (sh:Bool) (Q:Out→List Blk→Gh→Prop):xX (bD [(372748,.int .i64),(372751,.int .u8),(372752,.int .i64),(372766,.int .i64),
 (372771,.str),(372780,.int .i64),(372782,.int .i64),(372783,.int .i64),(372797,.int .i64),(372799,.int .i64),(372833,.int .i64),(372834,.str),(372844,.int .i64),(372845,.str),(372786,.int .i64),(372754,.int .u8),
 (372755,.int .i64),(372868,.int .i64),(372816,.int .i64)]) (bE []) p s sq ti ss l sh Q=(((∃x_0:Nat,Lf (x_0=0)∧aJ5∧aJ [AV.bool false,.int .i64 0,.int .i64 sq,.int .i64 ti,.int .i64 ss,.nils,.nils,.int .i64 0,
 .str [],.str l,.bool false]∧rY∧uF sh∧aQz s p)∨∃x_0:List Xt×Int×List UInt8,aQk p s x_0∧yP)∧(∀x_0:Nat,Lf (x_0=0)→vM p s 0 0 true true (aRe p sq ti ss l sh Q) (aS5 p sq ti ss l sh Q)
 (fun (id_:Int)=>fun (dt_:List UInt8)=>fun (rs_:List UInt8)=>aIz∧(aSt s∨∃y_14:List Xt×Int×List UInt8,aQk p s y_14∧y_14.2.2.length<s.length+1∧aJ5∧[AV.bool false,.int .i64 0,.int .i64 sq,.int .i64
 ti,.int .i64 ss,.nils,.sl 5 2 0 1 2,.int .i64 0,.str [],.str l,.bool false]=aYe sq ti ss y_14 l∧rY∧uF sh∧[AV.int .i64 id_,.str dt_]=cellsXM (y_14.1.take 1)∧[AV.int .i64 id_,.str dt_]=cellsXM y_14.1∧bCf rs_
 y_14 p id_)))∧∀x_0:List Xt×Int×List UInt8,aQk p s x_0→vM p x_0.2.2 x_0.2.1 (x_0.1.length:Int) (bFc x_0) (aSo x_0) (bif p==48862 then qaM Q sq ti ss l sh x_0.1 true else bif p==4096 then qaM Q sq ti ss l sh x_0.1
 true else qaM Q sq ti ss l sh x_0.1 true) (bif p==48862 then bK2 x_0 Q sq ti ss l sh p else bif p==4096 then bK2 x_0 Q sq ti ss l sh p else qaM Q sq ti ss l sh x_0.1 true) (fun (id_:Int)=>fun (dt_:List UInt8)=>fun (rs_:List
 UInt8)=>aIz∧((∃y_14:Nat,Lf (y_14=0)∧s.length+1<x_0.2.2.length∧yP)∨∃y_14:List Xt×Int×List UInt8,aQk p s y_14∧y_14.2.2.length<x_0.2.2.length∧aJ5∧[AV.bool false,.int .i64 0,.int .i64 sq,.int
 .i64 ti,.int .i64 ss,.nils,.sl 5 (2*x_0.1.length+2) 0 (x_0.1.length+1) 2,.int .i64 0,.str [],.str l,.bool false]=aYe sq ti ss y_14 l∧rY∧uF sh∧cellsXM (x_0.1.take 1)=cellsXM (y_14.1.take 1)∧cellsXM x_0.1 ++
 [AV.int .i64 id_,.str dt_]=cellsXM y_14.1∧bCf rs_ y_14 p id_))):=by kernel_rfl

noncomputable def zF (hv:Nat→Option Pa) (hb:Nat→Option Bool) (p:Int) (s:List UInt8) (sq ti ss:Int) (n:Nat) (l:List UInt8) (sh:Bool) (c4 c5:List AV) (Q:Out→List Blk→Gh→Prop):Prop:=
 aY (uE hv hb p s) (wpx (uE hv hb p s) 1000) 91 [.ptr 1 11 0,.str s,.int .i64 p] (pR sq ti ss (.sl 5 n 0 n 1) false l sh [⟨.exact,true,c4⟩,⟨.grow,true,c5⟩]) {} Q
abbrev bB9 (Q:Out→List Blk→Gh→Prop) (sq ti ss:Int) (n:Nat) (l:List UInt8) (sh:Bool) (c4 c5:List AV):Prop:=Q (.ret (.tup [])) [bB5,Blk.mk BK.exact false [.bool false,.int .i64 0,.int .i64 sq,.int .i64 ti,.int .i64 ss,.sl 5 n 0 n 1,.nils,.int .i64 0,.str [],.str l,.bool true],bAr,aYd sh,Blk.mk BK.exact true c4,Blk.mk BK.grow true c5] {}
def aSq (p:Int) (sq:Int) (ti:Int) (ss:Int) (n:Nat) (l:List UInt8) (sh:Bool) (c4:List AV) (c5:List AV) (Q:Out→List Blk→Gh→Prop):Prop:=
bif p==48862 then bB9 Q sq ti ss n l sh c4 c5 else bif p==4096 then bB9 Q sq ti ss n l sh c4 c5 else bB9 Q sq ti ss n l sh c4 c5
abbrev bDq (sq ti ss:Int) (n:Nat) (l:List UInt8) (sh:Bool) (c4 c5:List AV):List Blk:=[Blk.mk BK.exact true aU,Blk.mk BK.exact false [.bool false,.int .i64 0,.int .i64 sq,.int .i64 ti,.int .i64 ss,.sl 5 n 0 n 1,.nils,.int .i64 0,.str [],.str l,.bool false],Blk.mk BK.exact false [.ptr 1 11 0],Blk.mk BK.exact true [.bool sh],Blk.mk BK.exact true c4,Blk.mk BK.grow true c5]
def aGc (p:Int) (sq:Int) (ti:Int) (ss:Int) (n:Nat) (l:List UInt8) (sh:Bool) (c4:List AV) (c5:List AV) (Q:Out→List Blk→Gh→Prop):Prop:=
exI .i64 0 (fun n_0=>bif n_0==0 then bB9 Q sq ti ss n l sh c4 c5 else ∃ex_1:List Xt,bEn ex_1∧bif shortM ex_1 then bif p==48862 then Q (.ret (.tup [])) (bDq sq ti ss n l sh c4 c5) {} else bB9 Q sq ti ss n l sh c4 c5 else bif p==48862 then bB9 Q sq ti ss n l sh c4 c5 else Q (.ret (.tup [])) (bDq sq ti ss n l sh c4 c5) {})
def aTk (p:Int) (sq:Int) (ti:Int) (ss:Int) (n:Nat) (l:List UInt8) (sh:Bool) (c4:List AV) (c5:List AV) (Q:Out→List Blk→Gh→Prop):Prop:=
bif p==48862 then aGc p sq ti ss n l sh c4 c5 Q else bif p==4096 then aGc p sq ti ss n l sh c4 c5 Q else bB9 Q sq ti ss n l sh c4 c5
abbrev aYu (sq ti ss:Int) (n:Nat) (l:List UInt8):List AV:=[.bool false,.int .i64 0,.int .i64 sq,.int .i64 ti,.int .i64 ss,.sl 5 n 0 n 1,.sl 7 2 0 1 2,.int .i64 0,.str [],.str l,.bool false]
abbrev bDu (sq ti ss:Int) (n:Nat) (l:List UInt8):List AV:=[.bool false,.int .i64 0,.int .i64 sq,.int .i64 ti,.int .i64 ss,.sl 5 n 0 n 1,.nils,.int .i64 0,.str [],.str l,.bool false]
def aS0 (s:List UInt8) (sq:Int) (ti:Int) (ss:Int) (n:Nat) (l:List UInt8) (sh:Bool) (c4:List AV) (c5:List AV):Prop:=
∃y_0:Nat,Lf (y_0=0)∧s.length+1<s.length+1∧aJ5∧aYu sq ti ss n l=bDu sq ti ss n l∧rY∧uF sh∧c4=c4∧c5=c5∧False
def qbM (Q:Out→List Blk→Gh→Prop) (sq ti ss:Int) (n:Nat) (l:List UInt8) (sh:Bool) (c4 c5:List AV) (acc:List Xt) (bad:Bool):Prop:=(Q (Out.ret (AV.tup [])) ((Blk.mk BK.exact true aU)::((Blk.mk BK.exact false ((AV.bool false)::((AV.int .i64 (0:Int))::((AV.int .i64 sq)::((AV.int .i64 ti)::((AV.int .i64 ss)::((AV.sl (5:Nat) n (0:Nat) n (1:Nat))::((AV.sl (7:Nat) ((2:Nat)*(List.length acc)) (0:Nat) (List.length acc) (2:Nat))::((AV.int .i64 (0:Int))::((AV.str [])::((AV.str l)::((AV.bool bad)::[]))))))))))))::((Blk.mk BK.exact false ((AV.ptr (1:Nat) (11:Nat) (0:Nat))::[]))::((Blk.mk BK.exact true ((AV.bool sh)::[]))::((Blk.mk BK.exact true c4)::((Blk.mk BK.grow true c5)::((Blk.mk BK.exact true (cellsXM (List.take (1:Nat) acc)))::((Blk.mk BK.grow true (cellsXM acc))::[])))))))) (Gh.mk (0:Nat) (0:Nat) []))
def hbM (sq ti ss:Int) (n:Nat) (l:List UInt8) (sh:Bool) (c4 c5:List AV) (acc:List Xt):List Blk:=((Blk.mk BK.exact true aU)::((Blk.mk BK.exact false ((AV.bool false)::((AV.int .i64 (0:Int))::((AV.int .i64 sq)::((AV.int .i64 ti)::((AV.int .i64 ss)::((AV.sl (5:Nat) n (0:Nat) n (1:Nat))::((AV.sl (7:Nat) ((2:Nat)*(List.length acc)) (0:Nat) (List.length acc) (2:Nat))::((AV.int .i64 (0:Int))::((AV.str [])::((AV.str l)::((AV.bool false)::[]))))))))))))::((Blk.mk BK.exact false ((AV.ptr (1:Nat) (11:Nat) (0:Nat))::[]))::((Blk.mk BK.exact true ((AV.bool sh)::[]))::((Blk.mk BK.exact true c4)::((Blk.mk BK.grow true c5)::((Blk.mk BK.exact true (cellsXM (List.take (1:Nat) acc)))::((Blk.mk BK.grow true (cellsXM acc))::[]))))))))
abbrev bIc (sq ti ss:Int) (n:Nat) (x_0:List Xt×Int×List UInt8) (l:List UInt8):List AV:=[.bool false,.int .i64 0,.int .i64 sq,.int .i64 ti,.int .i64 ss,.sl 5 n 0 n 1,.sl 7 (2*x_0.1.length) 0 x_0.1.length 2,.int .i64 0,.str [],.str l,.bool false]
abbrev bJx (x_0:List Xt×Int×List UInt8) (Q:Out→List Blk→Gh→Prop) (sq ti ss:Int) (n:Nat) (l:List UInt8) (sh:Bool) (c4 c5:List AV) (p:Int):Prop:=ckQ (aFd x_0) (exI .i64 (x_0.1.length:Int) (fun n_6=>bif n_6==0 then qbM Q sq ti ss n l sh c4 c5 x_0.1 true else ckQ (aFd x_0&&Nat.ble (0+x_0.1.length*2) (2*x_0.1.length)&&true) (∃ex_7:List Xt,Lf (List.map (fun (x_8:AV)=>bW 1 (hbM sq ti ss n l sh c4 c5 x_0.1) 8 x_8) (((cellsXM x_0.1).drop 0).take (x_0.1.length*2))=cellsXM ex_7∧x_0.1.length=ex_7.length∧aSf ex_7)∧bif shortM ex_7 then bif p==48862 then qbM Q sq ti ss n l sh c4 c5 x_0.1 false else qbM Q sq ti ss n l sh c4 c5 x_0.1 true else bif p==48862 then qbM Q sq ti ss n l sh c4 c5 x_0.1 true else qbM Q sq ti ss n l sh c4 c5 x_0.1 false)))
abbrev aZw (sq ti ss:Int) (n:Nat) (x_0:List Xt×Int×List UInt8) (l:List UInt8):List AV:=[.bool false,.int .i64 0,.int .i64 sq,.int .i64 ti,.int .i64 ss,.sl 5 n 0 n 1,.sl 7 (2*x_0.1.length+2) 0 (x_0.1.length+1) 2,.int .i64 0,.str [],.str l,.bool false]
theorem bG5 (p:Int) (s:List UInt8) (sq:Int) (ti:Int) (ss:Int) (n:Nat) (l:List UInt8) (sh:Bool) (c4:List AV) (c5:List AV) (Q:Out→List Blk→Gh→Prop):zF (bD [(372748,.int .i64),(372751,.int .u8),
 (372752,.int .i64),(372766,.int .i64),(372771,.str),(372780,.int .i64),(372782,.int .i64),(372783,.int .i64),(372797,.int .i64),(372799,.int .i64),(372833,.int .i64),(372834,.str),(372844,.int .i64),(372845,.str),
 (372786,.int .i64),(372754,.int .u8),(372755,.int .i64),(372868,.int .i64),(372816,.int .i64)]) (bE []) p s sq ti ss n l sh c4 c5 Q=(((∃x_0:Nat,Lf (x_0=0)∧aJ5∧aJ (bDu sq ti ss n l)∧rY∧uF sh∧c4=c4 ∧
 c5=c5∧aQz s p)∨∃x_0:List Xt×Int×List UInt8,aQk p s x_0∧aJ5∧bDu sq ti ss n l=bIc sq ti ss n x_0 l∧rY∧uF sh∧c4=c4∧c5=c5∧False)∧(∀x_0:Nat,Lf (x_0=0)→vM p s 0 0 true true (aSq p
 sq ti ss n l sh c4 c5 Q) (aTk p sq ti ss n l sh c4 c5 Q) (fun (id_:Int)=>fun (dt_:List UInt8)=>fun (rs_:List UInt8)=>aIz∧(aS0 s sq ti ss n l sh c4 c5∨∃y_14:List Xt×Int×List UInt8,aQk p s y_14 ∧
 y_14.2.2.length<s.length+1∧aJ5∧aYu sq ti ss n l=bIc sq ti ss n y_14 l∧rY∧uF sh∧c4=c4∧c5=c5∧[AV.int .i64 id_,.str dt_]=cellsXM (y_14.1.take 1)∧[AV.int .i64 id_,.str dt_]=cellsXM y_14.1∧bCf rs_
 y_14 p id_)))∧∀x_0:List Xt×Int×List UInt8,aQk p s x_0→vM p x_0.2.2 x_0.2.1 (x_0.1.length:Int) (bFc x_0) (aSo x_0) (bif p==48862 then qbM Q sq ti ss n l sh c4 c5 x_0.1 true else bif p==4096 then qbM Q sq ti ss n l
 sh c4 c5 x_0.1 true else qbM Q sq ti ss n l sh c4 c5 x_0.1 true) (bif p==48862 then bJx x_0 Q sq ti ss n l sh c4 c5 p else bif p==4096 then bJx x_0 Q sq ti ss n l sh c4 c5 p else qbM Q sq ti ss n l sh c4 c5 x_0.1 true) (fun (id_ :
 Int)=>fun (dt_:List UInt8)=>fun (rs_:List UInt8)=>aIz∧((∃y_14:Nat,Lf (y_14=0)∧s.length+1<x_0.2.2.length∧aJ5∧aZw sq ti ss n x_0 l=bDu sq ti ss n l∧rY∧uF sh∧c4=c4∧c5=c5∧False)∨∃y_14
 : List Xt×Int×List UInt8,aQk p s y_14∧y_14.2.2.length<x_0.2.2.length∧aJ5∧aZw sq ti ss n x_0 l=bIc sq ti ss n y_14 l∧rY∧uF sh∧c4=c4∧c5=c5∧cellsXM (x_0.1.take 1)=cellsXM (y_14.1.take 1)∧cellsXM
 x_0.1++[AV.int .i64 id_,.str dt_]=cellsXM y_14.1∧bCf rs_ y_14 p id_))):=by kernel_rfl

theorem aBa (p:Int) (f:Nat) (last:Int) (n:Nat):aZ p f last n []=([],false):=by cases f<;>rfl
theorem bHm (c:Nat):Int.fdiv (c:Int) 16=((c/16:Nat):Int):=by rw[bP0 _ (by omega)];omega
theorem qA {p:Int} {r:List UInt8} {last:Int} {n:Nat} {c1 c2:Bool} {E1 E0:Prop} {STEP:Int→List UInt8→List UInt8→Prop} (h1:c1=true) (h2:c2=true) (hr:r.length≤1000000) {f:Nat} (hf:r.length≤f)
  (hE1:aZ p f last n r=([],true)→E1) (hE0:aZ p f last n r=([],false)→E0)
  (hS:n≠16→∀f' id dt rs,rs.length<r.length→rs.length≤f'→aZ p f last n r=((id,dt)::(aZ p f' id (n+1) rs).1,(aZ p f' id (n+1) rs).2)→STEP id dt rs):vM p r last (n:Int) c1 c2 E1 E0 STEP:=by
 unfold vM
 cases r with
 | nil=>exact ⟨_,rfl,aD (fun h=>absurd h (by simp)) (fun _=>hE0 (aBa _ _ _ _))⟩
 | cons c t=>
  obtain ⟨f,rfl⟩:∃g,f=g+1:=⟨f-1,by simp at hf;omega⟩
  have hc:=c.toNat_lt
  simp only[bOb] at hr hf
  refine ⟨_,rfl,aD (fun h => ?_) (fun h=>absurd (by simp only[bOb];omega) h)⟩
  refine ckI (by simp) ⟨_,rfl, ?_⟩
  rw[bQu]
  refine aI (by omega) (by omega) (aS (fun z => ?_) (fun z => ?_))
  ·have hz:aZ p (f+1) last n (c::t)=([],decide ((c::t).length>3) || !eqB (mR (c::t)) []):=by rw[aZ,if_pos z]
   refine ⟨_,rfl,aD (fun q=>hE1 (by rw[hz,bO4 (by omega)];rfl)) (fun q=>ckI (by simp;omega) ⟨_,rfl,yI (dO (fun y=>hE0 (by rw[hz,bO0 (by omega),y];rfl)) (fun y=>hE1 (by rw[hz,y];simp)))⟩)⟩
  ·by_cases hp:p=48862
   ·subst hp
    have hG:aZ 48862 (f+1) last n (c::t)=if ((c.toNat/16:Nat):Int)≤last∨t.length<c.toNat%16+1∨((c.toNat/16:Nat):Int)>14∨n=16 then ([],true) else ((((c.toNat/16:Nat):Int),t.take (c.toNat%16+1))::(aZ 48862 f ((c.toNat/16:Nat):Int) (n+1) (t.drop (c.toNat%16+1))).1,(aZ 48862 f ((c.toNat/16:Nat):Int) (n+1) (t.drop (c.toNat%16+1))).2):=by
     rw[aZ,if_neg z,if_neg (by simp)]
     simp only[bR8,bOp]
    refine aS (fun _ => ?_) (fun h=>absurd rfl h)
    rw[bHm,show Int.toNat ((c.toNat:Int)%18446744073709551616)=c.toNat by omega,bFm _ (by omega)]
    refine ⟨_,rfl,aI (by omega) (by omega) (aI (by omega) (by omega) (aD (fun a=>hE1 (by rw[hG,if_pos (.inl a)])) (fun a => ?_)))⟩
    refine aI (by omega) (by omega) ⟨_,rfl,aD (fun b=>hE1 (by simp only[bOb] at b;rw[hG,if_pos (.inr (.inl (by omega)))])) (fun b => ?_)⟩
    simp only[bOb] at b
    refine aS (fun _ => ?_) (fun h=>absurd rfl h)
    refine aD (fun d=>hE1 (by rw[hG,if_pos (.inr (.inr (.inl d)))])) (fun d=>ckI h1 ⟨_,rfl,aS (fun e=>hE1 (by rw[hG,if_pos (.inr (.inr (.inr (by omega))))])) (fun e => ?_)⟩)
    have e1:Int.toNat (1+(((c.toNat%16:Nat):Int)+1))=c.toNat%16+1+1:=by omega
    refine aI (by omega) (by omega) (ckI (by simp;omega) ⟨t.take (c.toNat%16+1),by rw[e1];rfl,ckI h2 (aI (by omega) (by omega) (ckI (by simp;omega) ⟨t.drop (c.toNat%16+1),by rw[e1,bOk (by simp)];rfl, ?_⟩))⟩)
    exact hS (by omega) f _ _ _ (by simp;omega) (by rw[bO7];omega) (by rw[hG,if_neg (by omega)])
   ·refine aS (fun h=>absurd h hp) (fun _ => ?_)
    refine ⟨_,rfl,aD (fun a=>hE1 ?_) (fun a => ?_)⟩
    ·have:t=[]:=bO8.1 (by simp only[bOb] at a;omega)
     rw[aZ,if_neg z,if_pos ⟨hp,this⟩]
    obtain ⟨d,u,rfl⟩:∃d u,t=d::u:=by
     cases t with
     | nil=>simp at a
     | cons d u=>exact ⟨d,u,rfl⟩
    simp only[bOb] at hr hf
    have hd:=d.toNat_lt
    have hG:aZ p (f+1) last n (c::d::u)=if (c.toNat:Int)≤last∨u.length<d.toNat∨n=16 then ([],true) else (((c.toNat:Int),u.take d.toNat)::(aZ p f (c.toNat:Int) (n+1) (u.drop d.toNat)).1,(aZ p f (c.toNat:Int) (n+1) (u.drop d.toNat)).2):=by
     rw[aZ,if_neg z,if_neg (by simp)]
     simp only[hp,bRw,false_and,false_or,List.headD_cons,List.tail_cons]
    refine ckI (by simp) ⟨_,rfl, ?_⟩
    rw[bQt,bQu]
    refine aI (by omega) (by omega) (aD (fun a=>hE1 (by rw[hG,if_pos (.inl a)])) (fun a' => ?_))
    refine aI (by omega) (by omega) ⟨_,rfl,aD (fun b=>hE1 (by simp only[bOb] at b;rw[hG,if_pos (.inr (.inl (by omega)))])) (fun b => ?_)⟩
    simp only[bOb] at b
    refine aS (fun h=>absurd h hp) (fun _ => ?_)
    refine ckI h1 ⟨_,rfl,aS (fun e=>hE1 (by rw[hG,if_pos (.inr (.inr (by omega)))])) (fun e => ?_)⟩
    have e1:Int.toNat (2+(d.toNat:Int))=d.toNat+1+1:=by omega
    refine aI (by omega) (by omega) (ckI (by simp;omega) ⟨u.take d.toNat,by rw[e1];rfl,ckI h2 (aI (by omega) (by omega) (ckI (by simp;omega) ⟨u.drop d.toNat,by rw[e1,bOk (by simp)];rfl, ?_⟩))⟩)
    exact hS (by omega) f _ _ _ (by simp;omega) (by rw[bO7];omega) (by rw[hG,if_neg (by omega)])
theorem nN (p:Int):∀ (f:Nat) (last:Int) (n:Nat) (s:List UInt8),∀x∈(aZ p f last n s).1,x.2.length≤s.length
 | 0,_,_,_,x,hx=>by simp[aZ] at hx
 | f+1,last,n,[],x,hx=>by simp[aZ] at hx
 | f+1,last,n,c::s,x,hx=>by
  rw[aZ] at hx
  split at hx
  ·simp at hx
  split at hx
  ·simp at hx
  dsimp only at hx
  have hr:(if p=48862 then s else s.tail).length≤s.length:=by split<;>simp
  generalize (if p=48862 then ((c.toNat/16:Nat):Int) else (c.toNat:Int))=id at hx
  generalize (if p=48862 then c.toNat%16+1 else (s.headD 0).toNat)=k at hx
  generalize (if p=48862 then s else s.tail)=r at hx hr
  split at hx
  ·simp at hx
  rcases bOr.1 hx with rfl | hx
  ·simp only[bOu,bOb]
   omega
  ·have:=nN p f _ _ _ x hx
   rw[bO7] at this
   simp only[bOb]
   omega
theorem aHw (p:Int) (s:List UInt8):s.length≤s.length∧aZ p s.length 0 0 s=([]++(aZ p s.length 0 ([]:List Xt).length s).1,(aZ p s.length 0 ([]:List Xt).length s).2):=⟨bOt _,rfl⟩
theorem go_step {p:Int} {s:List UInt8} {acc:List Xt} {last:Int} {r:List UInt8} {f f':Nat} {id:Int} {dt rs:List UInt8} (hg:aZ p s.length 0 0 s=(acc++(aZ p f last acc.length r).1,(aZ p f last acc.length r).2)) (hr:r.length≤s.length) (h1:rs.length<r.length) (h2:rs.length≤f')
  (h3:aZ p f last acc.length r=((id,dt)::(aZ p f' id (acc.length+1) rs).1,(aZ p f' id (acc.length+1) rs).2)):goM p s (acc++[(id,dt)]) id rs:=by
 refine ⟨by omega,f',h2, ?_⟩
 rw[hg,h3]
 simp
theorem oN {p:Int} {s:List UInt8} {acc:List Xt} {last:Int} {r:List UInt8} {f:Nat} {bad:Bool} (hg:aZ p s.length 0 0 s=(acc++(aZ p f last acc.length r).1,(aZ p f last acc.length r).2)) (h:aZ p f last acc.length r=([],bad)) :
  lF p s=(acc,bad || !(decide (p=48862)||decide (p=4096))||acc.isEmpty||(shortM acc !=decide (p=48862))):=by
 rw[lF,hg,h]
 simp
theorem bIo {p:Int} {A:Prop} (h:A):bif p==48862 then A else (bif p==4096 then A else A):=aS (fun _=>h) (fun _=>aS (fun _=>h) (fun _=>h))
theorem bFh (p:Int) (s:List UInt8) (hs:s.length≤1000000) (sq ti ss:Int) (l:List UInt8) (sh:Bool) (Q:Out→List Blk→Gh→Prop)
  (hn:∀bad,lF p s=([],bad)→Q (.ret (.tup [])) [⟨.exact,true,aU⟩,⟨.exact,true,[.bool false,.int .i64 0,.int .i64 sq,.int .i64 ti,.int .i64 ss,.nils,.nils,.int .i64 0,.str [],.str l,.bool bad]⟩,⟨.exact,false,[.ptr 1 11 0]⟩,⟨.exact,true,[.bool sh]⟩] {}) (hq:∀x ex bad,lF p s=(x::ex,bad)→Q (.ret (.tup [])) [⟨.exact,true,aU⟩,⟨.exact,false,[.bool false,.int .i64 0,.int .i64 sq,.int .i64 ti,.int .i64 ss,.nils,.sl 5 (2*(x::ex).length) 0 (x::ex).length 2,.int .i64 0,.str [],.str l,.bool bad]⟩,⟨.exact,false,[.ptr 1 11 0]⟩,⟨.exact,true,[.bool sh]⟩,⟨.exact,true,cellsXM [x]⟩,⟨.grow,true,cellsXM (x::ex)⟩] {}):∃hv hb,xX hv hb p s sq ti ss l sh Q:=by
 obtain ⟨hv,hb',e⟩:∃hv hb,xX hv hb p s sq ti ss l sh Q=_:=⟨_,_,bEj p s sq ti ss l sh Q⟩
 refine ⟨hv,hb',e.mpr ?_⟩
 delta aJ5 rY uF aQz aQk aIz aYe bCf aFd bFc aSo aSf bK2
 clear e
 refine ⟨.inl ⟨0,⟨rfl⟩,rfl,rfl,rfl,rfl,rfl,rfl,rfl,rfl,trivial⟩, ?_, ?_⟩
 ·rintro _ ⟨rfl⟩
  obtain ⟨g0,g1⟩:=aHw p s
  refine qA (n:=0) rfl rfl hs g0 (fun h => ?_) (fun h => ?_) (fun _ f' id dt rs a1 a2 a3 => ?_)
  ·exact bIo (hn true (oN (acc:=[]) g1 h))
  ·have hQ:=hn true (by rw[oN (acc:=[]) g1 h];simp)
   refine aS (fun _ => ?_) (fun _=>aS (fun _ => ?_) (fun _=>hQ))
   ·exact ⟨_,rfl,aS (fun _=>hQ) (fun h=>absurd rfl h)⟩
   ·exact ⟨_,rfl,aS (fun _=>hQ) (fun h=>absurd rfl h)⟩
  ·exact ⟨⟨trivial,rfl⟩,.inr ⟨([(id,dt)],id,rs),⟨go_step (acc:=[]) g1 g0 a1 a2 a3,by simp,by simp⟩,by dsimp only;omega,rfl,rfl,rfl,rfl,rfl,rfl,rfl,rfl,rfl,rfl,trivial⟩⟩
 ·rintro ⟨acc,last,r⟩ ⟨⟨g0,f,g1,g2⟩,k1,k2⟩
  dsimp only at g0 g1 g2 k1 k2 ⊢
  obtain ⟨x,ex,rfl⟩:∃x ex,acc=x::ex:=by
   cases acc with
   | nil=>simp at k1
   | cons x ex=>exact ⟨x,ex,rfl⟩
  have hdt:dataM (x::ex):=fun y hy=>by
   have:=nN p s.length 0 0 s y (by rw[g2];exact bQz _ hy)
   omega
  have hfz:∀ (H:List Blk),List.map (fun y=>bW 1 H 8 y) (List.take ((x::ex).length*2) (List.drop 0 (cellsXM (x::ex))))=cellsXM (x::ex):=fun H=>by
   rw[bOv,bOk (by rw[aW];omega)]
   exact mU 1 H 7 _ (plain_cX _)
  refine qA (n:=(x::ex).length) (by rw[aW];simp) (by rw[aW];simp at k2 ⊢;omega) (by omega) g1 (fun h => ?_) (fun h => ?_) (fun h16 f' id dt rs a1 a2 a3 => ?_)
  ·exact bIo (hq x ex true (by rw[oN g2 h];simp))
  ·have hE:=oN g2 h
   refine aS (fun hp => ?_) (fun hp=>aS (fun hp' => ?_) (fun hp' => ?_))
   ·subst hp
    refine ckI (by rw[aW];simp) ⟨_,rfl,aS (fun h=>absurd h (by simp only[bOb];omega)) (fun _=>ckI (by rw[aW];simp;omega) ⟨x::ex,⟨hfz _,rfl,by simp at k2 ⊢;omega,hdt⟩,dO (fun q => ?_) (fun q => ?_)⟩)⟩
    ·exact aS (fun _=>hq x ex false (by rw[hE,q];rfl)) (fun h=>absurd rfl h)
    ·exact aS (fun _=>hq x ex true (by rw[hE,q];rfl)) (fun h=>absurd rfl h)
   ·subst hp'
    refine ckI (by rw[aW];simp) ⟨_,rfl,aS (fun h=>absurd h (by simp only[bOb];omega)) (fun _=>ckI (by rw[aW];simp;omega) ⟨x::ex,⟨hfz _,rfl,by simp at k2 ⊢;omega,hdt⟩,dO (fun q => ?_) (fun q => ?_)⟩)⟩
    ·exact aS (fun h=>absurd h hp) (fun _=>hq x ex true (by rw[hE,q];rfl))
    ·exact aS (fun h=>absurd h hp) (fun _=>hq x ex false (by rw[hE,q];rfl))
   ·exact hq x ex true (by rw[hE,bO0 hp,bO0 hp'];simp)
  ·exact ⟨⟨trivial,rfl⟩,.inr ⟨(x::ex++[(id,dt)],id,rs),⟨go_step g2 g0 a1 a2 a3,by simp,by simp at k2 h16 ⊢;omega⟩,by dsimp only;omega,rfl,by simp only[bN8,bOb,bOe];rfl,rfl,rfl,rfl,by rw[wP];rfl,rfl,rfl,rfl,rfl,trivial⟩⟩
theorem bFv (p:Int) (s:List UInt8) (hs:s.length≤1000000) (sq ti ss:Int) (n:Nat) (l:List UInt8) (sh:Bool) (c4 c5:List AV) (Q:Out→List Blk→Gh→Prop)
  (hn:∀bad,lF p s=([],bad)→Q (.ret (.tup [])) [⟨.exact,true,aU⟩,⟨.exact,false,[.bool false,.int .i64 0,.int .i64 sq,.int .i64 ti,.int .i64 ss,.sl 5 n 0 n 1,.nils,.int .i64 0,.str [],.str l,.bool bad]⟩,⟨.exact,false,[.ptr 1 11 0]⟩,⟨.exact,true,[.bool sh]⟩,⟨.exact,true,c4⟩,⟨.grow,true,c5⟩] {}) (hq:∀x ex bad,lF p s=(x::ex,bad)→Q (.ret (.tup [])) [⟨.exact,true,aU⟩,⟨.exact,false,[.bool false,.int .i64 0,.int .i64 sq,.int .i64 ti,.int .i64 ss,.sl 5 n 0 n 1,.sl 7 (2*(x::ex).length) 0 (x::ex).length 2,.int .i64 0,.str [],.str l,.bool bad]⟩,⟨.exact,false,[.ptr 1 11 0]⟩,⟨.exact,true,[.bool sh]⟩,⟨.exact,true,c4⟩,⟨.grow,true,c5⟩,⟨.exact,true,cellsXM [x]⟩,⟨.grow,true,cellsXM (x::ex)⟩] {}):∃hv hb,zF hv hb p s sq ti ss n l sh c4 c5 Q:=by
 obtain ⟨hv,hb',e⟩:∃hv hb,zF hv hb p s sq ti ss n l sh c4 c5 Q=_:=⟨_,_,bG5 p s sq ti ss n l sh c4 c5 Q⟩
 refine ⟨hv,hb',e.mpr ?_⟩
 delta aJ5 bDu rY uF aQz aQk bIc aIz aYu bCf aFd bFc aSo aSf bJx aZw
 clear e
 refine ⟨.inl ⟨0,⟨rfl⟩,rfl,rfl,rfl,rfl,rfl,rfl,rfl,rfl,rfl,rfl,trivial⟩, ?_, ?_⟩
 ·rintro _ ⟨rfl⟩
  obtain ⟨g0,g1⟩:=aHw p s
  refine qA (n:=0) rfl rfl hs g0 (fun h => ?_) (fun h => ?_) (fun _ f' id dt rs a1 a2 a3 => ?_)
  ·exact bIo (hn true (oN (acc:=[]) g1 h))
  ·have hQ:=hn true (by rw[oN (acc:=[]) g1 h];simp)
   refine aS (fun _ => ?_) (fun _=>aS (fun _ => ?_) (fun _=>hQ))
   ·exact ⟨_,rfl,aS (fun _=>hQ) (fun h=>absurd rfl h)⟩
   ·exact ⟨_,rfl,aS (fun _=>hQ) (fun h=>absurd rfl h)⟩
  ·exact ⟨⟨trivial,rfl⟩,.inr ⟨([(id,dt)],id,rs),⟨go_step (acc:=[]) g1 g0 a1 a2 a3,by simp,by simp⟩,by dsimp only;omega,rfl,rfl,rfl,rfl,rfl,rfl,rfl,rfl,rfl,rfl,rfl,rfl,trivial⟩⟩
 ·rintro ⟨acc,last,r⟩ ⟨⟨g0,f,g1,g2⟩,k1,k2⟩
  dsimp only at g0 g1 g2 k1 k2 ⊢
  obtain ⟨x,ex,rfl⟩:∃x ex,acc=x::ex:=by
   cases acc with
   | nil=>simp at k1
   | cons x ex=>exact ⟨x,ex,rfl⟩
  have hdt:dataM (x::ex):=fun y hy=>by
   have:=nN p s.length 0 0 s y (by rw[g2];exact bQz _ hy)
   omega
  have hfz:∀ (H:List Blk),List.map (fun y=>bW 1 H 8 y) (List.take ((x::ex).length*2) (List.drop 0 (cellsXM (x::ex))))=cellsXM (x::ex):=fun H=>by
   rw[bOv,bOk (by rw[aW];omega)]
   exact mU 1 H 7 _ (plain_cX _)
  refine qA (n:=(x::ex).length) (by rw[aW];simp) (by rw[aW];simp at k2 ⊢;omega) (by omega) g1 (fun h => ?_) (fun h => ?_) (fun h16 f' id dt rs a1 a2 a3 => ?_)
  ·exact bIo (hq x ex true (by rw[oN g2 h];simp))
  ·have hE:=oN g2 h
   refine aS (fun hp => ?_) (fun hp=>aS (fun hp' => ?_) (fun hp' => ?_))
   ·subst hp
    refine ckI (by rw[aW];simp) ⟨_,rfl,aS (fun h=>absurd h (by simp only[bOb];omega)) (fun _=>ckI (by rw[aW];simp;omega) ⟨x::ex,⟨hfz _,rfl,by simp at k2 ⊢;omega,hdt⟩,dO (fun q => ?_) (fun q => ?_)⟩)⟩
    ·exact aS (fun _=>hq x ex false (by rw[hE,q];rfl)) (fun h=>absurd rfl h)
    ·exact aS (fun _=>hq x ex true (by rw[hE,q];rfl)) (fun h=>absurd rfl h)
   ·subst hp'
    refine ckI (by rw[aW];simp) ⟨_,rfl,aS (fun h=>absurd h (by simp only[bOb];omega)) (fun _=>ckI (by rw[aW];simp;omega) ⟨x::ex,⟨hfz _,rfl,by simp at k2 ⊢;omega,hdt⟩,dO (fun q => ?_) (fun q => ?_)⟩)⟩
    ·exact aS (fun h=>absurd h hp) (fun _=>hq x ex true (by rw[hE,q];rfl))
    ·exact aS (fun h=>absurd h hp) (fun _=>hq x ex false (by rw[hE,q];rfl))
   ·exact hq x ex true (by rw[hE,bO0 hp,bO0 hp'];simp)
  ·exact ⟨⟨trivial,rfl⟩,.inr ⟨(x::ex++[(id,dt)],id,rs),⟨go_step g2 g0 a1 a2 a3,by simp,by simp at k2 h16 ⊢;omega⟩,by dsimp only;omega,rfl,by simp only[bN8,bOb,bOe];rfl,rfl,rfl,rfl,rfl,rfl,by rw[wP];rfl,rfl,rfl,rfl,rfl,trivial⟩⟩
theorem aLf:∀f g,bNg f=some g→aF Tryz.prog gl0 f g:=bF _ (by
 simp only[bOr,bOx,bP3,bPj,bQe]
 exact ⟨aGp,eT aH0 aM [2] fun args H Q hc=>by
  unfold aB2 at hc
  split at hc
  ·obtain ⟨xs,h,hq⟩:=hc
   exact ⟨xs,h,rfl,⟨_,rfl,rfl⟩,hq⟩
  ·exact hc.elim⟩)
theorem bBe:aF Tryz.prog gl0 91 bBn:=by
 refine aGm (enters_of (by kernel_rfl)) aM fun args H Q hc => ?_
 unfold bBn at hc
 split at hc
 ·rename_i s p sq ti ss l sh
  cases hb:Nat.ble s.length 1000000
  ·rw[hb] at hc;exact hc.elim
  ·rw[hb] at hc
   rw[bOi] at hb
   obtain ⟨hv,hb',h⟩:=bFh p s hb sq ti ss l sh (fun o H' _=>(pR sq ti ss .nils true l sh []).map (·.k)=(H'.map (·.k)).take 4∧(∀b∈H',bG b.cs=true∧b.k≠.ro)∧(∃v,o=.ret v∧noY v=true)∧Q o H')
    (fun bad he=>⟨rfl,by simp[aU,bG,noY],⟨_,rfl,rfl⟩,(hc [] bad ⟨he⟩).1 ⟨rfl⟩⟩)
    (fun x ex bad he=>⟨rfl,by simp[aU,bG,noY,(kM (kC (x::ex))).2,(kM (kC [x])).2],⟨_,rfl,rfl⟩,(hc (x::ex) bad ⟨he⟩).2 x ⟨by simp⟩⟩)
   exact ⟨rfl,rfl,by simp[aL,old,bG,noY],_,1000,⟨dQ,dP,bY,aLf⟩,rfl,h⟩
 ·rename_i s p sq ti ss n n1 l sh c4 c5
  cases hb:Nat.ble s.length 1000000
  ·rw[hb] at hc;exact hc.elim
  ·rw[hb] at hc
   rw[bOi] at hb
   simp only[bO3] at hc
   cases hb2:Nat.beq n n1&&iM c5
   ·rw[hb2] at hc;exact hc.elim
   ·rw[hb2] at hc
    simp only[bN9,aN] at hb2
    obtain ⟨rfl,hb4⟩:=hb2
    obtain ⟨f1,f2⟩:=kM hb4
    obtain ⟨hv,hb',h⟩:=bFv p s hb sq ti ss n l sh [.int .i64 c4] c5 (fun o H' _=>(pR sq ti ss (.sl 5 n 0 n 1) false l sh [⟨.exact,true,[.int .i64 c4]⟩,⟨.grow,true,c5⟩]).map (·.k)=(H'.map (·.k)).take 6∧(∀b∈H',bG b.cs=true∧b.k≠.ro)∧(∃v,o=.ret v∧noY v=true)∧Q o H')
     (fun bad he=>⟨rfl,by simp[aU,bG,noY,f2],⟨_,rfl,rfl⟩,(hc [] bad ⟨he⟩).1 ⟨rfl⟩⟩)
     (fun x ex bad he=>⟨rfl,by simp[aU,bG,noY,f2,(kM (kC (x::ex))).2,(kM (kC [x])).2],⟨_,rfl,rfl⟩,(hc (x::ex) bad ⟨he⟩).2 x ⟨by simp⟩⟩)
    exact ⟨rfl,rfl,by simp[aL,old,bG,noY,f1,f2,aPc 6 c5 f1],_,1000,⟨dQ,dP,bY,aLf⟩,rfl,h⟩
 ·exact hc.elim
theorem aZ1:∀f g,bNi f=some g→aF Tryz.prog gl0 f g:=bF _ (by
 simp only[bOr,bOx,bP3,bPj,bQe]
 exact ⟨aYk,bBe,aGp⟩)
def bIq:AV→AV
 | .tup [a,e]=>.tup [aggK a,e]
 | v=>v
theorem aZd (v:AV):wk v (bIq v):=by
 unfold bIq
 split
 ·exact aHj (dZ (wk_aggK _) (dZ (eO _) nT))
 ·exact eO _
def cDecode:Con
 | [.str s],H,K=>bif Nat.ble s.length 9223372036854775807 then
   ∀ (mk:Bool) (ty sq ti ss:Int) (cs:List Int) (ex:List Xt) (p:Int) (y:List UInt8) (e:Int),Lf (decM s=(mk,ty,sq,ti,ss,cs,ex,p,y,e))→K (.ret (.tup [.agg [.bool mk,.int .i64 ty,.int .i64 sq,.int .i64 ti,.int .i64 ss,.lst 0 (aB cs) cs.length 1,.lst 0 (cellsXM ex) ex.length 2,.int .i64 p,.str y],.int .i64 e])) H
   else False
 | _,_,_=>False
theorem decode_ok:aF Tryz.prog gl0 35 cDecode:=by
 refine fF (enters_of (by kernel_rfl)) aM 10 bIq aZd fun args H Q hc => ?_
 unfold cDecode at hc
 split at hc
 ·rename_i s
  cases hb:Nat.ble s.length 9223372036854775807
  ·rw[hb] at hc;exact hc.elim
  ·rw[hb] at hc
   rw[bOi] at hb
   obtain ⟨hv,hb',h⟩:=aH9 s hb (fun o H' _=>∃v,o=.ret v∧Q (.ret (bIq (bW 0 H' 10 v))) H) (fun mk ty sq ti ss a b cs ex p y e H' e1 e2 he=>⟨_,rfl,by
    have:=hc mk ty sq ti ss cs ex p y e ⟨he⟩
    unfold okC at e1
    unfold okE at e2
    rw[←e1,←e2] at this
    exact this⟩)
   exact ⟨rfl,rfl,_,1000,⟨dQ,dP,bY,aZ1⟩,rfl,h⟩
 ·exact hc.elim
theorem yL (c:UInt8) (l:List UInt8):bQ (c::l)=(c.toNat:Int)*256^l.length+bQ l:=by
 suffices ∀n,∀l:List UInt8,l.length=n→bQ (c::l)=(c.toNat:Int)*256^l.length+bQ l from this _ l rfl
 intro n
 induction n with
 | zero=>intro l h;rw[bO8.1 h];simp[bQ]
 | succ n ih=>
  intro l h
  have hne:l≠[]:=by rintro rfl;simp at h
  have h1:l.dropLast.length=n:=by rw[List.length_dropLast];omega
  have h2:=ih _ h1
  rw[←bS6 hne,←bPh,yG,h2,yG,bN8,bR1,Int.pow_succ,Int.add_mul,Int.mul_assoc]
  omega
theorem aMy:∀ (a b:List UInt8),a.length=b.length→bQ a=bQ b→a=b
 | [],[],_,_=>rfl
 | [],_::_,h,_=>by simp at h
 | _::_,[],h,_=>by simp at h
 | c::a,d::b,h,e=>by
  simp only[bOb,Nat.add_right_cancel_iff] at h
  rw[yL,yL,h] at e
  have ha:=wC a
  have hb:=wC b
  rw[h] at ha
  have hP:(0:Int)<256^b.length:=Int.pow_pos (by omega)
  generalize (256:Int)^b.length=P at *
  have hcd:(c.toNat:Int)=d.toNat:=by
   have e1:(bQ a+P*(c.toNat:Int))/P=c.toNat:=by rw[Int.add_mul_ediv_left _ _ (by omega),bSu ha.1 ha.2];omega
   have e2:(bQ b+P*(d.toNat:Int))/P=d.toNat:=by rw[Int.add_mul_ediv_left _ _ (by omega),bSu hb.1 hb.2];omega
   rw[←e1,←e2,Int.mul_comm P,Int.mul_comm P]
   congr 1
   omega
  rw[hcd] at e
  have hc:c=d:=bQ9.1 (by omega)
  rw[hc,aMy a b h (by omega)]
theorem oct_val (m k:Nat):((octM (m:Int) k).toNat:Int)=((m/256^k%256:Nat):Int):=by
 have:((m:Int)/256^k%256).toNat=m/256^k%256:=by
  rw[show ((m:Int)/256^k%256)=((m/256^k%256:Nat):Int) by norm_cast]
  exact bOa _
 rw[octM,this,bSq]
 have:=bRc (m/256^k) (show 0<256 by omega)
 norm_cast
 omega
theorem wQ (m:Nat):∀k,bQ (beM (m:Int) k)=((m%256^k:Nat):Int)
 | 0=>by simp[beM,bQ,Nat.mod_one]
 | k+1=>by
  rw[beM,yL,be_len,wQ m k,oct_val,Nat.pow_succ,Nat.mod_mul]
  norm_cast
  rw[bSl]
  omega
theorem aVw {n:Int} {k:Nat} (h0:0≤n) (h1:n<256^k):bQ (beM n k)=n:=by
 obtain ⟨m,rfl⟩:=bPq h0
 rw[wQ,bPw (by exact_mod_cast h1)]
theorem bGn (l:List UInt8):beM (bQ l) l.length=l:=
 aMy _ _ (be_len _ _) (aVw (wC l).1 (wC l).2)
theorem aQ6 {a r:List UInt8} {k:Int} (h:a.length=k.toNat) (b:Bool):aR (a++r) k=bQ a∧aG (a++r) k=r∧bI b (a++r) k=b:=by
 have h1:¬ ((a++r).length<k.toNat):=by rw[bN8];omega
 refine ⟨?_, ?_, ?_⟩
 ·rw[aR,if_neg h1,←h,bSb]
 ·rw[aG,if_neg h1,←h,bSy]
 ·rw[bI,bO0 h1,bS5]
theorem jQ {n:Int} {r:List UInt8} {k:Int} {j:Nat} (hj:j=k.toNat) (h0:0≤n) (h1:n<256^j) (b:Bool):aR (beM n j++r) k=n∧aG (beM n j++r) k=r∧bI b (beM n j++r) k=b:=by
 have:=aQ6 (r:=r) (k:=k) (a:=beM n j) (by rw[be_len,hj]) b
 rw[aVw h0 h1] at this
 exact this
theorem aQ8 {l:List UInt8} {k:Int} {j:Nat} (hj:j=k.toNat) (h:j≤l.length) (b:Bool):l=beM (aR l k) j++aG l k∧bI b l k=b∧(aG l k).length=l.length-j:=by
 subst hj
 have h1:¬ (l.length<k.toNat):=by omega
 have h2:(l.take k.toNat).length=k.toNat:=by rw[bOu];omega
 refine ⟨?_, ?_, ?_⟩
 ·rw[aR,if_neg h1,aG,if_neg h1]
  conv=>lhs;rw[←bPe k.toNat l,←bGn (l.take k.toNat),h2]
 ·rw[bI,bO0 h1,bS5]
 ·rw[aG,if_neg h1,bO7]
theorem aWr {l:List UInt8} {sh:Bool}:∀n,4*n≤l.length→tJ sh l n=sh∧l=putM 4 (csM l n)++eQ l n∧(eQ l n).length=l.length-4*n
 | 0,_=>by simp[tJ,csM,putM,eQ]
 | n+1,h=>by
  obtain ⟨h1,h2,h3⟩:=aWr (l:=l) (sh:=sh) n (by omega)
  obtain ⟨k1,k2,k3⟩:=aQ8 (l:=eQ l n) (k:=4) (j:=4) rfl (by omega) sh
  refine ⟨?_, ?_, ?_⟩
  ·rw[tJ,h1,k2]
  ·rw[csM,aP5,eQ,putM,putM,bPd,bOz,←k1]
   exact h2
  ·rw[eQ,k3,h3];omega
theorem aWo {rest:List UInt8}:∀ (cs:List Int),(∀x∈cs,0≤x∧x<4294967296)→∀i,i≤cs.length→csM (putM 4 cs++rest) i=cs.take i∧eQ (putM 4 cs++rest) i=putM 4 (cs.drop i)++rest
 | cs,_,0,_=>by simp[csM,eQ]
 | cs,hc,i+1,h=>by
  obtain ⟨h1,h2⟩:=aWo (rest:=rest) cs hc i (by omega)
  have hi:i<cs.length:=by omega
  rw[csM,eQ,h1,h2,bP7 hi,putM,bOz]
  have hr:=hc cs[i] (bPx hi)
  obtain ⟨k1,k2,_⟩:=jQ (n:=cs[i]) (k:=4) (j:=4) (r:=putM 4 (cs.drop (i+1))++rest) rfl hr.1 hr.2 false
  rw[k1,k2]
  refine ⟨?_,rfl⟩
  rw[bP9,bOq hi]
  rfl
theorem wL (k:Nat):mR (List.replicate k 0)=[]:=by
 have h:∀k:Nat,(List.replicate k (0:UInt8)).dropWhile (· == 0)=[]:=fun k=>by
  induction k with
  | zero=>rfl
  | succ k ih=>rw[bQr,List.dropWhile_cons_of_pos (by rfl)];exact ih
 rw[mR,List.reverse_replicate,h]
 rfl
theorem oct_nat {m:Nat} (h:m<256):(octM (m:Int) 0).toNat=m:=by
 have h:=oct_val m 0
 rw[Nat.pow_zero,Nat.div_one,bPw (by omega)] at h
 exact_mod_cast h
theorem bNq (n:Int):putM 1 [n]=[octM n 0]:=rfl
theorem aFn {f:Nat} {last:Int} {n:Nat} {c:UInt8} {t:List UInt8} (z:c.toNat≠0):aZ 48862 (f+1) last n (c::t)=if ((c.toNat/16:Nat):Int)≤last∨t.length<c.toNat%16+1∨((c.toNat/16:Nat):Int)>14∨n=16 then ([],true) else ((((c.toNat/16:Nat):Int),t.take (c.toNat%16+1))::(aZ 48862 f ((c.toNat/16:Nat):Int) (n+1) (t.drop (c.toNat%16+1))).1,(aZ 48862 f ((c.toNat/16:Nat):Int) (n+1) (t.drop (c.toNat%16+1))).2):=by
 rw[aZ,if_neg (by omega),if_neg (by simp)]
 simp only[bR8,bOp]
theorem aI5 {p:Int} (hp:p≠48862) {f:Nat} {last:Int} {n:Nat} {c d:UInt8} {u:List UInt8} (z:c.toNat≠0):aZ p (f+1) last n (c::d::u)=if (c.toNat:Int)≤last∨u.length<d.toNat∨n=16 then ([],true) else (((c.toNat:Int),u.take d.toNat)::(aZ p f (c.toNat:Int) (n+1) (u.drop d.toNat)).1,(aZ p f (c.toNat:Int) (n+1) (u.drop d.toNat)).2):=by
 rw[aZ,if_neg (by omega),if_neg (by simp)]
 simp only[hp,bRw,false_and,false_or,List.headD_cons,List.tail_cons]
theorem sQ (sh:Bool) (k:Nat) (hk:k≤3):∀ (l:List Xt) (last:Int) (n f:Nat),extsOkM last l=true→0≤last→n+l.length≤16→(sh=true→∀x∈l,x.1≤14∧1≤x.2.length∧x.2.length≤16)→(extBM sh l++List.replicate k 0).length≤f→aZ (profM sh) f last n (extBM sh l++List.replicate k 0)=(l,false)
 | [],last,n,f,_,_,_,_,hf=>by
  rw[extBM,bPg] at *
  cases k with
  | zero=>exact aBa _ _ _ _
  | succ j=>
   obtain ⟨g,rfl⟩:∃g,f=g+1:=⟨f-1,by simp at hf;omega⟩
   have ht:=wL (j+1)
   rw[bQr] at ht ⊢
   rw[aZ,if_pos (by rfl),ht,bO0 (by simp;omega)]
   rfl
 | x::l,last,n,f,ho,hl,hn,hs,hf=>by
  rw[extsOkM,bN9,bOc] at ho
  obtain ⟨⟨o1,o2,o3⟩,ho⟩:=ho
  simp only[bOb] at hn
  obtain ⟨i,hi⟩:=bPq (show 0≤x.1 by omega)
  cases sh with
  | true=>
   obtain ⟨q1,q2,q3⟩:=hs rfl x (by simp)
   have e:extBM true (x::l)++List.replicate k 0=octM ((i*16+(x.2.length-1):Nat):Int) 0::(x.2++(extBM true l++List.replicate k 0)):=by
    rw[extBM,if_pos rfl,bNq,show x.1*16+((x.2.length:Int)-1)=((i*16+(x.2.length-1):Nat):Int) by omega]
    simp
   rw[e] at hf ⊢
   obtain ⟨g,rfl⟩:∃g,f=g+1:=⟨f-1,by simp at hf;omega⟩
   have hc:(octM ((i*16+(x.2.length-1):Nat):Int) 0).toNat=i*16+(x.2.length-1):=oct_nat (by omega)
   rw[show profM true=48862 from rfl,aFn (by rw[hc];omega),hc,show (i*16+(x.2.length-1))/16=i by omega,show (i*16+(x.2.length-1))%16+1=x.2.length by omega,if_neg (by rw[bN8];omega),bSb,bSy,←hi]
   have ih:=sQ true k hk l x.1 (n+1) g ho (by omega) (by omega) (fun h y hy=>hs h y (by simp[hy])) (by simp at hf ⊢;omega)
   rw[show profM true=48862 from rfl] at ih
   rw[ih]
  | false=>
   have e:extBM false (x::l)++List.replicate k 0=octM ((i:Nat):Int) 0::octM ((x.2.length:Nat):Int) 0::(x.2++(extBM false l++List.replicate k 0)):=by
    rw[extBM,if_neg (by simp),←hi]
    simp[putM,beM]
   rw[e] at hf ⊢
   obtain ⟨g,rfl⟩:∃g,f=g+1:=⟨f-1,by simp at hf;omega⟩
   have hc:(octM ((i:Nat):Int) 0).toNat=i:=oct_nat (by omega)
   have hd:(octM ((x.2.length:Nat):Int) 0).toNat=x.2.length:=oct_nat (by omega)
   rw[aI5 (by decide) (by rw[hc];omega),hc,hd,if_neg (by rw[bN8];omega),bSb,bSy,←hi]
   rw[sQ false k hk l x.1 (n+1) g ho (by omega) (by omega) (fun h y hy=>hs h y (by simp[hy])) (by simp at hf ⊢;omega)]
theorem aR5 {ex:List Xt} (h0:ex≠[]) (ho:extsOkM 0 ex=true) (hn:ex.length≤16):lF (profM (shortM ex)) (extPM ex)=(ex,false):=by
 have h:=sQ (shortM ex) ((4-(extBM (shortM ex) ex).length%4)%4) (by omega) ex 0 0 (extPM ex).length ho (by omega) (by omega) (fun q x hx=>short_at q x hx) (bOt _)
 have h':aZ (profM (shortM ex)) (extPM ex).length 0 0 (extPM ex)=(ex,false):=h
 have he:ex.isEmpty=false:=by cases ex with
  | nil=>exact absurd rfl h0
  | cons a l=>rfl
 rw[lF,h',he]
 cases shortM ex<;>rfl
theorem aTh (a:List UInt8) (c:UInt8):fO (a++[c])=c.toNat:=by
 have h:(a++[c]).length-1=a.length:=by simp
 rw[fO,if_neg (by simp),h]
 simp[List.getD]
theorem aGk {fl pad:Int} {y:List UInt8} (h64:fl/64=2) (hp:0≤pad∧pad≤255) (h32:fl/32%2=1↔0<pad):kR false false fl (y++padM pad)=(0,pad,y):=by
 obtain ⟨m,rfl⟩:=bPq hp.1
 by_cases h:0<(m:Int)
 ·have e:y++padM m=(y++List.replicate (m-1) 0)++[octM (m:Int) 0]:=by
   rw[padM,if_pos h,bNq,show Int.toNat ((m:Int)-1)=m-1 by omega,bOz]
  have hN:fO (y++padM m)=m:=by rw[e,aTh,oct_nat (by omega)]
  have hL:(y++padM m).length=y.length+m:=by rw[e];simp;omega
  have hS:aDx (y++padM m)=List.replicate (m-1) 0:=by
   rw[aDx,hN,hL,show y.length+m-m=y.length by omega,bSy,padM,if_pos h,show Int.toNat ((m:Int)-1)=m-1 by omega]
   exact bQ8 (by simp)
  rw[kR,if_neg (by simp),if_pos (h32.2 h),hN,hS,hL,wL,if_neg (by simp[eqB];omega),if_neg (by simp[h64]),show y.length+m-m=y.length by omega,bSb]
 ·have:m=0:=by omega
  subst this
  rw[kR,if_neg (by simp),if_neg (by rw[h32];omega),if_neg (by simp[h64])]
  simp[padM]
def extHM (ex:List Xt):List UInt8:=if ex.length=0 then [] else putM 2 [profM (shortM ex),((extPM ex).length/4:Nat)]++extPM ex
theorem extP_len4 (ex:List Xt):(extPM ex).length%4=0:=by
 rw[extPM,bN8,zerosM,bOn]
 omega
theorem bCb (sh:Bool):0≤profM sh∧profM sh<65536:=by cases sh<;>decide
theorem aTi {fl pad:Int} {ex:List Xt} {y:List UInt8} (h64:fl/64=2) (hp:0≤pad∧pad≤255) (h32:fl/32%2=1↔0<pad) (h16:fl/16%2=1↔ex≠[]) (ho:extsOkM 0 ex=true) (hn:ex.length≤16) (hl:(extPM ex).length≤1200) :
  jI false fl (extHM ex++(y++padM pad))=(ex,0,pad,y):=by
 by_cases h:ex=[]
 ·subst h
  rw[jI,if_neg (by simp[h16])]
  simp only[extHM,bOe,bR8,bPg]
  rw[aGk h64 hp h32]
 ·have hne:ex.length≠0:=fun q=>h (bO8.1 q)
  have h4:=extP_len4 ex
  have hpr:=bCb (shortM ex)
  have e:extHM ex++(y++padM pad)=beM (profM (shortM ex)) 2++(beM (((extPM ex).length/4:Nat):Int) 2++(extPM ex++(y++padM pad))):=by
   rw[extHM,if_neg hne]
   simp[putM]
  obtain ⟨a1,a2,a3⟩:=jQ (n:=profM (shortM ex)) (k:=2) (j:=2) (r:=beM (((extPM ex).length/4:Nat):Int) 2++(extPM ex++(y++padM pad))) rfl hpr.1 hpr.2 false
  obtain ⟨b1,b2,b3⟩:=jQ (n:=(((extPM ex).length/4:Nat):Int)) (k:=2) (j:=2) (r:=extPM ex++(y++padM pad)) rfl (by omega) (show (((extPM ex).length/4:Nat):Int)<65536 by omega) false
  rw[jI,if_pos (h16.2 h),e,a2,b2,b1,a1,a3,b3,show (4*(((extPM ex).length/4:Nat):Int)).toNat=(extPM ex).length by omega,bSb,bSy,aR5 h ho hn,aGk h64 hp h32,if_neg (by rw[bN8];omega)]
theorem aAk (mk:Bool) (ty sq ti ss:Int) (cs:List Int) (ex:List Xt) (pad:Int) (pl:List UInt8):encM mk ty sq ti ss cs ex pad pl=beM (fstM cs ex.length pad) 1++(beM (kindM mk ty) 1++(beM sq 2++(beM ti 4++(beM ss 4++(putM 4 cs++(extHM ex++(pl++padM pad))))))):=by
 rw[encM,headM,headBM,←extHM]
 simp[putM]
theorem dec_enc {mk:Bool} {ty sq ti ss:Int} {cs:List Int} {ex:List Xt} {pad:Int} {pl:List UInt8} (hr:rightM ty sq ti ss cs ex pad=true) (hl:(encM mk ty sq ti ss cs ex pad pl).length≤1200):decM (encM mk ty sq ti ss cs ex pad pl)=(mk,ty,sq,ti,ss,cs,ex,pad,pl,0):=by
 rw[rightM,bN9,flagsM,bOc] at hr
 obtain ⟨⟨r1,r2,r3,r4,r5,r6,r7,r8,r9,r10,r11,r12,r13⟩,ho⟩:=hr
 have hX:(extPM ex).length≤1200:=by
  rw[aAk,extHM] at hl
  split at hl
  ·rename_i h
   rw[bO8.1 h]
   decide
  ·simp only[bN8] at hl
   omega
 have hfb:fstM cs ex.length pad%16=cs.length∧0≤fstM cs ex.length pad∧fstM cs ex.length pad<256∧fstM cs ex.length pad/64=2∧(fstM cs ex.length pad/32%2=1↔0<pad)∧(fstM cs ex.length pad/16%2=1↔ex≠[]):=by
  have:ex≠[]↔0<ex.length:=by
   rw[List.length_pos_iff]
  rw[this,fstM]
  split<;>split<;>omega
 obtain ⟨f1,f2,f3,f4,f5,f6⟩:=hfb
 have hk:0≤kindM mk ty∧kindM mk ty<256∧decide (128≤kindM mk ty)=mk∧kindM mk ty%128=ty:=by
  rw[kindM]
  cases mk
  ·simp only[bP2,bRw,decide_eq_false_iff_not];omega
  ·simp only[bR8,bOc];omega
 obtain ⟨k1,k2,k3,k4⟩:=hk
 rw[aAk] at hl ⊢
 generalize hR:putM 4 cs++(extHM ex++(pl++padM pad))=R at *
 obtain ⟨a1,a2,a3⟩:=jQ (n:=fstM cs ex.length pad) (k:=1) (j:=1) (r:=beM (kindM mk ty) 1++(beM sq 2++(beM ti 4++(beM ss 4++R)))) rfl f2 f3 false
 obtain ⟨b1,b2,b3⟩:=jQ (n:=kindM mk ty) (k:=1) (j:=1) (r:=beM sq 2++(beM ti 4++(beM ss 4++R))) rfl k1 k2 false
 obtain ⟨c1,c2,c3⟩:=jQ (n:=sq) (k:=2) (j:=2) (r:=beM ti 4++(beM ss 4++R)) rfl r3 (show sq<65536 by omega) false
 obtain ⟨d1,d2,d3⟩:=jQ (n:=ti) (k:=4) (j:=4) (r:=beM ss 4++R) rfl r5 (show ti<4294967296 by omega) false
 obtain ⟨e1,e2,e3⟩:=jQ (n:=ss) (k:=4) (j:=4) (r:=R) rfl r7 (show ss<4294967296 by omega) false
 have hL:l5M (beM (fstM cs ex.length pad) 1++(beM (kindM mk ty) 1++(beM sq 2++(beM ti 4++(beM ss 4++R)))))=R:=by rw[l5M,a2,b2,c2,d2,e2]
 have hS:s5M (beM (fstM cs ex.length pad) 1++(beM (kindM mk ty) 1++(beM sq 2++(beM ti 4++(beM ss 4++R)))))=false:=by rw[s5M,a2,b2,c2,d2,a3,b3,c3,d3,e3]
 obtain ⟨g1,g2⟩:=aWo (rest:=extHM ex++(pl++padM pad)) cs r9 cs.length (bOt _)
 have hlk:=(aWr (l:=R) (sh:=false) cs.length (by rw[←hR,bN8,put_len];omega)).1
 rw[hR] at g1 g2
 rw[bPy] at g1
 rw[bTx,putM,bPg] at g2
 rw[decM,if_neg (by omega),hL,hS,a1,f1,bOa,hlk,g2,aTi f4 ⟨r10,r11⟩ f5 f6 ho r13 hX,aK7,if_pos rfl,a2,b1,b2,c1,c2,d1,d2,e1,hL,g1,k3,k4]
end Go.Proofs.YtnhechnaemmdiaaGreatDoor.Md
