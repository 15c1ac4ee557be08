/-
  Chapter 23: the extensions that are read.
-/
import Derived.Test.YtnhechnaemmdiaaGreatDoorKnF
set_option linter.unusedSimpArgs false
set_option linter.unusedVariables false
set_option linter.unusedSectionVars false
namespace Go.Proofs.YtnhechnaemmdiaaGreatDoor.Md
open Go.RowKit
set_option maxRecDepth 1000000

def bBq:Con:=fun args H Q=>mZ [2] H args fun a=>aB5 a H Q
def bOr:SM:=eY [(92,aSq),(134,bBq)]
def goM (p:Int) (s:List UInt8) (acc:List Xt) (last:Int) (r:List UInt8):Prop:=
 r.length≤s.length∧∃f,r.length≤f∧bB p s.length 0 0 s=(acc++(bB p f last acc.length r).1,(bB p f last acc.length r).2)
def aO0 (p:Int) (s0:List UInt8) (s:S):List (List LInv):=match s.hp with
 | [b0,⟨k,lf,[a0,a1,a2,a3,a4,cs,ex,a7,a8,a9,a10]⟩,b2,b3]=>[[
  { α:=Nat,pre:=fun i=>Lf (i=0),st:=fun i=>⟨mkT [(0,.ptr 1 11 0),(1,.str s0),(2,.int .i64 p),(6,.int .i64 0)],s.hp⟩,mu:=fun i=>s0.length+1 },
  { α:=List Xt×Int×List UInt8,pre:=fun x=>Lf (goM p s0 x.1 x.2.1 x.2.2∧1≤x.1.length∧x.1.length≤16),st:=fun x=>⟨mkT [(0,.ptr 1 11 0),(1,.str x.2.2),(2,.int .i64 p),(6,.int .i64 x.2.1)],[b0,⟨k,false,[a0,a1,a2,a3,a4,cs,.sl 5 (2*x.1.length) 0 x.1.length 2,a7,a8,a9,.bool false]⟩,b2,b3,⟨.exact,true,cellsXM (x.1.take 1)⟩,⟨.grow,true,cellsXM x.1⟩]⟩,mu:=fun x=>x.2.2.length }]]
 | [b0,⟨k,lf,[a0,a1,a2,a3,a4,cs,ex,a7,a8,a9,a10]⟩,b2,b3,b4,b5]=>[[
  { α:=Nat,pre:=fun i=>Lf (i=0),st:=fun i=>⟨mkT [(0,.ptr 1 11 0),(1,.str s0),(2,.int .i64 p),(6,.int .i64 0)],s.hp⟩,mu:=fun i=>s0.length+1 },
  { α:=List Xt×Int×List UInt8,pre:=fun x=>Lf (goM p s0 x.1 x.2.1 x.2.2∧1≤x.1.length∧x.1.length≤16),st:=fun x=>⟨mkT [(0,.ptr 1 11 0),(1,.str x.2.2),(2,.int .i64 p),(6,.int .i64 x.2.1)],[b0,⟨k,false,[a0,a1,a2,a3,a4,cs,.sl 7 (2*x.1.length) 0 x.1.length 2,a7,a8,a9,.bool false]⟩,b2,b3,b4,b5,⟨.exact,true,cellsXM (x.1.take 1)⟩,⟨.grow,true,cellsXM x.1⟩]⟩,mu:=fun x=>x.2.2.length }]]
 | _=>[]
noncomputable def uK (hv:Nat→Option Pa) (hb:Nat→Option Bool) (p:Int) (s:List UInt8):Env:=e23 bOr (fun i=>bif Nat.beq i 91000 then some (aO0 p s) else none) hv hb
noncomputable def yL (hv:Nat→Option Pa) (hb:Nat→Option Bool) (p:Int) (s:List UInt8) (sq ti ss:Int) (l:List UInt8) (sh:Bool) (Q:Out→List Blk→Gh→Prop):Prop:=
 bC (uK hv hb p s) (wpx (uK hv hb p s) 1000) 91 [.ptr 1 11 0,.str s,.int .i64 p] (qI sq ti ss .nils true l sh []) {} Q
def vZ (p:Int) (r:List UInt8) (last cnt:Int) (c1 c2:Bool) (E1 E0:Prop) (STEP:Int→List UInt8→List UInt8→Prop):Prop:=(∃n_1:Int,(((AV.int .i64 (Nat.cast (List.length r):Int))=(AV.int .i64 n_1)) ∧
 (bif (decide (n_1>(0:Int))) then (bif (Nat.blt (0:Nat) (List.length r)) then (∃n_2:Int,(((AV.int .u8 (Nat.cast (UInt8.toNat (List.getD r (0:Nat) (UInt8.ofNat (0:Nat)))):Int))=(AV.int .u8 n_2)) ∧
 (∃n_3:Int,(((AV.int .i64 (IntKind.wrap .i64 n_2))=(AV.int .i64 n_3)) ∧
 (bif (n_3==(0:Int)) then (∃n_4:Int,(((AV.int .i64 (Nat.cast (List.length r):Int))=(AV.int .i64 n_4)) ∧
 (bif (decide (n_4>(3:Int))) then E1
else (bif (Nat.ble (List.length r) (1000000:Nat)) then (∃s_5:(List UInt8),(((AV.str (nW r))=(AV.str s_5)) ∧
 (bif (!(eqB s_5 [])) then E1
else E0)))
else False))))
else (bif (p==(48862:Int)) then (∃n_4:Int,(((AV.int .i64 (Int.fdiv n_3 (16:Int)))=(AV.int .i64 n_4)) ∧
 (∃n_5:Int,(((AV.int .i64 (IntKind.wrap .i64 (Nat.cast ((Int.toNat (n_3%(18446744073709551616:Int))) &&& (15:Nat)):Int)))=(AV.int .i64 n_5)) ∧
 (∃n_6:Int,(((AV.int .i64 (IntKind.wrap .i64 (n_5+(1:Int))))=(AV.int .i64 n_6)) ∧
 (bif (decide (n_4≤last)) then E1
else (∃n_7:Int,(((AV.int .i64 (IntKind.wrap .i64 ((1:Int)+n_6)))=(AV.int .i64 n_7)) ∧
 (∃n_8:Int,(((AV.int .i64 (Nat.cast (List.length r):Int))=(AV.int .i64 n_8)) ∧
 (bif (decide (n_7>n_8)) then E1
else (bif (p==(48862:Int)) then (bif (decide (n_4>(14:Int))) then E1
else (bif c1 then (∃n_9:Int,(((AV.int .i64 cnt)=(AV.int .i64 n_9)) ∧
 (bif (n_9==(16:Int)) then E1
else (∃n_10:Int,(((AV.int .i64 (IntKind.wrap .i64 ((1:Int)+n_6)))=(AV.int .i64 n_10)) ∧
 (bif (((decide ((0:Int)≤n_10))&&(Nat.ble (1:Nat) (Int.toNat n_10)))&&(Nat.ble (Int.toNat n_10) (List.length r))) then (∃s_11:(List UInt8),(((AV.str (List.take ((Int.toNat n_10)-(1:Nat)) (List.drop (1:Nat) r)))=(AV.str s_11)) ∧
 (bif c2 then (∃n_12:Int,(((AV.int .i64 (IntKind.wrap .i64 ((1:Int)+n_6)))=(AV.int .i64 n_12)) ∧
 (bif ((((decide ((0:Int)≤n_12))&&true)&&(Nat.ble (Int.toNat n_12) (List.length r)))&&(Nat.ble (List.length r) (List.length r))) then (∃s_13:(List UInt8),(((AV.str (List.take ((List.length r)-(Int.toNat n_12)) (List.drop (Int.toNat n_12) r)))=(AV.str s_13)) ∧
 (STEP n_4 s_11 s_13)))
else False)))
else False)))
else False))))))
else False))
else (bif c1 then (∃n_9:Int,(((AV.int .i64 cnt)=(AV.int .i64 n_9)) ∧
 (bif (n_9==(16:Int)) then E1
else (∃n_10:Int,(((AV.int .i64 (IntKind.wrap .i64 ((1:Int)+n_6)))=(AV.int .i64 n_10)) ∧
 (bif (((decide ((0:Int)≤n_10))&&(Nat.ble (1:Nat) (Int.toNat n_10)))&&(Nat.ble (Int.toNat n_10) (List.length r))) then (∃s_11:(List UInt8),(((AV.str (List.take ((Int.toNat n_10)-(1:Nat)) (List.drop (1:Nat) r)))=(AV.str s_11)) ∧
 (bif c2 then (∃n_12:Int,(((AV.int .i64 (IntKind.wrap .i64 ((1:Int)+n_6)))=(AV.int .i64 n_12)) ∧
 (bif ((((decide ((0:Int)≤n_12))&&true)&&(Nat.ble (Int.toNat n_12) (List.length r)))&&(Nat.ble (List.length r) (List.length r))) then (∃s_13:(List UInt8),(((AV.str (List.take ((List.length r)-(Int.toNat n_12)) (List.drop (Int.toNat n_12) r)))=(AV.str s_13)) ∧
 (STEP n_4 s_11 s_13)))
else False)))
else False)))
else False))))))
else False))))))))))))))
else (∃n_4:Int,(((AV.int .i64 (Nat.cast (List.length r):Int))=(AV.int .i64 n_4)) ∧
 (bif (decide (n_4<(2:Int))) then E1
else (bif (Nat.blt (1:Nat) (List.length r)) then (∃n_5:Int,(((AV.int .u8 (Nat.cast (UInt8.toNat (List.getD r (1:Nat) (UInt8.ofNat (0:Nat)))):Int))=(AV.int .u8 n_5)) ∧
 (∃n_6:Int,(((AV.int .i64 (IntKind.wrap .i64 n_5))=(AV.int .i64 n_6)) ∧
 (bif (decide (n_3≤last)) then E1
else (∃n_7:Int,(((AV.int .i64 (IntKind.wrap .i64 ((2:Int)+n_6)))=(AV.int .i64 n_7)) ∧
 (∃n_8:Int,(((AV.int .i64 (Nat.cast (List.length r):Int))=(AV.int .i64 n_8)) ∧
 (bif (decide (n_7>n_8)) then E1
else (bif (p==(48862:Int)) then (bif (decide (n_3>(14:Int))) then E1
else (bif c1 then (∃n_9:Int,(((AV.int .i64 cnt)=(AV.int .i64 n_9)) ∧
 (bif (n_9==(16:Int)) then E1
else (∃n_10:Int,(((AV.int .i64 (IntKind.wrap .i64 ((2:Int)+n_6)))=(AV.int .i64 n_10)) ∧
 (bif (((decide ((0:Int)≤n_10))&&(Nat.ble (2:Nat) (Int.toNat n_10)))&&(Nat.ble (Int.toNat n_10) (List.length r))) then (∃s_11:(List UInt8),(((AV.str (List.take ((Int.toNat n_10)-(2:Nat)) (List.drop (2:Nat) r)))=(AV.str s_11)) ∧
 (bif c2 then (∃n_12:Int,(((AV.int .i64 (IntKind.wrap .i64 ((2:Int)+n_6)))=(AV.int .i64 n_12)) ∧
 (bif ((((decide ((0:Int)≤n_12))&&true)&&(Nat.ble (Int.toNat n_12) (List.length r)))&&(Nat.ble (List.length r) (List.length r))) then (∃s_13:(List UInt8),(((AV.str (List.take ((List.length r)-(Int.toNat n_12)) (List.drop (Int.toNat n_12) r)))=(AV.str s_13)) ∧
 (STEP n_3 s_11 s_13)))
else False)))
else False)))
else False))))))
else False))
else (bif c1 then (∃n_9:Int,(((AV.int .i64 cnt)=(AV.int .i64 n_9)) ∧
 (bif (n_9==(16:Int)) then E1
else (∃n_10:Int,(((AV.int .i64 (IntKind.wrap .i64 ((2:Int)+n_6)))=(AV.int .i64 n_10)) ∧
 (bif (((decide ((0:Int)≤n_10))&&(Nat.ble (2:Nat) (Int.toNat n_10)))&&(Nat.ble (Int.toNat n_10) (List.length r))) then (∃s_11:(List UInt8),(((AV.str (List.take ((Int.toNat n_10)-(2:Nat)) (List.drop (2:Nat) r)))=(AV.str s_11)) ∧
 (bif c2 then (∃n_12:Int,(((AV.int .i64 (IntKind.wrap .i64 ((2:Int)+n_6)))=(AV.int .i64 n_12)) ∧
 (bif ((((decide ((0:Int)≤n_12))&&true)&&(Nat.ble (Int.toNat n_12) (List.length r)))&&(Nat.ble (List.length r) (List.length r))) then (∃s_13:(List UInt8),(((AV.str (List.take ((List.length r)-(Int.toNat n_12)) (List.drop (Int.toNat n_12) r)))=(AV.str s_13)) ∧
 (STEP n_3 s_11 s_13)))
else False)))
else False)))
else False))))))
else False))))))))))))
else False))))))))))
else False)
else E0)))
abbrev aJ1:Prop:=aN [AV.bool false,.int .i64 0,.int .i64 0,.int .i64 0,.int .i64 0,.nils,.nils,.int .i64 0,.str []]
def zR:Prop:=
aJ1∧False
abbrev aZs:Blk:=Blk.mk BK.exact true aV
abbrev aZq:Blk:=Blk.mk BK.exact false [.ptr 1 11 0]
abbrev bCk (sh:Bool):Blk:=Blk.mk BK.exact true [.bool sh]
abbrev bC3 (Q:Out→List Blk→Gh→Prop) (sq ti ss:Int) (l:List UInt8) (sh:Bool):Prop:=Q (.ret (.tup [])) [aZs,Blk.mk BK.exact true [.bool false,.int .i64 0,.int .i64 sq,.int .i64 ti,.int .i64 ss,.nils,.nils,.int .i64 0,.str [],.str l,.bool true],aZq,bCk sh] {}
def aRa (p:Int) (sq:Int) (ti:Int) (ss:Int) (l:List UInt8) (sh:Bool) (Q:Out→List Blk→Gh→Prop):Prop:=
bif p==48862 then bC3 Q sq ti ss l sh else bif p==4096 then bC3 Q sq ti ss l sh else bC3 Q sq ti ss l sh
abbrev bHz (ex_1:List Xt):Prop:=Lf (([]:List AV)=cellsXM ex_1∧0=ex_1.length∧ex_1.length≤1000000∧dataM ex_1)
abbrev bIa (sq ti ss:Int) (l:List UInt8) (sh:Bool):List Blk:=[aZs,Blk.mk BK.exact true [.bool false,.int .i64 0,.int .i64 sq,.int .i64 ti,.int .i64 ss,.nils,.nils,.int .i64 0,.str [],.str l,.bool false],aZq,bCk sh]
def aGz (p:Int) (sq:Int) (ti:Int) (ss:Int) (l:List UInt8) (sh:Bool) (Q:Out→List Blk→Gh→Prop):Prop:=
exI .i64 0 (fun n_0=>bif n_0==0 then bC3 Q sq ti ss l sh else ∃ex_1:List Xt,bHz ex_1∧bif shortM ex_1 then bif p==48862 then Q (.ret (.tup [])) (bIa sq ti ss l sh) {} else bC3 Q sq ti ss l sh else bif p==48862 then bC3 Q sq ti ss l sh else Q (.ret (.tup [])) (bIa sq ti ss l sh) {})
def aTl (p:Int) (sq:Int) (ti:Int) (ss:Int) (l:List UInt8) (sh:Bool) (Q:Out→List Blk→Gh→Prop):Prop:=
bif p==48862 then aGz p sq ti ss l sh Q else bif p==4096 then aGz p sq ti ss l sh Q else bC3 Q sq ti ss l sh
def aRr (s:List UInt8):Prop:=
∃y_0:Nat,Lf (y_0=0)∧s.length+1<s.length+1∧zR
def qaM (Q:Out→List Blk→Gh→Prop) (sq ti ss:Int) (l:List UInt8) (sh:Bool) (acc:List Xt) (bad:Bool):Prop:=(Q (Out.ret (AV.tup [])) ((Blk.mk BK.exact true aV)::((Blk.mk BK.exact false ((AV.bool false)::((AV.int .i64 (0:Int))::((AV.int .i64 sq)::((AV.int .i64 ti)::((AV.int .i64 ss)::(AV.nils::((AV.sl (5:Nat) ((2:Nat)*(List.length acc)) (0:Nat) (List.length acc) (2:Nat))::((AV.int .i64 (0:Int))::((AV.str [])::((AV.str l)::((AV.bool bad)::[]))))))))))))::((Blk.mk BK.exact false ((AV.ptr (1:Nat) (11:Nat) (0:Nat))::[]))::((Blk.mk BK.exact true ((AV.bool sh)::[]))::((Blk.mk BK.exact true (cellsXM (List.take (1:Nat) acc)))::((Blk.mk BK.grow true (cellsXM acc))::[])))))) (Gh.mk (0:Nat) (0:Nat) []))
def haM (sq ti ss:Int) (l:List UInt8) (sh:Bool) (acc:List Xt):List Blk:=((Blk.mk BK.exact true aV)::((Blk.mk BK.exact false ((AV.bool false)::((AV.int .i64 (0:Int))::((AV.int .i64 sq)::((AV.int .i64 ti)::((AV.int .i64 ss)::(AV.nils::((AV.sl (5:Nat) ((2:Nat)*(List.length acc)) (0:Nat) (List.length acc) (2:Nat))::((AV.int .i64 (0:Int))::((AV.str [])::((AV.str l)::((AV.bool false)::[]))))))))))))::((Blk.mk BK.exact false ((AV.ptr (1:Nat) (11:Nat) (0:Nat))::[]))::((Blk.mk BK.exact true ((AV.bool sh)::[]))::((Blk.mk BK.exact true (cellsXM (List.take (1:Nat) acc)))::((Blk.mk BK.grow true (cellsXM acc))::[]))))))
abbrev sP:Prop:=aN [AV.ptr 1 11 0]
abbrev uC (sh:Bool):Prop:=aN [AV.bool sh]
abbrev aT8 (s:List UInt8) (p:Int):Prop:=aN (AV.ptr 1 11 0)∧aN (AV.str s)∧aN (AV.int .i64 p)∧aN (AV.int .i64 0)∧True
abbrev aPz (p:Int) (s:List UInt8) (x_0:List Xt×Int×List UInt8):Prop:=Lf (goM p s x_0.1 x_0.2.1 x_0.2.2∧1≤x_0.1.length∧x_0.1.length≤16)
abbrev aJi:Prop:=True∧(0:Nat)=(0:Nat)
abbrev bCa (sq ti ss:Int) (y_14:List Xt×Int×List UInt8) (l:List UInt8):List AV:=[.bool false,.int .i64 0,.int .i64 sq,.int .i64 ti,.int .i64 ss,.nils,.sl 5 (2*y_14.1.length) 0 y_14.1.length 2,.int .i64 0,.str [],.str l,.bool false]
abbrev bDp (rs_:List UInt8) (y_14:List Xt×Int×List UInt8) (p id_:Int):Prop:=aN (AV.ptr 1 11 0)∧AV.str rs_=AV.str y_14.2.2∧aN (AV.int .i64 p)∧AV.int .i64 id_=AV.int .i64 y_14.2.1∧True
abbrev aDm (x_0:List Xt×Int×List UInt8):Bool:=Nat.beq (cellsXM x_0.1).length (2*x_0.1.length)
abbrev bIn (x_0:List Xt×Int×List UInt8):Bool:=aDm x_0
abbrev aQt (x_0:List Xt×Int×List UInt8):Bool:=bIn x_0&&true&&Nat.beq (0+x_0.1.length*2) (2*x_0.1.length)&&Nat.ble (x_0.1.length+1) 1099511627776&&Nat.ble ((x_0.1.length+1)*24) 1099511627776
abbrev aRi (ex_7:List Xt):Prop:=ex_7.length≤1000000∧dataM ex_7
abbrev bMz (x_0:List Xt×Int×List UInt8) (Q:Out→List Blk→Gh→Prop) (sq ti ss:Int) (l:List UInt8) (sh:Bool) (p:Int):Prop:=ckQ (aDm x_0) (exI .i64 (x_0.1.length:Int) (fun n_6=>bif n_6==0 then qaM Q sq ti ss l sh x_0.1 true else ckQ (aDm x_0&&Nat.ble (0+x_0.1.length*2) (2*x_0.1.length)&&true) (∃ex_7:List Xt,Lf (List.map (fun (x_8:AV)=>dG 1 (haM sq ti ss l sh x_0.1) 8 x_8) (((cellsXM x_0.1).drop 0).take (x_0.1.length*2))=cellsXM ex_7∧x_0.1.length=ex_7.length∧aRi ex_7)∧bif shortM ex_7 then bif p==48862 then qaM Q sq ti ss l sh x_0.1 false else qaM Q sq ti ss l sh x_0.1 true else bif p==48862 then qaM Q sq ti ss l sh x_0.1 true else qaM Q sq ti ss l sh x_0.1 false)))
theorem bHd (p:Int) (s:List UInt8) (sq:Int) (ti:Int) (ss:Int) (l:List UInt8) (sh:Bool) (Q:Out→List Blk→Gh→Prop):yL (bH [(372748,.int .i64),(372751,.int .u8),(372752,.int .i64),(372766,.int .i64),
 (372771,.str),(372780,.int .i64),(372782,.int .i64),(372783,.int .i64),(372797,.int .i64),(372799,.int .i64),(372833,.int .i64),(372834,.str),(372844,.int .i64),(372845,.str),(372786,.int .i64),(372754,.int .u8),
 (372755,.int .i64),(372868,.int .i64),(372816,.int .i64)]) (bI []) p s sq ti ss l sh Q=(((∃x_0:Nat,Lf (x_0=0)∧aJ1∧aN [AV.bool false,.int .i64 0,.int .i64 sq,.int .i64 ti,.int .i64 ss,.nils,.nils,.int .i64 0,
 .str [],.str l,.bool false]∧sP∧uC sh∧aT8 s p)∨∃x_0:List Xt×Int×List UInt8,aPz p s x_0∧zR)∧(∀x_0:Nat,Lf (x_0=0)→vZ p s 0 0 true true (aRa p sq ti ss l sh Q) (aTl p sq ti ss l sh Q)
 (fun (id_:Int)=>fun (dt_:List UInt8)=>fun (rs_:List UInt8)=>aJi∧(aRr s∨∃y_14:List Xt×Int×List UInt8,aPz p s y_14∧y_14.2.2.length<s.length+1∧aJ1∧[AV.bool false,.int .i64 0,.int .i64 sq,.int .i64
 ti,.int .i64 ss,.nils,.sl 5 2 0 1 2,.int .i64 0,.str [],.str l,.bool false]=bCa sq ti ss y_14 l∧sP∧uC sh∧[AV.int .i64 id_,.str dt_]=cellsXM (y_14.1.take 1)∧[AV.int .i64 id_,.str dt_]=cellsXM y_14.1∧bDp rs_
 y_14 p id_)))∧∀x_0:List Xt×Int×List UInt8,aPz p s x_0→vZ p x_0.2.2 x_0.2.1 (x_0.1.length:Int) (bIn x_0) (aQt x_0) (bif p==48862 then qaM Q sq ti ss l sh x_0.1 true else bif p==4096 then qaM Q sq ti ss l sh x_0.1
 true else qaM Q sq ti ss l sh x_0.1 true) (bif p==48862 then bMz x_0 Q sq ti ss l sh p else bif p==4096 then bMz x_0 Q sq ti ss l sh p else qaM Q sq ti ss l sh x_0.1 true) (fun (id_:Int)=>fun (dt_:List UInt8)=>fun (rs_:List
 UInt8)=>aJi∧((∃y_14:Nat,Lf (y_14=0)∧s.length+1<x_0.2.2.length∧zR)∨∃y_14:List Xt×Int×List UInt8,aPz p s y_14∧y_14.2.2.length<x_0.2.2.length∧aJ1∧[AV.bool false,.int .i64 0,.int .i64 sq,.int
 .i64 ti,.int .i64 ss,.nils,.sl 5 (2*x_0.1.length+2) 0 (x_0.1.length+1) 2,.int .i64 0,.str [],.str l,.bool false]=bCa sq ti ss y_14 l∧sP∧uC sh∧cellsXM (x_0.1.take 1)=cellsXM (y_14.1.take 1)∧cellsXM x_0.1 ++
 [AV.int .i64 id_,.str dt_]=cellsXM y_14.1∧bDp rs_ y_14 p id_))):=by kernel_rfl

noncomputable def zD (hv:Nat→Option Pa) (hb:Nat→Option Bool) (p:Int) (s:List UInt8) (sq ti ss:Int) (n:Nat) (l:List UInt8) (sh:Bool) (c4 c5:List AV) (Q:Out→List Blk→Gh→Prop):Prop:=
 bC (uK hv hb p s) (wpx (uK hv hb p s) 1000) 91 [.ptr 1 11 0,.str s,.int .i64 p] (qI sq ti ss (.sl 5 n 0 n 1) false l sh [⟨.exact,true,c4⟩,⟨.grow,true,c5⟩]) {} Q
abbrev aYj (Q:Out→List Blk→Gh→Prop) (sq ti ss:Int) (n:Nat) (l:List UInt8) (sh:Bool) (c4 c5:List AV):Prop:=Q (.ret (.tup [])) [aZs,Blk.mk BK.exact false [.bool false,.int .i64 0,.int .i64 sq,.int .i64 ti,.int .i64 ss,.sl 5 n 0 n 1,.nils,.int .i64 0,.str [],.str l,.bool true],aZq,bCk sh,Blk.mk BK.exact true c4,Blk.mk BK.grow true c5] {}
def aTm (p:Int) (sq:Int) (ti:Int) (ss:Int) (n:Nat) (l:List UInt8) (sh:Bool) (c4:List AV) (c5:List AV) (Q:Out→List Blk→Gh→Prop):Prop:=
bif p==48862 then aYj Q sq ti ss n l sh c4 c5 else bif p==4096 then aYj Q sq ti ss n l sh c4 c5 else aYj Q sq ti ss n l sh c4 c5
abbrev bI4 (sq ti ss:Int) (n:Nat) (l:List UInt8) (sh:Bool) (c4 c5:List AV):List Blk:=[Blk.mk BK.exact true aV,Blk.mk BK.exact false [.bool false,.int .i64 0,.int .i64 sq,.int .i64 ti,.int .i64 ss,.sl 5 n 0 n 1,.nils,.int .i64 0,.str [],.str l,.bool false],Blk.mk BK.exact false [.ptr 1 11 0],Blk.mk BK.exact true [.bool sh],Blk.mk BK.exact true c4,Blk.mk BK.grow true c5]
def aGh (p:Int) (sq:Int) (ti:Int) (ss:Int) (n:Nat) (l:List UInt8) (sh:Bool) (c4:List AV) (c5:List AV) (Q:Out→List Blk→Gh→Prop):Prop:=
exI .i64 0 (fun n_0=>bif n_0==0 then aYj Q sq ti ss n l sh c4 c5 else ∃ex_1:List Xt,bHz ex_1∧bif shortM ex_1 then bif p==48862 then Q (.ret (.tup [])) (bI4 sq ti ss n l sh c4 c5) {} else aYj Q sq ti ss n l sh c4 c5 else bif p==48862 then aYj Q sq ti ss n l sh c4 c5 else Q (.ret (.tup [])) (bI4 sq ti ss n l sh c4 c5) {})
def aQ6 (p:Int) (sq:Int) (ti:Int) (ss:Int) (n:Nat) (l:List UInt8) (sh:Bool) (c4:List AV) (c5:List AV) (Q:Out→List Blk→Gh→Prop):Prop:=
bif p==48862 then aGh p sq ti ss n l sh c4 c5 Q else bif p==4096 then aGh p sq ti ss n l sh c4 c5 Q else aYj Q sq ti ss n l sh c4 c5
abbrev bC0 (sq ti ss:Int) (n:Nat) (l:List UInt8):List AV:=[.bool false,.int .i64 0,.int .i64 sq,.int .i64 ti,.int .i64 ss,.sl 5 n 0 n 1,.sl 7 2 0 1 2,.int .i64 0,.str [],.str l,.bool false]
abbrev bHi (sq ti ss:Int) (n:Nat) (l:List UInt8):List AV:=[.bool false,.int .i64 0,.int .i64 sq,.int .i64 ti,.int .i64 ss,.sl 5 n 0 n 1,.nils,.int .i64 0,.str [],.str l,.bool false]
def aQd (s:List UInt8) (sq:Int) (ti:Int) (ss:Int) (n:Nat) (l:List UInt8) (sh:Bool) (c4:List AV) (c5:List AV):Prop:=
∃y_0:Nat,Lf (y_0=0)∧s.length+1<s.length+1∧aJ1∧bC0 sq ti ss n l=bHi sq ti ss n l∧sP∧uC sh∧c4=c4∧c5=c5∧False
def qbM (Q:Out→List Blk→Gh→Prop) (sq ti ss:Int) (n:Nat) (l:List UInt8) (sh:Bool) (c4 c5:List AV) (acc:List Xt) (bad:Bool):Prop:=(Q (Out.ret (AV.tup [])) ((Blk.mk BK.exact true aV)::((Blk.mk BK.exact false ((AV.bool false)::((AV.int .i64 (0:Int))::((AV.int .i64 sq)::((AV.int .i64 ti)::((AV.int .i64 ss)::((AV.sl (5:Nat) n (0:Nat) n (1:Nat))::((AV.sl (7:Nat) ((2:Nat)*(List.length acc)) (0:Nat) (List.length acc) (2:Nat))::((AV.int .i64 (0:Int))::((AV.str [])::((AV.str l)::((AV.bool bad)::[]))))))))))))::((Blk.mk BK.exact false ((AV.ptr (1:Nat) (11:Nat) (0:Nat))::[]))::((Blk.mk BK.exact true ((AV.bool sh)::[]))::((Blk.mk BK.exact true c4)::((Blk.mk BK.grow true c5)::((Blk.mk BK.exact true (cellsXM (List.take (1:Nat) acc)))::((Blk.mk BK.grow true (cellsXM acc))::[])))))))) (Gh.mk (0:Nat) (0:Nat) []))
def hbM (sq ti ss:Int) (n:Nat) (l:List UInt8) (sh:Bool) (c4 c5:List AV) (acc:List Xt):List Blk:=((Blk.mk BK.exact true aV)::((Blk.mk BK.exact false ((AV.bool false)::((AV.int .i64 (0:Int))::((AV.int .i64 sq)::((AV.int .i64 ti)::((AV.int .i64 ss)::((AV.sl (5:Nat) n (0:Nat) n (1:Nat))::((AV.sl (7:Nat) ((2:Nat)*(List.length acc)) (0:Nat) (List.length acc) (2:Nat))::((AV.int .i64 (0:Int))::((AV.str [])::((AV.str l)::((AV.bool false)::[]))))))))))))::((Blk.mk BK.exact false ((AV.ptr (1:Nat) (11:Nat) (0:Nat))::[]))::((Blk.mk BK.exact true ((AV.bool sh)::[]))::((Blk.mk BK.exact true c4)::((Blk.mk BK.grow true c5)::((Blk.mk BK.exact true (cellsXM (List.take (1:Nat) acc)))::((Blk.mk BK.grow true (cellsXM acc))::[]))))))))
abbrev bJg (sq ti ss:Int) (n:Nat) (x_0:List Xt×Int×List UInt8) (l:List UInt8):List AV:=[.bool false,.int .i64 0,.int .i64 sq,.int .i64 ti,.int .i64 ss,.sl 5 n 0 n 1,.sl 7 (2*x_0.1.length) 0 x_0.1.length 2,.int .i64 0,.str [],.str l,.bool false]
abbrev bOa (x_0:List Xt×Int×List UInt8) (Q:Out→List Blk→Gh→Prop) (sq ti ss:Int) (n:Nat) (l:List UInt8) (sh:Bool) (c4 c5:List AV) (p:Int):Prop:=ckQ (aDm x_0) (exI .i64 (x_0.1.length:Int) (fun n_6=>bif n_6==0 then qbM Q sq ti ss n l sh c4 c5 x_0.1 true else ckQ (aDm x_0&&Nat.ble (0+x_0.1.length*2) (2*x_0.1.length)&&true) (∃ex_7:List Xt,Lf (List.map (fun (x_8:AV)=>dG 1 (hbM sq ti ss n l sh c4 c5 x_0.1) 8 x_8) (((cellsXM x_0.1).drop 0).take (x_0.1.length*2))=cellsXM ex_7∧x_0.1.length=ex_7.length∧aRi ex_7)∧bif shortM ex_7 then bif p==48862 then qbM Q sq ti ss n l sh c4 c5 x_0.1 false else qbM Q sq ti ss n l sh c4 c5 x_0.1 true else bif p==48862 then qbM Q sq ti ss n l sh c4 c5 x_0.1 true else qbM Q sq ti ss n l sh c4 c5 x_0.1 false)))
abbrev bCt (sq ti ss:Int) (n:Nat) (x_0:List Xt×Int×List UInt8) (l:List UInt8):List AV:=[.bool false,.int .i64 0,.int .i64 sq,.int .i64 ti,.int .i64 ss,.sl 5 n 0 n 1,.sl 7 (2*x_0.1.length+2) 0 (x_0.1.length+1) 2,.int .i64 0,.str [],.str l,.bool false]
theorem bEy (p:Int) (s:List UInt8) (sq:Int) (ti:Int) (ss:Int) (n:Nat) (l:List UInt8) (sh:Bool) (c4:List AV) (c5:List AV) (Q:Out→List Blk→Gh→Prop):zD (bH [(372748,.int .i64),(372751,.int .u8),
 (372752,.int .i64),(372766,.int .i64),(372771,.str),(372780,.int .i64),(372782,.int .i64),(372783,.int .i64),(372797,.int .i64),(372799,.int .i64),(372833,.int .i64),(372834,.str),(372844,.int .i64),(372845,.str),
 (372786,.int .i64),(372754,.int .u8),(372755,.int .i64),(372868,.int .i64),(372816,.int .i64)]) (bI []) p s sq ti ss n l sh c4 c5 Q=(((∃x_0:Nat,Lf (x_0=0)∧aJ1∧aN (bHi sq ti ss n l)∧sP∧uC sh∧c4=c4 ∧
 c5=c5∧aT8 s p)∨∃x_0:List Xt×Int×List UInt8,aPz p s x_0∧aJ1∧bHi sq ti ss n l=bJg sq ti ss n x_0 l∧sP∧uC sh∧c4=c4∧c5=c5∧False)∧(∀x_0:Nat,Lf (x_0=0)→vZ p s 0 0 true true (aTm p
 sq ti ss n l sh c4 c5 Q) (aQ6 p sq ti ss n l sh c4 c5 Q) (fun (id_:Int)=>fun (dt_:List UInt8)=>fun (rs_:List UInt8)=>aJi∧(aQd s sq ti ss n l sh c4 c5∨∃y_14:List Xt×Int×List UInt8,aPz p s y_14 ∧
 y_14.2.2.length<s.length+1∧aJ1∧bC0 sq ti ss n l=bJg sq ti ss n y_14 l∧sP∧uC sh∧c4=c4∧c5=c5∧[AV.int .i64 id_,.str dt_]=cellsXM (y_14.1.take 1)∧[AV.int .i64 id_,.str dt_]=cellsXM y_14.1∧bDp rs_
 y_14 p id_)))∧∀x_0:List Xt×Int×List UInt8,aPz p s x_0→vZ p x_0.2.2 x_0.2.1 (x_0.1.length:Int) (bIn x_0) (aQt x_0) (bif p==48862 then qbM Q sq ti ss n l sh c4 c5 x_0.1 true else bif p==4096 then qbM Q sq ti ss n l
 sh c4 c5 x_0.1 true else qbM Q sq ti ss n l sh c4 c5 x_0.1 true) (bif p==48862 then bOa x_0 Q sq ti ss n l sh c4 c5 p else bif p==4096 then bOa x_0 Q sq ti ss n l sh c4 c5 p else qbM Q sq ti ss n l sh c4 c5 x_0.1 true) (fun (id_ :
 Int)=>fun (dt_:List UInt8)=>fun (rs_:List UInt8)=>aJi∧((∃y_14:Nat,Lf (y_14=0)∧s.length+1<x_0.2.2.length∧aJ1∧bCt sq ti ss n x_0 l=bHi sq ti ss n l∧sP∧uC sh∧c4=c4∧c5=c5∧False)∨∃y_14
 : List Xt×Int×List UInt8,aPz p s y_14∧y_14.2.2.length<x_0.2.2.length∧aJ1∧bCt sq ti ss n x_0 l=bJg sq ti ss n y_14 l∧sP∧uC sh∧c4=c4∧c5=c5∧cellsXM (x_0.1.take 1)=cellsXM (y_14.1.take 1)∧cellsXM
 x_0.1++[AV.int .i64 id_,.str dt_]=cellsXM y_14.1∧bDp rs_ y_14 p id_))):=by kernel_rfl

theorem aCk (p:Int) (f:Nat) (last:Int) (n:Nat):bB p f last n []=([],false):=by cases f<;>rfl
theorem bEv (c:Nat):Int.fdiv (c:Int) 16=((c/16:Nat):Int):=by rw[Int.fdiv_eq_ediv_of_nonneg _ (by omega)];omega
theorem qZ {p:Int} {r:List UInt8} {last:Int} {n:Nat} {c1 c2:Bool} {E1 E0:Prop} {STEP:Int→List UInt8→List UInt8→Prop} (h1:c1=true) (h2:c2=true) (hr:r.length≤1000000) {f:Nat} (hf:r.length≤f)
  (hE1:bB p f last n r=([],true)→E1) (hE0:bB p f last n r=([],false)→E0)
  (hS:n≠16→∀f' id dt rs,rs.length<r.length→rs.length≤f'→bB p f last n r=((id,dt)::(bB p f' id (n+1) rs).1,(bB p f' id (n+1) rs).2)→STEP id dt rs):vZ p r last (n:Int) c1 c2 E1 E0 STEP:=by
 unfold vZ
 cases r with
 | nil=>exact ⟨_,rfl,aF (fun h=>absurd h (by simp)) (fun _=>hE0 (aCk _ _ _ _))⟩
 | cons c t=>
  obtain ⟨f,rfl⟩:∃g,f=g+1:=⟨f-1,by simp at hf;omega⟩
  have hc:=c.toNat_lt
  simp only[List.length_cons] at hr hf
  refine ⟨_,rfl,aF (fun h => ?_) (fun h=>absurd (by simp only[List.length_cons];omega) h)⟩
  refine ckI (by simp) ⟨_,rfl, ?_⟩
  rw[List.getD_cons_zero]
  refine aI (by omega) (by omega) (aW (fun z => ?_) (fun z => ?_))
  ·have hz:bB p (f+1) last n (c::t)=([],decide ((c::t).length>3) || !eqB (nW (c::t)) []):=by rw[bB,if_pos z]
   refine ⟨_,rfl,aF (fun q=>hE1 (by rw[hz,decide_eq_true (by omega)];rfl)) (fun q=>ckI (by simp;omega) ⟨_,rfl,zP (dW (fun y=>hE0 (by rw[hz,decide_eq_false (by omega),y];rfl)) (fun y=>hE1 (by rw[hz,y];simp)))⟩)⟩
  ·by_cases hp:p=48862
   ·subst hp
    have hG:bB 48862 (f+1) last n (c::t)=if ((c.toNat/16:Nat):Int)≤last∨t.length<c.toNat%16+1∨((c.toNat/16:Nat):Int)>14∨n=16 then ([],true) else ((((c.toNat/16:Nat):Int),t.take (c.toNat%16+1))::(bB 48862 f ((c.toNat/16:Nat):Int) (n+1) (t.drop (c.toNat%16+1))).1,(bB 48862 f ((c.toNat/16:Nat):Int) (n+1) (t.drop (c.toNat%16+1))).2):=by
     rw[bB,if_neg z,if_neg (by simp)]
     simp only[if_true,true_and]
    refine aW (fun _ => ?_) (fun h=>absurd rfl h)
    rw[bEv,show Int.toNat ((c.toNat:Int)%18446744073709551616)=c.toNat by omega,bH4 _ (by omega)]
    refine ⟨_,rfl,aI (by omega) (by omega) (aI (by omega) (by omega) (aF (fun a=>hE1 (by rw[hG,if_pos (.inl a)])) (fun a => ?_)))⟩
    refine aI (by omega) (by omega) ⟨_,rfl,aF (fun b=>hE1 (by simp only[List.length_cons] at b;rw[hG,if_pos (.inr (.inl (by omega)))])) (fun b => ?_)⟩
    simp only[List.length_cons] at b
    refine aW (fun _ => ?_) (fun h=>absurd rfl h)
    refine aF (fun d=>hE1 (by rw[hG,if_pos (.inr (.inr (.inl d)))])) (fun d=>ckI h1 ⟨_,rfl,aW (fun e=>hE1 (by rw[hG,if_pos (.inr (.inr (.inr (by omega))))])) (fun e => ?_)⟩)
    have e1:Int.toNat (1+(((c.toNat%16:Nat):Int)+1))=c.toNat%16+1+1:=by omega
    refine aI (by omega) (by omega) (ckI (by simp;omega) ⟨t.take (c.toNat%16+1),by rw[e1];rfl,ckI h2 (aI (by omega) (by omega) (ckI (by simp;omega) ⟨t.drop (c.toNat%16+1),by rw[e1,List.take_of_length_le (by simp)];rfl, ?_⟩))⟩)
    exact hS (by omega) f _ _ _ (by simp;omega) (by rw[List.length_drop];omega) (by rw[hG,if_neg (by omega)])
   ·refine aW (fun h=>absurd h hp) (fun _ => ?_)
    refine ⟨_,rfl,aF (fun a=>hE1 ?_) (fun a => ?_)⟩
    ·have:t=[]:=List.length_eq_zero_iff.1 (by simp only[List.length_cons] at a;omega)
     rw[bB,if_neg z,if_pos ⟨hp,this⟩]
    obtain ⟨d,u,rfl⟩:∃d u,t=d::u:=by
     cases t with
     | nil=>simp at a
     | cons d u=>exact ⟨d,u,rfl⟩
    simp only[List.length_cons] at hr hf
    have hd:=d.toNat_lt
    have hG:bB p (f+1) last n (c::d::u)=if (c.toNat:Int)≤last∨u.length<d.toNat∨n=16 then ([],true) else (((c.toNat:Int),u.take d.toNat)::(bB p f (c.toNat:Int) (n+1) (u.drop d.toNat)).1,(bB p f (c.toNat:Int) (n+1) (u.drop d.toNat)).2):=by
     rw[bB,if_neg z,if_neg (by simp)]
     simp only[hp,if_false,false_and,false_or,List.headD_cons,List.tail_cons]
    refine ckI (by simp) ⟨_,rfl, ?_⟩
    rw[List.getD_cons_succ,List.getD_cons_zero]
    refine aI (by omega) (by omega) (aF (fun a=>hE1 (by rw[hG,if_pos (.inl a)])) (fun a' => ?_))
    refine aI (by omega) (by omega) ⟨_,rfl,aF (fun b=>hE1 (by simp only[List.length_cons] at b;rw[hG,if_pos (.inr (.inl (by omega)))])) (fun b => ?_)⟩
    simp only[List.length_cons] at b
    refine aW (fun h=>absurd h hp) (fun _ => ?_)
    refine ckI h1 ⟨_,rfl,aW (fun e=>hE1 (by rw[hG,if_pos (.inr (.inr (by omega)))])) (fun e => ?_)⟩
    have e1:Int.toNat (2+(d.toNat:Int))=d.toNat+1+1:=by omega
    refine aI (by omega) (by omega) (ckI (by simp;omega) ⟨u.take d.toNat,by rw[e1];rfl,ckI h2 (aI (by omega) (by omega) (ckI (by simp;omega) ⟨u.drop d.toNat,by rw[e1,List.take_of_length_le (by simp)];rfl, ?_⟩))⟩)
    exact hS (by omega) f _ _ _ (by simp;omega) (by rw[List.length_drop];omega) (by rw[hG,if_neg (by omega)])
theorem pF (p:Int):∀ (f:Nat) (last:Int) (n:Nat) (s:List UInt8),∀x∈(bB p f last n s).1,x.2.length≤s.length
 | 0,_,_,_,x,hx=>by simp[bB] at hx
 | f+1,last,n,[],x,hx=>by simp[bB] at hx
 | f+1,last,n,c::s,x,hx=>by
  rw[bB] at hx
  split at hx
  ·simp at hx
  split at hx
  ·simp at hx
  dsimp only at hx
  have hr:(if p=48862 then s else s.tail).length≤s.length:=by split<;>simp
  generalize (if p=48862 then ((c.toNat/16:Nat):Int) else (c.toNat:Int))=id at hx
  generalize (if p=48862 then c.toNat%16+1 else (s.headD 0).toNat)=k at hx
  generalize (if p=48862 then s else s.tail)=r at hx hr
  split at hx
  ·simp at hx
  rcases List.mem_cons.1 hx with rfl | hx
  ·simp only[List.length_take,List.length_cons]
   omega
  ·have:=pF p f _ _ _ x hx
   rw[List.length_drop] at this
   simp only[List.length_cons]
   omega
theorem aG1 (p:Int) (s:List UInt8):s.length≤s.length∧bB p s.length 0 0 s=([]++(bB p s.length 0 ([]:List Xt).length s).1,(bB p s.length 0 ([]:List Xt).length s).2):=⟨Nat.le_refl _,rfl⟩
theorem go_step {p:Int} {s:List UInt8} {acc:List Xt} {last:Int} {r:List UInt8} {f f':Nat} {id:Int} {dt rs:List UInt8} (hg:bB p s.length 0 0 s=(acc++(bB p f last acc.length r).1,(bB p f last acc.length r).2)) (hr:r.length≤s.length) (h1:rs.length<r.length) (h2:rs.length≤f')
  (h3:bB p f last acc.length r=((id,dt)::(bB p f' id (acc.length+1) rs).1,(bB p f' id (acc.length+1) rs).2)):goM p s (acc++[(id,dt)]) id rs:=by
 refine ⟨by omega,f',h2, ?_⟩
 rw[hg,h3]
 simp
theorem pQ {p:Int} {s:List UInt8} {acc:List Xt} {last:Int} {r:List UInt8} {f:Nat} {bad:Bool} (hg:bB p s.length 0 0 s=(acc++(bB p f last acc.length r).1,(bB p f last acc.length r).2)) (h:bB p f last acc.length r=([],bad)) :
  mK p s=(acc,bad || !(decide (p=48862)||decide (p=4096))||acc.isEmpty||(shortM acc !=decide (p=48862))):=by
 rw[mK,hg,h]
 simp
theorem bJs {p:Int} {A:Prop} (h:A):bif p==48862 then A else (bif p==4096 then A else A):=aW (fun _=>h) (fun _=>aW (fun _=>h) (fun _=>h))
theorem bF1 (p:Int) (s:List UInt8) (hs:s.length≤1000000) (sq ti ss:Int) (l:List UInt8) (sh:Bool) (Q:Out→List Blk→Gh→Prop)
  (hn:∀bad,mK p s=([],bad)→Q (.ret (.tup [])) [⟨.exact,true,aV⟩,⟨.exact,true,[.bool false,.int .i64 0,.int .i64 sq,.int .i64 ti,.int .i64 ss,.nils,.nils,.int .i64 0,.str [],.str l,.bool bad]⟩,⟨.exact,false,[.ptr 1 11 0]⟩,⟨.exact,true,[.bool sh]⟩] {}) (hq:∀x ex bad,mK p s=(x::ex,bad)→Q (.ret (.tup [])) [⟨.exact,true,aV⟩,⟨.exact,false,[.bool false,.int .i64 0,.int .i64 sq,.int .i64 ti,.int .i64 ss,.nils,.sl 5 (2*(x::ex).length) 0 (x::ex).length 2,.int .i64 0,.str [],.str l,.bool bad]⟩,⟨.exact,false,[.ptr 1 11 0]⟩,⟨.exact,true,[.bool sh]⟩,⟨.exact,true,cellsXM [x]⟩,⟨.grow,true,cellsXM (x::ex)⟩] {}):∃hv hb,yL hv hb p s sq ti ss l sh Q:=by
 obtain ⟨hv,hb',e⟩:∃hv hb,yL hv hb p s sq ti ss l sh Q=_:=⟨_,_,bHd p s sq ti ss l sh Q⟩
 refine ⟨hv,hb',e.mpr ?_⟩
 delta aJ1 sP uC aT8 aPz aJi bCa bDp aDm bIn aQt aRi bMz
 clear e
 refine ⟨.inl ⟨0,⟨rfl⟩,rfl,rfl,rfl,rfl,rfl,rfl,rfl,rfl,trivial⟩, ?_, ?_⟩
 ·rintro _ ⟨rfl⟩
  obtain ⟨g0,g1⟩:=aG1 p s
  refine qZ (n:=0) rfl rfl hs g0 (fun h => ?_) (fun h => ?_) (fun _ f' id dt rs a1 a2 a3 => ?_)
  ·exact bJs (hn true (pQ (acc:=[]) g1 h))
  ·have hQ:=hn true (by rw[pQ (acc:=[]) g1 h];simp)
   refine aW (fun _ => ?_) (fun _=>aW (fun _ => ?_) (fun _=>hQ))
   ·exact ⟨_,rfl,aW (fun _=>hQ) (fun h=>absurd rfl h)⟩
   ·exact ⟨_,rfl,aW (fun _=>hQ) (fun h=>absurd rfl h)⟩
  ·exact ⟨⟨trivial,rfl⟩,.inr ⟨([(id,dt)],id,rs),⟨go_step (acc:=[]) g1 g0 a1 a2 a3,by simp,by simp⟩,by dsimp only;omega,rfl,rfl,rfl,rfl,rfl,rfl,rfl,rfl,rfl,rfl,trivial⟩⟩
 ·rintro ⟨acc,last,r⟩ ⟨⟨g0,f,g1,g2⟩,k1,k2⟩
  dsimp only at g0 g1 g2 k1 k2 ⊢
  obtain ⟨x,ex,rfl⟩:∃x ex,acc=x::ex:=by
   cases acc with
   | nil=>simp at k1
   | cons x ex=>exact ⟨x,ex,rfl⟩
  have hdt:dataM (x::ex):=fun y hy=>by
   have:=pF p s.length 0 0 s y (by rw[g2];exact List.mem_append_left _ hy)
   omega
  have hfz:∀ (H:List Blk),List.map (fun y=>dG 1 H 8 y) (List.take ((x::ex).length*2) (List.drop 0 (cellsXM (x::ex))))=cellsXM (x::ex):=fun H=>by
   rw[List.drop_zero,List.take_of_length_le (by rw[aZ];omega)]
   exact nL 1 H 7 _ (plain_cX _)
  refine qZ (n:=(x::ex).length) (by rw[aZ];simp) (by rw[aZ];simp at k2 ⊢;omega) (by omega) g1 (fun h => ?_) (fun h => ?_) (fun h16 f' id dt rs a1 a2 a3 => ?_)
  ·exact bJs (hq x ex true (by rw[pQ g2 h];simp))
  ·have hE:=pQ g2 h
   refine aW (fun hp => ?_) (fun hp=>aW (fun hp' => ?_) (fun hp' => ?_))
   ·subst hp
    refine ckI (by rw[aZ];simp) ⟨_,rfl,aW (fun h=>absurd h (by simp only[List.length_cons];omega)) (fun _=>ckI (by rw[aZ];simp;omega) ⟨x::ex,⟨hfz _,rfl,by simp at k2 ⊢;omega,hdt⟩,dW (fun q => ?_) (fun q => ?_)⟩)⟩
    ·exact aW (fun _=>hq x ex false (by rw[hE,q];rfl)) (fun h=>absurd rfl h)
    ·exact aW (fun _=>hq x ex true (by rw[hE,q];rfl)) (fun h=>absurd rfl h)
   ·subst hp'
    refine ckI (by rw[aZ];simp) ⟨_,rfl,aW (fun h=>absurd h (by simp only[List.length_cons];omega)) (fun _=>ckI (by rw[aZ];simp;omega) ⟨x::ex,⟨hfz _,rfl,by simp at k2 ⊢;omega,hdt⟩,dW (fun q => ?_) (fun q => ?_)⟩)⟩
    ·exact aW (fun h=>absurd h hp) (fun _=>hq x ex true (by rw[hE,q];rfl))
    ·exact aW (fun h=>absurd h hp) (fun _=>hq x ex false (by rw[hE,q];rfl))
   ·exact hq x ex true (by rw[hE,decide_eq_false hp,decide_eq_false hp'];simp)
  ·exact ⟨⟨trivial,rfl⟩,.inr ⟨(x::ex++[(id,dt)],id,rs),⟨go_step g2 g0 a1 a2 a3,by simp,by simp at k2 h16 ⊢;omega⟩,by dsimp only;omega,rfl,by simp only[List.length_append,List.length_cons,List.length_nil];rfl,rfl,rfl,rfl,by rw[wH];rfl,rfl,rfl,rfl,rfl,trivial⟩⟩
theorem bHy (p:Int) (s:List UInt8) (hs:s.length≤1000000) (sq ti ss:Int) (n:Nat) (l:List UInt8) (sh:Bool) (c4 c5:List AV) (Q:Out→List Blk→Gh→Prop)
  (hn:∀bad,mK p s=([],bad)→Q (.ret (.tup [])) [⟨.exact,true,aV⟩,⟨.exact,false,[.bool false,.int .i64 0,.int .i64 sq,.int .i64 ti,.int .i64 ss,.sl 5 n 0 n 1,.nils,.int .i64 0,.str [],.str l,.bool bad]⟩,⟨.exact,false,[.ptr 1 11 0]⟩,⟨.exact,true,[.bool sh]⟩,⟨.exact,true,c4⟩,⟨.grow,true,c5⟩] {}) (hq:∀x ex bad,mK p s=(x::ex,bad)→Q (.ret (.tup [])) [⟨.exact,true,aV⟩,⟨.exact,false,[.bool false,.int .i64 0,.int .i64 sq,.int .i64 ti,.int .i64 ss,.sl 5 n 0 n 1,.sl 7 (2*(x::ex).length) 0 (x::ex).length 2,.int .i64 0,.str [],.str l,.bool bad]⟩,⟨.exact,false,[.ptr 1 11 0]⟩,⟨.exact,true,[.bool sh]⟩,⟨.exact,true,c4⟩,⟨.grow,true,c5⟩,⟨.exact,true,cellsXM [x]⟩,⟨.grow,true,cellsXM (x::ex)⟩] {}):∃hv hb,zD hv hb p s sq ti ss n l sh c4 c5 Q:=by
 obtain ⟨hv,hb',e⟩:∃hv hb,zD hv hb p s sq ti ss n l sh c4 c5 Q=_:=⟨_,_,bEy p s sq ti ss n l sh c4 c5 Q⟩
 refine ⟨hv,hb',e.mpr ?_⟩
 delta aJ1 bHi sP uC aT8 aPz bJg aJi bC0 bDp aDm bIn aQt aRi bOa bCt
 clear e
 refine ⟨.inl ⟨0,⟨rfl⟩,rfl,rfl,rfl,rfl,rfl,rfl,rfl,rfl,rfl,rfl,trivial⟩, ?_, ?_⟩
 ·rintro _ ⟨rfl⟩
  obtain ⟨g0,g1⟩:=aG1 p s
  refine qZ (n:=0) rfl rfl hs g0 (fun h => ?_) (fun h => ?_) (fun _ f' id dt rs a1 a2 a3 => ?_)
  ·exact bJs (hn true (pQ (acc:=[]) g1 h))
  ·have hQ:=hn true (by rw[pQ (acc:=[]) g1 h];simp)
   refine aW (fun _ => ?_) (fun _=>aW (fun _ => ?_) (fun _=>hQ))
   ·exact ⟨_,rfl,aW (fun _=>hQ) (fun h=>absurd rfl h)⟩
   ·exact ⟨_,rfl,aW (fun _=>hQ) (fun h=>absurd rfl h)⟩
  ·exact ⟨⟨trivial,rfl⟩,.inr ⟨([(id,dt)],id,rs),⟨go_step (acc:=[]) g1 g0 a1 a2 a3,by simp,by simp⟩,by dsimp only;omega,rfl,rfl,rfl,rfl,rfl,rfl,rfl,rfl,rfl,rfl,rfl,rfl,trivial⟩⟩
 ·rintro ⟨acc,last,r⟩ ⟨⟨g0,f,g1,g2⟩,k1,k2⟩
  dsimp only at g0 g1 g2 k1 k2 ⊢
  obtain ⟨x,ex,rfl⟩:∃x ex,acc=x::ex:=by
   cases acc with
   | nil=>simp at k1
   | cons x ex=>exact ⟨x,ex,rfl⟩
  have hdt:dataM (x::ex):=fun y hy=>by
   have:=pF p s.length 0 0 s y (by rw[g2];exact List.mem_append_left _ hy)
   omega
  have hfz:∀ (H:List Blk),List.map (fun y=>dG 1 H 8 y) (List.take ((x::ex).length*2) (List.drop 0 (cellsXM (x::ex))))=cellsXM (x::ex):=fun H=>by
   rw[List.drop_zero,List.take_of_length_le (by rw[aZ];omega)]
   exact nL 1 H 7 _ (plain_cX _)
  refine qZ (n:=(x::ex).length) (by rw[aZ];simp) (by rw[aZ];simp at k2 ⊢;omega) (by omega) g1 (fun h => ?_) (fun h => ?_) (fun h16 f' id dt rs a1 a2 a3 => ?_)
  ·exact bJs (hq x ex true (by rw[pQ g2 h];simp))
  ·have hE:=pQ g2 h
   refine aW (fun hp => ?_) (fun hp=>aW (fun hp' => ?_) (fun hp' => ?_))
   ·subst hp
    refine ckI (by rw[aZ];simp) ⟨_,rfl,aW (fun h=>absurd h (by simp only[List.length_cons];omega)) (fun _=>ckI (by rw[aZ];simp;omega) ⟨x::ex,⟨hfz _,rfl,by simp at k2 ⊢;omega,hdt⟩,dW (fun q => ?_) (fun q => ?_)⟩)⟩
    ·exact aW (fun _=>hq x ex false (by rw[hE,q];rfl)) (fun h=>absurd rfl h)
    ·exact aW (fun _=>hq x ex true (by rw[hE,q];rfl)) (fun h=>absurd rfl h)
   ·subst hp'
    refine ckI (by rw[aZ];simp) ⟨_,rfl,aW (fun h=>absurd h (by simp only[List.length_cons];omega)) (fun _=>ckI (by rw[aZ];simp;omega) ⟨x::ex,⟨hfz _,rfl,by simp at k2 ⊢;omega,hdt⟩,dW (fun q => ?_) (fun q => ?_)⟩)⟩
    ·exact aW (fun h=>absurd h hp) (fun _=>hq x ex true (by rw[hE,q];rfl))
    ·exact aW (fun h=>absurd h hp) (fun _=>hq x ex false (by rw[hE,q];rfl))
   ·exact hq x ex true (by rw[hE,decide_eq_false hp,decide_eq_false hp'];simp)
  ·exact ⟨⟨trivial,rfl⟩,.inr ⟨(x::ex++[(id,dt)],id,rs),⟨go_step g2 g0 a1 a2 a3,by simp,by simp at k2 h16 ⊢;omega⟩,by dsimp only;omega,rfl,by simp only[List.length_append,List.length_cons,List.length_nil];rfl,rfl,rfl,rfl,rfl,rfl,by rw[wH];rfl,rfl,rfl,rfl,rfl,trivial⟩⟩
theorem aPl:∀f g,bOr f=some g→aG Tryz.prog gl0 f g:=bK _ (by
 simp only[List.mem_cons,List.not_mem_nil,or_false,forall_eq_or_imp,forall_eq]
 exact ⟨aFy,dM aHs aQ [2] fun args H Q hc=>by
  unfold aB5 at hc
  split at hc
  ·obtain ⟨xs,h,hq⟩:=hc
   exact ⟨xs,h,rfl,⟨_,rfl,rfl⟩,hq⟩
  ·exact hc.elim⟩)
theorem aYg:aG Tryz.prog gl0 91 bBm:=by
 refine aGe (enters_of (by kernel_rfl)) aQ fun args H Q hc => ?_
 unfold bBm at hc
 split at hc
 ·rename_i s p sq ti ss l sh
  cases hb:Nat.ble s.length 1000000
  ·rw[hb] at hc;exact hc.elim
  ·rw[hb] at hc
   rw[Nat.ble_eq] at hb
   obtain ⟨hv,hb',h⟩:=bF1 p s hb sq ti ss l sh (fun o H' _=>(qI sq ti ss .nils true l sh []).map (·.k)=(H'.map (·.k)).take 4∧(∀b∈H',bS b.cs=true∧b.k≠.ro)∧(∃v,o=.ret v∧noY v=true)∧Q o H')
    (fun bad he=>⟨rfl,by simp[aV,bS,noY],⟨_,rfl,rfl⟩,(hc [] bad ⟨he⟩).1 ⟨rfl⟩⟩)
    (fun x ex bad he=>⟨rfl,by simp[aV,bS,noY,(lD (sD (x::ex))).2,(lD (sD [x])).2],⟨_,rfl,rfl⟩,(hc (x::ex) bad ⟨he⟩).2 x ⟨by simp⟩⟩)
   exact ⟨rfl,rfl,by simp[aR,old,bS,noY],_,1000,⟨dZ,dY,cZ,aPl⟩,rfl,h⟩
 ·rename_i s p sq ti ss n n1 l sh c4 c5
  cases hb:Nat.ble s.length 1000000
  ·rw[hb] at hc;exact hc.elim
  ·rw[hb] at hc
   rw[Nat.ble_eq] at hb
   simp only[cond_true] at hc
   cases hb2:Nat.beq n n1&&jC c5
   ·rw[hb2] at hc;exact hc.elim
   ·rw[hb2] at hc
    simp only[Bool.and_eq_true,aP] at hb2
    obtain ⟨rfl,hb4⟩:=hb2
    obtain ⟨f1,f2⟩:=lD hb4
    obtain ⟨hv,hb',h⟩:=bHy p s hb sq ti ss n l sh [.int .i64 c4] c5 (fun o H' _=>(qI sq ti ss (.sl 5 n 0 n 1) false l sh [⟨.exact,true,[.int .i64 c4]⟩,⟨.grow,true,c5⟩]).map (·.k)=(H'.map (·.k)).take 6∧(∀b∈H',bS b.cs=true∧b.k≠.ro)∧(∃v,o=.ret v∧noY v=true)∧Q o H')
     (fun bad he=>⟨rfl,by simp[aV,bS,noY,f2],⟨_,rfl,rfl⟩,(hc [] bad ⟨he⟩).1 ⟨rfl⟩⟩)
     (fun x ex bad he=>⟨rfl,by simp[aV,bS,noY,f2,(lD (sD (x::ex))).2,(lD (sD [x])).2],⟨_,rfl,rfl⟩,(hc (x::ex) bad ⟨he⟩).2 x ⟨by simp⟩⟩)
    exact ⟨rfl,rfl,by simp[aR,old,bS,noY,f1,f2,aOx 6 c5 f1],_,1000,⟨dZ,dY,cZ,aPl⟩,rfl,h⟩
 ·exact hc.elim
theorem bA1:∀f g,bO1 f=some g→aG Tryz.prog gl0 f g:=bK _ (by
 simp only[List.mem_cons,List.not_mem_nil,or_false,forall_eq_or_imp,forall_eq]
 exact ⟨bCp,aYg,aFy⟩)
def bJ9:AV→AV
 | .tup [a,e]=>.tup [aggK a,e]
 | v=>v
theorem bAc (v:AV):wk v (bJ9 v):=by
 unfold bJ9
 split
 ·exact aGo (gM (wk_aggK _) (gM (iF _) wS))
 ·exact iF _
def cDecode:Con
 | [.str s],H,K=>bif Nat.ble s.length 9223372036854775807 then
   ∀ (mk:Bool) (ty sq ti ss:Int) (cs:List Int) (ex:List Xt) (p:Int) (y:List UInt8) (e:Int),Lf (decM s=(mk,ty,sq,ti,ss,cs,ex,p,y,e))→K (.ret (.tup [.agg [.bool mk,.int .i64 ty,.int .i64 sq,.int .i64 ti,.int .i64 ss,.lst 0 (aC cs) cs.length 1,.lst 0 (cellsXM ex) ex.length 2,.int .i64 p,.str y],.int .i64 e])) H
   else False
 | _,_,_=>False
theorem decode_ok:aG Tryz.prog gl0 35 cDecode:=by
 refine iG (enters_of (by kernel_rfl)) aQ 10 bJ9 bAc fun args H Q hc => ?_
 unfold cDecode at hc
 split at hc
 ·rename_i s
  cases hb:Nat.ble s.length 9223372036854775807
  ·rw[hb] at hc;exact hc.elim
  ·rw[hb] at hc
   rw[Nat.ble_eq] at hb
   obtain ⟨hv,hb',h⟩:=aJa s hb (fun o H' _=>∃v,o=.ret v∧Q (.ret (bJ9 (dG 0 H' 10 v))) H) (fun mk ty sq ti ss a b cs ex p y e H' e1 e2 he=>⟨_,rfl,by
    have:=hc mk ty sq ti ss cs ex p y e ⟨he⟩
    unfold okC at e1
    unfold okE at e2
    rw[←e1,←e2] at this
    exact this⟩)
   exact ⟨rfl,rfl,_,1000,⟨dZ,dY,cZ,bA1⟩,rfl,h⟩
 ·exact hc.elim
theorem yG (c:UInt8) (l:List UInt8):bV (c::l)=(c.toNat:Int)*256^l.length+bV l:=by
 suffices ∀n,∀l:List UInt8,l.length=n→bV (c::l)=(c.toNat:Int)*256^l.length+bV l from this _ l rfl
 intro n
 induction n with
 | zero=>intro l h;rw[List.length_eq_zero_iff.1 h];simp[bV]
 | succ n ih=>
  intro l h
  have hne:l≠[]:=by rintro rfl;simp at h
  have h1:l.dropLast.length=n:=by rw[List.length_dropLast];omega
  have h2:=ih _ h1
  rw[←List.dropLast_concat_getLast hne,←List.cons_append,zL,h2,zL,List.length_append,List.length_singleton,Int.pow_succ,Int.add_mul,Int.mul_assoc]
  omega
theorem aLd:∀ (a b:List UInt8),a.length=b.length→bV a=bV b→a=b
 | [],[],_,_=>rfl
 | [],_::_,h,_=>by simp at h
 | _::_,[],h,_=>by simp at h
 | c::a,d::b,h,e=>by
  simp only[List.length_cons,Nat.add_right_cancel_iff] at h
  rw[yG,yG,h] at e
  have ha:=wN a
  have hb:=wN b
  rw[h] at ha
  have hP:(0:Int)<256^b.length:=Int.pow_pos (by omega)
  generalize (256:Int)^b.length=P at *
  have hcd:(c.toNat:Int)=d.toNat:=by
   have e1:(bV a+P*(c.toNat:Int))/P=c.toNat:=by rw[Int.add_mul_ediv_left _ _ (by omega),Int.ediv_eq_zero_of_lt ha.1 ha.2];omega
   have e2:(bV b+P*(d.toNat:Int))/P=d.toNat:=by rw[Int.add_mul_ediv_left _ _ (by omega),Int.ediv_eq_zero_of_lt hb.1 hb.2];omega
   rw[←e1,←e2,Int.mul_comm P,Int.mul_comm P]
   congr 1
   omega
  rw[hcd] at e
  have hc:c=d:=UInt8.toNat_inj.1 (by omega)
  rw[hc,aLd a b h (by omega)]
theorem oct_val (m k:Nat):((octM (m:Int) k).toNat:Int)=((m/256^k%256:Nat):Int):=by
 have:((m:Int)/256^k%256).toNat=m/256^k%256:=by
  rw[show ((m:Int)/256^k%256)=((m/256^k%256:Nat):Int) by norm_cast]
  exact Int.toNat_natCast _
 rw[octM,this,UInt8.toNat_ofNat']
 have:=Nat.mod_lt (m/256^k) (show 0<256 by omega)
 norm_cast
 omega
theorem vR (m:Nat):∀k,bV (beM (m:Int) k)=((m%256^k:Nat):Int)
 | 0=>by simp[beM,bV,Nat.mod_one]
 | k+1=>by
  rw[beM,yG,be_len,vR m k,oct_val,Nat.pow_succ,Nat.mod_mul]
  norm_cast
  rw[Nat.mul_comm]
  omega
theorem aVu {n:Int} {k:Nat} (h0:0≤n) (h1:n<256^k):bV (beM n k)=n:=by
 obtain ⟨m,rfl⟩:=Int.eq_ofNat_of_zero_le h0
 rw[vR,Nat.mod_eq_of_lt (by exact_mod_cast h1)]
theorem bHl (l:List UInt8):beM (bV l) l.length=l:=
 aLd _ _ (be_len _ _) (aVu (wN l).1 (wN l).2)
theorem aSn {a r:List UInt8} {k:Int} (h:a.length=k.toNat) (b:Bool):aU (a++r) k=bV a∧aD (a++r) k=r∧bJ b (a++r) k=b:=by
 have h1:¬ ((a++r).length<k.toNat):=by rw[List.length_append];omega
 refine ⟨?_, ?_, ?_⟩
 ·rw[aU,if_neg h1,←h,List.take_left]
 ·rw[aD,if_neg h1,←h,List.drop_left]
 ·rw[bJ,decide_eq_false h1,Bool.or_false]
theorem kW {n:Int} {r:List UInt8} {k:Int} {j:Nat} (hj:j=k.toNat) (h0:0≤n) (h1:n<256^j) (b:Bool):aU (beM n j++r) k=n∧aD (beM n j++r) k=r∧bJ b (beM n j++r) k=b:=by
 have:=aSn (r:=r) (k:=k) (a:=beM n j) (by rw[be_len,hj]) b
 rw[aVu h0 h1] at this
 exact this
theorem aRk {l:List UInt8} {k:Int} {j:Nat} (hj:j=k.toNat) (h:j≤l.length) (b:Bool):l=beM (aU l k) j++aD l k∧bJ b l k=b∧(aD l k).length=l.length-j:=by
 subst hj
 have h1:¬ (l.length<k.toNat):=by omega
 have h2:(l.take k.toNat).length=k.toNat:=by rw[List.length_take];omega
 refine ⟨?_, ?_, ?_⟩
 ·rw[aU,if_neg h1,aD,if_neg h1]
  conv=>lhs;rw[←List.take_append_drop k.toNat l,←bHl (l.take k.toNat),h2]
 ·rw[bJ,decide_eq_false h1,Bool.or_false]
 ·rw[aD,if_neg h1,List.length_drop]
theorem aWs {l:List UInt8} {sh:Bool}:∀n,4*n≤l.length→rZ sh l n=sh∧l=putM 4 (csM l n)++fA l n∧(fA l n).length=l.length-4*n
 | 0,_=>by simp[rZ,csM,putM,fA]
 | n+1,h=>by
  obtain ⟨h1,h2,h3⟩:=aWs (l:=l) (sh:=sh) n (by omega)
  obtain ⟨k1,k2,k3⟩:=aRk (l:=fA l n) (k:=4) (j:=4) rfl (by omega) sh
  refine ⟨?_, ?_, ?_⟩
  ·rw[rZ,h1,k2]
  ·rw[csM,aNu,fA,putM,putM,List.append_nil,List.append_assoc,←k1]
   exact h2
  ·rw[fA,k3,h3];omega
theorem aXf {rest:List UInt8}:∀ (cs:List Int),(∀x∈cs,0≤x∧x<4294967296)→∀i,i≤cs.length→csM (putM 4 cs++rest) i=cs.take i∧fA (putM 4 cs++rest) i=putM 4 (cs.drop i)++rest
 | cs,_,0,_=>by simp[csM,fA]
 | cs,hc,i+1,h=>by
  obtain ⟨h1,h2⟩:=aXf (rest:=rest) cs hc i (by omega)
  have hi:i<cs.length:=by omega
  rw[csM,fA,h1,h2,List.drop_eq_getElem_cons hi,putM,List.append_assoc]
  have hr:=hc cs[i] (List.getElem_mem hi)
  obtain ⟨k1,k2,_⟩:=kW (n:=cs[i]) (k:=4) (j:=4) (r:=putM 4 (cs.drop (i+1))++rest) rfl hr.1 hr.2 false
  rw[k1,k2]
  refine ⟨?_,rfl⟩
  rw[List.take_add_one,List.getElem?_eq_getElem hi]
  rfl
theorem wR (k:Nat):nW (List.replicate k 0)=[]:=by
 have h:∀k:Nat,(List.replicate k (0:UInt8)).dropWhile (· == 0)=[]:=fun k=>by
  induction k with
  | zero=>rfl
  | succ k ih=>rw[List.replicate_succ,List.dropWhile_cons_of_pos (by rfl)];exact ih
 rw[nW,List.reverse_replicate,h]
 rfl
theorem oct_nat {m:Nat} (h:m<256):(octM (m:Int) 0).toNat=m:=by
 have h:=oct_val m 0
 rw[Nat.pow_zero,Nat.div_one,Nat.mod_eq_of_lt (by omega)] at h
 exact_mod_cast h
theorem bOj (n:Int):putM 1 [n]=[octM n 0]:=rfl
theorem aE1 {f:Nat} {last:Int} {n:Nat} {c:UInt8} {t:List UInt8} (z:c.toNat≠0):bB 48862 (f+1) last n (c::t)=if ((c.toNat/16:Nat):Int)≤last∨t.length<c.toNat%16+1∨((c.toNat/16:Nat):Int)>14∨n=16 then ([],true) else ((((c.toNat/16:Nat):Int),t.take (c.toNat%16+1))::(bB 48862 f ((c.toNat/16:Nat):Int) (n+1) (t.drop (c.toNat%16+1))).1,(bB 48862 f ((c.toNat/16:Nat):Int) (n+1) (t.drop (c.toNat%16+1))).2):=by
 rw[bB,if_neg (by omega),if_neg (by simp)]
 simp only[if_true,true_and]
theorem aIv {p:Int} (hp:p≠48862) {f:Nat} {last:Int} {n:Nat} {c d:UInt8} {u:List UInt8} (z:c.toNat≠0):bB p (f+1) last n (c::d::u)=if (c.toNat:Int)≤last∨u.length<d.toNat∨n=16 then ([],true) else (((c.toNat:Int),u.take d.toNat)::(bB p f (c.toNat:Int) (n+1) (u.drop d.toNat)).1,(bB p f (c.toNat:Int) (n+1) (u.drop d.toNat)).2):=by
 rw[bB,if_neg (by omega),if_neg (by simp)]
 simp only[hp,if_false,false_and,false_or,List.headD_cons,List.tail_cons]
theorem uE (sh:Bool) (k:Nat) (hk:k≤3):∀ (l:List Xt) (last:Int) (n f:Nat),extsOkM last l=true→0≤last→n+l.length≤16→(sh=true→∀x∈l,x.1≤14∧1≤x.2.length∧x.2.length≤16)→(extBM sh l++List.replicate k 0).length≤f→bB (profM sh) f last n (extBM sh l++List.replicate k 0)=(l,false)
 | [],last,n,f,_,_,_,_,hf=>by
  rw[extBM,List.nil_append] at *
  cases k with
  | zero=>exact aCk _ _ _ _
  | succ j=>
   obtain ⟨g,rfl⟩:∃g,f=g+1:=⟨f-1,by simp at hf;omega⟩
   have ht:=wR (j+1)
   rw[List.replicate_succ] at ht ⊢
   rw[bB,if_pos (by rfl),ht,decide_eq_false (by simp;omega)]
   rfl
 | x::l,last,n,f,ho,hl,hn,hs,hf=>by
  rw[extsOkM,Bool.and_eq_true,decide_eq_true_eq] at ho
  obtain ⟨⟨o1,o2,o3⟩,ho⟩:=ho
  simp only[List.length_cons] at hn
  obtain ⟨i,hi⟩:=Int.eq_ofNat_of_zero_le (show 0≤x.1 by omega)
  cases sh with
  | true=>
   obtain ⟨q1,q2,q3⟩:=hs rfl x (by simp)
   have e:extBM true (x::l)++List.replicate k 0=octM ((i*16+(x.2.length-1):Nat):Int) 0::(x.2++(extBM true l++List.replicate k 0)):=by
    rw[extBM,if_pos rfl,bOj,show x.1*16+((x.2.length:Int)-1)=((i*16+(x.2.length-1):Nat):Int) by omega]
    simp
   rw[e] at hf ⊢
   obtain ⟨g,rfl⟩:∃g,f=g+1:=⟨f-1,by simp at hf;omega⟩
   have hc:(octM ((i*16+(x.2.length-1):Nat):Int) 0).toNat=i*16+(x.2.length-1):=oct_nat (by omega)
   rw[show profM true=48862 from rfl,aE1 (by rw[hc];omega),hc,show (i*16+(x.2.length-1))/16=i by omega,show (i*16+(x.2.length-1))%16+1=x.2.length by omega,if_neg (by rw[List.length_append];omega),List.take_left,List.drop_left,←hi]
   have ih:=uE true k hk l x.1 (n+1) g ho (by omega) (by omega) (fun h y hy=>hs h y (by simp[hy])) (by simp at hf ⊢;omega)
   rw[show profM true=48862 from rfl] at ih
   rw[ih]
  | false=>
   have e:extBM false (x::l)++List.replicate k 0=octM ((i:Nat):Int) 0::octM ((x.2.length:Nat):Int) 0::(x.2++(extBM false l++List.replicate k 0)):=by
    rw[extBM,if_neg (by simp),←hi]
    simp[putM,beM]
   rw[e] at hf ⊢
   obtain ⟨g,rfl⟩:∃g,f=g+1:=⟨f-1,by simp at hf;omega⟩
   have hc:(octM ((i:Nat):Int) 0).toNat=i:=oct_nat (by omega)
   have hd:(octM ((x.2.length:Nat):Int) 0).toNat=x.2.length:=oct_nat (by omega)
   rw[aIv (by decide) (by rw[hc];omega),hc,hd,if_neg (by rw[List.length_append];omega),List.take_left,List.drop_left,←hi]
   rw[uE false k hk l x.1 (n+1) g ho (by omega) (by omega) (fun h y hy=>hs h y (by simp[hy])) (by simp at hf ⊢;omega)]
theorem aQ5 {ex:List Xt} (h0:ex≠[]) (ho:extsOkM 0 ex=true) (hn:ex.length≤16):mK (profM (shortM ex)) (extPM ex)=(ex,false):=by
 have h:=uE (shortM ex) ((4-(extBM (shortM ex) ex).length%4)%4) (by omega) ex 0 0 (extPM ex).length ho (by omega) (by omega) (fun q x hx=>short_at q x hx) (Nat.le_refl _)
 have h':bB (profM (shortM ex)) (extPM ex).length 0 0 (extPM ex)=(ex,false):=h
 have he:ex.isEmpty=false:=by cases ex with
  | nil=>exact absurd rfl h0
  | cons a l=>rfl
 rw[mK,h',he]
 cases shortM ex<;>rfl
theorem aRd (a:List UInt8) (c:UInt8):gG (a++[c])=c.toNat:=by
 have h:(a++[c]).length-1=a.length:=by simp
 rw[gG,if_neg (by simp),h]
 simp[List.getD]
theorem aHb {fl pad:Int} {y:List UInt8} (h64:fl/64=2) (hp:0≤pad∧pad≤255) (h32:fl/32%2=1↔0<pad):lQ false false fl (y++padM pad)=(0,pad,y):=by
 obtain ⟨m,rfl⟩:=Int.eq_ofNat_of_zero_le hp.1
 by_cases h:0<(m:Int)
 ·have e:y++padM m=(y++List.replicate (m-1) 0)++[octM (m:Int) 0]:=by
   rw[padM,if_pos h,bOj,show Int.toNat ((m:Int)-1)=m-1 by omega,List.append_assoc]
  have hN:gG (y++padM m)=m:=by rw[e,aRd,oct_nat (by omega)]
  have hL:(y++padM m).length=y.length+m:=by rw[e];simp;omega
  have hS:aFr (y++padM m)=List.replicate (m-1) 0:=by
   rw[aFr,hN,hL,show y.length+m-m=y.length by omega,List.drop_left,padM,if_pos h,show Int.toNat ((m:Int)-1)=m-1 by omega]
   exact List.take_left' (by simp)
  rw[lQ,if_neg (by simp),if_pos (h32.2 h),hN,hS,hL,wR,if_neg (by simp[eqB];omega),if_neg (by simp[h64]),show y.length+m-m=y.length by omega,List.take_left]
 ·have:m=0:=by omega
  subst this
  rw[lQ,if_neg (by simp),if_neg (by rw[h32];omega),if_neg (by simp[h64])]
  simp[padM]
def extHM (ex:List Xt):List UInt8:=if ex.length=0 then [] else putM 2 [profM (shortM ex),((extPM ex).length/4:Nat)]++extPM ex
theorem extP_len4 (ex:List Xt):(extPM ex).length%4=0:=by
 rw[extPM,List.length_append,zerosM,List.length_replicate]
 omega
theorem bBy (sh:Bool):0≤profM sh∧profM sh<65536:=by cases sh<;>decide
theorem aSz {fl pad:Int} {ex:List Xt} {y:List UInt8} (h64:fl/64=2) (hp:0≤pad∧pad≤255) (h32:fl/32%2=1↔0<pad) (h16:fl/16%2=1↔ex≠[]) (ho:extsOkM 0 ex=true) (hn:ex.length≤16) (hl:(extPM ex).length≤1200) :
  kT false fl (extHM ex++(y++padM pad))=(ex,0,pad,y):=by
 by_cases h:ex=[]
 ·subst h
  rw[kT,if_neg (by simp[h16])]
  simp only[extHM,List.length_nil,if_true,List.nil_append]
  rw[aHb h64 hp h32]
 ·have hne:ex.length≠0:=fun q=>h (List.length_eq_zero_iff.1 q)
  have h4:=extP_len4 ex
  have hpr:=bBy (shortM ex)
  have e:extHM ex++(y++padM pad)=beM (profM (shortM ex)) 2++(beM (((extPM ex).length/4:Nat):Int) 2++(extPM ex++(y++padM pad))):=by
   rw[extHM,if_neg hne]
   simp[putM]
  obtain ⟨a1,a2,a3⟩:=kW (n:=profM (shortM ex)) (k:=2) (j:=2) (r:=beM (((extPM ex).length/4:Nat):Int) 2++(extPM ex++(y++padM pad))) rfl hpr.1 hpr.2 false
  obtain ⟨b1,b2,b3⟩:=kW (n:=(((extPM ex).length/4:Nat):Int)) (k:=2) (j:=2) (r:=extPM ex++(y++padM pad)) rfl (by omega) (show (((extPM ex).length/4:Nat):Int)<65536 by omega) false
  rw[kT,if_pos (h16.2 h),e,a2,b2,b1,a1,a3,b3,show (4*(((extPM ex).length/4:Nat):Int)).toNat=(extPM ex).length by omega,List.take_left,List.drop_left,aQ5 h ho hn,aHb h64 hp h32,if_neg (by rw[List.length_append];omega)]
theorem aAq (mk:Bool) (ty sq ti ss:Int) (cs:List Int) (ex:List Xt) (pad:Int) (pl:List UInt8):encM mk ty sq ti ss cs ex pad pl=beM (fstM cs ex.length pad) 1++(beM (kindM mk ty) 1++(beM sq 2++(beM ti 4++(beM ss 4++(putM 4 cs++(extHM ex++(pl++padM pad))))))):=by
 rw[encM,headM,headBM,←extHM]
 simp[putM]
theorem dec_enc {mk:Bool} {ty sq ti ss:Int} {cs:List Int} {ex:List Xt} {pad:Int} {pl:List UInt8} (hr:rightM ty sq ti ss cs ex pad=true) (hl:(encM mk ty sq ti ss cs ex pad pl).length≤1200):decM (encM mk ty sq ti ss cs ex pad pl)=(mk,ty,sq,ti,ss,cs,ex,pad,pl,0):=by
 rw[rightM,Bool.and_eq_true,flagsM,decide_eq_true_eq] at hr
 obtain ⟨⟨r1,r2,r3,r4,r5,r6,r7,r8,r9,r10,r11,r12,r13⟩,ho⟩:=hr
 have hX:(extPM ex).length≤1200:=by
  rw[aAq,extHM] at hl
  split at hl
  ·rename_i h
   rw[List.length_eq_zero_iff.1 h]
   decide
  ·simp only[List.length_append] at hl
   omega
 have hfb:fstM cs ex.length pad%16=cs.length∧0≤fstM cs ex.length pad∧fstM cs ex.length pad<256∧fstM cs ex.length pad/64=2∧(fstM cs ex.length pad/32%2=1↔0<pad)∧(fstM cs ex.length pad/16%2=1↔ex≠[]):=by
  have:ex≠[]↔0<ex.length:=by
   rw[List.length_pos_iff]
  rw[this,fstM]
  split<;>split<;>omega
 obtain ⟨f1,f2,f3,f4,f5,f6⟩:=hfb
 have hk:0≤kindM mk ty∧kindM mk ty<256∧decide (128≤kindM mk ty)=mk∧kindM mk ty%128=ty:=by
  rw[kindM]
  cases mk
  ·simp only[Bool.false_eq_true,if_false,decide_eq_false_iff_not];omega
  ·simp only[if_true,decide_eq_true_eq];omega
 obtain ⟨k1,k2,k3,k4⟩:=hk
 rw[aAq] at hl ⊢
 generalize hR:putM 4 cs++(extHM ex++(pl++padM pad))=R at *
 obtain ⟨a1,a2,a3⟩:=kW (n:=fstM cs ex.length pad) (k:=1) (j:=1) (r:=beM (kindM mk ty) 1++(beM sq 2++(beM ti 4++(beM ss 4++R)))) rfl f2 f3 false
 obtain ⟨b1,b2,b3⟩:=kW (n:=kindM mk ty) (k:=1) (j:=1) (r:=beM sq 2++(beM ti 4++(beM ss 4++R))) rfl k1 k2 false
 obtain ⟨c1,c2,c3⟩:=kW (n:=sq) (k:=2) (j:=2) (r:=beM ti 4++(beM ss 4++R)) rfl r3 (show sq<65536 by omega) false
 obtain ⟨d1,d2,d3⟩:=kW (n:=ti) (k:=4) (j:=4) (r:=beM ss 4++R) rfl r5 (show ti<4294967296 by omega) false
 obtain ⟨e1,e2,e3⟩:=kW (n:=ss) (k:=4) (j:=4) (r:=R) rfl r7 (show ss<4294967296 by omega) false
 have hL:l5M (beM (fstM cs ex.length pad) 1++(beM (kindM mk ty) 1++(beM sq 2++(beM ti 4++(beM ss 4++R)))))=R:=by rw[l5M,a2,b2,c2,d2,e2]
 have hS:s5M (beM (fstM cs ex.length pad) 1++(beM (kindM mk ty) 1++(beM sq 2++(beM ti 4++(beM ss 4++R)))))=false:=by rw[s5M,a2,b2,c2,d2,a3,b3,c3,d3,e3]
 obtain ⟨g1,g2⟩:=aXf (rest:=extHM ex++(pl++padM pad)) cs r9 cs.length (Nat.le_refl _)
 have hlk:=(aWs (l:=R) (sh:=false) cs.length (by rw[←hR,List.length_append,put_len];omega)).1
 rw[hR] at g1 g2
 rw[List.take_length] at g1
 rw[List.drop_length,putM,List.nil_append] at g2
 rw[decM,if_neg (by omega),hL,hS,a1,f1,Int.toNat_natCast,hlk,g2,aSz f4 ⟨r10,r11⟩ f5 f6 ho r13 hX,aNe,if_pos rfl,a2,b1,b2,c1,c2,d1,d2,e1,hL,g1,k3,k4]
end Go.Proofs.YtnhechnaemmdiaaGreatDoor.Md
