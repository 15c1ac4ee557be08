/-
  Chapter 23: Decode of the program.
-/
import Derived.Test.YtnhechnaemmdiaaGreatDoorKnE
set_option linter.unusedSimpArgs false
set_option linter.unusedVariables false
set_option linter.unusedSectionVars false
namespace Go.Proofs.YtnhechnaemmdiaaGreatDoor.Md
open Go.RowKit
set_option maxRecDepth 1000000

def bQ (l:List UInt8):Int:=l.foldl (fun n c=>n*256+(c.toNat:Int)) 0
def aR (l:List UInt8) (k:Int):Int:=if l.length<k.toNat then 0 else bQ (l.take k.toNat)
def aG (l:List UInt8) (k:Int):List UInt8:=if l.length<k.toNat then [] else l.drop k.toNat
def bI (b:Bool) (l:List UInt8) (k:Int):Bool:=b||decide (l.length<k.toNat)
def eQ (l:List UInt8):Nat→List UInt8
 | 0=>l
 | i+1=>aG (eQ l i) 4
def csM (l:List UInt8):Nat→List Int
 | 0=>[]
 | i+1=>csM l i++[aR (eQ l i) 4]
def tJ (b:Bool) (l:List UInt8):Nat→Bool
 | 0=>b
 | i+1=>bI (tJ b l i) (eQ l i) 4
def mR (s:List UInt8):List UInt8:=((s.reverse.dropWhile (· == 0)).reverse).dropWhile (· == 0)
def aZ (prof:Int):Nat→Int→Nat→List UInt8→List Xt×Bool
 | 0,_,_,_=>([],false)
 | _+1,_,_,[]=>([],false)
 | f+1,last,n,c::s=>
  if (c.toNat:Int)=0 then ([],decide ((c::s).length>3) || !eqB (mR (c::s)) [])
  else if prof≠48862∧s=[] then ([],true)
  else
   let id:Int:=if prof=48862 then ((c.toNat/16:Nat):Int) else (c.toNat:Int)
   let k:Nat:=if prof=48862 then c.toNat%16+1 else (s.headD 0).toNat
   let r:List UInt8:=if prof=48862 then s else s.tail
   if id≤last∨r.length<k∨(prof=48862∧id>14)∨n=16 then ([],true)
   else ((id,r.take k)::(aZ prof f id (n+1) (r.drop k)).1,(aZ prof f id (n+1) (r.drop k)).2)
def lF (prof:Int) (s:List UInt8):List Xt×Bool:=
 ((aZ prof s.length 0 0 s).1,(aZ prof s.length 0 0 s).2 || !(decide (prof=48862)||decide (prof=4096))||(aZ prof s.length 0 0 s).1.isEmpty||(shortM (aZ prof s.length 0 0 s).1 !=decide (prof=48862)))

def iM (c:List AV):Bool:=aL 0 c&&bG c
theorem jD (l:List Int):iM (aB l)=true:=by
 induction l with
 | nil=>rfl
 | cons x l ih=>simpa [iM,aB,aL,bG,old,noY] using ih
theorem kC:∀l:List Xt,iM (cellsXM l)=true
 | []=>rfl
 | x::l=>by simpa [iM,cellsXM,aL,bG,old,noY] using kC l
def aX1:Con
 | [.int .i64 k,.ptr 2 1 0,.ptr 3 1 0],[⟨.exact,true,[.bool false,.int .i64 0,.int .i64 0,.int .i64 0,.int .i64 0,.nils,.nils,.int .i64 0,.str []]⟩,⟨.exact,true,[.bool false,.int .i64 0,.int .i64 sq,.int .i64 ti,.int .i64 ss,.nils,.nils,.int .i64 0,.str [],.str l,.bool false]⟩,⟨.exact,false,[.ptr 1 11 0]⟩,⟨.exact,true,[.bool sh]⟩],K=>
  bif decide (0≤k)&&decide (k≤4) then K (.ret (.int .i64 (aR l k))) [⟨.exact,true,[.bool false,.int .i64 0,.int .i64 0,.int .i64 0,.int .i64 0,.nils,.nils,.int .i64 0,.str []]⟩,⟨.exact,true,[.bool false,.int .i64 0,.int .i64 sq,.int .i64 ti,.int .i64 ss,.nils,.nils,.int .i64 0,.str [],.str (aG l k),.bool false]⟩,⟨.exact,false,[.ptr 1 11 0]⟩,⟨.exact,true,[.bool (bI sh l k)]⟩] else False
 | [.int .i64 k,.ptr 2 1 0,.ptr 3 1 0],[⟨.exact,true,[.bool false,.int .i64 0,.int .i64 0,.int .i64 0,.int .i64 0,.nils,.nils,.int .i64 0,.str []]⟩,⟨.exact,false,[.bool false,.int .i64 0,.int .i64 sq,.int .i64 ti,.int .i64 ss,.sl 5 n 0 n1 1,.nils,.int .i64 0,.str [],.str l,.bool false]⟩,⟨.exact,false,[.ptr 1 11 0]⟩,⟨.exact,true,[.bool sh]⟩,⟨.exact,true,[.int .i64 c4]⟩,⟨.grow,true,c5⟩],K=>
  bif decide (0≤k)&&decide (k≤4)&&Nat.beq n n1&&iM c5 then K (.ret (.int .i64 (aR l k))) [⟨.exact,true,[.bool false,.int .i64 0,.int .i64 0,.int .i64 0,.int .i64 0,.nils,.nils,.int .i64 0,.str []]⟩,⟨.exact,false,[.bool false,.int .i64 0,.int .i64 sq,.int .i64 ti,.int .i64 ss,.sl 5 n 0 n1 1,.nils,.int .i64 0,.str [],.str (aG l k),.bool false]⟩,⟨.exact,false,[.ptr 1 11 0]⟩,⟨.exact,true,[.bool (bI sh l k)]⟩,⟨.exact,true,[.int .i64 c4]⟩,⟨.grow,true,c5⟩] else False
 | _,_,_=>False
def aRo:Con
 | [.str s,.str [0]],H,K=>bif Nat.ble s.length 1000000 then K (.ret (.str (mR s))) H else False
 | _,_,_=>False
def bBn:Con
 | [.ptr 1 11 0,.str s,.int .i64 p],[⟨.exact,true,[.bool false,.int .i64 0,.int .i64 0,.int .i64 0,.int .i64 0,.nils,.nils,.int .i64 0,.str []]⟩,⟨.exact,true,[.bool false,.int .i64 0,.int .i64 sq,.int .i64 ti,.int .i64 ss,.nils,.nils,.int .i64 0,.str [],.str l,.bool false]⟩,⟨.exact,false,[.ptr 1 11 0]⟩,⟨.exact,true,[.bool sh]⟩],K=>
  bif Nat.ble s.length 1000000 then ∀ (ex:List Xt) (bad:Bool),Lf (lF p s=(ex,bad))→(Lf (ex=[])→K (.ret (.tup [])) [⟨.exact,true,[.bool false,.int .i64 0,.int .i64 0,.int .i64 0,.int .i64 0,.nils,.nils,.int .i64 0,.str []]⟩,⟨.exact,true,[.bool false,.int .i64 0,.int .i64 sq,.int .i64 ti,.int .i64 ss,.nils,.nils,.int .i64 0,.str [],.str l,.bool bad]⟩,⟨.exact,false,[.ptr 1 11 0]⟩,⟨.exact,true,[.bool sh]⟩]) ∧
   (∀x:Xt,Lf (ex≠[])→K (.ret (.tup [])) [⟨.exact,true,[.bool false,.int .i64 0,.int .i64 0,.int .i64 0,.int .i64 0,.nils,.nils,.int .i64 0,.str []]⟩,⟨.exact,false,[.bool false,.int .i64 0,.int .i64 sq,.int .i64 ti,.int .i64 ss,.nils,.sl 5 (2*ex.length) 0 ex.length 2,.int .i64 0,.str [],.str l,.bool bad]⟩,⟨.exact,false,[.ptr 1 11 0]⟩,⟨.exact,true,[.bool sh]⟩,⟨.exact,true,cellsXM [x]⟩,⟨.grow,true,cellsXM ex⟩]) else False
 | [.ptr 1 11 0,.str s,.int .i64 p],[⟨.exact,true,[.bool false,.int .i64 0,.int .i64 0,.int .i64 0,.int .i64 0,.nils,.nils,.int .i64 0,.str []]⟩,⟨.exact,false,[.bool false,.int .i64 0,.int .i64 sq,.int .i64 ti,.int .i64 ss,.sl 5 n 0 n1 1,.nils,.int .i64 0,.str [],.str l,.bool false]⟩,⟨.exact,false,[.ptr 1 11 0]⟩,⟨.exact,true,[.bool sh]⟩,⟨.exact,true,[.int .i64 c4]⟩,⟨.grow,true,c5⟩],K=>
  bif Nat.ble s.length 1000000 then (bif Nat.beq n n1&&iM c5 then ∀ (ex:List Xt) (bad:Bool),Lf (lF p s=(ex,bad))→(Lf (ex=[])→K (.ret (.tup [])) [⟨.exact,true,[.bool false,.int .i64 0,.int .i64 0,.int .i64 0,.int .i64 0,.nils,.nils,.int .i64 0,.str []]⟩,⟨.exact,false,[.bool false,.int .i64 0,.int .i64 sq,.int .i64 ti,.int .i64 ss,.sl 5 n 0 n1 1,.nils,.int .i64 0,.str [],.str l,.bool bad]⟩,⟨.exact,false,[.ptr 1 11 0]⟩,⟨.exact,true,[.bool sh]⟩,⟨.exact,true,[.int .i64 c4]⟩,⟨.grow,true,c5⟩]) ∧
   (∀x:Xt,Lf (ex≠[])→K (.ret (.tup [])) [⟨.exact,true,[.bool false,.int .i64 0,.int .i64 0,.int .i64 0,.int .i64 0,.nils,.nils,.int .i64 0,.str []]⟩,⟨.exact,false,[.bool false,.int .i64 0,.int .i64 sq,.int .i64 ti,.int .i64 ss,.sl 5 n 0 n1 1,.sl 7 (2*ex.length) 0 ex.length 2,.int .i64 0,.str [],.str l,.bool bad]⟩,⟨.exact,false,[.ptr 1 11 0]⟩,⟨.exact,true,[.bool sh]⟩,⟨.exact,true,[.int .i64 c4]⟩,⟨.grow,true,c5⟩,⟨.exact,true,cellsXM [x]⟩,⟨.grow,true,cellsXM ex⟩]) else False) else False
 | _,_,_=>False
def bNi:SM:=dV [(90,aX1),(91,bBn),(92,aRo)]
def aQc (sq ti ss:Int) (cs:AV) (l:List UInt8):List AV:=[.bool false,.int .i64 0,.int .i64 sq,.int .i64 ti,.int .i64 ss,cs,.nils,.int .i64 0,.str [],.str l,.bool false]
def bC3 (s:S):List (List LInv):=match s.tm.get 7,s.tm.get 8,s.tm.get 44,s.hp with
 | .int _ fl,.int _ kd,.int _ n,[⟨_,_,z⟩,⟨_,_,[_,_,.int _ sq,.int _ ti,.int _ ss,_,_,_,_,.str l,_]⟩,b2,⟨_,_,[.bool sh]⟩]=>[[
  { α:=Nat,pre:=fun i=>Lf (i=0),st:=fun i=>⟨mkT [(2,.ptr 0 9 0),(4,.ptr 2 1 0),(5,.ptr 3 1 0),(6,.fn (.func 90) [] [.ptr 2 1 0,.ptr 3 1 0]),(7,.int .i64 fl),(8,.int .i64 kd),(44,.int .i64 n),(45,.int .i64 (i:Nat))],[⟨.exact,true,z⟩,⟨.exact,true,aQc sq ti ss .nils l⟩,b2,⟨.exact,true,[.bool sh]⟩]⟩,mu:=fun i=>100 },
  { α:=Nat,pre:=fun i=>Lf (1≤i∧i≤15∧(i:Int)≤n),st:=fun i=>⟨mkT [(2,.ptr 0 9 0),(4,.ptr 2 1 0),(5,.ptr 3 1 0),(6,.fn (.func 90) [] [.ptr 2 1 0,.ptr 3 1 0]),(7,.int .i64 fl),(8,.int .i64 kd),(44,.int .i64 n),(45,.int .i64 (i:Nat))],[⟨.exact,true,z⟩,⟨.exact,false,aQc sq ti ss (.sl 5 i 0 i 1) (eQ l i)⟩,b2,⟨.exact,true,[.bool (tJ sh l i)]⟩,⟨.exact,true,aB (csM l 1)⟩,⟨.grow,true,aB (csM l i)⟩]⟩,mu:=fun i=>15-i }]]
 | _,_,_,_=>[]
noncomputable def aB4 (hv:Nat→Option Pa) (hb:Nat→Option Bool):Env:=e23 bNi (fun i=>bif Nat.beq i 35000 then some bC3 else none) hv hb
noncomputable def lT (hv:Nat→Option Pa) (hb:Nat→Option Bool) (s:List UInt8) (Q:Out→List Blk→Gh→Prop):Prop:=
 aY (aB4 hv hb) (wpx (aB4 hv hb) 1000) 35 [.str s] [] {} Q
def aLb (sh bad:Bool) (fl kd:Int) (l:List UInt8) (F:Bool→Int→Int→List UInt8→List UInt8→Prop) (Q:Out→List Blk→Gh→Prop):Prop:=(bif sh then (Q (Out.ret (AV.tup ((AV.agg aU)::((AV.int .i64 (7:Int))::[])))) [] (Gh.mk (0:Nat) (0:Nat) []))
else (∃n_21:Int,(((AV.int .i64 (IntKind.wrap .i64 (Nat.cast ((Int.toNat (kd%(18446744073709551616:Int))) &&& (128:Nat)):Int)))=(AV.int .i64 n_21)) ∧
 (bif (n_21 !=(0:Int)) then (∃n_22:Int,(((AV.int .i64 (IntKind.wrap .i64 (Nat.cast ((Int.toNat (kd%(18446744073709551616:Int))) &&& (127:Nat)):Int)))=(AV.int .i64 n_22)) ∧
 (∃n_23:Int,(((AV.int .i64 (IntKind.wrap .i64 (Nat.cast ((Int.toNat (fl%(18446744073709551616:Int))) &&& (32:Nat)):Int)))=(AV.int .i64 n_23)) ∧
 (bif (n_23 !=(0:Int)) then (∃s_24:(List UInt8),(((AV.str l)=(AV.str s_24)) ∧
 (∃n_25:Int,(((AV.int .i64 (Nat.cast (List.length s_24):Int))=(AV.int .i64 n_25)) ∧
 (bif (decide (n_25>(0:Int))) then (∃s_26:(List UInt8),(((AV.str l)=(AV.str s_26)) ∧
 (∃s_27:(List UInt8),(((AV.str l)=(AV.str s_27)) ∧
 (∃n_28:Int,(((AV.int .i64 (Nat.cast (List.length s_27):Int))=(AV.int .i64 n_28)) ∧
 (∃n_29:Int,(((AV.int .i64 (IntKind.wrap .i64 (n_28-(1:Int))))=(AV.int .i64 n_29)) ∧
 (bif ((decide ((0:Int)≤n_29))&&(Nat.blt (Int.toNat n_29) (List.length s_26))) then (∃n_30:Int,(((AV.int .u8 (Nat.cast (UInt8.toNat (List.getD s_26 (Int.toNat n_29) (UInt8.ofNat (0:Nat)))):Int))=(AV.int .u8 n_30)) ∧
 (∃n_31:Int,(((AV.int .i64 (IntKind.wrap .i64 n_30))=(AV.int .i64 n_31)) ∧
 (bif (n_31==(0:Int)) then (Q (Out.ret (AV.tup ((AV.agg aU)::((AV.int .i64 (5:Int))::[])))) [] (Gh.mk (0:Nat) (0:Nat) []))
else (∃s_32:(List UInt8),(((AV.str l)=(AV.str s_32)) ∧
 (∃n_33:Int,(((AV.int .i64 (Nat.cast (List.length s_32):Int))=(AV.int .i64 n_33)) ∧
 (bif (decide (n_31>n_33)) then (Q (Out.ret (AV.tup ((AV.agg aU)::((AV.int .i64 (5:Int))::[])))) [] (Gh.mk (0:Nat) (0:Nat) []))
else (∃s_34:(List UInt8),(((AV.str l)=(AV.str s_34)) ∧
 (∃s_35:(List UInt8),(((AV.str l)=(AV.str s_35)) ∧
 (∃n_36:Int,(((AV.int .i64 (Nat.cast (List.length s_35):Int))=(AV.int .i64 n_36)) ∧
 (∃n_37:Int,(((AV.int .i64 (IntKind.wrap .i64 (n_36-n_31)))=(AV.int .i64 n_37)) ∧
 (∃s_38:(List UInt8),(((AV.str l)=(AV.str s_38)) ∧
 (∃n_39:Int,(((AV.int .i64 (Nat.cast (List.length s_38):Int))=(AV.int .i64 n_39)) ∧
 (∃n_40:Int,(((AV.int .i64 (IntKind.wrap .i64 (n_39-(1:Int))))=(AV.int .i64 n_40)) ∧
 (bif ((((decide ((0:Int)≤n_37))&&(decide ((0:Int)≤n_40)))&&(Nat.ble (Int.toNat n_37) (Int.toNat n_40)))&&(Nat.ble (Int.toNat n_40) (List.length s_34))) then (∃s_41:(List UInt8),(((AV.str (List.take ((Int.toNat n_40)-(Int.toNat n_37)) (List.drop (Int.toNat n_37) s_34)))=(AV.str s_41)) ∧
 (bif (Nat.ble (List.length s_41) (1000000:Nat)) then (∃s_42:(List UInt8),(((AV.str (mR s_41))=(AV.str s_42)) ∧
 (bif (!(eqB s_42 [])) then (Q (Out.ret (AV.tup ((AV.agg aU)::((AV.int .i64 (5:Int))::[])))) [] (Gh.mk (0:Nat) (0:Nat) []))
else (∃s_43:(List UInt8),(((AV.str l)=(AV.str s_43)) ∧
 (∃s_44:(List UInt8),(((AV.str l)=(AV.str s_44)) ∧
 (∃n_45:Int,(((AV.int .i64 (Nat.cast (List.length s_44):Int))=(AV.int .i64 n_45)) ∧
 (∃n_46:Int,(((AV.int .i64 (IntKind.wrap .i64 (n_45-n_31)))=(AV.int .i64 n_46)) ∧
 (bif (((decide ((0:Int)≤n_46))&&true)&&(Nat.ble (Int.toNat n_46) (List.length s_43))) then (∃s_47:(List UInt8),(((AV.str (List.take ((Int.toNat n_46)-(0:Nat)) (List.drop (0:Nat) s_43)))=(AV.str s_47)) ∧
 (bif bad then (Q (Out.ret (AV.tup ((AV.agg aU)::((AV.int .i64 (5:Int))::[])))) [] (Gh.mk (0:Nat) (0:Nat) []))
else (∃n_48:Int,(((AV.int .i64 (Int.fdiv fl (64:Int)))=(AV.int .i64 n_48)) ∧
 (bif (n_48 !=(2:Int)) then (Q (Out.ret (AV.tup ((AV.agg aU)::((AV.int .i64 (5:Int))::[])))) [] (Gh.mk (0:Nat) (0:Nat) []))
else (∃s_49:(List UInt8),(((AV.str s_47)=(AV.str s_49)) ∧
 (F true n_22 n_31 s_47 s_49)))))))))
else False))))))))))))
else False)))
else False)))))))))))))))))))))))))
else False)))))))))
else (Q (Out.ret (AV.tup ((AV.agg aU)::((AV.int .i64 (5:Int))::[])))) [] (Gh.mk (0:Nat) (0:Nat) [])))))))
else (bif bad then (Q (Out.ret (AV.tup ((AV.agg aU)::((AV.int .i64 (5:Int))::[])))) [] (Gh.mk (0:Nat) (0:Nat) []))
else (∃n_24:Int,(((AV.int .i64 (Int.fdiv fl (64:Int)))=(AV.int .i64 n_24)) ∧
 (bif (n_24 !=(2:Int)) then (Q (Out.ret (AV.tup ((AV.agg aU)::((AV.int .i64 (5:Int))::[])))) [] (Gh.mk (0:Nat) (0:Nat) []))
else (∃s_25:(List UInt8),(((AV.str l)=(AV.str s_25)) ∧
 (F true n_22 (0:Int) l s_25))))))))))))
else (∃n_22:Int,(((AV.int .i64 (IntKind.wrap .i64 (Nat.cast ((Int.toNat (kd%(18446744073709551616:Int))) &&& (127:Nat)):Int)))=(AV.int .i64 n_22)) ∧
 (∃n_23:Int,(((AV.int .i64 (IntKind.wrap .i64 (Nat.cast ((Int.toNat (fl%(18446744073709551616:Int))) &&& (32:Nat)):Int)))=(AV.int .i64 n_23)) ∧
 (bif (n_23 !=(0:Int)) then (∃s_24:(List UInt8),(((AV.str l)=(AV.str s_24)) ∧
 (∃n_25:Int,(((AV.int .i64 (Nat.cast (List.length s_24):Int))=(AV.int .i64 n_25)) ∧
 (bif (decide (n_25>(0:Int))) then (∃s_26:(List UInt8),(((AV.str l)=(AV.str s_26)) ∧
 (∃s_27:(List UInt8),(((AV.str l)=(AV.str s_27)) ∧
 (∃n_28:Int,(((AV.int .i64 (Nat.cast (List.length s_27):Int))=(AV.int .i64 n_28)) ∧
 (∃n_29:Int,(((AV.int .i64 (IntKind.wrap .i64 (n_28-(1:Int))))=(AV.int .i64 n_29)) ∧
 (bif ((decide ((0:Int)≤n_29))&&(Nat.blt (Int.toNat n_29) (List.length s_26))) then (∃n_30:Int,(((AV.int .u8 (Nat.cast (UInt8.toNat (List.getD s_26 (Int.toNat n_29) (UInt8.ofNat (0:Nat)))):Int))=(AV.int .u8 n_30)) ∧
 (∃n_31:Int,(((AV.int .i64 (IntKind.wrap .i64 n_30))=(AV.int .i64 n_31)) ∧
 (bif (n_31==(0:Int)) then (Q (Out.ret (AV.tup ((AV.agg aU)::((AV.int .i64 (5:Int))::[])))) [] (Gh.mk (0:Nat) (0:Nat) []))
else (∃s_32:(List UInt8),(((AV.str l)=(AV.str s_32)) ∧
 (∃n_33:Int,(((AV.int .i64 (Nat.cast (List.length s_32):Int))=(AV.int .i64 n_33)) ∧
 (bif (decide (n_31>n_33)) then (Q (Out.ret (AV.tup ((AV.agg aU)::((AV.int .i64 (5:Int))::[])))) [] (Gh.mk (0:Nat) (0:Nat) []))
else (∃s_34:(List UInt8),(((AV.str l)=(AV.str s_34)) ∧
 (∃s_35:(List UInt8),(((AV.str l)=(AV.str s_35)) ∧
 (∃n_36:Int,(((AV.int .i64 (Nat.cast (List.length s_35):Int))=(AV.int .i64 n_36)) ∧
 (∃n_37:Int,(((AV.int .i64 (IntKind.wrap .i64 (n_36-n_31)))=(AV.int .i64 n_37)) ∧
 (∃s_38:(List UInt8),(((AV.str l)=(AV.str s_38)) ∧
 (∃n_39:Int,(((AV.int .i64 (Nat.cast (List.length s_38):Int))=(AV.int .i64 n_39)) ∧
 (∃n_40:Int,(((AV.int .i64 (IntKind.wrap .i64 (n_39-(1:Int))))=(AV.int .i64 n_40)) ∧
 (bif ((((decide ((0:Int)≤n_37))&&(decide ((0:Int)≤n_40)))&&(Nat.ble (Int.toNat n_37) (Int.toNat n_40)))&&(Nat.ble (Int.toNat n_40) (List.length s_34))) then (∃s_41:(List UInt8),(((AV.str (List.take ((Int.toNat n_40)-(Int.toNat n_37)) (List.drop (Int.toNat n_37) s_34)))=(AV.str s_41)) ∧
 (bif (Nat.ble (List.length s_41) (1000000:Nat)) then (∃s_42:(List UInt8),(((AV.str (mR s_41))=(AV.str s_42)) ∧
 (bif (!(eqB s_42 [])) then (Q (Out.ret (AV.tup ((AV.agg aU)::((AV.int .i64 (5:Int))::[])))) [] (Gh.mk (0:Nat) (0:Nat) []))
else (∃s_43:(List UInt8),(((AV.str l)=(AV.str s_43)) ∧
 (∃s_44:(List UInt8),(((AV.str l)=(AV.str s_44)) ∧
 (∃n_45:Int,(((AV.int .i64 (Nat.cast (List.length s_44):Int))=(AV.int .i64 n_45)) ∧
 (∃n_46:Int,(((AV.int .i64 (IntKind.wrap .i64 (n_45-n_31)))=(AV.int .i64 n_46)) ∧
 (bif (((decide ((0:Int)≤n_46))&&true)&&(Nat.ble (Int.toNat n_46) (List.length s_43))) then (∃s_47:(List UInt8),(((AV.str (List.take ((Int.toNat n_46)-(0:Nat)) (List.drop (0:Nat) s_43)))=(AV.str s_47)) ∧
 (bif bad then (Q (Out.ret (AV.tup ((AV.agg aU)::((AV.int .i64 (5:Int))::[])))) [] (Gh.mk (0:Nat) (0:Nat) []))
else (∃n_48:Int,(((AV.int .i64 (Int.fdiv fl (64:Int)))=(AV.int .i64 n_48)) ∧
 (bif (n_48 !=(2:Int)) then (Q (Out.ret (AV.tup ((AV.agg aU)::((AV.int .i64 (5:Int))::[])))) [] (Gh.mk (0:Nat) (0:Nat) []))
else (∃s_49:(List UInt8),(((AV.str s_47)=(AV.str s_49)) ∧
 (F false n_22 n_31 s_47 s_49)))))))))
else False))))))))))))
else False)))
else False)))))))))))))))))))))))))
else False)))))))))
else (Q (Out.ret (AV.tup ((AV.agg aU)::((AV.int .i64 (5:Int))::[])))) [] (Gh.mk (0:Nat) (0:Nat) [])))))))
else (bif bad then (Q (Out.ret (AV.tup ((AV.agg aU)::((AV.int .i64 (5:Int))::[])))) [] (Gh.mk (0:Nat) (0:Nat) []))
else (∃n_24:Int,(((AV.int .i64 (Int.fdiv fl (64:Int)))=(AV.int .i64 n_24)) ∧
 (bif (n_24 !=(2:Int)) then (Q (Out.ret (AV.tup ((AV.agg aU)::((AV.int .i64 (5:Int))::[])))) [] (Gh.mk (0:Nat) (0:Nat) []))
else (∃s_25:(List UInt8),(((AV.str l)=(AV.str s_25)) ∧
 (F false n_22 (0:Int) l s_25))))))))))))))))
abbrev aN5:Prop:=aU=aU
def aDn:Prop:=
aN5∧False
def bJf (c sh:Bool) (fl kd:Int) (l:List UInt8) (F0:Bool→Int→Int→List UInt8→List UInt8→Prop) (F1:List Xt→Bool→Bool→Int→Int→List UInt8→List UInt8→Prop) (F2:List Xt→Bool→Xt→Bool→Int→Int→List
 UInt8→List UInt8→Prop) (Q:Out→List Blk→Gh→Prop):Prop:=
exW .i64 (((fl%18446744073709551616).toNat &&& 16:Nat):Int) fun n_8=>bif n_8 !=0 then ckQ c (exI .i64 (aR l 2) fun n_9=>ckQ c (exI .i64 (aR (aG l 2) 2) fun n_10=>exW .i64 (4*n_10) fun n_11=>exS (.str (aG
 (aG l 2) 2)) fun s_12=>exI .i64 (s_12.length:Int) fun n_13=>bif decide (n_11>n_13) then Q (.ret (.tup [.agg aU,.int .i64 7])) [] {} else exS (.str (aG (aG l 2) 2)) fun s_14=>ckQ (decide (0≤n_11)&&true &&
 Nat.ble n_11.toNat s_14.length) (exS (.str ((s_14.drop 0).take (n_11.toNat-0))) fun s_15=>ckQ (Nat.ble s_15.length 1000000) (ckQ c (∀ex_16:List Xt,∀bad_17:Bool,Lf (lF n_9 s_15=Prod.mk ex_16 bad_17)→(Lf (ex_16=[])→exS
 (.str (aG (aG l 2) 2)) fun s_18=>ckQ (decide (0≤n_11)&&true&&Nat.ble n_11.toNat s_18.length&&Nat.ble s_18.length s_18.length) (exS (.str ((s_18.drop n_11.toNat).take (s_18.length-n_11.toNat))) fun s_19=>aLb (bI
 (bI sh l 2) (aG l 2) 2) bad_17 fl kd s_19 (F1 ex_16 bad_17) Q))∧∀x_18:Xt,Lf (ex_16≠[])→exS (.str (aG (aG l 2) 2)) fun s_19=>ckQ (decide (0≤n_11)&&true&&Nat.ble n_11.toNat s_19.length&&Nat.ble s_19.length
 s_19.length) (exS (.str ((s_19.drop n_11.toNat).take (s_19.length-n_11.toNat))) fun s_20=>aLb (bI (bI sh l 2) (aG l 2) 2) bad_17 fl kd s_20 (F2 ex_16 bad_17 x_18) Q)))))) else aLb sh false fl kd l F0 Q
abbrev bK0 (s:List UInt8):List UInt8:=aG (aG s 1) 1
abbrev bMd (s:List UInt8):List UInt8:=aG (aG (aG s 1) 1) 2
abbrev bIz (s:List UInt8):List UInt8:=aG (aG (aG (aG s 1) 1) 2) 4
abbrev vJ (s:List UInt8):List UInt8:=aG (bIz s) 4
abbrev bAx (s:List UInt8):Bool:=bI (bI (bI (bI (bI false s 1) (aG s 1) 1) (bK0 s) 2) (bMd s) 4) (bIz s) 4
abbrev bJi (n_2 n_6:Int):Prop:=aJ (AV.ptr 0 9 0)∧aJ (AV.ptr 2 1 0)∧aJ (AV.int .i64 n_2)∧aJ (AV.int .i64 n_6)∧aJ (AV.fn (Fn.func 90) [] [.ptr 2 1 0,.ptr 3 1 0])∧True
abbrev bEh (x_7:Nat) (n_6:Int):Prop:=Lf (1≤x_7∧x_7≤15∧(x_7:Int)≤n_6)
abbrev bAt (n_3 n_4 n_5:Int) (y_10:Nat) (s:List UInt8):List AV:=[.bool false,.int .i64 0,.int .i64 n_3,.int .i64 n_4,.int .i64 n_5,.sl 5 y_10 0 y_10 1,.nils,.int .i64 0,.str [],.str (eQ (vJ s) y_10),.bool false]
abbrev aJd (s:List UInt8) (y_10:Nat):Bool:=tJ (bAx s) (vJ s) y_10
abbrev aX0 (s:List UInt8):Int:=aR (eQ (vJ s) 0) 4
abbrev uW (s:List UInt8) (y_10:Nat):List AV:=aB (csM (vJ s) y_10)
abbrev bHs:Blk:=Blk.mk BK.exact false [.ptr 1 11 0]
abbrev zZ (x_7:Nat):AV:=.sl 5 x_7 0 x_7 1
abbrev bE3 (mk_:Bool) (ty_ n_3 n_4 n_5:Int) (x_7:Nat) (pad_:Int) (pl_:List UInt8):List AV:=[.bool mk_,.int .i64 ty_,.int .i64 n_3,.int .i64 n_4,.int .i64 n_5,zZ x_7,.nils,.int .i64 pad_,.str pl_]
abbrev bH8 (s:List UInt8):Blk:=Blk.mk BK.exact true [.int .i64 (aR (eQ (vJ s) 0) 4)]
abbrev bAv (s:List UInt8) (x_7:Nat):Blk:=Blk.mk BK.exact true [.bool (bI (bI (tJ (bAx s) (vJ s) x_7) (eQ (vJ s) x_7) 2) (aG (eQ (vJ s) x_7) 2) 2)]
theorem bBw (s:List UInt8) (Q:Out→List Blk→Gh→Prop):lT (bD [(143374,.int .i64),(143382,.int .i64),(143384,.int .i64),(143389,.int .i64),(143391,.int .i64),(143393,.int .i64),(143404,.int .i64),(143414,
 .int .i64),(143420,.int .i64),(143422,.int .i64),(143425,.int .i64),(143427,.int .i64),(143429,.int .i64),(143434,.str),(143435,.int .i64),(143441,.str),(143443,.str),(143450,.str),(143452,.str),(143460,.int .i64),
 (143463,.int .i64),(143471,.int .i64),(143477,.int .i64),(143487,.int .i64),(143488,.int .i64),(143489,.int .u8),(143490,.int .i64),(143499,.int .i64),(143511,.int .i64),(143513,.int .i64),(143518,.int .i64),(143519,
 .int .i64),(143520,.str),(143521,.str),(143536,.int .i64),(143538,.int .i64),(143539,.str),(143551,.int .i64),(143476,.str),(143482,.str),(143486,.str),(143498,.str),(143506,.str),(143510,.str),(143517,.str),
 (143531,.str),(143535,.str),(143559,.str)]) (bE []) s Q=(exI .i64 (s.length:Int) (fun n_0=>bif decide (n_0>1200) then Q (.ret (.tup [.agg aU,.int .i64 3])) [] {} else exI .i64 (aR s 1) (fun n_1=>exI .i64
 (aR (aG s 1) 1) (fun n_2=>exI .i64 (aR (bK0 s) 2) (fun n_3=>exI .i64 (aR (bMd s) 4) (fun n_4=>exI .i64 (aR (bIz s) 4) (fun n_5=>exW .i64 (((n_1%18446744073709551616).toNat &&& 15:Nat):Int) (fun n_6=>
 ((∃x_7:Nat,Lf (x_7=0)∧aN5∧aJ [AV.bool false,.int .i64 0,.int .i64 n_3,.int .i64 n_4,.int .i64 n_5,.nils,.nils,.int .i64 0,.str [],.str (vJ s),.bool false]∧aJ [AV.ptr 1 11 0]∧aJ [AV.bool (bAx s)]∧aJ
 (AV.int .i64 n_1)∧aJ (AV.ptr 3 1 0)∧AV.int .i64 0=AV.int .i64 (x_7:Int)∧bJi n_2 n_6)∨∃x_7:Nat,bEh x_7 n_6∧aDn)∧(∀x_7:Nat,Lf (x_7=0)→bif decide ((x_7:Int)<n_6) then exI .i64 (aR (vJ s) 4) (fun
 n_8=>exW .i64 ((x_7:Int)+1) (fun n_9=>(True∧(0:Nat)=(0:Nat))∧((∃y_10:Nat,Lf (y_10=0)∧(100:Nat)<(100:Nat)∧aDn)∨∃y_10:Nat,bEh y_10 n_6∧15-y_10<100∧aN5∧[AV.bool false,.int .i64 0,.int
 .i64 n_3,.int .i64 n_4,.int .i64 n_5,.sl 5 1 0 1 1,.nils,.int .i64 0,.str [],.str (aG (vJ s) 4),.bool false]=bAt n_3 n_4 n_5 y_10 s∧aJ [AV.ptr 1 11 0]∧[AV.bool (bI (bAx s) (vJ s) 4)]=[AV.bool (aJd s
 y_10)]∧[AV.int .i64 n_8]=[AV.int .i64 (aX0 s)]∧[AV.int .i64 n_8]=uW s y_10∧aJ (AV.int .i64 n_1)∧aJ (AV.ptr 3 1 0)∧AV.int .i64 n_9=AV.int .i64 (y_10:Int)∧bJi n_2 n_6))) else bJf true (bAx s) n_1 n_2 (vJ s)
 (fun (mk_:Bool)=>fun (ty_:Int)=>fun (pad_:Int)=>fun (le_:List UInt8)=>fun (pl_:List UInt8)=>Q (.ret (.tup [.agg [.bool mk_,.int .i64 ty_,.int .i64 n_3,.int .i64 n_4,.int .i64 n_5,.nils,.nils,.int .i64 pad_,.str
 pl_],.int .i64 0])) [] {}) (fun (ex_:List Xt)=>fun (bad_:Bool)=>fun (mk_:Bool)=>fun (ty_:Int)=>fun (pad_:Int)=>fun (le_:List UInt8)=>fun (pl_:List UInt8)=>Q (.ret (.tup [.agg [.bool mk_,.int .i64 ty_,.int
 .i64 n_3,.int .i64 n_4,.int .i64 n_5,.nils,.nils,.int .i64 pad_,.str pl_],.int .i64 0])) [] {}) (fun (ex_:List Xt)=>fun (bad_:Bool)=>fun (x_:Xt)=>fun (mk_:Bool)=>fun (ty_:Int)=>fun (pad_:Int)=>fun (le_:List
 UInt8)=>fun (pl_:List UInt8)=>Q (.ret (.tup [.agg [.bool mk_,.int .i64 ty_,.int .i64 n_3,.int .i64 n_4,.int .i64 n_5,.nils,.sl 5 (2*ex_.length) 0 ex_.length 2,.int .i64 pad_,.str pl_],.int .i64 0])) [Blk.mk BK.exact false
 [.bool mk_,.int .i64 ty_,.int .i64 n_3,.int .i64 n_4,.int .i64 n_5,.nils,.sl 5 (2*ex_.length) 0 ex_.length 2,.int .i64 pad_,.str pl_],Blk.mk BK.exact false [.bool mk_,.int .i64 ty_,.int .i64 n_3,.int .i64 n_4,.int .i64 n_5,
 .nils,.sl 5 (2*ex_.length) 0 ex_.length 2,.int .i64 pad_,.str pl_,.str le_,.bool bad_],bHs,Blk.mk BK.exact true [.bool (bI (bI (bAx s) (vJ s) 2) (aG (vJ s) 2) 2)],Blk.mk BK.exact true (cellsXM [x_]),Blk.mk
 BK.grow true (cellsXM ex_)] {}) Q)∧∀x_7:Nat,bEh x_7 n_6→bif decide ((x_7:Int)<n_6) then ckQ (Nat.beq x_7 x_7&&iM (uW s x_7)) (ckQ (dI [zZ x_7] [zZ x_7]&&true) (exI .i64 (aR (eQ (vJ s) x_7) 4) (fun
 n_8=>ckQ (Nat.beq (uW s x_7).length x_7&&true&&Nat.beq (0+x_7*1) x_7&&Nat.ble (x_7+1) 1099511627776&&Nat.ble ((x_7+1)*8) 1099511627776) (exW .i64 ((x_7:Int)+1) (fun n_9=>(True∧(0:Nat)=(0:Nat))∧((∃
 y_10:Nat,Lf (y_10=0)∧100<15-x_7∧aDn)∨∃y_10:Nat,bEh y_10 n_6∧15-y_10<15-x_7∧aN5∧[AV.bool false,.int .i64 0,.int .i64 n_3,.int .i64 n_4,.int .i64 n_5,.sl 5 (x_7+1) 0 (x_7+1) 1,.nils,.int .i64
 0,.str [],.str (aG (eQ (vJ s) x_7) 4),.bool false]=bAt n_3 n_4 n_5 y_10 s∧aJ [AV.ptr 1 11 0]∧[AV.bool (bI (aJd s x_7) (eQ (vJ s) x_7) 4)]=[AV.bool (aJd s y_10)]∧aJ [AV.int .i64 (aX0 s)]∧uW s
 x_7++[AV.int .i64 n_8]=uW s y_10∧aJ (AV.int .i64 n_1)∧aJ (AV.ptr 3 1 0)∧AV.int .i64 n_9=AV.int .i64 (y_10:Int)∧bJi n_2 n_6)))))) else bJf (Nat.beq x_7 x_7&&iM (uW s x_7)) (aJd s x_7) n_1 n_2 (eQ (vJ
 s) x_7) (fun (mk_:Bool)=>fun (ty_:Int)=>fun (pad_:Int)=>fun (le_:List UInt8)=>fun (pl_:List UInt8)=>Q (.ret (.tup [.agg (bE3 mk_ ty_ n_3 n_4 n_5 x_7 pad_ pl_),.int .i64 0])) [Blk.mk BK.exact false (bE3 mk_ ty_ n_3
 n_4 n_5 x_7 pad_ pl_),Blk.mk BK.exact false [.bool mk_,.int .i64 ty_,.int .i64 n_3,.int .i64 n_4,.int .i64 n_5,zZ x_7,.nils,.int .i64 pad_,.str pl_,.str le_,.bool false],bHs,Blk.mk BK.exact true [.bool (aJd s x_7)],bH8
 s,Blk.mk BK.grow true (uW s x_7)] {}) (fun (ex_:List Xt)=>fun (bad_:Bool)=>fun (mk_:Bool)=>fun (ty_:Int)=>fun (pad_:Int)=>fun (le_:List UInt8)=>fun (pl_:List UInt8)=>Q (.ret (.tup [.agg (bE3 mk_ ty_ n_3 n_4
 n_5 x_7 pad_ pl_),.int .i64 0])) [Blk.mk BK.exact false (bE3 mk_ ty_ n_3 n_4 n_5 x_7 pad_ pl_),Blk.mk BK.exact false [.bool mk_,.int .i64 ty_,.int .i64 n_3,.int .i64 n_4,.int .i64 n_5,zZ x_7,.nils,.int .i64 pad_,.str pl_,
 .str le_,.bool bad_],bHs,bAv s x_7,bH8 s,Blk.mk BK.grow true (uW s x_7)] {}) (fun (ex_:List Xt)=>fun (bad_:Bool)=>fun (x_:Xt)=>fun (mk_:Bool)=>fun (ty_:Int)=>fun (pad_:Int)=>fun (le_:List UInt8)=>fun
 (pl_:List UInt8)=>Q (.ret (.tup [.agg [.bool mk_,.int .i64 ty_,.int .i64 n_3,.int .i64 n_4,.int .i64 n_5,zZ x_7,.sl 7 (2*ex_.length) 0 ex_.length 2,.int .i64 pad_,.str pl_],.int .i64 0])) [Blk.mk BK.exact false [.bool
 mk_,.int .i64 ty_,.int .i64 n_3,.int .i64 n_4,.int .i64 n_5,zZ x_7,.sl 7 (2*ex_.length) 0 ex_.length 2,.int .i64 pad_,.str pl_],Blk.mk BK.exact false [.bool mk_,.int .i64 ty_,.int .i64 n_3,.int .i64 n_4,.int .i64 n_5,
 zZ x_7,.sl 7 (2*ex_.length) 0 ex_.length 2,.int .i64 pad_,.str pl_,.str le_,.bool bad_],bHs,bAv s x_7,bH8 s,Blk.mk BK.grow true (uW s x_7),Blk.mk BK.exact true (cellsXM [x_]),Blk.mk BK.grow true (cellsXM ex_)] {})
 Q)))))))):=by kernel_rfl

theorem bFm:∀m:Nat,m<256→m &&& 15=m%16:=by decide
theorem aRw:∀m:Nat,m<256→m &&& 16=m/16%2*16:=by decide
theorem bMo:∀m:Nat,m<256→m &&& 32=m/32%2*32:=by decide
theorem bD2:∀m:Nat,m<256→m &&& 127=m%128:=by decide
theorem bEg:∀m:Nat,m<256→m &&& 128=m/128*128:=by decide
def fO (l:List UInt8):Nat:=if l.length=0 then 0 else (l.getD (l.length-1) (UInt8.ofNat 0)).toNat
def aDx (l:List UInt8):List UInt8:=(l.drop (l.length-fO l)).take (fO l-1)
def kR (sh bad:Bool) (fl:Int) (l:List UInt8):Int×Int×List UInt8:=
 if sh=true then (7,0,[])
 else if fl/32%2=1 then
  (if fO l=0∨l.length<fO l∨eqB (mR (aDx l)) []=false then (5,0,[])
  else if bad=true∨fl/64≠2 then (5,0,[]) else (0,fO l,l.take (l.length-fO l)))
 else if bad=true∨fl/64≠2 then (5,0,[]) else (0,0,l)
def bCx (e:Int):Out:=.ret (.tup [.agg [.bool false,.int .i64 0,.int .i64 0,.int .i64 0,.int .i64 0,.nils,.nils,.int .i64 0,.str []],.int .i64 e])
theorem aPe {sh bad:Bool} {fl kd:Int} {l:List UInt8} {F:Bool→Int→Int→List UInt8→List UInt8→Prop} {Q:Out→List Blk→Gh→Prop} (hf:0≤fl∧fl≤255) (hk:0≤kd∧kd≤255) (hl:l.length≤1300)
  (h7:(kR sh bad fl l).1=7→Q (bCx 7) [] {}) (h5:(kR sh bad fl l).1=5→Q (bCx 5) [] {})
  (h0:∀p y,kR sh bad fl l=(0,p,y)→∀le,F (decide (128≤kd)) (kd%128) p le y):aLb sh bad fl kd l F Q:=by
 unfold aLb
 refine dO (fun hs => ?_) (fun hs => ?_)
 ·exact h7 (by simp[kR,hs])
 obtain ⟨m,rfl⟩:=bPq hk.1
 obtain ⟨f,rfl⟩:=bPq hf.1
 have e1:Int.toNat ((m:Int)%18446744073709551616)=m:=by omega
 have e2:Int.toNat ((f:Int)%18446744073709551616)=f:=by omega
 have hp:fO l≤255:=by
  unfold fO
  split
  ·omega
  ·have:=(l.getD (l.length-1) (UInt8.ofNat 0)).toNat_lt
   omega
 have hE:∀ {g:Int},g=(f:Int)→(kR sh bad f l).1=5→Q (bCx 5) [] {}:=fun _ h=>h5 h
 have ht:∀a:Int,List.take (Int.toNat a-0) (List.drop 0 l)=l.take a.toNat:=fun a=>by rw[bOv,bQw]
 have hd:Int.fdiv (f:Int) 64=(f:Int)/64:=by rw[bP0 _ (by omega)]
 rw[e1,e2,bEg m (by omega),bD2 m (by omega),bMo f (by omega)]
 refine aI (by omega) (by omega) (bA (fun a => ?_) (fun a => ?_))
 all_goals
  first
   | (have hm:decide (128≤(m:Int))=true:=bO4 (by omega))
   | (have hm:decide (128≤(m:Int))=false:=bO0 (by omega))
  have hkd:((m%128:Nat):Int)=(m:Int)%128:=by omega
  rw[hm] at h0
  refine aI (by omega) (by omega) (aI (by omega) (by omega) (bA (fun b => ?_) (fun b => ?_)))
  ·have hb:(f:Int)/32%2=1:=by omega
   have hD:kR sh bad f l=if fO l=0∨l.length<fO l∨eqB (mR (aDx l)) []=false then (5,0,[]) else if bad=true∨(f:Int)/64≠2 then (5,0,[]) else (0,(fO l:Int),l.take (l.length-fO l)):=by rw[kR,if_neg (by simp[hs]),if_pos hb]
   refine ⟨l,rfl,_,rfl,aD (fun c => ?_) (fun c => ?_)⟩
   ·refine ⟨l,rfl,l,rfl,_,rfl,aI (by omega) (by omega) (ckI (by simp;omega) ⟨_,rfl, ?_⟩)⟩
    rw[show UInt8.toNat (List.getD l (Int.toNat ((l.length:Int)-1)) (UInt8.ofNat 0))=fO l by rw[fO,if_neg (by omega),show Int.toNat ((l.length:Int)-1)=l.length-1 by omega]]
    refine aI (by omega) (by omega) (aS (fun h => ?_) (fun h => ?_))
    ·exact h5 (by rw[hD,if_pos (.inl (by omega))])
    refine ⟨l,rfl,_,rfl,aD (fun h' => ?_) (fun h' => ?_)⟩
    ·exact h5 (by rw[hD,if_pos (.inr (.inl (by omega)))])
    refine ⟨l,rfl,l,rfl,_,rfl,aI (by omega) (by omega) ⟨l,rfl,_,rfl,aI (by omega) (by omega) (ckI (by simp;omega) ⟨aDx l, ?_,ckI (by rw[bOi,aDx,bOu];omega) ⟨_,rfl, ?_⟩⟩)⟩⟩
    ·rw[aDx,show Int.toNat ((l.length:Int)-1)-Int.toNat ((l.length:Int)-(fO l:Int))=fO l-1 by omega,show Int.toNat ((l.length:Int)-(fO l:Int))=l.length-fO l by omega]
    refine yI (dO (fun q => ?_) (fun q => ?_))
    ·refine ⟨l,rfl,l,rfl,_,rfl,aI (by omega) (by omega) (ckI (by simp;omega) ⟨l.take (l.length-fO l),by rw[ht,show Int.toNat ((l.length:Int)-(fO l:Int))=l.length-fO l by omega],dO (fun z => ?_) (fun z=>⟨_,rfl, ?_⟩)⟩)⟩
     ·exact h5 (by rw[hD,if_neg (by rw[q];simp;omega),if_pos (.inl z)])
     rw[hd]
     refine bA (fun y => ?_) (fun y => ?_)
     ·exact h5 (by rw[hD,if_neg (by rw[q];simp;omega),if_pos (.inr y)])
     ·refine ⟨_,rfl, ?_⟩
      rw[hkd]
      exact h0 _ _ (by rw[hD,if_neg (by rw[q];simp;omega),if_neg (by rw[z,y];simp)]) _
    ·exact h5 (by rw[hD,if_pos (.inr (.inr q))])
   ·exact h5 (by rw[hD,if_pos (.inl (by rw[fO,if_pos (by omega)]))])
  ·have hb:¬ ((f:Int)/32%2=1):=by omega
   have hD:kR sh bad f l=if bad=true∨(f:Int)/64≠2 then (5,0,[]) else (0,0,l):=by rw[kR,if_neg (by simp[hs]),if_neg hb]
   refine dO (fun z => ?_) (fun z=>⟨_,rfl, ?_⟩)
   ·exact h5 (by rw[hD,if_pos (.inl z)])
   rw[hd]
   refine bA (fun y => ?_) (fun y => ?_)
   ·exact h5 (by rw[hD,if_pos (.inr y)])
   ·refine ⟨_,rfl, ?_⟩
    rw[hkd]
    exact h0 _ _ (by rw[hD,if_neg (by rw[z,y];simp)]) _
theorem yG (a:List UInt8) (c:UInt8):bQ (a++[c])=bQ a*256+(c.toNat:Int):=by simp[bQ]
theorem wC (l:List UInt8):0≤bQ l∧bQ l<256^l.length:=by
 suffices ∀n,∀l:List UInt8,l.length=n→0≤bQ l∧bQ l<256^l.length from this _ l rfl
 intro n
 induction n with
 | zero=>intro l h;rw[bO8.1 h];simp[bQ]
 | succ n ih=>
  intro l h
  have hne:l≠[]:=by rintro rfl;simp at h
  rw[←bS6 hne,yG]
  have h1:l.dropLast.length=n:=by rw[List.length_dropLast];omega
  have h2:=ih _ h1
  have h3:=(l.getLast hne).toNat_lt
  rw[bN8,bR1,Int.pow_succ]
  omega
theorem yZ (l:List UInt8) (k:Nat):0≤aR l k∧aR l k<256^k:=by
 rw[aR,bOa]
 split
 ·exact ⟨by omega,Int.pow_pos (by omega)⟩
 ·have:=wC (l.take k)
  rw[bOu,bP1 (by omega)] at this
  exact this
theorem fC (l:List UInt8) (k:Int):(aG l k).length≤l.length:=by
 rw[aG]
 split
 ·simp
 ·simp
def jI (sh:Bool) (fl:Int) (l:List UInt8):List Xt×(Int×Int×List UInt8):=
 if fl/16%2=1 then
  (if ((aG (aG l 2) 2).length:Int)<4*aR (aG l 2) 2 then ([],(7,0,[]))
  else ((lF (aR l 2) ((aG (aG l 2) 2).take (4*aR (aG l 2) 2).toNat)).1,
   kR (bI (bI sh l 2) (aG l 2) 2) (lF (aR l 2) ((aG (aG l 2) 2).take (4*aR (aG l 2) 2).toNat)).2 fl ((aG (aG l 2) 2).drop (4*aR (aG l 2) 2).toNat)))
 else ([],kR sh false fl l)
theorem aP3 {c sh:Bool} (hc:c=true) {fl kd:Int} {l:List UInt8} {F0:Bool→Int→Int→List UInt8→List UInt8→Prop} {F1:List Xt→Bool→Bool→Int→Int→List UInt8→List UInt8→Prop} {F2:List Xt→Bool→Xt→Bool→Int→Int→List UInt8→List UInt8→Prop} {Q:Out→List Blk→Gh→Prop}
  (hf:0≤fl∧fl≤255) (hk:0≤kd∧kd≤255) (hl:l.length≤1300) (h7:(jI sh fl l).2.1=7→Q (bCx 7) [] {}) (h5:(jI sh fl l).2.1=5→Q (bCx 5) [] {})
  (h0:∀p y,jI sh fl l=([],0,p,y)→∀le,F0 (decide (128≤kd)) (kd%128) p le y)
  (h1:∀bad p y,jI sh fl l=([],0,p,y)→∀le,F1 [] bad (decide (128≤kd)) (kd%128) p le y)
  (h2:∀ex bad x p y,ex≠[]→jI sh fl l=(ex,0,p,y)→∀le,F2 ex bad x (decide (128≤kd)) (kd%128) p le y):bJf c sh fl kd l F0 F1 F2 Q:=by
 unfold bJf
 obtain ⟨f,rfl⟩:=bPq hf.1
 have e2:Int.toNat ((f:Int)%18446744073709551616)=f:=by omega
 rw[e2,aRw f (by omega)]
 refine aI (by omega) (by omega) (bA (fun a => ?_) (fun a => ?_))
 ·have ha:(f:Int)/16%2=1:=by omega
  have b1:0≤aR (aG l 2) 2∧aR (aG l 2) 2<65536:=yZ (aG l 2) 2
  have b2:(aG (aG l 2) 2).length≤1300:=bO6 (fC _ _) (bO6 (fC _ _) hl)
  refine ckI hc ⟨_,rfl,ckI hc ⟨_,rfl,aI (by omega) (by omega) ⟨_,rfl,_,rfl,aD (fun h => ?_) (fun h => ?_)⟩⟩⟩
  ·exact h7 (by rw[jI,if_pos ha,if_pos (by omega)])
  have hX:jI sh f l=((lF (aR l 2) ((aG (aG l 2) 2).take (4*aR (aG l 2) 2).toNat)).1,
   kR (bI (bI sh l 2) (aG l 2) 2) (lF (aR l 2) ((aG (aG l 2) 2).take (4*aR (aG l 2) 2).toNat)).2 f ((aG (aG l 2) 2).drop (4*aR (aG l 2) 2).toNat)):=by rw[jI,if_pos ha,if_neg (by omega)]
  generalize aG (aG l 2) 2=r at *
  generalize hn:4*aR (aG l 2) 2=n at *
  have hd:r.drop n.toNat=(r.drop n.toNat).take (r.length-n.toNat):=by rw[bOk (by simp)]
  have hdl:(r.drop n.toNat).length≤1300:=by rw[bO7];omega
  refine ⟨_,rfl,ckI (by simp;omega) ⟨_,rfl,ckI (by rw[bOi,bOu];omega) (ckI hc fun ex bad he=>⟨fun hx => ?_,fun x hx => ?_⟩)⟩⟩
  all_goals
   obtain ⟨he⟩:=he
   obtain ⟨hx⟩:=hx
   simp only[bOv,bQw] at he
   rw[he] at hX
   refine ⟨_,rfl,ckI (by simp;omega) ⟨r.drop n.toNat,by rw[←hd], ?_⟩⟩
   refine aPe hf hk hdl (fun q=>h7 (by rw[hX];exact q)) (fun q=>h5 (by rw[hX];exact q)) (fun p y q le => ?_)
   rw[q] at hX
  ·subst hx
   exact h1 _ _ _ hX _
  ·exact h2 _ _ _ _ _ hx hX _
 ·have hX:jI sh f l=([],kR sh false f l):=by rw[jI,if_neg (by omega)]
  refine aPe hf hk hl (fun q=>h7 (by rw[hX];exact q)) (fun q=>h5 (by rw[hX];exact q)) (fun p y q le=>h0 _ _ (by rw[hX,q]) _)
def okC (H:List Blk) (a:AV) (cs:List Int):Prop:=nlV 1 (bW 0 H 8 a)=.lst 0 (aB cs) cs.length 1
def okE (H:List Blk) (a:AV) (ex:List Xt):Prop:=nlV 2 (bW 0 H 8 a)=.lst 0 (cellsXM ex) ex.length 2
theorem bF2 {H:List Blk} {id tot len:Nat} {k:BK} {lf:Bool} {c:List AV} {cs:List Int} (hb:H[id]? = some ⟨k,lf,c⟩) (e1:c=aB cs) (e2:tot=cs.length) (e3:len=cs.length) (hk:k≠.ro):okC H (.sl id tot 0 len 1) cs:=by
 subst e1 e2 e3
 rw[okC,frz_sl hb (dY _) (bQ1 _) hk (aR2 _)]
 rfl
theorem aVi {H:List Blk} {id tot len:Nat} {k:BK} {lf:Bool} {c:List AV} {ex:List Xt} (hb:H[id]? = some ⟨k,lf,c⟩) (e1:c=cellsXM ex) (e2:tot=2*ex.length) (e3:len=ex.length) (hk:k≠.ro):okE H (.sl id tot 0 len 2) ex:=by
 subst e1 e2 e3
 rw[okE,frz_sl hb (aW _) (bSl _ _) hk (plain_cX _)]
 rfl
abbrev DecT:=Bool×Int×Int×Int×Int×List Int×List Xt×Int×List UInt8×Int
def bNf (e:Int):DecT:=(false,0,0,0,0,[],[],0,[],e)
def l5M (s:List UInt8):List UInt8:=aG (aG (aG (aG (aG s 1) 1) 2) 4) 4
def s5M (s:List UInt8):Bool:=bI (bI (bI (bI (bI false s 1) (aG s 1) 1) (aG (aG s 1) 1) 2) (aG (aG (aG s 1) 1) 2) 4) (aG (aG (aG (aG s 1) 1) 2) 4) 4
def aK7 (s:List UInt8) (n:Nat) (x:List Xt×Int×Int×List UInt8):DecT:=
 if x.2.1=0 then (decide (128≤aR (aG s 1) 1),aR (aG s 1) 1%128,aR (aG (aG s 1) 1) 2,aR (aG (aG (aG s 1) 1) 2) 4,aR (aG (aG (aG (aG s 1) 1) 2) 4) 4,csM (l5M s) n,x.1,x.2.2.1,x.2.2.2,0)
 else bNf x.2.1
def decM (s:List UInt8):DecT:=
 if 1200<s.length then bNf 3
 else aK7 s (aR s 1%16).toNat (jI (tJ (s5M s) (l5M s) (aR s 1%16).toNat) (aR s 1) (eQ (l5M s) (aR s 1%16).toNat))
def bL5 (s:List UInt8) (Q:Out→List Blk→Gh→Prop):Prop:=
 ∀ (mk:Bool) (ty sq ti ss:Int) (a b:AV) (cs:List Int) (ex:List Xt) (p:Int) (y:List UInt8) (e:Int) (H:List Blk),okC H a cs→okE H b ex→decM s=(mk,ty,sq,ti,ss,cs,ex,p,y,e)→Q (.ret (.tup [.agg [.bool mk,.int .i64 ty,.int .i64 sq,.int .i64 ti,.int .i64 ss,a,b,.int .i64 p,.str y],.int .i64 e])) H {}
theorem aH1 (l:List UInt8):∀i,(csM l i).length=i
 | 0=>rfl
 | i+1=>by simp[csM,aH1 l i]
theorem aGr (l:List UInt8):∀i,(eQ l i).length≤l.length
 | 0=>bOt _
 | i+1=>bO6 (fC _ _) (aGr l i)
theorem aH9 (s:List UInt8) (hs:s.length≤9223372036854775807) (Q:Out→List Blk→Gh→Prop) (hq:bL5 s Q):∃hv hb,lT hv hb s Q:=by
 obtain ⟨hv,hb',e⟩:∃hv hb,lT hv hb s Q=_:=⟨_,_,bBw s Q⟩
 refine ⟨hv,hb',e.mpr ?_⟩
 delta bK0 bMd bIz aN5 vJ bAx bJi bEh bAt aJd aX0 uW bHs zZ bE3 bH8 bAv
 clear e
 have zc:okC [] .nils []:=rfl
 have ze:okE [] .nils []:=rfl
 have zE:∀H,okE H .nils []:=fun _=>rfl
 refine ⟨_,rfl,aD (fun h => ?_) (fun h => ?_)⟩
 ·exact hq _ _ _ _ _ _ _ _ _ _ _ _ _ zc ze (by rw[decM,if_pos (by omega)];rfl)
 have hlen:s.length≤1200:=by omega
 have b1:0≤aR s 1∧aR s 1<256:=yZ s 1
 have b2:0≤aR (aG s 1) 1∧aR (aG s 1) 1<256:=yZ (aG s 1) 1
 have hl5:(l5M s).length≤1200:=bO6 (fC _ _) (bO6 (fC _ _) (bO6 (fC _ _) (bO6 (fC _ _) (bO6 (fC _ _) hlen))))
 have hD:decM s=aK7 s (aR s 1%16).toNat (jI (tJ (s5M s) (l5M s) (aR s 1%16).toNat) (aR s 1) (eQ (l5M s) (aR s 1%16).toNat)):=by rw[decM,if_neg (by omega)]
 refine ⟨_,rfl,_,rfl,_,rfl,_,rfl,_,rfl, ?_⟩
 have hg:∀n:Nat,n=(aR s 1%16).toNat→∀ (e:Int),(jI (tJ (s5M s) (l5M s) n) (aR s 1) (eQ (l5M s) n)).2.1=e→e≠0→Q (bCx e) [] {}:=fun n hn e he h0=>by
  subst hn
  exact hq _ _ _ _ _ _ _ _ _ _ _ _ _ zc ze (by rw[hD,aK7,he,if_neg h0];rfl)
 have hok:∀n:Nat,n=(aR s 1%16).toNat→∀ {a b:AV} {H:List Blk} {ex:List Xt} {p:Int} {y:List UInt8},okC H a (csM (l5M s) n)→okE H b ex→jI (tJ (s5M s) (l5M s) n) (aR s 1) (eQ (l5M s) n)=(ex,0,p,y) →
   Q (.ret (.tup [.agg [.bool (decide (128≤aR (aG s 1) 1)),.int .i64 (aR (aG s 1) 1%128),.int .i64 (aR (aG (aG s 1) 1) 2),.int .i64 (aR (aG (aG (aG s 1) 1) 2) 4),.int .i64 (aR (aG (aG (aG (aG s 1) 1) 2) 4) 4),a,b,.int .i64 p,.str y],.int .i64 0])) H {}:=fun n hn {a b H ex p y} h1 h2 h3=>by
  subst hn
  exact hq _ _ _ _ _ _ _ _ _ _ _ _ _ h1 h2 (by rw[hD,h3,aK7,if_pos rfl])
 change ∃n_6:Int,_
 have e5:aG (aG (aG (aG (aG s 1) 1) 2) 4) 4=l5M s:=rfl
 have e6:bI (bI (bI (bI (bI false s 1) (aG s 1) 1) (aG (aG s 1) 1) 2) (aG (aG (aG s 1) 1) 2) 4) (aG (aG (aG (aG s 1) 1) 2) 4) 4=s5M s:=rfl
 rw[e6,e5]
 generalize aR (aG (aG s 1) 1) 2=sq at *
 generalize aR (aG (aG (aG s 1) 1) 2) 4=ti at *
 generalize aR (aG (aG (aG (aG s 1) 1) 2) 4) 4=ss at *
 generalize aR (aG s 1) 1=kd at *
 clear hD hq e5 e6
 generalize aR s 1=fl at *
 generalize l5M s=l at *
 generalize s5M s=sh at *
 obtain ⟨f,rfl⟩:=bPq b1.1
 rw[show Int.toNat ((f:Int)%18446744073709551616)=f by omega,bFm f (by omega)]
 have hf:(0:Int)≤(f:Int)∧(f:Int)≤255:=by omega
 have hk:0≤kd∧kd≤255:=by omega
 refine aI (by omega) (by omega) ⟨.inl ⟨0,⟨rfl⟩,rfl,rfl,rfl,rfl,rfl,rfl,rfl,rfl,rfl,rfl,rfl,rfl,trivial⟩, ?_, ?_⟩
 ·rintro _ ⟨rfl⟩
  refine aD (fun hlt => ?_) (fun hge => ?_)
  ·exact ⟨_,rfl,aI (by omega) (by omega) ⟨⟨trivial,rfl⟩,.inr ⟨1,⟨by omega,by omega,by omega⟩,by omega,rfl,rfl,rfl,rfl,rfl,rfl,rfl,rfl,rfl,rfl,rfl,rfl,rfl,rfl,trivial⟩⟩⟩
  ·have h0:0=((f:Int)%16).toNat:=by omega
   exact aP3 rfl hf hk (by omega) (fun q=>hg 0 h0 7 q (by omega)) (fun q=>hg 0 h0 5 q (by omega)) (fun p y q le=>hok 0 h0 rfl (zE _) q) (fun bad p y q le=>hok 0 h0 rfl (zE _) q) (fun ex bad x p y hx q le=>hok 0 h0 rfl (aVi rfl rfl rfl rfl (by simp)) q)
 ·rintro i ⟨h1,h2,h3⟩
  have hF:(Nat.beq i i&&iM (aB (csM l i)))=true:=by rw[jD];simp
  refine aD (fun hlt => ?_) (fun hge => ?_)
  ·exact ckI hF (ckI (by simp[dI,gZ]) ⟨_,rfl,ckI (by simp[dY,aH1];omega) (aI (by omega) (by omega) ⟨⟨trivial,rfl⟩,.inr ⟨i+1,⟨by omega,by omega,by omega⟩,by omega,rfl,rfl,rfl,rfl,rfl,by simp[aB,csM],rfl,rfl,rfl,rfl,rfl,rfl,rfl,rfl,trivial⟩⟩)⟩)
  ·have h0:i=((f:Int)%16).toNat:=by omega
   have hc:∀ {H:List Blk} {lf:Bool},H[5]? = some ⟨.grow,lf,aB (csM l i)⟩→okC H (.sl 5 i 0 i 1) (csM l i):=fun h=>bF2 h rfl (aH1 _ _).symm (aH1 _ _).symm (by simp)
   exact aP3 hF hf hk (bO6 (aGr _ _) (by omega)) (fun q=>hg i h0 7 q (by omega)) (fun q=>hg i h0 5 q (by omega)) (fun p y q le=>hok i h0 (hc rfl) (zE _) q) (fun bad p y q le=>hok i h0 (hc rfl) (zE _) q) (fun ex bad x p y hx q le=>hok i h0 (hc rfl) (aVi rfl rfl rfl rfl (by simp)) q)
mutual
theorem xY:∀a:AV,noY a=true→ren id a=a
 | .undef,_=>rfl
 | .opq _,_=>rfl
 | .bool _,_=>rfl
 | .int _ _,_=>rfl
 | .str _,_=>rfl
 | .nilp,_=>rfl
 | .ptr _ _ _,_=>rfl
 | .gptr _ _,_=>rfl
 | .nils,_=>rfl
 | .sl _ _ _ _ _,_=>rfl
 | .mpn,_=>rfl
 | .mp _,_=>rfl
 | .nilf,_=>rfl
 | .fn f x y,h=>by
  simp only[noY,bN9] at h
  simp only[ren,fE x h.1,fE y h.2]
 | .yld _,h=>by simp[noY] at h
 | .lst _ _ _ _,_=>rfl
 | .lptr _ _ _,_=>rfl
 | .nili,_=>rfl
 | .iface t v,h=>by
  simp only[noY] at h
  simp only[ren,xY v h]
 | .agg l,h=>by
  simp only[noY] at h
  simp only[ren,fE l h]
 | .tup l,h=>by
  simp only[noY] at h
  simp only[ren,fE l h]
theorem fE:∀l:List AV,bG l=true→lG id l=l
 | [],_=>rfl
 | a::l,h=>by
  simp only[bG,bN9] at h
  simp only[lG,xY a h.1,fE l h.2]
end
theorem aGw (n:Nat):sig id n n=id:=by
 funext j
 simp only[sig,id]
 split
 ·rfl
 ·omega
theorem aGm {P:Program} {gl:Nat→Option (List AV)} {f:FuncId} {c:List AV→List Blk→(Out→List Blk→Prop)→Prop} (he:Enters P f) (hgl:∀g cs,gl g=some cs→bG cs=true)
  (h:∀args H Q,c args H Q→aL H.length args=true∧bG args=true∧(∀b∈H,aL H.length b.cs=true∧bG b.cs=true∧(b.lf=true→aL 0 b.cs=true)∧b.k≠.ro)∧∃ (E:Env) (n:Nat),EnvFor P E∧E.gl=gl ∧
   aY E (wpx E n) f args H {} fun o H' _=>H.map (·.k)=(H'.map (·.k)).take H.length∧(∀b∈H',bG b.cs=true∧b.k≠.ro)∧(∃v,o=.ret v∧noY v=true)∧Q o H'):aF P gl f c:=by
 refine jE he hgl fun args H Q hc => ?_
 obtain ⟨h1,h2,h3,E,n,h4,h5,h6⟩:=h args H Q hc
 have hm:∀ {j:Nat} {b:Blk} {H:List Blk},H[j]? = some b→b∈H:=fun h=>bRi h
 refine ⟨E,n,id,args,H,_,h4,h5,(fE args h2).symm,h1,h2,⟨fun j b0 hj => ?_,fun j j' b0 _ _ _ h=>h,fun j b0 hj h=>absurd h (h3 b0 (hm hj)).2.2.2⟩,h6, ?_⟩
 ·obtain ⟨a1,a2,a3,a4⟩:=h3 b0 (hm hj)
  exact ⟨(bPa.1 hj).1,a1,a2,a3,b0,hj,(fE _ a2).symm,.inr rfl⟩
 ·rintro o H' g' ⟨k1,k2,⟨v,rfl,k3⟩,k4⟩
  have hlen:H.length≤H'.length:=by
   have:=congrArg List.length k1
   simp only[bT3,bOu] at this
   omega
  refine ⟨H',⟨hlen,fun j b0 hj hr=>absurd hr (h3 b0 (hm hj)).2.2.2,fun j b0 hj hr => ?_,fun j b0 _ hj=>(k2 b0 (hm hj)).2,by omega,fun i hi hn => ?_,fun j b hj _ => ?_⟩, ?_⟩
  ·have hj':=(bPa.1 hj).1
   have e:=congrArg (·[j]?) k1
   simp only[bRm,hj,bRy,bO9,if_pos hj'] at e
   rw[bOq (show j<H'.length by omega)] at e ⊢
   simp only[bRy,bOl] at e
   exact ⟨_,rfl,e.symm⟩
  ·obtain ⟨b,hb⟩:∃b,H[i]? = some b:=⟨_,bOq hi⟩
   exact absurd rfl (hn i b hb (h3 b (hm hb)).2.2.2)
  ·rw[aGw]
   have:aNl id b=b:=by simp only[aNl,fE _ (k2 b (hm hj)).1]
   rw[this]
   exact hj
  ·rw[aGw]
   simpa only [bFo,xY v k3] using k4
def bDn (l:List UInt8) (s:S):List (List LInv):=match s.tm.get 25 with
 | .int _ n=>[[{ α:=Nat,pre:=fun i=>Lf ((i:Int)≤n),st:=fun i=>⟨mkT [(0,s.tm.get 0),(1,.ptr 2 1 0),(5,.int .i64 (bQ (l.take i))),(24,s.tm.get 24),(25,.int .i64 n),(26,.int .i64 (i:Nat))],s.hp⟩,mu:=fun i=>n.toNat-i }]]
 | _=>[]
def pR (sq ti ss:Int) (cs:AV) (f1:Bool) (l:List UInt8) (sh:Bool) (tl:List Blk):List Blk:=⟨.exact,true,aU⟩::⟨.exact,f1,aQc sq ti ss cs l⟩::⟨.exact,false,[.ptr 1 11 0]⟩::⟨.exact,true,[.bool sh]⟩::tl
noncomputable def aF2 (hv:Nat→Option Pa) (hb:Nat→Option Bool) (l:List UInt8):Env := { e23 sm0 (fun i=>bif Nat.beq i 90000 then some (bDn l) else none) hv hb with hz:=fun k=>Nat.beq k 368664 }
noncomputable def xL (hv:Nat→Option Pa) (hb:Nat→Option Bool) (k:Nat) (sq ti ss:Int) (l:List UInt8) (sh:Bool) (Q:Out→List Blk→Gh→Prop):Prop:=
 aY (aF2 hv hb l) (wpx (aF2 hv hb l) 1000) 90 [.int .i64 (k:Nat),.ptr 2 1 0,.ptr 3 1 0] (pR sq ti ss .nils true l sh []) {} Q
abbrev bCm:Blk:=Blk.mk BK.exact true aU
abbrev bCq:Blk:=Blk.mk BK.exact false [.ptr 1 11 0]
abbrev aVh (n_2:Int) (l:List UInt8):Bool:=decide (0≤n_2)&&true&&Nat.ble n_2.toNat l.length
abbrev bJn (s_3:List UInt8):Bool:=Nat.beq s_3.length (ofBytes s_3).length&&Nat.beq (s_3.length*1) s_3.length&&aL 0 (ofBytes s_3)&&bG (ofBytes s_3)
abbrev bCy:Prop:=aJ [AV.bool false,.int .i64 0,.int .i64 0,.int .i64 0,.int .i64 0,.nils,.nils,.int .i64 0,.str []]
abbrev aXg (sq ti ss:Int) (l:List UInt8):Prop:=aJ [AV.bool false,.int .i64 0,.int .i64 sq,.int .i64 ti,.int .i64 ss,.nils,.nils,.int .i64 0,.str [],.str l,.bool false]
abbrev aH3:Prop:=aJ [AV.ptr 1 11 0]
abbrev bJh (k x_5:Nat) (l:List UInt8) (n_4:Int) (s_3:List UInt8):Prop:=aJ (AV.int .i64 (k:Int))∧aJ (AV.ptr 2 1 0)∧AV.int .i64 0=AV.int .i64 (bQ (l.take x_5))∧aJ (AV.int .i64 n_4)∧aJ (AV.lst 0 (ofBytes s_3) s_3.length 1)∧AV.int .i64 0=AV.int .i64 (x_5:Int)∧True
abbrev aIj (n_8:Int):Nat:=(n_8%18446744073709551616).toNat
abbrev aU4:Prop:=True∧(0:Nat)=(0:Nat)
abbrev bCv (k:Nat):AV:=.int .i64 (k:Int)
abbrev aUt (s_3:List UInt8):Prop:=aJ (AV.lst 0 (ofBytes s_3) s_3.length 1)
theorem bDa (k:Nat) (sq:Int) (ti:Int) (ss:Int) (l:List UInt8) (sh:Bool) (Q:Out→List Blk→Gh→Prop):xL (bD [(368652,.int .i64),(368653,.int .i64),(368662,.int .i64),(368663,.str),(368665,.int .i64),
 (368669,.int .u8),(368670,.int .i64),(368671,.int .i64),(368673,.int .i64),(368674,.int .i64),(368675,.int .i64),(368681,.int .i64),(368682,.str),(368685,.int .i64)]) (bE []) k sq ti ss l sh Q=(exI .i64 (l.length :
 Int) (fun n_0=>exI .i64 (k:Int) (fun n_1=>bif decide (n_0<n_1) then Q (.ret (.int .i64 0)) [bCm,Blk.mk BK.exact true [.bool false,.int .i64 0,.int .i64 sq,.int .i64 ti,.int .i64 ss,.nils,.nils,.int .i64 0,.str [],.str
 [],.bool false],bCq,Blk.mk BK.exact true [.bool true]] {} else exI .i64 (k:Int) (fun n_2=>ckQ (aVh n_2 l) (exS (.str ((l.drop 0).take (n_2.toNat-0))) (fun s_3=>ckQ (bJn s_3) (exI .i64 (s_3.length:Int) (fun n_4=>(∃x_5 :
 Nat,Lf ((x_5:Int)≤n_4)∧bCy∧aXg sq ti ss l∧aH3∧aJ [AV.bool sh]∧bJh k x_5 l n_4 s_3)∧∀x_5:Nat,Lf ((x_5:Int)≤n_4)→bif decide ((x_5:Int)<n_4) then ckQ (Nat.blt (x_5:Int).toNat s_3.length&&true) (ckQ
 (Nat.blt ((x_5:Int).toNat*1) (ofBytes s_3).length) (exV .u8 ((ofBytes s_3).getD ((x_5:Int).toNat*1) AV.undef) (fun n_6=>exI .i64 (bQ (l.take x_5)) (fun n_7=>exW .i64 (n_7*256) (fun n_8=>exW .i64 n_6 (fun n_9=>exW .i64
 ((aIj n_8 ||| aIj n_9:Nat):Int) (fun n_10=>exW .i64 ((x_5:Int)+1) (fun n_11=>aU4∧∃y_12:Nat,Lf ((y_12:Int)≤n_4)∧n_4.toNat-y_12<n_4.toNat-x_5∧bCy∧aXg sq ti ss l∧aH3∧aJ [AV.bool sh]∧aJ
 (bCv k)∧aJ (AV.ptr 2 1 0)∧AV.int .i64 n_10=AV.int .i64 (bQ (l.take y_12))∧aJ (AV.int .i64 n_4)∧aUt s_3∧AV.int .i64 n_11=bCv y_12∧True)))))))) else exI .i64 (k:Int) (fun n_6=>ckQ (aVh n_6 l&&Nat.ble l.length
 l.length) (exS (.str ((l.drop n_6.toNat).take (l.length-n_6.toNat))) (fun s_7=>exI .i64 (bQ (l.take x_5)) (fun n_8=>Q (.ret (.int .i64 n_8)) [bCm,Blk.mk BK.exact true [.bool false,.int .i64 0,.int .i64 sq,.int .i64 ti,.int
 .i64 ss,.nils,.nils,.int .i64 0,.str [],.str s_7,.bool false],bCq,Blk.mk BK.exact true [.bool sh]] {})))))))))))):=by kernel_rfl

noncomputable def zM (hv:Nat→Option Pa) (hb:Nat→Option Bool) (k:Nat) (sq ti ss:Int) (n:Nat) (l:List UInt8) (sh:Bool) (c4 c5:List AV) (Q:Out→List Blk→Gh→Prop):Prop:=
 aY (aF2 hv hb l) (wpx (aF2 hv hb l) 1000) 90 [.int .i64 (k:Nat),.ptr 2 1 0,.ptr 3 1 0] (pR sq ti ss (.sl 5 n 0 n 1) false l sh [⟨.exact,true,c4⟩,⟨.grow,true,c5⟩]) {} Q
abbrev bB6 (sq ti ss:Int) (n:Nat) (l:List UInt8):Prop:=aJ [AV.bool false,.int .i64 0,.int .i64 sq,.int .i64 ti,.int .i64 ss,.sl 5 n 0 n 1,.nils,.int .i64 0,.str [],.str l,.bool false]
theorem bFl (k:Nat) (sq:Int) (ti:Int) (ss:Int) (n:Nat) (l:List UInt8) (sh:Bool) (c4:List AV) (c5:List AV) (Q:Out→List Blk→Gh→Prop):zM (bD [(368652,.int .i64),(368653,.int .i64),(368662,.int
 .i64),(368663,.str),(368665,.int .i64),(368669,.int .u8),(368670,.int .i64),(368671,.int .i64),(368673,.int .i64),(368674,.int .i64),(368675,.int .i64),(368681,.int .i64),(368682,.str),(368685,.int .i64)]) (bE [])
 k sq ti ss n l sh c4 c5 Q=(exI .i64 (l.length:Int) (fun n_0=>exI .i64 (k:Int) (fun n_1=>bif decide (n_0<n_1) then Q (.ret (.int .i64 0)) [bCm,Blk.mk BK.exact false [.bool false,.int .i64 0,.int .i64 sq,.int .i64 ti,.int
 .i64 ss,.sl 5 n 0 n 1,.nils,.int .i64 0,.str [],.str [],.bool false],bCq,Blk.mk BK.exact true [.bool true],Blk.mk BK.exact true c4,Blk.mk BK.grow true c5] {} else exI .i64 (k:Int) (fun n_2=>ckQ (aVh n_2 l) (exS (.str
 ((l.drop 0).take (n_2.toNat-0))) (fun s_3=>ckQ (bJn s_3) (exI .i64 (s_3.length:Int) (fun n_4=>(∃x_5:Nat,Lf ((x_5:Int)≤n_4)∧bCy∧bB6 sq ti ss n l∧aH3∧aJ [AV.bool sh]∧c4=c4∧c5=c5∧bJh k x_5 l n_4 s_3)
 ∧ ∀x_5:Nat,Lf ((x_5:Int)≤n_4)→bif decide ((x_5:Int)<n_4) then ckQ (Nat.blt (x_5:Int).toNat s_3.length&&true) (ckQ (Nat.blt ((x_5:Int).toNat*1) (ofBytes s_3).length) (exV .u8 ((ofBytes s_3).getD ((x_5:Int).toNat*1)
 AV.undef) (fun n_6=>exI .i64 (bQ (l.take x_5)) (fun n_7=>exW .i64 (n_7*256) (fun n_8=>exW .i64 n_6 (fun n_9=>exW .i64 ((aIj n_8 ||| aIj n_9:Nat):Int) (fun n_10=>exW .i64 ((x_5:Int)+1) (fun n_11=>aU4∧∃y_12 :
 Nat,Lf ((y_12:Int)≤n_4)∧n_4.toNat-y_12<n_4.toNat-x_5∧bCy∧bB6 sq ti ss n l∧aH3∧aJ [AV.bool sh]∧c4=c4∧c5=c5∧aJ (bCv k)∧aJ (AV.ptr 2 1 0)∧AV.int .i64 n_10=AV.int .i64 (bQ (l.take y_12)) ∧
 aJ (AV.int .i64 n_4)∧aUt s_3∧AV.int .i64 n_11=bCv y_12∧True)))))))) else exI .i64 (k:Int) (fun n_6=>ckQ (aVh n_6 l&&Nat.ble l.length l.length) (exS (.str ((l.drop n_6.toNat).take (l.length-n_6.toNat))) (fun s_7=>exI
 .i64 (bQ (l.take x_5)) (fun n_8=>Q (.ret (.int .i64 n_8)) [bCm,Blk.mk BK.exact false [.bool false,.int .i64 0,.int .i64 sq,.int .i64 ti,.int .i64 ss,.sl 5 n 0 n 1,.nils,.int .i64 0,.str [],.str s_7,.bool false],bCq,
 Blk.mk BK.exact true [.bool sh],Blk.mk BK.exact true c4,Blk.mk BK.grow true c5] {})))))))))))):=by kernel_rfl

theorem wE {l:List UInt8} (h:l.length≤3):0≤bQ l∧bQ l<16777216:=by
 have:=wC l
 refine ⟨this.1,Int.lt_of_lt_of_le this.2 ?_⟩
 generalize l.length=n at *
 obtain rfl | rfl | rfl | rfl:n=0∨n=1∨n=2∨n=3:=by omega
 all_goals decide
theorem getB {s:List UInt8} {i j:Nat} (hi:i<s.length) (hj:j=i) {K:Int→Prop} (hk:K (s[i].toNat:Int)):∃n:Int,(ofBytes s).getD j AV.undef=AV.int .u8 n∧K n:=by
 subst hj
 exact ⟨_,by simp[ofBytes,hi],hk⟩
theorem or256 {a c:Nat} (h:c<256):(a*256) ||| c=a*256+c:=by
 have:=bR5 (i:=8) (b:=c) h a
 rw[bSl a 256]
 exact this.symm
theorem aHn {l:List UInt8} {i:Nat} (h:i<l.length):bQ (l.take (i+1))=bQ (l.take i)*256+(l[i].toNat:Int):=by
 rw[bP9,bOq h]
 exact yG _ _
theorem aQ2 (k:Nat) (sq ti ss:Int) (l:List UInt8) (sh:Bool) (Q:Out→List Blk→Gh→Prop) (hk:k≤4) (hq:Q (.ret (.int .i64 (aR l k))) (pR sq ti ss .nils true (aG l k) (bI sh l k) []) {}):∃hv hb,xL hv hb k sq ti ss l sh Q:=by
 obtain ⟨hv,hb',e⟩:∃hv hb,xL hv hb k sq ti ss l sh Q=_:=⟨_,_,bDa k sq ti ss l sh Q⟩
 refine ⟨hv,hb',e.mpr ?_⟩
 delta bCm bCq aVh bJn bCy aXg aH3 bJh aIj aU4 bCv aUt
 clear e
 rw[aR,aG,bI,bOa] at hq
 refine ⟨_,rfl,_,rfl,aD (fun h => ?_) (fun h => ?_)⟩
 ·rw[if_pos (by omega),if_pos (by omega),show (sh||decide (l.length<k))=true by rw[bO4 (by omega)];simp] at hq
  exact hq
 rw[if_neg (by omega),if_neg (by omega),show (sh||decide (l.length<k))=sh by rw[bO0 (by omega)];simp] at hq
 have hlk:(l.take k).length=k:=by rw[bOu];omega
 refine ⟨_,rfl,ckI (by simp;omega) ⟨l.take k,by rw[bOa,bQw,bOv],ckI (by simp[aH,aK,iA]) ⟨_,rfl,⟨0,⟨by omega⟩,rfl,rfl,rfl,rfl,rfl,rfl,rfl,rfl,rfl,rfl,trivial⟩, ?_⟩⟩⟩
 rw[hlk]
 rintro i ⟨hi⟩
 refine aD (fun hlt => ?_) (fun hge => ?_)
 ·have hi1:i<(l.take k).length:=by omega
  have hn:=wE (l:=l.take i) (by rw[bOu];omega)
  have hc:=(l.take k)[i].toNat_lt
  have hc':(l.take k)[i]=l[i]'(by omega):=bTm
  have hN:=aHn (l:=l) (i:=i) (by omega)
  refine ckI (by simp;omega) (ckI (by simp[aH];omega) (getB hi1 (by simp) ⟨_,rfl,aI (by omega) (by omega) (aI (by omega) (by omega) ?_)⟩))
  obtain ⟨a,ha⟩:=bPq hn.1
  rw[ha] at hn ⊢
  rw[show Int.toNat (((a:Nat):Int)*256%18446744073709551616)=a*256 by omega,show Int.toNat ((((l.take k)[i].toNat:Nat):Int)%18446744073709551616)=(l.take k)[i].toNat by omega,or256 (by omega)]
  refine aI (by omega) (by omega) (aI (by omega) (by omega) ⟨⟨trivial,rfl⟩,i+1,⟨by omega⟩,by omega,rfl,rfl,rfl,rfl,rfl,rfl,by rw[hN,ha,hc'];rfl,rfl,rfl,rfl,trivial⟩)
 ·have hik:i=k:=by omega
  subst hik
  refine ⟨_,rfl,ckI (by simp;omega) ⟨l.drop i,by rw[bOa,bOk (by simp)],_,rfl, ?_⟩⟩
  exact hq
theorem aUf (k:Nat) (sq ti ss:Int) (n:Nat) (l:List UInt8) (sh:Bool) (c4 c5:List AV) (Q:Out→List Blk→Gh→Prop) (hk:k≤4) (hq:Q (.ret (.int .i64 (aR l k))) (pR sq ti ss (.sl 5 n 0 n 1) false (aG l k) (bI sh l k) [⟨.exact,true,c4⟩,⟨.grow,true,c5⟩]) {}):∃hv hb,zM hv hb k sq ti ss n l sh c4 c5 Q:=by
 obtain ⟨hv,hb',e⟩:∃hv hb,zM hv hb k sq ti ss n l sh c4 c5 Q=_:=⟨_,_,bFl k sq ti ss n l sh c4 c5 Q⟩
 refine ⟨hv,hb',e.mpr ?_⟩
 delta bCm bCq aVh bJn bCy bB6 aH3 bJh aIj aU4 bCv aUt
 clear e
 rw[aR,aG,bI,bOa] at hq
 refine ⟨_,rfl,_,rfl,aD (fun h => ?_) (fun h => ?_)⟩
 ·rw[if_pos (by omega),if_pos (by omega),show (sh||decide (l.length<k))=true by rw[bO4 (by omega)];simp] at hq
  exact hq
 rw[if_neg (by omega),if_neg (by omega),show (sh||decide (l.length<k))=sh by rw[bO0 (by omega)];simp] at hq
 have hlk:(l.take k).length=k:=by rw[bOu];omega
 refine ⟨_,rfl,ckI (by simp;omega) ⟨l.take k,by rw[bOa,bQw,bOv],ckI (by simp[aH,aK,iA]) ⟨_,rfl,⟨0,⟨by omega⟩,rfl,rfl,rfl,rfl,rfl,rfl,rfl,rfl,rfl,rfl,rfl,rfl,trivial⟩, ?_⟩⟩⟩
 rw[hlk]
 rintro i ⟨hi⟩
 refine aD (fun hlt => ?_) (fun hge => ?_)
 ·have hi1:i<(l.take k).length:=by omega
  have hn:=wE (l:=l.take i) (by rw[bOu];omega)
  have hc:=(l.take k)[i].toNat_lt
  have hc':(l.take k)[i]=l[i]'(by omega):=bTm
  have hN:=aHn (l:=l) (i:=i) (by omega)
  refine ckI (by simp;omega) (ckI (by simp[aH];omega) (getB hi1 (by simp) ⟨_,rfl,aI (by omega) (by omega) (aI (by omega) (by omega) ?_)⟩))
  obtain ⟨a,ha⟩:=bPq hn.1
  rw[ha] at hn ⊢
  rw[show Int.toNat (((a:Nat):Int)*256%18446744073709551616)=a*256 by omega,show Int.toNat ((((l.take k)[i].toNat:Nat):Int)%18446744073709551616)=(l.take k)[i].toNat by omega,or256 (by omega)]
  refine aI (by omega) (by omega) (aI (by omega) (by omega) ⟨⟨trivial,rfl⟩,i+1,⟨by omega⟩,by omega,rfl,rfl,rfl,rfl,rfl,rfl,rfl,rfl,by rw[hN,ha,hc'];rfl,rfl,rfl,rfl,trivial⟩)
 ·have hik:i=k:=by omega
  subst hik
  refine ⟨_,rfl,ckI (by simp;omega) ⟨l.drop i,by rw[bOa,bOk (by simp)],_,rfl, ?_⟩⟩
  exact hq
theorem kM {c:List AV} (h:iM c=true):aL 0 c=true∧bG c=true:=by
 unfold iM at h
 simpa using h
theorem aPc (n:Nat):∀l,aL 0 l=true→aL n l=true:=fun l h=>bP (bPp n) l h
theorem aYk:aF Tryz.prog gl0 90 aX1:=by
 refine aGm (enters_of (by kernel_rfl)) aM fun args H Q hc => ?_
 unfold aX1 at hc
 split at hc
 ·rename_i k sq ti ss l sh
  cases hb:decide (0≤k)&&decide (k≤4)
  ·rw[hb] at hc;exact hc.elim
  ·rw[hb] at hc
   simp only[bN9,bOc] at hb
   obtain ⟨k,rfl⟩:=bPq hb.1
   obtain ⟨hv,hb',h⟩:=aQ2 k sq ti ss l sh (fun o H' _=>(pR sq ti ss .nils true l sh []).map (·.k)=(H'.map (·.k)).take 4∧(∀b∈H',bG b.cs=true∧b.k≠.ro)∧(∃v,o=.ret v∧noY v=true)∧Q o H') (by omega)
    ⟨rfl,by simp[pR,aQc,aU,bG,noY],⟨_,rfl,rfl⟩,hc⟩
   exact ⟨rfl,rfl,by simp[aL,old,bG,noY],_,1000,⟨dQ,dP,bY,bT⟩,rfl,h⟩
 ·rename_i k sq ti ss n n1 l sh c4 c5
  cases hb:decide (0≤k)&&decide (k≤4)&&Nat.beq n n1&&iM c5
  ·rw[hb] at hc;exact hc.elim
  ·rw[hb] at hc
   simp only[bN9,bOc,aN] at hb
   obtain ⟨⟨⟨hb1,hb2⟩,rfl⟩,hb4⟩:=hb
   obtain ⟨f1,f2⟩:=kM hb4
   obtain ⟨k,rfl⟩:=bPq hb1
   obtain ⟨hv,hb',h⟩:=aUf k sq ti ss n l sh [.int .i64 c4] c5 (fun o H' _=>(pR sq ti ss (.sl 5 n 0 n 1) false l sh [⟨.exact,true,[.int .i64 c4]⟩,⟨.grow,true,c5⟩]).map (·.k)=(H'.map (·.k)).take 6∧(∀b∈H',bG b.cs=true∧b.k≠.ro)∧(∃v,o=.ret v∧noY v=true)∧Q o H') (by omega)
    ⟨rfl,by simp[pR,aQc,aU,bG,noY,f2],⟨_,rfl,rfl⟩,hc⟩
   exact ⟨rfl,rfl,by simp[aL,old,bG,noY,f1,f2,aPc 6 c5 f1],_,1000,⟨dQ,dP,bY,bT⟩,rfl,h⟩
 ·exact hc.elim
def lD (s:List UInt8):List UInt8:=(s.reverse.dropWhile (· == 0)).reverse
def aCg (s:List UInt8):List UInt8:=s.dropWhile (· == 0)
def bDg (s:List UInt8):LInv where
 α:=List UInt8
 pre x:=Lf (lD x=lD s∧x.length≤s.length)
 st x:=⟨mkT [(0,.str x),(1,.int .u8 0)],[]⟩
 mu x:=x.length
def aKh (s:List UInt8):LInv where
 α:=List UInt8
 pre x:=Lf (aCg x=mR s∧x.length≤s.length)
 st x:=⟨mkT [(0,.str x),(1,.int .u8 0)],[]⟩
 mu x:=x.length
noncomputable def aVg (hv:Nat→Option Pa) (hb:Nat→Option Bool) (s:List UInt8):Env:=e23 sm0 (fun i=>bif Nat.beq i 136000 then some (fun _=>[[bDg s]]) else bif Nat.beq i 135000 then some (fun _=>[[aKh s]]) else none) hv hb
noncomputable def aEy (hv:Nat→Option Pa) (hb:Nat→Option Bool) (s:List UInt8) (Q:Out→List Blk→Gh→Prop):Prop:=
 aY (aVg hv hb s) (wpx (aVg hv hb s) 1000) 92 [.str s,.str [0]] [] {} Q
abbrev bCt (x_0 s:List UInt8):Prop:=Lf (aCg x_0=mR s∧x_0.length≤s.length)
abbrev bBa (s_3 y_4:List UInt8):Prop:=AV.str s_3=AV.str y_4∧aJ (AV.int .u8 0)∧True
def xK (s:List UInt8) (Q:Out→List Blk→Gh→Prop):Prop:=
∀x_0:List UInt8,bCt x_0 s→exI .i64 (x_0.length:Int) (fun n_1=>bif decide (n_1>0) then ckQ (Nat.blt 0 x_0.length) (exI .u8 (UInt8.toNat (x_0.getD 0 (UInt8.ofNat 0)):Int) (fun n_2=>bif n_2==0 then ckQ (Nat.ble 1 x_0.length&&Nat.ble x_0.length x_0.length) (exS (.str ((x_0.drop 1).take (x_0.length-1))) (fun s_3=>aU4∧∃y_4:List UInt8,bCt y_4 s∧y_4.length<x_0.length∧bBa s_3 y_4)) else Q (.ret (.str x_0)) [] {})) else Q (.ret (.str x_0)) [] {})
abbrev aR8 (x_0 s:List UInt8):Prop:=Lf (lD x_0=lD s∧x_0.length≤s.length)
theorem bJ0 (s:List UInt8) (Q:Out→List Blk→Gh→Prop):aEy (bD [(557062,.int .i64),(557067,.int .i64),(557068,.int .i64),(557069,.int .u8),(557075,.int .i64),(557076,.int .i64),(557077,.str),(552966,.int .i64),(552970,.int .u8),(552975,.str)]) (bE []) s Q=(bif eqB s [] then Q (.ret (.str s)) [] {} else (∃x_0:List UInt8,aR8 x_0 s∧bBa s x_0)∧∀x_0:List UInt8,aR8 x_0 s→exI .i64 (x_0.length:Int) (fun n_1=>bif decide (n_1>0) then exI .i64 (x_0.length:Int) (fun n_2=>exW .i64 (n_2-1) (fun n_3=>ckQ (decide (0≤n_3)&&Nat.blt n_3.toNat x_0.length) (exI .u8 (UInt8.toNat (x_0.getD n_3.toNat (UInt8.ofNat 0)):Int) (fun n_4=>bif n_4==0 then exI .i64 (x_0.length:Int) (fun n_5=>exW .i64 (n_5-1) (fun n_6=>ckQ (aVh n_6 x_0) (exS (.str ((x_0.drop 0).take (n_6.toNat-0))) (fun s_7=>aU4∧∃y_8:List UInt8,aR8 y_8 s∧y_8.length<x_0.length∧bBa s_7 y_8)))) else (∃x_5:List UInt8,bCt x_5 s∧bBa x_0 x_5)∧xK s Q)))) else (∃x_2:List UInt8,bCt x_2 s∧bBa x_0 x_2)∧xK s Q)):=by kernel_rfl

theorem aJr (a:List UInt8):lD (a++[0])=lD a:=by simp[lD]
theorem aIe (a:List UInt8) (c:UInt8) (h:c≠0):lD (a++[c])=a++[c]:=by simp[lD,h]
theorem aM0 (s:List UInt8):mR s=aCg (lD s):=rfl
theorem aE1 {x:List UInt8} (h:0<x.length):x=x.take (x.length-1)++[x.getD (x.length-1) 0]:=by
 conv=>lhs;rw[←bPe (x.length-1) x]
 congr 1
 rw[bP7 (by omega),List.drop_eq_nil_of_le (by omega)]
 simp[List.getD,bOq (show x.length-1<x.length by omega)]
theorem aTs (s:List UInt8) (hs:s.length≤1000000) (Q:Out→List Blk→Gh→Prop) (hq:Q (.ret (.str (mR s))) [] {}):∃hv hb,aEy hv hb s Q:=by
 obtain ⟨hv,hb',e⟩:∃hv hb,aEy hv hb s Q=_:=⟨_,_,bJ0 s Q⟩
 refine ⟨hv,hb',e.mpr ?_⟩
 delta aR8 bBa aVh aU4 bCt
 clear e
 have h1:xK s Q:=by
  unfold xK
  delta bBa bCt aU4
  rintro x ⟨hx,hl⟩
  refine ⟨_,rfl,aD (fun h => ?_) (fun h => ?_)⟩
  ·obtain ⟨c,r,rfl⟩:∃c r,x=c::r:=by
    cases x with
    | nil=>simp at h
    | cons c r=>exact ⟨c,r,rfl⟩
   refine ckI (by simp) ⟨_,rfl,aS (fun z => ?_) (fun z => ?_)⟩
   ·have z':c=0:=by
     simp only[bQu] at z
     exact bQ9.1 (by simpa using z)
    subst z'
    exact ckI (by simp) ⟨r,by simp,⟨trivial,rfl⟩,r,⟨hx,by simp at hl ⊢;omega⟩,by simp,rfl,rfl,trivial⟩
   ·have z':c≠0:=by
     rintro rfl
     simp at z
    rw[aCg,List.dropWhile_cons_of_neg (by simpa using z')] at hx
    rw[hx]
    exact hq
  ·have:x=[]:=bO8.1 (by omega)
   subst this
   rw[show aCg []=[] from rfl] at hx
   rw[hx]
   exact hq
 refine dO (fun h => ?_) (fun h => ?_)
 ·cases s with
  | nil=>exact hq
  | cons a l=>simp[eqB] at h
 refine ⟨⟨s,⟨rfl,bOt _⟩,rfl,rfl,trivial⟩, ?_⟩
 rintro x ⟨hx,hl⟩
 refine ⟨_,rfl,aD (fun h => ?_) (fun h => ?_)⟩
 ·have hn:0<x.length:=by omega
  have e1:Int.toNat ((x.length:Int)-1)=x.length-1:=by omega
  refine ⟨_,rfl,aI (by omega) (by omega) (ckI (by simp;omega) ⟨_,rfl, ?_⟩)⟩
  rw[e1]
  refine aS (fun z => ?_) (fun z => ?_)
  ·have z':x.getD (x.length-1) 0=0:=bQ9.1 (by simpa using z)
   refine ⟨_,rfl,aI (by omega) (by omega) (ckI (by simp;omega) ⟨x.take (x.length-1),by rw[e1,bOv,bQw],⟨trivial,rfl⟩,x.take (x.length-1),⟨?_,by rw[bOu];omega⟩,by rw[bOu];omega,rfl,rfl,trivial⟩)⟩
   rw[←hx]
   conv=>rhs;rw[aE1 hn,z',aJr]
  ·have z':x.getD (x.length-1) 0≠0:=by
    intro h
    apply z
    rw[show (UInt8.ofNat 0)=(0:UInt8) from rfl,h]
    rfl
   refine ⟨⟨x,⟨?_,hl⟩,rfl,rfl,trivial⟩,h1⟩
   rw[aM0,←hx]
   conv=>rhs;rw[aE1 hn,aIe _ _ z',←aE1 hn]
 ·have:x=[]:=bO8.1 (by omega)
  subst this
  exact ⟨⟨[],⟨by rw[aM0,←hx];rfl,hl⟩,rfl,rfl,trivial⟩,h1⟩
theorem aGp:aF Tryz.prog gl0 92 aRo:=by
 refine aP (enters_of (by kernel_rfl)) aM fun args H Q hc => ?_
 unfold aRo at hc
 split at hc
 ·rename_i s
  cases hb:Nat.ble s.length 1000000
  ·rw[hb] at hc;exact hc.elim
  ·rw[hb] at hc
   rw[bOi] at hb
   obtain ⟨hv,hb',h⟩:=aTs s hb (fun o H' _=>H'=[]∧(∃v,o=.ret v∧old 0 v=true∧noY v=true)∧Q o H) ⟨rfl,⟨_,rfl,rfl,rfl⟩,hc⟩
   exact ⟨rfl,rfl,_,1000,⟨dQ,dP,bY,bT⟩,rfl,h⟩
 ·exact hc.elim
end Go.Proofs.YtnhechnaemmdiaaGreatDoor.Md
