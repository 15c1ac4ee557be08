/-
  Chapter 24: the reference's Pairs.
-/
import Derived.Test.YtafchcmemeinlaaDoorC24O
set_option linter.unusedSimpArgs false
set_option linter.unusedVariables false
namespace Go.Proofs.YtafchcmemeinlaaDoor
open Go.RowKit
set_option maxRecDepth 1000000

def aK5 (l:List Int):Prop:=(∀x∈l,0≤x∧x≤65535)∧l.length≤64∧aU (l.getD 0 0) 0 (l.drop 1)=true
abbrev X21:=List Int×Nat×Nat×Nat×Nat
def aJ8 (pre:List Blk) (v3:AV) (t:Nat) (cs:List AV) (n:Nat) (base:Int):LInv where
 α:=X21
 pre a:=Lf (cs=aA a.1∧n=a.1.length∧aK5 a.1∧base=a.1.getD 0 0∧1≤a.2.1∧a.2.1≤a.1.length∧lY base 0 (a.1.drop 1)=lY base a.2.2.2.1 (a.1.drop a.2.1)∧lJ base (a.1.drop 1)=lJ base (a.1.drop a.2.1)∧aU base a.2.2.2.2 (a.1.drop a.2.1)=true∧a.2.2.2.1<2^a.2.2.2.2∧a.2.2.2.2≤16)
 st a:=⟨mkT [(0,.lst t cs n 1),(3,v3),(4,.int .i64 base),(5,.int .i64 a.2.2.2.1),(6,.nils),(7,.int .i64 a.2.1)],pre⟩
 mu a:=a.1.length-a.2.1
def aJz (pre:List Blk) (q:Nat) (v3:AV) (t:Nat) (cs:List AV) (n:Nat) (base:Int):LInv where
 α:=X21
 pre a:=Lf (cs=aA a.1∧n=a.1.length∧aK5 a.1∧base=a.1.getD 0 0∧1≤a.2.2.1∧a.2.2.1<a.2.1∧a.2.1≤a.1.length∧lY base 0 (a.1.drop 1)=a.2.2.2.1∧lJ base (a.1.drop 1)=a.1.drop a.2.2.1∧aU base a.2.2.2.2 (a.1.drop a.2.1)=true∧16<a.2.2.2.2∧a.2.2.2.1<65536)
 st a:=⟨mkT [(0,.lst t cs n 1),(3,v3),(4,.int .i64 base),(5,.int .i64 a.2.2.2.1),(6,.sl q (a.2.1-a.2.2.1) 0 (a.2.1-a.2.2.1) 1),(7,.int .i64 a.2.1)],pre++[⟨.grow,true,aA ((a.1.take a.2.1).drop a.2.2.1)⟩]⟩
 mu a:=a.1.length-a.2.1
def bCs (s:S):List (List LInv):=match s.tm.get 3,s.tm.get 0,s.tm.get 4 with
 | .nils,.lst t cs n _,.int _ base=>[[aJ8 [] .nils t cs n base,aJz [] 0 .nils t cs n base]]
 | .sl a b c d e,.lst t cs n _,.int _ base=>[[aJ8 s.hp (.sl a b c d e) t cs n base,aJz s.hp 2 (.sl a b c d e) t cs n base]]
 | _,_,_=>[]
def bDs (t:Nat) (xs:List Int):LInv where
 α:=Nat
 pre _:=Lf True
 st _:=⟨mkT [(0,.lst t (aA xs) xs.length 1),(3,.nils)],[]⟩
 mu _:=xs.length+5
def bAj (xs:List Int):LInv where
 α:=List Int×List (Int×Int)
 pre a:=Lf (aM xs=a.2++aM a.1∧aK5 a.1∧1≤a.2.length∧a.2.length+a.1.length≤xs.length)
 st a:=⟨mkT [(0,.lst 0 (aA a.1) a.1.length 1),(3,.sl 1 (2*a.2.length) 0 a.2.length 2)],[zV,⟨.grow,true,aR a.2⟩]⟩
 mu a:=a.1.length
def bBg (xs:List Int):LInv where
 α:=List (Int×Int)
 pre a:=Lf (aM xs=a∧a.length≤xs.length)
 st a:=⟨mkT [(0,.lst 0 [] 0 1),(3,.sl 0 (2*a.length) 0 a.length 2)],[⟨.grow,true,aR a⟩]⟩
 mu _:=0
noncomputable def aY4 (hv:Nat→Option Pa) (hb:Nat→Option Bool) (t:Nat) (xs:List Int):Env:=
 { e24 sm0 (fun i=>bif Nat.beq i 21000 then some (fun _=>[[bDs t xs,bAj xs,bBg xs]]) else bif Nat.beq i 21002 then some bCs else none) hv hb with hf:=fun i=>bif Nat.beq i 21000 then [(0,1)] else [] }
noncomputable def aIu (hv:Nat→Option Pa) (hb:Nat→Option Bool) (t:Nat) (xs:List Int) (Q:Out→List Blk→Gh→Prop):Prop:=
 bH (aY4 hv hb t xs) (wpx (aY4 hv hb t xs) 1000) 21 [.lst t (aA xs) xs.length 1] [] {} Q
abbrev aH2 (t:Nat) (xs:List Int):Prop:=aK (AV.lst t (aA xs) xs.length 1)
abbrev aD9:Prop:=AV.nils=AV.nils
abbrev aIw (xs:List Int) (x_0:List Int×List (Int×Int)):Prop:=Lf (aM xs=x_0.2++aM x_0.1∧aK5 x_0.1∧1≤x_0.2.length∧x_0.2.length+x_0.1.length≤xs.length)
abbrev aH7 (xs:List Int) (x_0:List (Int×Int)):Prop:=Lf (aM xs=x_0∧x_0.length≤xs.length)
abbrev yB (x_2:List Int×Nat×Nat×Nat×Nat):Int:=(x_2.2.2.2.1:Int)
abbrev bNy (x_2:List Int×Nat×Nat×Nat×Nat) (n_1:Int):Prop:=aK5 x_2.1∧n_1=x_2.1.getD 0 0∧1≤x_2.2.1∧x_2.2.1≤x_2.1.length∧lY n_1 0 (x_2.1.drop 1)=lY n_1 (yB x_2) (x_2.1.drop x_2.2.1)∧lJ n_1 (x_2.1.drop 1)=lJ n_1 (x_2.1.drop x_2.2.1)∧aU n_1 (x_2.2.2.2.2:Int) (x_2.1.drop x_2.2.1)=Bool.true∧x_2.2.2.2.1<(2:Nat)^x_2.2.2.2.2∧x_2.2.2.2.2≤16
abbrev aIf (xs:List Int) (x_2:List Int×Nat×Nat×Nat×Nat) (n_1:Int):Prop:=Lf (aA xs=aA x_2.1∧xs.length=x_2.1.length∧bNy x_2 n_1)
abbrev xM (x_2:List Int×Nat×Nat×Nat×Nat):AV:=.int .i64 (x_2.2.1:Int)
abbrev aAc (x_3:List Int×Nat×Nat×Nat×Nat):AV:=.int .i64 (x_3.2.2.2.1:Int)
abbrev bC5 (x_2:List Int×Nat×Nat×Nat×Nat):AV:=aAc x_2
abbrev qC (n_12:Int):AV:=.int .i64 n_12
abbrev aFy (n_1:Int):AV:=qC n_1
abbrev aQf (n_1:Int):Prop:=aK (aFy n_1)∧aD9∧True
abbrev bNc (x_2:List Int×Nat×Nat×Nat×Nat) (n_1:Int):Prop:=aK5 x_2.1∧n_1=x_2.1.getD 0 0∧1≤x_2.2.2.1∧x_2.2.2.1<x_2.2.1∧x_2.2.1≤x_2.1.length∧lY n_1 0 (x_2.1.drop 1)=yB x_2∧lJ n_1 (x_2.1.drop 1)=x_2.1.drop x_2.2.2.1∧aU n_1 (x_2.2.2.2.2:Int) (x_2.1.drop x_2.2.1)=Bool.true∧16<x_2.2.2.2.2∧x_2.2.2.2.1<65536
abbrev aIm (xs:List Int) (x_2:List Int×Nat×Nat×Nat×Nat) (n_1:Int):Prop:=Lf (aA xs=aA x_2.1∧xs.length=x_2.1.length∧bNc x_2 n_1)
abbrev aSl (n_5:Int) (xs:List Int):Bool:=decide (0≤n_5)&&Nat.blt n_5.toNat xs.length&&Bool.true
abbrev aO0 (n_5:Int) (xs:List Int):Bool:=Nat.blt (n_5.toNat*1) (aA xs).length
abbrev aSp (xs:List Int) (n_5:Int):AV:=(aA xs).getD (n_5.toNat*1) AV.undef
abbrev aQa (n_11:Int):Bool:=decide (0≤n_11)&&Bool.true
abbrev rJ:Prop:=True∧(0:Nat)=(0:Nat)
abbrev zZ (y_15 x_3:List Int×Nat×Nat×Nat×Nat):Prop:=y_15.1.length-y_15.2.1<x_3.1.length-x_3.2.1
abbrev aT5 (y_16 x_2:List Int×Nat×Nat×Nat×Nat):Prop:=zZ y_16 x_2
abbrev aBl (x_3:List Int×Nat×Nat×Nat×Nat):List AV:=aA ((x_3.1.take x_3.2.1).drop x_3.2.2.1)
abbrev aRz (x_2:List Int×Nat×Nat×Nat×Nat):AV:=.sl 0 (x_2.2.1-x_2.2.2.1) 0 (x_2.2.1-x_2.2.2.1) 1
abbrev bOf (x_2:List Int×Nat×Nat×Nat×Nat) (xs:List Int) (n_1:Int) (t:Nat):Prop:=exI .i64 (x_2.2.1:Int) (fun n_10=>ckQ (aSl n_10 xs) (ckQ (aO0 n_10 xs) (exV IntKind.i64 (aSp xs n_10) (fun n_11=>exI .i64 (x_2.2.1:Int) (fun n_12=>exW .i64 (n_12+1) (fun n_13=>rJ∧((∃y_14:List Int×Nat×Nat×Nat×Nat,aIf xs y_14 n_1∧zZ y_14 x_2∧False)∨∃y_14:List Int×Nat×Nat×Nat×Nat,aIm xs y_14 n_1∧zZ y_14 x_2∧[qC n_11]=aBl y_14∧aH2 t xs∧aD9∧qC n_13=xM y_14∧aAc x_2=aAc y_14∧aK (qC n_1)∧AV.sl 0 1 0 1 1=aRz y_14∧True)))))))
abbrev aUa (x_2:List Int×Nat×Nat×Nat×Nat):List AV:=aBl x_2
abbrev bCu (x_3:List Int×Nat×Nat×Nat×Nat):Bool:=Nat.beq (aBl x_3).length (x_3.2.1-x_3.2.2.1)&&Bool.true&&Nat.beq (0+(x_3.2.1-x_3.2.2.1)*1) (x_3.2.1-x_3.2.2.1)&&Nat.ble (x_3.2.1-x_3.2.2.1+1) 1099511627776&&Nat.ble ((x_3.2.1-x_3.2.2.1+1)*8) 1099511627776
abbrev bM2 (x_2:List Int×Nat×Nat×Nat×Nat) (xs:List Int) (n_1:Int) (t:Nat):Prop:=exI .i64 (x_2.2.1:Int) (fun n_10=>ckQ (aSl n_10 xs) (ckQ (aO0 n_10 xs) (exV IntKind.i64 (aSp xs n_10) (fun n_11=>ckQ (bCu x_2) (exI .i64 (x_2.2.1:Int) (fun n_12=>exW .i64 (n_12+1) (fun n_13=>rJ∧((∃y_14:List Int×Nat×Nat×Nat×Nat,aIf xs y_14 n_1∧zZ y_14 x_2∧False)∨∃y_14:List Int×Nat×Nat×Nat×Nat,aIm xs y_14 n_1∧zZ y_14 x_2∧aBl x_2++[qC n_11]=aBl y_14∧aH2 t xs∧aD9∧qC n_13=xM y_14∧aAc x_2=aAc y_14∧aK (qC n_1)∧AV.sl 0 (x_2.2.1-x_2.2.2.1+1) 0 (x_2.2.1-x_2.2.2.1+1) 1=aRz y_14∧True))))))))
abbrev bCd (x_2:List Int×Nat×Nat×Nat×Nat):Bool:=Nat.beq (aUa x_2).length (x_2.2.1-x_2.2.2.1)&&Nat.ble (0+(x_2.2.1-x_2.2.2.1)*1) (x_2.2.1-x_2.2.2.1)&&Bool.true&&Bool.true&&bQ (aUa x_2)&&Bool.true&&Bool.true
abbrev zI:Prop:=([]:List AV)=[]
abbrev aCs (y_6:List Int×List (Int×Int)):AV:=.lst 0 (aA y_6.1) y_6.1.length 1
abbrev aDs (y_6:List Int×List (Int×Int)):AV:=.sl 1 (2*y_6.2.length) 0 y_6.2.length 2
abbrev aGo (x_0:List Int×List (Int×Int)) (x_3:List Int×Nat×Nat×Nat×Nat) (n_2:Int):Prop:=Lf (aA x_0.1=aA x_3.1∧x_0.1.length=x_3.1.length∧bNy x_3 n_2)
abbrev aM2 (x_0:List Int×List (Int×Int)):Prop:=aK (aR x_0.2)
abbrev aIi (x_0:List Int×List (Int×Int)) (x_3:List Int×Nat×Nat×Nat×Nat) (n_2:Int):Prop:=Lf (aA x_0.1=aA x_3.1∧x_0.1.length=x_3.1.length∧bNc x_3 n_2)
abbrev aLy (x_0:List Int×List (Int×Int)):Prop:=zI∧aK (aR x_0.2)∧False
abbrev aOi (n_6:Int) (x_0:List Int×List (Int×Int)):Bool:=decide (0≤n_6)&&Nat.blt n_6.toNat x_0.1.length&&Bool.true
abbrev aNy (x_3:List Int×Nat×Nat×Nat×Nat):AV:=.sl 2 (x_3.2.1-x_3.2.2.1) 0 (x_3.2.1-x_3.2.2.1) 1
abbrev bNb (x_3:List Int×Nat×Nat×Nat×Nat) (x_0:List Int×List (Int×Int)) (n_2:Int):Prop:=exI .i64 (x_3.2.1:Int) (fun n_11=>ckQ (aOi n_11 x_0) (ckQ (Nat.blt (n_11.toNat*1) (aA x_0.1).length) (exV IntKind.i64 ((aA x_0.1).getD (n_11.toNat*1) AV.undef) (fun n_12=>exI .i64 (x_3.2.1:Int) (fun n_13=>exW .i64 (n_13+1) (fun n_14=>rJ∧((∃y_15:List Int×Nat×Nat×Nat×Nat,aGo x_0 y_15 n_2∧zZ y_15 x_3∧aLy x_0)∨∃y_15:List Int×Nat×Nat×Nat×Nat,aIi x_0 y_15 n_2∧zZ y_15 x_3∧zI∧aM2 x_0∧[qC n_12]=aBl y_15∧aK (aCs x_0)∧aK (aDs x_0)∧qC n_14=xM y_15∧aAc x_3=aAc y_15∧aK (qC n_2)∧AV.sl 2 1 0 1 1=aNy y_15∧True)))))))
abbrev bAy (x_0:List Int×List (Int×Int)):Bool:=Nat.beq (aR x_0.2).length (2*x_0.2.length)&&Bool.true&&Nat.beq (0+x_0.2.length*2) (2*x_0.2.length)&&Nat.ble (x_0.2.length+1) 1099511627776&&Nat.ble ((x_0.2.length+1)*16) 1099511627776
abbrev bNz (x_3:List Int×Nat×Nat×Nat×Nat) (x_0:List Int×List (Int×Int)) (n_2:Int):Prop:=exI .i64 (x_3.2.1:Int) (fun n_11=>ckQ (aOi n_11 x_0) (ckQ (Nat.blt (n_11.toNat*1) (aA x_0.1).length) (exV IntKind.i64 ((aA x_0.1).getD (n_11.toNat*1) AV.undef) (fun n_12=>ckQ (bCu x_3) (exI .i64 (x_3.2.1:Int) (fun n_13=>exW .i64 (n_13+1) (fun n_14=>rJ∧((∃y_15:List Int×Nat×Nat×Nat×Nat,aGo x_0 y_15 n_2∧zZ y_15 x_3∧aLy x_0)∨∃y_15:List Int×Nat×Nat×Nat×Nat,aIi x_0 y_15 n_2∧zZ y_15 x_3∧zI∧aM2 x_0∧aBl x_3++[qC n_12]=aBl y_15∧aK (aCs x_0)∧aK (aDs x_0)∧qC n_14=xM y_15∧aAc x_3=aAc y_15∧aK (qC n_2)∧AV.sl 2 (x_3.2.1-x_3.2.2.1+1) 0 (x_3.2.1-x_3.2.2.1+1) 1=aNy y_15∧True))))))))
theorem bOl (t:Nat) (xs:List Int) (Q:Out→List Blk→Gh→Prop):aIu (bG [(86026,.int .i64),(86030,.int .i64),(86031,.int .i64),(86033,.int .i64),(86038,.int .i64),(86040,.int .i64),(86042,.int .i64),(86043,
 .int .i64),(86044,.int .i64),(86051,.int .i64),(86053,.int .i64),(86054,.int .i64),(86055,.int .i64),(86035,.int .i64),(86036,.int .i64),(86058,.int .i64),(86060,.int .i64),(86065,.int .i64)]) (bF []) t xs Q=(((∃
 x_0:Nat,Lf True∧aH2 t xs∧aD9∧True)∨(∃x_0:List Int×List (Int×Int),aIw xs x_0∧False)∨∃x_0:List (Int×Int),aH7 xs x_0∧False)∧(Nat→Lf True→exI .i64 (xs.length:Int) (fun n_0=>bif decide
 (n_0>0) then ckQ (Nat.blt 0 xs.length&&Bool.true) (ckQ (Nat.blt 0 (aA xs).length) (exV IntKind.i64 ((aA xs).getD 0 AV.undef) (fun n_1=>((∃x_2:List Int×Nat×Nat×Nat×Nat,aIf xs x_2 n_1∧aH2 t xs∧aD9∧AV.int
 IntKind.i64 1=xM x_2∧AV.int .i64 0=bC5 x_2∧aQf n_1)∨∃x_2:List Int×Nat×Nat×Nat×Nat,aIm xs x_2 n_1∧False)∧(∀x_2:List Int×Nat×Nat×Nat×Nat,aIf xs x_2 n_1→exI .i64 (x_2.2.1:Int)
 (fun n_3=>exI .i64 (xs.length:Int) (fun n_4=>bif decide (n_3<n_4) then exI .i64 (x_2.2.1:Int) (fun n_5=>ckQ (aSl n_5 xs) (ckQ (aO0 n_5 xs) (exV IntKind.i64 (aSp xs n_5) (fun n_6=>exW .i64 (n_6 -
 n_1) (fun n_7=>exW .i64 (n_7+65536) (fun n_8=>exI .i64 (n_8.tmod 65536) (fun n_9=>bif decide (n_9≥1) then bif decide (n_9≤16) then exI .i64 (yB x_2) (fun n_10=>exW .i64 (n_9-1) (fun n_11=>
 ckQ (aQa n_11) (exW .i64 (1*(2:Int)^Min.min n_11.toNat 64) (fun n_12=>exW .i64 (n_10+n_12) (fun n_13=>exI .i64 (x_2.2.1:Int) (fun n_14=>exW .i64 (n_14+1) (fun n_15=>rJ∧((∃y_16:List
 Int×Nat×Nat×Nat×Nat,aIf xs y_16 n_1∧aT5 y_16 x_2∧aH2 t xs∧aD9∧aFy n_15=xM y_16∧aFy n_13=bC5 y_16∧aQf n_1)∨∃y_16:List Int×Nat×Nat×Nat×Nat,aIm xs y_16 n_1∧aT5 y_16 x_2 ∧
 False)))))))) else bOf x_2 xs n_1 t else bOf x_2 xs n_1 t))))))) else exI .i64 (yB x_2) (fun n_5=>rJ∧((∃y_6:Nat,Lf True∧xs.length+5<xs.length+5∧False)∨(∃y_6:List Int×List (Int×Int),aIw xs y_6 ∧
 y_6.1.length<xs.length+5∧False)∨∃y_6:List (Int×Int),aH7 xs y_6∧0<xs.length+5∧[aFy n_1,.int .i64 n_5]=aR y_6∧aK (AV.lst 0 [] 0 1)∧AV.sl 0 2 0 1 2=AV.sl 0 (2*y_6.length) 0 y_6.length 2 ∧
 True)))))∧∀x_2:List Int×Nat×Nat×Nat×Nat,aIm xs x_2 n_1→exI .i64 (x_2.2.1:Int) (fun n_3=>exI .i64 (xs.length:Int) (fun n_4=>bif decide (n_3<n_4) then exI .i64 (x_2.2.1:Int) (fun n_5=>ckQ
 (aSl n_5 xs) (ckQ (aO0 n_5 xs) (exV IntKind.i64 (aSp xs n_5) (fun n_6=>exW .i64 (n_6-n_1) (fun n_7=>exW .i64 (n_7+65536) (fun n_8=>exI .i64 (n_8.tmod 65536) (fun n_9=>bif decide (n_9≥1) then bif
 decide (n_9≤16) then exI .i64 (yB x_2) (fun n_10=>exW .i64 (n_9-1) (fun n_11=>ckQ (aQa n_11) (exW .i64 (1*(2:Int)^Min.min n_11.toNat 64) (fun n_12=>exW .i64 (n_10+n_12) (fun n_13=>exI
 IntKind.i64 (x_2.2.1:Int) (fun n_14=>exW .i64 (n_14+1) (fun n_15=>rJ∧((∃y_16:List Int×Nat×Nat×Nat×Nat,aIf xs y_16 n_1∧aT5 y_16 x_2∧False)∨∃y_16:List Int×Nat×Nat×Nat×Nat,aIm xs y_16 n_1
 ∧ aT5 y_16 x_2∧aUa x_2=aUa y_16∧aH2 t xs∧aD9∧aFy n_15=xM y_16∧aFy n_13=bC5 y_16∧aK (aFy n_1)∧aRz x_2=aRz y_16∧True)))))))) else bM2 x_2 xs n_1 t else bM2 x_2 xs n_1 t))))))) else exI
 IntKind.i64 (yB x_2) (fun n_5=>ckQ (bCd x_2) (rJ∧((∃y_6:Nat,Lf True∧xs.length+5<xs.length+5∧False)∨(∃y_6:List Int×List (Int×Int),aIw xs y_6∧y_6.1.length<xs.length+5∧zI∧[aFy n_1,.int
 IntKind.i64 n_5]=aR y_6.2∧AV.lst 0 (((aUa x_2).drop 0).take ((x_2.2.1-x_2.2.2.1)*1)) (x_2.2.1-x_2.2.2.1) 1=aCs y_6∧AV.sl 1 2 0 1 2=aDs y_6∧True)∨∃y_6:List (Int×Int),aH7 xs y_6∧0<xs.length+5 ∧
 False)))))))) else Q (.ret .nils) [] {}))∧(∀x_0:List Int×List (Int×Int),aIw xs x_0→exI .i64 (x_0.1.length:Int) (fun n_1=>bif decide (n_1>0) then ckQ (Nat.blt 0 x_0.1.length&&Bool.true) (ckQ (Nat.blt 0 (aA
 x_0.1).length) (exV IntKind.i64 ((aA x_0.1).getD 0 AV.undef) (fun n_2=>((∃x_3:List Int×Nat×Nat×Nat×Nat,aGo x_0 x_3 n_2∧zI∧aM2 x_0∧aK (aCs x_0)∧aK (aDs x_0)∧AV.int .i64 1=xM x_3 ∧
 AV.int .i64 0=bC5 x_3∧aQf n_2)∨∃x_3:List Int×Nat×Nat×Nat×Nat,aIi x_0 x_3 n_2∧aLy x_0)∧(∀x_3:List Int×Nat×Nat×Nat×Nat,aGo x_0 x_3 n_2→exI .i64 (x_3.2.1:Int) (fun n_4=>exI
 IntKind.i64 (x_0.1.length:Int) (fun n_5=>bif decide (n_4<n_5) then exI .i64 (x_3.2.1:Int) (fun n_6=>ckQ (aOi n_6 x_0) (ckQ (Nat.blt (n_6.toNat*1) (aA x_0.1).length) (exV IntKind.i64 ((aA x_0.1).getD (n_6.toNat
 * 1) AV.undef) (fun n_7=>exW .i64 (n_7-n_2) (fun n_8=>exW .i64 (n_8+65536) (fun n_9=>exI .i64 (n_9.tmod 65536) (fun n_10=>bif decide (n_10≥1) then bif decide (n_10≤16) then exI .i64 (yB x_3)
 (fun n_11=>exW .i64 (n_10-1) (fun n_12=>ckQ (aQa n_12) (exW .i64 (1*(2:Int)^Min.min n_12.toNat 64) (fun n_13=>exW .i64 (n_11+n_13) (fun n_14=>exI .i64 (x_3.2.1:Int) (fun n_15=>exW
 IntKind.i64 (n_15+1) (fun n_16=>rJ∧((∃y_17:List Int×Nat×Nat×Nat×Nat,aGo x_0 y_17 n_2∧aT5 y_17 x_3∧zI∧aM2 x_0∧aK (aCs x_0)∧aK (aDs x_0)∧aFy n_16=xM y_17∧aFy n_14=bC5 y_17∧aQf
 n_2)∨∃y_17:List Int×Nat×Nat×Nat×Nat,aIi x_0 y_17 n_2∧aT5 y_17 x_3∧aLy x_0)))))))) else bNb x_3 x_0 n_2 else bNb x_3 x_0 n_2))))))) else exI .i64 (yB x_3) (fun n_6=>ckQ (bAy x_0) (rJ∧((∃y_7 :
 Nat,Lf True∧xs.length+5<x_0.1.length∧False)∨(∃y_7:List Int×List (Int×Int),aIw xs y_7∧y_7.1.length<x_0.1.length∧zI∧aR x_0.2++[aFy n_2,.int .i64 n_6]=aR y_7.2∧AV.lst 0 [] 0 1=aCs
 y_7∧AV.sl 1 (2*x_0.2.length+2) 0 (x_0.2.length+1) 2=aDs y_7∧True)∨∃y_7:List (Int×Int),aH7 xs y_7∧0<x_0.1.length∧False))))))∧∀x_3:List Int×Nat×Nat×Nat×Nat,aIi x_0 x_3 n_2→exI .i64
 (x_3.2.1:Int) (fun n_4=>exI .i64 (x_0.1.length:Int) (fun n_5=>bif decide (n_4<n_5) then exI .i64 (x_3.2.1:Int) (fun n_6=>ckQ (aOi n_6 x_0) (ckQ (Nat.blt (n_6.toNat*1) (aA x_0.1).length) (exV IntKind.i64
 ((aA x_0.1).getD (n_6.toNat*1) AV.undef) (fun n_7=>exW .i64 (n_7-n_2) (fun n_8=>exW .i64 (n_8+65536) (fun n_9=>exI .i64 (n_9.tmod 65536) (fun n_10=>bif decide (n_10≥1) then bif decide (n_10≤16)
 then exI .i64 (yB x_3) (fun n_11=>exW .i64 (n_10-1) (fun n_12=>ckQ (aQa n_12) (exW .i64 (1*(2:Int)^Min.min n_12.toNat 64) (fun n_13=>exW .i64 (n_11+n_13) (fun n_14=>exI .i64
 (x_3.2.1:Int) (fun n_15=>exW .i64 (n_15+1) (fun n_16=>rJ∧((∃y_17:List Int×Nat×Nat×Nat×Nat,aGo x_0 y_17 n_2∧aT5 y_17 x_3∧aLy x_0)∨∃y_17:List Int×Nat×Nat×Nat×Nat,aIi x_0 y_17 n_2 ∧
 aT5 y_17 x_3∧zI∧aM2 x_0∧aUa x_3=aUa y_17∧aK (aCs x_0)∧aK (aDs x_0)∧aFy n_16=xM y_17∧aFy n_14=bC5 y_17∧aK (aFy n_2)∧aNy x_3=aNy y_17∧True)))))))) else bNz x_3 x_0 n_2 else bNz x_3
 x_0 n_2))))))) else exI .i64 (yB x_3) (fun n_6=>ckQ (bAy x_0) (ckQ (bCd x_3) (rJ∧((∃y_7:Nat,Lf True∧xs.length+5<x_0.1.length∧False)∨(∃y_7:List Int×List (Int×Int),aIw xs y_7∧y_7.1.length <
 x_0.1.length∧zI∧aR x_0.2++[aFy n_2,.int .i64 n_6]=aR y_7.2∧AV.lst 0 (((aUa x_3).drop 0).take ((x_3.2.1-x_3.2.2.1)*1)) (x_3.2.1-x_3.2.2.1) 1=aCs y_7∧AV.sl 1 (2*x_0.2.length+2) 0 (x_0.2.length
 + 1) 2=aDs y_7∧True)∨∃y_7:List (Int×Int),aH7 xs y_7∧0<x_0.1.length∧False))))))))) else Q (.ret (.sl 1 (2*x_0.2.length) 0 x_0.2.length 2)) [Blk.mk BK.exact Bool.true [],Blk.mk BK.grow Bool.true (aR x_0.2)] {}))
 ∧ ∀x_0:List (Int×Int),aH7 xs x_0→exI .i64 0 (fun n_1=>bif decide (n_1>0) then False else Q (.ret (.sl 0 (2*x_0.length) 0 x_0.length 2)) [Blk.mk BK.grow Bool.true (aR x_0)] {})):=by kernel_rfl

theorem aVq {n:Int} {l:List Int} (h:aK5 (n::l)):aK5 l:=by
 obtain ⟨h1,h2,h3⟩:=h
 refine ⟨fun x hx=>h1 x (by simp[hx]),by simp at h2;omega, ?_⟩
 cases l with
 | nil=>rfl
 | cons n' l'=>
  simp only[List.getD_cons_zero,List.drop_one,List.tail_cons] at h3 ⊢
  rw[aU] at h3
  split at h3
  ·cases h3
  ·exact wR n l' _ n' 0 h3 (by omega) (by omega)
theorem aB7:∀ (j:Nat) {l:List Int},aK5 l→aK5 (l.drop j)
 | 0,_,h=>h
 | j+1,[],h=>by simpa using h
 | j+1,n::l,h=>by simpa using aB7 j (aVq h)
theorem rM {l:List Int} (h:aK5 l) {i:Nat} (hi:i<l.length):0≤l.getD i 0∧l.getD i 0≤65535:=by
 have e1:l.getD i 0=l[i]:=by simp[hi]
 rw[e1]
 exact h.1 _ (List.getElem_mem hi)
theorem xD {l:List Int} (h:0<l.length):aM l=(l.getD 0 0,lY (l.getD 0 0) 0 (l.drop 1))::aM (lJ (l.getD 0 0) (l.drop 1)):=by
 cases l with
 | nil=>simp at h
 | cons n l=>exact qA n l 0

theorem kF {xs ys:List Int} (h:aA xs=aA ys):xs=ys:=by
 induction xs generalizing ys with
 | nil=>cases ys with | nil=>rfl | cons y ys=>simp[aA] at h
 | cons x xs ih=>cases ys with
  | nil=>simp[aA] at h
  | cons y ys=>
   simp only[aA,List.map_cons,List.cons.injEq,AV.int.injEq,true_and] at h
   rw[h.1,ih h.2]
theorem bLy {x b:Int} (hx:0≤x∧x≤65535) (hb:0≤b∧b≤65535):(x-b+65536).tmod 65536=(x-b)%65536:=by
 rw[Int.tmod_eq_emod_of_nonneg (by omega)];omega
theorem bQn {d:Int} (h:1≤d∧d≤16) {K:Int→Prop} (hk:K ((2^(d-1).toNat:Nat):Int)):∃n:Int,AV.int .i64 (IntKind.wrap .i64 (1*2^min (d-1).toNat 64))=AV.int .i64 n∧K n:=by
 have e:min (d-1).toNat 64=(d-1).toNat:=by omega
 rw[e,Int.one_mul]
 have h2:(2:Nat)^(d-1).toNat≤2^15:=Nat.pow_le_pow_right (by omega) (by omega)
 have e2:(2:Int)^(d-1).toNat=((2^(d-1).toNat:Nat):Int):=by simp
 rw[e2]
 generalize (2:Nat)^(d-1).toNat=q at *
 exact aC (by omega) (by omega) hk
theorem aPd {d:Nat} (h:d≤16):2^d≤65536:=Nat.pow_le_pow_right (n:=2) (by omega) h
theorem aZg {base:Int} {m far k:Nat} {l:List Int} (h:k<l.length) (h9:aU base far (l.drop k)=true) (h10:m<2^far) (d:Int) (hd:d=(l.getD k 0-base)%65536) :
  (far:Int)<d∧d≤32767∧aU base d (l.drop (k+1))=true∧(d≤16→lY base m (l.drop k)=lY base (m+2^(d-1).toNat:Nat) (l.drop (k+1))∧lJ base (l.drop k)=lJ base (l.drop (k+1))∧m+2^(d-1).toNat<2^d.toNat) ∧
  (16<d→lY base m (l.drop k)=m∧lJ base (l.drop k)=l.drop k):=by
 have e:=gX h
 rw[e,aU,←hd] at h9
 split at h9
 ·cases h9
 ·rename_i hc
  refine ⟨by omega,by omega,h9,fun h16 => ?_,fun h16 => ?_⟩
  ·have hlt:m<2^(d-1).toNat:=Nat.lt_of_lt_of_le h10 (Nat.pow_le_pow_right (by omega) (by omega))
   rw[e,lY,lJ,←hd,if_neg (by omega),if_neg (by omega)]
   have e1:((m:Int)%18446744073709551616).toNat=m:=by
    have:2^(d-1).toNat≤65536:=aPd (by omega)
    omega
   rw[e1,bB9 hlt]
   refine ⟨rfl,rfl, ?_⟩
   have e2:d.toNat=(d-1).toNat+1:=by omega
   rw[e2,Nat.pow_succ];omega
  ·rw[e,lY,lJ,←hd,if_pos h16,if_pos h16]
   exact ⟨rfl,rfl⟩
theorem bH4 {base:Int} {far k:Nat} {l:List Int} (h:k<l.length) (h9:aU base far (l.drop k)=true):(far:Int)<(l.getD k 0-base)%65536∧aU base ((l.getD k 0-base)%65536) (l.drop (k+1))=true:=by
 rw[gX h,aU] at h9
 split at h9
 ·cases h9
 ·exact ⟨by omega,h9⟩

theorem aSx (t:Nat) (xs:List Int) (Q:Out→List Blk→Gh→Prop) (hx:aK5 xs) (hl:1≤xs.length)
  (hq:∀ (H:List Blk) (id:Nat),H[id]? = some ⟨.grow,true,aR (aM xs)⟩→Q (.ret (.sl id (2*(aM xs).length) 0 (aM xs).length 2)) H {}):∃hv hb,aIu hv hb t xs Q:=by
 obtain ⟨hv,hb',e⟩:∃hv hb,aIu hv hb t xs Q=_:=⟨_,_,bOl t xs Q⟩
 refine ⟨hv,hb',e.mpr ?_⟩
 delta aH2 aD9 aIw aH7 yB bNy aIf xM aAc bC5 qC aFy aQf bNc aIm aSl aO0 aSp aQa rJ zZ aT5 aBl aRz bOf aUa bCu bM2 bCd zI aCs aDs aGo aM2 aIi aLy aOi aNy bNb bAy bNz
 clear e
 have h2:=hx.2.1
 refine ⟨.inl ⟨0,⟨trivial⟩,by simp⟩, ?_, ?_, ?_⟩
 ·rintro _ _
  have hb:=rM hx (i:=0) (by omega)
  have hpc:=xD (l:=xs) (by omega)
  have hx3:=hx.2.2
  (repeat' (first | (with_reducible trivial) | (guard_target=False;omega) | (with_reducible refine aC ?_ ?_ ?_;omega;omega) | ((fail_if_success (with_reducible refine aC ?_ ?_ ?_));(with_reducible refine ⟨_,rfl, ?_⟩)) | (with_reducible refine ckI ?_ ?_;first | rfl | (simp[aL,aB]<;>omega)) | ((first | (with_reducible refine aD (fun _ => ?_) fun _ => ?_) | (with_reducible refine aP (fun _ => ?_) fun _ => ?_))<;>try (exfalso;omega))))
  refine kS (i:=0) (by omega) rfl ?_
  generalize hbase:xs.getD 0 0=base at *
  refine ⟨.inl ⟨(xs,1,0,0,0),⟨rfl,rfl,hx,hbase.symm,by simp,by simpa using hl,rfl,rfl,hx3,by simp,by simp⟩,by simp⟩, ?_, ?_⟩
  ·rintro ⟨l,k,j,m,far⟩ ⟨g1,g2,g3,g4,g5,g6,g7,g8,g9,g10,g11⟩
   dsimp only at *
   obtain rfl:=kF g1
   (repeat' (first | (with_reducible trivial) | (guard_target=False;omega) | (with_reducible refine aC ?_ ?_ ?_;omega;omega) | ((fail_if_success (with_reducible refine aC ?_ ?_ ?_));(with_reducible refine ⟨_,rfl, ?_⟩)) | (with_reducible refine ckI ?_ ?_;first | rfl | (simp[aL,aB]<;>omega)) | ((first | (with_reducible refine aD (fun _ => ?_) fun _ => ?_) | (with_reducible refine aP (fun _ => ?_) fun _ => ?_))<;>try (exfalso;omega))))
   ·have hk:k<xs.length:=by omega
    have hn:=rM hx hk
    have hp:=aPd g11
    refine kS (i:=k) hk (by omega) (aC (by omega) (by omega) (aC (by omega) (by omega) ⟨_,rfl, ?_⟩))
    rw[bLy hn hb]
    generalize hd:(xs.getD k 0-base)%65536=d
    obtain ⟨s1,s2,s3,s4,s5⟩:=aZg hk g9 g10 d hd.symm
    refine aD (fun _ => ?_) (fun h=>by omega)
    refine aD (fun h16 => ?_) (fun h16 => ?_)
    ·obtain ⟨s6,s7,s8⟩:=s4 h16
     have hp2:=aPd (show d.toNat≤16 by omega)
     (repeat' (first | (with_reducible trivial) | (guard_target=False;omega) | (with_reducible refine aC ?_ ?_ ?_;omega;omega) | ((fail_if_success (with_reducible refine aC ?_ ?_ ?_));(with_reducible refine ⟨_,rfl, ?_⟩)) | (with_reducible refine ckI ?_ ?_;first | rfl | (simp[aL,aB]<;>omega)) | ((first | (with_reducible refine aD (fun _ => ?_) fun _ => ?_) | (with_reducible refine aP (fun _ => ?_) fun _ => ?_))<;>try (exfalso;omega))))
     refine bQn (by omega) ?_
     generalize (2:Nat)^(d-1).toNat=q at *
     (repeat' (first | (with_reducible trivial) | (guard_target=False;omega) | (with_reducible refine aC ?_ ?_ ?_;omega;omega) | ((fail_if_success (with_reducible refine aC ?_ ?_ ?_));(with_reducible refine ⟨_,rfl, ?_⟩)) | (with_reducible refine ckI ?_ ?_;first | rfl | (simp[aL,aB]<;>omega)) | ((first | (with_reducible refine aD (fun _ => ?_) fun _ => ?_) | (with_reducible refine aP (fun _ => ?_) fun _ => ?_))<;>try (exfalso;omega))))
     refine ⟨⟨trivial,by trivial⟩,.inl ⟨(xs,k+1,0,m+q,d.toNat),⟨rfl,rfl,hx,hbase.symm,by simp,hk,g7.trans s6,g8.trans s7, ?_,s8, ?_⟩, ?_,by simp⟩⟩
     ·show aU base (d.toNat:Int) _=true
      rw[Int.toNat_of_nonneg (by omega)];exact s3
     ·show d.toNat≤16
      omega
     ·show xs.length-(k+1)<xs.length-k
      omega
    ·obtain ⟨s6,s7⟩:=s5 (by omega)
     (repeat' (first | (with_reducible trivial) | (guard_target=False;omega) | (with_reducible refine aC ?_ ?_ ?_;omega;omega) | ((fail_if_success (with_reducible refine aC ?_ ?_ ?_));(with_reducible refine ⟨_,rfl, ?_⟩)) | (with_reducible refine ckI ?_ ?_;first | rfl | (simp[aL,aB]<;>omega)) | ((first | (with_reducible refine aD (fun _ => ?_) fun _ => ?_) | (with_reducible refine aP (fun _ => ?_) fun _ => ?_))<;>try (exfalso;omega))))
     refine kS (i:=k) hk (by omega) ?_
     (repeat' (first | (with_reducible trivial) | (guard_target=False;omega) | (with_reducible refine aC ?_ ?_ ?_;omega;omega) | ((fail_if_success (with_reducible refine aC ?_ ?_ ?_));(with_reducible refine ⟨_,rfl, ?_⟩)) | (with_reducible refine ckI ?_ ?_;first | rfl | (simp[aL,aB]<;>omega)) | ((first | (with_reducible refine aD (fun _ => ?_) fun _ => ?_) | (with_reducible refine aP (fun _ => ?_) fun _ => ?_))<;>try (exfalso;omega))))
     refine ⟨⟨trivial,by trivial⟩,.inr ⟨(xs,k+1,k,m,d.toNat),⟨rfl,rfl,hx,hbase.symm,g5,Nat.lt_succ_self _,hk,g7.trans s6,g8.trans s7, ?_, ?_, ?_⟩, ?_, ?_⟩⟩
     ·show aU base (d.toNat:Int) _=true
      rw[Int.toNat_of_nonneg (by omega)];exact s3
     ·show 16<d.toNat
      omega
     ·show m<65536
      omega
     ·show xs.length-(k+1)<xs.length-k
      omega
     ·have e1:(xs.take (k+1)).drop k=[xs.getD k 0]:=by
       rw[mH xs 0 hk,List.drop_append_of_le_length (by rw[List.length_take];omega),List.drop_of_length_le (by rw[List.length_take];omega),List.nil_append]
      dsimp only
      rw[e1,show k+1-k=1 by omega]
      simp[aA]
   ·have hk:k=xs.length:=by omega
    subst hk
    rw[List.drop_length] at g7 g8
    simp only[lY,lJ] at g7 g8
    rw[g7,g8,aM] at hpc
    refine ⟨⟨trivial,by trivial⟩,.inr (.inr ⟨_,⟨rfl, ?_⟩,by omega, ?_⟩)⟩
    ·rw[hpc];simpa using hl
    ·rw[hpc];simp[aR]
  ·rintro ⟨l,k,j,m,far⟩ ⟨g1,g2,g3,g4,g5,g6,g7,g8,g9,g10,g11,g12⟩
   dsimp only at *
   obtain rfl:=kF g1
   (repeat' (first | (with_reducible trivial) | (guard_target=False;omega) | (with_reducible refine aC ?_ ?_ ?_;omega;omega) | ((fail_if_success (with_reducible refine aC ?_ ?_ ?_));(with_reducible refine ⟨_,rfl, ?_⟩)) | (with_reducible refine ckI ?_ ?_;first | rfl | (simp[aL,aB]<;>omega)) | ((first | (with_reducible refine aD (fun _ => ?_) fun _ => ?_) | (with_reducible refine aP (fun _ => ?_) fun _ => ?_))<;>try (exfalso;omega))))
   ·have hk:k<xs.length:=by omega
    have hn:=rM hx hk
    obtain ⟨s1,s2⟩:=bH4 hk g10
    have hlk:(List.drop j (List.take k xs)).length=k-j:=by simp;omega
    refine kS (i:=k) hk (by omega) (aC (by omega) (by omega) (aC (by omega) (by omega) ⟨_,rfl, ?_⟩))
    rw[bLy hn hb]
    generalize hd:(xs.getD k 0-base)%65536=d at *
    (repeat' (first | (with_reducible trivial) | (guard_target=False;omega) | (with_reducible refine aC ?_ ?_ ?_;omega;omega) | ((fail_if_success (with_reducible refine aC ?_ ?_ ?_));(with_reducible refine ⟨_,rfl, ?_⟩)) | (with_reducible refine ckI ?_ ?_;first | rfl | (simp[aL,aB,hlk]<;>omega)) | ((first | (with_reducible refine aD (fun _ => ?_) fun _ => ?_) | (with_reducible refine aP (fun _ => ?_) fun _ => ?_))<;>try (exfalso;omega))))
    refine kS (i:=k) hk (by omega) ?_
    (repeat' (first | (with_reducible trivial) | (guard_target=False;omega) | (with_reducible refine aC ?_ ?_ ?_;omega;omega) | ((fail_if_success (with_reducible refine aC ?_ ?_ ?_));(with_reducible refine ⟨_,rfl, ?_⟩)) | (with_reducible refine ckI ?_ ?_;first | rfl | (simp[aL,aB,hlk]<;>omega)) | ((first | (with_reducible refine aD (fun _ => ?_) fun _ => ?_) | (with_reducible refine aP (fun _ => ?_) fun _ => ?_))<;>try (exfalso;omega))))
    refine ⟨⟨trivial,by trivial⟩,.inr ⟨(xs,k+1,j,m,d.toNat),⟨rfl,rfl,hx,hbase.symm,g5, ?_,hk,g8,g9, ?_, ?_,g12⟩, ?_, ?_⟩⟩
    ·show j<k+1
     omega
    ·show aU base (d.toNat:Int) _=true
     rw[Int.toNat_of_nonneg (by omega)];exact s2
    ·show 16<d.toNat
     omega
    ·show xs.length-(k+1)<xs.length-k
     omega
    ·have e1:aA ((xs.take k).drop j)++[AV.int .i64 (xs.getD k 0)]=aA ((xs.take (k+1)).drop j):=by
      rw[mH xs 0 hk,List.drop_append_of_le_length (by rw[List.length_take];omega)]
      simp[aA]
     have e2:k-j+1=k+1-j:=by omega
     dsimp only
     rw[e1]
     simp[e2]
   ·have hk:k=xs.length:=by omega
    subst hk
    rw[List.take_length]
    rw[g8,g9] at hpc
    have hlk:(List.drop j xs).length=xs.length-j:=by simp
    have hny:=gI (xs.drop j)
    (repeat' (first | (with_reducible trivial) | (guard_target=False;omega) | (with_reducible refine aC ?_ ?_ ?_;omega;omega) | ((fail_if_success (with_reducible refine aC ?_ ?_ ?_));(with_reducible refine ⟨_,rfl, ?_⟩)) | (with_reducible refine ckI ?_ ?_;first | rfl | (simp[aL,aB,hlk,hny.1]<;>omega)) | ((first | (with_reducible refine aD (fun _ => ?_) fun _ => ?_) | (with_reducible refine aP (fun _ => ?_) fun _ => ?_))<;>try (exfalso;omega))))
    refine ⟨⟨trivial,by trivial⟩,.inr (.inl ⟨(xs.drop j,[(base,(m:Int))]),⟨hpc,aB7 j hx,by simp, ?_⟩, ?_, ?_⟩)⟩
    ·simp only[List.length_cons,List.length_nil,List.length_drop];omega
    ·simp only[List.length_drop];omega
    ·have e3:(xs.length-j)*1=(aA (xs.drop j)).length:=by rw[aB];omega
     rw[e3,List.drop_zero,List.take_length]
     simp[aR,List.length_drop]
 ·rintro ⟨l,done⟩ ⟨f1,hx,f3,f4⟩
  dsimp only at *
  by_cases hl0:l.length=0
  ·have e0:l=[]:=List.length_eq_zero_iff.1 hl0
   subst e0
   rw[aM,List.append_nil] at f1
   rw[←f1]
   exact ⟨_,rfl,hq _ 1 rfl⟩
  have hl:1≤l.length:=by omega
  have hlp:=dA done
  have hb:=rM hx (i:=0) (by omega)
  have hpc:=xD (l:=l) (by omega)
  have hx3:=hx.2.2
  (repeat' (first | (with_reducible trivial) | (guard_target=False;omega) | (with_reducible refine aC ?_ ?_ ?_;omega;omega) | ((fail_if_success (with_reducible refine aC ?_ ?_ ?_));(with_reducible refine ⟨_,rfl, ?_⟩)) | (with_reducible refine ckI ?_ ?_;first | rfl | (simp[aL,aB,hlp]<;>omega)) | ((first | (with_reducible refine aD (fun _ => ?_) fun _ => ?_) | (with_reducible refine aP (fun _ => ?_) fun _ => ?_))<;>try (exfalso;omega))))
  refine kS (i:=0) (by omega) rfl ?_
  generalize hbase:l.getD 0 0=base at *
  refine ⟨.inl ⟨(l,1,0,0,0),⟨rfl,rfl,hx,hbase.symm,by simp,by simpa using hl,rfl,rfl,hx3,by simp,by simp⟩,by simp⟩, ?_, ?_⟩
  ·rintro ⟨l2,k,j,m,far⟩ ⟨g1,g2,g3,g4,g5,g6,g7,g8,g9,g10,g11⟩
   dsimp only at *
   obtain rfl:=kF g1
   (repeat' (first | (with_reducible trivial) | (guard_target=False;omega) | (with_reducible refine aC ?_ ?_ ?_;omega;omega) | ((fail_if_success (with_reducible refine aC ?_ ?_ ?_));(with_reducible refine ⟨_,rfl, ?_⟩)) | (with_reducible refine ckI ?_ ?_;first | rfl | (simp[aL,aB]<;>omega)) | ((first | (with_reducible refine aD (fun _ => ?_) fun _ => ?_) | (with_reducible refine aP (fun _ => ?_) fun _ => ?_))<;>try (exfalso;omega))))
   ·have hk:k<l.length:=by omega
    have hn:=rM hx hk
    have hp:=aPd g11
    refine kS (i:=k) hk (by omega) (aC (by omega) (by omega) (aC (by omega) (by omega) ⟨_,rfl, ?_⟩))
    rw[bLy hn hb]
    generalize hd:(l.getD k 0-base)%65536=d
    obtain ⟨s1,s2,s3,s4,s5⟩:=aZg hk g9 g10 d hd.symm
    refine aD (fun _ => ?_) (fun h=>by omega)
    refine aD (fun h16 => ?_) (fun h16 => ?_)
    ·obtain ⟨s6,s7,s8⟩:=s4 h16
     have hp2:=aPd (show d.toNat≤16 by omega)
     (repeat' (first | (with_reducible trivial) | (guard_target=False;omega) | (with_reducible refine aC ?_ ?_ ?_;omega;omega) | ((fail_if_success (with_reducible refine aC ?_ ?_ ?_));(with_reducible refine ⟨_,rfl, ?_⟩)) | (with_reducible refine ckI ?_ ?_;first | rfl | (simp[aL,aB]<;>omega)) | ((first | (with_reducible refine aD (fun _ => ?_) fun _ => ?_) | (with_reducible refine aP (fun _ => ?_) fun _ => ?_))<;>try (exfalso;omega))))
     refine bQn (by omega) ?_
     generalize (2:Nat)^(d-1).toNat=q at *
     (repeat' (first | (with_reducible trivial) | (guard_target=False;omega) | (with_reducible refine aC ?_ ?_ ?_;omega;omega) | ((fail_if_success (with_reducible refine aC ?_ ?_ ?_));(with_reducible refine ⟨_,rfl, ?_⟩)) | (with_reducible refine ckI ?_ ?_;first | rfl | (simp[aL,aB]<;>omega)) | ((first | (with_reducible refine aD (fun _ => ?_) fun _ => ?_) | (with_reducible refine aP (fun _ => ?_) fun _ => ?_))<;>try (exfalso;omega))))
     refine ⟨⟨trivial,by trivial⟩,.inl ⟨(l,k+1,0,m+q,d.toNat),⟨rfl,rfl,hx,hbase.symm,by simp,hk,g7.trans s6,g8.trans s7, ?_,s8, ?_⟩, ?_,by simp⟩⟩
     ·show aU base (d.toNat:Int) _=true
      rw[Int.toNat_of_nonneg (by omega)];exact s3
     ·show d.toNat≤16
      omega
     ·show l.length-(k+1)<l.length-k
      omega
    ·obtain ⟨s6,s7⟩:=s5 (by omega)
     (repeat' (first | (with_reducible trivial) | (guard_target=False;omega) | (with_reducible refine aC ?_ ?_ ?_;omega;omega) | ((fail_if_success (with_reducible refine aC ?_ ?_ ?_));(with_reducible refine ⟨_,rfl, ?_⟩)) | (with_reducible refine ckI ?_ ?_;first | rfl | (simp[aL,aB]<;>omega)) | ((first | (with_reducible refine aD (fun _ => ?_) fun _ => ?_) | (with_reducible refine aP (fun _ => ?_) fun _ => ?_))<;>try (exfalso;omega))))
     refine kS (i:=k) hk (by omega) ?_
     (repeat' (first | (with_reducible trivial) | (guard_target=False;omega) | (with_reducible refine aC ?_ ?_ ?_;omega;omega) | ((fail_if_success (with_reducible refine aC ?_ ?_ ?_));(with_reducible refine ⟨_,rfl, ?_⟩)) | (with_reducible refine ckI ?_ ?_;first | rfl | (simp[aL,aB]<;>omega)) | ((first | (with_reducible refine aD (fun _ => ?_) fun _ => ?_) | (with_reducible refine aP (fun _ => ?_) fun _ => ?_))<;>try (exfalso;omega))))
     refine ⟨⟨trivial,by trivial⟩,.inr ⟨(l,k+1,k,m,d.toNat),⟨rfl,rfl,hx,hbase.symm,g5,Nat.lt_succ_self _,hk,g7.trans s6,g8.trans s7, ?_, ?_, ?_⟩, ?_, ?_⟩⟩
     ·show aU base (d.toNat:Int) _=true
      rw[Int.toNat_of_nonneg (by omega)];exact s3
     ·show 16<d.toNat
      omega
     ·show m<65536
      omega
     ·show l.length-(k+1)<l.length-k
      omega
     ·have e1:(l.take (k+1)).drop k=[l.getD k 0]:=by
       rw[mH l 0 hk,List.drop_append_of_le_length (by rw[List.length_take];omega),List.drop_of_length_le (by rw[List.length_take];omega),List.nil_append]
      dsimp only
      rw[e1,show k+1-k=1 by omega]
      simp[aA]
   ·have hk:k=l.length:=by omega
    subst hk
    rw[List.drop_length] at g7 g8
    simp only[lY,lJ] at g7 g8
    rw[g7,g8,aM] at hpc
    (repeat' (first | (with_reducible trivial) | (guard_target=False;omega) | (with_reducible refine aC ?_ ?_ ?_;omega;omega) | ((fail_if_success (with_reducible refine aC ?_ ?_ ?_));(with_reducible refine ⟨_,rfl, ?_⟩)) | (with_reducible refine ckI ?_ ?_;first | rfl | (simp[aL,aB,hlp]<;>omega)) | ((first | (with_reducible refine aD (fun _ => ?_) fun _ => ?_) | (with_reducible refine aP (fun _ => ?_) fun _ => ?_))<;>try (exfalso;omega))))
    refine ⟨⟨trivial,by trivial⟩,.inr (.inl ⟨([],done++[(base,(m:Int))]),⟨?_, ?_, ?_, ?_⟩, ?_, ?_⟩)⟩
    ·rw[f1,hpc];simp[aM]
    ·exact ⟨by simp,by simp,rfl⟩
    ·simp
    ·simp only[List.length_append,List.length_cons,List.length_nil];omega
    ·show ([]:List Int).length<l.length
     exact hl
    ·have e2:2*(done.length+1)=2*done.length+2:=by omega
     simp[aR,aA,e2]
  ·rintro ⟨l2,k,j,m,far⟩ ⟨g1,g2,g3,g4,g5,g6,g7,g8,g9,g10,g11,g12⟩
   dsimp only at *
   obtain rfl:=kF g1
   (repeat' (first | (with_reducible trivial) | (guard_target=False;omega) | (with_reducible refine aC ?_ ?_ ?_;omega;omega) | ((fail_if_success (with_reducible refine aC ?_ ?_ ?_));(with_reducible refine ⟨_,rfl, ?_⟩)) | (with_reducible refine ckI ?_ ?_;first | rfl | (simp[aL,aB]<;>omega)) | ((first | (with_reducible refine aD (fun _ => ?_) fun _ => ?_) | (with_reducible refine aP (fun _ => ?_) fun _ => ?_))<;>try (exfalso;omega))))
   ·have hk:k<l.length:=by omega
    have hn:=rM hx hk
    obtain ⟨s1,s2⟩:=bH4 hk g10
    have hlk:(List.drop j (List.take k l)).length=k-j:=by simp;omega
    refine kS (i:=k) hk (by omega) (aC (by omega) (by omega) (aC (by omega) (by omega) ⟨_,rfl, ?_⟩))
    rw[bLy hn hb]
    generalize hd:(l.getD k 0-base)%65536=d at *
    (repeat' (first | (with_reducible trivial) | (guard_target=False;omega) | (with_reducible refine aC ?_ ?_ ?_;omega;omega) | ((fail_if_success (with_reducible refine aC ?_ ?_ ?_));(with_reducible refine ⟨_,rfl, ?_⟩)) | (with_reducible refine ckI ?_ ?_;first | rfl | (simp[aL,aB,hlk]<;>omega)) | ((first | (with_reducible refine aD (fun _ => ?_) fun _ => ?_) | (with_reducible refine aP (fun _ => ?_) fun _ => ?_))<;>try (exfalso;omega))))
    refine kS (i:=k) hk (by omega) ?_
    (repeat' (first | (with_reducible trivial) | (guard_target=False;omega) | (with_reducible refine aC ?_ ?_ ?_;omega;omega) | ((fail_if_success (with_reducible refine aC ?_ ?_ ?_));(with_reducible refine ⟨_,rfl, ?_⟩)) | (with_reducible refine ckI ?_ ?_;first | rfl | (simp[aL,aB,hlk]<;>omega)) | ((first | (with_reducible refine aD (fun _ => ?_) fun _ => ?_) | (with_reducible refine aP (fun _ => ?_) fun _ => ?_))<;>try (exfalso;omega))))
    refine ⟨⟨trivial,by trivial⟩,.inr ⟨(l,k+1,j,m,d.toNat),⟨rfl,rfl,hx,hbase.symm,g5, ?_,hk,g8,g9, ?_, ?_,g12⟩, ?_, ?_⟩⟩
    ·show j<k+1
     omega
    ·show aU base (d.toNat:Int) _=true
     rw[Int.toNat_of_nonneg (by omega)];exact s2
    ·show 16<d.toNat
     omega
    ·show l.length-(k+1)<l.length-k
     omega
    ·have e1:aA ((l.take k).drop j)++[AV.int .i64 (l.getD k 0)]=aA ((l.take (k+1)).drop j):=by
      rw[mH l 0 hk,List.drop_append_of_le_length (by rw[List.length_take];omega)]
      simp[aA]
     have e2:k-j+1=k+1-j:=by omega
     dsimp only
     rw[e1]
     simp[e2]
   ·have hk:k=l.length:=by omega
    subst hk
    rw[List.take_length]
    rw[g8,g9] at hpc
    have hlk:(List.drop j l).length=l.length-j:=by simp
    have hny:=gI (l.drop j)
    (repeat' (first | (with_reducible trivial) | (guard_target=False;omega) | (with_reducible refine aC ?_ ?_ ?_;omega;omega) | ((fail_if_success (with_reducible refine aC ?_ ?_ ?_));(with_reducible refine ⟨_,rfl, ?_⟩)) | (with_reducible refine ckI ?_ ?_;first | rfl | (simp[aL,aB,hlk,hny.1]<;>omega)) | ((first | (with_reducible refine aD (fun _ => ?_) fun _ => ?_) | (with_reducible refine aP (fun _ => ?_) fun _ => ?_))<;>try (exfalso;omega))))
    refine ⟨⟨trivial,by trivial⟩,.inr (.inl ⟨(l.drop j,done++[(base,(m:Int))]),⟨?_,aB7 j hx, ?_, ?_⟩, ?_, ?_⟩)⟩
    ·rw[f1,hpc];simp
    ·simp
    ·simp only[List.length_append,List.length_cons,List.length_nil,List.length_drop];omega
    ·simp only[List.length_drop];omega
    ·have e3:(l.length-j)*1=(aA (l.drop j)).length:=by rw[aB];omega
     have e2:2*(done.length+1)=2*done.length+2:=by omega
     rw[e3,List.drop_zero,List.take_length]
     simp[aR,List.length_drop,e2]
 ·rintro a ⟨g1,g2⟩
  subst g1
  exact ⟨_,rfl,hq [⟨.grow,true,aR (aM xs)⟩] 0 rfl⟩

theorem bI2 {xs:List Int} (h:bV xs=true):aK5 xs:=by
 obtain ⟨h1,h2,h3,h4⟩:=eQ h
 refine ⟨fun x hx => ?_,h2.2, ?_⟩
 ·obtain ⟨i,hi,rfl⟩:=List.mem_iff_getElem.1 hx
  exact aV9 h1 hi
 ·cases xs with
  | nil=>rfl
  | cons x l=>
   simp only[List.getD_cons_zero,List.drop_one,List.tail_cons] at h4 ⊢
   rw[aU] at h4
   split at h4
   ·cases h4
   ·have e:(x-x)%65536=0:=by omega
    rw[e] at h4
    exact h4
theorem aQ5:aO Tryd.prog glC 21 tJ:=by
 refine fE (enters_of (by kernel_rfl)) aV 9 (nlR [2]) (vZ _) fun args H Q hc => ?_
 unfold tJ at hc
 split at hc
 ·rename_i t l n
  obtain ⟨xs,⟨rfl,rfl,hn⟩,hq⟩:=hc
  obtain ⟨h1,h2,h3,h4⟩:=eQ hn
  have hlen:=dA (aM xs)
  obtain ⟨hv,hb',h⟩:=aSx t xs (fun o H' _=>∃v,o=.ret v∧Q (.ret (nlR [2] (dK 0 H' 9 v))) H) (bI2 hn) h2.1 (fun H' id e=>by
   refine ⟨_,rfl, ?_⟩
   have hle:(aR (aM xs)).length≤(aM xs).length*2:=by omega
   rw[mE (cs:=aR (aM xs)) e hlen (by omega) (by simp) (by rw[List.drop_zero];exact List.take_of_length_le hle) (pX _)]
   exact hq)
  exact ⟨rfl,rfl,_,1000,⟨dX,eB,eF,fB⟩,rfl,h⟩
 ·exact hc.elim
theorem aUg:aO Tryd.prog glC 21 aCl:=dW aQ5 aV [1] wD
end Go.Proofs.YtafchcmemeinlaaDoor
