/-
  Chapter 24: times of arrival as octets.
-/
import Derived.Test.YtafchcmemeinlaaDoorCmC
set_option linter.unusedSimpArgs false
set_option linter.unusedVariables false
set_option linter.unusedSectionVars false
namespace Go.Proofs.YtafchcmemeinlaaDoor
open Go.RowKit
set_option maxRecDepth 1000000

def oU (d:Int):Int:=if 0≤d∧d≤255 then 1 else 2
def bA:List Int→List Int→List Int
 | [],_=>[]
 | t::ts,l=>if t = -1 then 0::bA ts l else oU (l.getD 0 0)::bA ts (l.drop 1)
def dF (l:List Int):Nat:=(l.filter (· != -1)).length
def eZ (S:List Int):Nat→Int
 | 0=>0
 | i+1=>if i%7=6 then 0 else 4*eZ S i+S.getD i 0
def aW (S:List Int):Nat→List UInt8
 | 0=>[]
 | i+1=>if i%7=6 then aW S i++aJ 2 [49152+(4*eZ S i+S.getD i 0)] else aW S i
def bD (l:List Int):List UInt8:=l.flatMap fun d=>aJ (oU d).toNat [d]
def fF (times:List Int) (ref round:Int):List UInt8:=aJ 2 [(times.length:Int)]++aJ 3 [ref]++aJ 1 [round]
def pJ (times:List Int) (round:Int):List UInt8:=match dM times with
 | some p=>fF times p.1 round++aW (bA times p.2) ((times.length+6)/7*7)++bD p.2
 | none=>[]
def bQy:SM:=gH [(67,aNx),(70,aKh)]
theorem bBk:∀f g,bQy f=some g→aO Tryd.prog glC f g:=bW _ (by simp only[List.mem_cons,List.not_mem_nil,or_false,forall_eq_or_imp,forall_eq];exact ⟨aQ2,aK2⟩)
def bKn (t:Nat) (xs l:List Int) (bs:List UInt8):List LInv:=[
 { α:=Nat,pre:=fun i=>Lf (i≤(xs.length+6)/7*7∧dF (xs.take i)=0),st:=fun i=>⟨mkT [(0,.sl 0 (bs++aW (bA xs l) i).length 0 (bs++aW (bA xs l) i).length 1),(1,.lst t (aA xs) xs.length 1),(8,.lst 0 (aA l) l.length 1),(10,.nils),(11,.int .i64 (eZ (bA xs l) i)),(12,.int .i64 0),(38,.int .i64 (((xs.length+6)/7*7:Nat):Int)),(39,.int .i64 (i:Nat))],[⟨.grow,true,ofBytes (bs++aW (bA xs l) i)⟩]⟩,mu:=fun i=>(xs.length+6)/7*7-i },
 { α:=Nat,pre:=fun i=>Lf (i≤(xs.length+6)/7*7∧1≤dF (xs.take i)),st:=fun i=>⟨mkT [(0,.sl 0 (bs++aW (bA xs l) i).length 0 (bs++aW (bA xs l) i).length 1),(1,.lst t (aA xs) xs.length 1),(8,.lst 0 (aA l) l.length 1),(10,.sl 1 (bD (l.take (dF (xs.take i)))).length 0 (bD (l.take (dF (xs.take i)))).length 1),(11,.int .i64 (eZ (bA xs l) i)),(12,.int .i64 (dF (xs.take i):Nat)),(38,.int .i64 (((xs.length+6)/7*7:Nat):Int)),(39,.int .i64 (i:Nat))],[⟨.grow,true,ofBytes (bs++aW (bA xs l) i)⟩,⟨.grow,true,ofBytes (bD (l.take (dF (xs.take i))))⟩]⟩,mu:=fun i=>(xs.length+6)/7*7-i }]
noncomputable def aX0 (hv:Nat→Option Pa) (hb:Nat→Option Bool) (t:Nat) (xs l:List Int) (bs:List UInt8):Env:=e24 bQy (fun i=>bif Nat.beq i 68000 then some (fun _=>[bKn t xs l bs]) else none) hv hb
noncomputable def aI1 (hv:Nat→Option Pa) (hb:Nat→Option Bool) (t:Nat) (xs l:List Int) (ref round:Int) (bs:List UInt8) (Q:Out→List Blk→Gh→Prop):Prop:=
 bH (aX0 hv hb t xs l (bs++fF xs ref round)) (wpx (aX0 hv hb t xs l (bs++fF xs ref round)) 1000) 68 [.sl 0 bs.length 0 bs.length 1,.lst t (aA xs) xs.length 1,.int .i64 round] [⟨.grow,true,ofBytes bs⟩] {} Q
def aNq (xs:List Int) (l:List Int):Prop:=(
(((AV.lst (0:Nat) (aA l) (List.length l) (1:Nat))=(AV.lst (0:Nat) (aA l) (List.length l) (1:Nat))) ∧
 (((AV.int .i64 (0:Int))=(AV.int .i64 (0:Int))) ∧
 ((AV.nils=AV.nils) ∧
 (((AV.int .i64 (Nat.cast ((((List.length xs)+(6:Nat))/(7:Nat))*(7:Nat)):Int))=(AV.int .i64 (Nat.cast ((((List.length xs)+(6:Nat))/(7:Nat))*(7:Nat)):Int))) ∧
 True)))))
abbrev xP (xs:List Int) (l:List Int) (x_17:Nat) (n_21:Int) (n_18:Int) (bs:List UInt8) (ref:Int) (round:Int) (t:Nat):Prop:=
AV.int .i64 (eZ (bA xs l) x_17)=AV.int .i64 n_21∧exW .i64 (n_21*4) fun n_22=>exW .i64 (((n_22%18446744073709551616).toNat ||| 0:Nat):Int) fun n_23=>exI .i64 (n_18.tmod 7) fun n_24=>bif n_24==6 then exW .i64 ((49152
 ||| (n_23%18446744073709551616).toNat:Nat):Int) fun n_25=>∃bs_26:List UInt8,∃xs_27:List Int,Lf (GetElem?.getElem? [Blk.mk BK.grow true (ofBytes (bs++fF xs ref round++aW (bA xs l) x_17)),Blk.mk BK.grow true
 (ofBytes (bD (l.take (dF (xs.take x_17)))))] 0=Option.some (Blk.mk BK.grow true (ofBytes bs_26))∧(bs++fF xs ref round++aW (bA xs l) x_17).length=bs_26.length∧(bs++fF xs ref round++aW (bA xs l)
 x_17).length=bs_26.length∧bs_26.length≤1000000∧[AV.int .i64 n_25]=aA xs_27∧1=xs_27.length∧(1:Int)≤(2:Int)∧(2:Int)≤(7:Int)∧xs_27.length≤1000000)∧exW .i64 ((x_17:Int)+1) fun n_28=>(True∧(0 :
 Nat)=(0:Nat))∧((∃y_29:Nat,Lf (y_29≤(xs.length+6)/7*7∧dF (xs.take y_29)=0)∧(xs.length+6)/7*7-y_29<(xs.length+6)/7*7-x_17∧ofBytes (bs_26++aJ 2 xs_27)=ofBytes (bs++fF xs ref round ++
 aW (bA xs l) y_29)∧False)∨∃y_29:Nat,Lf (y_29≤(xs.length+6)/7*7∧1≤dF (xs.take y_29))∧(xs.length+6)/7*7-y_29<(xs.length+6)/7*7-x_17∧ofBytes (bs_26++aJ 2 xs_27)=ofBytes (bs++fF xs ref
 round++aW (bA xs l) y_29)∧ofBytes (bD (l.take (dF (xs.take x_17))))=ofBytes (bD (l.take (dF (xs.take y_29))))∧AV.sl 0 (bs_26++aJ 2 xs_27).length 0 (bs_26++aJ 2 xs_27).length 1=AV.sl 0 (bs++fF xs ref
 round++aW (bA xs l) y_29).length 0 (bs++fF xs ref round++aW (bA xs l) y_29).length 1∧aK (AV.lst t (aA xs) xs.length 1)∧AV.int .i64 n_28=AV.int .i64 (y_29:Int)∧AV.int .i64 0=AV.int .i64 (eZ (bA xs l)
 y_29)∧aK (AV.lst 0 (aA l) l.length 1)∧AV.int .i64 (dF (xs.take x_17):Int)=AV.int .i64 (dF (xs.take y_29):Int)∧AV.sl 1 (bD (l.take (dF (xs.take x_17)))).length 0 (bD (l.take (dF (xs.take x_17)))).length 1 =
 AV.sl 1 (bD (l.take (dF (xs.take y_29)))).length 0 (bD (l.take (dF (xs.take y_29)))).length 1∧aK (AV.int .i64 (((xs.length+6)/7*7:Nat):Int))∧True) else exW .i64 ((x_17:Int)+1) fun n_25=>(True∧(0:Nat) =
 (0:Nat))∧((∃y_26:Nat,Lf (y_26≤(xs.length+6)/7*7∧dF (xs.take y_26)=0)∧(xs.length+6)/7*7-y_26<(xs.length+6)/7*7-x_17∧ofBytes (bs++fF xs ref round++aW (bA xs l) x_17)=ofBytes (bs ++
 fF xs ref round++aW (bA xs l) y_26)∧False)∨∃y_26:Nat,Lf (y_26≤(xs.length+6)/7*7∧1≤dF (xs.take y_26))∧(xs.length+6)/7*7-y_26<(xs.length+6)/7*7-x_17∧ofBytes (bs++fF xs ref round ++
 aW (bA xs l) x_17)=ofBytes (bs++fF xs ref round++aW (bA xs l) y_26)∧ofBytes (bD (l.take (dF (xs.take x_17))))=ofBytes (bD (l.take (dF (xs.take y_26))))∧AV.sl 0 (bs++fF xs ref round++aW (bA xs l)
 x_17).length 0 (bs++fF xs ref round++aW (bA xs l) x_17).length 1=AV.sl 0 (bs++fF xs ref round++aW (bA xs l) y_26).length 0 (bs++fF xs ref round++aW (bA xs l) y_26).length 1∧aK (AV.lst t (aA xs)
 xs.length 1)∧AV.int .i64 n_25=AV.int .i64 (y_26:Int)∧AV.int .i64 n_23=AV.int .i64 (eZ (bA xs l) y_26)∧aK (AV.lst 0 (aA l) l.length 1)∧AV.int .i64 (dF (xs.take x_17):Int)=AV.int .i64 (dF (xs.take y_26):Int)
 ∧ AV.sl 1 (bD (l.take (dF (xs.take x_17)))).length 0 (bD (l.take (dF (xs.take x_17)))).length 1=AV.sl 1 (bD (l.take (dF (xs.take y_26)))).length 0 (bD (l.take (dF (xs.take y_26)))).length 1∧aK (AV.int .i64
 (((xs.length+6)/7*7:Nat):Int))∧True)
abbrev yH (xs:List Int) (l:List Int) (x_17:Nat) (n_21:Int) (n_18:Int) (bs:List UInt8) (ref:Int) (round:Int) (t:Nat):Prop:=
AV.int .i64 (eZ (bA xs l) x_17)=AV.int .i64 n_21∧exW .i64 (n_21*4) fun n_22=>exW .i64 (((n_22%18446744073709551616).toNat ||| 0:Nat):Int) fun n_23=>exI .i64 (n_18.tmod 7) fun n_24=>bif n_24==6 then exW .i64 ((49152
 ||| (n_23%18446744073709551616).toNat:Nat):Int) fun n_25=>∃bs_26:List UInt8,∃xs_27:List Int,Lf (GetElem?.getElem? [Blk.mk BK.grow true (ofBytes (bs++fF xs ref round++aW (bA xs l) x_17))] 0=Option.some (Blk.mk
 BK.grow true (ofBytes bs_26))∧(bs++fF xs ref round++aW (bA xs l) x_17).length=bs_26.length∧(bs++fF xs ref round++aW (bA xs l) x_17).length=bs_26.length∧bs_26.length≤1000000∧[AV.int .i64 n_25]=aA
 xs_27∧1=xs_27.length∧(1:Int)≤(2:Int)∧(2:Int)≤(7:Int)∧xs_27.length≤1000000)∧exW .i64 ((x_17:Int)+1) fun n_28=>(True∧(0:Nat)=(0:Nat))∧((∃y_29:Nat,Lf (y_29≤(xs.length+6)/7*7∧dF
 (xs.take y_29)=0)∧(xs.length+6)/7*7-y_29<(xs.length+6)/7*7-x_17∧ofBytes (bs_26++aJ 2 xs_27)=ofBytes (bs++fF xs ref round++aW (bA xs l) y_29)∧AV.sl 0 (bs_26++aJ 2 xs_27).length 0 (bs_26++aJ
 2 xs_27).length 1=AV.sl 0 (bs++fF xs ref round++aW (bA xs l) y_29).length 0 (bs++fF xs ref round++aW (bA xs l) y_29).length 1∧aK (AV.lst t (aA xs) xs.length 1)∧AV.int .i64 n_28=AV.int .i64 (y_29:Int) ∧
 AV.int .i64 0=AV.int .i64 (eZ (bA xs l) y_29)∧aNq xs l)∨∃y_29:Nat,Lf (y_29≤(xs.length+6)/7*7∧1≤dF (xs.take y_29))∧(xs.length+6)/7*7-y_29<(xs.length+6)/7*7-x_17∧ofBytes (bs_26++aJ 2
 xs_27)=ofBytes (bs++fF xs ref round++aW (bA xs l) y_29)∧False) else exW .i64 ((x_17:Int)+1) fun n_25=>(True∧(0:Nat)=(0:Nat))∧((∃y_26:Nat,Lf (y_26≤(xs.length+6)/7*7∧dF (xs.take y_26)=0) ∧
 (xs.length+6)/7*7-y_26<(xs.length+6)/7*7-x_17∧ofBytes (bs++fF xs ref round++aW (bA xs l) x_17)=ofBytes (bs++fF xs ref round++aW (bA xs l) y_26)∧AV.sl 0 (bs++fF xs ref round++aW (bA
 xs l) x_17).length 0 (bs++fF xs ref round++aW (bA xs l) x_17).length 1=AV.sl 0 (bs++fF xs ref round++aW (bA xs l) y_26).length 0 (bs++fF xs ref round++aW (bA xs l) y_26).length 1∧aK (AV.lst t (aA
 xs) xs.length 1)∧AV.int .i64 n_25=AV.int .i64 (y_26:Int)∧AV.int .i64 n_23=AV.int .i64 (eZ (bA xs l) y_26)∧aNq xs l)∨∃y_26:Nat,Lf (y_26≤(xs.length+6)/7*7∧1≤dF (xs.take y_26))∧(xs.length+6)/7*7
 - y_26<(xs.length+6)/7*7-x_17∧ofBytes (bs++fF xs ref round++aW (bA xs l) x_17)=ofBytes (bs++fF xs ref round++aW (bA xs l) y_26)∧False)
abbrev vV (bs:List UInt8) (xs:List Int) (ref:Int) (round:Int) (l:List Int) (x_17:Nat) (Q:Out→List Blk→Gh→Prop):Prop:=
ckQ (Nat.beq (ofBytes (bs++fF xs ref round++aW (bA xs l) x_17)).length (bs++fF xs ref round++aW (bA xs l) x_17).length&&true) (true=true∧Q (.ret (.sl 0 (bs++fF xs ref round++aW (bA xs l) x_17).length 0
 (bs++fF xs ref round++aW (bA xs l) x_17).length 1)) [Blk.mk BK.grow true (ofBytes (bs++fF xs ref round++aW (bA xs l) x_17))] {})
abbrev yM (l:List Int) (n_29:Int) (y_38:Nat) (xs:List Int) (bs_26:List UInt8) (xs_27:List Int):Prop:=
aK (AV.lst 0 (aA l) l.length 1)∧AV.int .i64 n_29=AV.int .i64 (dF (xs.take y_38):Int)∧AV.sl 1 (bs_26++aJ 2 xs_27).length 0 (bs_26++aJ 2 xs_27).length 1=AV.sl 1 (bD (l.take (dF (xs.take y_38)))).length 0 (bD
 (l.take (dF (xs.take y_38)))).length 1∧aK (AV.int .i64 (((xs.length+6)/7*7:Nat):Int))∧True
abbrev xX (l:List Int) (n_29:Int) (y_38:Nat) (xs:List Int) (bs_26:List UInt8) (xs_27:List Int):Prop:=
aK (AV.lst 0 (aA l) l.length 1)∧AV.int .i64 n_29=AV.int .i64 (dF (xs.take y_38):Int)∧AV.sl 1 (bs_26++aJ 1 xs_27).length 0 (bs_26++aJ 1 xs_27).length 1=AV.sl 1 (bD (l.take (dF (xs.take y_38)))).length 0 (bD
 (l.take (dF (xs.take y_38)))).length 1∧aK (AV.int .i64 (((xs.length+6)/7*7:Nat):Int))∧True
abbrev yU (l:List Int) (n_28:Int) (y_37:Nat) (xs:List Int) (xs_26:List Int):Prop:=
aK (AV.lst 0 (aA l) l.length 1)∧AV.int .i64 n_28=AV.int .i64 (dF (xs.take y_37):Int)∧AV.sl 1 (aJ 2 xs_26).length 0 (aJ 2 xs_26).length 1=AV.sl 1 (bD (l.take (dF (xs.take y_37)))).length 0 (bD (l.take (dF
 (xs.take y_37)))).length 1∧aK (AV.int .i64 (((xs.length+6)/7*7:Nat):Int))∧True
abbrev yG (l:List Int) (n_28:Int) (y_37:Nat) (xs:List Int) (xs_26:List Int):Prop:=
aK (AV.lst 0 (aA l) l.length 1)∧AV.int .i64 n_28=AV.int .i64 (dF (xs.take y_37):Int)∧AV.sl 1 (aJ 1 xs_26).length 0 (aJ 1 xs_26).length 1=AV.sl 1 (bD (l.take (dF (xs.take y_37)))).length 0 (bD (l.take (dF
 (xs.take y_37)))).length 1∧aK (AV.int .i64 (((xs.length+6)/7*7:Nat):Int))∧True
abbrev aL8 (xs_0:List Int):Prop:=xs_0.length≤1000000
abbrev wP (bs:List UInt8):Blk:=Blk.mk BK.grow true (ofBytes bs)
abbrev bLs (bs_7:List UInt8) (n_6:Int) (xs_8:List Int):Prop:=bs_7.length≤1000000∧[AV.int .i64 n_6]=aA xs_8∧1=xs_8.length∧(1:Int)≤(2:Int)∧(2:Int)≤(7:Int)∧aL8 xs_8
abbrev aCq (bs_7:List UInt8) (xs_8:List Int):List AV:=ofBytes (bs_7++aJ 2 xs_8)
abbrev bFk (round:Int) (xs_12:List Int):Prop:=[AV.int .i64 round]=aA xs_12∧1=xs_12.length∧(1:Int)≤(1:Int)∧(1:Int)≤(7:Int)∧xs_12.length≤1000000
abbrev aPx (xs:List Int):Nat:=(xs.length+6)/7*7
abbrev bMx (x_17:Nat) (xs:List Int):Prop:=Lf (x_17≤aPx xs∧dF (xs.take x_17)=0)
abbrev aGb (bs:List UInt8) (xs:List Int) (ref round:Int) (l:List Int) (x_17:Nat):List UInt8:=bs++fF xs ref round++aW (bA xs l) x_17
abbrev iA (bs:List UInt8) (xs:List Int) (ref round:Int) (l:List Int) (x_17:Nat):List AV:=ofBytes (aGb bs xs ref round l x_17)
abbrev aJy (bs:List UInt8) (xs:List Int) (ref round:Int) (l:List Int) (x_17:Nat):AV:=.sl 0 (aGb bs xs ref round l x_17).length 0 (aGb bs xs ref round l x_17).length 1
abbrev zR (t:Nat) (xs:List Int):Prop:=aK (AV.lst t (aA xs) xs.length 1)
abbrev zQ (xs l:List Int) (x_17:Nat):AV:=.int .i64 (eZ (bA xs l) x_17)
abbrev aN9 (x_17:Nat) (xs:List Int):Prop:=Lf (x_17≤aPx xs∧1≤dF (xs.take x_17))
abbrev aT0 (n_18:Int) (xs:List Int):Bool:=decide (0≤n_18)&&Nat.blt n_18.toNat xs.length&&true
abbrev aC3 (n_18:Int) (xs:List Int):Bool:=Nat.blt (n_18.toNat*1) (aA xs).length
abbrev aDj (xs:List Int) (n_18:Int):AV:=(aA xs).getD (n_18.toNat*1) AV.undef
abbrev aMe (n_30:Int):Nat:=(n_30%18446744073709551616).toNat
abbrev aPg (n_31:Int):Int:=((49152 ||| aMe n_31:Nat):Int)
abbrev aRn (bs:List UInt8) (xs:List Int) (ref round:Int) (l:List Int) (x_17:Nat) (bs_34:List UInt8) (n_33:Int) (xs_35:List Int):Prop:=(aGb bs xs ref round l x_17).length=bs_34.length∧(aGb bs xs ref round l x_17).length=bs_34.length∧bLs bs_34 n_33 xs_35
abbrev aDd:Prop:=True∧(0:Nat)=(0:Nat)
abbrev aP2 (xs:List Int) (x_17:Nat) (bs_34:List UInt8) (xs_35:List Int) (bs:List UInt8) (ref round:Int) (l:List Int):Prop:=∃y_37:Nat,bMx y_37 xs∧aPx xs-y_37<aPx xs-x_17∧ofBytes (bs_34++aJ 2 xs_35)=iA bs xs ref round l y_37∧False
abbrev zO (xs:List Int) (y_37 x_17:Nat):Prop:=aPx xs-y_37<aPx xs-x_17
abbrev aEv (y_37:Nat) (xs l:List Int):List UInt8:=bD (l.take (dF (xs.take y_37)))
abbrev rT (y_37:Nat) (xs l:List Int):List AV:=ofBytes (aEv y_37 xs l)
abbrev aPy (bs_34:List UInt8) (xs_35:List Int):AV:=.sl 0 (bs_34++aJ 2 xs_35).length 0 (bs_34++aJ 2 xs_35).length 1
abbrev aDh (n_36:Int) (y_37:Nat):Prop:=AV.int .i64 n_36=AV.int .i64 (y_37:Int)
abbrev bKo (xs:List Int) (x_17:Nat) (bs:List UInt8) (ref round:Int) (l:List Int):Prop:=∃y_34:Nat,Lf (y_34≤aPx xs∧dF (xs.take y_34)=0)∧zO xs y_34 x_17∧ofBytes (aGb bs xs ref round l x_17)=ofBytes (aGb bs xs ref round l y_34)∧False
abbrev bD3 (x_17:Nat) (xs l:List Int):List AV:=((rT x_17 xs l).drop 0).take ((aEv x_17 xs l).length*1)
theorem bN1 (t:Nat) (xs:List Int) (l:List Int) (ref:Int) (round:Int) (bs:List UInt8) (Q:Out→List Blk→Gh→Prop):aI1 (bG [(278548,.bool),(278537,.bool),(278551,.int .i64),(278563,.int .i64),(278564,.int
 .i64),(278565,.int .i64),(278566,.int .i64),(278569,.int .i64),(278572,.int .i64),(278578,.int .i64),(278584,.int .i64),(278585,.int .i64),(278592,.int .i64),(278597,.int .i64),(278598,.int .i64),(278600,.int .i64),
 (278602,.int .i64),(278606,.int .i64),(278609,.int .i64),(278582,.int .i64),(278590,.int .i64),(278595,.int .i64),(278596,.int .i64)]) (bF [(282622,true)]) t xs l ref round bs Q=(∃xs_0:List Int,Lf (aA xs=aA
 xs_0∧xs.length=xs_0.length∧aL8 xs_0)∧∀r_1:Int,∀l_2:List Int,∀b_3:Bool,Lf (aZ xs_0=Prod.mk r_1 (Prod.mk l_2 b_3))→exB (.bool b_3) (fun b_4=>exB (.bool b_4) (fun b_5=>exI .i64 (xs.length:Int) (fun n_6=>
 ∃bs_7:List UInt8,∃xs_8:List Int,Lf (GetElem?.getElem? [wP bs] 0=Option.some (wP bs_7)∧bs.length=bs_7.length∧bs.length=bs_7.length∧bLs bs_7 n_6 xs_8)∧∃bs_9:List UInt8,∃xs_10:List Int,Lf
 (GetElem?.getElem? [Blk.mk BK.grow true (aCq bs_7 xs_8)] 0=Option.some (wP bs_9)∧(bs_7++aJ 2 xs_8).length=bs_9.length∧(bs_7++aJ 2 xs_8).length=bs_9.length∧bs_9.length≤1000000∧[AV.int .i64 r_1]=aA xs_10 ∧
 1=xs_10.length∧(1:Int)≤(3:Int)∧(3:Int)≤(7:Int)∧aL8 xs_10)∧∃bs_11:List UInt8,∃xs_12:List Int,Lf (GetElem?.getElem? [Blk.mk BK.grow true (ofBytes (bs_9++aJ 3 xs_10))] 0=Option.some (wP bs_11)∧(bs_9
 ++ aJ 3 xs_10).length=bs_11.length∧(bs_9++aJ 3 xs_10).length=bs_11.length∧bs_11.length≤1000000∧bFk round xs_12)∧exI .i64 (xs.length:Int) (fun n_13=>exW .i64 (n_13+6) (fun n_14=>exW .i64 (n_14.tdiv 7) (fun n_15
 => exW .i64 (n_15*7) (fun n_16=>((∃x_17:Nat,bMx x_17 xs∧ofBytes (bs_11++aJ 1 xs_12)=iA bs xs ref round l x_17∧AV.sl 0 (bs_11++aJ 1 xs_12).length 0 (bs_11++aJ 1 xs_12).length 1=aJy bs xs ref round l x_17 ∧
 zR t xs∧AV.int .i64 0=AV.int .i64 (x_17:Int)∧AV.int .i64 0=zQ xs l x_17∧AV.lst 0 (aA l_2) l_2.length 1=AV.lst 0 (aA l) l.length 1∧aK (AV.int .i64 0)∧AV.nils=AV.nils∧AV.int .i64 n_16=AV.int .i64
 ((aPx xs:Nat):Int)∧True)∨∃x_17:Nat,aN9 x_17 xs∧ofBytes (bs_11++aJ 1 xs_12)=iA bs xs ref round l x_17∧False)∧(∀x_17:Nat,bMx x_17 xs→bif decide ((x_17:Int)<((aPx xs:Nat):Int)) then exI .i64 (x_17
 : Int) (fun n_18=>exI .i64 (xs.length:Int) (fun n_19=>bif decide (n_18<n_19) then ckQ (aT0 n_18 xs) (ckQ (aC3 n_18 xs) (exV .i64 (aDj xs n_18) (fun n_20=>bif n_20 !=-1 then exI .i64 0 (fun n_21=>ckQ (aT0 n_21 l) (ckQ
 (aC3 n_21 l) (exV .i64 (aDj l n_21) (fun n_22=>exI .i64 (Int.fdiv n_22 256) (fun n_23=>bif n_23 !=0 then exI .i64 0 (fun n_24=>ckQ (aT0 n_24 l) (ckQ (aC3 n_24 l) (exV .i64 (aDj l n_24) (fun n_25=>∃xs_26:List Int,Lf
 ([AV.int .i64 n_25]=aA xs_26∧1=xs_26.length∧(1:Int)≤(2:Int)∧(2:Int)≤(7:Int)∧1≤xs_26.length∧aL8 xs_26)∧exI .i64 0 (fun n_27=>exW .i64 (n_27+1) (fun n_28=>exI .i64 (eZ (bA xs l) x_17) (fun n_29
 => exW .i64 (n_29*4) (fun n_30=>exW .i64 ((aMe n_30 ||| 2:Nat):Int) (fun n_31=>exI .i64 (n_18.tmod 7) (fun n_32=>bif n_32==6 then exW .i64 (aPg n_31) (fun n_33=>∃bs_34:List UInt8,∃xs_35:List Int,Lf
 (GetElem?.getElem? [Blk.mk BK.grow true (iA bs xs ref round l x_17),Blk.mk BK.grow true (ofBytes (aJ 2 xs_26))] 0=Option.some (wP bs_34)∧aRn bs xs ref round l x_17 bs_34 n_33 xs_35)∧exW .i64 ((x_17:Int)+1) (fun n_36=>
 aDd∧(aP2 xs x_17 bs_34 xs_35 bs ref round l∨∃y_37:Nat,aN9 y_37 xs∧zO xs y_37 x_17∧aCq bs_34 xs_35=iA bs xs ref round l y_37∧ofBytes (aJ 2 xs_26)=rT y_37 xs l∧aPy bs_34 xs_35=aJy bs xs ref round l
 y_37∧zR t xs∧aDh n_36 y_37∧AV.int .i64 0=zQ xs l y_37∧yU l n_28 y_37 xs xs_26))) else exW .i64 ((x_17:Int)+1) (fun n_33=>aDd∧(bKo xs x_17 bs ref round l∨∃y_34:Nat,aN9 y_34 xs∧zO xs y_34 x_17
 ∧ iA bs xs ref round l x_17=iA bs xs ref round l y_34∧ofBytes (aJ 2 xs_26)=rT y_34 xs l∧aJy bs xs ref round l x_17=aJy bs xs ref round l y_34∧zR t xs∧aDh n_33 y_34∧AV.int .i64 n_31=zQ xs l y_34 ∧
 yU l n_28 y_34 xs xs_26)))))))))))) else exI .i64 0 (fun n_24=>ckQ (aT0 n_24 l) (ckQ (aC3 n_24 l) (exV .i64 (aDj l n_24) (fun n_25=>∃xs_26:List Int,Lf ([AV.int .i64 n_25]=aA xs_26∧1=xs_26.length∧(1:Int) ≤
 (1:Int)∧(1:Int)≤(7:Int)∧1≤xs_26.length∧aL8 xs_26)∧exI .i64 0 (fun n_27=>exW .i64 (n_27+1) (fun n_28=>exI .i64 (eZ (bA xs l) x_17) (fun n_29=>exW .i64 (n_29*4) (fun n_30=>exW .i64 ((aMe n_30 ||| 1 :
 Nat):Int) (fun n_31=>exI .i64 (n_18.tmod 7) (fun n_32=>bif n_32==6 then exW .i64 (aPg n_31) (fun n_33=>∃bs_34:List UInt8,∃xs_35:List Int,Lf (GetElem?.getElem? [Blk.mk BK.grow true (iA bs xs ref round l x_17),Blk.mk
 BK.grow true (ofBytes (aJ 1 xs_26))] 0=Option.some (wP bs_34)∧aRn bs xs ref round l x_17 bs_34 n_33 xs_35)∧exW .i64 ((x_17:Int)+1) (fun n_36=>aDd∧(aP2 xs x_17 bs_34 xs_35 bs ref round l∨∃y_37:Nat,aN9 y_37 xs
 ∧ zO xs y_37 x_17∧aCq bs_34 xs_35=iA bs xs ref round l y_37∧ofBytes (aJ 1 xs_26)=rT y_37 xs l∧aPy bs_34 xs_35=aJy bs xs ref round l y_37∧zR t xs∧aDh n_36 y_37∧AV.int .i64 0=zQ xs l y_37 ∧
 yG l n_28 y_37 xs xs_26))) else exW .i64 ((x_17:Int)+1) (fun n_33=>aDd∧(bKo xs x_17 bs ref round l∨∃y_34:Nat,aN9 y_34 xs∧zO xs y_34 x_17∧iA bs xs ref round l x_17=iA bs xs ref round l y_34∧ofBytes
 (aJ 1 xs_26)=rT y_34 xs l∧aJy bs xs ref round l x_17=aJy bs xs ref round l y_34∧zR t xs∧aDh n_33 y_34∧AV.int .i64 n_31=zQ xs l y_34∧yG l n_28 y_34 xs xs_26))))))))))))))))) else ∃n_21:Int,yH
 xs l x_17 n_21 n_18 bs ref round t))) else ∃n_20:Int,yH xs l x_17 n_20 n_18 bs ref round t)) else vV bs xs ref round l x_17 Q)∧∀x_17:Nat,aN9 x_17 xs→bif decide ((x_17:Int)<((aPx xs:Nat):Int)) then exI
 .i64 (x_17:Int) (fun n_18=>exI .i64 (xs.length:Int) (fun n_19=>bif decide (n_18<n_19) then ckQ (aT0 n_18 xs) (ckQ (aC3 n_18 xs) (exV .i64 (aDj xs n_18) (fun n_20=>bif n_20 !=-1 then exI .i64 (dF (xs.take x_17):Int)
 (fun n_21=>ckQ (aT0 n_21 l) (ckQ (aC3 n_21 l) (exV .i64 (aDj l n_21) (fun n_22=>exI .i64 (Int.fdiv n_22 256) (fun n_23=>bif n_23 !=0 then exI .i64 (dF (xs.take x_17):Int) (fun n_24=>ckQ (aT0 n_24 l) (ckQ (aC3 n_24 l)
 (exV .i64 (aDj l n_24) (fun n_25=>∃bs_26:List UInt8,∃xs_27:List Int,Lf (GetElem?.getElem? [Blk.mk BK.grow true (iA bs xs ref round l x_17),Blk.mk BK.grow true (rT x_17 xs l)] 1=Option.some (wP bs_26)∧(aEv x_17 xs
 l).length=bs_26.length∧(aEv x_17 xs l).length=bs_26.length∧bLs bs_26 n_25 xs_27)∧exI .i64 (dF (xs.take x_17):Int) (fun n_28=>exW .i64 (n_28+1) (fun n_29=>exI .i64 (eZ (bA xs l) x_17) (fun n_30=>exW .i64 (n_30 *
 4) (fun n_31=>exW .i64 ((aMe n_31 ||| 2:Nat):Int) (fun n_32=>exI .i64 (n_18.tmod 7) (fun n_33=>bif n_33==6 then exW .i64 (aPg n_32) (fun n_34=>∃bs_35:List UInt8,∃xs_36:List Int,Lf (GetElem?.getElem? [Blk.mk
 BK.grow true (iA bs xs ref round l x_17),Blk.mk BK.grow true (aCq bs_26 xs_27)] 0=Option.some (wP bs_35)∧aRn bs xs ref round l x_17 bs_35 n_34 xs_36)∧exW .i64 ((x_17:Int)+1) (fun n_37=>aDd∧(aP2 xs x_17 bs_35
 xs_36 bs ref round l∨∃y_38:Nat,aN9 y_38 xs∧zO xs y_38 x_17∧aCq bs_35 xs_36=iA bs xs ref round l y_38∧aCq bs_26 xs_27=rT y_38 xs l∧aPy bs_35 xs_36=aJy bs xs ref round l y_38∧zR t xs∧aDh n_37
 y_38∧AV.int .i64 0=zQ xs l y_38∧yM l n_29 y_38 xs bs_26 xs_27))) else exW .i64 ((x_17:Int)+1) (fun n_34=>aDd∧(bKo xs x_17 bs ref round l∨∃y_35:Nat,aN9 y_35 xs∧zO xs y_35 x_17∧iA bs xs ref round l
 x_17=iA bs xs ref round l y_35∧aCq bs_26 xs_27=rT y_35 xs l∧aJy bs xs ref round l x_17=aJy bs xs ref round l y_35∧zR t xs∧aDh n_34 y_35∧AV.int .i64 n_32=zQ xs l y_35∧yM l n_29 y_35 xs bs_26
 xs_27)))))))))))) else exI .i64 (dF (xs.take x_17):Int) (fun n_24=>ckQ (aT0 n_24 l) (ckQ (aC3 n_24 l) (exV .i64 (aDj l n_24) (fun n_25=>∃bs_26:List UInt8,∃xs_27:List Int,Lf (GetElem?.getElem? [Blk.mk BK.grow true
 (iA bs xs ref round l x_17),Blk.mk BK.grow true (rT x_17 xs l)] 1=Option.some (wP bs_26)∧(aEv x_17 xs l).length=bs_26.length∧(aEv x_17 xs l).length=bs_26.length∧bs_26.length≤1000000∧bFk n_25 xs_27)∧exI .i64
 (dF (xs.take x_17):Int) (fun n_28=>exW .i64 (n_28+1) (fun n_29=>exI .i64 (eZ (bA xs l) x_17) (fun n_30=>exW .i64 (n_30*4) (fun n_31=>exW .i64 ((aMe n_31 ||| 1:Nat):Int) (fun n_32=>exI .i64 (n_18.tmod 7) (fun
 n_33=>bif n_33==6 then exW .i64 (aPg n_32) (fun n_34=>∃bs_35:List UInt8,∃xs_36:List Int,Lf (GetElem?.getElem? [Blk.mk BK.grow true (iA bs xs ref round l x_17),Blk.mk BK.grow true (ofBytes (bs_26++aJ 1 xs_27))] 0 =
 Option.some (wP bs_35)∧aRn bs xs ref round l x_17 bs_35 n_34 xs_36)∧exW .i64 ((x_17:Int)+1) (fun n_37=>aDd∧(aP2 xs x_17 bs_35 xs_36 bs ref round l∨∃y_38:Nat,aN9 y_38 xs∧zO xs y_38 x_17∧aCq bs_35 xs_36 =
 iA bs xs ref round l y_38∧ofBytes (bs_26++aJ 1 xs_27)=rT y_38 xs l∧aPy bs_35 xs_36=aJy bs xs ref round l y_38∧zR t xs∧aDh n_37 y_38∧AV.int .i64 0=zQ xs l y_38∧xX l n_29 y_38 xs bs_26 xs_27)))
 else exW .i64 ((x_17:Int)+1) (fun n_34=>aDd∧(bKo xs x_17 bs ref round l∨∃y_35:Nat,aN9 y_35 xs∧zO xs y_35 x_17∧iA bs xs ref round l x_17=iA bs xs ref round l y_35∧ofBytes (bs_26++aJ 1 xs_27)=rT
 y_35 xs l∧aJy bs xs ref round l x_17=aJy bs xs ref round l y_35∧zR t xs∧aDh n_34 y_35∧AV.int .i64 n_32=zQ xs l y_35∧xX l n_29 y_35 xs bs_26 xs_27))))))))))))))))) else ∃n_21:Int,xP xs l x_17 n_21
 n_18 bs ref round t))) else ∃n_20:Int,xP xs l x_17 n_20 n_18 bs ref round t)) else ckQ (Nat.beq (rT x_17 xs l).length (aEv x_17 xs l).length&&true&&Nat.ble (0+(aEv x_17 xs l).length*1) (aEv x_17 xs l).length &&
 tO (bD3 x_17 xs l)&&true&&Nat.ble ((aEv x_17 xs l).length*1) 1099511627776) (bif Nat.beq (aEv x_17 xs l).length 0 then ckQ (Nat.beq (aEv x_17 xs l).length 0) (vV bs xs ref round l x_17 Q) else ckQ (Nat.blt 0 (aEv x_17
 xs l).length) (ckQ (Nat.beq (iA bs xs ref round l x_17).length (aGb bs xs ref round l x_17).length&&true&&Nat.beq (0+(aGb bs xs ref round l x_17).length*1) (aGb bs xs ref round l x_17).length&&Nat.ble ((aGb bs xs ref round
 l x_17).length+(aEv x_17 xs l).length) 1099511627776&&Nat.ble (((aGb bs xs ref round l x_17).length+(aEv x_17 xs l).length)*1) 1099511627776) (((bB 0 (bD3 x_17 xs l)||bB 1 (iA bs xs ref round l x_17++bD3 x_17 xs l))
 && true)=true∧Q (.ret (.sl 0 ((aGb bs xs ref round l x_17).length+(bD3 x_17 xs l).length) 0 ((aGb bs xs ref round l x_17).length+(aEv x_17 xs l).length) 1)) [Blk.mk BK.grow (bB 0 (bD3 x_17 xs l)) (iA bs xs ref round l
 x_17++bD3 x_17 xs l)] {}))))))))))):=by kernel_rfl

theorem aKi {xs:List Int} {i:Nat} (hi:i<xs.length):dF (xs.take (i+1))=dF (xs.take i)+(if xs.getD i 0 = -1 then 0 else 1):=by
 have e:xs.take (i+1)=xs.take i++[xs.getD i 0]:=by
  rw[List.take_add_one,List.getD_eq_getElem?_getD,List.getElem?_eq_getElem hi];rfl
 rw[e,dF,List.filter_append,List.length_append]
 rw[dF]
 congr 1
 generalize xs.getD i 0=x
 by_cases h:x = -1
 ·subst h;rfl
 ·rw[if_neg h,List.filter_cons_of_pos (by simpa using h)];rfl
theorem aJf {xs:List Int} {i:Nat} (hi:xs.length≤i):xs.take (i+1)=xs.take i:=by
 rw[List.take_of_length_le hi,List.take_of_length_le (by omega)]
theorem aQl {xs:List Int} (i:Nat):dF (xs.take i)≤dF xs:=by
 conv=>rhs;rw[←List.take_append_drop i xs]
 rw[dF,dF,List.filter_append,List.length_append];omega
theorem xQ (xs:List Int):dF xs≤xs.length:=List.length_filter_le _ _
theorem sQ:∀ (xs l:List Int),(bA xs l).length=xs.length
 | [],_=>rfl
 | t::ts,l=>by
  rw[bA]
  split<;>simp[sQ ts]
theorem yF:∀ (xs l:List Int) (i:Nat),i<xs.length→(bA xs l).getD i 0=if xs.getD i 0 = -1 then 0 else oU (l.getD (dF (xs.take i)) 0)
 | [],_,i,h=>by simp at h
 | t::ts,l,0,h=>by
  rw[bA]
  by_cases ht:t = -1
  ·simp[ht]
  ·simp[ht,dF]
 | t::ts,l,i+1,h=>by
  rw[bA]
  by_cases ht:t = -1
  ·have ih:=yF ts l i (by simpa using h)
   have e:dF ((t::ts).take (i+1))=dF (ts.take i):=by rw[List.take_succ_cons,dF,List.filter_cons_of_neg (by simp[ht])];rfl
   rw[if_pos ht,e,List.getD_cons_succ,ih,List.getD_cons_succ]
  ·have ih:=yF ts (l.drop 1) i (by simpa using h)
   have e:dF ((t::ts).take (i+1))=dF (ts.take i)+1:=by rw[List.take_succ_cons,dF,List.filter_cons_of_pos (by simpa using ht)];rfl
   rw[if_neg ht,e,List.getD_cons_succ,ih,List.getD_cons_succ]
   have e2:(l.drop 1).getD (dF (ts.take i)) 0=l.getD (dF (ts.take i)+1) 0:=by
    rw[List.getD_eq_getElem?_getD,List.getD_eq_getElem?_getD,List.getElem?_drop,Nat.add_comm]
   rw[e2]
theorem aIe (d:Int):oU d=1∨oU d=2:=by
 unfold oU;split<;>simp
theorem aZk (xs l:List Int) (i:Nat):0≤(bA xs l).getD i 0∧(bA xs l).getD i 0≤2:=by
 by_cases h:i<xs.length
 ·rw[yF xs l i h]
  split
  ·omega
  ·rcases aIe (l.getD (dF (xs.take i)) 0) with e | e<;>omega
 ·rw[List.getD_eq_getElem?_getD,List.getElem?_eq_none (by rw[sQ];omega)];simp
theorem aZc {S:List Int} (h:∀i,0≤S.getD i 0∧S.getD i 0≤2):∀i,0≤eZ S i∧eZ S i<4^(i%7)
 | 0=>by simp[eZ]
 | i+1=>by
  have ih:=aZc h i
  have hs:=h i
  rw[eZ]
  split
  ·rename_i h6
   rw[show (i+1)%7=0 by omega];simp
  ·rw[show (i+1)%7=i%7+1 by omega,Int.pow_succ]
   omega
theorem bIm {S:List Int} (h:∀i,0≤S.getD i 0∧S.getD i 0≤2) (i:Nat):0≤eZ S i∧eZ S i<4096:=by
 have:=aZc h i
 have h2:(4:Int)^(i%7)≤4^6:=by
  have:i%7≤6:=by omega
  generalize i%7=j at this
  obtain rfl | rfl | rfl | rfl | rfl | rfl | rfl:j=0∨j=1∨j=2∨j=3∨j=4∨j=5∨j=6:=by omega
  all_goals decide
 omega
theorem mO (S:List Int):∀i,(aW S i).length≤2*i
 | 0=>by simp[aW]
 | i+1=>by
  have:=mO S i
  rw[aW]
  split
  ·simp[aJ,beM];omega
  ·omega
theorem aFf {l:List Int} {k:Nat} (hk:k<l.length):bD (l.take (k+1))=bD (l.take k)++aJ (oU (l.getD k 0)).toNat [l.getD k 0]:=by
 have e:l.take (k+1)=l.take k++[l.getD k 0]:=by
  rw[List.take_add_one,List.getD_eq_getElem?_getD,List.getElem?_eq_getElem hk];rfl
 rw[e,bD,List.flatMap_append]
 simp[bD]
theorem jJ:∀l:List Int,(bD l).length≤2*l.length
 | []=>by simp[bD]
 | d::l=>by
  have:=jJ l
  have e:bD (d::l)=aJ (oU d).toNat [d]++bD l:=rfl
  rw[e,List.length_append,aH,List.length_cons]
  rcases aIe d with h | h<;>simp[h]<;>omega
theorem aSb:∀l:List Int,l.length≤(bD l).length
 | []=>by simp[bD]
 | d::l=>by
  have:=aSb l
  have e:bD (d::l)=aJ (oU d).toNat [d]++bD l:=rfl
  rw[e,List.length_append,aH,List.length_cons]
  rcases aIe d with h | h<;>simp[h]<;>omega
theorem kH:∀ (xs:List Int) (r la:Int) (b:Bool) (acc:List Int) (p:Int×List Int),aT r la b xs acc=some p→p.2.length=acc.length+dF xs
 | [],r,la,b,acc,p,h=>by simp only[aT,Option.some.injEq] at h;subst h;simp[dF]
 | t::ts,r,la,b,acc,p,h=>by
  rw[aT] at h
  split at h
  ·rename_i ht
   have:=kH ts _ _ _ _ _ h
   rw[this,dF,dF,List.filter_cons_of_neg (by simp[ht])]
  ·rename_i ht
   have e:dF (t::ts)=dF ts+1:=by rw[dF,List.filter_cons_of_pos (by simpa using ht)];rfl
   split at h
   ·cases h
   ·split at h
    ·have:=kH ts _ _ _ _ _ h
     rw[this,e];simp;omega
    ·split at h
     ·cases h
     ·have:=kH ts _ _ _ _ _ h
      rw[this,e];simp;omega
theorem lH {xs l:List Int} {ref:Int} (h:dM xs=some (ref,l)):l.length=dF xs:=by
 have:=kH _ _ _ _ _ _ h
 simpa using this
theorem aZl {c:Int} {s i:Nat} (hc:0≤c∧c<4096) (hs:s<4) {A B:Int→Prop} (h6:i%7=6→A (49152+(4*c+(s:Int)))) (hn:i%7≠6→B (4*c+(s:Int))) :
  ∃n29,AV.int .i64 c=AV.int .i64 n29∧∃n30,AV.int .i64 (IntKind.wrap .i64 (n29*4))=AV.int .i64 n30∧∃n31,AV.int .i64 (IntKind.wrap .i64 (((n30%18446744073709551616).toNat ||| s:Nat):Int))=AV.int .i64 n31∧∃n32,AV.int .i64 (Int.tmod (i:Int) 7)=AV.int .i64 n32 ∧
   bif n32==6 then (∃n33,AV.int .i64 (IntKind.wrap .i64 ((49152 ||| (n31%18446744073709551616).toNat:Nat):Int))=AV.int .i64 n33∧A n33) else B n31:=by
 obtain ⟨c,rfl⟩:=Int.eq_ofNat_of_zero_le hc.1
 have e1:(((c:Nat):Int)*4%18446744073709551616).toNat=4*c:=by omega
 have e2:4*c ||| s=4*c+s:=(Nat.two_pow_add_eq_or_of_lt (i:=2) (by omega) c).symm
 refine ⟨_,rfl,aC (by omega) (by omega) ?_⟩
 rw[e1,e2]
 refine aC (by omega) (by omega) ⟨_,rfl, ?_⟩
 rw[show Int.tmod (i:Int) 7=((i%7:Nat):Int) from rfl]
 refine aP (fun h => ?_) (fun h => ?_)
 ·have e3:(((4*c+s:Nat):Int)%18446744073709551616).toNat=4*c+s:=by omega
  have e4:49152 ||| (4*c+s)=49152+(4*c+s):=(Nat.two_pow_add_eq_or_of_lt (i:=14) (by omega) 3).symm
  rw[e3,e4]
  refine aC (by omega) (by omega) ?_
  have:=h6 (by omega)
  rwa [show ((49152+(4*c+s):Nat):Int)=49152+(4*((c:Nat):Int)+(s:Int)) by omega]
 ·have:=hn (by omega)
  rwa [show ((4*c+s:Nat):Int)=4*((c:Nat):Int)+(s:Int) by omega]
theorem gJ (xs:List Int) (a b:Int):(fF xs a b).length=6:=by simp[fF,aJ,beM]
theorem bD1 (t:Nat) (xs l:List Int) (ref round:Int) (bs:List UInt8) (hxs:1≤xs.length∧xs.length≤64) (hbs:bs.length≤10000) (hst:dM xs=some (ref,l)) (Q:Out→List Blk→Gh→Prop)
  (hq:Q (.ret (.sl 0 (bs++pJ xs round).length 0 (bs++pJ xs round).length 1)) [⟨.grow,true,ofBytes (bs++pJ xs round)⟩] {}):∃hv hb,aI1 hv hb t xs l ref round bs Q:=by
 obtain ⟨hv,hb',e⟩:∃hv hb,aI1 hv hb t xs l ref round bs Q=_:=⟨_,_,bN1 t xs l ref round bs Q⟩
 refine ⟨hv,hb',e.mpr ?_⟩
 delta aL8 wP bLs aCq bFk aPx bMx aGb iA aJy zR zQ aN9 aT0 aC3 aDj aMe aPg aRn aDd aP2 zO aEv rT aPy aDh bKo bD3
 unfold xP yH vV yM xX yU yG
 clear e
 have hll:=lH hst
 have hc:dF xs≤l.length:=by omega
 have hcl:=xQ xs
 have hS:=aZk xs l
 have hC:=bIm hS
 have htd:((xs.length:Int)+6).tdiv 7=(((xs.length+6)/7:Nat):Int):=by
  rw[show ((xs.length:Int)+6)=((xs.length+6:Nat):Int) by omega];rfl
 refine ⟨xs,⟨rfl,rfl,by omega⟩, ?_⟩
 rintro r l2 b ⟨hr⟩
 have hr2:aZ xs=(ref,l,true):=by simp only[aZ,hst,decide_eq_true hxs]
 rw[hr2] at hr
 obtain ⟨rfl,rfl,rfl⟩:ref=r∧l=l2∧true=b:=by simpa using hr
 refine ⟨_,rfl,_,rfl,_,rfl,bs,[(xs.length:Int)],⟨rfl,rfl,rfl,by omega,rfl,rfl,by omega,by omega,by simp⟩,_,[ref],⟨rfl,rfl,rfl,by simp[aJ,beM];omega,rfl,rfl,by omega,by omega,by simp⟩,_,[round],⟨rfl,rfl,rfl,by simp[aJ,beM];omega,rfl,rfl,by omega,by omega,by simp⟩,_,rfl,aC (by omega) (by omega) ?_⟩
 rw[htd]
 refine aC (by omega) (by omega) (aC (by omega) (by omega) ⟨.inl ⟨0,⟨by omega,rfl⟩,by simp[aW,fF],by simp[aW,fF],rfl,rfl,rfl,rfl,rfl,rfl, ?_,trivial⟩, ?_, ?_⟩)
 ·congr 1
 ·rintro i ⟨g1,g2⟩
  have b6:i%7=6→∀s:Nat,(bA xs l).getD i 0=(s:Int)→bs++fF xs ref round++aW (bA xs l) i++aJ 2 [49152+(4*eZ (bA xs l) i+(s:Int))]=bs++fF xs ref round++aW (bA xs l) (i+1)∧eZ (bA xs l) (i+1)=0:=fun h s hs=>by
   rw[aW,if_pos h,eZ,if_pos h,hs];exact ⟨by simp only[List.append_assoc],rfl⟩
  have bn:i%7≠6→∀s:Nat,(bA xs l).getD i 0=(s:Int)→aW (bA xs l) (i+1)=aW (bA xs l) i∧eZ (bA xs l) (i+1)=4*eZ (bA xs l) i+(s:Int):=fun h s hs=>by
   rw[aW,if_neg h,eZ,if_neg h,hs];exact ⟨rfl,rfl⟩
  have bl:=mO (bA xs l) i
  refine aD (fun hlt=>⟨_,rfl,_,rfl,aD (fun hi => ?_) (fun hi => ?_)⟩) (fun hge => ?_)
  ·have hi':i<xs.length:=by omega
   have hsg:=yF xs l i hi'
   have hct:=aKi hi'
   have hcm:=aQl (xs:=xs) (i+1)
   refine ckI (by simp;omega) (ckI (by simp[aB];omega) (kS (i:=i) (by omega) (by simp) (cB (fun he => ?_) (fun he => ?_))))
   ·rw[if_neg he] at hsg hct
    rw[g2] at hsg hct
    have ht:=aFf (l:=l) (k:=0) (by omega)
    have htl:=jJ (l.take 0)
    rw[List.length_take] at htl
    refine ⟨_,rfl,ckI (by simp;omega) (ckI (by simp[aB];omega) (kS (xs:=l) (i:=0) (by omega) (by simp) ⟨_,rfl, ?_⟩))⟩
    rw[Int.fdiv_eq_ediv_of_nonneg _ (by omega)]
    refine cB (fun hd => ?_) (fun hd => ?_)
    ·have hs2:oU (l.getD 0 0)=2:=by unfold oU;exact if_neg (by omega)
     rw[hs2] at hsg ht
     rw[show Int.toNat 2=2 from rfl] at ht
     have hs:=hsg
     have hc1:=hct
     refine ⟨_,rfl,ckI (by simp;omega) (ckI (by simp[aB];omega) (kS (xs:=l) (i:=0) (by omega) (by simp) ⟨[_],⟨rfl,rfl,by omega,by omega,by simp,by simp⟩,⟨_,rfl,aC (by omega) (by omega) (aZl (s:=2) (hC i) (by omega) (fun h6=>⟨_,[_],⟨rfl,rfl,rfl,(by simp only[List.length_append,gJ];omega),rfl,rfl,by omega,by omega,by simp⟩,aC (by omega) (by omega) ⟨⟨trivial,rfl⟩,.inr ⟨i+1,⟨by omega,by omega⟩,by omega,by rw[(b6 h6 2 hs).1],by rw[hc1];exact congrArg ofBytes ht.symm,by rw[(b6 h6 2 hs).1],rfl,rfl,by rw[(b6 h6 2 hs).2],rfl,by rw[hc1];rfl,by rw[hc1,ht];rfl,rfl,trivial⟩⟩⟩) (fun h6=>aC (by omega) (by omega) ⟨⟨trivial,rfl⟩,.inr ⟨i+1,⟨by omega,by omega⟩,by omega,by rw[(bn h6 2 hs).1],by rw[hc1];exact congrArg ofBytes ht.symm,by rw[(bn h6 2 hs).1],rfl,rfl,by rw[(bn h6 2 hs).2],rfl,by rw[hc1];rfl,by rw[hc1,ht];rfl,rfl,trivial⟩⟩))⟩⟩))⟩
    ·have hs1:oU (l.getD 0 0)=1:=by unfold oU;exact if_pos (by omega)
     rw[hs1] at hsg ht
     rw[show Int.toNat 1=1 from rfl] at ht
     have hs:=hsg
     have hc1:=hct
     refine ⟨_,rfl,ckI (by simp;omega) (ckI (by simp[aB];omega) (kS (xs:=l) (i:=0) (by omega) (by simp) ⟨[_],⟨rfl,rfl,by omega,by omega,by simp,by simp⟩,⟨_,rfl,aC (by omega) (by omega) (aZl (s:=1) (hC i) (by omega) (fun h6=>⟨_,[_],⟨rfl,rfl,rfl,(by simp only[List.length_append,gJ];omega),rfl,rfl,by omega,by omega,by simp⟩,aC (by omega) (by omega) ⟨⟨trivial,rfl⟩,.inr ⟨i+1,⟨by omega,by omega⟩,by omega,by rw[(b6 h6 1 hs).1],by rw[hc1];exact congrArg ofBytes ht.symm,by rw[(b6 h6 1 hs).1],rfl,rfl,by rw[(b6 h6 1 hs).2],rfl,by rw[hc1];rfl,by rw[hc1,ht];rfl,rfl,trivial⟩⟩⟩) (fun h6=>aC (by omega) (by omega) ⟨⟨trivial,rfl⟩,.inr ⟨i+1,⟨by omega,by omega⟩,by omega,by rw[(bn h6 1 hs).1],by rw[hc1];exact congrArg ofBytes ht.symm,by rw[(bn h6 1 hs).1],rfl,rfl,by rw[(bn h6 1 hs).2],rfl,by rw[hc1];rfl,by rw[hc1,ht];rfl,rfl,trivial⟩⟩))⟩⟩))⟩
   ·rw[if_pos he] at hsg hct
    have hs:=hsg
    have hc1:dF (xs.take (i+1))=0:=by omega
    exact aZl (s:=0) (hC i) (by omega) (fun h6=>⟨_,[_],⟨rfl,rfl,rfl,(by simp only[List.length_append,gJ];omega),rfl,rfl,by omega,by omega,by simp⟩,aC (by omega) (by omega) ⟨⟨trivial,rfl⟩,.inl ⟨i+1,⟨by omega,hc1⟩,by omega,by rw[(b6 h6 0 hs).1],by rw[(b6 h6 0 hs).1],rfl,rfl,by rw[(b6 h6 0 hs).2],rfl,rfl,rfl,rfl,trivial⟩⟩⟩) (fun h6=>aC (by omega) (by omega) ⟨⟨trivial,rfl⟩,.inl ⟨i+1,⟨by omega,hc1⟩,by omega,by rw[(bn h6 0 hs).1],by rw[(bn h6 0 hs).1],rfl,rfl,by rw[(bn h6 0 hs).2],rfl,rfl,rfl,rfl,trivial⟩⟩)
  ·have hs:(bA xs l).getD i 0=0:=by rw[List.getD_eq_getElem?_getD,List.getElem?_eq_none (by rw[sQ];omega)];rfl
   have hc1:dF (xs.take (i+1))=0:=by rw[aJf (by omega)];exact g2
   exact aZl (s:=0) (hC i) (by omega) (fun h6=>⟨_,[_],⟨rfl,rfl,rfl,(by simp only[List.length_append,gJ];omega),rfl,rfl,by omega,by omega,by simp⟩,aC (by omega) (by omega) ⟨⟨trivial,rfl⟩,.inl ⟨i+1,⟨by omega,hc1⟩,by omega,by rw[(b6 h6 0 hs).1],by rw[(b6 h6 0 hs).1],rfl,rfl,by rw[(b6 h6 0 hs).2],rfl,rfl,rfl,rfl,trivial⟩⟩⟩) (fun h6=>aC (by omega) (by omega) ⟨⟨trivial,rfl⟩,.inl ⟨i+1,⟨by omega,hc1⟩,by omega,by rw[(bn h6 0 hs).1],by rw[(bn h6 0 hs).1],rfl,rfl,by rw[(bn h6 0 hs).2],rfl,rfl,rfl,rfl,trivial⟩⟩)
  ·have hi:i=(xs.length+6)/7*7:=by omega
   subst hi
   have hx:xs.take ((xs.length+6)/7*7)=xs:=List.take_of_length_le (by omega)
   rw[hx] at g2 
   have hl0:l=[]:=List.eq_nil_of_length_eq_zero (by omega)
   have ha:bs++pJ xs round=bs++fF xs ref round++aW (bA xs l) ((xs.length+6)/7*7):=by
    simp only[pJ,hst,List.append_assoc];rw[hl0];simp[bD]
   rw[ha] at hq
   exact ckI (by simp[aI]) ⟨rfl,hq⟩
 ·rintro i ⟨g1,g2⟩
  have b6:i%7=6→∀s:Nat,(bA xs l).getD i 0=(s:Int)→bs++fF xs ref round++aW (bA xs l) i++aJ 2 [49152+(4*eZ (bA xs l) i+(s:Int))]=bs++fF xs ref round++aW (bA xs l) (i+1)∧eZ (bA xs l) (i+1)=0:=fun h s hs=>by
   rw[aW,if_pos h,eZ,if_pos h,hs];exact ⟨by simp only[List.append_assoc],rfl⟩
  have bn:i%7≠6→∀s:Nat,(bA xs l).getD i 0=(s:Int)→aW (bA xs l) (i+1)=aW (bA xs l) i∧eZ (bA xs l) (i+1)=4*eZ (bA xs l) i+(s:Int):=fun h s hs=>by
   rw[aW,if_neg h,eZ,if_neg h,hs];exact ⟨rfl,rfl⟩
  have bl:=mO (bA xs l) i
  refine aD (fun hlt=>⟨_,rfl,_,rfl,aD (fun hi => ?_) (fun hi => ?_)⟩) (fun hge => ?_)
  ·have hi':i<xs.length:=by omega
   have hsg:=yF xs l i hi'
   have hct:=aKi hi'
   have hcm:=aQl (xs:=xs) (i+1)
   refine ckI (by simp;omega) (ckI (by simp[aB];omega) (kS (i:=i) (by omega) (by simp) (cB (fun he => ?_) (fun he => ?_))))
   ·rw[if_neg he] at hsg hct

    have ht:=aFf (l:=l) (k:=(dF (xs.take i))) (by omega)
    have htl:=jJ (l.take (dF (xs.take i)))
    rw[List.length_take] at htl
    refine ⟨_,rfl,ckI (by simp;omega) (ckI (by simp[aB];omega) (kS (xs:=l) (i:=(dF (xs.take i))) (by omega) (by simp) ⟨_,rfl, ?_⟩))⟩
    rw[Int.fdiv_eq_ediv_of_nonneg _ (by omega)]
    refine cB (fun hd => ?_) (fun hd => ?_)
    ·have hs2:oU (l.getD (dF (xs.take i)) 0)=2:=by unfold oU;exact if_neg (by omega)
     rw[hs2] at hsg ht
     rw[show Int.toNat 2=2 from rfl] at ht
     have hs:=hsg
     have hc1:=hct
     refine ⟨_,rfl,ckI (by simp;omega) (ckI (by simp[aB];omega) (kS (xs:=l) (i:=(dF (xs.take i))) (by omega) (by simp) ⟨_,[_],⟨rfl,rfl,rfl,by omega,rfl,rfl,by omega,by omega,by simp⟩,⟨_,rfl,aC (by omega) (by omega) (aZl (s:=2) (hC i) (by omega) (fun h6=>⟨_,[_],⟨rfl,rfl,rfl,(by simp only[List.length_append,gJ];omega),rfl,rfl,by omega,by omega,by simp⟩,aC (by omega) (by omega) ⟨⟨trivial,rfl⟩,.inr ⟨i+1,⟨by omega,by omega⟩,by omega,by rw[(b6 h6 2 hs).1],by rw[hc1,ht],by rw[(b6 h6 2 hs).1],rfl,rfl,by rw[(b6 h6 2 hs).2],rfl,by rw[hc1];rfl,by rw[hc1,ht],rfl,trivial⟩⟩⟩) (fun h6=>aC (by omega) (by omega) ⟨⟨trivial,rfl⟩,.inr ⟨i+1,⟨by omega,by omega⟩,by omega,by rw[(bn h6 2 hs).1],by rw[hc1,ht],by rw[(bn h6 2 hs).1],rfl,rfl,by rw[(bn h6 2 hs).2],rfl,by rw[hc1];rfl,by rw[hc1,ht],rfl,trivial⟩⟩))⟩⟩))⟩
    ·have hs1:oU (l.getD (dF (xs.take i)) 0)=1:=by unfold oU;exact if_pos (by omega)
     rw[hs1] at hsg ht
     rw[show Int.toNat 1=1 from rfl] at ht
     have hs:=hsg
     have hc1:=hct
     refine ⟨_,rfl,ckI (by simp;omega) (ckI (by simp[aB];omega) (kS (xs:=l) (i:=(dF (xs.take i))) (by omega) (by simp) ⟨_,[_],⟨rfl,rfl,rfl,by omega,rfl,rfl,by omega,by omega,by simp⟩,⟨_,rfl,aC (by omega) (by omega) (aZl (s:=1) (hC i) (by omega) (fun h6=>⟨_,[_],⟨rfl,rfl,rfl,(by simp only[List.length_append,gJ];omega),rfl,rfl,by omega,by omega,by simp⟩,aC (by omega) (by omega) ⟨⟨trivial,rfl⟩,.inr ⟨i+1,⟨by omega,by omega⟩,by omega,by rw[(b6 h6 1 hs).1],by rw[hc1,ht],by rw[(b6 h6 1 hs).1],rfl,rfl,by rw[(b6 h6 1 hs).2],rfl,by rw[hc1];rfl,by rw[hc1,ht],rfl,trivial⟩⟩⟩) (fun h6=>aC (by omega) (by omega) ⟨⟨trivial,rfl⟩,.inr ⟨i+1,⟨by omega,by omega⟩,by omega,by rw[(bn h6 1 hs).1],by rw[hc1,ht],by rw[(bn h6 1 hs).1],rfl,rfl,by rw[(bn h6 1 hs).2],rfl,by rw[hc1];rfl,by rw[hc1,ht],rfl,trivial⟩⟩))⟩⟩))⟩
   ·rw[if_pos he] at hsg hct
    have hs:=hsg
    have hc1:dF (xs.take (i+1))=dF (xs.take i):=by omega
    exact aZl (s:=0) (hC i) (by omega) (fun h6=>⟨_,[_],⟨rfl,rfl,rfl,(by simp only[List.length_append,gJ];omega),rfl,rfl,by omega,by omega,by simp⟩,aC (by omega) (by omega) ⟨⟨trivial,rfl⟩,.inr ⟨i+1,⟨by omega,by omega⟩,by omega,by rw[(b6 h6 0 hs).1],by rw[hc1],by rw[(b6 h6 0 hs).1],rfl,rfl,by rw[(b6 h6 0 hs).2],rfl,by rw[hc1],by rw[hc1],rfl,trivial⟩⟩⟩) (fun h6=>aC (by omega) (by omega) ⟨⟨trivial,rfl⟩,.inr ⟨i+1,⟨by omega,by omega⟩,by omega,by rw[(bn h6 0 hs).1],by rw[hc1],by rw[(bn h6 0 hs).1],rfl,rfl,by rw[(bn h6 0 hs).2],rfl,by rw[hc1],by rw[hc1],rfl,trivial⟩⟩)
  ·have hs:(bA xs l).getD i 0=0:=by rw[List.getD_eq_getElem?_getD,List.getElem?_eq_none (by rw[sQ];omega)];rfl
   have hc1:dF (xs.take (i+1))=dF (xs.take i):=by rw[aJf (by omega)]
   exact aZl (s:=0) (hC i) (by omega) (fun h6=>⟨_,[_],⟨rfl,rfl,rfl,(by simp only[List.length_append,gJ];omega),rfl,rfl,by omega,by omega,by simp⟩,aC (by omega) (by omega) ⟨⟨trivial,rfl⟩,.inr ⟨i+1,⟨by omega,by omega⟩,by omega,by rw[(b6 h6 0 hs).1],by rw[hc1],by rw[(b6 h6 0 hs).1],rfl,rfl,by rw[(b6 h6 0 hs).2],rfl,by rw[hc1],by rw[hc1],rfl,trivial⟩⟩⟩) (fun h6=>aC (by omega) (by omega) ⟨⟨trivial,rfl⟩,.inr ⟨i+1,⟨by omega,by omega⟩,by omega,by rw[(bn h6 0 hs).1],by rw[hc1],by rw[(bn h6 0 hs).1],rfl,rfl,by rw[(bn h6 0 hs).2],rfl,by rw[hc1],by rw[hc1],rfl,trivial⟩⟩)
  ·have hi:i=(xs.length+6)/7*7:=by omega
   subst hi
   have hx:xs.take ((xs.length+6)/7*7)=xs:=List.take_of_length_le (by omega)
   rw[hx] at g2 ⊢
   rw[←hll,List.take_length]
   have ha:bs++pJ xs round=bs++fF xs ref round++aW (bA xs l) ((xs.length+6)/7*7)++bD l:=by
    simp only[pJ,hst,List.append_assoc]
   rw[ha] at hq
   have tg:=aSb l
   have tl:=jJ l
   have bl:=mO (bA xs l) ((xs.length+6)/7*7)
   have ln:(bs++fF xs ref round++aW (bA xs l) ((xs.length+6)/7*7)).length≤20000:=by simp only[List.length_append,gJ];omega
   generalize bs++fF xs ref round++aW (bA xs l) ((xs.length+6)/7*7)=B at *
   refine ckI (by simp[aI,bU,List.take_of_length_le];omega) (splitB (fun h => ?_) (fun h => ?_))
   ·rw[gF] at h;omega
   ·refine ckI (by simp;omega) (ckI (by simp[aI];omega) ?_)
    have e1:List.take ((bD l).length*1) (List.drop 0 (ofBytes (bD l)))=ofBytes (bD l):=by
     rw[List.drop_zero,Nat.mul_one];exact List.take_of_length_le (by rw[aI];exact Nat.le_refl _)
    rw[e1,aI,dI,aN,←List.length_append]
    exact ⟨rfl,hq⟩
theorem fI {xs:List Int} (h:(aZ xs).2.2=true):∃ref l,dM xs=some (ref,l)∧1≤xs.length∧xs.length≤64:=by
 unfold aZ at h
 cases e:dM xs with
 | none=>simp[e] at h
 | some p=>
  rw[e] at h
  have:=of_decide_eq_true h
  exact ⟨p.1,p.2,rfl,this⟩
def bMo:Con
 | [.sl id tot 0 len 1,.lst _ cs n 1,.int .i64 round],H,K=>∃ (bs:List UInt8) (xs:List Int),Lf (H[id]? = some ⟨.grow,true,ofBytes bs⟩∧tot=bs.length∧len=bs.length∧bs.length≤10000∧cs=aA xs∧n=xs.length∧(aZ xs).2.2=true)∧K (.ret (.sl id (bs++pJ xs round).length 0 (bs++pJ xs round).length 1)) (H.set id ⟨.grow,true,ofBytes (bs++pJ xs round)⟩)
 | _,_,_=>False
theorem aYu:aO Tryd.prog glC 68 bMo:=by
 refine iF (enters_of (by kernel_rfl)) aV fun args H Q hc => ?_
 unfold bMo at hc
 split at hc
 ·rename_i id tot len t cs n round
  obtain ⟨bs,xs,⟨h1,rfl,rfl,h3,rfl,rfl,h4⟩,hq⟩:=hc
  obtain ⟨ref,l,h5,h6⟩:=fI h4
  obtain ⟨hv,hb',h⟩:=bD1 t xs l ref round bs h6 h3 h5 (fun o H' _=>o=.ret (.sl 0 (bs++pJ xs round).length 0 (bs++pJ xs round).length 1)∧H'=[⟨.grow,true,ofBytes (bs++pJ xs round)⟩]) ⟨rfl,rfl⟩
  refine ⟨_,1000,fun _=>id,[.sl 0 bs.length 0 bs.length 1,.lst t (aA xs) xs.length 1,.int .i64 round],[⟨.grow,true,ofBytes bs⟩],_, ?_,rfl,rfl,rfl,rfl,sV h1 (aN 0 _) (aN 1 _) (bS _),h, ?_⟩
  ·exact ⟨dX,eB,eF,bBk⟩
  ·rintro o H0' g' ⟨rfl,rfl⟩
   exact ⟨_,lT h1 (aN 0 _) (bS _),hq⟩
 ·exact hc.elim
end Go.Proofs.YtafchcmemeinlaaDoor
