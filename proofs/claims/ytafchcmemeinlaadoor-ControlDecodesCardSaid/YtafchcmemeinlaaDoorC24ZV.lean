/-
  Chapter 24, the reference: what is valid.
-/
import Derived.Test.YtafchcmemeinlaaDoorC24XD
import Derived.Test.YtafchcmemeinlaaDoorC24XJ
set_option linter.unusedSimpArgs false
set_option linter.unusedVariables false
set_option linter.unusedSectionVars false
namespace Go.Proofs.YtafchcmemeinlaaDoor
open Go.RowKit
set_option maxRecDepth 1000000

def ctM (c:Ctl):List AV:=ctC c
abbrev iD (c:Ctl):Prop:=ctC c=ctC c
def bPr (c:Ctl):Bool:=c.s1==0&&(c.s2==0&&(c.s3==0&&(c.s4==0&&c.s5==0)))
def bPz (c:Ctl):Bool:=c.ba==0&&(c.ro==0&&(c.ti.length:Int)==0)
def bLu (c:Ctl):Bool×Bool×Bool×Bool×Bool:=(c.a==0,bPr c,(c.rs.length:Int)==0,(c.lo.length:Int)==0,bPz c)
def zN (c:Ctl) (b:Bool×Bool×Bool×Bool×Bool):Prop:=(b.1&&(b.2.1&&(b.2.2.1&&(b.2.2.2.1&&b.2.2.2.2))))=aQ c
def bB5 (c:Ctl):LInv where
 α:=Bool×Bool×Bool×Bool×Bool
 pre b:=Lf (b=bLu c)
 st b:=⟨mkT [(1,.ptr 0 13 0),(3,.bool b.1),(4,.bool b.2.1),(5,.bool b.2.2.1),(6,.bool b.2.2.2.1),(7,.bool b.2.2.2.2)],[⟨.exact,true,ctM c⟩]⟩
 mu _:=0
def aZn (c:Ctl):LInv where
 α:=Bool×Bool×Bool×Bool×Bool
 pre b:=Lf (zN c b)
 st b:=⟨mkT [(3,.bool b.1),(4,.bool b.2.1),(5,.bool b.2.2.1),(6,.bool b.2.2.2.1),(7,.bool b.2.2.2.2)],[⟨.exact,true,ctM c⟩]⟩
 mu _:=0
noncomputable def aPh (hv:Nat→Option Pa) (hb:Nat→Option Bool) (c:Ctl):Env:=e24 bQd (fun i=>bif Nat.beq i 1000208956 then some (fun _=>[[bB5 c]]) else bif Nat.beq i 1000209024 then some (fun _=>[[aZn c]]) else none) hv hb
noncomputable def aGt (hv:Nat→Option Pa) (hb:Nat→Option Bool) (c:Ctl) (Q:Out→List Blk→Gh→Prop):Prop:=
 bH (aPh hv hb c) (wpx (aPh hv hb c) 1000) 51 [.agg (ctM c)] [] {} Q
abbrev aXb:Prop:=True∧(0:Nat)=(0:Nat)
abbrev iM:Prop:=aXb
abbrev eY (x_0:Bool×Bool×Bool×Bool×Bool) (c:Ctl):Prop:=Lf (x_0=bLu c)
abbrev nE:Prop:=aK (AV.ptr 0 13 0)
abbrev jD (x_0:Bool×Bool×Bool×Bool×Bool):Prop:=AV.bool true=AV.bool x_0.1
abbrev qD (x_0:Bool×Bool×Bool×Bool×Bool):AV:=.bool x_0.2.2.2.2
abbrev jZ (x_0:Bool×Bool×Bool×Bool×Bool):Prop:=AV.bool false=qD x_0
abbrev jT (x_0:Bool×Bool×Bool×Bool×Bool):Prop:=AV.bool true=AV.bool x_0.2.2.1
abbrev aQb (x_0:Bool×Bool×Bool×Bool×Bool):Prop:=AV.bool true=AV.bool x_0.2.1
abbrev aNf (x_0:Bool×Bool×Bool×Bool×Bool):Prop:=AV.bool true=AV.bool x_0.2.2.2.1∧True
abbrev aBq (x_0:Bool×Bool×Bool×Bool×Bool):Prop:=aQb x_0∧aNf x_0
def xG (c:Ctl):Prop:=
iM∧∃x_0:Bool×Bool×Bool×Bool×Bool,eY x_0 c∧iD c∧nE∧jD x_0∧jZ x_0∧jT x_0∧aBq x_0
abbrev aM7 (x_0:Bool×Bool×Bool×Bool×Bool):Prop:=AV.bool false=AV.bool x_0.2.2.2.1∧True
abbrev aBd (x_0:Bool×Bool×Bool×Bool×Bool):Prop:=aQb x_0∧aM7 x_0
def yK (c:Ctl):Prop:=
iM∧∃x_0:Bool×Bool×Bool×Bool×Bool,eY x_0 c∧iD c∧nE∧jD x_0∧jZ x_0∧jT x_0∧aBd x_0
abbrev jR (x_0:Bool×Bool×Bool×Bool×Bool):Prop:=AV.bool false=AV.bool x_0.2.2.1
def vO (c:Ctl):Prop:=
iM∧∃x_0:Bool×Bool×Bool×Bool×Bool,eY x_0 c∧iD c∧nE∧jD x_0∧jZ x_0∧jR x_0∧aBq x_0
def wT (c:Ctl):Prop:=
iM∧∃x_0:Bool×Bool×Bool×Bool×Bool,eY x_0 c∧iD c∧nE∧jD x_0∧jZ x_0∧jR x_0∧aBd x_0
abbrev kE (x_0:Bool×Bool×Bool×Bool×Bool):Prop:=AV.bool false=AV.bool x_0.2.1
def wF (c:Ctl):Prop:=
iM∧∃x_0:Bool×Bool×Bool×Bool×Bool,eY x_0 c∧iD c∧nE∧jD x_0∧jZ x_0∧jT x_0∧kE x_0∧aNf x_0
def xW (c:Ctl):Prop:=
iM∧∃x_0:Bool×Bool×Bool×Bool×Bool,eY x_0 c∧iD c∧nE∧jD x_0∧jZ x_0∧jT x_0∧kE x_0∧aM7 x_0
def yY (c:Ctl):Prop:=
iM∧∃x_0:Bool×Bool×Bool×Bool×Bool,eY x_0 c∧iD c∧nE∧jD x_0∧jZ x_0∧jR x_0∧kE x_0∧aNf x_0
def vY (c:Ctl):Prop:=
iM∧∃x_0:Bool×Bool×Bool×Bool×Bool,eY x_0 c∧iD c∧nE∧jD x_0∧jZ x_0∧jR x_0∧kE x_0∧aM7 x_0
abbrev aDo (c:Ctl):Int:=(c.10.length:Int)
abbrev lV (c:Ctl):Int:=(c.13.length:Int)
abbrev jY (x_5:Bool×Bool×Bool×Bool×Bool):Prop:=AV.bool true=qD x_5
def nU (c:Ctl):Prop:=
exI .i64 (c.9.length:Int) (fun n_0=>bif n_0==0 then exI .i64 (aDo c) (fun n_1=>bif n_1==0 then exI .i64 c.11 (fun n_2=>bif n_2==0 then exI .i64 c.12 (fun n_3=>bif n_3==0 then exI .i64 (lV c) (fun n_4=>bif n_4==0 then iM∧∃x_5:Bool×Bool×Bool×Bool×Bool,eY x_5 c∧iD c∧nE∧jD x_5∧jY x_5∧jT x_5∧kE x_5∧aNf x_5 else wF c) else wF c) else wF c) else exI .i64 c.11 (fun n_2=>bif n_2==0 then exI .i64 c.12 (fun n_3=>bif n_3==0 then exI .i64 (lV c) (fun n_4=>bif n_4==0 then iM∧∃x_5:Bool×Bool×Bool×Bool×Bool,eY x_5 c∧iD c∧nE∧jD x_5∧jY x_5∧jT x_5∧kE x_5∧aM7 x_5 else xW c) else xW c) else xW c)) else exI .i64 (aDo c) (fun n_1=>bif n_1==0 then exI .i64 c.11 (fun n_2=>bif n_2==0 then exI .i64 c.12 (fun n_3=>bif n_3==0 then exI .i64 (lV c) (fun n_4=>bif n_4==0 then iM∧∃x_5:Bool×Bool×Bool×Bool×Bool,eY x_5 c∧iD c∧nE∧jD x_5∧jY x_5∧jR x_5∧kE x_5∧aNf x_5 else yY c) else yY c) else yY c) else exI .i64 c.11 (fun n_2=>bif n_2==0 then exI .i64 c.12 (fun n_3=>bif n_3==0 then exI .i64 (lV c) (fun n_4=>bif n_4==0 then iM∧∃x_5:Bool×Bool×Bool×Bool×Bool,eY x_5 c∧iD c∧nE∧jD x_5∧jY x_5∧jR x_5∧kE x_5∧aM7 x_5 else vY c) else vY c) else vY c)))
abbrev zB (x_0:Bool×Bool×Bool×Bool×Bool):Prop:=AV.bool false=AV.bool x_0.1
def pK (c:Ctl):Prop:=
iM∧∃x_0:Bool×Bool×Bool×Bool×Bool,eY x_0 c∧iD c∧nE∧zB x_0∧jZ x_0∧jT x_0∧aBq x_0
def qB (c:Ctl):Prop:=
iM∧∃x_0:Bool×Bool×Bool×Bool×Bool,eY x_0 c∧iD c∧nE∧zB x_0∧jZ x_0∧jT x_0∧aBd x_0
def qF (c:Ctl):Prop:=
iM∧∃x_0:Bool×Bool×Bool×Bool×Bool,eY x_0 c∧iD c∧nE∧zB x_0∧jZ x_0∧jR x_0∧aBq x_0
def qI (c:Ctl):Prop:=
iM∧∃x_0:Bool×Bool×Bool×Bool×Bool,eY x_0 c∧iD c∧nE∧zB x_0∧jZ x_0∧jR x_0∧aBd x_0
def pF (c:Ctl):Prop:=
iM∧∃x_0:Bool×Bool×Bool×Bool×Bool,eY x_0 c∧iD c∧nE∧zB x_0∧jZ x_0∧jT x_0∧kE x_0∧aNf x_0
def pR (c:Ctl):Prop:=
iM∧∃x_0:Bool×Bool×Bool×Bool×Bool,eY x_0 c∧iD c∧nE∧zB x_0∧jZ x_0∧jT x_0∧kE x_0∧aM7 x_0
def pQ (c:Ctl):Prop:=
iM∧∃x_0:Bool×Bool×Bool×Bool×Bool,eY x_0 c∧iD c∧nE∧zB x_0∧jZ x_0∧jR x_0∧kE x_0∧aNf x_0
def oV (c:Ctl):Prop:=
iM∧∃x_0:Bool×Bool×Bool×Bool×Bool,eY x_0 c∧iD c∧nE∧zB x_0∧jZ x_0∧jR x_0∧kE x_0∧aM7 x_0
def kQ (c:Ctl):Prop:=
exI .i64 (c.9.length:Int) (fun n_0=>bif n_0==0 then exI .i64 (aDo c) (fun n_1=>bif n_1==0 then exI .i64 c.11 (fun n_2=>bif n_2==0 then exI .i64 c.12 (fun n_3=>bif n_3==0 then exI .i64 (lV c) (fun n_4=>bif n_4==0 then iM∧∃x_5:Bool×Bool×Bool×Bool×Bool,eY x_5 c∧iD c∧nE∧zB x_5∧jY x_5∧jT x_5∧kE x_5∧aNf x_5 else pF c) else pF c) else pF c) else exI .i64 c.11 (fun n_2=>bif n_2==0 then exI .i64 c.12 (fun n_3=>bif n_3==0 then exI .i64 (lV c) (fun n_4=>bif n_4==0 then iM∧∃x_5:Bool×Bool×Bool×Bool×Bool,eY x_5 c∧iD c∧nE∧zB x_5∧jY x_5∧jT x_5∧kE x_5∧aM7 x_5 else pR c) else pR c) else pR c)) else exI .i64 (aDo c) (fun n_1=>bif n_1==0 then exI .i64 c.11 (fun n_2=>bif n_2==0 then exI .i64 c.12 (fun n_3=>bif n_3==0 then exI .i64 (lV c) (fun n_4=>bif n_4==0 then iM∧∃x_5:Bool×Bool×Bool×Bool×Bool,eY x_5 c∧iD c∧nE∧zB x_5∧jY x_5∧jR x_5∧kE x_5∧aNf x_5 else pQ c) else pQ c) else pQ c) else exI .i64 c.11 (fun n_2=>bif n_2==0 then exI .i64 c.12 (fun n_3=>bif n_3==0 then exI .i64 (lV c) (fun n_4=>bif n_4==0 then iM∧∃x_5:Bool×Bool×Bool×Bool×Bool,eY x_5 c∧iD c∧nE∧zB x_5∧jY x_5∧jR x_5∧kE x_5∧aM7 x_5 else oV c) else oV c) else oV c)))
abbrev aTb:Prop:=Lf ((32:Int)=(8:Int)∨(32:Int)=(16:Int)∨aK (32:Int))
abbrev aTk (c:Ctl) (l_8:List Rc):Prop:=Lf (aF c.9=aF l_8∧c.9.length=l_8.length∧l_8.length≤1000000)
abbrev aHe (x_1:Bool×Bool×Bool×Bool×Bool):AV:=.bool x_1.2.2.2.1
abbrev bFs (c:Ctl) (x_1:Bool×Bool×Bool×Bool×Bool):Prop:=∃l_8:List Rc,aTk c l_8∧bif dL l_8 then aXb∧∃x_9:Bool×Bool×Bool×Bool×Bool,Lf (zN c x_9)∧iD c∧AV.bool x_1.1=AV.bool x_9.1∧qD x_1=qD x_9∧jT x_9∧kE x_9∧aHe x_1=aHe x_9∧True else aXb∧∃x_9:Bool×Bool×Bool×Bool×Bool,Lf (zN c x_9)∧iD c∧AV.bool x_1.1=AV.bool x_9.1∧qD x_1=qD x_9∧jR x_9∧kE x_9∧aHe x_1=aHe x_9∧True
abbrev aE7 (x_1 x_4:Bool×Bool×Bool×Bool×Bool):Prop:=AV.bool x_1.2.1=AV.bool x_4.2.1
abbrev xU (x_1:Bool×Bool×Bool×Bool×Bool):AV:=.bool x_1.2.2.1
abbrev aYb (x_1 x_3:Bool×Bool×Bool×Bool×Bool):Prop:=xU x_1=xU x_3∧aE7 x_1 x_3∧aHe x_1=aHe x_3∧True
abbrev bCa (c:Ctl) (xs_4:List Int):Prop:=Lf (aA c.10=aA xs_4∧c.10.length=xs_4.length∧xs_4.length≤4611686018427387904)
abbrev bFg:Prop:=Lf ((16:Int)=(8:Int)∨aK (16:Int)∨(16:Int)=(32:Int))
abbrev bDw:Prop:=Lf ((8:Int)=(8:Int)∨(8:Int)=(16:Int)∨(8:Int)=(32:Int))
abbrev aWz (c:Ctl) (x_1:Bool×Bool×Bool×Bool×Bool):Prop:=iM∧∃x_8:Bool×Bool×Bool×Bool×Bool,Lf (zN c x_8)∧iD c∧jD x_8∧jZ x_8∧aYb x_1 x_8
abbrev aWq (c:Ctl) (x_1:Bool×Bool×Bool×Bool×Bool):Prop:=iM∧∃x_8:Bool×Bool×Bool×Bool×Bool,Lf (zN c x_8)∧iD c∧zB x_8∧jZ x_8∧aYb x_1 x_8
abbrev aEz:Out:=.ret (.bool false)
theorem bOs (c:Ctl) (Q:Out→List Blk→Gh→Prop):aGt (bG [(208905,.int .i64),(208909,.int .i64),(208912,.int .i64),(208916,.int .i64),(208921,.int .i64),(208926,.int .i64),(208931,.int .i64),(208936,.int
 .i64),(208940,.int .i64),(208943,.int .i64),(208947,.int .i64),(208953,.int .i64),(208957,.int .i64),(208961,.int .i64),(208965,.int .i64),(208970,.int .i64),(208975,.int .i64),(208980,.int .i64),(208996,.int .i64),
 (209004,.int .i64),(209009,.int .i64),(209012,.int .i64),(209016,.int .i64)]) (bF []) c Q=(exI .i64 c.2 (fun n_0=>aTb∧bif inM n_0 32 then exI .i64 c.3 (fun n_1=>bif n_1==0 then exI .i64 c.4 (fun n_2=>bif n_2==0
 then exI .i64 c.5 (fun n_3=>bif n_3==0 then exI .i64 c.6 (fun n_4=>bif n_4==0 then exI .i64 c.7 (fun n_5=>bif n_5==0 then exI .i64 c.8 (fun n_6=>bif n_6==0 then exI .i64 (c.9.length:Int) (fun n_7=>bif n_7==0 then exI
 .i64 (aDo c) (fun n_8=>bif n_8==0 then exI .i64 c.11 (fun n_9=>bif n_9==0 then exI .i64 c.12 (fun n_10=>bif n_10==0 then exI .i64 (lV c) (fun n_11=>bif n_11==0 then iM∧∃x_12:Bool×Bool×Bool×Bool×Bool,
 eY x_12 c∧iD c∧nE∧jD x_12∧jY x_12∧jT x_12∧aBq x_12 else xG c) else xG c) else xG c) else exI .i64 c.11 (fun n_9=>bif n_9==0 then exI .i64 c.12 (fun n_10=>bif n_10==0 then exI .i64 (lV
 c) (fun n_11=>bif n_11==0 then iM∧∃x_12:Bool×Bool×Bool×Bool×Bool,eY x_12 c∧iD c∧nE∧jD x_12∧jY x_12∧jT x_12∧aBd x_12 else yK c) else yK c) else yK c)) else exI .i64 (aDo c)
 (fun n_8=>bif n_8==0 then exI .i64 c.11 (fun n_9=>bif n_9==0 then exI .i64 c.12 (fun n_10=>bif n_10==0 then exI .i64 (lV c) (fun n_11=>bif n_11==0 then iM∧∃x_12:Bool×Bool×Bool×Bool×Bool,eY x_12 c ∧
 iD c∧nE∧jD x_12∧jY x_12∧jR x_12∧aBq x_12 else vO c) else vO c) else vO c) else exI .i64 c.11 (fun n_9=>bif n_9==0 then exI .i64 c.12 (fun n_10=>bif n_10==0 then exI .i64 (lV c) (fun n_11
 => bif n_11==0 then iM∧∃x_12:Bool×Bool×Bool×Bool×Bool,eY x_12 c∧iD c∧nE∧jD x_12∧jY x_12∧jR x_12∧aBd x_12 else wT c) else wT c) else wT c))) else nU c) else nU c) else
 nU c) else nU c) else nU c) else exI .i64 c.4 (fun n_2=>bif n_2==0 then exI .i64 c.5 (fun n_3=>bif n_3==0 then exI .i64 c.6 (fun n_4=>bif n_4==0 then exI .i64 c.7 (fun n_5=>bif n_5==0 then exI .i64 c.8 (fun
 n_6=>bif n_6==0 then exI .i64 (c.9.length:Int) (fun n_7=>bif n_7==0 then exI .i64 (aDo c) (fun n_8=>bif n_8==0 then exI .i64 c.11 (fun n_9=>bif n_9==0 then exI .i64 c.12 (fun n_10=>bif n_10==0 then exI .i64 (lV
 c) (fun n_11=>bif n_11==0 then iM∧∃x_12:Bool×Bool×Bool×Bool×Bool,eY x_12 c∧iD c∧nE∧zB x_12∧jY x_12∧jT x_12∧aBq x_12 else pK c) else pK c) else pK c) else exI .i64 c.11 (fun
 n_9=>bif n_9==0 then exI .i64 c.12 (fun n_10=>bif n_10==0 then exI .i64 (lV c) (fun n_11=>bif n_11==0 then iM∧∃x_12:Bool×Bool×Bool×Bool×Bool,eY x_12 c∧iD c∧nE∧zB x_12∧jY x_12∧jT x_12
 ∧ aBd x_12 else qB c) else qB c) else qB c)) else exI .i64 (aDo c) (fun n_8=>bif n_8==0 then exI .i64 c.11 (fun n_9=>bif n_9==0 then exI .i64 c.12 (fun n_10=>bif n_10==0 then exI .i64 (lV c) (fun n_11
 => bif n_11==0 then iM∧∃x_12:Bool×Bool×Bool×Bool×Bool,eY x_12 c∧iD c∧nE∧zB x_12∧jY x_12∧jR x_12∧aBq x_12 else qF c) else qF c) else qF c) else exI .i64 c.11 (fun n_9=>bif
 n_9==0 then exI .i64 c.12 (fun n_10=>bif n_10==0 then exI .i64 (lV c) (fun n_11=>bif n_11==0 then iM∧∃x_12:Bool×Bool×Bool×Bool×Bool,eY x_12 c∧iD c∧nE∧zB x_12∧jY x_12∧jR x_12∧aBd
 x_12 else qI c) else qI c) else qI c))) else kQ c) else kQ c) else kQ c) else kQ c) else kQ c))∧∀x_1:Bool×Bool×Bool×Bool×Bool,eY x_1 c→exI .i64 c.1 (fun n_2=>bif n_2==1
 then exI .i64 c.4 (fun n_3=>aTb∧bif inM n_3 32 then exI .i64 c.5 (fun n_4=>aTb∧bif inM n_4 32 then exI .i64 c.6 (fun n_5=>aTb∧bif inM n_5 32 then exI .i64 c.7 (fun n_6=>aTb∧bif inM n_6 32 then exI .i64 c.8 (fun n_7=>
 aTb∧bif inM n_7 32 then ∃l_8:List Rc,aTk c l_8∧bif dL l_8 then iM∧∃x_9:Bool×Bool×Bool×Bool×Bool,Lf (zN c x_9)∧iD c∧AV.bool x_1.1=AV.bool x_9.1∧qD x_1=qD x_9∧jT x_9∧aQb x_9∧aHe
 x_1=aHe x_9∧True else iM∧∃x_9:Bool×Bool×Bool×Bool×Bool,Lf (zN c x_9)∧iD c∧AV.bool x_1.1=AV.bool x_9.1∧qD x_1=qD x_9∧jR x_9∧aQb x_9∧aHe x_1=aHe x_9∧True else bFs c x_1) else bFs c
 x_1) else bFs c x_1) else bFs c x_1) else bFs c x_1) else bif n_2==2 then ∃l_3:List Rc,aTk c l_3∧bif dL l_3 then iM∧∃x_4:Bool×Bool×Bool×Bool×Bool,Lf (zN c x_4)∧iD c∧AV.bool x_1.1=AV.bool x_4.1 ∧
 qD x_1=qD x_4∧jT x_4∧aE7 x_1 x_4∧aHe x_1=aHe x_4∧True else iM∧∃x_4:Bool×Bool×Bool×Bool×Bool,Lf (zN c x_4)∧iD c∧AV.bool x_1.1=AV.bool x_4.1∧qD x_1=qD x_4∧jR x_4∧aE7 x_1 x_4 ∧
 aHe x_1=aHe x_4∧True else bif n_2==3 then iM∧∃x_3:Bool×Bool×Bool×Bool×Bool,Lf (zN c x_3)∧iD c∧AV.bool x_1.1=AV.bool x_3.1∧qD x_1=qD x_3∧aYb x_1 x_3 else bif n_2==4 then exI .i64 c.3 (fun n_3
 => aTb∧bif inM n_3 32 then ∃xs_4:List Int,bCa c xs_4∧bif bV xs_4 then iM∧∃x_5:Bool×Bool×Bool×Bool×Bool,Lf (zN c x_5)∧iD c∧jD x_5∧qD x_1=qD x_5∧xU x_1=xU x_5∧aE7 x_1 x_5∧aNf
 x_5 else iM∧∃x_5:Bool×Bool×Bool×Bool×Bool,Lf (zN c x_5)∧iD c∧jD x_5∧qD x_1=qD x_5∧xU x_1=xU x_5∧aE7 x_1 x_5∧aM7 x_5 else ∃xs_4:List Int,bCa c xs_4∧bif bV xs_4 then iM∧∃
 x_5:Bool×Bool×Bool×Bool×Bool,Lf (zN c x_5)∧iD c∧zB x_5∧qD x_1=qD x_5∧xU x_1=xU x_5∧aE7 x_1 x_5∧aNf x_5 else iM∧∃x_5:Bool×Bool×Bool×Bool×Bool,Lf (zN c x_5)∧iD c∧zB x_5
 ∧ qD x_1=qD x_5∧xU x_1=xU x_5∧aE7 x_1 x_5∧aM7 x_5) else bif n_2==5 then exI .i64 c.3 (fun n_3=>aTb∧bif inM n_3 32 then iM∧∃x_4:Bool×Bool×Bool×Bool×Bool,Lf (zN c x_4)∧iD c∧jD x_4 ∧
 qD x_1=qD x_4∧aYb x_1 x_4 else iM∧∃x_4:Bool×Bool×Bool×Bool×Bool,Lf (zN c x_4)∧iD c∧zB x_4∧qD x_1=qD x_4∧aYb x_1 x_4) else bif n_2==6 then exI .i64 c.3 (fun n_3=>aTb∧bif inM n_3 32 then
 exI .i64 c.11 (fun n_4=>bFg∧bif inM n_4 16 then exI .i64 c.12 (fun n_5=>bDw∧bif inM n_5 8 then ∃xs_6:List Int,Lf (aA c.13=aA xs_6∧c.13.length=xs_6.length∧xs_6.length≤1000000)∧∀b_7:Bool,Lf (b_7 =
 (aZ xs_6).2.2)→bif b_7 then iM∧∃x_8:Bool×Bool×Bool×Bool×Bool,Lf (zN c x_8)∧iD c∧jD x_8∧jY x_8∧aYb x_1 x_8 else aWz c x_1 else aWz c x_1) else aWz c x_1) else exI .i64 c.11 (fun n_4=>bFg ∧
 bif inM n_4 16 then exI .i64 c.12 (fun n_5=>bDw∧bif inM n_5 8 then ∃xs_6:List Int,Lf (aA c.13=aA xs_6∧c.13.length=xs_6.length∧xs_6.length≤1000000)∧∀b_7:Bool,Lf (b_7=(aZ xs_6).2.2)→bif b_7 then
 iM∧∃x_8:Bool×Bool×Bool×Bool×Bool,Lf (zN c x_8)∧iD c∧zB x_8∧jY x_8∧aYb x_1 x_8 else aWq c x_1 else aWq c x_1) else aWq c x_1)) else Q aEz [] {})∧∀x_2:Bool×Bool×Bool×Bool×Bool,Lf (zN
 c x_2)→bif x_2.1 then bif x_2.2.1 then bif x_2.2.2.1 then bif x_2.2.2.2.1 then bif x_2.2.2.2.2 then Q (.ret (.bool true)) [] {} else Q aEz [] {} else Q aEz [] {} else Q aEz [] {} else Q aEz [] {} else Q aEz [] {} else Q aEz
 [] {})):=by kernel_rfl

theorem aYo {c:Ctl} {Q:Out→List Blk→Gh→Prop} (hq:Q (.ret (.bool (aQ c))) [] {}) (h:aQ c=false):Q (.ret (.bool false)) [] {}:=by rwa [h] at hq
theorem aMn (c:Ctl) (hok:okC c) (Q:Out→List Blk→Gh→Prop) (hq:Q (.ret (.bool (aQ c))) [] {}):∃hv hb,aGt hv hb c Q:=by
 obtain ⟨hv,hb',e⟩:∃hv hb,aGt hv hb c Q=_:=⟨_,_,bOs c Q⟩
 refine ⟨hv,hb',e.mpr ?_⟩
 delta aTb aDo lV aXb iM eY nE jD qD jY jT aQb aNf aBq aM7 aBd jR zB aTk aHe kE bFs aE7 xU aYb bCa bFg bDw jZ aWz aWq aEz
 clear e
 obtain ⟨ok1,ok2,ok3⟩:=hok
 refine ⟨_,rfl,⟨.inr (.inr rfl)⟩,splitB (fun hf => ?_) (fun hf => ?_)⟩
 ·refine ⟨?_, ?_⟩
  ·clear hq
   repeat' (first | (with_reducible refine ⟨⟨trivial,rfl⟩,(_,_,_,_,_),⟨?_⟩,rfl,rfl,rfl,rfl,rfl,rfl,rfl,trivial⟩) | (with_reducible refine ⟨_,rfl, ?_⟩) | (with_reducible refine aP (fun _ => ?_) (fun _ => ?_)))
   iterate 3 (all_goals (first | unfold xG | unfold yK | unfold vO | unfold wT | unfold wF | unfold xW | unfold yY | unfold vY | unfold nU | unfold pK | unfold qB | unfold qF | unfold qI | unfold pF | unfold pR | unfold pQ | unfold oV | unfold kQ | skip);all_goals (repeat' (first | (with_reducible refine ⟨⟨trivial,rfl⟩,(_,_,_,_,_),⟨?_⟩,rfl,rfl,rfl,rfl,rfl,rfl,rfl,trivial⟩) | (with_reducible refine ⟨_,rfl, ?_⟩) | (with_reducible refine aP (fun _ => ?_) (fun _ => ?_)))))
   all_goals (simp only[bLu,bPr,bPz];simp_all)
  ·rintro ⟨b1,b2,b3,b4,b5⟩ ⟨hb0⟩
   dsimp only
   refine ⟨?_, ?_⟩
   ·repeat' (first | (with_reducible refine ⟨⟨trivial,rfl⟩,(_,_,_,_,_),⟨?_⟩,rfl,rfl,rfl,rfl,rfl,rfl,trivial⟩) | (with_reducible refine ⟨⟨.inr (.inr rfl)⟩, ?_⟩) | (with_reducible refine ⟨⟨.inr (.inl rfl)⟩, ?_⟩) | (with_reducible refine ⟨⟨.inl rfl⟩, ?_⟩) | (with_reducible refine ⟨c.rs,⟨rfl,rfl,ok1⟩, ?_⟩) | (with_reducible refine ⟨c.lo,⟨rfl,rfl,by omega⟩, ?_⟩) | (with_reducible refine ⟨c.ti,⟨rfl,rfl,ok3⟩, ?_⟩) | (rintro b ⟨hs⟩) | (with_reducible refine ⟨_,rfl, ?_⟩) | (with_reducible refine aP (fun _ => ?_) (fun _ => ?_)) | (with_reducible refine splitB (fun hb => ?_) (fun hb => ?_)))
    iterate 4 (all_goals (first | unfold xG | unfold yK | unfold vO | unfold wT | unfold wF | unfold xW | unfold yY | unfold vY | unfold nU | unfold pK | unfold qB | unfold qF | unfold qI | unfold pF | unfold pR | unfold pQ | unfold oV | unfold kQ | skip);all_goals (repeat' (first | (with_reducible refine ⟨⟨trivial,rfl⟩,(_,_,_,_,_),⟨?_⟩,rfl,rfl,rfl,rfl,rfl,rfl,trivial⟩) | (with_reducible refine ⟨⟨.inr (.inr rfl)⟩, ?_⟩) | (with_reducible refine ⟨⟨.inr (.inl rfl)⟩, ?_⟩) | (with_reducible refine ⟨⟨.inl rfl⟩, ?_⟩) | (with_reducible refine ⟨c.rs,⟨rfl,rfl,ok1⟩, ?_⟩) | (with_reducible refine ⟨c.lo,⟨rfl,rfl,by omega⟩, ?_⟩) | (with_reducible refine ⟨c.ti,⟨rfl,rfl,ok3⟩, ?_⟩) | (rintro b ⟨hs⟩) | (with_reducible refine ⟨_,rfl, ?_⟩) | (with_reducible refine aP (fun _ => ?_) (fun _ => ?_)) | (with_reducible refine splitB (fun hb => ?_) (fun hb => ?_)))))
    all_goals try simp only[qU,aBb,aI8,sG,aGp,aSa] at *
    all_goals first
     | (refine aYo hq ?_;rw[←Bool.not_eq_true,dN];intro hv;omega)
     | (unfold zN;rw[Bool.eq_iff_iff,dN];simp only[bLu,bPr,bPz,Prod.mk.injEq] at hb0;obtain ⟨rfl,rfl,rfl,rfl,rfl⟩:=hb0;have hr0:=@aO2 c.rs;constructor<;>intro hv<;>simp_all<;>omega)
   ·clear hb0 b1 b2 b3 b4 b5
    rintro ⟨b1,b2,b3,b4,b5⟩ ⟨hb⟩
    unfold zN at hb
    rw[←hb] at hq
    cases b1<;>cases b2<;>cases b3<;>cases b4<;>cases b5<;>exact hq
 ·refine aYo hq ?_
  rw[←Bool.not_eq_true,dN]
  rw[sG] at hf
  intro hv
  omega
theorem aQi:aO Tryd.prog glC 51 yO:=by
 refine bE (enters_of (by kernel_rfl)) aV fun args H Q hc => ?_
 unfold yO at hc
 split at hc
 ·rename_i cs
  obtain ⟨c,⟨rfl,hok⟩,hq⟩:=hc
  obtain ⟨hv,hb',h⟩:=aMn c hok (fun o H' _=>H'=[]∧(∃v,o=.ret v∧old 0 v=true∧noY v=true)∧Q o H) ⟨rfl,⟨_,rfl,rfl,rfl⟩,hq⟩
  exact ⟨rfl,rfl,_,1000,(aS bAn _ _ _:EnvFor Tryd.prog (aPh hv hb' c)),rfl,h⟩
 ·exact hc.elim
theorem aV8:aO Tryd.prog glC 32 aC0:=aTs aQi
end Go.Proofs.YtafchcmemeinlaaDoor
