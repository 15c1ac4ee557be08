/-
  Chapter 25: opening with what is expected.
-/
import Derived.Test.YtnhechnaemmdiaaGreatDoorK25TD
import Derived.Test.YtnhechnaemmdiaaGreatDoorKnQ
set_option linter.unusedSimpArgs false
set_option linter.unusedVariables false
set_option linter.unusedSectionVars false
namespace Go.Proofs.YtnhechnaemmdiaaGreatDoor
open Go.RowKit
set_option maxRecDepth 1000000

def aH4 (args:List AV):List AV:=args.map Md.aggK
theorem xI:∀args:List AV,wkL args (aH4 args)
 | []=>nT
 | a::l=>dZ (Md.wk_aggK a) (xI l)
theorem aUe:aF Tryz.prog gl0 30 fun args H Q=>Md.cSame (aH4 args) H Q:=eD Md.same_raw fun args H Q h=>⟨aH4 args,xI args,h⟩
def shA:AV→AV
 | .agg l=>.agg (nlL [0,0,0,1,3] l)
 | v=>v
theorem bHz (v:AV):wk v (shA v):=by
 unfold shA
 split
 ·exact sP (kZ _ _)
 ·exact eO _
theorem aVf:∀args:List AV,wkL args (args.map shA)
 | []=>nT
 | a::l=>dZ (bHz a) (aVf l)
theorem aNu:aF Tryz.prog gl0 17 fun args H Q=>aHg (args.map shA) H Q:=eD aKt fun args H Q h=>⟨_,aVf args,h⟩
def aZ5:SM:=dV [(17,fun args H Q=>aHg (args.map shA) H Q),(28,aYf),(30,fun args H Q=>Md.cSame (aH4 args) H Q)]
theorem aS6:∀f g,aZ5 f=some g→aF Tryz.prog gl0 f g:=bF _ (by simp only[bOr,bOx,bP3,bPj,bQe];exact ⟨aNu,bAu,aUe⟩)
noncomputable def nX (hv:Nat→Option Pa) (hb:Nat→Option Bool) (a b c:List UInt8) (hl:List AV) (hn:Nat) (tl:List AV) (tn:Nat) (s:List UInt8) (wm:Bool) (wt wq wi ws:Int) (t5:Nat) (c5:List AV) (n5 t6:Nat) (c6:List AV) (n6:Nat) (wp:Int) (wl:List UInt8) (Q:Out→List Blk→Gh→Prop):Prop:=
 aY (e04 aZ5 (fun _=>none) hv hb) (wpx (e04 aZ5 (fun _=>none) hv hb) 1000) 32 [.agg [.str a,.str b,.str c,.lst 0 hl hn 1,.lst 0 tl tn 3,.int .i64 0,.int .i64 0,.int .i64 (-1),.int .u64 0],.str s,.agg [.bool wm,.int .i64 wt,.int .i64 wq,.int .i64 wi,.int .i64 ws,.lst t5 c5 n5 1,.lst t6 c6 n6 2,.int .i64 wp,.str wl]] [] {} Q
theorem aZn (a:List UInt8) (b:List UInt8) (c:List UInt8) (hl:List AV) (hn:Nat) (tl:List AV) (tn:Nat) (s:List UInt8) (wm:Bool) (wt:Int) (wq:Int) (wi:Int) (ws:Int) (t5:Nat) (c5:List AV) (n5:Nat) (t6:Nat)
 (c6:List AV) (n6:Nat) (wp:Int) (wl:List UInt8) (Q:Out→List Blk→Gh→Prop):nX (bD []) (bE []) a b c hl hn tl tn s wm wt wq wi ws t5 c5 n5 t6 c6 n6 wp wl Q=(∃hid_0:List Int,∃mk_1:Bool,∃ty_2 sq_3 ti_4 :
 Int,∃cs_5:List Int,∃exc_6:List Md.Xt,∃pad_7:Int,∃pl_8:List UInt8,∃w_9:List Tr,∃z_10:Int,Lf ((hl=aB hid_0∧hn=hid_0.length∧tl=trM w_9∧tn=w_9.length∧s=uG mk_1 ty_2 sq_3 ti_4 1 cs_5 exc_6 pad_7
 pl_8 a b z_10)∧(bAh w_9∧bU a b c hid_0 w_9 0 0 (-1) 0=true∧Md.rightM ty_2 sq_3 ti_4 1 cs_5 exc_6 pad_7=true∧(Md.encM mk_1 ty_2 sq_3 ti_4 1 cs_5 exc_6 pad_7 pl_8).length≤1184)∧z_10=dB (eF w_9) sq_3∧0≤z_10 ∧
 z_10≤281474976710655)∧((Lf (fH (eF w_9) z_10 (jM w_9)=true)∧∃cs_11:List Int,∃ex_12:List Md.Xt,Lf ((([]:List AV)=aB cs_11∧0=cs_11.length∧([]:List AV)=Md.cellsXM ex_12∧0=ex_12.length ∧
 cs_11.length≤1000000∧ex_12.length≤1000000)∧false=false∧(0:Int)=(0:Int)∧(0:Int)=(0:Int)∧(0:Int)=(0:Int)∧(0:Int)=(0:Int)∧([]:List AV)=aB cs_11∧0=cs_11.length∧([]:List AV) =
 Md.cellsXM ex_12∧0=ex_12.length∧(0:Int)=(0:Int)∧([]:List UInt8)=[])∧∃xs_13:List Int,∃l_14:List Tr,∃rk_15:Nat,Lf (([]:List AV)=aB xs_13∧0=xs_13.length∧([]:List AV)=trM l_14∧0=l_14.length
 ∧ 0=(rk_15:Int)∧xs_13.length≤9223372036854775807∧l_14.length≤9223372036854775807∧([]:List UInt8)=[]∧([]:List UInt8)=[]∧([]:List UInt8)=[]∧([]:List AV)=aB xs_13∧0=xs_13.length∧([]:List AV) =
 trM l_14∧0=l_14.length∧(0:Int)=(0:Int)∧(0:Int)=(0:Int)∧(0:Int)=(0:Int)∧0=(rk_15:Int))∧Q (.ret (.tup [.agg [.str [],.str [],.str [],.lst 0 [] 0 1,.lst 0 [] 0 3,.int .i64 0,.int .i64 0,.int .i64 0,
 .int .u64 0],.int .i64 10])) [] {})∨Lf (fH (eF w_9) z_10 (jM w_9)=false)∧∀ex_11:List Md.Xt,∀t_12:Tr,Lf (ex_11=cZ hid_0 c b 1 z_10 exc_6∧t_12=jH w_9 z_10)→∃cs_13:List Int,∃ex_14:List Md.Xt,Lf
 ((aB cs_5=aB cs_13∧cs_5.length=cs_13.length∧Md.cellsXM ex_11=Md.cellsXM ex_14∧ex_11.length=ex_14.length∧cs_13.length≤1000000∧ex_14.length≤1000000)∧wm=mk_1∧wt=ty_2∧wq=sq_3∧wi=ti_4∧ws=1∧c5
 = aB cs_13∧n5=cs_13.length∧c6=Md.cellsXM ex_14∧n6=ex_14.length∧wp=pad_7∧wl=pl_8)∧Q (.ret (.tup [.agg [.str a,.str b,.str c,.lst 0 (aB hid_0) hid_0.length 1,.lst 0 (trM [t_12]) 1 3,.int .i64 0,.int .i64
 0,.int .i64 (-1),.int .u64 0],.int .i64 0])) [] {})):=by kernel_rfl

end Go.Proofs.YtnhechnaemmdiaaGreatDoor
