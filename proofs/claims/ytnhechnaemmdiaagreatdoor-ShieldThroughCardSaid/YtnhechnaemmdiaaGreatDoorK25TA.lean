/-
  Chapter 25: Protect and Open, by a shield with at most one track: residuals.
-/
import Derived.Test.YtnhechnaemmdiaaGreatDoorK25TS
import Derived.Test.YtnhechnaemmdiaaGreatDoorK25TB
import Derived.Test.YtnhechnaemmdiaaGreatDoorKnO
import Derived.Test.YtnhechnaemmdiaaGreatDoorKnM
set_option linter.unusedSimpArgs false
set_option linter.unusedVariables false
set_option linter.unusedSectionVars false
namespace Go.Proofs.YtnhechnaemmdiaaGreatDoor
open Go.RowKit
set_option maxRecDepth 1000000

def aMq:SM:=dV [(13,aLl),(31,aRt),(34,aHp),(58,aSb),(59,xU),(65,cbC aRd),(66,aW3),(67,cbC aCw)]
theorem aGx:∀f g,aMq f=some g→aF Tryz.prog gl0 f g:=bF _ (by simp only[bOr,bOx,bP3,bPj,bQe];exact ⟨aEo,aO0,aGe,aLe,aCu,aKm,aKn,yN⟩)
def aKf:SM:=dV [(13,aLl),(34,aHp),(35,aZz),(58,aSb),(59,xU),(65,cbC aRd),(67,cbC aCw),(80,bAl),(81,aXs),(82,aLu),(129,aHk)]
theorem aF3:∀f g,aKf f=some g→aF Tryz.prog gl0 f g:=bF _ (by simp only[bOr,bOx,bP3,bPj,bQe];exact ⟨aEo,aGe,aY0,aLe,aCu,aKm,yN,aXq,bB4,aT4,qM⟩)
noncomputable def yY (hv:Nat→Option Pa) (hb:Nat→Option Bool) (a b c:List UInt8) (hid:List Int) (t5 t6:Nat) (mk:Bool) (ty sq ti:Int) (cs:List Int) (ex:List Md.Xt) (pad:Int) (pl:List UInt8) (Q:Out→List Blk→Gh→Prop):Prop:=
 aY (e04 aMq (fun _=>none) hv hb) (wpx (e04 aMq (fun _=>none) hv hb) 1000) 24 [.agg [.str a,.str b,.str c,.lst 0 (aB hid) hid.length 1,.lst 0 [] 0 3,.int .i64 0,.int .i64 0,.int .i64 (-1),.int .u64 0],.agg [.bool mk,.int .i64 ty,.int .i64 sq,.int .i64 ti,.int .i64 1,.lst t5 (aB cs) cs.length 1,.lst t6 (Md.cellsXM ex) ex.length 2,.int .i64 pad,.str pl]] [] {} Q
abbrev aBy (hid xs_0:List Int):Prop:=Lf (aB hid=aB xs_0∧hid.length=xs_0.length∧xs_0.length≤1000000)
abbrev aCs (mk:Bool) (ty sq ti:Int) (cs:List Int) (ex:List Md.Xt) (pad:Int) (pl:List UInt8) (cs_1:List Int) (ex_2:List Md.Xt):Prop:=Lf (aJ7 mk ty sq ti 1 (aB cs) cs.length (Md.cellsXM ex) ex.length pad pl cs_1 ex_2)
abbrev aPu:List AV:=[.str [],.str [],.str [],.nils,.nils,.int .i64 0,.int .i64 0,.int .i64 0,.int .u64 0]
abbrev aL9:Out:=.ret (.tup [.agg aPu,.str [],.int .i64 3])
abbrev aJk (sq:Int):Prop:=Lf ((-(1:Int) ≤ -(1:Int) ∧ -(1:Int)≤(9223372036854000000:Int))∧0≤sq∧sq≤65535)
abbrev aNg:Out:=.ret (.tup [.agg aPu,.str [],.int .i64 10])
abbrev uI (z_5:Int):Bool:=decide (z_5>281474976710655)
abbrev aPj:Out:=.ret (.tup [.agg aPu,.str [],.int .i64 6])
abbrev kP (a b c:List UInt8) (hid:List Int):Blk:=Blk.mk BK.exact true [.str a,.str b,.str c,.lst 0 (aB hid) hid.length 1,.lst 0 [] 0 3,.int .i64 0,.int .i64 0,.int .i64 (-1),.int .u64 0]
abbrev aGf (mk:Bool) (ty sq ti:Int) (t5:Nat) (cs:List Int) (t6:Nat) (ex:List Md.Xt) (pad:Int) (pl:List UInt8):Blk:=Blk.mk BK.exact true [.bool mk,.int .i64 ty,.int .i64 sq,.int .i64 ti,.int .i64 1,.lst t5 (aB cs) cs.length 1,.lst t6 (Md.cellsXM ex) ex.length 2,.int .i64 pad,.str pl]
abbrev kV:Blk:=Blk.mk BK.exact true aPu
abbrev aHh (xs_0:List Int):AV:=.lst 0 (aB xs_0) xs_0.length 1
abbrev aJx (a b c:List UInt8) (xs_0:List Int):Blk:=Blk.mk BK.exact false [.str a,.str b,.str c,aHh xs_0,.sl 5 0 0 0 3,.int .i64 0,.int .i64 0,.int .i64 (-1),.int .u64 0]
abbrev iI:Blk:=Blk.mk BK.exact true []
abbrev vD:Blk:=Blk.mk BK.exact true [.int .i64 1,.int .i64 (-1),.int .u64 0]
abbrev uT (xs_0 hid_6:List Int) (ex ex_7:List Md.Xt) (b c:List UInt8):Prop:=Lf (aB xs_0=aB hid_6∧xs_0.length=hid_6.length∧Md.cellsXM ex=Md.cellsXM ex_7∧ex.length=ex_7.length∧hid_6.length≤1000000∧ex_7.length≤1000000∧(bC hid_6 ex_7).length≤4096∧b.length=12∧c.length=32)
abbrev fV (n_12:Int):Bool:=decide (0≤n_12)&&true
abbrev vB (n_12:Int) (s_3:List UInt8):Bool:=fV n_12&&Nat.ble n_12.toNat s_3.length&&Nat.ble s_3.length s_3.length
abbrev uS (s_3:List UInt8) (n_12:Int):AV:=.str ((s_3.drop n_12.toNat).take (s_3.length-n_12.toNat))
abbrev uV (a:List UInt8):Bool:=dI [.str a] [.str a]&&true
abbrev pG (n_19 n_21:Int):Int:=(((n_19%18446744073709551616).toNat ||| (n_21%18446744073709551616).toNat:Nat):Int)
abbrev aAl (s_11 t_15:List UInt8):Bool:=decide (s_11.length+t_15.length≤9223372036854775807)&&true
abbrev aEv (a b c:List UInt8) (xs_0:List Int):List AV:=[.str a,.str b,.str c,aHh xs_0,.sl 8 3 0 1 3,.int .i64 0,.int .i64 0,.int .i64 (-1),.int .u64 0]
abbrev aJh (z_5 n_22:Int):List AV:=[.int .i64 1,.int .i64 z_5,.int .u64 n_22]
abbrev pK (z_5 n_22:Int):Blk:=Blk.mk BK.exact true (aJh z_5 n_22)
abbrev vC:Blk:=Blk.mk BK.exact true [.int .i64 0,.int .i64 0,.int .u64 0]
abbrev pJ (z_5 n_22:Int):Blk:=Blk.mk BK.grow true (aJh z_5 n_22)
abbrev aIh (n_19:Int):Nat:=(n_19%18446744073709551616).toNat
abbrev aT3 (n_20:Int):List AV:=[.int .i64 1,.int .i64 (-1),.int .u64 n_20]
abbrev aH8 (n_20:Int):Blk:=Blk.mk BK.exact true (aT3 n_20)
abbrev aJi (n_20:Int):Blk:=Blk.mk BK.grow true (aT3 n_20)
abbrev aJq (a b c:List UInt8) (xs_0:List Int):Blk:=Blk.mk BK.exact true [.str a,.str b,.str c,aHh xs_0,.nils,.int .i64 0,.int .i64 0,.int .i64 (-1),.int .u64 0]
abbrev aDm (a b c:List UInt8) (xs_0:List Int):List AV:=[.str a,.str b,.str c,aHh xs_0,.sl 7 3 0 1 3,.int .i64 0,.int .i64 0,.int .i64 (-1),.int .u64 0]
theorem bF1 (a:List UInt8) (b:List UInt8) (c:List UInt8) (hid:List Int) (t5:Nat) (t6:Nat) (mk:Bool) (ty:Int) (sq:Int) (ti:Int) (cs:List Int) (ex:List Md.Xt) (pad:Int) (pl:List UInt8) (Q:Out→List Blk→Gh →
 Prop):yY (bD [(98338,.int .i64),(98400,.int .i64),(98401,.str),(278539,.int .i64),(278550,.int .i64),(278551,.int .u64),(278570,.int .i64),(278571,.int .u64),(278572,.int .u64),(98418,.str)]) (bE []) a b c
 hid t5 t6 mk ty sq ti cs ex pad pl Q=(Lf (aJa a b c (aB hid) hid.length [] 0 0 0 (-1) 0)∧∃xs_0:List Int,aBy hid xs_0∧(∃cs_1:List Int,∃ex_2:List Md.Xt,aCs mk ty sq ti cs ex pad pl cs_1 ex_2∧∀s_3:List UInt8,
 Lf (s_3=Md.encM mk ty sq ti 1 cs_1 ex_2 pad pl)→exI .i64 (s_3.length:Int) (fun n_4=>bif decide (n_4>1184) then Q aL9 [] {} else aJk sq∧∀z_5:Int,Lf (z_5=dB (-1) sq)→bif decide (z_5 ≤ -1) then Q aNg [] {} else
 bif uI z_5 then Q aPj [] {} else Lf (aAs [kP a b c hid,aGf mk ty sq ti t5 cs t6 ex pad pl,kV,kP a b c hid,aJx a b c xs_0,iI,vD] (.sl 5 0 0 0 3))∧∃hid_6:List Int,∃ex_7:List Md.Xt,uT xs_0 hid_6 ex
 ex_7 b c∧∀ex'_8:List Md.Xt,Lf (ex'_8=cZ hid_6 c b 1 z_5 ex_7)→∃cs_9:List Int,∃ex_10:List Md.Xt,aCs mk ty sq ti cs ex'_8 pad pl cs_9 ex_10∧∀s_11:List UInt8,Lf (s_11=Md.headM mk ty sq ti 1 cs_9 ex_10 pad)→exI
 .i64 (s_11.length:Int) (fun n_12=>ckQ (vB n_12 s_3) (exS (uS s_3 n_12) (fun s_13=>Lf (aAs [kP a b c hid,aGf mk ty sq ti t5 cs t6 ex pad pl,kV,kP a b c hid,aJx a b c xs_0,iI,vD] (.sl 5 0 0 0 3))∧Lf
 (b.length=12)∧∀s_14:List UInt8,Lf (s_14=dG b 1 z_5)→ckQ (uV a) (∀t_15:List UInt8,∀e_16:Int,Lf (jW a s_14 s_11 s_13=Prod.mk t_15 e_16)→exW .i64 (z_5 - -1) (fun n_17=>bif decide (n_17>0) then exI .i64
 (vH n_17 64) (fun n_18=>ckQ (fV n_18) (exW .u64 (0*(2:Int)^Min.min n_18.toNat 64) (fun n_19=>exW .i64 (z_5-z_5) (fun n_20=>ckQ (fV n_20) (exW .u64 (1*(2:Int)^Min.min n_20.toNat 64) (fun n_21=>exW .u64 (pG
 n_19 n_21) (fun n_22=>ckQ (aAl s_11 t_15) (exS (.str (s_11++t_15)) (fun s_23=>Q (.ret (.tup [.agg (aEv a b c xs_0),.str s_23,.int .i64 0])) [kP a b c hid,aGf mk ty sq ti t5 cs t6 ex pad pl,Blk.mk BK.exact false (aEv a b
 c xs_0),kP a b c hid,Blk.mk BK.exact false (aEv a b c xs_0),iI,pK z_5 n_22,vC,pJ z_5 n_22] {}))))))))) else exW .i64 (-1-z_5) (fun n_18=>ckQ (fV n_18) (exW .u64 (1*(2:Int)^Min.min n_18.toNat 64) (fun n_19
 => exW .u64 ((0 ||| aIh n_19:Nat):Int) (fun n_20=>ckQ (aAl s_11 t_15) (exS (.str (s_11++t_15)) (fun s_21=>Q (.ret (.tup [.agg (aEv a b c xs_0),.str s_21,.int .i64 0])) [kP a b c hid,aGf mk ty sq ti t5 cs t6 ex pad pl,
 Blk.mk BK.exact false (aEv a b c xs_0),kP a b c hid,Blk.mk BK.exact false (aEv a b c xs_0),iI,aH8 n_20,vC,aJi n_20] {})))))))))))))∧∃cs_1:List Int,∃ex_2:List Md.Xt,aCs mk ty sq ti cs ex pad pl cs_1 ex_2 ∧
 ∀s_3:List UInt8,Lf (s_3=Md.encM mk ty sq ti 1 cs_1 ex_2 pad pl)→exI .i64 (s_3.length:Int) (fun n_4=>bif decide (n_4>1184) then Q aL9 [] {} else aJk sq∧∀z_5:Int,Lf (z_5=dB (-1) sq)→bif decide (z_5 ≤ -1) then
 Q aNg [] {} else bif uI z_5 then Q aPj [] {} else Lf (aAs [kP a b c hid,aGf mk ty sq ti t5 cs t6 ex pad pl,kV,kP a b c hid,aJq a b c xs_0,vD] .nils)∧∃hid_6:List Int,∃ex_7:List Md.Xt,uT xs_0 hid_6 ex
 ex_7 b c∧∀ex'_8:List Md.Xt,Lf (ex'_8=cZ hid_6 c b 1 z_5 ex_7)→∃cs_9:List Int,∃ex_10:List Md.Xt,aCs mk ty sq ti cs ex'_8 pad pl cs_9 ex_10∧∀s_11:List UInt8,Lf (s_11=Md.headM mk ty sq ti 1 cs_9 ex_10 pad)→exI
 .i64 (s_11.length:Int) (fun n_12=>ckQ (vB n_12 s_3) (exS (uS s_3 n_12) (fun s_13=>Lf (aAs [kP a b c hid,aGf mk ty sq ti t5 cs t6 ex pad pl,kV,kP a b c hid,aJq a b c xs_0,vD] .nils)∧Lf (b.length=12)∧∀
 s_14:List UInt8,Lf (s_14=dG b 1 z_5)→ckQ (uV a) (∀t_15:List UInt8,∀e_16:Int,Lf (jW a s_14 s_11 s_13=Prod.mk t_15 e_16)→exW .i64 (z_5 - -1) (fun n_17=>bif decide (n_17>0) then exI .i64 (vH n_17 64) (fun
 n_18=>ckQ (fV n_18) (exW .u64 (0*(2:Int)^Min.min n_18.toNat 64) (fun n_19=>exW .i64 (z_5-z_5) (fun n_20=>ckQ (fV n_20) (exW .u64 (1*(2:Int)^Min.min n_20.toNat 64) (fun n_21=>exW .u64 (pG n_19 n_21) (fun n_22
 => ckQ (aAl s_11 t_15) (exS (.str (s_11++t_15)) (fun s_23=>Q (.ret (.tup [.agg (aDm a b c xs_0),.str s_23,.int .i64 0])) [kP a b c hid,aGf mk ty sq ti t5 cs t6 ex pad pl,Blk.mk BK.exact false (aDm a b c xs_0),kP a b c
 hid,Blk.mk BK.exact false (aDm a b c xs_0),pK z_5 n_22,vC,pJ z_5 n_22] {}))))))))) else exW .i64 (-1-z_5) (fun n_18=>ckQ (fV n_18) (exW .u64 (1*(2:Int)^Min.min n_18.toNat 64) (fun n_19=>exW .u64 ((0 ||| aIh
 n_19:Nat):Int) (fun n_20=>ckQ (aAl s_11 t_15) (exS (.str (s_11++t_15)) (fun s_21=>Q (.ret (.tup [.agg (aDm a b c xs_0),.str s_21,.int .i64 0])) [kP a b c hid,aGf mk ty sq ti t5 cs t6 ex pad pl,Blk.mk BK.exact false
 (aDm a b c xs_0),kP a b c hid,Blk.mk BK.exact false (aDm a b c xs_0),aH8 n_20,vC,aJi n_20] {}))))))))))))):=by kernel_rfl

noncomputable def yD (hv:Nat→Option Pa) (hb:Nat→Option Bool) (a b c:List UInt8) (hid:List Int) (top:Int) (seen:Nat) (t5 t6:Nat) (mk:Bool) (ty sq ti:Int) (cs:List Int) (ex:List Md.Xt) (pad:Int) (pl:List UInt8) (Q:Out→List Blk→Gh→Prop):Prop:=
 aY (e04 aMq (fun _=>none) hv hb) (wpx (e04 aMq (fun _=>none) hv hb) 1000) 24 [.agg [.str a,.str b,.str c,.lst 0 (aB hid) hid.length 1,.lst 0 [.int .i64 1,.int .i64 top,.int .u64 (seen:Nat)] 1 3,.int .i64 0,.int .i64 0,.int .i64 (-1),.int .u64 0],.agg [.bool mk,.int .i64 ty,.int .i64 sq,.int .i64 ti,.int .i64 1,.lst t5 (aB cs) cs.length 1,.lst t6 (Md.cellsXM ex) ex.length 2,.int .i64 pad,.str pl]] [] {} Q
abbrev aH2 (top:Int) (seen:Nat):List AV:=[.int .i64 1,.int .i64 top,.int .u64 (seen:Int)]
abbrev aRs (top sq:Int):Prop:=Lf ((-1≤top∧top≤9223372036854000000)∧0≤sq∧sq≤65535)
abbrev aAb (a b c:List UInt8) (hid:List Int) (top:Int) (seen:Nat):Blk:=Blk.mk BK.exact true [.str a,.str b,.str c,aHh hid,.lst 0 [.int .i64 1,.int .i64 top,.int .u64 (seen:Int)] 1 3,.int .i64 0,.int .i64 0,.int .i64 (-1),.int .u64 0]
abbrev aWy (a b c:List UInt8) (xs_0:List Int):List AV:=[.str a,.str b,.str c,aHh xs_0,.sl 6 3 0 1 3,.int .i64 0,.int .i64 0,.int .i64 (-1),.int .u64 0]
abbrev nD (a b c:List UInt8) (xs_0:List Int):Blk:=Blk.mk BK.exact false (aWy a b c xs_0)
abbrev nA (top:Int) (seen:Nat):Blk:=Blk.mk BK.exact true (aH2 top seen)
theorem bGk (a:List UInt8) (b:List UInt8) (c:List UInt8) (hid:List Int) (top:Int) (seen:Nat) (t5:Nat) (t6:Nat) (mk:Bool) (ty:Int) (sq:Int) (ti:Int) (cs:List Int) (ex:List Md.Xt) (pad:Int) (pl:List UInt8)
 (Q:Out→List Blk→Gh→Prop):yD (bD [(98338,.int .i64),(98400,.int .i64),(98401,.str),(278539,.int .i64),(278548,.int .u64),(278550,.int .i64),(278551,.int .u64),(278570,.int .i64),(278571,.int .u64),
 (278572,.int .u64),(98418,.str),(278563,.int .u64)]) (bE []) a b c hid top seen t5 t6 mk ty sq ti cs ex pad pl Q=(Lf (aJa a b c (aB hid) hid.length (aH2 top seen) 1 0 0 (-1) 0)∧∃xs_0:List Int,aBy hid xs_0∧ckQ
 (dI [.lst 0 (aH2 top seen) 1 3] [.lst 0 (aH2 top seen) 1 3]&&true) ((∃cs_1:List Int,∃ex_2:List Md.Xt,aCs mk ty sq ti cs ex pad pl cs_1 ex_2∧∀s_3:List UInt8,Lf (s_3=Md.encM mk ty sq ti 1 cs_1 ex_2 pad pl)→exI .i64
 (s_3.length:Int) (fun n_4=>bif decide (n_4>1184) then Q aL9 [] {} else aRs top sq∧∀z_5:Int,Lf (z_5=dB top sq)→bif decide (z_5≤top) then Q aNg [] {} else bif uI z_5 then Q aPj [] {} else Lf (aAs [aAb a b c
 hid top seen,aGf mk ty sq ti t5 cs t6 ex pad pl,kV,aAb a b c hid top seen,nD a b c xs_0,iI,Blk.mk BK.grow true (aH2 top seen),nA top seen,nA top seen] (.sl 6 3 0 1 3))∧∃hid_6:List Int,∃ex_7:List Md.Xt,
 uT xs_0 hid_6 ex ex_7 b c∧∀ex'_8:List Md.Xt,Lf (ex'_8=cZ hid_6 c b 1 z_5 ex_7)→∃cs_9:List Int,∃ex_10:List Md.Xt,aCs mk ty sq ti cs ex'_8 pad pl cs_9 ex_10∧∀s_11:List UInt8,Lf (s_11=Md.headM mk ty sq ti 1
 cs_9 ex_10 pad)→exI .i64 (s_11.length:Int) (fun n_12=>ckQ (vB n_12 s_3) (exS (uS s_3 n_12) (fun s_13=>Lf (aAs [aAb a b c hid top seen,aGf mk ty sq ti t5 cs t6 ex pad pl,kV,aAb a b c hid top seen,nD a b c xs_0,
 iI,Blk.mk BK.grow true (aH2 top seen),nA top seen,nA top seen] (.sl 6 3 0 1 3))∧Lf (b.length=12)∧∀s_14:List UInt8,Lf (s_14=dG b 1 z_5)→ckQ (uV a) (∀t_15:List UInt8,∀e_16:Int,Lf (jW a s_14 s_11
 s_13=Prod.mk t_15 e_16)→exW .i64 (z_5-top) (fun n_17=>bif decide (n_17>0) then exI .u64 (seen:Int) (fun n_18=>exI .i64 (vH n_17 64) (fun n_19=>ckQ (fV n_19) (exW .u64 (n_18*(2:Int)^Min.min n_19.toNat 64) (fun
 n_20=>exI .u64 n_20 (fun n_21=>exW .i64 (z_5-z_5) (fun n_22=>ckQ (fV n_22) (exW .u64 (1*(2:Int)^Min.min n_22.toNat 64) (fun n_23=>exW .u64 (pG n_21 n_23) (fun n_24=>ckQ (aAl s_11 t_15) (exS (.str (s_11++t_15))
 (fun s_25=>Q (.ret (.tup [.agg (aWy a b c xs_0),.str s_25,.int .i64 0])) [aAb a b c hid top seen,aGf mk ty sq ti t5 cs t6 ex pad pl,nD a b c xs_0,aAb a b c hid top seen,nD a b c xs_0,iI,pJ z_5 n_24,nA top
 seen,pK z_5 n_24] {}))))))))))) else exI .u64 (seen:Int) (fun n_18=>exW .i64 (top-z_5) (fun n_19=>ckQ (fV n_19) (exW .u64 (1*(2:Int)^Min.min n_19.toNat 64) (fun n_20=>exW .u64 (pG n_18 n_20) (fun n_21=>ckQ
 (aAl s_11 t_15) (exS (.str (s_11++t_15)) (fun s_22=>Q (.ret (.tup [.agg (aWy a b c xs_0),.str s_22,.int .i64 0])) [aAb a b c hid top seen,aGf mk ty sq ti t5 cs t6 ex pad pl,nD a b c xs_0,aAb a b c hid top seen,nD a b
 c xs_0,iI,pJ top n_21,nA top seen,pK top n_21] {}))))))))))))))∧True)):=by kernel_rfl

noncomputable def zO (hv:Nat→Option Pa) (hb:Nat→Option Bool) (a b c:List UInt8) (hid:List Int) (s:List UInt8) (Q:Out→List Blk→Gh→Prop):Prop:=
 aY (e04 aKf (fun _=>none) hv hb) (wpx (e04 aKf (fun _=>none) hv hb) 1000) 28 [.agg [.str a,.str b,.str c,.lst 0 (aB hid) hid.length 1,.lst 0 [] 0 3,.int .i64 0,.int .i64 0,.int .i64 (-1),.int .u64 0],.str s] [] {} Q
abbrev bCw:List AV:=[.bool false,.int .i64 0,.int .i64 0,.int .i64 0,.int .i64 0,.nils,.nils,.int .i64 0,.str []]
abbrev aM1:Out:=.ret (.tup [.agg aPu,.agg bCw,.int .i64 3])
abbrev aP0 (s:List UInt8) (mk_2:Bool) (ty_3 sq_4 ti_5:Int) (cs_6:List Int) (ex_7:List Md.Xt) (n_8:Nat):Prop:=Lf (s.length≤700000∧aEw s=Prod.mk (Prod.mk mk_2 (Prod.mk ty_3 (Prod.mk sq_4 (Prod.mk ti_5 (Prod.mk (1:Int) (Prod.mk cs_6 (Prod.mk ex_7 (Prod.mk (0:Int) (Prod.mk [] (0:Int)))))))))) (Prod.mk n_8 (0:Int)))
abbrev bAw (seen_11:Nat) (z_10:Int):Prop:=Lf (0=(seen_11:Int)∧(-(1:Int) ≤ -(1:Int) ∧ -(1:Int)≤(562949953421312:Int))∧(0≤z_10∧z_10≤562949953421312)∧seen_11<18446744073709551616)
abbrev aLq:Out:=.ret (.tup [.agg aPu,.agg bCw,.int .i64 10])
abbrev aOj:Out:=.ret (.tup [.agg aPu,.agg bCw,.int .i64 6])
abbrev aK0 (n_9:Int) (s:List UInt8):Bool:=fV n_9&&Nat.ble n_9.toNat s.length
abbrev aCe:Blk:=Blk.mk BK.exact true bCw
abbrev aHd (mk_2:Bool) (ty_3 sq_4 ti_5:Int) (cs_6:List Int) (ex_7:List Md.Xt):Blk:=Blk.mk BK.exact true [.bool mk_2,.int .i64 ty_3,.int .i64 sq_4,.int .i64 ti_5,.int .i64 1,aHh cs_6,.lst 0 (Md.cellsXM ex_7) ex_7.length 2,.int .i64 0,.str []]
abbrev aNk (s_22:List UInt8):Bool:=Nat.ble s_22.length s_22.length
abbrev aNz (s_23 s_24 t_16:List UInt8) (l_25:List (List UInt8)):Prop:=Lf ([AV.str s_23,.str s_24,.str t_16]=eG l_25∧3=l_25.length∧l_25.length≤1000∧(iG l_25 []).length≤1000000)
abbrev aPz (x_26:List UInt8) (mk_27:Bool) (ty_28 sq_29 ti_30 ss_31:Int) (cs_32:List Int) (ex_33:List Md.Xt) (p_34:Int) (y_35:List UInt8):Prop:=Lf (x_26.length≤700000∧Md.decM x_26=Prod.mk mk_27 (Prod.mk ty_28 (Prod.mk sq_29 (Prod.mk ti_30 (Prod.mk ss_31 (Prod.mk cs_32 (Prod.mk ex_33 (Prod.mk p_34 (Prod.mk y_35 (0:Int))))))))))
abbrev aC5 (mk_27:Bool) (ty_28 sq_29 ti_30 ss_31:Int) (cs_32:List Int) (ex_33:List Md.Xt) (p_34:Int) (y_35:List UInt8):List AV:=[.bool mk_27,.int .i64 ty_28,.int .i64 sq_29,.int .i64 ti_30,.int .i64 ss_31,aHh cs_32,.lst 0 (Md.cellsXM ex_33) ex_33.length 2,.int .i64 p_34,.str y_35]
abbrev aA1 (mk_27:Bool) (ty_28 sq_29 ti_30 ss_31:Int) (cs_32:List Int) (ex_33:List Md.Xt) (p_34:Int) (y_35:List UInt8):Bool:=dI (aC5 mk_27 ty_28 sq_29 ti_30 ss_31 cs_32 ex_33 p_34 y_35) (aC5 mk_27 ty_28 sq_29 ti_30 ss_31 cs_32 ex_33 p_34 y_35)&&true
abbrev aEp (a b c:List UInt8) (xs_0:List Int):List AV:=[.str a,.str b,.str c,aHh xs_0,.sl 10 3 0 1 3,.int .i64 0,.int .i64 0,.int .i64 (-1),.int .u64 0]
abbrev aBq (s_23 s_24 t_16:List UInt8):Blk:=Blk.mk BK.exact true [.str s_23,.str s_24,.str t_16]
abbrev aE5 (a b c:List UInt8) (xs_0:List Int):List AV:=[.str a,.str b,.str c,aHh xs_0,.sl 9 3 0 1 3,.int .i64 0,.int .i64 0,.int .i64 (-1),.int .u64 0]
theorem bC8 (a:List UInt8) (b:List UInt8) (c:List UInt8) (hid:List Int) (s:List UInt8) (Q:Out→List Blk→Gh→Prop):zO (bD [(114716,.int .i64),(114724,.int .i64),(114778,.str),(114781,.str),(114799,
 .str),(114801,.str),(278539,.int .i64),(278550,.int .i64),(278551,.int .u64),(278570,.int .i64),(278571,.int .u64),(278572,.int .u64)]) (bE []) a b c hid s Q=(Lf (aJa a b c (aB hid) hid.length [] 0 0 0 (-1) 0)∧∃
 xs_0:List Int,aBy hid xs_0∧exI .i64 (s.length:Int) (fun n_1=>bif decide (n_1>1200) then Q aM1 [] {} else ∃mk_2:Bool,∃ty_3 sq_4 ti_5:Int,∃cs_6:List Int,∃ex_7:List Md.Xt,∃n_8:Nat,aP0 s mk_2 ty_3 sq_4 ti_5
 cs_6 ex_7 n_8∧exI .i64 (n_8:Int) (fun n_9=>aJk sq_4∧∀z_10:Int,Lf (z_10=dB (-1) sq_4)→∃seen_11:Nat,bAw seen_11 z_10∧∀b_12:Bool,Lf (b_12=fH (-1) z_10 seen_11)→bif b_12 then Q aLq [] {} else bif
 uI z_10 then Q aOj [] {} else ckQ (aK0 n_9 s) (exS (.str ((s.drop 0).take (n_9.toNat-0))) (fun s_13=>ckQ (vB n_9 s) (exS (uS s n_9) (fun s_14=>Lf (aAs [kP a b c hid,kV,aCe,kP a b c hid,aJx a b c xs_0,
 iI,aHd mk_2 ty_3 sq_4 ti_5 cs_6 ex_7,vD] (.sl 5 0 0 0 3))∧Lf (b.length=12)∧∀s_15:List UInt8,Lf (s_15=dG b 1 z_10)→ckQ (uV a) (∃t_16:List UInt8,Lf (kX a s_15 s_13 s_14=Prod.mk t_16 (0:Int))∧Lf
 (aAs [kP a b c hid,kV,aCe,kP a b c hid,aJx a b c xs_0,iI,aHd mk_2 ty_3 sq_4 ti_5 cs_6 ex_7,vD] (.sl 5 0 0 0 3))∧∃hid_17:List Int,∃ex_18:List Md.Xt,uT xs_0 hid_17 ex_7 ex_18 b c∧∀ex'_19:List
 Md.Xt,Lf (ex'_19=cZ hid_17 c b 1 z_10 ex_18)→∃cs_20:List Int,∃ex_21:List Md.Xt,Lf (aJ7 mk_2 ty_3 sq_4 ti_5 1 (aB cs_6) cs_6.length (Md.cellsXM ex'_19) ex'_19.length 0 [] cs_20 ex_21)∧∀s_22:List UInt8,Lf (s_22 =
 Md.headM mk_2 ty_3 sq_4 ti_5 1 cs_20 ex_21 0)→ckQ (Nat.ble 1 s.length) (exS (.str ((s.drop 0).take 1)) (fun s_23=>ckQ (Nat.ble 1 s_22.length&&aNk s_22) (exS (.str ((s_22.drop 1).take (s_22.length-1))) (fun s_24=>∃l_25:List
 (List UInt8),aNz s_23 s_24 t_16 l_25∧∀x_26:List UInt8,Lf (x_26=iG l_25 [])→∃mk_27:Bool,∃ty_28 sq_29 ti_30 ss_31:Int,∃cs_32:List Int,∃ex_33:List Md.Xt,∃p_34:Int,∃y_35:List UInt8,aPz x_26 mk_27 ty_28
 sq_29 ti_30 ss_31 cs_32 ex_33 p_34 y_35∧exW .i64 (z_10 - -1) (fun n_36=>bif decide (n_36>0) then exI .i64 (vH n_36 64) (fun n_37=>ckQ (fV n_37) (exW .u64 (0*(2:Int)^Min.min n_37.toNat 64) (fun n_38=>exW .i64 (z_10 -
 z_10) (fun n_39=>ckQ (fV n_39) (exW .u64 (1*(2:Int)^Min.min n_39.toNat 64) (fun n_40=>exW .u64 (pG n_38 n_40) (fun n_41=>ckQ (aA1 mk_27 ty_28 sq_29 ti_30 ss_31 cs_32 ex_33 p_34 y_35) (Q (.ret (.tup [.agg (aEp a b c
 xs_0),.agg (aC5 mk_27 ty_28 sq_29 ti_30 ss_31 cs_32 ex_33 p_34 y_35),.int .i64 0])) [kP a b c hid,Blk.mk BK.exact false (aEp a b c xs_0),Blk.mk BK.exact true (aC5 mk_27 ty_28 sq_29 ti_30 ss_31 cs_32 ex_33 p_34 y_35),kP a b c
 hid,Blk.mk BK.exact false (aEp a b c xs_0),iI,aHd mk_2 ty_3 sq_4 ti_5 cs_6 ex_7,pK z_10 n_41,aBq s_23 s_24 t_16,vC,pJ z_10 n_41] {})))))))) else exW .i64 (-1-z_10) (fun n_37=>ckQ (fV n_37) (exW .u64 (1*(2 :
 Int)^Min.min n_37.toNat 64) (fun n_38=>exW .u64 ((0 ||| aIh n_38:Nat):Int) (fun n_39=>ckQ (aA1 mk_27 ty_28 sq_29 ti_30 ss_31 cs_32 ex_33 p_34 y_35) (Q (.ret (.tup [.agg (aEp a b c xs_0),.agg (aC5 mk_27 ty_28 sq_29 ti_30
 ss_31 cs_32 ex_33 p_34 y_35),.int .i64 0])) [kP a b c hid,Blk.mk BK.exact false (aEp a b c xs_0),Blk.mk BK.exact true (aC5 mk_27 ty_28 sq_29 ti_30 ss_31 cs_32 ex_33 p_34 y_35),kP a b c hid,Blk.mk BK.exact false (aEp a b c
 xs_0),iI,aHd mk_2 ty_3 sq_4 ti_5 cs_6 ex_7,aH8 n_39,aBq s_23 s_24 t_16,vC,aJi n_39] {})))))))))))))))))∧exI .i64 (s.length:Int) (fun n_1=>bif decide (n_1>1200) then Q aM1 [] {} else ∃mk_2:Bool,∃ty_3 sq_4
 ti_5:Int,∃cs_6:List Int,∃ex_7:List Md.Xt,∃n_8:Nat,aP0 s mk_2 ty_3 sq_4 ti_5 cs_6 ex_7 n_8∧exI .i64 (n_8:Int) (fun n_9=>aJk sq_4∧∀z_10:Int,Lf (z_10=dB (-1) sq_4)→∃seen_11:Nat,bAw seen_11 z_10∧∀
 b_12:Bool,Lf (b_12=fH (-1) z_10 seen_11)→bif b_12 then Q aLq [] {} else bif uI z_10 then Q aOj [] {} else ckQ (aK0 n_9 s) (exS (.str ((s.drop 0).take (n_9.toNat-0))) (fun s_13=>ckQ (vB n_9 s) (exS (uS s n_9)
 (fun s_14=>Lf (aAs [kP a b c hid,kV,aCe,kP a b c hid,aJq a b c xs_0,aHd mk_2 ty_3 sq_4 ti_5 cs_6 ex_7,vD] .nils)∧Lf (b.length=12)∧∀s_15:List UInt8,Lf (s_15=dG b 1 z_10)→ckQ (uV a) (∃t_16:List
 UInt8,Lf (kX a s_15 s_13 s_14=Prod.mk t_16 (0:Int))∧Lf (aAs [kP a b c hid,kV,aCe,kP a b c hid,aJq a b c xs_0,aHd mk_2 ty_3 sq_4 ti_5 cs_6 ex_7,vD] .nils)∧∃hid_17:List Int,∃ex_18:List Md.Xt,uT
 xs_0 hid_17 ex_7 ex_18 b c∧∀ex'_19:List Md.Xt,Lf (ex'_19=cZ hid_17 c b 1 z_10 ex_18)→∃cs_20:List Int,∃ex_21:List Md.Xt,Lf (aJ7 mk_2 ty_3 sq_4 ti_5 1 (aB cs_6) cs_6.length (Md.cellsXM ex'_19) ex'_19.length 0 []
 cs_20 ex_21)∧∀s_22:List UInt8,Lf (s_22=Md.headM mk_2 ty_3 sq_4 ti_5 1 cs_20 ex_21 0)→ckQ (Nat.ble 1 s.length) (exS (.str ((s.drop 0).take 1)) (fun s_23=>ckQ (Nat.ble 1 s_22.length&&aNk s_22) (exS (.str ((s_22.drop 1).take
 (s_22.length-1))) (fun s_24=>∃l_25:List (List UInt8),aNz s_23 s_24 t_16 l_25∧∀x_26:List UInt8,Lf (x_26=iG l_25 [])→∃mk_27:Bool,∃ty_28 sq_29 ti_30 ss_31:Int,∃cs_32:List Int,∃ex_33:List Md.Xt,∃p_34 :
 Int,∃y_35:List UInt8,aPz x_26 mk_27 ty_28 sq_29 ti_30 ss_31 cs_32 ex_33 p_34 y_35∧exW .i64 (z_10 - -1) (fun n_36=>bif decide (n_36>0) then exI .i64 (vH n_36 64) (fun n_37=>ckQ (fV n_37) (exW .u64 (0*(2:Int) ^
 Min.min n_37.toNat 64) (fun n_38=>exW .i64 (z_10-z_10) (fun n_39=>ckQ (fV n_39) (exW .u64 (1*(2:Int)^Min.min n_39.toNat 64) (fun n_40=>exW .u64 (pG n_38 n_40) (fun n_41=>ckQ (aA1 mk_27 ty_28 sq_29 ti_30 ss_31 cs_32
 ex_33 p_34 y_35) (Q (.ret (.tup [.agg (aE5 a b c xs_0),.agg (aC5 mk_27 ty_28 sq_29 ti_30 ss_31 cs_32 ex_33 p_34 y_35),.int .i64 0])) [kP a b c hid,Blk.mk BK.exact false (aE5 a b c xs_0),Blk.mk BK.exact true (aC5 mk_27 ty_28
 sq_29 ti_30 ss_31 cs_32 ex_33 p_34 y_35),kP a b c hid,Blk.mk BK.exact false (aE5 a b c xs_0),aHd mk_2 ty_3 sq_4 ti_5 cs_6 ex_7,pK z_10 n_41,aBq s_23 s_24 t_16,vC,pJ z_10 n_41] {})))))))) else exW .i64 (-1-z_10)
 (fun n_37=>ckQ (fV n_37) (exW .u64 (1*(2:Int)^Min.min n_37.toNat 64) (fun n_38=>exW .u64 ((0 ||| aIh n_38:Nat):Int) (fun n_39=>ckQ (aA1 mk_27 ty_28 sq_29 ti_30 ss_31 cs_32 ex_33 p_34 y_35) (Q (.ret (.tup [.agg (aE5
 a b c xs_0),.agg (aC5 mk_27 ty_28 sq_29 ti_30 ss_31 cs_32 ex_33 p_34 y_35),.int .i64 0])) [kP a b c hid,Blk.mk BK.exact false (aE5 a b c xs_0),Blk.mk BK.exact true (aC5 mk_27 ty_28 sq_29 ti_30 ss_31 cs_32 ex_33 p_34 y_35),kP a
 b c hid,Blk.mk BK.exact false (aE5 a b c xs_0),aHd mk_2 ty_3 sq_4 ti_5 cs_6 ex_7,aH8 n_39,aBq s_23 s_24 t_16,vC,aJi n_39] {})))))))))))))))))):=by kernel_rfl

noncomputable def zX (hv:Nat→Option Pa) (hb:Nat→Option Bool) (a b c:List UInt8) (hid:List Int) (top:Int) (seen:Nat) (s:List UInt8) (Q:Out→List Blk→Gh→Prop):Prop:=
 aY (e04 aKf (fun _=>none) hv hb) (wpx (e04 aKf (fun _=>none) hv hb) 1000) 28 [.agg [.str a,.str b,.str c,.lst 0 (aB hid) hid.length 1,.lst 0 [.int .i64 1,.int .i64 top,.int .u64 (seen:Nat)] 1 3,.int .i64 0,.int .i64 0,.int .i64 (-1),.int .u64 0],.str s] [] {} Q
theorem bDm (a:List UInt8) (b:List UInt8) (c:List UInt8) (hid:List Int) (top:Int) (seen:Nat) (s:List UInt8) (Q:Out→List Blk→Gh→Prop):zX (bD [(114716,.int .i64),(114724,.int .i64),(114778,.str),
 (114781,.str),(114799,.str),(114801,.str),(278539,.int .i64),(278548,.int .u64),(278550,.int .i64),(278551,.int .u64),(278570,.int .i64),(278571,.int .u64),(278572,.int .u64),(278563,.int .u64)]) (bE []) a b c hid
 top seen s Q=(Lf (aJa a b c (aB hid) hid.length (aH2 top seen) 1 0 0 (-1) 0)∧∃xs_0:List Int,aBy hid xs_0∧ckQ (dI [.lst 0 (aH2 top seen) 1 3] [.lst 0 (aH2 top seen) 1 3]&&true) (exI .i64 (s.length:Int) (fun n_1=>
 bif decide (n_1>1200) then Q aM1 [] {} else ∃mk_2:Bool,∃ty_3 sq_4 ti_5:Int,∃cs_6:List Int,∃ex_7:List Md.Xt,∃n_8:Nat,aP0 s mk_2 ty_3 sq_4 ti_5 cs_6 ex_7 n_8∧exI .i64 (n_8:Int) (fun n_9=>aRs top sq_4∧∀
 z_10:Int,Lf (z_10=dB top sq_4)→∃seen_11:Nat,Lf ((seen:Int)=(seen_11:Int)∧(-1≤top∧top≤562949953421312)∧(0≤z_10∧z_10≤562949953421312)∧seen_11<18446744073709551616)∧∀b_12:Bool,Lf (b_12=fH
 top z_10 seen_11)→bif b_12 then Q aLq [] {} else bif uI z_10 then Q aOj [] {} else ckQ (aK0 n_9 s) (exS (.str ((s.drop 0).take (n_9.toNat-0))) (fun s_13=>ckQ (vB n_9 s) (exS (uS s n_9) (fun s_14=>Lf (aAs [aAb a b c
 hid top seen,kV,aCe,aAb a b c hid top seen,nD a b c xs_0,iI,Blk.mk BK.grow true (aH2 top seen),aHd mk_2 ty_3 sq_4 ti_5 cs_6 ex_7,nA top seen,nA top seen] (.sl 6 3 0 1 3))∧Lf (b.length=12)∧∀s_15:List
 UInt8,Lf (s_15=dG b 1 z_10)→ckQ (uV a) (∃t_16:List UInt8,Lf (kX a s_15 s_13 s_14=Prod.mk t_16 (0:Int))∧Lf (aAs [aAb a b c hid top seen,kV,aCe,aAb a b c hid top seen,nD a b c xs_0,iI,Blk.mk
 BK.grow true (aH2 top seen),aHd mk_2 ty_3 sq_4 ti_5 cs_6 ex_7,nA top seen,nA top seen] (.sl 6 3 0 1 3))∧∃hid_17:List Int,∃ex_18:List Md.Xt,uT xs_0 hid_17 ex_7 ex_18 b c∧∀ex'_19:List Md.Xt,Lf (ex'_19=cZ
 hid_17 c b 1 z_10 ex_18)→∃cs_20:List Int,∃ex_21:List Md.Xt,Lf (aJ7 mk_2 ty_3 sq_4 ti_5 1 (aB cs_6) cs_6.length (Md.cellsXM ex'_19) ex'_19.length 0 [] cs_20 ex_21)∧∀s_22:List UInt8,Lf (s_22=Md.headM mk_2 ty_3 sq_4
 ti_5 1 cs_20 ex_21 0)→ckQ (Nat.ble 1 s.length) (exS (.str ((s.drop 0).take 1)) (fun s_23=>ckQ (Nat.ble 1 s_22.length&&aNk s_22) (exS (.str ((s_22.drop 1).take (s_22.length-1))) (fun s_24=>∃l_25:List (List UInt8),aNz s_23
 s_24 t_16 l_25∧∀x_26:List UInt8,Lf (x_26=iG l_25 [])→∃mk_27:Bool,∃ty_28 sq_29 ti_30 ss_31:Int,∃cs_32:List Int,∃ex_33:List Md.Xt,∃p_34:Int,∃y_35:List UInt8,aPz x_26 mk_27 ty_28 sq_29 ti_30 ss_31 cs_32
 ex_33 p_34 y_35∧exW .i64 (z_10-top) (fun n_36=>bif decide (n_36>0) then exI .u64 (seen:Int) (fun n_37=>exI .i64 (vH n_36 64) (fun n_38=>ckQ (fV n_38) (exW .u64 (n_37*(2:Int)^Min.min n_38.toNat 64) (fun n_39=>exI
 .u64 n_39 (fun n_40=>exW .i64 (z_10-z_10) (fun n_41=>ckQ (fV n_41) (exW .u64 (1*(2:Int)^Min.min n_41.toNat 64) (fun n_42=>exW .u64 (pG n_40 n_42) (fun n_43=>ckQ (aA1 mk_27 ty_28 sq_29 ti_30 ss_31 cs_32 ex_33 p_34
 y_35) (Q (.ret (.tup [.agg (aWy a b c xs_0),.agg (aC5 mk_27 ty_28 sq_29 ti_30 ss_31 cs_32 ex_33 p_34 y_35),.int .i64 0])) [aAb a b c hid top seen,nD a b c xs_0,Blk.mk BK.exact true (aC5 mk_27 ty_28 sq_29 ti_30 ss_31 cs_32 ex_33
 p_34 y_35),aAb a b c hid top seen,nD a b c xs_0,iI,pJ z_10 n_43,aHd mk_2 ty_3 sq_4 ti_5 cs_6 ex_7,nA top seen,pK z_10 n_43,aBq s_23 s_24 t_16] {})))))))))) else exI .u64 (seen:Int) (fun n_37=>exW .i64 (top -
 z_10) (fun n_38=>ckQ (fV n_38) (exW .u64 (1*(2:Int)^Min.min n_38.toNat 64) (fun n_39=>exW .u64 (pG n_37 n_39) (fun n_40=>ckQ (aA1 mk_27 ty_28 sq_29 ti_30 ss_31 cs_32 ex_33 p_34 y_35) (Q (.ret (.tup [.agg (aWy a b c
 xs_0),.agg (aC5 mk_27 ty_28 sq_29 ti_30 ss_31 cs_32 ex_33 p_34 y_35),.int .i64 0])) [aAb a b c hid top seen,nD a b c xs_0,Blk.mk BK.exact true (aC5 mk_27 ty_28 sq_29 ti_30 ss_31 cs_32 ex_33 p_34 y_35),aAb a b c hid top seen,
 nD a b c xs_0,iI,pJ top n_40,aHd mk_2 ty_3 sq_4 ti_5 cs_6 ex_7,nA top seen,pK top n_40,aBq s_23 s_24 t_16] {}))))))))))))))))))∧True)):=by kernel_rfl

end Go.Proofs.YtnhechnaemmdiaaGreatDoor
