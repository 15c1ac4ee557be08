/-
  Chapter 25: extensions are hidden: residual.
-/
import Derived.Test.YtnhechnaemmdiaaGreatDoorKnM
import Derived.Test.YtnhechnaemmdiaaGreatDoorKnE
set_option linter.unusedSimpArgs false
set_option linter.unusedVariables false
set_option linter.unusedSectionVars false
namespace Go.Proofs.YtnhechnaemmdiaaGreatDoor
open Go.RowKit
set_option maxRecDepth 1000000

def aXb (hid:List Int) (ex:List Md.Xt) (z:S):List (List LInv):=match z.tm.get 7,z.hp with
 | .lst _ _ _ _,hp=>[[{ α:=Nat,pre:=fun i=>Lf (i=0),st:=fun i=>⟨mkT [(0,z.tm.get 0),(2,z.tm.get 2),(7,z.tm.get 7),(8,z.tm.get 8),(9,.int .i64 0)],hp⟩,mu:=fun i=>0 }]]
 | .sl _ _ _ _ _,[c,d,p,zr,f,e,da,cp,pc]=>[[{ α:=Nat,pre:=fun i=>Lf (i≤ex.length),st:=fun i=>⟨mkT [(0,z.tm.get 0),(2,z.tm.get 2),(7,z.tm.get 7),(8,z.tm.get 8),(9,.int .i64 (i:Nat))],[c,d,p,zr,f,e,⟨.exact,true,[.str (bC hid (ex.take i))]⟩,cp,pc]⟩,mu:=fun i=>ex.length-i }]]
 | .sl _ _ _ _ _,[c,d,p,zr,f,e,⟨_,_,[.str ks]⟩,cp,pc,cp2,pc2]=>[[{ α:=Nat,pre:=fun i=>Lf (i≤ex.length),st:=fun i=>⟨mkT [(0,z.tm.get 0),(2,z.tm.get 2),(7,z.tm.get 7),(8,z.tm.get 8),(9,.int .i64 (i:Nat))],[c,d,p,zr,f,⟨.grow,true,Md.cellsXM (bX hid (ex.take i) ks++ex.drop i)⟩,⟨.exact,true,[.str (ks.drop (bC hid (ex.take i)).length)]⟩,cp,pc,cp2,pc2]⟩,mu:=fun i=>ex.length-i }]]
 | _,_=>[]
def bM9:SM:=dV [(67,cbC aCw),(115,bLx),(117,aBx),(161,bG0)]
theorem aX4:∀f g,bM9 f=some g→aF Tryz.prog gl0 f g:=bF _ (by simp only[bOr,bOx,bP3,bPj,bQe];exact ⟨yN,bGe,qN,bFe⟩)
noncomputable def aWd (hv:Nat→Option Pa) (hb:Nat→Option Bool) (hid:List Int) (ex:List Md.Xt):Env:=e04 bM9 (fun i=>bif Nat.beq i 160000 then some (aXb hid ex) else none) hv hb
noncomputable def aDy (hv:Nat→Option Pa) (hb:Nat→Option Bool) (k sa mk:List UInt8) (hid:List Int) (x:AV) (nx rs rt rk:Int) (ds:List AV) (t5 t6:Nat) (mkk:Bool) (ty sq ti ss:Int) (c5:List AV) (n5:Nat) (ex:List Md.Xt) (pad:Int) (pl:List UInt8) (ix:Int) (Q:Out→List Blk→Gh→Prop):Prop:=
 aY (aWd hv hb hid ex) (wpx (aWd hv hb hid ex) 1000) 65 [.ptr 0 9 0,.agg [.bool mkk,.int .i64 ty,.int .i64 sq,.int .i64 ti,.int .i64 ss,.lst t5 c5 n5 1,.lst t6 (Md.cellsXM ex) ex.length 2,.int .i64 pad,.str pl],.int .i64 ix] [⟨.ro,false,uX k sa mk (aB hid) hid.length x nx rs rt rk⟩,⟨.ro,false,ds⟩] {} Q
abbrev gF (e_6:Int):AV:=.int .i64 e_6
abbrev bDp:AV:=.fn (Fn.func 160) [] [.ptr 8 9 0,.ptr 7 1 0]
abbrev bJq (ex_0:List Md.Xt):AV:=.sl 5 (2*ex_0.length) 0 ex_0.length 2
abbrev aLy (mkk:Bool) (ty sq ti ss:Int) (t5:Nat) (c5:List AV) (n5:Nat) (ex_0:List Md.Xt) (pad:Int) (pl:List UInt8):List AV:=[.bool mkk,gF ty,gF sq,gF ti,gF ss,.lst t5 c5 n5 1,bJq ex_0,gF pad,.str pl]
def aO4 (s_3:List UInt8) (t_5:List UInt8) (e_6:Int) (mkk:Bool) (ty:Int) (sq:Int) (ti:Int) (ss:Int) (t5:Nat) (c5:List AV) (n5:Nat) (t6:Nat) (ex:List Md.Xt) (pad:Int) (pl:List UInt8) (mk:List UInt8) (ix:Int) (ex_0:List Md.Xt) (s_4:List UInt8):Prop:=
aJ [Lp.mk 1 (T.n (T.n (T.n (T.n (T.n (T.n T.e (.ptr 0 9 0) T.e) (.ptr 0 9 0) T.e) (.ptr 6 1 0) (T.n (T.n T.e (.str s_3) T.e) .undef T.e)) .undef (T.n (T.n (T.n T.e (.ptr 2 9 4) T.e) .undef T.e) (.ptr 2 9 6) (T.n (T.n T.e (.ptr 0 9 0) T.e) (.tup [.str t_5,gF e_6]) T.e))) (.agg [.bool mkk,gF ty,gF sq,gF ti,gF ss,.lst t5 c5 n5 1,.lst t6 (Md.cellsXM ex) ex.length 2,gF pad,.str pl]) (T.n (T.n (T.n (T.n T.e (.str mk) T.e) bDp T.e) .undef (T.n (T.n T.e (.str t_5) T.e) .undef T.e)) .undef (T.n (T.n (T.n T.e (gF ix) T.e) .undef T.e) (bJq ex_0) (T.n (T.n T.e (.fn (Fn.func 160) [] [.ptr 10 9 0,.ptr 9 1 0]) T.e) (.ptr 0 9 0) T.e)))) (.ptr 0 9 0) (T.n (T.n (T.n (T.n (T.n T.e (.ptr 0 9 2) T.e) (.agg (aLy mkk ty sq ti ss t5 c5 n5 ex_0 pad pl)) T.e) .undef (T.n (T.n T.e (.tup [.str t_5,gF e_6]) T.e) .undef T.e)) (.ptr 2 9 0) (T.n (T.n (T.n T.e (gF ss) T.e) .undef T.e) (.lst t6 (Md.cellsXM ex) ex.length 2) (T.n (T.n T.e (.agg (aLy mkk ty sq ti ss t5 c5 n5 ex_0 pad pl)) T.e) (.ptr 0 9 0) T.e))) (gF ix) (T.n (T.n (T.n (T.n T.e (.ptr 0 9 0) T.e) .undef T.e) .undef (T.n (T.n T.e (gF e_6) T.e) .undef T.e)) (.ptr 3 9 0) (T.n (T.n (T.n T.e (.str s_4) T.e) .undef T.e) (.ptr 2 9 6) (T.n T.e (.ptr 0 9 0) T.e))))) [46] (AC.region [AOper.mk (Option.some (9:Nat)) (AOp.mv (AO.t 46)) Option.none 0 0]) (AC.block 3 (AC.seq (AC.region [AOper.mk (Option.some (47:Nat)) (AOp.fa 6 (AO.t 4)) Option.none 0 0,AOper.mk (Option.some (48:Nat)) (AOp.ld false 1 (AO.t 47)) Option.none 0 0,AOper.mk (Option.some (49:Nat)) (AOp.mv (AO.t 9)) Option.none 0 0,AOper.mk (Option.some (50:Nat)) (AOp.iaL 2 (AO.t 48) (AO.t 49)) Option.none 0 0,AOper.mk (Option.some (51:Nat)) (AOp.fa 1 (AO.t 50)) Option.none 0 0,AOper.mk (Option.some (52:Nat)) (AOp.ld false 1 (AO.t 51)) Option.none 0 0,AOper.mk (Option.some (53:Nat)) (AOp.lenS (AO.t 52)) Option.none 0 0,AOper.mk (Option.some (10:Nat)) (AOp.mv (AO.t 53)) Option.none 0 0]) (AC.drawn [AOper.mk (Option.some (54:Nat)) (AOp.fa 6 (AO.t 4)) Option.none 0 0,AOper.mk (Option.some (55:Nat)) (AOp.ld false 1 (AO.t 54)) Option.none 1 1,AOper.mk (Option.some (56:Nat)) (AOp.mv (AO.t 9)) Option.none 2 0,AOper.mk (Option.some (57:Nat)) (AOp.ld false 1 (AO.t 7)) Option.none 3 0,AOper.mk (Option.some (58:Nat)) (AOp.mv (AO.t 10)) Option.none 4 0,AOper.mk (Option.some (59:Nat)) (AOp.slS (AO.t 57) Option.none (Option.some (AO.t 58))) Option.none 5 24,AOper.mk (Option.some (60:Nat)) (AOp.ld false 1 (AO.t 7)) Option.none 6 0,AOper.mk (Option.some (61:Nat)) (AOp.mv (AO.t 10)) Option.none 7 0,AOper.mk (Option.some (62:Nat)) (AOp.slS (AO.t 60) (Option.some (AO.t 61)) Option.none) Option.none 8 192,AOper.mk (Option.some (63:Nat)) (AOp.iaL 2 (AO.t 55) (AO.t 56)) Option.none 9 63,AOper.mk (Option.some (64:Nat)) (AOp.fa 1 (AO.t 63)) Option.none 10 575,AOper.mk Option.none (AOp.st 1 (AO.t 64) (AO.t 59)) Option.none 11 1599,AOper.mk Option.none (AOp.st 1 (AO.t 7) (AO.t 62)) Option.none 12 4095]))) Lst.ready 65]
def aL0 (mkk:Bool) (ty:Int) (sq:Int) (ti:Int) (ss:Int) (t5:Nat) (c5:List AV) (n5:Nat) (t6:Nat) (ex:List Md.Xt) (pad:Int) (pl:List UInt8) (ex_0:List Md.Xt) (ix:Int):Prop:=
aJ [Lp.mk 0 (T.n (T.n (T.n (T.n (T.n T.e (.ptr 0 9 0) T.e) (.ptr 6 1 0) T.e) .undef (T.n T.e (.ptr 2 9 6) T.e)) (.agg [.bool mkk,gF ty,gF sq,gF ti,gF ss,.lst t5 c5 n5 1,.lst t6 (Md.cellsXM ex) ex.length 2,gF pad,.str pl]) (T.n (T.n (T.n T.e bDp T.e) .undef T.e) .undef (T.n T.e (bJq ex_0) T.e))) (.ptr 0 9 0) (T.n (T.n (T.n (T.n T.e (.agg (aLy mkk ty sq ti ss t5 c5 n5 ex_0 pad pl)) T.e) .undef T.e) (.ptr 2 9 0) (T.n T.e (.lst t6 (Md.cellsXM ex) ex.length 2) T.e)) (gF ix) (T.n T.e (.ptr 3 9 0) (T.n T.e (.ptr 2 9 6) T.e)))) [18] (AC.region [AOper.mk (Option.some (8:Nat)) (AOp.mv (AO.t 18)) Option.none 0 0]) (AC.block 1 (AC.drawn [AOper.mk (Option.some (19:Nat)) (AOp.ld false 1 (AO.t 7)) Option.none 0 0,AOper.mk (Option.some (20:Nat)) (AOp.fa 6 (AO.t 4)) Option.none 1 0,AOper.mk (Option.some (21:Nat)) (AOp.ld false 1 (AO.t 20)) Option.none 2 2,AOper.mk (Option.some (22:Nat)) (AOp.mv (AO.t 8)) Option.none 3 0,AOper.mk (Option.some (23:Nat)) (AOp.iaL 2 (AO.t 21) (AO.t 22)) Option.none 4 14,AOper.mk (Option.some (24:Nat)) (AOp.fa 1 (AO.t 23)) Option.none 5 30,AOper.mk (Option.some (25:Nat)) (AOp.ld false 1 (AO.t 24)) Option.none 6 62,AOper.mk (Option.some (26:Nat)) (AOp.bin Go.BinOp.add Sh.st (AO.t 19) (AO.t 25)) Option.none 7 127,AOper.mk Option.none (AOp.st 1 (AO.t 7) (AO.t 26)) Option.none 8 255])) Lst.ready 65]
abbrev aTx (k sa mk:List UInt8) (hid:List Int) (x:AV) (nx rs rt rk:Int):Prop:=aJ [AV.str k,.str sa,.str mk,.lst 0 (aB hid) hid.length 1,x,gF nx,gF rs,gF rt,.int .u64 rk]
abbrev aIa (mkk:Bool) (ty sq ti ss:Int) (t5:Nat) (c5:List AV) (n5:Nat) (pad:Int) (pl:List UInt8):Prop:=aJ [AV.bool mkk,gF ty,gF sq,gF ti,gF ss,.lst t5 c5 n5 1,.lst 0 [] 0 2,gF pad,.str pl]
abbrev aDs:AV:=.int .i64 0
abbrev aTu:Prop:=aJ [AV.bool false,aDs,aDs,aDs,aDs,.nils,.nils,aDs,.str []]
abbrev nR:Prop:=aJ [AV.ptr 0 9 0]
abbrev aBk (n_1:Int):Prop:=aJ (AV.int .i64 n_1)∧True
abbrev aUj (k sa mk:List UInt8) (hid:List Int) (x:AV) (nx rs rt rk:Int):List AV:=[.str k,.str sa,.str mk,.lst 0 (aB hid) hid.length 1,x,gF nx,gF rs,gF rt,.int .u64 rk]
abbrev aZ4 (mkk:Bool) (ty sq ti ss:Int) (t5:Nat) (c5:List AV) (n5:Nat) (pad:Int) (pl:List UInt8):Blk:=Blk.mk BK.exact true [.bool mkk,gF ty,gF sq,gF ti,gF ss,.lst t5 c5 n5 1,.lst 0 [] 0 2,gF pad,.str pl]
abbrev aWq:AV:=aDs
abbrev aXp:Blk:=Blk.mk BK.exact true [.bool false,aWq,aWq,aWq,aWq,.nils,.nils,aWq,.str []]
abbrev aD9:Blk:=Blk.mk BK.exact false [.ptr 0 9 0]
abbrev aOv:Prop:=aJ (AV.ptr 7 1 0)
abbrev aAv (ex_0:List Md.Xt):Bool:=Nat.beq (Md.cellsXM ex_0).length (2*ex_0.length)
abbrev aC0 (mkk:Bool) (ty sq ti ss:Int) (t5:Nat) (c5:List AV) (n5:Nat) (ex_0:List Md.Xt) (pad:Int) (pl:List UInt8):Prop:=aJ [AV.bool mkk,gF ty,gF sq,gF ti,gF ss,.lst t5 c5 n5 1,.sl 5 (2*ex_0.length) 0 ex_0.length 2,gF pad,.str pl]
abbrev aEs:Prop:=([]:List AV)=[]
abbrev aDi (ex_0:List Md.Xt):Prop:=aJ (AV.sl 5 (2*ex_0.length) 0 ex_0.length 2)
abbrev yC (x_2:Nat):Nat:=0+(x_2:Int).toNat*2
abbrev aSx (x_2:Nat) (ex_0:List Md.Xt):List AV:=aO [aWq,.str []] 0 (((Md.cellsXM ex_0).drop (yC x_2)).take 2)
abbrev uL (hid:List Int) (x_8:Nat) (ex:List Md.Xt) (t_5:List UInt8):List UInt8:=t_5.drop (bC hid (ex.take x_8)).length
abbrev aT9 (hid:List Int) (x_8:Nat) (ex:List Md.Xt) (t_5:List UInt8) (ex_0:List Md.Xt):Bool:=Nat.beq (Md.cellsXM (bX hid (ex.take x_8) t_5++ex.drop x_8)).length (2*ex_0.length)
abbrev aRu (x_8:Nat) (hid:List Int) (ex:List Md.Xt) (t_5:List UInt8):List AV:=aO [aWq,.str []] 0 (((Md.cellsXM (bX hid (ex.take x_8) t_5++ex.drop x_8)).drop (yC x_8)).take 2)
theorem bJ2 (k:List UInt8) (sa:List UInt8) (mk:List UInt8) (hid:List Int) (x:AV) (nx:Int) (rs:Int) (rt:Int) (rk:Int) (ds:List AV) (t5:Nat) (t6:Nat) (mkk:Bool) (ty:Int) (sq:Int) (ti:Int) (ss:Int) (c5 :
 List AV) (n5:Nat) (ex:List Md.Xt) (pad:Int) (pl:List UInt8) (ix:Int) (Q:Out→List Blk→Gh→Prop):aDy (bD [(655368,.int .i64),(655371,.int .i64),(655380,.int .i64),(266259,.str),(266265,.str),(266266,
 .str),(655388,.int .i64),(266279,.str),(266292,.str),(266293,.int .i64),(266297,.str),(266299,.str),(266300,.str),(266302,.str)]) (bE [(659454,true),(270334,false),(1655360000,true)]) k sa mk hid x nx rs rt rk ds t5
 t6 mkk ty sq ti ss c5 n5 ex pad pl ix Q=(∃ex_0:List Md.Xt,Lf (Md.cellsXM ex=Md.cellsXM ex_0∧ex.length=ex_0.length∧ex_0.length≤1000000)∧(Lf (ex_0=[])→exI .i64 0 (fun n_1=>(∃x_2:Nat,Lf (x_2=0)∧aTx k sa
 mk hid x nx rs rt rk∧ds=ds∧aIa mkk ty sq ti ss t5 c5 n5 pad pl∧aTu∧aJ [AV.str []]∧nR∧aIa mkk ty sq ti ss t5 c5 n5 pad pl∧aJ (AV.yld 0)∧aJ (AV.lst 0 [] 0 2)∧aJ (AV.int .i64 0)∧aJ (AV.ptr 5 1 0) ∧
 aBk n_1)∧∀x_2:Nat,Lf (x_2=0)→bif decide (0<n_1) then exI .i64 0 (fun n_3=>False) else (aL 7 (aUj k sa mk hid x nx rs rt rk)&&(aL 7 ds&&true))=true∧exS (.str []) (fun s_3=>Lf (aAs [Blk.mk BK.ro false
 (uX k sa mk (aB hid) hid.length x nx rs rt rk),Blk.mk BK.ro false ds,aZ4 mkk ty sq ti ss t5 c5 n5 pad pl,aXp,Blk.mk BK.exact true [.str []],aD9,aZ4 mkk ty sq ti ss t5 c5 n5 pad pl] x)∧Lf (sa.length=12)∧∀s_4:List
 UInt8,Lf (s_4=dG sa ss ix)→ckQ (dI [.str mk] [.str mk]&&true) (∀t_5:List UInt8,∀e_6:Int,Lf (gV mk s_4 0 s_3=Prod.mk t_5 e_6)→exI .i64 0 (fun n_7=>(∃x_8:Nat,Lf (x_8=0)∧aTx k sa mk hid x nx rs
 rt rk∧ds=ds∧aIa mkk ty sq ti ss t5 c5 n5 pad pl∧aTu∧aJ [AV.str t_5]∧nR∧aIa mkk ty sq ti ss t5 c5 n5 pad pl∧nR∧aIa mkk ty sq ti ss t5 c5 n5 pad pl∧aJ (AV.yld 1)∧aJ (AV.lst 0 [] 0 2)∧aJ (AV.int
 .i64 0)∧aOv∧aJ (AV.int .i64 n_7)∧True)∧∀x_8:Nat,Lf (x_8=0)→bif decide (0<n_7) then exI .i64 0 (fun n_9=>False) else (aL 9 (aUj k sa mk hid x nx rs rt rk)&&(aL 9 ds&&true))=true∧Q (.ret
 (.agg [.bool mkk,gF ty,gF sq,gF ti,gF ss,.lst t5 c5 n5 1,.lst 0 [] 0 2,gF pad,.str pl])) [Blk.mk BK.ro false (uX k sa mk (aB hid) hid.length x nx rs rt rk),Blk.mk BK.ro false ds,aZ4 mkk ty sq ti ss t5 c5 n5 pad
 pl,aZ4 mkk ty sq ti ss t5 c5 n5 pad pl,Blk.mk BK.exact true [.str t_5],aD9,aZ4 mkk ty sq ti ss t5 c5 n5 pad pl,aD9,aZ4 mkk ty sq ti ss t5 c5 n5 pad pl] (Gh.mk 0 2 []))))))∧(Lf (1≤ex_0.length)→ckQ (aAv ex_0) (exI
 IntKind.i64 (ex_0.length:Int) (fun n_1=>(∃x_2:Nat,Lf (x_2≤ex.length)∧aTx k sa mk hid x nx rs rt rk∧ds=ds∧aC0 mkk ty sq ti ss t5 c5 n5 ex_0 pad pl∧aTu∧aEs∧aJ (Md.cellsXM ex_0)∧[AV.str []]=[AV.str (bC
 hid (ex.take x_2))]∧nR∧aC0 mkk ty sq ti ss t5 c5 n5 ex_0 pad pl∧aJ (AV.yld 0)∧aDi ex_0∧AV.int .i64 0=AV.int .i64 (x_2:Int)∧aOv∧aBk n_1)∧∀x_2:Nat,Lf (x_2≤ex.length)→bif decide ((x_2:Int)<n_1) then
 exI .i64 (x_2:Int) (fun n_3=>ckQ (Nat.blt (x_2:Int).toNat ex_0.length&&aAv ex_0&&true) (ckQ (aAv ex_0&&Nat.ble (yC x_2+2) (2*ex_0.length)) (ckQ (Nat.beq (((Md.cellsXM ex_0).drop (yC x_2)).take 2).length 2
 && fJ (((Md.cellsXM ex_0).drop (yC x_2)).take 2)&&true) (ckQ (Nat.beq (aSx x_2 ex_0).length 2) (ckQ (Nat.beq (aSx x_2 ex_0).length 2&&true) (exV IntKind.i64 ((((aSx x_2 ex_0).drop 0).take 1).getD 0 AV.undef) (fun n_4=>∃
 xs_5:List Int,Lf (aB hid=aB xs_5∧hid.length=xs_5.length∧xs_5.length≤1000000)∧bif aCl n_4 xs_5 then exS (.str (bC hid (ex.take x_2))) (fun s_6=>ckQ (decide (0≤n_3)&&Nat.blt n_3.toNat ex_0.length&&aAv
 ex_0&&true) (ckQ (aAv ex_0) (ckQ (aAv ex_0&&Nat.blt (0+n_3.toNat*2+1) (2*ex_0.length)) (exS ((((Md.cellsXM ex_0).drop (0+n_3.toNat*2+1)).take 1).getD 0 AV.undef) (fun s_7=>ckQ (decide (s_6.length+s_7.length ≤
 9223372036854775807)&&true) (exS (.str (s_6++s_7)) (fun s_8=>exW .i64 ((x_2:Int)+1) (fun n_9=>(aL 9 (aUj k sa mk hid x nx rs rt rk)&&(aL 9 ds&&true))=true∧(aL0 mkk ty sq ti ss t5 c5 n5 t6 ex pad pl ex_0
 ix∧(1:Nat)=(1:Nat))∧∃y_10:Nat,Lf (y_10≤ex.length)∧ex.length-y_10<ex.length-x_2∧aTx k sa mk hid x nx rs rt rk∧ds=ds∧aC0 mkk ty sq ti ss t5 c5 n5 ex_0 pad pl∧aTu∧aEs∧aJ (Md.cellsXM ex_0)∧[AV.str
 s_8]=[AV.str (bC hid (ex.take y_10))]∧nR∧aC0 mkk ty sq ti ss t5 c5 n5 ex_0 pad pl∧aJ (AV.yld 0)∧aDi ex_0∧AV.int .i64 n_9=AV.int .i64 (y_10:Int)∧aOv∧aBk n_1)))))))) else exW .i64 ((x_2:Int)+1)
 (fun n_6=>(aL 9 (aUj k sa mk hid x nx rs rt rk)&&(aL 9 ds&&true))=true∧(aL0 mkk ty sq ti ss t5 c5 n5 t6 ex pad pl ex_0 ix∧(1:Nat)=(1:Nat))∧∃y_7:Nat,Lf (y_7≤ex.length)∧ex.length-y_7<ex.length-x_2 ∧
 aTx k sa mk hid x nx rs rt rk∧ds=ds∧aC0 mkk ty sq ti ss t5 c5 n5 ex_0 pad pl∧aTu∧aEs∧aJ (Md.cellsXM ex_0)∧[AV.str (bC hid (ex.take x_2))]=[AV.str (bC hid (ex.take y_7))]∧nR∧aC0 mkk ty sq ti ss t5 c5 n5
 ex_0 pad pl∧aJ (AV.yld 0)∧aDi ex_0∧AV.int .i64 n_6=AV.int .i64 (y_7:Int)∧aOv∧aBk n_1)))))))) else (aL 9 (aUj k sa mk hid x nx rs rt rk)&&(aL 9 ds&&true))=true∧exS (.str (bC hid (ex.take x_2)))
 (fun s_3=>Lf (aAs [Blk.mk BK.ro false (uX k sa mk (aB hid) hid.length x nx rs rt rk),Blk.mk BK.ro false ds,Blk.mk BK.exact false (aLy mkk ty sq ti ss t5 c5 n5 ex_0 pad pl),aXp,Blk.mk BK.exact true [],Blk.mk BK.grow true
 (Md.cellsXM ex_0),Blk.mk BK.exact true [.str (bC hid (ex.take x_2))],aD9,Blk.mk BK.exact false (aLy mkk ty sq ti ss t5 c5 n5 ex_0 pad pl)] x)∧Lf (sa.length=12)∧∀s_4:List UInt8,Lf (s_4=dG sa ss ix)→ckQ (dI
 [.str (bC hid (ex.take x_2))] [.str (bC hid (ex.take x_2))]&&true) (ckQ (dI [.str mk] [.str mk]&&true) (∀t_5:List UInt8,∀e_6:Int,Lf (gV mk s_4 0 s_3=Prod.mk t_5 e_6)→ckQ (aAv ex_0) (exI .i64
 (ex_0.length:Int) (fun n_7=>(∃x_8:Nat,Lf (x_8≤ex.length)∧aTx k sa mk hid x nx rs rt rk∧ds=ds∧aC0 mkk ty sq ti ss t5 c5 n5 ex_0 pad pl∧aTu∧aEs∧Md.cellsXM ex_0=Md.cellsXM (bX hid (ex.take x_8) t_5++ex.drop
 x_8)∧[AV.str t_5]=[AV.str (uL hid x_8 ex t_5)]∧nR∧aC0 mkk ty sq ti ss t5 c5 n5 ex_0 pad pl∧nR∧aC0 mkk ty sq ti ss t5 c5 n5 ex_0 pad pl∧aJ (AV.yld 1)∧aDi ex_0∧AV.int .i64 0=AV.int .i64 (x_8:Int)∧aJ
 (AV.ptr 9 1 0)∧aBk n_7)∧∀x_8:Nat,Lf (x_8≤ex.length)→bif decide ((x_8:Int)<n_7) then exI .i64 (x_8:Int) (fun n_9=>ckQ (Nat.blt (x_8:Int).toNat ex_0.length&&aT9 hid x_8 ex t_5 ex_0&&true) (ckQ (aT9 hid
 x_8 ex t_5 ex_0&&Nat.ble (yC x_8+2) (2*ex_0.length)) (ckQ (Nat.beq (((Md.cellsXM (bX hid (ex.take x_8) t_5++ex.drop x_8)).drop (yC x_8)).take 2).length 2&&fJ (((Md.cellsXM (bX hid (ex.take x_8) t_5++ex.drop
 x_8)).drop (yC x_8)).take 2)&&true) (ckQ (Nat.beq (aRu x_8 hid ex t_5).length 2) (ckQ (Nat.beq (aRu x_8 hid ex t_5).length 2&&true) (exV IntKind.i64 ((((aRu x_8 hid ex t_5).drop 0).take 1).getD 0 AV.undef) (fun n_10=>∃xs_11
 : List Int,Lf (aB hid=aB xs_11∧hid.length=xs_11.length∧xs_11.length≤1000000)∧bif aCl n_10 xs_11 then ckQ (decide (0≤n_9)&&Nat.blt n_9.toNat ex_0.length&&aT9 hid x_8 ex t_5 ex_0&&true) (ckQ (aT9 hid x_8 ex
 t_5 ex_0) (ckQ (aT9 hid x_8 ex t_5 ex_0&&Nat.blt (0+n_9.toNat*2+1) (2*ex_0.length)) (exS ((((Md.cellsXM (bX hid (ex.take x_8) t_5++ex.drop x_8)).drop (0+n_9.toNat*2+1)).take 1).getD 0 AV.undef) (fun s_12=>exI
 IntKind.i64 (s_12.length:Int) (fun n_13=>exS (.str (uL hid x_8 ex t_5)) (fun s_14=>ckQ (decide (0≤n_13)&&true&&Nat.ble n_13.toNat s_14.length) (exS (.str ((s_14.drop 0).take (n_13.toNat-0))) (fun s_15=>exS (.str (uL
 hid x_8 ex t_5)) (fun s_16=>ckQ (decide (0≤n_13)&&true&&Nat.ble n_13.toNat s_16.length&&Nat.ble s_16.length s_16.length) (exS (.str ((s_16.drop n_13.toNat).take (s_16.length-n_13.toNat))) (fun s_17=>ckQ (decide (0≤n_9) &&
 Nat.blt n_9.toNat ex_0.length&&aT9 hid x_8 ex t_5 ex_0&&true) (ckQ (aT9 hid x_8 ex t_5 ex_0) (ckQ (aT9 hid x_8 ex t_5 ex_0&&Nat.ble (0+n_9.toNat*2+1+1) (2*ex_0.length)&&true&&true&&true) (ckQ (dI [.str (uL
 hid x_8 ex t_5)] [.str (uL hid x_8 ex t_5)]&&true) (exW .i64 ((x_8:Int)+1) (fun n_18=>(aL 11 (aUj k sa mk hid x nx rs rt rk)&&(aL 11 ds&&true))=true∧(aO4 s_3 t_5 e_6 mkk ty sq ti ss t5 c5 n5 t6 ex pad pl
 mk ix ex_0 s_4∧(2:Nat)=(2:Nat))∧∃y_19:Nat,Lf (y_19≤ex.length)∧ex.length-y_19<ex.length-x_8∧aTx k sa mk hid x nx rs rt rk∧ds=ds∧aC0 mkk ty sq ti ss t5 c5 n5 ex_0 pad pl∧aTu∧aEs∧aO (Md.cellsXM
 (bX hid (ex.take x_8) t_5++ex.drop x_8)) (0+n_9.toNat*2+1) [.str s_15]=Md.cellsXM (bX hid (ex.take y_19) t_5++ex.drop y_19)∧[AV.str s_17]=[AV.str (uL hid y_19 ex t_5)]∧nR∧aC0 mkk ty sq ti ss t5 c5 n5 ex_0
 pad pl∧nR∧aC0 mkk ty sq ti ss t5 c5 n5 ex_0 pad pl∧aJ (AV.yld 1)∧aDi ex_0∧AV.int .i64 n_18=AV.int .i64 (y_19:Int)∧aJ (AV.ptr 9 1 0)∧aBk n_7)))))))))))))))) else exW .i64 ((x_8:Int)+1) (fun n_12=>
 (aL 11 (aUj k sa mk hid x nx rs rt rk)&&(aL 11 ds&&true))=true∧(aO4 s_3 t_5 e_6 mkk ty sq ti ss t5 c5 n5 t6 ex pad pl mk ix ex_0 s_4∧(2:Nat)=(2:Nat))∧∃y_13:Nat,Lf (y_13≤ex.length)∧ex.length-y_13 <
 ex.length-x_8∧aTx k sa mk hid x nx rs rt rk∧ds=ds∧aC0 mkk ty sq ti ss t5 c5 n5 ex_0 pad pl∧aTu∧aEs∧Md.cellsXM (bX hid (ex.take x_8) t_5++ex.drop x_8)=Md.cellsXM (bX hid (ex.take y_13) t_5++ex.drop y_13) ∧
 [AV.str (uL hid x_8 ex t_5)]=[AV.str (uL hid y_13 ex t_5)]∧nR∧aC0 mkk ty sq ti ss t5 c5 n5 ex_0 pad pl∧nR∧aC0 mkk ty sq ti ss t5 c5 n5 ex_0 pad pl∧aJ (AV.yld 1)∧aDi ex_0∧AV.int .i64 n_12=AV.int .i64
 (y_13:Int)∧aJ (AV.ptr 9 1 0)∧aBk n_7)))))))) else (aL 11 (aUj k sa mk hid x nx rs rt rk)&&(aL 11 ds&&true))=true∧Q (.ret (.agg (aLy mkk ty sq ti ss t5 c5 n5 ex_0 pad pl))) [Blk.mk BK.ro false (uX k sa mk (aB
 hid) hid.length x nx rs rt rk),Blk.mk BK.ro false ds,Blk.mk BK.exact false (aLy mkk ty sq ti ss t5 c5 n5 ex_0 pad pl),Blk.mk BK.exact false (aLy mkk ty sq ti ss t5 c5 n5 ex_0 pad pl),Blk.mk BK.exact true [],Blk.mk BK.grow true
 (Md.cellsXM (bX hid (ex.take x_8) t_5++ex.drop x_8)),Blk.mk BK.exact true [.str (uL hid x_8 ex t_5)],aD9,Blk.mk BK.exact false (aLy mkk ty sq ti ss t5 c5 n5 ex_0 pad pl),aD9,Blk.mk BK.exact false (aLy mkk ty sq ti ss t5
 c5 n5 ex_0 pad pl)] (Gh.mk 0 2 [])))))))))):=by kernel_rfl

theorem bHg:∀s:List UInt8,eqB s s=true
 | []=>rfl
 | x::s=>by simp[eqB,bHg s]
mutual
theorem aAq:∀a:AV,gZ a a=true
 | .undef=>rfl
 | .opq i=>by simp[gZ]
 | .bool b=>by simp[gZ]
 | .int k a=>by simp[gZ]
 | .str a=>by rw[gZ,bHg]
 | .nilp=>rfl
 | .ptr a b c=>by simp[gZ]
 | .gptr a b=>by simp[gZ]
 | .nils=>rfl
 | .sl a b c d e=>by simp[gZ]
 | .nilf=>rfl
 | .fn f x y=>by simp[gZ,dS x,dS y]
 | .yld u=>by simp[gZ]
 | .nili=>rfl
 | .iface t v=>by simp[gZ,aAq v]
 | .agg l=>by rw[gZ];exact dS l
 | .tup l=>by rw[gZ];exact dS l
 | .lst t l n z=>by simp[gZ,dS l]
 | .lptr t l o=>by simp[gZ,dS l]
 | .mpn=>rfl
 | .mp i=>by simp[gZ]
theorem dS:∀l:List AV,dI l l=true
 | []=>rfl
 | a::l=>by rw[dI,aAq a,dS l];rfl
end
theorem ckF {l:List AV} {A:Prop} (k:A):bif dI l l&&true then A else False:=by rw[dS];exact k
theorem splitB {b:Bool} {p q:Prop} (h1:b=true→p) (h2:b=false→q):bif b then p else q:=by
 cases b
 ·exact h2 rfl
 ·exact h1 rfl
theorem bBs:∀ (L:List Md.Xt) (i:Nat),(Md.cellsXM L).drop (2*i)=Md.cellsXM (L.drop i)
 | L,0=>rfl
 | [],i+1=>by simp[Md.cellsXM]
 | x::L,i+1=>by
  have:=bBs L i
  rw[Md.cellsXM,bQg,←this,show 2*(i+1)=2*i+1+1 by omega,bQg,bQg]
theorem aPk {L:List Md.Xt} {i:Nat} (h:i<L.length):L.drop i=L.getD i (0,[])::L.drop (i+1):=by
 rw[bP7 h,bOs,bOq h];rfl
theorem bM6 {L:List Md.Xt} {i:Nat} (h:i<L.length):((Md.cellsXM L).drop (0+(i:Int).toNat*2)).take 2=[.int .i64 (L.getD i (0,[])).1,.str (L.getD i (0,[])).2]:=by
 rw[show 0+(i:Int).toNat*2=2*i by omega,bBs,aPk h];rfl
theorem bM5 {L:List Md.Xt} {i:Nat} (h:i<L.length):(((Md.cellsXM L).drop (0+(i:Int).toNat*2+1)).take 1).getD 0 AV.undef=.str (L.getD i (0,[])).2:=by
 rw[show 0+(i:Int).toNat*2+1=2*i+1 by omega,←bQx,bBs,aPk h];rfl
theorem stX (s:List UInt8):∀ (L:List Md.Xt) (i:Nat),i<L.length→aO (Md.cellsXM L) (2*i+1) [.str s]=Md.cellsXM (L.set i ((L.getD i (0,[])).1,s))
 | [],i,h=>by simp at h
 | x::L,0,_=>by
  cases L<;>rfl
 | x::L,i+1,h=>by
  have ih:=stX s L i (by simpa using h)
  rw[bTj,bQt,Md.cellsXM,Md.cellsXM,←ih,show 2*(i+1)+1=(2*i+1)+1+1 by omega]
  rfl
theorem bNz (s:List UInt8) {L:List Md.Xt} {i:Nat} (h:i<L.length):aO (Md.cellsXM L) (0+(i:Int).toNat*2+1) [.str s]=Md.cellsXM (L.set i ((L.getD i (0,[])).1,s)):=by
 rw[show 0+(i:Int).toNat*2+1=2*i+1 by omega];exact stX s L i h
theorem aZe {ex:List Md.Xt} {i:Nat} (h:i<ex.length):ex.take (i+1)=ex.take i++[ex.getD i (0,[])]:=by
 rw[bP9,bOs,bOq h];rfl
theorem bNa {hid:List Int} {ex:List Md.Xt} {i:Nat} (h:i<ex.length):bC hid (ex.take (i+1))=bC hid (ex.take i)++(if aCl (ex.getD i (0,[])).1 hid=true then (ex.getD i (0,[])).2 else []):=by
 rw[aZe h,zV,bC,bC,bPd]
theorem aO9 {hid:List Int} (ex:List Md.Xt) (i:Nat):(bC hid (ex.take i)).length≤(bC hid ex).length:=by
 have e:bC hid ex=bC hid (ex.take i)++bC hid (ex.drop i):=by rw[←zV,bPe]
 rw[e,bN8];omega
def xB (hid:List Int) (ex:List Md.Xt) (ks:List UInt8) (i:Nat):List Md.Xt:=bX hid (ex.take i) ks++ex.drop i
theorem aY3 (hid:List Int) (ex:List Md.Xt) (ks:List UInt8) (i:Nat):(xB hid ex ks i).length=ex.length:=by
 rw[xB,bN8,qO,bOu,bO7];omega
theorem bBj {hid:List Int} {ex:List Md.Xt} {ks:List UInt8} {i:Nat} (h:i<ex.length):(xB hid ex ks i).getD i (0,[])=ex.getD i (0,[]):=by
 have hl:(bX hid (ex.take i) ks).length=i:=by rw[qO,bOu];omega
 rw[xB,aPk h,bOs,bPm (by omega),hl,bR4];rfl
theorem aYz {hid:List Int} {ex:List Md.Xt} {ks:List UInt8} {i:Nat} (h:i<ex.length) (hm:aCl (ex.getD i (0,[])).1 hid=true) :
  (xB hid ex ks i).set i ((ex.getD i (0,[])).1,(ks.drop (bC hid (ex.take i)).length).take (ex.getD i (0,[])).2.length)=xB hid ex ks (i+1):=by
 have hl:(bX hid (ex.take i) ks).length=i:=by rw[qO,bOu];omega
 rw[xB,xB,aZe h,qJ,bRe _ _ (by omega),hl,bR4,aPk h,bRx,bOz,bX,if_pos hm]
 rfl
theorem aR9 {hid:List Int} {ex:List Md.Xt} {ks:List UInt8} {i:Nat} (h:i<ex.length) (hm:¬ aCl (ex.getD i (0,[])).1 hid=true):xB hid ex ks i=xB hid ex ks (i+1):=by
 rw[xB,xB,aZe h,qJ,bX,if_neg hm,bOz,aPk h]
 rfl
theorem aUh (k sa mk:List UInt8) (hid:List Int) (x:AV) (nx rs rt rk:Int) (ds:List AV) (t5 t6:Nat) (mkk:Bool) (ty sq ti ss:Int) (c5:List AV) (n5:Nat) (ex:List Md.Xt) (pad:Int) (pl:List UInt8) (ix:Int)
  (hsa:sa.length=12) (hmk:mk.length=32) (hh:hid.length≤1000000) (hex:ex.length≤1000000) (hc:(bC hid ex).length≤4096) (hx:old 2 x=true) (hd:aL 0 ds=true)
  (hX:∀tl,aAs (⟨.ro,false,uX k sa mk (aB hid) hid.length x nx rs rt rk⟩::⟨.ro,false,ds⟩::tl) x) (Q:Out→List Blk→Gh→Prop)
  (hq:∀v H g,bW 0 H 9 v=.agg [.bool mkk,.int .i64 ty,.int .i64 sq,.int .i64 ti,.int .i64 ss,.lst t5 c5 n5 1,.lst 0 (Md.cellsXM (cZ hid mk sa ss ix ex)) (cZ hid mk sa ss ix ex).length 2,.int .i64 pad,.str pl]→Q (.ret v) H g) :
  ∃hv hb,aDy hv hb k sa mk hid x nx rs rt rk ds t5 t6 mkk ty sq ti ss c5 n5 ex pad pl ix Q:=by
 obtain ⟨hv,hb',e⟩:∃hv hb,aDy hv hb k sa mk hid x nx rs rt rk ds t5 t6 mkk ty sq ti ss c5 n5 ex pad pl ix Q=_:=⟨_,_,bJ2 k sa mk hid x nx rs rt rk ds t5 t6 mkk ty sq ti ss c5 n5 ex pad pl ix Q⟩
 refine ⟨hv,hb',e.mpr ?_⟩
 delta gF aTx aIa aDs aTu nR aBk aUj aZ4 aWq aXp aD9 aOv aAv aC0 aEs aDi yC aSx bJq aLy uL aT9 aRu
 clear e
 have hox:aL 2 [x]=true:=by rw[aL,hx];rfl
 have ho:∀n,2≤n→(aL n [.str k,.str sa,.str mk,.lst 0 (aB hid) hid.length 1,x,.int .i64 nx,.int .i64 rs,.int .i64 rt,.int .u64 rk]&&(aL n ds&&true))=true:=fun n h=>by
  have h1:=bP h _ hox
  have h2:=bP (bPp n) _ hd
  simp only[aL,bOh] at h1
  simp[aL,old,h1,h2]
 have hn:=jS hsa ss ix
 refine ⟨ex,⟨rfl,rfl,hex⟩, ?_, ?_⟩
 ·rintro ⟨h0⟩
  subst h0
  refine ⟨_,rfl,⟨0,⟨rfl⟩,rfl,rfl,rfl,rfl,rfl,rfl,rfl,rfl,rfl,rfl,rfl,rfl,trivial⟩, ?_⟩
  rintro i ⟨hi⟩
  refine aD (fun h=>absurd h (by omega)) (fun _=>⟨ho 7 (by omega),_,rfl,⟨hX _⟩,⟨hsa⟩, ?_⟩)
  rintro s4 ⟨h4⟩
  refine ckF ?_
  rintro t7 e6 ⟨h5⟩
  refine ⟨_,rfl,⟨0,⟨rfl⟩,rfl,rfl,rfl,rfl,rfl,rfl,rfl,rfl,rfl,rfl,rfl,rfl,rfl,rfl,trivial⟩, ?_⟩
  rintro j ⟨hj⟩
  exact aD (fun h=>absurd h (by omega)) (fun _=>⟨ho 9 (by omega),hq _ _ _ rfl⟩)
 ·rintro ⟨h1⟩
  have hlx:=jC ex
  refine ckI (by simp[hlx]) ⟨_,rfl,⟨0,⟨bPp _⟩,rfl,rfl,rfl,rfl,rfl,rfl,rfl,rfl,rfl,rfl,rfl,rfl,rfl,rfl,trivial⟩, ?_⟩
  rintro i ⟨hi⟩
  refine aD (fun hlt=>⟨_,rfl, ?_⟩) (fun hge => ?_)
  ·have hi':i<ex.length:=by omega
   have hc1:=aO9 (hid:=hid) ex (i+1)
   have hcx:=bNa (hid:=hid) hi'
   have e2:=bM6 hi'
   have e1:=bM5 hi'
   generalize ex.getD i (0,[])=el at *
   rw[e2]
   refine ckI (by simp[hlx];omega) (ckI (by simp[hlx];omega) (ckI rfl (ckI rfl (ckI rfl ⟨_,rfl,hid,⟨rfl,rfl,hh⟩,splitB (fun hm => ?_) (fun hm => ?_)⟩))))
   ·rw[if_pos hm] at hcx
    refine ⟨_,rfl,ckI (by simp[hlx];omega) (ckI (by simp[hlx]) (ckI (by simp[hlx];omega) ⟨_,e1,ckI (by rw[hcx,bN8] at hc1;simp;omega) ⟨_,rfl,aI (by omega) (by omega) ⟨ho 9 (by omega),⟨rfl,rfl⟩,i+1,⟨by omega⟩,by omega,rfl,rfl,rfl,rfl,rfl,rfl,by rw[hcx],rfl,rfl,rfl,rfl,rfl,rfl,rfl,trivial⟩⟩⟩))⟩
   ·rw[if_neg (by simp[hm])] at hcx
    refine aI (by omega) (by omega) ⟨ho 9 (by omega),⟨rfl,rfl⟩,i+1,⟨by omega⟩,by omega,rfl,rfl,rfl,rfl,rfl,rfl,by rw[hcx,bPd],rfl,rfl,rfl,rfl,rfl,rfl,rfl,trivial⟩
  ·obtain rfl:i=ex.length:=by omega
   refine ⟨ho 9 (by omega),_,rfl,⟨hX _⟩,⟨hsa⟩, ?_⟩
   rintro s4 ⟨rfl⟩
   refine ckF (ckF ?_)
   rintro t7 e6 ⟨h5⟩
   rw[bPy] at h5
   have ha:=aGd (s:=bC hid ex) hmk hn hc
   have h5':=h5
   rw[ha] at h5'
   have hal:=kD (dK mk (dG sa ss ix)) 70 0 (bC hid ex) (by omega)
   have hl5:t7.length=(bC hid ex).length:=by rw[←hal,←(bSh h5').1]
   have hmx:cZ hid mk sa ss ix ex=bX hid ex t7:=by rw[cZ,h5]
   refine ckI (by simp[hlx]) ⟨_,rfl,⟨0,⟨bPp _⟩,rfl,rfl,rfl,rfl,rfl,rfl,rfl,rfl,rfl,rfl,rfl,rfl,rfl,rfl,rfl,rfl,trivial⟩, ?_⟩
   rintro j ⟨hj⟩
   have hml:=aY3 hid ex t7 j
   have hmc:=jC (xB hid ex t7 j)
   rw[hml] at hmc
   show bif decide ((j:Int)<(ex.length:Int)) then _ else _
   rw[show bX hid (ex.take j) t7++ex.drop j=xB hid ex t7 j from rfl]
   refine aD (fun hlt=>⟨_,rfl, ?_⟩) (fun hge => ?_)
   ·have hj':j<ex.length:=by omega
    have hj2:j<(xB hid ex t7 j).length:=by omega
    have hc1:=aO9 (hid:=hid) ex (j+1)
    have hcx:=bNa (hid:=hid) hj'
    have e2:=bM6 hj2
    have e1:=bM5 hj2
    have eg:=bBj (hid:=hid) (ks:=t7) hj'
    have es:=fun hm=>aYz (ks:=t7) (hid:=hid) hj' hm
    have est:=fun s=>bNz s hj2
    have esm:=fun hm=>aR9 (ks:=t7) (hid:=hid) hj' hm
    rw[eg] at e2 e1
    simp only[eg] at est
    generalize ex.getD j (0,[])=el at *
    rw[e2]
    refine ckI (by simp[hmc];omega) (ckI (by simp[hmc];omega) (ckI rfl (ckI rfl (ckI rfl ⟨_,rfl,hid,⟨rfl,rfl,hh⟩,splitB (fun hm => ?_) (fun hm => ?_)⟩))))
    ·rw[if_pos hm] at hcx
     have hcl:(bC hid (ex.take j)).length+el.2.length≤(bC hid ex).length:=by rw[←bN8,←hcx];exact hc1
     have hdl:(t7.drop (bC hid (ex.take j)).length).length=(bC hid ex).length-(bC hid (ex.take j)).length:=by rw[bO7,hl5]
     have est:=est ((t7.drop (bC hid (ex.take j)).length).take el.2.length)
     rw[es hm] at est
     refine ckI (by simp[hmc];omega) (ckI (by simp[hmc]) (ckI (by simp[hmc];omega) ⟨_,e1,_,rfl,_,rfl,ckI (by simp only[hdl];simp;omega) ⟨_,rfl,_,rfl,ckI (by simp only[hdl];simp;omega) ⟨_,rfl,ckI (by simp[hmc];omega) (ckI (by simp[hmc]) (ckI (by simp[hmc];omega) (ckF (aI (by omega) (by omega) ⟨ho 11 (by omega),⟨rfl,rfl⟩,j+1,⟨by omega⟩,by omega,rfl,rfl,rfl,rfl,rfl, ?_, ?_,rfl,rfl,rfl,rfl,rfl,rfl,rfl,rfl,rfl,trivial⟩))))⟩⟩⟩))
     ·rw[bOv,bOa,bQw]
      exact est
     ·rw[hcx,bN8,←bQx,bOa,bOk (by first | (simp;done) | (simp;omega))]
    ·rw[if_neg (by simp[hm]),bPd] at hcx
     refine aI (by omega) (by omega) ⟨ho 11 (by omega),⟨rfl,rfl⟩,j+1,⟨by omega⟩,by omega,rfl,rfl,rfl,rfl,rfl, ?_,by rw[hcx],rfl,rfl,rfl,rfl,rfl,rfl,rfl,rfl,rfl,trivial⟩
     exact congrArg Md.cellsXM (esm (by simp[hm]))
   ·obtain rfl:j=ex.length:=by omega
    refine ⟨ho 11 (by omega),hq _ _ _ ?_⟩
    have em:xB hid ex t7 ex.length=bX hid ex t7:=by rw[xB,bPy,bTx,bPd]
    rw[hmx,←em,hml]
    have ef:∀ (H:List Blk),H[5]? = some ⟨.grow,true,Md.cellsXM (xB hid ex t7 ex.length)⟩→bW 0 H 8 (.sl 5 (2*ex.length) 0 ex.length 2)=.lst 0 (Md.cellsXM (xB hid ex t7 ex.length)) ex.length 2:=fun H hH=>
     Md.frz_sl (d:=6) hH hmc (by omega) (by simp) (Md.plain_cX _)
    show AV.agg [.bool mkk,.int .i64 ty,.int .i64 sq,.int .i64 ti,.int .i64 ss,.lst t5 c5 n5 1,bW 0 _ 8 (.sl 5 (2*ex.length) 0 ex.length 2),.int .i64 pad,.str pl]=_
    rw[ef _ rfl]
def aRd (rest:List AV) (k sa mk:List UInt8) (hl:List AV) (hn:Nat) (K:AV→Prop):Prop:=match rest with
 | [.agg [.bool mkk,.int .i64 ty,.int .i64 sq,.int .i64 ti,.int .i64 ss,.lst t5 c5 n5 1,.lst t6 c6 n6 2,.int .i64 pad,.str pl],.int .i64 ix]=>∃ (hid:List Int) (ex:List Md.Xt),Lf (hl=aB hid∧hn=hid.length∧c6=Md.cellsXM ex∧n6=ex.length∧hid.length≤1000000∧ex.length≤1000000∧(bC hid ex).length≤4096∧sa.length=12∧mk.length=32) ∧
   ∀ex':List Md.Xt,Lf (ex'=cZ hid mk sa ss ix ex)→K (.agg [.bool mkk,.int .i64 ty,.int .i64 sq,.int .i64 ti,.int .i64 ss,.lst t5 c5 n5 1,.lst 0 (Md.cellsXM ex') ex'.length 2,.int .i64 pad,.str pl])
 | _=>False
theorem aKm:aF Tryz.prog gl0 65 (cbC aRd):=by
 refine aGs (enters_of (by kernel_rfl)) aM 9 (fun v=>v) eO fun rest k sa mk hl hn x nx rs rt rk ds R _ _ hx hd hX hg => ?_
 unfold aRd at hg
 split at hg
 ·rename_i mkk ty sq ti ss t5 c5 n5 t6 c6 n6 pad pl ix _ _
  obtain ⟨hid,ex,⟨rfl,rfl,rfl,rfl,a1,a2,a3,a4,a5⟩,hq⟩:=hg
  obtain ⟨hv,hb',h⟩:=aUh k sa mk hid x nx rs rt rk ds t5 t6 mkk ty sq ti ss c5 n5 ex pad pl ix a4 a5 a1 a2 a3 hx hd hX (fun o H' _=>∃v,o=.ret v∧R (bW 0 H' 9 v)) (fun v H g e=>⟨v,rfl,by rw[e];exact hq _ ⟨rfl⟩⟩)
  exact ⟨_,1000,aT aX4 _ hv hb',rfl,h⟩
 ·exact hg.elim
def kS (s:List UInt8):Nat:=
 if (s.getD 0 0).toNat/16%2=1 then
  (if 12+4*((s.getD 0 0).toNat%16)+4≤s.length then 12+4*((s.getD 0 0).toNat%16)+4+4*((s.getD (12+4*((s.getD 0 0).toNat%16)+2) 0).toNat*256+(s.getD (12+4*((s.getD 0 0).toNat%16)+3) 0).toNat) else 12+4*((s.getD 0 0).toNat%16)+4)
 else 12+4*((s.getD 0 0).toNat%16)
def vQ (c:UInt8):UInt8:=UInt8.ofNat (c.toNat-32*(c.toNat/32%2))
def bK8:Md.DecT:=(false,0,0,0,0,[],[],0,[],0)
def aEw (s:List UInt8):Md.DecT×Nat×Int:=
 if s.length<12 then (bK8,0,7) else if s.length<kS s+16 then (bK8,0,7) else
  if (Md.decM (vQ (s.getD 0 0)::(s.take (kS s)).drop 1)).2.2.2.2.2.2.2.2.2=0 then (Md.decM (vQ (s.getD 0 0)::(s.take (kS s)).drop 1),kS s,0) else (bK8,0,5)
def bI1 (mk:Bool) (ty sq ti ss:Int) (cs:List Int) (ex:List Md.Xt):List UInt8:=Md.putM 1 [Md.kindM mk ty]++Md.putM 2 [sq]++Md.putM 4 [ti,ss]++Md.putM 4 cs++Md.extHM ex
theorem cB (mk:Bool) (ty sq ti ss:Int) (cs:List Int) (ex:List Md.Xt) (pad:Int):Md.headM mk ty sq ti ss cs ex pad=Md.octM (Md.fstM cs ex.length pad) 0::bI1 mk ty sq ti ss cs ex:=by
 simp[Md.headM,Md.headBM,bI1,Md.extHM,Md.putM,Md.beM]
theorem aDf {cs:List Int} {n:Nat} {pad:Int} (hc:cs.length≤15):(Md.octM (Md.fstM cs n pad) 0).toNat=128+cs.length+(if 0<pad then 32 else 0)+(if 0<n then 16 else 0):=by
 have e:Md.fstM cs n pad=((128+cs.length+(if 0<pad then 32 else 0)+(if 0<n then 16 else 0):Nat):Int):=by
  unfold Md.fstM
  split<;>split<;>omega
 rw[e,Md.oct_nat]
 split<;>split<;>omega
theorem aLv {cs:List Int} {n:Nat} {pad:Int} (hc:cs.length≤15):vQ (Md.octM (Md.fstM cs n pad) 0)=Md.octM (Md.fstM cs n 0) 0:=by
 have h1:=aDf (n:=n) (pad:=pad) hc
 have h2:=aDf (n:=n) (pad:=0) hc
 refine bQ9.1 ?_
 rw[h2,vQ,bSq,h1,if_neg (show ¬ (0:Int)<0 by omega)]
 split<;>split<;>omega
theorem aEh (mk:Bool) (ty sq ti ss:Int) (cs:List Int) (ex:List Md.Xt):(bI1 mk ty sq ti ss cs ex).length=11+4*cs.length+(Md.extHM ex).length:=by
 unfold bI1
 simp only[bN8,Md.put_len,bOb,bOe]
 try omega
theorem wZ {ex:List Md.Xt}:(Md.extHM ex).length=if ex.length=0 then 0 else 4+(Md.extPM ex).length:=by
 unfold Md.extHM
 split
 ·rfl
 ·simp only[bN8,Md.put_len,bOb,bOe]
theorem aK3 {mk:Bool} {ty sq ti ss:Int} {cs:List Int} {ex:List Md.Xt} {pad:Int} (rest:List UInt8) (hc:cs.length≤15) (hx:(Md.extPM ex).length<262144) :
  kS (Md.headM mk ty sq ti ss cs ex pad++rest)=(Md.headM mk ty sq ti ss cs ex pad).length:=by
 have h0:=aDf (n:=ex.length) (pad:=pad) hc
 have ht:=aEh mk ty sq ti ss cs ex
 have hx2:=wZ (ex:=ex)
 have h4:=Md.extP_len4 ex
 have hl:(Md.headM mk ty sq ti ss cs ex pad).length=12+4*cs.length+(Md.extHM ex).length:=by rw[cB,bOb,ht];omega
 have hg:((Md.headM mk ty sq ti ss cs ex pad++rest).getD 0 0)=Md.octM (Md.fstM cs ex.length pad) 0:=by rw[cB];rfl
 unfold kS
 rw[hg,h0,hl]
 by_cases hn:ex.length=0
 ·rw[if_neg (show ¬ 0<ex.length by omega),if_neg (by split<;>omega),hx2,if_pos hn]
  split<;>omega
 ·rw[if_pos (show 0<ex.length by omega),if_pos (by split<;>omega)]
  have e16:(128+cs.length+(if 0<pad then 32 else 0)+16)%16=cs.length:=by split<;>omega
  rw[e16]
  rw[if_neg hn] at hx2
  rw[if_pos (by rw[bN8,hl];omega),hx2]
  have es:∃a:List UInt8,a.length=12+4*cs.length∧Md.headM mk ty sq ti ss cs ex pad++rest=a++(Md.octM (Md.profM (Md.shortM ex)) 1::Md.octM (Md.profM (Md.shortM ex)) 0::Md.octM (((Md.extPM ex).length/4:Nat):Int) 1::Md.octM (((Md.extPM ex).length/4:Nat):Int) 0::(Md.extPM ex++rest)):=by
   refine ⟨Md.headBM mk ty sq ti ss cs ex.length pad,Md.head_len mk ty sq ti ss cs ex.length pad, ?_⟩
   rw[Md.headM,if_neg hn]
   simp[Md.putM,Md.beM]
  obtain ⟨a,ha,he⟩:=es
  have g:∀j,(Md.headM mk ty sq ti ss cs ex pad++rest).getD (12+4*cs.length+j) 0=(Md.octM (Md.profM (Md.shortM ex)) 1::Md.octM (Md.profM (Md.shortM ex)) 0::Md.octM (((Md.extPM ex).length/4:Nat):Int) 1::Md.octM (((Md.extPM ex).length/4:Nat):Int) 0::(Md.extPM ex++rest)).getD j 0:=fun j=>by
   rw[he,bOs,bOs,bPm (by omega),show 12+4*cs.length+j-a.length=j by omega]
  rw[g 2,g 3]
  simp only[bQt,bQu]
  have v1:=Md.oct_val ((Md.extPM ex).length/4) 1
  have v0:=Md.oct_val ((Md.extPM ex).length/4) 0
  omega
theorem aQ0 {mk:Bool} {ty sq ti ss:Int} {cs:List Int} {ex:List Md.Xt} {pad:Int} {rest:List UInt8} (hr:Md.rightM ty sq ti ss cs ex 0=true) (hx:(Md.headM mk ty sq ti ss cs ex 0).length≤1200) (h16:16≤rest.length) :
  aEw (Md.headM mk ty sq ti ss cs ex pad++rest)=((mk,ty,sq,ti,ss,cs,ex,0,[],0),(Md.headM mk ty sq ti ss cs ex pad).length,0):=by
 have hr':=hr
 rw[Md.rightM,bN9,Md.flagsM,bOc] at hr'
 have hc:cs.length≤15:=hr'.1.2.2.2.2.2.2.2.2.2.2.2.1
 have ht:=aEh mk ty sq ti ss cs ex
 have hx2:=wZ (ex:=ex)
 have hl:(Md.headM mk ty sq ti ss cs ex pad).length=12+4*cs.length+(Md.extHM ex).length:=by rw[cB,bOb,ht];omega
 have hl0:(Md.headM mk ty sq ti ss cs ex 0).length=12+4*cs.length+(Md.extHM ex).length:=by rw[cB,bOb,ht];omega
 have hxp:(Md.extPM ex).length<262144:=by
  by_cases hn:ex.length=0
  ·have:ex=[]:=bO8.1 hn
   subst this
   decide
  ·rw[if_neg hn] at hx2;omega
 have hh:=aK3 (mk:=mk) (ty:=ty) (sq:=sq) (ti:=ti) (ss:=ss) (pad:=pad) rest hc hxp
 have hg:((Md.headM mk ty sq ti ss cs ex pad++rest).getD 0 0)=Md.octM (Md.fstM cs ex.length pad) 0:=by rw[cB];rfl
 have hd:vQ ((Md.headM mk ty sq ti ss cs ex pad++rest).getD 0 0)::((Md.headM mk ty sq ti ss cs ex pad++rest).take (kS (Md.headM mk ty sq ti ss cs ex pad++rest))).drop 1=Md.encM mk ty sq ti ss cs ex 0 []:=by
  rw[hg,aLv hc,hh,bQ8 rfl,cB,bQg,bOv,Md.encM,cB]
  simp[Md.padM]
 have hdec:=Md.dec_enc (mk:=mk) (pl:=[]) hr (by rw[Md.encM];simp[Md.padM];exact hx)
 rw[aEw,hh,if_neg (by rw[bN8];omega),if_neg (by rw[bN8];omega)]
 rw[hh] at hd
 rw[hd,hdec,if_pos rfl]
theorem aAh:∀ {a b:List Md.Xt},mO a=mO b→Md.shortM a=Md.shortM b∧a.length=b.length
 | [],[],_=>⟨rfl,rfl⟩
 | [],_::_,h=>by simp[mO] at h
 | _::_,[],h=>by simp[mO] at h
 | x::a,y::b,h=>by
  simp only[mO,bO2,bP6,bPb] at h
  obtain ⟨⟨h1,h2⟩,h3⟩:=h
  obtain ⟨k1,k2⟩:=aAh (a:=a) (b:=b) h3
  refine ⟨?_,by rw[bOb,bOb,k2]⟩
  have e:Md.isLongM x=Md.isLongM y:=by unfold Md.isLongM;rw[h1,h2]
  have k1':a.any Md.isLongM=b.any Md.isLongM:=by
   have:=congrArg (!·) k1
   simpa [Md.shortM] using this
  simp only[Md.shortM,bTs,e,k1']
theorem aGb:∀ {a b:List Md.Xt} (l:Int),mO a=mO b→Md.extsOkM l a=Md.extsOkM l b
 | [],[],_,_=>rfl
 | [],_::_,_,h=>by simp[mO] at h
 | _::_,[],_,h=>by simp[mO] at h
 | x::a,y::b,l,h=>by
  simp only[mO,bO2,bP6,bPb] at h
  obtain ⟨⟨h1,h2⟩,h3⟩:=h
  rw[Md.extsOkM,Md.extsOkM,h1,h2,aGb (a:=a) (b:=b) _ h3]
theorem aLd (sh:Bool):∀ {a b:List Md.Xt},mO a=mO b→(Md.extBM sh a).length=(Md.extBM sh b).length
 | [],[],_=>rfl
 | [],_::_,h=>by simp[mO] at h
 | _::_,[],h=>by simp[mO] at h
 | x::a,y::b,h=>by
  simp only[mO,bO2,bP6,bPb] at h
  obtain ⟨⟨h1,h2⟩,h3⟩:=h
  have ih:=aLd sh (a:=a) (b:=b) h3
  rw[Md.extBM,Md.extBM]
  simp only[bN8,h2,ih]
  split<;>simp[Md.put_len]
theorem qI {mk:Bool} {ty sq ti ss:Int} {cs:List Int} {a b:List Md.Xt} (pad:Int) (h:mO a=mO b) :
  (Md.headM mk ty sq ti ss cs a pad).length=(Md.headM mk ty sq ti ss cs b pad).length∧Md.rightM ty sq ti ss cs a pad=Md.rightM ty sq ti ss cs b pad∧a.length=b.length∧Md.headBM mk ty sq ti ss cs a.length pad=Md.headBM mk ty sq ti ss cs b.length pad:=by
 obtain ⟨h1,h2⟩:=aAh h
 have h3:=aLd (Md.shortM b) h
 have h4:(Md.extPM a).length=(Md.extPM b).length:=by
  rw[Md.extPM,Md.extPM,h1,bN8,bN8,Md.zerosM,Md.zerosM,bOn,bOn,h3]
 refine ⟨?_, ?_,h2,by rw[h2]⟩
 ·rw[Md.headM,Md.headM,bN8,bN8,h2,h4]
  congr 1
  split
  ·rfl
  ·simp only[bN8,Md.put_len,bOb,bOe,h4]
 ·rw[Md.rightM,Md.rightM,h2,aGb 0 h]
theorem bGj {mk:Bool} {ty sq ti ss:Int} {cs:List Int} {a b:List Md.Xt} {pad:Int} {r pl:List UInt8} (h:a.length=b.length) :
  (Md.headM mk ty sq ti ss cs a pad++r).take 1++((Md.headM mk ty sq ti ss cs b 0).drop 1++pl)=Md.headM mk ty sq ti ss cs b pad++pl:=by
 rw[cB,cB,cB,h]
 simp
theorem wN {ty sq ti ss:Int} {cs:List Int} {ex:List Md.Xt} {pad:Int} (h:Md.rightM ty sq ti ss cs ex pad=true):Md.rightM ty sq ti ss cs ex 0=true:=by
 rw[Md.rightM,bN9,Md.flagsM,bOc] at h ⊢
 obtain ⟨⟨r1,r2,r3,r4,r5,r6,r7,r8,r9,r10,r11,r12,r13⟩,ho⟩:=h
 exact ⟨⟨r1,r2,r3,r4,r5,r6,r7,r8,r9,by omega,by omega,r12,r13⟩,ho⟩
theorem aAo (mk:Bool) (ty sq ti ss:Int) (cs:List Int) (ex:List Md.Xt) (pad pad':Int):(Md.headM mk ty sq ti ss cs ex pad).length=(Md.headM mk ty sq ti ss cs ex pad').length:=by
 rw[cB,cB,bOb,bOb]
def uG (mk:Bool) (ty sq ti ss:Int) (cs:List Int) (ex:List Md.Xt) (pad:Int) (pl key sa:List UInt8) (ix:Int):List UInt8:=
 Md.headM mk ty sq ti ss cs ex pad++(jW key (dG sa ss ix) (Md.headM mk ty sq ti ss cs ex pad) (pl++Md.padM pad)).1
theorem aA3 {mk:Bool} {ty sq ti ss:Int} {cs:List Int} {ex:List Md.Xt} {pad:Int} {pl key sa:List UInt8} {ix:Int} (h1:key.length=32) (h2:sa.length=12) (hr:Md.rightM ty sq ti ss cs ex pad=true) (hl:(Md.encM mk ty sq ti ss cs ex pad pl).length≤1184) :
  (uG mk ty sq ti ss cs ex pad pl key sa ix).length=(Md.encM mk ty sq ti ss cs ex pad pl).length+16 ∧
  aEw (uG mk ty sq ti ss cs ex pad pl key sa ix)=((mk,ty,sq,ti,ss,cs,ex,0,[],0),(Md.headM mk ty sq ti ss cs ex pad).length,0) ∧
  (uG mk ty sq ti ss cs ex pad pl key sa ix).take (Md.headM mk ty sq ti ss cs ex pad).length=Md.headM mk ty sq ti ss cs ex pad ∧
  kX key (dG sa ss ix) (Md.headM mk ty sq ti ss cs ex pad) ((uG mk ty sq ti ss cs ex pad pl key sa ix).drop (Md.headM mk ty sq ti ss cs ex pad).length)=(pl++Md.padM pad,0):=by
 have hn:=jS h2 ss ix
 have hL:(Md.encM mk ty sq ti ss cs ex pad pl).length=(Md.headM mk ty sq ti ss cs ex pad).length+(pl++Md.padM pad).length:=by
  rw[Md.encM];simp only[bN8];omega
 have hs:=tY (key:=key) (no:=dG sa ss ix) (hd:=Md.headM mk ty sq ti ss cs ex pad) (pl:=pl++Md.padM pad) h1 hn (by omega) (by omega)
 have h0:=aAo mk ty sq ti ss cs ex pad 0
 refine ⟨by rw[uG,bN8,hs,hL];omega, ?_, ?_, ?_⟩
 ·exact aQ0 (wN hr) (by omega) (by rw[hs];omega)
 ·rw[uG,bQ8 rfl]
 ·rw[uG,bSt rfl]
  exact aI1 h1 hn (by omega) (by omega)
theorem b15:∀x:Fin 256,x.1 &&& 15=x.1%16:=by decide +kernel
theorem b16:∀x:Fin 256,x.1 &&& 16=16*(x.1/16%2):=by decide +kernel
theorem bN3:∀x:Fin 256,x.1 &&& 223=x.1-32*(x.1/32%2):=by decide +kernel
theorem n15 {c:Nat} (h:c<256):c &&& 15=c%16:=b15 ⟨c,h⟩
theorem n16 {c:Nat} (h:c<256):c &&& 16=16*(c/16%2):=b16 ⟨c,h⟩
theorem n223 {c:Nat} (h:c<256):c &&& 223=c-32*(c/32%2):=bN3 ⟨c,h⟩
theorem bL3 {c m r:Nat} (hc:c<256) (h:c &&& m=r) (hr:r<256) {K:Int→Prop} (k:K (r:Nat)):exW .u8 (((((c:Int)%256).toNat &&& m:Nat)):Int) K:=by
 have e:(((c:Int)%256).toNat &&& m)=r:=by
  rw[show ((c:Int)%256).toNat=c by omega,h]
 rw[e]
 exact aLr (by omega) (by omega) k
def bCe:AV→AV
 | .tup [.agg l,a,b]=>.tup [.agg (nlL [0,0,0,0,0,1,2] l),a,b]
 | v=>v
theorem bBo (v:AV):wk v (bCe v):=by
 unfold bCe
 split
 ·exact aHj (dZ (sP (kZ _ _)) (iY _))
 ·exact eO _
def bN4 (d:Md.DecT):List AV:=[.bool d.1,.int .i64 d.2.1,.int .i64 d.2.2.1,.int .i64 d.2.2.2.1,.int .i64 d.2.2.2.2.1,.lst 0 (aB d.2.2.2.2.2.1) d.2.2.2.2.2.1.length 1,.lst 0 (Md.cellsXM d.2.2.2.2.2.2.1) d.2.2.2.2.2.2.1.length 2,.int .i64 d.2.2.2.2.2.2.2.1,.str d.2.2.2.2.2.2.2.2.1]
def bMw (r:Md.DecT×Nat×Int):AV:=.tup [.agg (bN4 r.1),.int .i64 (r.2.1:Nat),.int .i64 r.2.2]
theorem aOk (s:List UInt8) (n:Nat) (h12:12≤n) (hs:12≤s.length) (hs2:s.length≤1000000) (hn:n≤1000000) (hh:kS s=n) (Q:Out→List Blk→Gh→Prop) (hq:∀v H g,bCe (bW 0 H 9 v)=bMw (aEw s)→Q (.ret v) H g):sI s (s.length:Int) (n:Int) Q:=by
 unfold sI
 delta aQi bIr bDy bJk
 have hc:=(s.getD 0 0).toNat_lt
 refine ⟨rfl,aI (by omega) (by omega) (aD (fun h => ?_) (fun h => ?_))⟩
 ·refine hq _ _ _ ?_
  rw[aEw,if_neg (by omega),hh,if_pos (by omega)]
  rfl
 ·refine ckI (by simp;omega) ⟨_,rfl,bL3 hc (n223 hc) (by omega) ⟨_,rfl,ckI (by simp;omega) ⟨_,rfl, ?_⟩⟩⟩
  refine ⟨[[toB (.int .u8 (((s.getD 0 0).toNat-32*((s.getD 0 0).toNat/32%2):Nat):Int))],(s.drop 1).take (n-1)],⟨rfl,rfl,by simp,by rw[aQ3];simp;omega⟩, ?_⟩
  rintro x ⟨hx⟩
  have ex:x=vQ (s.getD 0 0)::(s.take n).drop 1:=by
   rw[hx,aQ3,List.singleton_append,bSv]
   congr 1
  refine ckI (by rw[ex];simp;omega) ?_
  rintro mk ty sq ti ss cs ex' p y e ⟨hd⟩
  rw[ex] at hd
  refine bA (fun he => ?_) (fun he => ?_)
  ·refine hq _ _ _ ?_
   rw[aEw,if_neg (by omega),hh,if_neg (by omega),hd,if_neg he]
   rfl
  ·refine hq _ _ _ ?_
   have he':e=0:=he
   subst he'
   rw[aEw,if_neg (by omega),hh,if_neg (by omega),hd,if_pos rfl]
   rfl
theorem aZm (s:List UInt8) (hs2:s.length≤700000) (Q:Out→List Blk→Gh→Prop) (hq:∀v H g,bCe (bW 0 H 9 v)=bMw (aEw s)→Q (.ret v) H g):∃hv hb,aDa hv hb s Q:=by
 obtain ⟨hv,hb',e⟩:∃hv hb,aDa hv hb s Q=_:=⟨_,_,bKk s Q⟩
 refine ⟨hv,hb',e.mpr ?_⟩
 delta aQi bIr bJk bDy
 clear e
 have e0:(UInt8.ofNat 0)=(0:UInt8):=rfl
 rw[e0]
 refine ⟨_,rfl,aD (fun h => ?_) (fun h => ?_)⟩
 ·refine hq _ _ _ ?_
  rw[aEw,if_pos (by omega)]
  rfl
 ·have hs:12≤s.length:=by omega
  have hc:=(s.getD 0 0).toNat_lt
  have hlen:∀n,kS s=n→n=kS s:=fun n h=>h.symm
  refine ckI (by simp;omega) ⟨_,rfl,bL3 hc (n15 hc) (by omega) (aI (by omega) (by omega) (aI (by omega) (by omega) (aI (by omega) (by omega) (ckI (by simp;omega) ⟨_,rfl,bL3 hc (n16 hc) (by omega) (bA (fun h16 => ?_) (fun h16 => ?_))⟩))))⟩
  ·have h1:(s.getD 0 0).toNat/16%2=1:=by omega
   refine aI (by omega) (by omega) ⟨_,rfl,aD (fun hl => ?_) (fun hl => ?_)⟩
   ·have hh:kS s=12+4*((s.getD 0 0).toNat%16)+4+4*((s.getD (12+4*((s.getD 0 0).toNat%16)+2) 0).toNat*256+(s.getD (12+4*((s.getD 0 0).toNat%16)+3) 0).toNat):=by
     rw[kS,if_pos h1,if_pos (by omega)]
    have hc2:=(s.getD (12+4*((s.getD 0 0).toNat%16)+2) 0).toNat_lt
    have hc3:=(s.getD (12+4*((s.getD 0 0).toNat%16)+3) 0).toNat_lt
    generalize hz:(s.getD 0 0).toNat%16=z at *
    refine aI (by omega) (by omega) (ckI (by simp;omega) ⟨_,rfl, ?_⟩)
    rw[show ((12+4*(z:Int)+4-2).toNat)=12+4*z+2 by omega]
    generalize (s.getD (12+4*z+2) 0).toNat=a at *
    refine aI (by omega) (by omega) (aI (by omega) (by omega) (aI (by omega) (by omega) (ckI (by simp;omega) ⟨_,rfl, ?_⟩)))
    rw[show ((12+4*(z:Int)+4-1).toNat)=12+4*z+3 by omega]
    generalize (s.getD (12+4*z+3) 0).toNat=b at *
    refine aI (by omega) (by omega) ?_
    have eo:((((a:Int)*256)%18446744073709551616).toNat ||| (((b:Nat):Int)%18446744073709551616).toNat)=a*256+b:=by
     rw[show (((a:Int)*256)%18446744073709551616).toNat=a*256 by omega,show (((b:Nat):Int)%18446744073709551616).toNat=b by omega]
     exact Md.or256 hc3
    try dsimp only
    rw[eo]
    refine aI (by omega) (by omega) (aI (by omega) (by omega) (aI (by omega) (by omega) ⟨(s.length:Int), ?_⟩))
    have:=aOk s (12+4*z+4+4*(a*256+b)) (by omega) hs (by omega) (by omega) hh Q hq
    rw[show ((12+4*z+4+4*(a*256+b):Nat):Int)=12+4*(z:Int)+4+4*((a*256+b:Nat):Int) by omega] at this
    exact this
   ·have hh:kS s=12+4*((s.getD 0 0).toNat%16)+4:=by
     rw[kS,if_pos h1,if_neg (by omega)]
    refine ⟨(s.length:Int), ?_⟩
    have:=aOk s (12+4*((s.getD 0 0).toNat%16)+4) (by omega) hs (by omega) (by omega) hh Q hq
    rw[show ((12+4*((s.getD 0 0).toNat%16)+4:Nat):Int)=12+4*(((s.getD 0 0).toNat%16:Nat):Int)+4 by omega] at this
    exact this
  ·have h1:(s.getD 0 0).toNat/16%2≠1:=fun h=>by
    have:((16*((s.getD 0 0).toNat/16%2):Nat):Int)=0:=h16
    omega
   have hh:kS s=12+4*((s.getD 0 0).toNat%16):=by rw[kS,if_neg h1]
   refine ⟨(s.length:Int), ?_⟩
   have:=aOk s (12+4*((s.getD 0 0).toNat%16)) (by omega) hs (by omega) (by omega) hh Q hq
   rw[show ((12+4*((s.getD 0 0).toNat%16):Nat):Int)=12+4*(((s.getD 0 0).toNat%16:Nat):Int) by omega] at this
   exact this
def bMz:Con
 | [.str s],H,K=>Lf (s.length≤700000)∧∀ (mk:Bool) (ty sq ti ss:Int) (cs:List Int) (ex:List Md.Xt) (pad:Int) (pl:List UInt8) (x:Int) (n:Nat) (e:Int),Lf (aEw s=((mk,ty,sq,ti,ss,cs,ex,pad,pl,x),n,e)) →
   K (.ret (.tup [.agg [.bool mk,.int .i64 ty,.int .i64 sq,.int .i64 ti,.int .i64 ss,.lst 0 (aB cs) cs.length 1,.lst 0 (Md.cellsXM ex) ex.length 2,.int .i64 pad,.str pl],.int .i64 (n:Nat),.int .i64 e])) H
 | _,_,_=>False
theorem aWs:aF Tryz.prog gl0 80 bMz:=by
 refine fF (enters_of (by kernel_rfl)) aM 9 bCe bBo fun args H Q hc => ?_
 unfold bMz at hc
 split at hc
 ·rename_i s
  obtain ⟨⟨h1⟩,hq⟩:=hc
  obtain ⟨hv,hb',h⟩:=aZm s h1 (fun o H' _=>∃v,o=.ret v∧Q (.ret (bCe (bW 0 H' 9 v))) H) (fun v H' g ho=>⟨v,rfl,by
   rw[ho]
   rcases hr:aEw s with ⟨⟨mk,ty,sq,ti,ss,cs,ex,pad,pl,x⟩,n,e⟩
   exact hq mk ty sq ti ss cs ex pad pl x n e ⟨hr⟩⟩)
  exact ⟨rfl,rfl,_,1000,aT bA1 (fun _=>none) hv hb',rfl,h⟩
 ·exact hc.elim
end Go.Proofs.YtnhechnaemmdiaaGreatDoor
