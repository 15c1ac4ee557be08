/-
  Chapter 25: extensions are hidden: residual.
-/
import Derived.Test.YtnhechnaemmdiaaGreatDoorKnM
import Derived.Test.YtnhechnaemmdiaaGreatDoorKnE
set_option linter.unusedSimpArgs false
set_option linter.unusedVariables false
set_option linter.unusedSectionVars false
namespace Go.Proofs.YtnhechnaemmdiaaGreatDoor
open Go.RowKit
set_option maxRecDepth 1000000

def aZv (hid:List Int) (ex:List Md.Xt) (z:S):List (List LInv):=match z.tm.get 7,z.hp with
 | .lst _ _ _ _,hp=>[[{ α:=Nat,pre:=fun i=>Lf (i=0),st:=fun i=>⟨mkT [(0,z.tm.get 0),(2,z.tm.get 2),(7,z.tm.get 7),(8,z.tm.get 8),(9,.int .i64 0)],hp⟩,mu:=fun i=>0 }]]
 | .sl _ _ _ _ _,[c,d,p,zr,f,e,da,cp,pc]=>[[{ α:=Nat,pre:=fun i=>Lf (i≤ex.length),st:=fun i=>⟨mkT [(0,z.tm.get 0),(2,z.tm.get 2),(7,z.tm.get 7),(8,z.tm.get 8),(9,.int .i64 (i:Nat))],[c,d,p,zr,f,e,⟨.exact,true,[.str (bF hid (ex.take i))]⟩,cp,pc]⟩,mu:=fun i=>ex.length-i }]]
 | .sl _ _ _ _ _,[c,d,p,zr,f,e,⟨_,_,[.str ks]⟩,cp,pc,cp2,pc2]=>[[{ α:=Nat,pre:=fun i=>Lf (i≤ex.length),st:=fun i=>⟨mkT [(0,z.tm.get 0),(2,z.tm.get 2),(7,z.tm.get 7),(8,z.tm.get 8),(9,.int .i64 (i:Nat))],[c,d,p,zr,f,⟨.grow,true,Md.cellsXM (bX hid (ex.take i) ks++ex.drop i)⟩,⟨.exact,true,[.str (ks.drop (bF hid (ex.take i)).length)]⟩,cp,pc,cp2,pc2]⟩,mu:=fun i=>ex.length-i }]]
 | _,_=>[]
def bOo:SM:=eY [(67,cbC aAk),(115,bM4),(117,aAl),(161,bEd)]
theorem aZy:∀f g,bOo f=some g→aG Tryz.prog gl0 f g:=bK _ (by simp only[List.mem_cons,List.not_mem_nil,or_false,forall_eq_or_imp,forall_eq];exact ⟨xL,bFu,zF,bFe⟩)
noncomputable def aVg (hv:Nat→Option Pa) (hb:Nat→Option Bool) (hid:List Int) (ex:List Md.Xt):Env:=e04 bOo (fun i=>bif Nat.beq i 160000 then some (aZv hid ex) else none) hv hb
noncomputable def aEn (hv:Nat→Option Pa) (hb:Nat→Option Bool) (k sa mk:List UInt8) (hid:List Int) (x:AV) (nx rs rt rk:Int) (ds:List AV) (t5 t6:Nat) (mkk:Bool) (ty sq ti ss:Int) (c5:List AV) (n5:Nat) (ex:List Md.Xt) (pad:Int) (pl:List UInt8) (ix:Int) (Q:Out→List Blk→Gh→Prop):Prop:=
 bC (aVg hv hb hid ex) (wpx (aVg hv hb hid ex) 1000) 65 [.ptr 0 9 0,.agg [.bool mkk,.int .i64 ty,.int .i64 sq,.int .i64 ti,.int .i64 ss,.lst t5 c5 n5 1,.lst t6 (Md.cellsXM ex) ex.length 2,.int .i64 pad,.str pl],.int .i64 ix] [⟨.ro,false,vJ k sa mk (aC hid) hid.length x nx rs rt rk⟩,⟨.ro,false,ds⟩] {} Q
abbrev gP (e_6:Int):AV:=.int .i64 e_6
abbrev bGr:AV:=.fn (Fn.func 160) [] [.ptr 8 9 0,.ptr 7 1 0]
abbrev bJ4 (ex_0:List Md.Xt):AV:=.sl 5 (2*ex_0.length) 0 ex_0.length 2
abbrev aN5 (mkk:Bool) (ty sq ti ss:Int) (t5:Nat) (c5:List AV) (n5:Nat) (ex_0:List Md.Xt) (pad:Int) (pl:List UInt8):List AV:=[.bool mkk,gP ty,gP sq,gP ti,gP ss,.lst t5 c5 n5 1,bJ4 ex_0,gP pad,.str pl]
def aPx (s_3:List UInt8) (t_5:List UInt8) (e_6:Int) (mkk:Bool) (ty:Int) (sq:Int) (ti:Int) (ss:Int) (t5:Nat) (c5:List AV) (n5:Nat) (t6:Nat) (ex:List Md.Xt) (pad:Int) (pl:List UInt8) (mk:List UInt8) (ix:Int) (ex_0:List Md.Xt) (s_4:List UInt8):Prop:=
aN [Lp.mk 1 (T.n (T.n (T.n (T.n (T.n (T.n T.e (.ptr 0 9 0) T.e) (.ptr 0 9 0) T.e) (.ptr 6 1 0) (T.n (T.n T.e (.str s_3) T.e) .undef T.e)) .undef (T.n (T.n (T.n T.e (.ptr 2 9 4) T.e) .undef T.e) (.ptr 2 9 6) (T.n (T.n T.e (.ptr 0 9 0) T.e) (.tup [.str t_5,gP e_6]) T.e))) (.agg [.bool mkk,gP ty,gP sq,gP ti,gP ss,.lst t5 c5 n5 1,.lst t6 (Md.cellsXM ex) ex.length 2,gP pad,.str pl]) (T.n (T.n (T.n (T.n T.e (.str mk) T.e) bGr T.e) .undef (T.n (T.n T.e (.str t_5) T.e) .undef T.e)) .undef (T.n (T.n (T.n T.e (gP ix) T.e) .undef T.e) (bJ4 ex_0) (T.n (T.n T.e (.fn (Fn.func 160) [] [.ptr 10 9 0,.ptr 9 1 0]) T.e) (.ptr 0 9 0) T.e)))) (.ptr 0 9 0) (T.n (T.n (T.n (T.n (T.n T.e (.ptr 0 9 2) T.e) (.agg (aN5 mkk ty sq ti ss t5 c5 n5 ex_0 pad pl)) T.e) .undef (T.n (T.n T.e (.tup [.str t_5,gP e_6]) T.e) .undef T.e)) (.ptr 2 9 0) (T.n (T.n (T.n T.e (gP ss) T.e) .undef T.e) (.lst t6 (Md.cellsXM ex) ex.length 2) (T.n (T.n T.e (.agg (aN5 mkk ty sq ti ss t5 c5 n5 ex_0 pad pl)) T.e) (.ptr 0 9 0) T.e))) (gP ix) (T.n (T.n (T.n (T.n T.e (.ptr 0 9 0) T.e) .undef T.e) .undef (T.n (T.n T.e (gP e_6) T.e) .undef T.e)) (.ptr 3 9 0) (T.n (T.n (T.n T.e (.str s_4) T.e) .undef T.e) (.ptr 2 9 6) (T.n T.e (.ptr 0 9 0) T.e))))) [46] (AC.region [AOper.mk (Option.some (9:Nat)) (AOp.mv (AO.t 46)) Option.none 0 0]) (AC.block 3 (AC.seq (AC.region [AOper.mk (Option.some (47:Nat)) (AOp.fa 6 (AO.t 4)) Option.none 0 0,AOper.mk (Option.some (48:Nat)) (AOp.ld false 1 (AO.t 47)) Option.none 0 0,AOper.mk (Option.some (49:Nat)) (AOp.mv (AO.t 9)) Option.none 0 0,AOper.mk (Option.some (50:Nat)) (AOp.iaL 2 (AO.t 48) (AO.t 49)) Option.none 0 0,AOper.mk (Option.some (51:Nat)) (AOp.fa 1 (AO.t 50)) Option.none 0 0,AOper.mk (Option.some (52:Nat)) (AOp.ld false 1 (AO.t 51)) Option.none 0 0,AOper.mk (Option.some (53:Nat)) (AOp.lenS (AO.t 52)) Option.none 0 0,AOper.mk (Option.some (10:Nat)) (AOp.mv (AO.t 53)) Option.none 0 0]) (AC.drawn [AOper.mk (Option.some (54:Nat)) (AOp.fa 6 (AO.t 4)) Option.none 0 0,AOper.mk (Option.some (55:Nat)) (AOp.ld false 1 (AO.t 54)) Option.none 1 1,AOper.mk (Option.some (56:Nat)) (AOp.mv (AO.t 9)) Option.none 2 0,AOper.mk (Option.some (57:Nat)) (AOp.ld false 1 (AO.t 7)) Option.none 3 0,AOper.mk (Option.some (58:Nat)) (AOp.mv (AO.t 10)) Option.none 4 0,AOper.mk (Option.some (59:Nat)) (AOp.slS (AO.t 57) Option.none (Option.some (AO.t 58))) Option.none 5 24,AOper.mk (Option.some (60:Nat)) (AOp.ld false 1 (AO.t 7)) Option.none 6 0,AOper.mk (Option.some (61:Nat)) (AOp.mv (AO.t 10)) Option.none 7 0,AOper.mk (Option.some (62:Nat)) (AOp.slS (AO.t 60) (Option.some (AO.t 61)) Option.none) Option.none 8 192,AOper.mk (Option.some (63:Nat)) (AOp.iaL 2 (AO.t 55) (AO.t 56)) Option.none 9 63,AOper.mk (Option.some (64:Nat)) (AOp.fa 1 (AO.t 63)) Option.none 10 575,AOper.mk Option.none (AOp.st 1 (AO.t 64) (AO.t 59)) Option.none 11 1599,AOper.mk Option.none (AOp.st 1 (AO.t 7) (AO.t 62)) Option.none 12 4095]))) Lst.ready 65]
def aOl (mkk:Bool) (ty:Int) (sq:Int) (ti:Int) (ss:Int) (t5:Nat) (c5:List AV) (n5:Nat) (t6:Nat) (ex:List Md.Xt) (pad:Int) (pl:List UInt8) (ex_0:List Md.Xt) (ix:Int):Prop:=
aN [Lp.mk 0 (T.n (T.n (T.n (T.n (T.n T.e (.ptr 0 9 0) T.e) (.ptr 6 1 0) T.e) .undef (T.n T.e (.ptr 2 9 6) T.e)) (.agg [.bool mkk,gP ty,gP sq,gP ti,gP ss,.lst t5 c5 n5 1,.lst t6 (Md.cellsXM ex) ex.length 2,gP pad,.str pl]) (T.n (T.n (T.n T.e bGr T.e) .undef T.e) .undef (T.n T.e (bJ4 ex_0) T.e))) (.ptr 0 9 0) (T.n (T.n (T.n (T.n T.e (.agg (aN5 mkk ty sq ti ss t5 c5 n5 ex_0 pad pl)) T.e) .undef T.e) (.ptr 2 9 0) (T.n T.e (.lst t6 (Md.cellsXM ex) ex.length 2) T.e)) (gP ix) (T.n T.e (.ptr 3 9 0) (T.n T.e (.ptr 2 9 6) T.e)))) [18] (AC.region [AOper.mk (Option.some (8:Nat)) (AOp.mv (AO.t 18)) Option.none 0 0]) (AC.block 1 (AC.drawn [AOper.mk (Option.some (19:Nat)) (AOp.ld false 1 (AO.t 7)) Option.none 0 0,AOper.mk (Option.some (20:Nat)) (AOp.fa 6 (AO.t 4)) Option.none 1 0,AOper.mk (Option.some (21:Nat)) (AOp.ld false 1 (AO.t 20)) Option.none 2 2,AOper.mk (Option.some (22:Nat)) (AOp.mv (AO.t 8)) Option.none 3 0,AOper.mk (Option.some (23:Nat)) (AOp.iaL 2 (AO.t 21) (AO.t 22)) Option.none 4 14,AOper.mk (Option.some (24:Nat)) (AOp.fa 1 (AO.t 23)) Option.none 5 30,AOper.mk (Option.some (25:Nat)) (AOp.ld false 1 (AO.t 24)) Option.none 6 62,AOper.mk (Option.some (26:Nat)) (AOp.bin Go.BinOp.add Sh.st (AO.t 19) (AO.t 25)) Option.none 7 127,AOper.mk Option.none (AOp.st 1 (AO.t 7) (AO.t 26)) Option.none 8 255])) Lst.ready 65]
abbrev aSo (k sa mk:List UInt8) (hid:List Int) (x:AV) (nx rs rt rk:Int):Prop:=aN [AV.str k,.str sa,.str mk,.lst 0 (aC hid) hid.length 1,x,gP nx,gP rs,gP rt,.int .u64 rk]
abbrev aIr (mkk:Bool) (ty sq ti ss:Int) (t5:Nat) (c5:List AV) (n5:Nat) (pad:Int) (pl:List UInt8):Prop:=aN [AV.bool mkk,gP ty,gP sq,gP ti,gP ss,.lst t5 c5 n5 1,.lst 0 [] 0 2,gP pad,.str pl]
abbrev aD9:AV:=.int .i64 0
abbrev aSb:Prop:=aN [AV.bool false,aD9,aD9,aD9,aD9,.nils,.nils,aD9,.str []]
abbrev oP:Prop:=aN [AV.ptr 0 9 0]
abbrev aCw (n_1:Int):Prop:=aN (AV.int .i64 n_1)∧True
abbrev aU1 (k sa mk:List UInt8) (hid:List Int) (x:AV) (nx rs rt rk:Int):List AV:=[.str k,.str sa,.str mk,.lst 0 (aC hid) hid.length 1,x,gP nx,gP rs,gP rt,.int .u64 rk]
abbrev aY5 (mkk:Bool) (ty sq ti ss:Int) (t5:Nat) (c5:List AV) (n5:Nat) (pad:Int) (pl:List UInt8):Blk:=Blk.mk BK.exact true [.bool mkk,gP ty,gP sq,gP ti,gP ss,.lst t5 c5 n5 1,.lst 0 [] 0 2,gP pad,.str pl]
abbrev aWc:AV:=aD9
abbrev aZj:Blk:=Blk.mk BK.exact true [.bool false,aWc,aWc,aWc,aWc,.nils,.nils,aWc,.str []]
abbrev aFo:Blk:=Blk.mk BK.exact false [.ptr 0 9 0]
abbrev aOy:Prop:=aN (AV.ptr 7 1 0)
abbrev aAh (ex_0:List Md.Xt):Bool:=Nat.beq (Md.cellsXM ex_0).length (2*ex_0.length)
abbrev aDb (mkk:Bool) (ty sq ti ss:Int) (t5:Nat) (c5:List AV) (n5:Nat) (ex_0:List Md.Xt) (pad:Int) (pl:List UInt8):Prop:=aN [AV.bool mkk,gP ty,gP sq,gP ti,gP ss,.lst t5 c5 n5 1,.sl 5 (2*ex_0.length) 0 ex_0.length 2,gP pad,.str pl]
abbrev aFw:Prop:=([]:List AV)=[]
abbrev aDl (ex_0:List Md.Xt):Prop:=aN (AV.sl 5 (2*ex_0.length) 0 ex_0.length 2)
abbrev xX (x_2:Nat):Nat:=0+(x_2:Int).toNat*2
abbrev aTq (x_2:Nat) (ex_0:List Md.Xt):List AV:=aM [aWc,.str []] 0 (((Md.cellsXM ex_0).drop (xX x_2)).take 2)
abbrev vB (hid:List Int) (x_8:Nat) (ex:List Md.Xt) (t_5:List UInt8):List UInt8:=t_5.drop (bF hid (ex.take x_8)).length
abbrev aUl (hid:List Int) (x_8:Nat) (ex:List Md.Xt) (t_5:List UInt8) (ex_0:List Md.Xt):Bool:=Nat.beq (Md.cellsXM (bX hid (ex.take x_8) t_5++ex.drop x_8)).length (2*ex_0.length)
abbrev aTe (x_8:Nat) (hid:List Int) (ex:List Md.Xt) (t_5:List UInt8):List AV:=aM [aWc,.str []] 0 (((Md.cellsXM (bX hid (ex.take x_8) t_5++ex.drop x_8)).drop (xX x_8)).take 2)
theorem bNx (k:List UInt8) (sa:List UInt8) (mk:List UInt8) (hid:List Int) (x:AV) (nx:Int) (rs:Int) (rt:Int) (rk:Int) (ds:List AV) (t5:Nat) (t6:Nat) (mkk:Bool) (ty:Int) (sq:Int) (ti:Int) (ss:Int) (c5 :
 List AV) (n5:Nat) (ex:List Md.Xt) (pad:Int) (pl:List UInt8) (ix:Int) (Q:Out→List Blk→Gh→Prop):aEn (bH [(655368,.int .i64),(655371,.int .i64),(655380,.int .i64),(266259,.str),(266265,.str),(266266,
 .str),(655388,.int .i64),(266279,.str),(266292,.str),(266293,.int .i64),(266297,.str),(266299,.str),(266300,.str),(266302,.str)]) (bI [(659454,true),(270334,false),(1655360000,true)]) k sa mk hid x nx rs rt rk ds t5
 t6 mkk ty sq ti ss c5 n5 ex pad pl ix Q=(∃ex_0:List Md.Xt,Lf (Md.cellsXM ex=Md.cellsXM ex_0∧ex.length=ex_0.length∧ex_0.length≤1000000)∧(Lf (ex_0=[])→exI .i64 0 (fun n_1=>(∃x_2:Nat,Lf (x_2=0)∧aSo k sa
 mk hid x nx rs rt rk∧ds=ds∧aIr mkk ty sq ti ss t5 c5 n5 pad pl∧aSb∧aN [AV.str []]∧oP∧aIr mkk ty sq ti ss t5 c5 n5 pad pl∧aN (AV.yld 0)∧aN (AV.lst 0 [] 0 2)∧aN (AV.int .i64 0)∧aN (AV.ptr 5 1 0) ∧
 aCw n_1)∧∀x_2:Nat,Lf (x_2=0)→bif decide (0<n_1) then exI .i64 0 (fun n_3=>False) else (aR 7 (aU1 k sa mk hid x nx rs rt rk)&&(aR 7 ds&&true))=true∧exS (.str []) (fun s_3=>Lf (aIc [Blk.mk BK.ro false
 (vJ k sa mk (aC hid) hid.length x nx rs rt rk),Blk.mk BK.ro false ds,aY5 mkk ty sq ti ss t5 c5 n5 pad pl,aZj,Blk.mk BK.exact true [.str []],aFo,aY5 mkk ty sq ti ss t5 c5 n5 pad pl] x)∧Lf (sa.length=12)∧∀s_4:List
 UInt8,Lf (s_4=dN sa ss ix)→ckQ (dF [.str mk] [.str mk]&&true) (∀t_5:List UInt8,∀e_6:Int,Lf (iT mk s_4 0 s_3=Prod.mk t_5 e_6)→exI .i64 0 (fun n_7=>(∃x_8:Nat,Lf (x_8=0)∧aSo k sa mk hid x nx rs
 rt rk∧ds=ds∧aIr mkk ty sq ti ss t5 c5 n5 pad pl∧aSb∧aN [AV.str t_5]∧oP∧aIr mkk ty sq ti ss t5 c5 n5 pad pl∧oP∧aIr mkk ty sq ti ss t5 c5 n5 pad pl∧aN (AV.yld 1)∧aN (AV.lst 0 [] 0 2)∧aN (AV.int
 .i64 0)∧aOy∧aN (AV.int .i64 n_7)∧True)∧∀x_8:Nat,Lf (x_8=0)→bif decide (0<n_7) then exI .i64 0 (fun n_9=>False) else (aR 9 (aU1 k sa mk hid x nx rs rt rk)&&(aR 9 ds&&true))=true∧Q (.ret
 (.agg [.bool mkk,gP ty,gP sq,gP ti,gP ss,.lst t5 c5 n5 1,.lst 0 [] 0 2,gP pad,.str pl])) [Blk.mk BK.ro false (vJ k sa mk (aC hid) hid.length x nx rs rt rk),Blk.mk BK.ro false ds,aY5 mkk ty sq ti ss t5 c5 n5 pad
 pl,aY5 mkk ty sq ti ss t5 c5 n5 pad pl,Blk.mk BK.exact true [.str t_5],aFo,aY5 mkk ty sq ti ss t5 c5 n5 pad pl,aFo,aY5 mkk ty sq ti ss t5 c5 n5 pad pl] (Gh.mk 0 2 []))))))∧(Lf (1≤ex_0.length)→ckQ (aAh ex_0) (exI
 IntKind.i64 (ex_0.length:Int) (fun n_1=>(∃x_2:Nat,Lf (x_2≤ex.length)∧aSo k sa mk hid x nx rs rt rk∧ds=ds∧aDb mkk ty sq ti ss t5 c5 n5 ex_0 pad pl∧aSb∧aFw∧aN (Md.cellsXM ex_0)∧[AV.str []]=[AV.str (bF
 hid (ex.take x_2))]∧oP∧aDb mkk ty sq ti ss t5 c5 n5 ex_0 pad pl∧aN (AV.yld 0)∧aDl ex_0∧AV.int .i64 0=AV.int .i64 (x_2:Int)∧aOy∧aCw n_1)∧∀x_2:Nat,Lf (x_2≤ex.length)→bif decide ((x_2:Int)<n_1) then
 exI .i64 (x_2:Int) (fun n_3=>ckQ (Nat.blt (x_2:Int).toNat ex_0.length&&aAh ex_0&&true) (ckQ (aAh ex_0&&Nat.ble (xX x_2+2) (2*ex_0.length)) (ckQ (Nat.beq (((Md.cellsXM ex_0).drop (xX x_2)).take 2).length 2
 && fJ (((Md.cellsXM ex_0).drop (xX x_2)).take 2)&&true) (ckQ (Nat.beq (aTq x_2 ex_0).length 2) (ckQ (Nat.beq (aTq x_2 ex_0).length 2&&true) (exV IntKind.i64 ((((aTq x_2 ex_0).drop 0).take 1).getD 0 AV.undef) (fun n_4=>∃
 xs_5:List Int,Lf (aC hid=aC xs_5∧hid.length=xs_5.length∧xs_5.length≤1000000)∧bif tK n_4 xs_5 then exS (.str (bF hid (ex.take x_2))) (fun s_6=>ckQ (decide (0≤n_3)&&Nat.blt n_3.toNat ex_0.length&&aAh
 ex_0&&true) (ckQ (aAh ex_0) (ckQ (aAh ex_0&&Nat.blt (0+n_3.toNat*2+1) (2*ex_0.length)) (exS ((((Md.cellsXM ex_0).drop (0+n_3.toNat*2+1)).take 1).getD 0 AV.undef) (fun s_7=>ckQ (decide (s_6.length+s_7.length ≤
 9223372036854775807)&&true) (exS (.str (s_6++s_7)) (fun s_8=>exW .i64 ((x_2:Int)+1) (fun n_9=>(aR 9 (aU1 k sa mk hid x nx rs rt rk)&&(aR 9 ds&&true))=true∧(aOl mkk ty sq ti ss t5 c5 n5 t6 ex pad pl ex_0
 ix∧(1:Nat)=(1:Nat))∧∃y_10:Nat,Lf (y_10≤ex.length)∧ex.length-y_10<ex.length-x_2∧aSo k sa mk hid x nx rs rt rk∧ds=ds∧aDb mkk ty sq ti ss t5 c5 n5 ex_0 pad pl∧aSb∧aFw∧aN (Md.cellsXM ex_0)∧[AV.str
 s_8]=[AV.str (bF hid (ex.take y_10))]∧oP∧aDb mkk ty sq ti ss t5 c5 n5 ex_0 pad pl∧aN (AV.yld 0)∧aDl ex_0∧AV.int .i64 n_9=AV.int .i64 (y_10:Int)∧aOy∧aCw n_1)))))))) else exW .i64 ((x_2:Int)+1)
 (fun n_6=>(aR 9 (aU1 k sa mk hid x nx rs rt rk)&&(aR 9 ds&&true))=true∧(aOl mkk ty sq ti ss t5 c5 n5 t6 ex pad pl ex_0 ix∧(1:Nat)=(1:Nat))∧∃y_7:Nat,Lf (y_7≤ex.length)∧ex.length-y_7<ex.length-x_2 ∧
 aSo k sa mk hid x nx rs rt rk∧ds=ds∧aDb mkk ty sq ti ss t5 c5 n5 ex_0 pad pl∧aSb∧aFw∧aN (Md.cellsXM ex_0)∧[AV.str (bF hid (ex.take x_2))]=[AV.str (bF hid (ex.take y_7))]∧oP∧aDb mkk ty sq ti ss t5 c5 n5
 ex_0 pad pl∧aN (AV.yld 0)∧aDl ex_0∧AV.int .i64 n_6=AV.int .i64 (y_7:Int)∧aOy∧aCw n_1)))))))) else (aR 9 (aU1 k sa mk hid x nx rs rt rk)&&(aR 9 ds&&true))=true∧exS (.str (bF hid (ex.take x_2)))
 (fun s_3=>Lf (aIc [Blk.mk BK.ro false (vJ k sa mk (aC hid) hid.length x nx rs rt rk),Blk.mk BK.ro false ds,Blk.mk BK.exact false (aN5 mkk ty sq ti ss t5 c5 n5 ex_0 pad pl),aZj,Blk.mk BK.exact true [],Blk.mk BK.grow true
 (Md.cellsXM ex_0),Blk.mk BK.exact true [.str (bF hid (ex.take x_2))],aFo,Blk.mk BK.exact false (aN5 mkk ty sq ti ss t5 c5 n5 ex_0 pad pl)] x)∧Lf (sa.length=12)∧∀s_4:List UInt8,Lf (s_4=dN sa ss ix)→ckQ (dF
 [.str (bF hid (ex.take x_2))] [.str (bF hid (ex.take x_2))]&&true) (ckQ (dF [.str mk] [.str mk]&&true) (∀t_5:List UInt8,∀e_6:Int,Lf (iT mk s_4 0 s_3=Prod.mk t_5 e_6)→ckQ (aAh ex_0) (exI .i64
 (ex_0.length:Int) (fun n_7=>(∃x_8:Nat,Lf (x_8≤ex.length)∧aSo k sa mk hid x nx rs rt rk∧ds=ds∧aDb mkk ty sq ti ss t5 c5 n5 ex_0 pad pl∧aSb∧aFw∧Md.cellsXM ex_0=Md.cellsXM (bX hid (ex.take x_8) t_5++ex.drop
 x_8)∧[AV.str t_5]=[AV.str (vB hid x_8 ex t_5)]∧oP∧aDb mkk ty sq ti ss t5 c5 n5 ex_0 pad pl∧oP∧aDb mkk ty sq ti ss t5 c5 n5 ex_0 pad pl∧aN (AV.yld 1)∧aDl ex_0∧AV.int .i64 0=AV.int .i64 (x_8:Int)∧aN
 (AV.ptr 9 1 0)∧aCw n_7)∧∀x_8:Nat,Lf (x_8≤ex.length)→bif decide ((x_8:Int)<n_7) then exI .i64 (x_8:Int) (fun n_9=>ckQ (Nat.blt (x_8:Int).toNat ex_0.length&&aUl hid x_8 ex t_5 ex_0&&true) (ckQ (aUl hid
 x_8 ex t_5 ex_0&&Nat.ble (xX x_8+2) (2*ex_0.length)) (ckQ (Nat.beq (((Md.cellsXM (bX hid (ex.take x_8) t_5++ex.drop x_8)).drop (xX x_8)).take 2).length 2&&fJ (((Md.cellsXM (bX hid (ex.take x_8) t_5++ex.drop
 x_8)).drop (xX x_8)).take 2)&&true) (ckQ (Nat.beq (aTe x_8 hid ex t_5).length 2) (ckQ (Nat.beq (aTe x_8 hid ex t_5).length 2&&true) (exV IntKind.i64 ((((aTe x_8 hid ex t_5).drop 0).take 1).getD 0 AV.undef) (fun n_10=>∃xs_11
 : List Int,Lf (aC hid=aC xs_11∧hid.length=xs_11.length∧xs_11.length≤1000000)∧bif tK n_10 xs_11 then ckQ (decide (0≤n_9)&&Nat.blt n_9.toNat ex_0.length&&aUl hid x_8 ex t_5 ex_0&&true) (ckQ (aUl hid x_8 ex
 t_5 ex_0) (ckQ (aUl hid x_8 ex t_5 ex_0&&Nat.blt (0+n_9.toNat*2+1) (2*ex_0.length)) (exS ((((Md.cellsXM (bX hid (ex.take x_8) t_5++ex.drop x_8)).drop (0+n_9.toNat*2+1)).take 1).getD 0 AV.undef) (fun s_12=>exI
 IntKind.i64 (s_12.length:Int) (fun n_13=>exS (.str (vB hid x_8 ex t_5)) (fun s_14=>ckQ (decide (0≤n_13)&&true&&Nat.ble n_13.toNat s_14.length) (exS (.str ((s_14.drop 0).take (n_13.toNat-0))) (fun s_15=>exS (.str (vB
 hid x_8 ex t_5)) (fun s_16=>ckQ (decide (0≤n_13)&&true&&Nat.ble n_13.toNat s_16.length&&Nat.ble s_16.length s_16.length) (exS (.str ((s_16.drop n_13.toNat).take (s_16.length-n_13.toNat))) (fun s_17=>ckQ (decide (0≤n_9) &&
 Nat.blt n_9.toNat ex_0.length&&aUl hid x_8 ex t_5 ex_0&&true) (ckQ (aUl hid x_8 ex t_5 ex_0) (ckQ (aUl hid x_8 ex t_5 ex_0&&Nat.ble (0+n_9.toNat*2+1+1) (2*ex_0.length)&&true&&true&&true) (ckQ (dF [.str (vB
 hid x_8 ex t_5)] [.str (vB hid x_8 ex t_5)]&&true) (exW .i64 ((x_8:Int)+1) (fun n_18=>(aR 11 (aU1 k sa mk hid x nx rs rt rk)&&(aR 11 ds&&true))=true∧(aPx s_3 t_5 e_6 mkk ty sq ti ss t5 c5 n5 t6 ex pad pl
 mk ix ex_0 s_4∧(2:Nat)=(2:Nat))∧∃y_19:Nat,Lf (y_19≤ex.length)∧ex.length-y_19<ex.length-x_8∧aSo k sa mk hid x nx rs rt rk∧ds=ds∧aDb mkk ty sq ti ss t5 c5 n5 ex_0 pad pl∧aSb∧aFw∧aM (Md.cellsXM
 (bX hid (ex.take x_8) t_5++ex.drop x_8)) (0+n_9.toNat*2+1) [.str s_15]=Md.cellsXM (bX hid (ex.take y_19) t_5++ex.drop y_19)∧[AV.str s_17]=[AV.str (vB hid y_19 ex t_5)]∧oP∧aDb mkk ty sq ti ss t5 c5 n5 ex_0
 pad pl∧oP∧aDb mkk ty sq ti ss t5 c5 n5 ex_0 pad pl∧aN (AV.yld 1)∧aDl ex_0∧AV.int .i64 n_18=AV.int .i64 (y_19:Int)∧aN (AV.ptr 9 1 0)∧aCw n_7)))))))))))))))) else exW .i64 ((x_8:Int)+1) (fun n_12=>
 (aR 11 (aU1 k sa mk hid x nx rs rt rk)&&(aR 11 ds&&true))=true∧(aPx s_3 t_5 e_6 mkk ty sq ti ss t5 c5 n5 t6 ex pad pl mk ix ex_0 s_4∧(2:Nat)=(2:Nat))∧∃y_13:Nat,Lf (y_13≤ex.length)∧ex.length-y_13 <
 ex.length-x_8∧aSo k sa mk hid x nx rs rt rk∧ds=ds∧aDb mkk ty sq ti ss t5 c5 n5 ex_0 pad pl∧aSb∧aFw∧Md.cellsXM (bX hid (ex.take x_8) t_5++ex.drop x_8)=Md.cellsXM (bX hid (ex.take y_13) t_5++ex.drop y_13) ∧
 [AV.str (vB hid x_8 ex t_5)]=[AV.str (vB hid y_13 ex t_5)]∧oP∧aDb mkk ty sq ti ss t5 c5 n5 ex_0 pad pl∧oP∧aDb mkk ty sq ti ss t5 c5 n5 ex_0 pad pl∧aN (AV.yld 1)∧aDl ex_0∧AV.int .i64 n_12=AV.int .i64
 (y_13:Int)∧aN (AV.ptr 9 1 0)∧aCw n_7)))))))) else (aR 11 (aU1 k sa mk hid x nx rs rt rk)&&(aR 11 ds&&true))=true∧Q (.ret (.agg (aN5 mkk ty sq ti ss t5 c5 n5 ex_0 pad pl))) [Blk.mk BK.ro false (vJ k sa mk (aC
 hid) hid.length x nx rs rt rk),Blk.mk BK.ro false ds,Blk.mk BK.exact false (aN5 mkk ty sq ti ss t5 c5 n5 ex_0 pad pl),Blk.mk BK.exact false (aN5 mkk ty sq ti ss t5 c5 n5 ex_0 pad pl),Blk.mk BK.exact true [],Blk.mk BK.grow true
 (Md.cellsXM (bX hid (ex.take x_8) t_5++ex.drop x_8)),Blk.mk BK.exact true [.str (vB hid x_8 ex t_5)],aFo,Blk.mk BK.exact false (aN5 mkk ty sq ti ss t5 c5 n5 ex_0 pad pl),aFo,Blk.mk BK.exact false (aN5 mkk ty sq ti ss t5
 c5 n5 ex_0 pad pl)] (Gh.mk 0 2 [])))))))))):=by kernel_rfl

theorem bFr:∀s:List UInt8,eqB s s=true
 | []=>rfl
 | x::s=>by simp[eqB,bFr s]
mutual
theorem aBq:∀a:AV,iQ a a=true
 | .undef=>rfl
 | .opq i=>by simp[iQ]
 | .bool b=>by simp[iQ]
 | .int k a=>by simp[iQ]
 | .str a=>by rw[iQ,bFr]
 | .nilp=>rfl
 | .ptr a b c=>by simp[iQ]
 | .gptr a b=>by simp[iQ]
 | .nils=>rfl
 | .sl a b c d e=>by simp[iQ]
 | .nilf=>rfl
 | .fn f x y=>by simp[iQ,eO x,eO y]
 | .yld u=>by simp[iQ]
 | .nili=>rfl
 | .iface t v=>by simp[iQ,aBq v]
 | .agg l=>by rw[iQ];exact eO l
 | .tup l=>by rw[iQ];exact eO l
 | .lst t l n z=>by simp[iQ,eO l]
 | .lptr t l o=>by simp[iQ,eO l]
 | .mpn=>rfl
 | .mp i=>by simp[iQ]
theorem eO:∀l:List AV,dF l l=true
 | []=>rfl
 | a::l=>by rw[dF,aBq a,eO l];rfl
end
theorem ckF {l:List AV} {A:Prop} (k:A):bif dF l l&&true then A else False:=by rw[eO];exact k
theorem splitB {b:Bool} {p q:Prop} (h1:b=true→p) (h2:b=false→q):bif b then p else q:=by
 cases b
 ·exact h2 rfl
 ·exact h1 rfl
theorem bB1:∀ (L:List Md.Xt) (i:Nat),(Md.cellsXM L).drop (2*i)=Md.cellsXM (L.drop i)
 | L,0=>rfl
 | [],i+1=>by simp[Md.cellsXM]
 | x::L,i+1=>by
  have:=bB1 L i
  rw[Md.cellsXM,List.drop_succ_cons,←this,show 2*(i+1)=2*i+1+1 by omega,List.drop_succ_cons,List.drop_succ_cons]
theorem aKk {L:List Md.Xt} {i:Nat} (h:i<L.length):L.drop i=L.getD i (0,[])::L.drop (i+1):=by
 rw[List.drop_eq_getElem_cons h,List.getD_eq_getElem?_getD,List.getElem?_eq_getElem h];rfl
theorem bOc {L:List Md.Xt} {i:Nat} (h:i<L.length):((Md.cellsXM L).drop (0+(i:Int).toNat*2)).take 2=[.int .i64 (L.getD i (0,[])).1,.str (L.getD i (0,[])).2]:=by
 rw[show 0+(i:Int).toNat*2=2*i by omega,bB1,aKk h];rfl
theorem bOp {L:List Md.Xt} {i:Nat} (h:i<L.length):(((Md.cellsXM L).drop (0+(i:Int).toNat*2+1)).take 1).getD 0 AV.undef=.str (L.getD i (0,[])).2:=by
 rw[show 0+(i:Int).toNat*2+1=2*i+1 by omega,←List.drop_drop,bB1,aKk h];rfl
theorem stX (s:List UInt8):∀ (L:List Md.Xt) (i:Nat),i<L.length→aM (Md.cellsXM L) (2*i+1) [.str s]=Md.cellsXM (L.set i ((L.getD i (0,[])).1,s))
 | [],i,h=>by simp at h
 | x::L,0,_=>by
  cases L<;>rfl
 | x::L,i+1,h=>by
  have ih:=stX s L i (by simpa using h)
  rw[List.set_cons_succ,List.getD_cons_succ,Md.cellsXM,Md.cellsXM,←ih,show 2*(i+1)+1=(2*i+1)+1+1 by omega]
  rfl
theorem bPl (s:List UInt8) {L:List Md.Xt} {i:Nat} (h:i<L.length):aM (Md.cellsXM L) (0+(i:Int).toNat*2+1) [.str s]=Md.cellsXM (L.set i ((L.getD i (0,[])).1,s)):=by
 rw[show 0+(i:Int).toNat*2+1=2*i+1 by omega];exact stX s L i h
theorem bB5 {ex:List Md.Xt} {i:Nat} (h:i<ex.length):ex.take (i+1)=ex.take i++[ex.getD i (0,[])]:=by
 rw[List.take_add_one,List.getD_eq_getElem?_getD,List.getElem?_eq_getElem h];rfl
theorem bOl {hid:List Int} {ex:List Md.Xt} {i:Nat} (h:i<ex.length):bF hid (ex.take (i+1))=bF hid (ex.take i)++(if tK (ex.getD i (0,[])).1 hid=true then (ex.getD i (0,[])).2 else []):=by
 rw[bB5 h,yM,bF,bF,List.append_nil]
theorem aK4 {hid:List Int} (ex:List Md.Xt) (i:Nat):(bF hid (ex.take i)).length≤(bF hid ex).length:=by
 have e:bF hid ex=bF hid (ex.take i)++bF hid (ex.drop i):=by rw[←yM,List.take_append_drop]
 rw[e,List.length_append];omega
def yV (hid:List Int) (ex:List Md.Xt) (ks:List UInt8) (i:Nat):List Md.Xt:=bX hid (ex.take i) ks++ex.drop i
theorem aYt (hid:List Int) (ex:List Md.Xt) (ks:List UInt8) (i:Nat):(yV hid ex ks i).length=ex.length:=by
 rw[yV,List.length_append,qO,List.length_take,List.length_drop];omega
theorem bCb {hid:List Int} {ex:List Md.Xt} {ks:List UInt8} {i:Nat} (h:i<ex.length):(yV hid ex ks i).getD i (0,[])=ex.getD i (0,[]):=by
 have hl:(bX hid (ex.take i) ks).length=i:=by rw[qO,List.length_take];omega
 rw[yV,aKk h,List.getD_eq_getElem?_getD,List.getElem?_append_right (by omega),hl,Nat.sub_self];rfl
theorem bCq {hid:List Int} {ex:List Md.Xt} {ks:List UInt8} {i:Nat} (h:i<ex.length) (hm:tK (ex.getD i (0,[])).1 hid=true) :
  (yV hid ex ks i).set i ((ex.getD i (0,[])).1,(ks.drop (bF hid (ex.take i)).length).take (ex.getD i (0,[])).2.length)=yV hid ex ks (i+1):=by
 have hl:(bX hid (ex.take i) ks).length=i:=by rw[qO,List.length_take];omega
 rw[yV,yV,bB5 h,qX,List.set_append_right _ _ (by omega),hl,Nat.sub_self,aKk h,List.set_cons_zero,List.append_assoc,bX,if_pos hm]
 rfl
theorem aTr {hid:List Int} {ex:List Md.Xt} {ks:List UInt8} {i:Nat} (h:i<ex.length) (hm:¬ tK (ex.getD i (0,[])).1 hid=true):yV hid ex ks i=yV hid ex ks (i+1):=by
 rw[yV,yV,bB5 h,qX,bX,if_neg hm,List.append_assoc,aKk h]
 rfl
theorem aRb (k sa mk:List UInt8) (hid:List Int) (x:AV) (nx rs rt rk:Int) (ds:List AV) (t5 t6:Nat) (mkk:Bool) (ty sq ti ss:Int) (c5:List AV) (n5:Nat) (ex:List Md.Xt) (pad:Int) (pl:List UInt8) (ix:Int)
  (hsa:sa.length=12) (hmk:mk.length=32) (hh:hid.length≤1000000) (hex:ex.length≤1000000) (hc:(bF hid ex).length≤4096) (hx:old 2 x=true) (hd:aR 0 ds=true)
  (hX:∀tl,aIc (⟨.ro,false,vJ k sa mk (aC hid) hid.length x nx rs rt rk⟩::⟨.ro,false,ds⟩::tl) x) (Q:Out→List Blk→Gh→Prop)
  (hq:∀v H g,dG 0 H 9 v=.agg [.bool mkk,.int .i64 ty,.int .i64 sq,.int .i64 ti,.int .i64 ss,.lst t5 c5 n5 1,.lst 0 (Md.cellsXM (eB hid mk sa ss ix ex)) (eB hid mk sa ss ix ex).length 2,.int .i64 pad,.str pl]→Q (.ret v) H g) :
  ∃hv hb,aEn hv hb k sa mk hid x nx rs rt rk ds t5 t6 mkk ty sq ti ss c5 n5 ex pad pl ix Q:=by
 obtain ⟨hv,hb',e⟩:∃hv hb,aEn hv hb k sa mk hid x nx rs rt rk ds t5 t6 mkk ty sq ti ss c5 n5 ex pad pl ix Q=_:=⟨_,_,bNx k sa mk hid x nx rs rt rk ds t5 t6 mkk ty sq ti ss c5 n5 ex pad pl ix Q⟩
 refine ⟨hv,hb',e.mpr ?_⟩
 delta gP aSo aIr aD9 aSb oP aCw aU1 aY5 aWc aZj aFo aOy aAh aDb aFw aDl xX aTq bJ4 aN5 vB aUl aTe
 clear e
 have hox:aR 2 [x]=true:=by rw[aR,hx];rfl
 have ho:∀n,2≤n→(aR n [.str k,.str sa,.str mk,.lst 0 (aC hid) hid.length 1,x,.int .i64 nx,.int .i64 rs,.int .i64 rt,.int .u64 rk]&&(aR n ds&&true))=true:=fun n h=>by
  have h1:=bT h _ hox
  have h2:=bT (Nat.zero_le n) _ hd
  simp only[aR,Bool.and_true] at h1
  simp[aR,old,h1,h2]
 have hn:=kI hsa ss ix
 refine ⟨ex,⟨rfl,rfl,hex⟩, ?_, ?_⟩
 ·rintro ⟨h0⟩
  subst h0
  refine ⟨_,rfl,⟨0,⟨rfl⟩,rfl,rfl,rfl,rfl,rfl,rfl,rfl,rfl,rfl,rfl,rfl,rfl,trivial⟩, ?_⟩
  rintro i ⟨hi⟩
  refine aF (fun h=>absurd h (by omega)) (fun _=>⟨ho 7 (by omega),_,rfl,⟨hX _⟩,⟨hsa⟩, ?_⟩)
  rintro s4 ⟨h4⟩
  refine ckF ?_
  rintro t7 e6 ⟨h5⟩
  refine ⟨_,rfl,⟨0,⟨rfl⟩,rfl,rfl,rfl,rfl,rfl,rfl,rfl,rfl,rfl,rfl,rfl,rfl,rfl,rfl,trivial⟩, ?_⟩
  rintro j ⟨hj⟩
  exact aF (fun h=>absurd h (by omega)) (fun _=>⟨ho 9 (by omega),hq _ _ _ rfl⟩)
 ·rintro ⟨h1⟩
  have hlx:=jV ex
  refine ckI (by simp[hlx]) ⟨_,rfl,⟨0,⟨Nat.zero_le _⟩,rfl,rfl,rfl,rfl,rfl,rfl,rfl,rfl,rfl,rfl,rfl,rfl,rfl,rfl,trivial⟩, ?_⟩
  rintro i ⟨hi⟩
  refine aF (fun hlt=>⟨_,rfl, ?_⟩) (fun hge => ?_)
  ·have hi':i<ex.length:=by omega
   have hc1:=aK4 (hid:=hid) ex (i+1)
   have hcx:=bOl (hid:=hid) hi'
   have e2:=bOc hi'
   have e1:=bOp hi'
   generalize ex.getD i (0,[])=el at *
   rw[e2]
   refine ckI (by simp[hlx];omega) (ckI (by simp[hlx];omega) (ckI rfl (ckI rfl (ckI rfl ⟨_,rfl,hid,⟨rfl,rfl,hh⟩,splitB (fun hm => ?_) (fun hm => ?_)⟩))))
   ·rw[if_pos hm] at hcx
    refine ⟨_,rfl,ckI (by simp[hlx];omega) (ckI (by simp[hlx]) (ckI (by simp[hlx];omega) ⟨_,e1,ckI (by rw[hcx,List.length_append] at hc1;simp;omega) ⟨_,rfl,aI (by omega) (by omega) ⟨ho 9 (by omega),⟨rfl,rfl⟩,i+1,⟨by omega⟩,by omega,rfl,rfl,rfl,rfl,rfl,rfl,by rw[hcx],rfl,rfl,rfl,rfl,rfl,rfl,rfl,trivial⟩⟩⟩))⟩
   ·rw[if_neg (by simp[hm])] at hcx
    refine aI (by omega) (by omega) ⟨ho 9 (by omega),⟨rfl,rfl⟩,i+1,⟨by omega⟩,by omega,rfl,rfl,rfl,rfl,rfl,rfl,by rw[hcx,List.append_nil],rfl,rfl,rfl,rfl,rfl,rfl,rfl,trivial⟩
  ·obtain rfl:i=ex.length:=by omega
   refine ⟨ho 9 (by omega),_,rfl,⟨hX _⟩,⟨hsa⟩, ?_⟩
   rintro s4 ⟨rfl⟩
   refine ckF (ckF ?_)
   rintro t7 e6 ⟨h5⟩
   rw[List.take_length] at h5
   have ha:=aF2 (s:=bF hid ex) hmk hn hc
   have h5':=h5
   rw[ha] at h5'
   have hal:=kX (dS mk (dN sa ss ix)) 70 0 (bF hid ex) (by omega)
   have hl5:t7.length=(bF hid ex).length:=by rw[←hal,←(Prod.mk.inj h5').1]
   have hmx:eB hid mk sa ss ix ex=bX hid ex t7:=by rw[eB,h5]
   refine ckI (by simp[hlx]) ⟨_,rfl,⟨0,⟨Nat.zero_le _⟩,rfl,rfl,rfl,rfl,rfl,rfl,rfl,rfl,rfl,rfl,rfl,rfl,rfl,rfl,rfl,rfl,trivial⟩, ?_⟩
   rintro j ⟨hj⟩
   have hml:=aYt hid ex t7 j
   have hmc:=jV (yV hid ex t7 j)
   rw[hml] at hmc
   show bif decide ((j:Int)<(ex.length:Int)) then _ else _
   rw[show bX hid (ex.take j) t7++ex.drop j=yV hid ex t7 j from rfl]
   refine aF (fun hlt=>⟨_,rfl, ?_⟩) (fun hge => ?_)
   ·have hj':j<ex.length:=by omega
    have hj2:j<(yV hid ex t7 j).length:=by omega
    have hc1:=aK4 (hid:=hid) ex (j+1)
    have hcx:=bOl (hid:=hid) hj'
    have e2:=bOc hj2
    have e1:=bOp hj2
    have eg:=bCb (hid:=hid) (ks:=t7) hj'
    have es:=fun hm=>bCq (ks:=t7) (hid:=hid) hj' hm
    have est:=fun s=>bPl s hj2
    have esm:=fun hm=>aTr (ks:=t7) (hid:=hid) hj' hm
    rw[eg] at e2 e1
    simp only[eg] at est
    generalize ex.getD j (0,[])=el at *
    rw[e2]
    refine ckI (by simp[hmc];omega) (ckI (by simp[hmc];omega) (ckI rfl (ckI rfl (ckI rfl ⟨_,rfl,hid,⟨rfl,rfl,hh⟩,splitB (fun hm => ?_) (fun hm => ?_)⟩))))
    ·rw[if_pos hm] at hcx
     have hcl:(bF hid (ex.take j)).length+el.2.length≤(bF hid ex).length:=by rw[←List.length_append,←hcx];exact hc1
     have hdl:(t7.drop (bF hid (ex.take j)).length).length=(bF hid ex).length-(bF hid (ex.take j)).length:=by rw[List.length_drop,hl5]
     have est:=est ((t7.drop (bF hid (ex.take j)).length).take el.2.length)
     rw[es hm] at est
     refine ckI (by simp[hmc];omega) (ckI (by simp[hmc]) (ckI (by simp[hmc];omega) ⟨_,e1,_,rfl,_,rfl,ckI (by simp only[hdl];simp;omega) ⟨_,rfl,_,rfl,ckI (by simp only[hdl];simp;omega) ⟨_,rfl,ckI (by simp[hmc];omega) (ckI (by simp[hmc]) (ckI (by simp[hmc];omega) (ckF (aI (by omega) (by omega) ⟨ho 11 (by omega),⟨rfl,rfl⟩,j+1,⟨by omega⟩,by omega,rfl,rfl,rfl,rfl,rfl, ?_, ?_,rfl,rfl,rfl,rfl,rfl,rfl,rfl,rfl,rfl,trivial⟩))))⟩⟩⟩))
     ·rw[List.drop_zero,Int.toNat_natCast,Nat.sub_zero]
      exact est
     ·rw[hcx,List.length_append,←List.drop_drop,Int.toNat_natCast,List.take_of_length_le (by first | (simp;done) | (simp;omega))]
    ·rw[if_neg (by simp[hm]),List.append_nil] at hcx
     refine aI (by omega) (by omega) ⟨ho 11 (by omega),⟨rfl,rfl⟩,j+1,⟨by omega⟩,by omega,rfl,rfl,rfl,rfl,rfl, ?_,by rw[hcx],rfl,rfl,rfl,rfl,rfl,rfl,rfl,rfl,rfl,trivial⟩
     exact congrArg Md.cellsXM (esm (by simp[hm]))
   ·obtain rfl:j=ex.length:=by omega
    refine ⟨ho 11 (by omega),hq _ _ _ ?_⟩
    have em:yV hid ex t7 ex.length=bX hid ex t7:=by rw[yV,List.take_length,List.drop_length,List.append_nil]
    rw[hmx,←em,hml]
    have ef:∀ (H:List Blk),H[5]? = some ⟨.grow,true,Md.cellsXM (yV hid ex t7 ex.length)⟩→dG 0 H 8 (.sl 5 (2*ex.length) 0 ex.length 2)=.lst 0 (Md.cellsXM (yV hid ex t7 ex.length)) ex.length 2:=fun H hH=>
     Md.frz_sl (d:=6) hH hmc (by omega) (by simp) (Md.plain_cX _)
    show AV.agg [.bool mkk,.int .i64 ty,.int .i64 sq,.int .i64 ti,.int .i64 ss,.lst t5 c5 n5 1,dG 0 _ 8 (.sl 5 (2*ex.length) 0 ex.length 2),.int .i64 pad,.str pl]=_
    rw[ef _ rfl]
def aRn (rest:List AV) (k sa mk:List UInt8) (hl:List AV) (hn:Nat) (K:AV→Prop):Prop:=match rest with
 | [.agg [.bool mkk,.int .i64 ty,.int .i64 sq,.int .i64 ti,.int .i64 ss,.lst t5 c5 n5 1,.lst t6 c6 n6 2,.int .i64 pad,.str pl],.int .i64 ix]=>∃ (hid:List Int) (ex:List Md.Xt),Lf (hl=aC hid∧hn=hid.length∧c6=Md.cellsXM ex∧n6=ex.length∧hid.length≤1000000∧ex.length≤1000000∧(bF hid ex).length≤4096∧sa.length=12∧mk.length=32) ∧
   ∀ex':List Md.Xt,Lf (ex'=eB hid mk sa ss ix ex)→K (.agg [.bool mkk,.int .i64 ty,.int .i64 sq,.int .i64 ti,.int .i64 ss,.lst t5 c5 n5 1,.lst 0 (Md.cellsXM ex') ex'.length 2,.int .i64 pad,.str pl])
 | _=>False
theorem aL4:aG Tryz.prog gl0 65 (cbC aRn):=by
 refine aGs (enters_of (by kernel_rfl)) aQ 9 (fun v=>v) iF fun rest k sa mk hl hn x nx rs rt rk ds R _ _ hx hd hX hg => ?_
 unfold aRn at hg
 split at hg
 ·rename_i mkk ty sq ti ss t5 c5 n5 t6 c6 n6 pad pl ix _ _
  obtain ⟨hid,ex,⟨rfl,rfl,rfl,rfl,a1,a2,a3,a4,a5⟩,hq⟩:=hg
  obtain ⟨hv,hb',h⟩:=aRb k sa mk hid x nx rs rt rk ds t5 t6 mkk ty sq ti ss c5 n5 ex pad pl ix a4 a5 a1 a2 a3 hx hd hX (fun o H' _=>∃v,o=.ret v∧R (dG 0 H' 9 v)) (fun v H g e=>⟨v,rfl,by rw[e];exact hq _ ⟨rfl⟩⟩)
  exact ⟨_,1000,aY aZy _ hv hb',rfl,h⟩
 ·exact hg.elim
def lJ (s:List UInt8):Nat:=
 if (s.getD 0 0).toNat/16%2=1 then
  (if 12+4*((s.getD 0 0).toNat%16)+4≤s.length then 12+4*((s.getD 0 0).toNat%16)+4+4*((s.getD (12+4*((s.getD 0 0).toNat%16)+2) 0).toNat*256+(s.getD (12+4*((s.getD 0 0).toNat%16)+3) 0).toNat) else 12+4*((s.getD 0 0).toNat%16)+4)
 else 12+4*((s.getD 0 0).toNat%16)
def wF (c:UInt8):UInt8:=UInt8.ofNat (c.toNat-32*(c.toNat/32%2))
def bMl:Md.DecT:=(false,0,0,0,0,[],[],0,[],0)
def aG5 (s:List UInt8):Md.DecT×Nat×Int:=
 if s.length<12 then (bMl,0,7) else if s.length<lJ s+16 then (bMl,0,7) else
  if (Md.decM (wF (s.getD 0 0)::(s.take (lJ s)).drop 1)).2.2.2.2.2.2.2.2.2=0 then (Md.decM (wF (s.getD 0 0)::(s.take (lJ s)).drop 1),lJ s,0) else (bMl,0,5)
def bJx (mk:Bool) (ty sq ti ss:Int) (cs:List Int) (ex:List Md.Xt):List UInt8:=Md.putM 1 [Md.kindM mk ty]++Md.putM 2 [sq]++Md.putM 4 [ti,ss]++Md.putM 4 cs++Md.extHM ex
theorem bY (mk:Bool) (ty sq ti ss:Int) (cs:List Int) (ex:List Md.Xt) (pad:Int):Md.headM mk ty sq ti ss cs ex pad=Md.octM (Md.fstM cs ex.length pad) 0::bJx mk ty sq ti ss cs ex:=by
 simp[Md.headM,Md.headBM,bJx,Md.extHM,Md.putM,Md.beM]
theorem aFg {cs:List Int} {n:Nat} {pad:Int} (hc:cs.length≤15):(Md.octM (Md.fstM cs n pad) 0).toNat=128+cs.length+(if 0<pad then 32 else 0)+(if 0<n then 16 else 0):=by
 have e:Md.fstM cs n pad=((128+cs.length+(if 0<pad then 32 else 0)+(if 0<n then 16 else 0):Nat):Int):=by
  unfold Md.fstM
  split<;>split<;>omega
 rw[e,Md.oct_nat]
 split<;>split<;>omega
theorem aLv {cs:List Int} {n:Nat} {pad:Int} (hc:cs.length≤15):wF (Md.octM (Md.fstM cs n pad) 0)=Md.octM (Md.fstM cs n 0) 0:=by
 have h1:=aFg (n:=n) (pad:=pad) hc
 have h2:=aFg (n:=n) (pad:=0) hc
 refine UInt8.toNat_inj.1 ?_
 rw[h2,wF,UInt8.toNat_ofNat',h1,if_neg (show ¬ (0:Int)<0 by omega)]
 split<;>split<;>omega
theorem xG (mk:Bool) (ty sq ti ss:Int) (cs:List Int) (ex:List Md.Xt):(bJx mk ty sq ti ss cs ex).length=11+4*cs.length+(Md.extHM ex).length:=by
 unfold bJx
 simp only[List.length_append,Md.put_len,List.length_cons,List.length_nil]
 try omega
theorem wW {ex:List Md.Xt}:(Md.extHM ex).length=if ex.length=0 then 0 else 4+(Md.extPM ex).length:=by
 unfold Md.extHM
 split
 ·rfl
 ·simp only[List.length_append,Md.put_len,List.length_cons,List.length_nil]
theorem aLe {mk:Bool} {ty sq ti ss:Int} {cs:List Int} {ex:List Md.Xt} {pad:Int} (rest:List UInt8) (hc:cs.length≤15) (hx:(Md.extPM ex).length<262144) :
  lJ (Md.headM mk ty sq ti ss cs ex pad++rest)=(Md.headM mk ty sq ti ss cs ex pad).length:=by
 have h0:=aFg (n:=ex.length) (pad:=pad) hc
 have ht:=xG mk ty sq ti ss cs ex
 have hx2:=wW (ex:=ex)
 have h4:=Md.extP_len4 ex
 have hl:(Md.headM mk ty sq ti ss cs ex pad).length=12+4*cs.length+(Md.extHM ex).length:=by rw[bY,List.length_cons,ht];omega
 have hg:((Md.headM mk ty sq ti ss cs ex pad++rest).getD 0 0)=Md.octM (Md.fstM cs ex.length pad) 0:=by rw[bY];rfl
 unfold lJ
 rw[hg,h0,hl]
 by_cases hn:ex.length=0
 ·rw[if_neg (show ¬ 0<ex.length by omega),if_neg (by split<;>omega),hx2,if_pos hn]
  split<;>omega
 ·rw[if_pos (show 0<ex.length by omega),if_pos (by split<;>omega)]
  have e16:(128+cs.length+(if 0<pad then 32 else 0)+16)%16=cs.length:=by split<;>omega
  rw[e16]
  rw[if_neg hn] at hx2
  rw[if_pos (by rw[List.length_append,hl];omega),hx2]
  have es:∃a:List UInt8,a.length=12+4*cs.length∧Md.headM mk ty sq ti ss cs ex pad++rest=a++(Md.octM (Md.profM (Md.shortM ex)) 1::Md.octM (Md.profM (Md.shortM ex)) 0::Md.octM (((Md.extPM ex).length/4:Nat):Int) 1::Md.octM (((Md.extPM ex).length/4:Nat):Int) 0::(Md.extPM ex++rest)):=by
   refine ⟨Md.headBM mk ty sq ti ss cs ex.length pad,Md.head_len mk ty sq ti ss cs ex.length pad, ?_⟩
   rw[Md.headM,if_neg hn]
   simp[Md.putM,Md.beM]
  obtain ⟨a,ha,he⟩:=es
  have g:∀j,(Md.headM mk ty sq ti ss cs ex pad++rest).getD (12+4*cs.length+j) 0=(Md.octM (Md.profM (Md.shortM ex)) 1::Md.octM (Md.profM (Md.shortM ex)) 0::Md.octM (((Md.extPM ex).length/4:Nat):Int) 1::Md.octM (((Md.extPM ex).length/4:Nat):Int) 0::(Md.extPM ex++rest)).getD j 0:=fun j=>by
   rw[he,List.getD_eq_getElem?_getD,List.getD_eq_getElem?_getD,List.getElem?_append_right (by omega),show 12+4*cs.length+j-a.length=j by omega]
  rw[g 2,g 3]
  simp only[List.getD_cons_succ,List.getD_cons_zero]
  have v1:=Md.oct_val ((Md.extPM ex).length/4) 1
  have v0:=Md.oct_val ((Md.extPM ex).length/4) 0
  omega
theorem aSl {mk:Bool} {ty sq ti ss:Int} {cs:List Int} {ex:List Md.Xt} {pad:Int} {rest:List UInt8} (hr:Md.rightM ty sq ti ss cs ex 0=true) (hx:(Md.headM mk ty sq ti ss cs ex 0).length≤1200) (h16:16≤rest.length) :
  aG5 (Md.headM mk ty sq ti ss cs ex pad++rest)=((mk,ty,sq,ti,ss,cs,ex,0,[],0),(Md.headM mk ty sq ti ss cs ex pad).length,0):=by
 have hr':=hr
 rw[Md.rightM,Bool.and_eq_true,Md.flagsM,decide_eq_true_eq] at hr'
 have hc:cs.length≤15:=hr'.1.2.2.2.2.2.2.2.2.2.2.2.1
 have ht:=xG mk ty sq ti ss cs ex
 have hx2:=wW (ex:=ex)
 have hl:(Md.headM mk ty sq ti ss cs ex pad).length=12+4*cs.length+(Md.extHM ex).length:=by rw[bY,List.length_cons,ht];omega
 have hl0:(Md.headM mk ty sq ti ss cs ex 0).length=12+4*cs.length+(Md.extHM ex).length:=by rw[bY,List.length_cons,ht];omega
 have hxp:(Md.extPM ex).length<262144:=by
  by_cases hn:ex.length=0
  ·have:ex=[]:=List.length_eq_zero_iff.1 hn
   subst this
   decide
  ·rw[if_neg hn] at hx2;omega
 have hh:=aLe (mk:=mk) (ty:=ty) (sq:=sq) (ti:=ti) (ss:=ss) (pad:=pad) rest hc hxp
 have hg:((Md.headM mk ty sq ti ss cs ex pad++rest).getD 0 0)=Md.octM (Md.fstM cs ex.length pad) 0:=by rw[bY];rfl
 have hd:wF ((Md.headM mk ty sq ti ss cs ex pad++rest).getD 0 0)::((Md.headM mk ty sq ti ss cs ex pad++rest).take (lJ (Md.headM mk ty sq ti ss cs ex pad++rest))).drop 1=Md.encM mk ty sq ti ss cs ex 0 []:=by
  rw[hg,aLv hc,hh,List.take_left' rfl,bY,List.drop_succ_cons,List.drop_zero,Md.encM,bY]
  simp[Md.padM]
 have hdec:=Md.dec_enc (mk:=mk) (pl:=[]) hr (by rw[Md.encM];simp[Md.padM];exact hx)
 rw[aG5,hh,if_neg (by rw[List.length_append];omega),if_neg (by rw[List.length_append];omega)]
 rw[hh] at hd
 rw[hd,hdec,if_pos rfl]
theorem aBr:∀ {a b:List Md.Xt},lZ a=lZ b→Md.shortM a=Md.shortM b∧a.length=b.length
 | [],[],_=>⟨rfl,rfl⟩
 | [],_::_,h=>by simp[lZ] at h
 | _::_,[],h=>by simp[lZ] at h
 | x::a,y::b,h=>by
  simp only[lZ,List.map_cons,List.cons.injEq,Prod.mk.injEq] at h
  obtain ⟨⟨h1,h2⟩,h3⟩:=h
  obtain ⟨k1,k2⟩:=aBr (a:=a) (b:=b) h3
  refine ⟨?_,by rw[List.length_cons,List.length_cons,k2]⟩
  have e:Md.isLongM x=Md.isLongM y:=by unfold Md.isLongM;rw[h1,h2]
  have k1':a.any Md.isLongM=b.any Md.isLongM:=by
   have:=congrArg (!·) k1
   simpa [Md.shortM] using this
  simp only[Md.shortM,List.any_cons,e,k1']
theorem aHh:∀ {a b:List Md.Xt} (l:Int),lZ a=lZ b→Md.extsOkM l a=Md.extsOkM l b
 | [],[],_,_=>rfl
 | [],_::_,_,h=>by simp[lZ] at h
 | _::_,[],_,h=>by simp[lZ] at h
 | x::a,y::b,l,h=>by
  simp only[lZ,List.map_cons,List.cons.injEq,Prod.mk.injEq] at h
  obtain ⟨⟨h1,h2⟩,h3⟩:=h
  rw[Md.extsOkM,Md.extsOkM,h1,h2,aHh (a:=a) (b:=b) _ h3]
theorem aOg (sh:Bool):∀ {a b:List Md.Xt},lZ a=lZ b→(Md.extBM sh a).length=(Md.extBM sh b).length
 | [],[],_=>rfl
 | [],_::_,h=>by simp[lZ] at h
 | _::_,[],h=>by simp[lZ] at h
 | x::a,y::b,h=>by
  simp only[lZ,List.map_cons,List.cons.injEq,Prod.mk.injEq] at h
  obtain ⟨⟨h1,h2⟩,h3⟩:=h
  have ih:=aOg sh (a:=a) (b:=b) h3
  rw[Md.extBM,Md.extBM]
  simp only[List.length_append,h2,ih]
  split<;>simp[Md.put_len]
theorem zG {mk:Bool} {ty sq ti ss:Int} {cs:List Int} {a b:List Md.Xt} (pad:Int) (h:lZ a=lZ b) :
  (Md.headM mk ty sq ti ss cs a pad).length=(Md.headM mk ty sq ti ss cs b pad).length∧Md.rightM ty sq ti ss cs a pad=Md.rightM ty sq ti ss cs b pad∧a.length=b.length∧Md.headBM mk ty sq ti ss cs a.length pad=Md.headBM mk ty sq ti ss cs b.length pad:=by
 obtain ⟨h1,h2⟩:=aBr h
 have h3:=aOg (Md.shortM b) h
 have h4:(Md.extPM a).length=(Md.extPM b).length:=by
  rw[Md.extPM,Md.extPM,h1,List.length_append,List.length_append,Md.zerosM,Md.zerosM,List.length_replicate,List.length_replicate,h3]
 refine ⟨?_, ?_,h2,by rw[h2]⟩
 ·rw[Md.headM,Md.headM,List.length_append,List.length_append,h2,h4]
  congr 1
  split
  ·rfl
  ·simp only[List.length_append,Md.put_len,List.length_cons,List.length_nil,h4]
 ·rw[Md.rightM,Md.rightM,h2,aHh 0 h]
theorem aU9 {mk:Bool} {ty sq ti ss:Int} {cs:List Int} {a b:List Md.Xt} {pad:Int} {r pl:List UInt8} (h:a.length=b.length) :
  (Md.headM mk ty sq ti ss cs a pad++r).take 1++((Md.headM mk ty sq ti ss cs b 0).drop 1++pl)=Md.headM mk ty sq ti ss cs b pad++pl:=by
 rw[bY,bY,bY,h]
 simp
theorem vT {ty sq ti ss:Int} {cs:List Int} {ex:List Md.Xt} {pad:Int} (h:Md.rightM ty sq ti ss cs ex pad=true):Md.rightM ty sq ti ss cs ex 0=true:=by
 rw[Md.rightM,Bool.and_eq_true,Md.flagsM,decide_eq_true_eq] at h ⊢
 obtain ⟨⟨r1,r2,r3,r4,r5,r6,r7,r8,r9,r10,r11,r12,r13⟩,ho⟩:=h
 exact ⟨⟨r1,r2,r3,r4,r5,r6,r7,r8,r9,by omega,by omega,r12,r13⟩,ho⟩
theorem aBm (mk:Bool) (ty sq ti ss:Int) (cs:List Int) (ex:List Md.Xt) (pad pad':Int):(Md.headM mk ty sq ti ss cs ex pad).length=(Md.headM mk ty sq ti ss cs ex pad').length:=by
 rw[bY,bY,List.length_cons,List.length_cons]
def uS (mk:Bool) (ty sq ti ss:Int) (cs:List Int) (ex:List Md.Xt) (pad:Int) (pl key sa:List UInt8) (ix:Int):List UInt8:=
 Md.headM mk ty sq ti ss cs ex pad++(lM key (dN sa ss ix) (Md.headM mk ty sq ti ss cs ex pad) (pl++Md.padM pad)).1
theorem aC1 {mk:Bool} {ty sq ti ss:Int} {cs:List Int} {ex:List Md.Xt} {pad:Int} {pl key sa:List UInt8} {ix:Int} (h1:key.length=32) (h2:sa.length=12) (hr:Md.rightM ty sq ti ss cs ex pad=true) (hl:(Md.encM mk ty sq ti ss cs ex pad pl).length≤1184) :
  (uS mk ty sq ti ss cs ex pad pl key sa ix).length=(Md.encM mk ty sq ti ss cs ex pad pl).length+16 ∧
  aG5 (uS mk ty sq ti ss cs ex pad pl key sa ix)=((mk,ty,sq,ti,ss,cs,ex,0,[],0),(Md.headM mk ty sq ti ss cs ex pad).length,0) ∧
  (uS mk ty sq ti ss cs ex pad pl key sa ix).take (Md.headM mk ty sq ti ss cs ex pad).length=Md.headM mk ty sq ti ss cs ex pad ∧
  oH key (dN sa ss ix) (Md.headM mk ty sq ti ss cs ex pad) ((uS mk ty sq ti ss cs ex pad pl key sa ix).drop (Md.headM mk ty sq ti ss cs ex pad).length)=(pl++Md.padM pad,0):=by
 have hn:=kI h2 ss ix
 have hL:(Md.encM mk ty sq ti ss cs ex pad pl).length=(Md.headM mk ty sq ti ss cs ex pad).length+(pl++Md.padM pad).length:=by
  rw[Md.encM];simp only[List.length_append];omega
 have hs:=sM (key:=key) (no:=dN sa ss ix) (hd:=Md.headM mk ty sq ti ss cs ex pad) (pl:=pl++Md.padM pad) h1 hn (by omega) (by omega)
 have h0:=aBm mk ty sq ti ss cs ex pad 0
 refine ⟨by rw[uS,List.length_append,hs,hL];omega, ?_, ?_, ?_⟩
 ·exact aSl (vT hr) (by omega) (by rw[hs];omega)
 ·rw[uS,List.take_left' rfl]
 ·rw[uS,List.drop_left' rfl]
  exact aI7 h1 hn (by omega) (by omega)
theorem b15:∀x:Fin 256,x.1 &&& 15=x.1%16:=by decide +kernel
theorem b16:∀x:Fin 256,x.1 &&& 16=16*(x.1/16%2):=by decide +kernel
theorem bPn:∀x:Fin 256,x.1 &&& 223=x.1-32*(x.1/32%2):=by decide +kernel
theorem n15 {c:Nat} (h:c<256):c &&& 15=c%16:=b15 ⟨c,h⟩
theorem n16 {c:Nat} (h:c<256):c &&& 16=16*(c/16%2):=b16 ⟨c,h⟩
theorem n223 {c:Nat} (h:c<256):c &&& 223=c-32*(c/32%2):=bPn ⟨c,h⟩
theorem bNg {c m r:Nat} (hc:c<256) (h:c &&& m=r) (hr:r<256) {K:Int→Prop} (k:K (r:Nat)):exW .u8 (((((c:Int)%256).toNat &&& m:Nat)):Int) K:=by
 have e:(((c:Int)%256).toNat &&& m)=r:=by
  rw[show ((c:Int)%256).toNat=c by omega,h]
 rw[e]
 exact aWt (by omega) (by omega) k
def bDz:AV→AV
 | .tup [.agg l,a,b]=>.tup [.agg (nlL [0,0,0,0,0,1,2] l),a,b]
 | v=>v
theorem aYp (v:AV):wk v (bDz v):=by
 unfold bDz
 split
 ·exact aGo (gM (aCv (pI _ _)) (iP _))
 ·exact iF _
def bO9 (d:Md.DecT):List AV:=[.bool d.1,.int .i64 d.2.1,.int .i64 d.2.2.1,.int .i64 d.2.2.2.1,.int .i64 d.2.2.2.2.1,.lst 0 (aC d.2.2.2.2.2.1) d.2.2.2.2.2.1.length 1,.lst 0 (Md.cellsXM d.2.2.2.2.2.2.1) d.2.2.2.2.2.2.1.length 2,.int .i64 d.2.2.2.2.2.2.2.1,.str d.2.2.2.2.2.2.2.2.1]
def bOd (r:Md.DecT×Nat×Int):AV:=.tup [.agg (bO9 r.1),.int .i64 (r.2.1:Nat),.int .i64 r.2.2]
theorem aNd (s:List UInt8) (n:Nat) (h12:12≤n) (hs:12≤s.length) (hs2:s.length≤1000000) (hn:n≤1000000) (hh:lJ s=n) (Q:Out→List Blk→Gh→Prop) (hq:∀v H g,bDz (dG 0 H 9 v)=bOd (aG5 s)→Q (.ret v) H g):uB s (s.length:Int) (n:Int) Q:=by
 unfold uB
 delta aP2 bJ7 bHw bK0
 have hc:=(s.getD 0 0).toNat_lt
 refine ⟨rfl,aI (by omega) (by omega) (aF (fun h => ?_) (fun h => ?_))⟩
 ·refine hq _ _ _ ?_
  rw[aG5,if_neg (by omega),hh,if_pos (by omega)]
  rfl
 ·refine ckI (by simp;omega) ⟨_,rfl,bNg hc (n223 hc) (by omega) ⟨_,rfl,ckI (by simp;omega) ⟨_,rfl, ?_⟩⟩⟩
  refine ⟨[[toB (.int .u8 (((s.getD 0 0).toNat-32*((s.getD 0 0).toNat/32%2):Nat):Int))],(s.drop 1).take (n-1)],⟨rfl,rfl,by simp,by rw[aQn];simp;omega⟩, ?_⟩
  rintro x ⟨hx⟩
  have ex:x=wF (s.getD 0 0)::(s.take n).drop 1:=by
   rw[hx,aQn,List.singleton_append,List.drop_take]
   congr 1
  refine ckI (by rw[ex];simp;omega) ?_
  rintro mk ty sq ti ss cs ex' p y e ⟨hd⟩
  rw[ex] at hd
  refine aS (fun he => ?_) (fun he => ?_)
  ·refine hq _ _ _ ?_
   rw[aG5,if_neg (by omega),hh,if_neg (by omega),hd,if_neg he]
   rfl
  ·refine hq _ _ _ ?_
   have he':e=0:=he
   subst he'
   rw[aG5,if_neg (by omega),hh,if_neg (by omega),hd,if_pos rfl]
   rfl
theorem aZh (s:List UInt8) (hs2:s.length≤700000) (Q:Out→List Blk→Gh→Prop) (hq:∀v H g,bDz (dG 0 H 9 v)=bOd (aG5 s)→Q (.ret v) H g):∃hv hb,aEm hv hb s Q:=by
 obtain ⟨hv,hb',e⟩:∃hv hb,aEm hv hb s Q=_:=⟨_,_,bNq s Q⟩
 refine ⟨hv,hb',e.mpr ?_⟩
 delta aP2 bJ7 bK0 bHw
 clear e
 have e0:(UInt8.ofNat 0)=(0:UInt8):=rfl
 rw[e0]
 refine ⟨_,rfl,aF (fun h => ?_) (fun h => ?_)⟩
 ·refine hq _ _ _ ?_
  rw[aG5,if_pos (by omega)]
  rfl
 ·have hs:12≤s.length:=by omega
  have hc:=(s.getD 0 0).toNat_lt
  have hlen:∀n,lJ s=n→n=lJ s:=fun n h=>h.symm
  refine ckI (by simp;omega) ⟨_,rfl,bNg hc (n15 hc) (by omega) (aI (by omega) (by omega) (aI (by omega) (by omega) (aI (by omega) (by omega) (ckI (by simp;omega) ⟨_,rfl,bNg hc (n16 hc) (by omega) (aS (fun h16 => ?_) (fun h16 => ?_))⟩))))⟩
  ·have h1:(s.getD 0 0).toNat/16%2=1:=by omega
   refine aI (by omega) (by omega) ⟨_,rfl,aF (fun hl => ?_) (fun hl => ?_)⟩
   ·have hh:lJ s=12+4*((s.getD 0 0).toNat%16)+4+4*((s.getD (12+4*((s.getD 0 0).toNat%16)+2) 0).toNat*256+(s.getD (12+4*((s.getD 0 0).toNat%16)+3) 0).toNat):=by
     rw[lJ,if_pos h1,if_pos (by omega)]
    have hc2:=(s.getD (12+4*((s.getD 0 0).toNat%16)+2) 0).toNat_lt
    have hc3:=(s.getD (12+4*((s.getD 0 0).toNat%16)+3) 0).toNat_lt
    generalize hz:(s.getD 0 0).toNat%16=z at *
    refine aI (by omega) (by omega) (ckI (by simp;omega) ⟨_,rfl, ?_⟩)
    rw[show ((12+4*(z:Int)+4-2).toNat)=12+4*z+2 by omega]
    generalize (s.getD (12+4*z+2) 0).toNat=a at *
    refine aI (by omega) (by omega) (aI (by omega) (by omega) (aI (by omega) (by omega) (ckI (by simp;omega) ⟨_,rfl, ?_⟩)))
    rw[show ((12+4*(z:Int)+4-1).toNat)=12+4*z+3 by omega]
    generalize (s.getD (12+4*z+3) 0).toNat=b at *
    refine aI (by omega) (by omega) ?_
    have eo:((((a:Int)*256)%18446744073709551616).toNat ||| (((b:Nat):Int)%18446744073709551616).toNat)=a*256+b:=by
     rw[show (((a:Int)*256)%18446744073709551616).toNat=a*256 by omega,show (((b:Nat):Int)%18446744073709551616).toNat=b by omega]
     exact Md.or256 hc3
    try dsimp only
    rw[eo]
    refine aI (by omega) (by omega) (aI (by omega) (by omega) (aI (by omega) (by omega) ⟨(s.length:Int), ?_⟩))
    have:=aNd s (12+4*z+4+4*(a*256+b)) (by omega) hs (by omega) (by omega) hh Q hq
    rw[show ((12+4*z+4+4*(a*256+b):Nat):Int)=12+4*(z:Int)+4+4*((a*256+b:Nat):Int) by omega] at this
    exact this
   ·have hh:lJ s=12+4*((s.getD 0 0).toNat%16)+4:=by
     rw[lJ,if_pos h1,if_neg (by omega)]
    refine ⟨(s.length:Int), ?_⟩
    have:=aNd s (12+4*((s.getD 0 0).toNat%16)+4) (by omega) hs (by omega) (by omega) hh Q hq
    rw[show ((12+4*((s.getD 0 0).toNat%16)+4:Nat):Int)=12+4*(((s.getD 0 0).toNat%16:Nat):Int)+4 by omega] at this
    exact this
  ·have h1:(s.getD 0 0).toNat/16%2≠1:=fun h=>by
    have:((16*((s.getD 0 0).toNat/16%2):Nat):Int)=0:=h16
    omega
   have hh:lJ s=12+4*((s.getD 0 0).toNat%16):=by rw[lJ,if_neg h1]
   refine ⟨(s.length:Int), ?_⟩
   have:=aNd s (12+4*((s.getD 0 0).toNat%16)) (by omega) hs (by omega) (by omega) hh Q hq
   rw[show ((12+4*((s.getD 0 0).toNat%16):Nat):Int)=12+4*(((s.getD 0 0).toNat%16:Nat):Int) by omega] at this
   exact this
def bNv:Con
 | [.str s],H,K=>Lf (s.length≤700000)∧∀ (mk:Bool) (ty sq ti ss:Int) (cs:List Int) (ex:List Md.Xt) (pad:Int) (pl:List UInt8) (x:Int) (n:Nat) (e:Int),Lf (aG5 s=((mk,ty,sq,ti,ss,cs,ex,pad,pl,x),n,e)) →
   K (.ret (.tup [.agg [.bool mk,.int .i64 ty,.int .i64 sq,.int .i64 ti,.int .i64 ss,.lst 0 (aC cs) cs.length 1,.lst 0 (Md.cellsXM ex) ex.length 2,.int .i64 pad,.str pl],.int .i64 (n:Nat),.int .i64 e])) H
 | _,_,_=>False
theorem bGf:aG Tryz.prog gl0 80 bNv:=by
 refine iG (enters_of (by kernel_rfl)) aQ 9 bDz aYp fun args H Q hc => ?_
 unfold bNv at hc
 split at hc
 ·rename_i s
  obtain ⟨⟨h1⟩,hq⟩:=hc
  obtain ⟨hv,hb',h⟩:=aZh s h1 (fun o H' _=>∃v,o=.ret v∧Q (.ret (bDz (dG 0 H' 9 v))) H) (fun v H' g ho=>⟨v,rfl,by
   rw[ho]
   rcases hr:aG5 s with ⟨⟨mk,ty,sq,ti,ss,cs,ex,pad,pl,x⟩,n,e⟩
   exact hq mk ty sq ti ss cs ex pad pl x n e ⟨hr⟩⟩)
  exact ⟨rfl,rfl,_,1000,aY aZp (fun _=>none) hv hb',rfl,h⟩
 ·exact hc.elim
end Go.Proofs.YtnhechnaemmdiaaGreatDoor
