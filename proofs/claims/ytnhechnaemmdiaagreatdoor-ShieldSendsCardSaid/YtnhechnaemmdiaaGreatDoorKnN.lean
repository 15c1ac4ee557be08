/-
  Chapter 25: extensions are hidden: residual.
-/
import Derived.Test.YtnhechnaemmdiaaGreatDoorKnM
import Derived.Test.YtnhechnaemmdiaaGreatDoorKnE
set_option linter.unusedSimpArgs false
set_option linter.unusedVariables false
set_option linter.unusedSectionVars false
namespace Go.Proofs.YtnhechnaemmdiaaGreatDoor
open Go.RowKit
set_option maxRecDepth 1000000

def bF8(hid:QT)(ex:List Md.Xt)(z:S):List (List LInv):=match z.tm.get 7,z.hp with
 | .lst _ _ _ _,hp=>[[{ α:=Nat,pre:=λi=>Lf (i=0),st:=λi=>⟨mkT [(0,z.tm.get 0),(2,z.tm.get 2),(7,z.tm.get 7),(8,z.tm.get 8),(9,.int .i64 0)],hp⟩,mu:=λi=>0 }]]
 | .sl _ _ _ _ _,[c,d,p,zr,f,e,da,cp,pc]=>[[{ α:=Nat,pre:=λi=>Lf (i<=ex.length),st:=λi=>⟨mkT [(0,z.tm.get 0),(2,z.tm.get 2),(7,z.tm.get 7),(8,z.tm.get 8),(9,.int .i64 (i:Nat))],[c,d,p,zr,f,e,⟨.exact,true,[.str (bZ hid (ex.take i))]⟩,cp,pc]⟩,mu:=λi=>ex.length-i }]]
 | .sl _ _ _ _ _,[c,d,p,zr,f,e,⟨_,_,[.str ks]⟩,cp,pc,cp2,pc2]=>[[{ α:=Nat,pre:=λi=>Lf (i<=ex.length),st:=λi=>⟨mkT [(0,z.tm.get 0),(2,z.tm.get 2),(7,z.tm.get 7),(8,z.tm.get 8),(9,.int .i64 (i:Nat))],[c,d,p,zr,f,⟨.grow,true,Md.cellsXM (eX hid (ex.take i) ks++ex.drop i)⟩,⟨.exact,true,[.str (ks.drop (bZ hid (ex.take i)).length)]⟩,cp,pc,cp2,pc2]⟩,mu:=λi=>ex.length-i }]]
 | _,_=>[]
def bWh:SM:=gG [(67,cbC aEx),(115,bUh),(117,aFb),(161,bPa)]
theorem bJ0:∀f g,bWh f=some g->aI Tryz.prog gl0 f g:=bO _ (by simp only[bXd,bXn,bY0,bYd,bY4];exact⟨aBa,bMr,uD,bQb⟩)
noncomputable def bC0(hv:LI)(hb:LB)(hid:QT)(ex:List Md.Xt):Env:=e04 bWh (λi=>bif Nat.beq i 160000 then some (bF8 hid ex)else none) hv hb
noncomputable def aHl(hv:LI)(hb:LB)(k sa mk:LA)(hid:QT)(x:AV)(nx rs rt rk:Int)(ds:HB)(t5 t6:Nat)(mkk:Bool)(ty sq ti ss:Int)(c5:HB)(n5:Nat)(ex:List Md.Xt)(pad:Int)(pl:LA)(ix:Int)(Q:BS):Prop:=
 aT (bC0 hv hb hid ex) (wpx (bC0 hv hb hid ex) 1000) 65 [.ptr 0 9 0,.agg [.bool mkk,.int .i64 ty,.int .i64 sq,.int .i64 ti,.int .i64 ss,.lst t5 c5 n5 1,.lst t6 (Md.cellsXM ex) ex.length 2,.int .i64 pad,.str pl],.int .i64 ix] [⟨.ro,false,zJ k sa mk (aA hid) hid.length x nx rs rt rk⟩,⟨.ro,false,ds⟩] {} Q
abbrev iA(e_6:Int):AV:=.int .i64 e_6
abbrev bP9:AV:=.fn (Fn.func 160) [] [.ptr 8 9 0,.ptr 7 1 0]
abbrev bRd(ex_0:List Md.Xt):AV:=.sl 5 (2*ex_0.length) 0 ex_0.length 2
abbrev aUc(mkk:Bool)(ty sq ti ss:Int)(t5:Nat)(c5:HB)(n5:Nat)(ex_0:List Md.Xt)(pad:Int)(pl:LA):HB:=[.bool mkk,iA ty,iA sq,iA ti,iA ss,.lst t5 c5 n5 1,bRd ex_0,iA pad,.str pl]
def aP7(s_3:LA)(t_5:LA)(e_6:Int)(mkk:Bool)(ty:Int)(sq:Int)(ti:Int)(ss:Int)(t5:Nat)(c5:HB)(n5:Nat)(t6:Nat)(ex:List Md.Xt)(pad:Int)(pl:LA)(mk:LA)(ix:Int)(ex_0:List Md.Xt)(s_4:LA):Prop:=
aK [Lp.mk 1 (T.n (T.n (T.n (T.n (T.n (T.n T.e (.ptr 0 9 0) T.e) (.ptr 0 9 0) T.e) (.ptr 6 1 0) (T.n (T.n T.e (.str s_3) T.e) .undef T.e)) .undef (T.n (T.n (T.n T.e (.ptr 2 9 4) T.e) .undef T.e) (.ptr 2 9 6) (T.n (T.n T.e (.ptr 0 9 0) T.e) (.tup [.str t_5,iA e_6]) T.e))) (.agg [.bool mkk,iA ty,iA sq,iA ti,iA ss,.lst t5 c5 n5 1,.lst t6 (Md.cellsXM ex) ex.length 2,iA pad,.str pl]) (T.n (T.n (T.n (T.n T.e (.str mk) T.e) bP9 T.e) .undef (T.n (T.n T.e (.str t_5) T.e) .undef T.e)) .undef (T.n (T.n (T.n T.e (iA ix) T.e) .undef T.e) (bRd ex_0) (T.n (T.n T.e (.fn (Fn.func 160) [] [.ptr 10 9 0,.ptr 9 1 0]) T.e) (.ptr 0 9 0) T.e)))) (.ptr 0 9 0) (T.n (T.n (T.n (T.n (T.n T.e (.ptr 0 9 2) T.e) (.agg (aUc mkk ty sq ti ss t5 c5 n5 ex_0 pad pl)) T.e) .undef (T.n (T.n T.e (.tup [.str t_5,iA e_6]) T.e) .undef T.e)) (.ptr 2 9 0) (T.n (T.n (T.n T.e (iA ss) T.e) .undef T.e) (.lst t6 (Md.cellsXM ex) ex.length 2) (T.n (T.n T.e (.agg (aUc mkk ty sq ti ss t5 c5 n5 ex_0 pad pl)) T.e) (.ptr 0 9 0) T.e))) (iA ix) (T.n (T.n (T.n (T.n T.e (.ptr 0 9 0) T.e) .undef T.e) .undef (T.n (T.n T.e (iA e_6) T.e) .undef T.e)) (.ptr 3 9 0) (T.n (T.n (T.n T.e (.str s_4) T.e) .undef T.e) (.ptr 2 9 6) (T.n T.e (.ptr 0 9 0) T.e))))) [46] (AC.region [AOper.mk (Option.some (9:Nat)) (AOp.mv (AO.t 46)) Option.none 0 0]) (AC.block 3 (AC.seq (AC.region [AOper.mk (Option.some (47:Nat)) (AOp.fa 6 (AO.t 4)) Option.none 0 0,AOper.mk (Option.some (48:Nat)) (AOp.ld false 1 (AO.t 47)) Option.none 0 0,AOper.mk (Option.some (49:Nat)) (AOp.mv (AO.t 9)) Option.none 0 0,AOper.mk (Option.some (50:Nat)) (AOp.iaL 2 (AO.t 48) (AO.t 49)) Option.none 0 0,AOper.mk (Option.some (51:Nat)) (AOp.fa 1 (AO.t 50)) Option.none 0 0,AOper.mk (Option.some (52:Nat)) (AOp.ld false 1 (AO.t 51)) Option.none 0 0,AOper.mk (Option.some (53:Nat)) (AOp.lenS (AO.t 52)) Option.none 0 0,AOper.mk (Option.some (10:Nat)) (AOp.mv (AO.t 53)) Option.none 0 0]) (AC.drawn [AOper.mk (Option.some (54:Nat)) (AOp.fa 6 (AO.t 4)) Option.none 0 0,AOper.mk (Option.some (55:Nat)) (AOp.ld false 1 (AO.t 54)) Option.none 1 1,AOper.mk (Option.some (56:Nat)) (AOp.mv (AO.t 9)) Option.none 2 0,AOper.mk (Option.some (57:Nat)) (AOp.ld false 1 (AO.t 7)) Option.none 3 0,AOper.mk (Option.some (58:Nat)) (AOp.mv (AO.t 10)) Option.none 4 0,AOper.mk (Option.some (59:Nat)) (AOp.slS (AO.t 57) Option.none (Option.some (AO.t 58))) Option.none 5 24,AOper.mk (Option.some (60:Nat)) (AOp.ld false 1 (AO.t 7)) Option.none 6 0,AOper.mk (Option.some (61:Nat)) (AOp.mv (AO.t 10)) Option.none 7 0,AOper.mk (Option.some (62:Nat)) (AOp.slS (AO.t 60) (Option.some (AO.t 61)) Option.none) Option.none 8 192,AOper.mk (Option.some (63:Nat)) (AOp.iaL 2 (AO.t 55) (AO.t 56)) Option.none 9 63,AOper.mk (Option.some (64:Nat)) (AOp.fa 1 (AO.t 63)) Option.none 10 575,AOper.mk Option.none (AOp.st 1 (AO.t 64) (AO.t 59)) Option.none 11 1599,AOper.mk Option.none (AOp.st 1 (AO.t 7) (AO.t 62)) Option.none 12 4095]))) Lst.ready 65]
def aPj(mkk:Bool)(ty:Int)(sq:Int)(ti:Int)(ss:Int)(t5:Nat)(c5:HB)(n5:Nat)(t6:Nat)(ex:List Md.Xt)(pad:Int)(pl:LA)(ex_0:List Md.Xt)(ix:Int):Prop:=
aK [Lp.mk 0 (T.n (T.n (T.n (T.n (T.n T.e (.ptr 0 9 0) T.e) (.ptr 6 1 0) T.e) .undef (T.n T.e (.ptr 2 9 6) T.e)) (.agg [.bool mkk,iA ty,iA sq,iA ti,iA ss,.lst t5 c5 n5 1,.lst t6 (Md.cellsXM ex) ex.length 2,iA pad,.str pl]) (T.n (T.n (T.n T.e bP9 T.e) .undef T.e) .undef (T.n T.e (bRd ex_0) T.e))) (.ptr 0 9 0) (T.n (T.n (T.n (T.n T.e (.agg (aUc mkk ty sq ti ss t5 c5 n5 ex_0 pad pl)) T.e) .undef T.e) (.ptr 2 9 0) (T.n T.e (.lst t6 (Md.cellsXM ex) ex.length 2) T.e)) (iA ix) (T.n T.e (.ptr 3 9 0) (T.n T.e (.ptr 2 9 6) T.e)))) [18] (AC.region [AOper.mk (Option.some (8:Nat)) (AOp.mv (AO.t 18)) Option.none 0 0]) (AC.block 1 (AC.drawn [AOper.mk (Option.some (19:Nat)) (AOp.ld false 1 (AO.t 7)) Option.none 0 0,AOper.mk (Option.some (20:Nat)) (AOp.fa 6 (AO.t 4)) Option.none 1 0,AOper.mk (Option.some (21:Nat)) (AOp.ld false 1 (AO.t 20)) Option.none 2 2,AOper.mk (Option.some (22:Nat)) (AOp.mv (AO.t 8)) Option.none 3 0,AOper.mk (Option.some (23:Nat)) (AOp.iaL 2 (AO.t 21) (AO.t 22)) Option.none 4 14,AOper.mk (Option.some (24:Nat)) (AOp.fa 1 (AO.t 23)) Option.none 5 30,AOper.mk (Option.some (25:Nat)) (AOp.ld false 1 (AO.t 24)) Option.none 6 62,AOper.mk (Option.some (26:Nat)) (AOp.bin Go.BinOp.add Sh.st (AO.t 19) (AO.t 25)) Option.none 7 127,AOper.mk Option.none (AOp.st 1 (AO.t 7) (AO.t 26)) Option.none 8 255])) Lst.ready 65]
abbrev aWv(k sa mk:LA)(hid:QT)(x:AV)(nx rs rt rk:Int):Prop:=aK [AV.str k,.str sa,.str mk,.lst 0 (aA hid) hid.length 1,x,iA nx,iA rs,iA rt,.int .u64 rk]
abbrev aL6(mkk:Bool)(ty sq ti ss:Int)(t5:Nat)(c5:HB)(n5:Nat)(pad:Int)(pl:LA):Prop:=aK [AV.bool mkk,iA ty,iA sq,iA ti,iA ss,.lst t5 c5 n5 1,.lst 0 [] 0 2,iA pad,.str pl]
abbrev aJp:AV:=.int .i64 0
abbrev aYu:Prop:=aK [AV.bool false,aJp,aJp,aJp,aJp,.nils,.nils,aJp,.str []]
abbrev qP:Prop:=aK [AV.ptr 0 9 0]
abbrev aF8(n_1:Int):Prop:=aK (AV.int .i64 n_1)∧True
abbrev aYq(k sa mk:LA)(hid:QT)(x:AV)(nx rs rt rk:Int):HB:=[.str k,.str sa,.str mk,.lst 0 (aA hid) hid.length 1,x,iA nx,iA rs,iA rt,.int .u64 rk]
abbrev bIi(mkk:Bool)(ty sq ti ss:Int)(t5:Nat)(c5:HB)(n5:Nat)(pad:Int)(pl:LA):Blk:=Blk.mk BK.exact true [.bool mkk,iA ty,iA sq,iA ti,iA ss,.lst t5 c5 n5 1,.lst 0 [] 0 2,iA pad,.str pl]
abbrev bC9:AV:=aJp
abbrev bIy:Blk:=Blk.mk BK.exact true [.bool false,bC9,bC9,bC9,bC9,.nils,.nils,bC9,.str []]
abbrev aHp:Blk:=Blk.mk BK.exact false [.ptr 0 9 0]
abbrev aSs:Prop:=aK (AV.ptr 7 1 0)
abbrev aEs(ex_0:List Md.Xt):Bool:=Nat.beq (Md.cellsXM ex_0).length (2*ex_0.length)
abbrev aGf(mkk:Bool)(ty sq ti ss:Int)(t5:Nat)(c5:HB)(n5:Nat)(ex_0:List Md.Xt)(pad:Int)(pl:LA):Prop:=aK [AV.bool mkk,iA ty,iA sq,iA ti,iA ss,.lst t5 c5 n5 1,.sl 5 (2*ex_0.length) 0 ex_0.length 2,iA pad,.str pl]
abbrev aHh:Prop:=([]:HB)=[]
abbrev aJf(ex_0:List Md.Xt):Prop:=aK (AV.sl 5 (2*ex_0.length) 0 ex_0.length 2)
abbrev aBi(x_2:Nat):Nat:=0+(x_2:Int).toNat*2
abbrev aXm(x_2:Nat)(ex_0:List Md.Xt):HB:=aN [bC9,.str []] 0 (((Md.cellsXM ex_0).drop (aBi x_2)).take 2)
abbrev yX(hid:QT)(x_8:Nat)(ex:List Md.Xt)(t_5:LA):LA:=t_5.drop (bZ hid (ex.take x_8)).length
abbrev aXq(hid:QT)(x_8:Nat)(ex:List Md.Xt)(t_5:LA)(ex_0:List Md.Xt):Bool:=Nat.beq (Md.cellsXM (eX hid (ex.take x_8) t_5++ex.drop x_8)).length (2*ex_0.length)
abbrev aWt(x_8:Nat)(hid:QT)(ex:List Md.Xt)(t_5:LA):HB:=aN [bC9,.str []] 0 (((Md.cellsXM (eX hid (ex.take x_8) t_5++ex.drop x_8)).drop (aBi x_8)).take 2)
theorem bSu(k:LA)(sa:LA)(mk:LA)(hid:QT)(x:AV)(nx:Int)(rs:Int)(rt:Int)(rk:Int)(ds:HB)(t5:Nat)(t6:Nat)(mkk:Bool)(ty:Int)(sq:Int)(ti:Int)(ss:Int)(c5 :
 HB) (n5:Nat) (ex:List Md.Xt) (pad:Int) (pl:LA) (ix:Int) (Q:BS):aHl (aW [(655368,.int .i64),(655371,.int .i64),(655380,.int .i64),(266259,.str),(266265,.str),(266266,
 .str),(655388,.int .i64),(266279,.str),(266292,.str),(266293,.int .i64),(266297,.str),(266299,.str),(266300,.str),(266302,.str)]) (aV [(659454,true),(270334,false),(1655360000,true)]) k sa mk hid x nx rs rt rk ds t5
 t6 mkk ty sq ti ss c5 n5 ex pad pl ix Q=(∃ex_0:List Md.Xt,Lf (Md.cellsXM ex=Md.cellsXM ex_0∧ex.length=ex_0.length∧ex_0.length<=1000000)∧(Lf (ex_0=[])->exI .i64 0 (λn_1=>(∃x_2:Nat,Lf (x_2=0)∧aWv k sa
 mk hid x nx rs rt rk∧ds=ds∧aL6 mkk ty sq ti ss t5 c5 n5 pad pl∧aYu∧aK [AV.str []]∧qP∧aL6 mkk ty sq ti ss t5 c5 n5 pad pl∧aK (AV.yld 0)∧aK (AV.lst 0 [] 0 2)∧aK (AV.int .i64 0)∧aK (AV.ptr 5 1 0) ∧
 aF8 n_1)∧∀x_2:Nat,Lf (x_2=0)->bif decide (0<n_1)then exI .i64 0 (λn_3=>False)else(aP 7 (aYq k sa mk hid x nx rs rt rk)&&(aP 7 ds&&true))=true∧exS (.str []) (λs_3=>Lf (aF2 [Blk.mk BK.ro false
 (zJ k sa mk (aA hid) hid.length x nx rs rt rk),Blk.mk BK.ro false ds,bIi mkk ty sq ti ss t5 c5 n5 pad pl,bIy,Blk.mk BK.exact true [.str []],aHp,bIi mkk ty sq ti ss t5 c5 n5 pad pl] x)∧Lf (sa.length=12)∧∀s_4:List
 UInt8,Lf (s_4=fM sa ss ix)->ckQ (dE [.str mk] [.str mk]&&true) (∀t_5:LA,∀e_6:Int,Lf (iG mk s_4 0 s_3=Prod.mk t_5 e_6)->exI .i64 0 (λn_7=>(∃x_8:Nat,Lf (x_8=0)∧aWv k sa mk hid x nx rs
 rt rk∧ds=ds∧aL6 mkk ty sq ti ss t5 c5 n5 pad pl∧aYu∧aK [AV.str t_5]∧qP∧aL6 mkk ty sq ti ss t5 c5 n5 pad pl∧qP∧aL6 mkk ty sq ti ss t5 c5 n5 pad pl∧aK (AV.yld 1)∧aK (AV.lst 0 [] 0 2)∧aK (AV.int
 .i64 0)∧aSs∧aK (AV.int .i64 n_7)∧True)∧∀x_8:Nat,Lf (x_8=0)->bif decide (0<n_7)then exI .i64 0 (λn_9=>False)else(aP 9 (aYq k sa mk hid x nx rs rt rk)&&(aP 9 ds&&true))=true∧Q (.ret
 (.agg [.bool mkk,iA ty,iA sq,iA ti,iA ss,.lst t5 c5 n5 1,.lst 0 [] 0 2,iA pad,.str pl])) [Blk.mk BK.ro false (zJ k sa mk (aA hid) hid.length x nx rs rt rk),Blk.mk BK.ro false ds,bIi mkk ty sq ti ss t5 c5 n5 pad
 pl,bIi mkk ty sq ti ss t5 c5 n5 pad pl,Blk.mk BK.exact true [.str t_5],aHp,bIi mkk ty sq ti ss t5 c5 n5 pad pl,aHp,bIi mkk ty sq ti ss t5 c5 n5 pad pl] (Gh.mk 0 2 []))))))∧(Lf (1<=ex_0.length)->ckQ (aEs ex_0) (exI
 IntKind.i64 (ex_0.length:Int) (λn_1=>(∃x_2:Nat,Lf (x_2<=ex.length)∧aWv k sa mk hid x nx rs rt rk∧ds=ds∧aGf mkk ty sq ti ss t5 c5 n5 ex_0 pad pl∧aYu∧aHh∧aK (Md.cellsXM ex_0)∧[AV.str []]=[AV.str (bZ
 hid (ex.take x_2))]∧qP∧aGf mkk ty sq ti ss t5 c5 n5 ex_0 pad pl∧aK (AV.yld 0)∧aJf ex_0∧AV.int .i64 0=AV.int .i64 (x_2:Int)∧aSs∧aF8 n_1)∧∀x_2:Nat,Lf (x_2<=ex.length)->bif decide ((x_2:Int)<n_1)then
 exI .i64 (x_2:Int) (λn_3=>ckQ (Nat.blt (x_2:Int).toNat ex_0.length&&aEs ex_0&&true) (ckQ (aEs ex_0&&Nat.ble (aBi x_2+2) (2*ex_0.length)) (ckQ (Nat.beq (((Md.cellsXM ex_0).drop (aBi x_2)).take 2).length 2
 && eH (((Md.cellsXM ex_0).drop (aBi x_2)).take 2)&&true) (ckQ (Nat.beq (aXm x_2 ex_0).length 2) (ckQ (Nat.beq (aXm x_2 ex_0).length 2&&true) (exV IntKind.i64 ((((aXm x_2 ex_0).drop 0).take 1).getD 0 AV.undef) (λn_4=>∃
 xs_5:QT,Lf (aA hid=aA xs_5∧hid.length=xs_5.length∧xs_5.length<=1000000)∧bif aEc n_4 xs_5 then exS (.str (bZ hid (ex.take x_2))) (λs_6=>ckQ (decide (0<=n_3)&&Nat.blt n_3.toNat ex_0.length&&aEs
 ex_0&&true) (ckQ (aEs ex_0) (ckQ (aEs ex_0&&Nat.blt (0+n_3.toNat*2+1) (2*ex_0.length)) (exS ((((Md.cellsXM ex_0).drop (0+n_3.toNat*2+1)).take 1).getD 0 AV.undef) (λs_7=>ckQ (decide (s_6.length+s_7.length ≤
 9223372036854775807)&&true) (exS (.str (s_6++s_7)) (λs_8=>exW .i64 ((x_2:Int)+1) (λn_9=>(aP 9 (aYq k sa mk hid x nx rs rt rk)&&(aP 9 ds&&true))=true∧(aPj mkk ty sq ti ss t5 c5 n5 t6 ex pad pl ex_0
 ix∧(1:Nat)=(1:Nat))∧∃y_10:Nat,Lf (y_10<=ex.length)∧ex.length-y_10<ex.length-x_2∧aWv k sa mk hid x nx rs rt rk∧ds=ds∧aGf mkk ty sq ti ss t5 c5 n5 ex_0 pad pl∧aYu∧aHh∧aK (Md.cellsXM ex_0)∧[AV.str
 s_8]=[AV.str (bZ hid (ex.take y_10))]∧qP∧aGf mkk ty sq ti ss t5 c5 n5 ex_0 pad pl∧aK (AV.yld 0)∧aJf ex_0∧AV.int .i64 n_9=AV.int .i64 (y_10:Int)∧aSs∧aF8 n_1))))))))else exW .i64 ((x_2:Int)+1)
 (λn_6=>(aP 9 (aYq k sa mk hid x nx rs rt rk)&&(aP 9 ds&&true))=true∧(aPj mkk ty sq ti ss t5 c5 n5 t6 ex pad pl ex_0 ix∧(1:Nat)=(1:Nat))∧∃y_7:Nat,Lf (y_7<=ex.length)∧ex.length-y_7<ex.length-x_2 ∧
 aWv k sa mk hid x nx rs rt rk∧ds=ds∧aGf mkk ty sq ti ss t5 c5 n5 ex_0 pad pl∧aYu∧aHh∧aK (Md.cellsXM ex_0)∧[AV.str (bZ hid (ex.take x_2))]=[AV.str (bZ hid (ex.take y_7))]∧qP∧aGf mkk ty sq ti ss t5 c5 n5
 ex_0 pad pl∧aK (AV.yld 0)∧aJf ex_0∧AV.int .i64 n_6=AV.int .i64 (y_7:Int)∧aSs∧aF8 n_1))))))))else(aP 9 (aYq k sa mk hid x nx rs rt rk)&&(aP 9 ds&&true))=true∧exS (.str (bZ hid (ex.take x_2)))
 (λs_3=>Lf (aF2 [Blk.mk BK.ro false (zJ k sa mk (aA hid) hid.length x nx rs rt rk),Blk.mk BK.ro false ds,Blk.mk BK.exact false (aUc mkk ty sq ti ss t5 c5 n5 ex_0 pad pl),bIy,Blk.mk BK.exact true [],Blk.mk BK.grow true
 (Md.cellsXM ex_0),Blk.mk BK.exact true [.str (bZ hid (ex.take x_2))],aHp,Blk.mk BK.exact false (aUc mkk ty sq ti ss t5 c5 n5 ex_0 pad pl)] x)∧Lf (sa.length=12)∧∀s_4:LA,Lf (s_4=fM sa ss ix)->ckQ (dE
 [.str (bZ hid (ex.take x_2))] [.str (bZ hid (ex.take x_2))]&&true) (ckQ (dE [.str mk] [.str mk]&&true) (∀t_5:LA,∀e_6:Int,Lf (iG mk s_4 0 s_3=Prod.mk t_5 e_6)->ckQ (aEs ex_0) (exI .i64
 (ex_0.length:Int) (λn_7=>(∃x_8:Nat,Lf (x_8<=ex.length)∧aWv k sa mk hid x nx rs rt rk∧ds=ds∧aGf mkk ty sq ti ss t5 c5 n5 ex_0 pad pl∧aYu∧aHh∧Md.cellsXM ex_0=Md.cellsXM (eX hid (ex.take x_8) t_5++ex.drop
 x_8)∧[AV.str t_5]=[AV.str (yX hid x_8 ex t_5)]∧qP∧aGf mkk ty sq ti ss t5 c5 n5 ex_0 pad pl∧qP∧aGf mkk ty sq ti ss t5 c5 n5 ex_0 pad pl∧aK (AV.yld 1)∧aJf ex_0∧AV.int .i64 0=AV.int .i64 (x_8:Int)∧aK
 (AV.ptr 9 1 0)∧aF8 n_7)∧∀x_8:Nat,Lf (x_8<=ex.length)->bif decide ((x_8:Int)<n_7)then exI .i64 (x_8:Int) (λn_9=>ckQ (Nat.blt (x_8:Int).toNat ex_0.length&&aXq hid x_8 ex t_5 ex_0&&true) (ckQ (aXq hid
 x_8 ex t_5 ex_0&&Nat.ble (aBi x_8+2) (2*ex_0.length)) (ckQ (Nat.beq (((Md.cellsXM (eX hid (ex.take x_8) t_5++ex.drop x_8)).drop (aBi x_8)).take 2).length 2&&eH (((Md.cellsXM (eX hid (ex.take x_8) t_5++ex.drop
 x_8)).drop (aBi x_8)).take 2)&&true) (ckQ (Nat.beq (aWt x_8 hid ex t_5).length 2) (ckQ (Nat.beq (aWt x_8 hid ex t_5).length 2&&true) (exV IntKind.i64 ((((aWt x_8 hid ex t_5).drop 0).take 1).getD 0 AV.undef) (λn_10=>∃xs_11
 : QT,Lf (aA hid=aA xs_11∧hid.length=xs_11.length∧xs_11.length<=1000000)∧bif aEc n_10 xs_11 then ckQ (decide (0<=n_9)&&Nat.blt n_9.toNat ex_0.length&&aXq hid x_8 ex t_5 ex_0&&true) (ckQ (aXq hid x_8 ex
 t_5 ex_0) (ckQ (aXq hid x_8 ex t_5 ex_0&&Nat.blt (0+n_9.toNat*2+1) (2*ex_0.length)) (exS ((((Md.cellsXM (eX hid (ex.take x_8) t_5++ex.drop x_8)).drop (0+n_9.toNat*2+1)).take 1).getD 0 AV.undef) (λs_12=>exI
 IntKind.i64 (s_12.length:Int) (λn_13=>exS (.str (yX hid x_8 ex t_5)) (λs_14=>ckQ (decide (0<=n_13)&&true&&Nat.ble n_13.toNat s_14.length) (exS (.str ((s_14.drop 0).take (n_13.toNat-0))) (λs_15=>exS (.str (yX
 hid x_8 ex t_5)) (λs_16=>ckQ (decide (0<=n_13)&&true&&Nat.ble n_13.toNat s_16.length&&Nat.ble s_16.length s_16.length) (exS (.str ((s_16.drop n_13.toNat).take (s_16.length-n_13.toNat))) (λs_17=>ckQ (decide (0<=n_9) &&
 Nat.blt n_9.toNat ex_0.length&&aXq hid x_8 ex t_5 ex_0&&true) (ckQ (aXq hid x_8 ex t_5 ex_0) (ckQ (aXq hid x_8 ex t_5 ex_0&&Nat.ble (0+n_9.toNat*2+1+1) (2*ex_0.length)&&true&&true&&true) (ckQ (dE [.str (yX
 hid x_8 ex t_5)] [.str (yX hid x_8 ex t_5)]&&true) (exW .i64 ((x_8:Int)+1) (λn_18=>(aP 11 (aYq k sa mk hid x nx rs rt rk)&&(aP 11 ds&&true))=true∧(aP7 s_3 t_5 e_6 mkk ty sq ti ss t5 c5 n5 t6 ex pad pl
 mk ix ex_0 s_4∧(2:Nat)=(2:Nat))∧∃y_19:Nat,Lf (y_19<=ex.length)∧ex.length-y_19<ex.length-x_8∧aWv k sa mk hid x nx rs rt rk∧ds=ds∧aGf mkk ty sq ti ss t5 c5 n5 ex_0 pad pl∧aYu∧aHh∧aN (Md.cellsXM
 (eX hid (ex.take x_8) t_5++ex.drop x_8)) (0+n_9.toNat*2+1) [.str s_15]=Md.cellsXM (eX hid (ex.take y_19) t_5++ex.drop y_19)∧[AV.str s_17]=[AV.str (yX hid y_19 ex t_5)]∧qP∧aGf mkk ty sq ti ss t5 c5 n5 ex_0
 pad pl∧qP∧aGf mkk ty sq ti ss t5 c5 n5 ex_0 pad pl∧aK (AV.yld 1)∧aJf ex_0∧AV.int .i64 n_18=AV.int .i64 (y_19:Int)∧aK (AV.ptr 9 1 0)∧aF8 n_7))))))))))))))))else exW .i64 ((x_8:Int)+1) (λn_12=>
 (aP 11 (aYq k sa mk hid x nx rs rt rk)&&(aP 11 ds&&true))=true∧(aP7 s_3 t_5 e_6 mkk ty sq ti ss t5 c5 n5 t6 ex pad pl mk ix ex_0 s_4∧(2:Nat)=(2:Nat))∧∃y_13:Nat,Lf (y_13<=ex.length)∧ex.length-y_13 <
 ex.length-x_8∧aWv k sa mk hid x nx rs rt rk∧ds=ds∧aGf mkk ty sq ti ss t5 c5 n5 ex_0 pad pl∧aYu∧aHh∧Md.cellsXM (eX hid (ex.take x_8) t_5++ex.drop x_8)=Md.cellsXM (eX hid (ex.take y_13) t_5++ex.drop y_13) ∧
 [AV.str (yX hid x_8 ex t_5)]=[AV.str (yX hid y_13 ex t_5)]∧qP∧aGf mkk ty sq ti ss t5 c5 n5 ex_0 pad pl∧qP∧aGf mkk ty sq ti ss t5 c5 n5 ex_0 pad pl∧aK (AV.yld 1)∧aJf ex_0∧AV.int .i64 n_12=AV.int .i64
 (y_13:Int)∧aK (AV.ptr 9 1 0)∧aF8 n_7))))))))else(aP 11 (aYq k sa mk hid x nx rs rt rk)&&(aP 11 ds&&true))=true∧Q (.ret (.agg (aUc mkk ty sq ti ss t5 c5 n5 ex_0 pad pl))) [Blk.mk BK.ro false (zJ k sa mk (aA
 hid) hid.length x nx rs rt rk),Blk.mk BK.ro false ds,Blk.mk BK.exact false (aUc mkk ty sq ti ss t5 c5 n5 ex_0 pad pl),Blk.mk BK.exact false (aUc mkk ty sq ti ss t5 c5 n5 ex_0 pad pl),Blk.mk BK.exact true [],Blk.mk BK.grow true
 (Md.cellsXM (eX hid (ex.take x_8) t_5++ex.drop x_8)),Blk.mk BK.exact true [.str (yX hid x_8 ex t_5)],aHp,Blk.mk BK.exact false (aUc mkk ty sq ti ss t5 c5 n5 ex_0 pad pl),aHp,Blk.mk BK.exact false (aUc mkk ty sq ti ss t5
 c5 n5 ex_0 pad pl)] (Gh.mk 0 2 [])))))))))):=by kernel_rfl

theorem bMo:∀s:LA,eqB s s=true
 | []=>rfl
 | x::s=>by simp[eqB,bMo s]
mutual
theorem aD7:∀a:AV,iC a a=true
 | .undef=>rfl
 | .opq i=>by simp[iC]
 | .bool b=>by simp[iC]
 | .int k a=>by simp[iC]
 | .str a=>by rw[iC,bMo]
 | .nilp=>rfl
 | .ptr a b c=>by simp[iC]
 | .gptr a b=>by simp[iC]
 | .nils=>rfl
 | .sl a b c d e=>by simp[iC]
 | .nilf=>rfl
 | .fn f x y=>by simp[iC,fE x,fE y]
 | .yld u=>by simp[iC]
 | .nili=>rfl
 | .iface t v=>by simp[iC,aD7 v]
 | .agg l=>by rw[iC];exact fE l
 | .tup l=>by rw[iC];exact fE l
 | .lst t l n z=>by simp[iC,fE l]
 | .lptr t l o=>by simp[iC,fE l]
 | .mpn=>rfl
 | .mp i=>by simp[iC]
theorem fE:∀l:HB,dE l l=true
 | []=>rfl
 | a::l=>by rw[dE,aD7 a,fE l];rfl
end
theorem ckF{l:HB}{A:Prop}(k:A):bif dE l l&&true then A else False:=by rw[fE];exact k
theorem splitB{b:Bool}{p q:Prop}(h1:b=true->p)(h2:b=false->q):bif b then p else q:=by
 cases b
 ·exact h2 rfl
 ·exact h1 rfl
theorem bD0:∀ (L:List Md.Xt) (i:Nat),(Md.cellsXM L).drop (2*i)=Md.cellsXM (L.drop i)
 | L,0=>rfl
 | [],i+1=>by simp[Md.cellsXM]
 | x::L,i+1=>by
  have:=bD0 L i
  rw[Md.cellsXM,bZm,←this,show 2*(i+1)=2*i+1+1 by omega,bZm,bZm]
theorem aUu{L:List Md.Xt}{i:Nat}(h:i<L.length):L.drop i=L.getD i (0,[])::L.drop (i+1):=by
 rw[bZe h,bW7,bW8 h];rfl
theorem bVq{L:List Md.Xt}{i:Nat}(h:i<L.length):((Md.cellsXM L).drop (0+(i:Int).toNat*2)).take 2=[.int .i64 (L.getD i (0,[])).1,.str (L.getD i (0,[])).2]:=by
 rw[show 0+(i:Int).toNat*2=2*i by omega,bD0,aUu h];rfl
theorem bVs{L:List Md.Xt}{i:Nat}(h:i<L.length):(((Md.cellsXM L).drop (0+(i:Int).toNat*2+1)).take 1).getD 0 AV.undef=.str (L.getD i (0,[])).2:=by
 rw[show 0+(i:Int).toNat*2+1=2*i+1 by omega,←bY9,bD0,aUu h];rfl
theorem stX(s:LA):∀ (L:List Md.Xt) (i:Nat),i<L.length->aN (Md.cellsXM L) (2*i+1) [.str s]=Md.cellsXM (L.set i ((L.getD i (0,[])).1,s))
 | [],i,h=>by simp at h
 | x::L,0,_=>by
  cases L<;>rfl
 | x::L,i+1,h=>by
  have ih:=stX s L i (by simpa using h)
  rw[cBo,bZc,Md.cellsXM,Md.cellsXM,←ih,show 2*(i+1)+1=(2*i+1)+1+1 by omega]
  rfl
theorem bWs(s:LA){L:List Md.Xt}{i:Nat}(h:i<L.length):aN (Md.cellsXM L) (0+(i:Int).toNat*2+1) [.str s]=Md.cellsXM (L.set i ((L.getD i (0,[])).1,s)):=by
 rw[show 0+(i:Int).toNat*2+1=2*i+1 by omega];exact stX s L i h
theorem bJv{ex:List Md.Xt}{i:Nat}(h:i<ex.length):ex.take (i+1)=ex.take i++[ex.getD i (0,[])]:=by
 rw[bYm,bW7,bW8 h];rfl
theorem bV4{hid:QT}{ex:List Md.Xt}{i:Nat}(h:i<ex.length):bZ hid (ex.take (i+1))=bZ hid (ex.take i)++(if aEc (ex.getD i (0,[])).1 hid=true then(ex.getD i (0,[])).2 else[]):=by
 rw[bJv h,aBz,bZ,bZ,bXs]
theorem aT9{hid:QT}(ex:List Md.Xt)(i:Nat):(bZ hid (ex.take i)).length<=(bZ hid ex).length:=by
 have e:bZ hid ex=bZ hid (ex.take i)++bZ hid (ex.drop i):=by rw[←aBz,bYw]
 rw[e,bW2];omega
def aBt(hid:QT)(ex:List Md.Xt)(ks:LA)(i:Nat):List Md.Xt:=eX hid (ex.take i) ks++ex.drop i
theorem bJe(hid:QT)(ex:List Md.Xt)(ks:LA)(i:Nat):(aBt hid ex ks i).length=ex.length:=by
 rw[aBt,bW2,uA,bXg,bYt];omega
theorem bGm{hid:QT}{ex:List Md.Xt}{ks:LA}{i:Nat}(h:i<ex.length):(aBt hid ex ks i).getD i (0,[])=ex.getD i (0,[]):=by
 have hl:(eX hid (ex.take i) ks).length=i:=by rw[uA,bXg];omega
 rw[aBt,aUu h,bW7,bYa (by omega),hl,bZ4];rfl
theorem bEe{hid:QT}{ex:List Md.Xt}{ks:LA}{i:Nat}(h:i<ex.length)(hm:aEc (ex.getD i (0,[])).1 hid=true) :
  (aBt hid ex ks i).set i ((ex.getD i (0,[])).1,(ks.drop (bZ hid (ex.take i)).length).take (ex.getD i (0,[])).2.length)=aBt hid ex ks (i+1):=by
 have hl:(eX hid (ex.take i) ks).length=i:=by rw[uA,bXg];omega
 rw[aBt,aBt,bJv h,uB,bZ0 _ _ (by omega),hl,bZ4,aUu h,cAy,bW9,eX,if_pos hm]
 rfl
theorem bAp{hid:QT}{ex:List Md.Xt}{ks:LA}{i:Nat}(h:i<ex.length)(hm:¬ aEc (ex.getD i (0,[])).1 hid=true):aBt hid ex ks i=aBt hid ex ks (i+1):=by
 rw[aBt,aBt,bJv h,uB,eX,if_neg hm,bW9,aUu h]
 rfl
theorem aYr(k sa mk:LA)(hid:QT)(x:AV)(nx rs rt rk:Int)(ds:HB)(t5 t6:Nat)(mkk:Bool)(ty sq ti ss:Int)(c5:HB)(n5:Nat)(ex:List Md.Xt)(pad:Int)(pl:LA)(ix:Int)
  (hsa:sa.length=12) (hmk:mk.length=32) (hh:hid.length<=1000000) (hex:ex.length<=1000000) (hc:(bZ hid ex).length<=4096) (hx:old 2 x=true) (hd:aP 0 ds=true)
  (hX:∀tl,aF2 (⟨.ro,false,zJ k sa mk (aA hid) hid.length x nx rs rt rk⟩::⟨.ro,false,ds⟩::tl) x) (Q:BS)
  (hq:∀v H g,bU 0 H 9 v=.agg [.bool mkk,.int .i64 ty,.int .i64 sq,.int .i64 ti,.int .i64 ss,.lst t5 c5 n5 1,.lst 0 (Md.cellsXM (oG hid mk sa ss ix ex)) (oG hid mk sa ss ix ex).length 2,.int .i64 pad,.str pl]->Q (.ret v) H g) :
  ∃hv hb,aHl hv hb k sa mk hid x nx rs rt rk ds t5 t6 mkk ty sq ti ss c5 n5 ex pad pl ix Q:=by
 obtain⟨hv,hb',e⟩:∃hv hb,aHl hv hb k sa mk hid x nx rs rt rk ds t5 t6 mkk ty sq ti ss c5 n5 ex pad pl ix Q=_:=⟨_,_,bSu k sa mk hid x nx rs rt rk ds t5 t6 mkk ty sq ti ss c5 n5 ex pad pl ix Q⟩
 refine⟨hv,hb',e.mpr ?_⟩
 delta iA aWv aL6 aJp aYu qP aF8 aYq bIi bC9 bIy aHp aSs aEs aGf aHh aJf aBi aXm bRd aUc yX aXq aWt
 clear e
 have hox:aP 2 [x]=true:=by rw[aP,hx];rfl
 have ho:∀n,2<=n->(aP n [.str k,.str sa,.str mk,.lst 0 (aA hid) hid.length 1,x,.int .i64 nx,.int .i64 rs,.int .i64 rt,.int .u64 rk]&&(aP n ds&&true))=true:=λn h=>by
  have h1:=cB h _ hox
  have h2:=cB (bYb n) _ hd
  simp only[aP,bX4]at h1
  simp[aP,old,h1,h2]
 have hn:=pK hsa ss ix
 refine⟨ex,⟨rfl,rfl,hex⟩, ?_, ?_⟩
 ·rintro⟨h0⟩
  subst h0
  refine⟨_,rfl,⟨0,⟨rfl⟩,rfl,rfl,rfl,rfl,rfl,rfl,rfl,rfl,rfl,rfl,rfl,rfl,trivial⟩, ?_⟩
  rintro i ⟨hi⟩
  refine aH (λh=>absurd h (by omega)) (λ_=>⟨ho 7 (by omega),_,rfl,⟨hX _⟩,⟨hsa⟩, ?_⟩)
  rintro s4 ⟨h4⟩
  refine ckF ?_
  rintro t7 e6 ⟨h5⟩
  refine⟨_,rfl,⟨0,⟨rfl⟩,rfl,rfl,rfl,rfl,rfl,rfl,rfl,rfl,rfl,rfl,rfl,rfl,rfl,rfl,trivial⟩, ?_⟩
  rintro j ⟨hj⟩
  exact aH (λh=>absurd h (by omega)) (λ_=>⟨ho 9 (by omega),hq _ _ _ rfl⟩)
 ·rintro⟨h1⟩
  have hlx:=kH ex
  refine ckI (by simp[hlx]) ⟨_,rfl,⟨0,⟨bYb _⟩,rfl,rfl,rfl,rfl,rfl,rfl,rfl,rfl,rfl,rfl,rfl,rfl,rfl,rfl,trivial⟩, ?_⟩
  rintro i ⟨hi⟩
  refine aH (λhlt=>⟨_,rfl, ?_⟩) (λhge => ?_)
  ·have hi':i<ex.length:=by omega
   have hc1:=aT9 (hid:=hid) ex (i+1)
   have hcx:=bV4 (hid:=hid) hi'
   have e2:=bVq hi'
   have e1:=bVs hi'
   generalize ex.getD i (0,[])=el at *
   rw[e2]
   refine ckI (by simp[hlx];omega) (ckI (by simp[hlx];omega) (ckI rfl (ckI rfl (ckI rfl ⟨_,rfl,hid,⟨rfl,rfl,hh⟩,splitB (λhm => ?_) (λhm => ?_)⟩))))
   ·rw[if_pos hm]at hcx
    refine⟨_,rfl,ckI (by simp[hlx];omega) (ckI (by simp[hlx]) (ckI (by simp[hlx];omega) ⟨_,e1,ckI (by rw[hcx,bW2]at hc1;simp;omega) ⟨_,rfl,aF ⟨ho 9 (by omega),⟨rfl,rfl⟩,i+1,⟨by omega⟩,by omega,rfl,rfl,rfl,rfl,rfl,rfl,by rw[hcx],rfl,rfl,rfl,rfl,rfl,rfl,rfl,trivial⟩⟩⟩))⟩
   ·rw[if_neg (by simp[hm])]at hcx
    refine aF ⟨ho 9 (by omega),⟨rfl,rfl⟩,i+1,⟨by omega⟩,by omega,rfl,rfl,rfl,rfl,rfl,rfl,by rw[hcx,bXs],rfl,rfl,rfl,rfl,rfl,rfl,rfl,trivial⟩
  ·obtain rfl:i=ex.length:=by omega
   refine⟨ho 9 (by omega),_,rfl,⟨hX _⟩,⟨hsa⟩, ?_⟩
   rintro s4 ⟨rfl⟩
   refine ckF (ckF ?_)
   rintro t7 e6 ⟨h5⟩
   rw[bX8]at h5
   have ha:=bB8 (s:=bZ hid ex) hmk hn hc
   have h5':=h5
   rw[ha]at h5'
   have hal:=xK (fD mk (fM sa ss ix)) 70 0 (bZ hid ex) (by omega)
   have hl5:t7.length=(bZ hid ex).length:=by rw[←hal,←(cBf h5').1]
   have hmx:oG hid mk sa ss ix ex=eX hid ex t7:=by rw[oG,h5]
   refine ckI (by simp[hlx]) ⟨_,rfl,⟨0,⟨bYb _⟩,rfl,rfl,rfl,rfl,rfl,rfl,rfl,rfl,rfl,rfl,rfl,rfl,rfl,rfl,rfl,rfl,trivial⟩, ?_⟩
   rintro j ⟨hj⟩
   have hml:=bJe hid ex t7 j
   have hmc:=kH (aBt hid ex t7 j)
   rw[hml]at hmc
   show bif decide ((j:Int)<(ex.length:Int))then _ else _
   rw[show eX hid (ex.take j) t7++ex.drop j=aBt hid ex t7 j from rfl]
   refine aH (λhlt=>⟨_,rfl, ?_⟩) (λhge => ?_)
   ·have hj':j<ex.length:=by omega
    have hj2:j<(aBt hid ex t7 j).length:=by omega
    have hc1:=aT9 (hid:=hid) ex (j+1)
    have hcx:=bV4 (hid:=hid) hj'
    have e2:=bVq hj2
    have e1:=bVs hj2
    have eg:=bGm (hid:=hid) (ks:=t7) hj'
    have es:=λhm=>bEe (ks:=t7) (hid:=hid) hj' hm
    have est:=λs=>bWs s hj2
    have esm:=λhm=>bAp (ks:=t7) (hid:=hid) hj' hm
    rw[eg]at e2 e1
    simp only[eg]at est
    generalize ex.getD j (0,[])=el at *
    rw[e2]
    refine ckI (by simp[hmc];omega) (ckI (by simp[hmc];omega) (ckI rfl (ckI rfl (ckI rfl ⟨_,rfl,hid,⟨rfl,rfl,hh⟩,splitB (λhm => ?_) (λhm => ?_)⟩))))
    ·rw[if_pos hm]at hcx
     have hcl:(bZ hid (ex.take j)).length+el.2.length<=(bZ hid ex).length:=by rw[←bW2,←hcx];exact hc1
     have hdl:(t7.drop (bZ hid (ex.take j)).length).length=(bZ hid ex).length-(bZ hid (ex.take j)).length:=by rw[bYt,hl5]
     have est:=est ((t7.drop (bZ hid (ex.take j)).length).take el.2.length)
     rw[es hm]at est
     refine ckI (by simp[hmc];omega) (ckI (by simp[hmc]) (ckI (by simp[hmc];omega) ⟨_,e1,_,rfl,_,rfl,ckI (by simp only[hdl];simp;omega) ⟨_,rfl,_,rfl,ckI (by simp only[hdl];simp;omega) ⟨_,rfl,ckI (by simp[hmc];omega) (ckI (by simp[hmc]) (ckI (by simp[hmc];omega) (ckF (aF ⟨ho 11 (by omega),⟨rfl,rfl⟩,j+1,⟨by omega⟩,by omega,rfl,rfl,rfl,rfl,rfl, ?_, ?_,rfl,rfl,rfl,rfl,rfl,rfl,rfl,rfl,rfl,trivial⟩))))⟩⟩⟩))
     ·rw[bXl,bXf,cCg]
      exact est
     ·rw[hcx,bW2,←bY9,bXf,bW4 (by first | (simp;done) | (simp;omega))]
    ·rw[if_neg (by simp[hm]),bXs]at hcx
     refine aF ⟨ho 11 (by omega),⟨rfl,rfl⟩,j+1,⟨by omega⟩,by omega,rfl,rfl,rfl,rfl,rfl, ?_,by rw[hcx],rfl,rfl,rfl,rfl,rfl,rfl,rfl,rfl,rfl,trivial⟩
     exact congrArg Md.cellsXM (esm (by simp[hm]))
   ·obtain rfl:j=ex.length:=by omega
    refine⟨ho 11 (by omega),hq _ _ _ ?_⟩
    have em:aBt hid ex t7 ex.length=eX hid ex t7:=by rw[aBt,bX8,List.drop_length,bXs]
    rw[hmx,←em,hml]
    have ef:∀ (H:HV),H[5]? = some ⟨.grow,true,Md.cellsXM (aBt hid ex t7 ex.length)⟩->bU 0 H 8 (.sl 5 (2*ex.length) 0 ex.length 2)=.lst 0 (Md.cellsXM (aBt hid ex t7 ex.length)) ex.length 2:=λH hH=>
     Md.frz_slMd (d:=6) hH hmc (by omega) (by simp) (Md.plain_cX _)
    show AV.agg [.bool mkk,.int .i64 ty,.int .i64 sq,.int .i64 ti,.int .i64 ss,.lst t5 c5 n5 1,bU 0 _ 8 (.sl 5 (2*ex.length) 0 ex.length 2),.int .i64 pad,.str pl]=_
    rw[ef _ rfl]
def bIm(rest:HB)(k sa mk:LA)(hl:HB)(hn:Nat)(K:AV->Prop):Prop:=match rest with
 | [.agg [.bool mkk,.int .i64 ty,.int .i64 sq,.int .i64 ti,.int .i64 ss,.lst t5 c5 n5 1,.lst t6 c6 n6 2,.int .i64 pad,.str pl],.int .i64 ix]=>∃ (hid:QT) (ex:List Md.Xt),Lf (hl=aA hid∧hn=hid.length∧c6=Md.cellsXM ex∧n6=ex.length∧hid.length<=1000000∧ex.length<=1000000∧(bZ hid ex).length<=4096∧sa.length=12∧mk.length=32) ∧
   ∀ex':List Md.Xt,Lf (ex'=oG hid mk sa ss ix ex)->K (.agg [.bool mkk,.int .i64 ty,.int .i64 sq,.int .i64 ti,.int .i64 ss,.lst t5 c5 n5 1,.lst 0 (Md.cellsXM ex') ex'.length 2,.int .i64 pad,.str pl])
 | _=>False
theorem bI7:aI Tryz.prog gl0 65 (cbC bIm):=by
 refine aKu (enters_of (by kernel_rfl)) aO 9 (λv=>v) kW λrest k sa mk hl hn x nx rs rt rk ds R _ _ hx hd hX hg => ?_
 unfold bIm at hg
 split at hg
 ·rename_i mkk ty sq ti ss t5 c5 n5 t6 c6 n6 pad pl ix _ _
  obtain⟨hid,ex,⟨rfl,rfl,rfl,rfl,a1,a2,a3,a4,a5⟩,hq⟩:=hg
  obtain⟨hv,hb',h⟩:=aYr k sa mk hid x nx rs rt rk ds t5 t6 mkk ty sq ti ss c5 n5 ex pad pl ix a4 a5 a1 a2 a3 hx hd hX (λo H' _=>∃v,o=.ret v∧R (bU 0 H' 9 v)) (λv H g e=>⟨v,rfl,by rw[e];exact hq _ ⟨rfl⟩⟩)
  exact⟨_,1000,aS bJ0 _ hv hb',rfl,h⟩
 ·exact hg.elim
def bQk(mk:Bool)(ty sq ti ss:Int)(cs:QT)(ex:List Md.Xt):LA:=Md.putMMd 1 [Md.kindM mk ty]++Md.putMMd 2 [sq]++Md.putMMd 4 [ti,ss]++Md.putMMd 4 cs++Md.extHM ex
theorem aO8(mk:Bool)(ty sq ti ss:Int)(cs:QT)(ex:List Md.Xt)(pad:Int):Md.headM mk ty sq ti ss cs ex pad=Md.octMMd (Md.fstM cs ex.length pad) 0::bQk mk ty sq ti ss cs ex:=by
 simp[Md.headM,Md.headBM,bQk,Md.extHM,Md.putMMd,Md.beMMd]
theorem bGx(mk:Bool)(ty sq ti ss:Int)(cs:QT)(ex:List Md.Xt):(bQk mk ty sq ti ss cs ex).length=11+4*cs.length+(Md.extHM ex).length:=by
 unfold bQk
 simp only[bW2,Md.put_lenMd,bXc,bXm]
 try omega
theorem aY9{ex:List Md.Xt}:(Md.extHM ex).length=if ex.length=0 then 0 else 4+(Md.extPM ex).length:=by
 unfold Md.extHM
 split
 ·rfl
 ·simp only[bW2,Md.put_lenMd,bXc,bXm]
theorem aDk:∀ {a b:List Md.Xt},oF a=oF b->Md.shortM a=Md.shortM b∧a.length=b.length
 | [],[],_=>⟨rfl,rfl⟩
 | [],_::_,h=>by simp[oF]at h
 | _::_,[],h=>by simp[oF]at h
 | x::a,y::b,h=>by
  simp only[oF,bXu,bZp,bX1]at h
  obtain⟨⟨h1,h2⟩,h3⟩:=h
  obtain⟨k1,k2⟩:=aDk (a:=a) (b:=b) h3
  refine⟨?_,by rw[bXc,bXc,k2]⟩
  have e:Md.isLongM x=Md.isLongM y:=by unfold Md.isLongM;rw[h1,h2]
  have k1':a.any Md.isLongM=b.any Md.isLongM:=by
   have:=congrArg (!·) k1
   simpa[Md.shortM]using this
  simp only[Md.shortM,bYk,e,k1']
theorem aJx:∀ {a b:List Md.Xt} (l:Int),oF a=oF b->Md.extsOkM l a=Md.extsOkM l b
 | [],[],_,_=>rfl
 | [],_::_,_,h=>by simp[oF]at h
 | _::_,[],_,h=>by simp[oF]at h
 | x::a,y::b,l,h=>by
  simp only[oF,bXu,bZp,bX1]at h
  obtain⟨⟨h1,h2⟩,h3⟩:=h
  rw[Md.extsOkM,Md.extsOkM,h1,h2,aJx (a:=a) (b:=b) _ h3]
theorem aUe(sh:Bool):∀ {a b:List Md.Xt},oF a=oF b->(Md.extBM sh a).length=(Md.extBM sh b).length
 | [],[],_=>rfl
 | [],_::_,h=>by simp[oF]at h
 | _::_,[],h=>by simp[oF]at h
 | x::a,y::b,h=>by
  simp only[oF,bXu,bZp,bX1]at h
  obtain⟨⟨h1,h2⟩,h3⟩:=h
  have ih:=aUe sh (a:=a) (b:=b) h3
  rw[Md.extBM,Md.extBM]
  simp only[bW2,h2,ih]
  split<;>simp[Md.put_lenMd]
theorem aW9{mk:Bool}{ty sq ti ss:Int}{cs:QT}{a b:List Md.Xt}(pad:Int)(h:oF a=oF b) :
  (Md.headM mk ty sq ti ss cs a pad).length=(Md.headM mk ty sq ti ss cs b pad).length∧Md.rightMMd ty sq ti ss cs a pad=Md.rightMMd ty sq ti ss cs b pad∧a.length=b.length∧Md.headBM mk ty sq ti ss cs a.length pad=Md.headBM mk ty sq ti ss cs b.length pad:=by
 obtain⟨h1,h2⟩:=aDk h
 have h3:=aUe (Md.shortM b) h
 have h4:(Md.extPM a).length=(Md.extPM b).length:=by
  rw[Md.extPM,Md.extPM,h1,bW2,bW2,Md.zerosMMd,Md.zerosMMd,bXb,bXb,h3]
 refine⟨?_, ?_,h2,by rw[h2]⟩
 ·rw[Md.headM,Md.headM,bW2,bW2,h2,h4]
  congr 1
  split
  ·rfl
  ·simp only[bW2,Md.put_lenMd,bXc,bXm,h4]
 ·rw[Md.rightMMd,Md.rightMMd,h2,aJx 0 h]
end Go.Proofs.YtnhechnaemmdiaaGreatDoor
