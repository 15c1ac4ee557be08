/-
  Chapter 25: Protect, by a shield with any tracks: residuals.
-/
import Derived.Test.YtnhechnaemmdiaaGreatDoorK25TS
import Derived.Test.YtnhechnaemmdiaaGreatDoorK25NA
import Derived.Test.YtnhechnaemmdiaaGreatDoorKnQ
import Derived.Test.YtnhechnaemmdiaaGreatDoorKnO
import Derived.Test.YtnhechnaemmdiaaGreatDoorKnM
set_option linter.unusedSimpArgs false
set_option linter.unusedVariables false
set_option linter.unusedSectionVars false
namespace Go.Proofs.YtnhechnaemmdiaaGreatDoor
open Go.RowKit
set_option maxRecDepth 1000000

def smU:SM:=gG [(13,aUt),(31,bDx),(34,aR3),(58,aYm),(59,aIu),(65,cbC bIm),(66,bA0),(67,cbC aEx)]
theorem aVe:∀f g,smU f=some g->aI Tryz.prog gl0 f g:=bO _ (by simp only[bXd,bXn,bY0,bYd,bY4];exact⟨aI8,bEj,aYl,aTm,aPx,bI7,aHo,aBa⟩)
def aZt(m:Nat)(s:S):List (List LInv):=[[{ α:=Nat,pre:=λi=>Lf (i<=m),st:=λi=>⟨mkT [(0,s.tm.get 0),(1,s.tm.get 1),(6,s.tm.get 6),(19,s.tm.get 19),(20,s.tm.get 20),(21,.int .i64 (i:Nat))],s.hp⟩,mu:=λi=>1000-i }]]
noncomputable def wB(hv:LI)(hb:LB)(a b c:LA)(hid:QT)(nx:Int)(t5 t6:Nat)(mk:Bool)(ty sq ti ss:Int)(cs:QT)(ex:List Md.Xt)(pad:Int)(pl:LA)(Q:BS):Prop:=
 aT (e04 smU (λ_=>none) hv hb) (wpx (e04 smU (λ_=>none) hv hb) 1000) 24 [.agg [.str a,.str b,.str c,.lst 0 (aA hid) hid.length 1,.lst 0 [] 0 3,.int .i64 nx,.int .i64 0,.int .i64 (-1),.int .u64 0],.agg [.bool mk,.int .i64 ty,.int .i64 sq,.int .i64 ti,.int .i64 ss,.lst t5 (aA cs) cs.length 1,.lst t6 (Md.cellsXM ex) ex.length 2,.int .i64 pad,.str pl]] [] {} Q
abbrev aL3(hid xs_0:QT):Prop:=Lf (aA hid=aA xs_0∧hid.length=xs_0.length∧xs_0.length<=1000000)
abbrev yF(mk:Bool)(ty sq ti ss:Int)(cs:QT)(ex:List Md.Xt)(pad:Int)(pl:LA)(cs_1:QT)(ex_2:List Md.Xt):Prop:=Lf (bPs mk ty sq ti ss (aA cs) cs.length (Md.cellsXM ex) ex.length pad pl cs_1 ex_2)
abbrev aHr(n_4:Int):Prop:=AV.bool (decide (n_4>1184))=AV.bool false
abbrev aQs(sq:Int):Prop:=Lf ((-(1:Int) ≤ -(1:Int) ∧ -(1:Int)<=(9223372036854000000:Int))∧0<=sq∧sq<=65535)
abbrev aSb(z_5:Int):Prop:=AV.bool (decide (z_5 ≤ -1))=AV.bool false
abbrev aGl(z_5:Int):Prop:=AV.bool (decide (z_5>281474976710655))=AV.bool false
abbrev aMi(a b c:LA)(hid:QT)(nx:Int):Blk:=Blk.mk BK.exact true [.str a,.str b,.str c,.lst 0 (aA hid) hid.length 1,.lst 0 [] 0 3,.int .i64 nx,.int .i64 0,.int .i64 (-1),.int .u64 0]
abbrev aIw(mk:Bool)(ty sq ti ss:Int)(t5:Nat)(cs:QT)(t6:Nat)(ex:List Md.Xt)(pad:Int)(pl:LA):Blk:=Blk.mk BK.exact true [.bool mk,.int .i64 ty,.int .i64 sq,.int .i64 ti,.int .i64 ss,.lst t5 (aA cs) cs.length 1,.lst t6 (Md.cellsXM ex) ex.length 2,.int .i64 pad,.str pl]
abbrev aP2:HB:=[.str [],.str [],.str [],.nils,.nils,.int .i64 0,.int .i64 0,.int .i64 0,.int .u64 0]
abbrev aP9:Blk:=Blk.mk BK.exact true aP2
abbrev aKk(xs_0:QT):AV:=.lst 0 (aA xs_0) xs_0.length 1
abbrev bGa(a b c:LA)(xs_0:QT)(nx:Int):Blk:=Blk.mk BK.exact false [.str a,.str b,.str c,aKk xs_0,.sl 5 0 0 0 3,.int .i64 nx,.int .i64 0,.int .i64 (-1),.int .u64 0]
abbrev sJ:Blk:=Blk.mk BK.exact true []
abbrev aFd(ss:Int):Blk:=Blk.mk BK.exact true [.int .i64 ss,.int .i64 (-1),.int .u64 0]
abbrev bFa(xs_0 hid_6:QT)(ex ex_7:List Md.Xt)(b c:LA):Prop:=Lf (aA xs_0=aA hid_6∧xs_0.length=hid_6.length∧Md.cellsXM ex=Md.cellsXM ex_7∧ex.length=ex_7.length∧hid_6.length<=1000000∧ex_7.length<=1000000∧(bZ hid_6 ex_7).length<=4096∧b.length=12∧c.length=32)
abbrev aIr(n_12:Int)(s_3:LA):Bool:=decide (0<=n_12)&&true&&Nat.ble n_12.toNat s_3.length&&Nat.ble s_3.length s_3.length
abbrev aJq(s_3:LA)(n_12:Int):AV:=.str ((s_3.drop n_12.toNat).take (s_3.length-n_12.toNat))
abbrev aHj(a:LA):Bool:=dE [.str a] [.str a]&&true
abbrev aIp(n_17:Int):Prop:=AV.bool (decide (n_17>0))=AV.bool true
abbrev uO(n_18:Int):Bool:=decide (0<=n_18)&&true
abbrev aI6(n_19 n_21:Int):Int:=(((n_19%18446744073709551616).toNat ||| (n_21%18446744073709551616).toNat:Nat):Int)
abbrev aH2(s_11 t_15:LA):Bool:=decide (s_11.length+t_15.length<=9223372036854775807)&&true
abbrev bAn(a b c:LA)(xs_0:QT)(nx:Int):HB:=[.str a,.str b,.str c,aKk xs_0,.sl 8 3 0 1 3,.int .i64 nx,.int .i64 0,.int .i64 (-1),.int .u64 0]
abbrev aC1(ss z_5 n_22:Int):HB:=[.int .i64 ss,.int .i64 z_5,.int .u64 n_22]
abbrev bFm:Blk:=Blk.mk BK.exact true [.int .i64 0,.int .i64 0,.int .u64 0]
abbrev aZh(a b c:LA)(xs_0:QT)(nx:Int):HB:=[.str a,.str b,.str c,aKk xs_0,.sl 7 3 0 1 3,.int .i64 nx,.int .i64 0,.int .i64 (-1),.int .u64 0]
theorem bGs(a:LA)(b:LA)(c:LA)(hid:QT)(nx:Int)(t5:Nat)(t6:Nat)(mk:Bool)(ty:Int)(sq:Int)(ti:Int)(ss:Int)(cs:QT)(ex:List Md.Xt)(pad:Int)(pl:LA)(Q
 : BS):wB (aW [(98338,.int .i64),(98339,.lit (.bool false)),(98367,.lit (.bool false)),(98371,.lit (.bool false)),(98375,.lit (.bool false)),(98400,.int .i64),(98401,.str),(278539,.int
 .i64),(278541,.lit (.bool true)),(278550,.int .i64),(278551,.int .u64),(278570,.int .i64),(278571,.int .u64),(278572,.int .u64),(98418,.str)]) (aV []) a b c hid nx t5 t6 mk ty sq ti ss cs ex pad pl Q=(Lf (aV2 a b c
 (aA hid) hid.length [] 0 nx 0 (-1) 0)∧∃xs_0:QT,aL3 hid xs_0∧(∃cs_1:QT,∃ex_2:List Md.Xt,yF mk ty sq ti ss cs ex pad pl cs_1 ex_2∧∀s_3:LA,Lf (s_3=Md.encM mk ty sq ti ss cs_1 ex_2 pad pl) →
 exI .i64 (s_3.length:Int) (λn_4=>aHr n_4∧aQs sq∧∀z_5:Int,Lf (z_5=dP (-1) sq)->aSb z_5∧aGl z_5∧aK (AV.bool false)∧Lf (aF2 [aMi a b c hid nx,aIw mk ty sq ti ss t5 cs t6 ex pad pl,aP9,aMi a b c
 hid nx,bGa a b c xs_0 nx,sJ,aFd ss] (.sl 5 0 0 0 3))∧∃hid_6:QT,∃ex_7:List Md.Xt,bFa xs_0 hid_6 ex ex_7 b c∧∀ex'_8:List Md.Xt,Lf (ex'_8=oG hid_6 c b ss z_5 ex_7)->∃cs_9:QT,∃ex_10:List
 Md.Xt,yF mk ty sq ti ss cs ex'_8 pad pl cs_9 ex_10∧∀s_11:LA,Lf (s_11=Md.headM mk ty sq ti ss cs_9 ex_10 pad)->exI .i64 (s_11.length:Int) (λn_12=>ckQ (aIr n_12 s_3) (exS (aJq s_3 n_12) (λs_13=>Lf (aF2
 [aMi a b c hid nx,aIw mk ty sq ti ss t5 cs t6 ex pad pl,aP9,aMi a b c hid nx,bGa a b c xs_0 nx,sJ,aFd ss] (.sl 5 0 0 0 3))∧Lf (b.length=12)∧∀s_14:LA,Lf (s_14=fM b ss z_5)->ckQ (aHj a) (∀t_15 :
 LA,∀e_16:Int,Lf (nM a s_14 s_11 s_13=Prod.mk t_15 e_16)->exW .i64 (z_5 - -1) (λn_17=>aIp n_17∧exI .i64 (aR2 n_17 64) (λn_18=>ckQ (uO n_18) (exW .u64 (0*(2:Int)^Min.min n_18.toNat 64) (λn_19=>
 exW .i64 (z_5-z_5) (λn_20=>ckQ (uO n_20) (exW .u64 (1*(2:Int)^Min.min n_20.toNat 64) (λn_21=>exW .u64 (aI6 n_19 n_21) (λn_22=>ckQ (aH2 s_11 t_15) (exS (.str (s_11++t_15)) (λs_23=>Q (.ret (.tup [.agg
 (bAn a b c xs_0 nx),.str s_23,.int .i64 0])) [aMi a b c hid nx,aIw mk ty sq ti ss t5 cs t6 ex pad pl,Blk.mk BK.exact false (bAn a b c xs_0 nx),aMi a b c hid nx,Blk.mk BK.exact false (bAn a b c xs_0 nx),sJ,Blk.mk
 BK.exact true (aC1 ss z_5 n_22),bFm,Blk.mk BK.grow true (aC1 ss z_5 n_22)] {}))))))))))))))))∧∃cs_1:QT,∃ex_2:List Md.Xt,yF mk ty sq ti ss cs ex pad pl cs_1 ex_2∧∀s_3:LA,Lf (s_3=Md.encM mk ty sq ti
 ss cs_1 ex_2 pad pl)->exI .i64 (s_3.length:Int) (λn_4=>aHr n_4∧aQs sq∧∀z_5:Int,Lf (z_5=dP (-1) sq)->aSb z_5∧aGl z_5∧aK (AV.bool false)∧Lf (aF2 [aMi a b c hid nx,aIw mk ty sq ti ss t5 cs t6 ex pad
 pl,aP9,aMi a b c hid nx,Blk.mk BK.exact true [.str a,.str b,.str c,aKk xs_0,.nils,.int .i64 nx,.int .i64 0,.int .i64 (-1),.int .u64 0],aFd ss] .nils)∧∃hid_6:QT,∃ex_7:List Md.Xt,bFa xs_0 hid_6 ex ex_7 b c ∧
 ∀ex'_8:List Md.Xt,Lf (ex'_8=oG hid_6 c b ss z_5 ex_7)->∃cs_9:QT,∃ex_10:List Md.Xt,yF mk ty sq ti ss cs ex'_8 pad pl cs_9 ex_10∧∀s_11:LA,Lf (s_11=Md.headM mk ty sq ti ss cs_9 ex_10 pad)->exI .i64
 (s_11.length:Int) (λn_12=>ckQ (aIr n_12 s_3) (exS (aJq s_3 n_12) (λs_13=>Lf (aF2 [aMi a b c hid nx,aIw mk ty sq ti ss t5 cs t6 ex pad pl,aP9,aMi a b c hid nx,Blk.mk BK.exact true [.str a,.str b,.str c,aKk xs_0,
 .nils,.int .i64 nx,.int .i64 0,.int .i64 (-1),.int .u64 0],aFd ss] .nils)∧Lf (b.length=12)∧∀s_14:LA,Lf (s_14=fM b ss z_5)->ckQ (aHj a) (∀t_15:LA,∀e_16:Int,Lf (nM a s_14 s_11 s_13 =
 Prod.mk t_15 e_16)->exW .i64 (z_5 - -1) (λn_17=>aIp n_17∧exI .i64 (aR2 n_17 64) (λn_18=>ckQ (uO n_18) (exW .u64 (0*(2:Int)^Min.min n_18.toNat 64) (λn_19=>exW .i64 (z_5-z_5) (λn_20=>ckQ (uO n_20) (exW
 .u64 (1*(2:Int)^Min.min n_20.toNat 64) (λn_21=>exW .u64 (aI6 n_19 n_21) (λn_22=>ckQ (aH2 s_11 t_15) (exS (.str (s_11++t_15)) (λs_23=>Q (.ret (.tup [.agg (aZh a b c xs_0 nx),.str s_23,.int .i64 0])) [aMi a b
 c hid nx,aIw mk ty sq ti ss t5 cs t6 ex pad pl,Blk.mk BK.exact false (aZh a b c xs_0 nx),aMi a b c hid nx,Blk.mk BK.exact false (aZh a b c xs_0 nx),Blk.mk BK.exact true (aC1 ss z_5 n_22),bFm,Blk.mk BK.grow true (aC1 ss
 z_5 n_22)] {})))))))))))))))):=by kernel_rfl

noncomputable def wZ(hv:LI)(hb:LB)(a b c:LA)(hid:QT)(w:List Tr)(n:Nat)(nx:Int)(t5 t6:Nat)(mk:Bool)(ty sq ti ss:Int)(cs:QT)(ex:List Md.Xt)(pad:Int)(pl:LA)(Q:BS):Prop:=
 aT (e04 smU (λi=>bif Nat.beq i 64000 then some (aZt (n+1))else none) hv hb) (wpx (e04 smU (λi=>bif Nat.beq i 64000 then some (aZt (n+1))else none) hv hb) 1000) 24 [.agg [.str a,.str b,.str c,.lst 0 (aA hid) hid.length 1,.lst 0 (trM w) (n+1) 3,.int .i64 nx,.int .i64 0,.int .i64 (-1),.int .u64 0],.agg [.bool mk,.int .i64 ty,.int .i64 sq,.int .i64 ti,.int .i64 ss,.lst t5 (aA cs) cs.length 1,.lst t6 (Md.cellsXM ex) ex.length 2,.int .i64 pad,.str pl]] [] {} Q
abbrev aEz(w:List Tr)(n:Nat):AV:=.lst 0 (trM w) (n+1) 3
abbrev aX4(w:List Tr)(n:Nat):Bool:=Nat.beq (trM w).length ((n+1)*3)&&eH (trM w)&&true&&Nat.ble ((n+1)*24) 1099511627776
abbrev aZx(n:Nat):Bool:=Nat.ble (0+(n+1)) 1099511627776&&Nat.ble ((0+(n+1))*24) 1099511627776
abbrev aBw(w:List Tr):Bool:=Nat.beq ([]++trM w).length (0+(trM w).length)
abbrev yV(n:Nat):Int:=((0+(n+1):Nat):Int)
abbrev bKo(a b c:LA)(hid:QT)(w:List Tr)(n:Nat)(nx:Int):Prop:=aK [AV.str a,.str b,.str c,aKk hid,aEz w n,.int .i64 nx,.int .i64 0,.int .i64 (-1),.int .u64 0]
abbrev aW5:Prop:=aK [AV.str [],.str [],.str [],.nils,.nils,.int .i64 0,.int .i64 0,.int .i64 0,.int .u64 0]
abbrev aGo(w:List Tr):Nat:=0+(trM w).length
abbrev aA1(w:List Tr)(n:Nat):AV:=.sl 6 (aGo w) 0 (0+(n+1)) 3
abbrev nR(w:List Tr):Bool:=aP 0 ([]++trM w)
abbrev aD6(ss:Int):Prop:=aK (AV.int .i64 ss)
abbrev aX3(a b c:LA)(hid:QT)(w:List Tr)(n:Nat)(nx:Int)(mk:Bool)(ty sq ti ss:Int)(t5:Nat)(cs:QT)(t6:Nat)(ex:List Md.Xt)(pad:Int)(pl:LA)(xs_0:QT)(x_7:Nat)(n_6 n_5:Int):Prop:=bKo a b c hid w n nx∧aK [AV.bool mk,.int .i64 ty,.int .i64 sq,.int .i64 ti,.int .i64 ss,.lst t5 (aA cs) cs.length 1,.lst t6 (Md.cellsXM ex) ex.length 2,.int .i64 pad,.str pl]∧aW5∧bKo a b c hid w n nx∧aK [AV.str a,.str b,.str c,aKk xs_0,aA1 w n,.int .i64 nx,.int .i64 0,.int .i64 (-1),.int .u64 0]∧([]:HB)=[]∧ckQ (nR w==nR w) (aK ([]++trM w)∧aK (AV.ptr 4 9 0)∧aD6 ss∧aK (AV.sl 6 (aGo w) 0 (0+(n+1)) 3)∧AV.int .i64 0=AV.int .i64 (x_7:Int)∧aD6 n_6∧aD6 n_5∧True)
abbrev aZ0(y_13 x_7:Nat)(a b c:LA)(hid:QT)(w:List Tr)(n:Nat)(nx:Int)(mk:Bool)(ty sq ti ss:Int)(t5:Nat)(cs:QT)(t6:Nat)(ex:List Md.Xt)(pad:Int)(pl:LA)(xs_0:QT)(n_12 n_6 n_5:Int):Prop:=1000-y_13<1000-x_7∧bKo a b c hid w n nx∧aK [AV.bool mk,.int .i64 ty,.int .i64 sq,.int .i64 ti,.int .i64 ss,.lst t5 (aA cs) cs.length 1,.lst t6 (Md.cellsXM ex) ex.length 2,.int .i64 pad,.str pl]∧aW5∧bKo a b c hid w n nx∧aK [AV.str a,.str b,.str c,aKk xs_0,aA1 w n,.int .i64 nx,.int .i64 0,.int .i64 (-1),.int .u64 0]∧([]:HB)=[]∧ckQ (nR w==nR w) (aK ([]++trM w)∧aK (AV.ptr 4 9 0)∧aD6 ss∧aK (AV.sl 6 (aGo w) 0 (0+(n+1)) 3)∧AV.int .i64 n_12=AV.int .i64 (y_13:Int)∧aD6 n_6∧aD6 n_5∧True)
abbrev aLg(a b c:LA)(hid:QT)(w:List Tr)(n:Nat)(nx:Int):Blk:=Blk.mk BK.exact true [.str a,.str b,.str c,.lst 0 (aA hid) hid.length 1,aEz w n,.int .i64 nx,.int .i64 0,.int .i64 (-1),.int .u64 0]
abbrev bCo(a b c:LA)(xs_0:QT)(w:List Tr)(n:Nat)(nx:Int):Blk:=Blk.mk BK.exact false [.str a,.str b,.str c,aKk xs_0,.sl 6 (aGo w) 0 (0+(n+1)) 3,.int .i64 nx,.int .i64 0,.int .i64 (-1),.int .u64 0]
abbrev aM8(w:List Tr):Blk:=Blk.mk BK.grow (nR w) ([]++trM w)
abbrev aTy(w:List Tr):HB:=[]++trM w++[AV.int .i64 0,.int .i64 0,.int .u64 0]
abbrev aXr(a b c:LA)(xs_0:QT)(w:List Tr)(n:Nat)(nx:Int):HB:=[.str a,.str b,.str c,aKk xs_0,.sl 6 (aGo w+3) 0 (0+(n+1)+1) 3,.int .i64 nx,.int .i64 0,.int .i64 (-1),.int .u64 0]
theorem bDl(a:LA)(b:LA)(c:LA)(hid:QT)(w:List Tr)(n:Nat)(nx:Int)(t5:Nat)(t6:Nat)(mk:Bool)(ty:Int)(sq:Int)(ti:Int)(ss:Int)(cs:QT)(ex:List Md.Xt)(pad :
 Int) (pl:LA) (Q:BS):wZ (aW [(98338,.int .i64),(98339,.lit (.bool false)),(262158,.int .i64),(262164,.int .i64),(262167,.int .i64),(262169,.agg [.int .i64,.int .i64,.int .u64]),
 (262173,.lit (.bool false)),(262175,.int .i64),(262182,.int .i64),(262183,.lit (.bool false)),(98367,.lit (.bool false)),(98371,.lit (.bool false)),(98375,.lit (.bool false)),(98400,.int .i64),(98401,.str),(278539,.int
 .i64),(278541,.lit (.bool true)),(278550,.int .i64),(278551,.int .u64),(278570,.int .i64),(278571,.int .u64),(278572,.int .u64),(282636,.int .i64),(282637,.lit (.bool true)),(98418,.str)]) (aV [(466951,false),
 (1262144000,true),(282622,true),(286718,true)]) a b c hid w n nx t5 t6 mk ty sq ti ss cs ex pad pl Q=(Lf (aV2 a b c (aA hid) hid.length (trM w) (n+1) nx 0 (-1) 0)∧∃xs_0:QT,aL3 hid xs_0∧ckQ (dE [aEz w n]
 [aEz w n]&&true) (ckQ (aX4 w n) (ckQ (aZx n) (∃cs_1:QT,∃ex_2:List Md.Xt,yF mk ty sq ti ss cs ex pad pl cs_1 ex_2∧∀s_3:LA,Lf (s_3=Md.encM mk ty sq ti ss cs_1 ex_2 pad pl)->exI .i64 (s_3.length :
 Int) (λn_4=>aHr n_4∧ckQ (aBw w) (exI .i64 (yV n) (λn_5=>ckQ (aBw w) (exI .i64 (yV n) (λn_6=>(∃x_7:Nat,Lf (x_7<=n+1)∧aX3 a b c hid w n nx mk ty sq ti ss t5 cs t6 ex pad pl xs_0 x_7 n_6 n_5)∧∀x_7 :
 Nat,Lf (x_7<=n+1)->bif decide ((x_7:Int)<n_6)then exI .i64 (x_7:Int) (λn_8=>ckQ (Nat.blt (x_7:Int).toNat (0+(n+1))&&aBw w&&true) (ckQ (aBw w&&Nat.ble (0+(x_7:Int).toNat*3+3) (aGo w)) (∃n_9 n_10
 n_11,AV.agg ((([]++trM w).drop (0+(x_7:Int).toNat*3)).take 3)=AV.agg [.int .i64 n_9,.int .i64 n_10,.int .u64 n_11]∧AV.bool (n_9==ss)=AV.bool false∧exW .i64 ((x_7:Int)+1) (λn_12=>((nR w||aP 7 ([]++trM
 w))&&true)=true∧(True∧(0:Nat)=(0:Nat))∧∃y_13:Nat,Lf (y_13<=n+1)∧aZ0 y_13 x_7 a b c hid w n nx mk ty sq ti ss t5 cs t6 ex pad pl xs_0 n_12 n_6 n_5))))else ckQ (aBw w) (exI .i64 (yV n) (λn_8=>AV.bool
 (decide (n_5<n_8))=AV.bool false∧aQs sq∧∀z_9:Int,Lf (z_9=dP (-1) sq)->aSb z_9∧aGl z_9∧AV.bool (n_5==16)=AV.bool false∧Lf (aF2 [aLg a b c hid w n nx,aIw mk ty sq ti ss t5 cs t6 ex pad pl,aP9,aLg a
 b c hid w n nx,bCo a b c xs_0 w n nx,sJ,aM8 w,aFd ss] (aA1 w n))∧∃hid_10:QT,∃ex_11:List Md.Xt,bFa xs_0 hid_10 ex ex_11 b c∧∀ex'_12:List Md.Xt,Lf (ex'_12=oG hid_10 c b ss z_9 ex_11)->∃cs_13:List
 Int,∃ex_14:List Md.Xt,yF mk ty sq ti ss cs ex'_12 pad pl cs_13 ex_14∧∀s_15:LA,Lf (s_15=Md.headM mk ty sq ti ss cs_13 ex_14 pad)->exI .i64 (s_15.length:Int) (λn_16=>ckQ (aIr n_16 s_3) (exS (aJq s_3 n_16)
 (λs_17=>Lf (aF2 [aLg a b c hid w n nx,aIw mk ty sq ti ss t5 cs t6 ex pad pl,aP9,aLg a b c hid w n nx,bCo a b c xs_0 w n nx,sJ,aM8 w,aFd ss] (aA1 w n))∧Lf (b.length=12)∧∀s_18:LA,Lf (s_18=fM
 b ss z_9)->ckQ (aHj a) (∀t_19:LA,∀e_20:Int,Lf (nM a s_18 s_15 s_17=Prod.mk t_19 e_20)->exW .i64 (z_9 - -1) (λn_21=>aIp n_21∧exI .i64 (aR2 n_21 64) (λn_22=>ckQ (uO n_22) (exW .u64 (0*(2:Int) ^
 Min.min n_22.toNat 64) (λn_23=>exW .i64 (z_9-z_9) (λn_24=>ckQ (uO n_24) (exW .u64 (1*(2:Int)^Min.min n_24.toNat 64) (λn_25=>exW .u64 (aI6 n_23 n_25) (λn_26=>((nR w||aP 8 ([]++trM w))&&true) =
 true∧ckQ (aBw w) (exI .i64 (yV n) (λn_27=>AV.bool (n_5==n_27)=AV.bool true∧ckQ (aBw w&&true&&Nat.beq (0+(0+(n+1))*3) (aGo w)&&Nat.ble (0+(n+1)+1) 1099511627776&&Nat.ble ((0+(n+1)+1)*24)
 1099511627776) (ckQ (decide (0<=n_5)&&Nat.blt n_5.toNat (0+(n+1)+1)&&Nat.beq (aTy w).length (aGo w+3)&&true) (ckQ (Nat.beq (aTy w).length (aGo w+3)&&Nat.ble (0+n_5.toNat*3+3) (aGo w+3)&&true&&true &&
 true) (((nR w&&true&&true||aP 8 (aN (aTy w) (0+n_5.toNat*3) (aC1 ss z_9 n_26)))&&true)=true∧ckQ (aH2 s_15 t_19) (exS (.str (s_15++t_19)) (λs_28=>Q (.ret (.tup [.agg (aXr a b c xs_0 w n nx),.str
 s_28,.int .i64 0])) [aLg a b c hid w n nx,aIw mk ty sq ti ss t5 cs t6 ex pad pl,Blk.mk BK.exact false (aXr a b c xs_0 w n nx),aLg a b c hid w n nx,Blk.mk BK.exact false (aXr a b c xs_0 w n nx),sJ,Blk.mk BK.grow (nR w &&
 true&&true) (aN (aTy w) (0+n_5.toNat*3) (aC1 ss z_9 n_26)),Blk.mk BK.exact true (aC1 ss z_9 n_26)] {}))))))))))))))))))))))))))))∧True)):=by kernel_rfl

noncomputable def wW(hv:LI)(hb:LB)(a b c:LA)(hid:QT)(w:List Tr)(n k:Nat)(nx:Int)(t5 t6:Nat)(mk:Bool)(ty sq ti ss:Int)(cs:QT)(ex:List Md.Xt)(pad:Int)(pl:LA)(Q:BS):Prop:=
 aT (e04 smU (λi=>bif Nat.beq i 64000 then some (aZt k)else none) hv hb) (wpx (e04 smU (λi=>bif Nat.beq i 64000 then some (aZt k)else none) hv hb) 1000) 24 [.agg [.str a,.str b,.str c,.lst 0 (aA hid) hid.length 1,.lst 0 (trM w) (n+1) 3,.int .i64 nx,.int .i64 0,.int .i64 (-1),.int .u64 0],.agg [.bool mk,.int .i64 ty,.int .i64 sq,.int .i64 ti,.int .i64 ss,.lst t5 (aA cs) cs.length 1,.lst t6 (Md.cellsXM ex) ex.length 2,.int .i64 pad,.str pl]] [] {} Q
theorem bH4(a:LA)(b:LA)(c:LA)(hid:QT)(w:List Tr)(n:Nat)(k:Nat)(nx:Int)(t5:Nat)(t6:Nat)(mk:Bool)(ty:Int)(sq:Int)(ti:Int)(ss:Int)(cs:QT)(ex:List Md.Xt)
 (pad:Int) (pl:LA) (Q:BS):wW (aW [(98338,.int .i64),(98339,.lit (.bool false)),(262158,.int .i64),(262164,.int .i64),(262166,.lit (.bool true)),(262167,.int .i64),(262169,.agg
 [.int .i64,.int .i64,.int .u64]),(262182,.int .i64),(262183,.lit (.bool true)),(262191,.agg [.int .i64,.int .i64,.int .u64]),(98371,.lit (.bool false)),(98375,.lit (.bool false)),(98400,.int .i64),(98401,.str),(278539,
 .int .i64),(278541,.lit (.bool true)),(278550,.int .i64),(278551,.int .u64),(278570,.int .i64),(278571,.int .u64),(278572,.int .u64),(282636,.int .i64),(282637,.lit (.bool false)),(98418,.str),(262175,.int .i64)])
 (aV [(466951,false),(282622,true),(286718,true),(1262144000,true)]) a b c hid w n k nx t5 t6 mk ty sq ti ss cs ex pad pl Q=(Lf (aV2 a b c (aA hid) hid.length (trM w) (n+1) nx 0 (-1) 0)∧∃xs_0:QT,aL3 hid xs_0
 ∧ ckQ (dE [aEz w n] [aEz w n]&&true) (ckQ (aX4 w n) (ckQ (aZx n) (∃cs_1:QT,∃ex_2:List Md.Xt,yF mk ty sq ti ss cs ex pad pl cs_1 ex_2∧∀s_3:LA,Lf (s_3=Md.encM mk ty sq ti ss cs_1 ex_2 pad pl) →
 exI .i64 (s_3.length:Int) (λn_4=>aHr n_4∧ckQ (aBw w) (exI .i64 (yV n) (λn_5=>ckQ (aBw w) (exI .i64 (yV n) (λn_6=>(∃x_7:Nat,Lf (x_7<=k)∧aX3 a b c hid w n nx mk ty sq ti ss t5 cs t6 ex pad pl xs_0 x_7
 n_6 n_5)∧∀x_7:Nat,Lf (x_7<=k)->AV.bool (decide ((x_7:Int)<n_6))=AV.bool true∧exI .i64 (x_7:Int) (λn_8=>ckQ (Nat.blt (x_7:Int).toNat (0+(n+1))&&aBw w&&true) (ckQ (aBw w&&Nat.ble (0+(x_7:Int).toNat *
 3+3) (aGo w)) (∃n_9 n_10 n_11,AV.agg ((([]++trM w).drop (0+(x_7:Int).toNat*3)).take 3)=AV.agg [.int .i64 n_9,.int .i64 n_10,.int .u64 n_11]∧bif n_9==ss then ckQ (aBw w) (exI .i64 (yV n) (λn_12=>AV.bool (decide
 (n_8<n_12))=AV.bool true∧ckQ (decide (0<=n_8)&&Nat.blt n_8.toNat (0+(n+1))&&aBw w&&true) (ckQ (aBw w&&Nat.ble (0+n_8.toNat*3+3) (aGo w)) (∃n_13 n_14 n_15,AV.agg ((([]++trM w).drop (0+n_8.toNat*3)).take
 3)=AV.agg [.int .i64 n_13,.int .i64 n_14,.int .u64 n_15]∧Lf ((-1<=n_14∧n_14<=9223372036854000000)∧0<=sq∧sq<=65535)∧∀z_16:Int,Lf (z_16=dP n_14 sq)->bif decide (z_16<=n_14)then Q (.ret (.tup [.agg aP2,.str
 [],.int .i64 10])) [] {}else aGl z_16∧AV.bool (n_8==16)=AV.bool false∧Lf (aF2 [aLg a b c hid w n nx,aIw mk ty sq ti ss t5 cs t6 ex pad pl,aP9,aLg a b c hid w n nx,bCo a b c xs_0 w n nx,sJ,aM8 w,Blk.mk BK.exact
 true [.int .i64 n_9,.int .i64 n_10,.int .u64 n_11],Blk.mk BK.exact true [.int .i64 n_13,.int .i64 n_14,.int .u64 n_15]] (aA1 w n))∧∃hid_17:QT,∃ex_18:List Md.Xt,bFa xs_0 hid_17 ex ex_18 b c∧∀ex'_19:List Md.Xt,
 Lf (ex'_19=oG hid_17 c b ss z_16 ex_18)->∃cs_20:QT,∃ex_21:List Md.Xt,yF mk ty sq ti ss cs ex'_19 pad pl cs_20 ex_21∧∀s_22:LA,Lf (s_22=Md.headM mk ty sq ti ss cs_20 ex_21 pad)->exI .i64 (s_22.length :
 Int) (λn_23=>ckQ (aIr n_23 s_3) (exS (aJq s_3 n_23) (λs_24=>Lf (aF2 [aLg a b c hid w n nx,aIw mk ty sq ti ss t5 cs t6 ex pad pl,aP9,aLg a b c hid w n nx,bCo a b c xs_0 w n nx,sJ,aM8 w,Blk.mk BK.exact true
 [.int .i64 n_9,.int .i64 n_10,.int .u64 n_11],Blk.mk BK.exact true [.int .i64 n_13,.int .i64 n_14,.int .u64 n_15]] (aA1 w n))∧Lf (b.length=12)∧∀s_25:LA,Lf (s_25=fM b ss z_16)->ckQ (aHj a) (∀t_26:List
 UInt8,∀e_27:Int,Lf (nM a s_25 s_22 s_24=Prod.mk t_26 e_27)->exW .i64 (z_16-n_14) (λn_28=>aIp n_28∧exI .i64 (aR2 n_28 64) (λn_29=>ckQ (uO n_29) (exW .u64 (n_15*(2:Int)^Min.min n_29.toNat 64) (λn_30=>
 exW .i64 (z_16-z_16) (λn_31=>ckQ (uO n_31) (exW .u64 (1*(2:Int)^Min.min n_31.toNat 64) (λn_32=>exW .u64 (aI6 n_30 n_32) (λn_33=>((nR w||aP 9 ([]++trM w))&&true)=true∧ckQ (aBw w) (exI .i64 (yV
 n) (λn_34=>AV.bool (n_8==n_34)=AV.bool false∧ckQ (decide (0<=n_8)&&Nat.blt n_8.toNat (0+(n+1))&&aBw w&&true) (ckQ (aBw w&&Nat.ble (0+n_8.toNat*3+3) (aGo w)&&true&&true&&true) (((nR w&&true ||
 aP 9 (aN ([]++trM w) (0+n_8.toNat*3) [.int .i64 n_13,.int .i64 z_16,.int .u64 n_33]))&&true)=true∧ckQ (aH2 s_22 t_26) (exS (.str (s_22++t_26)) (λs_35=>Q (.ret (.tup [.agg [.str a,.str b,.str c,aKk xs_0,
 aA1 w n,.int .i64 nx,.int .i64 0,.int .i64 (-1),.int .u64 0],.str s_35,.int .i64 0])) [aLg a b c hid w n nx,aIw mk ty sq ti ss t5 cs t6 ex pad pl,bCo a b c xs_0 w n nx,aLg a b c hid w n nx,bCo a b c xs_0 w n nx,sJ,
 Blk.mk BK.grow (nR w&&true) (aN ([]++trM w) (0+n_8.toNat*3) [.int .i64 n_13,.int .i64 z_16,.int .u64 n_33]),Blk.mk BK.exact true [.int .i64 n_9,.int .i64 n_10,.int .u64 n_11],Blk.mk BK.exact true [.int .i64 n_13,
 .int .i64 z_16,.int .u64 n_33]] {}))))))))))))))))))))))else exW .i64 ((x_7:Int)+1) (λn_12=>((nR w||aP 7 ([]++trM w))&&true)=true∧(True∧(0:Nat)=(0:Nat))∧∃y_13:Nat,Lf (y_13<=k)∧aZ0 y_13 x_7 a b c
 hid w n nx mk ty sq ti ss t5 cs t6 ex pad pl xs_0 n_12 n_6 n_5)))))))))))∧True)):=by kernel_rfl

theorem aTo(n:Nat):IntKind.wrap .u64 (n:Int)=((n%18446744073709551616:Nat):Int):=by
 rw[show IntKind.wrap .u64 (n:Int)=(n:Int)%18446744073709551616 from rfl];omega
theorem bT{p:Prop}[Decidable p](h:p):AV.bool (decide p)=AV.bool true:=by rw[bXr h]
theorem bF{p:Prop}[Decidable p](h:¬ p):AV.bool (decide p)=AV.bool false:=by rw[bXt h]
theorem aQr:∀l m:List Tr,trM (l++m)=trM l++trM m
 | [],_=>rfl
 | t::l,m=>by simp[trM,aQr l m]
theorem aGy(x:Tr):∀ (l:List Tr) (i:Nat),i<l.length->aN (trM l) (i*3) [.int .i64 x.1,.int .i64 x.2.1,.int .u64 (x.2.2:Nat)]=trM (l.set i x)
 | [],i,h=>by simp at h
 | t::l,0,_=>rfl
 | t::l,i+1,h=>by
  have ih:=aGy x l i (by simpa using h)
  unfold aN at ih ⊢
  rw[show(i+1)*3=i*3+1+1+1 by omega,cBo,trM,trM,←ih]
  simp only[bY7,bX0,bXc,bXm]
  rw[show i*3+1+1+1+(0+1+1+1)=(i*3+(0+1+1+1))+1+1+1 by omega]
  simp only[bZm]
structure pkU (a b c:LA) (hid:QT) (mk:Bool) (ty sq ti ss:Int) (cs:QT) (ex:List Md.Xt) (pad:Int) (pl:LA) (z:Int) (ex':List Md.Xt):Prop where
 n:a.length=32∧b.length=12∧c.length=32
 e:oG hid c b ss z ex=ex'
 k1:bPs mk ty sq ti ss (aA cs) cs.length (Md.cellsXM ex) ex.length pad pl cs ex
 k2:bPs mk ty sq ti ss (aA cs) cs.length (Md.cellsXM ex') ex'.length pad pl cs ex'
 m:hid.length<=1000000∧ex.length<=1000000∧(bZ hid ex).length<=4096
 s:0<=sq∧sq<=65535
 l:(Md.encM mk ty sq ti ss cs ex pad pl).length<=1184∧(Md.encM mk ty sq ti ss cs ex' pad pl).length=(Md.encM mk ty sq ti ss cs ex pad pl).length
 h:(Md.headM mk ty sq ti ss cs ex' pad).length=(Md.headM mk ty sq ti ss cs ex pad).length∧(Md.headM mk ty sq ti ss cs ex pad).length+(pl++Md.padMMd pad).length=(Md.encM mk ty sq ti ss cs ex pad pl).length
 t:(nM a (fM b ss z) (Md.headM mk ty sq ti ss cs ex' pad) (pl++Md.padMMd pad)).1.length=(pl++Md.padMMd pad).length+16
theorem xI{a b c:LA}{hid:QT}{mk:Bool}{ty sq ti ss:Int}{cs:QT}{ex:List Md.Xt}{pad:Int}{pl:LA}(z:Int)(hn:dA a b c hid=true)(hr:Md.rightMMd ty sq ti ss cs ex pad=true)(hl:(Md.encM mk ty sq ti ss cs ex pad pl).length<=1184) :
  ∃ex',pkU a b c hid mk ty sq ti ss cs ex pad pl z ex':=by
 obtain⟨n1,n2,n3⟩:=aAb hn
 have n4:=aKc hn
 obtain⟨⟨r1,r2⟩,r3,r4,r5,⟨r6,r7⟩,r8,r9⟩:=nU hr
 have hL:(Md.encM mk ty sq ti ss cs ex pad pl).length=(Md.headM mk ty sq ti ss cs ex pad).length+(pl++Md.padMMd pad).length:=by
  rw[Md.encM];simp only[bW2];omega
 have hpl:pl.length<=1184:=by rw[bW2]at hL;omega
 have hcat:=aVl hid mk ty sq ti ss cs ex pad
 have hshp:=aXl (hid:=hid) (mk:=c) (sa:=b) (ss:=ss) (ix:=z) (ex:=ex) n3 n2 (by omega)
 obtain⟨s1,s2,s3,_⟩:=aW9 (mk:=mk) (ty:=ty) (sq:=sq) (ti:=ti) (ss:=ss) (cs:=cs) pad hshp
 have hr':=s2.trans hr
 have r5':=(nU hr').2.2.2.1
 refine⟨oG hid c b ss z ex, ?_⟩
 generalize hx':oG hid c b ss z ex=ex' at *
 have hL':(Md.encM mk ty sq ti ss cs ex' pad pl).length=(Md.encM mk ty sq ti ss cs ex pad pl).length:=by
  rw[Md.encM,Md.encM];simp only[bW2,s1]
 have hno:=pK n2 ss z
 exact⟨⟨n1,n2,n3⟩,hx',⟨⟨⟨rfl,rfl,rfl,rfl,by omega,by omega,λx hx=>by have:=r5 x hx;omega⟩,by omega⟩,hr,by omega⟩,⟨⟨⟨rfl,rfl,rfl,rfl,by omega,by omega,λx hx=>by have:=r5' x hx;omega⟩,by omega⟩,hr',by omega⟩,
  ⟨by omega,by omega,by omega⟩,⟨r1,r2⟩,⟨hl,hL'⟩,⟨s1,hL.symm⟩,aFv n1 hno (by omega) (by omega)⟩
theorem aUf{H:HV}{id tot n:Nat}{bk:Blk}{a b c p:LA}{hid:QT}{nx:Int}{w:List Tr}(h1:H[id]? = some bk)(h2:bk.cs=trM w)(h3:tot=w.length*3)(h4:n=w.length)(h5:bk.k≠.ro) :
  bAt (.tup [.agg [.str a,.str b,.str c,.lst 0 (aA hid) hid.length 1,.sl id tot 0 n 3,.int .i64 nx,.int .i64 0,.int .i64 (-1),.int .u64 0],.str p,.int .i64 0]) H=.tup [shV 0 0 a b c hid w nx 0 (-1) 0,.str p,.int .i64 0]:=by
 have hl:=pO w
 have e:bU 0 H 9 (.tup [.agg [.str a,.str b,.str c,.lst 0 (aA hid) hid.length 1,.sl id tot 0 n 3,.int .i64 nx,.int .i64 0,.int .i64 (-1),.int .u64 0],.str p,.int .i64 0])=.tup [.agg [.str a,.str b,.str c,.lst 0 (aA hid) hid.length 1,bU 0 H 7 (.sl id tot 0 n 3),.int .i64 nx,.int .i64 0,.int .i64 (-1),.int .u64 0],.str p,.int .i64 0]:=rfl
 rw[bAt,e,aR1 (d:=5) h1 (by rw[h2,h3,hl]) (by omega) h5 (by rw[h2,bXl,bW4 (by rw[hl];omega)]) (bOu w),h4]
 rfl
theorem aS6{a b c:LA}{hid:QT}{nx:Int}{t5 t6:Nat}{mk:Bool}{ty sq ti ss:Int}{cs:QT}{ex:List Md.Xt}{pad:Int}{pl:LA}{Q:BS}
  (hn:dA a b c hid=true) (hr:Md.rightMMd ty sq ti ss cs ex pad=true) (hl:(Md.encM mk ty sq ti ss cs ex pad pl).length<=1184) (hv:dQ a b c hid [] nx 0 (-1) 0=true)
  (hq:∀p v H g,bAt v H=.tup [shV 0 0 a b c hid [(ss,sq,1)] nx 0 (-1) 0,.str p,.int .i64 0]->Q (.ret v) H g):∃hv hb,wB hv hb a b c hid nx t5 t6 mk ty sq ti ss cs ex pad pl Q:=by
 obtain⟨ex',⟨n1,n2,n3⟩,hx',k1,k2,⟨m1,m2,m3⟩,⟨q1,q2⟩,⟨l1,l2⟩,⟨d1,d2⟩,d3⟩:=xI sq hn hr hl
 have hok:aV2 a b c (aA hid) hid.length [] 0 nx 0 (-1) 0:=⟨hid,[],0,⟨rfl,rfl,rfl,rfl,rfl,by omega,λt h=>by simp at h,by omega,by omega⟩,hv⟩
 have hg:dP (-1) sq=sq:=rfl
 obtain⟨hv,hb',e⟩:∃hv hb,wB hv hb a b c hid nx t5 t6 mk ty sq ti ss cs ex pad pl Q=_:=⟨_,_,bGs a b c hid nx t5 t6 mk ty sq ti ss cs ex pad pl Q⟩
 refine⟨hv,hb',e.mpr ?_⟩
 delta aC1 bFm aZh aKk aMi aIw aH2 aI6 uO aIp aHj aFd aP9 aP2 aJq aIr yF bFa aGl aSb aQs aHr sJ bAn bGa aL3
 clear e
 refine⟨⟨hok⟩,hid,⟨rfl,rfl,m1⟩, ?_, ?_⟩ <;>
 ·refine⟨cs,ex,⟨k1⟩, ?_⟩
  rintro s3 ⟨rfl⟩
  refine⟨_,rfl,bF (by omega),⟨by omega,q1,q2⟩, ?_⟩
  rintro z5 ⟨hz5⟩
  obtain rfl:sq=z5:=hz5.symm
  refine⟨bF (by omega),bF (by omega), ?_⟩
  first
  | refine⟨rfl,⟨.inr ⟨5,0,0,rfl,by simp,rfl,rfl,by simp⟩⟩,hid,ex,⟨rfl,rfl,rfl,rfl,m1,m2,m3,n2,n3⟩, ?_⟩
  | refine⟨rfl,⟨.inl ⟨rfl,rfl⟩⟩,hid,ex,⟨rfl,rfl,rfl,rfl,m1,m2,m3,n2,n3⟩, ?_⟩
  rintro e8 ⟨h8⟩
  rw[hx']at h8
  subst h8
  refine⟨cs,e8,⟨k2⟩, ?_⟩
  rintro s11 ⟨rfl⟩
  refine⟨_,rfl,ckO ⟨pl++Md.padMMd pad, ?_, ?_,⟨n2⟩, ?_⟩⟩
  ·rw[bXf,aA5 _ _ _ _ _ _ _ _ _ d1,bW4 (by omega)]
  ·first | exact⟨.inr ⟨5,0,0,rfl,by simp,rfl,rfl,by simp⟩⟩ | exact⟨.inl ⟨rfl,rfl⟩⟩
  rintro s14 ⟨rfl⟩
  refine ckF ?_
  rintro t15 e16 ⟨h15⟩
  rw[h15]at d3
  refine aF ⟨bT (by omega),Md.iminI (a:=(sq+1).toNat) (b:=64) (by omega) (ckI (by simp;try omega) ?_)⟩
  rw[Int.zero_mul]
  refine wU (by omega) (by omega) (aF (ckI (by simp) ?_))
  rw[show(1:Int)*2^Min.min (Int.toNat (sq-sq)) 64=1 by rw[Int.sub_self];rfl]
  refine wU (by omega) (by omega) ?_
  show exW .u64 (1:Int) _
  exact wU (by omega) (by omega) (ckI (by dsimp only at d3;simp;omega) ⟨_,rfl,hq _ _ _ _ rfl⟩)
theorem aQy{H:HV}{j n m:Nat}{t:Tr}{l:List Tr}(hj:j<H.length)(h:(H.getD j ⟨.ro,false,[]⟩).cs=trM (t::l)):aF2 H (.sl j n 0 m 3):=
 .inr ⟨j,n,m,rfl,hj,by rw[h];exact(vC _).1,by rw[h];exact(vC _).2.1,λc=>by rw[h,trM];simp⟩
theorem bCn{n:Nat}{l:HB}(h:aP 0 l=true):aP n l=true:=cB (bYb n) l h
theorem bGo{w:List Tr}{i:Nat}(h:i<w.length){K:Int->Int->Int->Prop}(k:K w[i].1 w[i].2.1 (w[i].2.2:Nat)):∃n m u,AV.agg ((([]++trM w).drop (0+Int.toNat (i:Int)*3)).take 3)=AV.agg [.int .i64 n,.int .i64 m,.int .u64 u]∧K n m u:=by
 refine⟨_,_,_, ?_,k⟩
 rw[bX2,bY6,bXf,xA w i h]
theorem aSx{a b c:LA}{hid:QT}{t:Tr}{l:List Tr}{nx:Int}{t5 t6:Nat}{mk:Bool}{ty sq ti ss:Int}{cs:QT}{ex:List Md.Xt}{pad:Int}{pl:LA}{Q:BS}
  (hn:dA a b c hid=true) (hr:Md.rightMMd ty sq ti ss cs ex pad=true) (hl:(Md.encM mk ty sq ti ss cs ex pad pl).length<=1184) (hv:dQ a b c hid (t::l) nx 0 (-1) 0=true) (hk:aWa (t::l)) (hl16:l.length+1<16) (hne:∀x∈t::l,x.1≠ss)
  (hq:∀p v H g,bAt v H=.tup [shV 0 0 a b c hid (t::l++[(ss,sq,1)]) nx 0 (-1) 0,.str p,.int .i64 0]->Q (.ret v) H g):∃hv hb,wZ hv hb a b c hid (t::l) l.length nx t5 t6 mk ty sq ti ss cs ex pad pl Q:=by
 obtain⟨ex',⟨n1,n2,n3⟩,hx',k1,k2,⟨m1,m2,m3⟩,⟨q1,q2⟩,⟨l1,l2⟩,⟨d1,d2⟩,d3⟩:=xI sq hn hr hl
 have hok:aV2 a b c (aA hid) hid.length (trM (t::l)) (l.length+1) nx 0 (-1) 0:=⟨hid,t::l,0,⟨rfl,rfl,rfl,rfl,rfl,by omega,hk,by omega,by omega⟩,hv⟩
 have hg:dP (-1) sq=sq:=rfl
 have hln:=pO (t::l)
 have hot:aP 0 (trM (t::l))=true:=(vC _).1
 have hol:∀n,aP n ([]++trM (t::l))=true:=λn=>bCn (vC _).1
 have hoX:∀ (H:HV) (n m:Nat) (lf:Bool),6<H.length->H.getD 6 ⟨.ro,false,[]⟩=⟨.grow,lf,[]++trM (t::l)⟩->aF2 H (.sl 6 n 0 m 3):=λH n m lf h1 h2=>aQy h1 (by rw[h2];rfl)
 obtain⟨hv,hb',e⟩:∃hv hb,wZ hv hb a b c hid (t::l) l.length nx t5 t6 mk ty sq ti ss cs ex pad pl Q=_:=⟨_,_,bDl a b c hid (t::l) l.length nx t5 t6 mk ty sq ti ss cs ex pad pl Q⟩
 refine⟨hv,hb',e.mpr ?_⟩
 delta aC1 aTy nR sJ aXr aGo aKk aLg aEz aIw aH2 aBw yV aI6 uO aIp aHj aA1 aFd aM8 bCo aP9 aP2 aJq aIr yF bFa aGl aSb aQs aZ0 aD6 bKo aW5 aX3 aHr aZx aX4 aL3
 clear e
 have hw:(t::l).length=l.length+1:=rfl
 generalize hW:t::l=w at *
 have hwl:w.length=l.length+1:=hw
 refine⟨⟨hok⟩,hid,⟨rfl,rfl,m1⟩,ckF ⟨ckI (by rw[(vC w).2.2];simp[bS,hln];omega) (ckO ⟨cs,ex,⟨k1⟩, ?_⟩),trivial⟩⟩
 rintro s3 ⟨rfl⟩
 refine⟨_,rfl,bF (by omega),ckI (by simp[bS]) ⟨_,rfl,ckI (by simp[bS]) ⟨_,rfl,⟨0,⟨by omega⟩,rfl,rfl,rfl,rfl,rfl,rfl,ckI (by simp) ⟨rfl,rfl,rfl,rfl,rfl,rfl,rfl,trivial⟩⟩, ?_⟩⟩⟩
 rintro i ⟨hi⟩
 refine aH (λh => ?_) (λh => ?_)
 ·have hil:i<w.length:=by omega
  refine⟨_,rfl,ckI (by simp[bS];omega) (ckI (by simp[bS,hln];omega) (bGo hil ⟨?_,aF ⟨by simp[hot,hol],⟨trivial,rfl⟩,i+1,⟨by omega⟩,by omega,rfl,rfl,rfl,rfl,rfl,rfl,ckI (by simp) ⟨rfl,rfl,rfl,rfl,rfl,rfl,rfl,trivial⟩⟩⟩))⟩
  exact bF (p:=w[i].1=ss) (hne _ (bXk hil))
 refine ckI (by simp[bS]) ⟨_,rfl,bF (by omega),⟨by omega,q1,q2⟩, ?_⟩
 rintro z5 ⟨hz5⟩
 obtain rfl:sq=z5:=hz5.symm
 refine⟨bF (by omega),bF (by omega),bF (p:=((0+(l.length+1):Nat):Int)=16) (by omega),⟨hoX _ _ _ _ (by simp) rfl⟩,hid,ex,⟨rfl,rfl,rfl,rfl,m1,m2,m3,n2,n3⟩, ?_⟩
 rintro e8 ⟨h8⟩
 rw[hx']at h8
 subst h8
 refine⟨cs,e8,⟨k2⟩, ?_⟩
 rintro s11 ⟨rfl⟩
 refine⟨_,rfl,ckO ⟨pl++Md.padMMd pad, ?_,⟨hoX _ _ _ _ (by simp) rfl⟩,⟨n2⟩, ?_⟩⟩
 ·rw[bXf,aA5 _ _ _ _ _ _ _ _ _ d1,bW4 (by omega)]
 rintro s14 ⟨rfl⟩
 refine ckF ?_
 rintro t15 e16 ⟨h15⟩
 rw[h15]at d3
 refine aF ⟨bT (by omega),Md.iminI (a:=(sq+1).toNat) (b:=64) (by omega) (ckI (by simp;try omega) ?_)⟩
 rw[Int.zero_mul]
 refine wU (by omega) (by omega) (aF (ckI (by simp) ?_))
 rw[show(1:Int)*2^Min.min (Int.toNat (sq-sq)) 64=1 by rw[Int.sub_self];rfl]
 refine wU (by omega) (by omega) ?_
 show exW .u64 (1:Int) _
 have hset:aN ([]++trM w++[AV.int .i64 0,.int .i64 0,.int .u64 0]) (0+Int.toNat ((0+(l.length+1):Nat):Int)*3) [.int .i64 ss,.int .i64 sq,.int .u64 1]=trM (w++[(ss,sq,1)]):=by
  rw[bY6,bY6,bXf,bX2,show[AV.int .i64 0,.int .i64 0,.int .u64 0]=trM [((0:Int),(0:Int),(0:Nat))]from rfl,←aQr]
  refine(aGy (ss,sq,1) _ _ (by simp;omega)).trans ?_
  rw[bZ0 _ _ (by omega),hwl,bZ4]
  rfl
 refine wU (by omega) (by omega) ⟨by simp[hot,hol],ckI (by simp[bS]) ⟨_,rfl,bT (p:=((0+(l.length+1):Nat):Int)=((0+(l.length+1):Nat):Int)) rfl,ckI (by simp[bS,hln,hwl]<;>omega) (ckI (by simp[bS,hln,hwl]<;>omega) (ckI (by simp[bS,hln,hwl]<;>omega) ⟨by simp[hot,hol],ckI (by dsimp only at d3;simp;omega) ⟨_,rfl,hq _ _ _ _ (aUf (id:=6) rfl hset (by simp[hln];omega) (by simp;omega) (by simp))⟩⟩))⟩⟩
theorem aSj{a b c:LA}{hid:QT}{w:List Tr}{n k:Nat}{nx:Int}{t5 t6:Nat}{mk:Bool}{ty sq ti ss:Int}{cs:QT}{ex:List Md.Xt}{pad:Int}{pl:LA}{Q:BS}
  (hn:dA a b c hid=true) (hr:Md.rightMMd ty sq ti ss cs ex pad=true) (hl:(Md.encM mk ty sq ti ss cs ex pad pl).length<=1184) (hv:dQ a b c hid w nx 0 (-1) 0=true) (hk:aWa w) (hwl:w.length=n+1) (hl16:n+1<16) (hkw:k<w.length) (hks:w[k].1=ss) (hne:∀i (h:i<k),w[i].1≠ss)
  (ht : -1<=w[k].2.1∧w[k].2.1<=9223372036854000000) (hz:dP w[k].2.1 sq<=281474976710655) (hu:w[k].2.2<18446744073709551616)
  (ho:∀v H g,bAt v H=.tup [.agg [.str [],.str [],.str [],.lst 0 [] 0 1,.lst 0 [] 0 3,.int .i64 0,.int .i64 0,.int .i64 0,.int .u64 0],.str [],.int .i64 10]->Q (.ret v) H g)
  (hq:w[k].2.1<dP w[k].2.1 sq->∀p v H g,bAt v H=.tup [shV 0 0 a b c hid (w.set k (ss,dP w[k].2.1 sq,w[k].2.2*2^min (dP w[k].2.1 sq-w[k].2.1).toNat 64%18446744073709551616 ||| 1)) nx 0 (-1) 0,.str p,.int .i64 0]->Q (.ret v) H g):∃hv hb,wW hv hb a b c hid w n k nx t5 t6 mk ty sq ti ss cs ex pad pl Q:=by
 obtain⟨ex',⟨n1,n2,n3⟩,hx',k1,k2,⟨m1,m2,m3⟩,⟨q1,q2⟩,⟨l1,l2⟩,⟨d1,d2⟩,d3⟩:=xI (dP w[k].2.1 sq) hn hr hl
 have hok:aV2 a b c (aA hid) hid.length (trM w) (n+1) nx 0 (-1) 0:=⟨hid,w,0,⟨rfl,rfl,rfl,by omega,rfl,by omega,hk,by omega,by omega⟩,hv⟩
 have hln:=pO w
 have hot:aP 0 (trM w)=true:=(vC _).1
 have hol:∀n,aP n ([]++trM w)=true:=λn=>bCn (vC _).1
 have hoX:∀ (H:HV) (n m:Nat) (lf:Bool),6<H.length->H.getD 6 ⟨.ro,false,[]⟩=⟨.grow,lf,[]++trM w⟩->aF2 H (.sl 6 n 0 m 3):=λH n m lf h1 h2=>by
  cases w with
  | nil=>simp at hwl
  | cons t l=>exact aQy h1 (by rw[h2];rfl)
 obtain⟨hv,hb',e⟩:∃hv hb,wW hv hb a b c hid w n k nx t5 t6 mk ty sq ti ss cs ex pad pl Q=_:=⟨_,_,bH4 a b c hid w n k nx t5 t6 mk ty sq ti ss cs ex pad pl Q⟩
 refine⟨hv,hb',e.mpr ?_⟩
 delta aZ0 aD6 aGo nR aA1 aKk bKo aEz aW5 sJ bCo aLg aIw aH2 aBw yV aI6 uO aIp aHj aM8 aP9 aP2 aJq aIr yF bFa aGl aX3 aHr aZx aX4 aL3
 clear e
 refine⟨⟨hok⟩,hid,⟨rfl,rfl,m1⟩,ckF ⟨ckI (by rw[(vC w).2.2];simp[bS,hln];omega) (ckO ⟨cs,ex,⟨k1⟩, ?_⟩),trivial⟩⟩
 rintro s3 ⟨rfl⟩
 refine⟨_,rfl,bF (by omega),ckI (by simp[bS]) ⟨_,rfl,ckI (by simp[bS]) ⟨_,rfl,⟨0,⟨by omega⟩,rfl,rfl,rfl,rfl,rfl,rfl,ckI (by simp) ⟨rfl,rfl,rfl,rfl,rfl,rfl,rfl,trivial⟩⟩, ?_⟩⟩⟩
 rintro i ⟨hi⟩
 have hil:i<w.length:=by omega
 refine⟨bT (by omega),_,rfl,ckI (by simp[bS];omega) (ckI (by simp[bS,hln];omega) (bGo hil (bJ (λhs => ?_) (λhs => ?_))))⟩
 ·obtain rfl:i=k:=by
   rcases cA3 i k with h | h
   ·exact absurd hs (hne i h)
   ·omega
  refine ckI (by simp[bS]) ⟨_,rfl,bT (by omega),ckI (by simp[bS];omega) (ckI (by simp[bS,hln];omega) (bGo hil ⟨⟨ht,q1,q2⟩, ?_⟩))⟩
  rintro z5 ⟨rfl⟩
  generalize hzz:dP w[i].2.1 sq=z at *
  refine aH (λh=>ho _ _ _ rfl) (λh=>⟨bF (by omega),bF (p:=(i:Int)=16) (by omega),⟨hoX _ _ _ _ (by simp) rfl⟩,hid,ex,⟨rfl,rfl,rfl,rfl,m1,m2,m3,n2,n3⟩, ?_⟩)
  rintro e8 ⟨h8⟩
  rw[hx']at h8
  subst h8
  refine⟨cs,e8,⟨k2⟩, ?_⟩
  rintro s11 ⟨rfl⟩
  refine⟨_,rfl,ckO ⟨pl++Md.padMMd pad, ?_,⟨hoX _ _ _ _ (by simp) rfl⟩,⟨n2⟩, ?_⟩⟩
  ·rw[bXf,aA5 _ _ _ _ _ _ _ _ _ d1,bW4 (by omega)]
  rintro s14 ⟨rfl⟩
  refine ckF ?_
  rintro t15 e16 ⟨h15⟩
  rw[h15]at d3
  generalize htt:w[i].2.1=top at *
  generalize hss:w[i].2.2=seen at *
  refine aF ⟨bT (by omega),Md.iminI (a:=(z-top).toNat) (b:=64) (by omega) (ckI (by simp;try omega) ?_)⟩
  generalize hM:min (z-top).toNat 64=M at *
  refine⟨((seen*2^M%18446744073709551616:Nat):Int), ?_,aF (ckI (by simp) ?_)⟩
  ·rw[bXf,show Min.min M 64=M by omega,show(seen:Int)*2^M=((seen*2^M:Nat):Int)by push_cast;rfl,aTo]
  rw[Int.sub_self]
  refine wU (by decide) (by decide) ?_
  generalize hX:seen*2^M%18446744073709551616=X at *
  have hXl:X<2^64:=by rw[←hX];exact cA7 _ (by omega)
  refine⟨((X ||| 1:Nat):Int), ?_,by simp[hot,hol], ?_⟩
  ·have hor:X ||| 1<2^64:=bYx hXl (by omega)
   rw[show Int.toNat ((X:Int)%18446744073709551616)=X by omega,show Int.toNat (((1:Int)*2^Min.min (Int.toNat 0) 64)%18446744073709551616)=1 from rfl,aTo,bZh hor]
  have hset:aN ([]++trM w) (0+Int.toNat (i:Int)*3) [.int .i64 w[i].1,.int .i64 z,.int .u64 ((X ||| 1:Nat):Int)]=trM (w.set i (ss,z,X ||| 1)):=by
   rw[bY6,bXf,bX2,hs]
   exact aGy (ss,z,X ||| 1) _ _ hil
  refine ckI (by simp[bS]) ⟨_,rfl,bF (p:=(i:Int)=((0+(n+1):Nat):Int)) (by omega),ckI (by simp[bS];omega) (ckI (by simp[bS,hln];omega) ⟨by simp[hot,hol],ckI (by dsimp only at d3;simp;omega) ⟨_,rfl,hq (by omega) _ _ _ _ (aUf (id:=6) rfl hset (by simp[hln]) (by simp;omega) (by simp))⟩⟩)⟩
 ·have hik:i≠k:=λh=>hs (by subst h;exact hks)
  exact aF ⟨by simp[hot,hol],⟨trivial,rfl⟩,i+1,⟨by omega⟩,by omega,rfl,rfl,rfl,rfl,rfl,rfl,ckI (by simp) ⟨rfl,rfl,rfl,rfl,rfl,rfl,rfl,trivial⟩⟩
def bQ8(sq ss:Int)(w w':List Tr):Prop:=((∀x∈w,x.1≠ss)∧w'=w++[(ss,sq,1)])∨∃ (k:Nat) (h:k<w.length),w[k].1=ss∧w[k].2.1<dP w[k].2.1 sq∧w'=w.set k (ss,dP w[k].2.1 sq,w[k].2.2*2^min (dP w[k].2.1 sq-w[k].2.1).toNat 64%18446744073709551616 ||| 1)
theorem aPi(ss:Int):∀w:List Tr,(∀x∈w,x.1≠ss)∨∃ (k:Nat) (h:k<w.length),w[k].1=ss∧∀i (h:i<k),w[i].1≠ss
 | []=>.inl λx h=>by simp at h
 | t::l=>by
  by_cases h:t.1=ss
  ·exact .inr ⟨0,by simp,h,λi h=>absurd h (by omega)⟩
  ·rcases aPi ss l with h1 | ⟨k,hk,h1,h2⟩
   ·exact .inl λx hx=>by
     rcases bXd.1 hx with rfl | hx
     ·exact h
     ·exact h1 x hx
   ·exact .inr ⟨k+1,by simpa using hk,h1,λi hi=>by
     cases i with
     | zero=>exact h
     | succ i=>exact h2 i (by omega)⟩
theorem jC{a b c:LA}{hid:QT}{w:List Tr}{nx rs rt:Int}{rk:Nat}(h:dQ a b c hid w nx rs rt rk=true):dA a b c hid=true:=by
 rw[dQ,jE]at h
 simp only[bW3]at h
 exact h.1.1.1.1.1
def aRn:Con
 | [.agg [.str a,.str b,.str c,.lst 0 hl hn 1,.lst 0 tl tn 3,.int .i64 nx,.int .i64 0,.int .i64 (-1),.int .u64 0],.agg [.bool mk,.int .i64 ty,.int .i64 sq,.int .i64 ti,.int .i64 ss,.lst _ c5 n5 1,.lst _ c6 n6 2,.int .i64 pad,.str pl]],H,K=>∃ (hid cs:QT) (ex:List Md.Xt) (w:List Tr),
   Lf ((hl=aA hid∧hn=hid.length∧c5=aA cs∧n5=cs.length∧c6=Md.cellsXM ex∧n6=ex.length∧tl=trM w∧tn=w.length)∧(dQ a b c hid w nx 0 (-1) 0=true∧w.length<16∧Md.rightMMd ty sq ti ss cs ex pad=true∧(Md.encM mk ty sq ti ss cs ex pad pl).length<=1184)∧∀t∈w,(-1<=t.2.1∧t.2.1<=281474976000000)∧t.2.2<18446744073709551616∧dP t.2.1 sq<=281474976710655) ∧
   K (.ret (.tup [.agg [.str [],.str [],.str [],.lst 0 [] 0 1,.lst 0 [] 0 3,.int .i64 0,.int .i64 0,.int .i64 0,.int .u64 0],.str [],.int .i64 10])) H ∧
   ∀ (p:LA) (w':List Tr),Lf (bQ8 sq ss w w')->K (.ret (.tup [shV 0 0 a b c hid w' nx 0 (-1) 0,.str p,.int .i64 0])) H
 | _,_,_=>False
theorem aZ5:aI Tryz.prog gl0 24 aRn:=by
 refine dV (enters_of (by kernel_rfl)) aO 9 shK aQq λargs H Q hc => ?_
 unfold aRn at hc
 split at hc
 ·rename_i a b c hl hn tl tn nx mk ty sq ti ss t5 c5 n5 t6 c6 n6 pad pl
  obtain⟨hid,cs,ex,w,⟨⟨rfl,rfl,rfl,rfl,rfl,rfl,rfl,rfl⟩,⟨h1,h16,h2,h3⟩,h4⟩,hbad,hq⟩:=hc
  have hk:aWa w:=λt ht=>⟨by have:=h4 t ht;omega,(h4 t ht).2.1⟩
  have hq':∀w',bQ8 sq ss w w'->∀p v H' (g:Gh),bAt v H'=.tup [shV 0 0 a b c hid w' nx 0 (-1) 0,.str p,.int .i64 0]->∃v',Out.ret v=Out.ret v'∧Q (.ret (shK (bU 0 H' 9 v'))) H:=λw' hw p v H' g ho=>⟨v,rfl,by
   have e:shK (bU 0 H' 9 v)=_:=ho
   rw[e]
   exact hq p w' ⟨hw⟩⟩
  have ho':∀v H' (g:Gh),bAt v H'=.tup [.agg [.str [],.str [],.str [],.lst 0 [] 0 1,.lst 0 [] 0 3,.int .i64 0,.int .i64 0,.int .i64 0,.int .u64 0],.str [],.int .i64 10]->∃v',Out.ret v=Out.ret v'∧Q (.ret (shK (bU 0 H' 9 v'))) H:=λv H' g ho=>⟨v,rfl,by
   have e:shK (bU 0 H' 9 v)=_:=ho
   rw[e]
   exact hbad⟩
  rcases aPi ss w with hw | ⟨k,hkw,hks,hne⟩
  ·cases w with
   | nil=>
    obtain⟨hv,hb',h⟩:=aS6 (Q:=λo H' _=>∃v,o=.ret v∧Q (.ret (shK (bU 0 H' 9 v))) H) (jC h1) h2 h3 h1 (hq' _ (.inl ⟨hw,rfl⟩))
    exact⟨rfl,rfl,_,1000,aS aVe (λ_=>none) hv hb',rfl,h⟩
   | cons t l=>
    obtain⟨hv,hb',h⟩:=aSx (Q:=λo H' _=>∃v,o=.ret v∧Q (.ret (shK (bU 0 H' 9 v))) H) (jC h1) h2 h3 h1 hk (by simpa using h16) hw (hq' _ (.inl ⟨hw,rfl⟩))
    exact⟨rfl,rfl,_,1000,aS aVe _ hv hb',rfl,h⟩
  ·obtain⟨n,hn⟩:∃n,w.length=n+1:=⟨w.length-1,by omega⟩
   have g:=h4 _ (bXk hkw)
   obtain⟨hv,hb',h⟩:=aSj (Q:=λo H' _=>∃v,o=.ret v∧Q (.ret (shK (bU 0 H' 9 v))) H) (jC h1) h2 h3 h1 hk hn (by omega) hkw hks hne (by omega) g.2.2 g.2.1 ho' (λhlt=>hq' _ (.inr ⟨k,hkw,hks,hlt,rfl⟩))
   exact⟨rfl,rfl,_,1000,aS aVe _ hv hb',rfl,by rw[hn];exact h⟩
 ·exact hc.elim
end Go.Proofs.YtnhechnaemmdiaaGreatDoor
