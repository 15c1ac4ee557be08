/-
  Chapter 24: a packet as octets: the goals.
-/
import Derived.Test.YtnhechnaemmdiaaGreatDoorZnD
set_option linter.unusedSimpArgs false
set_option linter.unusedVariables false
set_option linter.unusedSectionVars false
namespace Go.Proofs.YtnhechnaemmdiaaGreatDoor.Cd
open Go.RowKit
set_option maxRecDepth 1000000

def bCm(r:Rc):LA:=aB 4 [r.1]++aB 1 [r.2.1]++aB 3 [r.2.2.1]++aB 4 [r.2.2.2.1,r.2.2.2.2.1,r.2.2.2.2.2.1,r.2.2.2.2.2.2]
def fF(l:List Rc):LA:=l.flatMap bCm
def jO(l:List (Int×Int)):LA:=l.flatMap λp=>aB 2 [p.1,p.2]
def bR(b:LA):LA:=b++List.replicate ((4-b.length%4)%4) 0
def aBy(k:Int):Int:=if k=1 then 200 else if k=2 then 201 else if k=3 then 203 else if k=5 then 206 else 205
def mM(c:Ctl):LA:=aB 4 [c.f]++(if 4<=c.k then aB 4 [c.a]else[])++(if c.k=1 then aB 4 [c.s1,c.s2,c.s3,c.s4,c.s5]else[])++fF c.rs++jO (bA c.lo)++(if c.k=6 then aB 2 [c.ba]++yS c.ti c.ro else[])
def aCm(c:Ctl):Int:=if c.k<=2 then(c.rs.length:Int)else if c.k=6 then 15 else 1
def iM(n k:Int)(b:LA):LA:=aB 1 [128+n,k]++aB 2 [((b.length/4:Nat):Int)]++b
def oneM(c:Ctl):LA:=iM (aCm c) (aBy c.k) (bR (mM c))
noncomputable def aY3(hv:LI)(hb:LB)(t:Nat)(Q:BS):Prop:=
 aT (e24 sm0 (λ_=>none) hv hb) (wpx (e24 sm0 (λ_=>none) hv hb) 1000) 147 [.lst t [] 0 1] [] {} Q
theorem bNu(t:Nat)(Q:BS):aY3 (aW []) (aV []) t Q=(
(Q (Out.ret AV.nils) [] (Gh.mk (0:Nat) (0:Nat) []))):=by kernel_rfl

def aH6:iO
 | [.lst _ [] 0 1],H,K=>K (.ret (.lst 0 [] 0 2)) H
 | _,_,_=>False
theorem aTl:aI Tryz.prog gl0 147 aH6:=by
 refine dV (enters_of (by kernel_rfl)) aO 9 (nlR [2]) (vT _) λargs H Q hc => ?_
 unfold aH6 at hc
 split at hc
 ·exact⟨rfl,rfl,_,1000,bL bY _ _ _,rfl,(bNu _ _).mpr ⟨_,rfl,hc⟩⟩
 ·exact hc.elim
def aGz:SM:=fT [(146,aQw),(147,aH6),(148,bQ0)]
theorem nA:∀f g,aGz f=some g->aI Tryz.prog gl0 f g:=dX _ (by simp only[bXd,bXn,bY0,bYd,bY4];exact⟨aT7,aTl,bBj⟩)
def bE2:SM:=fT [(146,aQw),(147,aPl),(148,bQ0)]
theorem aWu:∀f g,bE2 f=some g->aI Tryz.prog gl0 f g:=dX _ (by simp only[bXd,bXn,bY0,bYd,bY4];exact⟨aT7,bA3,bBj⟩)
def aLd(f s1 s2 s3 s4 s5:Int)(rs:List Rc):LInv where
 α:=Nat×LA
 pre x:=Lf (x.1<=rs.length∧x.2=(aB 4 [f]++aB 4 [s1,s2,s3,s4,s5]++fF (rs.take x.1)))
 st x:=⟨mkT [(0,.nils),(3,.ptr 0 13 0),(5,.int .i64 (rs.length:Nat)),(6,.ptr 1 5 0),(7,.sl 2 x.2.length 0 x.2.length 1),(48,.lst 0 (cellsRM rs) rs.length 7),(49,.int .i64 (rs.length:Nat)),(50,.int .i64 (x.1:Nat))],[⟨.exact,true,ctC ⟨1,f,0,s1,s2,s3,s4,s5,rs,[],0,0,[]⟩⟩,⟨.exact,true,b5 false true true false false⟩,⟨.grow,true,ofBytes x.2⟩]⟩
 mu x:=rs.length-x.1
noncomputable def uP(hv:LI)(hb:LB)(f s1 s2 s3 s4 s5:Int)(rs:List Rc)(Q:BS):Prop:=
 aT (e24 aGz (λi=>bif Nat.beq i 96000 then some (λ_=>[[aLd f s1 s2 s3 s4 s5 rs]])else none) hv hb) (wpx (e24 aGz (λi=>bif Nat.beq i 96000 then some (λ_=>[[aLd f s1 s2 s3 s4 s5 rs]])else none) hv hb) 1000) 96 [.nils,.agg (ctC ⟨1,f,0,s1,s2,s3,s4,s5,rs,[],0,0,[]⟩)] [] {} Q
abbrev tlB(f:Int)(rs:List Rc)(Q:BS)(a0:Nat×LA)(a1:Int)(a2:Int)(a3:Int)(a4:Int)(a5:Int)(a6:Int)(a7:Int)(a8:Bool):Prop:=
ckQ (Nat.beq (ofBytes a0.2).length a0.2.length) (exI .i64 (a0.2.length:Int) λu_0=>exW .i64 (0-u_0) λu_1=>exW .i64 (((u_1%18446744073709551616).toNat &&& 3:Nat):Int) λu_2=>ckQ (decide (0<=u_2)&&decide (u_2 ≤
 1099511627776)&&eH (List.replicate u_2.toNat [AV.int .u8 0]).flatten&&true&&Nat.ble (u_2.toNat*1) 1099511627776) (bif decide (u_2=0)then ckQ (Nat.beq u_2.toNat 0) (ckQ (Nat.beq (ofBytes a0.2).length a0.2.length&&true) (exI
 .i64 (rs.length:Int) λu_3=>exW .i64 ((128 ||| (u_3%18446744073709551616).toNat:Nat):Int) λu_4=>∃u_5:QT,Lf ([AV.int .i64 u_4,.int .i64 (a1:Int)]=aA u_5∧2=u_5.length∧(1:Int)<=(1:Int)∧(1 :
 Int)<=(7:Int)∧1<=u_5.length∧u_5.length<=1000000)∧ckQ (Nat.beq (ofBytes a0.2).length a0.2.length) (exI .i64 (a0.2.length:Int) λu_6=>exW .i64 (u_6.tdiv 4) λu_7=>∃u_8:LA,∃u_9:QT,Lf
 (GetElem?.getElem? [Blk.mk BK.exact true [.int .i64 (a2:Int),.int .i64 f,.int .i64 0,.int .i64 a3,.int .i64 a4,.int .i64 a5,.int .i64 a6,.int .i64 a7,.lst 0 (cellsRM rs) rs.length 7,.lst 0 [] 0 1,.int .i64 0,.int .i64 0,.lst
 0 [] 0 1],Blk.mk BK.exact true [.bool false,.bool a8,.bool true,.bool false,.bool false],Blk.mk BK.grow true (ofBytes a0.2),Blk.mk BK.grow true (ofBytes (aB 1 u_5))] 3=Option.some (Blk.mk BK.grow true (ofBytes u_8))∧(aB 1
 u_5).length=u_8.length∧(aB 1 u_5).length=u_8.length∧u_8.length<=1000000∧[AV.int .i64 u_7]=aA u_9∧1=u_9.length∧(1:Int)<=(2:Int)∧(2:Int)<=(7:Int)∧u_9.length<=1000000)∧ckQ (Nat.beq (ofBytes
 a0.2).length a0.2.length&&true&&Nat.ble (0+a0.2.length*1) a0.2.length&&eH (((ofBytes a0.2).drop 0).take (a0.2.length*1))&&true&&Nat.ble (a0.2.length*1) 1099511627776) (bif Nat.beq a0.2.length 0 then ckQ (Nat.beq
 a0.2.length 0) (ckQ (Nat.beq (ofBytes (u_8++aB 2 u_9)).length (u_8++aB 2 u_9).length&&true) (Q (.ret (.sl 3 (u_8++aB 2 u_9).length 0 (u_8++aB 2 u_9).length 1)) [Blk.mk BK.exact true [.int .i64 (a2:Int),.int .i64 f,
 .int .i64 0,.int .i64 a3,.int .i64 a4,.int .i64 a5,.int .i64 a6,.int .i64 a7,.lst 0 (cellsRM rs) rs.length 7,.lst 0 [] 0 1,.int .i64 0,.int .i64 0,.lst 0 [] 0 1],Blk.mk BK.exact true [.bool false,.bool a8,.bool true,.bool
 false,.bool false],Blk.mk BK.grow true (ofBytes a0.2),Blk.mk BK.grow true (ofBytes (u_8++aB 2 u_9))] {}))else ckQ (Nat.blt 0 a0.2.length) (ckQ (Nat.beq (ofBytes (u_8++aB 2 u_9)).length (u_8++aB 2 u_9).length&&true &&
 Nat.beq (0+(u_8++aB 2 u_9).length*1) (u_8++aB 2 u_9).length&&Nat.ble ((u_8++aB 2 u_9).length+a0.2.length) 1099511627776&&Nat.ble (((u_8++aB 2 u_9).length+a0.2.length)*1) 1099511627776) (Q (.ret (.sl 3 ((u_8 ++
 aB 2 u_9).length+(((ofBytes a0.2).drop 0).take (a0.2.length*1)).length) 0 ((u_8++aB 2 u_9).length+a0.2.length) 1)) [Blk.mk BK.exact true [.int .i64 (a2:Int),.int .i64 f,.int .i64 0,.int .i64 a3,.int .i64 a4,.int .i64 a5,
 .int .i64 a6,.int .i64 a7,.lst 0 (cellsRM rs) rs.length 7,.lst 0 [] 0 1,.int .i64 0,.int .i64 0,.lst 0 [] 0 1],Blk.mk BK.exact true [.bool false,.bool a8,.bool true,.bool false,.bool false],Blk.mk BK.grow true (ofBytes a0.2),
 Blk.mk BK.grow (aP 0 (((ofBytes a0.2).drop 0).take (a0.2.length*1))) (ofBytes (u_8++aB 2 u_9)++((ofBytes a0.2).drop 0).take (a0.2.length*1))] {}))))))else ckQ (Nat.blt 0 u_2.toNat) (ckQ (Nat.beq (ofBytes a0.2).length
 a0.2.length&&true&&Nat.beq (0+a0.2.length*1) a0.2.length&&Nat.ble (a0.2.length+u_2.toNat) 1099511627776&&Nat.ble ((a0.2.length+u_2.toNat)*1) 1099511627776) (exI .i64 (rs.length:Int) λu_10=>exW .i64 ((128 ||| (u_10
 % 18446744073709551616).toNat:Nat):Int) λu_11=>∃u_12:QT,Lf ([AV.int .i64 u_11,.int .i64 (a1:Int)]=aA u_12∧2=u_12.length∧(1:Int)<=(1:Int)∧(1:Int)<=(7:Int)∧1<=u_12.length∧u_12.length ≤
 1000000)∧ckQ (Nat.beq (ofBytes a0.2++(List.replicate u_2.toNat [AV.int .u8 0]).flatten).length (a0.2.length+(List.replicate u_2.toNat [AV.int .u8 0]).flatten.length)) (exI .i64 ((a0.2.length+u_2.toNat:Nat):Int) λu_13=>exW
 .i64 (u_13.tdiv 4) λu_14=>∃u_15:LA,∃u_16:QT,Lf (GetElem?.getElem? [Blk.mk BK.exact true [.int .i64 (a2:Int),.int .i64 f,.int .i64 0,.int .i64 a3,.int .i64 a4,.int .i64 a5,.int .i64 a6,.int .i64 a7,.lst
 0 (cellsRM rs) rs.length 7,.lst 0 [] 0 1,.int .i64 0,.int .i64 0,.lst 0 [] 0 1],Blk.mk BK.exact true [.bool false,.bool a8,.bool true,.bool false,.bool false],Blk.mk BK.grow (aP 0 (List.replicate u_2.toNat [AV.int .u8
 0]).flatten) (ofBytes a0.2++(List.replicate u_2.toNat [AV.int .u8 0]).flatten),Blk.mk BK.grow true (ofBytes (aB 1 u_12))] 3=Option.some (Blk.mk BK.grow true (ofBytes u_15))∧(aB 1 u_12).length=u_15.length∧(aB 1 u_12).length
 = u_15.length∧u_15.length<=1000000∧[AV.int .i64 u_14]=aA u_16∧1=u_16.length∧(1:Int)<=(2:Int)∧(2:Int)<=(7:Int)∧u_16.length<=1000000)∧ckQ (Nat.beq (ofBytes a0.2++(List.replicate u_2.toNat [AV.int .u8
 0]).flatten).length (a0.2.length+(List.replicate u_2.toNat [AV.int .u8 0]).flatten.length)&&true&&Nat.ble (0+(a0.2.length+u_2.toNat)*1) (a0.2.length+(List.replicate u_2.toNat [AV.int .u8 0]).flatten.length)&&eH (((ofBytes
 a0.2++(List.replicate u_2.toNat [AV.int .u8 0]).flatten).drop 0).take ((a0.2.length+u_2.toNat)*1))&&true&&Nat.ble ((a0.2.length+u_2.toNat)*1) 1099511627776) (bif Nat.beq (a0.2.length+u_2.toNat) 0 then ckQ (Nat.beq
 (a0.2.length+u_2.toNat) 0) (ckQ (Nat.beq (ofBytes (u_15++aB 2 u_16)).length (u_15++aB 2 u_16).length&&true) (Q (.ret (.sl 3 (u_15++aB 2 u_16).length 0 (u_15++aB 2 u_16).length 1)) [Blk.mk BK.exact true [.int .i64 (a2 :
 Int),.int .i64 f,.int .i64 0,.int .i64 a3,.int .i64 a4,.int .i64 a5,.int .i64 a6,.int .i64 a7,.lst 0 (cellsRM rs) rs.length 7,.lst 0 [] 0 1,.int .i64 0,.int .i64 0,.lst 0 [] 0 1],Blk.mk BK.exact true [.bool false,.bool a8,
 .bool true,.bool false,.bool false],Blk.mk BK.grow (aP 0 (List.replicate u_2.toNat [AV.int .u8 0]).flatten) (ofBytes a0.2++(List.replicate u_2.toNat [AV.int .u8 0]).flatten),Blk.mk BK.grow true (ofBytes (u_15++aB 2 u_16))] {}))
 else ckQ (Nat.blt 0 (a0.2.length+u_2.toNat)) (ckQ (Nat.beq (ofBytes (u_15++aB 2 u_16)).length (u_15++aB 2 u_16).length&&true&&Nat.beq (0+(u_15++aB 2 u_16).length*1) (u_15++aB 2 u_16).length&&Nat.ble ((u_15 ++
 aB 2 u_16).length+(a0.2.length+u_2.toNat)) 1099511627776&&Nat.ble (((u_15++aB 2 u_16).length+(a0.2.length+u_2.toNat))*1) 1099511627776) (Q (.ret (.sl 3 ((u_15++aB 2 u_16).length+(((ofBytes a0.2++(List.replicate
 u_2.toNat [AV.int .u8 0]).flatten).drop 0).take ((a0.2.length+u_2.toNat)*1)).length) 0 ((u_15++aB 2 u_16).length+(a0.2.length+u_2.toNat)) 1)) [Blk.mk BK.exact true [.int .i64 (a2:Int),.int .i64 f,.int .i64 0,.int .i64 a3,
 .int .i64 a4,.int .i64 a5,.int .i64 a6,.int .i64 a7,.lst 0 (cellsRM rs) rs.length 7,.lst 0 [] 0 1,.int .i64 0,.int .i64 0,.lst 0 [] 0 1],Blk.mk BK.exact true [.bool false,.bool a8,.bool true,.bool false,.bool false],Blk.mk
 BK.grow (aP 0 (List.replicate u_2.toNat [AV.int .u8 0]).flatten) (ofBytes a0.2++(List.replicate u_2.toNat [AV.int .u8 0]).flatten),Blk.mk BK.grow (aP 0 (((ofBytes a0.2++(List.replicate u_2.toNat [AV.int .u8 0]).flatten).drop
 0).take ((a0.2.length+u_2.toNat)*1))) (ofBytes (u_15++aB 2 u_16)++((ofBytes a0.2++(List.replicate u_2.toNat [AV.int .u8 0]).flatten).drop 0).take ((a0.2.length+u_2.toNat)*1))] {}))))))))
abbrev aOs(f:Int)(xs_0:QT):Prop:=Lf ([AV.int .i64 f]=aA xs_0∧1=xs_0.length∧(1:Int)<=(4:Int)∧(4:Int)<=(7:Int)∧1<=xs_0.length∧xs_0.length<=1000000)
abbrev aFz(rs:List Rc):AV:=.lst 0 (cellsRM rs) rs.length 7
abbrev aO0(f s1 s2 s3 s4 s5:Int)(rs:List Rc):Blk:=Blk.mk BK.exact true [.int .i64 1,.int .i64 f,.int .i64 0,.int .i64 s1,.int .i64 s2,.int .i64 s3,.int .i64 s4,.int .i64 s5,aFz rs,.lst 0 [] 0 1,.int .i64 0,.int .i64 0,.lst 0 [] 0 1]
abbrev aOu:Blk:=Blk.mk BK.exact true [.bool false,.bool true,.bool true,.bool false,.bool false]
abbrev aDg(xs_0:QT):Blk:=Blk.mk BK.grow true (ofBytes (aB 4 xs_0))
abbrev iV(bs_1:LA):Blk:=Blk.mk BK.grow true (ofBytes bs_1)
abbrev sZ(xs_0:QT)(bs_1:LA):Prop:=(aB 4 xs_0).length=bs_1.length
abbrev fK(bs_1:LA):Prop:=bs_1.length<=1000000
abbrev aM9(xs_2:QT):Prop:=(1:Int)<=(4:Int)∧(4:Int)<=(7:Int)∧xs_2.length<=1000000
abbrev aFt(x_5:Nat×LA)(rs:List Rc)(f s1 s2 s3 s4 s5:Int):Prop:=Lf (x_5.1<=rs.length∧x_5.2=aB 4 [f]++aB 4 [s1,s2,s3,s4,s5]++fF (rs.take x_5.1))
abbrev bKh(f s1 s2 s3 s4 s5:Int)(rs:List Rc):Prop:=aK [AV.int .i64 1,.int .i64 f,.int .i64 0,.int .i64 s1,.int .i64 s2,.int .i64 s3,.int .i64 s4,.int .i64 s5,aFz rs,.lst 0 [] 0 1,.int .i64 0,.int .i64 0,.lst 0 [] 0 1]
abbrev aNt:Prop:=aK [AV.bool false,.bool true,.bool true,.bool false,.bool false]
abbrev zM(bs_1:LA)(xs_2:QT):HB:=ofBytes (bs_1++aB 4 xs_2)
abbrev gY(bs_1:LA)(xs_2:QT):Nat:=(bs_1++aB 4 xs_2).length
abbrev aCh(rs:List Rc):AV:=.int .i64 (rs.length:Int)
abbrev sD(n_3:Int)(rs:List Rc):Prop:=AV.int .i64 n_3=aCh rs
abbrev aHa(rs:List Rc):Prop:=aK (AV.lst 0 (cellsRM rs) rs.length 7)
abbrev aE3(rs:List Rc):Prop:=aHa rs
abbrev vB(x_5:Nat×LA):AV:=.int .i64 (x_5.1:Int)
abbrev qQ(x_5:Nat×LA):Nat:=(x_5.1:Int).toNat
abbrev aEh(x_5:Nat×LA)(rs:List Rc):Bool:=Nat.ble ((x_5.1:Int).toNat*7+7) (cellsRM rs).length
abbrev aFg(x_5:Nat×LA)(rs:List Rc):AV:=.agg (((cellsRM rs).drop (qQ x_5*7)).take 7)
abbrev wS(x_5:Nat×LA):Blk:=Blk.mk BK.grow true (ofBytes x_5.2)
abbrev mX(x_5:Nat×LA)(bs_13:LA):Prop:=x_5.2.length=bs_13.length
abbrev sN(xs_14:QT):Prop:=1=xs_14.length∧aM9 xs_14
abbrev xS(bs_13:LA)(xs_14:QT):Blk:=Blk.mk BK.grow true (zM bs_13 xs_14)
abbrev aDs(xs_16:QT):Prop:=1=xs_16.length∧(1:Int)<=(1:Int)∧(1:Int)<=(7:Int)∧xs_16.length<=1000000
abbrev aE6(bs_15:LA)(xs_16:QT):Blk:=Blk.mk BK.grow true (ofBytes (bs_15++aB 1 xs_16))
abbrev sS(bs_15:LA)(xs_16:QT)(bs_17:LA):Prop:=(bs_15++aB 1 xs_16).length=bs_17.length
abbrev aE0(xs_18:QT):Prop:=1=xs_18.length∧(1:Int)<=(3:Int)∧(3:Int)<=(7:Int)∧xs_18.length<=1000000
abbrev aDe(bs_17:LA)(xs_18:QT):Blk:=Blk.mk BK.grow true (ofBytes (bs_17++aB 3 xs_18))
abbrev sG(bs_17:LA)(xs_18:QT)(bs_19:LA):Prop:=(bs_17++aB 3 xs_18).length=bs_19.length
abbrev yP:Prop:=True∧(0:Nat)=(0:Nat)
abbrev aX5(bs_19:LA)(xs_20:QT)(y_22:Nat×LA)(rs:List Rc)(n_21:Int):Prop:=ofBytes (bs_19++aB 4 xs_20)=ofBytes y_22.2∧AV.nils=AV.nils∧aK (AV.ptr 0 13 0)∧AV.sl 2 (gY bs_19 xs_20) 0 (gY bs_19 xs_20) 1=AV.sl 2 y_22.2.length 0 y_22.2.length 1∧aK (aCh rs)∧aK (aCh rs)∧aHa rs∧aK (AV.ptr 1 5 0)∧AV.int .i64 n_21=AV.int .i64 (y_22.1:Int)∧True
theorem bGn(f:Int)(s1:Int)(s2:Int)(s3:Int)(s4:Int)(s5:Int)(rs:List Rc)(Q:BS):uP (aW [(393262,.int .i64),(393265,.int .i64),(393269,.agg [.int .i64,.int .i64,.int .i64,
 .int .i64,.int .i64,.int .i64,.int .i64]),(393296,.int .i64),(393323,.int .i64),(393324,.int .i64),(393325,.int .i64),(393328,.int .i64),(393329,.int .i64),(393338,.int .i64),(393339,.int .i64)]) (aV []) f s1 s2 s3 s4
 s5 rs Q=(∃xs_0:QT,aOs f xs_0∧∃bs_1:LA,∃xs_2:QT,Lf (GetElem?.getElem? [aO0 f s1 s2 s3 s4 s5 rs,aOu,aDg xs_0] 2=Option.some (iV bs_1)∧sZ xs_0 bs_1∧sZ xs_0 bs_1∧fK bs_1∧[AV.int
 .i64 s1,.int .i64 s2,.int .i64 s3,.int .i64 s4,.int .i64 s5]=aA xs_2∧5=xs_2.length∧aM9 xs_2)∧exI .i64 (rs.length:Int) (λn_3=>exI .i64 (rs.length:Int) (λn_4=>(∃x_5:Nat×LA,aFt x_5 rs f s1 s2
 s3 s4 s5∧bKh f s1 s2 s3 s4 s5 rs∧aNt∧zM bs_1 xs_2=ofBytes x_5.2∧AV.nils=AV.nils∧aK (AV.ptr 0 13 0)∧AV.sl 2 (gY bs_1 xs_2) 0 (gY bs_1 xs_2) 1=AV.sl 2 x_5.2.length 0 x_5.2.length 1∧sD n_3 rs∧sD n_4
 rs∧aE3 rs∧aK (AV.ptr 1 5 0)∧AV.int .i64 0=vB x_5∧True)∧∀x_5:Nat×LA,aFt x_5 rs f s1 s2 s3 s4 s5->bif decide ((x_5.1:Int)<(rs.length:Int))then ckQ (Nat.blt (qQ x_5) rs.length&&true) (ckQ (aEh
 x_5 rs) (∃n_6 n_7 n_8 n_9 n_10 n_11 n_12,aFg x_5 rs=AV.agg [.int .i64 n_6,.int .i64 n_7,.int .i64 n_8,.int .i64 n_9,.int .i64 n_10,.int .i64 n_11,.int .i64 n_12]∧∃bs_13:LA,∃xs_14:QT,Lf (GetElem?.getElem?
 [aO0 f s1 s2 s3 s4 s5 rs,aOu,wS x_5,Blk.mk BK.exact true [.int .i64 n_6,.int .i64 n_7,.int .i64 n_8,.int .i64 n_9,.int .i64 n_10,.int .i64 n_11,.int .i64 n_12]] 2=Option.some (iV bs_13)∧mX x_5 bs_13∧mX x_5 bs_13
 ∧ fK bs_13∧[AV.int .i64 n_6]=aA xs_14∧sN xs_14)∧∃bs_15:LA,∃xs_16:QT,Lf (GetElem?.getElem? [aO0 f s1 s2 s3 s4 s5 rs,aOu,xS bs_13 xs_14,Blk.mk BK.exact true [.int .i64 n_6,.int .i64 n_7,.int
 .i64 n_8,.int .i64 n_9,.int .i64 n_10,.int .i64 n_11,.int .i64 n_12]] 2=Option.some (iV bs_15)∧gY bs_13 xs_14=bs_15.length∧gY bs_13 xs_14=bs_15.length∧fK bs_15∧[AV.int .i64 n_7]=aA xs_16∧aDs xs_16) ∧
 ∃bs_17:LA,∃xs_18:QT,Lf (GetElem?.getElem? [aO0 f s1 s2 s3 s4 s5 rs,aOu,aE6 bs_15 xs_16,Blk.mk BK.exact true [.int .i64 n_6,.int .i64 n_7,.int .i64 n_8,.int .i64 n_9,.int .i64 n_10,.int .i64 n_11,.int .i64
 n_12]] 2=Option.some (iV bs_17)∧sS bs_15 xs_16 bs_17∧sS bs_15 xs_16 bs_17∧fK bs_17∧[AV.int .i64 n_8]=aA xs_18∧aE0 xs_18)∧∃bs_19:LA,∃xs_20:QT,Lf (GetElem?.getElem? [aO0 f s1 s2 s3 s4
 s5 rs,aOu,aDe bs_17 xs_18,Blk.mk BK.exact true [.int .i64 n_6,.int .i64 n_7,.int .i64 n_8,.int .i64 n_9,.int .i64 n_10,.int .i64 n_11,.int .i64 n_12]] 2=Option.some (iV bs_19)∧sG bs_17 xs_18 bs_19∧sG bs_17 xs_18
 bs_19∧fK bs_19∧[AV.int .i64 n_9,.int .i64 n_10,.int .i64 n_11,.int .i64 n_12]=aA xs_20∧4=xs_20.length∧aM9 xs_20)∧exW .i64 ((x_5.1:Int)+1) (λn_21=>yP∧∃y_22:Nat×LA,aFt y_22 rs f s1 s2 s3
 s4 s5∧rs.length-y_22.1<rs.length-x_5.1∧bKh f s1 s2 s3 s4 s5 rs∧aNt∧aX5 bs_19 xs_20 y_22 rs n_21)))else tlB f rs Q x_5 200 1 s1 s2 s3 s4 s5 true))):=by kernel_rfl

def aKr(f:Int)(rs:List Rc):LInv where
 α:=Nat×LA
 pre x:=Lf (x.1<=rs.length∧x.2=(aB 4 [f]++fF (rs.take x.1)))
 st x:=⟨mkT [(0,.nils),(3,.ptr 0 13 0),(5,.int .i64 (rs.length:Nat)),(6,.ptr 1 5 0),(7,.sl 2 x.2.length 0 x.2.length 1),(48,.lst 0 (cellsRM rs) rs.length 7),(49,.int .i64 (rs.length:Nat)),(50,.int .i64 (x.1:Nat))],[⟨.exact,true,ctC ⟨2,f,0,0,0,0,0,0,rs,[],0,0,[]⟩⟩,⟨.exact,true,b5 false false true false false⟩,⟨.grow,true,ofBytes x.2⟩]⟩
 mu x:=rs.length-x.1
noncomputable def vU(hv:LI)(hb:LB)(f:Int)(rs:List Rc)(Q:BS):Prop:=
 aT (e24 aGz (λi=>bif Nat.beq i 96000 then some (λ_=>[[aKr f rs]])else none) hv hb) (wpx (e24 aGz (λi=>bif Nat.beq i 96000 then some (λ_=>[[aKr f rs]])else none) hv hb) 1000) 96 [.nils,.agg (ctC ⟨2,f,0,0,0,0,0,0,rs,[],0,0,[]⟩)] [] {} Q
abbrev aFf(x_3:Nat×LA)(rs:List Rc)(f:Int):Prop:=Lf (x_3.1<=rs.length∧x_3.2=aB 4 [f]++fF (rs.take x_3.1))
abbrev bKz(f:Int)(rs:List Rc):Prop:=aK [AV.int .i64 2,.int .i64 f,.int .i64 0,.int .i64 0,.int .i64 0,.int .i64 0,.int .i64 0,.int .i64 0,aFz rs,.lst 0 [] 0 1,.int .i64 0,.int .i64 0,.lst 0 [] 0 1]
abbrev aM7:Prop:=aK [AV.bool false,.bool false,.bool true,.bool false,.bool false]
abbrev aOo(xs_0:QT):Nat:=(aB 4 xs_0).length
abbrev aV6(f:Int)(rs:List Rc):Blk:=Blk.mk BK.exact true [.int .i64 2,.int .i64 f,.int .i64 0,.int .i64 0,.int .i64 0,.int .i64 0,.int .i64 0,.int .i64 0,aFz rs,.lst 0 [] 0 1,.int .i64 0,.int .i64 0,.lst 0 [] 0 1]
abbrev aV3:Blk:=Blk.mk BK.exact true [.bool false,.bool false,.bool true,.bool false,.bool false]
theorem bIz(f:Int)(rs:List Rc)(Q:BS):vU (aW [(393262,.int .i64),(393265,.int .i64),(393269,.agg [.int .i64,.int .i64,.int .i64,.int .i64,.int .i64,.int .i64,.int .i64]),(393296,
 .int .i64),(393323,.int .i64),(393324,.int .i64),(393325,.int .i64),(393328,.int .i64),(393329,.int .i64),(393338,.int .i64),(393339,.int .i64)]) (aV []) f rs Q=(∃xs_0:QT,aOs f xs_0∧exI .i64 (rs.length :
 Int) (λn_1=>exI .i64 (rs.length:Int) (λn_2=>(∃x_3:Nat×LA,aFf x_3 rs f∧bKz f rs∧aM7∧ofBytes (aB 4 xs_0)=ofBytes x_3.2∧AV.nils=AV.nils∧aK (AV.ptr 0 13 0)∧AV.sl 2 (aOo xs_0) 0 (aOo
 xs_0) 1=AV.sl 2 x_3.2.length 0 x_3.2.length 1∧sD n_1 rs∧sD n_2 rs∧aE3 rs∧aK (AV.ptr 1 5 0)∧AV.int .i64 0=vB x_3∧True)∧∀x_3:Nat×LA,aFf x_3 rs f->bif decide ((x_3.1:Int)<(rs.length:Int))
 then ckQ (Nat.blt (qQ x_3) rs.length&&true) (ckQ (aEh x_3 rs) (∃n_4 n_5 n_6 n_7 n_8 n_9 n_10,aFg x_3 rs=AV.agg [.int .i64 n_4,.int .i64 n_5,.int .i64 n_6,.int .i64 n_7,.int .i64 n_8,.int .i64 n_9,.int .i64 n_10]∧∃
 bs_11:LA,∃xs_12:QT,Lf (GetElem?.getElem? [aV6 f rs,aV3,wS x_3,Blk.mk BK.exact true [.int .i64 n_4,.int .i64 n_5,.int .i64 n_6,.int .i64 n_7,.int .i64 n_8,.int .i64 n_9,.int .i64 n_10]] 2=Option.some
 (iV bs_11)∧mX x_3 bs_11∧mX x_3 bs_11∧fK bs_11∧[AV.int .i64 n_4]=aA xs_12∧sN xs_12)∧∃bs_13:LA,∃xs_14:QT,Lf (GetElem?.getElem? [aV6 f rs,aV3,xS bs_11 xs_12,Blk.mk BK.exact true
 [.int .i64 n_4,.int .i64 n_5,.int .i64 n_6,.int .i64 n_7,.int .i64 n_8,.int .i64 n_9,.int .i64 n_10]] 2=Option.some (iV bs_13)∧gY bs_11 xs_12=bs_13.length∧gY bs_11 xs_12=bs_13.length∧fK bs_13∧[AV.int .i64
 n_5]=aA xs_14∧aDs xs_14)∧∃bs_15:LA,∃xs_16:QT,Lf (GetElem?.getElem? [aV6 f rs,aV3,aE6 bs_13 xs_14,Blk.mk BK.exact true [.int .i64 n_4,.int .i64 n_5,.int .i64 n_6,.int .i64 n_7,.int .i64 n_8,.int
 .i64 n_9,.int .i64 n_10]] 2=Option.some (iV bs_15)∧sS bs_13 xs_14 bs_15∧sS bs_13 xs_14 bs_15∧fK bs_15∧[AV.int .i64 n_6]=aA xs_16∧aE0 xs_16)∧∃bs_17:LA,∃xs_18:QT,Lf (GetElem?.getElem?
 [aV6 f rs,aV3,aDe bs_15 xs_16,Blk.mk BK.exact true [.int .i64 n_4,.int .i64 n_5,.int .i64 n_6,.int .i64 n_7,.int .i64 n_8,.int .i64 n_9,.int .i64 n_10]] 2=Option.some (iV bs_17)∧sG bs_15 xs_16 bs_17∧sG bs_15
 xs_16 bs_17∧fK bs_17∧[AV.int .i64 n_7,.int .i64 n_8,.int .i64 n_9,.int .i64 n_10]=aA xs_18∧4=xs_18.length∧aM9 xs_18)∧exW .i64 ((x_3.1:Int)+1) (λn_19=>yP∧∃y_20:Nat×LA,aFf y_20 rs f ∧
 rs.length-y_20.1<rs.length-x_3.1∧bKz f rs∧aM7∧aX5 bs_17 xs_18 y_20 rs n_19)))else tlB f rs Q x_3 201 2 0 0 0 0 0 false))):=by kernel_rfl

def aKh(bs:LA)(f s1 s2 s3 s4 s5:Int)(rs:List Rc):LInv where
 α:=Nat×LA
 pre x:=Lf (x.1<=rs.length∧x.2=(aB 4 [f]++aB 4 [s1,s2,s3,s4,s5]++fF (rs.take x.1)))
 st x:=⟨mkT [(0,.sl 0 bs.length 0 bs.length 1),(3,.ptr 1 13 0),(5,.int .i64 (rs.length:Nat)),(6,.ptr 2 5 0),(7,.sl 3 x.2.length 0 x.2.length 1),(48,.lst 0 (cellsRM rs) rs.length 7),(49,.int .i64 (rs.length:Nat)),(50,.int .i64 (x.1:Nat))],[⟨.grow,true,ofBytes bs⟩,⟨.exact,true,ctC ⟨1,f,0,s1,s2,s3,s4,s5,rs,[],0,0,[]⟩⟩,⟨.exact,true,b5 false true true false false⟩,⟨.grow,true,ofBytes x.2⟩]⟩
 mu x:=rs.length-x.1
noncomputable def yG(hv:LI)(hb:LB)(bs:LA)(f s1 s2 s3 s4 s5:Int)(rs:List Rc)(Q:BS):Prop:=
 aT (e24 aGz (λi=>bif Nat.beq i 96000 then some (λ_=>[[aKh bs f s1 s2 s3 s4 s5 rs]])else none) hv hb) (wpx (e24 aGz (λi=>bif Nat.beq i 96000 then some (λ_=>[[aKh bs f s1 s2 s3 s4 s5 rs]])else none) hv hb) 1000) 96 [.sl 0 bs.length 0 bs.length 1,.agg (ctC ⟨1,f,0,s1,s2,s3,s4,s5,rs,[],0,0,[]⟩)] [⟨.grow,true,ofBytes bs⟩] {} Q
abbrev tlA(bs:LA)(f:Int)(rs:List Rc)(Q:BS)(a0:Nat×LA)(a1:Int)(a2:Int)(a3:Int)(a4:Int)(a5:Int)(a6:Int)(a7:Bool)(a8:Int):Prop:=
ckQ (Nat.beq (ofBytes a0.2).length a0.2.length) (exI .i64 (a0.2.length:Int) λu_0=>exW .i64 (0-u_0) λu_1=>exW .i64 (((u_1%18446744073709551616).toNat &&& 3:Nat):Int) λu_2=>ckQ (decide (0<=u_2)&&decide (u_2 ≤
 1099511627776)&&eH (List.replicate u_2.toNat [AV.int .u8 0]).flatten&&true&&Nat.ble (u_2.toNat*1) 1099511627776) (bif decide (u_2=0)then ckQ (Nat.beq u_2.toNat 0) (ckQ (Nat.beq (ofBytes a0.2).length a0.2.length&&true) (exI
 .i64 (rs.length:Int) λu_3=>exW .i64 ((128 ||| (u_3%18446744073709551616).toNat:Nat):Int) λu_4=>∃u_5:LA,∃u_6:QT,Lf (GetElem?.getElem? [Blk.mk BK.grow true (ofBytes bs),Blk.mk BK.exact true [.int .i64
 (a1:Int),.int .i64 f,.int .i64 0,.int .i64 a2,.int .i64 a3,.int .i64 a4,.int .i64 a5,.int .i64 a6,.lst 0 (cellsRM rs) rs.length 7,.lst 0 [] 0 1,.int .i64 0,.int .i64 0,.lst 0 [] 0 1],Blk.mk BK.exact true [.bool false,.bool
 a7,.bool true,.bool false,.bool false],Blk.mk BK.grow true (ofBytes a0.2)] 0=Option.some (Blk.mk BK.grow true (ofBytes u_5))∧bs.length=u_5.length∧bs.length=u_5.length∧u_5.length<=1000000∧[AV.int .i64 u_4,.int .i64 (a8 :
 Int)]=aA u_6∧2=u_6.length∧(1:Int)<=(1:Int)∧(1:Int)<=(7:Int)∧u_6.length<=1000000)∧ckQ (Nat.beq (ofBytes a0.2).length a0.2.length) (exI .i64 (a0.2.length:Int) λu_7=>exW .i64 (u_7.tdiv 4) λu_8=>∃u_9 :
 LA,∃u_10:QT,Lf (GetElem?.getElem? [Blk.mk BK.grow true (ofBytes (u_5++aB 1 u_6)),Blk.mk BK.exact true [.int .i64 (a1:Int),.int .i64 f,.int .i64 0,.int .i64 a2,.int .i64 a3,.int .i64 a4,.int .i64 a5,.int
 .i64 a6,.lst 0 (cellsRM rs) rs.length 7,.lst 0 [] 0 1,.int .i64 0,.int .i64 0,.lst 0 [] 0 1],Blk.mk BK.exact true [.bool false,.bool a7,.bool true,.bool false,.bool false],Blk.mk BK.grow true (ofBytes a0.2)] 0=Option.some
 (Blk.mk BK.grow true (ofBytes u_9))∧(u_5++aB 1 u_6).length=u_9.length∧(u_5++aB 1 u_6).length=u_9.length∧u_9.length<=1000000∧[AV.int .i64 u_8]=aA u_10∧1=u_10.length∧(1:Int)<=(2:Int)∧(2:Int)<=(7 :
 Int)∧u_10.length<=1000000)∧ckQ (Nat.beq (ofBytes a0.2).length a0.2.length&&true&&Nat.ble (0+a0.2.length*1) a0.2.length&&eH (((ofBytes a0.2).drop 0).take (a0.2.length*1))&&true&&Nat.ble (a0.2.length*1)
 1099511627776) (bif Nat.beq a0.2.length 0 then ckQ (Nat.beq a0.2.length 0) (ckQ (Nat.beq (ofBytes (u_9++aB 2 u_10)).length (u_9++aB 2 u_10).length&&true) (true=true∧Q (.ret (.sl 0 (u_9++aB 2 u_10).length 0 (u_9++aB 2
 u_10).length 1)) [Blk.mk BK.grow true (ofBytes (u_9++aB 2 u_10))] {}))else ckQ (Nat.blt 0 a0.2.length) (ckQ (Nat.beq (ofBytes (u_9++aB 2 u_10)).length (u_9++aB 2 u_10).length&&true&&Nat.beq (0+(u_9++aB 2 u_10).length
 * 1) (u_9++aB 2 u_10).length&&Nat.ble ((u_9++aB 2 u_10).length+a0.2.length) 1099511627776&&Nat.ble (((u_9++aB 2 u_10).length+a0.2.length)*1) 1099511627776) (((aP 0 (((ofBytes a0.2).drop 0).take (a0.2.length*1)) ||
 aP 1 (ofBytes (u_9++aB 2 u_10)++((ofBytes a0.2).drop 0).take (a0.2.length*1)))&&true)=true∧Q (.ret (.sl 0 ((u_9++aB 2 u_10).length+(((ofBytes a0.2).drop 0).take (a0.2.length*1)).length) 0 ((u_9++aB 2
 u_10).length+a0.2.length) 1)) [Blk.mk BK.grow (aP 0 (((ofBytes a0.2).drop 0).take (a0.2.length*1))) (ofBytes (u_9++aB 2 u_10)++((ofBytes a0.2).drop 0).take (a0.2.length*1))] {}))))))else ckQ (Nat.blt 0 u_2.toNat) (ckQ
 (Nat.beq (ofBytes a0.2).length a0.2.length&&true&&Nat.beq (0+a0.2.length*1) a0.2.length&&Nat.ble (a0.2.length+u_2.toNat) 1099511627776&&Nat.ble ((a0.2.length+u_2.toNat)*1) 1099511627776) (exI .i64 (rs.length:Int) fun
 u_11=>exW .i64 ((128 ||| (u_11%18446744073709551616).toNat:Nat):Int) λu_12=>∃u_13:LA,∃u_14:QT,Lf (GetElem?.getElem? [Blk.mk BK.grow true (ofBytes bs),Blk.mk BK.exact true [.int .i64 (a1:Int),.int .i64
 f,.int .i64 0,.int .i64 a2,.int .i64 a3,.int .i64 a4,.int .i64 a5,.int .i64 a6,.lst 0 (cellsRM rs) rs.length 7,.lst 0 [] 0 1,.int .i64 0,.int .i64 0,.lst 0 [] 0 1],Blk.mk BK.exact true [.bool false,.bool a7,.bool true,.bool
 false,.bool false],Blk.mk BK.grow (aP 0 (List.replicate u_2.toNat [AV.int .u8 0]).flatten) (ofBytes a0.2++(List.replicate u_2.toNat [AV.int .u8 0]).flatten)] 0=Option.some (Blk.mk BK.grow true (ofBytes u_13))∧bs.length =
 u_13.length∧bs.length=u_13.length∧u_13.length<=1000000∧[AV.int .i64 u_12,.int .i64 (a8:Int)]=aA u_14∧2=u_14.length∧(1:Int)<=(1:Int)∧(1:Int)<=(7:Int)∧u_14.length<=1000000)∧ckQ (Nat.beq (ofBytes a0.2
 ++ (List.replicate u_2.toNat [AV.int .u8 0]).flatten).length (a0.2.length+(List.replicate u_2.toNat [AV.int .u8 0]).flatten.length)) (exI .i64 ((a0.2.length+u_2.toNat:Nat):Int) λu_15=>exW .i64 (u_15.tdiv 4) λu_16=>∃u_17
 : LA,∃u_18:QT,Lf (GetElem?.getElem? [Blk.mk BK.grow true (ofBytes (u_13++aB 1 u_14)),Blk.mk BK.exact true [.int .i64 (a1:Int),.int .i64 f,.int .i64 0,.int .i64 a2,.int .i64 a3,.int .i64 a4,.int .i64 a5,.int
 .i64 a6,.lst 0 (cellsRM rs) rs.length 7,.lst 0 [] 0 1,.int .i64 0,.int .i64 0,.lst 0 [] 0 1],Blk.mk BK.exact true [.bool false,.bool a7,.bool true,.bool false,.bool false],Blk.mk BK.grow (aP 0 (List.replicate u_2.toNat [AV.int
 .u8 0]).flatten) (ofBytes a0.2++(List.replicate u_2.toNat [AV.int .u8 0]).flatten)] 0=Option.some (Blk.mk BK.grow true (ofBytes u_17))∧(u_13++aB 1 u_14).length=u_17.length∧(u_13++aB 1 u_14).length=u_17.length ∧
 u_17.length<=1000000∧[AV.int .i64 u_16]=aA u_18∧1=u_18.length∧(1:Int)<=(2:Int)∧(2:Int)<=(7:Int)∧u_18.length<=1000000)∧ckQ (Nat.beq (ofBytes a0.2++(List.replicate u_2.toNat [AV.int .u8 0]).flatten).length
 (a0.2.length+(List.replicate u_2.toNat [AV.int .u8 0]).flatten.length)&&true&&Nat.ble (0+(a0.2.length+u_2.toNat)*1) (a0.2.length+(List.replicate u_2.toNat [AV.int .u8 0]).flatten.length)&&eH (((ofBytes a0.2 ++
 (List.replicate u_2.toNat [AV.int .u8 0]).flatten).drop 0).take ((a0.2.length+u_2.toNat)*1))&&true&&Nat.ble ((a0.2.length+u_2.toNat)*1) 1099511627776) (bif Nat.beq (a0.2.length+u_2.toNat) 0 then ckQ (Nat.beq (a0.2.length +
 u_2.toNat) 0) (ckQ (Nat.beq (ofBytes (u_17++aB 2 u_18)).length (u_17++aB 2 u_18).length&&true) (true=true∧Q (.ret (.sl 0 (u_17++aB 2 u_18).length 0 (u_17++aB 2 u_18).length 1)) [Blk.mk BK.grow true (ofBytes (u_17 ++
 aB 2 u_18))] {}))else ckQ (Nat.blt 0 (a0.2.length+u_2.toNat)) (ckQ (Nat.beq (ofBytes (u_17++aB 2 u_18)).length (u_17++aB 2 u_18).length&&true&&Nat.beq (0+(u_17++aB 2 u_18).length*1) (u_17++aB 2 u_18).length &&
 Nat.ble ((u_17++aB 2 u_18).length+(a0.2.length+u_2.toNat)) 1099511627776&&Nat.ble (((u_17++aB 2 u_18).length+(a0.2.length+u_2.toNat))*1) 1099511627776) (((aP 0 (((ofBytes a0.2++(List.replicate u_2.toNat [AV.int .u8
 0]).flatten).drop 0).take ((a0.2.length+u_2.toNat)*1))||aP 1 (ofBytes (u_17++aB 2 u_18)++((ofBytes a0.2++(List.replicate u_2.toNat [AV.int .u8 0]).flatten).drop 0).take ((a0.2.length+u_2.toNat)*1)))&&true)=true∧Q
 (.ret (.sl 0 ((u_17++aB 2 u_18).length+(((ofBytes a0.2++(List.replicate u_2.toNat [AV.int .u8 0]).flatten).drop 0).take ((a0.2.length+u_2.toNat)*1)).length) 0 ((u_17++aB 2 u_18).length+(a0.2.length+u_2.toNat)) 1))
 [Blk.mk BK.grow (aP 0 (((ofBytes a0.2++(List.replicate u_2.toNat [AV.int .u8 0]).flatten).drop 0).take ((a0.2.length+u_2.toNat)*1))) (ofBytes (u_17++aB 2 u_18)++((ofBytes a0.2++(List.replicate u_2.toNat [AV.int .u8
 0]).flatten).drop 0).take ((a0.2.length+u_2.toNat)*1))] {}))))))))
abbrev aIx(bs:LA):Prop:=aK (AV.sl 0 bs.length 0 bs.length 1)
abbrev aF5:Prop:=aK (AV.ptr 1 13 0)
abbrev bAu(bs_1:LA)(xs_2:QT)(x_5:Nat×LA):Prop:=AV.sl 3 (gY bs_1 xs_2) 0 (gY bs_1 xs_2) 1=AV.sl 3 x_5.2.length 0 x_5.2.length 1
abbrev aFi:Prop:=aK (AV.ptr 2 5 0)
abbrev aZd(bs_19:LA)(xs_20:QT)(y_22:Nat×LA)(bs:LA)(rs:List Rc)(n_21:Int):Prop:=ofBytes (bs_19++aB 4 xs_20)=ofBytes y_22.2∧aK (AV.sl 0 bs.length 0 bs.length 1)∧aF5∧AV.sl 3 (gY bs_19 xs_20) 0 (gY bs_19 xs_20) 1=AV.sl 3 y_22.2.length 0 y_22.2.length 1∧aK (aCh rs)∧aK (aCh rs)∧aHa rs∧aFi∧AV.int .i64 n_21=AV.int .i64 (y_22.1:Int)∧True
theorem bFv(bs:LA)(f:Int)(s1:Int)(s2:Int)(s3:Int)(s4:Int)(s5:Int)(rs:List Rc)(Q:BS):yG (aW [(393262,.int .i64),(393265,.int .i64),(393269,.agg [.int .i64,.int
 .i64,.int .i64,.int .i64,.int .i64,.int .i64,.int .i64]),(393296,.int .i64),(393323,.int .i64),(393324,.int .i64),(393325,.int .i64),(393328,.int .i64),(393329,.int .i64),(393338,.int .i64),(393339,.int .i64)]) (aV
 [(397310,true)]) bs f s1 s2 s3 s4 s5 rs Q=(∃xs_0:QT,aOs f xs_0∧∃bs_1:LA,∃xs_2:QT,Lf (GetElem?.getElem? [iV bs,aO0 f s1 s2 s3 s4 s5 rs,aOu,aDg xs_0] 3=Option.some (iV bs_1)∧sZ xs_0
 bs_1∧sZ xs_0 bs_1∧fK bs_1∧[AV.int .i64 s1,.int .i64 s2,.int .i64 s3,.int .i64 s4,.int .i64 s5]=aA xs_2∧5=xs_2.length∧aM9 xs_2)∧exI .i64 (rs.length:Int) (λn_3=>exI .i64 (rs.length:Int) (λn_4=>(∃
 x_5:Nat×LA,aFt x_5 rs f s1 s2 s3 s4 s5∧aK (ofBytes bs)∧bKh f s1 s2 s3 s4 s5 rs∧aNt∧zM bs_1 xs_2=ofBytes x_5.2∧aIx bs∧aF5∧bAu bs_1 xs_2 x_5∧sD n_3 rs∧sD n_4 rs∧aE3 rs∧aFi ∧
 AV.int .i64 0=vB x_5∧True)∧∀x_5:Nat×LA,aFt x_5 rs f s1 s2 s3 s4 s5->bif decide ((x_5.1:Int)<(rs.length:Int))then ckQ (Nat.blt (qQ x_5) rs.length&&true) (ckQ (aEh x_5 rs) (∃n_6 n_7 n_8 n_9 n_10 n_11
 n_12,aFg x_5 rs=AV.agg [.int .i64 n_6,.int .i64 n_7,.int .i64 n_8,.int .i64 n_9,.int .i64 n_10,.int .i64 n_11,.int .i64 n_12]∧∃bs_13:LA,∃xs_14:QT,Lf (GetElem?.getElem? [iV bs,aO0 f s1 s2 s3 s4 s5 rs,
 aOu,wS x_5,Blk.mk BK.exact true [.int .i64 n_6,.int .i64 n_7,.int .i64 n_8,.int .i64 n_9,.int .i64 n_10,.int .i64 n_11,.int .i64 n_12]] 3=Option.some (iV bs_13)∧mX x_5 bs_13∧mX x_5 bs_13∧fK bs_13∧[AV.int
 .i64 n_6]=aA xs_14∧sN xs_14)∧∃bs_15:LA,∃xs_16:QT,Lf (GetElem?.getElem? [iV bs,aO0 f s1 s2 s3 s4 s5 rs,aOu,xS bs_13 xs_14,Blk.mk BK.exact true [.int .i64 n_6,.int .i64 n_7,.int .i64 n_8,.int
 .i64 n_9,.int .i64 n_10,.int .i64 n_11,.int .i64 n_12]] 3=Option.some (iV bs_15)∧gY bs_13 xs_14=bs_15.length∧gY bs_13 xs_14=bs_15.length∧fK bs_15∧[AV.int .i64 n_7]=aA xs_16∧aDs xs_16)∧∃bs_17:List
 UInt8,∃xs_18:QT,Lf (GetElem?.getElem? [iV bs,aO0 f s1 s2 s3 s4 s5 rs,aOu,aE6 bs_15 xs_16,Blk.mk BK.exact true [.int .i64 n_6,.int .i64 n_7,.int .i64 n_8,.int .i64 n_9,.int .i64 n_10,.int .i64 n_11,.int .i64
 n_12]] 3=Option.some (iV bs_17)∧sS bs_15 xs_16 bs_17∧sS bs_15 xs_16 bs_17∧fK bs_17∧[AV.int .i64 n_8]=aA xs_18∧aE0 xs_18)∧∃bs_19:LA,∃xs_20:QT,Lf (GetElem?.getElem? [iV bs,aO0 f s1
 s2 s3 s4 s5 rs,aOu,aDe bs_17 xs_18,Blk.mk BK.exact true [.int .i64 n_6,.int .i64 n_7,.int .i64 n_8,.int .i64 n_9,.int .i64 n_10,.int .i64 n_11,.int .i64 n_12]] 3=Option.some (iV bs_19)∧sG bs_17 xs_18 bs_19∧sG
 bs_17 xs_18 bs_19∧fK bs_19∧[AV.int .i64 n_9,.int .i64 n_10,.int .i64 n_11,.int .i64 n_12]=aA xs_20∧4=xs_20.length∧aM9 xs_20)∧exW .i64 ((x_5.1:Int)+1) (λn_21=>yP∧∃y_22:Nat×LA,aFt y_22
 rs f s1 s2 s3 s4 s5∧rs.length-y_22.1<rs.length-x_5.1∧aK (ofBytes bs)∧bKh f s1 s2 s3 s4 s5 rs∧aNt∧aZd bs_19 xs_20 y_22 bs rs n_21)))else tlA bs f rs Q x_5 1 s1 s2 s3 s4 s5 true 200))):=by kernel_rfl

def aK4(bs:LA)(f:Int)(rs:List Rc):LInv where
 α:=Nat×LA
 pre x:=Lf (x.1<=rs.length∧x.2=(aB 4 [f]++fF (rs.take x.1)))
 st x:=⟨mkT [(0,.sl 0 bs.length 0 bs.length 1),(3,.ptr 1 13 0),(5,.int .i64 (rs.length:Nat)),(6,.ptr 2 5 0),(7,.sl 3 x.2.length 0 x.2.length 1),(48,.lst 0 (cellsRM rs) rs.length 7),(49,.int .i64 (rs.length:Nat)),(50,.int .i64 (x.1:Nat))],[⟨.grow,true,ofBytes bs⟩,⟨.exact,true,ctC ⟨2,f,0,0,0,0,0,0,rs,[],0,0,[]⟩⟩,⟨.exact,true,b5 false false true false false⟩,⟨.grow,true,ofBytes x.2⟩]⟩
 mu x:=rs.length-x.1
noncomputable def xQ(hv:LI)(hb:LB)(bs:LA)(f:Int)(rs:List Rc)(Q:BS):Prop:=
 aT (e24 aGz (λi=>bif Nat.beq i 96000 then some (λ_=>[[aK4 bs f rs]])else none) hv hb) (wpx (e24 aGz (λi=>bif Nat.beq i 96000 then some (λ_=>[[aK4 bs f rs]])else none) hv hb) 1000) 96 [.sl 0 bs.length 0 bs.length 1,.agg (ctC ⟨2,f,0,0,0,0,0,0,rs,[],0,0,[]⟩)] [⟨.grow,true,ofBytes bs⟩] {} Q
abbrev aXx(x_3:Nat×LA):AV:=.sl 3 x_3.2.length 0 x_3.2.length 1
theorem bE3(bs:LA)(f:Int)(rs:List Rc)(Q:BS):xQ (aW [(393262,.int .i64),(393265,.int .i64),(393269,.agg [.int .i64,.int .i64,.int .i64,.int .i64,.int .i64,.int .i64,.int
 .i64]),(393296,.int .i64),(393323,.int .i64),(393324,.int .i64),(393325,.int .i64),(393328,.int .i64),(393329,.int .i64),(393338,.int .i64),(393339,.int .i64)]) (aV [(397310,true)]) bs f rs Q=(∃xs_0:QT,aOs
 f xs_0∧exI .i64 (rs.length:Int) (λn_1=>exI .i64 (rs.length:Int) (λn_2=>(∃x_3:Nat×LA,aFf x_3 rs f∧aK (ofBytes bs)∧bKz f rs∧aM7∧ofBytes (aB 4 xs_0)=ofBytes x_3.2∧aIx bs∧aF5∧AV.sl 3
 (aOo xs_0) 0 (aOo xs_0) 1=aXx x_3∧sD n_1 rs∧sD n_2 rs∧aE3 rs∧aFi∧AV.int .i64 0=vB x_3∧True)∧∀x_3:Nat×LA,aFf x_3 rs f->bif decide ((x_3.1:Int)<(rs.length:Int))then ckQ (Nat.blt
 (qQ x_3) rs.length&&true) (ckQ (aEh x_3 rs) (∃n_4 n_5 n_6 n_7 n_8 n_9 n_10,aFg x_3 rs=AV.agg [.int .i64 n_4,.int .i64 n_5,.int .i64 n_6,.int .i64 n_7,.int .i64 n_8,.int .i64 n_9,.int .i64 n_10]∧∃bs_11:LA,∃
 xs_12:QT,Lf (GetElem?.getElem? [iV bs,aV6 f rs,aV3,wS x_3,Blk.mk BK.exact true [.int .i64 n_4,.int .i64 n_5,.int .i64 n_6,.int .i64 n_7,.int .i64 n_8,.int .i64 n_9,.int .i64 n_10]] 3=Option.some (iV bs_11) ∧
 mX x_3 bs_11∧mX x_3 bs_11∧fK bs_11∧[AV.int .i64 n_4]=aA xs_12∧sN xs_12)∧∃bs_13:LA,∃xs_14:QT,Lf (GetElem?.getElem? [iV bs,aV6 f rs,aV3,xS bs_11 xs_12,Blk.mk BK.exact true [.int
 .i64 n_4,.int .i64 n_5,.int .i64 n_6,.int .i64 n_7,.int .i64 n_8,.int .i64 n_9,.int .i64 n_10]] 3=Option.some (iV bs_13)∧gY bs_11 xs_12=bs_13.length∧gY bs_11 xs_12=bs_13.length∧fK bs_13∧[AV.int .i64 n_5] =
 aA xs_14∧aDs xs_14)∧∃bs_15:LA,∃xs_16:QT,Lf (GetElem?.getElem? [iV bs,aV6 f rs,aV3,aE6 bs_13 xs_14,Blk.mk BK.exact true [.int .i64 n_4,.int .i64 n_5,.int .i64 n_6,.int .i64 n_7,.int .i64 n_8,
 .int .i64 n_9,.int .i64 n_10]] 3=Option.some (iV bs_15)∧sS bs_13 xs_14 bs_15∧sS bs_13 xs_14 bs_15∧fK bs_15∧[AV.int .i64 n_6]=aA xs_16∧aE0 xs_16)∧∃bs_17:LA,∃xs_18:QT,Lf
 (GetElem?.getElem? [iV bs,aV6 f rs,aV3,aDe bs_15 xs_16,Blk.mk BK.exact true [.int .i64 n_4,.int .i64 n_5,.int .i64 n_6,.int .i64 n_7,.int .i64 n_8,.int .i64 n_9,.int .i64 n_10]] 3=Option.some (iV bs_17)∧sG bs_15
 xs_16 bs_17∧sG bs_15 xs_16 bs_17∧fK bs_17∧[AV.int .i64 n_7,.int .i64 n_8,.int .i64 n_9,.int .i64 n_10]=aA xs_18∧4=xs_18.length∧aM9 xs_18)∧exW .i64 ((x_3.1:Int)+1) (λn_19=>yP∧∃y_20:Nat×List
 UInt8,aFf y_20 rs f∧rs.length-y_20.1<rs.length-x_3.1∧aK (ofBytes bs)∧bKz f rs∧aM7∧aZd bs_17 xs_18 y_20 bs rs n_19)))else tlA bs f rs Q x_3 2 0 0 0 0 0 false 201))):=by kernel_rfl

noncomputable def vW(hv:LI)(hb:LB)(bs:LA)(f:Int)(Q:BS):Prop:=
 aT (e24 aGz (λ_=>none) hv hb) (wpx (e24 aGz (λ_=>none) hv hb) 1000) 96 [.sl 0 bs.length 0 bs.length 1,.agg (ctC ⟨3,f,0,0,0,0,0,0,[],[],0,0,[]⟩)] [⟨.grow,true,ofBytes bs⟩] {} Q
abbrev tlC(bs:LA)(f:Int)(Q:BS)(a0:LA)(a1:Int)(a2:Int)(a3:HB)(a4:Nat)(a5:Int)(a6:Int)(a7:HB)(a8:Nat)(a9:Bool)(a10:Bool)(a11:Bool)(a12:HV)(a13:Int)(a14:Int):Prop:=
ckQ (Nat.beq (ofBytes a0).length a0.length) (exI .i64 (a0.length:Int) λu_0=>exW .i64 (0-u_0) λu_1=>exW .i64 (((u_1%18446744073709551616).toNat &&& 3:Nat):Int) λu_2=>ckQ (decide (0<=u_2)&&decide (u_2 ≤
 1099511627776)&&eH (List.replicate u_2.toNat [AV.int .u8 0]).flatten&&true&&Nat.ble (u_2.toNat*1) 1099511627776) (bif decide (u_2=0)then ckQ (Nat.beq u_2.toNat 0) (ckQ (Nat.beq (ofBytes a0).length a0.length&&true) (∃u_3 :
 LA,∃u_4:QT,Lf (GetElem?.getElem? (Blk.mk BK.grow true (ofBytes bs)::Blk.mk BK.exact true [.int .i64 (a1:Int),.int .i64 f,.int .i64 a2,.int .i64 0,.int .i64 0,.int .i64 0,.int .i64 0,.int .i64 0,.lst 0
 (cellsRM []) 0 7,.lst 0 a3 a4 1,.int .i64 a5,.int .i64 a6,.lst 0 a7 a8 1]::Blk.mk BK.exact true [.bool a9,.bool false,.bool false,.bool a10,.bool a11]::Blk.mk BK.grow true (ofBytes a0)::a12) 0=Option.some (Blk.mk BK.grow
 true (ofBytes u_3))∧bs.length=u_3.length∧bs.length=u_3.length∧u_3.length<=1000000∧[AV.int .i64 (a13:Int),.int .i64 (a14:Int)]=aA u_4∧2=u_4.length∧(1:Int)<=(1:Int)∧(1:Int)<=(7:Int)∧u_4.length ≤
 1000000)∧ckQ (Nat.beq (ofBytes a0).length a0.length) (exI .i64 (a0.length:Int) λu_5=>exW .i64 (u_5.tdiv 4) λu_6=>∃u_7:LA,∃u_8:QT,Lf (GetElem?.getElem? (Blk.mk BK.grow true (ofBytes (u_3++aB 1 u_4))
 :: Blk.mk BK.exact true [.int .i64 (a1:Int),.int .i64 f,.int .i64 a2,.int .i64 0,.int .i64 0,.int .i64 0,.int .i64 0,.int .i64 0,.lst 0 (cellsRM []) 0 7,.lst 0 a3 a4 1,.int .i64 a5,.int .i64 a6,.lst 0 a7 a8 1]::Blk.mk
 BK.exact true [.bool a9,.bool false,.bool false,.bool a10,.bool a11]::Blk.mk BK.grow true (ofBytes a0)::a12) 0=Option.some (Blk.mk BK.grow true (ofBytes u_7))∧(u_3++aB 1 u_4).length=u_7.length∧(u_3++aB 1 u_4).length
 = u_7.length∧u_7.length<=1000000∧[AV.int .i64 u_6]=aA u_8∧1=u_8.length∧(1:Int)<=(2:Int)∧(2:Int)<=(7:Int)∧u_8.length<=1000000)∧ckQ (Nat.beq (ofBytes a0).length a0.length&&true&&Nat.ble (0+a0.length *
 1) a0.length&&eH (((ofBytes a0).drop 0).take (a0.length*1))&&true&&Nat.ble (a0.length*1) 1099511627776) (bif Nat.beq a0.length 0 then ckQ (Nat.beq a0.length 0) (ckQ (Nat.beq (ofBytes (u_7++aB 2 u_8)).length (u_7++aB 2
 u_8).length&&true) (true=true∧Q (.ret (.sl 0 (u_7++aB 2 u_8).length 0 (u_7++aB 2 u_8).length 1)) [Blk.mk BK.grow true (ofBytes (u_7++aB 2 u_8))] {}))else ckQ (Nat.blt 0 a0.length) (ckQ (Nat.beq (ofBytes (u_7++aB 2
 u_8)).length (u_7++aB 2 u_8).length&&true&&Nat.beq (0+(u_7++aB 2 u_8).length*1) (u_7++aB 2 u_8).length&&Nat.ble ((u_7++aB 2 u_8).length+a0.length) 1099511627776&&Nat.ble (((u_7++aB 2 u_8).length +
 a0.length)*1) 1099511627776) (((aP 0 (((ofBytes a0).drop 0).take (a0.length*1))||aP 1 (ofBytes (u_7++aB 2 u_8)++((ofBytes a0).drop 0).take (a0.length*1)))&&true)=true∧Q (.ret (.sl 0 ((u_7++aB 2 u_8).length +
 (((ofBytes a0).drop 0).take (a0.length*1)).length) 0 ((u_7++aB 2 u_8).length+a0.length) 1)) [Blk.mk BK.grow (aP 0 (((ofBytes a0).drop 0).take (a0.length*1))) (ofBytes (u_7++aB 2 u_8)++((ofBytes a0).drop 0).take (a0.length
 * 1))] {}))))))else ckQ (Nat.blt 0 u_2.toNat) (ckQ (Nat.beq (ofBytes a0).length a0.length&&true&&Nat.beq (0+a0.length*1) a0.length&&Nat.ble (a0.length+u_2.toNat) 1099511627776&&Nat.ble ((a0.length+u_2.toNat)*1)
 1099511627776) (∃u_9:LA,∃u_10:QT,Lf (GetElem?.getElem? (Blk.mk BK.grow true (ofBytes bs)::Blk.mk BK.exact true [.int .i64 (a1:Int),.int .i64 f,.int .i64 a2,.int .i64 0,.int .i64 0,.int .i64 0,.int .i64 0,
 .int .i64 0,.lst 0 (cellsRM []) 0 7,.lst 0 a3 a4 1,.int .i64 a5,.int .i64 a6,.lst 0 a7 a8 1]::Blk.mk BK.exact true [.bool a9,.bool false,.bool false,.bool a10,.bool a11]::Blk.mk BK.grow (aP 0 (List.replicate u_2.toNat
 [AV.int .u8 0]).flatten) (ofBytes a0++(List.replicate u_2.toNat [AV.int .u8 0]).flatten)::a12) 0=Option.some (Blk.mk BK.grow true (ofBytes u_9))∧bs.length=u_9.length∧bs.length=u_9.length∧u_9.length<=1000000∧[AV.int .i64
 (a13:Int),.int .i64 (a14:Int)]=aA u_10∧2=u_10.length∧(1:Int)<=(1:Int)∧(1:Int)<=(7:Int)∧u_10.length<=1000000)∧ckQ (Nat.beq (ofBytes a0++(List.replicate u_2.toNat [AV.int .u8 0]).flatten).length (a0.length
 + (List.replicate u_2.toNat [AV.int .u8 0]).flatten.length)) (exI .i64 ((a0.length+u_2.toNat:Nat):Int) λu_11=>exW .i64 (u_11.tdiv 4) λu_12=>∃u_13:LA,∃u_14:QT,Lf (GetElem?.getElem? (Blk.mk BK.grow true
 (ofBytes (u_9++aB 1 u_10))::Blk.mk BK.exact true [.int .i64 (a1:Int),.int .i64 f,.int .i64 a2,.int .i64 0,.int .i64 0,.int .i64 0,.int .i64 0,.int .i64 0,.lst 0 (cellsRM []) 0 7,.lst 0 a3 a4 1,.int .i64 a5,.int .i64 a6,
 .lst 0 a7 a8 1]::Blk.mk BK.exact true [.bool a9,.bool false,.bool false,.bool a10,.bool a11]::Blk.mk BK.grow (aP 0 (List.replicate u_2.toNat [AV.int .u8 0]).flatten) (ofBytes a0++(List.replicate u_2.toNat [AV.int .u8
 0]).flatten)::a12) 0=Option.some (Blk.mk BK.grow true (ofBytes u_13))∧(u_9++aB 1 u_10).length=u_13.length∧(u_9++aB 1 u_10).length=u_13.length∧u_13.length<=1000000∧[AV.int .i64 u_12]=aA u_14∧1=u_14.length
 ∧ (1:Int)<=(2:Int)∧(2:Int)<=(7:Int)∧u_14.length<=1000000)∧ckQ (Nat.beq (ofBytes a0++(List.replicate u_2.toNat [AV.int .u8 0]).flatten).length (a0.length+(List.replicate u_2.toNat [AV.int .u8 0]).flatten.length)&&true
 && Nat.ble (0+(a0.length+u_2.toNat)*1) (a0.length+(List.replicate u_2.toNat [AV.int .u8 0]).flatten.length)&&eH (((ofBytes a0++(List.replicate u_2.toNat [AV.int .u8 0]).flatten).drop 0).take ((a0.length+u_2.toNat)*1)) &&
 true&&Nat.ble ((a0.length+u_2.toNat)*1) 1099511627776) (bif Nat.beq (a0.length+u_2.toNat) 0 then ckQ (Nat.beq (a0.length+u_2.toNat) 0) (ckQ (Nat.beq (ofBytes (u_13++aB 2 u_14)).length (u_13++aB 2 u_14).length&&true)
 (true=true∧Q (.ret (.sl 0 (u_13++aB 2 u_14).length 0 (u_13++aB 2 u_14).length 1)) [Blk.mk BK.grow true (ofBytes (u_13++aB 2 u_14))] {}))else ckQ (Nat.blt 0 (a0.length+u_2.toNat)) (ckQ (Nat.beq (ofBytes (u_13++aB 2
 u_14)).length (u_13++aB 2 u_14).length&&true&&Nat.beq (0+(u_13++aB 2 u_14).length*1) (u_13++aB 2 u_14).length&&Nat.ble ((u_13++aB 2 u_14).length+(a0.length+u_2.toNat)) 1099511627776&&Nat.ble (((u_13++aB
 2 u_14).length+(a0.length+u_2.toNat))*1) 1099511627776) (((aP 0 (((ofBytes a0++(List.replicate u_2.toNat [AV.int .u8 0]).flatten).drop 0).take ((a0.length+u_2.toNat)*1))||aP 1 (ofBytes (u_13++aB 2 u_14)++((ofBytes
 a0++(List.replicate u_2.toNat [AV.int .u8 0]).flatten).drop 0).take ((a0.length+u_2.toNat)*1)))&&true)=true∧Q (.ret (.sl 0 ((u_13++aB 2 u_14).length+(((ofBytes a0++(List.replicate u_2.toNat [AV.int .u8 0]).flatten).drop
 0).take ((a0.length+u_2.toNat)*1)).length) 0 ((u_13++aB 2 u_14).length+(a0.length+u_2.toNat)) 1)) [Blk.mk BK.grow (aP 0 (((ofBytes a0++(List.replicate u_2.toNat [AV.int .u8 0]).flatten).drop 0).take ((a0.length+u_2.toNat)
 * 1))) (ofBytes (u_13++aB 2 u_14)++((ofBytes a0++(List.replicate u_2.toNat [AV.int .u8 0]).flatten).drop 0).take ((a0.length+u_2.toNat)*1))] {}))))))))
theorem bH3(bs:LA)(f:Int)(Q:BS):vW (aW [(393323,.int .i64),(393324,.int .i64),(393325,.int .i64),(393338,.int .i64),(393339,.int .i64)]) (aV [(397310,true)]) bs f Q=(∃xs_0:QT,Lf ([AV.int .i64 f]=aA xs_0∧1=xs_0.length∧(1:Int)<=(4:Int)∧(4:Int)<=(7:Int)∧1<=xs_0.length∧xs_0.length<=1000000)∧tlC bs f Q (aB 4 xs_0) 3 0 [] 0 0 0 [] 0 false false false [] 129 203):=by kernel_rfl

def aK7(bs:LA)(f a:Int)(lo:QT):LInv where
 α:=Nat×LA
 pre x:=Lf (x.1<=(bA lo).length∧x.2=(aB 4 [f]++aB 4 [a]++jO ((bA lo).take x.1)))
 st x:=⟨mkT [(0,.sl 0 bs.length 0 bs.length 1),(3,.ptr 1 13 0),(5,.int .i64 1),(6,.ptr 2 5 0),(7,.sl 3 x.2.length 0 x.2.length 1),(83,.lst 0 (bI (bA lo)) (bA lo).length 2),(84,.int .i64 ((bA lo).length:Nat)),(85,.int .i64 (x.1:Nat))],[⟨.grow,true,ofBytes bs⟩,⟨.exact,true,ctC ⟨4,f,a,0,0,0,0,0,[],lo,0,0,[]⟩⟩,⟨.exact,true,b5 true false false true false⟩,⟨.grow,true,ofBytes x.2⟩]⟩
 mu x:=(bA lo).length-x.1
noncomputable def xB(hv:LI)(hb:LB)(bs:LA)(f a:Int)(lo:QT)(Q:BS):Prop:=
 aT (e24 bE2 (λi=>bif Nat.beq i 96002 then some (λ_=>[[aK7 bs f a lo]])else none) hv hb) (wpx (e24 bE2 (λi=>bif Nat.beq i 96002 then some (λ_=>[[aK7 bs f a lo]])else none) hv hb) 1000) 96 [.sl 0 bs.length 0 bs.length 1,.agg (ctC ⟨4,f,a,0,0,0,0,0,[],lo,0,0,[]⟩)] [⟨.grow,true,ofBytes bs⟩] {} Q
abbrev aJd(ti:QT):AV:=.lst 0 (aA ti) ti.length 1
abbrev aYf(f a:Int)(lo:QT):Blk:=Blk.mk BK.exact true [.int .i64 4,.int .i64 f,.int .i64 a,.int .i64 0,.int .i64 0,.int .i64 0,.int .i64 0,.int .i64 0,.lst 0 (cellsRM []) 0 7,aJd lo,.int .i64 0,.int .i64 0,.lst 0 [] 0 1]
abbrev aXs:Blk:=Blk.mk BK.exact true [.bool true,.bool false,.bool false,.bool true,.bool false]
abbrev aWq(x_5:Nat×LA)(lo:QT)(f a:Int):Prop:=Lf (x_5.1<=(bA lo).length∧x_5.2=aB 4 [f]++aB 4 [a]++jO ((bA lo).take x_5.1))
abbrev bJp(f a:Int)(lo:QT):Prop:=aK [AV.int .i64 4,.int .i64 f,.int .i64 a,.int .i64 0,.int .i64 0,.int .i64 0,.int .i64 0,.int .i64 0,.lst 0 (cellsRM []) 0 7,aJd lo,.int .i64 0,.int .i64 0,.lst 0 [] 0 1]
abbrev bGw:Prop:=aK [AV.bool true,.bool false,.bool false,.bool true,.bool false]
abbrev aZu(xs_3:QT):AV:=.lst 0 (bI (bA xs_3)) (bA xs_3).length 2
theorem bIv(bs:LA)(f:Int)(a:Int)(lo:QT)(Q:BS):xB (aW [(393300,.int .i64),(393304,.agg [.int .i64,.int .i64]),(393308,.int .i64),(393323,.int .i64),(393324,.int
 .i64),(393325,.int .i64),(393338,.int .i64),(393339,.int .i64)]) (aV [(397310,true)]) bs f a lo Q=(∃xs_0:QT,aOs f xs_0∧∃bs_1:LA,∃xs_2:QT,Lf (GetElem?.getElem? [iV bs,aYf f a lo,aXs,
 aDg xs_0] 3=Option.some (iV bs_1)∧sZ xs_0 bs_1∧sZ xs_0 bs_1∧fK bs_1∧[AV.int .i64 a]=aA xs_2∧sN xs_2)∧∃xs_3:QT,Lf (aA lo=aA xs_3∧lo.length=xs_3.length∧eT xs_3=true)∧exI
 .i64 ((bA xs_3).length:Int) (λn_4=>(∃x_5:Nat×LA,aWq x_5 lo f a∧aK (ofBytes bs)∧bJp f a lo∧bGw∧zM bs_1 xs_2=ofBytes x_5.2∧aIx bs∧aF5∧bAu bs_1 xs_2 x_5∧aZu xs_3=aZu lo∧aK
 (AV.int .i64 1)∧AV.int .i64 0=vB x_5∧AV.int .i64 n_4=AV.int .i64 ((bA lo).length:Int)∧aFi∧True)∧∀x_5:Nat×LA,aWq x_5 lo f a->bif decide ((x_5.1:Int)<((bA lo).length:Int))then ckQ (Nat.blt
 (qQ x_5) (bA lo).length&&true) (ckQ (Nat.ble (qQ x_5*2+2) (bI (bA lo)).length) (∃n_6 n_7,AV.agg (((bI (bA lo)).drop (qQ x_5*2)).take 2)=AV.agg [.int .i64 n_6,.int .i64 n_7]∧∃bs_8:LA,
 ∃xs_9:QT,∃k2_10:BK,∃lf_11:Bool,Lf (GetElem?.getElem? [iV bs,aYf f a lo,aXs,wS x_5,Blk.mk BK.exact true [.int .i64 n_6,.int .i64 n_7]] 3=Option.some (iV bs_8)∧mX x_5 bs_8∧mX x_5 bs_8∧fK
 bs_8∧GetElem?.getElem? [iV bs,aYf f a lo,aXs,wS x_5,Blk.mk BK.exact true [.int .i64 n_6,.int .i64 n_7]] 4=Option.some (Blk.mk k2_10 lf_11 (aA xs_9))∧(3:Nat)≠(4:Nat)∧2=xs_9.length∧2=xs_9.length∧((2 :
 Nat)=(1:Nat)∨(2:Nat)=(2:Nat)))∧exW .i64 ((x_5.1:Int)+1) (λn_12=>yP∧∃y_13:Nat×LA,aWq y_13 lo f a∧(bA lo).length-y_13.1<(bA lo).length-x_5.1∧aK (ofBytes bs)∧bJp f a lo ∧
 bGw∧ofBytes (bs_8++aB 2 xs_9)=ofBytes y_13.2∧aIx bs∧aF5∧AV.sl 3 (bs_8++aB 2 xs_9).length 0 (bs_8++aB 2 xs_9).length 1=aXx y_13∧aK (aZu lo)∧aK (AV.int .i64 1)∧AV.int .i64 n_12=vB y_13 ∧
 aK (AV.int .i64 ((bA lo).length:Int))∧aFi∧True)))else tlC bs f Q x_5.2 4 a (aA lo) lo.length 0 0 [] 0 true true false [] 129 205)):=by kernel_rfl

noncomputable def vM(hv:LI)(hb:LB)(bs:LA)(f a:Int)(Q:BS):Prop:=
 aT (e24 aGz (λ_=>none) hv hb) (wpx (e24 aGz (λ_=>none) hv hb) 1000) 96 [.sl 0 bs.length 0 bs.length 1,.agg (ctC ⟨5,f,a,0,0,0,0,0,[],[],0,0,[]⟩)] [⟨.grow,true,ofBytes bs⟩] {} Q
theorem bI0(bs:LA)(f:Int)(a:Int)(Q:BS):vM (aW [(393323,.int .i64),(393324,.int .i64),(393325,.int .i64),(393338,.int .i64),(393339,.int .i64)]) (aV [(397310,true)]) bs f a Q=(∃xs_0:QT,Lf ([AV.int .i64 f]=aA xs_0∧1=xs_0.length∧(1:Int)<=(4:Int)∧(4:Int)<=(7:Int)∧1<=xs_0.length∧xs_0.length<=1000000)∧∃bs_1:LA,∃xs_2:QT,Lf (GetElem?.getElem? [Blk.mk
 BK.grow true (ofBytes bs),Blk.mk BK.exact true [.int .i64 5,.int .i64 f,.int .i64 a,.int .i64 0,.int .i64 0,.int .i64 0,.int .i64 0,.int .i64 0,.lst 0 (cellsRM []) 0 7,.lst 0 [] 0 1,.int .i64 0,.int .i64 0,.lst 0 [] 0 1],
 Blk.mk BK.exact true [.bool true,.bool false,.bool false,.bool false,.bool false],Blk.mk BK.grow true (ofBytes (aB 4 xs_0))] 3=Option.some (Blk.mk BK.grow true (ofBytes bs_1))∧(aB 4 xs_0).length=bs_1.length∧(aB 4
 xs_0).length=bs_1.length∧bs_1.length<=1000000∧[AV.int .i64 a]=aA xs_2∧1=xs_2.length∧(1:Int)<=(4:Int)∧(4:Int)<=(7:Int)∧xs_2.length<=1000000)∧tlC bs f Q (bs_1++aB 4 xs_2) 5 a [] 0 0 0 [] 0 true false
 false [] 129 206):=by kernel_rfl

noncomputable def wP(hv:LI)(hb:LB)(bs:LA)(f a ba ro:Int)(ti:QT)(Q:BS):Prop:=
 aT (e24 aGz (λ_=>none) hv hb) (wpx (e24 aGz (λ_=>none) hv hb) 1000) 96 [.sl 0 bs.length 0 bs.length 1,.agg (ctC ⟨6,f,a,0,0,0,0,0,[],[],ba,ro,ti⟩)] [⟨.grow,true,ofBytes bs⟩] {} Q
abbrev bNw(f a ba ro:Int)(ti:QT):Blk:=Blk.mk BK.exact true [.int .i64 6,.int .i64 f,.int .i64 a,.int .i64 0,.int .i64 0,.int .i64 0,.int .i64 0,.int .i64 0,.lst 0 (cellsRM []) 0 7,.lst 0 [] 0 1,.int .i64 ba,.int .i64 ro,aJd ti]
abbrev aQx:Blk:=Blk.mk BK.exact true [.bool true,.bool false,.bool false,.bool false,.bool true]
abbrev aTg(ba:Int):Blk:=Blk.mk BK.exact true [.int .i64 ba]
theorem bGt(bs:LA)(f:Int)(a:Int)(ba:Int)(ro:Int)(ti:QT)(Q:BS):wP (aW [(393323,.int .i64),(393324,.int .i64),(393325,.int .i64),(393338,.int .i64),(393339,
 .int .i64)]) (aV [(397310,true)]) bs f a ba ro ti Q=(∃xs_0:QT,aOs f xs_0∧∃bs_1:LA,∃xs_2:QT,Lf (GetElem?.getElem? [iV bs,bNw f a ba ro ti,aQx,aDg xs_0] 3=Option.some (iV bs_1)∧sZ
 xs_0 bs_1∧sZ xs_0 bs_1∧fK bs_1∧[AV.int .i64 a]=aA xs_2∧sN xs_2)∧∃bs_3:LA,∃xs_4:QT,∃k2_5:BK,∃lf_6:Bool,Lf (GetElem?.getElem? [iV bs,bNw f a ba ro ti,aQx,xS bs_1 xs_2,aTg
 ba] 3=Option.some (iV bs_3)∧gY bs_1 xs_2=bs_3.length∧gY bs_1 xs_2=bs_3.length∧fK bs_3∧GetElem?.getElem? [iV bs,bNw f a ba ro ti,aQx,xS bs_1 xs_2,aTg ba] 4=Option.some (Blk.mk k2_5 lf_6 (aA
 xs_4))∧(3:Nat)≠(4:Nat)∧1=xs_4.length∧1=xs_4.length∧((1:Nat)=(1:Nat)∨(1:Nat)=(2:Nat)))∧ckQ (dE [.int .i64 ro] [.int .i64 ro]&&true) (ckQ (dE [aJd ti] [aJd ti]&&true) (∃bs_7:LA,∃
 xs_8:QT,Lf (GetElem?.getElem? [iV bs,bNw f a ba ro ti,aQx,Blk.mk BK.grow true (ofBytes (bs_3++aB 2 xs_4)),aTg ba] 3=Option.some (iV bs_7)∧(bs_3++aB 2 xs_4).length=bs_7.length∧(bs_3++aB 2
 xs_4).length=bs_7.length∧bs_7.length<=10000∧aA ti=aA xs_8∧ti.length=xs_8.length∧(bM xs_8).2.2=true)∧tlC bs f Q (bs_7++yS xs_8 ro) 6 a [] 0 ba ro (aA ti) ti.length true false true [aTg ba] 143
 205))):=by kernel_rfl

theorem bCh{n:Nat}(hn:n<=100000){K:Int->Prop}(h:K (((4-n%4)%4:Nat):Int)) :
  ∃n2,AV.int .i64 (IntKind.wrap .i64 (0-(n:Int)))=AV.int .i64 n2∧∃n3,AV.int .i64 (IntKind.wrap .i64 (((n2%18446744073709551616).toNat &&& 3:Nat):Int))=AV.int .i64 n3∧K n3:=by
 refine aF ?_
 have e1:((0-(n:Int))%18446744073709551616).toNat &&& 3=(4-n%4)%4:=by
  rw[show(3:Nat)=2^2-1 from rfl,bY2]
  omega
 rw[e1]
 exact aF h
def fI(p:Nat):HB:=(List.replicate p [AV.int .u8 0]).flatten
theorem gX:∀p:Nat,fI p=ofBytes (List.replicate p 0)
 | 0=>rfl
 | p+1=>by
  have:=gX p
  rw[fI,bZl,bZv,bZl]
  rw[fI]at this
  rw[this]
  rfl
theorem takeB(B:LA):List.take (B.length*1) (List.drop 0 (ofBytes B))=ofBytes B:=by
 rw[bXl,cAc];exact bW4 (by rw[aC];exact bXe _)
theorem zR:∀l:QT,dE (aA l) (aA l)=true
 | []=>rfl
 | x::l=>by
  have:=zR l
  simpa[aA,dE,iC]using this
theorem orC{n:Nat}(hn:n<128){K:Int->Prop}(h:K (128+(n:Int))):∃n1,AV.int .i64 (IntKind.wrap .i64 ((128 ||| (((n:Nat):Int)%18446744073709551616).toNat:Nat):Int))=AV.int .i64 n1∧K n1:=by
 have e1:(((n:Nat):Int)%18446744073709551616).toNat=n:=by omega
 have e2:128 ||| n=128+n:=(bZq (i:=7) (by omega) 1).symm
 rw[e1,e2]
 exact aF (by rwa[show((128+n:Nat):Int)=128+(n:Int)by omega])
theorem uC{l:List Rc}{i:Nat}{r:Rc}(h:l[i]? = some r):fF (l.take (i+1))=fF (l.take i)++bCm r:=by
 rw[bYm,h,fF,cBg]
 simp[fF]
theorem bIq(r:Rc):(bCm r).length=24:=by simp[bCm,aG]
theorem kN:∀l:List Rc,(fF l).length=24*l.length
 | []=>rfl
 | r::l=>by
  have:=kN l
  rw[fF,bZ5,bW2,bIq,bXc]
  rw[fF]at this
  omega
theorem aYd{l:List (Int×Int)}{i:Nat}{r:Int×Int}(h:l[i]? = some r):jO (l.take (i+1))=jO (l.take i)++aB 2 [r.1,r.2]:=by
 rw[bYm,h,jO,cBg]
 simp[jO]
theorem tV:∀l:List (Int×Int),(jO l).length=4*l.length
 | []=>rfl
 | r::l=>by
  have:=tV l
  rw[jO,bZ5,bW2,aG,bXc]
  rw[jO]at this
  simp only[bXc,bXm]
  omega
theorem nS:∀ (l:QT) (b m:Int),(gP b m l).length<=l.length+1
 | [],b,m=>by simp[gP]
 | n::l,b,m=>by
  rw[gP]
  split
  ·have:=nS l n 0;simp;omega
  ·refine bYh (nS l b _) (by simp)
theorem qF(l:QT):(bA l).length<=l.length:=by
 cases l with
 | nil=>simp[bA]
 | cons n l=>have:=nS l n 0;simp only[bA,bXc];omega
theorem aMs{l:List (Int×Int)}{i j:Nat}(hi:i<l.length)(hj:j=2*i):∃r,l[i]? = some r∧(bI l |>.drop j).take 2=[.int .i64 r.1,.int .i64 r.2]:=by
 subst hj
 induction l generalizing i with
 | nil=>simp at hi
 | cons x l ih=>
  cases i with
  | zero=>exact⟨x,rfl,rfl⟩
  | succ i=>
   obtain⟨r,h1,h2⟩:=ih (i:=i) (by simpa using hi)
   refine⟨r,by simpa using h1, ?_⟩
   have e:bI (x::l)=[.int .i64 x.1,.int .i64 x.2]++bI l:=rfl
   rw[e,show 2*(i+1)=([AV.int .i64 x.1,.int .i64 x.2]:HB).length+2*i by simp;omega,←bY9,cBs]
   exact h2
theorem aP3{xs:QT}{ro:Int}(h:(bM xs).2.2=true):(yS xs ro).length<=400:=by
 obtain⟨ref,l,h1,h2,h3⟩:=stepsR_some h
 have h4:=uL h1
 have h5:=aHn xs
 have h6:=oV (dC xs l) ((xs.length+6)/7*7)
 have h7:=lY l
 simp only[yS,h1,bW2,iL]
 omega
theorem bTn(f s1 s2 s3 s4 s5:Int)(rs:List Rc)(hrs:rs.length<=6)(Q:BS)(hq:∀c1 c2 c3 R,(aP 0 c1=true∧bX c1=true)->(aP 0 c2=true∧bX c2=true)->(aP 0 c3=true∧bX c3=true)->R=oneM ⟨1,f,0,s1,s2,s3,s4,s5,rs,[],0,0,[]⟩->Q (.ret (.sl 3 R.length 0 R.length 1)) [⟨.exact,true,c1⟩,⟨.exact,true,c2⟩,⟨.grow,true,c3⟩,⟨.grow,true,ofBytes R⟩] {}):∃hv hb,uP hv hb f s1 s2 s3 s4 s5 rs Q:=by
 obtain⟨hv,hb',e⟩:∃hv hb,uP hv hb f s1 s2 s3 s4 s5 rs Q=_:=⟨_,_,bGn f s1 s2 s3 s4 s5 rs Q⟩
 refine⟨hv,hb',e.mpr ?_⟩
 delta aOs aFz aO0 aOu aDg iV sZ fK aM9 aFt bKh aNt zM gY aCh sD aHa aE3 vB qQ aEh aFg wS mX sN xS aDs aE6 sS aE0 aDe sG yP aX5
 unfold tlB
 clear e
 have hR:oneM ⟨1,f,0,s1,s2,s3,s4,s5,rs,[],0,0,[]⟩=iM (rs.length:Int) 200 (bR (aB 4 [f]++aB 4 [s1,s2,s3,s4,s5]++fF rs)):=by simp[oneM,mM,aCm,aBy,fF,jO,bA]
 refine⟨[f],⟨rfl,rfl,by omega,by omega,by simp,by simp⟩,⟨_,[s1,s2,s3,s4,s5],⟨rfl,rfl,rfl,by simp[aG],rfl,rfl,by omega,by omega,by simp⟩,_,rfl,_,rfl,⟨(0,aB 4 [f]++aB 4 [s1,s2,s3,s4,s5]),⟨bYb _,by simp[fF]⟩,rfl,rfl,rfl,rfl,rfl,rfl,rfl,rfl,rfl,rfl,rfl,trivial⟩, ?_⟩⟩
 rintro⟨i,B⟩ ⟨g1,g2⟩
 dsimp only at g1 g2 ⊢
 have hl0:4<=B.length∧B.length<=500:=by rw[g2];simp only[bW2,aG,kN,bXg,bXc,bXm];omega
 refine aH (λh => ?_) (λh => ?_)
 ·have hi:i<rs.length:=by omega
  obtain⟨r,hr,hc⟩:=jV hi (bZz 7 i▸rfl:i*7=7*i)
  refine ckO (ckI (by simp[dW];omega) ⟨r.1,r.2.1,r.2.2.1,r.2.2.2.1,r.2.2.2.2.1,r.2.2.2.2.2.1,r.2.2.2.2.2.2,by rw[bXf,hc];rfl,B,[r.1],⟨rfl,rfl,rfl,by omega,rfl,rfl,by omega,by omega,by simp⟩,_,[r.2.1],⟨rfl,rfl,rfl,by simp[aG];omega,rfl,rfl,by omega,by omega,by simp⟩,_,[r.2.2.1],⟨rfl,rfl,rfl,by simp[aG];omega,rfl,rfl,by omega,by omega,by simp⟩,_,[r.2.2.2.1,r.2.2.2.2.1,r.2.2.2.2.2.1,r.2.2.2.2.2.2],⟨rfl,rfl,rfl,by simp[aG];omega,rfl,rfl,by omega,by omega,by simp⟩,aF ⟨⟨trivial,rfl⟩,(i+1,B++aB 4 [r.1]++aB 1 [r.2.1]++aB 3 [r.2.2.1]++aB 4 [r.2.2.2.1,r.2.2.2.2.1,r.2.2.2.2.2.1,r.2.2.2.2.2.2]),⟨hi,by rw[uC hr,g2,bCm];simp only[bW9]⟩,by dsimp only;omega,rfl,rfl,rfl,rfl,rfl,rfl,rfl,rfl,rfl,rfl,rfl,trivial⟩⟩)
 ·obtain rfl:i=rs.length:=by omega
  rw[bX8]at g2
  rw[←g2]at hR
  have hl:4<=B.length∧B.length<=5000:=by omega
  clear hl0
  have hp:bR B=B++List.replicate ((4-B.length%4)%4) 0:=rfl
  refine ckI (by simp[aC]) ⟨_,rfl,bCh (by omega) ?_⟩
  have hpp:(4-B.length%4)%4<4:=by omega
  have hz:=gX ((4-B.length%4)%4)
  have hlp:(bR B).length=B.length+(4-B.length%4)%4:=by rw[hp];simp
  generalize (4-B.length%4)%4=p at hp hpp hz hlp ⊢
  rw[fI]at hz
  rw[bXf,hz]
  refine ckI (by simp[aY];omega) (aH (λh0 => ?_) (λh0 => ?_))
  ·obtain rfl:p=0:=by omega
   rw[bYz,bXs]at hp
   rw[hp]at hR
   refine ckI rfl (ckI (by simp[aC]) ?_)
   have htd:((B.length:Nat):Int).tdiv 4=((B.length/4:Nat):Int):=rfl
   refine⟨_,rfl,orC (by omega) (⟨[128+(rs.length:Int),200],⟨rfl,rfl,by omega,by omega,by simp,by simp⟩,ckI (by simp[aC]) ⟨_,rfl, ?_⟩⟩)⟩
   try dsimp only
   rw[htd]
   refine aF ⟨_,[_],⟨rfl,rfl,rfl,by first | (simp[aG];done) | (simp[aG];omega),rfl,rfl,by omega,by omega,by simp⟩, ?_⟩
   rw[takeB]
   refine ckI (by simp[aC,aY];omega) (cK (λh=>by rw[bS]at h;exfalso;omega) (λh=>ckO (ckI (by simp[aC,aG];omega) ?_)))
   rw[aC,bE,aJ,←bW2]
   exact hq _ _ _ _ ⟨rfl,rfl⟩ ⟨rfl,rfl⟩ ⟨aJ _ _,bG _⟩ (by rw[hR];rfl)
  ·rw[aC (List.replicate p 0),bXb,aJ,bE,←hp]
   refine ckO (ckI (by simp[aC];omega) ?_)
   rw[←hlp]
   generalize bR B=P at hp hR hlp ⊢
   have htd:((P.length:Nat):Int).tdiv 4=((P.length/4:Nat):Int):=rfl
   refine⟨_,rfl,orC (by omega) (⟨[128+(rs.length:Int),200],⟨rfl,rfl,by omega,by omega,by simp,by simp⟩,ckI (by simp[aC]) ⟨_,rfl, ?_⟩⟩)⟩
   try dsimp only
   rw[htd]
   refine aF ⟨_,[_],⟨rfl,rfl,rfl,by first | (simp[aG];done) | (simp[aG];omega),rfl,rfl,by omega,by omega,by simp⟩, ?_⟩
   rw[takeB]
   refine ckI (by simp[aC,aY];omega) (cK (λh=>by rw[bS]at h;exfalso;omega) (λh=>ckO (ckI (by simp[aC,aG];omega) ?_)))
   rw[aC,bE,aJ,←bW2]
   exact hq _ _ _ _ ⟨rfl,rfl⟩ ⟨rfl,rfl⟩ ⟨aJ _ _,bG _⟩ (by rw[hR];rfl)
theorem bSe(f:Int)(rs:List Rc)(hrs:rs.length<=6)(Q:BS)(hq:∀c1 c2 c3 R,(aP 0 c1=true∧bX c1=true)->(aP 0 c2=true∧bX c2=true)->(aP 0 c3=true∧bX c3=true)->R=oneM ⟨2,f,0,0,0,0,0,0,rs,[],0,0,[]⟩->Q (.ret (.sl 3 R.length 0 R.length 1)) [⟨.exact,true,c1⟩,⟨.exact,true,c2⟩,⟨.grow,true,c3⟩,⟨.grow,true,ofBytes R⟩] {}):∃hv hb,vU hv hb f rs Q:=by
 obtain⟨hv,hb',e⟩:∃hv hb,vU hv hb f rs Q=_:=⟨_,_,bIz f rs Q⟩
 refine⟨hv,hb',e.mpr ?_⟩
 delta aOs aFf aFz bKz aM7 aOo aCh sD aHa aE3 vB qQ aEh aFg aV6 aV3 wS iV mX fK aM9 sN zM xS gY aDs aE6 sS aE0 aDe sG yP aX5
 unfold tlB
 clear e
 have hR:oneM ⟨2,f,0,0,0,0,0,0,rs,[],0,0,[]⟩=iM (rs.length:Int) 201 (bR (aB 4 [f]++fF rs)):=by simp[oneM,mM,aCm,aBy,fF,jO,bA]
 refine⟨[f],⟨rfl,rfl,by omega,by omega,by simp,by simp⟩,_,rfl,_,rfl,⟨(0,aB 4 [f]),⟨bYb _,by simp[fF]⟩,rfl,rfl,rfl,rfl,rfl,rfl,rfl,rfl,rfl,rfl,rfl,trivial⟩, ?_⟩
 rintro⟨i,B⟩ ⟨g1,g2⟩
 dsimp only at g1 g2 ⊢
 have hl0:4<=B.length∧B.length<=500:=by rw[g2];simp only[bW2,aG,kN,bXg,bXc,bXm];omega
 refine aH (λh => ?_) (λh => ?_)
 ·have hi:i<rs.length:=by omega
  obtain⟨r,hr,hc⟩:=jV hi (bZz 7 i▸rfl:i*7=7*i)
  refine ckO (ckI (by simp[dW];omega) ⟨r.1,r.2.1,r.2.2.1,r.2.2.2.1,r.2.2.2.2.1,r.2.2.2.2.2.1,r.2.2.2.2.2.2,by rw[bXf,hc];rfl,B,[r.1],⟨rfl,rfl,rfl,by omega,rfl,rfl,by omega,by omega,by simp⟩,_,[r.2.1],⟨rfl,rfl,rfl,by simp[aG];omega,rfl,rfl,by omega,by omega,by simp⟩,_,[r.2.2.1],⟨rfl,rfl,rfl,by simp[aG];omega,rfl,rfl,by omega,by omega,by simp⟩,_,[r.2.2.2.1,r.2.2.2.2.1,r.2.2.2.2.2.1,r.2.2.2.2.2.2],⟨rfl,rfl,rfl,by simp[aG];omega,rfl,rfl,by omega,by omega,by simp⟩,aF ⟨⟨trivial,rfl⟩,(i+1,B++aB 4 [r.1]++aB 1 [r.2.1]++aB 3 [r.2.2.1]++aB 4 [r.2.2.2.1,r.2.2.2.2.1,r.2.2.2.2.2.1,r.2.2.2.2.2.2]),⟨hi,by rw[uC hr,g2,bCm];simp only[bW9]⟩,by dsimp only;omega,rfl,rfl,rfl,rfl,rfl,rfl,rfl,rfl,rfl,rfl,rfl,trivial⟩⟩)
 ·obtain rfl:i=rs.length:=by omega
  rw[bX8]at g2
  rw[←g2]at hR
  have hl:4<=B.length∧B.length<=5000:=by omega
  clear hl0
  have hp:bR B=B++List.replicate ((4-B.length%4)%4) 0:=rfl
  refine ckI (by simp[aC]) ⟨_,rfl,bCh (by omega) ?_⟩
  have hpp:(4-B.length%4)%4<4:=by omega
  have hz:=gX ((4-B.length%4)%4)
  have hlp:(bR B).length=B.length+(4-B.length%4)%4:=by rw[hp];simp
  generalize (4-B.length%4)%4=p at hp hpp hz hlp ⊢
  rw[fI]at hz
  rw[bXf,hz]
  refine ckI (by simp[aY];omega) (aH (λh0 => ?_) (λh0 => ?_))
  ·obtain rfl:p=0:=by omega
   rw[bYz,bXs]at hp
   rw[hp]at hR
   refine ckI rfl (ckI (by simp[aC]) ?_)
   have htd:((B.length:Nat):Int).tdiv 4=((B.length/4:Nat):Int):=rfl
   refine⟨_,rfl,orC (by omega) (⟨[128+(rs.length:Int),201],⟨rfl,rfl,by omega,by omega,by simp,by simp⟩,ckI (by simp[aC]) ⟨_,rfl, ?_⟩⟩)⟩
   try dsimp only
   rw[htd]
   refine aF ⟨_,[_],⟨rfl,rfl,rfl,by first | (simp[aG];done) | (simp[aG];omega),rfl,rfl,by omega,by omega,by simp⟩, ?_⟩
   rw[takeB]
   refine ckI (by simp[aC,aY];omega) (cK (λh=>by rw[bS]at h;exfalso;omega) (λh=>ckO (ckI (by simp[aC,aG];omega) ?_)))
   rw[aC,bE,aJ,←bW2]
   exact hq _ _ _ _ ⟨rfl,rfl⟩ ⟨rfl,rfl⟩ ⟨aJ _ _,bG _⟩ (by rw[hR];rfl)
  ·rw[aC (List.replicate p 0),bXb,aJ,bE,←hp]
   refine ckO (ckI (by simp[aC];omega) ?_)
   rw[←hlp]
   generalize bR B=P at hp hR hlp ⊢
   have htd:((P.length:Nat):Int).tdiv 4=((P.length/4:Nat):Int):=rfl
   refine⟨_,rfl,orC (by omega) (⟨[128+(rs.length:Int),201],⟨rfl,rfl,by omega,by omega,by simp,by simp⟩,ckI (by simp[aC]) ⟨_,rfl, ?_⟩⟩)⟩
   try dsimp only
   rw[htd]
   refine aF ⟨_,[_],⟨rfl,rfl,rfl,by first | (simp[aG];done) | (simp[aG];omega),rfl,rfl,by omega,by omega,by simp⟩, ?_⟩
   rw[takeB]
   refine ckI (by simp[aC,aY];omega) (cK (λh=>by rw[bS]at h;exfalso;omega) (λh=>ckO (ckI (by simp[aC,aG];omega) ?_)))
   rw[aC,bE,aJ,←bW2]
   exact hq _ _ _ _ ⟨rfl,rfl⟩ ⟨rfl,rfl⟩ ⟨aJ _ _,bG _⟩ (by rw[hR];rfl)
theorem bSs(bs:LA)(hbs:bs.length<=20000)(f s1 s2 s3 s4 s5:Int)(rs:List Rc)(hrs:rs.length<=6)(Q:BS)(hq:Q (.ret (.sl 0 (bs++oneM ⟨1,f,0,s1,s2,s3,s4,s5,rs,[],0,0,[]⟩).length 0 (bs++oneM ⟨1,f,0,s1,s2,s3,s4,s5,rs,[],0,0,[]⟩).length 1)) [⟨.grow,true,ofBytes (bs++oneM ⟨1,f,0,s1,s2,s3,s4,s5,rs,[],0,0,[]⟩)⟩] {}):∃hv hb,yG hv hb bs f s1 s2 s3 s4 s5 rs Q:=by
 obtain⟨hv,hb',e⟩:∃hv hb,yG hv hb bs f s1 s2 s3 s4 s5 rs Q=_:=⟨_,_,bFv bs f s1 s2 s3 s4 s5 rs Q⟩
 refine⟨hv,hb',e.mpr ?_⟩
 delta aOs iV aFz aO0 aOu aDg sZ fK aM9 aFt bKh aNt zM aIx aF5 gY bAu aCh sD aHa aE3 aFi vB qQ aEh aFg wS mX sN xS aDs aE6 sS aE0 aDe sG yP aZd
 unfold tlA
 clear e
 have hR:oneM ⟨1,f,0,s1,s2,s3,s4,s5,rs,[],0,0,[]⟩=iM (rs.length:Int) 200 (bR (aB 4 [f]++aB 4 [s1,s2,s3,s4,s5]++fF rs)):=by simp[oneM,mM,aCm,aBy,fF,jO,bA]
 refine⟨[f],⟨rfl,rfl,by omega,by omega,by simp,by simp⟩,⟨_,[s1,s2,s3,s4,s5],⟨rfl,rfl,rfl,by simp[aG],rfl,rfl,by omega,by omega,by simp⟩,_,rfl,_,rfl,⟨(0,aB 4 [f]++aB 4 [s1,s2,s3,s4,s5]),⟨bYb _,by simp[fF]⟩,rfl,rfl,rfl,rfl,rfl,rfl,rfl,rfl,rfl,rfl,rfl,rfl,trivial⟩, ?_⟩⟩
 rintro⟨i,B⟩ ⟨g1,g2⟩
 dsimp only at g1 g2 ⊢
 have hl0:4<=B.length∧B.length<=500:=by rw[g2];simp only[bW2,aG,kN,bXg,bXc,bXm];omega
 refine aH (λh => ?_) (λh => ?_)
 ·have hi:i<rs.length:=by omega
  obtain⟨r,hr,hc⟩:=jV hi (bZz 7 i▸rfl:i*7=7*i)
  refine ckO (ckI (by simp[dW];omega) ⟨r.1,r.2.1,r.2.2.1,r.2.2.2.1,r.2.2.2.2.1,r.2.2.2.2.2.1,r.2.2.2.2.2.2,by rw[bXf,hc];rfl,B,[r.1],⟨rfl,rfl,rfl,by omega,rfl,rfl,by omega,by omega,by simp⟩,_,[r.2.1],⟨rfl,rfl,rfl,by simp[aG];omega,rfl,rfl,by omega,by omega,by simp⟩,_,[r.2.2.1],⟨rfl,rfl,rfl,by simp[aG];omega,rfl,rfl,by omega,by omega,by simp⟩,_,[r.2.2.2.1,r.2.2.2.2.1,r.2.2.2.2.2.1,r.2.2.2.2.2.2],⟨rfl,rfl,rfl,by simp[aG];omega,rfl,rfl,by omega,by omega,by simp⟩,aF ⟨⟨trivial,rfl⟩,(i+1,B++aB 4 [r.1]++aB 1 [r.2.1]++aB 3 [r.2.2.1]++aB 4 [r.2.2.2.1,r.2.2.2.2.1,r.2.2.2.2.2.1,r.2.2.2.2.2.2]),⟨hi,by rw[uC hr,g2,bCm];simp only[bW9]⟩,by dsimp only;omega,rfl,rfl,rfl,rfl,rfl,rfl,rfl,rfl,rfl,rfl,rfl,rfl,trivial⟩⟩)
 ·obtain rfl:i=rs.length:=by omega
  rw[bX8]at g2
  rw[←g2]at hR
  have hl:4<=B.length∧B.length<=5000:=by omega
  clear hl0
  have hp:bR B=B++List.replicate ((4-B.length%4)%4) 0:=rfl
  refine ckI (by simp[aC]) ⟨_,rfl,bCh (by omega) ?_⟩
  have hpp:(4-B.length%4)%4<4:=by omega
  have hz:=gX ((4-B.length%4)%4)
  have hlp:(bR B).length=B.length+(4-B.length%4)%4:=by rw[hp];simp
  generalize (4-B.length%4)%4=p at hp hpp hz hlp ⊢
  rw[fI]at hz
  rw[bXf,hz]
  refine ckI (by simp[aY];omega) (aH (λh0 => ?_) (λh0 => ?_))
  ·obtain rfl:p=0:=by omega
   rw[bYz,bXs]at hp
   rw[hp]at hR
   refine ckI rfl (ckI (by simp[aC]) ?_)
   have htd:((B.length:Nat):Int).tdiv 4=((B.length/4:Nat):Int):=rfl
   refine⟨_,rfl,orC (by omega) (⟨bs,[128+(rs.length:Int),200],⟨rfl,rfl,rfl,by omega,rfl,rfl,by omega,by omega,by simp⟩,ckI (by simp[aC]) ⟨_,rfl, ?_⟩⟩)⟩
   try dsimp only
   rw[htd]
   refine aF ⟨_,[_],⟨rfl,rfl,rfl,by first | (simp[aG];done) | (simp[aG];omega),rfl,rfl,by omega,by omega,by simp⟩, ?_⟩
   rw[takeB]
   refine ckI (by simp[aC,aY];omega) (cK (λh=>by rw[bS]at h;exfalso;omega) (λh=>ckO (ckI (by simp[aC,aG];omega) ?_)))
   rw[aC,bE,aJ,←bW2]
   have hR2:bs++aB 1 [128+(rs.length:Int),200]++aB 2 [((B.length/4:Nat):Int)]++B=bs++oneM ⟨1,f,0,s1,s2,s3,s4,s5,rs,[],0,0,[]⟩:=by rw[hR,iM];first | (simp only[bW9];done) | (simp only[bW9];rfl)
   rw[hR2]
   first | exact hq | exact⟨rfl,hq⟩
  ·rw[aC (List.replicate p 0),bXb,aJ,bE,←hp]
   refine ckO (ckI (by simp[aC];omega) ?_)
   rw[←hlp]
   generalize bR B=P at hp hR hlp ⊢
   have htd:((P.length:Nat):Int).tdiv 4=((P.length/4:Nat):Int):=rfl
   refine⟨_,rfl,orC (by omega) (⟨bs,[128+(rs.length:Int),200],⟨rfl,rfl,rfl,by omega,rfl,rfl,by omega,by omega,by simp⟩,ckI (by simp[aC]) ⟨_,rfl, ?_⟩⟩)⟩
   try dsimp only
   rw[htd]
   refine aF ⟨_,[_],⟨rfl,rfl,rfl,by first | (simp[aG];done) | (simp[aG];omega),rfl,rfl,by omega,by omega,by simp⟩, ?_⟩
   rw[takeB]
   refine ckI (by simp[aC,aY];omega) (cK (λh=>by rw[bS]at h;exfalso;omega) (λh=>ckO (ckI (by simp[aC,aG];omega) ?_)))
   rw[aC,bE,aJ,←bW2]
   have hR2:bs++aB 1 [128+(rs.length:Int),200]++aB 2 [((P.length/4:Nat):Int)]++P=bs++oneM ⟨1,f,0,s1,s2,s3,s4,s5,rs,[],0,0,[]⟩:=by rw[hR,iM];first | (simp only[bW9];done) | (simp only[bW9];rfl)
   rw[hR2]
   first | exact hq | exact⟨rfl,hq⟩
theorem bVd(bs:LA)(hbs:bs.length<=20000)(f:Int)(rs:List Rc)(hrs:rs.length<=6)(Q:BS)(hq:Q (.ret (.sl 0 (bs++oneM ⟨2,f,0,0,0,0,0,0,rs,[],0,0,[]⟩).length 0 (bs++oneM ⟨2,f,0,0,0,0,0,0,rs,[],0,0,[]⟩).length 1)) [⟨.grow,true,ofBytes (bs++oneM ⟨2,f,0,0,0,0,0,0,rs,[],0,0,[]⟩)⟩] {}):∃hv hb,xQ hv hb bs f rs Q:=by
 obtain⟨hv,hb',e⟩:∃hv hb,xQ hv hb bs f rs Q=_:=⟨_,_,bE3 bs f rs Q⟩
 refine⟨hv,hb',e.mpr ?_⟩
 delta aOs aFf aFz bKz aM7 aIx aF5 aOo aXx aCh sD aHa aE3 aFi vB qQ aEh aFg iV aV6 aV3 wS mX fK aM9 sN zM xS gY aDs aE6 sS aE0 aDe sG yP aZd
 unfold tlA
 clear e
 have hR:oneM ⟨2,f,0,0,0,0,0,0,rs,[],0,0,[]⟩=iM (rs.length:Int) 201 (bR (aB 4 [f]++fF rs)):=by simp[oneM,mM,aCm,aBy,fF,jO,bA]
 refine⟨[f],⟨rfl,rfl,by omega,by omega,by simp,by simp⟩,_,rfl,_,rfl,⟨(0,aB 4 [f]),⟨bYb _,by simp[fF]⟩,rfl,rfl,rfl,rfl,rfl,rfl,rfl,rfl,rfl,rfl,rfl,rfl,trivial⟩, ?_⟩
 rintro⟨i,B⟩ ⟨g1,g2⟩
 dsimp only at g1 g2 ⊢
 have hl0:4<=B.length∧B.length<=500:=by rw[g2];simp only[bW2,aG,kN,bXg,bXc,bXm];omega
 refine aH (λh => ?_) (λh => ?_)
 ·have hi:i<rs.length:=by omega
  obtain⟨r,hr,hc⟩:=jV hi (bZz 7 i▸rfl:i*7=7*i)
  refine ckO (ckI (by simp[dW];omega) ⟨r.1,r.2.1,r.2.2.1,r.2.2.2.1,r.2.2.2.2.1,r.2.2.2.2.2.1,r.2.2.2.2.2.2,by rw[bXf,hc];rfl,B,[r.1],⟨rfl,rfl,rfl,by omega,rfl,rfl,by omega,by omega,by simp⟩,_,[r.2.1],⟨rfl,rfl,rfl,by simp[aG];omega,rfl,rfl,by omega,by omega,by simp⟩,_,[r.2.2.1],⟨rfl,rfl,rfl,by simp[aG];omega,rfl,rfl,by omega,by omega,by simp⟩,_,[r.2.2.2.1,r.2.2.2.2.1,r.2.2.2.2.2.1,r.2.2.2.2.2.2],⟨rfl,rfl,rfl,by simp[aG];omega,rfl,rfl,by omega,by omega,by simp⟩,aF ⟨⟨trivial,rfl⟩,(i+1,B++aB 4 [r.1]++aB 1 [r.2.1]++aB 3 [r.2.2.1]++aB 4 [r.2.2.2.1,r.2.2.2.2.1,r.2.2.2.2.2.1,r.2.2.2.2.2.2]),⟨hi,by rw[uC hr,g2,bCm];simp only[bW9]⟩,by dsimp only;omega,rfl,rfl,rfl,rfl,rfl,rfl,rfl,rfl,rfl,rfl,rfl,rfl,trivial⟩⟩)
 ·obtain rfl:i=rs.length:=by omega
  rw[bX8]at g2
  rw[←g2]at hR
  have hl:4<=B.length∧B.length<=5000:=by omega
  clear hl0
  have hp:bR B=B++List.replicate ((4-B.length%4)%4) 0:=rfl
  refine ckI (by simp[aC]) ⟨_,rfl,bCh (by omega) ?_⟩
  have hpp:(4-B.length%4)%4<4:=by omega
  have hz:=gX ((4-B.length%4)%4)
  have hlp:(bR B).length=B.length+(4-B.length%4)%4:=by rw[hp];simp
  generalize (4-B.length%4)%4=p at hp hpp hz hlp ⊢
  rw[fI]at hz
  rw[bXf,hz]
  refine ckI (by simp[aY];omega) (aH (λh0 => ?_) (λh0 => ?_))
  ·obtain rfl:p=0:=by omega
   rw[bYz,bXs]at hp
   rw[hp]at hR
   refine ckI rfl (ckI (by simp[aC]) ?_)
   have htd:((B.length:Nat):Int).tdiv 4=((B.length/4:Nat):Int):=rfl
   refine⟨_,rfl,orC (by omega) (⟨bs,[128+(rs.length:Int),201],⟨rfl,rfl,rfl,by omega,rfl,rfl,by omega,by omega,by simp⟩,ckI (by simp[aC]) ⟨_,rfl, ?_⟩⟩)⟩
   try dsimp only
   rw[htd]
   refine aF ⟨_,[_],⟨rfl,rfl,rfl,by first | (simp[aG];done) | (simp[aG];omega),rfl,rfl,by omega,by omega,by simp⟩, ?_⟩
   rw[takeB]
   refine ckI (by simp[aC,aY];omega) (cK (λh=>by rw[bS]at h;exfalso;omega) (λh=>ckO (ckI (by simp[aC,aG];omega) ?_)))
   rw[aC,bE,aJ,←bW2]
   have hR2:bs++aB 1 [128+(rs.length:Int),201]++aB 2 [((B.length/4:Nat):Int)]++B=bs++oneM ⟨2,f,0,0,0,0,0,0,rs,[],0,0,[]⟩:=by rw[hR,iM];first | (simp only[bW9];done) | (simp only[bW9];rfl)
   rw[hR2]
   first | exact hq | exact⟨rfl,hq⟩
  ·rw[aC (List.replicate p 0),bXb,aJ,bE,←hp]
   refine ckO (ckI (by simp[aC];omega) ?_)
   rw[←hlp]
   generalize bR B=P at hp hR hlp ⊢
   have htd:((P.length:Nat):Int).tdiv 4=((P.length/4:Nat):Int):=rfl
   refine⟨_,rfl,orC (by omega) (⟨bs,[128+(rs.length:Int),201],⟨rfl,rfl,rfl,by omega,rfl,rfl,by omega,by omega,by simp⟩,ckI (by simp[aC]) ⟨_,rfl, ?_⟩⟩)⟩
   try dsimp only
   rw[htd]
   refine aF ⟨_,[_],⟨rfl,rfl,rfl,by first | (simp[aG];done) | (simp[aG];omega),rfl,rfl,by omega,by omega,by simp⟩, ?_⟩
   rw[takeB]
   refine ckI (by simp[aC,aY];omega) (cK (λh=>by rw[bS]at h;exfalso;omega) (λh=>ckO (ckI (by simp[aC,aG];omega) ?_)))
   rw[aC,bE,aJ,←bW2]
   have hR2:bs++aB 1 [128+(rs.length:Int),201]++aB 2 [((P.length/4:Nat):Int)]++P=bs++oneM ⟨2,f,0,0,0,0,0,0,rs,[],0,0,[]⟩:=by rw[hR,iM];first | (simp only[bW9];done) | (simp only[bW9];rfl)
   rw[hR2]
   first | exact hq | exact⟨rfl,hq⟩
theorem bS0(bs:LA)(hbs:bs.length<=20000)(f:Int)(Q:BS)(hq:Q (.ret (.sl 0 (bs++oneM ⟨3,f,0,0,0,0,0,0,[],[],0,0,[]⟩).length 0 (bs++oneM ⟨3,f,0,0,0,0,0,0,[],[],0,0,[]⟩).length 1)) [⟨.grow,true,ofBytes (bs++oneM ⟨3,f,0,0,0,0,0,0,[],[],0,0,[]⟩)⟩] {}):∃hv hb,vW hv hb bs f Q:=by
 obtain⟨hv,hb',e⟩:∃hv hb,vW hv hb bs f Q=_:=⟨_,_,bH3 bs f Q⟩
 refine⟨hv,hb',e.mpr ?_⟩
 unfold tlC
 clear e
 have hR:oneM ⟨3,f,0,0,0,0,0,0,[],[],0,0,[]⟩=iM 1 203 (bR (aB 4 [f])):=by simp[oneM,mM,aCm,aBy,fF,jO,bA]
 refine⟨[f],⟨rfl,rfl,by omega,by omega,by simp,by simp⟩, ?_⟩
 obtain⟨B,hB⟩:∃B,B=aB 4 [f]:=⟨_,rfl⟩
 have hl:4<=B.length∧B.length<=5000:=by rw[hB,aG];simp
 rw[←hB]at hR ⊢
 have hp:bR B=B++List.replicate ((4-B.length%4)%4) 0:=rfl
 refine ckI (by simp[aC]) ⟨_,rfl,bCh (by omega) ?_⟩
 have hpp:(4-B.length%4)%4<4:=by omega
 have hz:=gX ((4-B.length%4)%4)
 have hlp:(bR B).length=B.length+(4-B.length%4)%4:=by rw[hp];simp
 generalize (4-B.length%4)%4=p at hp hpp hz hlp ⊢
 rw[fI]at hz
 rw[bXf,hz]
 refine ckI (by simp[aY];omega) (aH (λh0 => ?_) (λh0 => ?_))
 ·obtain rfl:p=0:=by omega
  rw[bYz,bXs]at hp
  rw[hp]at hR
  refine ckI rfl (ckI (by simp[aC]) ?_)
  have htd:((B.length:Nat):Int).tdiv 4=((B.length/4:Nat):Int):=rfl
  refine⟨bs,[129,203],⟨rfl,rfl,rfl,by omega,rfl,rfl,by omega,by omega,by simp⟩,ckI (by simp[aC]) ⟨_,rfl, ?_⟩⟩
  try dsimp only
  rw[htd]
  refine aF ⟨_,[_],⟨rfl,rfl,rfl,by first | (simp[aG];done) | (simp[aG];omega),rfl,rfl,by omega,by omega,by simp⟩, ?_⟩
  rw[takeB]
  refine ckI (by simp[aC,aY];omega) (cK (λh=>by rw[bS]at h;exfalso;omega) (λh=>ckO (ckI (by simp[aC,aG];omega) ?_)))
  rw[aC,bE,aJ,←bW2]
  have hR2:bs++aB 1 [129,203]++aB 2 [((B.length/4:Nat):Int)]++B=bs++oneM ⟨3,f,0,0,0,0,0,0,[],[],0,0,[]⟩:=by rw[hR,iM];first | (simp only[bW9];done) | (simp only[bW9];rfl)
  rw[hR2]
  first | exact hq | exact⟨rfl,hq⟩
 ·rw[aC (List.replicate p 0),bXb,aJ,bE,←hp]
  refine ckO (ckI (by simp[aC];omega) ?_)
  rw[←hlp]
  generalize bR B=P at hp hR hlp ⊢
  have htd:((P.length:Nat):Int).tdiv 4=((P.length/4:Nat):Int):=rfl
  refine⟨bs,[129,203],⟨rfl,rfl,rfl,by omega,rfl,rfl,by omega,by omega,by simp⟩,ckI (by simp[aC]) ⟨_,rfl, ?_⟩⟩
  try dsimp only
  rw[htd]
  refine aF ⟨_,[_],⟨rfl,rfl,rfl,by first | (simp[aG];done) | (simp[aG];omega),rfl,rfl,by omega,by omega,by simp⟩, ?_⟩
  rw[takeB]
  refine ckI (by simp[aC,aY];omega) (cK (λh=>by rw[bS]at h;exfalso;omega) (λh=>ckO (ckI (by simp[aC,aG];omega) ?_)))
  rw[aC,bE,aJ,←bW2]
  have hR2:bs++aB 1 [129,203]++aB 2 [((P.length/4:Nat):Int)]++P=bs++oneM ⟨3,f,0,0,0,0,0,0,[],[],0,0,[]⟩:=by rw[hR,iM];first | (simp only[bW9];done) | (simp only[bW9];rfl)
  rw[hR2]
  first | exact hq | exact⟨rfl,hq⟩
theorem bTl(bs:LA)(hbs:bs.length<=20000)(f a:Int)(lo:QT)(hlo:eT lo=true)(Q:BS)(hq:Q (.ret (.sl 0 (bs++oneM ⟨4,f,a,0,0,0,0,0,[],lo,0,0,[]⟩).length 0 (bs++oneM ⟨4,f,a,0,0,0,0,0,[],lo,0,0,[]⟩).length 1)) [⟨.grow,true,ofBytes (bs++oneM ⟨4,f,a,0,0,0,0,0,[],lo,0,0,[]⟩)⟩] {}):∃hv hb,xB hv hb bs f a lo Q:=by
 obtain⟨hv,hb',e⟩:∃hv hb,xB hv hb bs f a lo Q=_:=⟨_,_,bIv bs f a lo Q⟩
 refine⟨hv,hb',e.mpr ?_⟩
 delta aOs iV aJd aYf aXs aDg sZ fK aM9 sN aWq bJp bGw zM aIx aF5 gY bAu aZu vB aFi qQ wS mX yP aXx
 unfold tlC
 clear e
 have hR:oneM ⟨4,f,a,0,0,0,0,0,[],lo,0,0,[]⟩=iM 1 205 (bR (aB 4 [f]++aB 4 [a]++jO (bA lo))):=by simp[oneM,mM,aCm,aBy,fF,jO,bA]
 have hnp:=nacks_parts hlo
 have hpl:=qF lo
 refine⟨[f],⟨rfl,rfl,by omega,by omega,by simp,by simp⟩,⟨_,[a],⟨rfl,rfl,rfl,by simp[aG],rfl,rfl,by omega,by omega,by simp⟩,lo,⟨rfl,rfl,hlo⟩,_,rfl,⟨(0,aB 4 [f]++aB 4 [a]),⟨bYb _,by simp[jO]⟩,rfl,rfl,rfl,rfl,rfl,rfl,rfl,rfl,rfl,rfl,rfl,rfl,trivial⟩, ?_⟩⟩
 rintro⟨i,B⟩ ⟨g1,g2⟩
 dsimp only at g1 g2 ⊢
 have hl0:4<=B.length∧B.length<=500:=by rw[g2];simp only[bW2,aG,tV,bXg,bXc,bXm];omega
 refine aH (λh => ?_) (λh => ?_)
 ·have hi:i<(bA lo).length:=by omega
  obtain⟨r,hr,hc⟩:=aMs hi (bZz 2 i▸rfl:i*2=2*i)
  refine ckO (ckI (by first | (simp[dS];done) | (simp[dS];omega)) ⟨r.1,r.2,by first | (rw[bXf,hc];done) | (rw[bXf,hc];rfl),B,[r.1,r.2],_,_,⟨rfl,rfl,rfl,by omega,rfl,by omega,rfl,rfl,by omega⟩,aF ⟨⟨trivial,rfl⟩,(i+1,B++aB 2 [r.1,r.2]),⟨hi,by rw[aYd hr,g2];simp only[bW9]⟩,by dsimp only;omega,rfl,rfl,rfl,rfl,rfl,rfl,rfl,rfl,rfl,rfl,rfl,rfl,trivial⟩⟩)
 ·obtain rfl:i=(bA lo).length:=by omega
  rw[bX8]at g2
  rw[←g2]at hR
  have hl:4<=B.length∧B.length<=5000:=by omega
  clear hl0
  have hp:bR B=B++List.replicate ((4-B.length%4)%4) 0:=rfl
  refine ckI (by simp[aC]) ⟨_,rfl,bCh (by omega) ?_⟩
  have hpp:(4-B.length%4)%4<4:=by omega
  have hz:=gX ((4-B.length%4)%4)
  have hlp:(bR B).length=B.length+(4-B.length%4)%4:=by rw[hp];simp
  generalize (4-B.length%4)%4=p at hp hpp hz hlp ⊢
  rw[fI]at hz
  rw[bXf,hz]
  refine ckI (by simp[aY];omega) (aH (λh0 => ?_) (λh0 => ?_))
  ·obtain rfl:p=0:=by omega
   rw[bYz,bXs]at hp
   rw[hp]at hR
   refine ckI rfl (ckI (by simp[aC]) ?_)
   have htd:((B.length:Nat):Int).tdiv 4=((B.length/4:Nat):Int):=rfl
   refine⟨bs,[129,205],⟨rfl,rfl,rfl,by omega,rfl,rfl,by omega,by omega,by simp⟩,ckI (by simp[aC]) ⟨_,rfl, ?_⟩⟩
   try dsimp only
   rw[htd]
   refine aF ⟨_,[_],⟨rfl,rfl,rfl,by first | (simp[aG];done) | (simp[aG];omega),rfl,rfl,by omega,by omega,by simp⟩, ?_⟩
   rw[takeB]
   refine ckI (by simp[aC,aY];omega) (cK (λh=>by rw[bS]at h;exfalso;omega) (λh=>ckO (ckI (by simp[aC,aG];omega) ?_)))
   rw[aC,bE,aJ,←bW2]
   have hR2:bs++aB 1 [129,205]++aB 2 [((B.length/4:Nat):Int)]++B=bs++oneM ⟨4,f,a,0,0,0,0,0,[],lo,0,0,[]⟩:=by rw[hR,iM];first | (simp only[bW9];done) | (simp only[bW9];rfl)
   rw[hR2]
   first | exact hq | exact⟨rfl,hq⟩
  ·rw[aC (List.replicate p 0),bXb,aJ,bE,←hp]
   refine ckO (ckI (by simp[aC];omega) ?_)
   rw[←hlp]
   generalize bR B=P at hp hR hlp ⊢
   have htd:((P.length:Nat):Int).tdiv 4=((P.length/4:Nat):Int):=rfl
   refine⟨bs,[129,205],⟨rfl,rfl,rfl,by omega,rfl,rfl,by omega,by omega,by simp⟩,ckI (by simp[aC]) ⟨_,rfl, ?_⟩⟩
   try dsimp only
   rw[htd]
   refine aF ⟨_,[_],⟨rfl,rfl,rfl,by first | (simp[aG];done) | (simp[aG];omega),rfl,rfl,by omega,by omega,by simp⟩, ?_⟩
   rw[takeB]
   refine ckI (by simp[aC,aY];omega) (cK (λh=>by rw[bS]at h;exfalso;omega) (λh=>ckO (ckI (by simp[aC,aG];omega) ?_)))
   rw[aC,bE,aJ,←bW2]
   have hR2:bs++aB 1 [129,205]++aB 2 [((P.length/4:Nat):Int)]++P=bs++oneM ⟨4,f,a,0,0,0,0,0,[],lo,0,0,[]⟩:=by rw[hR,iM];first | (simp only[bW9];done) | (simp only[bW9];rfl)
   rw[hR2]
   first | exact hq | exact⟨rfl,hq⟩
theorem bU5(bs:LA)(hbs:bs.length<=20000)(f a:Int)(Q:BS)(hq:Q (.ret (.sl 0 (bs++oneM ⟨5,f,a,0,0,0,0,0,[],[],0,0,[]⟩).length 0 (bs++oneM ⟨5,f,a,0,0,0,0,0,[],[],0,0,[]⟩).length 1)) [⟨.grow,true,ofBytes (bs++oneM ⟨5,f,a,0,0,0,0,0,[],[],0,0,[]⟩)⟩] {}):∃hv hb,vM hv hb bs f a Q:=by
 obtain⟨hv,hb',e⟩:∃hv hb,vM hv hb bs f a Q=_:=⟨_,_,bI0 bs f a Q⟩
 refine⟨hv,hb',e.mpr ?_⟩
 unfold tlC
 clear e
 have hR:oneM ⟨5,f,a,0,0,0,0,0,[],[],0,0,[]⟩=iM 1 206 (bR (aB 4 [f]++aB 4 [a])):=by simp[oneM,mM,aCm,aBy,fF,jO,bA]
 refine⟨[f],⟨rfl,rfl,by omega,by omega,by simp,by simp⟩,⟨_,[a],⟨rfl,rfl,rfl,by simp[aG],rfl,rfl,by omega,by omega,by simp⟩, ?_⟩⟩
 obtain⟨B,hB⟩:∃B,B=aB 4 [f]++aB 4 [a]:=⟨_,rfl⟩
 have hl:4<=B.length∧B.length<=5000:=by rw[hB];simp[aG]
 rw[←hB]at hR ⊢
 have hp:bR B=B++List.replicate ((4-B.length%4)%4) 0:=rfl
 refine ckI (by simp[aC]) ⟨_,rfl,bCh (by omega) ?_⟩
 have hpp:(4-B.length%4)%4<4:=by omega
 have hz:=gX ((4-B.length%4)%4)
 have hlp:(bR B).length=B.length+(4-B.length%4)%4:=by rw[hp];simp
 generalize (4-B.length%4)%4=p at hp hpp hz hlp ⊢
 rw[fI]at hz
 rw[bXf,hz]
 refine ckI (by simp[aY];omega) (aH (λh0 => ?_) (λh0 => ?_))
 ·obtain rfl:p=0:=by omega
  rw[bYz,bXs]at hp
  rw[hp]at hR
  refine ckI rfl (ckI (by simp[aC]) ?_)
  have htd:((B.length:Nat):Int).tdiv 4=((B.length/4:Nat):Int):=rfl
  refine⟨bs,[129,206],⟨rfl,rfl,rfl,by omega,rfl,rfl,by omega,by omega,by simp⟩,ckI (by simp[aC]) ⟨_,rfl, ?_⟩⟩
  try dsimp only
  rw[htd]
  refine aF ⟨_,[_],⟨rfl,rfl,rfl,by first | (simp[aG];done) | (simp[aG];omega),rfl,rfl,by omega,by omega,by simp⟩, ?_⟩
  rw[takeB]
  refine ckI (by simp[aC,aY];omega) (cK (λh=>by rw[bS]at h;exfalso;omega) (λh=>ckO (ckI (by simp[aC,aG];omega) ?_)))
  rw[aC,bE,aJ,←bW2]
  have hR2:bs++aB 1 [129,206]++aB 2 [((B.length/4:Nat):Int)]++B=bs++oneM ⟨5,f,a,0,0,0,0,0,[],[],0,0,[]⟩:=by rw[hR,iM];first | (simp only[bW9];done) | (simp only[bW9];rfl)
  rw[hR2]
  first | exact hq | exact⟨rfl,hq⟩
 ·rw[aC (List.replicate p 0),bXb,aJ,bE,←hp]
  refine ckO (ckI (by simp[aC];omega) ?_)
  rw[←hlp]
  generalize bR B=P at hp hR hlp ⊢
  have htd:((P.length:Nat):Int).tdiv 4=((P.length/4:Nat):Int):=rfl
  refine⟨bs,[129,206],⟨rfl,rfl,rfl,by omega,rfl,rfl,by omega,by omega,by simp⟩,ckI (by simp[aC]) ⟨_,rfl, ?_⟩⟩
  try dsimp only
  rw[htd]
  refine aF ⟨_,[_],⟨rfl,rfl,rfl,by first | (simp[aG];done) | (simp[aG];omega),rfl,rfl,by omega,by omega,by simp⟩, ?_⟩
  rw[takeB]
  refine ckI (by simp[aC,aY];omega) (cK (λh=>by rw[bS]at h;exfalso;omega) (λh=>ckO (ckI (by simp[aC,aG];omega) ?_)))
  rw[aC,bE,aJ,←bW2]
  have hR2:bs++aB 1 [129,206]++aB 2 [((P.length/4:Nat):Int)]++P=bs++oneM ⟨5,f,a,0,0,0,0,0,[],[],0,0,[]⟩:=by rw[hR,iM];first | (simp only[bW9];done) | (simp only[bW9];rfl)
  rw[hR2]
  first | exact hq | exact⟨rfl,hq⟩
theorem bTa(bs:LA)(hbs:bs.length<=20000)(f a ba ro:Int)(ti:QT)(hti:(bM ti).2.2=true)(Q:BS)(hq:Q (.ret (.sl 0 (bs++oneM ⟨6,f,a,0,0,0,0,0,[],[],ba,ro,ti⟩).length 0 (bs++oneM ⟨6,f,a,0,0,0,0,0,[],[],ba,ro,ti⟩).length 1)) [⟨.grow,true,ofBytes (bs++oneM ⟨6,f,a,0,0,0,0,0,[],[],ba,ro,ti⟩)⟩] {}):∃hv hb,wP hv hb bs f a ba ro ti Q:=by
 obtain⟨hv,hb',e⟩:∃hv hb,wP hv hb bs f a ba ro ti Q=_:=⟨_,_,bGt bs f a ba ro ti Q⟩
 refine⟨hv,hb',e.mpr ?_⟩
 delta aOs iV aJd bNw aQx aDg sZ fK aM9 sN zM xS aTg gY
 unfold tlC
 clear e
 have hR:oneM ⟨6,f,a,0,0,0,0,0,[],[],ba,ro,ti⟩=iM 15 205 (bR (aB 4 [f]++aB 4 [a]++(aB 2 [ba]++yS ti ro))):=by simp[oneM,mM,aCm,aBy,fF,jO,bA]
 have hal:=aP3 (ro:=ro) hti
 refine⟨[f],⟨rfl,rfl,by omega,by omega,by simp,by simp⟩,⟨_,[a],⟨rfl,rfl,rfl,by simp[aG],rfl,rfl,by omega,by omega,by simp⟩,_,[ba],_,_,⟨rfl,rfl,rfl,by simp[aG],rfl,by omega,rfl,rfl,by omega⟩, ?_⟩⟩
 refine ckI (by simp[dE,iC]) (ckI (by simp[dE,iC,zR]) ⟨_,ti,⟨rfl,rfl,rfl,by simp[aG],rfl,rfl,hti⟩, ?_⟩)
 obtain⟨B,hB⟩:∃B,B=aB 4 [f]++aB 4 [a]++aB 2 [ba]++yS ti ro:=⟨_,rfl⟩
 have hl:4<=B.length∧B.length<=5000:=by rw[hB];simp[aG];omega
 rw[←bW9,←hB]at hR
 rw[←hB]
 have hp:bR B=B++List.replicate ((4-B.length%4)%4) 0:=rfl
 refine ckI (by simp[aC]) ⟨_,rfl,bCh (by omega) ?_⟩
 have hpp:(4-B.length%4)%4<4:=by omega
 have hz:=gX ((4-B.length%4)%4)
 have hlp:(bR B).length=B.length+(4-B.length%4)%4:=by rw[hp];simp
 generalize (4-B.length%4)%4=p at hp hpp hz hlp ⊢
 rw[fI]at hz
 rw[bXf,hz]
 refine ckI (by simp[aY];omega) (aH (λh0 => ?_) (λh0 => ?_))
 ·obtain rfl:p=0:=by omega
  rw[bYz,bXs]at hp
  rw[hp]at hR
  refine ckI rfl (ckI (by simp[aC]) ?_)
  have htd:((B.length:Nat):Int).tdiv 4=((B.length/4:Nat):Int):=rfl
  refine⟨bs,[143,205],⟨rfl,rfl,rfl,by omega,rfl,rfl,by omega,by omega,by simp⟩,ckI (by simp[aC]) ⟨_,rfl, ?_⟩⟩
  try dsimp only
  rw[htd]
  refine aF ⟨_,[_],⟨rfl,rfl,rfl,by first | (simp[aG];done) | (simp[aG];omega),rfl,rfl,by omega,by omega,by simp⟩, ?_⟩
  rw[takeB]
  refine ckI (by simp[aC,aY];omega) (cK (λh=>by rw[bS]at h;exfalso;omega) (λh=>ckO (ckI (by simp[aC,aG];omega) ?_)))
  rw[aC,bE,aJ,←bW2]
  have hR2:bs++aB 1 [143,205]++aB 2 [((B.length/4:Nat):Int)]++B=bs++oneM ⟨6,f,a,0,0,0,0,0,[],[],ba,ro,ti⟩:=by rw[hR,iM];first | (simp only[bW9];done) | (simp only[bW9];rfl)
  rw[hR2]
  first | exact hq | exact⟨rfl,hq⟩
 ·rw[aC (List.replicate p 0),bXb,aJ,bE,←hp]
  refine ckO (ckI (by simp[aC];omega) ?_)
  rw[←hlp]
  generalize bR B=P at hp hR hlp ⊢
  have htd:((P.length:Nat):Int).tdiv 4=((P.length/4:Nat):Int):=rfl
  refine⟨bs,[143,205],⟨rfl,rfl,rfl,by omega,rfl,rfl,by omega,by omega,by simp⟩,ckI (by simp[aC]) ⟨_,rfl, ?_⟩⟩
  try dsimp only
  rw[htd]
  refine aF ⟨_,[_],⟨rfl,rfl,rfl,by first | (simp[aG];done) | (simp[aG];omega),rfl,rfl,by omega,by omega,by simp⟩, ?_⟩
  rw[takeB]
  refine ckI (by simp[aC,aY];omega) (cK (λh=>by rw[bS]at h;exfalso;omega) (λh=>ckO (ckI (by simp[aC,aG];omega) ?_)))
  rw[aC,bE,aJ,←bW2]
  have hR2:bs++aB 1 [143,205]++aB 2 [((P.length/4:Nat):Int)]++P=bs++oneM ⟨6,f,a,0,0,0,0,0,[],[],ba,ro,ti⟩:=by rw[hR,iM];first | (simp only[bW9];done) | (simp only[bW9];rfl)
  rw[hR2]
  first | exact hq | exact⟨rfl,hq⟩
theorem iQ(c:Ctl):validM c=true↔((1<=c.k∧c.k<=6)∧in32 c.f∧in32 c.a∧in32 c.s1∧in32 c.s2∧in32 c.s3∧in32 c.s4∧in32 c.s5∧(0<=c.ba∧c.ba<65536)∧(0<=c.ro∧c.ro<256)
  ∧ (c.k<=3->c.a=0)∧(c.k≠1->c.s1=0∧c.s2=0∧c.s3=0∧c.s4=0∧c.s5=0)∧(c.k≠6->c.ba=0∧c.ro=0∧c.ti.length=0)∧(3<=c.k->c.rs.length=0)∧(c.k≠4->c.lo.length=0)
  ∧ (c.k=6->(bM c.ti).2.2=true)∧gF c.rs=true∧(c.k=4->eT c.lo=true)):=by
 rw[validM,bW6]
theorem aVx{rs:List Rc}(h:gF rs=true):rs.length<=6:=by
 simp only[gF,bW3,bW6]at h
 exact h.1
theorem valid_cases{c:Ctl}(h:validM c=true) :
  (∃f s1 s2 s3 s4 s5 rs,c=⟨1,f,0,s1,s2,s3,s4,s5,rs,[],0,0,[]⟩∧rs.length<=6)∨(∃f rs,c=⟨2,f,0,0,0,0,0,0,rs,[],0,0,[]⟩∧rs.length<=6)∨(∃f,c=⟨3,f,0,0,0,0,0,0,[],[],0,0,[]⟩)
  ∨ (∃f a lo,c=⟨4,f,a,0,0,0,0,0,[],lo,0,0,[]⟩∧eT lo=true)∨(∃f a,c=⟨5,f,a,0,0,0,0,0,[],[],0,0,[]⟩)∨(∃f a ba ro ti,c=⟨6,f,a,0,0,0,0,0,[],[],ba,ro,ti⟩∧(bM ti).2.2=true):=by
 rw[iQ]at h
 obtain⟨k,f,a,s1,s2,s3,s4,s5,rs,lo,ba,ro,ti⟩:=c
 dsimp only at h
 obtain⟨h1,hf,ha,hs1,hs2,hs3,hs4,hs5,hba,hro,h2,h3,h4,h5,h6,h7,h8,h9⟩:=h
 have hr:=aVx h8
 have nil:∀ {α:Type} {l:List α},l.length=0->l=[]:=λh=>bXo h
 obtain rfl | rfl | rfl | rfl | rfl | rfl:k=1∨k=2∨k=3∨k=4∨k=5∨k=6:=by omega
 ·obtain⟨rfl,rfl,e⟩:=h4 (by omega)
  obtain rfl:=nil e
  obtain rfl:=h2 (by omega)
  obtain rfl:=nil (h6 (by omega))
  exact .inl ⟨f,s1,s2,s3,s4,s5,rs,rfl,hr⟩
 ·obtain⟨rfl,rfl,e⟩:=h4 (by omega)
  obtain rfl:=nil e
  obtain rfl:=h2 (by omega)
  obtain⟨rfl,rfl,rfl,rfl,rfl⟩:=h3 (by omega)
  obtain rfl:=nil (h6 (by omega))
  exact .inr (.inl ⟨f,rs,rfl,hr⟩)
 ·obtain⟨rfl,rfl,e⟩:=h4 (by omega)
  obtain rfl:=nil e
  obtain rfl:=h2 (by omega)
  obtain⟨rfl,rfl,rfl,rfl,rfl⟩:=h3 (by omega)
  obtain rfl:=nil (h6 (by omega))
  obtain rfl:=nil (h5 (by omega))
  exact .inr (.inr (.inl ⟨f,rfl⟩))
 ·obtain⟨rfl,rfl,e⟩:=h4 (by omega)
  obtain rfl:=nil e
  obtain⟨rfl,rfl,rfl,rfl,rfl⟩:=h3 (by omega)
  obtain rfl:=nil (h5 (by omega))
  exact .inr (.inr (.inr (.inl ⟨f,a,lo,rfl,h9 rfl⟩)))
 ·obtain⟨rfl,rfl,e⟩:=h4 (by omega)
  obtain rfl:=nil e
  obtain⟨rfl,rfl,rfl,rfl,rfl⟩:=h3 (by omega)
  obtain rfl:=nil (h6 (by omega))
  obtain rfl:=nil (h5 (by omega))
  exact .inr (.inr (.inr (.inr (.inl ⟨f,a,rfl⟩))))
 ·obtain⟨rfl,rfl,rfl,rfl,rfl⟩:=h3 (by omega)
  obtain rfl:=nil (h6 (by omega))
  obtain rfl:=nil (h5 (by omega))
  exact .inr (.inr (.inr (.inr (.inr ⟨f,a,ba,ro,ti,rfl,h7 rfl⟩))))
def xC:iO
 | [.nils,.agg cs],H,K=>∃c:Ctl,Lf (cs=ctC c∧validM c=true∧(c.k=1∨c.k=2))∧∀ (c1 c2 c3:HB) (R:LA),Lf (R=oneM c)->K (.ret (.sl (H.length+3) R.length 0 R.length 1)) (H++[⟨.exact,true,c1⟩,⟨.exact,true,c2⟩,⟨.grow,true,c3⟩,⟨.grow,true,ofBytes R⟩])
 | [.sl id tot 0 len 1,.agg cs],H,K=>∃ (bs:LA) (c:Ctl),Lf (H[id]? = some ⟨.grow,true,ofBytes bs⟩∧tot=bs.length∧len=bs.length∧bs.length<=20000∧cs=ctC c∧validM c=true)∧∀R:LA,Lf (R=bs++oneM c)->K (.ret (.sl id R.length 0 R.length 1)) (H.set id ⟨.grow,true,ofBytes R⟩)
 | _,_,_=>False
theorem aJ8{H:HV}{c1 c2 c3:HB}{R:LA}(h1:aP 0 c1=true∧bX c1=true)(h2:aP 0 c2=true∧bX c2=true)(h3:aP 0 c3=true∧bX c3=true) :
  FrEnd id [] [⟨.exact,true,c1⟩,⟨.exact,true,c2⟩,⟨.grow,true,c3⟩,⟨.grow,true,ofBytes R⟩] H (H++[⟨.exact,true,c1⟩,⟨.exact,true,c2⟩,⟨.grow,true,c3⟩,⟨.grow,true,ofBytes R⟩]):=by
 refine⟨by simp,λj b0 hb hk=>by simp at hb,λj b0 hb hk=>by simp at hb,λj b0 hj hb => ?_,by simp,λk hk hn => ?_,λj b hb hk => ?_⟩
 ·match j with
  | 0=>simp at hb;subst hb;simp
  | 1=>simp at hb;subst hb;simp
  | 2=>simp at hb;subst hb;simp
  | 3=>simp at hb;subst hb;simp
  | j+4=>simp at hb
 ·rw[bXx hk]
 ·have hs:sig id 0 H.length j=H.length+j:=by simp[sig]
  show(H++_)[sig id 0 H.length j]? = _
  rw[hs,bYa (by omega),cBp]
  match j with
  | 0=>simp at hb;subst hb;simp only[bXv,aDd,aU _ _ h1.1 h1.2]
  | 1=>simp at hb;subst hb;simp only[bZr,bXv,aDd,aU _ _ h2.1 h2.2]
  | 2=>simp at hb;subst hb;simp only[bZr,bXv,aDd,aU _ _ h3.1 h3.2]
  | 3=>simp at hb;subst hb;simp only[bZr,bXv,aDd,aU _ _ (aJ 0 _) (bG _)]
  | j+4=>simp at hb
theorem aJc:aI Tryz.prog gl0 96 xC:=by
 refine fZ (enters_of (by kernel_rfl)) aO λargs H Q hc => ?_
 unfold xC at hc
 split at hc
 ·obtain⟨c,⟨rfl,h1,h2⟩,hq⟩:=hc
  rcases valid_cases h1 with ⟨f,s1,s2,s3,s4,s5,rs,rfl,hrs⟩ | ⟨f,rs,rfl,hrs⟩ | ⟨f,rfl⟩ | ⟨f,a,lo,rfl,hlo⟩ | ⟨f,a,rfl⟩ | ⟨f,a,ba,ro,ti,rfl,hti⟩
  ·obtain⟨hv,hb',h⟩:=bTn f s1 s2 s3 s4 s5 rs hrs (λo H' _=>∃c1 c2 c3 R,(aP 0 c1=true∧bX c1=true)∧(aP 0 c2=true∧bX c2=true)∧(aP 0 c3=true∧bX c3=true)∧R=oneM ⟨1,f,0,s1,s2,s3,s4,s5,rs,[],0,0,[]⟩∧o=.ret (.sl 3 R.length 0 R.length 1)∧H'=[⟨.exact,true,c1⟩,⟨.exact,true,c2⟩,⟨.grow,true,c3⟩,⟨.grow,true,ofBytes R⟩])
    (λc1 c2 c3 R g1 g2 g3 g4=>⟨c1,c2,c3,R,g1,g2,g3,g4,rfl,rfl⟩)
   refine⟨_,1000,id,_,[],_,bL nA _ _ _,rfl,(aU id _ rfl rfl).symm,rfl,rfl,Fr.nil _,h, ?_⟩
   rintro o H0' g' ⟨c1,c2,c3,R,g1,g2,g3,g4,rfl,rfl⟩
   refine⟨_,aJ8 g1 g2 g3, ?_⟩
   have:=hq c1 c2 c3 R ⟨g4⟩
   simpa[bKu,ren,sig]using this
  ·obtain⟨hv,hb',h⟩:=bSe f rs hrs (λo H' _=>∃c1 c2 c3 R,(aP 0 c1=true∧bX c1=true)∧(aP 0 c2=true∧bX c2=true)∧(aP 0 c3=true∧bX c3=true)∧R=oneM ⟨2,f,0,0,0,0,0,0,rs,[],0,0,[]⟩∧o=.ret (.sl 3 R.length 0 R.length 1)∧H'=[⟨.exact,true,c1⟩,⟨.exact,true,c2⟩,⟨.grow,true,c3⟩,⟨.grow,true,ofBytes R⟩])
    (λc1 c2 c3 R g1 g2 g3 g4=>⟨c1,c2,c3,R,g1,g2,g3,g4,rfl,rfl⟩)
   refine⟨_,1000,id,_,[],_,bL nA _ _ _,rfl,(aU id _ rfl rfl).symm,rfl,rfl,Fr.nil _,h, ?_⟩
   rintro o H0' g' ⟨c1,c2,c3,R,g1,g2,g3,g4,rfl,rfl⟩
   refine⟨_,aJ8 g1 g2 g3, ?_⟩
   have:=hq c1 c2 c3 R ⟨g4⟩
   simpa[bKu,ren,sig]using this
  all_goals exact absurd h2 (by simp)
 ·rename_i id tot len cs
  obtain⟨bs,c,⟨h1,rfl,rfl,h3,rfl,h4⟩,hq⟩:=hc
  have hq:=hq _ ⟨rfl⟩
  rcases valid_cases h4 with ⟨f,s1,s2,s3,s4,s5,rs,rfl,hrs⟩ | ⟨f,rs,rfl,hrs⟩ | ⟨f,rfl⟩ | ⟨f,a,lo,rfl,hlo⟩ | ⟨f,a,rfl⟩ | ⟨f,a,ba,ro,ti,rfl,hti⟩
  ·obtain⟨hv,hb',h⟩:=bSs bs h3 f s1 s2 s3 s4 s5 rs hrs (λo H' _=>o=.ret (.sl 0 (bs++oneM ⟨1,f,0,s1,s2,s3,s4,s5,rs,[],0,0,[]⟩).length 0 (bs++oneM ⟨1,f,0,s1,s2,s3,s4,s5,rs,[],0,0,[]⟩).length 1)∧H'=[⟨.grow,true,ofBytes (bs++oneM ⟨1,f,0,s1,s2,s3,s4,s5,rs,[],0,0,[]⟩)⟩]) ⟨rfl,rfl⟩
   refine⟨_,1000,λ_=>id,[.sl 0 bs.length 0 bs.length 1,.agg (ctC ⟨1,f,0,s1,s2,s3,s4,s5,rs,[],0,0,[]⟩)],[⟨.grow,true,ofBytes bs⟩],_,bL nA _ _ _,rfl,rfl,rfl,rfl,jD h1 (aJ 0 _) (aJ 1 _) (bG _),h, ?_⟩
   rintro o H0' g' ⟨rfl,rfl⟩
   exact⟨_,gH h1 (aJ 0 _) (bG _),hq⟩
  ·obtain⟨hv,hb',h⟩:=bVd bs h3 f rs hrs (λo H' _=>o=.ret (.sl 0 (bs++oneM ⟨2,f,0,0,0,0,0,0,rs,[],0,0,[]⟩).length 0 (bs++oneM ⟨2,f,0,0,0,0,0,0,rs,[],0,0,[]⟩).length 1)∧H'=[⟨.grow,true,ofBytes (bs++oneM ⟨2,f,0,0,0,0,0,0,rs,[],0,0,[]⟩)⟩]) ⟨rfl,rfl⟩
   refine⟨_,1000,λ_=>id,[.sl 0 bs.length 0 bs.length 1,.agg (ctC ⟨2,f,0,0,0,0,0,0,rs,[],0,0,[]⟩)],[⟨.grow,true,ofBytes bs⟩],_,bL nA _ _ _,rfl,rfl,rfl,rfl,jD h1 (aJ 0 _) (aJ 1 _) (bG _),h, ?_⟩
   rintro o H0' g' ⟨rfl,rfl⟩
   exact⟨_,gH h1 (aJ 0 _) (bG _),hq⟩
  ·obtain⟨hv,hb',h⟩:=bS0 bs h3 f (λo H' _=>o=.ret (.sl 0 (bs++oneM ⟨3,f,0,0,0,0,0,0,[],[],0,0,[]⟩).length 0 (bs++oneM ⟨3,f,0,0,0,0,0,0,[],[],0,0,[]⟩).length 1)∧H'=[⟨.grow,true,ofBytes (bs++oneM ⟨3,f,0,0,0,0,0,0,[],[],0,0,[]⟩)⟩]) ⟨rfl,rfl⟩
   refine⟨_,1000,λ_=>id,[.sl 0 bs.length 0 bs.length 1,.agg (ctC ⟨3,f,0,0,0,0,0,0,[],[],0,0,[]⟩)],[⟨.grow,true,ofBytes bs⟩],_,bL nA _ _ _,rfl,rfl,rfl,rfl,jD h1 (aJ 0 _) (aJ 1 _) (bG _),h, ?_⟩
   rintro o H0' g' ⟨rfl,rfl⟩
   exact⟨_,gH h1 (aJ 0 _) (bG _),hq⟩
  ·obtain⟨hv,hb',h⟩:=bTl bs h3 f a lo hlo (λo H' _=>o=.ret (.sl 0 (bs++oneM ⟨4,f,a,0,0,0,0,0,[],lo,0,0,[]⟩).length 0 (bs++oneM ⟨4,f,a,0,0,0,0,0,[],lo,0,0,[]⟩).length 1)∧H'=[⟨.grow,true,ofBytes (bs++oneM ⟨4,f,a,0,0,0,0,0,[],lo,0,0,[]⟩)⟩]) ⟨rfl,rfl⟩
   refine⟨_,1000,λ_=>id,[.sl 0 bs.length 0 bs.length 1,.agg (ctC ⟨4,f,a,0,0,0,0,0,[],lo,0,0,[]⟩)],[⟨.grow,true,ofBytes bs⟩],_,bL aWu _ _ _,rfl,rfl,rfl,rfl,jD h1 (aJ 0 _) (aJ 1 _) (bG _),h, ?_⟩
   rintro o H0' g' ⟨rfl,rfl⟩
   exact⟨_,gH h1 (aJ 0 _) (bG _),hq⟩
  ·obtain⟨hv,hb',h⟩:=bU5 bs h3 f a (λo H' _=>o=.ret (.sl 0 (bs++oneM ⟨5,f,a,0,0,0,0,0,[],[],0,0,[]⟩).length 0 (bs++oneM ⟨5,f,a,0,0,0,0,0,[],[],0,0,[]⟩).length 1)∧H'=[⟨.grow,true,ofBytes (bs++oneM ⟨5,f,a,0,0,0,0,0,[],[],0,0,[]⟩)⟩]) ⟨rfl,rfl⟩
   refine⟨_,1000,λ_=>id,[.sl 0 bs.length 0 bs.length 1,.agg (ctC ⟨5,f,a,0,0,0,0,0,[],[],0,0,[]⟩)],[⟨.grow,true,ofBytes bs⟩],_,bL nA _ _ _,rfl,rfl,rfl,rfl,jD h1 (aJ 0 _) (aJ 1 _) (bG _),h, ?_⟩
   rintro o H0' g' ⟨rfl,rfl⟩
   exact⟨_,gH h1 (aJ 0 _) (bG _),hq⟩
  ·obtain⟨hv,hb',h⟩:=bTa bs h3 f a ba ro ti hti (λo H' _=>o=.ret (.sl 0 (bs++oneM ⟨6,f,a,0,0,0,0,0,[],[],ba,ro,ti⟩).length 0 (bs++oneM ⟨6,f,a,0,0,0,0,0,[],[],ba,ro,ti⟩).length 1)∧H'=[⟨.grow,true,ofBytes (bs++oneM ⟨6,f,a,0,0,0,0,0,[],[],ba,ro,ti⟩)⟩]) ⟨rfl,rfl⟩
   refine⟨_,1000,λ_=>id,[.sl 0 bs.length 0 bs.length 1,.agg (ctC ⟨6,f,a,0,0,0,0,0,[],[],ba,ro,ti⟩)],[⟨.grow,true,ofBytes bs⟩],_,bL nA _ _ _,rfl,rfl,rfl,rfl,jD h1 (aJ 0 _) (aJ 1 _) (bG _),h, ?_⟩
   rintro o H0' g' ⟨rfl,rfl⟩
   exact⟨_,gH h1 (aJ 0 _) (bG _),hq⟩
 ·exact hc.elim
def encCM(l:List Ctl):LA:=l.flatMap oneM
def bCt:SM:=fT [(95,aBk),(96,xC)]
theorem aPp:∀f g,bCt f=some g->aI Tryz.prog gl0 f g:=dX _ (by simp only[bXd,bXn,bY0,bYd,bY4];exact⟨aUo,aJc⟩)
abbrev X24:=Nat×LA×HB×HB×HB×HB
def bPm(t:Nat)(l:List Ctl):List LInv:=[
 { α:=Nat,pre:=λi=>Lf (i=0∧checkMCd l=true),st:=λi=>⟨mkT [(5,.nils),(13,.lst t (cellsCM l) l.length 13),(14,.int .i64 l.length),(15,.int .i64 (i:Nat))],[]⟩,mu:=λi=>l.length+1 },
 { α:=X24,pre:=λx=>Lf (1<=x.1∧x.1<=l.length∧checkMCd l=true∧x.2.1=encCM (l.take x.1)),st:=λx=>⟨mkT [(5,.sl 4 x.2.1.length 0 x.2.1.length 1),(13,.lst t (cellsCM l) l.length 13),(14,.int .i64 l.length),(15,.int .i64 (x.1:Nat))],[⟨.exact,true,x.2.2.1⟩,⟨.exact,true,x.2.2.2.1⟩,⟨.exact,true,x.2.2.2.2.1⟩,⟨.grow,true,x.2.2.2.2.2⟩,⟨.grow,true,ofBytes x.2.1⟩]⟩,mu:=λx=>l.length-x.1 }]
noncomputable def bCw(hv:LI)(hb:LB)(t:Nat)(l:List Ctl):Env:=e24 bCt (λi=>bif Nat.beq i 39000 then some (λ_=>[bPm t l])else none) hv hb
noncomputable def vO(hv:LI)(hb:LB)(t:Nat)(l:List Ctl)(Q:BS):Prop:=
 aT (bCw hv hb t l) (wpx (bCw hv hb t l) 1000) 39 [.lst t (cellsCM l) l.length 13] [] {} Q
abbrev bM9(x_3:Nat×LA×HB×HB×HB×HB)(l:List Ctl):Prop:=Lf (1<=x_3.1∧x_3.1<=l.length∧checkMCd l=true∧x_3.2.1=encCM (l.take x_3.1))
abbrev bIb(x_3:Nat)(l:List Ctl):HB:=((cellsCM l).drop ((x_3:Int).toNat*13)).take 13
abbrev bFl:HB:=[.int .i64 0,.int .i64 0,.int .i64 0,.int .i64 0,.int .i64 0,.int .i64 0,.int .i64 0,.int .i64 0,.nils,.nils,.int .i64 0,.int .i64 0,.nils]
abbrev bVl(c_4:Ctl):HB:=[.int .i64 c_4.1,.int .i64 c_4.2,.int .i64 c_4.3,.int .i64 c_4.4,.int .i64 c_4.5,.int .i64 c_4.6,.int .i64 c_4.7,.int .i64 c_4.8,.lst 0 (cellsRM c_4.9) c_4.9.length 7,.lst 0 (aA c_4.10) c_4.10.length 1,.int .i64 c_4.11,.int .i64 c_4.12,.lst 0 (aA c_4.13) c_4.13.length 1]
abbrev bTh(t:Nat)(l:List Ctl):Prop:=aK (AV.lst t (cellsCM l) l.length 13)∧aK (AV.int .i64 (l.length:Int))∧True
abbrev bJn(x_3:Nat×LA×HB×HB×HB×HB)(l:List Ctl):HB:=((cellsCM l).drop ((x_3.1:Int).toNat*13)).take 13
theorem bDi(t:Nat)(l:List Ctl)(Q:BS):vO (aW [(159758,.int .i64),(159766,.int .i64),(159768,.int .i64),(159771,.str)]) (aV []) t l Q=(∃l_0:List Ctl,Lf (cellsCM l=cellsCM l_0
 ∧ l.length=l_0.length∧l_0.length<=1000000∧∀c_1:Ctl,Membership.mem l_0 c_1->okCCd c_1)∧∀e_1:Int,Lf (e_1=ite (checkMCd l_0=true) 0 240)->bif e_1 !=0 then Q (.ret (.tup [.str [],.int .i64 e_1])) [] {}else exI .i64
 (l.length:Int) (λn_2=>((∃x_3:Nat,Lf (x_3=0∧checkMCd l=true)∧AV.int .i64 0=AV.int .i64 (x_3:Int)∧AV.nils=AV.nils∧aK (AV.lst t (cellsCM l) l.length 13)∧AV.int .i64 n_2=AV.int .i64 (l.length:Int)∧True) ∨
 ∃x_3:Nat×LA×HB×HB×HB×HB,bM9 x_3 l∧False)∧(∀x_3:Nat,Lf (x_3=0∧checkMCd l=true)->bif decide ((x_3:Int)<(l.length:Int))then ckQ (Nat.blt (x_3:Int).toNat l.length&&true) (ckQ
 (Nat.ble ((x_3:Int).toNat*13+13) (cellsCM l).length) (ckQ (Nat.beq (bIb x_3 l).length 13&&eH (bIb x_3 l)&&true) (ckQ (Nat.beq (aN bFl 0 (bIb x_3 l)).length 13&&true) (∃c_4:Ctl,Lf (((aN bFl 0 (bIb x_3
 l)).drop 0).take 13=bVl c_4∧validM c_4=true∧(Ctl.k c_4=1∨Ctl.k c_4=2))∧∀c1_5 c2_6 c3_7:HB,∀R_8:LA,Lf (R_8=oneM c_4)->exW .i64 ((x_3:Int)+1) (λn_9=>(True∧(0:Nat)=(0:Nat))∧((∃y_10
 : Nat,Lf (y_10=0∧checkMCd l=true)∧l.length+1<l.length+1∧False)∨∃y_10:Nat×LA×HB×HB×HB×HB,bM9 y_10 l∧l.length-y_10.1<l.length+1∧ckQ (aP 0 (bIb x_3 l)==true)
 (aN bFl 0 (bIb x_3 l)=y_10.2.2.1∧c1_5=y_10.2.2.2.1∧c2_6=y_10.2.2.2.2.1∧c3_7=y_10.2.2.2.2.2∧ofBytes R_8=ofBytes y_10.2.1∧AV.int .i64 n_9=AV.int .i64 (y_10.1:Int)∧AV.sl 4 R_8.length 0 R_8.length 1=AV.sl 4
 y_10.2.1.length 0 y_10.2.1.length 1∧bTh t l)))))))else exI .i64 0 (λn_4=>bif decide (n_4>1200)then Q (.ret (.tup [.str [],.int .i64 3])) [] {}else exS (.str []) (λs_5=>Q (.ret (.tup [.str s_5,.int .i64 0])) [] {})))∧∀
 x_3:Nat×LA×HB×HB×HB×HB,bM9 x_3 l->bif decide ((x_3.1:Int)<(l.length:Int))then ckQ (Nat.blt (x_3.1:Int).toNat l.length&&true) (ckQ (Nat.ble ((x_3.1:Int).toNat*13+13) (cellsCM
 l).length) (ckQ (Nat.beq (bJn x_3 l).length 13&&eH (bJn x_3 l)&&true) (ckQ (Nat.beq (aN bFl 0 (bJn x_3 l)).length 13&&true) (∃bs_4:LA,∃c_5:Ctl,Lf (GetElem?.getElem? [Blk.mk BK.exact true x_3.2.2.1,Blk.mk
 BK.exact true x_3.2.2.2.1,Blk.mk BK.exact true x_3.2.2.2.2.1,Blk.mk BK.grow true x_3.2.2.2.2.2,Blk.mk BK.grow true (ofBytes x_3.2.1),Blk.mk BK.exact (aP 0 (bJn x_3 l)) (aN bFl 0 (bJn x_3 l))] 4=Option.some (Blk.mk BK.grow
 true (ofBytes bs_4))∧x_3.2.1.length=bs_4.length∧x_3.2.1.length=bs_4.length∧bs_4.length<=20000∧((aN bFl 0 (bJn x_3 l)).drop 0).take 13=bVl c_5∧validM c_5=true)∧∀R_6:LA,Lf (R_6=bs_4++oneM c_5) →
 exW .i64 ((x_3.1:Int)+1) (λn_7=>(True∧(0:Nat)=(0:Nat))∧((∃y_8:Nat,Lf (y_8=0∧checkMCd l=true)∧l.length+1<l.length-x_3.1∧False)∨∃y_8:Nat×LA×HB×HB×HB×HB,bM9
 y_8 l∧l.length-y_8.1<l.length-x_3.1∧x_3.2.2.1=y_8.2.2.1∧x_3.2.2.2.1=y_8.2.2.2.1∧x_3.2.2.2.2.1=y_8.2.2.2.2.1∧x_3.2.2.2.2.2=y_8.2.2.2.2.2∧ofBytes R_6=ofBytes y_8.2.1∧AV.int .i64 n_7=AV.int .i64 (y_8.1:Int) ∧
 AV.sl 4 R_6.length 0 R_6.length 1=AV.sl 4 y_8.2.1.length 0 y_8.2.1.length 1∧bTh t l))))))else ckQ (Nat.beq (ofBytes x_3.2.1).length x_3.2.1.length) (exI .i64 (x_3.2.1.length:Int) (λn_4=>bif decide (n_4>1200)then Q (.ret
 (.tup [.str [],.int .i64 3])) [] {}else ckQ (Nat.beq (ofBytes x_3.2.1).length x_3.2.1.length&&Nat.ble (0+x_3.2.1.length) x_3.2.1.length&&true&&fU (((ofBytes x_3.2.1).drop 0).take x_3.2.1.length)) (exS (.str (List.map toB
 (((ofBytes x_3.2.1).drop 0).take x_3.2.1.length))) (λs_5=>Q (.ret (.tup [.str s_5,.int .i64 0])) [] {})))))):=by kernel_rfl

theorem aFh(l:List Ctl):checkMCd l=true↔(1<=l.length∧l.length<=8)∧pW l=true∧∀c∈l,validM c=true:=by
 simp only[checkMCd,bW3,bW6,bYy,and_assoc]
theorem aEk(b:LA):b.length<=(bR b).length∧(bR b).length<=b.length+3∧(bR b).length%4=0:=by
 rw[bR,bW2,bXb];omega
theorem aLe(n k:Int)(b:LA):(iM n k b).length=4+b.length:=by
 simp only[iM,bW2,aG,bXc,bXm]
theorem aWx{c:Ctl}(h:validM c=true):4<=(mM c).length∧(mM c).length<=450:=by
 rcases valid_cases h with ⟨f,s1,s2,s3,s4,s5,rs,rfl,hrs⟩ | ⟨f,rs,rfl,hrs⟩ | ⟨f,rfl⟩ | ⟨f,a,lo,rfl,hlo⟩ | ⟨f,a,rfl⟩ | ⟨f,a,ba,ro,ti,rfl,hti⟩
 all_goals simp only[mM,bW2,aG,bXc,bXm,kN,tV]
 ·simp[bA,aG];omega
 ·simp[bA];omega
 ·simp[bA]
 ·have:=qF lo
  have:=(nacks_parts hlo).2.1
  simp[aG];omega
 ·simp[bA,aG]
 ·have:=aP3 (ro:=ro) hti
  simp[bA,aG];omega
theorem one_len{c:Ctl}(h:validM c=true):8<=(oneM c).length∧(oneM c).length<=460∧(oneM c).length%4=0:=by
 have h1:=aWx h
 have h2:=aEk (mM c)
 rw[oneM,aLe];omega
theorem bA4(a b:List Ctl):encCM (a++b)=encCM a++encCM b:=by simp[encCM]
theorem aF0{l:List Ctl}{i:Nat}{c:Ctl}(h:l[i]? = some c):encCM (l.take (i+1))=encCM (l.take i)++oneM c:=by
 rw[bYm,h,bA4];simp[encCM]
theorem aTw:∀l:List Ctl,(∀c∈l,validM c=true)->(encCM l).length<=460*l.length
 | [],_=>by simp[encCM]
 | c::l,h=>by
  have h1:=one_len (h c (by simp))
  have h2:=aTw l (λd hd=>h d (by simp[hd]))
  have e:encCM (c::l)=oneM c++encCM l:=rfl
  rw[e,bW2,bXc];omega
theorem bV1(c:Ctl):aN [.int .i64 0,.int .i64 0,.int .i64 0,.int .i64 0,.int .i64 0,.int .i64 0,.int .i64 0,.int .i64 0,.nils,.nils,.int .i64 0,.int .i64 0,.nils] 0 (ctC c)=ctC c:=rfl
theorem wD:∀l:LA,fU (ofBytes l)=true
 | []=>rfl
 | x::l=>wD l
def encRMCd(l:List Ctl):LA×Int:=if checkMCd l=true then(if(encCM l).length<=1200 then(encCM l,0)else([],3))else([],240)
theorem bFy(t:Nat)(l:List Ctl)(hok:∀c∈l,okCCd c)(hl:l.length<=1000000)(Q:BS)(hq:∀s e,encRMCd l=(s,e)->Q (.ret (.tup [.str s,.int .i64 e])) [] {}):∃hv hb,vO hv hb t l Q:=by
 obtain⟨hv,hb',e⟩:∃hv hb,vO hv hb t l Q=_:=⟨_,_,bDi t l Q⟩
 refine⟨hv,hb',e.mpr ?_⟩
 delta bM9 bIb bFl bVl bTh bJn
 clear e
 refine⟨l,⟨rfl,rfl,hl,hok⟩, ?_⟩
 rintro e ⟨he⟩
 refine bK (λh0 => ?_) (λh0 => ?_)
 ·have hc:¬ checkMCd l=true:=λh=>h0 (by rw[he,if_pos h])
  rw[he,if_neg hc]
  exact hq _ _ (by rw[encRMCd,if_neg hc])
 ·have hc:checkMCd l=true:=by
   cases h:checkMCd l
   ·rw[if_neg (by rw[h];simp)]at he;omega
   ·rfl
  obtain⟨k1,k2,k3⟩:=(aFh l).1 hc
  refine⟨_,rfl,.inl ⟨0,⟨rfl,hc⟩,rfl,rfl,rfl,rfl,trivial⟩, ?_, ?_⟩
  ·rintro _ ⟨rfl,_⟩
   refine aH (λh => ?_) (λh=>by exfalso;omega)
   obtain⟨c,hr,hcc⟩:=rG (l:=l) (i:=0) (by omega) rfl
   have hm:=bY3 hr
   have hk:c.k=1∨c.k=2:=by
    rw[oO k1.1,bW6]at k2
    cases l with
    | nil=>simp at hr
    | cons d l=>simp at hr;subst hr;exact k2
   rw[show(Int.toNat ((0:Nat):Int))*13=0 from rfl]
   rw[show 13*0=0 from rfl]at hcc
   rw[hcc,bV1]
   refine ckO (ckI (by simp[cellsC_len];omega) (ckI rfl (ckI rfl ⟨c,⟨rfl,k3 c hm,hk⟩, ?_⟩)))
   rintro c1 c2 c3 R ⟨hR⟩
   refine aF ⟨⟨trivial,rfl⟩,.inr ⟨(1,R,ctC c,c1,c2,c3),⟨by simp,k1.1,hc, ?_⟩,by dsimp only;omega,ckI rfl ⟨rfl,rfl,rfl,rfl,rfl,rfl,rfl,rfl,rfl,trivial⟩⟩⟩
   rw[aF0 hr,hR];simp[encCM]
  ·rintro⟨i,B,J⟩ ⟨g1,g2,g3,g4⟩
   dsimp only at g1 g2 g4 ⊢
   have hBl:B.length<=460*8:=by
    rw[g4]
    have:=aTw (l.take i) (λc hcm=>k3 c (cAi hcm))
    have h2:(l.take i).length<=8:=by rw[bXg];omega
    omega
   refine aH (λh => ?_) (λh => ?_)
   ·have hi:i<l.length:=by omega
    obtain⟨c,hr,hcc⟩:=rG hi (bZz 13 i▸rfl:i*13=13*i)
    have hm:=bY3 hr
    rw[bXf,hcc,bV1]
    refine ckO (ckI (by simp[cellsC_len];omega) (ckI rfl (ckI rfl ⟨B,c,⟨rfl,rfl,rfl,by omega,rfl,k3 c hm⟩, ?_⟩)))
    rintro R ⟨hR⟩
    exact aF ⟨⟨trivial,rfl⟩,.inr ⟨(i+1,R,J),⟨by simp,hi,hc,by rw[aF0 hr,hR,g4]⟩,by dsimp only;omega,rfl,rfl,rfl,rfl,rfl,rfl,rfl,rfl,rfl,trivial⟩⟩
   ·have hi:i=l.length:=by omega
    subst hi
    rw[bX8]at g4
    subst g4
    have et:List.take (encCM l).length (List.drop 0 (ofBytes (encCM l)))=ofBytes (encCM l):=by
     rw[bXl];exact bW4 (by rw[aC];exact bXe _)
    refine ckI (by simp[aC]) ⟨_,rfl,aH (λh2 => ?_) (λh2 => ?_)⟩
    ·exact hq _ _ (by rw[encRMCd,if_pos hc,if_neg (by omega)])
    ·rw[et,kV]
     exact ckI (by simp[aC,wD]) ⟨_,rfl,hq _ _ (by rw[encRMCd,if_pos hc,if_pos (by omega)])⟩
def bVt:iO
 | [.lst _ cs n 13],H,K=>∃l:List Ctl,Lf (cs=cellsCM l∧n=l.length∧l.length<=1000000∧∀c∈l,okCCd c)∧∀s e,Lf (encRMCd l=(s,e))->K (.ret (.tup [.str s,.int .i64 e])) H
 | _,_,_=>False
theorem enc_raw:aI Tryz.prog gl0 39 bVt:=by
 refine aQ (enters_of (by kernel_rfl)) aO λargs H Q hc => ?_
 unfold bVt at hc
 split at hc
 ·obtain⟨l,⟨rfl,rfl,h1,h2⟩,hq⟩:=hc
  obtain⟨hv,hb',h⟩:=bFy _ l h2 h1 (λo H' _=>H'=[]∧(∃v,o=.ret v∧old 0 v=true∧noY v=true)∧Q o H) (λs e he=>⟨rfl,⟨_,rfl,rfl,rfl⟩,hq s e ⟨he⟩⟩)
  exact⟨rfl,rfl,_,1000,bL aPp _ _ _,rfl,h⟩
 ·exact hc.elim
end Go.Proofs.YtnhechnaemmdiaaGreatDoor.Cd
