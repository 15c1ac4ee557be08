/-
  Chapter 24: Draft: reception.
-/
import Derived.Test.YtnhechnaemmdiaaGreatDoorZnE
set_option linter.unusedSimpArgs false
set_option linter.unusedVariables false
set_option linter.unusedSectionVars false
namespace Go.Proofs.YtnhechnaemmdiaaGreatDoor.Cd
open Go.RowKit
set_option maxRecDepth 1000000

theorem aI9(acc:List Rc)(r:Rc):cellsRM acc++aOz r=cellsRM (acc++[r]):=by simp[cellsRM]
theorem bIo(l:List Rc):∀x∈cellsRM l,mG x=true:=by
 intro x hx
 simp only[cellsRM,aOz,List.mem_flatMap,bXd,bXn,bY0]at hx
 obtain⟨r,_,h⟩:=hx
 rcases h with rfl | rfl | rfl | rfl | rfl | rfl | rfl<;>rfl
theorem zO(τ:Nat)(H:HV)(d:Nat):∀l:List Ctl,(cellsCM l).map (λx=>bU τ H (d+1) x)=cellsCM l
 | []=>rfl
 | c::l=>by
  have e:cellsCM (c::l)=ctC c++cellsCM l:=rfl
  rw[e,cBk,zO τ H d l]
  rfl
theorem aGw(l:List Ctl)(c:Ctl):cellsCM (l++[c])=cellsCM l++ctC c:=by
 simp only[cellsCM,cBg,bZ5,List.flatMap_nil,bXs]
def pE(n:Int):Rc:=(n,n%256,n%16777216-8388608,n/3,n%1000,n/7,n%65536)
theorem bG8{n:Int}(h:0<=n∧n<4294967296):rA (pE n)=true:=by
 rw[rA,bW6]
 dsimp only[pE]
 refine⟨?_, ?_, ?_, ?_, ?_, ?_, ?_⟩<;>omega
noncomputable def vR(hv:LI)(hb:LB)(n:Int)(Q:BS):Prop:=
 aT (e24 sm0 (λ_=>none) hv hb) (wpx (e24 sm0 (λ_=>none) hv hb) 1000) 142 [.int .u32 n] [] {} Q
theorem bDt(n:Int)(Q:BS):vR (aW [(581637,.int .i64),(581640,.int .i64),(581642,.int .i64),(581643,.int .i64),(581645,.int .i64),(581647,.int .i64),(581649,.int .i64),(581651,.int .i64)]) (aV []) n Q=(
(∃n_0:Int,(((AV.int .i64 (IntKind.wrap .i64 n))=(AV.int .i64 n_0)) ∧
 (∃n_1:Int,(((AV.int .i64 (Int.tmod n_0 (256:Int)))=(AV.int .i64 n_1)) ∧
 (∃n_2:Int,(((AV.int .i64 (Int.tmod n_0 (16777216:Int)))=(AV.int .i64 n_2)) ∧
 (∃n_3:Int,(((AV.int .i64 (IntKind.wrap .i64 (n_2-(8388608:Int))))=(AV.int .i64 n_3)) ∧
 (∃n_4:Int,(((AV.int .i64 (IntKind.wrap .i64 (Int.tdiv n_0 (3:Int))))=(AV.int .i64 n_4)) ∧
 (∃n_5:Int,(((AV.int .i64 (Int.tmod n_0 (1000:Int)))=(AV.int .i64 n_5)) ∧
 (∃n_6:Int,(((AV.int .i64 (IntKind.wrap .i64 (Int.tdiv n_0 (7:Int))))=(AV.int .i64 n_6)) ∧
 (∃n_7:Int,(((AV.int .i64 (Int.tmod n_0 (65536:Int)))=(AV.int .i64 n_7)) ∧
 (Q (Out.ret (AV.agg ((AV.int .i64 n_0)::((AV.int .i64 n_1)::((AV.int .i64 n_3)::((AV.int .i64 n_4)::((AV.int .i64 n_5)::((AV.int .i64 n_6)::((AV.int .i64 n_7)::[]))))))))) [] (Gh.mk (0:Nat) (0:Nat) []))))))))))))))))))):=by kernel_rfl

theorem bGu(n:Int)(hn:0<=n∧n<4294967296)(Q:BS)(hq:Q (.ret (.agg (aOz (pE n)))) [] {}):∃hv hb,vR hv hb n Q:=by
 obtain⟨hv,hb',e⟩:∃hv hb,vR hv hb n Q=_:=⟨_,_,bDt n Q⟩
 refine⟨hv,hb',e.mpr ?_⟩
 clear e
 have t1:n.tmod 256=n%256:=bX6 hn.1
 have t2:n.tmod 16777216=n%16777216:=bX6 hn.1
 have t3:n.tdiv 3=n/3:=bZt hn.1
 have t4:n.tmod 1000=n%1000:=bX6 hn.1
 have t5:n.tdiv 7=n/7:=bZt hn.1
 have t6:n.tmod 65536=n%65536:=bX6 hn.1
 refine aF ?_
 rw[t1,t2,t3,t4,t5,t6]
 exact⟨_,rfl,_,rfl,aF (aF ⟨_,rfl,aF ⟨_,rfl,hq⟩⟩)⟩
def bSw:iO
 | [.int .u32 n],H,K=>Lf (0<=n∧n<4294967296)∧K (.ret (.agg (aOz (pE n)))) H
 | _,_,_=>False
theorem bIk:aI Tryz.prog gl0 142 bSw:=by
 refine aQ (enters_of (by kernel_rfl)) aO λargs H Q hc => ?_
 unfold bSw at hc
 split at hc
 ·rename_i n
  obtain⟨⟨h1⟩,hq⟩:=hc
  obtain⟨hv,hb',h⟩:=bGu n h1 (λo H' _=>H'=[]∧(∃v,o=.ret v∧old 0 v=true∧noY v=true)∧Q o H) ⟨rfl,⟨_,rfl,rfl,rfl⟩,hq⟩
  exact⟨rfl,rfl,_,1000,bL bY _ _ _,rfl,h⟩
 ·exact hc.elim
def cells32M(l:QT):HB:=l.map (AV.int .u32)
def cells16M(l:QT):HB:=l.map (AV.int .u16)
structure Pc where
 k:Int
 n0:Int
 n1:Int
 n2:Int
 n3:Int
 n4:Int
 n5:Int
 tr:Nat
 rs:QT
 tl:Nat
 ls:QT
 m:Int
def pcC(p:Pc):HB:=[.int .u8 p.k,.int .u32 p.n0,.int .u32 p.n1,.int .u32 p.n2,.int .u32 p.n3,.int .u32 p.n4,.int .u32 p.n5,.lst p.tr (cells32M p.rs) p.rs.length 1,.lst p.tl (cells16M p.ls) p.ls.length 1,.int .u64 p.m]
def bSg:SM:=fT [(142,bSw)]
theorem qK:∀f g,bSg f=some g->aI Tryz.prog gl0 f g:=dX _ (by simp only[bXd,bXn,bY0,bY4];exact bIk)
def bH9(rs:QT)(s:S):List (List LInv):=match s.hp with
 | [b0,b1,⟨k,f,[c0,c1,c2,c3,c4,c5,c6,c7,_,c9,c10,c11,c12]⟩]=>[[
  { α:=Nat,pre:=λi=>Lf (i=0),st:=λi=>⟨mkT [(1,s.tm.get 1),(2,.ptr 0 10 0),(4,.ptr 1 13 0),(5,.ptr 2 13 0),(6,.int .i64 (i:Nat))],s.hp⟩,mu:=λi=>rs.length+1 },
  { α:=Nat×HB,pre:=λx=>Lf (1<=x.1∧x.1<=rs.length∧x.1<=6),st:=λx=>⟨mkT [(1,s.tm.get 1),(2,.ptr 0 10 0),(4,.ptr 1 13 0),(5,.ptr 2 13 0),(6,.int .i64 (x.1:Nat))],[b0,b1,⟨k,false,[c0,c1,c2,c3,c4,c5,c6,c7,.sl 4 (7*x.1) 0 x.1 7,c9,c10,c11,c12]⟩,⟨.exact,true,x.2⟩,⟨.grow,true,cellsRM ((rs.take x.1).map pE)⟩]⟩,mu:=λx=>rs.length-x.1 }]]
 | _=>[]
noncomputable def mF(hv:LI)(hb:LB)(p:Pc):Env:=e24 bSg (λi=>bif Nat.beq i 94001 then some (bH9 p.rs)else none) hv hb
noncomputable def bQi(κ:Int)(hv:LI)(hb:LB)(p:Pc)(Q:BS):Prop:=aT (mF hv hb p) (wpx (mF hv hb p) 1000) 94 [.agg (pcC p),.int .i64 κ] [] {} Q
noncomputable def xO(hv:LI)(hb:LB)(p:Pc)(Q:BS):Prop:=bQi 1 hv hb p Q
noncomputable def yK(hv:LI)(hb:LB)(p:Pc)(Q:BS):Prop:=bQi 2 hv hb p Q
noncomputable def wV(hv:LI)(hb:LB)(p:Pc)(Q:BS):Prop:=bQi 3 hv hb p Q
noncomputable def wG(hv:LI)(hb:LB)(p:Pc)(Q:BS):Prop:=bQi 5 hv hb p Q
def wJ(p:Pc):Prop:=(
((((AV.int .u8 (p).1)::((AV.int .u32 (p).2)::((AV.int .u32 (p).3)::((AV.int .u32 (p).4)::((AV.int .u32 (p).5)::((AV.int .u32 (p).6)::((AV.int .u32 (p).7)::((AV.lst (p).8 (cells32M (p).9) (List.length (p).9) (1:Nat))::((AV.lst (p).10 (cells16M (p).11) (List.length (p).11) (1:Nat))::((AV.int .u64 (p).12)::[]))))))))))=((AV.int .u8 (p).1)::((AV.int .u32 (p).2)::((AV.int .u32 (p).3)::((AV.int .u32 (p).4)::((AV.int .u32 (p).5)::((AV.int .u32 (p).6)::((AV.int .u32 (p).7)::((AV.lst (p).8 (cells32M (p).9) (List.length (p).9) (1:Nat))::((AV.lst (p).10 (cells16M (p).11) (List.length (p).11) (1:Nat))::((AV.int .u64 (p).12)::[]))))))))))) ∧
 ((((AV.int .i64 (0:Int))::((AV.int .i64 (0:Int))::((AV.int .i64 (0:Int))::((AV.int .i64 (0:Int))::((AV.int .i64 (0:Int))::((AV.int .i64 (0:Int))::((AV.int .i64 (0:Int))::((AV.int .i64 (0:Int))::(AV.nils::(AV.nils::((AV.int .i64 (0:Int))::((AV.int .i64 (0:Int))::(AV.nils::[])))))))))))))=((AV.int .i64 (0:Int))::((AV.int .i64 (0:Int))::((AV.int .i64 (0:Int))::((AV.int .i64 (0:Int))::((AV.int .i64 (0:Int))::((AV.int .i64 (0:Int))::((AV.int .i64 (0:Int))::((AV.int .i64 (0:Int))::(AV.nils::(AV.nils::((AV.int .i64 (0:Int))::((AV.int .i64 (0:Int))::(AV.nils::[])))))))))))))) ∧
 False)))
abbrev nP(p:Pc)(n_6:Int)(Q:BS)(n_1:Int)(x_2:Nat×HB):Prop:=
AV.int .u32 p.3=AV.int .u32 n_6∧exW .i64 n_6 λn_7=>exI .u32 p.4 λn_8=>exW .i64 n_8 λn_9=>exI .u32 p.5 λn_10=>exW .i64 n_10 λn_11=>exI .u32 p.6 λn_12=>exW .i64 n_12 λn_13=>exI .u32 p.7 λn_14=>exW
 .i64 n_14 λn_15=>Q (.ret (.agg [.int .i64 1,.int .i64 n_1,.int .i64 0,.int .i64 n_7,.int .i64 n_9,.int .i64 n_11,.int .i64 n_13,.int .i64 n_15,.sl 4 (7*x_2.1) 0 x_2.1 7,.nils,.int .i64 0,.int .i64 0,.nils])) [Blk.mk
 BK.exact true [.int .u8 p.1,.int .u32 p.2,.int .u32 p.3,.int .u32 p.4,.int .u32 p.5,.int .u32 p.6,.int .u32 p.7,.lst p.8 (cells32M p.9) p.9.length 1,.lst p.10 (cells16M p.11) p.11.length 1,.int .u64 p.12],Blk.mk BK.exact false
 [.int .i64 1,.int .i64 n_1,.int .i64 0,.int .i64 n_7,.int .i64 n_9,.int .i64 n_11,.int .i64 n_13,.int .i64 n_15,.sl 4 (7*x_2.1) 0 x_2.1 7,.nils,.int .i64 0,.int .i64 0,.nils],Blk.mk BK.exact false [.int .i64 1,.int .i64
 n_1,.int .i64 0,.int .i64 n_7,.int .i64 n_9,.int .i64 n_11,.int .i64 n_13,.int .i64 n_15,.sl 4 (7*x_2.1) 0 x_2.1 7,.nils,.int .i64 0,.int .i64 0,.nils],Blk.mk BK.exact true x_2.2,Blk.mk BK.grow true (cellsRM (List.map pE
 (p.9.take x_2.1)))] {}
abbrev nJ(p:Pc)(n_6:Int)(Q:BS)(n_1:Int):Prop:=
AV.int .u32 p.3=AV.int .u32 n_6∧exW .i64 n_6 λn_7=>exI .u32 p.4 λn_8=>exW .i64 n_8 λn_9=>exI .u32 p.5 λn_10=>exW .i64 n_10 λn_11=>exI .u32 p.6 λn_12=>exW .i64 n_12 λn_13=>exI .u32 p.7 λn_14=>exW
 .i64 n_14 λn_15=>Q (.ret (.agg [.int .i64 1,.int .i64 n_1,.int .i64 0,.int .i64 n_7,.int .i64 n_9,.int .i64 n_11,.int .i64 n_13,.int .i64 n_15,.nils,.nils,.int .i64 0,.int .i64 0,.nils])) [] {}
abbrev bBi(p:Pc):Prop:=aK [AV.int .u8 p.1,.int .u32 p.2,.int .u32 p.3,.int .u32 p.4,.int .u32 p.5,.int .u32 p.6,.int .u32 p.7,.lst p.8 (cells32M p.9) p.9.length 1,.lst p.10 (cells16M p.11) p.11.length 1,.int .u64 p.12]
abbrev bB6:Prop:=aK [AV.int .i64 0,.int .i64 0,.int .i64 0,.int .i64 0,.int .i64 0,.int .i64 0,.int .i64 0,.int .i64 0,.nils,.nils,.int .i64 0,.int .i64 0,.nils]
abbrev aW1(x_2:Nat):Prop:=aK (AV.ptr 2 13 0)∧aK (AV.ptr 0 10 0)∧aK (AV.ptr 1 13 0)∧AV.int .i64 0=AV.int .i64 (x_2:Int)∧True
abbrev aV7(x_2:Nat×HB)(p:Pc):Prop:=Lf (1<=x_2.1∧x_2.1<=(Pc.rs p).length∧x_2.1<=6)
abbrev bKi(n_6:Int)(p:Pc):Bool:=decide (0<=n_6)&&Nat.blt n_6.toNat p.9.length&&true
abbrev aM3(n_6:Int)(p:Pc):Bool:=Nat.blt (n_6.toNat*1) (cells32M p.9).length
abbrev aL8(p:Pc)(n_6:Int):AV:=(cells32M p.9).getD (n_6.toNat*1) AV.undef
abbrev aNm(n_7:Int):Prop:=Lf (0<=n_7∧n_7<4294967296)
abbrev aNl:Prop:=True∧(0:Nat)=(0:Nat)
abbrev bTz(n_1:Int)(y_10:Nat×HB):HB:=[.int .i64 1,.int .i64 n_1,.int .i64 0,.int .i64 0,.int .i64 0,.int .i64 0,.int .i64 0,.int .i64 0,.sl 4 (7*y_10.1) 0 y_10.1 7,.nils,.int .i64 0,.int .i64 0,.nils]
abbrev bB2(n_7:Int):HB:=[.int .i64 (pE n_7).1,.int .i64 (pE n_7).2.1,.int .i64 (pE n_7).2.2.1,.int .i64 (pE n_7).2.2.2.1,.int .i64 (pE n_7).2.2.2.2.1,.int .i64 (pE n_7).2.2.2.2.2.1,.int .i64 (pE n_7).2.2.2.2.2.2]
abbrev aXg(y_10:Nat×HB)(p:Pc):HB:=cellsRM (List.map pE (p.9.take y_10.1))
abbrev bKm(n_9:Int)(y_10:Nat×HB):Prop:=aK (AV.ptr 2 13 0)∧aK (AV.ptr 0 10 0)∧aK (AV.ptr 1 13 0)∧AV.int .i64 n_9=AV.int .i64 (y_10.1:Int)∧True
abbrev aMz(x_2:Nat×HB):AV:=.sl 4 (7*x_2.1) 0 x_2.1 7
abbrev bRh(x_2:Nat×HB)(p:Pc):Bool:=Nat.beq (aXg x_2 p).length (7*x_2.1)&&true&&Nat.beq (0+x_2.1*7) (7*x_2.1)&&Nat.ble (x_2.1+1) 1099511627776&&Nat.ble ((x_2.1+1)*56) 1099511627776
theorem bHa(p:Pc)(Q:BS):xO (aW [(385040,.int .u32),(385041,.int .i64),(385054,.int .i64),(385057,.int .i64),(385060,.int .i64),(385069,.int .i64),(385071,.int .u32),(385063,.int
 .i64),(385064,.int .i64),(385080,.int .u32),(385081,.int .i64),(385085,.int .u32),(385086,.int .i64),(385090,.int .u32),(385091,.int .i64),(385095,.int .u32),(385096,.int .i64),(385100,.int .u32),(385101,.int .i64)])
 (aV []) p Q=(exI .u32 p.2 (λn_0=>exW .i64 n_0 (λn_1=>((∃x_2:Nat,Lf (x_2=0)∧bBi p∧bB6∧aK [AV.int .i64 1,.int .i64 n_1,.int .i64 0,.int .i64 0,.int .i64 0,.int .i64 0,.int .i64 0,.int .i64 0,.nils,
 .nils,.int .i64 0,.int .i64 0,.nils]∧aK (AV.int .i64 1)∧aW1 x_2)∨∃x_2:Nat×HB,aV7 x_2 p∧wJ p)∧(∀x_2:Nat,Lf (x_2=0)->exI .i64 (x_2:Int) (λn_3=>exI .i64 (p.9.length:Int) (λn_4=>bif
 decide (n_3<n_4)then exI .i64 (x_2:Int) (λn_5=>bif decide (n_5<6)then exI .i64 (x_2:Int) (λn_6=>ckQ (bKi n_6 p) (ckQ (aM3 n_6 p) (exV .u32 (aL8 p n_6) (λn_7=>aNm n_7∧exI .i64 (x_2:Int) (λn_8=>exW
 .i64 (n_8+1) (λn_9=>aNl∧((∃y_10:Nat,Lf (y_10=0)∧p.9.length+1<p.9.length+1∧wJ p)∨∃y_10:Nat×HB,aV7 y_10 p∧p.9.length-y_10.1<p.9.length+1∧bBi p∧bB6∧[AV.int .i64 1,.int .i64 n_1,
 .int .i64 0,.int .i64 0,.int .i64 0,.int .i64 0,.int .i64 0,.int .i64 0,.sl 4 7 0 1 7,.nils,.int .i64 0,.int .i64 0,.nils]=bTz n_1 y_10∧bB2 n_7=y_10.2∧bB2 n_7=aXg y_10 p∧aK (AV.int .i64 1)∧bKm n_9 y_10)))))))
 else ∃n_6:Int,nJ p n_6 Q n_1)else ∃n_5:Int,nJ p n_5 Q n_1)))∧∀x_2:Nat×HB,aV7 x_2 p->exI .i64 (x_2.1:Int) (λn_3=>exI .i64 (p.9.length:Int) (λn_4=>bif decide (n_3<n_4)then exI .i64
 (x_2.1:Int) (λn_5=>bif decide (n_5<6)then exI .i64 (x_2.1:Int) (λn_6=>ckQ (bKi n_6 p) (ckQ (aM3 n_6 p) (exV .u32 (aL8 p n_6) (λn_7=>aNm n_7∧ckQ (dE [aMz x_2] [aMz x_2]&&true) (ckQ (bRh x_2 p) (exI
 .i64 (x_2.1:Int) (λn_8=>exW .i64 (n_8+1) (λn_9=>aNl∧((∃y_10:Nat,Lf (y_10=0)∧p.9.length+1<p.9.length-x_2.1∧wJ p)∨∃y_10:Nat×HB,aV7 y_10 p∧p.9.length-y_10.1<p.9.length-x_2.1 ∧
 bBi p∧bB6∧[AV.int .i64 1,.int .i64 n_1,.int .i64 0,.int .i64 0,.int .i64 0,.int .i64 0,.int .i64 0,.int .i64 0,.sl 4 (7*x_2.1+7) 0 (x_2.1+1) 7,.nils,.int .i64 0,.int .i64 0,.nils]=bTz n_1 y_10∧x_2.2=y_10.2 ∧
 aXg x_2 p++bB2 n_7=aXg y_10 p∧aK (AV.int .i64 1)∧bKm n_9 y_10)))))))))else ∃n_6:Int,nP p n_6 Q n_1 x_2)else ∃n_5:Int,nP p n_5 Q n_1 x_2))))):=by kernel_rfl

def wQ(p:Pc):Prop:=(
((((AV.int .u8 (p).1)::((AV.int .u32 (p).2)::((AV.int .u32 (p).3)::((AV.int .u32 (p).4)::((AV.int .u32 (p).5)::((AV.int .u32 (p).6)::((AV.int .u32 (p).7)::((AV.lst (p).8 (cells32M (p).9) (List.length (p).9) (1:Nat))::((AV.lst (p).10 (cells16M (p).11) (List.length (p).11) (1:Nat))::((AV.int .u64 (p).12)::[]))))))))))=((AV.int .u8 (p).1)::((AV.int .u32 (p).2)::((AV.int .u32 (p).3)::((AV.int .u32 (p).4)::((AV.int .u32 (p).5)::((AV.int .u32 (p).6)::((AV.int .u32 (p).7)::((AV.lst (p).8 (cells32M (p).9) (List.length (p).9) (1:Nat))::((AV.lst (p).10 (cells16M (p).11) (List.length (p).11) (1:Nat))::((AV.int .u64 (p).12)::[]))))))))))) ∧
 ((((AV.int .i64 (0:Int))::((AV.int .i64 (0:Int))::((AV.int .i64 (0:Int))::((AV.int .i64 (0:Int))::((AV.int .i64 (0:Int))::((AV.int .i64 (0:Int))::((AV.int .i64 (0:Int))::((AV.int .i64 (0:Int))::(AV.nils::(AV.nils::((AV.int .i64 (0:Int))::((AV.int .i64 (0:Int))::(AV.nils::[])))))))))))))=((AV.int .i64 (0:Int))::((AV.int .i64 (0:Int))::((AV.int .i64 (0:Int))::((AV.int .i64 (0:Int))::((AV.int .i64 (0:Int))::((AV.int .i64 (0:Int))::((AV.int .i64 (0:Int))::((AV.int .i64 (0:Int))::(AV.nils::(AV.nils::((AV.int .i64 (0:Int))::((AV.int .i64 (0:Int))::(AV.nils::[])))))))))))))) ∧
 False)))
abbrev nC(Q:BS)(n_1:Int)(x_2:Nat×HB)(p:Pc):Prop:=
Q (.ret (.agg [.int .i64 2,.int .i64 n_1,.int .i64 0,.int .i64 0,.int .i64 0,.int .i64 0,.int .i64 0,.int .i64 0,.sl 4 (7*x_2.1) 0 x_2.1 7,.nils,.int .i64 0,.int .i64 0,.nils])) [Blk.mk BK.exact true [.int .u8 p.1,.int .u32
 p.2,.int .u32 p.3,.int .u32 p.4,.int .u32 p.5,.int .u32 p.6,.int .u32 p.7,.lst p.8 (cells32M p.9) p.9.length 1,.lst p.10 (cells16M p.11) p.11.length 1,.int .u64 p.12],Blk.mk BK.exact false [.int .i64 2,.int .i64 n_1,.int .i64 0,
 .int .i64 0,.int .i64 0,.int .i64 0,.int .i64 0,.int .i64 0,.sl 4 (7*x_2.1) 0 x_2.1 7,.nils,.int .i64 0,.int .i64 0,.nils],Blk.mk BK.exact false [.int .i64 2,.int .i64 n_1,.int .i64 0,.int .i64 0,.int .i64 0,.int .i64 0,
 .int .i64 0,.int .i64 0,.sl 4 (7*x_2.1) 0 x_2.1 7,.nils,.int .i64 0,.int .i64 0,.nils],Blk.mk BK.exact true x_2.2,Blk.mk BK.grow true (cellsRM (List.map pE (p.9.take x_2.1)))] {}
abbrev bG1(n_1:Int)(y_10:Nat×HB):HB:=[.int .i64 2,.int .i64 n_1,.int .i64 0,.int .i64 0,.int .i64 0,.int .i64 0,.int .i64 0,.int .i64 0,.sl 4 (7*y_10.1) 0 y_10.1 7,.nils,.int .i64 0,.int .i64 0,.nils]
abbrev bS1(n_1:Int):Out:=.ret (.agg [.int .i64 2,.int .i64 n_1,.int .i64 0,.int .i64 0,.int .i64 0,.int .i64 0,.int .i64 0,.int .i64 0,.nils,.nils,.int .i64 0,.int .i64 0,.nils])
theorem bGh(p:Pc)(Q:BS):yK (aW [(385040,.int .u32),(385041,.int .i64),(385054,.int .i64),(385057,.int .i64),(385060,.int .i64),(385069,.int .i64),(385071,.int .u32),(385063,.int
 .i64),(385064,.int .i64)]) (aV []) p Q=(exI .u32 p.2 (λn_0=>exW .i64 n_0 (λn_1=>((∃x_2:Nat,Lf (x_2=0)∧bBi p∧bB6∧aK [AV.int .i64 2,.int .i64 n_1,.int .i64 0,.int .i64 0,.int .i64 0,.int .i64 0,.int
 .i64 0,.int .i64 0,.nils,.nils,.int .i64 0,.int .i64 0,.nils]∧aK (AV.int .i64 2)∧aW1 x_2)∨∃x_2:Nat×HB,aV7 x_2 p∧wQ p)∧(∀x_2:Nat,Lf (x_2=0)->exI .i64 (x_2:Int) (λn_3=>exI .i64 (p.9.length
 : Int) (λn_4=>bif decide (n_3<n_4)then exI .i64 (x_2:Int) (λn_5=>bif decide (n_5<6)then exI .i64 (x_2:Int) (λn_6=>ckQ (bKi n_6 p) (ckQ (aM3 n_6 p) (exV .u32 (aL8 p n_6) (λn_7=>aNm n_7∧exI .i64 (x_2 :
 Int) (λn_8=>exW .i64 (n_8+1) (λn_9=>aNl∧((∃y_10:Nat,Lf (y_10=0)∧p.9.length+1<p.9.length+1∧wQ p)∨∃y_10:Nat×HB,aV7 y_10 p∧p.9.length-y_10.1<p.9.length+1∧bBi p∧bB6∧[AV.int
 .i64 2,.int .i64 n_1,.int .i64 0,.int .i64 0,.int .i64 0,.int .i64 0,.int .i64 0,.int .i64 0,.sl 4 7 0 1 7,.nils,.int .i64 0,.int .i64 0,.nils]=bG1 n_1 y_10∧bB2 n_7=y_10.2∧bB2 n_7=aXg y_10 p∧aK (AV.int .i64
 2)∧bKm n_9 y_10)))))))else Q (bS1 n_1) [] {})else Q (bS1 n_1) [] {})))∧∀x_2:Nat×HB,aV7 x_2 p->exI .i64 (x_2.1:Int) (λn_3=>exI .i64 (p.9.length:Int) (λn_4=>bif decide (n_3<n_4)then exI .i64 (x_2.1 :
 Int) (λn_5=>bif decide (n_5<6)then exI .i64 (x_2.1:Int) (λn_6=>ckQ (bKi n_6 p) (ckQ (aM3 n_6 p) (exV .u32 (aL8 p n_6) (λn_7=>aNm n_7∧ckQ (dE [aMz x_2] [aMz x_2]&&true) (ckQ (bRh x_2 p) (exI .i64
 (x_2.1:Int) (λn_8=>exW .i64 (n_8+1) (λn_9=>aNl∧((∃y_10:Nat,Lf (y_10=0)∧p.9.length+1<p.9.length-x_2.1∧wQ p)∨∃y_10:Nat×HB,aV7 y_10 p∧p.9.length-y_10.1<p.9.length-x_2.1∧bBi p ∧
 bB6∧[AV.int .i64 2,.int .i64 n_1,.int .i64 0,.int .i64 0,.int .i64 0,.int .i64 0,.int .i64 0,.int .i64 0,.sl 4 (7*x_2.1+7) 0 (x_2.1+1) 7,.nils,.int .i64 0,.int .i64 0,.nils]=bG1 n_1 y_10∧x_2.2=y_10.2∧aXg x_2
 p++bB2 n_7=aXg y_10 p∧aK (AV.int .i64 2)∧bKm n_9 y_10)))))))))else nC Q n_1 x_2 p)else nC Q n_1 x_2 p))))):=by kernel_rfl

theorem bIa(p:Pc)(Q:BS):wV (aW [(385040,.int .u32),(385041,.int .i64)]) (aV []) p Q=(
(∃n_0:Int,(((AV.int .u32 (p).2)=(AV.int .u32 n_0)) ∧
 (∃n_1:Int,(((AV.int .i64 (IntKind.wrap .i64 n_0))=(AV.int .i64 n_1)) ∧
 (Q (Out.ret (AV.agg ((AV.int .i64 (3:Int))::((AV.int .i64 n_1)::((AV.int .i64 (0:Int))::((AV.int .i64 (0:Int))::((AV.int .i64 (0:Int))::((AV.int .i64 (0:Int))::((AV.int .i64 (0:Int))::((AV.int .i64 (0:Int))::(AV.nils::(AV.nils::((AV.int .i64 (0:Int))::((AV.int .i64 (0:Int))::(AV.nils::[]))))))))))))))) [] (Gh.mk (0:Nat) (0:Nat) []))))))):=by kernel_rfl

theorem bJh(p:Pc)(Q:BS):wG (aW [(385040,.int .u32),(385041,.int .i64),(385047,.int .u32),(385048,.int .i64)]) (aV []) p Q=(
(∃n_0:Int,(((AV.int .u32 (p).2)=(AV.int .u32 n_0)) ∧
 (∃n_1:Int,(((AV.int .i64 (IntKind.wrap .i64 n_0))=(AV.int .i64 n_1)) ∧
 (∃n_2:Int,(((AV.int .u32 (p).3)=(AV.int .u32 n_2)) ∧
 (∃n_3:Int,(((AV.int .i64 (IntKind.wrap .i64 n_2))=(AV.int .i64 n_3)) ∧
 (Q (Out.ret (AV.agg ((AV.int .i64 (5:Int))::((AV.int .i64 n_1)::((AV.int .i64 n_3)::((AV.int .i64 (0:Int))::((AV.int .i64 (0:Int))::((AV.int .i64 (0:Int))::((AV.int .i64 (0:Int))::((AV.int .i64 (0:Int))::(AV.nils::(AV.nils::((AV.int .i64 (0:Int))::((AV.int .i64 (0:Int))::(AV.nils::[]))))))))))))))) [] (Gh.mk (0:Nat) (0:Nat) []))))))))))):=by kernel_rfl


def okP(p:Pc):Prop:=(0<=p.k∧p.k<256)∧in32 p.n0∧in32 p.n1∧in32 p.n2∧in32 p.n3∧in32 p.n4∧in32 p.n5∧(∀x∈p.rs,in32 x)∧(∀x∈p.ls,0<=x∧x<65536)∧(0<=p.m∧p.m<18446744073709551616)
def pcK:AV->AV
 | .agg l=>.agg (nlL [0,0,0,0,0,0,0,0,7,1,0,0,1] l)
 | v=>v
theorem bO2(a:AV):wk a (pcK a):=by
 unfold pcK
 split
 ·exact aAi (pG _ _)
 ·exact kW _
def aJ0(v:AV)(H:HV):AV:=pcK (bU 0 H 9 v)
def F4(ls:QT)(f:Int):Nat->Int×QT
 | 0=>(0,[f])
 | i+1=>((F4 ls f i).1+(1+ls.getD i 0%20),(F4 ls f i).2++[(f+((F4 ls f i).1+(1+ls.getD i 0%20)))%65536])
def bBq(m:Int):Int:=IntKind.wrap .u64 (((m%18446744073709551616).toNat &&& 1:Nat):Int)
def F6(p:Pc):Nat->Int×QT
 | 0=>(p.n4/2,[if bBq p.m=0 then -1 else p.n4/2])
 | i+1=>if bBq (Int.fdiv p.m ((2:Int)^Min.min (i+1) 64))=0 then((F6 p i).1,(F6 p i).2++[-1])
  else(tQ 0 ((F6 p i).1+p.ls.getD i 0%600-100),(F6 p i).2++[tQ 0 ((F6 p i).1+p.ls.getD i 0%600-100)])
def pcM(κ:Int)(p:Pc):Ctl:=
 if κ=1 then⟨1,p.n0,0,p.n1,p.n2,p.n3,p.n4,p.n5,(p.rs.take (min p.rs.length 6)).map pE,[],0,0,[]⟩
 else if κ=2 then⟨2,p.n0,0,0,0,0,0,0,(p.rs.take (min p.rs.length 6)).map pE,[],0,0,[]⟩
 else if κ=3 then⟨3,p.n0,0,0,0,0,0,0,[],[],0,0,[]⟩
 else if κ=4 then⟨4,p.n0,p.n1,0,0,0,0,0,[],(F4 p.ls (p.n2%65536) (min p.ls.length 63)).2,0,0,[]⟩
 else if κ=5 then⟨5,p.n0,p.n1,0,0,0,0,0,[],[],0,0,[]⟩
 else⟨6,p.n0,p.n1,0,0,0,0,0,[],[],p.n2%65536,p.n3%256,(F6 p (min p.ls.length 63)).2⟩
def hqP(κ:Int)(p:Pc)(Q:BS):Prop:=validM (pcM κ p)=true->(pcM κ p).k=κ->∀v H,aJ0 v H=.agg (ctC (pcM κ p))->Q (.ret v) H {}
theorem bOz{H:HV}{k f a s1 s2 s3 s4 s5 ba ro:Int}{acc:List Rc}{n m:Nat}(hH:H[4]? = some ⟨.grow,true,cellsRM acc⟩)(hn:n=7*acc.length)(hm:m=acc.length) :
  aJ0 (.agg [.int .i64 k,.int .i64 f,.int .i64 a,.int .i64 s1,.int .i64 s2,.int .i64 s3,.int .i64 s4,.int .i64 s5,.sl 4 n 0 m 7,.nils,.int .i64 ba,.int .i64 ro,.nils]) H=.agg (ctC ⟨k,f,a,s1,s2,s3,s4,s5,acc,[],ba,ro,[]⟩):=by
 subst hn hm
 have e:bU 0 H 8 (.sl 4 (7*acc.length) 0 acc.length 7)=.lst 0 (cellsRM acc) acc.length 7:=
  tC (d:=6) hH (dW acc) (by omega) (by simp) (by rw[bXl];exact bW4 (by rw[dW];omega)) (bIo acc)
 show pcK (.agg [.int .i64 k,.int .i64 f,.int .i64 a,.int .i64 s1,.int .i64 s2,.int .i64 s3,.int .i64 s4,.int .i64 s5,bU 0 H 8 (.sl 4 (7*acc.length) 0 acc.length 7),.nils,.int .i64 ba,.int .i64 ro,.nils])=_
 rw[e]
 rfl
theorem bA7{l:QT}{i m:Nat}(hi:i<l.length)(hm:m=i){K:Int->Prop}(hk:K l[i]):∃n:Int,(cells32M l).getD m AV.undef=AV.int .u32 n∧K n:=by
 subst hm
 exact⟨_,by simp[cells32M,hi],hk⟩
theorem wH(l:QT):(cells32M l).length=l.length:=by simp[cells32M]
theorem tJ{rs:QT}{i:Nat}(h:i<rs.length):cellsRM ((rs.take (i+1)).map pE)=cellsRM ((rs.take i).map pE)++aOz (pE rs[i]):=by
 rw[bYm,bW8 h,cBk]
 simp only[Option.toList_some,bXu,cBt]
 rw[←aI9]
theorem aAj{rs:QT}(h:∀x∈rs,in32 x)(i:Nat)(hi:i<=6):gF ((rs.take i).map pE)=true:=by
 simp only[gF,bW3,bW6,bYy]
 refine⟨by rw[bZ1,bXg];omega, ?_⟩
 intro r hr
 rw[bZb]at hr
 obtain⟨x,hx,rfl⟩:=hr
 exact bG8 (h x (cAi hx))
theorem bEt{p:Pc}(h:okP p)(i:Nat)(hi:i<=6):validM ⟨2,p.n0,0,0,0,0,0,0,(p.rs.take i).map pE,[],0,0,[]⟩=true:=by
 obtain⟨h0,h1,h2,h3,h4,h5,h6,h7,h8,h9⟩:=h
 have z:in32 0:=⟨by omega,by omega⟩
 rw[iQ]
 dsimp only
 exact⟨by omega,h1,z,z,z,z,z,z,by omega,by omega,λ_=>rfl,λ_=>⟨rfl,rfl,rfl,rfl,rfl⟩,λ_=>⟨rfl,rfl,rfl⟩,λhh=>by omega,λ_=>rfl,λhh=>by omega,aAj h7 i hi,λhh=>by omega⟩
theorem bJq{p:Pc}(h:okP p)(i:Nat)(hi:i<=6):validM ⟨1,p.n0,0,p.n1,p.n2,p.n3,p.n4,p.n5,(p.rs.take i).map pE,[],0,0,[]⟩=true:=by
 obtain⟨h0,h1,h2,h3,h4,h5,h6,h7,h8,h9⟩:=h
 have z:in32 0:=⟨by omega,by omega⟩
 rw[iQ]
 dsimp only
 exact⟨by omega,h1,z,h2,h3,h4,h5,h6,by omega,by omega,λ_=>rfl,λhh=>absurd rfl hh,λ_=>⟨rfl,rfl,rfl⟩,λhh=>by omega,λ_=>rfl,λhh=>by omega,aAj h7 i hi,λhh=>by omega⟩
theorem bI8{p:Pc}(h:okP p):validM ⟨3,p.n0,0,0,0,0,0,0,[],[],0,0,[]⟩=true:=by
 obtain⟨h0,h1,h2,h3,h4,h5,h6,h7,h8,h9⟩:=h
 have z:in32 0:=⟨by omega,by omega⟩
 rw[iQ]
 dsimp only
 exact⟨by omega,h1,z,z,z,z,z,z,by omega,by omega,λ_=>rfl,λ_=>⟨rfl,rfl,rfl,rfl,rfl⟩,λ_=>⟨rfl,rfl,rfl⟩,λhh=>rfl,λ_=>rfl,λhh=>by omega,rfl,λhh=>by omega⟩
theorem bD4{p:Pc}(h:okP p):validM ⟨5,p.n0,p.n1,0,0,0,0,0,[],[],0,0,[]⟩=true:=by
 obtain⟨h0,h1,h2,h3,h4,h5,h6,h7,h8,h9⟩:=h
 have z:in32 0:=⟨by omega,by omega⟩
 rw[iQ]
 dsimp only
 exact⟨by omega,h1,h2,z,z,z,z,z,by omega,by omega,λhh=>by omega,λ_=>⟨rfl,rfl,rfl,rfl,rfl⟩,λ_=>⟨rfl,rfl,rfl⟩,λhh=>rfl,λ_=>rfl,λhh=>by omega,rfl,λhh=>by omega⟩
theorem bWv(p:Pc)(h:okP p)(Q:BS)(hq:hqP 3 p Q):∃hv hb,wV hv hb p Q:=by
 obtain⟨hv,hb',e⟩:∃hv hb,wV hv hb p Q=_:=⟨_,_,bIa p Q⟩
 refine⟨hv,hb',e.mpr ?_⟩
 clear e
 have hv3:=bI8 h
 obtain⟨h0,h1,h2,h3,h4,h5,h6,h7,h8,h9⟩:=h
 exact⟨_,rfl,aF (hq hv3 rfl _ _ rfl)⟩
theorem bWr(p:Pc)(h:okP p)(Q:BS)(hq:hqP 5 p Q):∃hv hb,wG hv hb p Q:=by
 obtain⟨hv,hb',e⟩:∃hv hb,wG hv hb p Q=_:=⟨_,_,bJh p Q⟩
 refine⟨hv,hb',e.mpr ?_⟩
 clear e
 have hv3:=bD4 h
 obtain⟨h0,h1,h2,h3,h4,h5,h6,h7,h8,h9⟩:=h
 exact⟨_,rfl,aF ⟨_,rfl,aF (hq hv3 rfl _ _ rfl)⟩⟩
theorem bWx(p:Pc)(h:okP p)(Q:BS)(hq:hqP 2 p Q):∃hv hb,yK hv hb p Q:=by
 obtain⟨hv,hb',e⟩:∃hv hb,yK hv hb p Q=_:=⟨_,_,bGh p Q⟩
 refine⟨hv,hb',e.mpr ?_⟩
 delta bBi bB6 aW1 aV7 bKi aM3 aL8 aNm aNl bG1 bB2 aXg bKm bS1 aMz bRh
 unfold nC
 clear e
 have hv2:=bEt h
 obtain⟨h0,h1,h2,h3,h4,h5,h6,h7,h8,h9⟩:=h
 have hc:=wH p.rs
 have ho:∀ (H:HV) (i:Nat),i=min p.rs.length 6->H[4]? = some ⟨.grow,true,cellsRM ((p.rs.take i).map pE)⟩->Q (.ret (.agg [.int .i64 2,.int .i64 p.n0,.int .i64 0,.int .i64 0,.int .i64 0,.int .i64 0,.int .i64 0,.int .i64 0,.sl 4 (7*i) 0 i 7,.nils,.int .i64 0,.int .i64 0,.nils])) H {}:=λH i hi hH=>by
  subst hi
  exact hq (hv2 _ (by omega)) rfl _ _ (bOz hH (by rw[bZ1,bXg];omega) (by rw[bZ1,bXg];omega))
 have hz:p.rs=[]->Q (.ret (.agg [.int .i64 2,.int .i64 p.n0,.int .i64 0,.int .i64 0,.int .i64 0,.int .i64 0,.int .i64 0,.int .i64 0,.nils,.nils,.int .i64 0,.int .i64 0,.nils])) [] {}:=λh=>hq (hv2 _ (by omega)) rfl _ _ (by cases p;dsimp only at h;subst h;rfl)
 refine⟨_,rfl,aF ⟨.inl ⟨0,⟨rfl⟩,rfl,rfl,rfl,rfl,rfl,rfl,rfl,rfl,trivial⟩, ?_, ?_⟩⟩
 ·rintro i ⟨rfl⟩
  refine⟨_,rfl,_,rfl,aH (λh1=>⟨_,rfl,aH (λh2 => ?_) (λh2=>by omega)⟩) (λh1=>hz (bXo (by omega)))⟩
  have hlt:0<p.rs.length:=by omega
  refine⟨_,rfl,ckO (ckI (by rw[aD];omega) (bA7 hlt rfl ⟨⟨h7 _ (bXk hlt)⟩,_,rfl,aF ⟨⟨trivial,rfl⟩,.inr ⟨(1,aOz (pE p.rs[0])),⟨by dsimp only;omega⟩,by dsimp only;omega,rfl,rfl,rfl,rfl,(tJ hlt).symm,rfl,rfl,rfl,rfl,rfl,trivial⟩⟩⟩))⟩
 ·rintro⟨i,z⟩ ⟨g1,g2,g3⟩
  dsimp only at g1 g2 g3 ⊢
  have hl2:=dW ((p.rs.take i).map pE)
  rw[bZ1,bXg,bYf g2]at hl2
  refine⟨_,rfl,_,rfl,aH (λh1=>⟨_,rfl,aH (λh2 => ?_) (λh2=>ho _ i (by omega) rfl)⟩) (λh1=>ho _ i (by omega) rfl)⟩
  have hlt:i<p.rs.length:=by omega
  refine⟨_,rfl,ckO (ckI (by rw[aD];omega) (bA7 hlt (by omega) ⟨⟨h7 _ (bXk hlt)⟩,ckI (by simp[dE,iC]) (ckI (by rw[hl2];simp;omega) ⟨_,rfl,aF ⟨⟨trivial,rfl⟩,.inr ⟨(i+1,z),⟨by dsimp only;omega⟩,by dsimp only;omega,rfl,rfl,by simp[cA4],rfl,(tJ hlt).symm,rfl,rfl,rfl,rfl,rfl,trivial⟩⟩⟩)⟩))⟩
theorem bWn(p:Pc)(h:okP p)(Q:BS)(hq:hqP 1 p Q):∃hv hb,xO hv hb p Q:=by
 obtain⟨hv,hb',e⟩:∃hv hb,xO hv hb p Q=_:=⟨_,_,bHa p Q⟩
 refine⟨hv,hb',e.mpr ?_⟩
 delta bBi bB6 aW1 aV7 bKi aM3 aL8 aNm aNl bTz bB2 aXg bKm aMz bRh
 unfold nP nJ
 clear e
 have hv2:=bJq h
 obtain⟨h0,h1,h2,h3,h4,h5,h6,h7,h8,h9⟩:=h
 have hc:=wH p.rs
 have ho:∀ (H:HV) (i:Nat),i=min p.rs.length 6->H[4]? = some ⟨.grow,true,cellsRM ((p.rs.take i).map pE)⟩->Q (.ret (.agg [.int .i64 1,.int .i64 p.n0,.int .i64 0,.int .i64 p.n1,.int .i64 p.n2,.int .i64 p.n3,.int .i64 p.n4,.int .i64 p.n5,.sl 4 (7*i) 0 i 7,.nils,.int .i64 0,.int .i64 0,.nils])) H {}:=λH i hi hH=>by
  subst hi
  exact hq (hv2 _ (by omega)) rfl _ _ (bOz hH (by rw[bZ1,bXg];omega) (by rw[bZ1,bXg];omega))
 have hz:p.rs=[]->Q (.ret (.agg [.int .i64 1,.int .i64 p.n0,.int .i64 0,.int .i64 p.n1,.int .i64 p.n2,.int .i64 p.n3,.int .i64 p.n4,.int .i64 p.n5,.nils,.nils,.int .i64 0,.int .i64 0,.nils])) [] {}:=λh=>hq (hv2 _ (by omega)) rfl _ _ (by cases p;dsimp only at h;subst h;rfl)
 refine⟨_,rfl,aF ⟨.inl ⟨0,⟨rfl⟩,rfl,rfl,rfl,rfl,rfl,rfl,rfl,rfl,trivial⟩, ?_, ?_⟩⟩
 ·rintro i ⟨rfl⟩
  have ex:∀ {K:Prop},K->K:=λh=>h
  refine⟨_,rfl,_,rfl,aH (λh1=>⟨_,rfl,aH (λh2 => ?_) (λh2=>by omega)⟩) (λh1=>⟨_,rfl,aF ⟨_,rfl,aF ⟨_,rfl,aF ⟨_,rfl,aF ⟨_,rfl,aF (hz (bXo (by omega)))⟩⟩⟩⟩⟩)⟩
  have hlt:0<p.rs.length:=by omega
  refine⟨_,rfl,ckO (ckI (by rw[aD];omega) (bA7 hlt rfl ⟨⟨h7 _ (bXk hlt)⟩,_,rfl,aF ⟨⟨trivial,rfl⟩,.inr ⟨(1,aOz (pE p.rs[0])),⟨by dsimp only;omega⟩,by dsimp only;omega,rfl,rfl,rfl,rfl,(tJ hlt).symm,rfl,rfl,rfl,rfl,rfl,trivial⟩⟩⟩))⟩
 ·rintro⟨i,z⟩ ⟨g1,g2,g3⟩
  dsimp only at g1 g2 g3 ⊢
  have hl2:=dW ((p.rs.take i).map pE)
  rw[bZ1,bXg,bYf g2]at hl2
  refine⟨_,rfl,_,rfl,aH (λh1=>⟨_,rfl,aH (λh2 => ?_) (λh2=>⟨_,rfl,aF ⟨_,rfl,aF ⟨_,rfl,aF ⟨_,rfl,aF ⟨_,rfl,aF (ho _ i (by omega) rfl)⟩⟩⟩⟩⟩)⟩) (λh1=>⟨_,rfl,aF ⟨_,rfl,aF ⟨_,rfl,aF ⟨_,rfl,aF ⟨_,rfl,aF (ho _ i (by omega) rfl)⟩⟩⟩⟩⟩)⟩
  have hlt:i<p.rs.length:=by omega
  refine⟨_,rfl,ckO (ckI (by rw[aD];omega) (bA7 hlt (by omega) ⟨⟨h7 _ (bXk hlt)⟩,ckI (by simp[dE,iC]) (ckI (by rw[hl2];simp;omega) ⟨_,rfl,aF ⟨⟨trivial,rfl⟩,.inr ⟨(i+1,z),⟨by dsimp only;omega⟩,by dsimp only;omega,rfl,rfl,by simp[cA4],rfl,(tJ hlt).symm,rfl,rfl,rfl,rfl,rfl,trivial⟩⟩⟩)⟩))⟩
def wdM(S:QT)(j:Nat):Int:=49152+(4096*S.getD (7*j) 0+1024*S.getD (7*j+1) 0+256*S.getD (7*j+2) 0+64*S.getD (7*j+3) 0+16*S.getD (7*j+4) 0+4*S.getD (7*j+5) 0+S.getD (7*j+6) 0)
theorem bAi(S:QT):∀j,gM S (7*j)=0
 | 0=>rfl
 | j+1=>by
  rw[show 7*(j+1)=7*j+6+1 by omega,gM,if_pos (by omega)]
theorem aTe(S:QT)(j:Nat):bC S (7*(j+1))=bC S (7*j)++eU (wdM S j) 2:=by
 have c1:gM S (7*j+1)=S.getD (7*j) 0:=by rw[gM,if_neg (by omega),bAi];omega
 have c2:gM S (7*j+2)=4*S.getD (7*j) 0+S.getD (7*j+1) 0:=by rw[gM,if_neg (by omega),c1]
 have c3:gM S (7*j+3)=4*gM S (7*j+2)+S.getD (7*j+2) 0:=by rw[gM,if_neg (by omega)]
 have c4:gM S (7*j+4)=4*gM S (7*j+3)+S.getD (7*j+3) 0:=by rw[gM,if_neg (by omega)]
 have c5:gM S (7*j+5)=4*gM S (7*j+4)+S.getD (7*j+4) 0:=by rw[gM,if_neg (by omega)]
 have c6:gM S (7*j+6)=4*gM S (7*j+5)+S.getD (7*j+5) 0:=by rw[gM,if_neg (by omega)]
 have b1:bC S (7*j+6)=bC S (7*j):=by
  rw[bC,if_neg (by omega),bC,if_neg (by omega),bC,if_neg (by omega),bC,if_neg (by omega),bC,if_neg (by omega),bC,if_neg (by omega)]
 rw[show 7*(j+1)=7*j+6+1 by omega,bC,if_pos (by omega),b1,aB,aB,bXs]
 congr 2
 rw[wdM,c6,c5,c4,c3,c2]
 omega
def aAg(S:QT)(k:Nat):Nat->LA
 | 0=>[]
 | m+1=>eU (wdM S k) 2++aAg S (k+1) m
theorem aAp(S:QT):∀m k,bC S (7*(k+m))=bC S (7*k)++aAg S k m
 | 0,k=>by rw[aAg,bXs];rfl
 | m+1,k=>by
  rw[show k+(m+1)=k+1+m by omega,aAp S m (k+1),aTe,aAg,bW9]
theorem aEt(S:QT):∀m k,(aAg S k m).length=2*m
 | 0,k=>rfl
 | m+1,k=>by rw[aAg,bW2,gU,aEt S m (k+1)];omega
theorem aO9{c:Ctl}(h:validM c=true):(oneM c).length<=272:=by
 have h2:=aEk (mM c)
 have h3:(mM c).length<=268:=by
  clear h2
  rcases valid_cases h with ⟨f,s1,s2,s3,s4,s5,rs,rfl,hrs⟩ | ⟨f,rs,rfl,hrs⟩ | ⟨f,rfl⟩ | ⟨f,a,lo,rfl,hlo⟩ | ⟨f,a,rfl⟩ | ⟨f,a,ba,ro,ti,rfl,hti⟩
  all_goals simp only[mM,bW2,aG,bXc,bXm,kN,tV]
  ·simp[bA,aG];omega
  ·simp[bA];omega
  ·simp[bA]
  ·have:=qF lo
   have:=(nacks_parts hlo).2.1
   simp[aG];omega
  ·simp[bA,aG]
  ·obtain⟨ref,l,h1,h2,h3⟩:=stepsR_some hti
   have h4:=uL h1
   have h5:=aHn ti
   have h7:=lY l
   have h8:=aAp (dC ti l) ((ti.length+6)/7) 0
   rw[bY6,bZz 7]at h8
   have h9:=aEt (dC ti l) ((ti.length+6)/7) 0
   have:(yS ti ro).length<=200:=by
    simp only[yS,h1,bW2,iL,h8,h9]
    simp[bC]
    omega
   simp[bA,aG];omega
 rw[oneM,aLe];omega
theorem aAk:∀l:List Ctl,(∀c∈l,validM c=true)->(encCM l).length<=272*l.length
 | [],_=>by simp[encCM]
 | c::l,h=>by
  have h1:=aO9 (h c (by simp))
  have h2:=aAk l (λd hd=>h d (by simp[hd]))
  have e:encCM (c::l)=oneM c++encCM l:=rfl
  rw[e,bW2,bXc];omega
def aP5(b:Int):Int->QT->Int
 | far,[]=>far
 | _,x::l=>aP5 b ((x-b)%65536) l
theorem aDu(b n:Int):∀ (l:QT) (far:Int),dI b far l=true->aP5 b far l<(n-b)%65536->(n-b)%65536<=32767->dI b far (l++[n])=true∧aP5 b far (l++[n])=(n-b)%65536
 | [],far,_,h2,h3=>by
  rw[aP5]at h2
  rw[bX2,dI,if_neg (by omega),dI,aP5,aP5]
  exact⟨rfl,rfl⟩
 | x::l,far,h1,h2,h3=>by
  rw[dI]at h1
  rw[aP5]at h2
  split at h1
  ·cases h1
  ·rename_i hx
   rw[bX0,dI,if_neg hx,aP5]
   exact aDu b n l _ h1 h2 h3
def nkP(f at':Int)(l:QT):Prop:=(1<=l.length∧l.length<=64)∧(∀x∈l,0<=x∧x<=65535)∧l.getD 0 0=f∧dI f (-1) l=true∧aP5 f (-1) l=at'∧0<=at'∧at'<=20*((l.length:Int)-1)
theorem bF5{f:Int}(h:0<=f∧f<=65535):nkP f 0 [f]:=by
 refine⟨by simp,by simpa using h,rfl, ?_, ?_,by omega,by simp⟩
 ·rw[dI,if_neg (by omega),dI]
 ·rw[aP5,aP5];omega
theorem aYi{f at' d:Int}{l:QT}(h:nkP f at' l)(hl:l.length<64)(hd:1<=d∧d<=20):nkP f (at'+d) (l++[(f+(at'+d))%65536]):=by
 obtain⟨⟨h1,h2⟩,h3,h4,h5,h6,h7,h8⟩:=h
 have e:((f+(at'+d))%65536-f)%65536=at'+d:=by omega
 have:=aDu f ((f+(at'+d))%65536) l (-1) h5 (by rw[e,h6];omega) (by rw[e];omega)
 rw[e]at this
 refine⟨by simp;omega, ?_, ?_,this.1,this.2,by omega,by simp;omega⟩
 ·intro x hx
  rw[bYj]at hx
  rcases hx with hx | hx
  ·exact h3 x hx
  ·simp only[bXd,bXn,bY0]at hx
   omega
 ·cases l with
  | nil=>simp at h1
  | cons x l=>simpa using h4
theorem bLo{f at':Int}{l:QT}(h:nkP f at' l):eT l=true:=by
 obtain⟨⟨h1,h2⟩,h3,h4,h5,h6,h7,h8⟩:=h
 have h9:l.any (bW 16)=false:=by
  rw[cAp]
  intro x hx
  have:=h3 x hx
  rw[bC4];omega
 simp only[eT,h4,h5,h9,Bool.not_false,bX4,bW3,bW6]
 omega
def tmP(at':Int)(l:QT):Prop:=(1<=l.length∧l.length<=64)∧(0<=at'∧at'<2147483648+500*(l.length:Int))∧∃R F L A,(F=false->A=at')∧∀ys,jB (l++ys)=bQ R A F ys L
theorem bAx{a:Int}(h:0<=a∧a<2147483648):tmP a [-1]:=
 ⟨by simp,by simp;omega,0,true,[],0,by simp,λys=>by rw[jB,bX0,bQ,if_pos rfl,bX2]⟩
theorem bE5{a:Int}(h:0<=a∧a<2147483648):tmP a [a]:=
 ⟨by simp,by simp;omega,a/256,false,[a%256],a,by simp,λys=>by rw[jB,bX0,bQ,if_neg (by omega),if_neg (by omega),if_pos rfl,bX2,bX2]⟩
theorem aZf{a:Int}{l:QT}(h:tmP a l)(hl:l.length<64):tmP a (l++[-1]):=by
 obtain⟨h1,h2,R,F,L,A,h3,h4⟩:=h
 refine⟨by simp;omega,by simp;omega,R,F,L,A,h3,λys => ?_⟩
 rw[bW9,h4,bX0,bQ,if_pos rfl,bX2]
theorem bI3{a b:Int}{l:QT}(h:tmP a l)(hl:l.length<64)(hb:0<=b ∧ -100<=b-a∧b-a<500):tmP b (l++[b]):=by
 obtain⟨h1,h2,R,F,L,A,h3,h4⟩:=h
 refine⟨by simp;omega,by simp;omega, ?_⟩
 cases F with
 | false=>
  have:=h3 rfl
  subst this
  exact⟨R,false,L++[b-A],b,λ_=>rfl,λys=>by rw[bW9,h4,bX0,bQ,if_neg (by omega),if_neg (by omega),if_neg (by decide),if_neg (by omega),bX2]⟩
 | true=>exact⟨b/256,false,L++[b%256],b,λ_=>rfl,λys=>by rw[bW9,h4,bX0,bQ,if_neg (by omega),if_neg (by omega),if_pos rfl,bX2]⟩
theorem bPn{a:Int}{l:QT}(h:tmP a l):(bM l).2.2=true:=by
 obtain⟨h1,h2,R,F,L,A,h3,h4⟩:=h
 have:=h4 []
 rw[bXs,bQ]at this
 simp only[bM,this,bW6]
 exact h1
abbrev X36:=QT×Int×HB
def nkQ(p:Pc)(f at':Int)(l:QT):Prop:=nkP f at' l∧(at',l)=F4 p.ls f (l.length-1)
def tmQ(p:Pc)(at':Int)(l:QT):Prop:=tmP at' l∧(at',l)=F6 p (l.length-1)
def bFh(p:Pc)(ls:QT)(s:S):List (List LInv):=match s.tm.get 7,s.hp with
 | .int _ f,[b0,b1,⟨k,_,[c0,c1,c2,c3,c4,c5,c6,c7,c8,_,c10,c11,c12]⟩,_]=>[[
  { α:=Nat,pre:=λi=>Lf (i=0),st:=λi=>⟨mkT [(2,.ptr 0 10 0),(4,.ptr 1 13 0),(5,.ptr 2 13 0),(7,.int .i64 f),(8,.int .i64 0),(9,.int .i64 (i:Nat))],s.hp⟩,mu:=λi=>ls.length+1 },
  { α:=X36,pre:=λx=>Lf (2<=x.1.length∧x.1.length<=ls.length+1∧nkQ p f x.2.1 x.1),st:=λx=>⟨mkT [(2,.ptr 0 10 0),(4,.ptr 1 13 0),(5,.ptr 2 13 0),(7,.int .i64 f),(8,.int .i64 x.2.1),(9,.int .i64 ((x.1.length:Int)-1))],[b0,b1,⟨k,false,[c0,c1,c2,c3,c4,c5,c6,c7,c8,.sl 4 x.1.length 0 x.1.length 1,c10,c11,c12]⟩,⟨.exact,true,x.2.2⟩,⟨.grow,true,aA x.1⟩]⟩,mu:=λx=>ls.length+1-x.1.length }]]
 | _,_=>[]
def bGj(p:Pc)(ls:QT)(s:S):List (List LInv):=match s.tm.get 10,s.hp with
 | .int _ at',[b0,b1,⟨k,_,[c0,c1,c2,c3,c4,c5,c6,c7,c8,c9,c10,c11,_]⟩,_]=>[[
  { α:=Nat,pre:=λi=>Lf (i=0),st:=λi=>⟨mkT [(2,.ptr 0 10 0),(4,.ptr 1 13 0),(5,.ptr 2 13 0),(10,.int .i64 at'),(11,.int .i64 (i:Nat))],s.hp⟩,mu:=λi=>ls.length+1 },
  { α:=X36,pre:=λx=>Lf (2<=x.1.length∧x.1.length<=ls.length+1∧tmQ p x.2.1 x.1),st:=λx=>⟨mkT [(2,.ptr 0 10 0),(4,.ptr 1 13 0),(5,.ptr 2 13 0),(10,.int .i64 x.2.1),(11,.int .i64 ((x.1.length:Int)-1))],[b0,b1,⟨k,false,[c0,c1,c2,c3,c4,c5,c6,c7,c8,c9,c10,c11,.sl 4 x.1.length 0 x.1.length 1]⟩,⟨.exact,true,x.2.2⟩,⟨.grow,true,aA x.1⟩]⟩,mu:=λx=>ls.length+1-x.1.length }]]
 | _,_=>[]
noncomputable def qV(hv:LI)(hb:LB)(p:Pc):Env:=e24 bSg (λi=>bif Nat.beq i 94003 then some (bFh p p.ls)else bif Nat.beq i 94005 then some (bGj p p.ls)else none) hv hb
noncomputable def vQ(hv:LI)(hb:LB)(p:Pc)(Q:BS):Prop:=aT (qV hv hb p) (wpx (qV hv hb p) 1000) 94 [.agg (pcC p),.int .i64 4] [] {} Q
noncomputable def vG(hv:LI)(hb:LB)(p:Pc)(Q:BS):Prop:=aT (qV hv hb p) (wpx (qV hv hb p) 1000) 94 [.agg (pcC p),.int .i64 6] [] {} Q
abbrev mW(Q:BS)(n_1:Int)(n_3:Int)(x_7:QT×Int×HB)(p:Pc):Prop:=
Q (.ret (.agg [.int .i64 4,.int .i64 n_1,.int .i64 n_3,.int .i64 0,.int .i64 0,.int .i64 0,.int .i64 0,.int .i64 0,.nils,.sl 4 x_7.1.length 0 x_7.1.length 1,.int .i64 0,.int .i64 0,.nils])) [Blk.mk BK.exact true [.int .u8 p.1,
 .int .u32 p.2,.int .u32 p.3,.int .u32 p.4,.int .u32 p.5,.int .u32 p.6,.int .u32 p.7,.lst p.8 (cells32M p.9) p.9.length 1,.lst p.10 (cells16M p.11) p.11.length 1,.int .u64 p.12],Blk.mk BK.exact false [.int .i64 4,.int .i64 n_1,
 .int .i64 n_3,.int .i64 0,.int .i64 0,.int .i64 0,.int .i64 0,.int .i64 0,.nils,.sl 4 x_7.1.length 0 x_7.1.length 1,.int .i64 0,.int .i64 0,.nils],Blk.mk BK.exact false [.int .i64 4,.int .i64 n_1,.int .i64 n_3,.int .i64 0,
 .int .i64 0,.int .i64 0,.int .i64 0,.int .i64 0,.nils,.sl 4 x_7.1.length 0 x_7.1.length 1,.int .i64 0,.int .i64 0,.nils],Blk.mk BK.exact true x_7.2.2,Blk.mk BK.grow true (aA x_7.1)] {}
abbrev nO(Q:BS)(n_1:Int)(n_3:Int)(p:Pc)(n_6:Int):Prop:=
Q (.ret (.agg [.int .i64 4,.int .i64 n_1,.int .i64 n_3,.int .i64 0,.int .i64 0,.int .i64 0,.int .i64 0,.int .i64 0,.nils,.sl 3 1 0 1 1,.int .i64 0,.int .i64 0,.nils])) [Blk.mk BK.exact true [.int .u8 p.1,.int .u32 p.2,.int
 .u32 p.3,.int .u32 p.4,.int .u32 p.5,.int .u32 p.6,.int .u32 p.7,.lst p.8 (cells32M p.9) p.9.length 1,.lst p.10 (cells16M p.11) p.11.length 1,.int .u64 p.12],Blk.mk BK.exact false [.int .i64 4,.int .i64 n_1,.int .i64 n_3,.int
 .i64 0,.int .i64 0,.int .i64 0,.int .i64 0,.int .i64 0,.nils,.sl 3 1 0 1 1,.int .i64 0,.int .i64 0,.nils],Blk.mk BK.exact false [.int .i64 4,.int .i64 n_1,.int .i64 n_3,.int .i64 0,.int .i64 0,.int .i64 0,.int .i64 0,.int
 .i64 0,.nils,.sl 3 1 0 1 1,.int .i64 0,.int .i64 0,.nils],Blk.mk BK.exact true [.int .i64 n_6]] {}
abbrev xG(p:Pc):Prop:=aK [AV.int .u8 p.1,.int .u32 p.2,.int .u32 p.3,.int .u32 p.4,.int .u32 p.5,.int .u32 p.6,.int .u32 p.7,.lst p.8 (cells32M p.9) p.9.length 1,.lst p.10 (cells16M p.11) p.11.length 1,.int .u64 p.12]
abbrev uW:Prop:=aK [AV.int .i64 0,.int .i64 0,.int .i64 0,.int .i64 0,.int .i64 0,.int .i64 0,.int .i64 0,.int .i64 0,.nils,.nils,.int .i64 0,.int .i64 0,.nils]
abbrev bOd(n_1 n_3:Int):HB:=[.int .i64 4,.int .i64 n_1,.int .i64 n_3,.int .i64 0,.int .i64 0,.int .i64 0,.int .i64 0,.int .i64 0,.nils,.sl 3 1 0 1 1,.int .i64 0,.int .i64 0,.nils]
abbrev aLy:Prop:=aK (AV.ptr 2 13 0)
abbrev aTn:Prop:=aK (AV.ptr 0 10 0)
abbrev aPc:Prop:=aK (AV.ptr 1 13 0)
abbrev aS3(x_7:QT×Int×HB)(p:Pc)(n_6:Int):Prop:=Lf (2<=x_7.1.length∧x_7.1.length<=(Pc.ls p).length+1∧nkQ p n_6 x_7.2.1 x_7.1)
abbrev bQt(n_1 n_3:Int)(x_7:QT×Int×HB):HB:=[.int .i64 4,.int .i64 n_1,.int .i64 n_3,.int .i64 0,.int .i64 0,.int .i64 0,.int .i64 0,.int .i64 0,.nils,.sl 4 x_7.1.length 0 x_7.1.length 1,.int .i64 0,.int .i64 0,.nils]
abbrev bDg(n_12:Int)(p:Pc):Bool:=decide (0<=n_12)&&Nat.blt n_12.toNat p.11.length&&true
abbrev aE2(n_12:Int)(p:Pc):Bool:=Nat.blt (n_12.toNat*1) (cells16M p.11).length
abbrev aF7(p:Pc)(n_12:Int):AV:=(cells16M p.11).getD (n_12.toNat*1) AV.undef
abbrev aO5:Prop:=True∧(0:Nat)=(0:Nat)
abbrev aLz(p:Pc):Prop:=p.11.length+1<p.11.length+1
abbrev bGp(n_1 n_3:Int):HB:=[.int .i64 4,.int .i64 n_1,.int .i64 n_3,.int .i64 0,.int .i64 0,.int .i64 0,.int .i64 0,.int .i64 0,.nils,.sl 4 2 0 2 1,.int .i64 0,.int .i64 0,.nils]
abbrev oZ(p:Pc)(y_21:QT×Int×HB):Nat:=p.11.length+1-y_21.1.length
abbrev kS(n_20:Int):AV:=.int .i64 n_20
abbrev kT(y_21:QT×Int×HB):Int:=(y_21.1.length:Int)-1
abbrev bUd(n_16:Int)(y_21:QT×Int×HB):Prop:=aTn∧aPc∧kS n_16=AV.int .i64 y_21.2.1∧True
abbrev aLt(x_7:QT×Int×HB):Bool:=Nat.beq (aA x_7.1).length x_7.1.length
abbrev aUq(x_7:QT×Int×HB):Int:=(x_7.1.length:Int)
abbrev bIj(x_7:QT×Int×HB):Bool:=aLt x_7&&true&&Nat.beq (0+x_7.1.length*1) x_7.1.length&&Nat.ble (x_7.1.length+1) 1099511627776&&Nat.ble ((x_7.1.length+1)*8) 1099511627776
abbrev bF6(n_1 n_3:Int)(x_7:QT×Int×HB):HB:=[.int .i64 4,.int .i64 n_1,.int .i64 n_3,.int .i64 0,.int .i64 0,.int .i64 0,.int .i64 0,.int .i64 0,.nils,.sl 4 (x_7.1.length+1) 0 (x_7.1.length+1) 1,.int .i64 0,.int .i64 0,.nils]
theorem bHi(p:Pc)(Q:BS):vQ (aW [(385040,.int .u32),(385041,.int .i64),(385047,.int .u32),(385048,.int .i64),(385107,.int .u32),(385108,.int .u32),(385109,.int .i64),(385113,.int
 .i64),(385116,.int .i64),(385130,.int .i64),(385132,.int .u16),(385133,.int .u16),(385134,.int .i64),(385135,.int .i64),(385140,.int .i64),(385141,.int .i64),(385124,.int .i64),(385125,.int .i64),(385121,.int .i64),
 (385127,.int .i64)]) (aV []) p Q=(exI .u32 p.2 (λn_0=>exW .i64 n_0 (λn_1=>exI .u32 p.3 (λn_2=>exW .i64 n_2 (λn_3=>exI .u32 p.4 (λn_4=>exI .u32 (n_4.tmod 65536) (λn_5=>exW .i64 n_5 (λn_6=>((∃x_7 :
 Nat,Lf (x_7=0)∧xG p∧uW∧aK (bOd n_1 n_3)∧aK [AV.int .i64 n_6]∧aK (AV.int .i64 n_6)∧aLy∧AV.int .i64 0=AV.int .i64 (x_7:Int)∧aTn∧aPc∧aK (AV.int .i64 0)∧True)∨∃x_7:QT×Int×HB,
 aS3 x_7 p n_6∧xG p∧uW∧bOd n_1 n_3=bQt n_1 n_3 x_7∧[AV.int .i64 n_6]=x_7.2.2∧False)∧(∀x_7:Nat,Lf (x_7=0)->exI .i64 (x_7:Int) (λn_8=>exI .i64 (p.11.length:Int) (λn_9=>bif decide (n_8<n_9)then
 exI .i64 1 (λn_10=>bif decide (n_10<64)then exI .i64 1 (λn_11=>exI .i64 (x_7:Int) (λn_12=>ckQ (bDg n_12 p) (ckQ (aE2 n_12 p) (exV .u16 (aF7 p n_12) (λn_13=>exI .u16 (n_13.tmod 20) (λn_14=>exW .i64 n_14
 (λn_15=>exW .i64 (n_11+n_15) (λn_16=>exW .i64 (n_6+n_16) (λn_17=>exI .i64 (n_17.tmod 65536) (λn_18=>exI .i64 (x_7:Int) (λn_19=>exW .i64 (n_19+1) (λn_20=>aO5∧((∃y_21:Nat,Lf (y_21=0)∧aLz p ∧
 xG p∧uW∧bGp n_1 n_3=bOd n_1 n_3∧aK [AV.int .i64 n_6]∧False)∨∃y_21:QT×Int×HB,aS3 y_21 p n_6∧oZ p y_21<p.11.length+1∧xG p∧uW∧bGp n_1 n_3=bQt n_1 n_3 y_21∧[AV.int .i64 n_6] =
 y_21.2.2∧[AV.int .i64 n_6,.int .i64 n_18]=aA y_21.1∧aK (AV.int .i64 n_6)∧aLy∧kS n_20=AV.int .i64 (kT y_21)∧bUd n_16 y_21)))))))))))))else nO Q n_1 n_3 p n_6)else nO Q n_1 n_3 p n_6)))∧∀
 x_7:QT×Int×HB,aS3 x_7 p n_6->exI .i64 (kT x_7) (λn_8=>exI .i64 (p.11.length:Int) (λn_9=>bif decide (n_8<n_9)then ckQ (aLt x_7) (exI .i64 (aUq x_7) (λn_10=>bif decide (n_10<64)then exW .i64
 (x_7.2.1+1) (λn_11=>exI .i64 (kT x_7) (λn_12=>ckQ (bDg n_12 p) (ckQ (aE2 n_12 p) (exV .u16 (aF7 p n_12) (λn_13=>exI .u16 (n_13.tmod 20) (λn_14=>exW .i64 n_14 (λn_15=>exW .i64 (n_11+n_15) (λn_16=>
 exW .i64 (n_6+n_16) (λn_17=>exI .i64 (n_17.tmod 65536) (λn_18=>ckQ (bIj x_7) (exI .i64 (kT x_7) (λn_19=>exW .i64 (n_19+1) (λn_20=>aO5∧((∃y_21:Nat,Lf (y_21=0)∧p.11.length+1<oZ p x_7∧xG p ∧
 uW∧bF6 n_1 n_3 x_7=bOd n_1 n_3∧x_7.2.2=[AV.int .i64 n_6]∧False)∨∃y_21:QT×Int×HB,aS3 y_21 p n_6∧oZ p y_21<oZ p x_7∧xG p∧uW∧bF6 n_1 n_3 x_7=bQt n_1 n_3 y_21∧x_7.2.2=y_21.2.2
 ∧ aA x_7.1++[kS n_18]=aA y_21.1∧aK (AV.int .i64 n_6)∧aLy∧kS n_20=AV.int .i64 (kT y_21)∧bUd n_16 y_21))))))))))))))else mW Q n_1 n_3 x_7 p))else mW Q n_1 n_3 x_7 p)))))))))):=by
 kernel_rfl

abbrev iK(Q:BS)(n_1:Int)(n_3:Int)(n_6:Int)(n_9:Int)(x_15:QT×Int×HB)(p:Pc):Prop:=
Q (.ret (.agg [.int .i64 6,.int .i64 n_1,.int .i64 n_3,.int .i64 0,.int .i64 0,.int .i64 0,.int .i64 0,.int .i64 0,.nils,.nils,.int .i64 n_6,.int .i64 n_9,.sl 4 x_15.1.length 0 x_15.1.length 1])) [Blk.mk BK.exact true [.int .u8
 p.1,.int .u32 p.2,.int .u32 p.3,.int .u32 p.4,.int .u32 p.5,.int .u32 p.6,.int .u32 p.7,.lst p.8 (cells32M p.9) p.9.length 1,.lst p.10 (cells16M p.11) p.11.length 1,.int .u64 p.12],Blk.mk BK.exact false [.int .i64 6,.int .i64
 n_1,.int .i64 n_3,.int .i64 0,.int .i64 0,.int .i64 0,.int .i64 0,.int .i64 0,.nils,.nils,.int .i64 n_6,.int .i64 n_9,.sl 4 x_15.1.length 0 x_15.1.length 1],Blk.mk BK.exact false [.int .i64 6,.int .i64 n_1,.int .i64 n_3,.int
 .i64 0,.int .i64 0,.int .i64 0,.int .i64 0,.int .i64 0,.nils,.nils,.int .i64 n_6,.int .i64 n_9,.sl 4 x_15.1.length 0 x_15.1.length 1],Blk.mk BK.exact true x_15.2.2,Blk.mk BK.grow true (aA x_15.1)] {}
abbrev nG(p:Pc)(x_15:QT×Int×HB)(n_1:Int)(n_3:Int)(n_6:Int)(n_9:Int)(n_32:Int):Prop:=
∃y_33:QT×Int×HB,Lf (2<=y_33.1.length∧y_33.1.length<=(Pc.ls p).length+1∧tmQ p y_33.2.1 y_33.1)∧p.11.length+1-y_33.1.length<p.11.length+1-x_15.1.length∧aK [AV.int .u8 p.1,.int .u32 p.2,.int .u32 p.3,
 .int .u32 p.4,.int .u32 p.5,.int .u32 p.6,.int .u32 p.7,.lst p.8 (cells32M p.9) p.9.length 1,.lst p.10 (cells16M p.11) p.11.length 1,.int .u64 p.12]∧aK [AV.int .i64 0,.int .i64 0,.int .i64 0,.int .i64 0,.int .i64 0,.int .i64
 0,.int .i64 0,.int .i64 0,.nils,.nils,.int .i64 0,.int .i64 0,.nils]∧[AV.int .i64 6,.int .i64 n_1,.int .i64 n_3,.int .i64 0,.int .i64 0,.int .i64 0,.int .i64 0,.int .i64 0,.nils,.nils,.int .i64 n_6,.int .i64 n_9,.sl 4
 (x_15.1.length+1) 0 (x_15.1.length+1) 1]=[AV.int .i64 6,.int .i64 n_1,.int .i64 n_3,.int .i64 0,.int .i64 0,.int .i64 0,.int .i64 0,.int .i64 0,.nils,.nils,.int .i64 n_6,.int .i64 n_9,.sl 4 y_33.1.length 0 y_33.1.length
 1]∧x_15.2.2=y_33.2.2∧aA x_15.1++[AV.int .i64 (-1)]=aA y_33.1∧AV.int .i64 n_32=AV.int .i64 ((y_33.1.length:Int)-1)∧aK (AV.ptr 2 13 0)∧aK (AV.ptr 0 10 0)∧aK (AV.ptr 1 13 0)∧AV.int .i64 x_15.2.1 =
 AV.int .i64 y_33.2.1∧True
abbrev nZ(p:Pc)(x_15:QT×Int×HB)(n_1:Int)(n_3:Int)(n_6:Int)(n_9:Int)(n_25:Int)(n_32:Int):Prop:=
∃y_33:QT×Int×HB,Lf (2<=y_33.1.length∧y_33.1.length<=(Pc.ls p).length+1∧tmQ p y_33.2.1 y_33.1)∧p.11.length+1-y_33.1.length<p.11.length+1-x_15.1.length∧aK [AV.int .u8 p.1,.int .u32 p.2,.int .u32 p.3,
 .int .u32 p.4,.int .u32 p.5,.int .u32 p.6,.int .u32 p.7,.lst p.8 (cells32M p.9) p.9.length 1,.lst p.10 (cells16M p.11) p.11.length 1,.int .u64 p.12]∧aK [AV.int .i64 0,.int .i64 0,.int .i64 0,.int .i64 0,.int .i64 0,.int .i64
 0,.int .i64 0,.int .i64 0,.nils,.nils,.int .i64 0,.int .i64 0,.nils]∧[AV.int .i64 6,.int .i64 n_1,.int .i64 n_3,.int .i64 0,.int .i64 0,.int .i64 0,.int .i64 0,.int .i64 0,.nils,.nils,.int .i64 n_6,.int .i64 n_9,.sl 4
 (x_15.1.length+1) 0 (x_15.1.length+1) 1]=[AV.int .i64 6,.int .i64 n_1,.int .i64 n_3,.int .i64 0,.int .i64 0,.int .i64 0,.int .i64 0,.int .i64 0,.nils,.nils,.int .i64 n_6,.int .i64 n_9,.sl 4 y_33.1.length 0 y_33.1.length
 1]∧x_15.2.2=y_33.2.2∧aA x_15.1++[AV.int .i64 n_25]=aA y_33.1∧AV.int .i64 n_32=AV.int .i64 ((y_33.1.length:Int)-1)∧aK (AV.ptr 2 13 0)∧aK (AV.ptr 0 10 0)∧aK (AV.ptr 1 13 0)∧AV.int .i64 n_25=AV.int
 .i64 y_33.2.1∧True
abbrev iT(n_1:Int)(n_3:Int)(n_6:Int)(n_9:Int)(x_15:QT×Int×HB):Prop:=
[AV.int .i64 6,.int .i64 n_1,.int .i64 n_3,.int .i64 0,.int .i64 0,.int .i64 0,.int .i64 0,.int .i64 0,.nils,.nils,.int .i64 n_6,.int .i64 n_9,.sl 4 (x_15.1.length+1) 0 (x_15.1.length+1) 1]=[AV.int .i64 6,.int .i64 n_1,
 .int .i64 n_3,.int .i64 0,.int .i64 0,.int .i64 0,.int .i64 0,.int .i64 0,.nils,.nils,.int .i64 n_6,.int .i64 n_9,.sl 3 1 0 1 1]
abbrev iI(n_1:Int)(n_3:Int)(n_6:Int)(n_9:Int)(y_33:QT×Int×HB):Prop:=
[AV.int .i64 6,.int .i64 n_1,.int .i64 n_3,.int .i64 0,.int .i64 0,.int .i64 0,.int .i64 0,.int .i64 0,.nils,.nils,.int .i64 n_6,.int .i64 n_9,.sl 4 2 0 2 1]=[AV.int .i64 6,.int .i64 n_1,.int .i64 n_3,.int .i64 0,.int .i64
 0,.int .i64 0,.int .i64 0,.int .i64 0,.nils,.nils,.int .i64 n_6,.int .i64 n_9,.sl 4 y_33.1.length 0 y_33.1.length 1]
abbrev kE(n_1:Int)(n_3:Int)(n_6:Int)(n_9:Int):Prop:=
[AV.int .i64 6,.int .i64 n_1,.int .i64 n_3,.int .i64 0,.int .i64 0,.int .i64 0,.int .i64 0,.int .i64 0,.nils,.nils,.int .i64 n_6,.int .i64 n_9,.sl 4 2 0 2 1]=[AV.int .i64 6,.int .i64 n_1,.int .i64 n_3,.int .i64 0,.int .i64
 0,.int .i64 0,.int .i64 0,.int .i64 0,.nils,.nils,.int .i64 n_6,.int .i64 n_9,.sl 3 1 0 1 1]
abbrev mY(Q:BS)(n_1:Int)(n_3:Int)(n_6:Int)(n_9:Int)(p:Pc):Prop:=
Q (.ret (.agg [.int .i64 6,.int .i64 n_1,.int .i64 n_3,.int .i64 0,.int .i64 0,.int .i64 0,.int .i64 0,.int .i64 0,.nils,.nils,.int .i64 n_6,.int .i64 n_9,.sl 3 1 0 1 1])) [Blk.mk BK.exact true [.int .u8 p.1,.int .u32 p.2,.int
 .u32 p.3,.int .u32 p.4,.int .u32 p.5,.int .u32 p.6,.int .u32 p.7,.lst p.8 (cells32M p.9) p.9.length 1,.lst p.10 (cells16M p.11) p.11.length 1,.int .u64 p.12],Blk.mk BK.exact false [.int .i64 6,.int .i64 n_1,.int .i64 n_3,.int
 .i64 0,.int .i64 0,.int .i64 0,.int .i64 0,.int .i64 0,.nils,.nils,.int .i64 n_6,.int .i64 n_9,.sl 3 1 0 1 1],Blk.mk BK.exact false [.int .i64 6,.int .i64 n_1,.int .i64 n_3,.int .i64 0,.int .i64 0,.int .i64 0,.int .i64 0,
 .int .i64 0,.nils,.nils,.int .i64 n_6,.int .i64 n_9,.sl 3 1 0 1 1],Blk.mk BK.exact true [.int .i64 (-1)]] {}
abbrev mV(Q:BS)(n_1:Int)(n_3:Int)(n_6:Int)(n_9:Int)(p:Pc)(n_12:Int):Prop:=
Q (.ret (.agg [.int .i64 6,.int .i64 n_1,.int .i64 n_3,.int .i64 0,.int .i64 0,.int .i64 0,.int .i64 0,.int .i64 0,.nils,.nils,.int .i64 n_6,.int .i64 n_9,.sl 3 1 0 1 1])) [Blk.mk BK.exact true [.int .u8 p.1,.int .u32 p.2,.int
 .u32 p.3,.int .u32 p.4,.int .u32 p.5,.int .u32 p.6,.int .u32 p.7,.lst p.8 (cells32M p.9) p.9.length 1,.lst p.10 (cells16M p.11) p.11.length 1,.int .u64 p.12],Blk.mk BK.exact false [.int .i64 6,.int .i64 n_1,.int .i64 n_3,.int
 .i64 0,.int .i64 0,.int .i64 0,.int .i64 0,.int .i64 0,.nils,.nils,.int .i64 n_6,.int .i64 n_9,.sl 3 1 0 1 1],Blk.mk BK.exact false [.int .i64 6,.int .i64 n_1,.int .i64 n_3,.int .i64 0,.int .i64 0,.int .i64 0,.int .i64 0,
 .int .i64 0,.nils,.nils,.int .i64 n_6,.int .i64 n_9,.sl 3 1 0 1 1],Blk.mk BK.exact true [.int .i64 n_12]] {}
abbrev nW(n_1:Int)(n_3:Int)(n_6:Int)(n_9:Int)(x_15:QT×Int×HB):Prop:=
[AV.int .i64 6,.int .i64 n_1,.int .i64 n_3,.int .i64 0,.int .i64 0,.int .i64 0,.int .i64 0,.int .i64 0,.nils,.nils,.int .i64 n_6,.int .i64 n_9,.sl 3 1 0 1 1]=[AV.int .i64 6,.int .i64 n_1,.int .i64 n_3,.int .i64 0,.int .i64
 0,.int .i64 0,.int .i64 0,.int .i64 0,.nils,.nils,.int .i64 n_6,.int .i64 n_9,.sl 4 x_15.1.length 0 x_15.1.length 1]
abbrev aMd(n_13:Int):Int:=(((n_13%18446744073709551616).toNat &&& 1:Nat):Int)
abbrev bDv(n_1 n_3 n_6 n_9:Int):Prop:=aK [AV.int .i64 6,.int .i64 n_1,.int .i64 n_3,.int .i64 0,.int .i64 0,.int .i64 0,.int .i64 0,.int .i64 0,.nils,.nils,.int .i64 n_6,.int .i64 n_9,.sl 3 1 0 1 1]
abbrev yY:AV:=.int .i64 (-1)
abbrev bJw(x_15:Nat)(n_12:Int):Prop:=AV.int .i64 0=AV.int .i64 (x_15:Int)∧aK (AV.ptr 2 13 0)∧aK (AV.ptr 0 10 0)∧aK (AV.ptr 1 13 0)∧aK (AV.int .i64 n_12)∧True
abbrev aX6(x_15:QT×Int×HB)(p:Pc):Prop:=Lf (2<=x_15.1.length∧x_15.1.length<=(Pc.ls p).length+1∧tmQ p x_15.2.1 x_15.1)
abbrev bHb(p:Pc)(n_1 n_3 n_6 n_9:Int):Prop:=∃y_33:Nat,Lf (y_33=0)∧aLz p∧xG p∧uW∧kE n_1 n_3 n_6 n_9∧aK [yY]∧False
abbrev bMl(n_32:Int)(y_33:QT×Int×HB)(n_12:Int):Prop:=kS n_32=AV.int .i64 (kT y_33)∧aLy∧aTn∧aPc∧kS n_12=AV.int .i64 y_33.2.1∧True
theorem bE4(p:Pc)(Q:BS):vG (aW [(385040,.int .u32),(385041,.int .i64),(385047,.int .u32),(385048,.int .i64),(385149,.int .u32),(385150,.int .u32),(385151,.int .i64),(385155,.int
 .u32),(385156,.int .u32),(385157,.int .i64),(385161,.int .u32),(385162,.int .u32),(385163,.int .i64),(385168,.int .u64),(385169,.int .u64),(385174,.int .i64),(385177,.int .i64),(385190,.int .i64),(385192,.int .u16),
 (385193,.int .u16),(385194,.int .i64),(385195,.int .i64),(385196,.int .i64),(385197,.int .i64),(385199,.int .u64),(385200,.int .i64),(385201,.int .i64),(385202,.int .u64),(385203,.int .u64),(385185,.int .i64),(385186,
 .int .i64),(385182,.int .i64)]) (aV []) p Q=(exI .u32 p.2 (λn_0=>exW .i64 n_0 (λn_1=>exI .u32 p.3 (λn_2=>exW .i64 n_2 (λn_3=>exI .u32 p.4 (λn_4=>exI .u32 (n_4.tmod 65536) (λn_5=>exW .i64 n_5 (λn_6=>
 exI .u32 p.5 (λn_7=>exI .u32 (n_7.tmod 256) (λn_8=>exW .i64 n_8 (λn_9=>exI .u32 p.6 (λn_10=>exW .u32 (n_10.tdiv 2) (λn_11=>exW .i64 n_11 (λn_12=>exI .u64 p.12 (λn_13=>exW .u64 (aMd n_13) (λn_14=>
 bif n_14==0 then((∃x_15:Nat,Lf (x_15=0)∧xG p∧uW∧bDv n_1 n_3 n_6 n_9∧aK [yY]∧bJw x_15 n_12)∨∃x_15:QT×Int×HB,aX6 x_15 p∧xG p∧uW∧nW n_1 n_3 n_6 n_9 x_15∧[yY] =
 x_15.2.2∧False)∧(∀x_15:Nat,Lf (x_15=0)->exI .i64 (x_15:Int) (λn_16=>exI .i64 (p.11.length:Int) (λn_17=>bif decide (n_16<n_17)then exI .i64 1 (λn_18=>bif decide (n_18<64)then exI .i64 (x_15:Int) (fun
 n_19=>ckQ (bDg n_19 p) (ckQ (aE2 n_19 p) (exV .u16 (aF7 p n_19) (λn_20=>exI .u16 (n_20.tmod 600) (λn_21=>exW .i64 n_21 (λn_22=>exW .i64 (n_12+n_22) (λn_23=>exW .i64 (n_23-100) (λn_24=>exI .i64 (tQ 0
 n_24) (λn_25=>exI .u64 p.12 (λn_26=>exI .i64 (x_15:Int) (λn_27=>exW .i64 (n_27+1) (λn_28=>ckQ (decide (0<=n_28)&&true) (exI .u64 (Int.fdiv n_26 ((2:Int)^Min.min n_28.toNat 64)) (λn_29=>exW .u64 (aMd
 n_29) (λn_30=>bif n_30==0 then exI .i64 (x_15:Int) (λn_31=>exW .i64 (n_31+1) (λn_32=>aO5∧(bHb p n_1 n_3 n_6 n_9∨∃y_33:QT×Int×HB,aX6 y_33 p∧oZ p y_33<p.11.length+1∧xG p∧uW ∧
 iI n_1 n_3 n_6 n_9 y_33∧[yY]=y_33.2.2∧[yY,.int .i64 (-1)]=aA y_33.1∧bMl n_32 y_33 n_12)))else exI .i64 (x_15:Int) (λn_31=>exW .i64 (n_31+1) (λn_32=>aO5∧(bHb p n_1 n_3 n_6 n_9∨∃y_33 :
 QT×Int×HB,aX6 y_33 p∧oZ p y_33<p.11.length+1∧xG p∧uW∧iI n_1 n_3 n_6 n_9 y_33∧[yY]=y_33.2.2∧[yY,.int .i64 n_25]=aA y_33.1∧bMl n_32 y_33 n_25))))))))))))))))))else
 mY Q n_1 n_3 n_6 n_9 p)else mY Q n_1 n_3 n_6 n_9 p)))∧∀x_15:QT×Int×HB,aX6 x_15 p->exI .i64 (kT x_15) (λn_16=>exI .i64 (p.11.length:Int) (λn_17=>bif decide (n_16<n_17)then ckQ
 (aLt x_15) (exI .i64 (aUq x_15) (λn_18=>bif decide (n_18<64)then exI .i64 (kT x_15) (λn_19=>ckQ (bDg n_19 p) (ckQ (aE2 n_19 p) (exV .u16 (aF7 p n_19) (λn_20=>exI .u16 (n_20.tmod 600) (λn_21=>exW .i64 n_21
 (λn_22=>exW .i64 (x_15.2.1+n_22) (λn_23=>exW .i64 (n_23-100) (λn_24=>exI .i64 (tQ 0 n_24) (λn_25=>exI .u64 p.12 (λn_26=>exI .i64 (kT x_15) (λn_27=>exW .i64 (n_27+1) (λn_28=>ckQ (decide (0 ≤
 n_28)&&true) (exI .u64 (Int.fdiv n_26 ((2:Int)^Min.min n_28.toNat 64)) (λn_29=>exW .u64 (aMd n_29) (λn_30=>bif n_30==0 then ckQ (bIj x_15) (exI .i64 (kT x_15) (λn_31=>exW .i64 (n_31+1) (λn_32=>aO5∧((∃
 y_33:Nat,Lf (y_33=0)∧p.11.length+1<oZ p x_15∧xG p∧uW∧iT n_1 n_3 n_6 n_9 x_15∧x_15.2.2=[yY]∧False)∨nG p x_15 n_1 n_3 n_6 n_9 n_32))))else ckQ (bIj x_15) (exI .i64 (kT x_15) (λn_31
 => exW .i64 (n_31+1) (λn_32=>aO5∧((∃y_33:Nat,Lf (y_33=0)∧p.11.length+1<oZ p x_15∧xG p∧uW∧iT n_1 n_3 n_6 n_9 x_15∧x_15.2.2=[yY]∧False)∨nZ p x_15 n_1 n_3 n_6 n_9 n_25
 n_32)))))))))))))))))))else iK Q n_1 n_3 n_6 n_9 x_15 p))else iK Q n_1 n_3 n_6 n_9 x_15 p))else((∃x_15:Nat,Lf (x_15=0)∧xG p∧uW∧bDv n_1 n_3 n_6 n_9∧aK [kS n_12]∧bJw x_15 n_12)∨∃x_15 :
 QT×Int×HB,aX6 x_15 p∧xG p∧uW∧nW n_1 n_3 n_6 n_9 x_15∧[kS n_12]=x_15.2.2∧False)∧(∀x_15:Nat,Lf (x_15=0)->exI .i64 (x_15:Int) (λn_16=>exI .i64 (p.11.length:Int) (λn_17=>bif
 decide (n_16<n_17)then exI .i64 1 (λn_18=>bif decide (n_18<64)then exI .i64 (x_15:Int) (λn_19=>ckQ (bDg n_19 p) (ckQ (aE2 n_19 p) (exV .u16 (aF7 p n_19) (λn_20=>exI .u16 (n_20.tmod 600) (λn_21=>exW .i64
 n_21 (λn_22=>exW .i64 (n_12+n_22) (λn_23=>exW .i64 (n_23-100) (λn_24=>exI .i64 (tQ 0 n_24) (λn_25=>exI .u64 p.12 (λn_26=>exI .i64 (x_15:Int) (λn_27=>exW .i64 (n_27+1) (λn_28=>ckQ (decide (0 ≤
 n_28)&&true) (exI .u64 (Int.fdiv n_26 ((2:Int)^Min.min n_28.toNat 64)) (λn_29=>exW .u64 (aMd n_29) (λn_30=>bif n_30==0 then exI .i64 (x_15:Int) (λn_31=>exW .i64 (n_31+1) (λn_32=>aO5∧((∃y_33:Nat,Lf
 (y_33=0)∧aLz p∧xG p∧uW∧kE n_1 n_3 n_6 n_9∧aK [kS n_12]∧False)∨∃y_33:QT×Int×HB,aX6 y_33 p∧oZ p y_33<p.11.length+1∧xG p∧uW∧iI n_1 n_3 n_6 n_9 y_33∧[kS
 n_12]=y_33.2.2∧[kS n_12,.int .i64 (-1)]=aA y_33.1∧bMl n_32 y_33 n_12)))else exI .i64 (x_15:Int) (λn_31=>exW .i64 (n_31+1) (λn_32=>aO5∧((∃y_33:Nat,Lf (y_33=0)∧aLz p∧xG p∧uW∧kE
 n_1 n_3 n_6 n_9∧aK [kS n_12]∧False)∨∃y_33:QT×Int×HB,aX6 y_33 p∧oZ p y_33<p.11.length+1∧xG p∧uW∧iI n_1 n_3 n_6 n_9 y_33∧[kS n_12]=y_33.2.2∧[kS n_12,.int .i64 n_25] =
 aA y_33.1∧bMl n_32 y_33 n_25))))))))))))))))))else mV Q n_1 n_3 n_6 n_9 p n_12)else mV Q n_1 n_3 n_6 n_9 p n_12)))∧∀x_15:QT×Int×HB,aX6 x_15 p->exI .i64 (kT x_15) (λn_16=>exI .i64
 (p.11.length:Int) (λn_17=>bif decide (n_16<n_17)then ckQ (aLt x_15) (exI .i64 (aUq x_15) (λn_18=>bif decide (n_18<64)then exI .i64 (kT x_15) (λn_19=>ckQ (bDg n_19 p) (ckQ (aE2 n_19 p) (exV .u16 (aF7 p
 n_19) (λn_20=>exI .u16 (n_20.tmod 600) (λn_21=>exW .i64 n_21 (λn_22=>exW .i64 (x_15.2.1+n_22) (λn_23=>exW .i64 (n_23-100) (λn_24=>exI .i64 (tQ 0 n_24) (λn_25=>exI .u64 p.12 (λn_26=>exI .i64 (kT
 x_15) (λn_27=>exW .i64 (n_27+1) (λn_28=>ckQ (decide (0<=n_28)&&true) (exI .u64 (Int.fdiv n_26 ((2:Int)^Min.min n_28.toNat 64)) (λn_29=>exW .u64 (aMd n_29) (λn_30=>bif n_30==0 then ckQ (bIj x_15) (exI .i64
 (kT x_15) (λn_31=>exW .i64 (n_31+1) (λn_32=>aO5∧((∃y_33:Nat,Lf (y_33=0)∧p.11.length+1<oZ p x_15∧xG p∧uW∧iT n_1 n_3 n_6 n_9 x_15∧x_15.2.2=[kS n_12]∧False)∨nG p x_15 n_1
 n_3 n_6 n_9 n_32))))else ckQ (bIj x_15) (exI .i64 (kT x_15) (λn_31=>exW .i64 (n_31+1) (λn_32=>aO5∧((∃y_33:Nat,Lf (y_33=0)∧p.11.length+1<oZ p x_15∧xG p∧uW∧iT n_1 n_3 n_6 n_9 x_15 ∧
 x_15.2.2=[kS n_12]∧False)∨nZ p x_15 n_1 n_3 n_6 n_9 n_25 n_32)))))))))))))))))))else iK Q n_1 n_3 n_6 n_9 x_15 p))else iK Q n_1 n_3 n_6 n_9 x_15 p)))))))))))))))))):=by kernel_rfl

theorem aMy{l:QT}{i m:Nat}(hi:i<l.length)(hm:m=i){K:Int->Prop}(hk:K l[i]):∃n:Int,(cells16M l).getD m AV.undef=AV.int .u16 n∧K n:=by
 subst hm
 exact⟨_,by simp[cells16M,hi],hk⟩
theorem wO(l:QT):(cells16M l).length=l.length:=by simp[cells16M]
theorem bLs{H:HV}{id n m:Nat}{b:Blk}{acc:QT}(hH:H[id]? = some b)(hb:b.cs=aA acc)(hk:b.k≠.ro)(hn:n=acc.length)(hm:m=acc.length):bU 0 H 8 (.sl id n 0 m 1)=.lst 0 (aA acc) acc.length 1:=by
 subst hn hm
 exact tC (d:=6) hH (by rw[hb];exact aM acc) (by omega) hk (by rw[hb,bXl];exact bW4 (by rw[aM];omega)) (rO acc)
theorem bLf{H:HV}{k f a:Int}{id n m:Nat}{b:Blk}{acc:QT}(hH:H[id]? = some b)(hb:b.cs=aA acc)(hk:b.k≠.ro)(hn:n=acc.length)(hm:m=acc.length) :
  aJ0 (.agg [.int .i64 k,.int .i64 f,.int .i64 a,.int .i64 0,.int .i64 0,.int .i64 0,.int .i64 0,.int .i64 0,.nils,.sl id n 0 m 1,.int .i64 0,.int .i64 0,.nils]) H=.agg (ctC ⟨k,f,a,0,0,0,0,0,[],acc,0,0,[]⟩):=by
 show pcK (.agg [.int .i64 k,.int .i64 f,.int .i64 a,.int .i64 0,.int .i64 0,.int .i64 0,.int .i64 0,.int .i64 0,.nils,bU 0 H 8 (.sl id n 0 m 1),.int .i64 0,.int .i64 0,.nils])=_
 rw[bLs hH hb hk hn hm]
 rfl
theorem bK6{H:HV}{k f a ba ro:Int}{id n m:Nat}{b:Blk}{acc:QT}(hH:H[id]? = some b)(hb:b.cs=aA acc)(hk:b.k≠.ro)(hn:n=acc.length)(hm:m=acc.length) :
  aJ0 (.agg [.int .i64 k,.int .i64 f,.int .i64 a,.int .i64 0,.int .i64 0,.int .i64 0,.int .i64 0,.int .i64 0,.nils,.nils,.int .i64 ba,.int .i64 ro,.sl id n 0 m 1]) H=.agg (ctC ⟨k,f,a,0,0,0,0,0,[],[],ba,ro,acc⟩):=by
 show pcK (.agg [.int .i64 k,.int .i64 f,.int .i64 a,.int .i64 0,.int .i64 0,.int .i64 0,.int .i64 0,.int .i64 0,.nils,.nils,.int .i64 ba,.int .i64 ro,bU 0 H 8 (.sl id n 0 m 1)])=_
 rw[bLs hH hb hk hn hm]
 rfl
theorem bHw{p:Pc}(h:okP p){lo:QT}(hl:eT lo=true):validM ⟨4,p.n0,p.n1,0,0,0,0,0,[],lo,0,0,[]⟩=true:=by
 obtain⟨h0,h1,h2,h3,h4,h5,h6,h7,h8,h9⟩:=h
 have z:in32 0:=⟨by omega,by omega⟩
 rw[iQ]
 dsimp only
 exact⟨by omega,h1,h2,z,z,z,z,z,by omega,by omega,λhh=>by omega,λ_=>⟨rfl,rfl,rfl,rfl,rfl⟩,λ_=>⟨rfl,rfl,rfl⟩,λhh=>rfl,λhh=>absurd rfl hh,λhh=>by omega,rfl,λ_=>hl⟩
theorem bGq{p:Pc}(h:okP p){ti:QT}(hl:(bM ti).2.2=true):validM ⟨6,p.n0,p.n1,0,0,0,0,0,[],[],p.n2%65536,p.n3%256,ti⟩=true:=by
 obtain⟨h0,h1,h2,h3,h4,h5,h6,h7,h8,h9⟩:=h
 have z:in32 0:=⟨by omega,by omega⟩
 rw[iQ]
 dsimp only
 exact⟨by omega,h1,h2,z,z,z,z,z,by omega,by omega,λhh=>by omega,λ_=>⟨rfl,rfl,rfl,rfl,rfl⟩,λhh=>absurd rfl hh,λhh=>rfl,λhh=>rfl,λ_=>hl,rfl,λhh=>by omega⟩
theorem aB5{x m:Int}(h:0<=x):x.tmod m=x%m:=bX6 h
theorem xW{y:Int}:0<=tQ 0 y∧y<=tQ 0 y∧(tQ 0 y=0∨tQ 0 y=y):=by
 unfold tQ
 split<;>omega
theorem aVt{p:Pc}{f:Int}(h:0<=f∧f<=65535):nkQ p f 0 [f]:=⟨bF5 h,rfl⟩
theorem aK3{p:Pc}{f at' x:Int}{l:QT}(h:nkQ p f at' l)(hl:l.length<64)(hi:l.length-1<p.ls.length)(hx:p.ls[l.length-1]=x):nkQ p f (at'+(1+x%20)) (l++[(f+(at'+(1+x%20)))%65536]):=by
 have hn:=h.1.1.1
 refine⟨aYi h.1 hl ⟨by omega,by omega⟩, ?_⟩
 rw[bW2,bZa,show l.length+1-1=l.length-1+1 by omega,F4,←h.2,bW7,bW8 hi,cBd,hx]
theorem tH{p:Pc}{a:Int}{l:QT}{k:Nat}(h:tmQ p a l)(hl:l.length<64)(hk:k=l.length)(hb:bBq (Int.fdiv p.m ((2:Int)^Min.min k 64))=0):tmQ p a (l++[-1]):=by
 have hn:=h.1.1.1
 subst hk
 refine⟨aZf h.1 hl, ?_⟩
 rw[bW2,bZa,show l.length+1-1=l.length-1+1 by omega,F6,show l.length-1+1=l.length by omega,if_pos hb,←h.2]
theorem aCv{p:Pc}{a x:Int}{l:QT}{k:Nat}(h:tmQ p a l)(hl:l.length<64)(hk:k=l.length)(hb:¬ bBq (Int.fdiv p.m ((2:Int)^Min.min k 64))=0)(hi:l.length-1<p.ls.length)(hx:p.ls[l.length-1]=x)(hx0:0<=x):tmQ p (tQ 0 (a+x%600-100)) (l++[tQ 0 (a+x%600-100)]):=by
 have hn:=h.1.1.1
 have ha:=h.1.2.1
 have hm:=xW (y:=a+x%600-100)
 subst hk
 refine⟨bI3 h.1 hl (by generalize tQ 0 (a+x%600-100)=w at hm ⊢;omega), ?_⟩
 rw[bW2,bZa,show l.length+1-1=l.length-1+1 by omega,F6,show l.length-1+1=l.length by omega,if_neg hb,←h.2,bW7,bW8 hi,cBd,hx]
theorem bWw(p:Pc)(h:okP p)(Q:BS)(hq:hqP 4 p Q):∃hv hb,vQ hv hb p Q:=by
 obtain⟨hv,hb',e⟩:∃hv hb,vQ hv hb p Q=_:=⟨_,_,bHi p Q⟩
 refine⟨hv,hb',e.mpr ?_⟩
 delta xG uW bOd aLy aTn aPc aS3 bQt bDg aE2 aF7 aO5 aLz bGp oZ kS kT bUd aLt aUq bIj bF6
 unfold mW nO
 clear e
 have hv4:=@bHw p h
 obtain⟨h0,h1,h2,h3,h4,h5,h6,h7,h8,h9⟩:=h
 have hc:=wO p.ls
 have t1:p.n2.tmod 65536=p.n2%65536:=aB5 h3.1
 have hx:∀x∈p.ls,x.tmod 20=x%20:=λx hx=>aB5 (h8 x hx).1
 have hf:0<=p.n2%65536∧p.n2%65536<=65535:=by omega
 refine⟨_,rfl,aF ⟨_,rfl,aF ⟨_,rfl,_,rfl, ?_⟩⟩⟩
 try dsimp only
 rw[t1]
 generalize hff:p.n2%65536=f at hf ⊢
 have ho:∀ (H:HV) (id:Nat) (b:Blk) (acc:QT) (at':Int),nkQ p f at' acc->acc.length=min p.ls.length 63+1->H[id]? = some b->b.cs=aA acc->b.k≠.ro->Q (.ret (.agg [.int .i64 4,.int .i64 p.n0,.int .i64 p.n1,.int .i64 0,.int .i64 0,.int .i64 0,.int .i64 0,.int .i64 0,.nils,.sl id acc.length 0 acc.length 1,.int .i64 0,.int .i64 0,.nils])) H {}:=λH id b acc at' hn hl hH hb hk=>by
  have e:acc=(F4 p.ls (p.n2%65536) (min p.ls.length 63)).2:=by
   have:=congrArg Prod.snd hn.2
   rw[hl,cCk,←hff]at this
   exact this
  have hv:=hv4 (bLo hn.1)
  rw[e]at hv
  refine hq hv rfl _ _ ((bLf hH hb hk rfl rfl).trans ?_)
  rw[e]
  rfl
 refine aF ⟨.inl ⟨0,⟨rfl⟩,rfl,rfl,rfl,rfl,rfl,rfl,rfl,rfl,rfl,rfl,trivial⟩, ?_, ?_⟩
 ·rintro i ⟨rfl⟩
  refine⟨_,rfl,_,rfl,aH (λh1=>⟨_,rfl,aH (λh2 => ?_) (λh2=>by omega)⟩) (λh1=>ho _ 3 _ [f] 0 (aVt hf) (show 1=min p.ls.length 63+1 by omega) rfl rfl (by simp))⟩
  have hlt:0<p.ls.length:=by omega
  refine⟨_,rfl,_,rfl,ckO (ckI (by rw[aD];omega) (aMy hlt rfl ?_))⟩
  have hx0:=hx _ (bXk hlt)
  have hr0:=h8 _ (bXk hlt)
  generalize hxx:p.ls[0]=x at hx0 hr0 ⊢
  try dsimp only
  rw[hx0]
  refine⟨_,rfl,aF (aF (aF ⟨_,rfl,_,rfl,aF ⟨⟨trivial,rfl⟩,.inr ⟨([f,(f+(1+x%20))%65536],1+x%20,[.int .i64 f]),⟨by simp,by simp;omega, ?_⟩,by simp;omega,rfl,rfl,rfl,rfl, ?_,rfl,rfl,rfl,rfl,rfl,rfl,trivial⟩⟩⟩))⟩
  ·have:=aK3 (aVt hf) (by simp) hlt hxx
   rw[Int.zero_add]at this
   exact this
  ·rw[aB5 (by omega)];rfl
 ·rintro⟨acc,at',z⟩ ⟨g1,g2,g3⟩
  dsimp only at g1 g2 g3 ⊢
  have hl:=aM acc
  have⟨⟨k1,k2⟩,k3,k4,k5,k6,k7,k8⟩:=g3.1
  refine⟨_,rfl,_,rfl,aH (λh1=>ckI (by rw[hl];simp) ⟨_,rfl,aH (λh2 => ?_) (λh2=>ho _ 4 _ acc at' g3 (by omega) rfl rfl (by simp))⟩) (λh1=>ho _ 4 _ acc at' g3 (by omega) rfl rfl (by simp))⟩
  have hlt:acc.length-1<p.ls.length:=by omega
  refine aF ⟨_,rfl,ckO (ckI (by rw[aD];omega) (aMy hlt (by omega) ?_))⟩
  have hx0:=hx _ (bXk hlt)
  have hr0:=h8 _ (bXk hlt)
  generalize hxx:p.ls[acc.length-1]=x at hx0 hr0 ⊢
  try dsimp only
  rw[hx0]
  refine⟨_,rfl,aF (aF (aF ⟨_,rfl,ckI (by rw[hl];simp;omega) ⟨_,rfl,aF ⟨⟨trivial,rfl⟩,.inr ⟨(acc++[(f+(at'+1+x%20))%65536],at'+1+x%20,z),⟨by simp;omega,by simp;omega, ?_⟩,by simp;omega,rfl,rfl,by simp,rfl, ?_,rfl,rfl,by simp,rfl,rfl,rfl,trivial⟩⟩⟩⟩))⟩
  ·have:=aK3 g3 (by omega) hlt hxx
   rwa[←Int.add_assoc]at this
  ·rw[aB5 (by omega)];simp[aA]
theorem bF1{x:Int}{K:Int->Prop}(h1:0<=x)(h2:x<4294967296)(h:K x):∃n:Int,AV.int .u32 (IntKind.wrap .u32 x)=AV.int .u32 n∧K n:=
 ⟨x,by
  have:IntKind.wrap .u32 x=x:=by rw[show IntKind.wrap .u32 x=x%4294967296 from rfl];omega
  rw[this],h⟩
theorem bWl(p:Pc)(h:okP p)(Q:BS)(hq:hqP 6 p Q):∃hv hb,vG hv hb p Q:=by
 obtain⟨hv,hb',e⟩:∃hv hb,vG hv hb p Q=_:=⟨_,_,bE4 p Q⟩
 refine⟨hv,hb',e.mpr ?_⟩
 delta aMd xG uW bDv yY bJw aX6 bDg aE2 aF7 aO5 aLz bHb oZ kS kT aLy aTn aPc bMl aLt aUq bIj
 unfold iK nG nZ iT iI kE mY mV nW
 clear e
 have hv6:=@bGq p h
 obtain⟨h0,h1,h2,h3,h4,h5,h6,h7,h8,h9⟩:=h
 have hc:=wO p.ls
 have t1:p.n2.tmod 65536=p.n2%65536:=aB5 h3.1
 have t2:p.n3.tmod 256=p.n3%256:=aB5 h4.1
 have t3:p.n4.tdiv 2=p.n4/2:=bZt h5.1
 have hx:∀x∈p.ls,x.tmod 600=x%600:=λx hx=>aB5 (h8 x hx).1
 have ha:0<=p.n4/2∧p.n4/2<2147483648:=by omega
 have hba:0<=p.n2%65536∧p.n2%65536<65536:=by omega
 have hro:0<=p.n3%256∧p.n3%256<256:=by omega
 refine⟨_,rfl,aF ⟨_,rfl,aF ⟨_,rfl,_,rfl, ?_⟩⟩⟩
 try dsimp only
 rw[t1]
 refine aF ⟨_,rfl,_,rfl, ?_⟩
 try dsimp only
 rw[t2]
 refine aF ⟨_,rfl, ?_⟩
 try dsimp only
 rw[t3]
 generalize haa:p.n4/2=a at ha ⊢
 generalize hbb:p.n2%65536=ba at hba hv6 ⊢
 generalize hrr:p.n3%256=ro at hro hv6 ⊢
 have ho:∀ (H:HV) (id:Nat) (b:Blk) (acc:QT) (at':Int),tmQ p at' acc->acc.length=min p.ls.length 63+1->H[id]? = some b->b.cs=aA acc->b.k≠.ro->Q (.ret (.agg [.int .i64 6,.int .i64 p.n0,.int .i64 p.n1,.int .i64 0,.int .i64 0,.int .i64 0,.int .i64 0,.int .i64 0,.nils,.nils,.int .i64 ba,.int .i64 ro,.sl id acc.length 0 acc.length 1])) H {}:=λH id b acc at' hn hl hH hb hk=>by
  have e:acc=(F6 p (min p.ls.length 63)).2:=by
   have:=congrArg Prod.snd hn.2
   rwa[hl,cCk]at this
  have hv:=hv6 (bPn hn.1)
  rw[e,←hbb,←hrr]at hv
  refine hq hv rfl _ _ ((bK6 hH hb hk rfl rfl).trans ?_)
  rw[e,←hbb,←hrr]
  rfl
 refine bF1 (by omega) (by omega) (aF ⟨_,rfl,_,rfl,bJ (λhb0 => ?_) (λhb0 => ?_)⟩)
 ·
  have t0:tmQ p a [(-1)]:=⟨bAx ha,by subst haa;show _=(p.n4/2,[if bBq p.m=0 then -1 else p.n4/2]);rw[if_pos (show bBq p.m=0 from hb0)]⟩
  refine⟨.inl ⟨0,⟨rfl⟩,rfl,rfl,rfl,rfl,rfl,rfl,rfl,rfl,rfl,trivial⟩, ?_, ?_⟩
  ·rintro i ⟨rfl⟩
   refine⟨_,rfl,_,rfl,aH (λh1=>⟨_,rfl,aH (λh2 => ?_) (λh2=>by omega)⟩) (λh1=>ho _ 3 _ [(-1)] a t0 (show 1=min p.ls.length 63+1 by omega) rfl rfl (by simp))⟩
   have hlt:0<p.ls.length:=by omega
   refine⟨_,rfl,ckO (ckI (by rw[aD];omega) (aMy hlt rfl ?_))⟩
   have hx0:=hx _ (bXk hlt)
   have hr0:=h8 _ (bXk hlt)
   generalize hxx:p.ls[0]=x at hx0 hr0 ⊢
   try dsimp only
   rw[hx0]
   have hm:=xW (y:=a+x%600-100)
   refine⟨_,rfl,aF (aF (aF ⟨_,rfl,_,rfl,_,rfl,aF (ckI (by simp) ⟨_,rfl,_,rfl,bJ (λhb1 => ?_) (λhb1 => ?_)⟩)⟩))⟩
   ·exact⟨_,rfl,aF ⟨⟨trivial,rfl⟩,.inr ⟨([(-1), -1],a,[.int .i64 (-1)]),⟨by simp,by simp;omega,tH (k:=1) t0 (by simp) rfl hb1⟩,by simp;omega,rfl,rfl,rfl,rfl,rfl,rfl,rfl,rfl,rfl,rfl,trivial⟩⟩⟩
   ·exact⟨_,rfl,aF ⟨⟨trivial,rfl⟩,.inr ⟨([(-1),tQ 0 (a+x%600-100)],tQ 0 (a+x%600-100),[.int .i64 (-1)]),⟨by simp,by simp;omega,aCv (k:=1) t0 (by simp) rfl hb1 hlt hxx hr0.1⟩,by simp;omega,rfl,rfl,rfl,rfl,rfl,rfl,rfl,rfl,rfl,rfl,trivial⟩⟩⟩
  ·rintro⟨acc,at',z⟩ ⟨g1,g2,g3⟩
   dsimp only at g1 g2 g3 ⊢
   have hl:=aM acc
   have⟨⟨k1,k2⟩,k3,k4⟩:=g3.1
   refine⟨_,rfl,_,rfl,aH (λh1=>ckI (by rw[hl];simp) ⟨_,rfl,aH (λh2 => ?_) (λh2=>ho _ 4 _ acc at' g3 (by omega) rfl rfl (by simp))⟩) (λh1=>ho _ 4 _ acc at' g3 (by omega) rfl rfl (by simp))⟩
   have hlt:acc.length-1<p.ls.length:=by omega
   refine⟨_,rfl,ckO (ckI (by rw[aD];omega) (aMy hlt (by omega) ?_))⟩
   have hx0:=hx _ (bXk hlt)
   have hr0:=h8 _ (bXk hlt)
   generalize hxx:p.ls[acc.length-1]=x at hx0 hr0 ⊢
   try dsimp only
   rw[hx0]
   have hm:=xW (y:=at'+x%600-100)
   refine⟨_,rfl,aF (aF (aF ⟨_,rfl,_,rfl,_,rfl,aF (ckI (by simp) ⟨_,rfl,_,rfl,bJ (λhb1 => ?_) (λhb1 => ?_)⟩)⟩))⟩
   ·exact ckI (by rw[hl];simp;omega) ⟨_,rfl,aF ⟨⟨trivial,rfl⟩,.inr ⟨(acc++[-1],at',z),⟨by simp;omega,by simp;omega,tH g3 (by omega) (by omega) hb1⟩,by simp;omega,rfl,rfl,by simp,rfl,by simp[aA],by simp,rfl,rfl,rfl,rfl,trivial⟩⟩⟩
   ·exact ckI (by rw[hl];simp;omega) ⟨_,rfl,aF ⟨⟨trivial,rfl⟩,.inr ⟨(acc++[tQ 0 (at'+x%600-100)],tQ 0 (at'+x%600-100),z),⟨by simp;omega,by simp;omega,aCv g3 (by omega) (by omega) hb1 hlt hxx hr0.1⟩,by simp;omega,rfl,rfl,by simp,rfl,by simp[aA],by simp,rfl,rfl,rfl,rfl,trivial⟩⟩⟩
 ·
  have t0:tmQ p a [a]:=⟨bE5 ha,by subst haa;show _=(p.n4/2,[if bBq p.m=0 then -1 else p.n4/2]);rw[if_neg (show ¬ bBq p.m=0 from hb0)]⟩
  refine⟨.inl ⟨0,⟨rfl⟩,rfl,rfl,rfl,rfl,rfl,rfl,rfl,rfl,rfl,trivial⟩, ?_, ?_⟩
  ·rintro i ⟨rfl⟩
   refine⟨_,rfl,_,rfl,aH (λh1=>⟨_,rfl,aH (λh2 => ?_) (λh2=>by omega)⟩) (λh1=>ho _ 3 _ [a] a t0 (show 1=min p.ls.length 63+1 by omega) rfl rfl (by simp))⟩
   have hlt:0<p.ls.length:=by omega
   refine⟨_,rfl,ckO (ckI (by rw[aD];omega) (aMy hlt rfl ?_))⟩
   have hx0:=hx _ (bXk hlt)
   have hr0:=h8 _ (bXk hlt)
   generalize hxx:p.ls[0]=x at hx0 hr0 ⊢
   try dsimp only
   rw[hx0]
   have hm:=xW (y:=a+x%600-100)
   refine⟨_,rfl,aF (aF (aF ⟨_,rfl,_,rfl,_,rfl,aF (ckI (by simp) ⟨_,rfl,_,rfl,bJ (λhb1 => ?_) (λhb1 => ?_)⟩)⟩))⟩
   ·exact⟨_,rfl,aF ⟨⟨trivial,rfl⟩,.inr ⟨([a, -1],a,[.int .i64 a]),⟨by simp,by simp;omega,tH (k:=1) t0 (by simp) rfl hb1⟩,by simp;omega,rfl,rfl,rfl,rfl,rfl,rfl,rfl,rfl,rfl,rfl,trivial⟩⟩⟩
   ·exact⟨_,rfl,aF ⟨⟨trivial,rfl⟩,.inr ⟨([a,tQ 0 (a+x%600-100)],tQ 0 (a+x%600-100),[.int .i64 a]),⟨by simp,by simp;omega,aCv (k:=1) t0 (by simp) rfl hb1 hlt hxx hr0.1⟩,by simp;omega,rfl,rfl,rfl,rfl,rfl,rfl,rfl,rfl,rfl,rfl,trivial⟩⟩⟩
  ·rintro⟨acc,at',z⟩ ⟨g1,g2,g3⟩
   dsimp only at g1 g2 g3 ⊢
   have hl:=aM acc
   have⟨⟨k1,k2⟩,k3,k4⟩:=g3.1
   refine⟨_,rfl,_,rfl,aH (λh1=>ckI (by rw[hl];simp) ⟨_,rfl,aH (λh2 => ?_) (λh2=>ho _ 4 _ acc at' g3 (by omega) rfl rfl (by simp))⟩) (λh1=>ho _ 4 _ acc at' g3 (by omega) rfl rfl (by simp))⟩
   have hlt:acc.length-1<p.ls.length:=by omega
   refine⟨_,rfl,ckO (ckI (by rw[aD];omega) (aMy hlt (by omega) ?_))⟩
   have hx0:=hx _ (bXk hlt)
   have hr0:=h8 _ (bXk hlt)
   generalize hxx:p.ls[acc.length-1]=x at hx0 hr0 ⊢
   try dsimp only
   rw[hx0]
   have hm:=xW (y:=at'+x%600-100)
   refine⟨_,rfl,aF (aF (aF ⟨_,rfl,_,rfl,_,rfl,aF (ckI (by simp) ⟨_,rfl,_,rfl,bJ (λhb1 => ?_) (λhb1 => ?_)⟩)⟩))⟩
   ·exact ckI (by rw[hl];simp;omega) ⟨_,rfl,aF ⟨⟨trivial,rfl⟩,.inr ⟨(acc++[-1],at',z),⟨by simp;omega,by simp;omega,tH g3 (by omega) (by omega) hb1⟩,by simp;omega,rfl,rfl,by simp,rfl,by simp[aA],by simp,rfl,rfl,rfl,rfl,trivial⟩⟩⟩
   ·exact ckI (by rw[hl];simp;omega) ⟨_,rfl,aF ⟨⟨trivial,rfl⟩,.inr ⟨(acc++[tQ 0 (at'+x%600-100)],tQ 0 (at'+x%600-100),z),⟨by simp;omega,by simp;omega,aCv g3 (by omega) (by omega) hb1 hlt hxx hr0.1⟩,by simp;omega,rfl,rfl,by simp,rfl,by simp[aA],by simp,rfl,rfl,rfl,rfl,trivial⟩⟩⟩
def aTh:iO
 | [.agg cs,.int .i64 κ],H,K=>∃p:Pc,Lf (cs=pcC p∧okP p∧1<=κ∧κ<=6)∧∀c:Ctl,Lf (c=pcM κ p∧validM c=true∧c.k=κ)->K (.ret (.agg (ctC c))) H
 | _,_,_=>False
theorem aUa:aI Tryz.prog gl0 94 aTh:=by
 refine dV (enters_of (by kernel_rfl)) aO 9 pcK bO2 λargs H Q hc => ?_
 unfold aTh at hc
 split at hc
 ·rename_i cs κ
  obtain⟨p,⟨rfl,hp,hk1,hk2⟩,hq⟩:=hc
  have go:hqP κ p (λo H' _=>∃v,o=.ret v∧Q (.ret (pcK (bU 0 H' 9 v))) H):=λhv hk v H' ho=>⟨v,rfl,by
   have:=hq _ ⟨rfl,hv,hk⟩
   rw[←ho]at this
   exact this⟩
  obtain rfl | rfl | rfl | rfl | rfl | rfl:κ=1∨κ=2∨κ=3∨κ=4∨κ=5∨κ=6:=by omega
  ·obtain⟨hv,hb',h⟩:=bWn p hp _ go
   exact⟨rfl,rfl,_,1000,(bL qK _ _ _:EnvFor Tryz.prog (mF hv hb' p)),rfl,h⟩
  ·obtain⟨hv,hb',h⟩:=bWx p hp _ go
   exact⟨rfl,rfl,_,1000,(bL qK _ _ _:EnvFor Tryz.prog (mF hv hb' p)),rfl,h⟩
  ·obtain⟨hv,hb',h⟩:=bWv p hp _ go
   exact⟨rfl,rfl,_,1000,(bL qK _ _ _:EnvFor Tryz.prog (mF hv hb' p)),rfl,h⟩
  ·obtain⟨hv,hb',h⟩:=bWw p hp _ go
   exact⟨rfl,rfl,_,1000,(bL qK _ _ _:EnvFor Tryz.prog (qV hv hb' p)),rfl,h⟩
  ·obtain⟨hv,hb',h⟩:=bWr p hp _ go
   exact⟨rfl,rfl,_,1000,(bL qK _ _ _:EnvFor Tryz.prog (mF hv hb' p)),rfl,h⟩
  ·obtain⟨hv,hb',h⟩:=bWl p hp _ go
   exact⟨rfl,rfl,_,1000,(bL qK _ _ _:EnvFor Tryz.prog (qV hv hb' p)),rfl,h⟩
 ·exact hc.elim
def pcA:HB->HB
 | [.agg l,k]=>[.agg (nlL [0,0,0,0,0,0,0,1,1,0] l),k]
 | l=>l
def aPt:iO:=λargs H Q=>aTh (pcA args) H Q
theorem bA1:aI Tryz.prog gl0 94 aPt:=jY aUa λargs H Q h=>⟨pcA args,by
 unfold pcA
 split
 ·exact pJ (aAi (pG _ _)) (kL _)
 ·exact kL _,h⟩
def cellsPcM(ps:List Pc):HB:=ps.flatMap pcC
def bV6:SM:=fT [(94,aPt)]
theorem bIf:∀f g,bV6 f=some g->aI Tryz.prog gl0 f g:=dX _ (by simp only[bXd,bXn,bY0,bY4];exact bA1)
def okL(l:List Ctl):Prop:=pW l=true∧∀c∈l,validM c=true
abbrev X12:=List Ctl×HB×HB×HB
def zP:Pc:=⟨0,0,0,0,0,0,0,0,[],0,[],0⟩
def cpF(b:Bool)(ps:List Pc):Nat->List Ctl
 | 0=>[pcM (if b then 1 else 2) (ps.getD 0 zP)]
 | i+1=>cpF b ps i++[pcM (1+(ps.getD (i+1) zP).k%6) (ps.getD (i+1) zP)]
def okR(b:Bool)(ps:List Pc)(l:List Ctl):Prop:=okL l∧l=cpF b ps (l.length-1)∧l.length-1<=ps.length-1
def bN7(b:Bool)(ps:List Pc)(s:S):List (List LInv):=match s.hp with
 | [b0,⟨k1,f1,_⟩,⟨k2,f2,_⟩]=>[[
  { α:=HB×Ctl,pre:=λx=>Lf (okR b ps [x.2]),st:=λx=>⟨mkT [(1,.ptr 0 2 0),(4,.sl 2 13 0 1 13),(5,.int .i64 1)],[b0,⟨k1,f1,x.1⟩,⟨k2,f2,ctC x.2⟩]⟩,mu:=λx=>4 },
  { α:=X12,pre:=λx=>Lf (2<=x.1.length∧x.1.length<=4∧okR b ps x.1),st:=λx=>⟨mkT [(1,.ptr 0 2 0),(4,.sl 4 (13*x.1.length) 0 x.1.length 13),(5,.int .i64 (x.1.length:Nat))],[b0,⟨k1,f1,x.2.1⟩,⟨k2,f2,x.2.2.1⟩,⟨.exact,true,x.2.2.2⟩,⟨.grow,true,cellsCM x.1⟩]⟩,mu:=λx=>4-x.1.length }]]
 | _=>[]
noncomputable def aT8(hv:LI)(hb:LB)(b:Bool)(ps:List Pc):Env:=e24 bV6 (λi=>bif Nat.beq i 38000 then some (bN7 b ps)else none) hv hb
noncomputable def aHv(hv:LI)(hb:LB)(b:Bool)(t:Nat)(ps:List Pc)(Q:BS):Prop:=
 aT (aT8 hv hb b ps) (wpx (aT8 hv hb b ps) 1000) 38 [.agg [.bool b,.lst t (cellsPcM ps) ps.length 10]] [] {} Q
abbrev aW0(n_4:Int)(ps:List Cd.Pc):Bool:=decide (0<=n_4)&&Nat.blt n_4.toNat ps.length&&true
abbrev bEx(p_24:Cd.Pc):HB:=[.int .u8 p_24.1,.int .u32 p_24.2,.int .u32 p_24.3,.int .u32 p_24.4,.int .u32 p_24.5,.int .u32 p_24.6,.int .u32 p_24.7,.lst p_24.8 (Cd.cells32M p_24.9) p_24.9.length 1,.lst p_24.10 (Cd.cells16M p_24.11) p_24.11.length 1,.int .u64 p_24.12]
abbrev aTb(t:Nat)(ps:List Cd.Pc):AV:=.lst t (Cd.cellsPcM ps) ps.length 10
abbrev aY0(b:Bool)(t:Nat)(ps:List Cd.Pc):Prop:=aK [AV.bool b,aTb t ps]
abbrev bBb(x_0:HB×Cd.Ctl):HB:=[.int .i64 x_0.2.1,.int .i64 x_0.2.2,.int .i64 x_0.2.3,.int .i64 x_0.2.4,.int .i64 x_0.2.5,.int .i64 x_0.2.6,.int .i64 x_0.2.7,.int .i64 x_0.2.8,.lst 0 (Cd.cellsRM x_0.2.9) x_0.2.9.length 7,.lst 0 (aA x_0.2.10) x_0.2.10.length 1,.int .i64 x_0.2.11,.int .i64 x_0.2.12,.lst 0 (aA x_0.2.13) x_0.2.13.length 1]
abbrev bEh(y_28:List Cd.Ctl×HB×HB×HB)(b:Bool)(ps:List Cd.Pc):Prop:=Lf (2<=y_28.1.length∧y_28.1.length<=4∧Cd.okR b ps y_28.1)
abbrev bAw(c_25:Cd.Ctl):HB:=[.int .i64 c_25.1,.int .i64 c_25.2,.int .i64 c_25.3,.int .i64 c_25.4,.int .i64 c_25.5,.int .i64 c_25.6,.int .i64 c_25.7,.int .i64 c_25.8,.lst 0 (Cd.cellsRM c_25.9) c_25.9.length 7,.lst 0 (aA c_25.10) c_25.10.length 1,.int .i64 c_25.11,.int .i64 c_25.12,.lst 0 (aA c_25.13) c_25.13.length 1]
abbrev bTi(t:Nat)(ps:List Cd.Pc):AV:=aTb t ps
abbrev bVp(x_0:HB×Cd.Ctl):Blk:=Blk.mk BK.exact true [.int .i64 x_0.2.1,.int .i64 x_0.2.2,.int .i64 x_0.2.3,.int .i64 x_0.2.4,.int .i64 x_0.2.5,.int .i64 x_0.2.6,.int .i64 x_0.2.7,.int .i64 x_0.2.8,.lst 0 (Cd.cellsRM x_0.2.9) x_0.2.9.length 7,.lst 0 (aA x_0.2.10) x_0.2.10.length 1,.int .i64 x_0.2.11,.int .i64 x_0.2.12,.lst 0 (aA x_0.2.13) x_0.2.13.length 1]
abbrev bLy(Q:BS)(x_0:List Cd.Ctl×HB×HB×HB)(b:Bool)(t:Nat)(ps:List Cd.Pc):Prop:=Q (.ret (.sl 4 (13*x_0.1.length) 0 x_0.1.length 13)) [Blk.mk BK.exact true [.bool b,bTi t ps],Blk.mk BK.exact true x_0.2.1,Blk.mk BK.exact true x_0.2.2.1,Blk.mk BK.exact true x_0.2.2.2,Blk.mk BK.grow true (Cd.cellsCM x_0.1)] {}
def qU(b:Bool)(t:Nat)(ps:List Cd.Pc)(Q:BS):Prop:=
(∀x_0:HB×Cd.Ctl,Lf (Cd.okR b ps [x_0.2])->exI .i64 1 (λn_1=>exI .i64 (ps.length:Int) (λn_2=>bif decide (n_1<n_2)then exI .i64 1 (λn_3=>bif decide (n_3<4)then exI .i64 1 (λn_4=>ckQ (aW0 n_4 ps) (ckQ
 (Nat.ble (n_4.toNat*10+10) (Cd.cellsPcM ps).length) (∃n_5 n_6 n_7 n_8 n_9 n_10 n_11,∃t_12:Nat,∃cs_13:HB,∃len_14 t_15:Nat,∃cs_16:HB,∃len_17:Nat,∃n_18,AV.agg (((Cd.cellsPcM ps).drop (n_4.toNat *
 10)).take 10)=AV.agg [.int .u8 n_5,.int .u32 n_6,.int .u32 n_7,.int .u32 n_8,.int .u32 n_9,.int .u32 n_10,.int .u32 n_11,.lst t_12 cs_13 len_14 1,.lst t_15 cs_16 len_17 1,.int .u64 n_18]∧exI .i64 1 (λn_19=>ckQ (aW0 n_19
 ps) (ckQ (Nat.blt (n_19.toNat*10+0) (Cd.cellsPcM ps).length) (exV .u8 ((Cd.cellsPcM ps).getD (n_19.toNat*10+0) AV.undef) (λn_20=>exI .u8 (n_20.tmod 6) (λn_21=>exW .i64 n_21 (λn_22=>exW .i64 (1+n_22) (λn_23=>∃
 p_24:Cd.Pc,Lf ([AV.int .u8 n_5,.int .u32 n_6,.int .u32 n_7,.int .u32 n_8,.int .u32 n_9,.int .u32 n_10,.int .u32 n_11,.lst t_12 cs_13 len_14 1,.lst t_15 cs_16 len_17 1,.int .u64 n_18]=bEx p_24∧Cd.okP p_24∧1<=n_23∧n_23
 ≤ 6)∧∀c_25:Cd.Ctl,Lf (c_25=Cd.pcM n_23 p_24∧Cd.validM c_25=true∧Cd.Ctl.k c_25=n_23)->exI .i64 1 (λn_26=>exW .i64 (n_26+1) (λn_27=>(True∧(0:Nat)=(0:Nat))∧((∃y_28:HB×Cd.Ctl,Lf (Cd.okR b ps
 [y_28.2])∧(4:Nat)<(4:Nat)∧aY0 b t ps∧x_0.1=y_28.1∧bBb x_0=bBb y_28∧False)∨∃y_28:List Cd.Ctl×HB×HB×HB,bEh y_28 b ps∧4-y_28.1.length<4∧aY0 b t ps∧x_0.1=y_28.2.1∧bBb x_0 =
 y_28.2.2.1∧bAw c_25=y_28.2.2.2∧[AV.int .i64 x_0.2.1,.int .i64 x_0.2.2,.int .i64 x_0.2.3,.int .i64 x_0.2.4,.int .i64 x_0.2.5,.int .i64 x_0.2.6,.int .i64 x_0.2.7,.int .i64 x_0.2.8,.lst 0 (Cd.cellsRM x_0.2.9) x_0.2.9.length 7,
 .lst 0 (aA x_0.2.10) x_0.2.10.length 1,.int .i64 x_0.2.11,.int .i64 x_0.2.12,.lst 0 (aA x_0.2.13) x_0.2.13.length 1,.int .i64 c_25.1,.int .i64 c_25.2,.int .i64 c_25.3,.int .i64 c_25.4,.int .i64 c_25.5,.int .i64 c_25.6,
 .int .i64 c_25.7,.int .i64 c_25.8,.lst 0 (Cd.cellsRM c_25.9) c_25.9.length 7,.lst 0 (aA c_25.10) c_25.10.length 1,.int .i64 c_25.11,.int .i64 c_25.12,.lst 0 (aA c_25.13) c_25.13.length 1]=Cd.cellsCM y_28.1∧aK (AV.ptr 0
 2 0)∧AV.int .i64 n_27=AV.int .i64 (y_28.1.length:Int)∧AV.sl 4 26 0 2 13=AV.sl 4 (13*y_28.1.length) 0 y_28.1.length 13∧True)))))))))))))else Q (.ret (.sl 2 13 0 1 13)) [Blk.mk BK.exact true [.bool b,bTi t ps],Blk.mk
 BK.exact true x_0.1,bVp x_0] {})else Q (.ret (.sl 2 13 0 1 13)) [Blk.mk BK.exact true [.bool b,bTi t ps],Blk.mk BK.exact true x_0.1,bVp x_0] {})))∧∀x_0:List Cd.Ctl×HB×HB×HB,bEh x_0 b ps->exI .i64
 (x_0.1.length:Int) (λn_1=>exI .i64 (ps.length:Int) (λn_2=>bif decide (n_1<n_2)then exI .i64 (x_0.1.length:Int) (λn_3=>bif decide (n_3<4)then exI .i64 (x_0.1.length:Int) (λn_4=>ckQ (aW0 n_4 ps) (ckQ
 (Nat.ble (n_4.toNat*10+10) (Cd.cellsPcM ps).length) (∃n_5 n_6 n_7 n_8 n_9 n_10 n_11,∃t_12:Nat,∃cs_13:HB,∃len_14 t_15:Nat,∃cs_16:HB,∃len_17:Nat,∃n_18,AV.agg (((Cd.cellsPcM ps).drop (n_4.toNat *
 10)).take 10)=AV.agg [.int .u8 n_5,.int .u32 n_6,.int .u32 n_7,.int .u32 n_8,.int .u32 n_9,.int .u32 n_10,.int .u32 n_11,.lst t_12 cs_13 len_14 1,.lst t_15 cs_16 len_17 1,.int .u64 n_18]∧exI .i64 (x_0.1.length:Int) (λn_19
 => ckQ (aW0 n_19 ps) (ckQ (Nat.blt (n_19.toNat*10+0) (Cd.cellsPcM ps).length) (exV .u8 ((Cd.cellsPcM ps).getD (n_19.toNat*10+0) AV.undef) (λn_20=>exI .u8 (n_20.tmod 6) (λn_21=>exW .i64 n_21 (λn_22=>exW .i64 (1 +
 n_22) (λn_23=>∃p_24:Cd.Pc,Lf ([AV.int .u8 n_5,.int .u32 n_6,.int .u32 n_7,.int .u32 n_8,.int .u32 n_9,.int .u32 n_10,.int .u32 n_11,.lst t_12 cs_13 len_14 1,.lst t_15 cs_16 len_17 1,.int .u64 n_18]=bEx p_24∧Cd.okP
 p_24∧1<=n_23∧n_23<=6)∧∀c_25:Cd.Ctl,Lf (c_25=Cd.pcM n_23 p_24∧Cd.validM c_25=true∧Cd.Ctl.k c_25=n_23)->ckQ (Nat.beq (Cd.cellsCM x_0.1).length (13*x_0.1.length)&&true&&Nat.beq (0+x_0.1.length*13) (13 *
 x_0.1.length)&&Nat.ble (x_0.1.length+1) 1099511627776&&Nat.ble ((x_0.1.length+1)*152) 1099511627776) (exI .i64 (x_0.1.length:Int) (λn_26=>exW .i64 (n_26+1) (λn_27=>(True∧(0:Nat)=(0:Nat))∧((∃y_28:HB
 × Cd.Ctl,Lf (Cd.okR b ps [y_28.2])∧4<4-x_0.1.length∧aY0 b t ps∧x_0.2.1=y_28.1∧x_0.2.2.1=bBb y_28∧False)∨∃y_28:List Cd.Ctl×HB×HB×HB,bEh y_28 b ps∧4-y_28.1.length<4-x_0.1.length∧aY0
 b t ps∧x_0.2.1=y_28.2.1∧x_0.2.2.1=y_28.2.2.1∧x_0.2.2.2=y_28.2.2.2∧Cd.cellsCM x_0.1++bAw c_25=Cd.cellsCM y_28.1∧aK (AV.ptr 0 2 0)∧AV.int .i64 n_27=AV.int .i64 (y_28.1.length:Int)∧AV.sl 4 (13*x_0.1.length +
 13) 0 (x_0.1.length+1) 13=AV.sl 4 (13*y_28.1.length) 0 y_28.1.length 13∧True))))))))))))))else bLy Q x_0 b t ps)else bLy Q x_0 b t ps))
abbrev bHx:Prop:=(1:Int)<=(2:Int)∧(2:Int)<=(6:Int)
abbrev bDs:Prop:=(1:Int)<=(1:Int)∧(1:Int)<=(6:Int)
abbrev bQo:Prop:=aK (AV.ptr 0 2 0)∧aK (AV.int .i64 1)∧aK (AV.sl 2 13 0 1 13)∧True
abbrev bSj:HB:=[.int .u8 0,.int .u32 0,.int .u32 0,.int .u32 0,.int .u32 0,.int .u32 0,.int .u32 0,.lst 0 [] 0 1,.lst 0 [] 0 1,.int .u64 0]
abbrev bHv:HB:=[.int .u8 0,.int .u32 0,.int .u32 0,.int .u32 0,.int .u32 0,.int .u32 0,.int .u32 0,.nils,.nils,.int .u64 0]
abbrev bUg(b:Bool)(ps:List Cd.Pc)(t:Nat)(c_4:Cd.Ctl):Prop:=(∃x_5:HB×Cd.Ctl,Lf (Cd.okR b ps [x_5.2])∧aK [AV.bool b,aTb t ps]∧bHv=x_5.1∧bAw c_4=bBb x_5∧bQo)∨∃x_5:List Cd.Ctl×HB×HB×HB,bEh x_5 b ps∧aK [AV.bool b,aTb t ps]∧bHv=x_5.2.1∧bAw c_4=x_5.2.2.1∧False
theorem bSk(b:Bool)(t:Nat)(ps:List Cd.Pc)(Q:BS):aHv (aW [(155656,.int .i64),(155661,.agg [.int .u8,.int .u32,.int .u32,.int .u32,.int .u32,.int .u32,.int .u32,.lst 1,.lst 1,.int
 .u64]),(155674,.int .i64),(155687,.agg [.int .u8,.int .u32,.int .u32,.int .u32,.int .u32,.int .u32,.int .u32,.lst 1,.lst 1,.int .u64]),(155693,.int .u8),(155694,.int .u8),(155695,.int .i64),(155696,.int .i64),(155671,
 .int .i64),(155677,.int .i64),(155685,.int .i64),(155690,.int .i64),(155680,.int .i64),(155681,.int .i64)]) (aV []) b t ps Q=(exI .i64 (ps.length:Int) (λn_0=>bif decide (n_0>0)then ckQ (Nat.blt 0 ps.length&&true)
 (ckQ (Nat.ble 10 (Cd.cellsPcM ps).length) (∃n_1 n_2 n_3 n_4 n_5 n_6 n_7,∃t_8:Nat,∃cs_9:HB,∃len_10 t_11:Nat,∃cs_12:HB,∃len_13:Nat,∃n_14,AV.agg (((Cd.cellsPcM ps).drop 0).take 10)=AV.agg [.int .u8 n_1,
 .int .u32 n_2,.int .u32 n_3,.int .u32 n_4,.int .u32 n_5,.int .u32 n_6,.int .u32 n_7,.lst t_8 cs_9 len_10 1,.lst t_11 cs_12 len_13 1,.int .u64 n_14]∧∃p_15:Cd.Pc,Lf ([AV.int .u8 n_1,.int .u32 n_2,.int .u32 n_3,.int .u32 n_4,
 .int .u32 n_5,.int .u32 n_6,.int .u32 n_7,.lst t_8 cs_9 len_10 1,.lst t_11 cs_12 len_13 1,.int .u64 n_14]=bEx p_15∧Cd.okP p_15∧bHx)∧∀c_16:Cd.Ctl,Lf (c_16=Cd.pcM 2 p_15∧Cd.validM c_16=true∧Cd.Ctl.k c_16=2) →
 bif b then ∃p_17:Cd.Pc,Lf ([AV.int .u8 n_1,.int .u32 n_2,.int .u32 n_3,.int .u32 n_4,.int .u32 n_5,.int .u32 n_6,.int .u32 n_7,.lst t_8 cs_9 len_10 1,.lst t_11 cs_12 len_13 1,.int .u64 n_14]=bEx p_17∧Cd.okP p_17∧bDs)
 ∧ ∀c_18:Cd.Ctl,Lf (c_18=Cd.pcM 1 p_17∧Cd.validM c_18=true∧Cd.Ctl.k c_18=1)->((∃x_19:HB×Cd.Ctl,Lf (Cd.okR b ps [x_19.2])∧aY0 b t ps∧[AV.int .u8 n_1,.int .u32 n_2,.int .u32 n_3,.int .u32 n_4,.int .u32 n_5,
 .int .u32 n_6,.int .u32 n_7,.lst t_8 cs_9 len_10 1,.lst t_11 cs_12 len_13 1,.int .u64 n_14]=x_19.1∧bAw c_18=bBb x_19∧bQo)∨∃x_19:List Cd.Ctl×HB×HB×HB,bEh x_19 b ps∧aY0 b t ps∧[AV.int .u8 n_1,
 .int .u32 n_2,.int .u32 n_3,.int .u32 n_4,.int .u32 n_5,.int .u32 n_6,.int .u32 n_7,.lst t_8 cs_9 len_10 1,.lst t_11 cs_12 len_13 1,.int .u64 n_14]=x_19.2.1∧bAw c_18=x_19.2.2.1∧False)∧qU b t ps Q else((∃x_17 :
 HB×Cd.Ctl,Lf (Cd.okR b ps [x_17.2])∧aY0 b t ps∧[AV.int .u8 n_1,.int .u32 n_2,.int .u32 n_3,.int .u32 n_4,.int .u32 n_5,.int .u32 n_6,.int .u32 n_7,.lst t_8 cs_9 len_10 1,.lst t_11 cs_12 len_13 1,.int .u64 n_14] =
 x_17.1∧bAw c_16=bBb x_17∧bQo)∨∃x_17:List Cd.Ctl×HB×HB×HB,bEh x_17 b ps∧aY0 b t ps∧[AV.int .u8 n_1,.int .u32 n_2,.int .u32 n_3,.int .u32 n_4,.int .u32 n_5,.int .u32 n_6,.int .u32 n_7,.lst t_8
 cs_9 len_10 1,.lst t_11 cs_12 len_13 1,.int .u64 n_14]=x_17.2.1∧bAw c_16=x_17.2.2.1∧False)∧qU b t ps Q))else ∃p_1:Cd.Pc,Lf (bSj=bEx p_1∧Cd.okP p_1∧bHx)∧∀c_2:Cd.Ctl,Lf (c_2=Cd.pcM 2 p_1∧Cd.validM
 c_2=true∧Cd.Ctl.k c_2=2)->bif b then ∃p_3:Cd.Pc,Lf (bSj=bEx p_3∧Cd.okP p_3∧bDs)∧∀c_4:Cd.Ctl,Lf (c_4=Cd.pcM 1 p_3∧Cd.validM c_4=true∧Cd.Ctl.k c_4=1)->bUg b ps t c_4∧qU b t ps Q else bUg b ps t
 c_2∧qU b t ps Q)):=by kernel_rfl

theorem uY:∀l:List Pc,(cellsPcM l).length=10*l.length
 | []=>rfl
 | r::l=>by
  have:=uY l
  have e:cellsPcM (r::l)=pcC r++cellsPcM l:=rfl
  rw[e,bW2,this,bXc]
  show 10+_=_
  omega
theorem aGx{l:List Pc}{i j:Nat}(hi:i<l.length)(hj:j=10*i):∃r,l[i]? = some r∧(cellsPcM l |>.drop j).take 10=pcC r:=by
 subst hj
 induction l generalizing i with
 | nil=>simp at hi
 | cons r l ih=>
  have e:cellsPcM (r::l)=pcC r++cellsPcM l:=rfl
  cases i with
  | zero=>exact⟨r,rfl,by rw[e];rfl⟩
  | succ i=>
   obtain⟨q,h1,h2⟩:=ih (i:=i) (by simpa using hi)
   refine⟨q,by simpa using h1, ?_⟩
   have e2:(pcC r++cellsPcM l).drop (10*(i+1))=(cellsPcM l).drop (10*i):=by
    rw[show 10*(i+1)=(pcC r).length+10*i by show _=10+_;omega,cCv,bX9 (by omega),cBp,bX2]
   rw[e,e2];exact h2
theorem aAt{l:HB}{j n:Nat}{d:AV}(hn:0<n):((l.drop j).take n).getD 0 d=l.getD j d:=by
 simp[bW7,bXz,hn]
theorem agP{cs:HB}{p:Pc}(e:cs=pcC p){K:Int->Int->Int->Int->Int->Int->Int->Nat->HB->Nat->Nat->HB->Nat->Int->Prop}(h:K p.k p.n0 p.n1 p.n2 p.n3 p.n4 p.n5 p.tr (cells32M p.rs) p.rs.length p.tl (cells16M p.ls) p.ls.length p.m) :
  ∃ (n0 n1 n2 n3 n4 n5 n6:Int) (t7:Nat) (c7:HB) (l7:Nat) (t8:Nat) (c8:HB) (l8:Nat) (n9:Int),AV.agg cs=AV.agg [.int .u8 n0,.int .u32 n1,.int .u32 n2,.int .u32 n3,.int .u32 n4,.int .u32 n5,.int .u32 n6,.lst t7 c7 l7 1,.lst t8 c8 l8 1,.int .u64 n9]∧K n0 n1 n2 n3 n4 n5 n6 t7 c7 l7 t8 c8 l8 n9:=
 ⟨_,_,_,_,_,_,_,_,_,_,_,_,_,_,by rw[e];rfl,h⟩
theorem bO3{H:HV}{id n m:Nat}{b:Blk}{l:List Ctl}(hb:H[id]? = some b)(hc:b.cs=cellsCM l)(hk:b.k≠.ro)(hn:n=13*l.length)(hm:m=l.length):nlR [13] (bU 0 H 9 (.sl id n 0 m 13))=.lst 0 (cellsCM l) l.length 13:=by
 subst hn hm
 have h:bU 0 H 9 (.sl id (13*l.length) 0 l.length 13)=.lst 0 (cellsCM l) l.length 13:=by
  rw[bU]
  have c1:b.cs.length.beq (13*l.length)=true:=aOe (by rw[hc];exact cellsC_len l)
  have c2:(0+l.length*13).ble (13*l.length)=true:=aNk (by omega)
  have c3:(b.k !=.ro)=true:=by simpa using hk
  simp only[hb,c1,c2,c3,Bool.and_self,bXw]
  rw[hc,bXl,bW4 (by rw[cellsC_len];omega),zO]
 rw[h]
 rfl
theorem bAf{l:List Ctl}{c:Ctl}(h:okL l)(hc:validM c=true):okL (l++[c]):=by
 obtain⟨h1,h2⟩:=h
 refine⟨?_, ?_⟩
 ·cases l with
  | nil=>cases h1
  | cons x l=>exact h1
 ·intro d hd
  rw[bYj]at hd
  rcases hd with hd | hd
  ·exact h2 d hd
  ·simp only[bXd,bXn,bY0]at hd
   subst hd;exact hc
theorem aJ6{b:Bool}{ps:List Pc}{l:List Ctl}{c:Ctl}{p:Pc}{κ:Int}(h:okR b ps l)(hl:1<=l.length)(h1:ps[l.length]? = some p)(hk:κ=1+p.k%6)(hc:c=pcM κ p∧validM c=true∧c.k=κ):okR b ps (l++[c]):=by
 have hlt:=(bXq.1 h1).1
 refine⟨bAf h.1 hc.2.1, ?_,by simp;omega⟩
 rw[bW2,bZa,show l.length+1-1=l.length-1+1 by omega,cpF,←h.2.1,show l.length-1+1=l.length by omega,bW7,h1,hc.1,hk]
 rfl
theorem aA8{c:Ctl}(h:validM c=true)(hk:c.k=1∨c.k=2):okL [c]:=⟨bXr hk,by simpa using h⟩
def hq12(b:Bool)(ps:List Pc)(Q:BS):Prop:=∀l,okL l->l=cpF b ps (min (ps.length-1) 3)->1<=l.length->l.length<=4->∀v H,nlR [13] (bU 0 H 9 v)=.lst 0 (cellsCM l) l.length 13->Q (.ret v) H {}
theorem bLh(b:Bool)(t:Nat)(ps:List Pc)(hps:∀p∈ps,okP p)(Q:BS)(hq:hq12 b ps Q):qU b t ps Q:=by
 unfold qU
 have hc:=uY ps
 refine⟨?_, ?_⟩
 ·rintro⟨z,c⟩ ⟨hk⟩
  dsimp only at hk ⊢
  have ho:ps.length<=1->∀H:HV,H[2]? = some ⟨.exact,true,ctC c⟩->Q (.ret (.sl 2 13 0 1 13)) H {}:=λh1 H hH=>hq [c] hk.1 (by rw[show min (ps.length-1) 3=0 by omega];exact hk.2.1) (by simp) (by simp) _ _ (bO3 hH (by simp[cellsCM]) (by simp) (by simp) (by simp))
  refine⟨_,rfl,_,rfl,aH (λh1=>⟨_,rfl,aH (λh2 => ?_) (λh2=>by omega)⟩) (λh1=>ho (by omega) _ rfl)⟩
  have hlt:1<ps.length:=by omega
  obtain⟨p,e1,e2⟩:=aGx hlt (show(1:Int).toNat*10=10*1 by omega)
  have hp:=hps p (bY3 e1)
  have e3:(cellsPcM ps).getD ((1:Int).toNat*10+0) AV.undef=.int .u8 p.k:=by
   rw[bYv,←aAt (n:=10) (by decide),e2];rfl
  have hk6:=hp.1
  refine⟨_,rfl,ckO (ckI (by rw[bX5];omega) (agP e2 ⟨_,rfl,ckO (ckI (by rw[aD];omega) ⟨_,e3,_,rfl, ?_⟩)⟩))⟩
  try dsimp only
  rw[aB5 hk6.1]
  refine aF (aF ⟨p,⟨rfl,hp,by omega,by omega⟩, ?_⟩)
  rintro c2 ⟨g1⟩
  exact⟨_,rfl,aF ⟨⟨trivial,rfl⟩,.inr ⟨([c,c2],z,ctC c,ctC c2),⟨by simp,by simp,aJ6 hk (by simp) e1 rfl g1⟩,by simp,rfl,rfl,rfl,rfl,rfl,rfl,rfl,rfl,trivial⟩⟩⟩
 ·rintro⟨l,z1,z2,z3⟩ ⟨k1,k2,hk⟩
  dsimp only at k1 k2 hk ⊢
  have hcl:=cellsC_len l
  have hkl:=hk.2.2
  have ho:l.length=min (ps.length-1) 3+1->∀H:HV,H[4]? = some ⟨.grow,true,cellsCM l⟩->Q (.ret (.sl 4 (13*l.length) 0 l.length 13)) H {}:=λh1 H hH=>hq l hk.1 (by have:=hk.2.1;rwa[h1,cCk]at this) (by omega) k2 _ _ (bO3 hH rfl (by simp) rfl rfl)
  refine⟨_,rfl,_,rfl,aH (λh1=>⟨_,rfl,aH (λh2 => ?_) (λh2=>ho (by omega) _ rfl)⟩) (λh1=>ho (by omega) _ rfl)⟩
  have hlt:l.length<ps.length:=by omega
  obtain⟨p,e1,e2⟩:=aGx hlt (show(l.length:Int).toNat*10=10*l.length by omega)
  have hp:=hps p (bY3 e1)
  have e3:(cellsPcM ps).getD ((l.length:Int).toNat*10+0) AV.undef=.int .u8 p.k:=by
   rw[bYv,←aAt (n:=10) (by decide),e2];rfl
  have hk6:=hp.1
  refine⟨_,rfl,ckO (ckI (by rw[bX5];omega) (agP e2 ⟨_,rfl,ckO (ckI (by rw[aD];omega) ⟨_,e3,_,rfl, ?_⟩)⟩))⟩
  try dsimp only
  rw[aB5 hk6.1]
  refine aF (aF ⟨p,⟨rfl,hp,by omega,by omega⟩, ?_⟩)
  rintro c2 ⟨g1⟩
  exact ckI (by rw[hcl];simp;omega) ⟨_,rfl,aF ⟨⟨trivial,rfl⟩,.inr ⟨(l++[c2],z1,z2,z3),⟨by simp;omega,by simp;omega,aJ6 hk (by omega) e1 rfl g1⟩,by simp;omega,rfl,rfl,rfl,rfl,(aGw l c2).symm,rfl,by simp,by simp[cA4],trivial⟩⟩⟩
theorem bN8:okP zP:=⟨by decide,by decide,by decide,by decide,by decide,by decide,by decide,by simp[zP],by simp[zP],by decide⟩
theorem aWi(b:Bool)(t:Nat)(ps:List Pc)(hps:∀p∈ps,okP p)(Q:BS)(hq:hq12 b ps Q):∃hv hb,aHv hv hb b t ps Q:=by
 obtain⟨hv,hb',e⟩:∃hv hb,aHv hv hb b t ps Q=_:=⟨_,_,bSk b t ps Q⟩
 refine⟨hv,hb',e.mpr ?_⟩
 delta bEx bHx bDs aTb aY0 bAw bBb bQo bEh bSj bHv bUg
 clear e
 have hl:=bLh b t ps hps Q hq
 have hc:=uY ps
 refine⟨_,rfl,aH (λh1 => ?_) (λh1 => ?_)⟩
 ·have hlt:0<ps.length:=by omega
  obtain⟨p,e1,e2⟩:=aGx hlt (show 0=10*0 from rfl)
  have hp:=hps p (bY3 e1)
  refine ckO (ckI (by rw[bX5];omega) (agP e2 ⟨p,⟨rfl,hp,by omega,by omega⟩, ?_⟩))
  rintro c ⟨g0,g1,g2⟩
  refine cK (λhb=>⟨p,⟨rfl,hp,by omega,by omega⟩, ?_⟩) (λhb => ?_)
  ·rintro c2 ⟨g5,g3,g4⟩
   exact⟨.inl ⟨(_,c2),⟨⟨aA8 g3 (.inl g4),by subst hb;rw[g5];show _=[pcM 1 (ps.getD 0 zP)];rw[bW7,e1];rfl,by simp⟩⟩,rfl,rfl,rfl,rfl,rfl,rfl,trivial⟩,hl⟩
  ·exact⟨.inl ⟨(_,c),⟨⟨aA8 g1 (.inr g2),by subst hb;rw[g0];show _=[pcM 2 (ps.getD 0 zP)];rw[bW7,e1];rfl,by simp⟩⟩,rfl,rfl,rfl,rfl,rfl,rfl,trivial⟩,hl⟩
 ·refine⟨zP,⟨rfl,bN8,by omega,by omega⟩, ?_⟩
  have h0:ps=[]:=bXo (by omega)
  rintro c ⟨g0,g1,g2⟩
  refine cK (λhb=>⟨zP,⟨rfl,bN8,by omega,by omega⟩, ?_⟩) (λhb => ?_)
  ·rintro c2 ⟨g5,g3,g4⟩
   exact⟨.inl ⟨(_,c2),⟨⟨aA8 g3 (.inl g4),by subst hb h0;rw[g5];rfl,by simp⟩⟩,rfl,rfl,rfl,rfl,rfl,rfl,trivial⟩,hl⟩
  ·exact⟨.inl ⟨(_,c),⟨⟨aA8 g1 (.inr g2),by subst hb h0;rw[g0];rfl,by simp⟩⟩,rfl,rfl,rfl,rfl,rfl,rfl,trivial⟩,hl⟩
def cComp:iO
 | [.agg [.bool b,.lst t cs n 10]],H,K=>∃ps:List Pc,Lf (cs=cellsPcM ps∧n=ps.length∧∀p∈ps,okP p)∧∀l:List Ctl,Lf (l=cpF b ps (min (ps.length-1) 3)∧checkMCd l=true∧(encCM l).length<=1180)->K (.ret (.lst 0 (cellsCM l) l.length 13)) H
 | _,_,_=>False
theorem comp_ok:aI Tryz.prog gl0 38 cComp:=by
 refine dV (enters_of (by kernel_rfl)) aO 9 (nlR [13]) (vT _) λargs H Q hc => ?_
 unfold cComp at hc
 split at hc
 ·rename_i b t cs n
  obtain⟨ps,⟨rfl,rfl,h1⟩,hq⟩:=hc
  obtain⟨hv,hb',h⟩:=aWi b t ps h1 (λo H' _=>∃v,o=.ret v∧Q (.ret (nlR [13] (bU 0 H' 9 v))) H) (λl hl k0 k1 k2 v H' ho=>⟨v,rfl,by
   have hle:=aAk l hl.2
   have hck:checkMCd l=true:=(aFh l).2 ⟨⟨k1,by omega⟩,hl.1,hl.2⟩
   have:=hq l ⟨k0,hck,by omega⟩
   rw[←ho]at this
   exact this⟩)
  exact⟨rfl,rfl,_,1000,(bL bIf _ _ _:EnvFor Tryz.prog (aT8 hv hb' b ps)),rfl,h⟩
 ·exact hc.elim
end Go.Proofs.YtnhechnaemmdiaaGreatDoor.Cd
