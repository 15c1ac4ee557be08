/-
  Chapter 4: contracts of tag; padded.
-/
import Derived.Test.YtnhechnaemmdiaaGreatDoorKnK
set_option linter.unusedSimpArgs false
set_option linter.unusedVariables false
namespace Go.Proofs.YtnhechnaemmdiaaGreatDoor
open Go.RowKit
set_option maxRecDepth 1000000

def bR3:Con
 | [.str key,.str s],H,K=>Lf (key.length=32)∧∀t,Lf (t=bBo key s)->K (.ret (.str t)) H
 | _,_,_=>False
theorem bCa:aI Tryz.prog gl0 166 bR3:=by
 refine aQ (enters_of (by kernel_rfl)) aO λargs H Q hc => ?_
 unfold bR3 at hc
 split at hc
 ·rename_i key s
  obtain⟨⟨h1⟩,hq⟩:=hc
  obtain⟨hv,hb',h⟩:=bJg key s _ _ _ _ _ _ h1 rfl rfl (Q:=λo H' _=>H'=[]∧(∃v,o=.ret v∧old 0 v=true∧noY v=true)∧Q o H) ⟨rfl,⟨_,rfl,rfl,rfl⟩,hq _ ⟨rfl⟩⟩
  exact⟨rfl,rfl,_,1000,aS bNr _ _ _,rfl,h⟩
 ·exact hc.elim

def bTc:List Nat->Nat
 | []=>0
 | k::l=>2^k+bTc l
def z8M(j:Nat):HB:=List.replicate j (.int .u8 0)
def rW(s:S):List (List LInv):=match s.tm.get 3 with
 | .sl id tot _ len _=>(match s.hp[id]? with
  | some b=>[[{ α:=Nat,pre:=λj=>Lf (j<=(16-len%16)%16),st:=λj=>⟨T.put 12 (s.tm.keep (bTc [3,6,7,8]) 1 0) 3 (.sl id (tot+j) 0 (len+j) 1),s.hp.set id ⟨.grow,b.lf,b.cs++z8M j⟩⟩,mu:=λj=>16-j }]]
  | none=>[])
 | _=>[[{ α:=Nat,pre:=λ_=>Lf True,st:=λ_=>⟨s.tm.keep (bTc [3,6,7,8]) 1 0,s.hp⟩,mu:=λ_=>0 }]]
noncomputable def uI(hv:LI)(hb:LB)(t:Nat)(x y:UInt8)(a b:LA)(Q:BS):Prop:=
 aT (e04 sm0 (λi=>bif Nat.beq i 167002 then some rW else none) hv hb) (wpx (e04 sm0 (λi=>bif Nat.beq i 167002 then some rW else none) hv hb) 1000) 167 [.lst t [.str (x::a),.str (y::b)] 2 1] [] {} Q
abbrev aGh(s_0:LA):Bool:=aP 0 (ofBytes s_0)
abbrev aFc(s_0:LA)(x_1:Nat):HB:=ofBytes s_0++z8M x_1
abbrev rY(s_0:LA):Nat:=(ofBytes s_0).length
abbrev aIf:Prop:=aK (AV.int .i64 2)
abbrev aBx:Prop:=aK (AV.int .i64 0)
abbrev aQ8(t:Nat)(x:UInt8)(a:LA)(y:UInt8)(b:LA):Prop:=aK (AV.lst t [.str (x::a),.str (y::b)] 2 1)∧True
abbrev bD1(s_0:LA)(x_1:Nat):Bool:=Nat.beq (aFc s_0 x_1).length (rY s_0+x_1)&&true&&Nat.beq (0+(s_0.length+x_1)*1) (rY s_0+x_1)
abbrev aXh:Prop:=True∧(0:Nat)=(0:Nat)
abbrev aFj(s_0:LA)(x_1:Nat)(s_4:LA):Nat:=s_0.length+x_1+s_4.length
abbrev aV5(s_0:LA)(x_1:Nat)(s_4:LA)(x_5:Nat):HB:=ofBytes s_0++z8M x_1++ofBytes s_4++z8M x_5
abbrev aDa:Prop:=aK (AV.int .i64 1)
theorem bEd(t:Nat)(x:UInt8)(y:UInt8)(a:LA)(b:LA)(Q:BS):uI (aW [(684043,.str),(684048,.int .i64),(684049,.int .i64),(684056,.str)]) (aV [(684046,false),
 (1684040192,true),(1684032000,false)]) t x y a b Q=(exS (.str (x::a)) (λs_0=>ckQ (eH (ofBytes s_0)&&true&&Nat.ble (s_0.length*1) 1099511627776) (ckQ (Nat.blt 0 s_0.length) (ckQ (Nat.ble s_0.length 1099511627776 &&
 Nat.ble (s_0.length*1) 1099511627776) ((∃x_1:Nat,Lf (x_1<=(16-s_0.length%16)%16)∧ckQ (aGh s_0==aGh s_0) (ofBytes s_0=aFc s_0 x_1∧AV.sl 0 (rY s_0) 0 s_0.length 1=AV.sl 0 (rY s_0+x_1) 0 (s_0.length+x_1) 1 ∧
 aIf∧aBx∧aQ8 t x a y b))∧∀x_1:Nat,Lf (x_1<=(16-s_0.length%16)%16)->ckQ (Nat.beq (aFc s_0 x_1).length (rY s_0+x_1)) (exI .i64 ((s_0.length+x_1:Nat):Int) (λn_2=>exI .i64 (n_2.tmod 16) (λn_3=>bif
 n_3 !=0 then ckQ (bD1 s_0 x_1&&Nat.ble (s_0.length+x_1+1) 1099511627776&&Nat.ble ((s_0.length+x_1+1)*1) 1099511627776) (((aGh s_0&&true||aP 1 (aFc s_0 x_1++[AV.int .u8 0]))&&true)=true∧aXh∧∃y_4:Nat,
 Lf (y_4<=(16-s_0.length%16)%16)∧16-y_4<16-x_1∧ckQ ((aGh s_0&&true)==aGh s_0) (aFc s_0 x_1++[AV.int .u8 0]=aFc s_0 y_4∧AV.sl 0 (rY s_0+x_1+1) 0 (s_0.length+x_1+1) 1=AV.sl 0 (rY s_0+y_4) 0
 (s_0.length+y_4) 1∧aIf∧aBx∧aQ8 t x a y b))else exS (.str (y::b)) (λs_4=>ckQ (eH (ofBytes s_4)&&true&&Nat.ble (s_4.length*1) 1099511627776) (ckQ (Nat.blt 0 s_4.length) (ckQ (bD1 s_0 x_1&&Nat.ble (aFj s_0
 x_1 s_4) 1099511627776&&Nat.ble (aFj s_0 x_1 s_4*1) 1099511627776) ((∃x_5:Nat,Lf (x_5<=(16-aFj s_0 x_1 s_4%16)%16)∧ckQ ((aGh s_0&&aGh s_4)==(aGh s_0&&aGh s_4)) (aFc s_0 x_1++ofBytes s_4=aV5 s_0 x_1 s_4
 x_5∧AV.sl 0 (rY s_0+x_1+rY s_4) 0 (aFj s_0 x_1 s_4) 1=AV.sl 0 (rY s_0+x_1+rY s_4+x_5) 0 (aFj s_0 x_1 s_4+x_5) 1∧aIf∧aDa∧aQ8 t x a y b))∧∀x_5:Nat,Lf (x_5<=(16-aFj s_0 x_1 s_4%16)%16)->ckQ
 (Nat.beq (aV5 s_0 x_1 s_4 x_5).length (rY s_0+x_1+rY s_4+x_5)) (exI .i64 ((aFj s_0 x_1 s_4+x_5:Nat):Int) (λn_6=>exI .i64 (n_6.tmod 16) (λn_7=>bif n_7 !=0 then ckQ (Nat.beq (aV5 s_0 x_1 s_4 x_5).length (rY
 s_0+x_1+rY s_4+x_5)&&true&&Nat.beq (0+(aFj s_0 x_1 s_4+x_5)*1) (rY s_0+x_1+rY s_4+x_5)&&Nat.ble (aFj s_0 x_1 s_4+x_5+1) 1099511627776&&Nat.ble ((aFj s_0 x_1 s_4+x_5+1)*1) 1099511627776) (((aGh
 s_0&&aGh s_4&&true||aP 1 (aV5 s_0 x_1 s_4 x_5++[AV.int .u8 0]))&&true)=true∧aXh∧∃y_8:Nat,Lf (y_8<=(16-aFj s_0 x_1 s_4%16)%16)∧16-y_8<16-x_5∧ckQ ((aGh s_0&&aGh s_4&&true)==(aGh s_0&&aGh
 s_4)) (aV5 s_0 x_1 s_4 x_5++[AV.int .u8 0]=aV5 s_0 x_1 s_4 y_8∧AV.sl 0 (rY s_0+x_1+rY s_4+x_5+1) 0 (aFj s_0 x_1 s_4+x_5+1) 1=AV.sl 0 (rY s_0+x_1+rY s_4+y_8) 0 (aFj s_0 x_1 s_4+y_8) 1∧aIf∧aDa ∧
 aQ8 t x a y b))else ckQ (Nat.beq (aV5 s_0 x_1 s_4 x_5).length (rY s_0+x_1+rY s_4+x_5)&&Nat.ble (0+(aFj s_0 x_1 s_4+x_5)) (rY s_0+x_1+rY s_4+x_5)&&true&&fU (((aV5 s_0 x_1 s_4 x_5).drop 0).take (aFj
 s_0 x_1 s_4+x_5))) (exS (.str (List.map toB (((aV5 s_0 x_1 s_4 x_5).drop 0).take (aFj s_0 x_1 s_4+x_5)))) (λs_8=>Q (.ret (.str s_8)) [] {}))))))))))))))))):=by kernel_rfl

noncomputable def vI(hv:LI)(hb:LB)(t:Nat)(y:UInt8)(b:LA)(Q:BS):Prop:=
 aT (e04 sm0 (λi=>bif Nat.beq i 167002 then some rW else none) hv hb) (wpx (e04 sm0 (λi=>bif Nat.beq i 167002 then some rW else none) hv hb) 1000) 167 [.lst t [.str [],.str (y::b)] 2 1] [] {} Q
abbrev aVw(t:Nat)(y:UInt8)(b:LA):Prop:=aK (AV.lst t [.str [],.str (y::b)] 2 1)∧True
abbrev aPe(y:UInt8)(b:LA):HB:=ofBytes (y::b)
abbrev aNc(y:UInt8)(b:LA):Bool:=Nat.ble ((y::b).length*1) 1099511627776
abbrev aFe(x_2:Nat)(y:UInt8)(b:LA):Prop:=Lf (x_2<=(16-(y::b).length%16)%16)
abbrev lV(y:UInt8)(b:LA):Bool:=aP 0 (aPe y b)
abbrev tZ(y:UInt8)(b:LA)(x_2:Nat):HB:=aPe y b++z8M x_2
abbrev aDj(y:UInt8)(b:LA)(x_2:Nat):Nat:=(aPe y b).length+x_2
abbrev rP(y:UInt8)(b:LA)(x_2:Nat):Nat:=(y::b).length+x_2
abbrev aH9(y:UInt8)(b:LA)(x_2:Nat):AV:=.sl 0 (aDj y b x_2) 0 (rP y b x_2) 1
abbrev aMw(y:UInt8)(b:LA)(x_2:Nat):Bool:=Nat.beq (tZ y b x_2).length (aDj y b x_2)
abbrev aWr(y:UInt8)(b:LA)(x_2:Nat):Bool:=Nat.beq (tZ y b x_2).length (aDj y b x_2)&&true&&Nat.beq (0+rP y b x_2*1) (aDj y b x_2)&&Nat.ble (rP y b x_2+1) 1099511627776&&Nat.ble ((rP y b x_2+1)*1) 1099511627776
theorem bFd(t:Nat)(y:UInt8)(b:LA)(Q:BS):vI (aW [(684048,.int .i64),(684049,.int .i64),(684056,.str)]) (aV [(1684032000,false),(1684040192,true)]) t y b Q=((∃x_0 :
 Nat,Lf True∧AV.nils=AV.nils∧aIf∧aBx∧aVw t y b)∧(Nat->Lf True->exI .i64 0 (λn_0=>exI .i64 (n_0.tmod 16) (λn_1=>bif n_1 !=0 then false=true∧aXh∧∃y_2:Nat,Lf True∧(0:Nat)<(0:Nat)∧AV.sl 1 1 0
 1 1=AV.nils∧aIf∧aBx∧aVw t y b else ckQ (eH (aPe y b)&&true&&aNc y b) (ckQ (Nat.ble (y::b).length 1099511627776&&aNc y b) ((∃x_2:Nat,aFe x_2 y b∧ckQ (lV y b==lV y b) (aPe y b=tZ y b x_2 ∧
 AV.sl 0 (aPe y b).length 0 (y::b).length 1=aH9 y b x_2∧aIf∧aDa∧aVw t y b))∧∀x_2:Nat,aFe x_2 y b->ckQ (aMw y b x_2) (exI .i64 ((rP y b x_2:Nat):Int) (λn_3=>exI .i64 (n_3.tmod 16) (λn_4=>bif n_4
 != 0 then ckQ (aWr y b x_2) (((lV y b&&true||aP 1 (tZ y b x_2++[AV.int .u8 0]))&&true)=true∧aXh∧∃y_5:Nat,aFe y_5 y b∧16-y_5<16-x_2∧ckQ ((lV y b&&true)==lV y b) (tZ y b x_2++[AV.int .u8
 0]=tZ y b y_5∧AV.sl 0 (aDj y b x_2+1) 0 (rP y b x_2+1) 1=aH9 y b y_5∧aIf∧aDa∧aVw t y b))else ckQ (aMw y b x_2&&Nat.ble (0+rP y b x_2) (aDj y b x_2)&&true&&fU (((tZ y b x_2).drop 0).take (rP
 y b x_2))) (exS (.str (List.map toB (((tZ y b x_2).drop 0).take (rP y b x_2)))) (λs_5=>Q (.ret (.str s_5)) [] {}))))))))))):=by kernel_rfl

noncomputable def uN(hv:LI)(hb:LB)(t:Nat)(x:UInt8)(a:LA)(Q:BS):Prop:=
 aT (e04 sm0 (λi=>bif Nat.beq i 167002 then some rW else none) hv hb) (wpx (e04 sm0 (λi=>bif Nat.beq i 167002 then some rW else none) hv hb) 1000) 167 [.lst t [.str (x::a),.str []] 2 1] [] {} Q
abbrev aQ3(t:Nat)(x:UInt8)(a:LA):Prop:=aK (AV.lst t [.str (x::a),.str []] 2 1)∧True
theorem bEs(t:Nat)(x:UInt8)(a:LA)(Q:BS):uN (aW [(684048,.int .i64),(684049,.int .i64),(684056,.str)]) (aV [(1684040192,true),(1684032000,false)]) t x a Q=(ckQ (eH
 (aPe x a)&&true&&aNc x a) (ckQ (Nat.ble (x::a).length 1099511627776&&aNc x a) ((∃x_0:Nat,aFe x_0 x a∧ckQ (lV x a==lV x a) (aPe x a=tZ x a x_0∧AV.sl 0 (aPe x a).length 0 (x::a).length 1=aH9 x a x_0
 ∧ aIf∧aBx∧aQ3 t x a))∧∀x_0:Nat,aFe x_0 x a->ckQ (aMw x a x_0) (exI .i64 ((rP x a x_0:Nat):Int) (λn_1=>exI .i64 (n_1.tmod 16) (λn_2=>bif n_2 !=0 then ckQ (aWr x a x_0) (((lV x a&&true||aP 1
 (tZ x a x_0++[AV.int .u8 0]))&&true)=true∧aXh∧∃y_3:Nat,aFe y_3 x a∧16-y_3<16-x_0∧ckQ ((lV x a&&true)==lV x a) (tZ x a x_0++[AV.int .u8 0]=tZ x a y_3∧AV.sl 0 (aDj x a x_0+1) 0 (rP x a
 x_0+1) 1=aH9 x a y_3∧aIf∧aBx∧aQ3 t x a))else ckQ (aMw x a x_0&&true) ((∃x_3:Nat,Lf (x_3<=(16-rP x a x_0%16)%16)∧ckQ (lV x a==lV x a) (tZ x a x_0=tZ x a x_0++z8M x_3∧aH9 x a x_0 =
 AV.sl 0 (aDj x a x_0+x_3) 0 (rP x a x_0+x_3) 1∧aIf∧aDa∧aQ3 t x a))∧∀x_3:Nat,Lf (x_3<=(16-rP x a x_0%16)%16)->ckQ (Nat.beq (tZ x a x_0++z8M x_3).length (aDj x a x_0+x_3)) (exI .i64 ((rP x a x_0 +
 x_3:Nat):Int) (λn_4=>exI .i64 (n_4.tmod 16) (λn_5=>bif n_5 !=0 then ckQ (Nat.beq (tZ x a x_0++z8M x_3).length (aDj x a x_0+x_3)&&true&&Nat.beq (0+(rP x a x_0+x_3)*1) (aDj x a x_0+x_3)&&Nat.ble (rP x
 a x_0+x_3+1) 1099511627776&&Nat.ble ((rP x a x_0+x_3+1)*1) 1099511627776) (((lV x a&&true||aP 1 (tZ x a x_0++z8M x_3++[AV.int .u8 0]))&&true)=true∧aXh∧∃y_6:Nat,Lf (y_6<=(16-rP x a x_0%16) %
 16)∧16-y_6<16-x_3∧ckQ ((lV x a&&true)==lV x a) (tZ x a x_0++z8M x_3++[AV.int .u8 0]=tZ x a x_0++z8M y_6∧AV.sl 0 (aDj x a x_0+x_3+1) 0 (rP x a x_0+x_3+1) 1=AV.sl 0 (aDj x a x_0+y_6) 0 (rP
 x a x_0+y_6) 1∧aIf∧aDa∧aQ3 t x a))else ckQ (Nat.beq (tZ x a x_0++z8M x_3).length (aDj x a x_0+x_3)&&Nat.ble (0+(rP x a x_0+x_3)) (aDj x a x_0+x_3)&&true&&fU (((tZ x a x_0++z8M x_3).drop 0).take
 (rP x a x_0+x_3))) (exS (.str (List.map toB (((tZ x a x_0++z8M x_3).drop 0).take (rP x a x_0+x_3)))) (λs_6=>Q (.ret (.str s_6)) [] {})))))))))))):=by kernel_rfl

noncomputable def vJ(hv:LI)(hb:LB)(t:Nat) (Q:BS):Prop:=
 aT (e04 sm0 (λi=>bif Nat.beq i 167002 then some rW else none) hv hb) (wpx (e04 sm0 (λi=>bif Nat.beq i 167002 then some rW else none) hv hb) 1000) 167 [.lst t [.str [],.str []] 2 1] [] {} Q
theorem bEy(t:Nat)(Q:BS):vJ (aW []) (aV [(1684032000,false)]) t Q=(
((∃x_0:Nat,((Lf True) ∧
 ((AV.nils=AV.nils) ∧
 (((AV.int .i64 (2:Int))=(AV.int .i64 (2:Int))) ∧
 (((AV.int .i64 (0:Int))=(AV.int .i64 (0:Int))) ∧
 (((AV.lst t ((AV.str [])::((AV.str [])::[])) (2:Nat) (1:Nat))=(AV.lst t ((AV.str [])::((AV.str [])::[])) (2:Nat) (1:Nat))) ∧
 True)))))) ∧
 (Nat →
((Lf True) →
((∃x_0:Nat,((Lf True) ∧
 ((AV.nils=AV.nils) ∧
 (((AV.int .i64 (2:Int))=(AV.int .i64 (2:Int))) ∧
 (((AV.int .i64 (1:Int))=(AV.int .i64 (1:Int))) ∧
 (((AV.lst t ((AV.str [])::((AV.str [])::[])) (2:Nat) (1:Nat))=(AV.lst t ((AV.str [])::((AV.str [])::[])) (2:Nat) (1:Nat))) ∧
 True)))))) ∧
 (Nat →
((Lf True) →
(Q (Out.ret (AV.str [])) [] (Gh.mk (0:Nat) (0:Nat) []))))))))):=by kernel_rfl

def upM(n:Nat):Nat:=(16-n%16)%16
def zB(a:LA):LA:=a++List.replicate (upM a.length) 0
theorem bFu(j:Nat):z8M j=ofBytes (List.replicate j 0):=by simp[z8M,ofBytes]
theorem aG7(a b:LA):ofBytes a++ofBytes b=ofBytes (a++b):=by simp[ofBytes]
theorem aI7:[AV.int .u8 0]=ofBytes [0]:=rfl
theorem aCb(l:LA):eH (ofBytes l)=true:=by
 induction l with
 | nil=>rfl
 | cons x l ih=>simpa[ofBytes,eH,one]using ih
theorem bD8(l:LA):(ofBytes l).map toB=l:=by
 simp only[ofBytes,cA0]
 conv=>rhs;rw[←cCb l]
 congr 1
 funext x
 simp[toB]
theorem bRo{L:LA}{n m:Nat}(hn:n=L.length)(hm:m=0):List.map toB (List.take n (List.drop m (ofBytes L)))=L:=by
 subst hn hm
 rw[bXl,bW4 (by rw[dO];omega),bD8]
theorem pQ(j:Nat):List.replicate j (0:UInt8)++[0]=List.replicate (j+1) 0:=by rw[List.replicate_succ']

theorem fP(n m:Nat)(l:LA):fU (List.take n (List.drop m (ofBytes l)))=true:=by
 have e:List.take n (List.drop m (ofBytes l))=ofBytes ((l.drop m).take n):=by simp[ofBytes]
 rw[e]
 exact uZ _
theorem bMe(t:Nat)(x y:UInt8)(a b:LA)(Q:BS)(ha:(x::a).length<=4611686018)(hb2:(y::b).length<=4611686018)(hq:Q (.ret (.str (zB (x::a)++zB (y::b)))) [] {}):∃hv hb,uI hv hb t x y a b Q:=by
 obtain⟨hv,hb',e⟩:∃hv hb,uI hv hb t x y a b Q=_:=⟨_,_,bEd t x y a b Q⟩
 refine⟨hv,hb',e.mpr ?_⟩
 delta aGh aFc rY aIf aBx aQ8 bD1 aXh aFj aV5 aDa
 clear e
 refine⟨_,rfl, ?_⟩
 have hA0:0<(x::a).length:=by simp
 have hB0:0<(y::b).length:=by simp
 generalize x::a=A at *
 generalize y::b=B at *
 simp only[bFu,aG7,aI7,dO,aCb,fG]
 refine ckI (by first | rfl | (simp[aD]<;>omega)) (ckI (by first | rfl | (simp[aD]<;>omega)) (ckI (by first | rfl | (simp[aD]<;>omega)) ⟨⟨0,⟨by omega⟩,by simp⟩, ?_⟩))
 rintro j ⟨hj⟩
 refine ckI (by first | rfl | (simp[aD,bXb]<;>omega)) ⟨_,rfl,_,rfl, ?_⟩
 have htj:(((A.length+j:Nat):Int)).tmod 16=(((A.length+j)%16:Nat):Int):=by rw[bX6 (by omega)];omega
 rw[htj]
 refine bK (λhne => ?_) (λheqj => ?_)
 ·refine ckI (by first | rfl | (simp[aD,bXb]<;>omega)) ⟨by simp,⟨trivial,trivial⟩,j+1,⟨by omega⟩,by omega, ?_⟩
  rw[bW9 _ (List.replicate j 0) [0],pQ]
  simp[bYp]
 ·refine⟨_,rfl,ckI (by first | rfl | (simp[aD]<;>omega)) (ckI (by first | rfl | (simp[aD]<;>omega)) (ckI (by first | rfl | (simp[aD,bXb]<;>omega)) ⟨⟨0,⟨by omega⟩,by simp⟩, ?_⟩))⟩
  rintro k ⟨hk⟩
  refine ckI (by first | rfl | (simp[aD,bXb]<;>omega)) ⟨_,rfl,_,rfl, ?_⟩
  have htk:(((A.length+j+B.length+k:Nat):Int)).tmod 16=(((A.length+j+B.length+k)%16:Nat):Int):=by rw[bX6 (by omega)];omega
  rw[htk]
  refine bK (λhne => ?_) (λheqk => ?_)
  ·refine ckI (by first | rfl | (simp[aD,bXb]<;>omega)) ⟨by simp,⟨trivial,trivial⟩,k+1,⟨by omega⟩,by omega, ?_⟩
   rw[bW9 _ (List.replicate k 0) [0],pQ]
   simp[bYp]
  ·refine ckI (by first | (simp only[bW3,bX4,bX7,bW6,aD,bX5,bS,aM,bW2,bXb,fP,bW2,bXc,bXm,bXf,cA6,cB5,bXh,bYc,bZw,ne_eq];done) | (simp only[bW3,bX4,bX7,bW6,aD,bX5,bS,aM,bW2,bXb,fP,bW2,bXc,bXm,bXf,cA6,cB5,bXh,bYc,bZw,ne_eq];omega) | rfl | (simp;done) | (simp;omega)) ⟨_,rfl, ?_⟩
   rw[bRo (by simp only[bW2,bXb]) rfl]
   have hk2:k=upM B.length:=by unfold upM;omega
   have hj2:j=upM A.length:=by unfold upM;omega
   rw[hk2,hj2]
   simp only[zB,bW9]at hq ⊢
   exact hq
theorem bNt(t:Nat)(y:UInt8)(b:LA)(Q:BS)(hb2:(y::b).length<=4611686018)(hq:Q (.ret (.str (zB (y::b)))) [] {}):∃hv hb,vI hv hb t y b Q:=by
 obtain⟨hv,hb',e⟩:∃hv hb,vI hv hb t y b Q=_:=⟨_,_,bFd t y b Q⟩
 refine⟨hv,hb',e.mpr ?_⟩
 delta aIf aBx aVw aXh aPe aNc aFe lV tZ aDj rP aH9 aDa aMw aWr
 clear e
 have hB0:0<(y::b).length:=by simp
 generalize y::b=B at *
 simp only[bFu,aG7,aI7,dO,aCb,fG]
 refine⟨⟨0,⟨trivial⟩,by simp⟩, ?_⟩
 intro _ _
 refine⟨_,rfl,_,rfl,bK (λh=>absurd rfl h) (λ_ => ?_)⟩
 refine ckI (by first | rfl | (simp[aD]<;>omega)) (ckI (by first | rfl | (simp[aD]<;>omega)) ⟨⟨0,⟨by omega⟩,by simp⟩, ?_⟩)
 rintro k ⟨hk⟩
 refine ckI (by first | rfl | (simp[aD,bXb]<;>omega)) ⟨_,rfl,_,rfl, ?_⟩
 have htk:(((B.length+k:Nat):Int)).tmod 16=(((B.length+k)%16:Nat):Int):=by rw[bX6 (by omega)];omega
 rw[htk]
 refine bK (λhne => ?_) (λheqk => ?_)
 ·refine ckI (by first | rfl | (simp[aD,bXb]<;>omega)) ⟨by simp,⟨trivial,trivial⟩,k+1,⟨by omega⟩,by omega, ?_⟩
  rw[bW9 _ (List.replicate k 0) [0],pQ]
  simp[bYp]
 ·refine ckI (by first | (simp only[bW3,bX4,bX7,bW6,aD,bX5,bS,aM,bW2,bXb,fP,bW2,bXc,bXm,bXf,cA6,cB5,bXh,bYc,bZw,ne_eq];done) | (simp only[bW3,bX4,bX7,bW6,aD,bX5,bS,aM,bW2,bXb,fP,bW2,bXc,bXm,bXf,cA6,cB5,bXh,bYc,bZw,ne_eq];omega) | rfl | (simp;done) | (simp;omega)) ⟨_,rfl, ?_⟩
  rw[bRo (by simp only[bW2,bXb]) rfl]
  have hk2:k=upM B.length:=by unfold upM;omega
  rw[hk2]
  exact hq
theorem bPo(t:Nat)(x:UInt8)(a:LA)(Q:BS)(ha:(x::a).length<=4611686018)(hq:Q (.ret (.str (zB (x::a)))) [] {}):∃hv hb,uN hv hb t x a Q:=by
 obtain⟨hv,hb',e⟩:∃hv hb,uN hv hb t x a Q=_:=⟨_,_,bEs t x a Q⟩
 refine⟨hv,hb',e.mpr ?_⟩
 delta aPe aNc aFe lV tZ aDj rP aH9 aIf aBx aQ3 aMw aWr aXh aDa
 clear e
 have hA0:0<(x::a).length:=by simp
 generalize x::a=A at *
 simp only[bFu,aG7,aI7,dO,aCb,fG]
 refine ckI (by first | rfl | (simp[aD]<;>omega)) (ckI (by first | rfl | (simp[aD]<;>omega)) ⟨⟨0,⟨by omega⟩,by simp⟩, ?_⟩)
 rintro j ⟨hj⟩
 refine ckI (by first | rfl | (simp[aD,bXb]<;>omega)) ⟨_,rfl,_,rfl, ?_⟩
 have htj:(((A.length+j:Nat):Int)).tmod 16=(((A.length+j)%16:Nat):Int):=by rw[bX6 (by omega)];omega
 rw[htj]
 refine bK (λhne => ?_) (λheqj => ?_)
 ·refine ckI (by first | rfl | (simp[aD,bXb]<;>omega)) ⟨by simp,⟨trivial,trivial⟩,j+1,⟨by omega⟩,by omega, ?_⟩
  rw[bW9 _ (List.replicate j 0) [0],pQ]
  simp[bYp]
 ·refine ckI (by first | rfl | (simp[aD,bXb]<;>omega)) ⟨⟨0,⟨by omega⟩,by simp⟩, ?_⟩
  rintro k ⟨hk⟩
  refine ckI (by first | rfl | (simp[aD,bXb]<;>omega)) ⟨_,rfl,_,rfl, ?_⟩
  have htk:(((A.length+j+k:Nat):Int)).tmod 16=(((A.length+j+k)%16:Nat):Int):=by rw[bX6 (by omega)];omega
  rw[htk]
  refine bK (λhne => ?_) (λheqk => ?_)
  ·refine ckI (by first | rfl | (simp[aD,bXb]<;>omega)) ⟨by simp,⟨trivial,trivial⟩,k+1,⟨by omega⟩,by omega, ?_⟩
   rw[bW9 _ (List.replicate k 0) [0],pQ]
   simp[bYp]
  ·refine ckI (by first | (simp only[bW3,bX4,bX7,bW6,aD,bX5,bS,aM,bW2,bXb,fP,bW2,bXc,bXm,bXf,cA6,cB5,bXh,bYc,bZw,ne_eq];done) | (simp only[bW3,bX4,bX7,bW6,aD,bX5,bS,aM,bW2,bXb,fP,bW2,bXc,bXm,bXf,cA6,cB5,bXh,bYc,bZw,ne_eq];omega) | rfl | (simp;done) | (simp;omega)) ⟨_,rfl, ?_⟩
   rw[bRo (by simp only[bW2,bXb]) rfl]
   have hk2:k=0:=by omega
   have hj2:j=upM A.length:=by unfold upM;omega
   rw[hk2,hj2]
   simp only[zB,bYz,bXs]at hq ⊢
   exact hq
theorem bLt(t:Nat)(Q:BS)(hq:Q (.ret (.str [])) [] {}):∃hv hb,vJ hv hb t Q:=by
 obtain⟨hv,hb',e⟩:∃hv hb,vJ hv hb t Q=_:=⟨_,_,bEy t Q⟩
 refine⟨hv,hb',e.mpr ?_⟩
 clear e
 exact⟨⟨0,⟨trivial⟩,by simp⟩,λ_ _=>⟨⟨0,⟨trivial⟩,by simp⟩,λ_ _=>hq⟩⟩
theorem aJi:zB []=[]:=rfl
def aAx:Con
 | [.lst _ [.str a,.str b] 2 1],H,K=>Lf (a.length<=4611686018∧b.length<=4611686018)∧∀t,Lf (t=zB a++zB b)->K (.ret (.str t)) H
 | _,_,_=>False
theorem aN6:aI Tryz.prog gl0 167 aAx:=by
 refine aQ (enters_of (by kernel_rfl)) aO λargs H Q hc => ?_
 unfold aAx at hc
 split at hc
 ·rename_i t a b
  obtain⟨⟨h1,h2⟩,hq⟩:=hc
  have fin:∀z,z=zB a++zB b->([]:HV)=[]∧(∃v,Out.ret (.str z)=.ret v∧old 0 v=true∧noY v=true)∧Q (.ret (.str z)) H:=λz hz=>⟨rfl,⟨_,rfl,rfl,rfl⟩,hq _ ⟨hz⟩⟩
  match a,b with
  | x::a,y::b=>
   obtain⟨hv,hb',h⟩:=bMe t x y a b (Q:=λo H' _=>H'=[]∧(∃v,o=.ret v∧old 0 v=true∧noY v=true)∧Q o H) h1 h2 (fin _ rfl)
   exact⟨rfl,rfl,_,1000,aS bY _ _ _,rfl,h⟩
  | [],y::b=>
   obtain⟨hv,hb',h⟩:=bNt t y b (Q:=λo H' _=>H'=[]∧(∃v,o=.ret v∧old 0 v=true∧noY v=true)∧Q o H) h2 (fin _ (by rw[aJi,bX2]))
   exact⟨rfl,rfl,_,1000,aS bY _ _ _,rfl,h⟩
  | x::a,[]=>
   obtain⟨hv,hb',h⟩:=bPo t x a (Q:=λo H' _=>H'=[]∧(∃v,o=.ret v∧old 0 v=true∧noY v=true)∧Q o H) h1 (fin _ (by rw[aJi,bXs]))
   exact⟨rfl,rfl,_,1000,aS bY _ _ _,rfl,h⟩
  | [],[]=>
   obtain⟨hv,hb',h⟩:=bLt t (Q:=λo H' _=>H'=[]∧(∃v,o=.ret v∧old 0 v=true∧noY v=true)∧Q o H) (fin _ (by rw[aJi,bX2]))
   exact⟨rfl,rfl,_,1000,aS bY _ _ _,rfl,h⟩
 ·exact hc.elim
def aLh:Con:=λargs H Q=>qI [1] H args λa=>aAx a H Q
theorem aTp:aI Tryz.prog gl0 167 aLh:=eG aN6 aO [1] λargs H Q hc=>by
 unfold aAx at hc
 split at hc
 ·obtain⟨h,hq⟩:=hc
  exact⟨h,λt ht=>⟨rfl,⟨_,rfl,rfl⟩,hq t ht⟩⟩
 ·exact hc.elim
def zI(n:Nat):LA:=[UInt8.ofNat (n%256),UInt8.ofNat (n/256%256),0,0,0,0,0,0]
def bWy(a b:Nat):HB:=[.int .u8 (a:Int),.int .u8 (b:Int),.int .u8 0,.int .u8 0,.int .u8 0,.int .u8 0,.int .u8 0,.int .u8 0]
def aPo(n i a b r:Nat)(p:Prop):LInv where
 α:=Nat
 pre _:=Lf p
 st _:=⟨mkT [(3,.sl 0 8 0 8 1),(4,.int .i64 (i:Nat)),(5,.int .i64 (r:Nat))],[⟨.grow,true,bWy a b⟩]⟩
 mu _:=2-i
noncomputable def bCv(hv:LI)(hb:LB)(n:Nat):Env:=
 e04 sm0 (λi=>bif Nat.beq i 168000 then some (λ_=>[[aPo n 0 0 0 n True,aPo n 1 (n%256) 0 (n/256) (0<n),aPo n 2 (n%256) (n/256%256) 0 (0<n/256)]])else none) hv hb
noncomputable def aI4(hv:LI)(hb:LB)(s:LA)(Q:BS):Prop:=
 aT (bCv hv hb s.length) (wpx (bCv hv hb s.length) 1000) 168 [.str s] [] {} Q
abbrev bE7:HB:=[.int .u8 0,.int .u8 0,.int .u8 0,.int .u8 0,.int .u8 0,.int .u8 0,.int .u8 0,.int .u8 0]
abbrev aOm:Prop:=aK (AV.sl 0 8 0 8 1)
abbrev aPm(n_0:Int)(s:LA):Prop:=AV.int .i64 n_0=AV.int .i64 (s.length:Int)
abbrev bR5(s:LA):AV:=.int .u8 ((s.length%256:Nat):Int)
abbrev bO5(s:LA):HB:=[bR5 s,.int .u8 0,.int .u8 0,.int .u8 0,.int .u8 0,.int .u8 0,.int .u8 0,.int .u8 0]
abbrev aP0(n_0:Int)(s:LA):Prop:=AV.int .i64 n_0=AV.int .i64 ((s.length/256:Nat):Int)
abbrev bOn(s:LA):HB:=[.int .u8 ((s.length%256:Nat):Int),.int .u8 ((s.length/256%256:Nat):Int),.int .u8 0,.int .u8 0,.int .u8 0,.int .u8 0,.int .u8 0,.int .u8 0]
abbrev aR7(n_0:Int):Prop:=AV.int .i64 n_0=AV.int .i64 0
abbrev aWy:Prop:=True∧(0:Nat)=(0:Nat)
abbrev bQm(n_3:Int):HB:=[.int .u8 n_3,.int .u8 0,.int .u8 0,.int .u8 0,.int .u8 0,.int .u8 0,.int .u8 0,.int .u8 0]
abbrev aYa(s:LA):Int:=((s.length/256:Nat):Int)
abbrev bQw(s:LA)(n_3:Int):HB:=[bR5 s,.int .u8 n_3,.int .u8 0,.int .u8 0,.int .u8 0,.int .u8 0,.int .u8 0,.int .u8 0]
abbrev bTp(s:LA):Int:=((s.length%256:Nat):Int)
abbrev bU0(s:LA):AV:=.int .u8 ((s.length/256%256:Nat):Int)
abbrev bQn(s:LA)(n_3:Int):HB:=[bR5 s,bU0 s,.int .u8 n_3,.int .u8 0,.int .u8 0,.int .u8 0,.int .u8 0,.int .u8 0]
theorem bU8(s:LA)(Q:BS):aI4 (aW [(688136,.int .i64),(688137,.int .i64),(688145,.int .i64),(688146,.int .u8),(688141,.int .i64),(688142,.int .i64),(688149,.str)]) (aV []) s Q =
 (exI .i64 (s.length:Int) (λn_0=>((∃x_1:Nat,Lf True∧aK bE7∧aOm∧aPm n_0 s∧aK (AV.int .i64 0)∧True)∨(∃x_1:Nat,Lf (0<s.length)∧bE7=bO5 s∧aOm∧aP0 n_0 s∧AV.int .i64 0=AV.int .i64 1∧True) ∨
 ∃x_1:Nat,Lf (0<s.length/256)∧bE7=bOn s∧aOm∧aR7 n_0∧AV.int .i64 0=AV.int .i64 2∧True)∧(Nat->Lf True->exI .i64 (s.length:Int) (λn_1=>bif decide (n_1>0)then exI .i64 (s.length:Int) (λn_2=>exW
 .u8 n_2 (λn_3=>exI .i64 (s.length:Int) (λn_4=>exI .i64 (Int.fdiv n_4 256) (λn_5=>aWy∧((∃y_6:Nat,Lf True∧(2:Nat)<(2:Nat)∧bQm n_3=bE7∧aOm∧aPm n_5 s∧AV.int .i64 1=AV.int .i64 0∧True)∨(∃
 y_6:Nat,Lf (0<s.length)∧(1:Nat)<(2:Nat)∧bQm n_3=bO5 s∧aOm∧aP0 n_5 s∧aK (AV.int .i64 1)∧True)∨∃y_6:Nat,Lf (0<s.length/256)∧(0:Nat)<(2:Nat)∧bQm n_3=bOn s∧aOm∧aR7 n_5∧AV.int
 .i64 1=AV.int .i64 2∧True)))))else exS (.str [toB (.int .u8 0),toB (.int .u8 0),toB (.int .u8 0),toB (.int .u8 0),toB (.int .u8 0),toB (.int .u8 0),toB (.int .u8 0),toB (.int .u8 0)]) (λs_2=>Q (.ret (.str s_2)) [] {}))) ∧
 (Nat->Lf (0<s.length)->exI .i64 (aYa s) (λn_1=>bif decide (n_1>0)then exI .i64 (aYa s) (λn_2=>exW .u8 n_2 (λn_3=>exI .i64 (aYa s) (λn_4=>exI .i64 (Int.fdiv n_4 256) (λn_5=>aWy∧((∃y_6:Nat,Lf
 True∧(2:Nat)<(1:Nat)∧bQw s n_3=bE7∧aOm∧aPm n_5 s∧AV.int .i64 2=AV.int .i64 0∧True)∨(∃y_6:Nat,Lf (0<s.length)∧(1:Nat)<(1:Nat)∧bQw s n_3=bO5 s∧aOm∧aP0 n_5 s∧AV.int .i64 2=AV.int
 .i64 1∧True)∨∃y_6:Nat,Lf (0<s.length/256)∧(0:Nat)<(1:Nat)∧bQw s n_3=bOn s∧aOm∧aR7 n_5∧aK (AV.int .i64 2)∧True)))))else exS (.str [toB (.int .u8 (bTp s)),toB (.int .u8 0),toB (.int .u8 0),toB
 (.int .u8 0),toB (.int .u8 0),toB (.int .u8 0),toB (.int .u8 0),toB (.int .u8 0)]) (λs_2=>Q (.ret (.str s_2)) [] {})))∧(Nat->Lf (0<s.length/256)->exI .i64 0 (λn_1=>bif decide (n_1>0)then exI .i64 0 (λn_2=>exW
 .u8 n_2 (λn_3=>exI .i64 0 (λn_4=>exI .i64 (Int.fdiv n_4 256) (λn_5=>aWy∧((∃y_6:Nat,Lf True∧(2:Nat)<(0:Nat)∧bQn s n_3=bE7∧aOm∧aPm n_5 s∧AV.int .i64 3=AV.int .i64 0∧True)∨(∃y_6:Nat,Lf
 (0<s.length)∧(1:Nat)<(0:Nat)∧bQn s n_3=bO5 s∧aOm∧aP0 n_5 s∧AV.int .i64 3=AV.int .i64 1∧True)∨∃y_6:Nat,Lf (0<s.length/256)∧(0:Nat)<(0:Nat)∧bQn s n_3=bOn s∧aOm∧aR7 n_5∧AV.int .i64
 3=AV.int .i64 2∧True)))))else exS (.str [toB (.int .u8 (bTp s)),toB (bU0 s),toB (.int .u8 0),toB (.int .u8 0),toB (.int .u8 0),toB (.int .u8 0),toB (.int .u8 0),toB (.int .u8 0)]) (λs_2=>Q (.ret (.str s_2)) [] {}))))):=
 by kernel_rfl


theorem aZk(s:LA)(Q:BS)(hl:s.length<65536)(hq:Q (.ret (.str (zI s.length))) [] {}):∃hv hb,aI4 hv hb s Q:=by
 obtain⟨hv,hb',e⟩:∃hv hb,aI4 hv hb s Q=_:=⟨_,_,bU8 s Q⟩
 refine⟨hv,hb',e.mpr ?_⟩
 delta bE7 aOm aPm bR5 bO5 aP0 bOn aR7 aWy bQm aYa bQw bTp bU0 bQn
 clear e
 generalize s.length=n at *
 have f:∀m:Nat,Int.fdiv (m:Int) 256=((m/256:Nat):Int):=λm=>aEn m 256 256 rfl
 have t0:toB (.int .u8 0)=0:=rfl
 refine⟨_,rfl,.inl ⟨0,⟨trivial⟩,by simp⟩, ?_, ?_, ?_⟩
 ·intro _ _
  refine⟨_,rfl,aH (λh => ?_) (λh => ?_)⟩
  ·refine⟨_,rfl,_,by rw[jK],_,rfl,_,by rw[f],⟨trivial,rfl⟩,.inr (.inl ⟨0,⟨by omega⟩,by decide,by simp⟩)⟩
  ·obtain rfl:n=0:=by omega
   exact⟨_,rfl,hq⟩
 ·rintro _ ⟨h0⟩
  refine⟨_,rfl,aH (λh => ?_) (λh => ?_)⟩
  ·refine⟨_,rfl,_,by rw[jK],_,rfl,_,by rw[f],⟨trivial,rfl⟩,.inr (.inr ⟨0,⟨by omega⟩,by decide, ?_⟩)⟩
   have e0:n/256/256=0:=by omega
   simp[e0]
  ·have e1:n/256%256=0:=by omega
   refine⟨_,rfl, ?_⟩
   rw[zI,e1]at hq
   simp only[aC7,t0]
   exact hq
 ·rintro _ ⟨h0⟩
  first
  | (refine⟨_,rfl, ?_⟩
     simp only[aC7,t0]
     exact hq)
  | (refine⟨_,rfl,aH (λh=>by omega) (λh=>⟨_,rfl, ?_⟩)⟩
     simp only[aC7,t0]
     exact hq)
def bH8:Con
 | [.str s],H,K=>Lf (s.length<65536)∧∀t,Lf (t=zI s.length)->K (.ret (.str t)) H
 | _,_,_=>False
theorem bJa:aI Tryz.prog gl0 168 bH8:=by
 refine aQ (enters_of (by kernel_rfl)) aO λargs H Q hc => ?_
 unfold bH8 at hc
 split at hc
 ·rename_i s
  obtain⟨⟨h1⟩,hq⟩:=hc
  obtain⟨hv,hb',h⟩:=aZk s (Q:=λo H' _=>H'=[]∧(∃v,o=.ret v∧old 0 v=true∧noY v=true)∧Q o H) h1 ⟨rfl,⟨_,rfl,rfl,rfl⟩,hq _ ⟨rfl⟩⟩
  exact⟨rfl,rfl,_,1000,aS bY _ _ _,rfl,h⟩
 ·exact hc.elim

def smM:SM:=gG [(165,aE7),(166,bR3),(167,aLh),(168,bH8)]
theorem bQf:∀f g,smM f=some g->aI Tryz.prog gl0 f g:=bO _ (by simp only[bXd,bXn,bY0,bYd,bY4];exact⟨aAz,bCa,aTp,bJa⟩)
def lD(key nonce extra hidden:LA):LA:=bBo ((mP key nonce 0).1.take 32) (((zB extra++zB hidden)++zI extra.length)++zI hidden.length)
noncomputable def aGm(hv:LI)(hb:LB)(key nonce extra hidden:LA)(Q:BS):Prop:=
 aT (e04 smM (λ_=>none) hv hb) (wpx (e04 smM (λ_=>none) hv hb) 1000) 119 [.str key,.str nonce,.str extra,.str hidden] [] {} Q
theorem bTx(key:LA)(nonce:LA)(extra:LA)(hidden:LA)(Q:BS):aGm (aW [(487442,.str),(487449,.str),(487452,.str)]) (aV []) key nonce extra hidden Q=(
(∀s_0:LA,(∀e_1:Int,((Lf ((mP key nonce (0:Int))=(Prod.mk s_0 e_1))) →
(bif(Nat.ble (32:Nat) (List.length s_0))then(∃s_2:LA,(((AV.str (List.take (32:Nat) (List.drop (0:Nat) s_0)))=(AV.str s_2)) ∧
 ((Lf (((List.length extra)<=(4611686018:Nat)) ∧
 ((List.length hidden)<=(4611686018:Nat)))) ∧
 (∀t_3:LA,((Lf (t_3=((zB extra)++(zB hidden)))) →
((Lf ((List.length extra)<(65536:Nat))) ∧
 (∀t_4:LA,((Lf (t_4=(zI (List.length extra)))) →
(bif((decide (((List.length t_3)+(List.length t_4))<=(9223372036854775807:Nat)))&&true)then(∃s_5:LA,(((AV.str (t_3++t_4))=(AV.str s_5)) ∧
 ((Lf ((List.length hidden)<(65536:Nat))) ∧
 (∀t_6:LA,((Lf (t_6=(zI (List.length hidden)))) →
(bif((decide (((List.length s_5)+(List.length t_6))<=(9223372036854775807:Nat)))&&true)then(∃s_7:LA,(((AV.str (s_5++t_6))=(AV.str s_7)) ∧
 ((Lf ((List.length s_2)=(32:Nat))) ∧
 (∀t_8:LA,((Lf (t_8=(bBo s_2 s_7))) →
(Q (Out.ret (AV.str t_8)) [] (Gh.mk (0:Nat) (0:Nat) [])))))))
else False))))))
else False)))))))))
else False))))):=by kernel_rfl

theorem aSi(a:LA):(zB a).length=a.length+upM a.length:=by simp[zB]
theorem aGt(key nonce extra hidden:LA)(Q:BS)(hr:dR key nonce 0=true)(h1:extra.length<65536)(h2:hidden.length<65536)(hq:Q (.ret (.str (lD key nonce extra hidden))) [] {}):∃hv hb,aGm hv hb key nonce extra hidden Q:=by
 obtain⟨hv,hb',e⟩:∃hv hb,aGm hv hb key nonce extra hidden Q=_:=⟨_,_,bTx key nonce extra hidden Q⟩
 refine⟨hv,hb',e.mpr ?_⟩
 clear e
 have hbl:∀s e,mP key nonce 0=(s,e)->s.length=64:=by
  intro s e h
  rw[mP,if_pos hr]at h
  obtain⟨rfl,_⟩:=cBf h
  rw[bZ1,aBb]
 intro s e ⟨hs⟩
 have h64:=hbl s e hs
 have hc:lD key nonce extra hidden=bBo (s.take 32) (((zB extra++zB hidden)++zI extra.length)++zI hidden.length):=by rw[lD,hs]
 rw[hc]at hq
 clear hc hbl hs
 have hp1:=aSi extra
 have hp2:=aSi hidden
 have hu1:upM extra.length<=16:=by unfold upM;omega
 have hu2:upM hidden.length<=16:=by unfold upM;omega
 have hz:∀n,(zI n).length=8:=λ_=>rfl
 refine ckI (by rw[h64];rfl) ⟨_,rfl,⟨by omega,by omega⟩,λt3 h3=>⟨⟨h1⟩,λt4 h4 => ?_⟩⟩
 have l3:t3.length=(zB extra).length+(zB hidden).length:=by rw[h3.h,bW2]
 have l4:t4.length=8:=by rw[h4.h,hz]
 refine ckI (by first | rfl | (simp[aD]<;>omega)) ⟨_,rfl,⟨h2⟩,λt6 h6 => ?_⟩
 have l6:t6.length=8:=by rw[h6.h,hz]
 refine ckI (by first | rfl | (simp[aD]<;>omega)) ⟨_,rfl,⟨by rw[bXl,bXg,h64];rfl⟩,λt8 h8 => ?_⟩
 rw[h8.h,h6.h,h4.h,h3.h,bXl]
 exact hq
def tL:Con
 | [.str key,.str nonce,.str extra,.str hidden],H,K=>Lf (dR key nonce 0=true∧extra.length<65536∧hidden.length<65536)∧∀t,Lf (t=lD key nonce extra hidden)->K (.ret (.str t)) H
 | _,_,_=>False
theorem zU:aI Tryz.prog gl0 119 tL:=by
 refine aQ (enters_of (by kernel_rfl)) aO λargs H Q hc => ?_
 unfold tL at hc
 split at hc
 ·rename_i key nonce extra hidden
  obtain⟨⟨h1,h2,h3⟩,hq⟩:=hc
  obtain⟨hv,hb',h⟩:=aGt key nonce extra hidden (Q:=λo H' _=>H'=[]∧(∃v,o=.ret v∧old 0 v=true∧noY v=true)∧Q o H) h1 h2 h3 ⟨rfl,⟨_,rfl,rfl,rfl⟩,hq _ ⟨rfl⟩⟩
  exact⟨rfl,rfl,_,1000,aS bQf _ _ _,rfl,h⟩
 ·exact hc.elim
def smN:SM:=gG [(117,aFb),(165,aE7),(166,bR3),(119,tL)]
theorem bNh:∀f g,smN f=some g->aI Tryz.prog gl0 f g:=bO _ (by simp only[bXd,bXn,bY0,bYd,bY4];exact⟨uD,aAz,bCa,zU⟩)
noncomputable def eN(hv:LI)(hb:LB):Env:=e04 smN (λ_=>none) hv hb
noncomputable def bG5(hv:LI)(hb:LB)(key nonce extra plain:LA)(Q:BS):Prop:=
 aT (eN hv hb) (wpx (eN hv hb) 1000) 66 [.str key,.str nonce,.str extra,.str plain] [] {} Q
abbrev bT0(key nonce plain:LA)(Q:BS)(extra:LA):Prop:=∀t_2:LA,∀e_3:Int,Lf (iG key nonce 1 plain=Prod.mk t_2 e_3)->bif e_3 !=0 then Q (.ret (.tup [.str [],.int .i64 e_3])) [] {}else Lf (dR key nonce 0=true∧extra.length<65536∧t_2.length<65536)∧∀t_4:LA,Lf (t_4=lD key nonce extra t_2)->ckQ (decide (t_2.length+t_4.length<=9223372036854775807)&&true) (exS (.str (t_2++t_4)) (λs_5=>Q (.ret (.tup [.str s_5,.int .i64 0])) [] {}))
abbrev bKj:Out:=.ret (.tup [.str [],.int .i64 3])
theorem bTd(key:LA)(nonce:LA)(extra:LA)(plain:LA)(Q:BS):bG5 (aW [(270373,.str),(483351,.int .i64),(483355,.int .i64)]) (aV []) key nonce extra plain Q=(∀s_0:LA,∀e_1:Int,Lf (mP key nonce 0=Prod.mk s_0 e_1)->bif e_1 !=0 then bif e_1 !=0 then Q (.ret (.tup [.str [],.int .i64 e_1])) [] {}else bT0 key nonce plain Q extra else exI .i64 (extra.length:Int) (λn_2=>bif decide (n_2>4096)then Q bKj [] {}else exI .i64 (plain.length:Int) (λn_3=>bif decide (n_3>4096)then Q bKj [] {}else bT0 key nonce plain Q extra))):=by kernel_rfl


theorem xK(w:W16):∀ (f:Nat) (c:Int) (s:LA),s.length<=64*f->(tO w c f s).length=s.length
 | 0,c,s,h=>by
  have:s=[]:=bYq.1 (by omega)
  rw[this];rfl
 | f+1,c,s,h=>by
  rw[tO]
  have hb:=aBb w c
  split
  ·rw[aC4];omega
  ·rw[bW2,aC4,xK w f (c+1) _ (by rw[bYt];omega),bXg,bYt];omega
theorem aVy:∀n x,(aO3 n x).length=n
 | 0,_=>rfl
 | n+1,x=>by rw[aO3,bXc,aVy]
theorem bFe(key s:LA):(bBo key s).length=16:=aVy _ _
theorem uQ(k n e h:LA):(lD k n e h).length=16:=bFe _ _
theorem aU8(key nonce:LA)(b:Bool)(h:dR key nonce 0=b):dR key nonce 1=b:=by rw[←h];rfl
theorem aDv{key nonce s:LA}(hr:dR key nonce 0=true)(hs:s.length<=4096):iG key nonce 1 s=(tO (fD key nonce) 1 70 s,0):=by
 rw[iG,aU8 key nonce true hr,if_neg (by simp),if_neg (by omega),if_neg (by omega)]

def nM(key nonce extra plain:LA):LA×Int:=
 if dR key nonce 0=false then([],2)else if 4096<extra.length∨4096<plain.length then([],3)else(tO (fD key nonce) 1 70 plain++lD key nonce extra (tO (fD key nonce) 1 70 plain),0)
def bA0:Con
 | [.str key,.str nonce,.str extra,.str plain],H,K=>∀t e,Lf (nM key nonce extra plain=(t,e))->K (.ret (.tup [.str t,.int .i64 e])) H
 | _,_,_=>False
theorem aE1{key nonce:LA}{s:LA}{e:Int}(h:mP key nonce 0=(s,e)):(dR key nonce 0=false∧e=2)∨(dR key nonce 0=true∧e=0):=by
 rw[mP]at h
 split at h
 ·rename_i hr
  exact .inr ⟨hr,(cBf h).2.symm⟩
 ·rename_i hr
  refine .inl ⟨?_,(cBf h).2.symm⟩
  cases hb:dR key nonce 0
  ·rfl
  ·exact absurd hb hr
theorem aHo:aI Tryz.prog gl0 66 bA0:=by
 refine aQ (enters_of (by kernel_rfl)) aO λargs H Q hc => ?_
 unfold bA0 at hc
 split at hc
 ·rename_i key nonce extra plain
  refine⟨rfl,rfl,_,1000,aS bNh _ _ _,rfl,(bTd key nonce extra plain _).mpr ?_⟩
  delta bT0 bKj
  intro s e ⟨hs⟩
  rcases aE1 hs with ⟨hr,rfl⟩ | ⟨hr,rfl⟩
  ·refine bK (λh=>bK (λ_ => ?_) (λh2=>absurd h2 h)) (λh=>by cases h)
   exact⟨rfl,⟨_,rfl,rfl,rfl⟩,hc _ _ ⟨by rw[nM,if_pos hr]⟩⟩
  ·refine bK (λh=>absurd rfl h) (λ_=>⟨_,rfl,aH (λh2 => ?_) (λh2=>⟨_,rfl,aH (λh3 => ?_) (λh3 => ?_)⟩)⟩)
   ·exact⟨rfl,⟨_,rfl,rfl,rfl⟩,hc _ _ ⟨by rw[nM,if_neg (by simp[hr]),if_pos (by omega)]⟩⟩
   ·exact⟨rfl,⟨_,rfl,rfl,rfl⟩,hc _ _ ⟨by rw[nM,if_neg (by simp[hr]),if_pos (by omega)]⟩⟩
   ·intro t e ⟨ht⟩
    have hap:=aDv hr (show plain.length<=4096 by omega)
    rw[hap]at ht
    obtain⟨ht1,rfl⟩:=cBf ht
    have hl:=xK (fD key nonce) 70 1 plain (by omega)
    rw[ht1]at hl
    refine bK (λh=>absurd rfl h) (λ_=>⟨⟨hr,by omega,by omega⟩,λu hu => ?_⟩)
    have hul:u.length=16:=by rw[hu.h,uQ]
    refine ckI (by first | rfl | (simp[aD]<;>omega)) ⟨_,rfl, ?_⟩
    exact⟨rfl,⟨_,rfl,rfl,rfl⟩,hc _ _ ⟨by rw[nM,if_neg (by simp[hr]),if_neg (by omega),ht1,hu.h]⟩⟩
 ·exact hc.elim

theorem aFl(a b:Nat):a ^^^ b=0↔a=b:=by
 constructor
 ·intro h
  have:a ^^^ b ^^^ b=0 ^^^ b:=by rw[h]
  rwa[Nat.xor_assoc,Nat.xor_self,Nat.xor_zero,Nat.zero_xor]at this
 ·rintro rfl
  exact Nat.xor_self _
theorem aW3{a b:LA}{x y:UInt8}:a++[x]=b++[y]↔a=b∧x=y:=
 ⟨λh=>by have h2:=List.append_inj' h rfl;exact⟨h2.1,by simpa using h2.2⟩,λ⟨h,k⟩=>by rw[h,k]⟩
def bNg(a b:LA):LInv where
 α:=Nat×Nat
 pre p:=Lf (p.1<=a.length∧p.2<256∧(p.2=0↔a.take p.1=b.take p.1))
 st p:=⟨mkT [(0,.str a),(1,.str b),(5,.int .u8 (p.2:Nat)),(8,.int .i64 a.length),(9,.int .i64 (p.1:Nat))],[]⟩
 mu p:=a.length-p.1
noncomputable def bB5(hv:LI)(hb:LB)(a b:LA):Env:=e04 sm0 (λi=>bif Nat.beq i 128000 then some (λ_=>[[bNg a b]])else none) hv hb
noncomputable def aG0(hv:LI)(hb:LB)(a b:LA)(Q:BS):Prop:=
 aT (bB5 hv hb a b) (wpx (bB5 hv hb a b) 1000) 128 [.str a,.str b] [] {} Q
abbrev bQ2(x_1:Nat×Nat)(a b:LA):Prop:=Lf (x_1.1<=a.length∧x_1.2<256∧(x_1.2=0↔a.take x_1.1=b.take x_1.1))
theorem bS4(a:LA)(b:LA)(Q:BS):aG0 (aW [(524296,.int .i64),(524303,.int .u8),(524306,.int .u8),(524307,.int .u8),(524308,.int .u8),(524309,.int .i64)]) (aV []) a b Q=(exI .i64 (a.length:Int) (λn_0=>(∃x_1:Nat×Nat,bQ2 x_1 a b∧aK (AV.str a)∧aK (AV.str b)∧AV.int .u8 0=AV.int .u8 (x_1.2:Int)∧AV.int .i64 0=AV.int .i64 (x_1.1:Int)∧AV.int .i64 n_0=AV.int .i64 (a.length:Int)∧True)∧∀x_1:Nat×Nat,bQ2 x_1 a b->bif decide ((x_1.1:Int)<(a.length:Int))then ckQ (Nat.blt (x_1.1:Int).toNat a.length) (exI .u8 (UInt8.toNat (a.getD (x_1.1:Int).toNat (UInt8.ofNat 0)):Int) (λn_2=>ckQ (Nat.blt (x_1.1:Int).toNat b.length) (exI .u8 (UInt8.toNat (b.getD (x_1.1:Int).toNat (UInt8.ofNat 0)):Int) (λn_3=>exW .u8 (((n_2%256).toNat ^^^ (n_3%256).toNat:Nat):Int) (λn_4=>exW .u8 ((((x_1.2:Int)%256).toNat ||| (n_4%256).toNat:Nat):Int) (λn_5=>exW .i64 ((x_1.1:Int)+1) (λn_6=>(True∧(0:Nat)=(0:Nat))∧∃y_7:Nat×Nat,bQ2 y_7 a b∧a.length-y_7.1<a.length-x_1.1∧aK (AV.str a)∧aK (AV.str b)∧AV.int .u8 n_5=AV.int .u8 (y_7.2:Int)∧AV.int .i64 n_6=AV.int .i64 (y_7.1:Int)∧aK (AV.int .i64 (a.length:Int))∧True)))))))else bif(x_1.2:Int)==0 then Q (.ret (.bool true)) [] {}else Q (.ret (.bool false)) [] {})):=by kernel_rfl

theorem aV0(a b:LA)(Q:BS)(h1:a.length=b.length)(h2:a.length<=4611686018)(hq:Q (.ret (.bool (decide (a=b)))) [] {}):∃hv hb,aG0 hv hb a b Q:=by
 obtain⟨hv,hb',e⟩:∃hv hb,aG0 hv hb a b Q=_:=⟨_,_,bS4 a b Q⟩
 refine⟨hv,hb',e.mpr ?_⟩
 delta bQ2
 clear e
 refine⟨_,rfl,⟨(0,0),⟨by simp,by simp,by simp⟩,by simp⟩, ?_⟩
 rintro⟨i,d⟩ ⟨g1,g2,g3⟩
 dsimp only at *
 refine aH (λhlt => ?_) (λhge => ?_)
 ·have hi:i<a.length:=by omega
  have hib:i<b.length:=by omega
  have ha:=(a.getD i 0).toNat_lt
  have hb:=(b.getD i 0).toNat_lt
  have hx:(a.getD i 0).toNat ^^^ (b.getD i 0).toNat<256:=cCj (n:=8) ha hb
  have ho:d ||| ((a.getD i 0).toNat ^^^ (b.getD i 0).toNat)<256:=bYx (n:=8) g2 hx
  have m8:∀x:Nat,x<256->((x:Int)%256).toNat=x:=λx h=>by omega
  have w8:∀x:Nat,x<256->IntKind.wrap .u8 (x:Int)=(x:Int):=λx h=>by rw[jK,bZh h]
  refine ckI (by first | rfl | (simp[aD]<;>omega)) ⟨_,rfl,ckI (by first | rfl | (simp[aD]<;>omega)) ⟨_,rfl, ?_⟩⟩
  rw[bXf,show UInt8.ofNat 0=0 from rfl]
  refine⟨_,by rw[m8 _ ha,m8 _ hb,w8 _ hx],_,by rw[m8 _ g2,m8 _ hx,w8 _ ho], ?_⟩
  refine aF ⟨⟨trivial,rfl⟩,(i+1,d ||| ((a.getD i 0).toNat ^^^ (b.getD i 0).toNat)),⟨hi,ho, ?_⟩, ?_,by simp⟩
  ·show d ||| ((a.getD i 0).toNat ^^^ (b.getD i 0).toNat)=0↔a.take (i+1)=b.take (i+1)
   rw[mH a 0 hi,mH b 0 hib,aW3,←g3]
   rw[Nat.or_eq_zero_iff,aFl,cB9]
  ·show a.length-(i+1)<a.length-i
   omega
 ·obtain rfl:i=a.length:=by omega
  have e1:a.take a.length=a:=bX8
  have e2:b.take a.length=b:=by rw[h1,bX8]
  rw[e1,e2]at g3
  refine bJ (λh => ?_) (λh => ?_)
  ·have:a=b:=g3.1 (by omega)
   rw[bXr this]at hq
   exact hq
  ·have:¬ a=b:=λh2=>h (by have:=g3.2 h2;omega)
   rw[bXt this]at hq
   exact hq
def aTu:Con
 | [.str a,.str b],H,K=>Lf (a.length=b.length∧a.length<=4611686018)∧∀t,Lf (t=decide (a=b))->K (.ret (.bool t)) H
 | _,_,_=>False
theorem aXi:aI Tryz.prog gl0 128 aTu:=by
 refine aQ (enters_of (by kernel_rfl)) aO λargs H Q hc => ?_
 unfold aTu at hc
 split at hc
 ·rename_i a b
  obtain⟨⟨h1,h2⟩,hq⟩:=hc
  obtain⟨hv,hb',h⟩:=aV0 a b (Q:=λo H' _=>H'=[]∧(∃v,o=.ret v∧old 0 v=true∧noY v=true)∧Q o H) h1 h2 ⟨rfl,⟨_,rfl,rfl,rfl⟩,hq _ ⟨rfl⟩⟩
  exact⟨rfl,rfl,_,1000,aS bY _ _ _,rfl,h⟩
 ·exact hc.elim

def smO:SM:=gG [(117,aFb),(165,aE7),(119,tL),(128,aTu)]
theorem bM6:∀f g,smO f=some g->aI Tryz.prog gl0 f g:=bO _ (by simp only[bXd,bXn,bY0,bYd,bY4];exact⟨uD,aAz,zU,aXi⟩)
noncomputable def bG3(hv:LI)(hb:LB)(key nonce extra box:LA)(Q:BS):Prop:=
 aT (e04 smO (λ_=>none) hv hb) (wpx (e04 smO (λ_=>none) hv hb) 1000) 82 [.str key,.str nonce,.str extra,.str box] [] {} Q
abbrev bQu(n_3:Int)(box:LA):Bool:=decide (0<=n_3)&&true&&Nat.ble n_3.toNat box.length
abbrev bTf(box:LA)(Q:BS)(key nonce extra:LA):Prop:=exI .i64 (box.length:Int) (λn_2=>exW .i64 (n_2-16) (λn_3=>bif decide (n_3<0)then Q (.ret (.tup [.str [],.int .i64 7])) [] {}else ckQ (bQu n_3 box&&Nat.ble box.length box.length) (exS (.str ((box.drop n_3.toNat).take (box.length-n_3.toNat))) (λs_4=>ckQ (bQu n_3 box) (exS (.str ((box.drop 0).take (n_3.toNat-0))) (λs_5=>Lf (dR key nonce 0=true∧extra.length<65536∧s_5.length<65536)∧∀t_6:LA,Lf (t_6=lD key nonce extra s_5)->Lf (s_4.length=t_6.length∧s_4.length<=4611686018)∧∀t_7:Bool,Lf (t_7=decide (s_4=t_6))->bif t_7 then ckQ (bQu n_3 box) (exS (.str ((box.drop 0).take (n_3.toNat-0))) (λs_8=>∀t_9:LA,∀e_10:Int,Lf (iG key nonce 1 s_8=Prod.mk t_9 e_10)->Q (.ret (.tup [.str t_9,.int .i64 e_10])) [] {}))else Q (.ret (.tup [.str [],.int .i64 9])) [] {}))))))
theorem bUf(key:LA)(nonce:LA)(extra:LA)(box:LA)(Q:BS):bG3 (aW [(335894,.int .i64),(335895,.int .i64),(335901,.str),(335907,.str),(335915,.str),(483351,.int .i64),(483355,.int .i64)]) (aV []) key nonce extra box Q=(∀s_0:LA,∀e_1:Int,Lf (mP key nonce 0=Prod.mk s_0 e_1)->bif e_1 !=0 then bif e_1 !=0 then Q (.ret (.tup [.str [],.int .i64 e_1])) [] {}else bTf box Q key nonce extra else exI .i64 (extra.length:Int) (λn_2=>bif decide (n_2>4096)then Q bKj [] {}else exI .i64 (box.length:Int) (λn_3=>bif decide (n_3>4112)then Q bKj [] {}else bTf box Q key nonce extra))):=by kernel_rfl

def aFy(key nonce extra box:LA):LA×Int:=
 if dR key nonce 0=false then([],2)else if 4096<extra.length∨4112<box.length then([],3)else if box.length<16 then([],7)else
  if box.drop (box.length-16)=lD key nonce extra (box.take (box.length-16))then(tO (fD key nonce) 1 70 (box.take (box.length-16)),0)else([],9)
def bN4:Con
 | [.str key,.str nonce,.str extra,.str box],H,K=>∀t e,Lf (aFy key nonce extra box=(t,e))->K (.ret (.tup [.str t,.int .i64 e])) H
 | _,_,_=>False
theorem bEq:aI Tryz.prog gl0 82 bN4:=by
 refine aQ (enters_of (by kernel_rfl)) aO λargs H Q hc => ?_
 unfold bN4 at hc
 split at hc
 ·rename_i key nonce extra box
  refine⟨rfl,rfl,_,1000,⟨jL,jM,dH,bM6⟩,rfl,(bUf key nonce extra box _).mpr ?_⟩
  delta bQu bTf bKj
  intro s e ⟨hs⟩
  rcases aE1 hs with ⟨hr,rfl⟩ | ⟨hr,rfl⟩
  ·refine bK (λh=>bK (λ_ => ?_) (λh2=>absurd h2 h)) (λh=>by cases h)
   exact⟨rfl,⟨_,rfl,rfl,rfl⟩,hc _ _ ⟨by rw[aFy,if_pos hr]⟩⟩
  ·refine bK (λh=>absurd rfl h) (λ_=>⟨_,rfl,aH (λh2 => ?_) (λh2=>⟨_,rfl,aH (λh3 => ?_) (λh3 => ?_)⟩)⟩)
   ·exact⟨rfl,⟨_,rfl,rfl,rfl⟩,hc _ _ ⟨by rw[aFy,if_neg (by simp[hr]),if_pos (by omega)]⟩⟩
   ·exact⟨rfl,⟨_,rfl,rfl,rfl⟩,hc _ _ ⟨by rw[aFy,if_neg (by simp[hr]),if_pos (by omega)]⟩⟩
   ·refine⟨_,rfl,aF (aH (λh4 => ?_) (λh4 => ?_))⟩
    ·exact⟨rfl,⟨_,rfl,rfl,rfl⟩,hc _ _ ⟨by rw[aFy,if_neg (by simp[hr]),if_neg (by omega),if_pos (by omega)]⟩⟩
    ·have en:((box.length:Int)-16).toNat=box.length-16:=by omega
     rw[en]
     have e1:List.take (box.length-(box.length-16)) (List.drop (box.length-16) box)=box.drop (box.length-16):=bW4 (by rw[bYt];omega)
     have e2:List.take (box.length-16-0) (List.drop 0 box)=box.take (box.length-16):=by rw[cCg,bXl]
     rw[e1,e2]
     have hdl:(box.drop (box.length-16)).length=16:=by rw[bYt];omega
     have htl:(box.take (box.length-16)).length=box.length-16:=by rw[bXg];omega
     refine ckI (by first | rfl | (simp[aD]<;>omega)) ⟨_,rfl,ckI (by first | rfl | (simp[aD]<;>omega)) ⟨_,rfl,⟨hr,by omega,by omega⟩,λu hu=>⟨⟨by rw[hdl,hu.h,uQ],by omega⟩,λb hb => ?_⟩⟩⟩
     by_cases heq:box.drop (box.length-16)=lD key nonce extra (box.take (box.length-16))
     ·have hbt:b=true:=by rw[hb.h,hu.h];exact bXr heq
      rw[hbt]
      refine ckI (by first | rfl | (simp[aD]<;>omega)) ⟨_,rfl,λt e ht => ?_⟩
      rw[aDv hr (by omega)]at ht
      exact⟨rfl,⟨_,rfl,rfl,rfl⟩,hc _ _ ⟨by rw[aFy,if_neg (by simp[hr]),if_neg (by omega),if_neg (by omega),if_pos heq];exact ht.h⟩⟩
     ·have hbt:b=false:=by rw[hb.h,hu.h];exact bXt heq
      rw[hbt]
      exact⟨rfl,⟨_,rfl,rfl,rfl⟩,hc _ _ ⟨by rw[aFy,if_neg (by simp[hr]),if_neg (by omega),if_neg (by omega),if_neg heq]⟩⟩
 ·exact hc.elim
end Go.Proofs.YtnhechnaemmdiaaGreatDoor
