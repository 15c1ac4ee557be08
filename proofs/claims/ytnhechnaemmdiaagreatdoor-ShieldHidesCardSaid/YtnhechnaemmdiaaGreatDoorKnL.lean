/-
  Chapter 4: contracts of tag; padded.
-/
import Derived.Test.YtnhechnaemmdiaaGreatDoorKnK
set_option linter.unusedSimpArgs false
set_option linter.unusedVariables false
namespace Go.Proofs.YtnhechnaemmdiaaGreatDoor
open Go.RowKit
set_option maxRecDepth 1000000

def bI8:Con
 | [.str key,.str s],H,K=>Lf (key.length=32)∧∀t,Lf (t=aU7 key s)→K (.ret (.str t)) H
 | _,_,_=>False
theorem aXb:aG Tryz.prog gl0 166 bI8:=by
 refine aT (enters_of (by kernel_rfl)) aQ fun args H Q hc => ?_
 unfold bI8 at hc
 split at hc
 ·rename_i key s
  obtain ⟨⟨h1⟩,hq⟩:=hc
  obtain ⟨hv,hb',h⟩:=bBd key s _ _ _ _ _ _ h1 rfl rfl (Q:=fun o H' _=>H'=[]∧(∃v,o=.ret v∧old 0 v=true∧noY v=true)∧Q o H) ⟨rfl,⟨_,rfl,rfl,rfl⟩,hq _ ⟨rfl⟩⟩
  exact ⟨rfl,rfl,_,1000,aY aLy _ _ _,rfl,h⟩
 ·exact hc.elim

def bNz:List Nat→Nat
 | []=>0
 | k::l=>2^k+bNz l
def z8M (j:Nat):List AV:=List.replicate j (.int .u8 0)
def pO (s:S):List (List LInv):=match s.tm.get 3 with
 | .sl id tot _ len _=>(match s.hp[id]? with
  | some b=>[[{ α:=Nat,pre:=fun j=>Lf (j≤(16-len%16)%16),st:=fun j=>⟨T.put 12 (s.tm.keep (bNz [3,6,7,8]) 1 0) 3 (.sl id (tot+j) 0 (len+j) 1),s.hp.set id ⟨.grow,b.lf,b.cs++z8M j⟩⟩,mu:=fun j=>16-j }]]
  | none=>[])
 | _=>[[{ α:=Nat,pre:=fun _=>Lf True,st:=fun _=>⟨s.tm.keep (bNz [3,6,7,8]) 1 0,s.hp⟩,mu:=fun _=>0 }]]
noncomputable def rO (hv:Nat→Option Pa) (hb:Nat→Option Bool) (t:Nat) (x y:UInt8) (a b:List UInt8) (Q:Out→List Blk→Gh→Prop):Prop:=
 bC (e04 sm0 (fun i=>bif Nat.beq i 167002 then some pO else none) hv hb) (wpx (e04 sm0 (fun i=>bif Nat.beq i 167002 then some pO else none) hv hb) 1000) 167 [.lst t [.str (x::a),.str (y::b)] 2 1] [] {} Q
abbrev aDd (s_0:List UInt8):Bool:=aR 0 (ofBytes s_0)
abbrev aCg (s_0:List UInt8) (x_1:Nat):List AV:=ofBytes s_0++z8M x_1
abbrev qB (s_0:List UInt8):Nat:=(ofBytes s_0).length
abbrev aEt:Prop:=aN (AV.int .i64 2)
abbrev zM:Prop:=aN (AV.int .i64 0)
abbrev aMl (t:Nat) (x:UInt8) (a:List UInt8) (y:UInt8) (b:List UInt8):Prop:=aN (AV.lst t [.str (x::a),.str (y::b)] 2 1)∧True
abbrev bB4 (s_0:List UInt8) (x_1:Nat):Bool:=Nat.beq (aCg s_0 x_1).length (qB s_0+x_1)&&true&&Nat.beq (0+(s_0.length+x_1)*1) (qB s_0+x_1)
abbrev aSy:Prop:=True∧(0:Nat)=(0:Nat)
abbrev aBg (s_0:List UInt8) (x_1:Nat) (s_4:List UInt8):Nat:=s_0.length+x_1+s_4.length
abbrev aP8 (s_0:List UInt8) (x_1:Nat) (s_4:List UInt8) (x_5:Nat):List AV:=ofBytes s_0++z8M x_1++ofBytes s_4++z8M x_5
abbrev yC:Prop:=aN (AV.int .i64 1)
theorem aZk (t:Nat) (x:UInt8) (y:UInt8) (a:List UInt8) (b:List UInt8) (Q:Out→List Blk→Gh→Prop):rO (bH [(684043,.str),(684048,.int .i64),(684049,.int .i64),(684056,.str)]) (bI [(684046,false),
 (1684040192,true),(1684032000,false)]) t x y a b Q=(exS (.str (x::a)) (fun s_0=>ckQ (fJ (ofBytes s_0)&&true&&Nat.ble (s_0.length*1) 1099511627776) (ckQ (Nat.blt 0 s_0.length) (ckQ (Nat.ble s_0.length 1099511627776 &&
 Nat.ble (s_0.length*1) 1099511627776) ((∃x_1:Nat,Lf (x_1≤(16-s_0.length%16)%16)∧ckQ (aDd s_0==aDd s_0) (ofBytes s_0=aCg s_0 x_1∧AV.sl 0 (qB s_0) 0 s_0.length 1=AV.sl 0 (qB s_0+x_1) 0 (s_0.length+x_1) 1 ∧
 aEt∧zM∧aMl t x a y b))∧∀x_1:Nat,Lf (x_1≤(16-s_0.length%16)%16)→ckQ (Nat.beq (aCg s_0 x_1).length (qB s_0+x_1)) (exI .i64 ((s_0.length+x_1:Nat):Int) (fun n_2=>exI .i64 (n_2.tmod 16) (fun n_3=>bif
 n_3 !=0 then ckQ (bB4 s_0 x_1&&Nat.ble (s_0.length+x_1+1) 1099511627776&&Nat.ble ((s_0.length+x_1+1)*1) 1099511627776) (((aDd s_0&&true||aR 1 (aCg s_0 x_1++[AV.int .u8 0]))&&true)=true∧aSy∧∃y_4:Nat,
 Lf (y_4≤(16-s_0.length%16)%16)∧16-y_4<16-x_1∧ckQ ((aDd s_0&&true)==aDd s_0) (aCg s_0 x_1++[AV.int .u8 0]=aCg s_0 y_4∧AV.sl 0 (qB s_0+x_1+1) 0 (s_0.length+x_1+1) 1=AV.sl 0 (qB s_0+y_4) 0
 (s_0.length+y_4) 1∧aEt∧zM∧aMl t x a y b)) else exS (.str (y::b)) (fun s_4=>ckQ (fJ (ofBytes s_4)&&true&&Nat.ble (s_4.length*1) 1099511627776) (ckQ (Nat.blt 0 s_4.length) (ckQ (bB4 s_0 x_1&&Nat.ble (aBg s_0
 x_1 s_4) 1099511627776&&Nat.ble (aBg s_0 x_1 s_4*1) 1099511627776) ((∃x_5:Nat,Lf (x_5≤(16-aBg s_0 x_1 s_4%16)%16)∧ckQ ((aDd s_0&&aDd s_4)==(aDd s_0&&aDd s_4)) (aCg s_0 x_1++ofBytes s_4=aP8 s_0 x_1 s_4
 x_5∧AV.sl 0 (qB s_0+x_1+qB s_4) 0 (aBg s_0 x_1 s_4) 1=AV.sl 0 (qB s_0+x_1+qB s_4+x_5) 0 (aBg s_0 x_1 s_4+x_5) 1∧aEt∧yC∧aMl t x a y b))∧∀x_5:Nat,Lf (x_5≤(16-aBg s_0 x_1 s_4%16)%16)→ckQ
 (Nat.beq (aP8 s_0 x_1 s_4 x_5).length (qB s_0+x_1+qB s_4+x_5)) (exI .i64 ((aBg s_0 x_1 s_4+x_5:Nat):Int) (fun n_6=>exI .i64 (n_6.tmod 16) (fun n_7=>bif n_7 !=0 then ckQ (Nat.beq (aP8 s_0 x_1 s_4 x_5).length (qB
 s_0+x_1+qB s_4+x_5)&&true&&Nat.beq (0+(aBg s_0 x_1 s_4+x_5)*1) (qB s_0+x_1+qB s_4+x_5)&&Nat.ble (aBg s_0 x_1 s_4+x_5+1) 1099511627776&&Nat.ble ((aBg s_0 x_1 s_4+x_5+1)*1) 1099511627776) (((aDd
 s_0&&aDd s_4&&true||aR 1 (aP8 s_0 x_1 s_4 x_5++[AV.int .u8 0]))&&true)=true∧aSy∧∃y_8:Nat,Lf (y_8≤(16-aBg s_0 x_1 s_4%16)%16)∧16-y_8<16-x_5∧ckQ ((aDd s_0&&aDd s_4&&true)==(aDd s_0&&aDd
 s_4)) (aP8 s_0 x_1 s_4 x_5++[AV.int .u8 0]=aP8 s_0 x_1 s_4 y_8∧AV.sl 0 (qB s_0+x_1+qB s_4+x_5+1) 0 (aBg s_0 x_1 s_4+x_5+1) 1=AV.sl 0 (qB s_0+x_1+qB s_4+y_8) 0 (aBg s_0 x_1 s_4+y_8) 1∧aEt∧yC ∧
 aMl t x a y b)) else ckQ (Nat.beq (aP8 s_0 x_1 s_4 x_5).length (qB s_0+x_1+qB s_4+x_5)&&Nat.ble (0+(aBg s_0 x_1 s_4+x_5)) (qB s_0+x_1+qB s_4+x_5)&&true&&gH (((aP8 s_0 x_1 s_4 x_5).drop 0).take (aBg
 s_0 x_1 s_4+x_5))) (exS (.str (List.map toB (((aP8 s_0 x_1 s_4 x_5).drop 0).take (aBg s_0 x_1 s_4+x_5)))) (fun s_8=>Q (.ret (.str s_8)) [] {}))))))))))))))))):=by kernel_rfl

noncomputable def tL (hv:Nat→Option Pa) (hb:Nat→Option Bool) (t:Nat) (y:UInt8) (b:List UInt8) (Q:Out→List Blk→Gh→Prop):Prop:=
 bC (e04 sm0 (fun i=>bif Nat.beq i 167002 then some pO else none) hv hb) (wpx (e04 sm0 (fun i=>bif Nat.beq i 167002 then some pO else none) hv hb) 1000) 167 [.lst t [.str [],.str (y::b)] 2 1] [] {} Q
abbrev aOm (t:Nat) (y:UInt8) (b:List UInt8):Prop:=aN (AV.lst t [.str [],.str (y::b)] 2 1)∧True
abbrev aKv (y:UInt8) (b:List UInt8):List AV:=ofBytes (y::b)
abbrev aIs (y:UInt8) (b:List UInt8):Bool:=Nat.ble ((y::b).length*1) 1099511627776
abbrev aC5 (x_2:Nat) (y:UInt8) (b:List UInt8):Prop:=Lf (x_2≤(16-(y::b).length%16)%16)
abbrev kM (y:UInt8) (b:List UInt8):Bool:=aR 0 (aKv y b)
abbrev qU (y:UInt8) (b:List UInt8) (x_2:Nat):List AV:=aKv y b++z8M x_2
abbrev aB8 (y:UInt8) (b:List UInt8) (x_2:Nat):Nat:=(aKv y b).length+x_2
abbrev qC (y:UInt8) (b:List UInt8) (x_2:Nat):Nat:=(y::b).length+x_2
abbrev aE0 (y:UInt8) (b:List UInt8) (x_2:Nat):AV:=.sl 0 (aB8 y b x_2) 0 (qC y b x_2) 1
abbrev aH6 (y:UInt8) (b:List UInt8) (x_2:Nat):Bool:=Nat.beq (qU y b x_2).length (aB8 y b x_2)
abbrev aUm (y:UInt8) (b:List UInt8) (x_2:Nat):Bool:=Nat.beq (qU y b x_2).length (aB8 y b x_2)&&true&&Nat.beq (0+qC y b x_2*1) (aB8 y b x_2)&&Nat.ble (qC y b x_2+1) 1099511627776&&Nat.ble ((qC y b x_2+1)*1) 1099511627776
theorem bDb (t:Nat) (y:UInt8) (b:List UInt8) (Q:Out→List Blk→Gh→Prop):tL (bH [(684048,.int .i64),(684049,.int .i64),(684056,.str)]) (bI [(1684032000,false),(1684040192,true)]) t y b Q=((∃x_0 :
 Nat,Lf True∧AV.nils=AV.nils∧aEt∧zM∧aOm t y b)∧(Nat→Lf True→exI .i64 0 (fun n_0=>exI .i64 (n_0.tmod 16) (fun n_1=>bif n_1 !=0 then false=true∧aSy∧∃y_2:Nat,Lf True∧(0:Nat)<(0:Nat)∧AV.sl 1 1 0
 1 1=AV.nils∧aEt∧zM∧aOm t y b else ckQ (fJ (aKv y b)&&true&&aIs y b) (ckQ (Nat.ble (y::b).length 1099511627776&&aIs y b) ((∃x_2:Nat,aC5 x_2 y b∧ckQ (kM y b==kM y b) (aKv y b=qU y b x_2 ∧
 AV.sl 0 (aKv y b).length 0 (y::b).length 1=aE0 y b x_2∧aEt∧yC∧aOm t y b))∧∀x_2:Nat,aC5 x_2 y b→ckQ (aH6 y b x_2) (exI .i64 ((qC y b x_2:Nat):Int) (fun n_3=>exI .i64 (n_3.tmod 16) (fun n_4=>bif n_4
 != 0 then ckQ (aUm y b x_2) (((kM y b&&true||aR 1 (qU y b x_2++[AV.int .u8 0]))&&true)=true∧aSy∧∃y_5:Nat,aC5 y_5 y b∧16-y_5<16-x_2∧ckQ ((kM y b&&true)==kM y b) (qU y b x_2++[AV.int .u8
 0]=qU y b y_5∧AV.sl 0 (aB8 y b x_2+1) 0 (qC y b x_2+1) 1=aE0 y b y_5∧aEt∧yC∧aOm t y b)) else ckQ (aH6 y b x_2&&Nat.ble (0+qC y b x_2) (aB8 y b x_2)&&true&&gH (((qU y b x_2).drop 0).take (qC
 y b x_2))) (exS (.str (List.map toB (((qU y b x_2).drop 0).take (qC y b x_2)))) (fun s_5=>Q (.ret (.str s_5)) [] {}))))))))))):=by kernel_rfl

noncomputable def rM (hv:Nat→Option Pa) (hb:Nat→Option Bool) (t:Nat) (x:UInt8) (a:List UInt8) (Q:Out→List Blk→Gh→Prop):Prop:=
 bC (e04 sm0 (fun i=>bif Nat.beq i 167002 then some pO else none) hv hb) (wpx (e04 sm0 (fun i=>bif Nat.beq i 167002 then some pO else none) hv hb) 1000) 167 [.lst t [.str (x::a),.str []] 2 1] [] {} Q
abbrev aPn (t:Nat) (x:UInt8) (a:List UInt8):Prop:=aN (AV.lst t [.str (x::a),.str []] 2 1)∧True
theorem bBu (t:Nat) (x:UInt8) (a:List UInt8) (Q:Out→List Blk→Gh→Prop):rM (bH [(684048,.int .i64),(684049,.int .i64),(684056,.str)]) (bI [(1684040192,true),(1684032000,false)]) t x a Q=(ckQ (fJ
 (aKv x a)&&true&&aIs x a) (ckQ (Nat.ble (x::a).length 1099511627776&&aIs x a) ((∃x_0:Nat,aC5 x_0 x a∧ckQ (kM x a==kM x a) (aKv x a=qU x a x_0∧AV.sl 0 (aKv x a).length 0 (x::a).length 1=aE0 x a x_0
 ∧ aEt∧zM∧aPn t x a))∧∀x_0:Nat,aC5 x_0 x a→ckQ (aH6 x a x_0) (exI .i64 ((qC x a x_0:Nat):Int) (fun n_1=>exI .i64 (n_1.tmod 16) (fun n_2=>bif n_2 !=0 then ckQ (aUm x a x_0) (((kM x a&&true||aR 1
 (qU x a x_0++[AV.int .u8 0]))&&true)=true∧aSy∧∃y_3:Nat,aC5 y_3 x a∧16-y_3<16-x_0∧ckQ ((kM x a&&true)==kM x a) (qU x a x_0++[AV.int .u8 0]=qU x a y_3∧AV.sl 0 (aB8 x a x_0+1) 0 (qC x a
 x_0+1) 1=aE0 x a y_3∧aEt∧zM∧aPn t x a)) else ckQ (aH6 x a x_0&&true) ((∃x_3:Nat,Lf (x_3≤(16-qC x a x_0%16)%16)∧ckQ (kM x a==kM x a) (qU x a x_0=qU x a x_0++z8M x_3∧aE0 x a x_0 =
 AV.sl 0 (aB8 x a x_0+x_3) 0 (qC x a x_0+x_3) 1∧aEt∧yC∧aPn t x a))∧∀x_3:Nat,Lf (x_3≤(16-qC x a x_0%16)%16)→ckQ (Nat.beq (qU x a x_0++z8M x_3).length (aB8 x a x_0+x_3)) (exI .i64 ((qC x a x_0 +
 x_3:Nat):Int) (fun n_4=>exI .i64 (n_4.tmod 16) (fun n_5=>bif n_5 !=0 then ckQ (Nat.beq (qU x a x_0++z8M x_3).length (aB8 x a x_0+x_3)&&true&&Nat.beq (0+(qC x a x_0+x_3)*1) (aB8 x a x_0+x_3)&&Nat.ble (qC x
 a x_0+x_3+1) 1099511627776&&Nat.ble ((qC x a x_0+x_3+1)*1) 1099511627776) (((kM x a&&true||aR 1 (qU x a x_0++z8M x_3++[AV.int .u8 0]))&&true)=true∧aSy∧∃y_6:Nat,Lf (y_6≤(16-qC x a x_0%16) %
 16)∧16-y_6<16-x_3∧ckQ ((kM x a&&true)==kM x a) (qU x a x_0++z8M x_3++[AV.int .u8 0]=qU x a x_0++z8M y_6∧AV.sl 0 (aB8 x a x_0+x_3+1) 0 (qC x a x_0+x_3+1) 1=AV.sl 0 (aB8 x a x_0+y_6) 0 (qC
 x a x_0+y_6) 1∧aEt∧yC∧aPn t x a)) else ckQ (Nat.beq (qU x a x_0++z8M x_3).length (aB8 x a x_0+x_3)&&Nat.ble (0+(qC x a x_0+x_3)) (aB8 x a x_0+x_3)&&true&&gH (((qU x a x_0++z8M x_3).drop 0).take
 (qC x a x_0+x_3))) (exS (.str (List.map toB (((qU x a x_0++z8M x_3).drop 0).take (qC x a x_0+x_3)))) (fun s_6=>Q (.ret (.str s_6)) [] {})))))))))))):=by kernel_rfl

noncomputable def tZ (hv:Nat→Option Pa) (hb:Nat→Option Bool) (t:Nat)  (Q:Out→List Blk→Gh→Prop):Prop:=
 bC (e04 sm0 (fun i=>bif Nat.beq i 167002 then some pO else none) hv hb) (wpx (e04 sm0 (fun i=>bif Nat.beq i 167002 then some pO else none) hv hb) 1000) 167 [.lst t [.str [],.str []] 2 1] [] {} Q
theorem aZa (t:Nat) (Q:Out→List Blk→Gh→Prop):tZ (bH []) (bI [(1684032000,false)]) t Q=(
((∃x_0:Nat,((Lf True) ∧
 ((AV.nils=AV.nils) ∧
 (((AV.int .i64 (2:Int))=(AV.int .i64 (2:Int))) ∧
 (((AV.int .i64 (0:Int))=(AV.int .i64 (0:Int))) ∧
 (((AV.lst t ((AV.str [])::((AV.str [])::[])) (2:Nat) (1:Nat))=(AV.lst t ((AV.str [])::((AV.str [])::[])) (2:Nat) (1:Nat))) ∧
 True)))))) ∧
 (Nat →
((Lf True) →
((∃x_0:Nat,((Lf True) ∧
 ((AV.nils=AV.nils) ∧
 (((AV.int .i64 (2:Int))=(AV.int .i64 (2:Int))) ∧
 (((AV.int .i64 (1:Int))=(AV.int .i64 (1:Int))) ∧
 (((AV.lst t ((AV.str [])::((AV.str [])::[])) (2:Nat) (1:Nat))=(AV.lst t ((AV.str [])::((AV.str [])::[])) (2:Nat) (1:Nat))) ∧
 True)))))) ∧
 (Nat →
((Lf True) →
(Q (Out.ret (AV.str [])) [] (Gh.mk (0:Nat) (0:Nat) []))))))))):=by kernel_rfl

def upM (n:Nat):Nat:=(16-n%16)%16
def padM (a:List UInt8):List UInt8:=a++List.replicate (upM a.length) 0
theorem aXh (j:Nat):z8M j=ofBytes (List.replicate j 0):=by simp[z8M,ofBytes]
theorem dH (a b:List UInt8):ofBytes a++ofBytes b=ofBytes (a++b):=by simp[ofBytes]
theorem aFc:[AV.int .u8 0]=ofBytes [0]:=rfl
theorem cK (l:List UInt8):fJ (ofBytes l)=true:=by
 induction l with
 | nil=>rfl
 | cons x l ih=>simpa [ofBytes,fJ,one] using ih
theorem mX (l:List UInt8):(ofBytes l).map toB=l:=by
 simp only[ofBytes,List.map_map]
 conv=>rhs;rw[←List.map_id l]
 congr 1
 funext x
 simp[toB]
theorem bKf {L:List UInt8} {n m:Nat} (hn:n=L.length) (hm:m=0):List.map toB (List.take n (List.drop m (ofBytes L)))=L:=by
 subst hn hm
 rw[List.drop_zero,List.take_of_length_le (by rw[aH];omega),mX]
theorem nH (j:Nat):List.replicate j (0:UInt8)++[0]=List.replicate (j+1) 0:=by rw[List.replicate_succ']

theorem fC (n m:Nat) (l:List UInt8):gH (List.take n (List.drop m (ofBytes l)))=true:=by
 have e:List.take n (List.drop m (ofBytes l))=ofBytes ((l.drop m).take n):=by simp[ofBytes]
 rw[e]
 exact kG _
theorem bGj (t:Nat) (x y:UInt8) (a b:List UInt8) (Q:Out→List Blk→Gh→Prop) (ha:(x::a).length≤4611686018) (hb2:(y::b).length≤4611686018) (hq:Q (.ret (.str (padM (x::a)++padM (y::b)))) [] {}):∃hv hb,rO hv hb t x y a b Q:=by
 obtain ⟨hv,hb',e⟩:∃hv hb,rO hv hb t x y a b Q=_:=⟨_,_,aZk t x y a b Q⟩
 refine ⟨hv,hb',e.mpr ?_⟩
 delta aDd aCg qB aEt zM aMl bB4 aSy aBg aP8 yC
 clear e
 refine ⟨_,rfl, ?_⟩
 have hA0:0<(x::a).length:=by simp
 have hB0:0<(y::b).length:=by simp
 generalize x::a=A at *
 generalize y::b=B at *
 simp only[aXh,dH,aFc,aH,cK,aK]
 refine ckI (by first | (simp only[Bool.and_eq_true,Bool.and_true,Bool.true_and,decide_eq_true_eq,aB,Nat.ble_eq,aP,aA,List.length_append,List.length_cons,List.length_nil,Int.toNat_natCast,and_true,true_and,Bool.or_eq_true,Bool.not_eq_true',bne_iff_ne,ne_eq];done) | (simp only[Bool.and_eq_true,Bool.and_true,Bool.true_and,decide_eq_true_eq,aB,Nat.ble_eq,aP,aA,List.length_append,List.length_cons,List.length_nil,Int.toNat_natCast,and_true,true_and,Bool.or_eq_true,Bool.not_eq_true',bne_iff_ne,ne_eq];omega) | rfl | (simp;done) | (simp;omega)) (ckI (by first | (simp only[Bool.and_eq_true,Bool.and_true,Bool.true_and,decide_eq_true_eq,aB,Nat.ble_eq,aP,aA,List.length_append,List.length_cons,List.length_nil,Int.toNat_natCast,and_true,true_and,Bool.or_eq_true,Bool.not_eq_true',bne_iff_ne,ne_eq];done) | (simp only[Bool.and_eq_true,Bool.and_true,Bool.true_and,decide_eq_true_eq,aB,Nat.ble_eq,aP,aA,List.length_append,List.length_cons,List.length_nil,Int.toNat_natCast,and_true,true_and,Bool.or_eq_true,Bool.not_eq_true',bne_iff_ne,ne_eq];omega) | rfl | (simp;done) | (simp;omega)) (ckI (by first | (simp only[Bool.and_eq_true,Bool.and_true,Bool.true_and,decide_eq_true_eq,aB,Nat.ble_eq,aP,aA,List.length_append,List.length_cons,List.length_nil,Int.toNat_natCast,and_true,true_and,Bool.or_eq_true,Bool.not_eq_true',bne_iff_ne,ne_eq];done) | (simp only[Bool.and_eq_true,Bool.and_true,Bool.true_and,decide_eq_true_eq,aB,Nat.ble_eq,aP,aA,List.length_append,List.length_cons,List.length_nil,Int.toNat_natCast,and_true,true_and,Bool.or_eq_true,Bool.not_eq_true',bne_iff_ne,ne_eq];omega) | rfl | (simp;done) | (simp;omega)) ⟨⟨0,⟨by omega⟩,by simp⟩, ?_⟩))
 rintro j ⟨hj⟩
 refine ckI (by first | (simp only[Bool.and_eq_true,Bool.and_true,Bool.true_and,decide_eq_true_eq,aB,Nat.ble_eq,aP,aA,List.length_append,List.length_replicate,List.length_append,List.length_cons,List.length_nil,Int.toNat_natCast,and_true,true_and,Bool.or_eq_true,Bool.not_eq_true',bne_iff_ne,ne_eq];done) | (simp only[Bool.and_eq_true,Bool.and_true,Bool.true_and,decide_eq_true_eq,aB,Nat.ble_eq,aP,aA,List.length_append,List.length_replicate,List.length_append,List.length_cons,List.length_nil,Int.toNat_natCast,and_true,true_and,Bool.or_eq_true,Bool.not_eq_true',bne_iff_ne,ne_eq];omega) | rfl | (simp;done) | (simp;omega)) ⟨_,rfl,_,rfl, ?_⟩
 have htj:(((A.length+j:Nat):Int)).tmod 16=(((A.length+j)%16:Nat):Int):=by rw[Int.tmod_eq_emod_of_nonneg (by omega)];omega
 rw[htj]
 refine aS (fun hne => ?_) (fun heqj => ?_)
 ·refine ckI (by first | (simp only[Bool.and_eq_true,Bool.and_true,Bool.true_and,decide_eq_true_eq,aB,Nat.ble_eq,aP,aA,List.length_append,List.length_replicate,List.length_append,List.length_cons,List.length_nil,Int.toNat_natCast,and_true,true_and,Bool.or_eq_true,Bool.not_eq_true',bne_iff_ne,ne_eq];done) | (simp only[Bool.and_eq_true,Bool.and_true,Bool.true_and,decide_eq_true_eq,aB,Nat.ble_eq,aP,aA,List.length_append,List.length_replicate,List.length_append,List.length_cons,List.length_nil,Int.toNat_natCast,and_true,true_and,Bool.or_eq_true,Bool.not_eq_true',bne_iff_ne,ne_eq];omega) | rfl | (simp;done) | (simp;omega)) ⟨by simp,⟨trivial,trivial⟩,j+1,⟨by omega⟩,by omega, ?_⟩
  rw[List.append_assoc _ (List.replicate j 0) [0],nH]
  simp[Nat.add_assoc]
 ·refine ⟨_,rfl,ckI (by first | (simp only[Bool.and_eq_true,Bool.and_true,Bool.true_and,decide_eq_true_eq,aB,Nat.ble_eq,aP,aA,List.length_append,List.length_cons,List.length_nil,Int.toNat_natCast,and_true,true_and,Bool.or_eq_true,Bool.not_eq_true',bne_iff_ne,ne_eq];done) | (simp only[Bool.and_eq_true,Bool.and_true,Bool.true_and,decide_eq_true_eq,aB,Nat.ble_eq,aP,aA,List.length_append,List.length_cons,List.length_nil,Int.toNat_natCast,and_true,true_and,Bool.or_eq_true,Bool.not_eq_true',bne_iff_ne,ne_eq];omega) | rfl | (simp;done) | (simp;omega)) (ckI (by first | (simp only[Bool.and_eq_true,Bool.and_true,Bool.true_and,decide_eq_true_eq,aB,Nat.ble_eq,aP,aA,List.length_append,List.length_cons,List.length_nil,Int.toNat_natCast,and_true,true_and,Bool.or_eq_true,Bool.not_eq_true',bne_iff_ne,ne_eq];done) | (simp only[Bool.and_eq_true,Bool.and_true,Bool.true_and,decide_eq_true_eq,aB,Nat.ble_eq,aP,aA,List.length_append,List.length_cons,List.length_nil,Int.toNat_natCast,and_true,true_and,Bool.or_eq_true,Bool.not_eq_true',bne_iff_ne,ne_eq];omega) | rfl | (simp;done) | (simp;omega)) (ckI (by first | (simp only[Bool.and_eq_true,Bool.and_true,Bool.true_and,decide_eq_true_eq,aB,Nat.ble_eq,aP,aA,List.length_append,List.length_replicate,List.length_append,List.length_cons,List.length_nil,Int.toNat_natCast,and_true,true_and,Bool.or_eq_true,Bool.not_eq_true',bne_iff_ne,ne_eq];done) | (simp only[Bool.and_eq_true,Bool.and_true,Bool.true_and,decide_eq_true_eq,aB,Nat.ble_eq,aP,aA,List.length_append,List.length_replicate,List.length_append,List.length_cons,List.length_nil,Int.toNat_natCast,and_true,true_and,Bool.or_eq_true,Bool.not_eq_true',bne_iff_ne,ne_eq];omega) | rfl | (simp;done) | (simp;omega)) ⟨⟨0,⟨by omega⟩,by simp⟩, ?_⟩))⟩
  rintro k ⟨hk⟩
  refine ckI (by first | (simp only[Bool.and_eq_true,Bool.and_true,Bool.true_and,decide_eq_true_eq,aB,Nat.ble_eq,aP,aA,List.length_append,List.length_replicate,List.length_append,List.length_cons,List.length_nil,Int.toNat_natCast,and_true,true_and,Bool.or_eq_true,Bool.not_eq_true',bne_iff_ne,ne_eq];done) | (simp only[Bool.and_eq_true,Bool.and_true,Bool.true_and,decide_eq_true_eq,aB,Nat.ble_eq,aP,aA,List.length_append,List.length_replicate,List.length_append,List.length_cons,List.length_nil,Int.toNat_natCast,and_true,true_and,Bool.or_eq_true,Bool.not_eq_true',bne_iff_ne,ne_eq];omega) | rfl | (simp;done) | (simp;omega)) ⟨_,rfl,_,rfl, ?_⟩
  have htk:(((A.length+j+B.length+k:Nat):Int)).tmod 16=(((A.length+j+B.length+k)%16:Nat):Int):=by rw[Int.tmod_eq_emod_of_nonneg (by omega)];omega
  rw[htk]
  refine aS (fun hne => ?_) (fun heqk => ?_)
  ·refine ckI (by first | (simp only[Bool.and_eq_true,Bool.and_true,Bool.true_and,decide_eq_true_eq,aB,Nat.ble_eq,aP,aA,List.length_append,List.length_replicate,List.length_append,List.length_cons,List.length_nil,Int.toNat_natCast,and_true,true_and,Bool.or_eq_true,Bool.not_eq_true',bne_iff_ne,ne_eq];done) | (simp only[Bool.and_eq_true,Bool.and_true,Bool.true_and,decide_eq_true_eq,aB,Nat.ble_eq,aP,aA,List.length_append,List.length_replicate,List.length_append,List.length_cons,List.length_nil,Int.toNat_natCast,and_true,true_and,Bool.or_eq_true,Bool.not_eq_true',bne_iff_ne,ne_eq];omega) | rfl | (simp;done) | (simp;omega)) ⟨by simp,⟨trivial,trivial⟩,k+1,⟨by omega⟩,by omega, ?_⟩
   rw[List.append_assoc _ (List.replicate k 0) [0],nH]
   simp[Nat.add_assoc]
  ·refine ckI (by first | (simp only[Bool.and_eq_true,Bool.and_true,Bool.true_and,decide_eq_true_eq,aB,Nat.ble_eq,aP,aA,List.length_append,List.length_replicate,fC,List.length_append,List.length_cons,List.length_nil,Int.toNat_natCast,and_true,true_and,Bool.or_eq_true,Bool.not_eq_true',bne_iff_ne,ne_eq];done) | (simp only[Bool.and_eq_true,Bool.and_true,Bool.true_and,decide_eq_true_eq,aB,Nat.ble_eq,aP,aA,List.length_append,List.length_replicate,fC,List.length_append,List.length_cons,List.length_nil,Int.toNat_natCast,and_true,true_and,Bool.or_eq_true,Bool.not_eq_true',bne_iff_ne,ne_eq];omega) | rfl | (simp;done) | (simp;omega)) ⟨_,rfl, ?_⟩
   rw[bKf (by simp only[List.length_append,List.length_replicate]) rfl]
   have hk2:k=upM B.length:=by unfold upM;omega
   have hj2:j=upM A.length:=by unfold upM;omega
   rw[hk2,hj2]
   simp only[padM,List.append_assoc] at hq ⊢
   exact hq
theorem bGt (t:Nat) (y:UInt8) (b:List UInt8) (Q:Out→List Blk→Gh→Prop) (hb2:(y::b).length≤4611686018) (hq:Q (.ret (.str (padM (y::b)))) [] {}):∃hv hb,tL hv hb t y b Q:=by
 obtain ⟨hv,hb',e⟩:∃hv hb,tL hv hb t y b Q=_:=⟨_,_,bDb t y b Q⟩
 refine ⟨hv,hb',e.mpr ?_⟩
 delta aEt zM aOm aSy aKv aIs aC5 kM qU aB8 qC aE0 yC aH6 aUm
 clear e
 have hB0:0<(y::b).length:=by simp
 generalize y::b=B at *
 simp only[aXh,dH,aFc,aH,cK,aK]
 refine ⟨⟨0,⟨trivial⟩,by simp⟩, ?_⟩
 intro _ _
 refine ⟨_,rfl,_,rfl,aS (fun h=>absurd rfl h) (fun _ => ?_)⟩
 refine ckI (by first | (simp only[Bool.and_eq_true,Bool.and_true,Bool.true_and,decide_eq_true_eq,aB,Nat.ble_eq,aP,aA,List.length_append,List.length_cons,List.length_nil,Int.toNat_natCast,and_true,true_and,Bool.or_eq_true,Bool.not_eq_true',bne_iff_ne,ne_eq];done) | (simp only[Bool.and_eq_true,Bool.and_true,Bool.true_and,decide_eq_true_eq,aB,Nat.ble_eq,aP,aA,List.length_append,List.length_cons,List.length_nil,Int.toNat_natCast,and_true,true_and,Bool.or_eq_true,Bool.not_eq_true',bne_iff_ne,ne_eq];omega) | rfl | (simp;done) | (simp;omega)) (ckI (by first | (simp only[Bool.and_eq_true,Bool.and_true,Bool.true_and,decide_eq_true_eq,aB,Nat.ble_eq,aP,aA,List.length_append,List.length_cons,List.length_nil,Int.toNat_natCast,and_true,true_and,Bool.or_eq_true,Bool.not_eq_true',bne_iff_ne,ne_eq];done) | (simp only[Bool.and_eq_true,Bool.and_true,Bool.true_and,decide_eq_true_eq,aB,Nat.ble_eq,aP,aA,List.length_append,List.length_cons,List.length_nil,Int.toNat_natCast,and_true,true_and,Bool.or_eq_true,Bool.not_eq_true',bne_iff_ne,ne_eq];omega) | rfl | (simp;done) | (simp;omega)) ⟨⟨0,⟨by omega⟩,by simp⟩, ?_⟩)
 rintro k ⟨hk⟩
 refine ckI (by first | (simp only[Bool.and_eq_true,Bool.and_true,Bool.true_and,decide_eq_true_eq,aB,Nat.ble_eq,aP,aA,List.length_append,List.length_replicate,List.length_append,List.length_cons,List.length_nil,Int.toNat_natCast,and_true,true_and,Bool.or_eq_true,Bool.not_eq_true',bne_iff_ne,ne_eq];done) | (simp only[Bool.and_eq_true,Bool.and_true,Bool.true_and,decide_eq_true_eq,aB,Nat.ble_eq,aP,aA,List.length_append,List.length_replicate,List.length_append,List.length_cons,List.length_nil,Int.toNat_natCast,and_true,true_and,Bool.or_eq_true,Bool.not_eq_true',bne_iff_ne,ne_eq];omega) | rfl | (simp;done) | (simp;omega)) ⟨_,rfl,_,rfl, ?_⟩
 have htk:(((B.length+k:Nat):Int)).tmod 16=(((B.length+k)%16:Nat):Int):=by rw[Int.tmod_eq_emod_of_nonneg (by omega)];omega
 rw[htk]
 refine aS (fun hne => ?_) (fun heqk => ?_)
 ·refine ckI (by first | (simp only[Bool.and_eq_true,Bool.and_true,Bool.true_and,decide_eq_true_eq,aB,Nat.ble_eq,aP,aA,List.length_append,List.length_replicate,List.length_append,List.length_cons,List.length_nil,Int.toNat_natCast,and_true,true_and,Bool.or_eq_true,Bool.not_eq_true',bne_iff_ne,ne_eq];done) | (simp only[Bool.and_eq_true,Bool.and_true,Bool.true_and,decide_eq_true_eq,aB,Nat.ble_eq,aP,aA,List.length_append,List.length_replicate,List.length_append,List.length_cons,List.length_nil,Int.toNat_natCast,and_true,true_and,Bool.or_eq_true,Bool.not_eq_true',bne_iff_ne,ne_eq];omega) | rfl | (simp;done) | (simp;omega)) ⟨by simp,⟨trivial,trivial⟩,k+1,⟨by omega⟩,by omega, ?_⟩
  rw[List.append_assoc _ (List.replicate k 0) [0],nH]
  simp[Nat.add_assoc]
 ·refine ckI (by first | (simp only[Bool.and_eq_true,Bool.and_true,Bool.true_and,decide_eq_true_eq,aB,Nat.ble_eq,aP,aA,List.length_append,List.length_replicate,fC,List.length_append,List.length_cons,List.length_nil,Int.toNat_natCast,and_true,true_and,Bool.or_eq_true,Bool.not_eq_true',bne_iff_ne,ne_eq];done) | (simp only[Bool.and_eq_true,Bool.and_true,Bool.true_and,decide_eq_true_eq,aB,Nat.ble_eq,aP,aA,List.length_append,List.length_replicate,fC,List.length_append,List.length_cons,List.length_nil,Int.toNat_natCast,and_true,true_and,Bool.or_eq_true,Bool.not_eq_true',bne_iff_ne,ne_eq];omega) | rfl | (simp;done) | (simp;omega)) ⟨_,rfl, ?_⟩
  rw[bKf (by simp only[List.length_append,List.length_replicate]) rfl]
  have hk2:k=upM B.length:=by unfold upM;omega
  rw[hk2]
  exact hq
theorem bGs (t:Nat) (x:UInt8) (a:List UInt8) (Q:Out→List Blk→Gh→Prop) (ha:(x::a).length≤4611686018) (hq:Q (.ret (.str (padM (x::a)))) [] {}):∃hv hb,rM hv hb t x a Q:=by
 obtain ⟨hv,hb',e⟩:∃hv hb,rM hv hb t x a Q=_:=⟨_,_,bBu t x a Q⟩
 refine ⟨hv,hb',e.mpr ?_⟩
 delta aKv aIs aC5 kM qU aB8 qC aE0 aEt zM aPn aH6 aUm aSy yC
 clear e
 have hA0:0<(x::a).length:=by simp
 generalize x::a=A at *
 simp only[aXh,dH,aFc,aH,cK,aK]
 refine ckI (by first | (simp only[Bool.and_eq_true,Bool.and_true,Bool.true_and,decide_eq_true_eq,aB,Nat.ble_eq,aP,aA,List.length_append,List.length_cons,List.length_nil,Int.toNat_natCast,and_true,true_and,Bool.or_eq_true,Bool.not_eq_true',bne_iff_ne,ne_eq];done) | (simp only[Bool.and_eq_true,Bool.and_true,Bool.true_and,decide_eq_true_eq,aB,Nat.ble_eq,aP,aA,List.length_append,List.length_cons,List.length_nil,Int.toNat_natCast,and_true,true_and,Bool.or_eq_true,Bool.not_eq_true',bne_iff_ne,ne_eq];omega) | rfl | (simp;done) | (simp;omega)) (ckI (by first | (simp only[Bool.and_eq_true,Bool.and_true,Bool.true_and,decide_eq_true_eq,aB,Nat.ble_eq,aP,aA,List.length_append,List.length_cons,List.length_nil,Int.toNat_natCast,and_true,true_and,Bool.or_eq_true,Bool.not_eq_true',bne_iff_ne,ne_eq];done) | (simp only[Bool.and_eq_true,Bool.and_true,Bool.true_and,decide_eq_true_eq,aB,Nat.ble_eq,aP,aA,List.length_append,List.length_cons,List.length_nil,Int.toNat_natCast,and_true,true_and,Bool.or_eq_true,Bool.not_eq_true',bne_iff_ne,ne_eq];omega) | rfl | (simp;done) | (simp;omega)) ⟨⟨0,⟨by omega⟩,by simp⟩, ?_⟩)
 rintro j ⟨hj⟩
 refine ckI (by first | (simp only[Bool.and_eq_true,Bool.and_true,Bool.true_and,decide_eq_true_eq,aB,Nat.ble_eq,aP,aA,List.length_append,List.length_replicate,List.length_append,List.length_cons,List.length_nil,Int.toNat_natCast,and_true,true_and,Bool.or_eq_true,Bool.not_eq_true',bne_iff_ne,ne_eq];done) | (simp only[Bool.and_eq_true,Bool.and_true,Bool.true_and,decide_eq_true_eq,aB,Nat.ble_eq,aP,aA,List.length_append,List.length_replicate,List.length_append,List.length_cons,List.length_nil,Int.toNat_natCast,and_true,true_and,Bool.or_eq_true,Bool.not_eq_true',bne_iff_ne,ne_eq];omega) | rfl | (simp;done) | (simp;omega)) ⟨_,rfl,_,rfl, ?_⟩
 have htj:(((A.length+j:Nat):Int)).tmod 16=(((A.length+j)%16:Nat):Int):=by rw[Int.tmod_eq_emod_of_nonneg (by omega)];omega
 rw[htj]
 refine aS (fun hne => ?_) (fun heqj => ?_)
 ·refine ckI (by first | (simp only[Bool.and_eq_true,Bool.and_true,Bool.true_and,decide_eq_true_eq,aB,Nat.ble_eq,aP,aA,List.length_append,List.length_replicate,List.length_append,List.length_cons,List.length_nil,Int.toNat_natCast,and_true,true_and,Bool.or_eq_true,Bool.not_eq_true',bne_iff_ne,ne_eq];done) | (simp only[Bool.and_eq_true,Bool.and_true,Bool.true_and,decide_eq_true_eq,aB,Nat.ble_eq,aP,aA,List.length_append,List.length_replicate,List.length_append,List.length_cons,List.length_nil,Int.toNat_natCast,and_true,true_and,Bool.or_eq_true,Bool.not_eq_true',bne_iff_ne,ne_eq];omega) | rfl | (simp;done) | (simp;omega)) ⟨by simp,⟨trivial,trivial⟩,j+1,⟨by omega⟩,by omega, ?_⟩
  rw[List.append_assoc _ (List.replicate j 0) [0],nH]
  simp[Nat.add_assoc]
 ·refine ckI (by first | (simp only[Bool.and_eq_true,Bool.and_true,Bool.true_and,decide_eq_true_eq,aB,Nat.ble_eq,aP,aA,List.length_append,List.length_replicate,List.length_append,List.length_cons,List.length_nil,Int.toNat_natCast,and_true,true_and,Bool.or_eq_true,Bool.not_eq_true',bne_iff_ne,ne_eq];done) | (simp only[Bool.and_eq_true,Bool.and_true,Bool.true_and,decide_eq_true_eq,aB,Nat.ble_eq,aP,aA,List.length_append,List.length_replicate,List.length_append,List.length_cons,List.length_nil,Int.toNat_natCast,and_true,true_and,Bool.or_eq_true,Bool.not_eq_true',bne_iff_ne,ne_eq];omega) | rfl | (simp;done) | (simp;omega)) ⟨⟨0,⟨by omega⟩,by simp⟩, ?_⟩
  rintro k ⟨hk⟩
  refine ckI (by first | (simp only[Bool.and_eq_true,Bool.and_true,Bool.true_and,decide_eq_true_eq,aB,Nat.ble_eq,aP,aA,List.length_append,List.length_replicate,List.length_append,List.length_cons,List.length_nil,Int.toNat_natCast,and_true,true_and,Bool.or_eq_true,Bool.not_eq_true',bne_iff_ne,ne_eq];done) | (simp only[Bool.and_eq_true,Bool.and_true,Bool.true_and,decide_eq_true_eq,aB,Nat.ble_eq,aP,aA,List.length_append,List.length_replicate,List.length_append,List.length_cons,List.length_nil,Int.toNat_natCast,and_true,true_and,Bool.or_eq_true,Bool.not_eq_true',bne_iff_ne,ne_eq];omega) | rfl | (simp;done) | (simp;omega)) ⟨_,rfl,_,rfl, ?_⟩
  have htk:(((A.length+j+k:Nat):Int)).tmod 16=(((A.length+j+k)%16:Nat):Int):=by rw[Int.tmod_eq_emod_of_nonneg (by omega)];omega
  rw[htk]
  refine aS (fun hne => ?_) (fun heqk => ?_)
  ·refine ckI (by first | (simp only[Bool.and_eq_true,Bool.and_true,Bool.true_and,decide_eq_true_eq,aB,Nat.ble_eq,aP,aA,List.length_append,List.length_replicate,List.length_append,List.length_cons,List.length_nil,Int.toNat_natCast,and_true,true_and,Bool.or_eq_true,Bool.not_eq_true',bne_iff_ne,ne_eq];done) | (simp only[Bool.and_eq_true,Bool.and_true,Bool.true_and,decide_eq_true_eq,aB,Nat.ble_eq,aP,aA,List.length_append,List.length_replicate,List.length_append,List.length_cons,List.length_nil,Int.toNat_natCast,and_true,true_and,Bool.or_eq_true,Bool.not_eq_true',bne_iff_ne,ne_eq];omega) | rfl | (simp;done) | (simp;omega)) ⟨by simp,⟨trivial,trivial⟩,k+1,⟨by omega⟩,by omega, ?_⟩
   rw[List.append_assoc _ (List.replicate k 0) [0],nH]
   simp[Nat.add_assoc]
  ·refine ckI (by first | (simp only[Bool.and_eq_true,Bool.and_true,Bool.true_and,decide_eq_true_eq,aB,Nat.ble_eq,aP,aA,List.length_append,List.length_replicate,fC,List.length_append,List.length_cons,List.length_nil,Int.toNat_natCast,and_true,true_and,Bool.or_eq_true,Bool.not_eq_true',bne_iff_ne,ne_eq];done) | (simp only[Bool.and_eq_true,Bool.and_true,Bool.true_and,decide_eq_true_eq,aB,Nat.ble_eq,aP,aA,List.length_append,List.length_replicate,fC,List.length_append,List.length_cons,List.length_nil,Int.toNat_natCast,and_true,true_and,Bool.or_eq_true,Bool.not_eq_true',bne_iff_ne,ne_eq];omega) | rfl | (simp;done) | (simp;omega)) ⟨_,rfl, ?_⟩
   rw[bKf (by simp only[List.length_append,List.length_replicate]) rfl]
   have hk2:k=0:=by omega
   have hj2:j=upM A.length:=by unfold upM;omega
   rw[hk2,hj2]
   simp only[padM,List.replicate_zero,List.append_nil] at hq ⊢
   exact hq
theorem bD6 (t:Nat) (Q:Out→List Blk→Gh→Prop) (hq:Q (.ret (.str [])) [] {}):∃hv hb,tZ hv hb t Q:=by
 obtain ⟨hv,hb',e⟩:∃hv hb,tZ hv hb t Q=_:=⟨_,_,aZa t Q⟩
 refine ⟨hv,hb',e.mpr ?_⟩
 clear e
 exact ⟨⟨0,⟨trivial⟩,by simp⟩,fun _ _=>⟨⟨0,⟨trivial⟩,by simp⟩,fun _ _=>hq⟩⟩
theorem aEj:padM []=[]:=rfl
def yP:Con
 | [.lst _ [.str a,.str b] 2 1],H,K=>Lf (a.length≤4611686018∧b.length≤4611686018)∧∀t,Lf (t=padM a++padM b)→K (.ret (.str t)) H
 | _,_,_=>False
theorem aIk:aG Tryz.prog gl0 167 yP:=by
 refine aT (enters_of (by kernel_rfl)) aQ fun args H Q hc => ?_
 unfold yP at hc
 split at hc
 ·rename_i t a b
  obtain ⟨⟨h1,h2⟩,hq⟩:=hc
  have fin:∀z,z=padM a++padM b→([]:List Blk)=[]∧(∃v,Out.ret (.str z)=.ret v∧old 0 v=true∧noY v=true)∧Q (.ret (.str z)) H:=fun z hz=>⟨rfl,⟨_,rfl,rfl,rfl⟩,hq _ ⟨hz⟩⟩
  match a,b with
  | x::a,y::b=>
   obtain ⟨hv,hb',h⟩:=bGj t x y a b (Q:=fun o H' _=>H'=[]∧(∃v,o=.ret v∧old 0 v=true∧noY v=true)∧Q o H) h1 h2 (fin _ rfl)
   exact ⟨rfl,rfl,_,1000,aY cB _ _ _,rfl,h⟩
  | [],y::b=>
   obtain ⟨hv,hb',h⟩:=bGt t y b (Q:=fun o H' _=>H'=[]∧(∃v,o=.ret v∧old 0 v=true∧noY v=true)∧Q o H) h2 (fin _ (by rw[aEj,List.nil_append]))
   exact ⟨rfl,rfl,_,1000,aY cB _ _ _,rfl,h⟩
  | x::a,[]=>
   obtain ⟨hv,hb',h⟩:=bGs t x a (Q:=fun o H' _=>H'=[]∧(∃v,o=.ret v∧old 0 v=true∧noY v=true)∧Q o H) h1 (fin _ (by rw[aEj,List.append_nil]))
   exact ⟨rfl,rfl,_,1000,aY cB _ _ _,rfl,h⟩
  | [],[]=>
   obtain ⟨hv,hb',h⟩:=bD6 t (Q:=fun o H' _=>H'=[]∧(∃v,o=.ret v∧old 0 v=true∧noY v=true)∧Q o H) (fin _ (by rw[aEj,List.nil_append]))
   exact ⟨rfl,rfl,_,1000,aY cB _ _ _,rfl,h⟩
 ·exact hc.elim
def aHj:Con:=fun args H Q=>mZ [1] H args fun a=>yP a H Q
theorem aKl:aG Tryz.prog gl0 167 aHj:=dM aIk aQ [1] fun args H Q hc=>by
 unfold yP at hc
 split at hc
 ·obtain ⟨h,hq⟩:=hc
  exact ⟨h,fun t ht=>⟨rfl,⟨_,rfl,rfl⟩,hq t ht⟩⟩
 ·exact hc.elim
def uW (n:Nat):List UInt8:=[UInt8.ofNat (n%256),UInt8.ofNat (n/256%256),0,0,0,0,0,0]
def bPt (a b:Nat):List AV:=[.int .u8 (a:Int),.int .u8 (b:Int),.int .u8 0,.int .u8 0,.int .u8 0,.int .u8 0,.int .u8 0,.int .u8 0]
def aOj (n i a b r:Nat) (p:Prop):LInv where
 α:=Nat
 pre _:=Lf p
 st _:=⟨mkT [(3,.sl 0 8 0 8 1),(4,.int .i64 (i:Nat)),(5,.int .i64 (r:Nat))],[⟨.grow,true,bPt a b⟩]⟩
 mu _:=2-i
noncomputable def aWq (hv:Nat→Option Pa) (hb:Nat→Option Bool) (n:Nat):Env:=
 e04 sm0 (fun i=>bif Nat.beq i 168000 then some (fun _=>[[aOj n 0 0 0 n True,aOj n 1 (n%256) 0 (n/256) (0<n),aOj n 2 (n%256) (n/256%256) 0 (0<n/256)]]) else none) hv hb
noncomputable def aE3 (hv:Nat→Option Pa) (hb:Nat→Option Bool) (s:List UInt8) (Q:Out→List Blk→Gh→Prop):Prop:=
 bC (aWq hv hb s.length) (wpx (aWq hv hb s.length) 1000) 168 [.str s] [] {} Q
abbrev bCz:List AV:=[.int .u8 0,.int .u8 0,.int .u8 0,.int .u8 0,.int .u8 0,.int .u8 0,.int .u8 0,.int .u8 0]
abbrev aI3:Prop:=aN (AV.sl 0 8 0 8 1)
abbrev aMm (n_0:Int) (s:List UInt8):Prop:=AV.int .i64 n_0=AV.int .i64 (s.length:Int)
abbrev bJn (s:List UInt8):AV:=.int .u8 ((s.length%256:Nat):Int)
abbrev bGi (s:List UInt8):List AV:=[bJn s,.int .u8 0,.int .u8 0,.int .u8 0,.int .u8 0,.int .u8 0,.int .u8 0,.int .u8 0]
abbrev aO1 (n_0:Int) (s:List UInt8):Prop:=AV.int .i64 n_0=AV.int .i64 ((s.length/256:Nat):Int)
abbrev bG5 (s:List UInt8):List AV:=[.int .u8 ((s.length%256:Nat):Int),.int .u8 ((s.length/256%256:Nat):Int),.int .u8 0,.int .u8 0,.int .u8 0,.int .u8 0,.int .u8 0,.int .u8 0]
abbrev aK7 (n_0:Int):Prop:=AV.int .i64 n_0=AV.int .i64 0
abbrev aSr:Prop:=True∧(0:Nat)=(0:Nat)
abbrev bJb (n_3:Int):List AV:=[.int .u8 n_3,.int .u8 0,.int .u8 0,.int .u8 0,.int .u8 0,.int .u8 0,.int .u8 0,.int .u8 0]
abbrev aQ7 (s:List UInt8):Int:=((s.length/256:Nat):Int)
abbrev bKy (s:List UInt8) (n_3:Int):List AV:=[bJn s,.int .u8 n_3,.int .u8 0,.int .u8 0,.int .u8 0,.int .u8 0,.int .u8 0,.int .u8 0]
abbrev bNl (s:List UInt8):Int:=((s.length%256:Nat):Int)
abbrev bMb (s:List UInt8):AV:=.int .u8 ((s.length/256%256:Nat):Int)
abbrev bJp (s:List UInt8) (n_3:Int):List AV:=[bJn s,bMb s,.int .u8 n_3,.int .u8 0,.int .u8 0,.int .u8 0,.int .u8 0,.int .u8 0]
theorem bN4 (s:List UInt8) (Q:Out→List Blk→Gh→Prop):aE3 (bH [(688136,.int .i64),(688137,.int .i64),(688145,.int .i64),(688146,.int .u8),(688141,.int .i64),(688142,.int .i64),(688149,.str)]) (bI []) s Q =
 (exI .i64 (s.length:Int) (fun n_0=>((∃x_1:Nat,Lf True∧aN bCz∧aI3∧aMm n_0 s∧aN (AV.int .i64 0)∧True)∨(∃x_1:Nat,Lf (0<s.length)∧bCz=bGi s∧aI3∧aO1 n_0 s∧AV.int .i64 0=AV.int .i64 1∧True) ∨
 ∃x_1:Nat,Lf (0<s.length/256)∧bCz=bG5 s∧aI3∧aK7 n_0∧AV.int .i64 0=AV.int .i64 2∧True)∧(Nat→Lf True→exI .i64 (s.length:Int) (fun n_1=>bif decide (n_1>0) then exI .i64 (s.length:Int) (fun n_2=>exW
 .u8 n_2 (fun n_3=>exI .i64 (s.length:Int) (fun n_4=>exI .i64 (Int.fdiv n_4 256) (fun n_5=>aSr∧((∃y_6:Nat,Lf True∧(2:Nat)<(2:Nat)∧bJb n_3=bCz∧aI3∧aMm n_5 s∧AV.int .i64 1=AV.int .i64 0∧True)∨(∃
 y_6:Nat,Lf (0<s.length)∧(1:Nat)<(2:Nat)∧bJb n_3=bGi s∧aI3∧aO1 n_5 s∧aN (AV.int .i64 1)∧True)∨∃y_6:Nat,Lf (0<s.length/256)∧(0:Nat)<(2:Nat)∧bJb n_3=bG5 s∧aI3∧aK7 n_5∧AV.int
 .i64 1=AV.int .i64 2∧True))))) else exS (.str [toB (.int .u8 0),toB (.int .u8 0),toB (.int .u8 0),toB (.int .u8 0),toB (.int .u8 0),toB (.int .u8 0),toB (.int .u8 0),toB (.int .u8 0)]) (fun s_2=>Q (.ret (.str s_2)) [] {}))) ∧
 (Nat→Lf (0<s.length)→exI .i64 (aQ7 s) (fun n_1=>bif decide (n_1>0) then exI .i64 (aQ7 s) (fun n_2=>exW .u8 n_2 (fun n_3=>exI .i64 (aQ7 s) (fun n_4=>exI .i64 (Int.fdiv n_4 256) (fun n_5=>aSr∧((∃y_6:Nat,Lf
 True∧(2:Nat)<(1:Nat)∧bKy s n_3=bCz∧aI3∧aMm n_5 s∧AV.int .i64 2=AV.int .i64 0∧True)∨(∃y_6:Nat,Lf (0<s.length)∧(1:Nat)<(1:Nat)∧bKy s n_3=bGi s∧aI3∧aO1 n_5 s∧AV.int .i64 2=AV.int
 .i64 1∧True)∨∃y_6:Nat,Lf (0<s.length/256)∧(0:Nat)<(1:Nat)∧bKy s n_3=bG5 s∧aI3∧aK7 n_5∧aN (AV.int .i64 2)∧True))))) else exS (.str [toB (.int .u8 (bNl s)),toB (.int .u8 0),toB (.int .u8 0),toB
 (.int .u8 0),toB (.int .u8 0),toB (.int .u8 0),toB (.int .u8 0),toB (.int .u8 0)]) (fun s_2=>Q (.ret (.str s_2)) [] {})))∧(Nat→Lf (0<s.length/256)→exI .i64 0 (fun n_1=>bif decide (n_1>0) then exI .i64 0 (fun n_2=>exW
 .u8 n_2 (fun n_3=>exI .i64 0 (fun n_4=>exI .i64 (Int.fdiv n_4 256) (fun n_5=>aSr∧((∃y_6:Nat,Lf True∧(2:Nat)<(0:Nat)∧bJp s n_3=bCz∧aI3∧aMm n_5 s∧AV.int .i64 3=AV.int .i64 0∧True)∨(∃y_6:Nat,Lf
 (0<s.length)∧(1:Nat)<(0:Nat)∧bJp s n_3=bGi s∧aI3∧aO1 n_5 s∧AV.int .i64 3=AV.int .i64 1∧True)∨∃y_6:Nat,Lf (0<s.length/256)∧(0:Nat)<(0:Nat)∧bJp s n_3=bG5 s∧aI3∧aK7 n_5∧AV.int .i64
 3=AV.int .i64 2∧True))))) else exS (.str [toB (.int .u8 (bNl s)),toB (bMb s),toB (.int .u8 0),toB (.int .u8 0),toB (.int .u8 0),toB (.int .u8 0),toB (.int .u8 0),toB (.int .u8 0)]) (fun s_2=>Q (.ret (.str s_2)) [] {}))))):=
 by kernel_rfl


theorem aUu (s:List UInt8) (Q:Out→List Blk→Gh→Prop) (hl:s.length<65536) (hq:Q (.ret (.str (uW s.length))) [] {}):∃hv hb,aE3 hv hb s Q:=by
 obtain ⟨hv,hb',e⟩:∃hv hb,aE3 hv hb s Q=_:=⟨_,_,bN4 s Q⟩
 refine ⟨hv,hb',e.mpr ?_⟩
 delta bCz aI3 aMm bJn bGi aO1 bG5 aK7 aSr bJb aQ7 bKy bNl bMb bJp
 clear e
 generalize s.length=n at *
 have f:∀m:Nat,Int.fdiv (m:Int) 256=((m/256:Nat):Int):=fun m=>aFn m 256 256 rfl
 have t0:toB (.int .u8 0)=0:=rfl
 refine ⟨_,rfl,.inl ⟨0,⟨trivial⟩,by simp⟩, ?_, ?_, ?_⟩
 ·intro _ _
  refine ⟨_,rfl,aF (fun h => ?_) (fun h => ?_)⟩
  ·refine ⟨_,rfl,_,by rw[iV],_,rfl,_,by rw[f],⟨trivial,rfl⟩,.inr (.inl ⟨0,⟨by omega⟩,by decide,by simp⟩)⟩
  ·obtain rfl:n=0:=by omega
   exact ⟨_,rfl,hq⟩
 ·rintro _ ⟨h0⟩
  refine ⟨_,rfl,aF (fun h => ?_) (fun h => ?_)⟩
  ·refine ⟨_,rfl,_,by rw[iV],_,rfl,_,by rw[f],⟨trivial,rfl⟩,.inr (.inr ⟨0,⟨by omega⟩,by decide, ?_⟩)⟩
   have e0:n/256/256=0:=by omega
   simp[e0]
  ·have e1:n/256%256=0:=by omega
   refine ⟨_,rfl, ?_⟩
   rw[uW,e1] at hq
   simp only[rP,t0]
   exact hq
 ·rintro _ ⟨h0⟩
  first
  | (refine ⟨_,rfl, ?_⟩
     simp only[rP,t0]
     exact hq)
  | (refine ⟨_,rfl,aF (fun h=>by omega) (fun h=>⟨_,rfl, ?_⟩)⟩
     simp only[rP,t0]
     exact hq)
def aYv:Con
 | [.str s],H,K=>Lf (s.length<65536)∧∀t,Lf (t=uW s.length)→K (.ret (.str t)) H
 | _,_,_=>False
theorem bAu:aG Tryz.prog gl0 168 aYv:=by
 refine aT (enters_of (by kernel_rfl)) aQ fun args H Q hc => ?_
 unfold aYv at hc
 split at hc
 ·rename_i s
  obtain ⟨⟨h1⟩,hq⟩:=hc
  obtain ⟨hv,hb',h⟩:=aUu s (Q:=fun o H' _=>H'=[]∧(∃v,o=.ret v∧old 0 v=true∧noY v=true)∧Q o H) h1 ⟨rfl,⟨_,rfl,rfl,rfl⟩,hq _ ⟨rfl⟩⟩
  exact ⟨rfl,rfl,_,1000,aY cB _ _ _,rfl,h⟩
 ·exact hc.elim

def smM:SM:=eY [(165,aAu),(166,bI8),(167,aHj),(168,aYv)]
theorem bIl:∀f g,smM f=some g→aG Tryz.prog gl0 f g:=bK _ (by simp only[List.mem_cons,List.not_mem_nil,or_false,forall_eq_or_imp,forall_eq];exact ⟨aAc,aXb,aKl,bAu⟩)
def kS (key nonce extra hidden:List UInt8):List UInt8:=aU7 ((lT key nonce 0).1.take 32) (((padM extra++padM hidden)++uW extra.length)++uW hidden.length)
noncomputable def aD0 (hv:Nat→Option Pa) (hb:Nat→Option Bool) (key nonce extra hidden:List UInt8) (Q:Out→List Blk→Gh→Prop):Prop:=
 bC (e04 smM (fun _=>none) hv hb) (wpx (e04 smM (fun _=>none) hv hb) 1000) 119 [.str key,.str nonce,.str extra,.str hidden] [] {} Q
theorem bNe (key:List UInt8) (nonce:List UInt8) (extra:List UInt8) (hidden:List UInt8) (Q:Out→List Blk→Gh→Prop):aD0 (bH [(487442,.str),(487449,.str),(487452,.str)]) (bI []) key nonce extra hidden Q=(
(∀s_0:(List UInt8),(∀e_1:Int,((Lf ((lT key nonce (0:Int))=(Prod.mk s_0 e_1))) →
(bif (Nat.ble (32:Nat) (List.length s_0)) then (∃s_2:(List UInt8),(((AV.str (List.take (32:Nat) (List.drop (0:Nat) s_0)))=(AV.str s_2)) ∧
 ((Lf (((List.length extra)≤(4611686018:Nat)) ∧
 ((List.length hidden)≤(4611686018:Nat)))) ∧
 (∀t_3:(List UInt8),((Lf (t_3=((padM extra)++(padM hidden)))) →
((Lf ((List.length extra)<(65536:Nat))) ∧
 (∀t_4:(List UInt8),((Lf (t_4=(uW (List.length extra)))) →
(bif ((decide (((List.length t_3)+(List.length t_4))≤(9223372036854775807:Nat)))&&true) then (∃s_5:(List UInt8),(((AV.str (t_3++t_4))=(AV.str s_5)) ∧
 ((Lf ((List.length hidden)<(65536:Nat))) ∧
 (∀t_6:(List UInt8),((Lf (t_6=(uW (List.length hidden)))) →
(bif ((decide (((List.length s_5)+(List.length t_6))≤(9223372036854775807:Nat)))&&true) then (∃s_7:(List UInt8),(((AV.str (s_5++t_6))=(AV.str s_7)) ∧
 ((Lf ((List.length s_2)=(32:Nat))) ∧
 (∀t_8:(List UInt8),((Lf (t_8=(aU7 s_2 s_7))) →
(Q (Out.ret (AV.str t_8)) [] (Gh.mk (0:Nat) (0:Nat) [])))))))
else False))))))
else False)))))))))
else False))))):=by kernel_rfl

theorem aLj (a:List UInt8):(padM a).length=a.length+upM a.length:=by simp[padM]
theorem aD6 (key nonce extra hidden:List UInt8) (Q:Out→List Blk→Gh→Prop) (hr:rightM key nonce 0=true) (h1:extra.length<65536) (h2:hidden.length<65536) (hq:Q (.ret (.str (kS key nonce extra hidden))) [] {}):∃hv hb,aD0 hv hb key nonce extra hidden Q:=by
 obtain ⟨hv,hb',e⟩:∃hv hb,aD0 hv hb key nonce extra hidden Q=_:=⟨_,_,bNe key nonce extra hidden Q⟩
 refine ⟨hv,hb',e.mpr ?_⟩
 clear e
 have hbl:∀s e,lT key nonce 0=(s,e)→s.length=64:=by
  intro s e h
  rw[lT,if_pos hr] at h
  obtain ⟨rfl,_⟩:=Prod.mk.inj h
  rw[List.length_map,rR]
 intro s e ⟨hs⟩
 have h64:=hbl s e hs
 have hc:kS key nonce extra hidden=aU7 (s.take 32) (((padM extra++padM hidden)++uW extra.length)++uW hidden.length):=by rw[kS,hs]
 rw[hc] at hq
 clear hc hbl hs
 have hp1:=aLj extra
 have hp2:=aLj hidden
 have hu1:upM extra.length≤16:=by unfold upM;omega
 have hu2:upM hidden.length≤16:=by unfold upM;omega
 have hz:∀n,(uW n).length=8:=fun _=>rfl
 refine ckI (by rw[h64];rfl) ⟨_,rfl,⟨by omega,by omega⟩,fun t3 h3=>⟨⟨h1⟩,fun t4 h4 => ?_⟩⟩
 have l3:t3.length=(padM extra).length+(padM hidden).length:=by rw[h3.h,List.length_append]
 have l4:t4.length=8:=by rw[h4.h,hz]
 refine ckI (by first | (simp only[Bool.and_eq_true,Bool.and_true,Bool.true_and,decide_eq_true_eq,aB,Nat.ble_eq,aP,aA,List.length_append,List.length_cons,List.length_nil,Int.toNat_natCast,and_true,true_and,Bool.or_eq_true,Bool.not_eq_true',bne_iff_ne,ne_eq];done) | (simp only[Bool.and_eq_true,Bool.and_true,Bool.true_and,decide_eq_true_eq,aB,Nat.ble_eq,aP,aA,List.length_append,List.length_cons,List.length_nil,Int.toNat_natCast,and_true,true_and,Bool.or_eq_true,Bool.not_eq_true',bne_iff_ne,ne_eq];omega) | rfl | (simp;done) | (simp;omega)) ⟨_,rfl,⟨h2⟩,fun t6 h6 => ?_⟩
 have l6:t6.length=8:=by rw[h6.h,hz]
 refine ckI (by first | (simp only[Bool.and_eq_true,Bool.and_true,Bool.true_and,decide_eq_true_eq,aB,Nat.ble_eq,aP,aA,List.length_append,List.length_cons,List.length_nil,Int.toNat_natCast,and_true,true_and,Bool.or_eq_true,Bool.not_eq_true',bne_iff_ne,ne_eq];done) | (simp only[Bool.and_eq_true,Bool.and_true,Bool.true_and,decide_eq_true_eq,aB,Nat.ble_eq,aP,aA,List.length_append,List.length_cons,List.length_nil,Int.toNat_natCast,and_true,true_and,Bool.or_eq_true,Bool.not_eq_true',bne_iff_ne,ne_eq];omega) | rfl | (simp;done) | (simp;omega)) ⟨_,rfl,⟨by rw[List.drop_zero,List.length_take,h64];rfl⟩,fun t8 h8 => ?_⟩
 rw[h8.h,h6.h,h4.h,h3.h,List.drop_zero]
 exact hq
def rE:Con
 | [.str key,.str nonce,.str extra,.str hidden],H,K=>Lf (rightM key nonce 0=true∧extra.length<65536∧hidden.length<65536)∧∀t,Lf (t=kS key nonce extra hidden)→K (.ret (.str t)) H
 | _,_,_=>False
theorem vP:aG Tryz.prog gl0 119 rE:=by
 refine aT (enters_of (by kernel_rfl)) aQ fun args H Q hc => ?_
 unfold rE at hc
 split at hc
 ·rename_i key nonce extra hidden
  obtain ⟨⟨h1,h2,h3⟩,hq⟩:=hc
  obtain ⟨hv,hb',h⟩:=aD6 key nonce extra hidden (Q:=fun o H' _=>H'=[]∧(∃v,o=.ret v∧old 0 v=true∧noY v=true)∧Q o H) h1 h2 h3 ⟨rfl,⟨_,rfl,rfl,rfl⟩,hq _ ⟨rfl⟩⟩
  exact ⟨rfl,rfl,_,1000,aY bIl _ _ _,rfl,h⟩
 ·exact hc.elim
def smN:SM:=eY [(117,aAl),(165,aAu),(166,bI8),(119,rE)]
theorem bEb:∀f g,smN f=some g→aG Tryz.prog gl0 f g:=bK _ (by simp only[List.mem_cons,List.not_mem_nil,or_false,forall_eq_or_imp,forall_eq];exact ⟨zF,aAc,aXb,vP⟩)
noncomputable def eN (hv:Nat→Option Pa) (hb:Nat→Option Bool):Env:=e04 smN (fun _=>none) hv hb
noncomputable def bCo (hv:Nat→Option Pa) (hb:Nat→Option Bool) (key nonce extra plain:List UInt8) (Q:Out→List Blk→Gh→Prop):Prop:=
 bC (eN hv hb) (wpx (eN hv hb) 1000) 66 [.str key,.str nonce,.str extra,.str plain] [] {} Q
abbrev bMj (key nonce plain:List UInt8) (Q:Out→List Blk→Gh→Prop) (extra:List UInt8):Prop:=∀t_2:List UInt8,∀e_3:Int,Lf (iT key nonce 1 plain=Prod.mk t_2 e_3)→bif e_3 !=0 then Q (.ret (.tup [.str [],.int .i64 e_3])) [] {} else Lf (rightM key nonce 0=true∧extra.length<65536∧t_2.length<65536)∧∀t_4:List UInt8,Lf (t_4=kS key nonce extra t_2)→ckQ (decide (t_2.length+t_4.length≤9223372036854775807)&&true) (exS (.str (t_2++t_4)) (fun s_5=>Q (.ret (.tup [.str s_5,.int .i64 0])) [] {}))
abbrev bDv:Out:=.ret (.tup [.str [],.int .i64 3])
theorem bN5 (key:List UInt8) (nonce:List UInt8) (extra:List UInt8) (plain:List UInt8) (Q:Out→List Blk→Gh→Prop):bCo (bH [(270373,.str),(483351,.int .i64),(483355,.int .i64)]) (bI []) key nonce extra plain Q=(∀s_0:List UInt8,∀e_1:Int,Lf (lT key nonce 0=Prod.mk s_0 e_1)→bif e_1 !=0 then bif e_1 !=0 then Q (.ret (.tup [.str [],.int .i64 e_1])) [] {} else bMj key nonce plain Q extra else exI .i64 (extra.length:Int) (fun n_2=>bif decide (n_2>4096) then Q bDv [] {} else exI .i64 (plain.length:Int) (fun n_3=>bif decide (n_3>4096) then Q bDv [] {} else bMj key nonce plain Q extra))):=by kernel_rfl


theorem kX (w:W16):∀ (f:Nat) (c:Int) (s:List UInt8),s.length≤64*f→(jY w c f s).length=s.length
 | 0,c,s,h=>by
  have:s=[]:=List.length_eq_zero_iff.1 (by omega)
  rw[this];rfl
 | f+1,c,s,h=>by
  rw[jY]
  have hb:=rR w c
  split
  ·rw[xQ];omega
  ·rw[List.length_append,xQ,kX w f (c+1) _ (by rw[List.length_drop];omega),List.length_take,List.length_drop];omega
theorem aMi:∀n x,(aP5 n x).length=n
 | 0,_=>rfl
 | n+1,x=>by rw[aP5,List.length_cons,aMi]
theorem bB9 (key s:List UInt8):(aU7 key s).length=16:=aMi _ _
theorem nG (k n e h:List UInt8):(kS k n e h).length=16:=bB9 _ _
theorem aL7 (key nonce:List UInt8) (b:Bool) (h:rightM key nonce 0=b):rightM key nonce 1=b:=by rw[←h];rfl
theorem aBp {key nonce s:List UInt8} (hr:rightM key nonce 0=true) (hs:s.length≤4096):iT key nonce 1 s=(jY (dS key nonce) 1 70 s,0):=by
 rw[iT,aL7 key nonce true hr,if_neg (by simp),if_neg (by omega),if_neg (by omega)]

def lM (key nonce extra plain:List UInt8):List UInt8×Int:=
 if rightM key nonce 0=false then ([],2) else if 4096<extra.length∨4096<plain.length then ([],3) else (jY (dS key nonce) 1 70 plain++kS key nonce extra (jY (dS key nonce) 1 70 plain),0)
def aZt:Con
 | [.str key,.str nonce,.str extra,.str plain],H,K=>∀t e,Lf (lM key nonce extra plain=(t,e))→K (.ret (.tup [.str t,.int .i64 e])) H
 | _,_,_=>False
theorem aBd {key nonce:List UInt8} {s:List UInt8} {e:Int} (h:lT key nonce 0=(s,e)):(rightM key nonce 0=false∧e=2)∨(rightM key nonce 0=true∧e=0):=by
 rw[lT] at h
 split at h
 ·rename_i hr
  exact .inr ⟨hr,(Prod.mk.inj h).2.symm⟩
 ·rename_i hr
  refine .inl ⟨?_,(Prod.mk.inj h).2.symm⟩
  cases hb:rightM key nonce 0
  ·rfl
  ·exact absurd hb hr
theorem aMh:aG Tryz.prog gl0 66 aZt:=by
 refine aT (enters_of (by kernel_rfl)) aQ fun args H Q hc => ?_
 unfold aZt at hc
 split at hc
 ·rename_i key nonce extra plain
  refine ⟨rfl,rfl,_,1000,aY bEb _ _ _,rfl,(bN5 key nonce extra plain _).mpr ?_⟩
  delta bMj bDv
  intro s e ⟨hs⟩
  rcases aBd hs with ⟨hr,rfl⟩ | ⟨hr,rfl⟩
  ·refine aS (fun h=>aS (fun _ => ?_) (fun h2=>absurd h2 h)) (fun h=>by cases h)
   exact ⟨rfl,⟨_,rfl,rfl,rfl⟩,hc _ _ ⟨by rw[lM,if_pos hr]⟩⟩
  ·refine aS (fun h=>absurd rfl h) (fun _=>⟨_,rfl,aF (fun h2 => ?_) (fun h2=>⟨_,rfl,aF (fun h3 => ?_) (fun h3 => ?_)⟩)⟩)
   ·exact ⟨rfl,⟨_,rfl,rfl,rfl⟩,hc _ _ ⟨by rw[lM,if_neg (by simp[hr]),if_pos (by omega)]⟩⟩
   ·exact ⟨rfl,⟨_,rfl,rfl,rfl⟩,hc _ _ ⟨by rw[lM,if_neg (by simp[hr]),if_pos (by omega)]⟩⟩
   ·intro t e ⟨ht⟩
    have hap:=aBp hr (show plain.length≤4096 by omega)
    rw[hap] at ht
    obtain ⟨ht1,rfl⟩:=Prod.mk.inj ht
    have hl:=kX (dS key nonce) 70 1 plain (by omega)
    rw[ht1] at hl
    refine aS (fun h=>absurd rfl h) (fun _=>⟨⟨hr,by omega,by omega⟩,fun u hu => ?_⟩)
    have hul:u.length=16:=by rw[hu.h,nG]
    refine ckI (by first | (simp only[Bool.and_eq_true,Bool.and_true,Bool.true_and,decide_eq_true_eq,aB,Nat.ble_eq,aP,aA,List.length_append,List.length_cons,List.length_nil,Int.toNat_natCast,and_true,true_and,Bool.or_eq_true,Bool.not_eq_true',bne_iff_ne,ne_eq];done) | (simp only[Bool.and_eq_true,Bool.and_true,Bool.true_and,decide_eq_true_eq,aB,Nat.ble_eq,aP,aA,List.length_append,List.length_cons,List.length_nil,Int.toNat_natCast,and_true,true_and,Bool.or_eq_true,Bool.not_eq_true',bne_iff_ne,ne_eq];omega) | rfl | (simp;done) | (simp;omega)) ⟨_,rfl, ?_⟩
    exact ⟨rfl,⟨_,rfl,rfl,rfl⟩,hc _ _ ⟨by rw[lM,if_neg (by simp[hr]),if_neg (by omega),ht1,hu.h]⟩⟩
 ·exact hc.elim

theorem aBh (a b:Nat):a ^^^ b=0↔a=b:=by
 constructor
 ·intro h
  have:a ^^^ b ^^^ b=0 ^^^ b:=by rw[h]
  rwa [Nat.xor_assoc,Nat.xor_self,Nat.xor_zero,Nat.zero_xor] at this
 ·rintro rfl
  exact Nat.xor_self _
theorem aSu {a b:List UInt8} {x y:UInt8}:a++[x]=b++[y]↔a=b∧x=y:=
 ⟨fun h=>by have h2:=List.append_inj' h rfl;exact ⟨h2.1,by simpa using h2.2⟩,fun ⟨h,k⟩=>by rw[h,k]⟩
def aO0 (a b:List UInt8):LInv where
 α:=Nat×Nat
 pre p:=Lf (p.1≤a.length∧p.2<256∧(p.2=0↔a.take p.1=b.take p.1))
 st p:=⟨mkT [(0,.str a),(1,.str b),(5,.int .u8 (p.2:Nat)),(8,.int .i64 a.length),(9,.int .i64 (p.1:Nat))],[]⟩
 mu p:=a.length-p.1
noncomputable def uK (hv:Nat→Option Pa) (hb:Nat→Option Bool) (a b:List UInt8):Env:=e04 sm0 (fun i=>bif Nat.beq i 128000 then some (fun _=>[[aO0 a b]]) else none) hv hb
noncomputable def aEq (hv:Nat→Option Pa) (hb:Nat→Option Bool) (a b:List UInt8) (Q:Out→List Blk→Gh→Prop):Prop:=
 bC (uK hv hb a b) (wpx (uK hv hb a b) 1000) 128 [.str a,.str b] [] {} Q
abbrev bKh (x_1:Nat×Nat) (a b:List UInt8):Prop:=Lf (x_1.1≤a.length∧x_1.2<256∧(x_1.2=0↔a.take x_1.1=b.take x_1.1))
theorem bL0 (a:List UInt8) (b:List UInt8) (Q:Out→List Blk→Gh→Prop):aEq (bH [(524296,.int .i64),(524303,.int .u8),(524306,.int .u8),(524307,.int .u8),(524308,.int .u8),(524309,.int .i64)]) (bI []) a b Q=(exI .i64 (a.length:Int) (fun n_0=>(∃x_1:Nat×Nat,bKh x_1 a b∧aN (AV.str a)∧aN (AV.str b)∧AV.int .u8 0=AV.int .u8 (x_1.2:Int)∧AV.int .i64 0=AV.int .i64 (x_1.1:Int)∧AV.int .i64 n_0=AV.int .i64 (a.length:Int)∧True)∧∀x_1:Nat×Nat,bKh x_1 a b→bif decide ((x_1.1:Int)<(a.length:Int)) then ckQ (Nat.blt (x_1.1:Int).toNat a.length) (exI .u8 (UInt8.toNat (a.getD (x_1.1:Int).toNat (UInt8.ofNat 0)):Int) (fun n_2=>ckQ (Nat.blt (x_1.1:Int).toNat b.length) (exI .u8 (UInt8.toNat (b.getD (x_1.1:Int).toNat (UInt8.ofNat 0)):Int) (fun n_3=>exW .u8 (((n_2%256).toNat ^^^ (n_3%256).toNat:Nat):Int) (fun n_4=>exW .u8 ((((x_1.2:Int)%256).toNat ||| (n_4%256).toNat:Nat):Int) (fun n_5=>exW .i64 ((x_1.1:Int)+1) (fun n_6=>(True∧(0:Nat)=(0:Nat))∧∃y_7:Nat×Nat,bKh y_7 a b∧a.length-y_7.1<a.length-x_1.1∧aN (AV.str a)∧aN (AV.str b)∧AV.int .u8 n_5=AV.int .u8 (y_7.2:Int)∧AV.int .i64 n_6=AV.int .i64 (y_7.1:Int)∧aN (AV.int .i64 (a.length:Int))∧True))))))) else bif (x_1.2:Int)==0 then Q (.ret (.bool true)) [] {} else Q (.ret (.bool false)) [] {})):=by kernel_rfl

theorem aNn (a b:List UInt8) (Q:Out→List Blk→Gh→Prop) (h1:a.length=b.length) (h2:a.length≤4611686018) (hq:Q (.ret (.bool (decide (a=b)))) [] {}):∃hv hb,aEq hv hb a b Q:=by
 obtain ⟨hv,hb',e⟩:∃hv hb,aEq hv hb a b Q=_:=⟨_,_,bL0 a b Q⟩
 refine ⟨hv,hb',e.mpr ?_⟩
 delta bKh
 clear e
 refine ⟨_,rfl,⟨(0,0),⟨by simp,by simp,by simp⟩,by simp⟩, ?_⟩
 rintro ⟨i,d⟩ ⟨g1,g2,g3⟩
 dsimp only at *
 refine aF (fun hlt => ?_) (fun hge => ?_)
 ·have hi:i<a.length:=by omega
  have hib:i<b.length:=by omega
  have ha:=(a.getD i 0).toNat_lt
  have hb:=(b.getD i 0).toNat_lt
  have hx:(a.getD i 0).toNat ^^^ (b.getD i 0).toNat<256:=Nat.xor_lt_two_pow (n:=8) ha hb
  have ho:d ||| ((a.getD i 0).toNat ^^^ (b.getD i 0).toNat)<256:=Nat.or_lt_two_pow (n:=8) g2 hx
  have m8:∀x:Nat,x<256→((x:Int)%256).toNat=x:=fun x h=>by omega
  have w8:∀x:Nat,x<256→IntKind.wrap .u8 (x:Int)=(x:Int):=fun x h=>by rw[iV,Nat.mod_eq_of_lt h]
  refine ckI (by first | (simp only[Bool.and_eq_true,Bool.and_true,Bool.true_and,decide_eq_true_eq,aB,Nat.ble_eq,aP,aA,List.length_append,List.length_cons,List.length_nil,Int.toNat_natCast,and_true,true_and,Bool.or_eq_true,Bool.not_eq_true',bne_iff_ne,ne_eq];done) | (simp only[Bool.and_eq_true,Bool.and_true,Bool.true_and,decide_eq_true_eq,aB,Nat.ble_eq,aP,aA,List.length_append,List.length_cons,List.length_nil,Int.toNat_natCast,and_true,true_and,Bool.or_eq_true,Bool.not_eq_true',bne_iff_ne,ne_eq];omega) | rfl | (simp;done) | (simp;omega)) ⟨_,rfl,ckI (by first | (simp only[Bool.and_eq_true,Bool.and_true,Bool.true_and,decide_eq_true_eq,aB,Nat.ble_eq,aP,aA,List.length_append,List.length_cons,List.length_nil,Int.toNat_natCast,and_true,true_and,Bool.or_eq_true,Bool.not_eq_true',bne_iff_ne,ne_eq];done) | (simp only[Bool.and_eq_true,Bool.and_true,Bool.true_and,decide_eq_true_eq,aB,Nat.ble_eq,aP,aA,List.length_append,List.length_cons,List.length_nil,Int.toNat_natCast,and_true,true_and,Bool.or_eq_true,Bool.not_eq_true',bne_iff_ne,ne_eq];omega) | rfl | (simp;done) | (simp;omega)) ⟨_,rfl, ?_⟩⟩
  rw[Int.toNat_natCast,show UInt8.ofNat 0=0 from rfl]
  refine ⟨_,by rw[m8 _ ha,m8 _ hb,w8 _ hx],_,by rw[m8 _ g2,m8 _ hx,w8 _ ho], ?_⟩
  refine aI (by omega) (by omega) ⟨⟨trivial,rfl⟩,(i+1,d ||| ((a.getD i 0).toNat ^^^ (b.getD i 0).toNat)),⟨hi,ho, ?_⟩, ?_,by simp⟩
  ·show d ||| ((a.getD i 0).toNat ^^^ (b.getD i 0).toNat)=0↔a.take (i+1)=b.take (i+1)
   rw[lH a 0 hi,lH b 0 hib,aSu,←g3]
   rw[Nat.or_eq_zero_iff,aBh,UInt8.toNat_inj]
  ·show a.length-(i+1)<a.length-i
   omega
 ·obtain rfl:i=a.length:=by omega
  have e1:a.take a.length=a:=List.take_length
  have e2:b.take a.length=b:=by rw[h1,List.take_length]
  rw[e1,e2] at g3
  refine aW (fun h => ?_) (fun h => ?_)
  ·have:a=b:=g3.1 (by omega)
   rw[decide_eq_true this] at hq
   exact hq
  ·have:¬ a=b:=fun h2=>h (by have:=g3.2 h2;omega)
   rw[decide_eq_false this] at hq
   exact hq
def aNp:Con
 | [.str a,.str b],H,K=>Lf (a.length=b.length∧a.length≤4611686018)∧∀t,Lf (t=decide (a=b))→K (.ret (.bool t)) H
 | _,_,_=>False
theorem aS4:aG Tryz.prog gl0 128 aNp:=by
 refine aT (enters_of (by kernel_rfl)) aQ fun args H Q hc => ?_
 unfold aNp at hc
 split at hc
 ·rename_i a b
  obtain ⟨⟨h1,h2⟩,hq⟩:=hc
  obtain ⟨hv,hb',h⟩:=aNn a b (Q:=fun o H' _=>H'=[]∧(∃v,o=.ret v∧old 0 v=true∧noY v=true)∧Q o H) h1 h2 ⟨rfl,⟨_,rfl,rfl,rfl⟩,hq _ ⟨rfl⟩⟩
  exact ⟨rfl,rfl,_,1000,aY cB _ _ _,rfl,h⟩
 ·exact hc.elim

def smO:SM:=eY [(117,aAl),(165,aAu),(119,rE),(128,aNp)]
theorem bHg:∀f g,smO f=some g→aG Tryz.prog gl0 f g:=bK _ (by simp only[List.mem_cons,List.not_mem_nil,or_false,forall_eq_or_imp,forall_eq];exact ⟨zF,aAc,vP,aS4⟩)
noncomputable def aFd (hv:Nat→Option Pa) (hb:Nat→Option Bool) (key nonce extra box:List UInt8) (Q:Out→List Blk→Gh→Prop):Prop:=
 bC (e04 smO (fun _=>none) hv hb) (wpx (e04 smO (fun _=>none) hv hb) 1000) 82 [.str key,.str nonce,.str extra,.str box] [] {} Q
abbrev bKz (n_3:Int) (box:List UInt8):Bool:=decide (0≤n_3)&&true&&Nat.ble n_3.toNat box.length
abbrev bL9 (box:List UInt8) (Q:Out→List Blk→Gh→Prop) (key nonce extra:List UInt8):Prop:=exI .i64 (box.length:Int) (fun n_2=>exW .i64 (n_2-16) (fun n_3=>bif decide (n_3<0) then Q (.ret (.tup [.str [],.int .i64 7])) [] {} else ckQ (bKz n_3 box&&Nat.ble box.length box.length) (exS (.str ((box.drop n_3.toNat).take (box.length-n_3.toNat))) (fun s_4=>ckQ (bKz n_3 box) (exS (.str ((box.drop 0).take (n_3.toNat-0))) (fun s_5=>Lf (rightM key nonce 0=true∧extra.length<65536∧s_5.length<65536)∧∀t_6:List UInt8,Lf (t_6=kS key nonce extra s_5)→Lf (s_4.length=t_6.length∧s_4.length≤4611686018)∧∀t_7:Bool,Lf (t_7=decide (s_4=t_6))→bif t_7 then ckQ (bKz n_3 box) (exS (.str ((box.drop 0).take (n_3.toNat-0))) (fun s_8=>∀t_9:List UInt8,∀e_10:Int,Lf (iT key nonce 1 s_8=Prod.mk t_9 e_10)→Q (.ret (.tup [.str t_9,.int .i64 e_10])) [] {})) else Q (.ret (.tup [.str [],.int .i64 9])) [] {}))))))
theorem bGc (key:List UInt8) (nonce:List UInt8) (extra:List UInt8) (box:List UInt8) (Q:Out→List Blk→Gh→Prop):aFd (bH [(335894,.int .i64),(335895,.int .i64),(335901,.str),(335907,.str),(335915,.str),(483351,.int .i64),(483355,.int .i64)]) (bI []) key nonce extra box Q=(∀s_0:List UInt8,∀e_1:Int,Lf (lT key nonce 0=Prod.mk s_0 e_1)→bif e_1 !=0 then bif e_1 !=0 then Q (.ret (.tup [.str [],.int .i64 e_1])) [] {} else bL9 box Q key nonce extra else exI .i64 (extra.length:Int) (fun n_2=>bif decide (n_2>4096) then Q bDv [] {} else exI .i64 (box.length:Int) (fun n_3=>bif decide (n_3>4112) then Q bDv [] {} else bL9 box Q key nonce extra))):=by kernel_rfl

def oH (key nonce extra box:List UInt8):List UInt8×Int:=
 if rightM key nonce 0=false then ([],2) else if 4096<extra.length∨4112<box.length then ([],3) else if box.length<16 then ([],7) else
  if box.drop (box.length-16)=kS key nonce extra (box.take (box.length-16)) then (jY (dS key nonce) 1 70 (box.take (box.length-16)),0) else ([],9)
def bAe:Con
 | [.str key,.str nonce,.str extra,.str box],H,K=>∀t e,Lf (oH key nonce extra box=(t,e))→K (.ret (.tup [.str t,.int .i64 e])) H
 | _,_,_=>False
theorem aNk:aG Tryz.prog gl0 82 bAe:=by
 refine aT (enters_of (by kernel_rfl)) aQ fun args H Q hc => ?_
 unfold bAe at hc
 split at hc
 ·rename_i key nonce extra box
  refine ⟨rfl,rfl,_,1000,⟨mH,mQ,cZ,bHg⟩,rfl,(bGc key nonce extra box _).mpr ?_⟩
  delta bKz bL9 bDv
  intro s e ⟨hs⟩
  rcases aBd hs with ⟨hr,rfl⟩ | ⟨hr,rfl⟩
  ·refine aS (fun h=>aS (fun _ => ?_) (fun h2=>absurd h2 h)) (fun h=>by cases h)
   exact ⟨rfl,⟨_,rfl,rfl,rfl⟩,hc _ _ ⟨by rw[oH,if_pos hr]⟩⟩
  ·refine aS (fun h=>absurd rfl h) (fun _=>⟨_,rfl,aF (fun h2 => ?_) (fun h2=>⟨_,rfl,aF (fun h3 => ?_) (fun h3 => ?_)⟩)⟩)
   ·exact ⟨rfl,⟨_,rfl,rfl,rfl⟩,hc _ _ ⟨by rw[oH,if_neg (by simp[hr]),if_pos (by omega)]⟩⟩
   ·exact ⟨rfl,⟨_,rfl,rfl,rfl⟩,hc _ _ ⟨by rw[oH,if_neg (by simp[hr]),if_pos (by omega)]⟩⟩
   ·refine ⟨_,rfl,aI (by omega) (by omega) (aF (fun h4 => ?_) (fun h4 => ?_))⟩
    ·exact ⟨rfl,⟨_,rfl,rfl,rfl⟩,hc _ _ ⟨by rw[oH,if_neg (by simp[hr]),if_neg (by omega),if_pos (by omega)]⟩⟩
    ·have en:((box.length:Int)-16).toNat=box.length-16:=by omega
     rw[en]
     have e1:List.take (box.length-(box.length-16)) (List.drop (box.length-16) box)=box.drop (box.length-16):=List.take_of_length_le (by rw[List.length_drop];omega)
     have e2:List.take (box.length-16-0) (List.drop 0 box)=box.take (box.length-16):=by rw[Nat.sub_zero,List.drop_zero]
     rw[e1,e2]
     have hdl:(box.drop (box.length-16)).length=16:=by rw[List.length_drop];omega
     have htl:(box.take (box.length-16)).length=box.length-16:=by rw[List.length_take];omega
     refine ckI (by first | (simp only[Bool.and_eq_true,Bool.and_true,Bool.true_and,decide_eq_true_eq,aB,Nat.ble_eq,aP,aA,List.length_append,List.length_cons,List.length_nil,Int.toNat_natCast,and_true,true_and,Bool.or_eq_true,Bool.not_eq_true',bne_iff_ne,ne_eq];done) | (simp only[Bool.and_eq_true,Bool.and_true,Bool.true_and,decide_eq_true_eq,aB,Nat.ble_eq,aP,aA,List.length_append,List.length_cons,List.length_nil,Int.toNat_natCast,and_true,true_and,Bool.or_eq_true,Bool.not_eq_true',bne_iff_ne,ne_eq];omega) | rfl | (simp;done) | (simp;omega)) ⟨_,rfl,ckI (by first | (simp only[Bool.and_eq_true,Bool.and_true,Bool.true_and,decide_eq_true_eq,aB,Nat.ble_eq,aP,aA,List.length_append,List.length_cons,List.length_nil,Int.toNat_natCast,and_true,true_and,Bool.or_eq_true,Bool.not_eq_true',bne_iff_ne,ne_eq];done) | (simp only[Bool.and_eq_true,Bool.and_true,Bool.true_and,decide_eq_true_eq,aB,Nat.ble_eq,aP,aA,List.length_append,List.length_cons,List.length_nil,Int.toNat_natCast,and_true,true_and,Bool.or_eq_true,Bool.not_eq_true',bne_iff_ne,ne_eq];omega) | rfl | (simp;done) | (simp;omega)) ⟨_,rfl,⟨hr,by omega,by omega⟩,fun u hu=>⟨⟨by rw[hdl,hu.h,nG],by omega⟩,fun b hb => ?_⟩⟩⟩
     by_cases heq:box.drop (box.length-16)=kS key nonce extra (box.take (box.length-16))
     ·have hbt:b=true:=by rw[hb.h,hu.h];exact decide_eq_true heq
      rw[hbt]
      refine ckI (by first | (simp only[Bool.and_eq_true,Bool.and_true,Bool.true_and,decide_eq_true_eq,aB,Nat.ble_eq,aP,aA,List.length_append,List.length_cons,List.length_nil,Int.toNat_natCast,and_true,true_and,Bool.or_eq_true,Bool.not_eq_true',bne_iff_ne,ne_eq];done) | (simp only[Bool.and_eq_true,Bool.and_true,Bool.true_and,decide_eq_true_eq,aB,Nat.ble_eq,aP,aA,List.length_append,List.length_cons,List.length_nil,Int.toNat_natCast,and_true,true_and,Bool.or_eq_true,Bool.not_eq_true',bne_iff_ne,ne_eq];omega) | rfl | (simp;done) | (simp;omega)) ⟨_,rfl,fun t e ht => ?_⟩
      rw[aBp hr (by omega)] at ht
      exact ⟨rfl,⟨_,rfl,rfl,rfl⟩,hc _ _ ⟨by rw[oH,if_neg (by simp[hr]),if_neg (by omega),if_neg (by omega),if_pos heq];exact ht.h⟩⟩
     ·have hbt:b=false:=by rw[hb.h,hu.h];exact decide_eq_false heq
      rw[hbt]
      exact ⟨rfl,⟨_,rfl,rfl,rfl⟩,hc _ _ ⟨by rw[oH,if_neg (by simp[hr]),if_neg (by omega),if_neg (by omega),if_neg heq]⟩⟩
 ·exact hc.elim
end Go.Proofs.YtnhechnaemmdiaaGreatDoor
