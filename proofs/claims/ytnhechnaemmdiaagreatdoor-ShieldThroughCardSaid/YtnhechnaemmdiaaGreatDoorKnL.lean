/-
  Chapter 4: contracts of tag; padded.
-/
import Derived.Test.YtnhechnaemmdiaaGreatDoorKnK
set_option linter.unusedSimpArgs false
set_option linter.unusedVariables false
namespace Go.Proofs.YtnhechnaemmdiaaGreatDoor
open Go.RowKit
set_option maxRecDepth 1000000

def bH9:Con
 | [.str key,.str s],H,K=>Lf (key.length=32)∧∀t,Lf (t=aV2 key s)→K (.ret (.str t)) H
 | _,_,_=>False
theorem aWk:aF Tryz.prog gl0 166 bH9:=by
 refine aP (enters_of (by kernel_rfl)) aM fun args H Q hc => ?_
 unfold bH9 at hc
 split at hc
 ·rename_i key s
  obtain ⟨⟨h1⟩,hq⟩:=hc
  obtain ⟨hv,hb',h⟩:=aXx key s _ _ _ _ _ _ h1 rfl rfl (Q:=fun o H' _=>H'=[]∧(∃v,o=.ret v∧old 0 v=true∧noY v=true)∧Q o H) ⟨rfl,⟨_,rfl,rfl,rfl⟩,hq _ ⟨rfl⟩⟩
  exact ⟨rfl,rfl,_,1000,aT aNx _ _ _,rfl,h⟩
 ·exact hc.elim

def bMc:List Nat→Nat
 | []=>0
 | k::l=>2^k+bMc l
def z8M (j:Nat):List AV:=List.replicate j (.int .u8 0)
def oP (s:S):List (List LInv):=match s.tm.get 3 with
 | .sl id tot _ len _=>(match s.hp[id]? with
  | some b=>[[{ α:=Nat,pre:=fun j=>Lf (j≤(16-len%16)%16),st:=fun j=>⟨T.put 12 (s.tm.keep (bMc [3,6,7,8]) 1 0) 3 (.sl id (tot+j) 0 (len+j) 1),s.hp.set id ⟨.grow,b.lf,b.cs++z8M j⟩⟩,mu:=fun j=>16-j }]]
  | none=>[])
 | _=>[[{ α:=Nat,pre:=fun _=>Lf True,st:=fun _=>⟨s.tm.keep (bMc [3,6,7,8]) 1 0,s.hp⟩,mu:=fun _=>0 }]]
noncomputable def tN (hv:Nat→Option Pa) (hb:Nat→Option Bool) (t:Nat) (x y:UInt8) (a b:List UInt8) (Q:Out→List Blk→Gh→Prop):Prop:=
 aY (e04 sm0 (fun i=>bif Nat.beq i 167002 then some oP else none) hv hb) (wpx (e04 sm0 (fun i=>bif Nat.beq i 167002 then some oP else none) hv hb) 1000) 167 [.lst t [.str (x::a),.str (y::b)] 2 1] [] {} Q
abbrev aCz (s_0:List UInt8):Bool:=aL 0 (ofBytes s_0)
abbrev aCa (s_0:List UInt8) (x_1:Nat):List AV:=ofBytes s_0++z8M x_1
abbrev pE (s_0:List UInt8):Nat:=(ofBytes s_0).length
abbrev aE3:Prop:=aJ (AV.int .i64 2)
abbrev zD:Prop:=aJ (AV.int .i64 0)
abbrev aMz (t:Nat) (x:UInt8) (a:List UInt8) (y:UInt8) (b:List UInt8):Prop:=aJ (AV.lst t [.str (x::a),.str (y::b)] 2 1)∧True
abbrev bAz (s_0:List UInt8) (x_1:Nat):Bool:=Nat.beq (aCa s_0 x_1).length (pE s_0+x_1)&&true&&Nat.beq (0+(s_0.length+x_1)*1) (pE s_0+x_1)
abbrev aUd:Prop:=True∧(0:Nat)=(0:Nat)
abbrev aA4 (s_0:List UInt8) (x_1:Nat) (s_4:List UInt8):Nat:=s_0.length+x_1+s_4.length
abbrev aQh (s_0:List UInt8) (x_1:Nat) (s_4:List UInt8) (x_5:Nat):List AV:=ofBytes s_0++z8M x_1++ofBytes s_4++z8M x_5
abbrev yO:Prop:=aJ (AV.int .i64 1)
theorem bBq (t:Nat) (x:UInt8) (y:UInt8) (a:List UInt8) (b:List UInt8) (Q:Out→List Blk→Gh→Prop):tN (bD [(684043,.str),(684048,.int .i64),(684049,.int .i64),(684056,.str)]) (bE [(684046,false),
 (1684040192,true),(1684032000,false)]) t x y a b Q=(exS (.str (x::a)) (fun s_0=>ckQ (fJ (ofBytes s_0)&&true&&Nat.ble (s_0.length*1) 1099511627776) (ckQ (Nat.blt 0 s_0.length) (ckQ (Nat.ble s_0.length 1099511627776 &&
 Nat.ble (s_0.length*1) 1099511627776) ((∃x_1:Nat,Lf (x_1≤(16-s_0.length%16)%16)∧ckQ (aCz s_0==aCz s_0) (ofBytes s_0=aCa s_0 x_1∧AV.sl 0 (pE s_0) 0 s_0.length 1=AV.sl 0 (pE s_0+x_1) 0 (s_0.length+x_1) 1 ∧
 aE3∧zD∧aMz t x a y b))∧∀x_1:Nat,Lf (x_1≤(16-s_0.length%16)%16)→ckQ (Nat.beq (aCa s_0 x_1).length (pE s_0+x_1)) (exI .i64 ((s_0.length+x_1:Nat):Int) (fun n_2=>exI .i64 (n_2.tmod 16) (fun n_3=>bif
 n_3 !=0 then ckQ (bAz s_0 x_1&&Nat.ble (s_0.length+x_1+1) 1099511627776&&Nat.ble ((s_0.length+x_1+1)*1) 1099511627776) (((aCz s_0&&true||aL 1 (aCa s_0 x_1++[AV.int .u8 0]))&&true)=true∧aUd∧∃y_4:Nat,
 Lf (y_4≤(16-s_0.length%16)%16)∧16-y_4<16-x_1∧ckQ ((aCz s_0&&true)==aCz s_0) (aCa s_0 x_1++[AV.int .u8 0]=aCa s_0 y_4∧AV.sl 0 (pE s_0+x_1+1) 0 (s_0.length+x_1+1) 1=AV.sl 0 (pE s_0+y_4) 0
 (s_0.length+y_4) 1∧aE3∧zD∧aMz t x a y b)) else exS (.str (y::b)) (fun s_4=>ckQ (fJ (ofBytes s_4)&&true&&Nat.ble (s_4.length*1) 1099511627776) (ckQ (Nat.blt 0 s_4.length) (ckQ (bAz s_0 x_1&&Nat.ble (aA4 s_0
 x_1 s_4) 1099511627776&&Nat.ble (aA4 s_0 x_1 s_4*1) 1099511627776) ((∃x_5:Nat,Lf (x_5≤(16-aA4 s_0 x_1 s_4%16)%16)∧ckQ ((aCz s_0&&aCz s_4)==(aCz s_0&&aCz s_4)) (aCa s_0 x_1++ofBytes s_4=aQh s_0 x_1 s_4
 x_5∧AV.sl 0 (pE s_0+x_1+pE s_4) 0 (aA4 s_0 x_1 s_4) 1=AV.sl 0 (pE s_0+x_1+pE s_4+x_5) 0 (aA4 s_0 x_1 s_4+x_5) 1∧aE3∧yO∧aMz t x a y b))∧∀x_5:Nat,Lf (x_5≤(16-aA4 s_0 x_1 s_4%16)%16)→ckQ
 (Nat.beq (aQh s_0 x_1 s_4 x_5).length (pE s_0+x_1+pE s_4+x_5)) (exI .i64 ((aA4 s_0 x_1 s_4+x_5:Nat):Int) (fun n_6=>exI .i64 (n_6.tmod 16) (fun n_7=>bif n_7 !=0 then ckQ (Nat.beq (aQh s_0 x_1 s_4 x_5).length (pE
 s_0+x_1+pE s_4+x_5)&&true&&Nat.beq (0+(aA4 s_0 x_1 s_4+x_5)*1) (pE s_0+x_1+pE s_4+x_5)&&Nat.ble (aA4 s_0 x_1 s_4+x_5+1) 1099511627776&&Nat.ble ((aA4 s_0 x_1 s_4+x_5+1)*1) 1099511627776) (((aCz
 s_0&&aCz s_4&&true||aL 1 (aQh s_0 x_1 s_4 x_5++[AV.int .u8 0]))&&true)=true∧aUd∧∃y_8:Nat,Lf (y_8≤(16-aA4 s_0 x_1 s_4%16)%16)∧16-y_8<16-x_5∧ckQ ((aCz s_0&&aCz s_4&&true)==(aCz s_0&&aCz
 s_4)) (aQh s_0 x_1 s_4 x_5++[AV.int .u8 0]=aQh s_0 x_1 s_4 y_8∧AV.sl 0 (pE s_0+x_1+pE s_4+x_5+1) 0 (aA4 s_0 x_1 s_4+x_5+1) 1=AV.sl 0 (pE s_0+x_1+pE s_4+y_8) 0 (aA4 s_0 x_1 s_4+y_8) 1∧aE3∧yO ∧
 aMz t x a y b)) else ckQ (Nat.beq (aQh s_0 x_1 s_4 x_5).length (pE s_0+x_1+pE s_4+x_5)&&Nat.ble (0+(aA4 s_0 x_1 s_4+x_5)) (pE s_0+x_1+pE s_4+x_5)&&true&&fK (((aQh s_0 x_1 s_4 x_5).drop 0).take (aA4
 s_0 x_1 s_4+x_5))) (exS (.str (List.map toB (((aQh s_0 x_1 s_4 x_5).drop 0).take (aA4 s_0 x_1 s_4+x_5)))) (fun s_8=>Q (.ret (.str s_8)) [] {}))))))))))))))))):=by kernel_rfl

noncomputable def qW (hv:Nat→Option Pa) (hb:Nat→Option Bool) (t:Nat) (y:UInt8) (b:List UInt8) (Q:Out→List Blk→Gh→Prop):Prop:=
 aY (e04 sm0 (fun i=>bif Nat.beq i 167002 then some oP else none) hv hb) (wpx (e04 sm0 (fun i=>bif Nat.beq i 167002 then some oP else none) hv hb) 1000) 167 [.lst t [.str [],.str (y::b)] 2 1] [] {} Q
abbrev aMu (t:Nat) (y:UInt8) (b:List UInt8):Prop:=aJ (AV.lst t [.str [],.str (y::b)] 2 1)∧True
abbrev aMx (y:UInt8) (b:List UInt8):List AV:=ofBytes (y::b)
abbrev aIu (y:UInt8) (b:List UInt8):Bool:=Nat.ble ((y::b).length*1) 1099511627776
abbrev aCf (x_2:Nat) (y:UInt8) (b:List UInt8):Prop:=Lf (x_2≤(16-(y::b).length%16)%16)
abbrev jJ (y:UInt8) (b:List UInt8):Bool:=aL 0 (aMx y b)
abbrev qE (y:UInt8) (b:List UInt8) (x_2:Nat):List AV:=aMx y b++z8M x_2
abbrev aAz (y:UInt8) (b:List UInt8) (x_2:Nat):Nat:=(aMx y b).length+x_2
abbrev oW (y:UInt8) (b:List UInt8) (x_2:Nat):Nat:=(y::b).length+x_2
abbrev aD1 (y:UInt8) (b:List UInt8) (x_2:Nat):AV:=.sl 0 (aAz y b x_2) 0 (oW y b x_2) 1
abbrev aIv (y:UInt8) (b:List UInt8) (x_2:Nat):Bool:=Nat.beq (qE y b x_2).length (aAz y b x_2)
abbrev aQs (y:UInt8) (b:List UInt8) (x_2:Nat):Bool:=Nat.beq (qE y b x_2).length (aAz y b x_2)&&true&&Nat.beq (0+oW y b x_2*1) (aAz y b x_2)&&Nat.ble (oW y b x_2+1) 1099511627776&&Nat.ble ((oW y b x_2+1)*1) 1099511627776
theorem bA6 (t:Nat) (y:UInt8) (b:List UInt8) (Q:Out→List Blk→Gh→Prop):qW (bD [(684048,.int .i64),(684049,.int .i64),(684056,.str)]) (bE [(1684032000,false),(1684040192,true)]) t y b Q=((∃x_0 :
 Nat,Lf True∧AV.nils=AV.nils∧aE3∧zD∧aMu t y b)∧(Nat→Lf True→exI .i64 0 (fun n_0=>exI .i64 (n_0.tmod 16) (fun n_1=>bif n_1 !=0 then false=true∧aUd∧∃y_2:Nat,Lf True∧(0:Nat)<(0:Nat)∧AV.sl 1 1 0
 1 1=AV.nils∧aE3∧zD∧aMu t y b else ckQ (fJ (aMx y b)&&true&&aIu y b) (ckQ (Nat.ble (y::b).length 1099511627776&&aIu y b) ((∃x_2:Nat,aCf x_2 y b∧ckQ (jJ y b==jJ y b) (aMx y b=qE y b x_2 ∧
 AV.sl 0 (aMx y b).length 0 (y::b).length 1=aD1 y b x_2∧aE3∧yO∧aMu t y b))∧∀x_2:Nat,aCf x_2 y b→ckQ (aIv y b x_2) (exI .i64 ((oW y b x_2:Nat):Int) (fun n_3=>exI .i64 (n_3.tmod 16) (fun n_4=>bif n_4
 != 0 then ckQ (aQs y b x_2) (((jJ y b&&true||aL 1 (qE y b x_2++[AV.int .u8 0]))&&true)=true∧aUd∧∃y_5:Nat,aCf y_5 y b∧16-y_5<16-x_2∧ckQ ((jJ y b&&true)==jJ y b) (qE y b x_2++[AV.int .u8
 0]=qE y b y_5∧AV.sl 0 (aAz y b x_2+1) 0 (oW y b x_2+1) 1=aD1 y b y_5∧aE3∧yO∧aMu t y b)) else ckQ (aIv y b x_2&&Nat.ble (0+oW y b x_2) (aAz y b x_2)&&true&&fK (((qE y b x_2).drop 0).take (oW
 y b x_2))) (exS (.str (List.map toB (((qE y b x_2).drop 0).take (oW y b x_2)))) (fun s_5=>Q (.ret (.str s_5)) [] {}))))))))))):=by kernel_rfl

noncomputable def tL (hv:Nat→Option Pa) (hb:Nat→Option Bool) (t:Nat) (x:UInt8) (a:List UInt8) (Q:Out→List Blk→Gh→Prop):Prop:=
 aY (e04 sm0 (fun i=>bif Nat.beq i 167002 then some oP else none) hv hb) (wpx (e04 sm0 (fun i=>bif Nat.beq i 167002 then some oP else none) hv hb) 1000) 167 [.lst t [.str (x::a),.str []] 2 1] [] {} Q
abbrev aKd (t:Nat) (x:UInt8) (a:List UInt8):Prop:=aJ (AV.lst t [.str (x::a),.str []] 2 1)∧True
theorem bA5 (t:Nat) (x:UInt8) (a:List UInt8) (Q:Out→List Blk→Gh→Prop):tL (bD [(684048,.int .i64),(684049,.int .i64),(684056,.str)]) (bE [(1684040192,true),(1684032000,false)]) t x a Q=(ckQ (fJ
 (aMx x a)&&true&&aIu x a) (ckQ (Nat.ble (x::a).length 1099511627776&&aIu x a) ((∃x_0:Nat,aCf x_0 x a∧ckQ (jJ x a==jJ x a) (aMx x a=qE x a x_0∧AV.sl 0 (aMx x a).length 0 (x::a).length 1=aD1 x a x_0
 ∧ aE3∧zD∧aKd t x a))∧∀x_0:Nat,aCf x_0 x a→ckQ (aIv x a x_0) (exI .i64 ((oW x a x_0:Nat):Int) (fun n_1=>exI .i64 (n_1.tmod 16) (fun n_2=>bif n_2 !=0 then ckQ (aQs x a x_0) (((jJ x a&&true||aL 1
 (qE x a x_0++[AV.int .u8 0]))&&true)=true∧aUd∧∃y_3:Nat,aCf y_3 x a∧16-y_3<16-x_0∧ckQ ((jJ x a&&true)==jJ x a) (qE x a x_0++[AV.int .u8 0]=qE x a y_3∧AV.sl 0 (aAz x a x_0+1) 0 (oW x a
 x_0+1) 1=aD1 x a y_3∧aE3∧zD∧aKd t x a)) else ckQ (aIv x a x_0&&true) ((∃x_3:Nat,Lf (x_3≤(16-oW x a x_0%16)%16)∧ckQ (jJ x a==jJ x a) (qE x a x_0=qE x a x_0++z8M x_3∧aD1 x a x_0 =
 AV.sl 0 (aAz x a x_0+x_3) 0 (oW x a x_0+x_3) 1∧aE3∧yO∧aKd t x a))∧∀x_3:Nat,Lf (x_3≤(16-oW x a x_0%16)%16)→ckQ (Nat.beq (qE x a x_0++z8M x_3).length (aAz x a x_0+x_3)) (exI .i64 ((oW x a x_0 +
 x_3:Nat):Int) (fun n_4=>exI .i64 (n_4.tmod 16) (fun n_5=>bif n_5 !=0 then ckQ (Nat.beq (qE x a x_0++z8M x_3).length (aAz x a x_0+x_3)&&true&&Nat.beq (0+(oW x a x_0+x_3)*1) (aAz x a x_0+x_3)&&Nat.ble (oW x
 a x_0+x_3+1) 1099511627776&&Nat.ble ((oW x a x_0+x_3+1)*1) 1099511627776) (((jJ x a&&true||aL 1 (qE x a x_0++z8M x_3++[AV.int .u8 0]))&&true)=true∧aUd∧∃y_6:Nat,Lf (y_6≤(16-oW x a x_0%16) %
 16)∧16-y_6<16-x_3∧ckQ ((jJ x a&&true)==jJ x a) (qE x a x_0++z8M x_3++[AV.int .u8 0]=qE x a x_0++z8M y_6∧AV.sl 0 (aAz x a x_0+x_3+1) 0 (oW x a x_0+x_3+1) 1=AV.sl 0 (aAz x a x_0+y_6) 0 (oW
 x a x_0+y_6) 1∧aE3∧yO∧aKd t x a)) else ckQ (Nat.beq (qE x a x_0++z8M x_3).length (aAz x a x_0+x_3)&&Nat.ble (0+(oW x a x_0+x_3)) (aAz x a x_0+x_3)&&true&&fK (((qE x a x_0++z8M x_3).drop 0).take
 (oW x a x_0+x_3))) (exS (.str (List.map toB (((qE x a x_0++z8M x_3).drop 0).take (oW x a x_0+x_3)))) (fun s_6=>Q (.ret (.str s_6)) [] {})))))))))))):=by kernel_rfl

noncomputable def uD (hv:Nat→Option Pa) (hb:Nat→Option Bool) (t:Nat)  (Q:Out→List Blk→Gh→Prop):Prop:=
 aY (e04 sm0 (fun i=>bif Nat.beq i 167002 then some oP else none) hv hb) (wpx (e04 sm0 (fun i=>bif Nat.beq i 167002 then some oP else none) hv hb) 1000) 167 [.lst t [.str [],.str []] 2 1] [] {} Q
theorem aYx (t:Nat) (Q:Out→List Blk→Gh→Prop):uD (bD []) (bE [(1684032000,false)]) t Q=(
((∃x_0:Nat,((Lf True) ∧
 ((AV.nils=AV.nils) ∧
 (((AV.int .i64 (2:Int))=(AV.int .i64 (2:Int))) ∧
 (((AV.int .i64 (0:Int))=(AV.int .i64 (0:Int))) ∧
 (((AV.lst t ((AV.str [])::((AV.str [])::[])) (2:Nat) (1:Nat))=(AV.lst t ((AV.str [])::((AV.str [])::[])) (2:Nat) (1:Nat))) ∧
 True)))))) ∧
 (Nat →
((Lf True) →
((∃x_0:Nat,((Lf True) ∧
 ((AV.nils=AV.nils) ∧
 (((AV.int .i64 (2:Int))=(AV.int .i64 (2:Int))) ∧
 (((AV.int .i64 (1:Int))=(AV.int .i64 (1:Int))) ∧
 (((AV.lst t ((AV.str [])::((AV.str [])::[])) (2:Nat) (1:Nat))=(AV.lst t ((AV.str [])::((AV.str [])::[])) (2:Nat) (1:Nat))) ∧
 True)))))) ∧
 (Nat →
((Lf True) →
(Q (Out.ret (AV.str [])) [] (Gh.mk (0:Nat) (0:Nat) []))))))))):=by kernel_rfl

def upM (n:Nat):Nat:=(16-n%16)%16
def padM (a:List UInt8):List UInt8:=a++List.replicate (upM a.length) 0
theorem bBp (j:Nat):z8M j=ofBytes (List.replicate j 0):=by simp[z8M,ofBytes]
theorem dE (a b:List UInt8):ofBytes a++ofBytes b=ofBytes (a++b):=by simp[ofBytes]
theorem aD4:[AV.int .u8 0]=ofBytes [0]:=rfl
theorem bZ (l:List UInt8):fJ (ofBytes l)=true:=by
 induction l with
 | nil=>rfl
 | cons x l ih=>simpa [ofBytes,fJ,one] using ih
theorem mG (l:List UInt8):(ofBytes l).map toB=l:=by
 simp only[ofBytes,bSk]
 conv=>rhs;rw[←bTr l]
 congr 1
 funext x
 simp[toB]
theorem bJj {L:List UInt8} {n m:Nat} (hn:n=L.length) (hm:m=0):List.map toB (List.take n (List.drop m (ofBytes L)))=L:=by
 subst hn hm
 rw[bOv,bOk (by rw[aH];omega),mG]
theorem mZ (j:Nat):List.replicate j (0:UInt8)++[0]=List.replicate (j+1) 0:=by rw[List.replicate_succ']

theorem eU (n m:Nat) (l:List UInt8):fK (List.take n (List.drop m (ofBytes l)))=true:=by
 have e:List.take n (List.drop m (ofBytes l))=ofBytes ((l.drop m).take n):=by simp[ofBytes]
 rw[e]
 exact jP _
theorem bFu (t:Nat) (x y:UInt8) (a b:List UInt8) (Q:Out→List Blk→Gh→Prop) (ha:(x::a).length≤4611686018) (hb2:(y::b).length≤4611686018) (hq:Q (.ret (.str (padM (x::a)++padM (y::b)))) [] {}):∃hv hb,tN hv hb t x y a b Q:=by
 obtain ⟨hv,hb',e⟩:∃hv hb,tN hv hb t x y a b Q=_:=⟨_,_,bBq t x y a b Q⟩
 refine ⟨hv,hb',e.mpr ?_⟩
 delta aCz aCa pE aE3 zD aMz bAz aUd aA4 aQh yO
 clear e
 refine ⟨_,rfl, ?_⟩
 have hA0:0<(x::a).length:=by simp
 have hB0:0<(y::b).length:=by simp
 generalize x::a=A at *
 generalize y::b=B at *
 simp only[bBp,dE,aD4,aH,bZ,aK]
 refine ckI (by first | (simp only[bN9,bOh,bOg,bOc,aC,bOi,aN,aA,bN8,bOb,bOe,bOa,bOo,bOp,bOf,bOd,bOj,ne_eq];done) | (simp only[bN9,bOh,bOg,bOc,aC,bOi,aN,aA,bN8,bOb,bOe,bOa,bOo,bOp,bOf,bOd,bOj,ne_eq];omega) | rfl | (simp;done) | (simp;omega)) (ckI (by first | (simp only[bN9,bOh,bOg,bOc,aC,bOi,aN,aA,bN8,bOb,bOe,bOa,bOo,bOp,bOf,bOd,bOj,ne_eq];done) | (simp only[bN9,bOh,bOg,bOc,aC,bOi,aN,aA,bN8,bOb,bOe,bOa,bOo,bOp,bOf,bOd,bOj,ne_eq];omega) | rfl | (simp;done) | (simp;omega)) (ckI (by first | (simp only[bN9,bOh,bOg,bOc,aC,bOi,aN,aA,bN8,bOb,bOe,bOa,bOo,bOp,bOf,bOd,bOj,ne_eq];done) | (simp only[bN9,bOh,bOg,bOc,aC,bOi,aN,aA,bN8,bOb,bOe,bOa,bOo,bOp,bOf,bOd,bOj,ne_eq];omega) | rfl | (simp;done) | (simp;omega)) ⟨⟨0,⟨by omega⟩,by simp⟩, ?_⟩))
 rintro j ⟨hj⟩
 refine ckI (by first | (simp only[bN9,bOh,bOg,bOc,aC,bOi,aN,aA,bN8,bOn,bN8,bOb,bOe,bOa,bOo,bOp,bOf,bOd,bOj,ne_eq];done) | (simp only[bN9,bOh,bOg,bOc,aC,bOi,aN,aA,bN8,bOn,bN8,bOb,bOe,bOa,bOo,bOp,bOf,bOd,bOj,ne_eq];omega) | rfl | (simp;done) | (simp;omega)) ⟨_,rfl,_,rfl, ?_⟩
 have htj:(((A.length+j:Nat):Int)).tmod 16=(((A.length+j)%16:Nat):Int):=by rw[bPz (by omega)];omega
 rw[htj]
 refine bA (fun hne => ?_) (fun heqj => ?_)
 ·refine ckI (by first | (simp only[bN9,bOh,bOg,bOc,aC,bOi,aN,aA,bN8,bOn,bN8,bOb,bOe,bOa,bOo,bOp,bOf,bOd,bOj,ne_eq];done) | (simp only[bN9,bOh,bOg,bOc,aC,bOi,aN,aA,bN8,bOn,bN8,bOb,bOe,bOa,bOo,bOp,bOf,bOd,bOj,ne_eq];omega) | rfl | (simp;done) | (simp;omega)) ⟨by simp,⟨trivial,trivial⟩,j+1,⟨by omega⟩,by omega, ?_⟩
  rw[bOz _ (List.replicate j 0) [0],mZ]
  simp[bPv]
 ·refine ⟨_,rfl,ckI (by first | (simp only[bN9,bOh,bOg,bOc,aC,bOi,aN,aA,bN8,bOb,bOe,bOa,bOo,bOp,bOf,bOd,bOj,ne_eq];done) | (simp only[bN9,bOh,bOg,bOc,aC,bOi,aN,aA,bN8,bOb,bOe,bOa,bOo,bOp,bOf,bOd,bOj,ne_eq];omega) | rfl | (simp;done) | (simp;omega)) (ckI (by first | (simp only[bN9,bOh,bOg,bOc,aC,bOi,aN,aA,bN8,bOb,bOe,bOa,bOo,bOp,bOf,bOd,bOj,ne_eq];done) | (simp only[bN9,bOh,bOg,bOc,aC,bOi,aN,aA,bN8,bOb,bOe,bOa,bOo,bOp,bOf,bOd,bOj,ne_eq];omega) | rfl | (simp;done) | (simp;omega)) (ckI (by first | (simp only[bN9,bOh,bOg,bOc,aC,bOi,aN,aA,bN8,bOn,bN8,bOb,bOe,bOa,bOo,bOp,bOf,bOd,bOj,ne_eq];done) | (simp only[bN9,bOh,bOg,bOc,aC,bOi,aN,aA,bN8,bOn,bN8,bOb,bOe,bOa,bOo,bOp,bOf,bOd,bOj,ne_eq];omega) | rfl | (simp;done) | (simp;omega)) ⟨⟨0,⟨by omega⟩,by simp⟩, ?_⟩))⟩
  rintro k ⟨hk⟩
  refine ckI (by first | (simp only[bN9,bOh,bOg,bOc,aC,bOi,aN,aA,bN8,bOn,bN8,bOb,bOe,bOa,bOo,bOp,bOf,bOd,bOj,ne_eq];done) | (simp only[bN9,bOh,bOg,bOc,aC,bOi,aN,aA,bN8,bOn,bN8,bOb,bOe,bOa,bOo,bOp,bOf,bOd,bOj,ne_eq];omega) | rfl | (simp;done) | (simp;omega)) ⟨_,rfl,_,rfl, ?_⟩
  have htk:(((A.length+j+B.length+k:Nat):Int)).tmod 16=(((A.length+j+B.length+k)%16:Nat):Int):=by rw[bPz (by omega)];omega
  rw[htk]
  refine bA (fun hne => ?_) (fun heqk => ?_)
  ·refine ckI (by first | (simp only[bN9,bOh,bOg,bOc,aC,bOi,aN,aA,bN8,bOn,bN8,bOb,bOe,bOa,bOo,bOp,bOf,bOd,bOj,ne_eq];done) | (simp only[bN9,bOh,bOg,bOc,aC,bOi,aN,aA,bN8,bOn,bN8,bOb,bOe,bOa,bOo,bOp,bOf,bOd,bOj,ne_eq];omega) | rfl | (simp;done) | (simp;omega)) ⟨by simp,⟨trivial,trivial⟩,k+1,⟨by omega⟩,by omega, ?_⟩
   rw[bOz _ (List.replicate k 0) [0],mZ]
   simp[bPv]
  ·refine ckI (by first | (simp only[bN9,bOh,bOg,bOc,aC,bOi,aN,aA,bN8,bOn,eU,bN8,bOb,bOe,bOa,bOo,bOp,bOf,bOd,bOj,ne_eq];done) | (simp only[bN9,bOh,bOg,bOc,aC,bOi,aN,aA,bN8,bOn,eU,bN8,bOb,bOe,bOa,bOo,bOp,bOf,bOd,bOj,ne_eq];omega) | rfl | (simp;done) | (simp;omega)) ⟨_,rfl, ?_⟩
   rw[bJj (by simp only[bN8,bOn]) rfl]
   have hk2:k=upM B.length:=by unfold upM;omega
   have hj2:j=upM A.length:=by unfold upM;omega
   rw[hk2,hj2]
   simp only[padM,bOz] at hq ⊢
   exact hq
theorem bGb (t:Nat) (y:UInt8) (b:List UInt8) (Q:Out→List Blk→Gh→Prop) (hb2:(y::b).length≤4611686018) (hq:Q (.ret (.str (padM (y::b)))) [] {}):∃hv hb,qW hv hb t y b Q:=by
 obtain ⟨hv,hb',e⟩:∃hv hb,qW hv hb t y b Q=_:=⟨_,_,bA6 t y b Q⟩
 refine ⟨hv,hb',e.mpr ?_⟩
 delta aE3 zD aMu aUd aMx aIu aCf jJ qE aAz oW aD1 yO aIv aQs
 clear e
 have hB0:0<(y::b).length:=by simp
 generalize y::b=B at *
 simp only[bBp,dE,aD4,aH,bZ,aK]
 refine ⟨⟨0,⟨trivial⟩,by simp⟩, ?_⟩
 intro _ _
 refine ⟨_,rfl,_,rfl,bA (fun h=>absurd rfl h) (fun _ => ?_)⟩
 refine ckI (by first | (simp only[bN9,bOh,bOg,bOc,aC,bOi,aN,aA,bN8,bOb,bOe,bOa,bOo,bOp,bOf,bOd,bOj,ne_eq];done) | (simp only[bN9,bOh,bOg,bOc,aC,bOi,aN,aA,bN8,bOb,bOe,bOa,bOo,bOp,bOf,bOd,bOj,ne_eq];omega) | rfl | (simp;done) | (simp;omega)) (ckI (by first | (simp only[bN9,bOh,bOg,bOc,aC,bOi,aN,aA,bN8,bOb,bOe,bOa,bOo,bOp,bOf,bOd,bOj,ne_eq];done) | (simp only[bN9,bOh,bOg,bOc,aC,bOi,aN,aA,bN8,bOb,bOe,bOa,bOo,bOp,bOf,bOd,bOj,ne_eq];omega) | rfl | (simp;done) | (simp;omega)) ⟨⟨0,⟨by omega⟩,by simp⟩, ?_⟩)
 rintro k ⟨hk⟩
 refine ckI (by first | (simp only[bN9,bOh,bOg,bOc,aC,bOi,aN,aA,bN8,bOn,bN8,bOb,bOe,bOa,bOo,bOp,bOf,bOd,bOj,ne_eq];done) | (simp only[bN9,bOh,bOg,bOc,aC,bOi,aN,aA,bN8,bOn,bN8,bOb,bOe,bOa,bOo,bOp,bOf,bOd,bOj,ne_eq];omega) | rfl | (simp;done) | (simp;omega)) ⟨_,rfl,_,rfl, ?_⟩
 have htk:(((B.length+k:Nat):Int)).tmod 16=(((B.length+k)%16:Nat):Int):=by rw[bPz (by omega)];omega
 rw[htk]
 refine bA (fun hne => ?_) (fun heqk => ?_)
 ·refine ckI (by first | (simp only[bN9,bOh,bOg,bOc,aC,bOi,aN,aA,bN8,bOn,bN8,bOb,bOe,bOa,bOo,bOp,bOf,bOd,bOj,ne_eq];done) | (simp only[bN9,bOh,bOg,bOc,aC,bOi,aN,aA,bN8,bOn,bN8,bOb,bOe,bOa,bOo,bOp,bOf,bOd,bOj,ne_eq];omega) | rfl | (simp;done) | (simp;omega)) ⟨by simp,⟨trivial,trivial⟩,k+1,⟨by omega⟩,by omega, ?_⟩
  rw[bOz _ (List.replicate k 0) [0],mZ]
  simp[bPv]
 ·refine ckI (by first | (simp only[bN9,bOh,bOg,bOc,aC,bOi,aN,aA,bN8,bOn,eU,bN8,bOb,bOe,bOa,bOo,bOp,bOf,bOd,bOj,ne_eq];done) | (simp only[bN9,bOh,bOg,bOc,aC,bOi,aN,aA,bN8,bOn,eU,bN8,bOb,bOe,bOa,bOo,bOp,bOf,bOd,bOj,ne_eq];omega) | rfl | (simp;done) | (simp;omega)) ⟨_,rfl, ?_⟩
  rw[bJj (by simp only[bN8,bOn]) rfl]
  have hk2:k=upM B.length:=by unfold upM;omega
  rw[hk2]
  exact hq
theorem bDi (t:Nat) (x:UInt8) (a:List UInt8) (Q:Out→List Blk→Gh→Prop) (ha:(x::a).length≤4611686018) (hq:Q (.ret (.str (padM (x::a)))) [] {}):∃hv hb,tL hv hb t x a Q:=by
 obtain ⟨hv,hb',e⟩:∃hv hb,tL hv hb t x a Q=_:=⟨_,_,bA5 t x a Q⟩
 refine ⟨hv,hb',e.mpr ?_⟩
 delta aMx aIu aCf jJ qE aAz oW aD1 aE3 zD aKd aIv aQs aUd yO
 clear e
 have hA0:0<(x::a).length:=by simp
 generalize x::a=A at *
 simp only[bBp,dE,aD4,aH,bZ,aK]
 refine ckI (by first | (simp only[bN9,bOh,bOg,bOc,aC,bOi,aN,aA,bN8,bOb,bOe,bOa,bOo,bOp,bOf,bOd,bOj,ne_eq];done) | (simp only[bN9,bOh,bOg,bOc,aC,bOi,aN,aA,bN8,bOb,bOe,bOa,bOo,bOp,bOf,bOd,bOj,ne_eq];omega) | rfl | (simp;done) | (simp;omega)) (ckI (by first | (simp only[bN9,bOh,bOg,bOc,aC,bOi,aN,aA,bN8,bOb,bOe,bOa,bOo,bOp,bOf,bOd,bOj,ne_eq];done) | (simp only[bN9,bOh,bOg,bOc,aC,bOi,aN,aA,bN8,bOb,bOe,bOa,bOo,bOp,bOf,bOd,bOj,ne_eq];omega) | rfl | (simp;done) | (simp;omega)) ⟨⟨0,⟨by omega⟩,by simp⟩, ?_⟩)
 rintro j ⟨hj⟩
 refine ckI (by first | (simp only[bN9,bOh,bOg,bOc,aC,bOi,aN,aA,bN8,bOn,bN8,bOb,bOe,bOa,bOo,bOp,bOf,bOd,bOj,ne_eq];done) | (simp only[bN9,bOh,bOg,bOc,aC,bOi,aN,aA,bN8,bOn,bN8,bOb,bOe,bOa,bOo,bOp,bOf,bOd,bOj,ne_eq];omega) | rfl | (simp;done) | (simp;omega)) ⟨_,rfl,_,rfl, ?_⟩
 have htj:(((A.length+j:Nat):Int)).tmod 16=(((A.length+j)%16:Nat):Int):=by rw[bPz (by omega)];omega
 rw[htj]
 refine bA (fun hne => ?_) (fun heqj => ?_)
 ·refine ckI (by first | (simp only[bN9,bOh,bOg,bOc,aC,bOi,aN,aA,bN8,bOn,bN8,bOb,bOe,bOa,bOo,bOp,bOf,bOd,bOj,ne_eq];done) | (simp only[bN9,bOh,bOg,bOc,aC,bOi,aN,aA,bN8,bOn,bN8,bOb,bOe,bOa,bOo,bOp,bOf,bOd,bOj,ne_eq];omega) | rfl | (simp;done) | (simp;omega)) ⟨by simp,⟨trivial,trivial⟩,j+1,⟨by omega⟩,by omega, ?_⟩
  rw[bOz _ (List.replicate j 0) [0],mZ]
  simp[bPv]
 ·refine ckI (by first | (simp only[bN9,bOh,bOg,bOc,aC,bOi,aN,aA,bN8,bOn,bN8,bOb,bOe,bOa,bOo,bOp,bOf,bOd,bOj,ne_eq];done) | (simp only[bN9,bOh,bOg,bOc,aC,bOi,aN,aA,bN8,bOn,bN8,bOb,bOe,bOa,bOo,bOp,bOf,bOd,bOj,ne_eq];omega) | rfl | (simp;done) | (simp;omega)) ⟨⟨0,⟨by omega⟩,by simp⟩, ?_⟩
  rintro k ⟨hk⟩
  refine ckI (by first | (simp only[bN9,bOh,bOg,bOc,aC,bOi,aN,aA,bN8,bOn,bN8,bOb,bOe,bOa,bOo,bOp,bOf,bOd,bOj,ne_eq];done) | (simp only[bN9,bOh,bOg,bOc,aC,bOi,aN,aA,bN8,bOn,bN8,bOb,bOe,bOa,bOo,bOp,bOf,bOd,bOj,ne_eq];omega) | rfl | (simp;done) | (simp;omega)) ⟨_,rfl,_,rfl, ?_⟩
  have htk:(((A.length+j+k:Nat):Int)).tmod 16=(((A.length+j+k)%16:Nat):Int):=by rw[bPz (by omega)];omega
  rw[htk]
  refine bA (fun hne => ?_) (fun heqk => ?_)
  ·refine ckI (by first | (simp only[bN9,bOh,bOg,bOc,aC,bOi,aN,aA,bN8,bOn,bN8,bOb,bOe,bOa,bOo,bOp,bOf,bOd,bOj,ne_eq];done) | (simp only[bN9,bOh,bOg,bOc,aC,bOi,aN,aA,bN8,bOn,bN8,bOb,bOe,bOa,bOo,bOp,bOf,bOd,bOj,ne_eq];omega) | rfl | (simp;done) | (simp;omega)) ⟨by simp,⟨trivial,trivial⟩,k+1,⟨by omega⟩,by omega, ?_⟩
   rw[bOz _ (List.replicate k 0) [0],mZ]
   simp[bPv]
  ·refine ckI (by first | (simp only[bN9,bOh,bOg,bOc,aC,bOi,aN,aA,bN8,bOn,eU,bN8,bOb,bOe,bOa,bOo,bOp,bOf,bOd,bOj,ne_eq];done) | (simp only[bN9,bOh,bOg,bOc,aC,bOi,aN,aA,bN8,bOn,eU,bN8,bOb,bOe,bOa,bOo,bOp,bOf,bOd,bOj,ne_eq];omega) | rfl | (simp;done) | (simp;omega)) ⟨_,rfl, ?_⟩
   rw[bJj (by simp only[bN8,bOn]) rfl]
   have hk2:k=0:=by omega
   have hj2:j=upM A.length:=by unfold upM;omega
   rw[hk2,hj2]
   simp only[padM,bSi,bPd] at hq ⊢
   exact hq
theorem bHk (t:Nat) (Q:Out→List Blk→Gh→Prop) (hq:Q (.ret (.str [])) [] {}):∃hv hb,uD hv hb t Q:=by
 obtain ⟨hv,hb',e⟩:∃hv hb,uD hv hb t Q=_:=⟨_,_,aYx t Q⟩
 refine ⟨hv,hb',e.mpr ?_⟩
 clear e
 exact ⟨⟨0,⟨trivial⟩,by simp⟩,fun _ _=>⟨⟨0,⟨trivial⟩,by simp⟩,fun _ _=>hq⟩⟩
theorem aDq:padM []=[]:=rfl
def yS:Con
 | [.lst _ [.str a,.str b] 2 1],H,K=>Lf (a.length≤4611686018∧b.length≤4611686018)∧∀t,Lf (t=padM a++padM b)→K (.ret (.str t)) H
 | _,_,_=>False
theorem aIf:aF Tryz.prog gl0 167 yS:=by
 refine aP (enters_of (by kernel_rfl)) aM fun args H Q hc => ?_
 unfold yS at hc
 split at hc
 ·rename_i t a b
  obtain ⟨⟨h1,h2⟩,hq⟩:=hc
  have fin:∀z,z=padM a++padM b→([]:List Blk)=[]∧(∃v,Out.ret (.str z)=.ret v∧old 0 v=true∧noY v=true)∧Q (.ret (.str z)) H:=fun z hz=>⟨rfl,⟨_,rfl,rfl,rfl⟩,hq _ ⟨hz⟩⟩
  match a,b with
  | x::a,y::b=>
   obtain ⟨hv,hb',h⟩:=bFu t x y a b (Q:=fun o H' _=>H'=[]∧(∃v,o=.ret v∧old 0 v=true∧noY v=true)∧Q o H) h1 h2 (fin _ rfl)
   exact ⟨rfl,rfl,_,1000,aT bT _ _ _,rfl,h⟩
  | [],y::b=>
   obtain ⟨hv,hb',h⟩:=bGb t y b (Q:=fun o H' _=>H'=[]∧(∃v,o=.ret v∧old 0 v=true∧noY v=true)∧Q o H) h2 (fin _ (by rw[aDq,bPg]))
   exact ⟨rfl,rfl,_,1000,aT bT _ _ _,rfl,h⟩
  | x::a,[]=>
   obtain ⟨hv,hb',h⟩:=bDi t x a (Q:=fun o H' _=>H'=[]∧(∃v,o=.ret v∧old 0 v=true∧noY v=true)∧Q o H) h1 (fin _ (by rw[aDq,bPd]))
   exact ⟨rfl,rfl,_,1000,aT bT _ _ _,rfl,h⟩
  | [],[]=>
   obtain ⟨hv,hb',h⟩:=bHk t (Q:=fun o H' _=>H'=[]∧(∃v,o=.ret v∧old 0 v=true∧noY v=true)∧Q o H) (fin _ (by rw[aDq,bPg]))
   exact ⟨rfl,rfl,_,1000,aT bT _ _ _,rfl,h⟩
 ·exact hc.elim
def aFw:Con:=fun args H Q=>sK [1] H args fun a=>yS a H Q
theorem aO5:aF Tryz.prog gl0 167 aFw:=eT aIf aM [1] fun args H Q hc=>by
 unfold yS at hc
 split at hc
 ·obtain ⟨h,hq⟩:=hc
  exact ⟨h,fun t ht=>⟨rfl,⟨_,rfl,rfl⟩,hq t ht⟩⟩
 ·exact hc.elim
def vF (n:Nat):List UInt8:=[UInt8.ofNat (n%256),UInt8.ofNat (n/256%256),0,0,0,0,0,0]
def bN2 (a b:Nat):List AV:=[.int .u8 (a:Int),.int .u8 (b:Int),.int .u8 0,.int .u8 0,.int .u8 0,.int .u8 0,.int .u8 0,.int .u8 0]
def aKl (n i a b r:Nat) (p:Prop):LInv where
 α:=Nat
 pre _:=Lf p
 st _:=⟨mkT [(3,.sl 0 8 0 8 1),(4,.int .i64 (i:Nat)),(5,.int .i64 (r:Nat))],[⟨.grow,true,bN2 a b⟩]⟩
 mu _:=2-i
noncomputable def aU3 (hv:Nat→Option Pa) (hb:Nat→Option Bool) (n:Nat):Env:=
 e04 sm0 (fun i=>bif Nat.beq i 168000 then some (fun _=>[[aKl n 0 0 0 n True,aKl n 1 (n%256) 0 (n/256) (0<n),aKl n 2 (n%256) (n/256%256) 0 (0<n/256)]]) else none) hv hb
noncomputable def aE8 (hv:Nat→Option Pa) (hb:Nat→Option Bool) (s:List UInt8) (Q:Out→List Blk→Gh→Prop):Prop:=
 aY (aU3 hv hb s.length) (wpx (aU3 hv hb s.length) 1000) 168 [.str s] [] {} Q
abbrev aY6:List AV:=[.int .u8 0,.int .u8 0,.int .u8 0,.int .u8 0,.int .u8 0,.int .u8 0,.int .u8 0,.int .u8 0]
abbrev aIc:Prop:=aJ (AV.sl 0 8 0 8 1)
abbrev aOe (n_0:Int) (s:List UInt8):Prop:=AV.int .i64 n_0=AV.int .i64 (s.length:Int)
abbrev bIy (s:List UInt8):AV:=.int .u8 ((s.length%256:Nat):Int)
abbrev bDh (s:List UInt8):List AV:=[bIy s,.int .u8 0,.int .u8 0,.int .u8 0,.int .u8 0,.int .u8 0,.int .u8 0,.int .u8 0]
abbrev aMh (n_0:Int) (s:List UInt8):Prop:=AV.int .i64 n_0=AV.int .i64 ((s.length/256:Nat):Int)
abbrev bEd (s:List UInt8):List AV:=[.int .u8 ((s.length%256:Nat):Int),.int .u8 ((s.length/256%256:Nat):Int),.int .u8 0,.int .u8 0,.int .u8 0,.int .u8 0,.int .u8 0,.int .u8 0]
abbrev aKi (n_0:Int):Prop:=AV.int .i64 n_0=AV.int .i64 0
abbrev aUk:Prop:=True∧(0:Nat)=(0:Nat)
abbrev bJm (n_3:Int):List AV:=[.int .u8 n_3,.int .u8 0,.int .u8 0,.int .u8 0,.int .u8 0,.int .u8 0,.int .u8 0,.int .u8 0]
abbrev aRv (s:List UInt8):Int:=((s.length/256:Nat):Int)
abbrev bJe (s:List UInt8) (n_3:Int):List AV:=[bIy s,.int .u8 n_3,.int .u8 0,.int .u8 0,.int .u8 0,.int .u8 0,.int .u8 0,.int .u8 0]
abbrev bK7 (s:List UInt8):Int:=((s.length%256:Nat):Int)
abbrev bJ8 (s:List UInt8):AV:=.int .u8 ((s.length/256%256:Nat):Int)
abbrev bI8 (s:List UInt8) (n_3:Int):List AV:=[bIy s,bJ8 s,.int .u8 n_3,.int .u8 0,.int .u8 0,.int .u8 0,.int .u8 0,.int .u8 0]
theorem bL0 (s:List UInt8) (Q:Out→List Blk→Gh→Prop):aE8 (bD [(688136,.int .i64),(688137,.int .i64),(688145,.int .i64),(688146,.int .u8),(688141,.int .i64),(688142,.int .i64),(688149,.str)]) (bE []) s Q =
 (exI .i64 (s.length:Int) (fun n_0=>((∃x_1:Nat,Lf True∧aJ aY6∧aIc∧aOe n_0 s∧aJ (AV.int .i64 0)∧True)∨(∃x_1:Nat,Lf (0<s.length)∧aY6=bDh s∧aIc∧aMh n_0 s∧AV.int .i64 0=AV.int .i64 1∧True) ∨
 ∃x_1:Nat,Lf (0<s.length/256)∧aY6=bEd s∧aIc∧aKi n_0∧AV.int .i64 0=AV.int .i64 2∧True)∧(Nat→Lf True→exI .i64 (s.length:Int) (fun n_1=>bif decide (n_1>0) then exI .i64 (s.length:Int) (fun n_2=>exW
 .u8 n_2 (fun n_3=>exI .i64 (s.length:Int) (fun n_4=>exI .i64 (Int.fdiv n_4 256) (fun n_5=>aUk∧((∃y_6:Nat,Lf True∧(2:Nat)<(2:Nat)∧bJm n_3=aY6∧aIc∧aOe n_5 s∧AV.int .i64 1=AV.int .i64 0∧True)∨(∃
 y_6:Nat,Lf (0<s.length)∧(1:Nat)<(2:Nat)∧bJm n_3=bDh s∧aIc∧aMh n_5 s∧aJ (AV.int .i64 1)∧True)∨∃y_6:Nat,Lf (0<s.length/256)∧(0:Nat)<(2:Nat)∧bJm n_3=bEd s∧aIc∧aKi n_5∧AV.int
 .i64 1=AV.int .i64 2∧True))))) else exS (.str [toB (.int .u8 0),toB (.int .u8 0),toB (.int .u8 0),toB (.int .u8 0),toB (.int .u8 0),toB (.int .u8 0),toB (.int .u8 0),toB (.int .u8 0)]) (fun s_2=>Q (.ret (.str s_2)) [] {}))) ∧
 (Nat→Lf (0<s.length)→exI .i64 (aRv s) (fun n_1=>bif decide (n_1>0) then exI .i64 (aRv s) (fun n_2=>exW .u8 n_2 (fun n_3=>exI .i64 (aRv s) (fun n_4=>exI .i64 (Int.fdiv n_4 256) (fun n_5=>aUk∧((∃y_6:Nat,Lf
 True∧(2:Nat)<(1:Nat)∧bJe s n_3=aY6∧aIc∧aOe n_5 s∧AV.int .i64 2=AV.int .i64 0∧True)∨(∃y_6:Nat,Lf (0<s.length)∧(1:Nat)<(1:Nat)∧bJe s n_3=bDh s∧aIc∧aMh n_5 s∧AV.int .i64 2=AV.int
 .i64 1∧True)∨∃y_6:Nat,Lf (0<s.length/256)∧(0:Nat)<(1:Nat)∧bJe s n_3=bEd s∧aIc∧aKi n_5∧aJ (AV.int .i64 2)∧True))))) else exS (.str [toB (.int .u8 (bK7 s)),toB (.int .u8 0),toB (.int .u8 0),toB
 (.int .u8 0),toB (.int .u8 0),toB (.int .u8 0),toB (.int .u8 0),toB (.int .u8 0)]) (fun s_2=>Q (.ret (.str s_2)) [] {})))∧(Nat→Lf (0<s.length/256)→exI .i64 0 (fun n_1=>bif decide (n_1>0) then exI .i64 0 (fun n_2=>exW
 .u8 n_2 (fun n_3=>exI .i64 0 (fun n_4=>exI .i64 (Int.fdiv n_4 256) (fun n_5=>aUk∧((∃y_6:Nat,Lf True∧(2:Nat)<(0:Nat)∧bI8 s n_3=aY6∧aIc∧aOe n_5 s∧AV.int .i64 3=AV.int .i64 0∧True)∨(∃y_6:Nat,Lf
 (0<s.length)∧(1:Nat)<(0:Nat)∧bI8 s n_3=bDh s∧aIc∧aMh n_5 s∧AV.int .i64 3=AV.int .i64 1∧True)∨∃y_6:Nat,Lf (0<s.length/256)∧(0:Nat)<(0:Nat)∧bI8 s n_3=bEd s∧aIc∧aKi n_5∧AV.int .i64
 3=AV.int .i64 2∧True))))) else exS (.str [toB (.int .u8 (bK7 s)),toB (bJ8 s),toB (.int .u8 0),toB (.int .u8 0),toB (.int .u8 0),toB (.int .u8 0),toB (.int .u8 0),toB (.int .u8 0)]) (fun s_2=>Q (.ret (.str s_2)) [] {}))))):=
 by kernel_rfl


theorem aTf (s:List UInt8) (Q:Out→List Blk→Gh→Prop) (hl:s.length<65536) (hq:Q (.ret (.str (vF s.length))) [] {}):∃hv hb,aE8 hv hb s Q:=by
 obtain ⟨hv,hb',e⟩:∃hv hb,aE8 hv hb s Q=_:=⟨_,_,bL0 s Q⟩
 refine ⟨hv,hb',e.mpr ?_⟩
 delta aY6 aIc aOe bIy bDh aMh bEd aKi aUk bJm aRv bJe bK7 bJ8 bI8
 clear e
 generalize s.length=n at *
 have f:∀m:Nat,Int.fdiv (m:Int) 256=((m/256:Nat):Int):=fun m=>aE6 m 256 256 rfl
 have t0:toB (.int .u8 0)=0:=rfl
 refine ⟨_,rfl,.inl ⟨0,⟨trivial⟩,by simp⟩, ?_, ?_, ?_⟩
 ·intro _ _
  refine ⟨_,rfl,aD (fun h => ?_) (fun h => ?_)⟩
  ·refine ⟨_,rfl,_,by rw[iF],_,rfl,_,by rw[f],⟨trivial,rfl⟩,.inr (.inl ⟨0,⟨by omega⟩,by decide,by simp⟩)⟩
  ·obtain rfl:n=0:=by omega
   exact ⟨_,rfl,hq⟩
 ·rintro _ ⟨h0⟩
  refine ⟨_,rfl,aD (fun h => ?_) (fun h => ?_)⟩
  ·refine ⟨_,rfl,_,by rw[iF],_,rfl,_,by rw[f],⟨trivial,rfl⟩,.inr (.inr ⟨0,⟨by omega⟩,by decide, ?_⟩)⟩
   have e0:n/256/256=0:=by omega
   simp[e0]
  ·have e1:n/256%256=0:=by omega
   refine ⟨_,rfl, ?_⟩
   rw[vF,e1] at hq
   simp only[rH,t0]
   exact hq
 ·rintro _ ⟨h0⟩
  first
  | (refine ⟨_,rfl, ?_⟩
     simp only[rH,t0]
     exact hq)
  | (refine ⟨_,rfl,aD (fun h=>by omega) (fun h=>⟨_,rfl, ?_⟩)⟩
     simp only[rH,t0]
     exact hq)
def aYt:Con
 | [.str s],H,K=>Lf (s.length<65536)∧∀t,Lf (t=vF s.length)→K (.ret (.str t)) H
 | _,_,_=>False
theorem aYg:aF Tryz.prog gl0 168 aYt:=by
 refine aP (enters_of (by kernel_rfl)) aM fun args H Q hc => ?_
 unfold aYt at hc
 split at hc
 ·rename_i s
  obtain ⟨⟨h1⟩,hq⟩:=hc
  obtain ⟨hv,hb',h⟩:=aTf s (Q:=fun o H' _=>H'=[]∧(∃v,o=.ret v∧old 0 v=true∧noY v=true)∧Q o H) h1 ⟨rfl,⟨_,rfl,rfl,rfl⟩,hq _ ⟨rfl⟩⟩
  exact ⟨rfl,rfl,_,1000,aT bT _ _ _,rfl,h⟩
 ·exact hc.elim

def smM:SM:=dV [(165,aBt),(166,bH9),(167,aFw),(168,aYt)]
theorem bFf:∀f g,smM f=some g→aF Tryz.prog gl0 f g:=bF _ (by simp only[bOr,bOx,bP3,bPj,bQe];exact ⟨zW,aWk,aO5,aYg⟩)
def jN (key nonce extra hidden:List UInt8):List UInt8:=aV2 ((kY key nonce 0).1.take 32) (((padM extra++padM hidden)++vF extra.length)++vF hidden.length)
noncomputable def aDe (hv:Nat→Option Pa) (hb:Nat→Option Bool) (key nonce extra hidden:List UInt8) (Q:Out→List Blk→Gh→Prop):Prop:=
 aY (e04 smM (fun _=>none) hv hb) (wpx (e04 smM (fun _=>none) hv hb) 1000) 119 [.str key,.str nonce,.str extra,.str hidden] [] {} Q
theorem bJw (key:List UInt8) (nonce:List UInt8) (extra:List UInt8) (hidden:List UInt8) (Q:Out→List Blk→Gh→Prop):aDe (bD [(487442,.str),(487449,.str),(487452,.str)]) (bE []) key nonce extra hidden Q=(
(∀s_0:(List UInt8),(∀e_1:Int,((Lf ((kY key nonce (0:Int))=(Prod.mk s_0 e_1))) →
(bif (Nat.ble (32:Nat) (List.length s_0)) then (∃s_2:(List UInt8),(((AV.str (List.take (32:Nat) (List.drop (0:Nat) s_0)))=(AV.str s_2)) ∧
 ((Lf (((List.length extra)≤(4611686018:Nat)) ∧
 ((List.length hidden)≤(4611686018:Nat)))) ∧
 (∀t_3:(List UInt8),((Lf (t_3=((padM extra)++(padM hidden)))) →
((Lf ((List.length extra)<(65536:Nat))) ∧
 (∀t_4:(List UInt8),((Lf (t_4=(vF (List.length extra)))) →
(bif ((decide (((List.length t_3)+(List.length t_4))≤(9223372036854775807:Nat)))&&true) then (∃s_5:(List UInt8),(((AV.str (t_3++t_4))=(AV.str s_5)) ∧
 ((Lf ((List.length hidden)<(65536:Nat))) ∧
 (∀t_6:(List UInt8),((Lf (t_6=(vF (List.length hidden)))) →
(bif ((decide (((List.length s_5)+(List.length t_6))≤(9223372036854775807:Nat)))&&true) then (∃s_7:(List UInt8),(((AV.str (s_5++t_6))=(AV.str s_7)) ∧
 ((Lf ((List.length s_2)=(32:Nat))) ∧
 (∀t_8:(List UInt8),((Lf (t_8=(aV2 s_2 s_7))) →
(Q (Out.ret (AV.str t_8)) [] (Gh.mk (0:Nat) (0:Nat) [])))))))
else False))))))
else False)))))))))
else False))))):=by kernel_rfl

theorem aNe (a:List UInt8):(padM a).length=a.length+upM a.length:=by simp[padM]
theorem aDt (key nonce extra hidden:List UInt8) (Q:Out→List Blk→Gh→Prop) (hr:rightM key nonce 0=true) (h1:extra.length<65536) (h2:hidden.length<65536) (hq:Q (.ret (.str (jN key nonce extra hidden))) [] {}):∃hv hb,aDe hv hb key nonce extra hidden Q:=by
 obtain ⟨hv,hb',e⟩:∃hv hb,aDe hv hb key nonce extra hidden Q=_:=⟨_,_,bJw key nonce extra hidden Q⟩
 refine ⟨hv,hb',e.mpr ?_⟩
 clear e
 have hbl:∀s e,kY key nonce 0=(s,e)→s.length=64:=by
  intro s e h
  rw[kY,if_pos hr] at h
  obtain ⟨rfl,_⟩:=bSh h
  rw[bT3,rF]
 intro s e ⟨hs⟩
 have h64:=hbl s e hs
 have hc:jN key nonce extra hidden=aV2 (s.take 32) (((padM extra++padM hidden)++vF extra.length)++vF hidden.length):=by rw[jN,hs]
 rw[hc] at hq
 clear hc hbl hs
 have hp1:=aNe extra
 have hp2:=aNe hidden
 have hu1:upM extra.length≤16:=by unfold upM;omega
 have hu2:upM hidden.length≤16:=by unfold upM;omega
 have hz:∀n,(vF n).length=8:=fun _=>rfl
 refine ckI (by rw[h64];rfl) ⟨_,rfl,⟨by omega,by omega⟩,fun t3 h3=>⟨⟨h1⟩,fun t4 h4 => ?_⟩⟩
 have l3:t3.length=(padM extra).length+(padM hidden).length:=by rw[h3.h,bN8]
 have l4:t4.length=8:=by rw[h4.h,hz]
 refine ckI (by first | (simp only[bN9,bOh,bOg,bOc,aC,bOi,aN,aA,bN8,bOb,bOe,bOa,bOo,bOp,bOf,bOd,bOj,ne_eq];done) | (simp only[bN9,bOh,bOg,bOc,aC,bOi,aN,aA,bN8,bOb,bOe,bOa,bOo,bOp,bOf,bOd,bOj,ne_eq];omega) | rfl | (simp;done) | (simp;omega)) ⟨_,rfl,⟨h2⟩,fun t6 h6 => ?_⟩
 have l6:t6.length=8:=by rw[h6.h,hz]
 refine ckI (by first | (simp only[bN9,bOh,bOg,bOc,aC,bOi,aN,aA,bN8,bOb,bOe,bOa,bOo,bOp,bOf,bOd,bOj,ne_eq];done) | (simp only[bN9,bOh,bOg,bOc,aC,bOi,aN,aA,bN8,bOb,bOe,bOa,bOo,bOp,bOf,bOd,bOj,ne_eq];omega) | rfl | (simp;done) | (simp;omega)) ⟨_,rfl,⟨by rw[bOv,bOu,h64];rfl⟩,fun t8 h8 => ?_⟩
 rw[h8.h,h6.h,h4.h,h3.h,bOv]
 exact hq
def qB:Con
 | [.str key,.str nonce,.str extra,.str hidden],H,K=>Lf (rightM key nonce 0=true∧extra.length<65536∧hidden.length<65536)∧∀t,Lf (t=jN key nonce extra hidden)→K (.ret (.str t)) H
 | _,_,_=>False
theorem vY:aF Tryz.prog gl0 119 qB:=by
 refine aP (enters_of (by kernel_rfl)) aM fun args H Q hc => ?_
 unfold qB at hc
 split at hc
 ·rename_i key nonce extra hidden
  obtain ⟨⟨h1,h2,h3⟩,hq⟩:=hc
  obtain ⟨hv,hb',h⟩:=aDt key nonce extra hidden (Q:=fun o H' _=>H'=[]∧(∃v,o=.ret v∧old 0 v=true∧noY v=true)∧Q o H) h1 h2 h3 ⟨rfl,⟨_,rfl,rfl,rfl⟩,hq _ ⟨rfl⟩⟩
  exact ⟨rfl,rfl,_,1000,aT bFf _ _ _,rfl,h⟩
 ·exact hc.elim
def smN:SM:=dV [(117,aBx),(165,aBt),(166,bH9),(119,qB)]
theorem bFi:∀f g,smN f=some g→aF Tryz.prog gl0 f g:=bF _ (by simp only[bOr,bOx,bP3,bPj,bQe];exact ⟨qN,zW,aWk,vY⟩)
noncomputable def eN (hv:Nat→Option Pa) (hb:Nat→Option Bool):Env:=e04 smN (fun _=>none) hv hb
noncomputable def bAc (hv:Nat→Option Pa) (hb:Nat→Option Bool) (key nonce extra plain:List UInt8) (Q:Out→List Blk→Gh→Prop):Prop:=
 aY (eN hv hb) (wpx (eN hv hb) 1000) 66 [.str key,.str nonce,.str extra,.str plain] [] {} Q
abbrev bJy (key nonce plain:List UInt8) (Q:Out→List Blk→Gh→Prop) (extra:List UInt8):Prop:=∀t_2:List UInt8,∀e_3:Int,Lf (gV key nonce 1 plain=Prod.mk t_2 e_3)→bif e_3 !=0 then Q (.ret (.tup [.str [],.int .i64 e_3])) [] {} else Lf (rightM key nonce 0=true∧extra.length<65536∧t_2.length<65536)∧∀t_4:List UInt8,Lf (t_4=jN key nonce extra t_2)→ckQ (decide (t_2.length+t_4.length≤9223372036854775807)&&true) (exS (.str (t_2++t_4)) (fun s_5=>Q (.ret (.tup [.str s_5,.int .i64 0])) [] {}))
abbrev bCr:Out:=.ret (.tup [.str [],.int .i64 3])
theorem bLj (key:List UInt8) (nonce:List UInt8) (extra:List UInt8) (plain:List UInt8) (Q:Out→List Blk→Gh→Prop):bAc (bD [(270373,.str),(483351,.int .i64),(483355,.int .i64)]) (bE []) key nonce extra plain Q=(∀s_0:List UInt8,∀e_1:Int,Lf (kY key nonce 0=Prod.mk s_0 e_1)→bif e_1 !=0 then bif e_1 !=0 then Q (.ret (.tup [.str [],.int .i64 e_1])) [] {} else bJy key nonce plain Q extra else exI .i64 (extra.length:Int) (fun n_2=>bif decide (n_2>4096) then Q bCr [] {} else exI .i64 (plain.length:Int) (fun n_3=>bif decide (n_3>4096) then Q bCr [] {} else bJy key nonce plain Q extra))):=by kernel_rfl


theorem kD (w:W16):∀ (f:Nat) (c:Int) (s:List UInt8),s.length≤64*f→(jF w c f s).length=s.length
 | 0,c,s,h=>by
  have:s=[]:=bO8.1 (by omega)
  rw[this];rfl
 | f+1,c,s,h=>by
  rw[jF]
  have hb:=rF w c
  split
  ·rw[yT];omega
  ·rw[bN8,yT,kD w f (c+1) _ (by rw[bO7];omega),bOu,bO7];omega
theorem aPt:∀n x,(aQn n x).length=n
 | 0,_=>rfl
 | n+1,x=>by rw[aQn,bOb,aPt]
theorem aWw (key s:List UInt8):(aV2 key s).length=16:=aPt _ _
theorem nG (k n e h:List UInt8):(jN k n e h).length=16:=aWw _ _
theorem aL4 (key nonce:List UInt8) (b:Bool) (h:rightM key nonce 0=b):rightM key nonce 1=b:=by rw[←h];rfl
theorem aBe {key nonce s:List UInt8} (hr:rightM key nonce 0=true) (hs:s.length≤4096):gV key nonce 1 s=(jF (dK key nonce) 1 70 s,0):=by
 rw[gV,aL4 key nonce true hr,if_neg (by simp),if_neg (by omega),if_neg (by omega)]

def jW (key nonce extra plain:List UInt8):List UInt8×Int:=
 if rightM key nonce 0=false then ([],2) else if 4096<extra.length∨4096<plain.length then ([],3) else (jF (dK key nonce) 1 70 plain++jN key nonce extra (jF (dK key nonce) 1 70 plain),0)
def aW3:Con
 | [.str key,.str nonce,.str extra,.str plain],H,K=>∀t e,Lf (jW key nonce extra plain=(t,e))→K (.ret (.tup [.str t,.int .i64 e])) H
 | _,_,_=>False
theorem aA6 {key nonce:List UInt8} {s:List UInt8} {e:Int} (h:kY key nonce 0=(s,e)):(rightM key nonce 0=false∧e=2)∨(rightM key nonce 0=true∧e=0):=by
 rw[kY] at h
 split at h
 ·rename_i hr
  exact .inr ⟨hr,(bSh h).2.symm⟩
 ·rename_i hr
  refine .inl ⟨?_,(bSh h).2.symm⟩
  cases hb:rightM key nonce 0
  ·rfl
  ·exact absurd hb hr
theorem aKn:aF Tryz.prog gl0 66 aW3:=by
 refine aP (enters_of (by kernel_rfl)) aM fun args H Q hc => ?_
 unfold aW3 at hc
 split at hc
 ·rename_i key nonce extra plain
  refine ⟨rfl,rfl,_,1000,aT bFi _ _ _,rfl,(bLj key nonce extra plain _).mpr ?_⟩
  delta bJy bCr
  intro s e ⟨hs⟩
  rcases aA6 hs with ⟨hr,rfl⟩ | ⟨hr,rfl⟩
  ·refine bA (fun h=>bA (fun _ => ?_) (fun h2=>absurd h2 h)) (fun h=>by cases h)
   exact ⟨rfl,⟨_,rfl,rfl,rfl⟩,hc _ _ ⟨by rw[jW,if_pos hr]⟩⟩
  ·refine bA (fun h=>absurd rfl h) (fun _=>⟨_,rfl,aD (fun h2 => ?_) (fun h2=>⟨_,rfl,aD (fun h3 => ?_) (fun h3 => ?_)⟩)⟩)
   ·exact ⟨rfl,⟨_,rfl,rfl,rfl⟩,hc _ _ ⟨by rw[jW,if_neg (by simp[hr]),if_pos (by omega)]⟩⟩
   ·exact ⟨rfl,⟨_,rfl,rfl,rfl⟩,hc _ _ ⟨by rw[jW,if_neg (by simp[hr]),if_pos (by omega)]⟩⟩
   ·intro t e ⟨ht⟩
    have hap:=aBe hr (show plain.length≤4096 by omega)
    rw[hap] at ht
    obtain ⟨ht1,rfl⟩:=bSh ht
    have hl:=kD (dK key nonce) 70 1 plain (by omega)
    rw[ht1] at hl
    refine bA (fun h=>absurd rfl h) (fun _=>⟨⟨hr,by omega,by omega⟩,fun u hu => ?_⟩)
    have hul:u.length=16:=by rw[hu.h,nG]
    refine ckI (by first | (simp only[bN9,bOh,bOg,bOc,aC,bOi,aN,aA,bN8,bOb,bOe,bOa,bOo,bOp,bOf,bOd,bOj,ne_eq];done) | (simp only[bN9,bOh,bOg,bOc,aC,bOi,aN,aA,bN8,bOb,bOe,bOa,bOo,bOp,bOf,bOd,bOj,ne_eq];omega) | rfl | (simp;done) | (simp;omega)) ⟨_,rfl, ?_⟩
    exact ⟨rfl,⟨_,rfl,rfl,rfl⟩,hc _ _ ⟨by rw[jW,if_neg (by simp[hr]),if_neg (by omega),ht1,hu.h]⟩⟩
 ·exact hc.elim

theorem aCb (a b:Nat):a ^^^ b=0↔a=b:=by
 constructor
 ·intro h
  have:a ^^^ b ^^^ b=0 ^^^ b:=by rw[h]
  rwa [Nat.xor_assoc,Nat.xor_self,Nat.xor_zero,Nat.zero_xor] at this
 ·rintro rfl
  exact Nat.xor_self _
theorem aRi {a b:List UInt8} {x y:UInt8}:a++[x]=b++[y]↔a=b∧x=y:=
 ⟨fun h=>by have h2:=List.append_inj' h rfl;exact ⟨h2.1,by simpa using h2.2⟩,fun ⟨h,k⟩=>by rw[h,k]⟩
def aN3 (a b:List UInt8):LInv where
 α:=Nat×Nat
 pre p:=Lf (p.1≤a.length∧p.2<256∧(p.2=0↔a.take p.1=b.take p.1))
 st p:=⟨mkT [(0,.str a),(1,.str b),(5,.int .u8 (p.2:Nat)),(8,.int .i64 a.length),(9,.int .i64 (p.1:Nat))],[]⟩
 mu p:=a.length-p.1
noncomputable def uE (hv:Nat→Option Pa) (hb:Nat→Option Bool) (a b:List UInt8):Env:=e04 sm0 (fun i=>bif Nat.beq i 128000 then some (fun _=>[[aN3 a b]]) else none) hv hb
noncomputable def aEr (hv:Nat→Option Pa) (hb:Nat→Option Bool) (a b:List UInt8) (Q:Out→List Blk→Gh→Prop):Prop:=
 aY (uE hv hb a b) (wpx (uE hv hb a b) 1000) 128 [.str a,.str b] [] {} Q
abbrev bJd (x_1:Nat×Nat) (a b:List UInt8):Prop:=Lf (x_1.1≤a.length∧x_1.2<256∧(x_1.2=0↔a.take x_1.1=b.take x_1.1))
theorem bLv (a:List UInt8) (b:List UInt8) (Q:Out→List Blk→Gh→Prop):aEr (bD [(524296,.int .i64),(524303,.int .u8),(524306,.int .u8),(524307,.int .u8),(524308,.int .u8),(524309,.int .i64)]) (bE []) a b Q=(exI .i64 (a.length:Int) (fun n_0=>(∃x_1:Nat×Nat,bJd x_1 a b∧aJ (AV.str a)∧aJ (AV.str b)∧AV.int .u8 0=AV.int .u8 (x_1.2:Int)∧AV.int .i64 0=AV.int .i64 (x_1.1:Int)∧AV.int .i64 n_0=AV.int .i64 (a.length:Int)∧True)∧∀x_1:Nat×Nat,bJd x_1 a b→bif decide ((x_1.1:Int)<(a.length:Int)) then ckQ (Nat.blt (x_1.1:Int).toNat a.length) (exI .u8 (UInt8.toNat (a.getD (x_1.1:Int).toNat (UInt8.ofNat 0)):Int) (fun n_2=>ckQ (Nat.blt (x_1.1:Int).toNat b.length) (exI .u8 (UInt8.toNat (b.getD (x_1.1:Int).toNat (UInt8.ofNat 0)):Int) (fun n_3=>exW .u8 (((n_2%256).toNat ^^^ (n_3%256).toNat:Nat):Int) (fun n_4=>exW .u8 ((((x_1.2:Int)%256).toNat ||| (n_4%256).toNat:Nat):Int) (fun n_5=>exW .i64 ((x_1.1:Int)+1) (fun n_6=>(True∧(0:Nat)=(0:Nat))∧∃y_7:Nat×Nat,bJd y_7 a b∧a.length-y_7.1<a.length-x_1.1∧aJ (AV.str a)∧aJ (AV.str b)∧AV.int .u8 n_5=AV.int .u8 (y_7.2:Int)∧AV.int .i64 n_6=AV.int .i64 (y_7.1:Int)∧aJ (AV.int .i64 (a.length:Int))∧True))))))) else bif (x_1.2:Int)==0 then Q (.ret (.bool true)) [] {} else Q (.ret (.bool false)) [] {})):=by kernel_rfl

theorem aO1 (a b:List UInt8) (Q:Out→List Blk→Gh→Prop) (h1:a.length=b.length) (h2:a.length≤4611686018) (hq:Q (.ret (.bool (decide (a=b)))) [] {}):∃hv hb,aEr hv hb a b Q:=by
 obtain ⟨hv,hb',e⟩:∃hv hb,aEr hv hb a b Q=_:=⟨_,_,bLv a b Q⟩
 refine ⟨hv,hb',e.mpr ?_⟩
 delta bJd
 clear e
 refine ⟨_,rfl,⟨(0,0),⟨by simp,by simp,by simp⟩,by simp⟩, ?_⟩
 rintro ⟨i,d⟩ ⟨g1,g2,g3⟩
 dsimp only at *
 refine aD (fun hlt => ?_) (fun hge => ?_)
 ·have hi:i<a.length:=by omega
  have hib:i<b.length:=by omega
  have ha:=(a.getD i 0).toNat_lt
  have hb:=(b.getD i 0).toNat_lt
  have hx:(a.getD i 0).toNat ^^^ (b.getD i 0).toNat<256:=bTi (n:=8) ha hb
  have ho:d ||| ((a.getD i 0).toNat ^^^ (b.getD i 0).toNat)<256:=bQa (n:=8) g2 hx
  have m8:∀x:Nat,x<256→((x:Int)%256).toNat=x:=fun x h=>by omega
  have w8:∀x:Nat,x<256→IntKind.wrap .u8 (x:Int)=(x:Int):=fun x h=>by rw[iF,bPw h]
  refine ckI (by first | (simp only[bN9,bOh,bOg,bOc,aC,bOi,aN,aA,bN8,bOb,bOe,bOa,bOo,bOp,bOf,bOd,bOj,ne_eq];done) | (simp only[bN9,bOh,bOg,bOc,aC,bOi,aN,aA,bN8,bOb,bOe,bOa,bOo,bOp,bOf,bOd,bOj,ne_eq];omega) | rfl | (simp;done) | (simp;omega)) ⟨_,rfl,ckI (by first | (simp only[bN9,bOh,bOg,bOc,aC,bOi,aN,aA,bN8,bOb,bOe,bOa,bOo,bOp,bOf,bOd,bOj,ne_eq];done) | (simp only[bN9,bOh,bOg,bOc,aC,bOi,aN,aA,bN8,bOb,bOe,bOa,bOo,bOp,bOf,bOd,bOj,ne_eq];omega) | rfl | (simp;done) | (simp;omega)) ⟨_,rfl, ?_⟩⟩
  rw[bOa,show UInt8.ofNat 0=0 from rfl]
  refine ⟨_,by rw[m8 _ ha,m8 _ hb,w8 _ hx],_,by rw[m8 _ g2,m8 _ hx,w8 _ ho], ?_⟩
  refine aI (by omega) (by omega) ⟨⟨trivial,rfl⟩,(i+1,d ||| ((a.getD i 0).toNat ^^^ (b.getD i 0).toNat)),⟨hi,ho, ?_⟩, ?_,by simp⟩
  ·show d ||| ((a.getD i 0).toNat ^^^ (b.getD i 0).toNat)=0↔a.take (i+1)=b.take (i+1)
   rw[kJ a 0 hi,kJ b 0 hib,aRi,←g3]
   rw[Nat.or_eq_zero_iff,aCb,bQ9]
  ·show a.length-(i+1)<a.length-i
   omega
 ·obtain rfl:i=a.length:=by omega
  have e1:a.take a.length=a:=bPy
  have e2:b.take a.length=b:=by rw[h1,bPy]
  rw[e1,e2] at g3
  refine aS (fun h => ?_) (fun h => ?_)
  ·have:a=b:=g3.1 (by omega)
   rw[bO4 this] at hq
   exact hq
  ·have:¬ a=b:=fun h2=>h (by have:=g3.2 h2;omega)
   rw[bO0 this] at hq
   exact hq
def aPs:Con
 | [.str a,.str b],H,K=>Lf (a.length=b.length∧a.length≤4611686018)∧∀t,Lf (t=decide (a=b))→K (.ret (.bool t)) H
 | _,_,_=>False
theorem aQ7:aF Tryz.prog gl0 128 aPs:=by
 refine aP (enters_of (by kernel_rfl)) aM fun args H Q hc => ?_
 unfold aPs at hc
 split at hc
 ·rename_i a b
  obtain ⟨⟨h1,h2⟩,hq⟩:=hc
  obtain ⟨hv,hb',h⟩:=aO1 a b (Q:=fun o H' _=>H'=[]∧(∃v,o=.ret v∧old 0 v=true∧noY v=true)∧Q o H) h1 h2 ⟨rfl,⟨_,rfl,rfl,rfl⟩,hq _ ⟨rfl⟩⟩
  exact ⟨rfl,rfl,_,1000,aT bT _ _ _,rfl,h⟩
 ·exact hc.elim

def smO:SM:=dV [(117,aBx),(165,aBt),(119,qB),(128,aPs)]
theorem bEm:∀f g,smO f=some g→aF Tryz.prog gl0 f g:=bF _ (by simp only[bOr,bOx,bP3,bPj,bQe];exact ⟨qN,zW,vY,aQ7⟩)
noncomputable def aDw (hv:Nat→Option Pa) (hb:Nat→Option Bool) (key nonce extra box:List UInt8) (Q:Out→List Blk→Gh→Prop):Prop:=
 aY (e04 smO (fun _=>none) hv hb) (wpx (e04 smO (fun _=>none) hv hb) 1000) 82 [.str key,.str nonce,.str extra,.str box] [] {} Q
abbrev bIm (n_3:Int) (box:List UInt8):Bool:=decide (0≤n_3)&&true&&Nat.ble n_3.toNat box.length
abbrev bLm (box:List UInt8) (Q:Out→List Blk→Gh→Prop) (key nonce extra:List UInt8):Prop:=exI .i64 (box.length:Int) (fun n_2=>exW .i64 (n_2-16) (fun n_3=>bif decide (n_3<0) then Q (.ret (.tup [.str [],.int .i64 7])) [] {} else ckQ (bIm n_3 box&&Nat.ble box.length box.length) (exS (.str ((box.drop n_3.toNat).take (box.length-n_3.toNat))) (fun s_4=>ckQ (bIm n_3 box) (exS (.str ((box.drop 0).take (n_3.toNat-0))) (fun s_5=>Lf (rightM key nonce 0=true∧extra.length<65536∧s_5.length<65536)∧∀t_6:List UInt8,Lf (t_6=jN key nonce extra s_5)→Lf (s_4.length=t_6.length∧s_4.length≤4611686018)∧∀t_7:Bool,Lf (t_7=decide (s_4=t_6))→bif t_7 then ckQ (bIm n_3 box) (exS (.str ((box.drop 0).take (n_3.toNat-0))) (fun s_8=>∀t_9:List UInt8,∀e_10:Int,Lf (gV key nonce 1 s_8=Prod.mk t_9 e_10)→Q (.ret (.tup [.str t_9,.int .i64 e_10])) [] {})) else Q (.ret (.tup [.str [],.int .i64 9])) [] {}))))))
theorem bDe (key:List UInt8) (nonce:List UInt8) (extra:List UInt8) (box:List UInt8) (Q:Out→List Blk→Gh→Prop):aDw (bD [(335894,.int .i64),(335895,.int .i64),(335901,.str),(335907,.str),(335915,.str),(483351,.int .i64),(483355,.int .i64)]) (bE []) key nonce extra box Q=(∀s_0:List UInt8,∀e_1:Int,Lf (kY key nonce 0=Prod.mk s_0 e_1)→bif e_1 !=0 then bif e_1 !=0 then Q (.ret (.tup [.str [],.int .i64 e_1])) [] {} else bLm box Q key nonce extra else exI .i64 (extra.length:Int) (fun n_2=>bif decide (n_2>4096) then Q bCr [] {} else exI .i64 (box.length:Int) (fun n_3=>bif decide (n_3>4112) then Q bCr [] {} else bLm box Q key nonce extra))):=by kernel_rfl

def kX (key nonce extra box:List UInt8):List UInt8×Int:=
 if rightM key nonce 0=false then ([],2) else if 4096<extra.length∨4112<box.length then ([],3) else if box.length<16 then ([],7) else
  if box.drop (box.length-16)=jN key nonce extra (box.take (box.length-16)) then (jF (dK key nonce) 1 70 (box.take (box.length-16)),0) else ([],9)
def bHw:Con
 | [.str key,.str nonce,.str extra,.str box],H,K=>∀t e,Lf (kX key nonce extra box=(t,e))→K (.ret (.tup [.str t,.int .i64 e])) H
 | _,_,_=>False
theorem aOn:aF Tryz.prog gl0 82 bHw:=by
 refine aP (enters_of (by kernel_rfl)) aM fun args H Q hc => ?_
 unfold bHw at hc
 split at hc
 ·rename_i key nonce extra box
  refine ⟨rfl,rfl,_,1000,⟨iB,iZ,bY,bEm⟩,rfl,(bDe key nonce extra box _).mpr ?_⟩
  delta bIm bLm bCr
  intro s e ⟨hs⟩
  rcases aA6 hs with ⟨hr,rfl⟩ | ⟨hr,rfl⟩
  ·refine bA (fun h=>bA (fun _ => ?_) (fun h2=>absurd h2 h)) (fun h=>by cases h)
   exact ⟨rfl,⟨_,rfl,rfl,rfl⟩,hc _ _ ⟨by rw[kX,if_pos hr]⟩⟩
  ·refine bA (fun h=>absurd rfl h) (fun _=>⟨_,rfl,aD (fun h2 => ?_) (fun h2=>⟨_,rfl,aD (fun h3 => ?_) (fun h3 => ?_)⟩)⟩)
   ·exact ⟨rfl,⟨_,rfl,rfl,rfl⟩,hc _ _ ⟨by rw[kX,if_neg (by simp[hr]),if_pos (by omega)]⟩⟩
   ·exact ⟨rfl,⟨_,rfl,rfl,rfl⟩,hc _ _ ⟨by rw[kX,if_neg (by simp[hr]),if_pos (by omega)]⟩⟩
   ·refine ⟨_,rfl,aI (by omega) (by omega) (aD (fun h4 => ?_) (fun h4 => ?_))⟩
    ·exact ⟨rfl,⟨_,rfl,rfl,rfl⟩,hc _ _ ⟨by rw[kX,if_neg (by simp[hr]),if_neg (by omega),if_pos (by omega)]⟩⟩
    ·have en:((box.length:Int)-16).toNat=box.length-16:=by omega
     rw[en]
     have e1:List.take (box.length-(box.length-16)) (List.drop (box.length-16) box)=box.drop (box.length-16):=bOk (by rw[bO7];omega)
     have e2:List.take (box.length-16-0) (List.drop 0 box)=box.take (box.length-16):=by rw[bQw,bOv]
     rw[e1,e2]
     have hdl:(box.drop (box.length-16)).length=16:=by rw[bO7];omega
     have htl:(box.take (box.length-16)).length=box.length-16:=by rw[bOu];omega
     refine ckI (by first | (simp only[bN9,bOh,bOg,bOc,aC,bOi,aN,aA,bN8,bOb,bOe,bOa,bOo,bOp,bOf,bOd,bOj,ne_eq];done) | (simp only[bN9,bOh,bOg,bOc,aC,bOi,aN,aA,bN8,bOb,bOe,bOa,bOo,bOp,bOf,bOd,bOj,ne_eq];omega) | rfl | (simp;done) | (simp;omega)) ⟨_,rfl,ckI (by first | (simp only[bN9,bOh,bOg,bOc,aC,bOi,aN,aA,bN8,bOb,bOe,bOa,bOo,bOp,bOf,bOd,bOj,ne_eq];done) | (simp only[bN9,bOh,bOg,bOc,aC,bOi,aN,aA,bN8,bOb,bOe,bOa,bOo,bOp,bOf,bOd,bOj,ne_eq];omega) | rfl | (simp;done) | (simp;omega)) ⟨_,rfl,⟨hr,by omega,by omega⟩,fun u hu=>⟨⟨by rw[hdl,hu.h,nG],by omega⟩,fun b hb => ?_⟩⟩⟩
     by_cases heq:box.drop (box.length-16)=jN key nonce extra (box.take (box.length-16))
     ·have hbt:b=true:=by rw[hb.h,hu.h];exact bO4 heq
      rw[hbt]
      refine ckI (by first | (simp only[bN9,bOh,bOg,bOc,aC,bOi,aN,aA,bN8,bOb,bOe,bOa,bOo,bOp,bOf,bOd,bOj,ne_eq];done) | (simp only[bN9,bOh,bOg,bOc,aC,bOi,aN,aA,bN8,bOb,bOe,bOa,bOo,bOp,bOf,bOd,bOj,ne_eq];omega) | rfl | (simp;done) | (simp;omega)) ⟨_,rfl,fun t e ht => ?_⟩
      rw[aBe hr (by omega)] at ht
      exact ⟨rfl,⟨_,rfl,rfl,rfl⟩,hc _ _ ⟨by rw[kX,if_neg (by simp[hr]),if_neg (by omega),if_neg (by omega),if_pos heq];exact ht.h⟩⟩
     ·have hbt:b=false:=by rw[hb.h,hu.h];exact bO0 heq
      rw[hbt]
      exact ⟨rfl,⟨_,rfl,rfl,rfl⟩,hc _ _ ⟨by rw[kX,if_neg (by simp[hr]),if_neg (by omega),if_neg (by omega),if_neg heq]⟩⟩
 ·exact hc.elim
end Go.Proofs.YtnhechnaemmdiaaGreatDoor
