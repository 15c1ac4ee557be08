/-
  Chapter 24: receptions; steps of times.
-/
import Derived.Test.YtnhechnaemmdiaaGreatDoorZnB
set_option linter.unusedSimpArgs false
set_option linter.unusedVariables false
set_option linter.unusedSectionVars false
namespace Go.Proofs.YtnhechnaemmdiaaGreatDoor.Cd
open Go.RowKit
set_option maxRecDepth 1000000

abbrev Rc:=Int×Int×Int×Int×Int×Int×Int
def aOz(r:Rc):HB:=[.int .i64 r.1,.int .i64 r.2.1,.int .i64 r.2.2.1,.int .i64 r.2.2.2.1,.int .i64 r.2.2.2.2.1,.int .i64 r.2.2.2.2.2.1,.int .i64 r.2.2.2.2.2.2]
def cellsRM(l:List Rc):HB:=l.flatMap aOz
def rA(r:Rc):Bool:=decide ((0<=r.1∧r.1<4294967296)∧(0<=r.2.1∧r.2.1<256)∧(-8388608<=r.2.2.1∧r.2.2.1<8388608)∧(0<=r.2.2.2.1∧r.2.2.2.1<4294967296)∧(0<=r.2.2.2.2.1∧r.2.2.2.2.1<4294967296)∧(0<=r.2.2.2.2.2.1∧r.2.2.2.2.2.1<4294967296)∧(0<=r.2.2.2.2.2.2∧r.2.2.2.2.2.2<4294967296))
def gF(l:List Rc):Bool:=decide (l.length<=6)&&l.all rA
theorem aTx(r:Rc):(aOz r).length=7:=rfl
theorem dW:∀l:List Rc,(cellsRM l).length=7*l.length
 | []=>rfl
 | r::l=>by
  have:=dW l
  simp only[cellsRM,bZ5,bW2,aTx,bXc]at this ⊢
  omega
theorem jV{l:List Rc}{i j:Nat}(hi:i<l.length)(hj:j=7*i):∃r,l[i]? = some r∧(cellsRM l |>.drop j).take 7=aOz r:=by
 subst hj
 induction l generalizing i with
 | nil=>simp at hi
 | cons x l ih=>
  cases i with
  | zero=>exact⟨x,rfl,rfl⟩
  | succ i=>
   obtain⟨r,h1,h2⟩:=ih (i:=i) (by simpa using hi)
   refine⟨r,by simpa using h1, ?_⟩
   have e:cellsRM (x::l)=aOz x++cellsRM l:=rfl
   rw[e,show 7*(i+1)=(aOz x).length+7*i by rw[aTx];omega,←bY9,cBs]
   exact h2
def bB4(t:Nat)(l:List Rc):LInv where
 α:=Nat
 pre i:=Lf (i<=l.length∧l.length<=6∧(l.take i).all rA=true)
 st i:=⟨mkT [(0,.lst t (cellsRM l) l.length 7),(1,.fn (.func 228) [] []),(7,.int .i64 l.length),(8,.int .i64 i)],[]⟩
 mu i:=l.length-i
noncomputable def aHu(hv:LI)(hb:LB)(t:Nat)(l:List Rc)(Q:BS):Prop:=
 aT (e24 smE (λi=>bif Nat.beq i 236000 then some (λ_=>[[bB4 t l]])else none) hv hb) (wpx (e24 smE (λi=>bif Nat.beq i 236000 then some (λ_=>[[bB4 t l]])else none) hv hb) 1000) 186 [.lst t (cellsRM l) l.length 7] [] {} Q
abbrev bR8(x_2:Nat)(l:List Rc):Prop:=Lf (x_2<=l.length∧l.length<=6∧List.all (l.take x_2) rA=true)
abbrev bM8(xs_11:QT):Prop:=(0:Int)<=(32:Int)∧xs_11.length<=4611686018427387904
abbrev bL8(n_3:Int)(Q:BS):Prop:=bif decide (n_3≥0)then Q (.ret (.bool false)) [] {}else Q (.ret (.bool true)) [] {}
abbrev bD2:Prop:=True∧(0:Nat)=(0:Nat)
theorem bVg(t:Nat)(l:List Rc)(Q:BS):aHu (aW [(761860,.int .i64),(966663,.int .i64),(966666,.int .i64),(966671,.agg [.int .i64,.int .i64,.int .i64,.int .i64,.int .i64,.int .i64,.int
 .i64]),(966674,.int .i64)]) (aV []) t l Q=(exI .i64 (l.length:Int) (λn_0=>bif decide (n_0<=6)then exI .i64 (l.length:Int) (λn_1=>(∃x_2:Nat,bR8 x_2 l∧aK (AV.lst t (cellsRM l) l.length 7)∧aK (AV.fn
 (Fn.func 228) [] [])∧AV.int .i64 n_1=AV.int .i64 (l.length:Int)∧AV.int .i64 0=AV.int .i64 (x_2:Int)∧True)∧∀x_2:Nat,bR8 x_2 l->bif decide ((x_2:Int)<(l.length:Int))then exI .i64 (x_2:Int) (λn_3=>ckQ
 (decide (0<=n_3)&&Nat.blt n_3.toNat l.length&&true) (ckQ (Nat.ble (n_3.toNat*7+7) (cellsRM l).length) (∃n_4 n_5 n_6 n_7 n_8 n_9 n_10,AV.agg (((cellsRM l).drop (n_3.toNat*7)).take 7)=AV.agg [.int .i64 n_4,.int .i64 n_5,.int
 .i64 n_6,.int .i64 n_7,.int .i64 n_8,.int .i64 n_9,.int .i64 n_10]∧∃xs_11:QT,Lf ([AV.int .i64 n_4,.int .i64 n_7,.int .i64 n_8,.int .i64 n_9,.int .i64 n_10]=aA xs_11∧5=xs_11.length∧bM8 xs_11)∧bif !List.any
 xs_11 (bW 32)then ∃xs_12:QT,Lf ([AV.int .i64 n_5]=aA xs_12∧1=xs_12.length∧(0:Int)<=(8:Int)∧xs_12.length<=4611686018427387904)∧bif !List.any xs_12 (bW 8)then bif decide (n_6 < -8388608)then bL8
 n_3 Q else bif decide (n_6≥8388608)then bL8 n_3 Q else exW .i64 ((x_2:Int)+1) (λn_13=>bD2∧∃y_14:Nat,bR8 y_14 l∧l.length-y_14<l.length-x_2∧aK (AV.lst t (cellsRM l) l.length 7)∧aK (AV.fn (Fn.func 228) []
 [])∧aK (AV.int .i64 (l.length:Int))∧AV.int .i64 n_13=AV.int .i64 (y_14:Int)∧True)else bL8 n_3 Q else bL8 n_3 Q)))else Q (.ret (.bool true)) [] {})else Q (.ret (.bool false)) [] {})):=by kernel_rfl

def bQ(ref last:Int)(first:Bool):QT->QT->Option (Int×QT)
 | [],acc=>some (ref,acc)
 | t::l,acc=>
  if t = -1 then bQ ref last first l acc
  else if t<0∨4294967296<=t then none
  else if first then
   bQ (t/256) t false l (acc++[t%256])
  else if t-last < -32768∨32768<=t-last then none else bQ ref t false l (acc++[t-last])
def jB(l:QT):Option (Int×QT):=bQ 0 0 true l []
def bNp(t:Nat)(xs:QT):List LInv:=[
 { α:=Nat,pre:=λi=>Lf (i<=xs.length∧jB xs=bQ 0 0 true (xs.drop i) []),st:=λi=>⟨mkT [(0,.lst t (aA xs) xs.length 1),(2,.int .i64 0),(3,.nils),(5,.int .i64 0),(6,.bool true),(9,.lst t (aA xs) xs.length 1),(10,.int .i64 xs.length),(11,.int .i64 i)],[]⟩,mu:=λi=>xs.length-i },
 { α:=Nat×Int×Int×QT,pre:=λp=>Lf (p.1<=xs.length∧1<=p.2.2.2.length∧p.2.2.2.length<=p.1∧0<=p.2.2.1∧p.2.2.1<4294967296∧jB xs=bQ p.2.1 p.2.2.1 false (xs.drop p.1) p.2.2.2),st:=λp=>⟨mkT [(0,.lst t (aA xs) xs.length 1),(2,.int .i64 p.2.1),(3,.sl 0 p.2.2.2.length 0 p.2.2.2.length 1),(5,.int .i64 p.2.2.1),(6,.bool false),(9,.lst t (aA xs) xs.length 1),(10,.int .i64 xs.length),(11,.int .i64 (p.1:Nat))],[⟨.grow,true,aA p.2.2.2⟩]⟩,mu:=λp=>xs.length-p.1 }]
noncomputable def bC2(hv:LI)(hb:LB)(t:Nat)(xs:QT):Env:=e24 smE (λi=>bif Nat.beq i 185000 then some (λ_=>[bNp t xs])else none) hv hb
noncomputable def aJm(hv:LI)(hb:LB)(t:Nat)(xs:QT)(Q:BS):Prop:=
 aT (bC2 hv hb t xs) (wpx (bC2 hv hb t xs) 1000) 185 [.lst t (aA xs) xs.length 1] [] {} Q
abbrev bF4(x_1:Nat)(xs:QT):Prop:=Lf (x_1<=xs.length∧jB xs=bQ 0 0 true (xs.drop x_1) [])
abbrev aVu(t:Nat)(xs:QT):Prop:=aK (AV.lst t (aA xs) xs.length 1)
abbrev aQh:Prop:=aK (AV.int .i64 0)
abbrev bSz(xs:QT):AV:=.int .i64 (xs.length:Int)
abbrev bDz(x_1:Nat×Int×Int×QT)(xs:QT):Prop:=Lf (x_1.1<=xs.length∧1<=x_1.2.2.2.length∧x_1.2.2.2.length<=x_1.1∧0<=x_1.2.2.1∧x_1.2.2.1<4294967296∧jB xs=bQ x_1.2.1 x_1.2.2.1 false (xs.drop x_1.1) x_1.2.2.2)
abbrev aY7:Out:=.ret (.tup [.int .i64 0,.nils,.bool false])
abbrev aQo(y_10:Nat×Int×Int×QT):AV:=.sl 0 y_10.2.2.2.length 0 y_10.2.2.2.length 1
abbrev bQs(xs:QT):Prop:=aK (AV.bool false)∧aK (AV.int .i64 (xs.length:Int))∧True
theorem bVf(t:Nat)(xs:QT)(Q:BS):aJm (aW [(757770,.int .i64),(757774,.int .i64),(757803,.int .i64),(757783,.int .i64),(757785,.int .i64),(757788,.int .i64),(757793,.int .i64),
 (757799,.int .i64),(757807,.int .i64),(757811,.int .i64)]) (aV []) t xs Q=(exI .i64 (xs.length:Int) (λn_0=>((∃x_1:Nat,bF4 x_1 xs∧aVu t xs∧AV.nils=AV.nils∧AV.int .i64 0=AV.int .i64 (x_1:Int)∧aQh∧aVu
 t xs∧aQh∧aK (AV.bool true)∧AV.int .i64 n_0=bSz xs∧True)∨∃x_1:Nat×Int×Int×QT,bDz x_1 xs∧False)∧(∀x_1:Nat,bF4 x_1 xs->bif decide ((x_1:Int)<(xs.length:Int))then ckQ (Nat.blt (x_1 :
 Int).toNat xs.length&&true) (ckQ (Nat.blt ((x_1:Int).toNat*1) (aA xs).length) (exV .i64 ((aA xs).getD ((x_1:Int).toNat*1) AV.undef) (λn_2=>bif n_2 == -1 then exW .i64 ((x_1:Int)+1) (λn_3=>bD2∧((∃y_4 :
 Nat,bF4 y_4 xs∧xs.length-y_4<xs.length-x_1∧aVu t xs∧AV.nils=AV.nils∧AV.int .i64 n_3=AV.int .i64 (y_4:Int)∧aQh∧aVu t xs∧aQh∧aK (AV.bool true)∧aK (bSz xs)∧True)∨∃y_4:Nat×Int×Int×List
 Int,bDz y_4 xs∧xs.length-y_4.1<xs.length-x_1∧False))else ∃xs_3:QT,Lf ([AV.int .i64 n_2]=aA xs_3∧1=xs_3.length∧bM8 xs_3)∧bif !List.any xs_3 (bW 32)then exI .i64 (Int.fdiv n_2 256) (λn_4=>exW
 .i64 (n_4*256) (λn_5=>exW .i64 (n_2-n_5) (λn_6=>bif decide (n_6 < -32768)then Q aY7 [] {}else exW .i64 (n_2-n_5) (λn_7=>bif decide (n_7≥32768)then Q aY7 [] {}else exW .i64 (n_2-n_5) (λn_8=>exW .i64 ((x_1
 : Int)+1) (λn_9=>bD2∧((∃y_10:Nat,bF4 y_10 xs∧xs.length-y_10<xs.length-x_1∧False)∨∃y_10:Nat×Int×Int×QT,bDz y_10 xs∧xs.length-y_10.1<xs.length-x_1∧[AV.int .i64 n_8]=aA y_10.2.2.2 ∧
 aVu t xs∧AV.sl 0 1 0 1 1=aQo y_10∧AV.int .i64 n_9=AV.int .i64 (y_10.1:Int)∧AV.int .i64 n_2=AV.int .i64 y_10.2.2.1∧aVu t xs∧AV.int .i64 n_4=AV.int .i64 y_10.2.1∧bQs xs)))))))else Q aY7 [] {})))else exI .i64
 (xs.length:Int) (λn_2=>bif decide (n_2≥1)then exI .i64 (xs.length:Int) (λn_3=>bif decide (n_3<=64)then Q (.ret (.tup [.int .i64 0,.nils,.bool true])) [] {}else Q aY7 [] {})else Q aY7 [] {}))∧∀x_1:Nat×Int ×
 Int×QT,bDz x_1 xs->bif decide ((x_1.1:Int)<(xs.length:Int))then ckQ (Nat.blt (x_1.1:Int).toNat xs.length&&true) (ckQ (Nat.blt ((x_1.1:Int).toNat*1) (aA xs).length) (exV .i64 ((aA xs).getD ((x_1.1 :
 Int).toNat*1) AV.undef) (λn_2=>bif n_2 == -1 then exW .i64 ((x_1.1:Int)+1) (λn_3=>bD2∧((∃y_4:Nat,bF4 y_4 xs∧xs.length-y_4<xs.length-x_1.1∧False)∨∃y_4:Nat×Int×Int×QT,bDz y_4 xs ∧
 xs.length-y_4.1<xs.length-x_1.1∧aA x_1.2.2.2=aA y_4.2.2.2∧aVu t xs∧aQo x_1=aQo y_4∧AV.int .i64 n_3=AV.int .i64 (y_4.1:Int)∧AV.int .i64 x_1.2.2.1=AV.int .i64 y_4.2.2.1∧aVu t xs∧AV.int .i64 x_1.2.1
 = AV.int .i64 y_4.2.1∧bQs xs))else ∃xs_3:QT,Lf ([AV.int .i64 n_2]=aA xs_3∧1=xs_3.length∧bM8 xs_3)∧bif !List.any xs_3 (bW 32)then exW .i64 (n_2-x_1.2.2.1) (λn_4=>bif decide (n_4 < -32768)then Q aY7
 [] {}else exW .i64 (n_2-x_1.2.2.1) (λn_5=>bif decide (n_5≥32768)then Q aY7 [] {}else exW .i64 (n_2-x_1.2.2.1) (λn_6=>ckQ (Nat.beq (aA x_1.2.2.2).length x_1.2.2.2.length&&true&&Nat.beq (0+x_1.2.2.2.length*1)
 x_1.2.2.2.length&&Nat.ble (x_1.2.2.2.length+1) 1099511627776&&Nat.ble ((x_1.2.2.2.length+1)*8) 1099511627776) (exW .i64 ((x_1.1:Int)+1) (λn_7=>bD2∧((∃y_8:Nat,bF4 y_8 xs∧xs.length-y_8<xs.length-x_1.1 ∧
 False)∨∃y_8:Nat×Int×Int×QT,bDz y_8 xs∧xs.length-y_8.1<xs.length-x_1.1∧aA x_1.2.2.2++[AV.int .i64 n_6]=aA y_8.2.2.2∧aVu t xs∧AV.sl 0 (x_1.2.2.2.length+1) 0 (x_1.2.2.2.length+1) 1=aQo y_8
 ∧ AV.int .i64 n_7=AV.int .i64 (y_8.1:Int)∧AV.int .i64 n_2=AV.int .i64 y_8.2.2.1∧aVu t xs∧AV.int .i64 x_1.2.1=AV.int .i64 y_8.2.1∧bQs xs))))))else Q aY7 [] {})))else exI .i64 (xs.length:Int) (λn_2=>bif decide
 (n_2≥1)then exI .i64 (xs.length:Int) (λn_3=>bif decide (n_3<=64)then Q (.ret (.tup [.int .i64 x_1.2.1,.sl 0 x_1.2.2.2.length 0 x_1.2.2.2.length 1,.bool true])) [Blk.mk BK.grow true (aA x_1.2.2.2)] {}else Q (.ret (.tup
 [.int .i64 x_1.2.1,.sl 0 x_1.2.2.2.length 0 x_1.2.2.2.length 1,.bool false])) [Blk.mk BK.grow true (aA x_1.2.2.2)] {})else Q (.ret (.tup [.int .i64 x_1.2.1,.sl 0 x_1.2.2.2.length 0 x_1.2.2.2.length 1,.bool false])) [Blk.mk BK.grow
 true (aA x_1.2.2.2)] {}))):=by kernel_rfl


theorem eP(x:Int):bW 32 x=decide (x<0∨4294967296<=x):=by
 have e:(2:Int)^min (32:Int).toNat 64=4294967296:=rfl
 rw[bW,e,bX3 _ (by omega)]
 rw[bZ7]
 simp only[bXh,bW6,bZw,ne_eq]
 omega
theorem jU(x:Int):bW 8 x=decide (x<0∨256<=x):=by
 have e:(2:Int)^min (8:Int).toNat 64=256:=rfl
 rw[bW,e,bX3 _ (by omega)]
 rw[bZ7]
 simp only[bXh,bW6,bZw,ne_eq]
 omega
theorem dZ(x:Int):bW 16 x=decide (x<0∨65536<=x):=by
 rw[bZ7,bC4,bW6]
theorem eO{b:Bool}{A B:Prop}(h:b=false->A)(k:b=true->B):bif !b then A else B:=by
 cases b
 ·exact h rfl
 ·exact k rfl
theorem aK9{α:Type}{p:α->Bool}{l:List α}{i:Nat}{r:α}(h:l[i]? = some r):(l.take (i+1)).all p=((l.take i).all p&&p r):=by
 rw[bYm,h,List.all_append]
 simp
theorem aXn(t:Nat)(l:List Rc)(hl:l.length<=1000000)(Q:BS)(hq:Q (.ret (.bool (gF l))) [] {}):∃hv hb,aHu hv hb t l Q:=by
 obtain⟨hv,hb',e⟩:∃hv hb,aHu hv hb t l Q=_:=⟨_,_,bVg t l Q⟩
 refine⟨hv,hb',e.mpr ?_⟩
 delta bR8 bM8 bL8 bD2
 clear e
 refine⟨_,rfl,aH (λh6=>⟨_,rfl,⟨0,⟨by omega,by omega,by simp⟩,rfl,rfl,rfl,rfl,trivial⟩, ?_⟩) (λh6 => ?_)⟩
 ·rintro i ⟨g1,g2,g3⟩
  refine aH (λh => ?_) (λh => ?_)
  ·have hi:i<l.length:=by omega
   obtain⟨r,hr,hc⟩:=jV hi (bZz 7 i▸rfl:i*7=7*i)
   have bad:rA r=false->Q (.ret (.bool false)) [] {}:=λhb=>by
    have:gF l=false:=by
     have hall:l.all rA=false:=by
      rw[List.all_eq_false]
      exact⟨r,bY3 hr,by simp[hb]⟩
     simp[gF,hall]
    rwa[this]at hq
   have ge:(decide ((i:Int)≥0))=true:=by simp
   refine⟨_,rfl,ckO (ckI (by simp[dW];omega) ⟨r.1,r.2.1,r.2.2.1,r.2.2.2.1,r.2.2.2.2.1,r.2.2.2.2.2.1,r.2.2.2.2.2.2,by rw[bXf,hc];rfl,[r.1,r.2.2.2.1,r.2.2.2.2.1,r.2.2.2.2.2.1,r.2.2.2.2.2.2],⟨rfl,rfl,by decide,by simp⟩,eO (λf1=>⟨[r.2.1],⟨rfl,rfl,by decide,by simp⟩,eO (λf2=>aH (λf3 => ?_) (λf3=>aH (λf4 => ?_) (λf4 => ?_))) (λf2 => ?_)⟩) (λf1 => ?_)⟩)⟩
   all_goals simp only[bYk,bYs,bYn,eP,jU,bXy,bXh,bW6,bXi]at f1
   all_goals try simp only[bYk,bYs,bYn,eP,jU,bXy,bXh,bW6,bXi]at f2
   ·rw[ge];exact bad (by simp only[rA,bXi];omega)
   ·rw[ge];exact bad (by simp only[rA,bXi];omega)
   ·have hok:rA r=true:=by simp only[rA,bW6];omega
    refine aF ⟨⟨trivial,rfl⟩,i+1,⟨hi,g2,by rw[aK9 hr,g3,hok];rfl⟩,by omega,rfl,rfl,rfl,rfl,trivial⟩
   ·rw[ge];exact bad (by simp only[rA,bXi];omega)
   ·rw[ge];exact bad (by simp only[rA,bXi];omega)
  ·have:gF l=true:=by
    rw[bW4 (by omega)]at g3
    simp only[gF,g3,bX4,bW6];omega
   rwa[this]at hq
 ·have:gF l=false:=by
   simp only[gF,Bool.and_eq_false_iff,bXi];left;omega
  rwa[this]at hq
def bHm:iO
 | [.lst _ cs n 7],H,K=>∃l:List Rc,Lf (cs=cellsRM l∧n=l.length∧l.length<=1000000)∧K (.ret (.bool (gF l))) H
 | _,_,_=>False
theorem bI5:aI Tryz.prog gl0 186 bHm:=by
 refine aQ (enters_of (by kernel_rfl)) aO λargs H Q hc => ?_
 unfold bHm at hc
 split at hc
 ·obtain⟨l,⟨rfl,rfl,hl⟩,hq⟩:=hc
  obtain⟨hv,hb',h⟩:=aXn _ l hl (λo H' _=>H'=[]∧(∃v,o=.ret v∧old 0 v=true∧noY v=true)∧Q o H) ⟨rfl,⟨_,rfl,rfl,rfl⟩,hq⟩
  exact⟨rfl,rfl,_,1000,bL aRf _ _ _,rfl,h⟩
 ·exact hc.elim
def bM(xs:QT):Int×QT×Bool:=match jB xs with
 | some p=>(p.1,p.2,decide (1<=xs.length∧xs.length<=64))
 | none=>(0,[],false)
theorem aR0(t:Nat)(xs:QT)(hl:xs.length<=1000000)(Q:BS)
  (hq0:(bM xs).2.1=[]->Q (.ret (.tup [.int .i64 (bM xs).1,.nils,.bool (bM xs).2.2])) [] {})
  (hq:∀r l b,bM xs=(r,l,b)->Q (.ret (.tup [.int .i64 r,.sl 0 l.length 0 l.length 1,.bool b])) [⟨.grow,true,aA l⟩] {}):∃hv hb,aJm hv hb t xs Q:=by
 obtain⟨hv,hb',e⟩:∃hv hb,aJm hv hb t xs Q=_:=⟨_,_,bVf t xs Q⟩
 refine⟨hv,hb',e.mpr ?_⟩
 delta bF4 aVu aQh bSz bDz bD2 bM8 aY7 aQo bQs
 clear e
 have no:jB xs=none->Q (.ret (.tup [.int .i64 0,.nils,.bool false])) [] {}:=λh=>by
  have e:bM xs=(0,[],false):=by simp[bM,h]
  rw[e]at hq0
  exact hq0 rfl
 refine⟨_,rfl,.inl ⟨0,⟨by omega,rfl⟩,rfl,rfl,rfl,rfl,rfl,rfl,rfl,rfl,trivial⟩, ?_, ?_⟩
 ·rintro i ⟨g1,g2⟩
  refine aH (λh => ?_) (λh => ?_)
  ·have hi:i<xs.length:=by omega
   rw[pF hi,bQ]at g2
   refine ckO (ckI (by simp[aM];omega) (aAa (i:=i) hi (by simp) (bJ (λhe => ?_) (λhe => ?_))))
   ·rw[if_pos he]at g2
    refine aF ⟨⟨trivial,rfl⟩,.inl ⟨i+1,⟨hi,g2⟩,by omega,rfl,rfl,rfl,rfl,rfl,rfl,rfl,rfl,trivial⟩⟩
   ·rw[if_neg he]at g2
    refine⟨[xs.getD i 0],⟨rfl,rfl,by decide,by simp⟩,eO (λf1 => ?_) (λf1 => ?_)⟩
    all_goals simp only[bYk,bYs,bYn,eP,bW6,bXi]at f1
    ·rw[if_neg f1,if_pos rfl,bX2]at g2
     refine⟨_,rfl, ?_⟩
     rw[bX3 _ (by omega)]
     have e3:xs.getD i 0-xs.getD i 0/256*256=xs.getD i 0%256:=by omega
     refine aF (aF (aH (λh=>by exfalso;omega) (λ_=>aF (aH (λh=>by exfalso;omega) (λ_=>aF (aF ⟨⟨trivial,rfl⟩,.inr ⟨(i+1,xs.getD i 0/256,xs.getD i 0,[xs.getD i 0%256]),⟨hi,by simp,by simp,by dsimp only;omega,by dsimp only;omega,g2⟩,by dsimp only;omega,by rw[e3];rfl,rfl,rfl,rfl,rfl,rfl,rfl,rfl,rfl,trivial⟩⟩))))))
    ·rw[if_pos f1]at g2
     exact no g2
  ·rw[bX9 (by omega),bQ]at g2
   have e:bM xs=(0,[],decide (1<=xs.length∧xs.length<=64)):=by simp[bM,g2]
   rw[e]at hq0
   have hq1:=hq0 rfl
   dsimp only at hq1
   refine⟨_,rfl,aH (λh1=>⟨_,rfl,aH (λh2 => ?_) (λh2 => ?_)⟩) (λh1 => ?_)⟩
   ·rwa[bXr (by omega)]at hq1
   ·rwa[bXt (by omega)]at hq1
   ·rwa[bXt (by omega)]at hq1
 ·rintro⟨i,ref,last,acc⟩ ⟨g1,g2,g3,g4,g5,g6⟩
  dsimp only at g1 g2 g3 g4 g5 g6 ⊢
  refine aH (λh => ?_) (λh => ?_)
  ·have hi:i<xs.length:=by omega
   rw[pF hi,bQ]at g6
   refine ckO (ckI (by simp[aM];omega) (aAa (i:=i) hi (by simp) (bJ (λhe => ?_) (λhe => ?_))))
   ·rw[if_pos he]at g6
    refine aF ⟨⟨trivial,rfl⟩,.inr ⟨(i+1,ref,last,acc),⟨hi,g2,by dsimp only;omega,g4,g5,g6⟩,by dsimp only;omega,rfl,rfl,rfl,rfl,rfl,rfl,rfl,rfl,rfl,trivial⟩⟩
   ·rw[if_neg he]at g6
    refine⟨[xs.getD i 0],⟨rfl,rfl,by decide,by simp⟩,eO (λf1 => ?_) (λf1 => ?_)⟩
    all_goals simp only[bYk,bYs,bYn,eP,bW6,bXi]at f1
    ·rw[if_neg f1,if_neg (by simp)]at g6
     refine aF (aH (λh3 => ?_) (λh3=>aF (aH (λh4 => ?_) (λh4 => ?_))))
     ·rw[if_pos (.inl h3)]at g6;exact no g6
     ·rw[if_pos (.inr h4)]at g6;exact no g6
     ·rw[if_neg (by omega)]at g6
      refine aF (ckI (by simp[aM];omega) (aF ⟨⟨trivial,rfl⟩,.inr ⟨(i+1,ref,xs.getD i 0,acc++[xs.getD i 0-last]),⟨hi,by simp,by simp;omega,by dsimp only;omega,by dsimp only;omega,g6⟩,by dsimp only;omega,by simp[aA],rfl,by simp,rfl,rfl,rfl,rfl,rfl,rfl,trivial⟩⟩))
    ·rw[if_pos f1]at g6
     exact no g6
  ·rw[bX9 (by omega),bQ]at g6
   have hq1:=hq ref acc (decide (1<=xs.length∧xs.length<=64)) (by simp[bM,g6])
   refine⟨_,rfl,aH (λh1=>⟨_,rfl,aH (λh2 => ?_) (λh2 => ?_)⟩) (λh1 => ?_)⟩
   ·rwa[bXr (by omega)]at hq1
   ·rwa[bXt (by omega)]at hq1
   ·rwa[bXt (by omega)]at hq1
def aLb:iO
 | [.lst _ cs n 1],H,K=>∃xs:QT,Lf (cs=aA xs∧n=xs.length∧xs.length<=1000000)∧∀r l b,Lf (bM xs=(r,l,b))->K (.ret (.tup [.int .i64 r,.lst 0 (aA l) l.length 1,.bool b])) H
 | _,_,_=>False
theorem rO(xs:QT):∀x∈aA xs,mG x=true:=by
 intro x hx
 simp only[aA,bZb]at hx
 obtain⟨p,_,rfl⟩:=hx
 rfl
theorem aXe(l:QT):bU 0 [⟨.grow,true,aA l⟩] 5 (.sl 0 l.length 0 l.length 1)=.lst 0 (aA l) l.length 1:=
 tC (b:=⟨.grow,true,aA l⟩) rfl (aM l) (by omega) (by simp) (by simp[aM,bW4]) (rO l)
theorem aJ4:aI Tryz.prog gl0 185 aLb:=by
 refine dV (enters_of (by kernel_rfl)) aO 6 (nlR [0,1,0]) (vT _) λargs H Q hc => ?_
 unfold aLb at hc
 split at hc
 ·obtain⟨xs,⟨rfl,rfl,hl⟩,hq⟩:=hc
  obtain⟨hv,hb',h⟩:=aR0 _ xs hl (λo H' _=>∃v,o=.ret v∧Q (.ret (nlR [0,1,0] (bU 0 H' 6 v))) H) (λh=>⟨_,rfl,by
   have:=hq _ _ _ ⟨(by rw[←h]:bM xs=((bM xs).1,[],(bM xs).2.2))⟩
   exact this⟩) (λr l b h=>⟨_,rfl,by
   have:=hq _ _ _ ⟨h⟩
   have e:bU 0 [⟨.grow,true,aA l⟩] 6 (.tup [.int .i64 r,.sl 0 l.length 0 l.length 1,.bool b])=.tup [.int .i64 r,bU 0 [⟨.grow,true,aA l⟩] 5 (.sl 0 l.length 0 l.length 1),.bool b]:=rfl
   rw[e,aXe]
   exact this⟩)
  exact⟨rfl,rfl,_,1000,bL aRf _ _ _,rfl,h⟩
 ·exact hc.elim
structure Ctl where
 k:Int
 f:Int
 a:Int
 s1:Int
 s2:Int
 s3:Int
 s4:Int
 s5:Int
 rs:List Rc
 lo:QT
 ba:Int
 ro:Int
 ti:QT
def ctC(c:Ctl):HB:=[.int .i64 c.k,.int .i64 c.f,.int .i64 c.a,.int .i64 c.s1,.int .i64 c.s2,.int .i64 c.s3,.int .i64 c.s4,.int .i64 c.s5,.lst 0 (cellsRM c.rs) c.rs.length 7,.lst 0 (aA c.lo) c.lo.length 1,.int .i64 c.ba,.int .i64 c.ro,.lst 0 (aA c.ti) c.ti.length 1]
abbrev in32(x:Int):Prop:=0<=x∧x<4294967296
def validM(c:Ctl):Bool:=
 decide ((1<=c.k∧c.k<=6)∧in32 c.f∧in32 c.a∧in32 c.s1∧in32 c.s2∧in32 c.s3∧in32 c.s4∧in32 c.s5∧(0<=c.ba∧c.ba<65536)∧(0<=c.ro∧c.ro<256)
  ∧ (c.k<=3->c.a=0)∧(c.k≠1->c.s1=0∧c.s2=0∧c.s3=0∧c.s4=0∧c.s5=0)∧(c.k≠6->c.ba=0∧c.ro=0∧c.ti.length=0)∧(3<=c.k->c.rs.length=0)∧(c.k≠4->c.lo.length=0)
  ∧ (c.k=6->(bM c.ti).2.2=true)∧gF c.rs=true∧(c.k=4->eT c.lo=true))
def bSd:SM:=fT [(184,aBh),(185,aLb),(186,bHm),(187,aQi)]
theorem bJd:∀f g,bSd f=some g->aI Tryz.prog gl0 f g:=dX _ (by simp only[bXd,bXn,bY0,bYd,bY4];exact⟨aEb,aJ4,bI5,aYk⟩)
noncomputable def aWd(hv:LI)(hb:LB)(k f a s1 s2 s3 s4 s5:Int)(rs:List Rc)(lo:QT)(ba ro:Int)(ti:QT)(Q:BS):Prop:=
 aT (e24 bSd (λ_=>none) hv hb) (wpx (e24 bSd (λ_=>none) hv hb) 1000) 145 [.agg (ctC ⟨k,f,a,s1,s2,s3,s4,s5,rs,lo,ba,ro,ti⟩)] [] {} Q
noncomputable def aB4(hv:LI)(hb:LB)(m:Nat)(f a s1 s2 s3 s4 s5:Int)(rs:List Rc)(lo:QT)(ba ro:Int)(ti:QT)(Q:BS):Prop:=aWd hv hb (Int.negSucc m) f a s1 s2 s3 s4 s5 rs lo ba ro ti Q
theorem bN5(m:Nat)(f:Int)(a:Int)(s1:Int)(s2:Int)(s3:Int)(s4:Int)(s5:Int)(rs:List Rc)(lo:QT)(ba:Int)(ro:Int)(ti:QT)(Q:BS):aB4 (aW [(593928,.int .i64),(593929,.lit (.bool true))]) (aV []) m f a s1 s2 s3 s4 s5 rs lo ba ro ti Q=(
(∃n_0:Int,(((AV.int .i64 (Int.negSucc m))=(AV.int .i64 n_0)) ∧
 (((AV.bool (decide (n_0<(1:Int))))=(AV.bool true)) ∧
 (Q (Out.ret (AV.bool false)) [] (Gh.mk (0:Nat) (0:Nat) [])))))):=by kernel_rfl

noncomputable def aCg(hv:LI)(hb:LB)(m:Nat)(f a s1 s2 s3 s4 s5:Int)(rs:List Rc)(lo:QT)(ba ro:Int)(ti:QT)(Q:BS):Prop:=aWd hv hb (Int.ofNat (m+7)) f a s1 s2 s3 s4 s5 rs lo ba ro ti Q
theorem bOk(m:Nat)(f:Int)(a:Int)(s1:Int)(s2:Int)(s3:Int)(s4:Int)(s5:Int)(rs:List Rc)(lo:QT)(ba:Int)(ro:Int)(ti:QT)(Q:BS):aCg (aW [(593928,.int .i64),(593929,.lit (.bool false)),(593932,.int .i64),(593933,.lit (.bool true))]) (aV []) m f a s1 s2 s3 s4 s5 rs lo ba ro ti Q=(
(∃n_0:Int,(((AV.int .i64 (Int.ofNat (m+(7:Nat))))=(AV.int .i64 n_0)) ∧
 (((AV.bool (decide (n_0<(1:Int))))=(AV.bool false)) ∧
 (∃n_1:Int,(((AV.int .i64 (Int.ofNat (m+(7:Nat))))=(AV.int .i64 n_1)) ∧
 (((AV.bool (decide (n_1≥(7:Int))))=(AV.bool true)) ∧
 (Q (Out.ret (AV.bool false)) [] (Gh.mk (0:Nat) (0:Nat) []))))))))):=by kernel_rfl

noncomputable def aBe(hv:LI)(hb:LB)(f a s1 s2 s3 s4 s5:Int)(rs:List Rc)(lo:QT)(ba ro:Int)(ti:QT)(Q:BS):Prop:=aWd hv hb 0 f a s1 s2 s3 s4 s5 rs lo ba ro ti Q
theorem bLw(f:Int)(a:Int)(s1:Int)(s2:Int)(s3:Int)(s4:Int)(s5:Int)(rs:List Rc)(lo:QT)(ba:Int)(ro:Int)(ti:QT)(Q:BS):aBe (aW []) (aV []) f a s1 s2 s3 s4 s5 rs lo ba ro ti Q=(
(Q (Out.ret (AV.bool false)) [] (Gh.mk (0:Nat) (0:Nat) []))):=by kernel_rfl

noncomputable def aCu(hv:LI)(hb:LB)(f a s1 s2 s3 s4 s5:Int)(rs:List Rc)(lo:QT)(ba ro:Int)(ti:QT)(Q:BS):Prop:=aWd hv hb 1 f a s1 s2 s3 s4 s5 rs lo ba ro ti Q
abbrev aO2(f a s1 s2 s3 s4 s5:Int)(xs_0:QT):Prop:=Lf ([AV.int .i64 f,.int .i64 a,.int .i64 s1,.int .i64 s2,.int .i64 s3,.int .i64 s4,.int .i64 s5]=aA xs_0∧7=xs_0.length∧(0:Int)<=(32:Int)∧xs_0.length<=4611686018427387904)
abbrev sM(xs_0:QT):Bool := !List.any xs_0 (bW 32)
abbrev aO1(ba:Int)(xs_1:QT):Prop:=Lf ([AV.int .i64 ba]=aA xs_1∧1=xs_1.length∧(0:Int)<=(16:Int)∧xs_1.length<=4611686018427387904)
abbrev aOx(xs_1:QT):Bool := !List.any xs_1 (bW 16)
abbrev aOp(ro:Int)(xs_2:QT):Prop:=Lf ([AV.int .i64 ro]=aA xs_2∧1=xs_2.length∧(0:Int)<=(8:Int)∧xs_2.length<=4611686018427387904)
abbrev sW(xs_2:QT):Bool := !List.any xs_2 (bW 8)
abbrev zG:Out:=.ret (.bool false)
abbrev jN(Q:BS):Prop:=Q zG [] {}
abbrev rT(ba ro:Int):Int:=(((ba%18446744073709551616).toNat ||| (ro%18446744073709551616).toNat:Nat):Int)
abbrev aZi(ti xs_10:QT):Prop:=Lf (aA ti=aA xs_10∧ti.length=xs_10.length∧xs_10.length<=1000000)
abbrev aG4(rs l_13:List Rc):Prop:=Lf (cellsRM rs=cellsRM l_13∧rs.length=l_13.length∧l_13.length<=1000000)
abbrev bKp(rs:List Rc)(Q:BS):Prop:=∃l_10:List Rc,aG4 rs l_10∧bif gF l_10 then Q (.ret (.bool true)) [] {}else Q zG [] {}
abbrev bDr(n_4:Int)(Q:BS)(lo ti:QT)(rs:List Rc):Prop:=bif decide (n_4>0)then Q zG [] {}else exI .i64 (lo.length:Int) (λn_5=>bif decide (n_5>0)then Q zG [] {}else ∃xs_6:QT,aZi ti xs_6∧∀r_7:Int,∀l_8:QT,∀b_9:Bool,Lf (bM xs_6=Prod.mk r_7 (Prod.mk l_8 b_9))->bif b_9 then bKp rs Q else bKp rs Q)
theorem bPc(f:Int)(a:Int)(s1:Int)(s2:Int)(s3:Int)(s4:Int)(s5:Int)(rs:List Rc)(lo:QT)(ba:Int)(ro:Int)(ti:QT)(Q:BS):aCu (aW [(594011,.int .i64),(594016,.int .i64),(594039,.int .i64)]) (aV []) f a s1 s2 s3 s4 s5 rs lo ba ro ti Q=(∃xs_0:QT,aO2 f a s1 s2 s3 s4 s5 xs_0∧bif sM xs_0 then ∃xs_1:QT,aO1 ba xs_1∧bif aOx xs_1 then ∃xs_2:QT,aOp ro xs_2∧bif sW xs_2 then bif a !=0 then jN Q else exW .i64 (rT ba ro) (λn_3=>bif n_3 !=0 then jN Q else exI .i64 (ti.length:Int) (λn_4=>bDr n_4 Q lo ti rs))else jN Q else jN Q else jN Q):=by kernel_rfl

noncomputable def aA6(hv:LI)(hb:LB)(f a s1 s2 s3 s4 s5:Int)(rs:List Rc)(lo:QT)(ba ro:Int)(ti:QT)(Q:BS):Prop:=aWd hv hb 2 f a s1 s2 s3 s4 s5 rs lo ba ro ti Q
theorem bL6(f:Int)(a:Int)(s1:Int)(s2:Int)(s3:Int)(s4:Int)(s5:Int)(rs:List Rc)(lo:QT)(ba:Int)(ro:Int)(ti:QT)(Q:BS):aA6 (aW [(593989,.int .i64),(593992,.int .i64),(593995,.int .i64),(593998,.int .i64),(594011,.int .i64),(594016,.int .i64),(594039,.int .i64)]) (aV []) f a s1 s2 s3 s4 s5 rs lo ba ro ti Q=(∃xs_0:QT,aO2 f a s1 s2 s3 s4 s5 xs_0∧bif sM xs_0 then ∃xs_1:QT,aO1 ba xs_1∧bif aOx xs_1 then ∃xs_2:QT,aOp ro xs_2∧bif sW xs_2 then bif a !=0 then jN Q else exW .i64 (rT s1 s2) (λn_3=>exW .i64 (rT n_3 s3) (λn_4=>exW .i64 (rT n_4 s4) (λn_5=>exW .i64 (rT n_5 s5) (λn_6=>bif n_6 !=0 then jN Q else exW .i64 (rT ba ro) (λn_7=>bif n_7 !=0 then jN Q else exI .i64 (ti.length:Int) (λn_8=>bDr n_8 Q lo ti rs))))))else jN Q else jN Q else jN Q):=by kernel_rfl

noncomputable def aCo(hv:LI)(hb:LB)(f a s1 s2 s3 s4 s5:Int)(rs:List Rc)(lo:QT)(ba ro:Int)(ti:QT)(Q:BS):Prop:=aWd hv hb 3 f a s1 s2 s3 s4 s5 rs lo ba ro ti Q
abbrev bR2(s1 s2 s3 s4 s5:Int)(Q:BS)(ba ro:Int)(ti:QT)(rs:List Rc)(lo:QT):Prop:=exW .i64 (rT s1 s2) (λn_3=>exW .i64 (rT n_3 s3) (λn_4=>exW .i64 (rT n_4 s4) (λn_5=>exW .i64 (rT n_5 s5) (λn_6=>bif n_6 !=0 then jN Q else exW .i64 (rT ba ro) (λn_7=>bif n_7 !=0 then jN Q else exI .i64 (ti.length:Int) (λn_8=>bif decide (n_8>0)then jN Q else exI .i64 (rs.length:Int) (λn_9=>bDr n_9 Q lo ti rs)))))))
theorem bMa(f:Int)(a:Int)(s1:Int)(s2:Int)(s3:Int)(s4:Int)(s5:Int)(rs:List Rc)(lo:QT)(ba:Int)(ro:Int)(ti:QT)(Q:BS):aCo (aW [(593989,.int .i64),(593992,.int .i64),(593995,.int .i64),(593998,.int .i64),(594011,.int .i64),(594016,.int .i64),(594028,.int .i64),(594039,.int .i64)]) (aV []) f a s1 s2 s3 s4 s5 rs lo ba ro ti Q=(∃xs_0:QT,aO2 f a s1 s2 s3 s4 s5 xs_0∧bif sM xs_0 then ∃xs_1:QT,aO1 ba xs_1∧bif aOx xs_1 then ∃xs_2:QT,aOp ro xs_2∧bif sW xs_2 then bif a !=0 then jN Q else bR2 s1 s2 s3 s4 s5 Q ba ro ti rs lo else jN Q else jN Q else jN Q):=by kernel_rfl

noncomputable def aBn(hv:LI)(hb:LB)(f a s1 s2 s3 s4 s5:Int)(rs:List Rc)(lo:QT)(ba ro:Int)(ti:QT)(Q:BS):Prop:=aWd hv hb 4 f a s1 s2 s3 s4 s5 rs lo ba ro ti Q
def aC9(rs:List Rc)(lo:QT)(Q:BS):Prop:=(
(∃l_0:(List Rc),((Lf (((cellsRM rs)=(cellsRM l_0)) ∧
 (((List.length rs)=(List.length l_0)) ∧
 ((List.length l_0)<=(1000000:Nat))))) ∧
 (bif(gF l_0)then(∃xs_1:QT,((Lf (((aA lo)=(aA xs_1)) ∧
 (((List.length lo)=(List.length xs_1)) ∧
 ((List.length xs_1)<=(4611686018427387904:Nat))))) ∧
 (bif(eT xs_1)then(Q (Out.ret (AV.bool true)) [] (Gh.mk (0:Nat) (0:Nat) []))
else(Q (Out.ret (AV.bool false)) [] (Gh.mk (0:Nat) (0:Nat) [])))))
else(Q (Out.ret (AV.bool false)) [] (Gh.mk (0:Nat) (0:Nat) []))))))
theorem bNs(f:Int)(a:Int)(s1:Int)(s2:Int)(s3:Int)(s4:Int)(s5:Int)(rs:List Rc)(lo:QT)(ba:Int)(ro:Int)(ti:QT)(Q:BS):aBn (aW [(593989,.int .i64),(593992,.int .i64),(593995,.int .i64),(593998,.int .i64),(594011,.int .i64),(594016,.int .i64),(594028,.int .i64)]) (aV []) f a s1 s2 s3 s4 s5 rs lo ba ro ti Q=(∃xs_0:QT,aO2 f a s1 s2 s3 s4 s5 xs_0∧bif sM xs_0 then ∃xs_1:QT,aO1 ba xs_1∧bif aOx xs_1 then ∃xs_2:QT,aOp ro xs_2∧bif sW xs_2 then exW .i64 (rT s1 s2) (λn_3=>exW .i64 (rT n_3 s3) (λn_4=>exW .i64 (rT n_4 s4) (λn_5=>exW .i64 (rT n_5 s5) (λn_6=>bif n_6 !=0 then jN Q else exW .i64 (rT ba ro) (λn_7=>bif n_7 !=0 then jN Q else exI .i64 (ti.length:Int) (λn_8=>bif decide (n_8>0)then jN Q else exI .i64 (rs.length:Int) (λn_9=>bif decide (n_9>0)then jN Q else ∃xs_10:QT,aZi ti xs_10∧∀r_11:Int,∀l_12:QT,∀b_13:Bool,Lf (bM xs_10=Prod.mk r_11 (Prod.mk l_12 b_13))->bif b_13 then aC9 rs lo Q else aC9 rs lo Q)))))))else jN Q else jN Q else jN Q):=by kernel_rfl

noncomputable def aCp(hv:LI)(hb:LB)(f a s1 s2 s3 s4 s5:Int)(rs:List Rc)(lo:QT)(ba ro:Int)(ti:QT)(Q:BS):Prop:=aWd hv hb 5 f a s1 s2 s3 s4 s5 rs lo ba ro ti Q
theorem bOj(f:Int)(a:Int)(s1:Int)(s2:Int)(s3:Int)(s4:Int)(s5:Int)(rs:List Rc)(lo:QT)(ba:Int)(ro:Int)(ti:QT)(Q:BS):aCp (aW [(593989,.int .i64),(593992,.int .i64),(593995,.int .i64),(593998,.int .i64),(594011,.int .i64),(594016,.int .i64),(594028,.int .i64),(594039,.int .i64)]) (aV []) f a s1 s2 s3 s4 s5 rs lo ba ro ti Q=(∃xs_0:QT,aO2 f a s1 s2 s3 s4 s5 xs_0∧bif sM xs_0 then ∃xs_1:QT,aO1 ba xs_1∧bif aOx xs_1 then ∃xs_2:QT,aOp ro xs_2∧bif sW xs_2 then bR2 s1 s2 s3 s4 s5 Q ba ro ti rs lo else jN Q else jN Q else jN Q):=by kernel_rfl

noncomputable def aB3(hv:LI)(hb:LB)(f a s1 s2 s3 s4 s5:Int)(rs:List Rc)(lo:QT)(ba ro:Int)(ti:QT)(Q:BS):Prop:=aWd hv hb 6 f a s1 s2 s3 s4 s5 rs lo ba ro ti Q
theorem bN1(f:Int)(a:Int)(s1:Int)(s2:Int)(s3:Int)(s4:Int)(s5:Int)(rs:List Rc)(lo:QT)(ba:Int)(ro:Int)(ti:QT)(Q:BS):aB3 (aW [(593989,.int .i64),(593992,.int .i64),(593995,.int .i64),(593998,.int .i64),(594028,.int .i64),(594039,.int .i64)]) (aV []) f a s1 s2 s3 s4 s5 rs lo ba ro ti Q=(∃xs_0:QT,aO2 f a s1 s2 s3 s4 s5 xs_0∧bif sM xs_0 then ∃xs_1:QT,aO1 ba xs_1∧bif aOx xs_1 then ∃xs_2:QT,aOp ro xs_2∧bif sW xs_2 then exW .i64 (rT s1 s2) (λn_3=>exW .i64 (rT n_3 s3) (λn_4=>exW .i64 (rT n_4 s4) (λn_5=>exW .i64 (rT n_5 s5) (λn_6=>bif n_6 !=0 then jN Q else exI .i64 (rs.length:Int) (λn_7=>bif decide (n_7>0)then jN Q else exI .i64 (lo.length:Int) (λn_8=>bif decide (n_8>0)then jN Q else ∃xs_9:QT,aZi ti xs_9∧∀r_10:Int,∀l_11:QT,∀b_12:Bool,Lf (bM xs_9=Prod.mk r_10 (Prod.mk l_11 b_12))->bif b_12 then ∃l_13:List Rc,aG4 rs l_13∧bif gF l_13 then Q (.ret (.bool true)) [] {}else jN Q else jN Q))))))else jN Q else jN Q else jN Q):=by kernel_rfl


theorem orZ{x y:Int}{K:Int->Prop}(hx:in32 x)(hy:in32 y)(h:∀z:Int,in32 z->(z=0↔x=0∧y=0)->K z) :
  ∃n,AV.int .i64 (IntKind.wrap .i64 (((x%18446744073709551616).toNat ||| (y%18446744073709551616).toNat:Nat):Int))=AV.int .i64 n∧K n:=by
 obtain⟨x,rfl⟩:=cAv hx.1
 obtain⟨y,rfl⟩:=cAv hy.1
 have e1:(((x:Nat):Int)%18446744073709551616).toNat=x:=by omega
 have e2:(((y:Nat):Int)%18446744073709551616).toNat=y:=by omega
 rw[e1,e2]
 have h3:x ||| y<2^32:=bYx (by omega) (by omega)
 refine aF (h _ ⟨by omega,by omega⟩ ?_)
 have h4:x ||| y=0↔x=0∧y=0:=Nat.or_eq_zero_iff
 omega
theorem kP{c:Ctl}{Q:Bool->Prop}(hq:Q (validM c))(h:validM c=true->False):Q false:=by
 have:validM c=false:=by
  cases e:validM c
  ·rfl
  ·exact(h e).elim
 rwa[this]at hq
theorem kQ{c:Ctl}{Q:Bool->Prop}(hq:Q (validM c))(h:validM c=true):Q true:=by rwa[h]at hq
theorem aM1(m:Nat)(f a s1 s2 s3 s4 s5:Int)(rs:List Rc)(lo:QT)(ba ro:Int)(ti:QT)(hrs:rs.length<=1000000)(hlo:lo.length<=1000000)(hti:ti.length<=1000000)(Q:BS)(hq:Q (.ret (.bool (validM ⟨(Int.negSucc m),f,a,s1,s2,s3,s4,s5,rs,lo,ba,ro,ti⟩))) [] {}):∃hv hb,aB4 hv hb m f a s1 s2 s3 s4 s5 rs lo ba ro ti Q:=by
 obtain⟨hv,hb',e⟩:∃hv hb,aB4 hv hb m f a s1 s2 s3 s4 s5 rs lo ba ro ti Q=_:=⟨_,_,bN5 m f a s1 s2 s3 s4 s5 rs lo ba ro ti Q⟩
 refine⟨hv,hb',e.mpr ?_⟩
 clear e
 have kf:=kP (Q:=λb=>Q (.ret (.bool b)) [] {}) hq
 have kt:=kQ (Q:=λb=>Q (.ret (.bool b)) [] {}) hq
 have:=kf λh=>by
  have:=(bY8 h).1
  dsimp only at this
  try simp only[cAj]at this
  omega
 exact⟨_,rfl,by rw[bXr (by omega)],this⟩
theorem aNg(m:Nat)(f a s1 s2 s3 s4 s5:Int)(rs:List Rc)(lo:QT)(ba ro:Int)(ti:QT)(hrs:rs.length<=1000000)(hlo:lo.length<=1000000)(hti:ti.length<=1000000)(Q:BS)(hq:Q (.ret (.bool (validM ⟨(Int.ofNat (m+7)),f,a,s1,s2,s3,s4,s5,rs,lo,ba,ro,ti⟩))) [] {}):∃hv hb,aCg hv hb m f a s1 s2 s3 s4 s5 rs lo ba ro ti Q:=by
 obtain⟨hv,hb',e⟩:∃hv hb,aCg hv hb m f a s1 s2 s3 s4 s5 rs lo ba ro ti Q=_:=⟨_,_,bOk m f a s1 s2 s3 s4 s5 rs lo ba ro ti Q⟩
 refine⟨hv,hb',e.mpr ?_⟩
 clear e
 have kf:=kP (Q:=λb=>Q (.ret (.bool b)) [] {}) hq
 have kt:=kQ (Q:=λb=>Q (.ret (.bool b)) [] {}) hq
 have:=kf λh=>by
  have:=(bY8 h).1
  dsimp only at this
  try simp only[cAj]at this
  omega
 exact⟨_,rfl,by rw[bXt (by simp only[cAj];omega)],_,rfl,by rw[bXr (by simp only[cAj];omega)],this⟩
theorem aL5(f a s1 s2 s3 s4 s5:Int)(rs:List Rc)(lo:QT)(ba ro:Int)(ti:QT)(hrs:rs.length<=1000000)(hlo:lo.length<=1000000)(hti:ti.length<=1000000)(Q:BS)(hq:Q (.ret (.bool (validM ⟨0,f,a,s1,s2,s3,s4,s5,rs,lo,ba,ro,ti⟩))) [] {}):∃hv hb,aBe hv hb f a s1 s2 s3 s4 s5 rs lo ba ro ti Q:=by
 obtain⟨hv,hb',e⟩:∃hv hb,aBe hv hb f a s1 s2 s3 s4 s5 rs lo ba ro ti Q=_:=⟨_,_,bLw f a s1 s2 s3 s4 s5 rs lo ba ro ti Q⟩
 refine⟨hv,hb',e.mpr ?_⟩
 clear e
 have kf:=kP (Q:=λb=>Q (.ret (.bool b)) [] {}) hq
 have kt:=kQ (Q:=λb=>Q (.ret (.bool b)) [] {}) hq
 have:=kf λh=>by
  have:=(bY8 h).1
  dsimp only at this
  try simp only[cAj]at this
  omega
 exact this
theorem aLx(f a s1 s2 s3 s4 s5:Int)(rs:List Rc)(lo:QT)(ba ro:Int)(ti:QT)(hrs:rs.length<=1000000)(hlo:lo.length<=1000000)(hti:ti.length<=1000000)(Q:BS)(hq:Q (.ret (.bool (validM ⟨1,f,a,s1,s2,s3,s4,s5,rs,lo,ba,ro,ti⟩))) [] {}):∃hv hb,aCu hv hb f a s1 s2 s3 s4 s5 rs lo ba ro ti Q:=by
 obtain⟨hv,hb',e⟩:∃hv hb,aCu hv hb f a s1 s2 s3 s4 s5 rs lo ba ro ti Q=_:=⟨_,_,bPc f a s1 s2 s3 s4 s5 rs lo ba ro ti Q⟩
 refine⟨hv,hb',e.mpr ?_⟩
 delta aO2 sM aO1 aOx aOp sW zG jN rT aZi aG4 bKp bDr
 clear e
 have kf:=kP (Q:=λb=>Q (.ret (.bool b)) [] {}) hq
 have kt:=kQ (Q:=λb=>Q (.ret (.bool b)) [] {}) hq
 rw[validM,bW6]at kf kt
 dsimp only at kf kt
 refine⟨[f,a,s1,s2,s3,s4,s5],⟨rfl,rfl,by decide,by simp⟩,eO (λf1=>⟨[ba],⟨rfl,rfl,by decide,by simp⟩,eO (λf2=>⟨[ro],⟨rfl,rfl,by decide,by simp⟩,eO (λf3 => ?_) (λf3=>kf λh => ?_)⟩) (λf2=>kf λh => ?_)⟩) (λf1=>kf λh => ?_)⟩
 all_goals simp only[bYk,bYs,bYn,eP,jU,dZ,bXy,bXh,bW6,bXi]at f1
 all_goals try simp only[bYk,bYs,bYn,eP,jU,dZ,bXy,bXh,bW6,bXi]at f2
 all_goals try simp only[bYk,bYs,bYn,eP,jU,dZ,bXy,bXh,bW6,bXi]at f3
 any_goals (exfalso;omega)
 repeat' (first | (with_reducible refine orZ (by omega) (by omega) (λz hz h0 => ?_)) | (with_reducible refine bK (λhn => ?_) (λhn => ?_)) | (with_reducible refine⟨_,rfl, ?_⟩) | (with_reducible refine aH (λhd => ?_) (λhd => ?_)) | (with_reducible refine⟨ti,⟨rfl,rfl,hti⟩, ?_⟩) | (with_reducible refine⟨rs,⟨rfl,rfl,hrs⟩, ?_⟩) | (with_reducible refine⟨lo,⟨rfl,rfl,by omega⟩, ?_⟩) | (rintro r l b ⟨hs⟩) | (with_reducible refine jA ?_) | (with_reducible refine dJ (λhd => ?_) (λhd => ?_)))
 all_goals first
  | (refine kf λh => ?_;first | (exfalso;omega) | (simp_all;done) | (exfalso;simp_all;omega))
  | (refine kt ?_;first | (simp_all;done) | (simp_all;omega) | (refine⟨by omega,by omega,by omega,by omega,by omega,by omega,by omega,by omega,by omega,by omega,by omega,by omega,by omega,by omega,by omega, ?_, ?_, ?_⟩<;>first | (simp_all;done) | (intros;omega)))
theorem aNq(f a s1 s2 s3 s4 s5:Int)(rs:List Rc)(lo:QT)(ba ro:Int)(ti:QT)(hrs:rs.length<=1000000)(hlo:lo.length<=1000000)(hti:ti.length<=1000000)(Q:BS)(hq:Q (.ret (.bool (validM ⟨2,f,a,s1,s2,s3,s4,s5,rs,lo,ba,ro,ti⟩))) [] {}):∃hv hb,aA6 hv hb f a s1 s2 s3 s4 s5 rs lo ba ro ti Q:=by
 obtain⟨hv,hb',e⟩:∃hv hb,aA6 hv hb f a s1 s2 s3 s4 s5 rs lo ba ro ti Q=_:=⟨_,_,bL6 f a s1 s2 s3 s4 s5 rs lo ba ro ti Q⟩
 refine⟨hv,hb',e.mpr ?_⟩
 delta aO2 sM aO1 aOx aOp sW zG jN rT aZi aG4 bKp bDr
 clear e
 have kf:=kP (Q:=λb=>Q (.ret (.bool b)) [] {}) hq
 have kt:=kQ (Q:=λb=>Q (.ret (.bool b)) [] {}) hq
 rw[validM,bW6]at kf kt
 dsimp only at kf kt
 refine⟨[f,a,s1,s2,s3,s4,s5],⟨rfl,rfl,by decide,by simp⟩,eO (λf1=>⟨[ba],⟨rfl,rfl,by decide,by simp⟩,eO (λf2=>⟨[ro],⟨rfl,rfl,by decide,by simp⟩,eO (λf3 => ?_) (λf3=>kf λh => ?_)⟩) (λf2=>kf λh => ?_)⟩) (λf1=>kf λh => ?_)⟩
 all_goals simp only[bYk,bYs,bYn,eP,jU,dZ,bXy,bXh,bW6,bXi]at f1
 all_goals try simp only[bYk,bYs,bYn,eP,jU,dZ,bXy,bXh,bW6,bXi]at f2
 all_goals try simp only[bYk,bYs,bYn,eP,jU,dZ,bXy,bXh,bW6,bXi]at f3
 any_goals (exfalso;omega)
 repeat' (first | (with_reducible refine orZ (by omega) (by omega) (λz hz h0 => ?_)) | (with_reducible refine bK (λhn => ?_) (λhn => ?_)) | (with_reducible refine⟨_,rfl, ?_⟩) | (with_reducible refine aH (λhd => ?_) (λhd => ?_)) | (with_reducible refine⟨ti,⟨rfl,rfl,hti⟩, ?_⟩) | (with_reducible refine⟨rs,⟨rfl,rfl,hrs⟩, ?_⟩) | (with_reducible refine⟨lo,⟨rfl,rfl,by omega⟩, ?_⟩) | (rintro r l b ⟨hs⟩) | (with_reducible refine jA ?_) | (with_reducible refine dJ (λhd => ?_) (λhd => ?_)))
 all_goals first
  | (refine kf λh => ?_;first | (exfalso;omega) | (simp_all;done) | (exfalso;simp_all;omega))
  | (refine kt ?_;first | (simp_all;done) | (simp_all;omega) | (refine⟨by omega,by omega,by omega,by omega,by omega,by omega,by omega,by omega,by omega,by omega,by omega,by omega,by omega,by omega,by omega, ?_, ?_, ?_⟩<;>first | (simp_all;done) | (intros;omega)))
theorem aMg(f a s1 s2 s3 s4 s5:Int)(rs:List Rc)(lo:QT)(ba ro:Int)(ti:QT)(hrs:rs.length<=1000000)(hlo:lo.length<=1000000)(hti:ti.length<=1000000)(Q:BS)(hq:Q (.ret (.bool (validM ⟨3,f,a,s1,s2,s3,s4,s5,rs,lo,ba,ro,ti⟩))) [] {}):∃hv hb,aCo hv hb f a s1 s2 s3 s4 s5 rs lo ba ro ti Q:=by
 obtain⟨hv,hb',e⟩:∃hv hb,aCo hv hb f a s1 s2 s3 s4 s5 rs lo ba ro ti Q=_:=⟨_,_,bMa f a s1 s2 s3 s4 s5 rs lo ba ro ti Q⟩
 refine⟨hv,hb',e.mpr ?_⟩
 delta aO2 sM aO1 aOx aOp sW zG jN rT aZi aG4 bKp bDr bR2
 clear e
 have kf:=kP (Q:=λb=>Q (.ret (.bool b)) [] {}) hq
 have kt:=kQ (Q:=λb=>Q (.ret (.bool b)) [] {}) hq
 rw[validM,bW6]at kf kt
 dsimp only at kf kt
 refine⟨[f,a,s1,s2,s3,s4,s5],⟨rfl,rfl,by decide,by simp⟩,eO (λf1=>⟨[ba],⟨rfl,rfl,by decide,by simp⟩,eO (λf2=>⟨[ro],⟨rfl,rfl,by decide,by simp⟩,eO (λf3 => ?_) (λf3=>kf λh => ?_)⟩) (λf2=>kf λh => ?_)⟩) (λf1=>kf λh => ?_)⟩
 all_goals simp only[bYk,bYs,bYn,eP,jU,dZ,bXy,bXh,bW6,bXi]at f1
 all_goals try simp only[bYk,bYs,bYn,eP,jU,dZ,bXy,bXh,bW6,bXi]at f2
 all_goals try simp only[bYk,bYs,bYn,eP,jU,dZ,bXy,bXh,bW6,bXi]at f3
 any_goals (exfalso;omega)
 repeat' (first | (with_reducible refine orZ (by omega) (by omega) (λz hz h0 => ?_)) | (with_reducible refine bK (λhn => ?_) (λhn => ?_)) | (with_reducible refine⟨_,rfl, ?_⟩) | (with_reducible refine aH (λhd => ?_) (λhd => ?_)) | (with_reducible refine⟨ti,⟨rfl,rfl,hti⟩, ?_⟩) | (with_reducible refine⟨rs,⟨rfl,rfl,hrs⟩, ?_⟩) | (with_reducible refine⟨lo,⟨rfl,rfl,by omega⟩, ?_⟩) | (rintro r l b ⟨hs⟩) | (with_reducible refine jA ?_) | (with_reducible refine dJ (λhd => ?_) (λhd => ?_)))
 all_goals first
  | (refine kf λh => ?_;first | (exfalso;omega) | (simp_all;done) | (exfalso;simp_all;omega))
  | (refine kt ?_;first | (simp_all;done) | (simp_all;omega) | (refine⟨by omega,by omega,by omega,by omega,by omega,by omega,by omega,by omega,by omega,by omega,by omega,by omega,by omega,by omega,by omega, ?_, ?_, ?_⟩<;>first | (simp_all;done) | (intros;omega)))
theorem aMh(f a s1 s2 s3 s4 s5:Int)(rs:List Rc)(lo:QT)(ba ro:Int)(ti:QT)(hrs:rs.length<=1000000)(hlo:lo.length<=1000000)(hti:ti.length<=1000000)(Q:BS)(hq:Q (.ret (.bool (validM ⟨4,f,a,s1,s2,s3,s4,s5,rs,lo,ba,ro,ti⟩))) [] {}):∃hv hb,aBn hv hb f a s1 s2 s3 s4 s5 rs lo ba ro ti Q:=by
 obtain⟨hv,hb',e⟩:∃hv hb,aBn hv hb f a s1 s2 s3 s4 s5 rs lo ba ro ti Q=_:=⟨_,_,bNs f a s1 s2 s3 s4 s5 rs lo ba ro ti Q⟩
 refine⟨hv,hb',e.mpr ?_⟩
 delta aO2 sM aO1 aOx aOp sW rT zG jN aZi
 clear e
 have kf:=kP (Q:=λb=>Q (.ret (.bool b)) [] {}) hq
 have kt:=kQ (Q:=λb=>Q (.ret (.bool b)) [] {}) hq
 rw[validM,bW6]at kf kt
 dsimp only at kf kt
 refine⟨[f,a,s1,s2,s3,s4,s5],⟨rfl,rfl,by decide,by simp⟩,eO (λf1=>⟨[ba],⟨rfl,rfl,by decide,by simp⟩,eO (λf2=>⟨[ro],⟨rfl,rfl,by decide,by simp⟩,eO (λf3 => ?_) (λf3=>kf λh => ?_)⟩) (λf2=>kf λh => ?_)⟩) (λf1=>kf λh => ?_)⟩
 all_goals simp only[bYk,bYs,bYn,eP,jU,dZ,bXy,bXh,bW6,bXi]at f1
 all_goals try simp only[bYk,bYs,bYn,eP,jU,dZ,bXy,bXh,bW6,bXi]at f2
 all_goals try simp only[bYk,bYs,bYn,eP,jU,dZ,bXy,bXh,bW6,bXi]at f3
 any_goals (exfalso;omega)
 repeat' (first | (with_reducible refine orZ (by omega) (by omega) (λz hz h0 => ?_)) | (with_reducible refine bK (λhn => ?_) (λhn => ?_)) | (with_reducible refine⟨_,rfl, ?_⟩) | (with_reducible refine aH (λhd => ?_) (λhd => ?_)) | (with_reducible refine⟨ti,⟨rfl,rfl,hti⟩, ?_⟩) | (with_reducible refine⟨rs,⟨rfl,rfl,hrs⟩, ?_⟩) | (with_reducible refine⟨lo,⟨rfl,rfl,by omega⟩, ?_⟩) | (rintro r l b ⟨hs⟩) | (with_reducible refine jA ?_) | (with_reducible refine dJ (λhd => ?_) (λhd => ?_)))
 all_goals try simp only[aC9]
 all_goals (repeat' (first | (with_reducible refine orZ (by omega) (by omega) (λz hz h0 => ?_)) | (with_reducible refine bK (λhn => ?_) (λhn => ?_)) | (with_reducible refine⟨_,rfl, ?_⟩) | (with_reducible refine aH (λhd => ?_) (λhd => ?_)) | (with_reducible refine⟨ti,⟨rfl,rfl,hti⟩, ?_⟩) | (with_reducible refine⟨rs,⟨rfl,rfl,hrs⟩, ?_⟩) | (with_reducible refine⟨lo,⟨rfl,rfl,by omega⟩, ?_⟩) | (rintro r l b ⟨hs⟩) | (with_reducible refine jA ?_) | (with_reducible refine dJ (λhd => ?_) (λhd => ?_))))
 all_goals first
  | (refine kf λh => ?_;first | (exfalso;omega) | (simp_all;done) | (exfalso;simp_all;omega))
  | (refine kt ?_;first | (simp_all;done) | (simp_all;omega) | (refine⟨by omega,by omega,by omega,by omega,by omega,by omega,by omega,by omega,by omega,by omega,by omega,by omega,by omega,by omega,by omega, ?_, ?_, ?_⟩<;>first | (simp_all;done) | (intros;omega)))
theorem aNa(f a s1 s2 s3 s4 s5:Int)(rs:List Rc)(lo:QT)(ba ro:Int)(ti:QT)(hrs:rs.length<=1000000)(hlo:lo.length<=1000000)(hti:ti.length<=1000000)(Q:BS)(hq:Q (.ret (.bool (validM ⟨5,f,a,s1,s2,s3,s4,s5,rs,lo,ba,ro,ti⟩))) [] {}):∃hv hb,aCp hv hb f a s1 s2 s3 s4 s5 rs lo ba ro ti Q:=by
 obtain⟨hv,hb',e⟩:∃hv hb,aCp hv hb f a s1 s2 s3 s4 s5 rs lo ba ro ti Q=_:=⟨_,_,bOj f a s1 s2 s3 s4 s5 rs lo ba ro ti Q⟩
 refine⟨hv,hb',e.mpr ?_⟩
 delta aO2 sM aO1 aOx aOp sW rT zG jN aZi aG4 bKp bDr bR2
 clear e
 have kf:=kP (Q:=λb=>Q (.ret (.bool b)) [] {}) hq
 have kt:=kQ (Q:=λb=>Q (.ret (.bool b)) [] {}) hq
 rw[validM,bW6]at kf kt
 dsimp only at kf kt
 refine⟨[f,a,s1,s2,s3,s4,s5],⟨rfl,rfl,by decide,by simp⟩,eO (λf1=>⟨[ba],⟨rfl,rfl,by decide,by simp⟩,eO (λf2=>⟨[ro],⟨rfl,rfl,by decide,by simp⟩,eO (λf3 => ?_) (λf3=>kf λh => ?_)⟩) (λf2=>kf λh => ?_)⟩) (λf1=>kf λh => ?_)⟩
 all_goals simp only[bYk,bYs,bYn,eP,jU,dZ,bXy,bXh,bW6,bXi]at f1
 all_goals try simp only[bYk,bYs,bYn,eP,jU,dZ,bXy,bXh,bW6,bXi]at f2
 all_goals try simp only[bYk,bYs,bYn,eP,jU,dZ,bXy,bXh,bW6,bXi]at f3
 any_goals (exfalso;omega)
 repeat' (first | (with_reducible refine orZ (by omega) (by omega) (λz hz h0 => ?_)) | (with_reducible refine bK (λhn => ?_) (λhn => ?_)) | (with_reducible refine⟨_,rfl, ?_⟩) | (with_reducible refine aH (λhd => ?_) (λhd => ?_)) | (with_reducible refine⟨ti,⟨rfl,rfl,hti⟩, ?_⟩) | (with_reducible refine⟨rs,⟨rfl,rfl,hrs⟩, ?_⟩) | (with_reducible refine⟨lo,⟨rfl,rfl,by omega⟩, ?_⟩) | (rintro r l b ⟨hs⟩) | (with_reducible refine jA ?_) | (with_reducible refine dJ (λhd => ?_) (λhd => ?_)))
 all_goals first
  | (refine kf λh => ?_;first | (exfalso;omega) | (simp_all;done) | (exfalso;simp_all;omega))
  | (refine kt ?_;first | (simp_all;done) | (simp_all;omega) | (refine⟨by omega,by omega,by omega,by omega,by omega,by omega,by omega,by omega,by omega,by omega,by omega,by omega,by omega,by omega,by omega, ?_, ?_, ?_⟩<;>first | (simp_all;done) | (intros;omega)))
theorem aOl(f a s1 s2 s3 s4 s5:Int)(rs:List Rc)(lo:QT)(ba ro:Int)(ti:QT)(hrs:rs.length<=1000000)(hlo:lo.length<=1000000)(hti:ti.length<=1000000)(Q:BS)(hq:Q (.ret (.bool (validM ⟨6,f,a,s1,s2,s3,s4,s5,rs,lo,ba,ro,ti⟩))) [] {}):∃hv hb,aB3 hv hb f a s1 s2 s3 s4 s5 rs lo ba ro ti Q:=by
 obtain⟨hv,hb',e⟩:∃hv hb,aB3 hv hb f a s1 s2 s3 s4 s5 rs lo ba ro ti Q=_:=⟨_,_,bN1 f a s1 s2 s3 s4 s5 rs lo ba ro ti Q⟩
 refine⟨hv,hb',e.mpr ?_⟩
 delta aO2 sM aO1 aOx aOp sW rT zG jN aZi aG4
 clear e
 have kf:=kP (Q:=λb=>Q (.ret (.bool b)) [] {}) hq
 have kt:=kQ (Q:=λb=>Q (.ret (.bool b)) [] {}) hq
 rw[validM,bW6]at kf kt
 dsimp only at kf kt
 refine⟨[f,a,s1,s2,s3,s4,s5],⟨rfl,rfl,by decide,by simp⟩,eO (λf1=>⟨[ba],⟨rfl,rfl,by decide,by simp⟩,eO (λf2=>⟨[ro],⟨rfl,rfl,by decide,by simp⟩,eO (λf3 => ?_) (λf3=>kf λh => ?_)⟩) (λf2=>kf λh => ?_)⟩) (λf1=>kf λh => ?_)⟩
 all_goals simp only[bYk,bYs,bYn,eP,jU,dZ,bXy,bXh,bW6,bXi]at f1
 all_goals try simp only[bYk,bYs,bYn,eP,jU,dZ,bXy,bXh,bW6,bXi]at f2
 all_goals try simp only[bYk,bYs,bYn,eP,jU,dZ,bXy,bXh,bW6,bXi]at f3
 any_goals (exfalso;omega)
 repeat' (first | (with_reducible refine orZ (by omega) (by omega) (λz hz h0 => ?_)) | (with_reducible refine bK (λhn => ?_) (λhn => ?_)) | (with_reducible refine⟨_,rfl, ?_⟩) | (with_reducible refine aH (λhd => ?_) (λhd => ?_)) | (with_reducible refine⟨ti,⟨rfl,rfl,hti⟩, ?_⟩) | (with_reducible refine⟨rs,⟨rfl,rfl,hrs⟩, ?_⟩) | (with_reducible refine⟨lo,⟨rfl,rfl,by omega⟩, ?_⟩) | (rintro r l b ⟨hs⟩) | (with_reducible refine jA ?_) | (with_reducible refine dJ (λhd => ?_) (λhd => ?_)))
 all_goals first
  | (refine kf λh => ?_;first | (exfalso;omega) | (simp_all;done) | (exfalso;simp_all;omega))
  | (refine kt ?_;first | (simp_all;done) | (simp_all;omega) | (refine⟨by omega,by omega,by omega,by omega,by omega,by omega,by omega,by omega,by omega,by omega,by omega,by omega,by omega,by omega,by omega, ?_, ?_, ?_⟩<;>first | (simp_all;done) | (intros;omega)))
def okCCd(c:Ctl):Prop:=c.rs.length<=1000000∧c.lo.length<=1000000∧c.ti.length<=1000000
def aQ6:iO
 | [.agg cs],H,K=>∃c:Ctl,Lf (cs=ctC c∧okCCd c)∧K (.ret (.bool (validM c))) H
 | _,_,_=>False
theorem aUy(c:Ctl)(h:okCCd c)(Q:BS)(hq:Q (.ret (.bool (validM c))) [] {}):∃hv hb,aWd hv hb c.k c.f c.a c.s1 c.s2 c.s3 c.s4 c.s5 c.rs c.lo c.ba c.ro c.ti Q:=by
 obtain⟨k,f,a,s1,s2,s3,s4,s5,rs,lo,ba,ro,ti⟩:=c
 obtain⟨h1,h2,h3⟩:=h
 dsimp only at h1 h2 h3 ⊢
 cases k with
 | negSucc m=>exact aM1 m f a s1 s2 s3 s4 s5 rs lo ba ro ti h1 h2 h3 Q hq
 | ofNat k=>
  match k with
  | 0=>exact aL5 f a s1 s2 s3 s4 s5 rs lo ba ro ti h1 h2 h3 Q hq
  | 1=>exact aLx f a s1 s2 s3 s4 s5 rs lo ba ro ti h1 h2 h3 Q hq
  | 2=>exact aNq f a s1 s2 s3 s4 s5 rs lo ba ro ti h1 h2 h3 Q hq
  | 3=>exact aMg f a s1 s2 s3 s4 s5 rs lo ba ro ti h1 h2 h3 Q hq
  | 4=>exact aMh f a s1 s2 s3 s4 s5 rs lo ba ro ti h1 h2 h3 Q hq
  | 5=>exact aNa f a s1 s2 s3 s4 s5 rs lo ba ro ti h1 h2 h3 Q hq
  | 6=>exact aOl f a s1 s2 s3 s4 s5 rs lo ba ro ti h1 h2 h3 Q hq
  | m+7=>exact aNg m f a s1 s2 s3 s4 s5 rs lo ba ro ti h1 h2 h3 Q hq
theorem bAv:aI Tryz.prog gl0 145 aQ6:=by
 refine aQ (enters_of (by kernel_rfl)) aO λargs H Q hc => ?_
 unfold aQ6 at hc
 split at hc
 ·obtain⟨c,⟨rfl,h⟩,hq⟩:=hc
  obtain⟨hv,hb',h⟩:=aUy c h (λo H' _=>H'=[]∧(∃v,o=.ret v∧old 0 v=true∧noY v=true)∧Q o H) ⟨rfl,⟨_,rfl,rfl,rfl⟩,hq⟩
  refine⟨by simp[ctC,aP,old],by simp[ctC,bX,noY],_,1000,bL bJd _ _ _,rfl,h⟩
 ·exact hc.elim
def cellsCM(l:List Ctl):HB:=l.flatMap ctC
theorem aU3(c:Ctl):(ctC c).length=13:=rfl
theorem cellsC_len:∀l:List Ctl,(cellsCM l).length=13*l.length
 | []=>rfl
 | r::l=>by
  have:=cellsC_len l
  simp only[cellsCM,bZ5,bW2,aU3,bXc]at this ⊢
  omega
theorem rG{l:List Ctl}{i j:Nat}(hi:i<l.length)(hj:j=13*i):∃r,l[i]? = some r∧(cellsCM l |>.drop j).take 13=ctC r:=by
 subst hj
 induction l generalizing i with
 | nil=>simp at hi
 | cons x l ih=>
  cases i with
  | zero=>exact⟨x,rfl,rfl⟩
  | succ i=>
   obtain⟨r,h1,h2⟩:=ih (i:=i) (by simpa using hi)
   refine⟨r,by simpa using h1, ?_⟩
   have e:cellsCM (x::l)=ctC x++cellsCM l:=rfl
   rw[e,show 13*(i+1)=(ctC x).length+13*i by rw[aU3];omega,←bY9,cBs]
   exact h2
def pW(l:List Ctl):Bool:=match l with
 | []=>false
 | c::_=>decide (c.k=1∨c.k=2)
def checkMCd(l:List Ctl):Bool:=decide (1<=l.length∧l.length<=8)&&pW l&&l.all validM
def bVy:SM:=fT [(145,aQ6)]
theorem bE1:∀f g,bVy f=some g->aI Tryz.prog gl0 f g:=dX _ (by simp only[bXd,bXn,bY0,bY4];exact bAv)
def bPq(t:Nat)(l:List Ctl):LInv where
 α:=Nat
 pre i:=Lf (i<=l.length∧(l.take i).all validM=true)
 st i:=⟨mkT [(0,.lst t (cellsCM l) l.length 13),(1,.fn (.func 144) [] []),(7,.int .i64 l.length),(8,.int .i64 i)],[]⟩
 mu i:=l.length-i
noncomputable def bBf(hv:LI)(hb:LB)(t:Nat)(l:List Ctl):Env:=e24 bVy (λi=>bif Nat.beq i 183000 then some (λ_=>[[bPq t l]])else none) hv hb
noncomputable def aGu(hv:LI)(hb:LB)(t:Nat)(l:List Ctl)(Q:BS):Prop:=
 aT (bBf hv hb t l) (wpx (bBf hv hb t l) 1000) 95 [.lst t (cellsCM l) l.length 13] [] {} Q
def xV(t:Nat)(l:List Ctl)(Q:BS):Prop:=
exI .i64 (l.length:Int) λn_0=>(∃x_1:Nat,Lf (x_1<=l.length∧List.all (l.take x_1) validM=true)∧aK (AV.lst t (cellsCM l) l.length 13)∧aK (AV.fn (Fn.func 144) [] [])∧AV.int .i64 n_0=AV.int .i64 (l.length:Int) ∧
 AV.int .i64 0=AV.int .i64 (x_1:Int)∧True)∧∀x_1:Nat,Lf (x_1<=l.length∧List.all (l.take x_1) validM=true)->bif decide ((x_1:Int)<(l.length:Int))then exI .i64 (x_1:Int) λn_2=>ckQ (decide (0<=n_2)&&Nat.blt
 n_2.toNat l.length&&true) (ckQ (Nat.ble (n_2.toNat*13+13) (cellsCM l).length) (ckQ (Nat.beq (((cellsCM l).drop (n_2.toNat*13)).take 13).length (((cellsCM l).drop (n_2.toNat*13)).take 13).length&&Nat.ble 13 (((cellsCM l).drop
 (n_2.toNat*13)).take 13).length) (∃c_3:Ctl,Lf (((((cellsCM l).drop (n_2.toNat*13)).take 13).drop 0).take 13=[AV.int .i64 c_3.1,.int .i64 c_3.2,.int .i64 c_3.3,.int .i64 c_3.4,.int .i64 c_3.5,.int .i64 c_3.6,.int .i64 c_3.7,
 .int .i64 c_3.8,.lst 0 (cellsRM c_3.9) c_3.9.length 7,.lst 0 (aA c_3.10) c_3.10.length 1,.int .i64 c_3.11,.int .i64 c_3.12,.lst 0 (aA c_3.13) c_3.13.length 1]∧okCCd c_3)∧bif validM c_3 then exW .i64 ((x_1:Int)+1) fun
 n_4=>(True∧(0:Nat)=(0:Nat))∧∃y_5:Nat,Lf (y_5<=l.length∧List.all (l.take y_5) validM=true)∧l.length-y_5<l.length-x_1∧aK (AV.lst t (cellsCM l) l.length 13)∧aK (AV.fn (Fn.func 144) [] [])∧aK (AV.int
 .i64 (l.length:Int))∧AV.int .i64 n_4=AV.int .i64 (y_5:Int)∧True else bif decide (n_2≥0)then Q (.ret (.int .i64 240)) [] {}else Q (.ret (.int .i64 0)) [] {})))else Q (.ret (.int .i64 0)) [] {}
theorem bSt(t:Nat)(l:List Ctl)(Q:BS):aGu (aW [(389124,.int .i64),(389128,.int .i64),(389135,.int .i64),(389141,.int .i64),(749575,.int .i64),(749578,.int .i64),(749586,.int .i64)]) (aV []) t l Q=(
(∃n_0:Int,(((AV.int .i64 (Nat.cast (List.length l):Int))=(AV.int .i64 n_0)) ∧
 (bif(decide (n_0<(1:Int)))then(Q (Out.ret (AV.int .i64 (240:Int))) [] (Gh.mk (0:Nat) (0:Nat) []))
else(∃n_1:Int,(((AV.int .i64 (Nat.cast (List.length l):Int))=(AV.int .i64 n_1)) ∧
 (bif(decide (n_1>(8:Int)))then(Q (Out.ret (AV.int .i64 (240:Int))) [] (Gh.mk (0:Nat) (0:Nat) []))
else(bif((Nat.blt (0:Nat) (List.length l))&&true)then(bif(Nat.blt (0:Nat) (List.length (cellsCM l)))then(∃n_2:Int,(((List.getD (cellsCM l) (0:Nat) AV.undef)=(AV.int .i64 n_2)) ∧
 (bif(n_2 !=(1:Int))then(bif((Nat.blt (0:Nat) (List.length l))&&true)then(bif(Nat.blt (0:Nat) (List.length (cellsCM l)))then(∃n_3:Int,(((List.getD (cellsCM l) (0:Nat) AV.undef)=(AV.int .i64 n_3)) ∧
 (bif(n_3 !=(2:Int))then(Q (Out.ret (AV.int .i64 (240:Int))) [] (Gh.mk (0:Nat) (0:Nat) []))
else(xV t l Q))))
else False)
else False)
else(xV t l Q))))
else False)
else False)))))))):=by kernel_rfl

theorem cK{b:Bool}{A B:Prop}(h:b=true->A)(k:b=false->B):bif b then A else B:=by
 cases b
 ·exact k rfl
 ·exact h rfl
theorem bOl(t:Nat)(l:List Ctl)(hok:∀c∈l,okCCd c)(hl:l.length<=1000000)(Q:BS)(no:l.all validM=false->Q (.ret (.int .i64 240)) [] {})(yes:l.all validM=true->Q (.ret (.int .i64 0)) [] {}):xV t l Q:=by
 unfold xV
 refine⟨_,rfl,⟨0,⟨by omega,by simp⟩,rfl,rfl,rfl,rfl,trivial⟩, ?_⟩
 rintro i ⟨g1,g2⟩
 refine aH (λh => ?_) (λh => ?_)
 ·have hi:i<l.length:=by omega
  obtain⟨c,hr,hc⟩:=rG hi (bZz 13 i▸rfl:i*13=13*i)
  have hm:=bY3 hr
  have ge:(decide ((i:Int)≥0))=true:=by simp
  refine⟨_,rfl,ckO (ckI (by simp[cellsC_len];omega) ?_)⟩
  rw[bXf,hc]
  refine ckI rfl ⟨c,⟨rfl,hok c hm⟩,cK (λhv => ?_) (λhv => ?_)⟩
  ·exact aF ⟨⟨trivial,rfl⟩,i+1,⟨hi,by rw[aK9 hr,g2,hv];rfl⟩,by omega,rfl,rfl,rfl,rfl,trivial⟩
  ·rw[ge]
   exact no (by rw[List.all_eq_false];exact⟨c,hm,by simp[hv]⟩)
 ·rw[bW4 (by omega)]at g2
  exact yes g2
def hdM(l:List Ctl):Int:=match l with
 | []=>0
 | c::_=>c.k
theorem oO{l:List Ctl}(h:1<=l.length):pW l=decide (hdM l=1∨hdM l=2):=by
 cases l with
 | nil=>simp at h
 | cons c l=>rfl
theorem uJ{l:List Ctl}(h:1<=l.length){K:Int->Prop}(hk:∀n,n=hdM l->K n):∃n:Int,(cellsCM l).getD 0 AV.undef=AV.int .i64 n∧K n:=by
 cases l with
 | nil=>simp at h
 | cons c l=>exact⟨c.k,rfl,hk _ rfl⟩
theorem aGr(t:Nat)(l:List Ctl)(hok:∀c∈l,okCCd c)(hl:l.length<=1000000)(Q:BS)(hq:∀e:Int,e=(if checkMCd l=true then 0 else 240)->Q (.ret (.int .i64 e)) [] {}):∃hv hb,aGu hv hb t l Q:=by
 obtain⟨hv,hb',e⟩:∃hv hb,aGu hv hb t l Q=_:=⟨_,_,bSt t l Q⟩
 refine⟨hv,hb',e.mpr ?_⟩
 clear e
 have no:checkMCd l=false->Q (.ret (.int .i64 240)) [] {}:=λh=>hq _ (by simp[h])
 have yes:checkMCd l=true->Q (.ret (.int .i64 0)) [] {}:=λh=>hq _ (by simp[h])
 refine⟨_,rfl,aH (λh1=>no ?_) (λh1=>⟨_,rfl,aH (λh2=>no ?_) (λh2 => ?_)⟩)⟩
 ·simp only[checkMCd,bXt (show ¬ (1<=l.length∧l.length<=8)by omega),bZi]
 ·simp only[checkMCd,bXt (show ¬ (1<=l.length∧l.length<=8)by omega),bZi]
 ·have hc:checkMCd l=(pW l&&l.all validM):=by simp only[checkMCd,bXr (show(1<=l.length∧l.length<=8)by omega),bX7]
  have go:pW l=true->xV t l Q:=λhh=>bOl t l hok hl Q (λh=>no (by rw[hc,hh,h];rfl)) (λh=>yes (by rw[hc,hh,h];rfl))
  refine ckO (ckI (by simp[cellsC_len];omega) (uJ (by omega) λn hn=>bK (λk1 => ?_) (λk1 => ?_)))
  ·refine ckO (ckI (by simp[cellsC_len];omega) (uJ (by omega) λn' hn'=>bK (λk2 => ?_) (λk2 => ?_)))
   ·refine no ?_
    rw[hc,oO (by omega),bXt (by omega)];rfl
   ·exact go (by rw[oO (by omega)];exact bXr (by omega))
  ·exact go (by rw[oO (by omega)];exact bXr (by omega))
def aBk:iO
 | [.lst _ cs n 13],H,K=>∃l:List Ctl,Lf (cs=cellsCM l∧n=l.length∧l.length<=1000000∧∀c∈l,okCCd c)∧∀e:Int,Lf (e=(if checkMCd l=true then 0 else 240))->K (.ret (.int .i64 e)) H
 | _,_,_=>False
theorem aUo:aI Tryz.prog gl0 95 aBk:=by
 refine aQ (enters_of (by kernel_rfl)) aO λargs H Q hc => ?_
 unfold aBk at hc
 split at hc
 ·obtain⟨l,⟨rfl,rfl,h1,h2⟩,hq⟩:=hc
  obtain⟨hv,hb',h⟩:=aGr _ l h2 h1 (λo H' _=>H'=[]∧(∃v,o=.ret v∧old 0 v=true∧noY v=true)∧Q o H) (λe he=>⟨rfl,⟨_,rfl,rfl,rfl⟩,hq e ⟨he⟩⟩)
  exact⟨rfl,rfl,_,1000,bL bE1 _ _ _,rfl,h⟩
 ·exact hc.elim
end Go.Proofs.YtnhechnaemmdiaaGreatDoor.Cd
