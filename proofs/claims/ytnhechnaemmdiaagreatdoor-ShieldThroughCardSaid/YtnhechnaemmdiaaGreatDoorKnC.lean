/-
  Chapter 25: the environment of chapter 23's texts.
-/
import Derived.Test.YtnhechnaemmdiaaGreatDoorKnA
import Derived.Test.YtnhechnaemmdiaaGreatDoorEnH
import Derived.MakeChecks
set_option linter.unusedSimpArgs false
set_option linter.unusedVariables false
namespace Go.Proofs.YtnhechnaemmdiaaGreatDoor.Md
open Go.RowKit
theorem bltQ_iff {a b:Nat}:Nat.blt a b=true↔a<b:=iff_of_eq aC
set_option maxRecDepth 1000000

noncomputable abbrev e23 (sm:SM) (inv:Nat→Option (S→List (List LInv))) (hv:Nat→Option Pa) (hb:Nat→Option Bool):Env:=e04 sm inv hv hb
theorem dP:lH Tryz.prog=true:=iZ
theorem dQ:Tryz.prog.follows .mixedOrders=true:=iB
theorem aHx {sm:SM} (h:∀f g,sm f=some g→aF Tryz.prog gl0 f g) (inv:Nat→Option (S→List (List LInv))) (hv:Nat→Option Pa) (hb:Nat→Option Bool):EnvFor Tryz.prog (e23 sm inv hv hb):=aT h inv hv hb
theorem nM {xs:List Int} {i j:Nat} (hi:i<xs.length) {K:Int→Prop} (hk:K xs[i]) (hj:j=i):∃n:Int,(aB xs).getD j AV.undef=AV.int .i64 n∧K n:=by
 subst hj
 exact ⟨xs[j],by simp[aB,hi],hk⟩

def rE (bits n:Int):Bool:=decide (n<0)||(n.fdiv (2^min bits.toNat 64) !=0)
def bHh (t:Nat) (bits:Int) (xs:List Int):LInv where
 α:=Nat
 pre i:=Lf (i≤xs.length∧(xs.take i).any (rE bits)=false)
 st i:=⟨mkT [(0,.lst t (aB xs) xs.length 1),(1,.fn (.func 221) [] [.ptr 0 1 0]),(7,.int .i64 xs.length),(8,.int .i64 i)],[⟨.exact,true,[.int .i64 bits]⟩]⟩
 mu i:=xs.length-i
noncomputable def aWm (hv:Nat→Option Pa) (hb:Nat→Option Bool) (t:Nat) (bits:Int) (xs:List Int):Env:=
 e23 sm0 (fun i=>bif Nat.beq i 231000 then some (fun _=>[[bHh t bits xs]]) else none) hv hb
noncomputable def nX (hv:Nat→Option Pa) (hb:Nat→Option Bool) (t:Nat) (bits:Int) (xs:List Int) (Q:Out→List Blk→Gh→Prop):Prop:=
 aY (aWm hv hb t bits xs) (wpx (aWm hv hb t bits xs) 1000) 176 [.int .i64 bits,.lst t (aB xs) xs.length 1] [] {} Q
abbrev bJo (x_1:Nat) (xs:List Int) (bits:Int):Prop:=Lf (x_1≤xs.length∧List.any (xs.take x_1) (rE bits)=false)
theorem aZn (t:Nat) (bits:Int) (xs:List Int) (Q:Out→List Blk→Gh→Prop):nX (bD [(946183,.int .i64),(946186,.int .i64),(946191,.int .i64),(905225,.int .i64),(946194,.int .i64)]) (bE []) t bits xs Q=(exI
 .i64 (xs.length:Int) (fun n_0=>(∃x_1:Nat,bJo x_1 xs bits∧aJ [AV.int .i64 bits]∧aJ (AV.lst t (aB xs) xs.length 1)∧aJ (AV.fn (Fn.func 221) [] [.ptr 0 1 0])∧AV.int .i64 n_0=AV.int .i64 (xs.length:Int)∧AV.int
 .i64 0=AV.int .i64 (x_1:Int)∧True)∧∀x_1:Nat,bJo x_1 xs bits→bif decide ((x_1:Int)<(xs.length:Int)) then exI .i64 (x_1:Int) (fun n_2=>ckQ (decide (0≤n_2)&&Nat.blt n_2.toNat xs.length&&true) (ckQ (Nat.blt
 (n_2.toNat*1) (aB xs).length) (exV .i64 ((aB xs).getD (n_2.toNat*1) AV.undef) (fun n_3=>bif decide (n_3<0) then bif decide (n_2≥0) then Q (.ret (.bool false)) [] {} else Q (.ret (.bool true)) [] {} else ckQ (decide (0 ≤
 bits)&&true) (exI .i64 (Int.fdiv n_3 ((2:Int)^Min.min bits.toNat 64)) (fun n_4=>bif n_4 !=0 then bif decide (n_2≥0) then Q (.ret (.bool false)) [] {} else Q (.ret (.bool true)) [] {} else exW .i64 ((x_1:Int)+1) (fun n_5=>
 (True∧(0:Nat)=(0:Nat))∧∃y_6:Nat,bJo y_6 xs bits∧xs.length-y_6<xs.length-x_1∧aJ [AV.int .i64 bits]∧aJ (AV.lst t (aB xs) xs.length 1)∧aJ (AV.fn (Fn.func 221) [] [.ptr 0 1 0])∧aJ (AV.int .i64
 (xs.length:Int))∧AV.int .i64 n_5=AV.int .i64 (y_6:Int)∧True))))))) else Q (.ret (.bool true)) [] {})):=by kernel_rfl

theorem bC9 {a b:Nat} (h:a<b):a.blt b=true:=by rw[aC];exact h
theorem dY (xs:List Int):(aB xs).length=xs.length:=by simp[aB]

theorem aUb (t:Nat) (bits:Int) (xs:List Int) (Q:Out→List Blk→Gh→Prop) (hx:xs.length≤4611686018427387904) (hb:0≤bits)
  (hq:Q (.ret (.bool (!(xs.any (rE bits))))) [] {}):∃hv hb,nX hv hb t bits xs Q:=by
 obtain ⟨hv,hb',e⟩:∃hv hb,nX hv hb t bits xs Q=_:=⟨_,_,aZn t bits xs Q⟩
 refine ⟨hv,hb',e.mpr ?_⟩
 delta bJo
 clear e
 refine ⟨_,rfl,⟨0,⟨⟨by omega,by simp⟩⟩,by simp⟩, ?_⟩
 rintro i ⟨hi,hany⟩
 refine dO (fun hlt => ?_) (fun hge => ?_)
 ·have hlt':i<xs.length:=by simpa using hlt
  refine ⟨_,rfl,ckI (by simp[Nat.blt];exact hlt') (ckI (bC9 (by rw[dY];simpa using hlt')) (nM hlt' ?_ (by simp)))⟩
  have hstep:(xs.take (i+1)).any (rE bits)=rE bits xs[i]:=by
   rw[bP9,bT2,hany];simp[hlt']
  refine dO (fun hn => ?_) (fun hn => ?_)
  ·have hbad:xs.any (rE bits)=true:=by
    rw[bSf];exact ⟨xs[i],bPx _,by simp[rE];left;simpa using hn⟩
   rw[hbad] at hq
   refine dO (fun _=>hq) (fun hc => ?_)
   simp at hc
  ·refine ckI (by simpa using hb) ⟨_,rfl,dO (fun hz => ?_) (fun hz => ?_)⟩
   ·have hbad:xs.any (rE bits)=true:=by
     rw[bSf];exact ⟨xs[i],bPx _,by simp only[rE,bOf];right;exact hz⟩
    rw[hbad] at hq
    refine dO (fun _=>hq) (fun hc => ?_)
    simp at hc
   ·refine aI (by omega) (by omega) ⟨⟨trivial,rfl⟩,i+1,⟨⟨hlt', ?_⟩⟩,Nat.sub_succ_lt_self _ _ hlt',by simp⟩
    rw[hstep,rE,hn,hz];rfl
 ·have hle:xs.length≤i:=by simpa using hge
  have:xs.take i=xs:=bOk hle
  rw[this] at hany
  rw[hany] at hq
  exact hq

def aT8:Con
 | [.int .i64 bits,.lst _ l n 1],H,K=>∃xs:List Int,Lf (l=aB xs∧n=xs.length∧0≤bits∧xs.length≤4611686018427387904)∧K (.ret (.bool (!(xs.any (rE bits))))) H
 | _,_,_=>False

theorem vX (xs:List Int):bG (aB xs)=true∧aL 0 (aB xs)=true∧aC2 (aB xs)=true:=by
 induction xs with
 | nil=>exact ⟨rfl,rfl,rfl⟩
 | cons x xs ih=>exact ⟨by simpa [aB,bG,noY] using ih.1,by simpa [aB,aL,old] using ih.2.1,by simpa [aB,aC2,noT] using ih.2.2⟩

theorem aTa:aF Tryz.prog gl0 176 aT8:=by
 refine aP (enters_of (by kernel_rfl)) aM fun args H Q hc => ?_
 unfold aT8 at hc
 split at hc
 ·rename_i bits t l n
  obtain ⟨xs,⟨rfl,rfl,hb,hl⟩,hq⟩:=hc
  obtain ⟨hv,hb',h⟩:=aUb t bits xs (hx:=hl) (hb:=hb) (Q:=fun o H' _=>H'=[]∧(∃v,o=.ret v∧old 0 v=true∧noY v=true)∧Q o H) ⟨rfl,⟨_,rfl,rfl,rfl⟩,hq⟩
  exact ⟨rfl,rfl,_,1000,aHx bT _ _ _,rfl,h⟩
 ·exact hc.elim
def aVu:Con:=fun args H Q=>sK [0,1] H args fun a=>aT8 a H Q
theorem aZf:aF Tryz.prog gl0 176 aVu:=eT aTa aM [0,1] fun args H Q hc=>by
 unfold aT8 at hc
 split at hc
 ·obtain ⟨xs,h,hq⟩:=hc
  exact ⟨xs,h,rfl,⟨_,rfl,rfl⟩,hq⟩
 ·exact hc.elim
theorem bDs {id:Nat} {H:List Blk} {cs:List AV} (h:H[id]? = some ⟨.grow,true,cs⟩) (h0:aL 0 cs=true) (h1:aL 1 cs=true) (hy:bG cs=true):Fr (fun _=>id) [⟨.grow,true,cs⟩] H:=by
 refine ⟨fun j b0 hb => ?_,fun j j' b0 hb _ hj' _ => ?_,fun j b0 hb => ?_⟩
 ·cases j with
  | zero=>
   simp only[bQl,bOl] at hb
   subst hb
   refine ⟨?_,h1,hy,fun _=>h0,_,h,(bL _ cs h0 hy).symm,.inr rfl⟩
   exact (bPa.1 h).1
  | succ j=>simp at hb
 ·cases j with
  | zero=>simp at hj';omega
  | succ j=>simp at hb
 ·cases j with
  | zero=>simp at hb;subst hb;exact fun h=>by cases h
  | succ j=>simp at hb
theorem aZk {id:Nat} {H:List Blk} {cs cs':List AV} (h:H[id]? = some ⟨.grow,true,cs⟩) (h0:aL 0 cs'=true) (hy:bG cs'=true):FrEnd (fun _=>id) [⟨.grow,true,cs⟩] [⟨.grow,true,cs'⟩] H (H.set id ⟨.grow,true,cs'⟩):=by
 have hl:id<H.length:=(bPa.1 h).1
 refine ⟨by simp,fun j b0 hb hk => ?_,fun j b0 hb hk => ?_,fun j b0 hj hb => ?_,by simp,fun k hk hn => ?_,fun j b hb hk => ?_⟩
 ·cases j with
  | zero=>simp at hb;subst hb;cases hk
  | succ j=>simp at hb
 ·cases j with
  | zero=>simp at hb;subst hb;exact ⟨_,rfl,rfl⟩
  | succ j=>simp at hb
 ·cases j with
  | zero=>simp at hj
  | succ j=>simp at hb
 ·have:=hn 0 _ rfl (by simp)
  rw[bP8 (by omega)]
 ·cases j with
  | zero=>
   simp only[bQl,bOl] at hb
   subst hb
   show (H.set id _)[id]? = some (aNl _ _)
   rw[bRv hl]
   simp only[aNl,bL _ cs' h0 hy]
  | succ j=>simp at hb
theorem aZ6 {H:List Blk} {cs':List AV} (h0:aL 0 cs'=true) (hy:bG cs'=true):FrEnd id [] [⟨.grow,true,cs'⟩] H (H++[⟨.grow,true,cs'⟩]):=by
 refine ⟨by simp,fun j b0 hb hk=>by simp at hb,fun j b0 hb hk=>by simp at hb,fun j b0 hj hb => ?_,by simp,fun k hk hn => ?_,fun j b hb hk => ?_⟩
 ·cases j with
  | zero=>simp at hb;subst hb;simp
  | succ j=>simp at hb
 ·rw[bPc hk]
 ·cases j with
  | zero=>
   simp only[bQl,bOl] at hb
   subst hb
   show (H++_)[sig id 0 H.length 0]? = _
   have:sig id 0 H.length 0=H.length:=by simp[sig]
   rw[this,bPm (bOt _),bR4]
   simp only[bQl,aNl,bL _ cs' h0 hy]
  | succ j=>simp at hb

theorem aH (l:List UInt8):(ofBytes l).length=l.length:=by simp[ofBytes]
theorem dE (a b:List UInt8):ofBytes a++ofBytes b=ofBytes (a++b):=by simp[ofBytes]
theorem bZ (l:List UInt8):fJ (ofBytes l)=true:=by
 induction l with
 | nil=>rfl
 | cons x l ih=>simpa [ofBytes,fJ,one] using ih
theorem aK (n:Nat) (l:List UInt8):aL n (ofBytes l)=true:=by
 induction l with
 | nil=>rfl
 | cons x l ih=>simpa [ofBytes,aL,old] using ih
theorem iA (l:List UInt8):bG (ofBytes l)=true:=by
 induction l with
 | nil=>rfl
 | cons x l ih=>simpa [ofBytes,bG,noY] using ih
theorem mG (l:List UInt8):(ofBytes l).map toB=l:=by
 simp only[ofBytes,bSk]
 conv=>rhs;rw[←bTr l]
 congr 1
 funext x
 simp[toB]

def octM (n:Int) (i:Nat):UInt8:=UInt8.ofNat (n/256^i%256).toNat
def beM (n:Int):Nat→List UInt8
 | 0=>[]
 | k+1=>octM n k::beM n k
def putM (k:Nat):List Int→List UInt8
 | []=>[]
 | n::l=>beM n k++putM k l
theorem be_len (n:Int):∀k,(beM n k).length=k
 | 0=>rfl
 | k+1=>by rw[beM,bOb,be_len n k]
theorem aP5 (k:Nat) (a b:List Int):putM k (a++b)=putM k a++putM k b:=by
 induction a with
 | nil=>rfl
 | cons x a ih=>rw[bPh,putM,ih,putM,bOz]
theorem put_len (k:Nat) (l:List Int):(putM k l).length=k*l.length:=by
 induction l with
 | nil=>rfl
 | cons x l ih=>rw[putM,bN8,be_len,ih,bOb,bTh];omega
theorem yF (k:Nat) (l:List Int) {i:Nat} (hi:i<l.length):putM k (l.take (i+1))=putM k (l.take i)++beM (l.getD i 0) k:=by
 have e:l.take (i+1)=l.take i++[l.getD i 0]:=by
  rw[bP9,bOs,bOq hi];rfl
 rw[e,aP5,putM,putM,bPd]
theorem tZ (n:Int):∀ (k m:Nat),m<k→(beM n k).take (m+1)=(beM n k).take m++[octM n (k-1-m)]
 | 0,m,h=>by omega
 | k+1,0,h=>by simp[beM]
 | k+1,m+1,h=>by
  have ih:=tZ n k m (by omega)
  have e:k+1-1-(m+1)=k-1-m:=by omega
  rw[beM,bQ0,ih,bQ0,bPh,e]

def aW9 (k:Nat) (t:Nat) (xs:List Int):LInv where
 α:=Nat
 pre i:=Lf (i=0)
 st i:=⟨mkT [(0,.nils),(1,.int .i64 (k:Nat)),(10,.lst t (aB xs) xs.length 1),(11,.int .i64 xs.length),(12,.int .i64 (i:Nat))],[]⟩
 mu i:=xs.length+1
def aK9 (k:Nat) (t:Nat) (xs:List Int) (bs:List UInt8) (lo:Nat):LInv where
 α:=Nat
 pre i:=Lf (lo≤i∧i≤xs.length)
 st i:=⟨mkT [(0,.sl 0 (bs.length+k*i) 0 (bs.length+k*i) 1),(1,.int .i64 (k:Nat)),(10,.lst t (aB xs) xs.length 1),(11,.int .i64 xs.length),(12,.int .i64 (i:Nat))],[⟨.grow,true,ofBytes (bs++putM k (xs.take i))⟩]⟩
 mu i:=xs.length-i
def aL3 (k t:Nat) (xs:List Int) (s:S):List (List LInv):=match s.tm.get 0,s.tm.get 8,s.tm.get 12,s.hp with
 | .nils,.int _ n,.int _ i,[]=>[[{ α:=Nat,pre:=fun m=>Lf (m=0),st:=fun m=>⟨mkT [(0,.nils),(1,.int .i64 (k:Nat)),(8,.int .i64 n),(9,.int .i64 ((k:Int)-1-m)),(10,.lst t (aB xs) xs.length 1),(11,.int .i64 xs.length),(12,.int .i64 i)],[]⟩,mu:=fun m=>k+1 },
   { α:=Nat,pre:=fun m=>Lf (1≤m∧m≤k),st:=fun m=>⟨mkT [(0,.sl 0 m 0 m 1),(1,.int .i64 (k:Nat)),(8,.int .i64 n),(9,.int .i64 ((k:Int)-1-m)),(10,.lst t (aB xs) xs.length 1),(11,.int .i64 xs.length),(12,.int .i64 i)],[⟨.grow,true,ofBytes ((beM n k).take m)⟩]⟩,mu:=fun m=>k-m }]]
 | .sl _ tot _ _ _,.int _ n,.int _ i,[bl]=>[[{ α:=Nat,pre:=fun m=>Lf (m≤k),st:=fun m=>⟨mkT [(0,.sl 0 (tot+m) 0 (tot+m) 1),(1,.int .i64 (k:Nat)),(8,.int .i64 n),(9,.int .i64 ((k:Int)-1-m)),(10,.lst t (aB xs) xs.length 1),(11,.int .i64 xs.length),(12,.int .i64 i)],[⟨.grow,true,ofBytes (bl.cs.map toB++(beM n k).take m)⟩]⟩,mu:=fun m=>k-m }]]
 | _,_,_,_=>[]
noncomputable def aMs (hv:Nat→Option Pa) (hb:Nat→Option Bool) (k t:Nat) (xs:List Int):Env := { e23 sm0 (fun i=>bif Nat.beq i 89000 then some (fun _=>[[aW9 k t xs,aK9 k t xs [] 1]]) else bif Nat.beq i 89002 then some (aL3 k t xs) else none) hv hb with hz:=fun k=>Nat.beq k 364572 }
noncomputable def zS (hv:Nat→Option Pa) (hb:Nat→Option Bool) (k t:Nat) (xs:List Int) (Q:Out→List Blk→Gh→Prop):Prop:=
 aY (aMs hv hb k t xs) (wpx (aMs hv hb k t xs) 1000) 89 [.nils,.int .i64 (k:Nat),.lst t (aB xs) xs.length 1] [] {} Q
abbrev aWn (k:Nat):AV:=.int .i64 (k:Int)
abbrev aJt (xs:List Int):AV:=.int .i64 (xs.length:Int)
abbrev bC5 (t:Nat) (xs:List Int):Prop:=aJ (AV.lst t (aB xs) xs.length 1)∧True
abbrev aI7 (x_1:Nat) (xs:List Int):Prop:=Lf (1≤x_1∧x_1≤xs.length)
abbrev aE4 (k x_4:Nat):Int:=(k:Int)-1-(x_4:Int)
abbrev aS9 (k:Nat) (xs:List Int) (n_3:Int) (x_4:Nat) (n_2:Int) (x_1 t:Nat):Prop:=aJ (aWn k)∧aJ (aJt xs)∧AV.int .i64 n_3=AV.int .i64 (aE4 k x_4)∧aJ (AV.int .i64 n_2)∧aJ (aWn x_1)∧bC5 t xs
abbrev aQj:Prop:=True∧(0:Nat)=(0:Nat)
abbrev bCn (k:Nat) (xs:List Int) (n_6:Int) (y_7 t:Nat):Prop:=aJ (AV.int .i64 (k:Int))∧aJ (aJt xs)∧AV.int .i64 n_6=AV.int .i64 (y_7:Int)∧aJ (AV.lst t (aB xs) xs.length 1)∧True
abbrev aIq (k y_7:Nat) (xs:List Int):List AV:=ofBytes ([]++putM k (xs.take y_7))
abbrev bCp (k x_1:Nat) (xs:List Int) (x_4:Nat) (n_2:Int):List AV:=ofBytes (List.map toB (aIq k x_1 xs)++(beM n_2 k).take x_4)
abbrev aQx (k x_1 x_4:Nat):AV:=.sl 0 (0+k*x_1+x_4) 0 (0+k*x_1+x_4) 1
theorem bFs (k:Nat) (t:Nat) (xs:List Int) (Q:Out→List Blk→Gh→Prop):zS (bD [(364555,.int .i64),(364559,.int .i64),(364561,.int .i64),(364562,.int .i64),(364568,.int .i64),(364569,.int .i64),(364570,
 .int .i64),(364571,.int .u8),(364564,.int .i64),(364565,.int .i64),(364574,.int .i64)]) (bE []) k t xs Q=(exI .i64 (xs.length:Int) (fun n_0=>((∃x_1:Nat,Lf (x_1=0)∧AV.nils=AV.nils∧aJ (aWn k)∧AV.int .i64 n_0
 = aJt xs∧AV.int .i64 0=aWn x_1∧bC5 t xs)∨∃x_1:Nat,aI7 x_1 xs∧False)∧(∀x_1:Nat,Lf (x_1=0)→bif decide ((x_1:Int)<(xs.length:Int)) then ckQ (Nat.blt (x_1:Int).toNat xs.length&&true) (ckQ (Nat.blt ((x_1
 : Int).toNat*1) (aB xs).length) (exV .i64 ((aB xs).getD ((x_1:Int).toNat*1) AV.undef) (fun n_2=>exW .i64 ((k:Int)-1) (fun n_3=>((∃x_4:Nat,Lf (x_4=0)∧AV.nils=AV.nils∧aS9 k xs n_3 x_4 n_2 x_1 t)∨∃x_4 :
 Nat,Lf (1≤x_4∧x_4≤k)∧False)∧(∀x_4:Nat,Lf (x_4=0)→exI .i64 (aE4 k x_4) (fun n_5=>bif decide (n_5≥0) then exI .i64 (aE4 k x_4) (fun n_6=>exW .i64 (8*n_6) (fun n_7=>ckQ (decide (0≤n_7)&&true) (exI .i64
 (Int.fdiv n_2 ((2:Int)^Min.min n_7.toNat 64)) (fun n_8=>exW .u8 n_8 (fun n_9=>exI .i64 (aE4 k x_4) (fun n_10=>exW .i64 (n_10-1) (fun n_11=>aQj∧((∃y_12:Nat,Lf (y_12=0)∧k+1<k+1∧False)∨∃y_12:Nat,Lf (1 ≤
 y_12∧y_12≤k)∧k-y_12<k+1∧[AV.int .u8 n_9]=ofBytes ((beM n_2 k).take y_12)∧AV.sl 0 1 0 1 1=AV.sl 0 y_12 0 y_12 1∧aS9 k xs n_11 y_12 n_2 x_1 t)))))))) else exW .i64 ((x_1:Int)+1) (fun n_6=>aQj∧((∃y_7:Nat,Lf
 (y_7=0)∧xs.length+1<xs.length+1∧AV.nils=AV.nils∧bCn k xs n_6 y_7 t)∨∃y_7:Nat,aI7 y_7 xs∧xs.length-y_7<xs.length+1∧False))))∧∀x_4:Nat,Lf (1≤x_4∧x_4≤k)→exI .i64 (aE4 k x_4) (fun n_5=>bif
 decide (n_5≥0) then exI .i64 (aE4 k x_4) (fun n_6=>exW .i64 (8*n_6) (fun n_7=>ckQ (decide (0≤n_7)&&true) (exI .i64 (Int.fdiv n_2 ((2:Int)^Min.min n_7.toNat 64)) (fun n_8=>exW .u8 n_8 (fun n_9=>ckQ (Nat.beq (ofBytes
 ((beM n_2 k).take x_4)).length x_4&&true&&Nat.beq (0+x_4*1) x_4&&Nat.ble (x_4+1) 1099511627776&&Nat.ble ((x_4+1)*1) 1099511627776) (exI .i64 (aE4 k x_4) (fun n_10=>exW .i64 (n_10-1) (fun n_11=>aQj∧((∃y_12 :
 Nat,Lf (y_12=0)∧k+1<k-x_4∧False)∨∃y_12:Nat,Lf (1≤y_12∧y_12≤k)∧k-y_12<k-x_4∧ofBytes ((beM n_2 k).take x_4)++[AV.int .u8 n_9]=ofBytes ((beM n_2 k).take y_12)∧AV.sl 0 (x_4+1) 0 (x_4+1) 1=AV.sl 0
 y_12 0 y_12 1∧aS9 k xs n_11 y_12 n_2 x_1 t))))))))) else exW .i64 ((x_1:Int)+1) (fun n_6=>aQj∧((∃y_7:Nat,Lf (y_7=0)∧xs.length+1<xs.length+1∧False)∨∃y_7:Nat,aI7 y_7 xs∧xs.length-y_7<xs.length+1 ∧
 ofBytes ((beM n_2 k).take x_4)=aIq k y_7 xs∧AV.sl 0 x_4 0 x_4 1=AV.sl 0 (0+k*y_7) 0 (0+k*y_7) 1∧bCn k xs n_6 y_7 t))))))) else Q (.ret .nils) [] {})∧∀x_1:Nat,aI7 x_1 xs→bif decide ((x_1:Int)<(xs.length :
 Int)) then ckQ (Nat.blt (x_1:Int).toNat xs.length&&true) (ckQ (Nat.blt ((x_1:Int).toNat*1) (aB xs).length) (exV .i64 ((aB xs).getD ((x_1:Int).toNat*1) AV.undef) (fun n_2=>exW .i64 ((k:Int)-1) (fun n_3=>(∃x_4 :
 Nat,Lf (x_4≤k)∧aIq k x_1 xs=bCp k x_1 xs x_4 n_2∧AV.sl 0 (0+k*x_1) 0 (0+k*x_1) 1=aQx k x_1 x_4∧aS9 k xs n_3 x_4 n_2 x_1 t)∧∀x_4:Nat,Lf (x_4≤k)→exI .i64 (aE4 k x_4) (fun n_5=>bif decide (n_5≥0) then
 exI .i64 (aE4 k x_4) (fun n_6=>exW .i64 (8*n_6) (fun n_7=>ckQ (decide (0≤n_7)&&true) (exI .i64 (Int.fdiv n_2 ((2:Int)^Min.min n_7.toNat 64)) (fun n_8=>exW .u8 n_8 (fun n_9=>ckQ (Nat.beq (bCp k x_1 xs x_4 n_2).length (0
 + k*x_1+x_4)&&true&&Nat.beq (0+(0+k*x_1+x_4)*1) (0+k*x_1+x_4)&&Nat.ble (0+k*x_1+x_4+1) 1099511627776&&Nat.ble ((0+k*x_1+x_4+1)*1) 1099511627776) (exI .i64 (aE4 k x_4) (fun n_10=>exW .i64
 (n_10-1) (fun n_11=>aQj∧∃y_12:Nat,Lf (y_12≤k)∧k-y_12<k-x_4∧bCp k x_1 xs x_4 n_2++[AV.int .u8 n_9]=bCp k x_1 xs y_12 n_2∧AV.sl 0 (0+k*x_1+x_4+1) 0 (0+k*x_1+x_4+1) 1=aQx k x_1 y_12∧aS9 k
 xs n_11 y_12 n_2 x_1 t)))))))) else exW .i64 ((x_1:Int)+1) (fun n_6=>aQj∧((∃y_7:Nat,Lf (y_7=0)∧xs.length+1<xs.length-x_1∧False)∨∃y_7:Nat,aI7 y_7 xs∧xs.length-y_7<xs.length-x_1∧bCp k x_1 xs x_4
 n_2=aIq k y_7 xs∧aQx k x_1 x_4=AV.sl 0 (0+k*y_7) 0 (0+k*y_7) 1∧bCn k xs n_6 y_7 t))))))) else Q (.ret (.sl 0 (0+k*x_1) 0 (0+k*x_1) 1)) [Blk.mk BK.grow true (aIq k x_1 xs)] {})):=by kernel_rfl

noncomputable def aMk (hv:Nat→Option Pa) (hb:Nat→Option Bool) (k t:Nat) (xs:List Int) (bs:List UInt8):Env := { e23 sm0 (fun i=>bif Nat.beq i 89000 then some (fun _=>[[aK9 k t xs bs 0]]) else bif Nat.beq i 89002 then some (aL3 k t xs) else none) hv hb with hz:=fun k=>Nat.beq k 364572 }
noncomputable def xQ (hv:Nat→Option Pa) (hb:Nat→Option Bool) (k t:Nat) (xs:List Int) (bs:List UInt8) (Q:Out→List Blk→Gh→Prop):Prop:=
 aY (aMk hv hb k t xs bs) (wpx (aMk hv hb k t xs bs) 1000) 89 [.sl 0 bs.length 0 bs.length 1,.int .i64 (k:Nat),.lst t (aB xs) xs.length 1] [⟨.grow,true,ofBytes bs⟩] {} Q
abbrev bEu (bs:List UInt8) (k x_1:Nat) (xs:List Int):List AV:=ofBytes (bs++putM k (xs.take x_1))
abbrev uH (bs:List UInt8) (k x_1:Nat):Nat:=bs.length+k*x_1
abbrev bCg (bs:List UInt8) (k x_1:Nat) (xs:List Int) (x_4:Nat) (n_2:Int):List AV:=ofBytes (List.map toB (ofBytes (bs++putM k (xs.take x_1)))++(beM n_2 k).take x_4)
theorem bHe (k:Nat) (t:Nat) (xs:List Int) (bs:List UInt8) (Q:Out→List Blk→Gh→Prop):xQ (bD [(364555,.int .i64),(364559,.int .i64),(364561,.int .i64),(364562,.int .i64),(364568,.int .i64),(364569,.int
 .i64),(364570,.int .i64),(364571,.int .u8),(364564,.int .i64),(364565,.int .i64),(364574,.int .i64)]) (bE []) k t xs bs Q=(exI .i64 (xs.length:Int) (fun n_0=>(∃x_1:Nat,Lf (0≤x_1∧x_1≤xs.length)∧ofBytes bs =
 bEu bs k x_1 xs∧AV.sl 0 bs.length 0 bs.length 1=AV.sl 0 (uH bs k x_1) 0 (uH bs k x_1) 1∧aJ (aWn k)∧AV.int .i64 n_0=aJt xs∧AV.int .i64 0=aWn x_1∧bC5 t xs)∧∀x_1:Nat,Lf (0≤x_1∧x_1≤xs.length)→bif
 decide ((x_1:Int)<(xs.length:Int)) then ckQ (Nat.blt (x_1:Int).toNat xs.length&&true) (ckQ (Nat.blt ((x_1:Int).toNat*1) (aB xs).length) (exV .i64 ((aB xs).getD ((x_1:Int).toNat*1) AV.undef) (fun n_2=>exW .i64
 ((k:Int)-1) (fun n_3=>(∃x_4:Nat,Lf (x_4≤k)∧bEu bs k x_1 xs=bCg bs k x_1 xs x_4 n_2∧AV.sl 0 (uH bs k x_1) 0 (uH bs k x_1) 1=AV.sl 0 (uH bs k x_1+x_4) 0 (uH bs k x_1+x_4) 1∧aS9 k xs n_3 x_4 n_2 x_1 t)∧∀
 x_4:Nat,Lf (x_4≤k)→exI .i64 (aE4 k x_4) (fun n_5=>bif decide (n_5≥0) then exI .i64 (aE4 k x_4) (fun n_6=>exW .i64 (8*n_6) (fun n_7=>ckQ (decide (0≤n_7)&&true) (exI .i64 (Int.fdiv n_2 ((2:Int)^Min.min n_7.toNat
 64)) (fun n_8=>exW .u8 n_8 (fun n_9=>ckQ (Nat.beq (bCg bs k x_1 xs x_4 n_2).length (uH bs k x_1+x_4)&&true&&Nat.beq (0+(uH bs k x_1+x_4)*1) (uH bs k x_1+x_4)&&Nat.ble (uH bs k x_1+x_4+1) 1099511627776 &&
 Nat.ble ((uH bs k x_1+x_4+1)*1) 1099511627776) (exI .i64 (aE4 k x_4) (fun n_10=>exW .i64 (n_10-1) (fun n_11=>aQj∧∃y_12:Nat,Lf (y_12≤k)∧k-y_12<k-x_4∧bCg bs k x_1 xs x_4 n_2++[AV.int .u8 n_9]=bCg bs k
 x_1 xs y_12 n_2∧AV.sl 0 (uH bs k x_1+x_4+1) 0 (uH bs k x_1+x_4+1) 1=AV.sl 0 (uH bs k x_1+y_12) 0 (uH bs k x_1+y_12) 1∧aS9 k xs n_11 y_12 n_2 x_1 t)))))))) else exW .i64 ((x_1:Int)+1) (fun n_6=>aQj∧∃y_7
 : Nat,Lf (0≤y_7∧y_7≤xs.length)∧xs.length-y_7<xs.length-x_1∧bCg bs k x_1 xs x_4 n_2=bEu bs k y_7 xs∧AV.sl 0 (uH bs k x_1+x_4) 0 (uH bs k x_1+x_4) 1=AV.sl 0 (uH bs k y_7) 0 (uH bs k y_7) 1∧bCn k xs n_6
 y_7 t)))))) else Q (.ret (.sl 0 (uH bs k x_1) 0 (uH bs k x_1) 1)) [Blk.mk BK.grow true (bEu bs k x_1 xs)] {})):=by kernel_rfl

theorem bGd (n:Int) (j:Nat) (hj:j≤7) (z:Int) (hz:z=8*(j:Int)):IntKind.wrap .u8 (Int.fdiv n (2^min (Int.toNat z) 64))=((octM n j).toNat:Int):=by
 subst hz
 have e1:min (Int.toNat (8*(j:Int))) 64=8*j:=by omega
 have e2:(2:Int)^(8*j)=256^j:=by rw[Int.pow_mul];rfl
 have e3:(0:Int)≤256^j:=Int.pow_nonneg (by decide)
 rw[e1,e2,bP0 _ e3,IntKind.wrap_u8,octM]
 generalize n/256^j=x
 have h1:(0:Int)≤x%256:=Int.emod_nonneg _ (by decide)
 have h2:x%256<256:=Int.emod_lt_of_pos _ (by decide)
 rw[bSq]
 omega
theorem qC (a:List UInt8) (x:UInt8):ofBytes a++[AV.int .u8 ((x.toNat:Nat):Int)]=ofBytes (a++[x]):=by simp[ofBytes]
theorem aUo (k t:Nat) (xs:List Int) (bs:List UInt8) (hk:1≤k∧k≤7) (hx:xs.length≤1000000) (hbs:bs.length≤1000000) (Q:Out→List Blk→Gh→Prop)
  (hq:Q (.ret (.sl 0 (bs.length+k*xs.length) 0 (bs.length+k*xs.length) 1)) [⟨.grow,true,ofBytes (bs++putM k xs)⟩] {}):∃hv hb,xQ hv hb k t xs bs Q:=by
 obtain ⟨hv,hb',e⟩:∃hv hb,xQ hv hb k t xs bs Q=_:=⟨_,_,bHe k t xs bs Q⟩
 refine ⟨hv,hb',e.mpr ?_⟩
 delta bEu uH aWn aJt bC5 bCg aE4 aS9 aQj bCn
 clear e
 refine ⟨_,rfl,⟨0,⟨by omega,by omega⟩,by simp[putM],by rw[Nat.mul_zero,bQb],rfl,rfl,rfl,rfl,trivial⟩, ?_⟩
 rintro i ⟨hlo,hi⟩
 refine aD (fun hlt => ?_) (fun hge => ?_)
 ·have hlt':i<xs.length:=by omega
  have hki:k*i+k≤k*xs.length:=by rw[←bTh];exact Nat.mul_le_mul_left _ hlt'
  have hkx:k*xs.length≤7000000:=by
   have:=bSx hk.2 hx
   omega
  refine ckI (by simp;omega) (ckI (by simp[aA];omega) (bEb (i:=i) hlt' (by simp) (aI (by omega) (by omega) ⟨⟨0,⟨bPp _⟩,by rw[mG];simp,by rw[bQb],rfl,rfl,by simp,rfl,rfl,rfl,trivial⟩, ?_⟩)))
  rintro m ⟨hm⟩
  rw[mG]
  refine ⟨_,rfl,aD (fun h0 => ?_) (fun h0 => ?_)⟩
  ·have hmk:m<k:=by omega
   have bt:=tZ (xs.getD i 0) k m hmk
   have lt:=be_len (xs.getD i 0) k
   refine ⟨_,rfl,aI (by omega) (by omega) (ckI (by rw[bOh];exact bO4 (by omega)) ⟨_,rfl,((octM (xs.getD i 0) (k-1-m)).toNat:Int), ?_, ?_⟩)⟩
   ·rw[bGd _ (k-1-m) (by omega) _ (by omega)]
   ·refine ckI ?_ ⟨_,rfl,aI (by omega) (by omega) ⟨⟨trivial,rfl⟩,m+1,⟨hmk⟩,by omega, ?_,rfl,rfl,rfl, ?_,rfl,rfl,rfl,trivial⟩⟩
    ·have e1:(ofBytes (bs++putM k (xs.take i)++(beM (xs.getD i 0) k).take m)).length=bs.length+k*i+m:=by
      rw[aH,bN8,bN8,put_len,bOu,bOu,lt,bP1 hi,bP1 (by omega)]
     rw[e1]
     simp
     omega
    ·rw[qC,bOz,←bt]
    ·congr 1
     omega
  ·have hmk:m=k:=by omega
   subst hmk
   have lt:=be_len (xs.getD i 0) m
   refine aI (by omega) (by omega) ⟨⟨trivial,rfl⟩,i+1,⟨by omega,hlt'⟩,by omega, ?_, ?_,rfl,rfl,rfl,rfl,trivial⟩
   ·rw[bOk (l:=beM (xs.getD i 0) m) (by omega),yF _ _ hlt',bOz]
   ·rw[bTh,bPv]
 ·have hle:i=xs.length:=by omega
  subst hle
  rw[bPy]
  exact hq
theorem aUx (k t:Nat) (xs:List Int) (hk:1≤k∧k≤7) (hx:xs.length≤1000000) (Q:Out→List Blk→Gh→Prop)
  (hq0:xs=[]→Q (.ret .nils) [] {}) (hq:1≤xs.length→Q (.ret (.sl 0 (k*xs.length) 0 (k*xs.length) 1)) [⟨.grow,true,ofBytes (putM k xs)⟩] {}):∃hv hb,zS hv hb k t xs Q:=by
 obtain ⟨hv,hb',e⟩:∃hv hb,zS hv hb k t xs Q=_:=⟨_,_,bFs k t xs Q⟩
 refine ⟨hv,hb',e.mpr ?_⟩
 delta aWn aJt bC5 aI7 aE4 aS9 aQj bCn aIq bCp aQx
 clear e
 refine ⟨_,rfl,.inl ⟨0,⟨rfl⟩,rfl,rfl,rfl,rfl,rfl,trivial⟩, ?_, ?_⟩
 ·rintro _ ⟨rfl⟩
  refine aD (fun hlt => ?_) (fun hge=>hq0 (bO8.1 (by omega)))
  have hlt':0<xs.length:=by omega
  refine ckI (by simp;omega) (ckI (by simp[aA];omega) (bEb (i:=0) hlt' (by simp) (aI (by omega) (by omega) ⟨.inl ⟨0,⟨rfl⟩,rfl,rfl,rfl,by simp,rfl,rfl,rfl,trivial⟩, ?_, ?_⟩)))
  ·rintro _ ⟨rfl⟩
   have bt:=tZ (xs.getD 0 0) k 0 (by omega)
   refine ⟨_,rfl,aD (fun h0 => ?_) (fun h0=>by exfalso;omega)⟩
   refine ⟨_,rfl,aI (by omega) (by omega) (ckI (by rw[bOh];exact bO4 (by omega)) ⟨_,rfl,((octM (xs.getD 0 0) (k-1-0)).toNat:Int), ?_, ?_⟩)⟩
   ·rw[bGd _ (k-1-0) (by omega) _ (by omega)]
   ·refine ⟨_,rfl,aI (by omega) (by omega) ⟨⟨trivial,rfl⟩,.inr ⟨1,⟨by omega,by omega⟩,by omega, ?_,rfl,rfl,rfl, ?_,rfl,rfl,rfl,trivial⟩⟩⟩
    ·rw[bt]
     simp[ofBytes]
    ·congr 1
     omega
  ·rintro m ⟨hm1,hm⟩
   refine ⟨_,rfl,aD (fun h0 => ?_) (fun h0 => ?_)⟩
   ·have hmk:m<k:=by omega
    have bt:=tZ (xs.getD 0 0) k m hmk
    have lt:=be_len (xs.getD 0 0) k
    refine ⟨_,rfl,aI (by omega) (by omega) (ckI (by rw[bOh];exact bO4 (by omega)) ⟨_,rfl,((octM (xs.getD 0 0) (k-1-m)).toNat:Int), ?_, ?_⟩)⟩
    ·rw[bGd _ (k-1-m) (by omega) _ (by omega)]
    ·refine ckI ?_ ⟨_,rfl,aI (by omega) (by omega) ⟨⟨trivial,rfl⟩,.inr ⟨m+1,⟨by omega,hmk⟩,by omega, ?_,rfl,rfl,rfl, ?_,rfl,rfl,rfl,trivial⟩⟩⟩
     ·rw[aH,bOu,lt,bP1 (by omega)]
      simp
      omega
     ·rw[qC,←bt]
     ·congr 1
      omega
   ·have hmk:m=k:=by omega
    subst hmk
    have lt:=be_len (xs.getD 0 0) m
    refine aI (by omega) (by omega) ⟨⟨trivial,rfl⟩,.inr ⟨1,⟨by omega,hlt'⟩,by omega, ?_, ?_,rfl,rfl,rfl,rfl,trivial⟩⟩
    ·rw[bOk (l:=beM (xs.getD 0 0) m) (by omega),yF _ _ hlt']
     simp[putM]
    ·simp
 ·rintro i ⟨hlo,hi⟩
  refine aD (fun hlt => ?_) (fun hge => ?_)
  ·have hlt':i<xs.length:=by omega
   have hki:k*i+k≤k*xs.length:=by rw[←bTh];exact Nat.mul_le_mul_left _ hlt'
   have hkx:k*xs.length≤7000000:=by
    have:=bSx hk.2 hx
    omega
   refine ckI (by simp;omega) (ckI (by simp[aA];omega) (bEb (i:=i) hlt' (by simp) (aI (by omega) (by omega) ⟨⟨0,⟨bPp _⟩,by rw[mG];simp,by rw[bQb],rfl,rfl,by simp,rfl,rfl,rfl,trivial⟩, ?_⟩)))
   rintro m ⟨hm⟩
   rw[mG]
   refine ⟨_,rfl,aD (fun h0 => ?_) (fun h0 => ?_)⟩
   ·have hmk:m<k:=by omega
    have bt:=tZ (xs.getD i 0) k m hmk
    have lt:=be_len (xs.getD i 0) k
    refine ⟨_,rfl,aI (by omega) (by omega) (ckI (by rw[bOh];exact bO4 (by omega)) ⟨_,rfl,((octM (xs.getD i 0) (k-1-m)).toNat:Int), ?_, ?_⟩)⟩
    ·rw[bGd _ (k-1-m) (by omega) _ (by omega)]
    ·refine ckI ?_ ⟨_,rfl,aI (by omega) (by omega) ⟨⟨trivial,rfl⟩,m+1,⟨hmk⟩,by omega, ?_,rfl,rfl,rfl, ?_,rfl,rfl,rfl,trivial⟩⟩
     ·have e1:(ofBytes ([]++putM k (xs.take i)++(beM (xs.getD i 0) k).take m)).length=k*i+m:=by
       rw[aH,bN8,bN8,put_len,bOu,bOu,lt,bP1 hi,bP1 (by omega)]
       simp
      rw[e1]
      simp
      omega
     ·rw[qC,bOz,←bt]
     ·congr 1
      omega
   ·have hmk:m=k:=by omega
    subst hmk
    have lt:=be_len (xs.getD i 0) m
    refine aI (by omega) (by omega) ⟨⟨trivial,rfl⟩,.inr ⟨i+1,⟨by omega,hlt'⟩,by omega, ?_, ?_,rfl,rfl,rfl,rfl,trivial⟩⟩
    ·rw[bOk (l:=beM (xs.getD i 0) m) (by omega),yF _ _ hlt',bOz]
    ·rw[bTh,bPv]
  ·have hle:i=xs.length:=by omega
   subst hle
   have hh:=hq hlo
   rw[bPy]
   simpa using hh
def bJg:Con
 | [.nils,.int .i64 k,.lst t l n 1],H,K=>∃xs:List Int,Lf (l=aB xs∧n=xs.length∧1≤k∧k≤7∧1≤xs.length∧xs.length≤1000000)∧K (.ret (.sl H.length (putM k.toNat xs).length 0 (putM k.toNat xs).length 1)) (H++[⟨.grow,true,ofBytes (putM k.toNat xs)⟩])
 | [.sl id tot 0 len 1,.int .i64 k,.lst t l n 1],H,K=>∃ (bs:List UInt8) (xs:List Int),Lf (H[id]? = some ⟨.grow,true,ofBytes bs⟩∧tot=bs.length∧len=bs.length∧bs.length≤1000000∧l=aB xs∧n=xs.length∧1≤k∧k≤7∧xs.length≤1000000)∧K (.ret (.sl id (bs++putM k.toNat xs).length 0 (bs++putM k.toNat xs).length 1)) (H.set id ⟨.grow,true,ofBytes (bs++putM k.toNat xs)⟩)
 | _,_,_=>False
theorem aQb (n:Nat) (xs:List Int):aL n (aB xs)=true:=by
 induction xs with
 | nil=>rfl
 | cons x l ih=>simpa [aB,aL,old] using ih
theorem put_raw:aF Tryz.prog gl0 89 bJg:=by
 refine jE (enters_of (by kernel_rfl)) aM fun args H Q hc => ?_
 unfold bJg at hc
 split at hc
 ·rename_i k t l n
  obtain ⟨xs,⟨rfl,rfl,h1,h2,h3,h4⟩,hq⟩:=hc
  obtain ⟨k,rfl⟩:∃m:Nat,k=m:=⟨k.toNat,by omega⟩
  rw[bOa] at hq
  obtain ⟨hv,hb',h⟩:=aUx k t xs ⟨by omega,by omega⟩ h4 (fun o H' _=>o=.ret (.sl 0 (k*xs.length) 0 (k*xs.length) 1)∧H'=[⟨.grow,true,ofBytes (putM k xs)⟩])
   (fun e=>by subst e;simp at h3) (fun _=>⟨rfl,rfl⟩)
  refine ⟨_,1000,id,[.nils,.int .i64 (k:Nat),.lst t (aB xs) xs.length 1],[],_, ?_,rfl,rfl,by simp[aL,old,aQb],by simp[bG,noY,(vX xs).1],Fr.nil _,h, ?_⟩
  ·exact ⟨dQ,dP,bY,bT⟩
  ·rintro o H0' g' ⟨rfl,rfl⟩
   refine ⟨_,aZ6 (aK 0 _) (iA _), ?_⟩
   have e1:(putM k xs).length=k*xs.length:=put_len k xs
   rw[e1] at hq
   exact hq
 ·rename_i id tot len k t l n
  obtain ⟨bs,xs,⟨h1,rfl,rfl,h3,rfl,rfl,h4,h5,h6⟩,hq⟩:=hc
  obtain ⟨k,rfl⟩:∃m:Nat,k=m:=⟨k.toNat,by omega⟩
  rw[bOa] at hq
  obtain ⟨hv,hb',h⟩:=aUo k t xs bs ⟨by omega,by omega⟩ h6 h3 (fun o H' _=>o=.ret (.sl 0 (bs.length+k*xs.length) 0 (bs.length+k*xs.length) 1)∧H'=[⟨.grow,true,ofBytes (bs++putM k xs)⟩]) ⟨rfl,rfl⟩
  refine ⟨_,1000,fun _=>id,[.sl 0 bs.length 0 bs.length 1,.int .i64 (k:Nat),.lst t (aB xs) xs.length 1],[⟨.grow,true,ofBytes bs⟩],_, ?_,rfl,rfl,by simp[aL,old,aQb],by simp[bG,noY,(vX xs).1],bDs h1 (aK 0 _) (aK 1 _) (iA _),h, ?_⟩
  ·exact ⟨dQ,dP,bY,bT⟩
  ·rintro o H0' g' ⟨rfl,rfl⟩
   refine ⟨_,aZk h1 (aK 0 _) (iA _), ?_⟩
   have e1:(bs++putM k xs).length=bs.length+k*xs.length:=by rw[bN8,put_len]
   rw[e1] at hq
   exact hq
 ·exact hc.elim
end Go.Proofs.YtnhechnaemmdiaaGreatDoor.Md
