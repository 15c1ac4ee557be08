/-
  Chapter 25: the environment of chapter 23's texts.
-/
import Derived.Test.YtnhechnaemmdiaaGreatDoorKnA
import Derived.Test.YtnhechnaemmdiaaGreatDoorEnH
import Derived.MakeChecks
set_option linter.unusedSimpArgs false
set_option linter.unusedVariables false
namespace Go.Proofs.YtnhechnaemmdiaaGreatDoor.Md
open Go.RowKit
theorem bltQ_iff {a b:Nat}:Nat.blt a b=true↔a<b:=iff_of_eq aB
set_option maxRecDepth 1000000

noncomputable abbrev e23 (sm:SM) (inv:Nat→Option (S→List (List LInv))) (hv:Nat→Option Pa) (hb:Nat→Option Bool):Env:=e04 sm inv hv hb
theorem dY:uO Tryz.prog=true:=mQ
theorem dZ:Tryz.prog.follows .mixedOrders=true:=mH
theorem aGt {sm:SM} (h:∀f g,sm f=some g→aG Tryz.prog gl0 f g) (inv:Nat→Option (S→List (List LInv))) (hv:Nat→Option Pa) (hb:Nat→Option Bool):EnvFor Tryz.prog (e23 sm inv hv hb):=aY h inv hv hb
theorem oW {xs:List Int} {i j:Nat} (hi:i<xs.length) {K:Int→Prop} (hk:K xs[i]) (hj:j=i):∃n:Int,(aC xs).getD j AV.undef=AV.int .i64 n∧K n:=by
 subst hj
 exact ⟨xs[j],by simp[aC,hi],hk⟩

def tJ (bits n:Int):Bool:=decide (n<0)||(n.fdiv (2^min bits.toNat 64) !=0)
def bH9 (t:Nat) (bits:Int) (xs:List Int):LInv where
 α:=Nat
 pre i:=Lf (i≤xs.length∧(xs.take i).any (tJ bits)=false)
 st i:=⟨mkT [(0,.lst t (aC xs) xs.length 1),(1,.fn (.func 221) [] [.ptr 0 1 0]),(7,.int .i64 xs.length),(8,.int .i64 i)],[⟨.exact,true,[.int .i64 bits]⟩]⟩
 mu i:=xs.length-i
noncomputable def aWm (hv:Nat→Option Pa) (hb:Nat→Option Bool) (t:Nat) (bits:Int) (xs:List Int):Env:=
 e23 sm0 (fun i=>bif Nat.beq i 231000 then some (fun _=>[[bH9 t bits xs]]) else none) hv hb
noncomputable def aEh (hv:Nat→Option Pa) (hb:Nat→Option Bool) (t:Nat) (bits:Int) (xs:List Int) (Q:Out→List Blk→Gh→Prop):Prop:=
 bC (aWm hv hb t bits xs) (wpx (aWm hv hb t bits xs) 1000) 176 [.int .i64 bits,.lst t (aC xs) xs.length 1] [] {} Q
abbrev bKg (x_1:Nat) (xs:List Int) (bits:Int):Prop:=Lf (x_1≤xs.length∧List.any (xs.take x_1) (tJ bits)=false)
theorem bNy (t:Nat) (bits:Int) (xs:List Int) (Q:Out→List Blk→Gh→Prop):aEh (bH [(946183,.int .i64),(946186,.int .i64),(946191,.int .i64),(905225,.int .i64),(946194,.int .i64)]) (bI []) t bits xs Q=(exI
 .i64 (xs.length:Int) (fun n_0=>(∃x_1:Nat,bKg x_1 xs bits∧aN [AV.int .i64 bits]∧aN (AV.lst t (aC xs) xs.length 1)∧aN (AV.fn (Fn.func 221) [] [.ptr 0 1 0])∧AV.int .i64 n_0=AV.int .i64 (xs.length:Int)∧AV.int
 .i64 0=AV.int .i64 (x_1:Int)∧True)∧∀x_1:Nat,bKg x_1 xs bits→bif decide ((x_1:Int)<(xs.length:Int)) then exI .i64 (x_1:Int) (fun n_2=>ckQ (decide (0≤n_2)&&Nat.blt n_2.toNat xs.length&&true) (ckQ (Nat.blt
 (n_2.toNat*1) (aC xs).length) (exV .i64 ((aC xs).getD (n_2.toNat*1) AV.undef) (fun n_3=>bif decide (n_3<0) then bif decide (n_2≥0) then Q (.ret (.bool false)) [] {} else Q (.ret (.bool true)) [] {} else ckQ (decide (0 ≤
 bits)&&true) (exI .i64 (Int.fdiv n_3 ((2:Int)^Min.min bits.toNat 64)) (fun n_4=>bif n_4 !=0 then bif decide (n_2≥0) then Q (.ret (.bool false)) [] {} else Q (.ret (.bool true)) [] {} else exW .i64 ((x_1:Int)+1) (fun n_5=>
 (True∧(0:Nat)=(0:Nat))∧∃y_6:Nat,bKg y_6 xs bits∧xs.length-y_6<xs.length-x_1∧aN [AV.int .i64 bits]∧aN (AV.lst t (aC xs) xs.length 1)∧aN (AV.fn (Fn.func 221) [] [.ptr 0 1 0])∧aN (AV.int .i64
 (xs.length:Int))∧AV.int .i64 n_5=AV.int .i64 (y_6:Int)∧True))))))) else Q (.ret (.bool true)) [] {})):=by kernel_rfl

theorem bH2 {a b:Nat} (h:a<b):a.blt b=true:=by rw[aB];exact h
theorem eU (xs:List Int):(aC xs).length=xs.length:=by simp[aC]

theorem aRt (t:Nat) (bits:Int) (xs:List Int) (Q:Out→List Blk→Gh→Prop) (hx:xs.length≤4611686018427387904) (hb:0≤bits)
  (hq:Q (.ret (.bool (!(xs.any (tJ bits))))) [] {}):∃hv hb,aEh hv hb t bits xs Q:=by
 obtain ⟨hv,hb',e⟩:∃hv hb,aEh hv hb t bits xs Q=_:=⟨_,_,bNy t bits xs Q⟩
 refine ⟨hv,hb',e.mpr ?_⟩
 delta bKg
 clear e
 refine ⟨_,rfl,⟨0,⟨⟨by omega,by simp⟩⟩,by simp⟩, ?_⟩
 rintro i ⟨hi,hany⟩
 refine dW (fun hlt => ?_) (fun hge => ?_)
 ·have hlt':i<xs.length:=by simpa using hlt
  refine ⟨_,rfl,ckI (by simp[Nat.blt];exact hlt') (ckI (bH2 (by rw[eU];simpa using hlt')) (oW hlt' ?_ (by simp)))⟩
  have hstep:(xs.take (i+1)).any (tJ bits)=tJ bits xs[i]:=by
   rw[List.take_add_one,List.any_append,hany];simp[hlt']
  refine dW (fun hn => ?_) (fun hn => ?_)
  ·have hbad:xs.any (tJ bits)=true:=by
    rw[List.any_eq_true];exact ⟨xs[i],List.getElem_mem _,by simp[tJ];left;simpa using hn⟩
   rw[hbad] at hq
   refine dW (fun _=>hq) (fun hc => ?_)
   simp at hc
  ·refine ckI (by simpa using hb) ⟨_,rfl,dW (fun hz => ?_) (fun hz => ?_)⟩
   ·have hbad:xs.any (tJ bits)=true:=by
     rw[List.any_eq_true];exact ⟨xs[i],List.getElem_mem _,by simp only[tJ,Bool.or_eq_true];right;exact hz⟩
    rw[hbad] at hq
    refine dW (fun _=>hq) (fun hc => ?_)
    simp at hc
   ·refine aI (by omega) (by omega) ⟨⟨trivial,rfl⟩,i+1,⟨⟨hlt', ?_⟩⟩,Nat.sub_succ_lt_self _ _ hlt',by simp⟩
    rw[hstep,tJ,hn,hz];rfl
 ·have hle:xs.length≤i:=by simpa using hge
  have:xs.take i=xs:=List.take_of_length_le hle
  rw[this] at hany
  rw[hany] at hq
  exact hq

def aS9:Con
 | [.int .i64 bits,.lst _ l n 1],H,K=>∃xs:List Int,Lf (l=aC xs∧n=xs.length∧0≤bits∧xs.length≤4611686018427387904)∧K (.ret (.bool (!(xs.any (tJ bits))))) H
 | _,_,_=>False

theorem wC (xs:List Int):bS (aC xs)=true∧aR 0 (aC xs)=true∧zI (aC xs)=true:=by
 induction xs with
 | nil=>exact ⟨rfl,rfl,rfl⟩
 | cons x xs ih=>exact ⟨by simpa [aC,bS,noY] using ih.1,by simpa [aC,aR,old] using ih.2.1,by simpa [aC,zI,noT] using ih.2.2⟩

theorem aUr:aG Tryz.prog gl0 176 aS9:=by
 refine aT (enters_of (by kernel_rfl)) aQ fun args H Q hc => ?_
 unfold aS9 at hc
 split at hc
 ·rename_i bits t l n
  obtain ⟨xs,⟨rfl,rfl,hb,hl⟩,hq⟩:=hc
  obtain ⟨hv,hb',h⟩:=aRt t bits xs (hx:=hl) (hb:=hb) (Q:=fun o H' _=>H'=[]∧(∃v,o=.ret v∧old 0 v=true∧noY v=true)∧Q o H) ⟨rfl,⟨_,rfl,rfl,rfl⟩,hq⟩
  exact ⟨rfl,rfl,_,1000,aGt cB _ _ _,rfl,h⟩
 ·exact hc.elim
def aWj:Con:=fun args H Q=>mZ [0,1] H args fun a=>aS9 a H Q
theorem bC4:aG Tryz.prog gl0 176 aWj:=dM aUr aQ [0,1] fun args H Q hc=>by
 unfold aS9 at hc
 split at hc
 ·obtain ⟨xs,h,hq⟩:=hc
  exact ⟨xs,h,rfl,⟨_,rfl,rfl⟩,hq⟩
 ·exact hc.elim
theorem bGd {id:Nat} {H:List Blk} {cs:List AV} (h:H[id]? = some ⟨.grow,true,cs⟩) (h0:aR 0 cs=true) (h1:aR 1 cs=true) (hy:bS cs=true):Fr (fun _=>id) [⟨.grow,true,cs⟩] H:=by
 refine ⟨fun j b0 hb => ?_,fun j j' b0 hb _ hj' _ => ?_,fun j b0 hb => ?_⟩
 ·cases j with
  | zero=>
   simp only[List.getElem?_cons_zero,Option.some.injEq] at hb
   subst hb
   refine ⟨?_,h1,hy,fun _=>h0,_,h,(bL _ cs h0 hy).symm,.inr rfl⟩
   exact (List.getElem?_eq_some_iff.1 h).1
  | succ j=>simp at hb
 ·cases j with
  | zero=>simp at hj';omega
  | succ j=>simp at hb
 ·cases j with
  | zero=>simp at hb;subst hb;exact fun h=>by cases h
  | succ j=>simp at hb
theorem aYe {id:Nat} {H:List Blk} {cs cs':List AV} (h:H[id]? = some ⟨.grow,true,cs⟩) (h0:aR 0 cs'=true) (hy:bS cs'=true):FrEnd (fun _=>id) [⟨.grow,true,cs⟩] [⟨.grow,true,cs'⟩] H (H.set id ⟨.grow,true,cs'⟩):=by
 have hl:id<H.length:=(List.getElem?_eq_some_iff.1 h).1
 refine ⟨by simp,fun j b0 hb hk => ?_,fun j b0 hb hk => ?_,fun j b0 hj hb => ?_,by simp,fun k hk hn => ?_,fun j b hb hk => ?_⟩
 ·cases j with
  | zero=>simp at hb;subst hb;cases hk
  | succ j=>simp at hb
 ·cases j with
  | zero=>simp at hb;subst hb;exact ⟨_,rfl,rfl⟩
  | succ j=>simp at hb
 ·cases j with
  | zero=>simp at hj
  | succ j=>simp at hb
 ·have:=hn 0 _ rfl (by simp)
  rw[List.getElem?_set_ne (by omega)]
 ·cases j with
  | zero=>
   simp only[List.getElem?_cons_zero,Option.some.injEq] at hb
   subst hb
   show (H.set id _)[id]? = some (aL8 _ _)
   rw[List.getElem?_set_self hl]
   simp only[aL8,bL _ cs' h0 hy]
  | succ j=>simp at hb
theorem bA2 {H:List Blk} {cs':List AV} (h0:aR 0 cs'=true) (hy:bS cs'=true):FrEnd id [] [⟨.grow,true,cs'⟩] H (H++[⟨.grow,true,cs'⟩]):=by
 refine ⟨by simp,fun j b0 hb hk=>by simp at hb,fun j b0 hb hk=>by simp at hb,fun j b0 hj hb => ?_,by simp,fun k hk hn => ?_,fun j b hb hk => ?_⟩
 ·cases j with
  | zero=>simp at hb;subst hb;simp
  | succ j=>simp at hb
 ·rw[List.getElem?_append_left hk]
 ·cases j with
  | zero=>
   simp only[List.getElem?_cons_zero,Option.some.injEq] at hb
   subst hb
   show (H++_)[sig id 0 H.length 0]? = _
   have:sig id 0 H.length 0=H.length:=by simp[sig]
   rw[this,List.getElem?_append_right (Nat.le_refl _),Nat.sub_self]
   simp only[List.getElem?_cons_zero,aL8,bL _ cs' h0 hy]
  | succ j=>simp at hb

theorem aH (l:List UInt8):(ofBytes l).length=l.length:=by simp[ofBytes]
theorem dH (a b:List UInt8):ofBytes a++ofBytes b=ofBytes (a++b):=by simp[ofBytes]
theorem cK (l:List UInt8):fJ (ofBytes l)=true:=by
 induction l with
 | nil=>rfl
 | cons x l ih=>simpa [ofBytes,fJ,one] using ih
theorem aK (n:Nat) (l:List UInt8):aR n (ofBytes l)=true:=by
 induction l with
 | nil=>rfl
 | cons x l ih=>simpa [ofBytes,aR,old] using ih
theorem iU (l:List UInt8):bS (ofBytes l)=true:=by
 induction l with
 | nil=>rfl
 | cons x l ih=>simpa [ofBytes,bS,noY] using ih
theorem mX (l:List UInt8):(ofBytes l).map toB=l:=by
 simp only[ofBytes,List.map_map]
 conv=>rhs;rw[←List.map_id l]
 congr 1
 funext x
 simp[toB]

def octM (n:Int) (i:Nat):UInt8:=UInt8.ofNat (n/256^i%256).toNat
def beM (n:Int):Nat→List UInt8
 | 0=>[]
 | k+1=>octM n k::beM n k
def putM (k:Nat):List Int→List UInt8
 | []=>[]
 | n::l=>beM n k++putM k l
theorem be_len (n:Int):∀k,(beM n k).length=k
 | 0=>rfl
 | k+1=>by rw[beM,List.length_cons,be_len n k]
theorem aNu (k:Nat) (a b:List Int):putM k (a++b)=putM k a++putM k b:=by
 induction a with
 | nil=>rfl
 | cons x a ih=>rw[List.cons_append,putM,ih,putM,List.append_assoc]
theorem put_len (k:Nat) (l:List Int):(putM k l).length=k*l.length:=by
 induction l with
 | nil=>rfl
 | cons x l ih=>rw[putM,List.length_append,be_len,ih,List.length_cons,Nat.mul_succ];omega
theorem zS (k:Nat) (l:List Int) {i:Nat} (hi:i<l.length):putM k (l.take (i+1))=putM k (l.take i)++beM (l.getD i 0) k:=by
 have e:l.take (i+1)=l.take i++[l.getD i 0]:=by
  rw[List.take_add_one,List.getD_eq_getElem?_getD,List.getElem?_eq_getElem hi];rfl
 rw[e,aNu,putM,putM,List.append_nil]
theorem sZ (n:Int):∀ (k m:Nat),m<k→(beM n k).take (m+1)=(beM n k).take m++[octM n (k-1-m)]
 | 0,m,h=>by omega
 | k+1,0,h=>by simp[beM]
 | k+1,m+1,h=>by
  have ih:=sZ n k m (by omega)
  have e:k+1-1-(m+1)=k-1-m:=by omega
  rw[beM,List.take_succ_cons,ih,List.take_succ_cons,List.cons_append,e]

def bCm (k:Nat) (t:Nat) (xs:List Int):LInv where
 α:=Nat
 pre i:=Lf (i=0)
 st i:=⟨mkT [(0,.nils),(1,.int .i64 (k:Nat)),(10,.lst t (aC xs) xs.length 1),(11,.int .i64 xs.length),(12,.int .i64 (i:Nat))],[]⟩
 mu i:=xs.length+1
def aNv (k:Nat) (t:Nat) (xs:List Int) (bs:List UInt8) (lo:Nat):LInv where
 α:=Nat
 pre i:=Lf (lo≤i∧i≤xs.length)
 st i:=⟨mkT [(0,.sl 0 (bs.length+k*i) 0 (bs.length+k*i) 1),(1,.int .i64 (k:Nat)),(10,.lst t (aC xs) xs.length 1),(11,.int .i64 xs.length),(12,.int .i64 (i:Nat))],[⟨.grow,true,ofBytes (bs++putM k (xs.take i))⟩]⟩
 mu i:=xs.length-i
def aMw (k t:Nat) (xs:List Int) (s:S):List (List LInv):=match s.tm.get 0,s.tm.get 8,s.tm.get 12,s.hp with
 | .nils,.int _ n,.int _ i,[]=>[[{ α:=Nat,pre:=fun m=>Lf (m=0),st:=fun m=>⟨mkT [(0,.nils),(1,.int .i64 (k:Nat)),(8,.int .i64 n),(9,.int .i64 ((k:Int)-1-m)),(10,.lst t (aC xs) xs.length 1),(11,.int .i64 xs.length),(12,.int .i64 i)],[]⟩,mu:=fun m=>k+1 },
   { α:=Nat,pre:=fun m=>Lf (1≤m∧m≤k),st:=fun m=>⟨mkT [(0,.sl 0 m 0 m 1),(1,.int .i64 (k:Nat)),(8,.int .i64 n),(9,.int .i64 ((k:Int)-1-m)),(10,.lst t (aC xs) xs.length 1),(11,.int .i64 xs.length),(12,.int .i64 i)],[⟨.grow,true,ofBytes ((beM n k).take m)⟩]⟩,mu:=fun m=>k-m }]]
 | .sl _ tot _ _ _,.int _ n,.int _ i,[bl]=>[[{ α:=Nat,pre:=fun m=>Lf (m≤k),st:=fun m=>⟨mkT [(0,.sl 0 (tot+m) 0 (tot+m) 1),(1,.int .i64 (k:Nat)),(8,.int .i64 n),(9,.int .i64 ((k:Int)-1-m)),(10,.lst t (aC xs) xs.length 1),(11,.int .i64 xs.length),(12,.int .i64 i)],[⟨.grow,true,ofBytes (bl.cs.map toB++(beM n k).take m)⟩]⟩,mu:=fun m=>k-m }]]
 | _,_,_,_=>[]
noncomputable def aKq (hv:Nat→Option Pa) (hb:Nat→Option Bool) (k t:Nat) (xs:List Int):Env := { e23 sm0 (fun i=>bif Nat.beq i 89000 then some (fun _=>[[bCm k t xs,aNv k t xs [] 1]]) else bif Nat.beq i 89002 then some (aMw k t xs) else none) hv hb with hz:=fun k=>Nat.beq k 364572 }
noncomputable def xK (hv:Nat→Option Pa) (hb:Nat→Option Bool) (k t:Nat) (xs:List Int) (Q:Out→List Blk→Gh→Prop):Prop:=
 bC (aKq hv hb k t xs) (wpx (aKq hv hb k t xs) 1000) 89 [.nils,.int .i64 (k:Nat),.lst t (aC xs) xs.length 1] [] {} Q
abbrev aWw (k:Nat):AV:=.int .i64 (k:Int)
abbrev aHu (xs:List Int):AV:=.int .i64 (xs.length:Int)
abbrev bIs (t:Nat) (xs:List Int):Prop:=aN (AV.lst t (aC xs) xs.length 1)∧True
abbrev aJk (x_1:Nat) (xs:List Int):Prop:=Lf (1≤x_1∧x_1≤xs.length)
abbrev aFp (k x_4:Nat):Int:=(k:Int)-1-(x_4:Int)
abbrev aS2 (k:Nat) (xs:List Int) (n_3:Int) (x_4:Nat) (n_2:Int) (x_1 t:Nat):Prop:=aN (aWw k)∧aN (aHu xs)∧AV.int .i64 n_3=AV.int .i64 (aFp k x_4)∧aN (AV.int .i64 n_2)∧aN (aWw x_1)∧bIs t xs
abbrev aP9:Prop:=True∧(0:Nat)=(0:Nat)
abbrev bDr (k:Nat) (xs:List Int) (n_6:Int) (y_7 t:Nat):Prop:=aN (AV.int .i64 (k:Int))∧aN (aHu xs)∧AV.int .i64 n_6=AV.int .i64 (y_7:Int)∧aN (AV.lst t (aC xs) xs.length 1)∧True
abbrev aI2 (k y_7:Nat) (xs:List Int):List AV:=ofBytes ([]++putM k (xs.take y_7))
abbrev bDy (k x_1:Nat) (xs:List Int) (x_4:Nat) (n_2:Int):List AV:=ofBytes (List.map toB (aI2 k x_1 xs)++(beM n_2 k).take x_4)
abbrev aQ4 (k x_1 x_4:Nat):AV:=.sl 0 (0+k*x_1+x_4) 0 (0+k*x_1+x_4) 1
theorem bEl (k:Nat) (t:Nat) (xs:List Int) (Q:Out→List Blk→Gh→Prop):xK (bH [(364555,.int .i64),(364559,.int .i64),(364561,.int .i64),(364562,.int .i64),(364568,.int .i64),(364569,.int .i64),(364570,
 .int .i64),(364571,.int .u8),(364564,.int .i64),(364565,.int .i64),(364574,.int .i64)]) (bI []) k t xs Q=(exI .i64 (xs.length:Int) (fun n_0=>((∃x_1:Nat,Lf (x_1=0)∧AV.nils=AV.nils∧aN (aWw k)∧AV.int .i64 n_0
 = aHu xs∧AV.int .i64 0=aWw x_1∧bIs t xs)∨∃x_1:Nat,aJk x_1 xs∧False)∧(∀x_1:Nat,Lf (x_1=0)→bif decide ((x_1:Int)<(xs.length:Int)) then ckQ (Nat.blt (x_1:Int).toNat xs.length&&true) (ckQ (Nat.blt ((x_1
 : Int).toNat*1) (aC xs).length) (exV .i64 ((aC xs).getD ((x_1:Int).toNat*1) AV.undef) (fun n_2=>exW .i64 ((k:Int)-1) (fun n_3=>((∃x_4:Nat,Lf (x_4=0)∧AV.nils=AV.nils∧aS2 k xs n_3 x_4 n_2 x_1 t)∨∃x_4 :
 Nat,Lf (1≤x_4∧x_4≤k)∧False)∧(∀x_4:Nat,Lf (x_4=0)→exI .i64 (aFp k x_4) (fun n_5=>bif decide (n_5≥0) then exI .i64 (aFp k x_4) (fun n_6=>exW .i64 (8*n_6) (fun n_7=>ckQ (decide (0≤n_7)&&true) (exI .i64
 (Int.fdiv n_2 ((2:Int)^Min.min n_7.toNat 64)) (fun n_8=>exW .u8 n_8 (fun n_9=>exI .i64 (aFp k x_4) (fun n_10=>exW .i64 (n_10-1) (fun n_11=>aP9∧((∃y_12:Nat,Lf (y_12=0)∧k+1<k+1∧False)∨∃y_12:Nat,Lf (1 ≤
 y_12∧y_12≤k)∧k-y_12<k+1∧[AV.int .u8 n_9]=ofBytes ((beM n_2 k).take y_12)∧AV.sl 0 1 0 1 1=AV.sl 0 y_12 0 y_12 1∧aS2 k xs n_11 y_12 n_2 x_1 t)))))))) else exW .i64 ((x_1:Int)+1) (fun n_6=>aP9∧((∃y_7:Nat,Lf
 (y_7=0)∧xs.length+1<xs.length+1∧AV.nils=AV.nils∧bDr k xs n_6 y_7 t)∨∃y_7:Nat,aJk y_7 xs∧xs.length-y_7<xs.length+1∧False))))∧∀x_4:Nat,Lf (1≤x_4∧x_4≤k)→exI .i64 (aFp k x_4) (fun n_5=>bif
 decide (n_5≥0) then exI .i64 (aFp k x_4) (fun n_6=>exW .i64 (8*n_6) (fun n_7=>ckQ (decide (0≤n_7)&&true) (exI .i64 (Int.fdiv n_2 ((2:Int)^Min.min n_7.toNat 64)) (fun n_8=>exW .u8 n_8 (fun n_9=>ckQ (Nat.beq (ofBytes
 ((beM n_2 k).take x_4)).length x_4&&true&&Nat.beq (0+x_4*1) x_4&&Nat.ble (x_4+1) 1099511627776&&Nat.ble ((x_4+1)*1) 1099511627776) (exI .i64 (aFp k x_4) (fun n_10=>exW .i64 (n_10-1) (fun n_11=>aP9∧((∃y_12 :
 Nat,Lf (y_12=0)∧k+1<k-x_4∧False)∨∃y_12:Nat,Lf (1≤y_12∧y_12≤k)∧k-y_12<k-x_4∧ofBytes ((beM n_2 k).take x_4)++[AV.int .u8 n_9]=ofBytes ((beM n_2 k).take y_12)∧AV.sl 0 (x_4+1) 0 (x_4+1) 1=AV.sl 0
 y_12 0 y_12 1∧aS2 k xs n_11 y_12 n_2 x_1 t))))))))) else exW .i64 ((x_1:Int)+1) (fun n_6=>aP9∧((∃y_7:Nat,Lf (y_7=0)∧xs.length+1<xs.length+1∧False)∨∃y_7:Nat,aJk y_7 xs∧xs.length-y_7<xs.length+1 ∧
 ofBytes ((beM n_2 k).take x_4)=aI2 k y_7 xs∧AV.sl 0 x_4 0 x_4 1=AV.sl 0 (0+k*y_7) 0 (0+k*y_7) 1∧bDr k xs n_6 y_7 t))))))) else Q (.ret .nils) [] {})∧∀x_1:Nat,aJk x_1 xs→bif decide ((x_1:Int)<(xs.length :
 Int)) then ckQ (Nat.blt (x_1:Int).toNat xs.length&&true) (ckQ (Nat.blt ((x_1:Int).toNat*1) (aC xs).length) (exV .i64 ((aC xs).getD ((x_1:Int).toNat*1) AV.undef) (fun n_2=>exW .i64 ((k:Int)-1) (fun n_3=>(∃x_4 :
 Nat,Lf (x_4≤k)∧aI2 k x_1 xs=bDy k x_1 xs x_4 n_2∧AV.sl 0 (0+k*x_1) 0 (0+k*x_1) 1=aQ4 k x_1 x_4∧aS2 k xs n_3 x_4 n_2 x_1 t)∧∀x_4:Nat,Lf (x_4≤k)→exI .i64 (aFp k x_4) (fun n_5=>bif decide (n_5≥0) then
 exI .i64 (aFp k x_4) (fun n_6=>exW .i64 (8*n_6) (fun n_7=>ckQ (decide (0≤n_7)&&true) (exI .i64 (Int.fdiv n_2 ((2:Int)^Min.min n_7.toNat 64)) (fun n_8=>exW .u8 n_8 (fun n_9=>ckQ (Nat.beq (bDy k x_1 xs x_4 n_2).length (0
 + k*x_1+x_4)&&true&&Nat.beq (0+(0+k*x_1+x_4)*1) (0+k*x_1+x_4)&&Nat.ble (0+k*x_1+x_4+1) 1099511627776&&Nat.ble ((0+k*x_1+x_4+1)*1) 1099511627776) (exI .i64 (aFp k x_4) (fun n_10=>exW .i64
 (n_10-1) (fun n_11=>aP9∧∃y_12:Nat,Lf (y_12≤k)∧k-y_12<k-x_4∧bDy k x_1 xs x_4 n_2++[AV.int .u8 n_9]=bDy k x_1 xs y_12 n_2∧AV.sl 0 (0+k*x_1+x_4+1) 0 (0+k*x_1+x_4+1) 1=aQ4 k x_1 y_12∧aS2 k
 xs n_11 y_12 n_2 x_1 t)))))))) else exW .i64 ((x_1:Int)+1) (fun n_6=>aP9∧((∃y_7:Nat,Lf (y_7=0)∧xs.length+1<xs.length-x_1∧False)∨∃y_7:Nat,aJk y_7 xs∧xs.length-y_7<xs.length-x_1∧bDy k x_1 xs x_4
 n_2=aI2 k y_7 xs∧aQ4 k x_1 x_4=AV.sl 0 (0+k*y_7) 0 (0+k*y_7) 1∧bDr k xs n_6 y_7 t))))))) else Q (.ret (.sl 0 (0+k*x_1) 0 (0+k*x_1) 1)) [Blk.mk BK.grow true (aI2 k x_1 xs)] {})):=by kernel_rfl

noncomputable def aMt (hv:Nat→Option Pa) (hb:Nat→Option Bool) (k t:Nat) (xs:List Int) (bs:List UInt8):Env := { e23 sm0 (fun i=>bif Nat.beq i 89000 then some (fun _=>[[aNv k t xs bs 0]]) else bif Nat.beq i 89002 then some (aMw k t xs) else none) hv hb with hz:=fun k=>Nat.beq k 364572 }
noncomputable def xV (hv:Nat→Option Pa) (hb:Nat→Option Bool) (k t:Nat) (xs:List Int) (bs:List UInt8) (Q:Out→List Blk→Gh→Prop):Prop:=
 bC (aMt hv hb k t xs bs) (wpx (aMt hv hb k t xs bs) 1000) 89 [.sl 0 bs.length 0 bs.length 1,.int .i64 (k:Nat),.lst t (aC xs) xs.length 1] [⟨.grow,true,ofBytes bs⟩] {} Q
abbrev bGb (bs:List UInt8) (k x_1:Nat) (xs:List Int):List AV:=ofBytes (bs++putM k (xs.take x_1))
abbrev uT (bs:List UInt8) (k x_1:Nat):Nat:=bs.length+k*x_1
abbrev bDd (bs:List UInt8) (k x_1:Nat) (xs:List Int) (x_4:Nat) (n_2:Int):List AV:=ofBytes (List.map toB (ofBytes (bs++putM k (xs.take x_1)))++(beM n_2 k).take x_4)
theorem bIb (k:Nat) (t:Nat) (xs:List Int) (bs:List UInt8) (Q:Out→List Blk→Gh→Prop):xV (bH [(364555,.int .i64),(364559,.int .i64),(364561,.int .i64),(364562,.int .i64),(364568,.int .i64),(364569,.int
 .i64),(364570,.int .i64),(364571,.int .u8),(364564,.int .i64),(364565,.int .i64),(364574,.int .i64)]) (bI []) k t xs bs Q=(exI .i64 (xs.length:Int) (fun n_0=>(∃x_1:Nat,Lf (0≤x_1∧x_1≤xs.length)∧ofBytes bs =
 bGb bs k x_1 xs∧AV.sl 0 bs.length 0 bs.length 1=AV.sl 0 (uT bs k x_1) 0 (uT bs k x_1) 1∧aN (aWw k)∧AV.int .i64 n_0=aHu xs∧AV.int .i64 0=aWw x_1∧bIs t xs)∧∀x_1:Nat,Lf (0≤x_1∧x_1≤xs.length)→bif
 decide ((x_1:Int)<(xs.length:Int)) then ckQ (Nat.blt (x_1:Int).toNat xs.length&&true) (ckQ (Nat.blt ((x_1:Int).toNat*1) (aC xs).length) (exV .i64 ((aC xs).getD ((x_1:Int).toNat*1) AV.undef) (fun n_2=>exW .i64
 ((k:Int)-1) (fun n_3=>(∃x_4:Nat,Lf (x_4≤k)∧bGb bs k x_1 xs=bDd bs k x_1 xs x_4 n_2∧AV.sl 0 (uT bs k x_1) 0 (uT bs k x_1) 1=AV.sl 0 (uT bs k x_1+x_4) 0 (uT bs k x_1+x_4) 1∧aS2 k xs n_3 x_4 n_2 x_1 t)∧∀
 x_4:Nat,Lf (x_4≤k)→exI .i64 (aFp k x_4) (fun n_5=>bif decide (n_5≥0) then exI .i64 (aFp k x_4) (fun n_6=>exW .i64 (8*n_6) (fun n_7=>ckQ (decide (0≤n_7)&&true) (exI .i64 (Int.fdiv n_2 ((2:Int)^Min.min n_7.toNat
 64)) (fun n_8=>exW .u8 n_8 (fun n_9=>ckQ (Nat.beq (bDd bs k x_1 xs x_4 n_2).length (uT bs k x_1+x_4)&&true&&Nat.beq (0+(uT bs k x_1+x_4)*1) (uT bs k x_1+x_4)&&Nat.ble (uT bs k x_1+x_4+1) 1099511627776 &&
 Nat.ble ((uT bs k x_1+x_4+1)*1) 1099511627776) (exI .i64 (aFp k x_4) (fun n_10=>exW .i64 (n_10-1) (fun n_11=>aP9∧∃y_12:Nat,Lf (y_12≤k)∧k-y_12<k-x_4∧bDd bs k x_1 xs x_4 n_2++[AV.int .u8 n_9]=bDd bs k
 x_1 xs y_12 n_2∧AV.sl 0 (uT bs k x_1+x_4+1) 0 (uT bs k x_1+x_4+1) 1=AV.sl 0 (uT bs k x_1+y_12) 0 (uT bs k x_1+y_12) 1∧aS2 k xs n_11 y_12 n_2 x_1 t)))))))) else exW .i64 ((x_1:Int)+1) (fun n_6=>aP9∧∃y_7
 : Nat,Lf (0≤y_7∧y_7≤xs.length)∧xs.length-y_7<xs.length-x_1∧bDd bs k x_1 xs x_4 n_2=bGb bs k y_7 xs∧AV.sl 0 (uT bs k x_1+x_4) 0 (uT bs k x_1+x_4) 1=AV.sl 0 (uT bs k y_7) 0 (uT bs k y_7) 1∧bDr k xs n_6
 y_7 t)))))) else Q (.ret (.sl 0 (uT bs k x_1) 0 (uT bs k x_1) 1)) [Blk.mk BK.grow true (bGb bs k x_1 xs)] {})):=by kernel_rfl

theorem bE4 (n:Int) (j:Nat) (hj:j≤7) (z:Int) (hz:z=8*(j:Int)):IntKind.wrap .u8 (Int.fdiv n (2^min (Int.toNat z) 64))=((octM n j).toNat:Int):=by
 subst hz
 have e1:min (Int.toNat (8*(j:Int))) 64=8*j:=by omega
 have e2:(2:Int)^(8*j)=256^j:=by rw[Int.pow_mul];rfl
 have e3:(0:Int)≤256^j:=Int.pow_nonneg (by decide)
 rw[e1,e2,Int.fdiv_eq_ediv_of_nonneg _ e3,IntKind.wrap_u8,octM]
 generalize n/256^j=x
 have h1:(0:Int)≤x%256:=Int.emod_nonneg _ (by decide)
 have h2:x%256<256:=Int.emod_lt_of_pos _ (by decide)
 rw[UInt8.toNat_ofNat']
 omega
theorem rA (a:List UInt8) (x:UInt8):ofBytes a++[AV.int .u8 ((x.toNat:Nat):Int)]=ofBytes (a++[x]):=by simp[ofBytes]
theorem aUj (k t:Nat) (xs:List Int) (bs:List UInt8) (hk:1≤k∧k≤7) (hx:xs.length≤1000000) (hbs:bs.length≤1000000) (Q:Out→List Blk→Gh→Prop)
  (hq:Q (.ret (.sl 0 (bs.length+k*xs.length) 0 (bs.length+k*xs.length) 1)) [⟨.grow,true,ofBytes (bs++putM k xs)⟩] {}):∃hv hb,xV hv hb k t xs bs Q:=by
 obtain ⟨hv,hb',e⟩:∃hv hb,xV hv hb k t xs bs Q=_:=⟨_,_,bIb k t xs bs Q⟩
 refine ⟨hv,hb',e.mpr ?_⟩
 delta bGb uT aWw aHu bIs bDd aFp aS2 aP9 bDr
 clear e
 refine ⟨_,rfl,⟨0,⟨by omega,by omega⟩,by simp[putM],by rw[Nat.mul_zero,Nat.add_zero],rfl,rfl,rfl,rfl,trivial⟩, ?_⟩
 rintro i ⟨hlo,hi⟩
 refine aF (fun hlt => ?_) (fun hge => ?_)
 ·have hlt':i<xs.length:=by omega
  have hki:k*i+k≤k*xs.length:=by rw[←Nat.mul_succ];exact Nat.mul_le_mul_left _ hlt'
  have hkx:k*xs.length≤7000000:=by
   have:=Nat.mul_le_mul hk.2 hx
   omega
  refine ckI (by simp;omega) (ckI (by simp[aA];omega) (bE9 (i:=i) hlt' (by simp) (aI (by omega) (by omega) ⟨⟨0,⟨Nat.zero_le _⟩,by rw[mX];simp,by rw[Nat.add_zero],rfl,rfl,by simp,rfl,rfl,rfl,trivial⟩, ?_⟩)))
  rintro m ⟨hm⟩
  rw[mX]
  refine ⟨_,rfl,aF (fun h0 => ?_) (fun h0 => ?_)⟩
  ·have hmk:m<k:=by omega
   have bt:=sZ (xs.getD i 0) k m hmk
   have lt:=be_len (xs.getD i 0) k
   refine ⟨_,rfl,aI (by omega) (by omega) (ckI (by rw[Bool.and_true];exact decide_eq_true (by omega)) ⟨_,rfl,((octM (xs.getD i 0) (k-1-m)).toNat:Int), ?_, ?_⟩)⟩
   ·rw[bE4 _ (k-1-m) (by omega) _ (by omega)]
   ·refine ckI ?_ ⟨_,rfl,aI (by omega) (by omega) ⟨⟨trivial,rfl⟩,m+1,⟨hmk⟩,by omega, ?_,rfl,rfl,rfl, ?_,rfl,rfl,rfl,trivial⟩⟩
    ·have e1:(ofBytes (bs++putM k (xs.take i)++(beM (xs.getD i 0) k).take m)).length=bs.length+k*i+m:=by
      rw[aH,List.length_append,List.length_append,put_len,List.length_take,List.length_take,lt,Nat.min_eq_left hi,Nat.min_eq_left (by omega)]
     rw[e1]
     simp
     omega
    ·rw[rA,List.append_assoc,←bt]
    ·congr 1
     omega
  ·have hmk:m=k:=by omega
   subst hmk
   have lt:=be_len (xs.getD i 0) m
   refine aI (by omega) (by omega) ⟨⟨trivial,rfl⟩,i+1,⟨by omega,hlt'⟩,by omega, ?_, ?_,rfl,rfl,rfl,rfl,trivial⟩
   ·rw[List.take_of_length_le (l:=beM (xs.getD i 0) m) (by omega),zS _ _ hlt',List.append_assoc]
   ·rw[Nat.mul_succ,Nat.add_assoc]
 ·have hle:i=xs.length:=by omega
  subst hle
  rw[List.take_length]
  exact hq
theorem aTu (k t:Nat) (xs:List Int) (hk:1≤k∧k≤7) (hx:xs.length≤1000000) (Q:Out→List Blk→Gh→Prop)
  (hq0:xs=[]→Q (.ret .nils) [] {}) (hq:1≤xs.length→Q (.ret (.sl 0 (k*xs.length) 0 (k*xs.length) 1)) [⟨.grow,true,ofBytes (putM k xs)⟩] {}):∃hv hb,xK hv hb k t xs Q:=by
 obtain ⟨hv,hb',e⟩:∃hv hb,xK hv hb k t xs Q=_:=⟨_,_,bEl k t xs Q⟩
 refine ⟨hv,hb',e.mpr ?_⟩
 delta aWw aHu bIs aJk aFp aS2 aP9 bDr aI2 bDy aQ4
 clear e
 refine ⟨_,rfl,.inl ⟨0,⟨rfl⟩,rfl,rfl,rfl,rfl,rfl,trivial⟩, ?_, ?_⟩
 ·rintro _ ⟨rfl⟩
  refine aF (fun hlt => ?_) (fun hge=>hq0 (List.length_eq_zero_iff.1 (by omega)))
  have hlt':0<xs.length:=by omega
  refine ckI (by simp;omega) (ckI (by simp[aA];omega) (bE9 (i:=0) hlt' (by simp) (aI (by omega) (by omega) ⟨.inl ⟨0,⟨rfl⟩,rfl,rfl,rfl,by simp,rfl,rfl,rfl,trivial⟩, ?_, ?_⟩)))
  ·rintro _ ⟨rfl⟩
   have bt:=sZ (xs.getD 0 0) k 0 (by omega)
   refine ⟨_,rfl,aF (fun h0 => ?_) (fun h0=>by exfalso;omega)⟩
   refine ⟨_,rfl,aI (by omega) (by omega) (ckI (by rw[Bool.and_true];exact decide_eq_true (by omega)) ⟨_,rfl,((octM (xs.getD 0 0) (k-1-0)).toNat:Int), ?_, ?_⟩)⟩
   ·rw[bE4 _ (k-1-0) (by omega) _ (by omega)]
   ·refine ⟨_,rfl,aI (by omega) (by omega) ⟨⟨trivial,rfl⟩,.inr ⟨1,⟨by omega,by omega⟩,by omega, ?_,rfl,rfl,rfl, ?_,rfl,rfl,rfl,trivial⟩⟩⟩
    ·rw[bt]
     simp[ofBytes]
    ·congr 1
     omega
  ·rintro m ⟨hm1,hm⟩
   refine ⟨_,rfl,aF (fun h0 => ?_) (fun h0 => ?_)⟩
   ·have hmk:m<k:=by omega
    have bt:=sZ (xs.getD 0 0) k m hmk
    have lt:=be_len (xs.getD 0 0) k
    refine ⟨_,rfl,aI (by omega) (by omega) (ckI (by rw[Bool.and_true];exact decide_eq_true (by omega)) ⟨_,rfl,((octM (xs.getD 0 0) (k-1-m)).toNat:Int), ?_, ?_⟩)⟩
    ·rw[bE4 _ (k-1-m) (by omega) _ (by omega)]
    ·refine ckI ?_ ⟨_,rfl,aI (by omega) (by omega) ⟨⟨trivial,rfl⟩,.inr ⟨m+1,⟨by omega,hmk⟩,by omega, ?_,rfl,rfl,rfl, ?_,rfl,rfl,rfl,trivial⟩⟩⟩
     ·rw[aH,List.length_take,lt,Nat.min_eq_left (by omega)]
      simp
      omega
     ·rw[rA,←bt]
     ·congr 1
      omega
   ·have hmk:m=k:=by omega
    subst hmk
    have lt:=be_len (xs.getD 0 0) m
    refine aI (by omega) (by omega) ⟨⟨trivial,rfl⟩,.inr ⟨1,⟨by omega,hlt'⟩,by omega, ?_, ?_,rfl,rfl,rfl,rfl,trivial⟩⟩
    ·rw[List.take_of_length_le (l:=beM (xs.getD 0 0) m) (by omega),zS _ _ hlt']
     simp[putM]
    ·simp
 ·rintro i ⟨hlo,hi⟩
  refine aF (fun hlt => ?_) (fun hge => ?_)
  ·have hlt':i<xs.length:=by omega
   have hki:k*i+k≤k*xs.length:=by rw[←Nat.mul_succ];exact Nat.mul_le_mul_left _ hlt'
   have hkx:k*xs.length≤7000000:=by
    have:=Nat.mul_le_mul hk.2 hx
    omega
   refine ckI (by simp;omega) (ckI (by simp[aA];omega) (bE9 (i:=i) hlt' (by simp) (aI (by omega) (by omega) ⟨⟨0,⟨Nat.zero_le _⟩,by rw[mX];simp,by rw[Nat.add_zero],rfl,rfl,by simp,rfl,rfl,rfl,trivial⟩, ?_⟩)))
   rintro m ⟨hm⟩
   rw[mX]
   refine ⟨_,rfl,aF (fun h0 => ?_) (fun h0 => ?_)⟩
   ·have hmk:m<k:=by omega
    have bt:=sZ (xs.getD i 0) k m hmk
    have lt:=be_len (xs.getD i 0) k
    refine ⟨_,rfl,aI (by omega) (by omega) (ckI (by rw[Bool.and_true];exact decide_eq_true (by omega)) ⟨_,rfl,((octM (xs.getD i 0) (k-1-m)).toNat:Int), ?_, ?_⟩)⟩
    ·rw[bE4 _ (k-1-m) (by omega) _ (by omega)]
    ·refine ckI ?_ ⟨_,rfl,aI (by omega) (by omega) ⟨⟨trivial,rfl⟩,m+1,⟨hmk⟩,by omega, ?_,rfl,rfl,rfl, ?_,rfl,rfl,rfl,trivial⟩⟩
     ·have e1:(ofBytes ([]++putM k (xs.take i)++(beM (xs.getD i 0) k).take m)).length=k*i+m:=by
       rw[aH,List.length_append,List.length_append,put_len,List.length_take,List.length_take,lt,Nat.min_eq_left hi,Nat.min_eq_left (by omega)]
       simp
      rw[e1]
      simp
      omega
     ·rw[rA,List.append_assoc,←bt]
     ·congr 1
      omega
   ·have hmk:m=k:=by omega
    subst hmk
    have lt:=be_len (xs.getD i 0) m
    refine aI (by omega) (by omega) ⟨⟨trivial,rfl⟩,.inr ⟨i+1,⟨by omega,hlt'⟩,by omega, ?_, ?_,rfl,rfl,rfl,rfl,trivial⟩⟩
    ·rw[List.take_of_length_le (l:=beM (xs.getD i 0) m) (by omega),zS _ _ hlt',List.append_assoc]
    ·rw[Nat.mul_succ,Nat.add_assoc]
  ·have hle:i=xs.length:=by omega
   subst hle
   have hh:=hq hlo
   rw[List.take_length]
   simpa using hh
def bJ8:Con
 | [.nils,.int .i64 k,.lst t l n 1],H,K=>∃xs:List Int,Lf (l=aC xs∧n=xs.length∧1≤k∧k≤7∧1≤xs.length∧xs.length≤1000000)∧K (.ret (.sl H.length (putM k.toNat xs).length 0 (putM k.toNat xs).length 1)) (H++[⟨.grow,true,ofBytes (putM k.toNat xs)⟩])
 | [.sl id tot 0 len 1,.int .i64 k,.lst t l n 1],H,K=>∃ (bs:List UInt8) (xs:List Int),Lf (H[id]? = some ⟨.grow,true,ofBytes bs⟩∧tot=bs.length∧len=bs.length∧bs.length≤1000000∧l=aC xs∧n=xs.length∧1≤k∧k≤7∧xs.length≤1000000)∧K (.ret (.sl id (bs++putM k.toNat xs).length 0 (bs++putM k.toNat xs).length 1)) (H.set id ⟨.grow,true,ofBytes (bs++putM k.toNat xs)⟩)
 | _,_,_=>False
theorem aNh (n:Nat) (xs:List Int):aR n (aC xs)=true:=by
 induction xs with
 | nil=>rfl
 | cons x l ih=>simpa [aC,aR,old] using ih
theorem put_raw:aG Tryz.prog gl0 89 bJ8:=by
 refine jS (enters_of (by kernel_rfl)) aQ fun args H Q hc => ?_
 unfold bJ8 at hc
 split at hc
 ·rename_i k t l n
  obtain ⟨xs,⟨rfl,rfl,h1,h2,h3,h4⟩,hq⟩:=hc
  obtain ⟨k,rfl⟩:∃m:Nat,k=m:=⟨k.toNat,by omega⟩
  rw[Int.toNat_natCast] at hq
  obtain ⟨hv,hb',h⟩:=aTu k t xs ⟨by omega,by omega⟩ h4 (fun o H' _=>o=.ret (.sl 0 (k*xs.length) 0 (k*xs.length) 1)∧H'=[⟨.grow,true,ofBytes (putM k xs)⟩])
   (fun e=>by subst e;simp at h3) (fun _=>⟨rfl,rfl⟩)
  refine ⟨_,1000,id,[.nils,.int .i64 (k:Nat),.lst t (aC xs) xs.length 1],[],_, ?_,rfl,rfl,by simp[aR,old,aNh],by simp[bS,noY,(wC xs).1],Fr.nil _,h, ?_⟩
  ·exact ⟨dZ,dY,cZ,cB⟩
  ·rintro o H0' g' ⟨rfl,rfl⟩
   refine ⟨_,bA2 (aK 0 _) (iU _), ?_⟩
   have e1:(putM k xs).length=k*xs.length:=put_len k xs
   rw[e1] at hq
   exact hq
 ·rename_i id tot len k t l n
  obtain ⟨bs,xs,⟨h1,rfl,rfl,h3,rfl,rfl,h4,h5,h6⟩,hq⟩:=hc
  obtain ⟨k,rfl⟩:∃m:Nat,k=m:=⟨k.toNat,by omega⟩
  rw[Int.toNat_natCast] at hq
  obtain ⟨hv,hb',h⟩:=aUj k t xs bs ⟨by omega,by omega⟩ h6 h3 (fun o H' _=>o=.ret (.sl 0 (bs.length+k*xs.length) 0 (bs.length+k*xs.length) 1)∧H'=[⟨.grow,true,ofBytes (bs++putM k xs)⟩]) ⟨rfl,rfl⟩
  refine ⟨_,1000,fun _=>id,[.sl 0 bs.length 0 bs.length 1,.int .i64 (k:Nat),.lst t (aC xs) xs.length 1],[⟨.grow,true,ofBytes bs⟩],_, ?_,rfl,rfl,by simp[aR,old,aNh],by simp[bS,noY,(wC xs).1],bGd h1 (aK 0 _) (aK 1 _) (iU _),h, ?_⟩
  ·exact ⟨dZ,dY,cZ,cB⟩
  ·rintro o H0' g' ⟨rfl,rfl⟩
   refine ⟨_,aYe h1 (aK 0 _) (iU _), ?_⟩
   have e1:(bs++putM k xs).length=bs.length+k*xs.length:=by rw[List.length_append,put_len]
   rw[e1] at hq
   exact hq
 ·exact hc.elim
end Go.Proofs.YtnhechnaemmdiaaGreatDoor.Md
