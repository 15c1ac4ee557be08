/-
  Chapter 24: numbers put as octets, behind a slice of the caller's own.
-/
import Derived.Test.YtafchcmemeinlaaDoorC24XC
set_option linter.unusedSimpArgs false
set_option linter.unusedVariables false
namespace Go.Proofs.YtafchcmemeinlaaDoor
open Go.RowKit
set_option maxRecDepth 1000000

theorem sV {id:Nat} {H:List Blk} {cs:List AV} (h:H[id]? = some ⟨.grow,true,cs⟩) (h0:bB 0 cs=true) (h1:bB 1 cs=true) (hy:bQ cs=true):Fr (fun _=>id) [⟨.grow,true,cs⟩] H:=by
 refine ⟨fun j b0 hb => ?_,fun j j' b0 hb _ hj' _ => ?_,fun j b0 hb => ?_⟩
 ·cases j with
  | zero=>
   simp only[List.getElem?_cons_zero,Option.some.injEq] at hb
   subst hb
   refine ⟨?_,h1,hy,fun _=>h0,_,h,(bC _ cs h0 hy).symm,.inr rfl⟩
   exact (List.getElem?_eq_some_iff.1 h).1
  | succ j=>simp at hb
 ·cases j with
  | zero=>simp at hj';omega
  | succ j=>simp at hb
 ·cases j with
  | zero=>simp at hb;subst hb;exact fun h=>by cases h
  | succ j=>simp at hb
theorem lT {id:Nat} {H:List Blk} {cs cs':List AV} (h:H[id]? = some ⟨.grow,true,cs⟩) (h0:bB 0 cs'=true) (hy:bQ cs'=true):FrEnd (fun _=>id) [⟨.grow,true,cs⟩] [⟨.grow,true,cs'⟩] H (H.set id ⟨.grow,true,cs'⟩):=by
 have hl:id<H.length:=(List.getElem?_eq_some_iff.1 h).1
 refine ⟨by simp,fun j b0 hb hk => ?_,fun j b0 hb hk => ?_,fun j b0 hj hb => ?_,by simp,fun k hk hn => ?_,fun j b hb hk => ?_⟩
 ·cases j with
  | zero=>simp at hb;subst hb;cases hk
  | succ j=>simp at hb
 ·cases j with
  | zero=>simp at hb;subst hb;exact ⟨_,rfl,rfl⟩
  | succ j=>simp at hb
 ·cases j with
  | zero=>simp at hj
  | succ j=>simp at hb
 ·have:=hn 0 _ rfl (by simp)
  rw[List.getElem?_set_ne (by omega)]
 ·cases j with
  | zero=>
   simp only[List.getElem?_cons_zero,Option.some.injEq] at hb
   subst hb
   show (H.set id _)[id]? = some (aD1 _ _)
   rw[List.getElem?_set_self hl]
   simp only[aD1,bC _ cs' h0 hy]
  | succ j=>simp at hb
theorem bEq {H:List Blk} {cs':List AV} (h0:bB 0 cs'=true) (hy:bQ cs'=true):FrEnd id [] [⟨.grow,true,cs'⟩] H (H++[⟨.grow,true,cs'⟩]):=by
 refine ⟨by simp,fun j b0 hb hk=>by simp at hb,fun j b0 hb hk=>by simp at hb,fun j b0 hj hb => ?_,by simp,fun k hk hn => ?_,fun j b hb hk => ?_⟩
 ·cases j with
  | zero=>simp at hb;subst hb;simp
  | succ j=>simp at hb
 ·rw[List.getElem?_append_left hk]
 ·cases j with
  | zero=>
   simp only[List.getElem?_cons_zero,Option.some.injEq] at hb
   subst hb
   show (H++_)[sig id 0 H.length 0]? = _
   have:sig id 0 H.length 0=H.length:=by simp[sig]
   rw[this,List.getElem?_append_right (Nat.le_refl _),Nat.sub_self]
   simp only[List.getElem?_cons_zero,aD1,bC _ cs' h0 hy]
  | succ j=>simp at hb

theorem aI (l:List UInt8):(ofBytes l).length=l.length:=by simp[ofBytes]
theorem dI (a b:List UInt8):ofBytes a++ofBytes b=ofBytes (a++b):=by simp[ofBytes]
theorem bU (l:List UInt8):tO (ofBytes l)=true:=by
 induction l with
 | nil=>rfl
 | cons x l ih=>simpa [ofBytes,tO,one] using ih
theorem aN (n:Nat) (l:List UInt8):bB n (ofBytes l)=true:=by
 induction l with
 | nil=>rfl
 | cons x l ih=>simpa [ofBytes,bB,old] using ih
theorem bS (l:List UInt8):bQ (ofBytes l)=true:=by
 induction l with
 | nil=>rfl
 | cons x l ih=>simpa [ofBytes,bQ,noY] using ih
theorem xH (l:List UInt8):(ofBytes l).map toB=l:=by
 simp only[ofBytes,List.map_map]
 conv=>rhs;rw[←List.map_id l]
 congr 1
 funext x
 simp[toB]

def kV (n:Int) (i:Nat):UInt8:=UInt8.ofNat (n/256^i%256).toNat
def beM (n:Int):Nat→List UInt8
 | 0=>[]
 | k+1=>kV n k::beM n k
def aJ (k:Nat):List Int→List UInt8
 | []=>[]
 | n::l=>beM n k++aJ k l
theorem gG (n:Int):∀k,(beM n k).length=k
 | 0=>rfl
 | k+1=>by rw[beM,List.length_cons,gG n k]
theorem aQo (k:Nat) (a b:List Int):aJ k (a++b)=aJ k a++aJ k b:=by
 induction a with
 | nil=>rfl
 | cons x a ih=>rw[List.cons_append,aJ,ih,aJ,List.append_assoc]
theorem aH (k:Nat) (l:List Int):(aJ k l).length=k*l.length:=by
 induction l with
 | nil=>rfl
 | cons x l ih=>rw[aJ,List.length_append,gG,ih,List.length_cons,Nat.mul_succ];omega
theorem aBr (k:Nat) (l:List Int) {i:Nat} (hi:i<l.length):aJ k (l.take (i+1))=aJ k (l.take i)++beM (l.getD i 0) k:=by
 have e:l.take (i+1)=l.take i++[l.getD i 0]:=by
  rw[List.take_add_one,List.getD_eq_getElem?_getD,List.getElem?_eq_getElem hi];rfl
 rw[e,aQo,aJ,aJ,List.append_nil]
theorem yD (n:Int):∀ (k m:Nat),m<k→(beM n k).take (m+1)=(beM n k).take m++[kV n (k-1-m)]
 | 0,m,h=>by omega
 | k+1,0,h=>by simp[beM]
 | k+1,m+1,h=>by
  have ih:=yD n k m (by omega)
  have e:k+1-1-(m+1)=k-1-m:=by omega
  rw[beM,List.take_succ_cons,ih,List.take_succ_cons,List.cons_append,e]

def bDl (k:Nat) (t:Nat) (xs:List Int):LInv where
 α:=Nat
 pre i:=Lf (i=0)
 st i:=⟨mkT [(0,.nils),(1,.int .i64 (k:Nat)),(10,.lst t (aA xs) xs.length 1),(11,.int .i64 xs.length),(12,.int .i64 (i:Nat))],[]⟩
 mu i:=xs.length+1
def aQ9 (k:Nat) (t:Nat) (xs:List Int) (bs:List UInt8) (lo:Nat):LInv where
 α:=Nat
 pre i:=Lf (lo≤i∧i≤xs.length)
 st i:=⟨mkT [(0,.sl 0 (bs.length+k*i) 0 (bs.length+k*i) 1),(1,.int .i64 (k:Nat)),(10,.lst t (aA xs) xs.length 1),(11,.int .i64 xs.length),(12,.int .i64 (i:Nat))],[⟨.grow,true,ofBytes (bs++aJ k (xs.take i))⟩]⟩
 mu i:=xs.length-i
def aRb (k t:Nat) (xs:List Int) (s:S):List (List LInv):=match s.tm.get 0,s.tm.get 8,s.tm.get 12,s.hp with
 | .nils,.int _ n,.int _ i,[]=>[[{ α:=Nat,pre:=fun m=>Lf (m=0),st:=fun m=>⟨mkT [(0,.nils),(1,.int .i64 (k:Nat)),(8,.int .i64 n),(9,.int .i64 ((k:Int)-1-m)),(10,.lst t (aA xs) xs.length 1),(11,.int .i64 xs.length),(12,.int .i64 i)],[]⟩,mu:=fun m=>k+1 },
   { α:=Nat,pre:=fun m=>Lf (1≤m∧m≤k),st:=fun m=>⟨mkT [(0,.sl 0 m 0 m 1),(1,.int .i64 (k:Nat)),(8,.int .i64 n),(9,.int .i64 ((k:Int)-1-m)),(10,.lst t (aA xs) xs.length 1),(11,.int .i64 xs.length),(12,.int .i64 i)],[⟨.grow,true,ofBytes ((beM n k).take m)⟩]⟩,mu:=fun m=>k-m }]]
 | .sl _ tot _ _ _,.int _ n,.int _ i,[bl]=>[[{ α:=Nat,pre:=fun m=>Lf (m≤k),st:=fun m=>⟨mkT [(0,.sl 0 (tot+m) 0 (tot+m) 1),(1,.int .i64 (k:Nat)),(8,.int .i64 n),(9,.int .i64 ((k:Int)-1-m)),(10,.lst t (aA xs) xs.length 1),(11,.int .i64 xs.length),(12,.int .i64 i)],[⟨.grow,true,ofBytes (bl.cs.map toB++(beM n k).take m)⟩]⟩,mu:=fun m=>k-m }]]
 | _,_,_,_=>[]
noncomputable def aQy (hv:Nat→Option Pa) (hb:Nat→Option Bool) (k t:Nat) (xs:List Int):Env := { e24 sm0 (fun i=>bif Nat.beq i 67000 then some (fun _=>[[bDl k t xs,aQ9 k t xs [] 1]]) else bif Nat.beq i 67002 then some (aRb k t xs) else none) hv hb with hz:=fun k=>Nat.beq k 274460 }
noncomputable def aBg (hv:Nat→Option Pa) (hb:Nat→Option Bool) (k t:Nat) (xs:List Int) (Q:Out→List Blk→Gh→Prop):Prop:=
 bH (aQy hv hb k t xs) (wpx (aQy hv hb k t xs) 1000) 67 [.nils,.int .i64 (k:Nat),.lst t (aA xs) xs.length 1] [] {} Q
abbrev aX8 (k:Nat):AV:=.int .i64 (k:Int)
abbrev aMv (xs:List Int):AV:=.int .i64 (xs.length:Int)
abbrev bHm (t:Nat) (xs:List Int):Prop:=aK (AV.lst t (aA xs) xs.length 1)∧True
abbrev aMg (x_1:Nat) (xs:List Int):Prop:=Lf (1≤x_1∧x_1≤xs.length)
abbrev aIa (k x_4:Nat):Int:=(k:Int)-1-(x_4:Int)
abbrev aW1 (k:Nat) (xs:List Int) (n_3:Int) (x_4:Nat) (n_2:Int) (x_1 t:Nat):Prop:=aK (aX8 k)∧aK (aMv xs)∧AV.int .i64 n_3=AV.int .i64 (aIa k x_4)∧aK (AV.int .i64 n_2)∧aK (aX8 x_1)∧bHm t xs
abbrev aS4:Prop:=True∧(0:Nat)=(0:Nat)
abbrev bF5 (k:Nat) (xs:List Int) (n_6:Int) (y_7 t:Nat):Prop:=aK (AV.int .i64 (k:Int))∧aK (aMv xs)∧AV.int .i64 n_6=AV.int .i64 (y_7:Int)∧aK (AV.lst t (aA xs) xs.length 1)∧True
abbrev aLu (k y_7:Nat) (xs:List Int):List AV:=ofBytes ([]++aJ k (xs.take y_7))
abbrev bF1 (k x_1:Nat) (xs:List Int) (x_4:Nat) (n_2:Int):List AV:=ofBytes (List.map toB (aLu k x_1 xs)++(beM n_2 k).take x_4)
abbrev aW4 (k x_1 x_4:Nat):AV:=.sl 0 (0+k*x_1+x_4) 0 (0+k*x_1+x_4) 1
theorem bKu (k:Nat) (t:Nat) (xs:List Int) (Q:Out→List Blk→Gh→Prop):aBg (bG [(274443,.int .i64),(274447,.int .i64),(274449,.int .i64),(274450,.int .i64),(274456,.int .i64),(274457,.int .i64),(274458,
 .int .i64),(274459,.int .u8),(274452,.int .i64),(274453,.int .i64),(274462,.int .i64)]) (bF []) k t xs Q=(exI .i64 (xs.length:Int) (fun n_0=>((∃x_1:Nat,Lf (x_1=0)∧AV.nils=AV.nils∧aK (aX8 k)∧AV.int .i64 n_0
 = aMv xs∧AV.int .i64 0=aX8 x_1∧bHm t xs)∨∃x_1:Nat,aMg x_1 xs∧False)∧(∀x_1:Nat,Lf (x_1=0)→bif decide ((x_1:Int)<(xs.length:Int)) then ckQ (Nat.blt (x_1:Int).toNat xs.length&&true) (ckQ (Nat.blt ((x_1
 : Int).toNat*1) (aA xs).length) (exV .i64 ((aA xs).getD ((x_1:Int).toNat*1) AV.undef) (fun n_2=>exW .i64 ((k:Int)-1) (fun n_3=>((∃x_4:Nat,Lf (x_4=0)∧AV.nils=AV.nils∧aW1 k xs n_3 x_4 n_2 x_1 t)∨∃x_4 :
 Nat,Lf (1≤x_4∧x_4≤k)∧False)∧(∀x_4:Nat,Lf (x_4=0)→exI .i64 (aIa k x_4) (fun n_5=>bif decide (n_5≥0) then exI .i64 (aIa k x_4) (fun n_6=>exW .i64 (8*n_6) (fun n_7=>ckQ (decide (0≤n_7)&&true) (exI .i64
 (Int.fdiv n_2 ((2:Int)^Min.min n_7.toNat 64)) (fun n_8=>exW .u8 n_8 (fun n_9=>exI .i64 (aIa k x_4) (fun n_10=>exW .i64 (n_10-1) (fun n_11=>aS4∧((∃y_12:Nat,Lf (y_12=0)∧k+1<k+1∧False)∨∃y_12:Nat,Lf (1 ≤
 y_12∧y_12≤k)∧k-y_12<k+1∧[AV.int .u8 n_9]=ofBytes ((beM n_2 k).take y_12)∧AV.sl 0 1 0 1 1=AV.sl 0 y_12 0 y_12 1∧aW1 k xs n_11 y_12 n_2 x_1 t)))))))) else exW .i64 ((x_1:Int)+1) (fun n_6=>aS4∧((∃y_7:Nat,Lf
 (y_7=0)∧xs.length+1<xs.length+1∧AV.nils=AV.nils∧bF5 k xs n_6 y_7 t)∨∃y_7:Nat,aMg y_7 xs∧xs.length-y_7<xs.length+1∧False))))∧∀x_4:Nat,Lf (1≤x_4∧x_4≤k)→exI .i64 (aIa k x_4) (fun n_5=>bif
 decide (n_5≥0) then exI .i64 (aIa k x_4) (fun n_6=>exW .i64 (8*n_6) (fun n_7=>ckQ (decide (0≤n_7)&&true) (exI .i64 (Int.fdiv n_2 ((2:Int)^Min.min n_7.toNat 64)) (fun n_8=>exW .u8 n_8 (fun n_9=>ckQ (Nat.beq (ofBytes
 ((beM n_2 k).take x_4)).length x_4&&true&&Nat.beq (0+x_4*1) x_4&&Nat.ble (x_4+1) 1099511627776&&Nat.ble ((x_4+1)*1) 1099511627776) (exI .i64 (aIa k x_4) (fun n_10=>exW .i64 (n_10-1) (fun n_11=>aS4∧((∃y_12 :
 Nat,Lf (y_12=0)∧k+1<k-x_4∧False)∨∃y_12:Nat,Lf (1≤y_12∧y_12≤k)∧k-y_12<k-x_4∧ofBytes ((beM n_2 k).take x_4)++[AV.int .u8 n_9]=ofBytes ((beM n_2 k).take y_12)∧AV.sl 0 (x_4+1) 0 (x_4+1) 1=AV.sl 0
 y_12 0 y_12 1∧aW1 k xs n_11 y_12 n_2 x_1 t))))))))) else exW .i64 ((x_1:Int)+1) (fun n_6=>aS4∧((∃y_7:Nat,Lf (y_7=0)∧xs.length+1<xs.length+1∧False)∨∃y_7:Nat,aMg y_7 xs∧xs.length-y_7<xs.length+1 ∧
 ofBytes ((beM n_2 k).take x_4)=aLu k y_7 xs∧AV.sl 0 x_4 0 x_4 1=AV.sl 0 (0+k*y_7) 0 (0+k*y_7) 1∧bF5 k xs n_6 y_7 t))))))) else Q (.ret .nils) [] {})∧∀x_1:Nat,aMg x_1 xs→bif decide ((x_1:Int)<(xs.length :
 Int)) then ckQ (Nat.blt (x_1:Int).toNat xs.length&&true) (ckQ (Nat.blt ((x_1:Int).toNat*1) (aA xs).length) (exV .i64 ((aA xs).getD ((x_1:Int).toNat*1) AV.undef) (fun n_2=>exW .i64 ((k:Int)-1) (fun n_3=>(∃x_4 :
 Nat,Lf (x_4≤k)∧aLu k x_1 xs=bF1 k x_1 xs x_4 n_2∧AV.sl 0 (0+k*x_1) 0 (0+k*x_1) 1=aW4 k x_1 x_4∧aW1 k xs n_3 x_4 n_2 x_1 t)∧∀x_4:Nat,Lf (x_4≤k)→exI .i64 (aIa k x_4) (fun n_5=>bif decide (n_5≥0) then
 exI .i64 (aIa k x_4) (fun n_6=>exW .i64 (8*n_6) (fun n_7=>ckQ (decide (0≤n_7)&&true) (exI .i64 (Int.fdiv n_2 ((2:Int)^Min.min n_7.toNat 64)) (fun n_8=>exW .u8 n_8 (fun n_9=>ckQ (Nat.beq (bF1 k x_1 xs x_4 n_2).length (0
 + k*x_1+x_4)&&true&&Nat.beq (0+(0+k*x_1+x_4)*1) (0+k*x_1+x_4)&&Nat.ble (0+k*x_1+x_4+1) 1099511627776&&Nat.ble ((0+k*x_1+x_4+1)*1) 1099511627776) (exI .i64 (aIa k x_4) (fun n_10=>exW .i64
 (n_10-1) (fun n_11=>aS4∧∃y_12:Nat,Lf (y_12≤k)∧k-y_12<k-x_4∧bF1 k x_1 xs x_4 n_2++[AV.int .u8 n_9]=bF1 k x_1 xs y_12 n_2∧AV.sl 0 (0+k*x_1+x_4+1) 0 (0+k*x_1+x_4+1) 1=aW4 k x_1 y_12∧aW1 k
 xs n_11 y_12 n_2 x_1 t)))))))) else exW .i64 ((x_1:Int)+1) (fun n_6=>aS4∧((∃y_7:Nat,Lf (y_7=0)∧xs.length+1<xs.length-x_1∧False)∨∃y_7:Nat,aMg y_7 xs∧xs.length-y_7<xs.length-x_1∧bF1 k x_1 xs x_4
 n_2=aLu k y_7 xs∧aW4 k x_1 x_4=AV.sl 0 (0+k*y_7) 0 (0+k*y_7) 1∧bF5 k xs n_6 y_7 t))))))) else Q (.ret (.sl 0 (0+k*x_1) 0 (0+k*x_1) 1)) [Blk.mk BK.grow true (aLu k x_1 xs)] {})):=by kernel_rfl

noncomputable def aRo (hv:Nat→Option Pa) (hb:Nat→Option Bool) (k t:Nat) (xs:List Int) (bs:List UInt8):Env := { e24 sm0 (fun i=>bif Nat.beq i 67000 then some (fun _=>[[aQ9 k t xs bs 0]]) else bif Nat.beq i 67002 then some (aRb k t xs) else none) hv hb with hz:=fun k=>Nat.beq k 274460 }
noncomputable def aBn (hv:Nat→Option Pa) (hb:Nat→Option Bool) (k t:Nat) (xs:List Int) (bs:List UInt8) (Q:Out→List Blk→Gh→Prop):Prop:=
 bH (aRo hv hb k t xs bs) (wpx (aRo hv hb k t xs bs) 1000) 67 [.sl 0 bs.length 0 bs.length 1,.int .i64 (k:Nat),.lst t (aA xs) xs.length 1] [⟨.grow,true,ofBytes bs⟩] {} Q
abbrev bKy (bs:List UInt8) (k x_1:Nat) (xs:List Int):List AV:=ofBytes (bs++aJ k (xs.take x_1))
abbrev zC (bs:List UInt8) (k x_1:Nat):Nat:=bs.length+k*x_1
abbrev bFx (bs:List UInt8) (k x_1:Nat) (xs:List Int) (x_4:Nat) (n_2:Int):List AV:=ofBytes (List.map toB (ofBytes (bs++aJ k (xs.take x_1)))++(beM n_2 k).take x_4)
theorem bGs (k:Nat) (t:Nat) (xs:List Int) (bs:List UInt8) (Q:Out→List Blk→Gh→Prop):aBn (bG [(274443,.int .i64),(274447,.int .i64),(274449,.int .i64),(274450,.int .i64),(274456,.int .i64),(274457,.int
 .i64),(274458,.int .i64),(274459,.int .u8),(274452,.int .i64),(274453,.int .i64),(274462,.int .i64)]) (bF []) k t xs bs Q=(exI .i64 (xs.length:Int) (fun n_0=>(∃x_1:Nat,Lf (0≤x_1∧x_1≤xs.length)∧ofBytes bs =
 bKy bs k x_1 xs∧AV.sl 0 bs.length 0 bs.length 1=AV.sl 0 (zC bs k x_1) 0 (zC bs k x_1) 1∧aK (aX8 k)∧AV.int .i64 n_0=aMv xs∧AV.int .i64 0=aX8 x_1∧bHm t xs)∧∀x_1:Nat,Lf (0≤x_1∧x_1≤xs.length)→bif
 decide ((x_1:Int)<(xs.length:Int)) then ckQ (Nat.blt (x_1:Int).toNat xs.length&&true) (ckQ (Nat.blt ((x_1:Int).toNat*1) (aA xs).length) (exV .i64 ((aA xs).getD ((x_1:Int).toNat*1) AV.undef) (fun n_2=>exW .i64
 ((k:Int)-1) (fun n_3=>(∃x_4:Nat,Lf (x_4≤k)∧bKy bs k x_1 xs=bFx bs k x_1 xs x_4 n_2∧AV.sl 0 (zC bs k x_1) 0 (zC bs k x_1) 1=AV.sl 0 (zC bs k x_1+x_4) 0 (zC bs k x_1+x_4) 1∧aW1 k xs n_3 x_4 n_2 x_1 t)∧∀
 x_4:Nat,Lf (x_4≤k)→exI .i64 (aIa k x_4) (fun n_5=>bif decide (n_5≥0) then exI .i64 (aIa k x_4) (fun n_6=>exW .i64 (8*n_6) (fun n_7=>ckQ (decide (0≤n_7)&&true) (exI .i64 (Int.fdiv n_2 ((2:Int)^Min.min n_7.toNat
 64)) (fun n_8=>exW .u8 n_8 (fun n_9=>ckQ (Nat.beq (bFx bs k x_1 xs x_4 n_2).length (zC bs k x_1+x_4)&&true&&Nat.beq (0+(zC bs k x_1+x_4)*1) (zC bs k x_1+x_4)&&Nat.ble (zC bs k x_1+x_4+1) 1099511627776 &&
 Nat.ble ((zC bs k x_1+x_4+1)*1) 1099511627776) (exI .i64 (aIa k x_4) (fun n_10=>exW .i64 (n_10-1) (fun n_11=>aS4∧∃y_12:Nat,Lf (y_12≤k)∧k-y_12<k-x_4∧bFx bs k x_1 xs x_4 n_2++[AV.int .u8 n_9]=bFx bs k
 x_1 xs y_12 n_2∧AV.sl 0 (zC bs k x_1+x_4+1) 0 (zC bs k x_1+x_4+1) 1=AV.sl 0 (zC bs k x_1+y_12) 0 (zC bs k x_1+y_12) 1∧aW1 k xs n_11 y_12 n_2 x_1 t)))))))) else exW .i64 ((x_1:Int)+1) (fun n_6=>aS4∧∃y_7
 : Nat,Lf (0≤y_7∧y_7≤xs.length)∧xs.length-y_7<xs.length-x_1∧bFx bs k x_1 xs x_4 n_2=bKy bs k y_7 xs∧AV.sl 0 (zC bs k x_1+x_4) 0 (zC bs k x_1+x_4) 1=AV.sl 0 (zC bs k y_7) 0 (zC bs k y_7) 1∧bF5 k xs n_6
 y_7 t)))))) else Q (.ret (.sl 0 (zC bs k x_1) 0 (zC bs k x_1) 1)) [Blk.mk BK.grow true (bKy bs k x_1 xs)] {})):=by kernel_rfl

theorem bF9 (n:Int) (j:Nat) (hj:j≤7) (z:Int) (hz:z=8*(j:Int)):IntKind.wrap .u8 (Int.fdiv n (2^min (Int.toNat z) 64))=((kV n j).toNat:Int):=by
 subst hz
 have e1:min (Int.toNat (8*(j:Int))) 64=8*j:=by omega
 have e2:(2:Int)^(8*j)=256^j:=by rw[Int.pow_mul];rfl
 have e3:(0:Int)≤256^j:=Int.pow_nonneg (by decide)
 rw[e1,e2,Int.fdiv_eq_ediv_of_nonneg _ e3,IntKind.wrap_u8,kV]
 generalize n/256^j=x
 have h1:(0:Int)≤x%256:=Int.emod_nonneg _ (by decide)
 have h2:x%256<256:=Int.emod_lt_of_pos _ (by decide)
 rw[UInt8.toNat_ofNat']
 omega
theorem aBc (a:List UInt8) (x:UInt8):ofBytes a++[AV.int .u8 ((x.toNat:Nat):Int)]=ofBytes (a++[x]):=by simp[ofBytes]
theorem aWr (k t:Nat) (xs:List Int) (bs:List UInt8) (hk:1≤k∧k≤7) (hx:xs.length≤1000000) (hbs:bs.length≤1000000) (Q:Out→List Blk→Gh→Prop)
  (hq:Q (.ret (.sl 0 (bs.length+k*xs.length) 0 (bs.length+k*xs.length) 1)) [⟨.grow,true,ofBytes (bs++aJ k xs)⟩] {}):∃hv hb,aBn hv hb k t xs bs Q:=by
 obtain ⟨hv,hb',e⟩:∃hv hb,aBn hv hb k t xs bs Q=_:=⟨_,_,bGs k t xs bs Q⟩
 refine ⟨hv,hb',e.mpr ?_⟩
 delta bKy zC aX8 aMv bHm bFx aIa aW1 aS4 bF5
 clear e
 refine ⟨_,rfl,⟨0,⟨by omega,by omega⟩,by simp[aJ],by rw[Nat.mul_zero,Nat.add_zero],rfl,rfl,rfl,rfl,trivial⟩, ?_⟩
 rintro i ⟨hlo,hi⟩
 refine aD (fun hlt => ?_) (fun hge => ?_)
 ·have hlt':i<xs.length:=by omega
  have hki:k*i+k≤k*xs.length:=by rw[←Nat.mul_succ];exact Nat.mul_le_mul_left _ hlt'
  have hkx:k*xs.length≤7000000:=by
   have:=Nat.mul_le_mul hk.2 hx
   omega
  refine ckI (by simp;omega) (ckI (by simp[aB];omega) (kS (i:=i) hlt' (by simp) (aC (by omega) (by omega) ⟨⟨0,⟨Nat.zero_le _⟩,by rw[xH];simp,by rw[Nat.add_zero],rfl,rfl,by simp,rfl,rfl,rfl,trivial⟩, ?_⟩)))
  rintro m ⟨hm⟩
  rw[xH]
  refine ⟨_,rfl,aD (fun h0 => ?_) (fun h0 => ?_)⟩
  ·have hmk:m<k:=by omega
   have bt:=yD (xs.getD i 0) k m hmk
   have lt:=gG (xs.getD i 0) k
   refine ⟨_,rfl,aC (by omega) (by omega) (ckI (by rw[Bool.and_true];exact decide_eq_true (by omega)) ⟨_,rfl,((kV (xs.getD i 0) (k-1-m)).toNat:Int), ?_, ?_⟩)⟩
   ·rw[bF9 _ (k-1-m) (by omega) _ (by omega)]
   ·refine ckI ?_ ⟨_,rfl,aC (by omega) (by omega) ⟨⟨trivial,rfl⟩,m+1,⟨hmk⟩,by omega, ?_,rfl,rfl,rfl, ?_,rfl,rfl,rfl,trivial⟩⟩
    ·have e1:(ofBytes (bs++aJ k (xs.take i)++(beM (xs.getD i 0) k).take m)).length=bs.length+k*i+m:=by
      rw[aI,List.length_append,List.length_append,aH,List.length_take,List.length_take,lt,Nat.min_eq_left hi,Nat.min_eq_left (by omega)]
     rw[e1]
     simp
     omega
    ·rw[aBc,List.append_assoc,←bt]
    ·congr 1
     omega
  ·have hmk:m=k:=by omega
   subst hmk
   have lt:=gG (xs.getD i 0) m
   refine aC (by omega) (by omega) ⟨⟨trivial,rfl⟩,i+1,⟨by omega,hlt'⟩,by omega, ?_, ?_,rfl,rfl,rfl,rfl,trivial⟩
   ·rw[List.take_of_length_le (l:=beM (xs.getD i 0) m) (by omega),aBr _ _ hlt',List.append_assoc]
   ·rw[Nat.mul_succ,Nat.add_assoc]
 ·have hle:i=xs.length:=by omega
  subst hle
  rw[List.take_length]
  exact hq
theorem aV4 (k t:Nat) (xs:List Int) (hk:1≤k∧k≤7) (hx:xs.length≤1000000) (Q:Out→List Blk→Gh→Prop)
  (hq0:xs=[]→Q (.ret .nils) [] {}) (hq:1≤xs.length→Q (.ret (.sl 0 (k*xs.length) 0 (k*xs.length) 1)) [⟨.grow,true,ofBytes (aJ k xs)⟩] {}):∃hv hb,aBg hv hb k t xs Q:=by
 obtain ⟨hv,hb',e⟩:∃hv hb,aBg hv hb k t xs Q=_:=⟨_,_,bKu k t xs Q⟩
 refine ⟨hv,hb',e.mpr ?_⟩
 delta aX8 aMv bHm aMg aIa aW1 aS4 bF5 aLu bF1 aW4
 clear e
 refine ⟨_,rfl,.inl ⟨0,⟨rfl⟩,rfl,rfl,rfl,rfl,rfl,trivial⟩, ?_, ?_⟩
 ·rintro _ ⟨rfl⟩
  refine aD (fun hlt => ?_) (fun hge=>hq0 (List.length_eq_zero_iff.1 (by omega)))
  have hlt':0<xs.length:=by omega
  refine ckI (by simp;omega) (ckI (by simp[aB];omega) (kS (i:=0) hlt' (by simp) (aC (by omega) (by omega) ⟨.inl ⟨0,⟨rfl⟩,rfl,rfl,rfl,by simp,rfl,rfl,rfl,trivial⟩, ?_, ?_⟩)))
  ·rintro _ ⟨rfl⟩
   have bt:=yD (xs.getD 0 0) k 0 (by omega)
   refine ⟨_,rfl,aD (fun h0 => ?_) (fun h0=>by exfalso;omega)⟩
   refine ⟨_,rfl,aC (by omega) (by omega) (ckI (by rw[Bool.and_true];exact decide_eq_true (by omega)) ⟨_,rfl,((kV (xs.getD 0 0) (k-1-0)).toNat:Int), ?_, ?_⟩)⟩
   ·rw[bF9 _ (k-1-0) (by omega) _ (by omega)]
   ·refine ⟨_,rfl,aC (by omega) (by omega) ⟨⟨trivial,rfl⟩,.inr ⟨1,⟨by omega,by omega⟩,by omega, ?_,rfl,rfl,rfl, ?_,rfl,rfl,rfl,trivial⟩⟩⟩
    ·rw[bt]
     simp[ofBytes]
    ·congr 1
     omega
  ·rintro m ⟨hm1,hm⟩
   refine ⟨_,rfl,aD (fun h0 => ?_) (fun h0 => ?_)⟩
   ·have hmk:m<k:=by omega
    have bt:=yD (xs.getD 0 0) k m hmk
    have lt:=gG (xs.getD 0 0) k
    refine ⟨_,rfl,aC (by omega) (by omega) (ckI (by rw[Bool.and_true];exact decide_eq_true (by omega)) ⟨_,rfl,((kV (xs.getD 0 0) (k-1-m)).toNat:Int), ?_, ?_⟩)⟩
    ·rw[bF9 _ (k-1-m) (by omega) _ (by omega)]
    ·refine ckI ?_ ⟨_,rfl,aC (by omega) (by omega) ⟨⟨trivial,rfl⟩,.inr ⟨m+1,⟨by omega,hmk⟩,by omega, ?_,rfl,rfl,rfl, ?_,rfl,rfl,rfl,trivial⟩⟩⟩
     ·rw[aI,List.length_take,lt,Nat.min_eq_left (by omega)]
      simp
      omega
     ·rw[aBc,←bt]
     ·congr 1
      omega
   ·have hmk:m=k:=by omega
    subst hmk
    have lt:=gG (xs.getD 0 0) m
    refine aC (by omega) (by omega) ⟨⟨trivial,rfl⟩,.inr ⟨1,⟨by omega,hlt'⟩,by omega, ?_, ?_,rfl,rfl,rfl,rfl,trivial⟩⟩
    ·rw[List.take_of_length_le (l:=beM (xs.getD 0 0) m) (by omega),aBr _ _ hlt']
     simp[aJ]
    ·simp
 ·rintro i ⟨hlo,hi⟩
  refine aD (fun hlt => ?_) (fun hge => ?_)
  ·have hlt':i<xs.length:=by omega
   have hki:k*i+k≤k*xs.length:=by rw[←Nat.mul_succ];exact Nat.mul_le_mul_left _ hlt'
   have hkx:k*xs.length≤7000000:=by
    have:=Nat.mul_le_mul hk.2 hx
    omega
   refine ckI (by simp;omega) (ckI (by simp[aB];omega) (kS (i:=i) hlt' (by simp) (aC (by omega) (by omega) ⟨⟨0,⟨Nat.zero_le _⟩,by rw[xH];simp,by rw[Nat.add_zero],rfl,rfl,by simp,rfl,rfl,rfl,trivial⟩, ?_⟩)))
   rintro m ⟨hm⟩
   rw[xH]
   refine ⟨_,rfl,aD (fun h0 => ?_) (fun h0 => ?_)⟩
   ·have hmk:m<k:=by omega
    have bt:=yD (xs.getD i 0) k m hmk
    have lt:=gG (xs.getD i 0) k
    refine ⟨_,rfl,aC (by omega) (by omega) (ckI (by rw[Bool.and_true];exact decide_eq_true (by omega)) ⟨_,rfl,((kV (xs.getD i 0) (k-1-m)).toNat:Int), ?_, ?_⟩)⟩
    ·rw[bF9 _ (k-1-m) (by omega) _ (by omega)]
    ·refine ckI ?_ ⟨_,rfl,aC (by omega) (by omega) ⟨⟨trivial,rfl⟩,m+1,⟨hmk⟩,by omega, ?_,rfl,rfl,rfl, ?_,rfl,rfl,rfl,trivial⟩⟩
     ·have e1:(ofBytes ([]++aJ k (xs.take i)++(beM (xs.getD i 0) k).take m)).length=k*i+m:=by
       rw[aI,List.length_append,List.length_append,aH,List.length_take,List.length_take,lt,Nat.min_eq_left hi,Nat.min_eq_left (by omega)]
       simp
      rw[e1]
      simp
      omega
     ·rw[aBc,List.append_assoc,←bt]
     ·congr 1
      omega
   ·have hmk:m=k:=by omega
    subst hmk
    have lt:=gG (xs.getD i 0) m
    refine aC (by omega) (by omega) ⟨⟨trivial,rfl⟩,.inr ⟨i+1,⟨by omega,hlt'⟩,by omega, ?_, ?_,rfl,rfl,rfl,rfl,trivial⟩⟩
    ·rw[List.take_of_length_le (l:=beM (xs.getD i 0) m) (by omega),aBr _ _ hlt',List.append_assoc]
    ·rw[Nat.mul_succ,Nat.add_assoc]
  ·have hle:i=xs.length:=by omega
   subst hle
   have hh:=hq hlo
   rw[List.take_length]
   simpa using hh
def bM9:Con
 | [.nils,.int .i64 k,.lst t l n 1],H,K=>∃xs:List Int,Lf (l=aA xs∧n=xs.length∧1≤k∧k≤7∧1≤xs.length∧xs.length≤1000000)∧K (.ret (.sl H.length (aJ k.toNat xs).length 0 (aJ k.toNat xs).length 1)) (H++[⟨.grow,true,ofBytes (aJ k.toNat xs)⟩])
 | [.sl id tot 0 len 1,.int .i64 k,.lst t l n 1],H,K=>∃ (bs:List UInt8) (xs:List Int),Lf (H[id]? = some ⟨.grow,true,ofBytes bs⟩∧tot=bs.length∧len=bs.length∧bs.length≤1000000∧l=aA xs∧n=xs.length∧1≤k∧k≤7∧xs.length≤1000000)∧K (.ret (.sl id (bs++aJ k.toNat xs).length 0 (bs++aJ k.toNat xs).length 1)) (H.set id ⟨.grow,true,ofBytes (bs++aJ k.toNat xs)⟩)
 | _,_,_=>False
theorem rD (n:Nat) (xs:List Int):bB n (aA xs)=true:=by
 induction xs with
 | nil=>rfl
 | cons x l ih=>simpa [aA,bB,old] using ih
theorem put_raw:aO Tryd.prog glC 67 bM9:=by
 refine iF (enters_of (by kernel_rfl)) aV fun args H Q hc => ?_
 unfold bM9 at hc
 split at hc
 ·rename_i k t l n
  obtain ⟨xs,⟨rfl,rfl,h1,h2,h3,h4⟩,hq⟩:=hc
  obtain ⟨k,rfl⟩:∃m:Nat,k=m:=⟨k.toNat,by omega⟩
  rw[Int.toNat_natCast] at hq
  obtain ⟨hv,hb',h⟩:=aV4 k t xs ⟨by omega,by omega⟩ h4 (fun o H' _=>o=.ret (.sl 0 (k*xs.length) 0 (k*xs.length) 1)∧H'=[⟨.grow,true,ofBytes (aJ k xs)⟩])
   (fun e=>by subst e;simp at h3) (fun _=>⟨rfl,rfl⟩)
  refine ⟨_,1000,id,[.nils,.int .i64 (k:Nat),.lst t (aA xs) xs.length 1],[],_, ?_,rfl,rfl,by simp[bB,old,rD],by simp[bQ,noY,(gI xs).1],Fr.nil _,h, ?_⟩
  ·exact ⟨dX,eB,eF,fB⟩
  ·rintro o H0' g' ⟨rfl,rfl⟩
   refine ⟨_,bEq (aN 0 _) (bS _), ?_⟩
   have e1:(aJ k xs).length=k*xs.length:=aH k xs
   rw[e1] at hq
   exact hq
 ·rename_i id tot len k t l n
  obtain ⟨bs,xs,⟨h1,rfl,rfl,h3,rfl,rfl,h4,h5,h6⟩,hq⟩:=hc
  obtain ⟨k,rfl⟩:∃m:Nat,k=m:=⟨k.toNat,by omega⟩
  rw[Int.toNat_natCast] at hq
  obtain ⟨hv,hb',h⟩:=aWr k t xs bs ⟨by omega,by omega⟩ h6 h3 (fun o H' _=>o=.ret (.sl 0 (bs.length+k*xs.length) 0 (bs.length+k*xs.length) 1)∧H'=[⟨.grow,true,ofBytes (bs++aJ k xs)⟩]) ⟨rfl,rfl⟩
  refine ⟨_,1000,fun _=>id,[.sl 0 bs.length 0 bs.length 1,.int .i64 (k:Nat),.lst t (aA xs) xs.length 1],[⟨.grow,true,ofBytes bs⟩],_, ?_,rfl,rfl,by simp[bB,old,rD],by simp[bQ,noY,(gI xs).1],sV h1 (aN 0 _) (aN 1 _) (bS _),h, ?_⟩
  ·exact ⟨dX,eB,eF,fB⟩
  ·rintro o H0' g' ⟨rfl,rfl⟩
   refine ⟨_,lT h1 (aN 0 _) (bS _), ?_⟩
   have e1:(bs++aJ k xs).length=bs.length+k*xs.length:=by rw[List.length_append,aH]
   rw[e1] at hq
   exact hq
 ·exact hc.elim
end Go.Proofs.YtafchcmemeinlaaDoor

set_option linter.unusedSimpArgs false
set_option linter.unusedVariables false
set_option linter.unusedSectionVars false
namespace Go.Proofs.YtafchcmemeinlaaDoor
open Go.RowKit
set_option maxRecDepth 1000000

noncomputable def sJ (hv:Nat→Option Pa) (hb:Nat→Option Bool):Env := { e24 sm0 (fun i=>none) hv hb with hz:=fun k=>Nat.beq k 274460 }
noncomputable def aB9 (hv:Nat→Option Pa) (hb:Nat→Option Bool) (bs:List UInt8) (x:Int) (Q:Out→List Blk→Gh→Prop):Prop:=
 bH (sJ hv hb) (wpx (sJ hv hb) 1000) 67 [.sl 0 bs.length 0 bs.length 1,.int .i64 2,.sl 1 1 0 1 1] [⟨.grow,true,ofBytes bs⟩,⟨.ro,true,[.int .i64 x]⟩] {} Q
abbrev bLx (bs:List UInt8):Bool:=Nat.beq (ofBytes bs).length bs.length&&true&&Nat.beq (0+bs.length*1) bs.length&&Nat.ble (bs.length+1) 1099511627776&&Nat.ble ((bs.length+1)*1) 1099511627776
abbrev bMq (bs:List UInt8) (n_1:Int):Bool:=Nat.beq (ofBytes bs++[AV.int .u8 n_1]).length (bs.length+1)&&true&&Nat.beq (0+(bs.length+1)*1) (bs.length+1)&&Nat.ble (bs.length+1+1) 1099511627776&&Nat.ble ((bs.length+1+1)*1) 1099511627776
abbrev aF0 (bs:List UInt8):Nat:=bs.length+1+1
abbrev bFv (bs:List UInt8) (n_1 n_3:Int):List AV:=ofBytes bs++[AV.int .u8 n_1]++[AV.int .u8 n_3]
theorem bHf (bs:List UInt8) (x:Int) (Q:Out→List Blk→Gh→Prop):aB9 (bG [(274458,.int .i64),(274459,.int .u8)]) (bF []) bs x Q=(exI .i64 (Int.fdiv x 256) (fun n_0=>exW .u8 n_0 (fun n_1=>ckQ (bLx bs) (exI .i64 (Int.fdiv x 1) (fun n_2=>exW .u8 n_2 (fun n_3=>ckQ (bMq bs n_1) (Q (.ret (.sl 0 (aF0 bs) 0 (aF0 bs) 1)) [Blk.mk BK.grow true (bFv bs n_1 n_3),Blk.mk BK.ro true [.int .i64 x]] {}))))))):=by kernel_rfl

noncomputable def aBw (hv:Nat→Option Pa) (hb:Nat→Option Bool) (bs:List UInt8) (x y:Int) (Q:Out→List Blk→Gh→Prop):Prop:=
 bH (sJ hv hb) (wpx (sJ hv hb) 1000) 67 [.sl 0 bs.length 0 bs.length 1,.int .i64 2,.sl 1 2 0 2 1] [⟨.grow,true,ofBytes bs⟩,⟨.ro,true,[.int .i64 x,.int .i64 y]⟩] {} Q
theorem bK0 (bs:List UInt8) (x:Int) (y:Int) (Q:Out→List Blk→Gh→Prop):aBw (bG [(274458,.int .i64),(274459,.int .u8)]) (bF []) bs x y Q=(exI .i64 (Int.fdiv x 256) (fun n_0=>exW .u8 n_0 (fun n_1=>ckQ (bLx bs) (exI .i64 (Int.fdiv x 1) (fun n_2=>exW .u8 n_2 (fun n_3=>ckQ (bMq bs n_1) (exI .i64 (Int.fdiv y 256) (fun n_4=>exW .u8 n_4 (fun n_5=>ckQ (Nat.beq (bFv bs n_1 n_3).length (aF0 bs)&&true&&Nat.beq (0+aF0 bs*1) (aF0 bs)&&Nat.ble (aF0 bs+1) 1099511627776&&Nat.ble ((aF0 bs+1)*1) 1099511627776) (exI .i64 (Int.fdiv y 1) (fun n_6=>exW .u8 n_6 (fun n_7=>ckQ (Nat.beq (bFv bs n_1 n_3++[AV.int .u8 n_5]).length (aF0 bs+1)&&true&&Nat.beq (0+(aF0 bs+1)*1) (aF0 bs+1)&&Nat.ble (aF0 bs+1+1) 1099511627776&&Nat.ble ((aF0 bs+1+1)*1) 1099511627776) (Q (.ret (.sl 0 (aF0 bs+1+1) 0 (aF0 bs+1+1) 1)) [Blk.mk BK.grow true (bFv bs n_1 n_3++[AV.int .u8 n_5]++[AV.int .u8 n_7]),Blk.mk BK.ro true [.int .i64 x,.int .i64 y]] {}))))))))))))):=by kernel_rfl

theorem bEk (x:Int):IntKind.wrap .u8 (x.fdiv 256)=((kV x 1).toNat:Int):=bF9 x 1 (by omega) 8 rfl
theorem bCm (x:Int):IntKind.wrap .u8 (x.fdiv 1)=((kV x 0).toNat:Int):=bF9 x 0 (by omega) 0 rfl
theorem bGg {x:Int} {j:Nat} {q:Int} (h:IntKind.wrap .u8 (x.fdiv q)=((kV x j).toNat:Int)) {K:Int→Prop} (hk:K ((kV x j).toNat:Int)):∃n,AV.int .i64 (x.fdiv q)=AV.int .i64 n∧∃n1,AV.int .u8 (IntKind.wrap .u8 n)=AV.int .u8 n1∧K n1:=⟨_,rfl,_,by rw[h],hk⟩
theorem bIj (bs:List UInt8) (x:Int) (hbs:bs.length≤1000000) (Q:Out→List Blk→Gh→Prop) (hq:Q (.ret (.sl 0 (bs++aJ 2 [x]).length 0 (bs++aJ 2 [x]).length 1)) [⟨.grow,true,ofBytes (bs++aJ 2 [x])⟩,⟨.ro,true,[.int .i64 x]⟩] {}):∃hv hb,aB9 hv hb bs x Q:=by
 obtain ⟨hv,hb',e⟩:∃hv hb,aB9 hv hb bs x Q=_:=⟨_,_,bHf bs x Q⟩
 refine ⟨hv,hb',e.mpr ?_⟩
 delta bLx bMq aF0 bFv
 clear e
 refine bGg (bEk x) (ckI (by simp[aI];omega) (bGg (bCm x) (ckI (by simp[aI];omega) ?_)))
 have e1:ofBytes bs++[AV.int .u8 (((kV x 1).toNat:Nat):Int)]++[AV.int .u8 (((kV x 0).toNat:Nat):Int)]=ofBytes (bs++aJ 2 [x]):=by simp[aJ,beM,ofBytes]
 rw[e1]
 have e2:(bs++aJ 2 [x]).length=bs.length+1+1:=by simp[aJ,beM]
 rw[e2] at hq
 exact hq
theorem bJj (bs:List UInt8) (x y:Int) (hbs:bs.length≤1000000) (Q:Out→List Blk→Gh→Prop) (hq:Q (.ret (.sl 0 (bs++aJ 2 [x,y]).length 0 (bs++aJ 2 [x,y]).length 1)) [⟨.grow,true,ofBytes (bs++aJ 2 [x,y])⟩,⟨.ro,true,[.int .i64 x,.int .i64 y]⟩] {}):∃hv hb,aBw hv hb bs x y Q:=by
 obtain ⟨hv,hb',e⟩:∃hv hb,aBw hv hb bs x y Q=_:=⟨_,_,bK0 bs x y Q⟩
 refine ⟨hv,hb',e.mpr ?_⟩
 delta bLx bMq bFv aF0
 clear e
 refine bGg (bEk x) (ckI (by simp[aI];omega) (bGg (bCm x) (ckI (by simp[aI];omega) (bGg (bEk y) (ckI (by simp[aI];omega) (bGg (bCm y) (ckI (by simp[aI];omega) ?_)))))))
 have e1:ofBytes bs++[AV.int .u8 (((kV x 1).toNat:Nat):Int)]++[AV.int .u8 (((kV x 0).toNat:Nat):Int)]++[AV.int .u8 (((kV y 1).toNat:Nat):Int)]++[AV.int .u8 (((kV y 0).toNat:Nat):Int)]=ofBytes (bs++aJ 2 [x,y]):=by simp[aJ,beM,ofBytes]
 rw[e1]
 have e2:(bs++aJ 2 [x,y]).length=bs.length+1+1+1+1:=by simp[aJ,beM]
 rw[e2] at hq
 exact hq
theorem bJ9 {id id2:Nat} {k:BK} {lf:Bool} {H:List Blk} {bs:List UInt8} {xs:List Int} (h:H[id]? = some ⟨.grow,true,ofBytes bs⟩) (h2:H[id2]? = some ⟨k,lf,aA xs⟩) (hne:id≠id2):Fr (fun j=>if j=0 then id else id2) [⟨.grow,true,ofBytes bs⟩,⟨.ro,true,aA xs⟩] H:=by
 refine ⟨fun j b0 hb => ?_,fun j j' b0 hb hk hj' he => ?_,fun j b0 hb => ?_⟩
 ·match j with
  | 0=>
   simp only[List.getElem?_cons_zero,Option.some.injEq] at hb
   subst hb
   exact ⟨(List.getElem?_eq_some_iff.1 h).1,aN _ _,bS _,fun _=>aN _ _,_,h,(bC _ _ (aN _ _) (bS _)).symm,.inr rfl⟩
  | 1=>
   simp only[List.getElem?_cons_succ,List.getElem?_cons_zero,Option.some.injEq] at hb
   subst hb
   exact ⟨(List.getElem?_eq_some_iff.1 h2).1,rD _ _,(gI _).1,fun _=>rD _ _,_,h2,(bC _ _ (rD _ _) (gI _).1).symm,.inl rfl⟩
  | j+2=>simp at hb
 ·match j,j' with
  | 0,0=>rfl
  | 1,_=>simp at hb;subst hb;simp at hk
  | 0,1=>exact absurd (by simpa using he) hne
  | j+2,_=>simp at hb
  | 0,j'+2=>simp at hj';omega
 ·match j with
  | 0=>simp at hb;subst hb;exact fun h=>by cases h
  | 1=>
   simp only[List.getElem?_cons_succ,List.getElem?_cons_zero,Option.some.injEq] at hb
   subst hb
   intro _ c hc
   cases xs with
   | nil=>cases hc
   | cons x xs=>cases hc
  | j+2=>simp at hb
theorem aYf {id id2:Nat} {H:List Blk} {bs bs':List UInt8} {xs:List Int} (h:H[id]? = some ⟨.grow,true,ofBytes bs⟩):FrEnd (fun j=>if j=0 then id else id2) [⟨.grow,true,ofBytes bs⟩,⟨.ro,true,aA xs⟩] [⟨.grow,true,ofBytes bs'⟩,⟨.ro,true,aA xs⟩] H (H.set id ⟨.grow,true,ofBytes bs'⟩):=by
 have hl:id<H.length:=(List.getElem?_eq_some_iff.1 h).1
 refine ⟨by simp,fun j b0 hb hk => ?_,fun j b0 hb hk => ?_,fun j b0 hj hb => ?_,by simp,fun k hk hn => ?_,fun j b hb hk => ?_⟩
 ·match j with
  | 0=>simp at hb;subst hb;cases hk
  | 1=>simp at hb;subst hb;exact ⟨_,rfl,rfl,rfl⟩
  | j+2=>simp at hb
 ·match j with
  | 0=>simp at hb;subst hb;exact ⟨_,rfl,rfl⟩
  | 1=>simp at hb;subst hb;simp at hk
  | j+2=>simp at hb
 ·match j with
  | 0=>simp at hj
  | 1=>simp at hj
  | j+2=>simp at hb
 ·have:=hn 0 _ rfl (by simp)
  simp only[if_true] at this
  rw[List.getElem?_set_ne this]
 ·match j with
  | 0=>
   simp only[List.getElem?_cons_zero,Option.some.injEq] at hb
   subst hb
   show (H.set id _)[id]? = some (aD1 _ _)
   rw[List.getElem?_set_self hl]
   simp only[aD1,bC _ _ (aN 0 _) (bS _)]
  | 1=>simp at hb;subst hb;simp at hk
  | j+2=>simp at hb
def bCj:Con
 | [.sl id tot 0 len 1,.int .i64 2,.sl id2 tot2 0 n 1],H,K=>∃ (bs:List UInt8) (xs:List Int) (k2:BK) (lf:Bool),Lf (H[id]? = some ⟨.grow,true,ofBytes bs⟩∧tot=bs.length∧len=bs.length∧bs.length≤1000000∧H[id2]? = some ⟨k2,lf,aA xs⟩∧id≠id2∧tot2=xs.length∧n=xs.length∧(n=1∨n=2))∧K (.ret (.sl id (bs++aJ 2 xs).length 0 (bs++aJ 2 xs).length 1)) (H.set id ⟨.grow,true,ofBytes (bs++aJ 2 xs)⟩)
 | _,_,_=>False
theorem putR_ok:aO Tryd.prog glC 67 bCj:=by
 refine iF (enters_of (by kernel_rfl)) aV fun args H Q hc => ?_
 unfold bCj at hc
 split at hc
 ·rename_i id tot len id2 tot2 n
  obtain ⟨bs,xs,k2,lf,⟨h1,rfl,rfl,h3,h4,hne,rfl,rfl,hn⟩,hq⟩:=hc
  match xs,hn with
  | [x],_=>
   obtain ⟨hv,hb',h⟩:=bIj bs x h3 (fun o H' _=>o=.ret (.sl 0 (bs++aJ 2 [x]).length 0 (bs++aJ 2 [x]).length 1)∧H'=[⟨.grow,true,ofBytes (bs++aJ 2 [x])⟩,⟨.ro,true,aA [x]⟩]) ⟨rfl,rfl⟩
   refine ⟨_,1000,fun j=>if j=0 then id else id2,[.sl 0 bs.length 0 bs.length 1,.int .i64 2,.sl 1 1 0 1 1],[⟨.grow,true,ofBytes bs⟩,⟨.ro,true,aA [x]⟩],_,(⟨dX,eB,eF,fB⟩:EnvFor Tryd.prog (sJ hv hb')),rfl,rfl,rfl,rfl,bJ9 h1 h4 hne,h, ?_⟩
   rintro o H0' g' ⟨rfl,rfl⟩
   exact ⟨_,aYf h1,hq⟩
  | [x,y],_=>
   obtain ⟨hv,hb',h⟩:=bJj bs x y h3 (fun o H' _=>o=.ret (.sl 0 (bs++aJ 2 [x,y]).length 0 (bs++aJ 2 [x,y]).length 1)∧H'=[⟨.grow,true,ofBytes (bs++aJ 2 [x,y])⟩,⟨.ro,true,aA [x,y]⟩]) ⟨rfl,rfl⟩
   refine ⟨_,1000,fun j=>if j=0 then id else id2,[.sl 0 bs.length 0 bs.length 1,.int .i64 2,.sl 1 2 0 2 1],[⟨.grow,true,ofBytes bs⟩,⟨.ro,true,aA [x,y]⟩],_,(⟨dX,eB,eF,fB⟩:EnvFor Tryd.prog (sJ hv hb')),rfl,rfl,rfl,rfl,bJ9 h1 h4 hne,h, ?_⟩
   rintro o H0' g' ⟨rfl,rfl⟩
   exact ⟨_,aYf h1,hq⟩
  | [],hn=>simp at hn
  | _::_::_::_,hn=>simp at hn
 ·exact hc.elim
def aNx:Con
 | [a,b,.lst t l n z],H,K=>bM9 [a,b,.lst t l n z] H K
 | [a,b,.sl i t o n z],H,K=>bCj [a,b,.sl i t o n z] H K
 | _,_,_=>False
theorem aQ2:aO Tryd.prog glC 67 aNx:=by
 refine ⟨put_raw.1,fun args H Q hc => ?_⟩
 unfold aNx at hc
 split at hc
 ·exact put_raw.2 _ _ _ hc
 ·exact putR_ok.2 _ _ _ hc
 ·exact hc.elim
end Go.Proofs.YtafchcmemeinlaaDoor
