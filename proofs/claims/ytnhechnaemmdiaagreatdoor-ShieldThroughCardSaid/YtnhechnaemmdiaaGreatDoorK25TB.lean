/-
  Chapter 25: whether an index is old.
-/
import Derived.Test.YtnhechnaemmdiaaGreatDoorK25NA
import Derived.Test.YtnhechnaemmdiaaGreatDoorKnQ
set_option linter.unusedSimpArgs false
set_option linter.unusedVariables false
set_option linter.unusedSectionVars false
namespace Go.Proofs.YtnhechnaemmdiaaGreatDoor
open Go.RowKit
set_option maxRecDepth 1000000

noncomputable def aEq (hv:Nat→Option Pa) (hb:Nat→Option Bool) (s top:Int) (seen:Nat) (z:Int) (Q:Out→List Blk→Gh→Prop):Prop:=
 aY (e04 sm0 (fun _=>none) hv hb) (wpx (e04 sm0 (fun _=>none) hv hb) 1000) 81 [.ptr 0 3 0,.int .i64 z] [⟨.ro,true,[.int .i64 s,.int .i64 top,.int .u64 (seen:Nat)]⟩] {} Q
theorem bKb (s:Int) (top:Int) (seen:Nat) (z:Int) (Q:Out→List Blk→Gh→Prop):aEq (bD [(331788,.int .i64),(331807,.int .u64),(331809,.int .u64),(331810,.int .u64)]) (bE []) s top seen z Q=(exW .i64 (top -
 z) fun n_0=>bif decide (top≥0) then bif decide (n_0≥0) then bif decide (n_0>63) then Q (.ret (.bool true)) [Blk.mk BK.ro true [.int .i64 s,.int .i64 top,.int .u64 (seen:Int)]] {} else exI .u64 (seen:Int) fun n_1=>ckQ
 (decide (0≤n_0)&&true) (exI .u64 (Int.fdiv n_1 ((2:Int)^Min.min n_0.toNat 64)) fun n_2=>exW .u64 (((n_2%18446744073709551616).toNat &&& 1:Nat):Int) fun n_3=>bif n_3==1 then Q (.ret (.bool true)) [Blk.mk BK.ro true [.int
 .i64 s,.int .i64 top,.int .u64 (seen:Int)]] {} else Q (.ret (.bool false)) [Blk.mk BK.ro true [.int .i64 s,.int .i64 top,.int .u64 (seen:Int)]] {}) else Q (.ret (.bool false)) [Blk.mk BK.ro true [.int .i64 s,.int .i64 top,.int
 .u64 (seen:Int)]] {} else Q (.ret (.bool false)) [Blk.mk BK.ro true [.int .i64 s,.int .i64 top,.int .u64 (seen:Int)]] {}):=by kernel_rfl

def fH (top z:Int) (seen:Nat):Bool:=decide (0≤top∧z≤top∧(63<top-z∨seen/2^(top-z).toNat%2=1))
theorem aMc (s top:Int) (seen:Nat) (z:Int) (ht : -1≤top∧top≤562949953421312) (hz:0≤z∧z≤562949953421312) (hs:seen<18446744073709551616) (Q:Out→List Blk→Gh→Prop) (hq:∀H,Q (.ret (.bool (fH top z seen))) H {}):∃hv hb,aEq hv hb s top seen z Q:=by
 obtain ⟨hv,hb',e⟩:∃hv hb,aEq hv hb s top seen z Q=_:=⟨_,_,bKb s top seen z Q⟩
 refine ⟨hv,hb',e.mpr ?_⟩
 clear e
 refine aI (by omega) (by omega) (aD (fun h1=>aD (fun h2=>aD (fun h3 => ?_) (fun h3 => ?_)) (fun h2 => ?_)) (fun h1 => ?_))
 ·have e:fH top z seen=true:=bO4 ⟨by omega,by omega,.inl (by omega)⟩
  rw[e] at hq;exact hq _
 ·obtain ⟨n,hn⟩:∃n:Nat,top-z=n:=⟨(top-z).toNat,by omega⟩
  refine ⟨_,rfl,ckI (by simp;omega) ⟨_,rfl, ?_⟩⟩
  rw[hn,show Min.min (Int.toNat (n:Int)) 64=n by omega,bLk]
  have hd:seen/2^n≤seen:=bTa _ _
  have hb:fH top z seen=decide (seen/2^n%2=1):=by
   unfold fH
   rw[hn,bOa]
   refine decide_eq_decide.2 ⟨fun h => ?_,fun h=>⟨by omega,by omega,.inr h⟩⟩
   rcases h.2.2 with h | h
   ·omega
   ·exact h
  rw[hb] at hq
  generalize seen/2^n=q at *
  refine ⟨((q%2:Nat):Int), ?_, ?_⟩
  ·rw[show Int.toNat ((q:Int)%18446744073709551616)=q by omega,bTg,show IntKind.wrap .u64 ((q%2:Nat):Int)=((q%2:Nat):Int)%18446744073709551616 from rfl,show ((q%2:Nat):Int)%18446744073709551616=((q%2:Nat):Int) by omega]
  ·refine aS (fun h => ?_) (fun h => ?_)
   ·rw[bO4 (by omega)] at hq;exact hq _
   ·rw[bO0 (by omega)] at hq;exact hq _
 ·have e:fH top z seen=false:=bO0 (by rintro ⟨h,h',_⟩;omega)
  rw[e] at hq;exact hq _
 ·have e:fH top z seen=false:=bO0 (by rintro ⟨h,h',_⟩;omega)
  rw[e] at hq;exact hq _
def aXs:Con
 | [.ptr i 3 0,.int .i64 z],H,K=>match H.getD i ⟨.ro,false,[]⟩ with
  | ⟨_,_,[.int .i64 _,.int .i64 top,.int .u64 u]⟩=>bif Nat.blt i H.length then ∃seen:Nat,Lf (u=(seen:Int)∧(-1≤top∧top≤562949953421312)∧(0≤z∧z≤562949953421312)∧seen<18446744073709551616)∧∀b:Bool,Lf (b=fH top z seen)→K (.ret (.bool b)) H else False
  | _=>False
 | _,_,_=>False
theorem bB4:aF Tryz.prog gl0 81 aXs:=by
 refine vW (enters_of (by kernel_rfl)) aM 9 (fun v=>v) eO fun args H Q hc => ?_
 unfold aXs at hc
 split at hc
 ·rename_i i z
  split at hc
  ·rename_i kd lf s top u hb
   obtain ⟨h0,seen,⟨rfl,h1,h2,h3⟩,hq⟩:=aWb hc
   rw[aC] at h0
   have hi:H[i]? = some ⟨kd,lf,[.int .i64 s,.int .i64 top,.int .u64 (seen:Nat)]⟩:=by
    rw[bOs,bOq h0] at hb
    rw[bOq h0]
    exact congrArg some hb
   obtain ⟨hv,hb',h⟩:=aMc s top seen z h1 h2 h3 (fun o H' _=>∃v,o=.ret v∧Q (.ret (bW 0 H' 9 v)) H) (fun H'=>⟨_,rfl,hq _ ⟨rfl⟩⟩)
   refine ⟨fun _=>i,[.ptr 0 3 0,.int .i64 z],_,_,1000,aT bT (fun _=>none) hv hb',rfl,by simp[lG,ren],by simp[aL,old],by simp[bG,noY],⟨?_, ?_, ?_⟩, ?_,h⟩
   ·intro j b0 hj
    match j,hj with
    | 0,hj=>cases hj;exact ⟨h0,by simp[aL,old],by simp[bG,noY],fun _=>by simp[aL,old],_,hi,by simp[lG,ren],.inl rfl⟩
   ·intro j j' b0 hj hk
    match j,hj with
    | 0,hj=>cases hj;exact absurd rfl hk
   ·intro j b0 hj _ c
    match j,hj with
    | 0,hj=>cases hj;simp
   ·intro b hb
    simp only[bOr,bOx,bP3] at hb
    rcases hb with rfl;rfl
  ·exact hc.elim
 ·exact hc.elim
end Go.Proofs.YtnhechnaemmdiaaGreatDoor
