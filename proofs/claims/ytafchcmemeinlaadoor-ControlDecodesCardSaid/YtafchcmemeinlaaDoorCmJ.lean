/-
  Chapter 24: the pairs of a Nack (pairs).
-/
import Derived.Test.YtafchcmemeinlaaDoorCmA
set_option linter.unusedSimpArgs false
set_option linter.unusedVariables false
namespace Go.Proofs.YtafchcmemeinlaaDoor
open Go.RowKit
set_option maxRecDepth 1000000

def aR (ps:List (Int×Int)):List AV:=ps.flatMap fun p=>[.int .i64 p.1,.int .i64 p.2]
def dQ (b m:Int):List Int→List (Int×Int)
 | []=>[(b,m)]
 | n::l=>if 16<(n-b)%65536 then (b,m)::dQ n 0 l else dQ b (((m%18446744073709551616).toNat ||| (2^((n-b)%65536-1).toNat):Nat):Int) l
def aM:List Int→List (Int×Int)
 | []=>[]
 | n::l=>dQ n 0 l
def aVm (b:Int):List Int→Bool
 | []=>true
 | n::l=>decide (1≤(n-b)%65536)&&aVm (if 16<(n-b)%65536 then n else b) l

def bDt (t:Nat) (xs:List Int):LInv where
 α:=Nat
 pre _:=Lf True
 st _:=⟨mkT [(2,.ptr 0 1 0),(3,.fn (.func 66) [] [.ptr 0 1 0]),(7,.lst t (aA xs) xs.length 1),(8,.int .i64 xs.length),(9,.int .i64 0)],[⟨.exact,true,[.nils]⟩]⟩
 mu _:=xs.length+1
def bJ7 (t:Nat) (xs:List Int):LInv where
 α:=Nat×List (Int×Int)×Int×Int
 pre p:=Lf (1≤p.1∧p.1≤xs.length∧p.2.1.length<p.1∧0≤p.2.2.2∧p.2.2.2≤65535∧aM xs=p.2.1++dQ p.2.2.1 p.2.2.2 (xs.drop p.1)∧aVm p.2.2.1 (xs.drop p.1)=true∧(0≤p.2.2.1∧p.2.2.1≤65535))
 st p:=⟨mkT [(2,.ptr 0 1 0),(3,.fn (.func 66) [] [.ptr 0 1 0]),(7,.lst t (aA xs) xs.length 1),(8,.int .i64 xs.length),(9,.int .i64 p.1)],
  [⟨.exact,false,[.sl 1 (2*p.2.1.length+2) 0 (p.2.1.length+1) 2]⟩,⟨.grow,true,aR p.2.1++[.int .i64 p.2.2.1,.int .i64 p.2.2.2]⟩]⟩
 mu p:=xs.length-p.1
noncomputable def aYy (hv:Nat→Option Pa) (hb:Nat→Option Bool) (t:Nat) (xs:List Int):Env:=e24 sm0 (fun i=>bif Nat.beq i 44000 then some (fun _=>[[bDt t xs,bJ7 t xs]]) else none) hv hb
noncomputable def aJa (hv:Nat→Option Pa) (hb:Nat→Option Bool) (t:Nat) (xs:List Int) (Q:Out→List Blk→Gh→Prop):Prop:=
 bH (aYy hv hb t xs) (wpx (aYy hv hb t xs) 1000) 44 [.lst t (aA xs) xs.length 1] [] {} Q
abbrev xB (x_1:Nat×List (Int×Int)×Int×Int) (xs:List Int) (n_2:Int) (t:Nat):Prop:=
ckQ (Nat.beq (aR x_1.2.1++[AV.int .i64 x_1.2.2.1,.int .i64 x_1.2.2.2]).length (2*x_1.2.1.length+2)&&Bool.true&&Nat.beq (0+(x_1.2.1.length+1)*2) (2*x_1.2.1.length+2)&&Nat.ble (x_1.2.1.length+1+1)
 1099511627776&&Nat.ble ((x_1.2.1.length+1+1)*16) 1099511627776) (exW .i64 ((x_1.1:Int)+1) fun n_4=>(True∧(0:Nat)=(0:Nat))∧((∃y_5:Nat,Lf True∧xs.length+1<xs.length-x_1.1∧False)∨∃y_5:Nat ×
 List (Int×Int)×Int×Int,Lf (1≤y_5.1∧y_5.1≤xs.length∧y_5.2.1.length<y_5.1∧0≤y_5.2.2.2∧y_5.2.2.2≤65535∧aM xs=y_5.2.1++dQ y_5.2.2.1 y_5.2.2.2 (xs.drop y_5.1)∧aVm y_5.2.2.1 (xs.drop y_5.1)=Bool.true
 ∧ 0≤y_5.2.2.1∧y_5.2.2.1≤65535)∧xs.length-y_5.1<xs.length-x_1.1∧[AV.sl 1 (2*x_1.2.1.length+2+2) 0 (x_1.2.1.length+1+1) 2]=[AV.sl 1 (2*y_5.2.1.length+2) 0 (y_5.2.1.length+1) 2]∧aR x_1.2.1++[AV.int
 IntKind.i64 x_1.2.2.1,.int .i64 x_1.2.2.2]++[AV.int .i64 n_2,.int .i64 0]=aR y_5.2.1++[AV.int .i64 y_5.2.2.1,.int .i64 y_5.2.2.2]∧aK (AV.fn (Fn.func 66) [] [.ptr 0 1 0])∧aK (AV.lst t
 (aA xs) xs.length 1)∧AV.int .i64 n_4=AV.int .i64 (y_5.1:Int)∧aK (AV.ptr 0 1 0)∧aK (AV.int .i64 (xs.length:Int))∧True))
abbrev bK3 (x_1:Nat×List (Int×Int)×Int×Int) (xs:List Int):Prop:=Lf (1≤x_1.1∧x_1.1≤xs.length∧x_1.2.1.length<x_1.1∧0≤x_1.2.2.2∧x_1.2.2.2≤65535∧aM xs=x_1.2.1++dQ x_1.2.2.1 x_1.2.2.2 (xs.drop x_1.1)∧aVm x_1.2.2.1 (xs.drop x_1.1)=Bool.true∧0≤x_1.2.2.1∧x_1.2.2.1≤65535)
abbrev aTc (y_4:Nat×List (Int×Int)×Int×Int):Nat:=2*y_4.2.1.length+2
abbrev bC0 (y_4:Nat×List (Int×Int)×Int×Int):List AV:=aR y_4.2.1++[AV.int .i64 y_4.2.2.1,.int .i64 y_4.2.2.2]
abbrev bPm (t:Nat) (xs:List Int) (n_3:Int) (y_4:Nat×List (Int×Int)×Int×Int):Prop:=aK (AV.fn (Fn.func 66) [] [.ptr 0 1 0])∧aK (AV.lst t (aA xs) xs.length 1)∧AV.int .i64 n_3=AV.int .i64 (y_4.1:Int)∧aK (AV.ptr 0 1 0)∧aK (AV.int .i64 (xs.length:Int))∧True
abbrev aLm (x_1:Nat×List (Int×Int)×Int×Int):Bool:=Nat.beq (aR x_1.2.1++[AV.int .i64 x_1.2.2.1,.int .i64 x_1.2.2.2]).length (aTc x_1)
theorem bPl (t:Nat) (xs:List Int) (Q:Out→List Blk→Gh→Prop):aJa (bG [(180232,.int .i64),(180236,.int .i64),(270343,.int .i64),(180246,.int .i64),(270347,.int .i64),(270348,.int .i64),(270354,.int .i64),
 (270355,.int .i64),(270356,.int .i64),(270362,.int .i64),(270364,.int .i64),(270365,.int .i64),(270366,.int .i64)]) (bF []) t xs Q=(exI .i64 (xs.length:Int) (fun n_0=>((∃x_1:Nat,Lf True∧[AV.nils] =
 [AV.nils]∧aK (AV.fn (Fn.func 66) [] [.ptr 0 1 0])∧aK (AV.lst t (aA xs) xs.length 1)∧aK (AV.int .i64 0)∧aK (AV.ptr 0 1 0)∧AV.int .i64 n_0=AV.int .i64 (xs.length:Int)∧True)∨∃x_1:Nat ×
 List (Int×Int)×Int×Int,bK3 x_1 xs∧False)∧(Nat→Lf True→bif decide (0<(xs.length:Int)) then ckQ (Nat.blt 0 xs.length&&Bool.true) (ckQ (Nat.blt 0 (aA xs).length) (exV IntKind.i64 ((aA xs).getD 0 AV.undef) (fun
 n_1=>exI .i64 0 (fun n_2=>bif n_2==0 then exI .i64 1 (fun n_3=>(True∧(0:Nat)=(0:Nat))∧((∃y_4:Nat,Lf True∧xs.length+1<xs.length+1∧False)∨∃y_4:Nat×List (Int×Int)×Int×Int,bK3 y_4 xs
 ∧ xs.length-y_4.1<xs.length+1∧[AV.sl 1 2 0 1 2]=[AV.sl 1 (aTc y_4) 0 (y_4.2.1.length+1) 2]∧[AV.int .i64 n_1,.int .i64 0]=bC0 y_4∧bPm t xs n_3 y_4)) else exI .i64 0 (fun n_3=>exW .i64 (n_3
 - 1) (fun n_4=>False)))))) else Q (.ret .nils) [] {})∧∀x_1:Nat×List (Int×Int)×Int×Int,bK3 x_1 xs→bif decide ((x_1.1:Int)<(xs.length:Int)) then ckQ (Nat.blt (x_1.1:Int).toNat xs.length&&Bool.true) (ckQ (Nat.blt
 ((x_1.1:Int).toNat*1) (aA xs).length) (exV IntKind.i64 ((aA xs).getD ((x_1.1:Int).toNat*1) AV.undef) (fun n_2=>ckQ (aLm x_1) (exI .i64 ((x_1.2.1.length+1:Nat):Int) (fun n_3=>bif n_3==0 then xB x_1
 xs n_2 t else ckQ (aLm x_1) (exI .i64 ((x_1.2.1.length+1:Nat):Int) (fun n_4=>exW .i64 (n_4-1) (fun n_5=>ckQ (decide (0≤n_5)&&Nat.blt n_5.toNat (x_1.2.1.length+1)&&aLm x_1&&Bool.true) (ckQ (aLm x_1)
 (ckQ (aLm x_1) (ckQ (aLm x_1&&Nat.blt (0+n_5.toNat*2+0) (aTc x_1)) (exV IntKind.i64 ((((bC0 x_1).drop (0+n_5.toNat*2+0)).take 1).getD 0 AV.undef) (fun n_6=>exW .i64 (n_2-n_6) (fun n_7=>exW .i64 (((n_7
 % 18446744073709551616).toNat &&& 65535:Nat):Int) (fun n_8=>bif decide (n_8>16) then xB x_1 xs n_2 t else ckQ (aLm x_1) (ckQ (aLm x_1) (ckQ (aLm x_1&&Nat.blt (0+n_5.toNat*2+1) (aTc x_1)) (exV IntKind.i64 ((((bC0
 x_1).drop (0+n_5.toNat*2+1)).take 1).getD 0 AV.undef) (fun n_9=>exW .i64 (n_8-1) (fun n_10=>ckQ (decide (0≤n_10)&&Bool.true) (exW .i64 (1*(2:Int)^Min.min n_10.toNat 64) (fun n_11=>exW .i64
 (((n_9%18446744073709551616).toNat ||| (n_11%18446744073709551616).toNat:Nat):Int) (fun n_12=>ckQ (aLm x_1) (ckQ (aLm x_1) (ckQ (aLm x_1&&Nat.ble (0+n_5.toNat*2+1+1) (aTc x_1)&&Bool.true&&Bool.true&&Bool.true)
 (exW .i64 ((x_1.1:Int)+1) (fun n_13=>(True∧(0:Nat)=(0:Nat))∧((∃y_14:Nat,Lf True∧xs.length+1<xs.length-x_1.1∧False)∨∃y_14:Nat×List (Int×Int)×Int×Int,bK3 y_14 xs∧xs.length-y_14.1 <
 xs.length-x_1.1∧[AV.sl 1 (aTc x_1) 0 (x_1.2.1.length+1) 2]=[AV.sl 1 (aTc y_14) 0 (y_14.2.1.length+1) 2]∧dH (bC0 x_1) (0+n_5.toNat*2+1) [.int .i64 n_12]=bC0 y_14∧bPm t xs n_13
 y_14)))))))))))))))))))))))))))) else Q (.ret (.sl 1 (aTc x_1) 0 (x_1.2.1.length+1) 2)) [Blk.mk BK.exact Bool.false [.sl 1 (aTc x_1) 0 (x_1.2.1.length+1) 2],Blk.mk BK.grow Bool.true (bC0 x_1)] {})):=by kernel_rfl


theorem dA (ps:List (Int×Int)):(aR ps).length=2*ps.length:=by
 induction ps with
 | nil=>rfl
 | cons p ps ih=>simp only[aR,List.flatMap_cons,List.length_append,List.length_cons,List.length_nil] at ih ⊢;omega
theorem bRk {A:List (Int×Int)} {x y:Int} {j:Nat} (hj:j=2*A.length) {K:Int→Prop} (hk:K x):∃n:Int,(List.take 1 (List.drop j (aR A++[.int .i64 x,.int .i64 y]))).getD 0 AV.undef=.int .i64 n∧K n:=by
 refine ⟨x, ?_,hk⟩
 rw[hj,←dA,List.drop_left]
 rfl
theorem bRq {A:List (Int×Int)} {x y:Int} {j:Nat} (hj:j=2*A.length+1) {K:Int→Prop} (hk:K y):∃n:Int,(List.take 1 (List.drop j (aR A++[.int .i64 x,.int .i64 y]))).getD 0 AV.undef=.int .i64 n∧K n:=by
 refine ⟨y, ?_,hk⟩
 rw[hj,←dA,←List.drop_drop,List.drop_left]
 rfl
theorem bQz {A:List (Int×Int)} {x y z:Int} {j:Nat} (hj:j=2*A.length+1):dH (aR A++[.int .i64 x,.int .i64 y]) j [.int .i64 z]=aR A++[.int .i64 x,.int .i64 z]:=by
 rw[hj,←dA,dH,List.take_append,List.drop_append,List.take_of_length_le (by omega),List.drop_of_length_le (by simp;omega),Nat.add_sub_cancel_left,show (aR A).length+1+[AV.int .i64 z].length-(aR A).length=2 by simp;omega]
 simp
theorem aY0 {xs:List Int} (h:xs.any (jI 16)=false) {i:Nat} (hi:i<xs.length):0≤xs.getD i 0∧xs.getD i 0≤65535:=by
 have:=aV9 h hi
 simpa [hi] using this
theorem gX {xs:List Int} {i:Nat} (hi:i<xs.length):xs.drop i=xs.getD i 0::xs.drop (i+1):=by
 rw[List.drop_eq_getElem_cons hi];simp[hi]
theorem orI {m d:Int} {K:Int→Prop} (hm:0≤m∧m≤65535) (hd:1≤d∧d≤16) (h:∀z:Int,z=((m%18446744073709551616).toNat ||| (2^(d-1).toNat):Nat)→0≤z→z≤65535→K z) :
  ∃n,AV.int .i64 (IntKind.wrap .i64 (1*2^min (d-1).toNat 64))=AV.int .i64 n∧∃z,AV.int .i64 (IntKind.wrap .i64 (((m%18446744073709551616).toNat ||| (n%18446744073709551616).toNat:Nat):Int))=AV.int .i64 z∧K z:=by
 have e0:min (d-1).toNat 64=(d-1).toNat:=by omega
 have e1:(2:Nat)^(d-1).toNat≤2^15:=Nat.pow_le_pow_right (by omega) (by omega)
 have e2:(1:Int)*2^(d-1).toNat=((2^(d-1).toNat:Nat):Int):=by simp
 rw[e0,e2]
 generalize 2^(d-1).toNat=p at *
 refine aC (by omega) (by omega) ?_
 have e3:((p:Int)%18446744073709551616).toNat=p:=by omega
 rw[e3]
 have e4:(m%18446744073709551616).toNat ||| p<2^16:=Nat.or_lt_two_pow (by omega) (by omega)
 exact aC (by omega) (by omega) (h _ rfl (by omega) (by omega))

theorem aRp (t:Nat) (xs:List Int) (Q:Out→List Blk→Gh→Prop) (hb:xs.any (jI 16)=false) (hl:1≤xs.length∧xs.length≤64) (hf:aVm (xs.getD 0 0) (xs.drop 1)=true)
  (hq:∀A b m,aM xs=A++[(b,m)]→Q (.ret (.sl 1 (2*A.length+2) 0 (A.length+1) 2)) [⟨.exact,false,[.sl 1 (2*A.length+2) 0 (A.length+1) 2]⟩,⟨.grow,true,aR A++[.int .i64 b,.int .i64 m]⟩] {}):∃hv hb,aJa hv hb t xs Q:=by
 obtain ⟨hv,hb',e⟩:∃hv hb,aJa hv hb t xs Q=_:=⟨_,_,bPl t xs Q⟩
 refine ⟨hv,hb',e.mpr ?_⟩
 delta bK3 aTc bC0 bPm aLm
 unfold xB
 clear e
 refine ⟨_,rfl,.inl ⟨0,⟨trivial⟩,by simp⟩, ?_, ?_⟩
 ·rintro _ ⟨_⟩
  have h0:=aY0 hb (i:=0) (by omega)
  refine aD (fun h => ?_) (fun h=>by omega)
  refine ckI (by first | (simp only[Bool.and_eq_true,Bool.and_true,Bool.true_and,decide_eq_true_eq,aL,Nat.ble_eq,gF,aB,List.length_append,List.length_cons,List.length_nil,Int.toNat_natCast,and_true,true_and,Bool.or_eq_true,Bool.not_eq_true',bne_iff_ne,ne_eq];done) | (simp only[Bool.and_eq_true,Bool.and_true,Bool.true_and,decide_eq_true_eq,aL,Nat.ble_eq,gF,aB,List.length_append,List.length_cons,List.length_nil,Int.toNat_natCast,and_true,true_and,Bool.or_eq_true,Bool.not_eq_true',bne_iff_ne,ne_eq];omega) | rfl | (simp;done) | (simp;omega)) (ckI (by first | (simp only[Bool.and_eq_true,Bool.and_true,Bool.true_and,decide_eq_true_eq,aL,Nat.ble_eq,gF,aB,List.length_append,List.length_cons,List.length_nil,Int.toNat_natCast,and_true,true_and,Bool.or_eq_true,Bool.not_eq_true',bne_iff_ne,ne_eq];done) | (simp only[Bool.and_eq_true,Bool.and_true,Bool.true_and,decide_eq_true_eq,aL,Nat.ble_eq,gF,aB,List.length_append,List.length_cons,List.length_nil,Int.toNat_natCast,and_true,true_and,Bool.or_eq_true,Bool.not_eq_true',bne_iff_ne,ne_eq];omega) | rfl | (simp;done) | (simp;omega)) (kS (i:=0) (by omega) rfl ?_))
  (repeat' (first | (with_reducible trivial) | (guard_target=False;omega) | (with_reducible refine aC ?_ ?_ ?_;omega;omega) | ((fail_if_success (with_reducible refine aC ?_ ?_ ?_));(with_reducible refine ⟨_,rfl, ?_⟩)) | (with_reducible refine ckI ?_ ?_;first | rfl | (simp[aL,aB]<;>omega)) | ((first | (with_reducible refine aD (fun _ => ?_) fun _ => ?_) | (with_reducible refine aP (fun _ => ?_) fun _ => ?_))<;>try (exfalso;omega))))
  ·have hd:xs=xs.getD 0 0::xs.drop 1:=gX (i:=0) (by omega)
   have hp:aM xs=[]++dQ (xs.getD 0 0) 0 (xs.drop 1):=by rw[hd];rfl
   exact ⟨⟨trivial,rfl⟩,.inr ⟨(1,[],xs.getD 0 0,0),⟨Nat.le_refl _,hl.1,by simp,by simp,by simp,hp,hf,h0⟩,by simp only;omega,by simp[aR]⟩⟩
 ·rintro ⟨i,A,b,m⟩ ⟨g1,g2,g3,g4,g5,g6,g7,g8⟩
  simp only at g1 g2 g3 g4 g5 g6 g7 g8 ⊢
  refine aD (fun h => ?_) (fun h => ?_)
  ·have hi:=aY0 hb (i:=i) (by omega)
   refine ckI (by first | (simp only[Bool.and_eq_true,Bool.and_true,Bool.true_and,decide_eq_true_eq,aL,Nat.ble_eq,gF,aB,List.length_append,List.length_cons,List.length_nil,Int.toNat_natCast,and_true,true_and,Bool.or_eq_true,Bool.not_eq_true',bne_iff_ne,ne_eq];done) | (simp only[Bool.and_eq_true,Bool.and_true,Bool.true_and,decide_eq_true_eq,aL,Nat.ble_eq,gF,aB,List.length_append,List.length_cons,List.length_nil,Int.toNat_natCast,and_true,true_and,Bool.or_eq_true,Bool.not_eq_true',bne_iff_ne,ne_eq];omega) | rfl | (simp;done) | (simp;omega)) (ckI (by first | (simp only[Bool.and_eq_true,Bool.and_true,Bool.true_and,decide_eq_true_eq,aL,Nat.ble_eq,gF,aB,List.length_append,List.length_cons,List.length_nil,Int.toNat_natCast,and_true,true_and,Bool.or_eq_true,Bool.not_eq_true',bne_iff_ne,ne_eq];done) | (simp only[Bool.and_eq_true,Bool.and_true,Bool.true_and,decide_eq_true_eq,aL,Nat.ble_eq,gF,aB,List.length_append,List.length_cons,List.length_nil,Int.toNat_natCast,and_true,true_and,Bool.or_eq_true,Bool.not_eq_true',bne_iff_ne,ne_eq];omega) | rfl | (simp;done) | (simp;omega)) (kS (i:=i) (by omega) (by omega) ?_))
   have hlen:=dA A
   have hlen2:=dA (A++[(b,m)])
   have hdr:=gX (xs:=xs) (i:=i) (by omega)
   rw[hdr] at g6 g7
   simp only[aVm,Bool.and_eq_true,decide_eq_true_eq] at g7
   (repeat' (first | (with_reducible trivial) | (guard_target=False;omega) | (with_reducible refine aC ?_ ?_ ?_;omega;omega) | ((fail_if_success (with_reducible refine aC ?_ ?_ ?_));(with_reducible refine ⟨_,rfl, ?_⟩)) | (with_reducible refine ckI ?_ ?_;first | rfl | (simp[aL,aB,hlen]<;>omega)) | ((first | (with_reducible refine aD (fun _ => ?_) fun _ => ?_) | (with_reducible refine aP (fun _ => ?_) fun _ => ?_))<;>try (exfalso;omega))))
   refine bRk (by omega) ?_
   refine aC (by omega) (by omega) (aVo ?_)
   (repeat' (first | (with_reducible trivial) | (guard_target=False;omega) | (with_reducible refine aC ?_ ?_ ?_;omega;omega) | ((fail_if_success (with_reducible refine aC ?_ ?_ ?_));(with_reducible refine ⟨_,rfl, ?_⟩)) | (with_reducible refine ckI ?_ ?_;first | rfl | (simp[aL,aB,hlen]<;>omega)) | ((first | (with_reducible refine aD (fun _ => ?_) fun _ => ?_) | (with_reducible refine aP (fun _ => ?_) fun _ => ?_))<;>try (exfalso;omega))))
   ·rename_i hgt
    have hgt':16<(xs.getD i 0-b)%65536:=by omega
    rw[dQ,if_pos hgt'] at g6
    rw[if_pos hgt'] at g7
    refine ⟨⟨trivial,trivial⟩,.inr ⟨(i+1,A++[(b,m)],xs.getD i 0,0),⟨⟨by simp,by simp;omega,by simp;omega,by simp,by simp,by rw[g6];simp,g7.2,hi⟩⟩,by simp only;omega, ?_⟩⟩
    simp[aR,Nat.mul_add]
   ·rename_i hle
    have hle':¬ 16<(xs.getD i 0-b)%65536:=by omega
    rw[dQ,if_neg hle'] at g6
    rw[if_neg hle'] at g7
    refine bRq (by omega) (aC (by omega) (by omega) (ckI (by first | (simp only[Bool.and_eq_true,Bool.and_true,Bool.true_and,decide_eq_true_eq,aL,Nat.ble_eq,gF,aB,List.length_append,List.length_cons,List.length_nil,Int.toNat_natCast,and_true,true_and,Bool.or_eq_true,Bool.not_eq_true',bne_iff_ne,ne_eq];done) | (simp only[Bool.and_eq_true,Bool.and_true,Bool.true_and,decide_eq_true_eq,aL,Nat.ble_eq,gF,aB,List.length_append,List.length_cons,List.length_nil,Int.toNat_natCast,and_true,true_and,Bool.or_eq_true,Bool.not_eq_true',bne_iff_ne,ne_eq];omega) | rfl | (simp;done) | (simp;omega)) (orI ⟨g4,g5⟩ (by omega) fun z hz z1 z2 => ?_)))
    rw[←hz] at g6
    (repeat' (first | (with_reducible trivial) | (guard_target=False;omega) | (with_reducible refine aC ?_ ?_ ?_;omega;omega) | ((fail_if_success (with_reducible refine aC ?_ ?_ ?_));(with_reducible refine ⟨_,rfl, ?_⟩)) | (with_reducible refine ckI ?_ ?_;first | rfl | (simp[aL,aB,hlen]<;>omega)) | ((first | (with_reducible refine aD (fun _ => ?_) fun _ => ?_) | (with_reducible refine aP (fun _ => ?_) fun _ => ?_))<;>try (exfalso;omega))))
    refine ⟨⟨trivial,trivial⟩,.inr ⟨(i+1,A,b,z),⟨⟨by simp,by simp;omega,by simp;omega,z1,z2,g6,g7.2,g8⟩⟩,by simp only;omega, ?_⟩⟩
    rw[bQz (by omega)]
    simp
  ·have hle:xs.length≤i:=by omega
   rw[List.drop_of_length_le hle] at g6
   exact ckI (by first | (simp only[Bool.and_eq_true,Bool.and_true,Bool.true_and,decide_eq_true_eq,aL,Nat.ble_eq,gF,aB,dA,List.length_append,List.length_cons,List.length_nil,Int.toNat_natCast,and_true,true_and,Bool.or_eq_true,Bool.not_eq_true',bne_iff_ne,ne_eq];done) | (simp only[Bool.and_eq_true,Bool.and_true,Bool.true_and,decide_eq_true_eq,aL,Nat.ble_eq,gF,aB,dA,List.length_append,List.length_cons,List.length_nil,Int.toNat_natCast,and_true,true_and,Bool.or_eq_true,Bool.not_eq_true',bne_iff_ne,ne_eq];omega) | rfl | (simp;done) | (simp;omega)) (hq A b m g6)
end Go.Proofs.YtafchcmemeinlaaDoor

set_option linter.unusedSimpArgs false
set_option linter.unusedVariables false
namespace Go.Proofs.YtafchcmemeinlaaDoor
open Go.RowKit
set_option maxRecDepth 1000000

def aAn:AV→Bool
 | .int _ _=>true | .bool _=>true | .str _=>true | .nils=>true | .nilp=>true | _=>false
theorem aD5 (τ:Nat) (H:List Blk) (d:Nat):∀l:List AV,(∀x∈l,aAn x=true)→l.map (fun x=>dK τ H (d+1) x)=l
 | [],_=>rfl
 | x::l,h=>by
  have hx:dK τ H (d+1) x=x:=by
   have:=h x (by simp)
   cases x<;>first | rfl | simp[aAn] at this
  rw[List.map_cons,aD5 τ H d l fun y hy=>h y (by simp[hy]),hx]
theorem pX (ps:List (Int×Int)):∀x∈aR ps,aAn x=true:=by
 intro x hx
 simp only[aR,List.mem_flatMap,List.mem_cons,List.not_mem_nil,or_false] at hx
 obtain ⟨p,_,rfl | rfl⟩:=hx<;>rfl
theorem aHm (ps:List (Int×Int)):aNg (aR ps)=true:=by
 induction ps with
 | nil=>rfl
 | cons p ps ih=>simpa [aR,aNg,noT] using ih
theorem aX2 (x0:Int):∀ (l:List Int) (far b:Int),aU x0 far l=true→(b-x0)%65536≤far→aVm b l=true
 | [],_,_,_,_=>rfl
 | n::l,far,b,h,hb=>by
  rw[aU] at h
  split at h
  ·cases h
  ·rename_i hc
   have h1:1≤(n-b)%65536:=by omega
   rw[aVm,decide_eq_true h1,Bool.true_and]
   refine aX2 x0 l _ _ h ?_
   split<;>omega
theorem eQ {xs:List Int} (h:bV xs=true):xs.any (jI 16)=false∧(1≤xs.length∧xs.length≤64)∧aVm (xs.getD 0 0) (xs.drop 1)=true∧aU (xs.getD 0 0) (-1) xs=true:=by
 simp only[bV,Bool.and_eq_true,decide_eq_true_eq,Bool.not_eq_true'] at h
 obtain ⟨⟨⟨h1,h2⟩,h3⟩,h4⟩:=h
 refine ⟨h3,⟨h1,h2⟩, ?_,h4⟩
 cases xs with
 | nil=>rfl
 | cons x l=>
  simp only[List.getD_cons_zero,List.drop_one,List.tail_cons] at h4 ⊢
  rw[aU] at h4
  split at h4
  ·cases h4
  ·exact aX2 x l _ x h4 (Int.le_refl _)
theorem mE {τ:Nat} {H:List Blk} {d id tot off len sz:Nat} {b:Blk} {cs:List AV} (hb:H[id]? = some b) (h1:b.cs.length=tot) (h2:off+len*sz≤tot) (hk:b.k≠.ro) (hc:(b.cs.drop off).take (len*sz)=cs) (hp:∀x∈cs,aAn x=true) :
  dK τ H (d+2) (.sl id tot off len sz)=.lst τ cs len sz:=by
 have c1:b.cs.length.beq tot=true:=aVs h1
 have c2:(off+len*sz).ble tot=true:=aXd h2
 have c3:(b.k !=.ro)=true:=by simpa using hk
 rw[dK]
 simp only[hb,c1,c2,c3,Bool.and_true,cond_true,hc,aD5 τ H d cs hp]
def tJ:Con
 | [.lst _ l n 1],H,K=>∃xs:List Int,Lf (l=aA xs∧n=xs.length∧bV xs=true)∧K (.ret (.lst 0 (aR (aM xs)) (aM xs).length 2)) H
 | _,_,_=>False
theorem wD:∀args H Q,tJ args H Q→tJ args [] fun o H'=>H'=[]∧(∃v,o=.ret v∧noT v=true)∧Q o H:=by
 intro args H Q hc
 unfold tJ at hc
 split at hc
 ·obtain ⟨xs,h,hq⟩:=hc
  exact ⟨xs,h,rfl,⟨_,rfl,by simp[noT,aHm]⟩,hq⟩
 ·exact hc.elim
def aCl:Con:=fun args H Q=>uC [1] H args fun a=>tJ a H Q

theorem aPk:aO Tryd.prog glC 44 tJ:=by
 refine fE (enters_of (by kernel_rfl)) aV 9 (nlR [2]) (vZ _) fun args H Q hc => ?_
 unfold tJ at hc
 split at hc
 ·rename_i t l n
  obtain ⟨xs,⟨rfl,rfl,hn⟩,hq⟩:=hc
  obtain ⟨h1,h2,h3,h4⟩:=eQ hn
  obtain ⟨hv,hb',h⟩:=aRp t xs (fun o H' _=>∃v,o=.ret v∧Q (.ret (nlR [2] (dK 0 H' 9 v))) H) h1 h2 h3 (fun A b m e=>by
   refine ⟨_,rfl, ?_⟩
   have ec:aR A++[AV.int .i64 b,.int .i64 m]=aR (aM xs):=by rw[e];simp[aR]
   have el:(aM xs).length=A.length+1:=by rw[e];simp
   have hlen:=dA (aM xs)
   have hle:(aR (aM xs)).length≤(A.length+1)*2:=by omega
   rw[mE (cs:=aR (aM xs)) rfl (by rw[ec];show (aR (aM xs)).length=_;omega) (by omega) (by simp) (by rw[ec,List.drop_zero];exact List.take_of_length_le hle) (pX _),←el]
   exact hq)
  exact ⟨rfl,rfl,_,1000,aS fB _ _ _,rfl,h⟩
 ·exact hc.elim
theorem aVi:aO Tryd.prog glC 44 aCl:=dW aPk aV [1] wD

end Go.Proofs.YtafchcmemeinlaaDoor
