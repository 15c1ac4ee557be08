/-
  Chapter 24: the package variables; the environment of runs; the chapter's examples hold.
-/
import Derived.Test.YtafchcmemeinlaaDoorC24U
import Derived.Test.YtafchcmemeinlaaDoorProg
import Derived.KernelRfl
import Derived.MakeChecks
set_option linter.unusedSimpArgs false
set_option linter.unusedVariables false
namespace Go.Proofs.YtafchcmemeinlaaDoor
open Go.RowKit

def b5 (a b c d e:Bool):List AV:=[.bool a,.bool b,.bool c,.bool d,.bool e]
def bRn:List AV:=b5 false false false false false++b5 false true true false false++b5 false false true false false++b5 false false false false false++b5 true false false true false++b5 true false false false false++b5 true false false false true
def bNt:List AV:=[.int .i64 0,.int .i64 200,.int .i64 201,.int .i64 203,.int .i64 205,.int .i64 206,.int .i64 205]
def glC:Nat→Option (List AV)
 | 0=>some bRn
 | 1=>some bNt
 | _=>none
theorem aV:∀g cs,glC g=some cs→bQ cs=true:=by
 intro g cs h
 unfold glC at h
 split at h
 ·cases h;rfl
 ·cases h;rfl
 ·cases h

abbrev SM:=Nat→Option (List AV→List Blk→(Out→List Blk→Prop)→Prop)
def hz24:List Nat:=[16433,24616,24674,24692,32796,32811,32820,32929,32937,41040,61479,69640,69667,69670,69674,69676,69696,86061,86067,123025,123041,143424,143432,143463,143470,143476,143481,147574,147639,147645,159835,159854,180244,188434,188441,188456,188473,188478,188483,188494,188534,188540,200734,200741,200748,225309,225328,225332,225336,225342,225364,225387,245789,245813,249903,249944,249966,258089,262179,262228,262232,274460,278552,278556,278560,278593,278607,286738,286760,319501,319507]
noncomputable def e24 (sm:SM) (inv:Nat→Option (S→List (List LInv))) (hv:Nat→Option Pa) (hb:Nat→Option Bool):Env:=
 { fn:=fun f=>aU9 Tryd.prog f,sm:=sm,gl:=glC,inv:=inv,hv:=hv,hb:=hb,hz:=fun k=>hz24.any (Nat.beq k) }

set_option maxRecDepth 1000000
theorem eB:aC8 Tryd.prog=true:=by kernel_rfl
theorem dX:Tryd.prog.follows .mixedOrders=true:=by kernel_rfl
theorem aS {sm:SM} (h:∀f g,sm f=some g→aO Tryd.prog glC f g) (inv:Nat→Option (S→List (List LInv))) (hv:Nat→Option Pa) (hb:Nat→Option Bool):EnvFor Tryd.prog (e24 sm inv hv hb):=
 ⟨dX,eB,eF,h⟩
def sm0:SM:=fun _=>none
theorem fB:∀f g,sm0 f=some g→aO Tryd.prog glC f g:=fun _ _ h=>by cases h

noncomputable def eW:Env := { fn:=fun f=>aU9 Tryd.prog f,gl:=glC }
theorem bA2:EnvFor Tryd.prog eW:=⟨dX,eB,bCe,fun _ _ h=>by cases h⟩
theorem aSn:bH eW (wpx eW 1000000) 17 [] [] {} bMu=True:=by kernel_rfl

theorem aUw:aO Tryd.prog glC 17 aWg:=aL1 (enters_of (by kernel_rfl)) aV bA2 rfl aSn
end Go.Proofs.YtafchcmemeinlaaDoor

set_option linter.unusedSimpArgs false
set_option linter.unusedVariables false
namespace Go.Proofs.YtafchcmemeinlaaDoor
open Go.RowKit
set_option maxRecDepth 1000000

abbrev Con:=List AV→List Blk→(Out→List Blk→Prop)→Prop
def gH:List (Nat×Con)→SM
 | [],_=>none
 | (k,c)::l,f=>bif Nat.beq f k then some c else gH l f
theorem bW:∀ (l:List (Nat×Con)),(∀p,p∈l→aO Tryd.prog glC p.1 p.2)→∀f g,gH l f=some g→aO Tryd.prog glC f g
 | [],_,f,g,h=>by simp[gH] at h
 | (k,c)::l,hl,f,g,h=>by
  simp only[gH] at h
  cases hk:Nat.beq f k
  ·rw[hk] at h
   exact bW l (fun p hp=>hl p (by simp[hp])) f g h
  ·rw[hk] at h
   simp only[cond_true,Option.some.injEq] at h
   subst h
   obtain rfl:=Nat.eq_of_beq_eq_true hk
   exact hl (f,c) (by simp)

theorem iN {xs:List Int} {i j:Nat} (hi:i<xs.length) {K:Int→Prop} (hk:K xs[i]) (hj:j=i):∃n:Int,(aA xs).getD j AV.undef=AV.int .i64 n∧K n:=by
 subst hj
 exact ⟨xs[j],by simp[aA,hi],hk⟩

def jI (bits n:Int):Bool:=decide (n<0)||(n.fdiv (2^min bits.toNat 64) !=0)
def bIg (t:Nat) (bits:Int) (xs:List Int):LInv where
 α:=Nat
 pre i:=Lf (i≤xs.length∧(xs.take i).any (jI bits)=false)
 st i:=⟨mkT [(0,.lst t (aA xs) xs.length 1),(1,.fn (.func 76) [] [.ptr 0 1 0]),(7,.int .i64 xs.length),(8,.int .i64 i)],[⟨.exact,true,[.int .i64 bits]⟩]⟩
 mu i:=xs.length-i
noncomputable def aXz (hv:Nat→Option Pa) (hb:Nat→Option Bool) (t:Nat) (bits:Int) (xs:List Int):Env:=
 e24 sm0 (fun i=>bif Nat.beq i 79000 then some (fun _=>[[bIg t bits xs]]) else none) hv hb
noncomputable def aH8 (hv:Nat→Option Pa) (hb:Nat→Option Bool) (t:Nat) (bits:Int) (xs:List Int) (Q:Out→List Blk→Gh→Prop):Prop:=
 bH (aXz hv hb t bits xs) (wpx (aXz hv hb t bits xs) 1000) 65 [.int .i64 bits,.lst t (aA xs) xs.length 1] [] {} Q
abbrev bMs (x_1:Nat) (xs:List Int) (bits:Int):Prop:=Lf (x_1≤xs.length∧List.any (xs.take x_1) (jI bits)=Bool.false)
abbrev bLm:Out:=.ret (.bool Bool.true)
theorem bM7 (t:Nat) (bits:Int) (xs:List Int) (Q:Out→List Blk→Gh→Prop):aH8 (bG [(323591,.int .i64),(323594,.int .i64),(323599,.int .i64),(311305,.int .i64),(323602,.int .i64)]) (bF []) t bits xs Q=(exI
 IntKind.i64 (xs.length:Int) (fun n_0=>(∃x_1:Nat,bMs x_1 xs bits∧aK [AV.int .i64 bits]∧aK (AV.lst t (aA xs) xs.length 1)∧aK (AV.fn (Fn.func 76) [] [.ptr 0 1 0])∧AV.int .i64 n_0=AV.int .i64
 (xs.length:Int)∧AV.int .i64 0=AV.int .i64 (x_1:Int)∧True)∧∀x_1:Nat,bMs x_1 xs bits→bif decide ((x_1:Int)<(xs.length:Int)) then exI .i64 (x_1:Int) (fun n_2=>ckQ (decide (0≤n_2)&&Nat.blt
 n_2.toNat xs.length&&Bool.true) (ckQ (Nat.blt (n_2.toNat*1) (aA xs).length) (exV IntKind.i64 ((aA xs).getD (n_2.toNat*1) AV.undef) (fun n_3=>bif decide (n_3<0) then bif decide (n_2≥0) then Q (.ret (.bool Bool.false)) []
 {} else Q bLm [] {} else ckQ (decide (0≤bits)&&Bool.true) (exI .i64 (Int.fdiv n_3 ((2:Int)^Min.min bits.toNat 64)) (fun n_4=>bif n_4 !=0 then bif decide (n_2≥0) then Q (.ret (.bool Bool.false)) [] {} else Q bLm [] {}
 else exW .i64 ((x_1:Int)+1) (fun n_5=>(True∧(0:Nat)=(0:Nat))∧∃y_6:Nat,bMs y_6 xs bits∧xs.length-y_6<xs.length-x_1∧aK [AV.int .i64 bits]∧aK (AV.lst t (aA xs) xs.length 1)∧aK (AV.fn
 (Fn.func 76) [] [.ptr 0 1 0])∧aK (AV.int .i64 (xs.length:Int))∧AV.int .i64 n_5=AV.int .i64 (y_6:Int)∧True))))))) else Q bLm [] {})):=by kernel_rfl

theorem aAx {a b:Nat} (h:a<b):a.blt b=true:=by rw[aL];exact h
theorem fA (xs:List Int):(aA xs).length=xs.length:=by simp[aA]

theorem aTh (t:Nat) (bits:Int) (xs:List Int) (Q:Out→List Blk→Gh→Prop) (hx:xs.length≤4611686018427387904) (hb:0≤bits)
  (hq:Q (.ret (.bool (!(xs.any (jI bits))))) [] {}):∃hv hb,aH8 hv hb t bits xs Q:=by
 obtain ⟨hv,hb',e⟩:∃hv hb,aH8 hv hb t bits xs Q=_:=⟨_,_,bM7 t bits xs Q⟩
 refine ⟨hv,hb',e.mpr ?_⟩
 delta bMs bLm
 clear e
 refine ⟨_,rfl,⟨0,⟨⟨by omega,by simp⟩⟩,by simp⟩, ?_⟩
 rintro i ⟨hi,hany⟩
 refine dV (fun hlt => ?_) (fun hge => ?_)
 ·have hlt':i<xs.length:=by simpa using hlt
  refine ⟨_,rfl,ckI (by simp[Nat.blt];exact hlt') (ckI (aAx (by rw[fA];simpa using hlt')) (iN hlt' ?_ (by simp)))⟩
  have hstep:(xs.take (i+1)).any (jI bits)=jI bits xs[i]:=by
   rw[List.take_add_one,List.any_append,hany];simp[hlt']
  refine dV (fun hn => ?_) (fun hn => ?_)
  ·have hbad:xs.any (jI bits)=true:=by
    rw[List.any_eq_true];exact ⟨xs[i],List.getElem_mem _,by simp[jI];left;simpa using hn⟩
   rw[hbad] at hq
   refine dV (fun _=>hq) (fun hc => ?_)
   simp at hc
  ·refine ckI (by simpa using hb) ⟨_,rfl,dV (fun hz => ?_) (fun hz => ?_)⟩
   ·have hbad:xs.any (jI bits)=true:=by
     rw[List.any_eq_true];exact ⟨xs[i],List.getElem_mem _,by simp only[jI,Bool.or_eq_true];right;exact hz⟩
    rw[hbad] at hq
    refine dV (fun _=>hq) (fun hc => ?_)
    simp at hc
   ·refine aC (by omega) (by omega) ⟨⟨trivial,rfl⟩,i+1,⟨⟨hlt', ?_⟩⟩,Nat.sub_succ_lt_self _ _ hlt',by simp⟩
    rw[hstep,jI,hn,hz];rfl
 ·have hle:xs.length≤i:=by simpa using hge
  have:xs.take i=xs:=List.take_of_length_le hle
  rw[this] at hany
  rw[hany] at hq
  exact hq

def aT7:Con
 | [.int .i64 bits,.lst _ l n 1],H,K=>∃xs:List Int,Lf (l=aA xs∧n=xs.length∧0≤bits∧xs.length≤4611686018427387904)∧K (.ret (.bool (!(xs.any (jI bits))))) H
 | _,_,_=>False

theorem gI (xs:List Int):bQ (aA xs)=true∧bB 0 (aA xs)=true∧aNg (aA xs)=true:=by
 induction xs with
 | nil=>exact ⟨rfl,rfl,rfl⟩
 | cons x xs ih=>exact ⟨by simpa [aA,bQ,noY] using ih.1,by simpa [aA,bB,old] using ih.2.1,by simpa [aA,aNg,noT] using ih.2.2⟩

theorem aTo:aO Tryd.prog glC 65 aT7:=by
 refine bE (enters_of (by kernel_rfl)) aV fun args H Q hc => ?_
 unfold aT7 at hc
 split at hc
 ·rename_i bits t l n
  obtain ⟨xs,⟨rfl,rfl,hb,hl⟩,hq⟩:=hc
  obtain ⟨hv,hb',h⟩:=aTh t bits xs (hx:=hl) (hb:=hb) (Q:=fun o H' _=>H'=[]∧(∃v,o=.ret v∧old 0 v=true∧noY v=true)∧Q o H) ⟨rfl,⟨_,rfl,rfl,rfl⟩,hq⟩
  exact ⟨rfl,rfl,_,1000,aS fB _ _ _,rfl,h⟩
 ·exact hc.elim
def aSj:Con:=fun args H Q=>uC [0,1] H args fun a=>aT7 a H Q
theorem aQd:aO Tryd.prog glC 65 aSj:=dW aTo aV [0,1] fun args H Q hc=>by
 unfold aT7 at hc
 split at hc
 ·obtain ⟨xs,h,hq⟩:=hc
  exact ⟨xs,h,rfl,⟨_,rfl,rfl⟩,hq⟩
 ·exact hc.elim
end Go.Proofs.YtafchcmemeinlaaDoor

set_option linter.unusedSimpArgs false
set_option linter.unusedVariables false
namespace Go.Proofs.YtafchcmemeinlaaDoor
open Go.RowKit
set_option maxRecDepth 1000000

def smE:SM:=gH [(65,aSj)]
theorem aO1:∀f g,smE f=some g→aO Tryd.prog glC f g:=bW _ (by simp only[List.mem_cons,List.not_mem_nil,or_false,forall_eq];exact aQd)

def aU (b:Int):Int→List Int→Bool
 | _,[]=>true
 | far,n::l=>if (n-b)%65536≤far∨32767<(n-b)%65536 then false else aU b ((n-b)%65536) l
def bV (xs:List Int):Bool:=decide (1≤xs.length)&&decide (xs.length≤64) && !(xs.any (jI 16))&&aU (xs.getD 0 0) (-1) xs

def aYj (t:Nat) (xs:List Int):LInv where
 α:=Nat×Int
 pre p:=Lf (xs.any (jI 16)=false∧1≤xs.length∧xs.length≤64∧p.1≤xs.length ∧ -1≤p.2∧p.2≤32767∧aU (xs.getD 0 0) (-1) xs=aU (xs.getD 0 0) p.2 (xs.drop p.1))
 st p:=⟨mkT [(0,.lst t (aA xs) xs.length 1),(3,.int .i64 p.2),(20,.lst t (aA xs) xs.length 1),(21,.int .i64 xs.length),(22,.int .i64 p.1)],[]⟩
 mu p:=xs.length-p.1
noncomputable def aG6 (hv:Nat→Option Pa) (hb:Nat→Option Bool) (t:Nat) (xs:List Int) (Q:Out→List Blk→Gh→Prop):Prop:=
 bH (e24 smE (fun i=>bif Nat.beq i 43000 then some (fun _=>[[aYj t xs]]) else none) hv hb) (wpx (e24 smE (fun i=>bif Nat.beq i 43000 then some (fun _=>[[aYj t xs]]) else none) hv hb) 1000) 43 [.lst t (aA xs) xs.length 1] [] {} Q
abbrev bFy:Out:=.ret (.bool Bool.false)
abbrev bL8 (xs:List Int) (x_4:Nat×Int):Prop:=Lf (List.any xs (jI 16)=Bool.false∧1≤xs.length∧xs.length≤64∧x_4.1≤xs.length ∧ -1≤x_4.2∧x_4.2≤32767∧aU (xs.getD 0 0) (-1) xs=aU (xs.getD 0 0) x_4.2 (xs.drop x_4.1))
abbrev bGy (t:Nat) (xs:List Int):Prop:=aK (AV.lst t (aA xs) xs.length 1)
theorem bOj (t:Nat) (xs:List Int) (Q:Out→List Blk→Gh→Prop):aG6 (bG [(176136,.int .i64),(176140,.int .i64),(176149,.int .i64),(176153,.int .i64),(176157,.int .i64),(176158,.int .i64),(176159,.int .i64),
 (176168,.int .i64)]) (bF []) t xs Q=(exI .i64 (xs.length:Int) (fun n_0=>bif decide (n_0<1) then Q bFy [] {} else exI .i64 (xs.length:Int) (fun n_1=>bif decide (n_1>64) then Q bFy [] {} else ∃xs_2:List
 Int,Lf (aA xs=aA xs_2∧xs.length=xs_2.length∧(0:Int)≤(16:Int)∧xs_2.length≤4611686018427387904)∧bif !List.any xs_2 (jI 16) then exI .i64 (xs.length:Int) (fun n_3=>(∃x_4:Nat×Int,bL8 xs x_4 ∧
 bGy t xs∧AV.int .i64 (-1)=AV.int .i64 x_4.2∧AV.int .i64 n_3=AV.int .i64 (xs.length:Int)∧bGy t xs∧AV.int .i64 0=AV.int .i64 (x_4.1:Int)∧True)∧∀x_4:Nat×Int,bL8 xs x_4 →
 bif decide ((x_4.1:Int)<(xs.length:Int)) then ckQ (Nat.blt (x_4.1:Int).toNat xs.length&&Bool.true) (ckQ (Nat.blt ((x_4.1:Int).toNat*1) (aA xs).length) (exV IntKind.i64 ((aA xs).getD ((x_4.1:Int).toNat*1) AV.undef)
 (fun n_5=>ckQ (Nat.blt 0 xs.length&&Bool.true) (ckQ (Nat.blt 0 (aA xs).length) (exV IntKind.i64 ((aA xs).getD 0 AV.undef) (fun n_6=>exW .i64 (n_5-n_6) (fun n_7=>exW .i64 (((n_7%18446744073709551616).toNat
 &&& 65535:Nat):Int) (fun n_8=>bif decide (n_8≤x_4.2) then Q bFy [] {} else bif decide (n_8>32767) then Q bFy [] {} else exW .i64 ((x_4.1:Int)+1) (fun n_9=>(True∧(0:Nat)=(0:Nat))∧∃y_10:Nat×Int,bL8
 xs y_10∧xs.length-y_10.1<xs.length-x_4.1∧bGy t xs∧AV.int .i64 n_8=AV.int .i64 y_10.2∧aK (AV.int .i64 (xs.length:Int))∧bGy t xs∧AV.int .i64 n_9=AV.int .i64 (y_10.1:Int) ∧
 True))))))))) else Q (.ret (.bool Bool.true)) [] {}) else Q bFy [] {}))):=by kernel_rfl

theorem aVo {z:Int} {K:Int→Prop} (h:K (z%65536)):∃n:Int,AV.int .i64 (IntKind.wrap .i64 (((z%18446744073709551616).toNat &&& 65535:Nat):Int))=AV.int .i64 n∧K n:=by
 refine ⟨z%65536, ?_,h⟩
 have e1:((z%18446744073709551616).toNat &&& 65535)=(z%18446744073709551616).toNat%65536:=Nat.and_two_pow_sub_one_eq_mod _ 16
 have e2:IntKind.wrap .i64 (((z%18446744073709551616).toNat%65536:Nat):Int)=z%65536:=by rw[IntKind.wrap_i64];omega
 rw[e1,e2]

theorem aV9 {xs:List Int} (h:xs.any (jI 16)=false) {i:Nat} (hi:i<xs.length):0≤xs[i]∧xs[i]≤65535:=by
 have hb:jI 16 xs[i]=false:=by
  have:=List.any_eq_false.1 h xs[i] (List.getElem_mem hi)
  simpa using this
 simp only[jI,Bool.or_eq_false_iff,decide_eq_false_iff_not] at hb
 have e:(2:Int)^min (16:Int).toNat 64=65536:=rfl
 rw[e] at hb
 have h2:xs[i].fdiv 65536=0:=by simpa using hb.2
 rw[Int.fdiv_eq_ediv_of_nonneg _ (by omega)] at h2
 omega

theorem aPs (t:Nat) (xs:List Int) (Q:Out→List Blk→Gh→Prop) (hl:xs.length≤4611686018427387904) (hq:Q (.ret (.bool (bV xs))) [] {}):∃hv hb,aG6 hv hb t xs Q:=by
 obtain ⟨hv,hb',e⟩:∃hv hb,aG6 hv hb t xs Q=_:=⟨_,_,bOj t xs Q⟩
 refine ⟨hv,hb',e.mpr ?_⟩
 delta bFy bL8 bGy
 clear e
 refine ⟨_,rfl, ?_⟩
 refine dV (fun h1 => ?_) (fun h1 => ?_)
 ·have:bV xs=false:=by
   simp only[decide_eq_true_eq] at h1
   have h0:¬ 1≤xs.length:=by omega
   simp only[bV,decide_eq_false h0,Bool.false_and]
  rw[this] at hq;exact hq
 refine ⟨_,rfl, ?_⟩
 refine dV (fun h2 => ?_) (fun h2 => ?_)
 ·have:bV xs=false:=by
   simp only[gt_iff_lt,decide_eq_true_eq] at h2
   have h0:¬ xs.length≤64:=by omega
   simp only[bV,decide_eq_false h0,Bool.false_and,Bool.and_false]
  rw[this] at hq;exact hq
 refine ⟨xs,⟨rfl,rfl,by omega,hl⟩, ?_⟩
 refine dV (fun h3 => ?_) (fun h3 => ?_)
 ·simp only[decide_eq_false_iff_not,gt_iff_lt,Int.not_lt,Bool.not_eq_true'] at h1 h2 h3
  have hn:bV xs=aU (xs.getD 0 0) (-1) xs:=by
   simp only[bV,h3,Bool.not_false,Bool.and_true]
   rw[decide_eq_true (by omega),decide_eq_true (by omega)];rfl
  refine ⟨_,rfl,⟨(0, -1),⟨⟨h3,by omega,by omega,by omega,by omega,by omega,by simp⟩⟩,by simp⟩, ?_⟩
  rintro ⟨i,far⟩ ⟨g1,g2,g3,g4,g5,g6,g7⟩
  simp only at g4 g5 g6 g7
  refine dV (fun hlt => ?_) (fun hge => ?_)
  ·have hlt':i<xs.length:=by simpa using hlt
   have b0:=aV9 g1 (show 0<xs.length by omega)
   have bi:=aV9 g1 hlt'
   have hx0:xs.getD 0 0=xs[0]:=by simp[show 0<xs.length by omega]
   refine ckI (by simp[Nat.blt];exact hlt') (ckI (aAx (by rw[fA];simpa using hlt')) (iN hlt' ?_ (by simp)))
   refine ckI (by simp[Nat.blt];omega) (ckI (aAx (by rw[fA];omega)) (iN (show 0<xs.length by omega) ?_ rfl))
   refine aC (by omega) (by omega) (aVo ?_)
   rw[List.drop_eq_getElem_cons hlt',aU,hx0] at g7
   refine dV (fun h4 => ?_) (fun h4=>dV (fun h5 => ?_) (fun h5 => ?_))
   ·rw[if_pos (.inl (by simpa using h4))] at g7
    rw[hn,hx0,g7] at hq;exact hq
   ·rw[if_pos (.inr (by simpa using h5))] at g7
    rw[hn,hx0,g7] at hq;exact hq
   ·simp only[decide_eq_false_iff_not,gt_iff_lt,Int.not_lt,Int.not_le] at h4 h5
    rw[if_neg (by omega)] at g7
    refine aC (by omega) (by omega) ⟨⟨trivial,rfl⟩,(i+1,(xs[i]-xs[0])%65536),⟨⟨g1,g2,g3,hlt',by omega,h5,by rw[hx0];exact g7⟩⟩,Nat.sub_succ_lt_self _ _ hlt',by simp⟩
  ·have hle:xs.length≤i:=by simpa using hge
   rw[List.drop_of_length_le hle,aU] at g7
   rw[hn,g7] at hq;exact hq
 ·have:bV xs=false:=by
   simp only[Bool.not_eq_false'] at h3
   simp[bV,h3]
  rw[this] at hq;exact hq

def tQ:Con
 | [.lst _ l n 1],H,K=>∃xs:List Int,Lf (l=aA xs∧n=xs.length∧xs.length≤4611686018427387904)∧K (.ret (.bool (bV xs))) H
 | _,_,_=>False
theorem yE:∀args H Q,tQ args H Q→tQ args [] fun o H'=>H'=[]∧(∃v,o=.ret v∧noT v=true)∧Q o H:=by
 intro args H Q hc
 unfold tQ at hc
 split at hc
 ·obtain ⟨xs,h,hq⟩:=hc
  exact ⟨xs,h,rfl,⟨_,rfl,rfl⟩,hq⟩
 ·exact hc.elim
def aDf:Con:=fun args H Q=>uC [1] H args fun a=>tQ a H Q

theorem aU2:aO Tryd.prog glC 43 aDf:=by
 refine dW (c:=tQ) (bE (enters_of (by kernel_rfl)) aV fun args H Q hc => ?_) aV [1] yE
 unfold tQ at hc
 split at hc
 ·rename_i t l n
  obtain ⟨xs,⟨rfl,rfl,hl⟩,hq⟩:=hc
  obtain ⟨hv,hb',h⟩:=aPs t xs (hl:=hl) (Q:=fun o H' _=>H'=[]∧(∃v,o=.ret v∧old 0 v=true∧noY v=true)∧Q o H) ⟨rfl,⟨_,rfl,rfl,rfl⟩,hq⟩
  exact ⟨rfl,rfl,_,1000,aS aO1 _ _ _,rfl,h⟩
 ·exact hc.elim
end Go.Proofs.YtafchcmemeinlaaDoor

set_option linter.unusedSimpArgs false
set_option linter.unusedVariables false
namespace Go.Proofs.YtafchcmemeinlaaDoor
open Go.RowKit
set_option maxRecDepth 1000000

def aY6 (t:Nat) (xs:List Int):LInv where
 α:=Nat×Int
 pre p:=Lf (1≤xs.length∧xs.length≤64∧p.1≤xs.length∧(xs.take p.1).any (jI 16)=false ∧ -1≤p.2∧p.2≤32767∧aU (xs.getD 0 0) (-1) xs=aU (xs.getD 0 0) p.2 (xs.drop p.1))
 st p:=⟨mkT [(0,.lst t (aA xs) xs.length 1),(3,.int .i64 p.2),(4,.int .i64 p.1)],[]⟩
 mu p:=xs.length-p.1
noncomputable def aGm (hv:Nat→Option Pa) (hb:Nat→Option Bool) (t:Nat) (xs:List Int) (Q:Out→List Blk→Gh→Prop):Prop:=
 bH (e24 sm0 (fun i=>bif Nat.beq i 19000 then some (fun _=>[[aY6 t xs]]) else none) hv hb) (wpx (e24 sm0 (fun i=>bif Nat.beq i 19000 then some (fun _=>[[aY6 t xs]]) else none) hv hb) 1000) 19 [.lst t (aA xs) xs.length 1] [] {} Q
abbrev bB8:Out:=.ret (.bool Bool.false)
abbrev bMl (xs:List Int) (x_2:Nat×Int):Prop:=Lf (1≤xs.length∧xs.length≤64∧x_2.1≤xs.length∧List.any (xs.take x_2.1) (jI 16)=Bool.false ∧ -1≤x_2.2∧x_2.2≤32767∧aU (xs.getD 0 0) (-1) xs=aU (xs.getD 0 0) x_2.2 (xs.drop x_2.1))
theorem bM1 (t:Nat) (xs:List Int) (Q:Out→List Blk→Gh→Prop):aGm (bG [(77831,.int .i64),(77835,.int .i64),(77838,.int .i64),(77840,.int .i64),(77845,.int .i64),(77847,.int .i64),(77851,.int .i64),(77853,
 .int .i64),(77856,.int .i64),(77857,.int .i64),(77858,.int .i64),(77859,.int .i64),(77842,.int .i64),(77843,.int .i64)]) (bF []) t xs Q=(exI .i64 (xs.length:Int) (fun n_0=>bif decide (n_0<1) then Q bB8 [] {}
 else exI .i64 (xs.length:Int) (fun n_1=>bif decide (n_1>64) then Q bB8 [] {} else (∃x_2:Nat×Int,bMl xs x_2∧aK (AV.lst t (aA xs) xs.length 1)∧AV.int .i64 (-1)=AV.int .i64 x_2.2∧AV.int
 IntKind.i64 0=AV.int .i64 (x_2.1:Int)∧True)∧∀x_2:Nat×Int,bMl xs x_2→exI .i64 (x_2.1:Int) (fun n_3=>exI .i64 (xs.length:Int) (fun n_4=>bif decide (n_3<n_4) then exI .i64 (x_2.1:Int)
 (fun n_5=>ckQ (decide (0≤n_5)&&Nat.blt n_5.toNat xs.length&&Bool.true) (ckQ (Nat.blt (n_5.toNat*1) (aA xs).length) (exV IntKind.i64 ((aA xs).getD (n_5.toNat*1) AV.undef) (fun n_6=>bif decide (n_6≥0) then bif decide
 (n_6<65536) then exI .i64 (x_2.1:Int) (fun n_7=>ckQ (decide (0≤n_7)&&Nat.blt n_7.toNat xs.length&&Bool.true) (ckQ (Nat.blt (n_7.toNat*1) (aA xs).length) (exV IntKind.i64 ((aA xs).getD (n_7.toNat*1) AV.undef)
 (fun n_8=>ckQ (Nat.blt 0 xs.length&&Bool.true) (ckQ (Nat.blt 0 (aA xs).length) (exV IntKind.i64 ((aA xs).getD 0 AV.undef) (fun n_9=>exW .i64 (n_8-n_9) (fun n_10=>exW .i64 (n_10+65536) (fun n_11=>exI
 IntKind.i64 (n_11.tmod 65536) (fun n_12=>bif decide (n_12≤x_2.2) then Q bB8 [] {} else bif decide (n_12>32767) then Q bB8 [] {} else exI .i64 (x_2.1:Int) (fun n_13=>exW .i64 (n_13+1) (fun n_14=>(True∧(0 :
 Nat)=(0:Nat))∧∃y_15:Nat×Int,bMl xs y_15∧xs.length-y_15.1<xs.length-x_2.1∧aK (AV.lst t (aA xs) xs.length 1)∧AV.int .i64 n_12=AV.int .i64 y_15.2∧AV.int .i64 n_14=AV.int .i64
 (y_15.1:Int)∧True)))))))))))) else Q bB8 [] {} else Q bB8 [] {})))) else Q (.ret (.bool Bool.true)) [] {}))))):=by kernel_rfl

theorem tC (x:Int):jI 16 x=true↔x<0∨65536≤x:=by
 simp only[jI,Bool.or_eq_true,decide_eq_true_eq]
 have e:(2:Int)^min (16:Int).toNat 64=65536:=rfl
 rw[e,Int.fdiv_eq_ediv_of_nonneg _ (by omega),bne_iff_ne]
 omega

theorem aEs (t:Nat) (xs:List Int) (Q:Out→List Blk→Gh→Prop) (hl:xs.length≤4611686018427387904) (hq:Q (.ret (.bool (bV xs))) [] {}):∃hv hb,aGm hv hb t xs Q:=by
 obtain ⟨hv,hb',e⟩:∃hv hb,aGm hv hb t xs Q=_:=⟨_,_,bM1 t xs Q⟩
 refine ⟨hv,hb',e.mpr ?_⟩
 delta bB8 bMl
 clear e
 refine ⟨_,rfl, ?_⟩
 refine dV (fun h1 => ?_) (fun h1 => ?_)
 ·have:bV xs=false:=by
   simp only[decide_eq_true_eq] at h1
   have h0:¬ 1≤xs.length:=by omega
   simp only[bV,decide_eq_false h0,Bool.false_and]
  rw[this] at hq;exact hq
 refine ⟨_,rfl, ?_⟩
 refine dV (fun h2 => ?_) (fun h2 => ?_)
 ·have:bV xs=false:=by
   simp only[gt_iff_lt,decide_eq_true_eq] at h2
   have h0:¬ xs.length≤64:=by omega
   simp only[bV,decide_eq_false h0,Bool.false_and,Bool.and_false]
  rw[this] at hq;exact hq
 simp only[decide_eq_false_iff_not,gt_iff_lt,Int.not_lt] at h1 h2
 refine ⟨⟨(0, -1),⟨⟨by omega,by omega,by omega,by simp,by omega,by omega,by simp⟩⟩,by simp⟩, ?_⟩
 rintro ⟨i,far⟩ ⟨g1,g2,g3,g4,g5,g6,g7⟩
 simp only at g3 g4 g5 g6 g7
 refine ⟨_,rfl,_,rfl,dV (fun hlt => ?_) (fun hge => ?_)⟩
 ·have hlt':i<xs.length:=by simpa using hlt
  have hbad:∀j,(hj:j<xs.length)→jI 16 xs[j]=true→bV xs=false:=fun j hj hb=>by
   have:xs.any (jI 16)=true:=List.any_eq_true.2 ⟨xs[j],List.getElem_mem hj,hb⟩
   simp only[bV,this,Bool.not_true,Bool.and_false,Bool.false_and]
  have hgo:aU (xs.getD 0 0) (-1) xs=false→bV xs=false:=fun h=>by simp only[bV,h,Bool.and_false]
  have hx0:xs.getD 0 0=xs[0]:=by simp[show 0<xs.length by omega]
  refine ⟨_,rfl,ckI (by simp[Nat.blt];exact hlt') (ckI (aAx (by rw[fA];simpa using hlt')) (iN hlt' ?_ (by simp)))⟩
  refine dV (fun b1=>dV (fun b2 => ?_) (fun b2 => ?_)) (fun b1 => ?_)
  ·simp only[ge_iff_le,decide_eq_true_eq] at b1 b2
   have hbi:jI 16 xs[i]=false:=by
    cases h:jI 16 xs[i] with
    | false=>rfl
    | true=>have:=(tC _).1 h;omega
   have hstep:(xs.take (i+1)).any (jI 16)=false:=by
    rw[List.take_add_one,List.any_append,g4];simp[hlt',hbi]
   have b0:0≤xs[0]∧xs[0]<65536:=by
    have h0:jI 16 xs[0]=false:=by
     have:=List.any_eq_false.1 hstep xs[0] (by
      rw[List.mem_take_iff_getElem]
      exact ⟨0,by omega,rfl⟩)
     simpa using this
    have:¬ (xs[0]<0∨65536≤xs[0]):=fun h=>by rw[(tC _).2 h] at h0;cases h0
    omega
   refine ⟨_,rfl,ckI (by simp[Nat.blt];exact hlt') (ckI (aAx (by rw[fA];simpa using hlt')) (iN hlt' ?_ (by simp)))⟩
   refine ckI (by simp[Nat.blt];omega) (ckI (aAx (by rw[fA];omega)) (iN (show 0<xs.length by omega) ?_ rfl))
   refine aC (by omega) (by omega) (aC (by omega) (by omega) ⟨_,rfl, ?_⟩)
   have em:(xs[i]-xs[0]+65536).tmod 65536=(xs[i]-xs[0])%65536:=by
    rw[Int.tmod_eq_emod_of_nonneg (by omega)];omega
   rw[em]
   rw[List.drop_eq_getElem_cons hlt',aU,hx0] at g7
   refine dV (fun h4 => ?_) (fun h4=>dV (fun h5 => ?_) (fun h5 => ?_))
   ·rw[if_pos (.inl (by simpa using h4))] at g7
    rw[hgo (by rw[hx0];exact g7)] at hq;exact hq
   ·rw[if_pos (.inr (by simpa using h5))] at g7
    rw[hgo (by rw[hx0];exact g7)] at hq;exact hq
   ·simp only[decide_eq_false_iff_not,gt_iff_lt,Int.not_lt,Int.not_le] at h4 h5
    rw[if_neg (by omega)] at g7
    exact ⟨_,rfl,aC (by omega) (by omega) ⟨⟨trivial,rfl⟩,(i+1,(xs[i]-xs[0])%65536),⟨⟨g1,g2,hlt',hstep,by omega,h5,by rw[hx0];exact g7⟩⟩,Nat.sub_succ_lt_self _ _ hlt',by simp⟩⟩
  ·simp only[decide_eq_false_iff_not] at b2
   rw[hbad i hlt' ((tC _).2 (by omega))] at hq;exact hq
  ·simp only[ge_iff_le,decide_eq_false_iff_not] at b1
   rw[hbad i hlt' ((tC _).2 (by omega))] at hq;exact hq
 ·have hle:xs.length≤i:=by simpa using hge
  rw[List.drop_of_length_le hle,aU] at g7
  rw[List.take_of_length_le hle] at g4
  have:bV xs=true:=by
   simp only[bV,g4,g7,Bool.not_false,Bool.and_true]
   rw[decide_eq_true (by omega),decide_eq_true (by omega)];rfl
  rw[this] at hq;exact hq

theorem aHn:aO Tryd.prog glC 19 aDf:=by
 refine dW (c:=tQ) (bE (enters_of (by kernel_rfl)) aV fun args H Q hc => ?_) aV [1] yE
 unfold tQ at hc
 split at hc
 ·rename_i t l n
  obtain ⟨xs,⟨rfl,rfl,hl⟩,hq⟩:=hc
  obtain ⟨hv,hb',h⟩:=aEs t xs (hl:=hl) (Q:=fun o H' _=>H'=[]∧(∃v,o=.ret v∧old 0 v=true∧noY v=true)∧Q o H) ⟨rfl,⟨_,rfl,rfl,rfl⟩,hq⟩
  exact ⟨rfl,rfl,_,1000,aS fB _ _ _,rfl,h⟩
 ·exact hc.elim
end Go.Proofs.YtafchcmemeinlaaDoor
