/-
  Chapter 23: short, Check.
-/
import Derived.Test.YtnhechnaemmdiaaGreatDoorKnC
set_option linter.unusedSimpArgs false
set_option linter.unusedVariables false
namespace Go.Proofs.YtnhechnaemmdiaaGreatDoor.Md
open Go.RowKit
set_option maxRecDepth 1000000

abbrev Xt:=Int×List UInt8
def cellsXM:List Xt→List AV
 | []=>[]
 | x::l=>.int .i64 x.1::.str x.2::cellsXM l
def isLongM (x:Xt):Bool:=decide (x.1>14)||decide ((x.2.length:Int)=0)||decide ((x.2.length:Int)>16)
def shortM (l:List Xt):Bool := !l.any isLongM
theorem aZ:∀l,(cellsXM l).length=2*l.length
 | []=>rfl
 | x::l=>by simp[cellsXM,aZ l];omega
theorem uD:∀ (l:List Xt) (i:Nat),(cellsXM l).drop (2*i)=cellsXM (l.drop i)
 | l,0=>rfl
 | [],i+1=>by simp[cellsXM]
 | x::l,i+1=>by
  rw[show 2*(i+1)=2*i+2 by omega,cellsXM,List.drop_succ_cons,List.drop_succ_cons,uD l i,List.drop_succ_cons]
theorem sS {l:List Xt} {i m:Nat} (hi:i<l.length) (hm:m=2*i):List.take 2 (List.drop m (cellsXM l))=[.int .i64 l[i].1,.str l[i].2]:=by
 subst hm
 rw[uD,List.drop_eq_getElem_cons hi]
 rfl
theorem aWz {l:List Xt} {i m:Nat} (hi:i<l.length) (hm:m=i*2) {K:Int→List UInt8→Prop} (hk:K l[i].1 l[i].2):∃ (n:Int) (s:List UInt8),AV.agg (List.take 2 (List.drop m (cellsXM l)))=AV.agg [AV.int .i64 n,AV.str s]∧K n s:=
 ⟨_,_,by rw[sS hi (by omega)],hk⟩

def bGw (t:Nat) (ex:List Xt):LInv where
 α:=Nat
 pre i:=Lf (i≤ex.length∧(ex.take i).any isLongM=false)
 st i:=⟨mkT [(0,.lst t (cellsXM ex) ex.length 2),(1,.fn (.func 178) [] []),(7,.int .i64 ex.length),(8,.int .i64 (i:Nat))],[]⟩
 mu i:=ex.length-i
noncomputable def aW3 (hv:Nat→Option Pa) (hb:Nat→Option Bool) (t:Nat) (ex:List Xt):Env:=e23 sm0 (fun i=>bif Nat.beq i 222000 then some (fun _=>[[bGw t ex]]) else none) hv hb
noncomputable def uM (hv:Nat→Option Pa) (hb:Nat→Option Bool) (t:Nat) (ex:List Xt) (Q:Out→List Blk→Gh→Prop):Prop:=
 bC (aW3 hv hb t ex) (wpx (aW3 hv hb t ex) 1000) 134 [.lst t (cellsXM ex) ex.length 2] [] {} Q
abbrev bKw (x_1:Nat) (ex:List Xt):Prop:=Lf (x_1≤ex.length∧List.any (ex.take x_1) isLongM=false)
abbrev aXj (t:Nat) (ex:List Xt):Prop:=aN (AV.lst t (cellsXM ex) ex.length 2)
abbrev aWh (ex:List Xt):AV:=.int .i64 (ex.length:Int)
abbrev bKl (n_2:Int) (Q:Out→List Blk→Gh→Prop):Prop:=bif decide (n_2≥0) then Q (.ret (.bool false)) [] {} else Q (.ret (.bool true)) [] {}
abbrev bJt:Prop:=True∧(0:Nat)=(0:Nat)
theorem bIx (t:Nat) (ex:List Xt) (Q:Out→List Blk→Gh→Prop):uM (bH [(909319,.int .i64),(909322,.int .i64),(909327,.agg [(.int .i64),(.str)]),(729097,.int .i64),(729103,.int .i64),(909330,.int .i64)]) (bI []) t ex Q=(exI .i64 (ex.length:Int) (fun n_0=>(∃x_1:Nat,bKw x_1 ex∧aXj t ex∧aN (AV.fn (Fn.func 178) [] [])∧AV.int .i64 n_0=aWh ex∧AV.int .i64 0=AV.int .i64 (x_1:Int)∧True)∧∀x_1:Nat,bKw x_1 ex→bif decide ((x_1:Int)<(ex.length:Int)) then exI .i64 (x_1:Int) (fun n_2=>ckQ (decide (0≤n_2)&&Nat.blt n_2.toNat ex.length&&true) (ckQ (Nat.ble (n_2.toNat*2+2) (cellsXM ex).length) (∃n_3 s_4,AV.agg (((cellsXM ex).drop (n_2.toNat*2)).take 2)=AV.agg [.int .i64 n_3,.str s_4]∧bif decide (n_3>14) then bKl n_2 Q else exI .i64 (s_4.length:Int) (fun n_5=>bif n_5==0 then bKl n_2 Q else exI .i64 (s_4.length:Int) (fun n_6=>bif decide (n_6>16) then bKl n_2 Q else exW .i64 ((x_1:Int)+1) (fun n_7=>bJt∧∃y_8:Nat,bKw y_8 ex∧ex.length-y_8<ex.length-x_1∧aXj t ex∧aN (AV.fn (Fn.func 178) [] [])∧aN (aWh ex)∧AV.int .i64 n_7=AV.int .i64 (y_8:Int)∧True)))))) else Q (.ret (.bool true)) [] {})):=by kernel_rfl

def smF:SM:=eY [(176,aWj)]
theorem bHt:∀f g,smF f=some g→aG Tryz.prog gl0 f g:=bK _ (by simp only[List.mem_cons,List.not_mem_nil,or_false,forall_eq];exact bC4)
def extsOkM:Int→List Xt→Bool
 | _,[]=>true
 | last,x::l=>decide (last<x.1∧x.1≤255∧x.2.length≤255)&&extsOkM x.1 l
def iY (mk:Bool) (ty seq ti ss:Int) (tc:Nat) (cs:List Int) (tx:Nat) (ex:List Xt) (pad:Int) (pl:List UInt8):List AV:=[.bool mk,.int .i64 ty,.int .i64 seq,.int .i64 ti,.int .i64 ss,.lst tc (aC cs) cs.length 1,.lst tx (cellsXM ex) ex.length 2,.int .i64 pad,.str pl]
def flagsM (ty seq ti ss:Int) (cs:List Int) (n:Nat) (pad:Int):Bool:=decide (0≤ty∧ty≤127∧0≤seq∧seq≤65535∧0≤ti∧ti<4294967296∧0≤ss∧ss<4294967296∧(∀x∈cs,0≤x∧x<4294967296)∧0≤pad∧pad≤255∧cs.length≤15∧n≤16)
def aOo (mk:Bool) (ty seq ti ss:Int) (tc:Nat) (cs:List Int) (tx:Nat) (ex:List Xt) (pad:Int) (pl:List UInt8):LInv where
 α:=Nat×Bool
 pre p:=Lf (p.1≤ex.length∧p.2=(flagsM ty seq ti ss cs ex.length pad&&extsOkM 0 (ex.take p.1)))
 st p:=⟨mkT [(1,.ptr 0 9 0),(3,.bool p.2),(48,.lst tx (cellsXM ex) ex.length 2),(49,.int .i64 ex.length),(50,.int .i64 (p.1:Nat))],[⟨.exact,true,(iY mk ty seq ti ss tc cs tx ex pad pl)⟩]⟩
 mu p:=ex.length-p.1
noncomputable def aBu (hv:Nat→Option Pa) (hb:Nat→Option Bool) (mk:Bool) (ty seq ti ss:Int) (tc:Nat) (cs:List Int) (tx:Nat) (ex:List Xt) (pad:Int) (pl:List UInt8):Env := { e23 smF (fun i=>bif Nat.beq i 132000 then some (fun _=>[[aOo mk ty seq ti ss tc cs tx ex pad pl]]) else none) hv hb with hz:=fun k=>Nat.beq k 540680||Nat.beq k 540685||Nat.beq k 540693||Nat.beq k 540704 }
noncomputable def mE (hv:Nat→Option Pa) (hb:Nat→Option Bool) (mk:Bool) (ty seq ti ss:Int) (tc:Nat) (cs:List Int) (tx:Nat) (ex:List Xt) (pad:Int) (pl:List UInt8) (Q:Out→List Blk→Gh→Prop):Prop:=
 bC (aBu hv hb mk ty seq ti ss tc cs tx ex pad pl) (wpx (aBu hv hb mk ty seq ti ss tc cs tx ex pad pl) 1000) 132 [.agg (iY mk ty seq ti ss tc cs tx ex pad pl)] [] {} Q
abbrev bHh (x_0:Nat×Bool) (ex:List Xt) (ty seq ti ss:Int) (cs:List Int) (pad:Int):Prop:=Lf (x_0.1≤ex.length∧x_0.2=(flagsM ty seq ti ss cs ex.length pad&&extsOkM 0 (ex.take x_0.1)))
abbrev aYa (xs_5:List Int):Prop:=xs_5.length≤4611686018427387904
abbrev bKc (mk:Bool) (ty seq ti ss:Int) (tc:Nat) (cs:List Int) (tx:Nat) (ex:List Xt) (pad:Int) (pl:List UInt8):Prop:=aN [AV.bool mk,.int .i64 ty,.int .i64 seq,.int .i64 ti,.int .i64 ss,.lst tc (aC cs) cs.length 1,.lst tx (cellsXM ex) ex.length 2,.int .i64 pad,.str pl]
abbrev aM3:Prop:=aN (AV.ptr 0 9 0)
abbrev bOu (x_0:Nat×Bool) (ex:List Xt) (ty seq ti ss:Int) (cs:List Int) (pad:Int) (mk:Bool) (tc tx:Nat) (pl:List UInt8):Prop:=exW .i64 ((x_0.1:Int)+1) (fun n_6=>bJt∧∃y_7:Nat×Bool,Lf (y_7.1≤ex.length∧y_7.2=(flagsM ty seq ti ss cs ex.length pad&&extsOkM 0 (ex.take y_7.1)))∧ex.length-y_7.1<ex.length-x_0.1∧bKc mk ty seq ti ss tc cs tx ex pad pl∧aM3∧AV.bool true=AV.bool y_7.2∧aN (aWh ex)∧aN (AV.lst tx (cellsXM ex) ex.length 2)∧AV.int .i64 n_6=AV.int .i64 (y_7.1:Int)∧True)
abbrev bJj (x_0:Nat×Bool) (ex:List Xt) (ty seq ti ss:Int) (cs:List Int) (pad:Int) (mk:Bool) (tc tx:Nat) (pl:List UInt8):Prop:=exW .i64 ((x_0.1:Int)+1) (fun n_8=>bJt∧∃y_9:Nat×Bool,bHh y_9 ex ty seq ti ss cs pad∧ex.length-y_9.1<ex.length-x_0.1∧aN [AV.bool mk,.int .i64 ty,.int .i64 seq,.int .i64 ti,.int .i64 ss,.lst tc (aC cs) cs.length 1,.lst tx (cellsXM ex) ex.length 2,.int .i64 pad,.str pl]∧aM3∧AV.bool false=AV.bool y_9.2∧aN (aWh ex)∧aXj tx ex∧AV.int .i64 n_8=AV.int .i64 (y_9.1:Int)∧True)
def iA (mk:Bool) (ty:Int) (seq:Int) (ti:Int) (ss:Int) (tc:Nat) (cs:List Int) (tx:Nat) (ex:List Xt) (pad:Int) (pl:List UInt8) (Q:Out→List Blk→Gh→Prop):Prop:=
∀x_0:Nat×Bool,bHh x_0 ex ty seq ti ss cs pad→bif decide ((x_0.1:Int)<(ex.length:Int)) then exI .i64 (x_0.1:Int) (fun n_1=>ckQ (Nat.blt (x_0.1:Int).toNat ex.length&&true) (ckQ (Nat.ble ((x_0.1:Int).toNat*2+2) (cellsXM ex).length) (∃n_2 s_3,AV.agg (((cellsXM ex).drop ((x_0.1:Int).toNat*2)).take 2)=AV.agg [.int .i64 n_2,.str s_3]∧bif x_0.2 then exI .i64 (s_3.length:Int) (fun n_4=>∃xs_5:List Int,Lf ([AV.int .i64 n_2,.int .i64 n_4]=aC xs_5∧2=xs_5.length∧(0:Int)≤(8:Int)∧aYa xs_5)∧bif !List.any xs_5 (tJ 8) then bif decide (n_2>0) then bif n_1==0 then bOu x_0 ex ty seq ti ss cs pad mk tc tx pl else exW .i64 (n_1-1) (fun n_6=>ckQ (decide (0≤n_6)&&Nat.blt n_6.toNat ex.length&&true) (ckQ (Nat.blt (n_6.toNat*2+0) (cellsXM ex).length) (exV .i64 ((cellsXM ex).getD (n_6.toNat*2+0) AV.undef) (fun n_7=>bif decide (n_2>n_7) then bOu x_0 ex ty seq ti ss cs pad mk tc tx pl else bJj x_0 ex ty seq ti ss cs pad mk tc tx pl)))) else bJj x_0 ex ty seq ti ss cs pad mk tc tx pl else bJj x_0 ex ty seq ti ss cs pad mk tc tx pl) else bJj x_0 ex ty seq ti ss cs pad mk tc tx pl))) else bif x_0.2 then Q (.ret (.int .i64 0)) [] {} else Q (.ret (.int .i64 230)) [] {}
def mV (mk:Bool) (ty:Int) (seq:Int) (ti:Int) (ss:Int) (tc:Nat) (cs:List Int) (tx:Nat) (ex:List Xt) (pad:Int) (pl:List UInt8) (Q:Out→List Blk→Gh→Prop):Prop:=
exI .i64 (ex.length:Int) (fun n_0=>(∃x_1:Nat×Bool,bHh x_1 ex ty seq ti ss cs pad∧bKc mk ty seq ti ss tc cs tx ex pad pl∧aM3∧AV.bool false=AV.bool x_1.2∧AV.int .i64 n_0=aWh ex∧aXj tx ex∧AV.int .i64 0=AV.int .i64 (x_1.1:Int)∧True)∧iA mk ty seq ti ss tc cs tx ex pad pl Q)
theorem aZb (mk:Bool) (ty:Int) (seq:Int) (ti:Int) (ss:Int) (tc:Nat) (cs:List Int) (tx:Nat) (ex:List Xt) (pad:Int) (pl:List UInt8) (Q:Out→List Blk→Gh→Prop):mE (bH [(540710,.int .i64),(540716,.int
 .i64),(540721,.int .i64),(540724,.int .i64),(540726,.agg [(.int .i64),(.str)]),(540733,.int .i64),(540758,.int .i64),(540751,.int .i64),(540754,.int .i64)]) (bI []) mk ty seq ti ss tc cs tx ex pad pl Q=(∃xs_0:List
 Int,Lf ([AV.int .i64 ty]=aC xs_0∧1=xs_0.length∧(0:Int)≤(7:Int)∧aYa xs_0)∧bif !List.any xs_0 (tJ 7) then ∃xs_1:List Int,Lf ([AV.int .i64 seq]=aC xs_1∧1=xs_1.length∧(0:Int)≤(16:Int)∧aYa
 xs_1)∧bif !List.any xs_1 (tJ 16) then ∃xs_2:List Int,Lf ([AV.int .i64 ti,.int .i64 ss]=aC xs_2∧2=xs_2.length∧(0:Int)≤(32:Int)∧aYa xs_2)∧bif !List.any xs_2 (tJ 32) then ∃xs_3:List Int,Lf (aC cs =
 aC xs_3∧cs.length=xs_3.length∧(0:Int)≤(32:Int)∧aYa xs_3)∧bif !List.any xs_3 (tJ 32) then ∃xs_4:List Int,Lf ([AV.int .i64 pad]=aC xs_4∧1=xs_4.length∧(0:Int)≤(8:Int)∧aYa xs_4)∧bif !List.any
 xs_4 (tJ 8) then exI .i64 (cs.length:Int) (fun n_5=>bif decide (n_5≤15) then exI .i64 (ex.length:Int) (fun n_6=>bif decide (n_6≤16) then exI .i64 (ex.length:Int) (fun n_7=>(∃x_8:Nat×Bool,bHh x_8 ex ty seq ti ss cs
 pad∧bKc mk ty seq ti ss tc cs tx ex pad pl∧aM3∧AV.bool true=AV.bool x_8.2∧AV.int .i64 n_7=aWh ex∧aXj tx ex∧AV.int .i64 0=AV.int .i64 (x_8.1:Int)∧True)∧iA mk ty seq ti ss tc cs tx ex pad pl Q) else mV
 mk ty seq ti ss tc cs tx ex pad pl Q) else mV mk ty seq ti ss tc cs tx ex pad pl Q) else mV mk ty seq ti ss tc cs tx ex pad pl Q else mV mk ty seq ti ss tc cs tx ex pad pl Q else mV mk ty seq ti ss tc cs tx ex pad pl Q
 else mV mk ty seq ti ss tc cs tx ex pad pl Q else mV mk ty seq ti ss tc cs tx ex pad pl Q):=by kernel_rfl

theorem aKj (t:Nat) (ex:List Xt) (hx:ex.length≤1000000) (hd:∀x∈ex,x.2.length≤4611686018427387904) (Q:Out→List Blk→Gh→Prop) (hq:Q (.ret (.bool (shortM ex))) [] {}):∃hv hb,uM hv hb t ex Q:=by
 obtain ⟨hv,hb',e⟩:∃hv hb,uM hv hb t ex Q=_:=⟨_,_,bIx t ex Q⟩
 refine ⟨hv,hb',e.mpr ?_⟩
 delta bKw aXj aWh bKl bJt
 clear e
 refine ⟨_,rfl,⟨0,⟨by omega,by simp⟩,rfl,rfl,rfl,rfl,trivial⟩, ?_⟩
 rintro i ⟨hi,hany⟩
 refine aF (fun hlt => ?_) (fun hge => ?_)
 ·have hlt':i<ex.length:=by omega
  have hdi:=hd ex[i] (List.getElem_mem hlt')
  have hstep:(ex.take (i+1)).any isLongM=isLongM ex[i]:=by
   rw[List.take_add_one,List.any_append,hany];simp[hlt']
  have hbad:isLongM ex[i]=true→shortM ex=false:=fun h=>by
   have:ex.any isLongM=true:=List.any_eq_true.2 ⟨ex[i],List.getElem_mem _,h⟩
   rw[shortM,this];rfl
  refine ⟨_,rfl,ckI (by simp;omega) (ckI (by rw[aZ];simp;omega) (aWz hlt' (by simp) ?_))⟩
  refine aF (fun h1=>aF (fun _ => ?_) (fun h=>by exfalso;omega)) (fun h1=>⟨_,rfl,aW (fun h2=>aF (fun _ => ?_) (fun h=>by exfalso;omega)) (fun h2=>⟨_,rfl,aF (fun h3=>aF (fun _ => ?_) (fun h=>by exfalso;omega)) (fun h3 => ?_)⟩)⟩)
  ·rw[←hbad (by simp[isLongM,h1])];exact hq
  ·rw[←hbad (by simp only[isLongM,decide_eq_true h2,Bool.or_true,Bool.true_or])];exact hq
  ·rw[←hbad (by simp only[isLongM,decide_eq_true h3,Bool.or_true])];exact hq
  ·refine aI (by omega) (by omega) ⟨⟨trivial,rfl⟩,i+1,⟨hlt', ?_⟩,by omega,rfl,rfl,rfl,rfl,trivial⟩
   rw[hstep]
   simp only[isLongM,decide_eq_false h1,decide_eq_false h2,decide_eq_false h3,Bool.or_false]
 ·have hle:i=ex.length:=by omega
  subst hle
  rw[List.take_length] at hany
  have:shortM ex=true:=by rw[shortM,hany];rfl
  rw[←this];exact hq
theorem wX {bits P:Int} (hP:(2:Int)^min bits.toNat 64=P) (h0:0<P) (n:Int):tJ bits n = !decide (0≤n∧n<P):=by
 unfold tJ
 rw[hP,Int.fdiv_eq_ediv_of_nonneg _ (by omega)]
 by_cases h:n<0
 ·rw[decide_eq_true h,decide_eq_false (by omega)];rfl
 ·rw[decide_eq_false h,Bool.false_or]
  by_cases h2:n<P
  ·rw[decide_eq_true ⟨by omega,h2⟩,Int.ediv_eq_zero_of_lt (by omega) h2];rfl
  ·rw[decide_eq_false (by omega)]
   have:n/P≠0:=by
    intro h3
    have h4:=Int.emod_add_mul_ediv n P
    have h5:=Int.emod_lt_of_pos n h0
    rw[h3] at h4
    omega
   simpa using this
theorem aXv {bits P n:Int} (hP:(2:Int)^min bits.toNat 64=P) (h0:0<P) {A B:Prop} (h:0≤n∧n<P→A) (k:¬ (0≤n∧n<P)→B):bif !(List.any [n] (tJ bits)) then A else B:=by
 rw[List.any_cons,List.any_nil,Bool.or_false,wX hP h0,Bool.not_not]
 exact aF h k
theorem bD8 {bits P n m:Int} (hP:(2:Int)^min bits.toNat 64=P) (h0:0<P) {A B:Prop} (h:(0≤n∧n<P)∧0≤m∧m<P→A) (k:¬ ((0≤n∧n<P)∧0≤m∧m<P)→B):bif !(List.any [n,m] (tJ bits)) then A else B:=by
 rw[List.any_cons,List.any_cons,List.any_nil,Bool.or_false,wX hP h0,wX hP h0]
 have e:(!(!decide (0≤n∧n<P) || !decide (0≤m∧m<P)))=decide ((0≤n∧n<P)∧0≤m∧m<P):=by rw[Bool.eq_iff_iff];simp
 rw[e]
 exact aF h k
theorem bLf {bits P:Int} {l:List Int} (hP:(2:Int)^min bits.toNat 64=P) (h0:0<P) {A B:Prop} (h:(∀x∈l,0≤x∧x<P)→A) (k:¬ (∀x∈l,0≤x∧x<P)→B):bif !(List.any l (tJ bits)) then A else B:=by
 have e:(!(List.any l (tJ bits)))=decide (∀x∈l,0≤x∧x<P):=by
  rw[Bool.eq_iff_iff,decide_eq_true_eq]
  simp only[Bool.not_eq_true',List.any_eq_false,wX hP h0,Bool.not_eq_true',Bool.not_eq_true,decide_eq_true_eq]
  constructor
  ·intro hh x hx
   have:=hh x hx
   simpa using this
  ·intro hh x hx
   have:=hh x hx
   simpa using this
 rw[e]
 exact aF h k
def gF (a:Int):List Xt→Int
 | []=>a
 | x::l=>gF x.1 l
theorem aBt (x:Xt):∀ (l:List Xt) (a:Int),extsOkM a (l++[x])=(extsOkM a l&&decide (gF a l<x.1∧x.1≤255∧x.2.length≤255))
 | [],a=>by rw[List.nil_append,extsOkM,extsOkM,extsOkM,gF,Bool.and_true,Bool.true_and]
 | y::l,a=>by rw[List.cons_append,extsOkM,aBt x l y.1,extsOkM,gF,Bool.and_assoc]
theorem aAz:∀ (l:List Xt) (a:Int),extsOkM a l=true→a≤gF a l
 | [],a,_=>Int.le_refl _
 | y::l,a,h=>by
  rw[extsOkM,Bool.and_eq_true,decide_eq_true_eq] at h
  have:=aAz l y.1 h.2
  rw[gF];omega
theorem aCx:∀ (l:List Xt) (a:Int) (i:Nat) (h:i<l.length),gF a (l.take (i+1))=l[i].1
 | x::l,a,0,_=>rfl
 | x::l,a,i+1,h=>by
  rw[List.take_succ_cons,gF,aCx l x.1 i (by simpa using h)]
  rfl
theorem aL6 {ex:List Xt} {i:Nat} (hi:i<ex.length):extsOkM 0 (ex.take (i+1))=(extsOkM 0 (ex.take i)&&decide (gF 0 (ex.take i)<ex[i].1∧ex[i].1≤255∧ex[i].2.length≤255)):=by
 rw[←aBt,List.take_add_one,List.getElem?_eq_getElem hi]
 rfl
theorem bNc {l:List Xt} {i m:Nat} (hi:i<l.length) (hm:m=i*2+0) {K:Int→Prop} (hk:K l[i].1):∃n:Int,(cellsXM l).getD m AV.undef=AV.int .i64 n∧K n:=by
 refine ⟨_, ?_,hk⟩
 subst hm
 have e:=sS hi (m:=i*2) (by omega)
 have:((cellsXM l).drop (i*2))[0]? = some (AV.int .i64 l[i].1):=by
  have h2:(List.take 2 (List.drop (i*2) (cellsXM l)))[0]? = some (AV.int .i64 l[i].1):=by rw[e];rfl
  rwa [List.getElem?_take,if_pos (by omega)] at h2
 rw[List.getElem?_drop] at this
 rw[List.getD_eq_getElem?_getD,this]
 rfl
def rightM (ty seq ti ss:Int) (cs:List Int) (ex:List Xt) (pad:Int):Bool:=flagsM ty seq ti ss cs ex.length pad&&extsOkM 0 ex
theorem aI4 {ty seq ti ss:Int} {cs:List Int} {tx:Nat} {ex:List Xt} {pad:Int} {i:Nat} (hi:i<ex.length) (b:Bool) (hb:b=(flagsM ty seq ti ss cs ex.length pad&&extsOkM 0 (ex.take (i+1)))) {cells:List AV} :
  (True∧(0:Nat)=0)∧∃y:Nat×Bool,Lf (y.1≤ex.length∧y.2=(flagsM ty seq ti ss cs ex.length pad&&extsOkM 0 (ex.take y.1)))∧ex.length-y.1<ex.length-i∧cells=cells∧AV.ptr 0 9 0=AV.ptr 0 9 0∧AV.bool b=AV.bool y.2∧AV.int .i64 (ex.length:Int)=AV.int .i64 (ex.length:Int)∧AV.lst tx (cellsXM ex) ex.length 2=AV.lst tx (cellsXM ex) ex.length 2∧AV.int .i64 ((i:Int)+1)=AV.int .i64 (y.1:Int)∧True:=
 ⟨⟨trivial,rfl⟩,(i+1,b),⟨hi,hb⟩,by dsimp only;omega,rfl,rfl,rfl,rfl,rfl,rfl,trivial⟩
theorem bEn (mk:Bool) (ty seq ti ss:Int) (tc:Nat) (cs:List Int) (tx:Nat) (ex:List Xt) (pad:Int) (pl:List UInt8) (hex:ex.length≤1000000) (hd:∀x∈ex,x.2.length≤4611686018427387904) (Q:Out→List Blk→Gh→Prop)
  (hT:rightM ty seq ti ss cs ex pad=true→Q (.ret (.int .i64 0)) [] {}) (hF:rightM ty seq ti ss cs ex pad=false→Q (.ret (.int .i64 230)) [] {}):iA mk ty seq ti ss tc cs tx ex pad pl Q:=by
 rintro ⟨i,b⟩ ⟨hi,hbq⟩
 dsimp only at hi hbq ⊢
 refine aF (fun hlt => ?_) (fun hge => ?_)
 ·have hlt':i<ex.length:=by omega
  have hdi:=hd ex[i] (List.getElem_mem hlt')
  refine ⟨_,rfl,ckI (by simp;omega) (ckI (by rw[aZ];simp;omega) (aWz hlt' (by simp) ?_))⟩
  have et:=aL6 hlt'
  have key:∀b',b'=(b&&decide (gF 0 (ex.take i)<ex[i].1∧ex[i].1≤255∧ex[i].2.length≤255))→b'=(flagsM ty seq ti ss cs ex.length pad&&extsOkM 0 (ex.take (i+1))):=fun b' hb=>by rw[hb,hbq,et,Bool.and_assoc]
  cases b
  ·exact aI (by omega) (by omega) (aI4 hlt' false (key _ (by rw[Bool.false_and])))
  ·have hx0:extsOkM 0 (ex.take i)=true:=by
    have:=hbq.symm
    rw[Bool.and_eq_true] at this
    exact this.2
   have hl0:=aAz _ _ hx0
   have hl1:i=0→gF 0 (ex.take i)=0:=fun e=>by rw[e];rfl
   have hl2:∀ (k:Nat) (hk:k<ex.length),i=k+1→gF 0 (ex.take i)=ex[k].1:=fun k hk e=>by subst e;exact aCx ex 0 k hk
   refine ⟨_,rfl,[ex[i].1,(ex[i].2.length:Int)],⟨rfl,rfl,by omega,by simp⟩,bD8 (P:=256) rfl (by decide) (fun g1=>aF (fun g2=>aW (fun g3 => ?_) (fun g3=>aI (by omega) (by omega) (ckI (by simp;omega) (ckI (by rw[aZ];simp;omega) (bNc (i:=i-1) (by omega) (by omega) (aF (fun g4 => ?_) (fun g4 => ?_))))))) (fun g2 => ?_)) (fun g1 => ?_)⟩
   ·exact aI (by omega) (by omega) (aI4 hlt' true (key _ (by rw[Bool.true_and,decide_eq_true ⟨by rw[hl1 (by omega)];omega,by omega,by omega⟩])))
   ·exact aI (by omega) (by omega) (aI4 hlt' true (key _ (by rw[Bool.true_and,decide_eq_true ⟨by rw[hl2 (i-1) (by omega) (by omega)];omega,by omega,by omega⟩])))
   ·exact aI (by omega) (by omega) (aI4 hlt' false (key _ (by rw[Bool.true_and,decide_eq_false (fun hh=>g4 (by rw[hl2 (i-1) (by omega) (by omega)] at hh;omega))])))
   ·exact aI (by omega) (by omega) (aI4 hlt' false (key _ (by rw[Bool.true_and,decide_eq_false (fun hh=>by omega)])))
   ·exact aI (by omega) (by omega) (aI4 hlt' false (key _ (by rw[Bool.true_and,decide_eq_false (fun hh=>by omega)])))
 ·have hle:i=ex.length:=by omega
  subst hle
  rw[List.take_length] at hbq
  cases b
  ·exact hF hbq.symm
  ·exact hT hbq.symm
theorem sO (mk:Bool) (ty seq ti ss:Int) (tc:Nat) (cs:List Int) (tx:Nat) (ex:List Xt) (pad:Int) (pl:List UInt8) (hcs:cs.length≤1000000) (hex:ex.length≤1000000) (hd:∀x∈ex,x.2.length≤4611686018427387904) (Q:Out→List Blk→Gh→Prop)
  (hT:rightM ty seq ti ss cs ex pad=true→Q (.ret (.int .i64 0)) [] {}) (hF:rightM ty seq ti ss cs ex pad=false→Q (.ret (.int .i64 230)) [] {}):∃hv hb,mE hv hb mk ty seq ti ss tc cs tx ex pad pl Q:=by
 obtain ⟨hv,hb',e⟩:∃hv hb,mE hv hb mk ty seq ti ss tc cs tx ex pad pl Q=_:=⟨_,_,aZb mk ty seq ti ss tc cs tx ex pad pl Q⟩
 refine ⟨hv,hb',e.mpr ?_⟩
 delta aYa bHh bKc aM3 aWh aXj
 clear e
 refine ⟨[ty],⟨rfl,rfl,by omega,by simp⟩,aXv (P:=128) rfl (by decide) (fun h1=>⟨[seq],⟨rfl,rfl,by omega,by simp⟩,aXv (P:=65536) rfl (by decide) (fun h2=>⟨[ti,ss],⟨rfl,rfl,by omega,by simp⟩,bD8 (P:=4294967296) rfl (by decide) (fun h3=>⟨cs,⟨rfl,rfl,by omega,by omega⟩,bLf (P:=4294967296) rfl (by decide) (fun h4=>⟨[pad],⟨rfl,rfl,by omega,by simp⟩,aXv (P:=256) rfl (by decide) (fun h5=>⟨_,rfl,aF (fun h6=>⟨_,rfl,aF (fun h7 => ?_) (fun h7 => ?_)⟩) (fun h6 => ?_)⟩) (fun h5 => ?_)⟩) (fun h4 => ?_)⟩) (fun h3 => ?_)⟩) (fun h2 => ?_)⟩) (fun h1 => ?_)⟩
 all_goals first
  | refine ⟨_,rfl,⟨(0,true),⟨Nat.zero_le _,by
    rw[List.take_zero,extsOkM,Bool.and_true]
    exact (decide_eq_true ⟨by omega,by omega,by omega,by omega,by omega,by omega,by omega,by omega,h4,by omega,by omega,by omega,by omega⟩).symm⟩,rfl,rfl,rfl,rfl,rfl,rfl,trivial⟩, ?_⟩
  | refine ⟨_,rfl,⟨(0,false),⟨Nat.zero_le _,by
    rw[List.take_zero,extsOkM,Bool.and_true]
    refine (decide_eq_false fun hh => ?_).symm
    obtain ⟨a1,a2,a3,a4,a5,a6,a7,a8,a9,a10,a11,a12,a13⟩:=hh
    first | exact h4 a9 | omega⟩,rfl,rfl,rfl,rfl,rfl,rfl,trivial⟩, ?_⟩
 all_goals exact bEn mk ty seq ti ss tc cs tx ex pad pl hex hd Q hT hF
def dataM (ex:List Xt):Prop:=∀x∈ex,x.2.length≤4611686018427387904
def aB5:Con
 | [.lst _ l n 2],H,K=>∃ex:List Xt,Lf (l=cellsXM ex∧n=ex.length∧ex.length≤1000000∧dataM ex)∧K (.ret (.bool (shortM ex))) H
 | _,_,_=>False
theorem aHs:aG Tryz.prog gl0 134 aB5:=by
 refine aT (enters_of (by kernel_rfl)) aQ fun args H Q hc => ?_
 unfold aB5 at hc
 split at hc
 ·rename_i t l n
  obtain ⟨ex,⟨rfl,rfl,hl,hd⟩,hq⟩:=hc
  obtain ⟨hv,hb',h⟩:=aKj t ex hl hd (fun o H' _=>H'=[]∧(∃v,o=.ret v∧old 0 v=true∧noY v=true)∧Q o H) ⟨rfl,⟨_,rfl,rfl,rfl⟩,hq⟩
  exact ⟨rfl,rfl,_,1000,aGt cB _ _ _,rfl,h⟩
 ·exact hc.elim
def pV:Con
 | [.agg [.bool mk,.int .i64 ty,.int .i64 seq,.int .i64 ti,.int .i64 ss,.lst _ c5 n5 1,.lst _ c6 n6 2,.int .i64 pad,.str pl]],H,K=>∃ (cs:List Int) (ex:List Xt),Lf (c5=aC cs∧n5=cs.length∧c6=cellsXM ex∧n6=ex.length∧cs.length≤1000000∧ex.length≤1000000∧dataM ex)∧∀r:Int,Lf (r=if rightM ty seq ti ss cs ex pad=true then 0 else 230)→K (.ret (.int .i64 r)) H
 | _,_,_=>False
theorem rD:aG Tryz.prog gl0 132 pV:=by
 refine aT (enters_of (by kernel_rfl)) aQ fun args H Q hc => ?_
 unfold pV at hc
 split at hc
 ·rename_i mk ty seq ti ss tc c5 n5 tx c6 n6 pad pl
  obtain ⟨cs,ex,⟨rfl,rfl,rfl,rfl,h1,h2,hd⟩,hq⟩:=hc
  obtain ⟨hv,hb',h⟩:=sO mk ty seq ti ss tc cs tx ex pad pl h1 h2 hd (fun o H' _=>H'=[]∧(∃v,o=.ret v∧old 0 v=true∧noY v=true)∧Q o H) (fun hr=>⟨rfl,⟨_,rfl,rfl,rfl⟩,hq _ ⟨by rw[if_pos hr]⟩⟩) (fun hr=>⟨rfl,⟨_,rfl,rfl,rfl⟩,hq _ ⟨by rw[hr];rfl⟩⟩)
  refine ⟨rfl,rfl,_,1000, ?_,rfl,h⟩
  exact ⟨dZ,dY,cZ,bHt⟩
 ·exact hc.elim
def fstM (cs:List Int) (n:Nat) (pad:Int):Int:=128+cs.length+(if 0<pad then 32 else 0)+(if 0<n then 16 else 0)
def kindM (mk:Bool) (ty:Int):Int:=ty+(if mk=true then 128 else 0)
def headBM (mk:Bool) (ty seq ti ss:Int) (cs:List Int) (n:Nat) (pad:Int):List UInt8:=putM 1 [fstM cs n pad,kindM mk ty]++putM 2 [seq]++putM 4 [ti,ss]++putM 4 cs
def extBM (sh:Bool):List Xt→List UInt8
 | []=>[]
 | x::l=>(if sh=true then putM 1 [x.1*16+(x.2.length-1)] else putM 1 [x.1,(x.2.length:Int)])++x.2++extBM sh l
def zerosM (n:Nat):List UInt8:=List.replicate ((4-n%4)%4) 0
def profM (sh:Bool):Int:=if sh=true then 48862 else 4096
def extPM (ex:List Xt):List UInt8:=extBM (shortM ex) ex++zerosM (extBM (shortM ex) ex).length
def headM (mk:Bool) (ty seq ti ss:Int) (cs:List Int) (ex:List Xt) (pad:Int):List UInt8:=headBM mk ty seq ti ss cs ex.length pad++(if ex.length=0 then [] else putM 2 [profM (shortM ex),((extPM ex).length/4:Nat)]++extPM ex)
def eD (ex:List Xt):List AV:=(cellsXM ex).take 2
def smG:SM:=eY [(89,bJ8),(134,aB5)]
theorem aLy:∀f g,smG f=some g→aG Tryz.prog gl0 f g:=bK _ (by simp only[List.mem_cons,List.not_mem_nil,or_false,forall_eq_or_imp,forall_eq];exact ⟨put_raw,aHs⟩)
def aO2 (sh:Bool) (mk:Bool) (ty seq ti ss:Int) (tc:Nat) (cs:List Int) (tx:Nat) (ex:List Xt) (pad:Int) (pl:List UInt8):LInv where
 α:=Nat
 pre i:=Lf (i=0∧sh=shortM ex)
 st i:=⟨mkT [(5,.sl 1 (headBM mk ty seq ti ss cs ex.length pad).length 0 (headBM mk ty seq ti ss cs ex.length pad).length 1),(6,.nils),(7,.int .i64 (bif sh then 48862 else 4096)),(60,.lst tx (cellsXM ex) ex.length 2),(61,.int .i64 ex.length),(62,.int .i64 (i:Nat))],[⟨.exact,true,(iY mk ty seq ti ss tc cs tx ex pad pl)⟩,⟨.grow,true,ofBytes (headBM mk ty seq ti ss cs ex.length pad)⟩]⟩
 mu i:=ex.length+1
def aPe (sh:Bool) (mk:Bool) (ty seq ti ss:Int) (tc:Nat) (cs:List Int) (tx:Nat) (ex:List Xt) (pad:Int) (pl:List UInt8):LInv where
 α:=Nat
 pre i:=Lf (1≤i∧i≤ex.length∧sh=shortM ex)
 st i:=⟨mkT [(5,.sl 1 (headBM mk ty seq ti ss cs ex.length pad).length 0 (headBM mk ty seq ti ss cs ex.length pad).length 1),(6,.sl 3 (extBM sh (ex.take i)).length 0 (extBM sh (ex.take i)).length 1),(7,.int .i64 (bif sh then 48862 else 4096)),(60,.lst tx (cellsXM ex) ex.length 2),(61,.int .i64 ex.length),(62,.int .i64 (i:Nat))],[⟨.exact,true,(iY mk ty seq ti ss tc cs tx ex pad pl)⟩,⟨.grow,true,ofBytes (headBM mk ty seq ti ss cs ex.length pad)⟩,⟨.exact,true,eD ex⟩,⟨.grow,true,ofBytes (extBM sh (ex.take i))⟩]⟩
 mu i:=ex.length-i
def aF1 (mk:Bool) (ty seq ti ss:Int) (tc:Nat) (cs:List Int) (tx:Nat) (ex:List Xt) (pad:Int) (pl:List UInt8) (s:S):List (List LInv):=match s.tm.get 7 with
 | .int _ p=>bif p==48862 then [[aO2 true mk ty seq ti ss tc cs tx ex pad pl,aPe true mk ty seq ti ss tc cs tx ex pad pl]] else [[aO2 false mk ty seq ti ss tc cs tx ex pad pl,aPe false mk ty seq ti ss tc cs tx ex pad pl]]
 | _=>[]
noncomputable def aW1 (hv:Nat→Option Pa) (hb:Nat→Option Bool) (mk:Bool) (ty seq ti ss:Int) (tc:Nat) (cs:List Int) (tx:Nat) (ex:List Xt) (pad:Int) (pl:List UInt8):Env := { e23 smG (fun i=>bif Nat.beq i 133000 then some (aF1 mk ty seq ti ss tc cs tx ex pad pl) else none) hv hb with hz:=fun k=>[544801,544806,544813,544845,544853,544871].any (Nat.beq k) }
noncomputable def mR (hv:Nat→Option Pa) (hb:Nat→Option Bool) (mk:Bool) (ty seq ti ss:Int) (tc:Nat) (cs:List Int) (tx:Nat) (ex:List Xt) (pad:Int) (pl:List UInt8) (Q:Out→List Blk→Gh→Prop):Prop:=
 bC (aW1 hv hb mk ty seq ti ss tc cs tx ex pad pl) (wpx (aW1 hv hb mk ty seq ti ss tc cs tx ex pad pl) 1000) 133 [.agg (iY mk ty seq ti ss tc cs tx ex pad pl)] [] {} Q
abbrev qE (mk:Bool) (ty seq ti ss:Int) (cs:List Int) (ex:List Xt) (pad:Int):List AV:=ofBytes (headBM mk ty seq ti ss cs ex.length pad)
def mI (mk:Bool) (ty:Int) (seq:Int) (ti:Int) (ss:Int) (tc:Nat) (cs:List Int) (tx:Nat) (ex:List Xt) (pad:Int) (pl:List UInt8):Prop:=
aN (iY mk ty seq ti ss tc cs tx ex pad pl)∧aN (qE mk ty seq ti ss cs ex pad)∧False
def aNl (mk:Bool) (ty:Int) (seq:Int) (ti:Int) (ss:Int) (tc:Nat) (cs:List Int) (tx:Nat) (ex:List Xt) (pad:Int) (pl:List UInt8):Prop:=
ex.length+1<ex.length+1∧mI mk ty seq ti ss tc cs tx ex pad pl
abbrev aH1 (y_0:Nat) (ex:List Xt):Prop:=Lf (y_0=0∧true=shortM ex)
def aN2 (mk:Bool) (ty:Int) (seq:Int) (ti:Int) (ss:Int) (tc:Nat) (cs:List Int) (tx:Nat) (ex:List Xt) (pad:Int) (pl:List UInt8):Prop:=
∃y_0:Nat,aH1 y_0 ex∧aNl mk ty seq ti ss tc cs tx ex pad pl
abbrev oC (n_3:Int):Nat:=(n_3%18446744073709551616).toNat
abbrev aPw (xs_7:List Int):Prop:=(1:Int)≤(1:Int)∧(1:Int)≤(7:Int)∧1≤xs_7.length∧xs_7.length≤1000000
abbrev nJ (xs_7:List Int):Nat:=(putM 1 xs_7).length
abbrev aId:Prop:=True∧(0:Nat)=(0:Nat)
abbrev aD5 (y_9:Nat) (ex:List Xt):Prop:=Lf (1≤y_9∧y_9≤ex.length∧true=shortM ex)
abbrev bJm (y_9:Nat) (ex:List Xt):List UInt8:=extBM true (ex.take y_9)
abbrev aJ6 (y_9:Nat) (ex:List Xt):List AV:=ofBytes (bJm y_9 ex)
abbrev aLq:Prop:=aN (AV.int .i64 48862)
abbrev aN3 (mk:Bool) (ty seq ti ss:Int) (cs:List Int) (ex:List Xt) (pad:Int):Prop:=aN (AV.sl 1 (headBM mk ty seq ti ss cs ex.length pad).length 0 (headBM mk ty seq ti ss cs ex.length pad).length 1)
abbrev aL9 (ex:List Xt):Prop:=aN (AV.int .i64 (ex.length:Int))
abbrev aOi (tx:Nat) (ex:List Xt):Prop:=aN (AV.lst tx (cellsXM ex) ex.length 2)
abbrev kU (y_9:Nat) (ex:List Xt):Nat:=(bJm y_9 ex).length
abbrev aM0 (y_9:Nat) (ex:List Xt):AV:=.sl 3 (kU y_9 ex) 0 (kU y_9 ex) 1
abbrev aLr (n_8:Int) (y_9:Nat):Prop:=AV.int .i64 n_8=AV.int .i64 (y_9:Int)∧True
abbrev aYh (n_3:Int):Bool:=decide (0≤n_3)&&decide (n_3≤1099511627776)&&fJ (List.replicate n_3.toNat [AV.int .u8 0]).flatten&&true&&Nat.ble (n_3.toNat*1) 1099511627776
abbrev kJ (mk:Bool) (ty seq ti ss:Int) (tc:Nat) (cs:List Int) (tx:Nat) (ex:List Xt) (pad:Int) (pl:List UInt8):Blk:=Blk.mk BK.exact true (iY mk ty seq ti ss tc cs tx ex pad pl)
abbrev uX (bs_6:List UInt8):Blk:=Blk.mk BK.grow true (ofBytes bs_6)
abbrev aTp (xs_8:List Int):Prop:=(1:Int)≤(2:Int)∧(2:Int)≤(7:Int)∧xs_8.length≤1000000
abbrev bIo (mk:Bool) (ty seq ti ss:Int) (cs:List Int) (ex:List Xt) (pad:Int) (bs_6:List UInt8) (n_5:Int) (xs_7:List Int):Prop:=(headBM mk ty seq ti ss cs ex.length pad).length=bs_6.length∧(headBM mk ty seq ti ss cs ex.length pad).length=bs_6.length∧bs_6.length≤1000000∧[AV.int .i64 48862,.int .i64 n_5]=aC xs_7∧2=xs_7.length∧aTp xs_7
abbrev bDu (bs_6:List UInt8) (xs_7:List Int):Bool:=Nat.beq (ofBytes (bs_6++putM 2 xs_7)).length (bs_6++putM 2 xs_7).length&&true
abbrev vN (bs_6:List UInt8) (xs_7:List Int):Nat:=(bs_6++putM 2 xs_7).length
abbrev aK2 (bs_6:List UInt8) (xs_7:List Int):Out:=.ret (.sl 1 (vN bs_6 xs_7) 0 (vN bs_6 xs_7) 1)
abbrev aHv (bs_6:List UInt8) (xs_7:List Int):List UInt8:=bs_6++putM 2 xs_7
abbrev aFq (bs_6:List UInt8) (xs_7:List Int):Blk:=Blk.mk BK.grow true (ofBytes (aHv bs_6 xs_7))
abbrev aTx (n_3:Int):Nat:=(List.replicate n_3.toNat [AV.int .u8 0]).flatten.length
abbrev aMy (n_3:Int):Bool:=aR 0 (List.replicate n_3.toNat [AV.int .u8 0]).flatten
abbrev aSa (n_3:Int):Blk:=Blk.mk BK.grow (aMy n_3) (List.replicate n_3.toNat [AV.int .u8 0]).flatten
abbrev aU5 (bs_6:List UInt8) (xs_7:List Int):Bool:=bDu bs_6 xs_7&&Nat.beq (0+vN bs_6 xs_7*1) (vN bs_6 xs_7)
abbrev aBs (ex:List Xt):Blk:=Blk.mk BK.exact true (eD ex)
abbrev uQ (bs_7:List UInt8) (xs_8:List Int):Nat:=(bs_7++putM 1 xs_8).length
abbrev aJl (x_0:Nat) (ex:List Xt):Bool:=Nat.beq (aJ6 x_0 ex).length (kU x_0 ex)
abbrev aPo (x_0:Nat) (ex:List Xt):List AV:=((aJ6 x_0 ex).drop 0).take (kU x_0 ex*1)
abbrev aX0 (x_0:Nat) (ex:List Xt) (n_3:Int):List AV:=ofBytes (bJm x_0 ex)++(List.replicate n_3.toNat [AV.int .u8 0]).flatten
abbrev aNt (x_0:Nat) (ex:List Xt) (n_3:Int):List AV:=((aX0 x_0 ex n_3).drop 0).take ((kU x_0 ex+n_3.toNat)*1)
abbrev aJy (x_0:Nat) (ex:List Xt):Bool:=decide ((x_0:Int)<(ex.length:Int))
abbrev aJf (x_0:Nat) (ex:List Xt):Bool:=Nat.blt (x_0:Int).toNat ex.length&&true
abbrev aIe (x_0:Nat) (ex:List Xt):Bool:=Nat.ble ((x_0:Int).toNat*2+2) (cellsXM ex).length
abbrev aH5 (x_0:Nat) (ex:List Xt):AV:=.agg (((cellsXM ex).drop ((x_0:Int).toNat*2)).take 2)
abbrev vL (xs_7:List Int):List AV:=ofBytes (putM 1 xs_7)
abbrev vI (n_3:Int):Bool:=Nat.beq n_3.toNat 0
abbrev aIw (n_3:Int):Bool:=Nat.ble (n_3.toNat*1) 1099511627776
abbrev aRp (n_3:Int):Bool:=fJ (((List.replicate n_3.toNat [AV.int .u8 0]).flatten.drop 0).take (n_3.toNat*1))
abbrev aTj (n_3:Int):Nat:=(((List.replicate n_3.toNat [AV.int .u8 0]).flatten.drop 0).take (n_3.toNat*1)).length
abbrev aTv (n_3:Int):Bool:=aR 0 (((List.replicate n_3.toNat [AV.int .u8 0]).flatten.drop 0).take (n_3.toNat*1))
abbrev aUs (xs_8:List Int):Prop:=(1:Int)≤(1:Int)∧(1:Int)≤(7:Int)∧xs_8.length≤1000000
abbrev nT (bs_7:List UInt8) (xs_8:List Int):List AV:=ofBytes (bs_7++putM 1 xs_8)
abbrev aBi (ex:List Xt) (x_0:Nat):Prop:=ex.length+1<ex.length-x_0
def aDu (mk:Bool) (ty:Int) (seq:Int) (ti:Int) (ss:Int) (tc:Nat) (cs:List Int) (tx:Nat) (ex:List Xt) (pad:Int) (pl:List UInt8) (Q:Out→List Blk→Gh→Prop):Prop:=
(∀x_0:Nat,aH1 x_0 ex→bif aJy x_0 ex then ckQ (aJf x_0 ex) (ckQ (aIe x_0 ex) (∃n_1 s_2,aH5 x_0 ex=AV.agg [.int .i64 n_1,.str s_2]∧exW .i64 (n_1*16) (fun n_3=>exI .i64 (s_2.length:Int) (fun n_4=>exW .i64 (n_4 -
 1) (fun n_5=>exW .i64 ((oC n_3 ||| oC n_5:Nat):Int) (fun n_6=>∃xs_7:List Int,Lf ([AV.int .i64 n_6]=aC xs_7∧1=xs_7.length∧aPw xs_7)∧ckQ (fJ (ofBytes s_2)&&true&&Nat.ble (s_2.length*1) 1099511627776)
 (bif Nat.beq s_2.length 0 then ckQ (Nat.beq s_2.length 0) (ckQ (Nat.beq (vL xs_7).length (nJ xs_7)&&true) (exW .i64 ((x_0:Int)+1) (fun n_8=>aId∧(aN2 mk ty seq ti ss tc cs tx ex pad pl∨∃y_9:Nat,aD5 y_9 ex ∧
 ex.length-y_9<ex.length+1∧aN (iY mk ty seq ti ss tc cs tx ex pad pl)∧aN (qE mk ty seq ti ss cs ex pad)∧[AV.int .i64 n_1,.str s_2]=eD ex∧vL xs_7=aJ6 y_9 ex∧aLq∧aN3 mk ty seq ti ss cs ex pad ∧
 aL9 ex∧aOi tx ex∧AV.sl 3 (nJ xs_7) 0 (nJ xs_7) 1=aM0 y_9 ex∧aLr n_8 y_9)))) else ckQ (Nat.blt 0 s_2.length) (ckQ (Nat.beq (vL xs_7).length (nJ xs_7)&&true&&Nat.beq (0+nJ xs_7*1) (nJ xs_7) &&
 Nat.ble (nJ xs_7+s_2.length) 1099511627776&&Nat.ble ((nJ xs_7+s_2.length)*1) 1099511627776) (exW .i64 ((x_0:Int)+1) (fun n_8=>aId∧(aN2 mk ty seq ti ss tc cs tx ex pad pl∨∃y_9:Nat,aD5 y_9 ex∧ex.length -
 y_9<ex.length+1∧aN (iY mk ty seq ti ss tc cs tx ex pad pl)∧aN (qE mk ty seq ti ss cs ex pad)∧[AV.int .i64 n_1,.str s_2]=eD ex∧ckQ (aR 0 (ofBytes s_2)==true) (vL xs_7++ofBytes s_2=aJ6 y_9 ex∧aLq
 ∧ aN3 mk ty seq ti ss cs ex pad∧aL9 ex∧aOi tx ex∧AV.sl 3 (nJ xs_7+(ofBytes s_2).length) 0 (nJ xs_7+s_2.length) 1=aM0 y_9 ex∧aLr n_8 y_9)))))))))))) else exI .i64 0 (fun n_1=>exW .i64 (0-n_1) (fun n_2=>
 exW .i64 ((oC n_2 &&& 3:Nat):Int) (fun n_3=>ckQ (aYh n_3) (bif decide (n_3=0) then ckQ (vI n_3) (exI .i64 0 (fun n_4=>exW .i64 (n_4.tdiv 4) (fun n_5=>∃bs_6:List UInt8,∃xs_7:List Int,Lf (GetElem?.getElem? [kJ
 mk ty seq ti ss tc cs tx ex pad pl,Blk.mk BK.grow true (qE mk ty seq ti ss cs ex pad)] 1=Option.some (uX bs_6)∧bIo mk ty seq ti ss cs ex pad bs_6 n_5 xs_7)∧ckQ (bDu bs_6 xs_7) (Q (aK2 bs_6 xs_7) [kJ mk ty seq ti ss tc
 cs tx ex pad pl,aFq bs_6 xs_7] {})))) else ckQ (Nat.blt 0 n_3.toNat) (ckQ (Nat.ble n_3.toNat 1099511627776&&aIw n_3) (ckQ (Nat.beq (aTx n_3) (aTx n_3)) (exI .i64 (n_3.toNat:Int) (fun n_4=>exW .i64 (n_4.tdiv 4) (fun n_5=>∃
 bs_6:List UInt8,∃xs_7:List Int,Lf (GetElem?.getElem? [kJ mk ty seq ti ss tc cs tx ex pad pl,Blk.mk BK.grow true (qE mk ty seq ti ss cs ex pad),aSa n_3] 1=Option.some (uX bs_6)∧bIo mk ty seq ti ss cs ex pad bs_6 n_5
 xs_7)∧ckQ (Nat.beq (aTx n_3) (aTx n_3)&&true&&Nat.ble (0+n_3.toNat*1) (aTx n_3)&&aRp n_3&&true&&aIw n_3) (bif vI n_3 then ckQ (vI n_3) (ckQ (bDu bs_6 xs_7) (Q (aK2 bs_6 xs_7) [kJ mk ty seq ti ss tc cs tx
 ex pad pl,aFq bs_6 xs_7,aSa n_3] {})) else ckQ (Nat.blt 0 n_3.toNat) (ckQ (aU5 bs_6 xs_7&&Nat.ble (vN bs_6 xs_7+n_3.toNat) 1099511627776&&Nat.ble ((vN bs_6 xs_7+n_3.toNat)*1) 1099511627776) (Q (.ret (.sl 1 (vN bs_6
 xs_7+aTj n_3) 0 (vN bs_6 xs_7+n_3.toNat) 1)) [kJ mk ty seq ti ss tc cs tx ex pad pl,Blk.mk BK.grow (aTv n_3) (ofBytes (aHv bs_6 xs_7)++((List.replicate n_3.toNat [AV.int .u8 0]).flatten.drop 0).take (n_3.toNat*1)),
 aSa n_3] {})))))))))))))∧∀x_0:Nat,aD5 x_0 ex→bif aJy x_0 ex then ckQ (aJf x_0 ex) (ckQ (aIe x_0 ex) (∃n_1 s_2,aH5 x_0 ex=AV.agg [.int .i64 n_1,.str s_2]∧exW .i64 (n_1*16) (fun n_3=>exI .i64 (s_2.length:Int)
 (fun n_4=>exW .i64 (n_4-1) (fun n_5=>exW .i64 ((oC n_3 ||| oC n_5:Nat):Int) (fun n_6=>∃bs_7:List UInt8,∃xs_8:List Int,Lf (GetElem?.getElem? [kJ mk ty seq ti ss tc cs tx ex pad pl,Blk.mk BK.grow true (qE mk
 ty seq ti ss cs ex pad),aBs ex,Blk.mk BK.grow true (aJ6 x_0 ex),Blk.mk BK.exact true [.int .i64 n_1,.str s_2]] 3=Option.some (uX bs_7)∧kU x_0 ex=bs_7.length∧kU x_0 ex=bs_7.length∧bs_7.length≤1000000∧[AV.int
 .i64 n_6]=aC xs_8∧1=xs_8.length∧aUs xs_8)∧ckQ (fJ (ofBytes s_2)&&true&&Nat.ble (s_2.length*1) 1099511627776) (bif Nat.beq s_2.length 0 then ckQ (Nat.beq s_2.length 0) (ckQ (Nat.beq (nT bs_7 xs_8).length (uQ
 bs_7 xs_8)&&true) (exW .i64 ((x_0:Int)+1) (fun n_9=>aId∧((∃y_10:Nat,aH1 y_10 ex∧aBi ex x_0∧mI mk ty seq ti ss tc cs tx ex pad pl)∨∃y_10:Nat,aD5 y_10 ex∧ex.length-y_10<ex.length-x_0∧aN (iY
 mk ty seq ti ss tc cs tx ex pad pl)∧aN (qE mk ty seq ti ss cs ex pad)∧aN (eD ex)∧nT bs_7 xs_8=aJ6 y_10 ex∧aLq∧aN3 mk ty seq ti ss cs ex pad∧aL9 ex∧aOi tx ex∧AV.sl 3 (uQ bs_7 xs_8) 0 (uQ bs_7
 xs_8) 1=aM0 y_10 ex∧aLr n_9 y_10)))) else ckQ (Nat.blt 0 s_2.length) (ckQ (Nat.beq (nT bs_7 xs_8).length (uQ bs_7 xs_8)&&true&&Nat.beq (0+uQ bs_7 xs_8*1) (uQ bs_7 xs_8)&&Nat.ble (uQ bs_7 xs_8+s_2.length)
 1099511627776&&Nat.ble ((uQ bs_7 xs_8+s_2.length)*1) 1099511627776) (exW .i64 ((x_0:Int)+1) (fun n_9=>bif (aR 0 (ofBytes s_2)||aR 4 (nT bs_7 xs_8++ofBytes s_2))&&true then aId∧((∃y_10:Nat,aH1 y_10 ex ∧
 aBi ex x_0∧mI mk ty seq ti ss tc cs tx ex pad pl)∨∃y_10:Nat,aD5 y_10 ex∧ex.length-y_10<ex.length-x_0∧aN (iY mk ty seq ti ss tc cs tx ex pad pl)∧aN (qE mk ty seq ti ss cs ex pad)∧aN (eD ex) ∧
 ckQ (aR 0 (ofBytes s_2)==true) (nT bs_7 xs_8++ofBytes s_2=aJ6 y_10 ex∧aLq∧aN3 mk ty seq ti ss cs ex pad∧aL9 ex∧aOi tx ex∧AV.sl 3 (uQ bs_7 xs_8+(ofBytes s_2).length) 0 (uQ bs_7 xs_8+s_2.length) 1 =
 aM0 y_10 ex∧aLr n_9 y_10)) else aId∧((∃y_10:Nat,aH1 y_10 ex∧aBi ex x_0∧mI mk ty seq ti ss tc cs tx ex pad pl)∨∃y_10:Nat,aD5 y_10 ex∧ex.length-y_10<ex.length-x_0∧aN (iY mk ty seq ti ss tc cs
 tx ex pad pl)∧aN (qE mk ty seq ti ss cs ex pad)∧aN (eD ex)∧ckQ (aR 0 (ofBytes s_2)==true) (nT bs_7 xs_8++ofBytes s_2=aJ6 y_10 ex∧False)))))))))))) else ckQ (aJl x_0 ex) (exI .i64 (kU x_0 ex:Int) (fun
 n_1=>exW .i64 (0-n_1) (fun n_2=>exW .i64 ((oC n_2 &&& 3:Nat):Int) (fun n_3=>ckQ (aYh n_3) (bif decide (n_3=0) then ckQ (vI n_3) (ckQ (aJl x_0 ex&&true) (ckQ (aJl x_0 ex) (exI .i64 (kU x_0 ex:Int) (fun n_4=>
 exW .i64 (n_4.tdiv 4) (fun n_5=>∃bs_6:List UInt8,∃xs_7:List Int,Lf (GetElem?.getElem? [kJ mk ty seq ti ss tc cs tx ex pad pl,Blk.mk BK.grow true (qE mk ty seq ti ss cs ex pad),aBs ex,Blk.mk BK.grow true (aJ6 x_0 ex)]
 1=Option.some (uX bs_6)∧bIo mk ty seq ti ss cs ex pad bs_6 n_5 xs_7)∧ckQ (aJl x_0 ex&&true&&Nat.ble (0+kU x_0 ex*1) (kU x_0 ex)&&fJ (aPo x_0 ex)&&true&&Nat.ble (kU x_0 ex*1) 1099511627776) (bif Nat.beq
 (kU x_0 ex) 0 then ckQ (Nat.beq (kU x_0 ex) 0) (ckQ (bDu bs_6 xs_7) (Q (aK2 bs_6 xs_7) [kJ mk ty seq ti ss tc cs tx ex pad pl,aFq bs_6 xs_7,aBs ex,Blk.mk BK.grow true (aJ6 x_0 ex)] {})) else ckQ (Nat.blt 0 (kU x_0 ex))
 (ckQ (aU5 bs_6 xs_7&&Nat.ble (vN bs_6 xs_7+kU x_0 ex) 1099511627776&&Nat.ble ((vN bs_6 xs_7+kU x_0 ex)*1) 1099511627776) (Q (.ret (.sl 1 (vN bs_6 xs_7+(aPo x_0 ex).length) 0 (vN bs_6 xs_7+kU x_0 ex) 1))
 [kJ mk ty seq ti ss tc cs tx ex pad pl,Blk.mk BK.grow (aR 0 (aPo x_0 ex)) (ofBytes (aHv bs_6 xs_7)++aPo x_0 ex),aBs ex,Blk.mk BK.grow true (aJ6 x_0 ex)] {})))))))) else ckQ (Nat.blt 0 n_3.toNat) (ckQ (aJl x_0 ex &&
 true&&Nat.beq (0+kU x_0 ex*1) (kU x_0 ex)&&Nat.ble (kU x_0 ex+n_3.toNat) 1099511627776&&Nat.ble ((kU x_0 ex+n_3.toNat)*1) 1099511627776) (ckQ (Nat.beq (aX0 x_0 ex n_3).length (kU x_0 ex+aTx n_3)) (exI .i64
 ((kU x_0 ex+n_3.toNat:Nat):Int) (fun n_4=>exW .i64 (n_4.tdiv 4) (fun n_5=>∃bs_6:List UInt8,∃xs_7:List Int,Lf (GetElem?.getElem? [kJ mk ty seq ti ss tc cs tx ex pad pl,Blk.mk BK.grow true (qE mk ty seq ti ss cs ex
 pad),aBs ex,Blk.mk BK.grow (aMy n_3) (aX0 x_0 ex n_3)] 1=Option.some (uX bs_6)∧bIo mk ty seq ti ss cs ex pad bs_6 n_5 xs_7)∧ckQ (Nat.beq (aX0 x_0 ex n_3).length (kU x_0 ex+aTx n_3)&&true&&Nat.ble (0+(kU x_0
 ex+n_3.toNat)*1) (kU x_0 ex+aTx n_3)&&fJ (aNt x_0 ex n_3)&&true&&Nat.ble ((kU x_0 ex+n_3.toNat)*1) 1099511627776) (bif Nat.beq (kU x_0 ex+n_3.toNat) 0 then ckQ (Nat.beq (kU x_0 ex+n_3.toNat) 0) (ckQ (bDu
 bs_6 xs_7) (Q (aK2 bs_6 xs_7) [kJ mk ty seq ti ss tc cs tx ex pad pl,aFq bs_6 xs_7,aBs ex,Blk.mk BK.grow (aMy n_3) (aX0 x_0 ex n_3)] {})) else ckQ (Nat.blt 0 (kU x_0 ex+n_3.toNat)) (ckQ (aU5 bs_6 xs_7&&Nat.ble (vN
 bs_6 xs_7+(kU x_0 ex+n_3.toNat)) 1099511627776&&Nat.ble ((vN bs_6 xs_7+(kU x_0 ex+n_3.toNat))*1) 1099511627776) (Q (.ret (.sl 1 (vN bs_6 xs_7+(aNt x_0 ex n_3).length) 0 (vN bs_6 xs_7+(kU x_0 ex+n_3.toNat))
 1)) [kJ mk ty seq ti ss tc cs tx ex pad pl,Blk.mk BK.grow (aR 0 (aNt x_0 ex n_3)) (ofBytes (aHv bs_6 xs_7)++aNt x_0 ex n_3),aBs ex,Blk.mk BK.grow (aMy n_3) (aX0 x_0 ex n_3)] {})))))))))))))
abbrev aIj (y_0:Nat) (ex:List Xt):Prop:=Lf (y_0=0∧false=shortM ex)
def aMq (mk:Bool) (ty:Int) (seq:Int) (ti:Int) (ss:Int) (tc:Nat) (cs:List Int) (tx:Nat) (ex:List Xt) (pad:Int) (pl:List UInt8):Prop:=
∃y_0:Nat,aIj y_0 ex∧aNl mk ty seq ti ss tc cs tx ex pad pl
abbrev sW (xs_4:List Int):Nat:=(putM 1 xs_4).length
abbrev aJn:Prop:=True∧(0:Nat)=(0:Nat)
abbrev aXs (y_6:Nat) (ex:List Xt):Prop:=Lf (1≤y_6∧y_6≤ex.length∧false=shortM ex)
abbrev aJu (mk:Bool) (ty seq ti ss:Int) (cs:List Int) (ex:List Xt) (pad:Int):List AV:=ofBytes (headBM mk ty seq ti ss cs ex.length pad)
abbrev bJw (y_6:Nat) (ex:List Xt):List UInt8:=extBM false (ex.take y_6)
abbrev aJ3 (y_6:Nat) (ex:List Xt):List AV:=ofBytes (bJw y_6 ex)
abbrev aMf:Prop:=aN (AV.int .i64 4096)
abbrev aMe (mk:Bool) (ty seq ti ss:Int) (cs:List Int) (ex:List Xt) (pad:Int):Prop:=aN (AV.sl 1 (headBM mk ty seq ti ss cs ex.length pad).length 0 (headBM mk ty seq ti ss cs ex.length pad).length 1)
abbrev aPr (ex:List Xt):Prop:=aN (AV.int .i64 (ex.length:Int))
abbrev aPg (tx:Nat) (ex:List Xt):Prop:=aN (AV.lst tx (cellsXM ex) ex.length 2)
abbrev kL (y_6:Nat) (ex:List Xt):Nat:=(bJw y_6 ex).length
abbrev aNw (y_6:Nat) (ex:List Xt):AV:=.sl 3 (kL y_6 ex) 0 (kL y_6 ex) 1
abbrev aK3 (n_5:Int) (y_6:Nat):Prop:=AV.int .i64 n_5=AV.int .i64 (y_6:Int)∧True
abbrev aY7 (n_3:Int):Bool:=decide (0≤n_3)&&decide (n_3≤1099511627776)&&fJ (List.replicate n_3.toNat [AV.int .u8 0]).flatten&&true&&Nat.ble (n_3.toNat*1) 1099511627776
abbrev oF (mk:Bool) (ty seq ti ss:Int) (tc:Nat) (cs:List Int) (tx:Nat) (ex:List Xt) (pad:Int) (pl:List UInt8):Blk:=Blk.mk BK.exact true (iY mk ty seq ti ss tc cs tx ex pad pl)
abbrev aJd (mk:Bool) (ty seq ti ss:Int) (cs:List Int) (ex:List Xt) (pad:Int):Blk:=Blk.mk BK.grow true (ofBytes (headBM mk ty seq ti ss cs ex.length pad))
abbrev aHy (bs_6:List UInt8):Blk:=Blk.mk BK.grow true (ofBytes bs_6)
abbrev bFb (mk:Bool) (ty seq ti ss:Int) (cs:List Int) (ex:List Xt) (pad:Int) (bs_6:List UInt8) (n_5:Int) (xs_7:List Int):Prop:=(headBM mk ty seq ti ss cs ex.length pad).length=bs_6.length∧(headBM mk ty seq ti ss cs ex.length pad).length=bs_6.length∧bs_6.length≤1000000∧[AV.int .i64 4096,.int .i64 n_5]=aC xs_7∧2=xs_7.length∧(1:Int)≤(2:Int)∧(2:Int)≤(7:Int)∧xs_7.length≤1000000
abbrev bDn (bs_6:List UInt8) (xs_7:List Int):Bool:=Nat.beq (ofBytes (bs_6++putM 2 xs_7)).length (bs_6++putM 2 xs_7).length&&true
abbrev aCy (bs_6:List UInt8) (xs_7:List Int):Nat:=(bs_6++putM 2 xs_7).length
abbrev aPt (bs_6:List UInt8) (xs_7:List Int):Out:=.ret (.sl 1 (aCy bs_6 xs_7) 0 (aCy bs_6 xs_7) 1)
abbrev aKd (bs_6:List UInt8) (xs_7:List Int):List UInt8:=bs_6++putM 2 xs_7
abbrev aKg (bs_6:List UInt8) (xs_7:List Int):Blk:=Blk.mk BK.grow true (ofBytes (aKd bs_6 xs_7))
abbrev aR2 (n_3:Int):Nat:=(List.replicate n_3.toNat [AV.int .u8 0]).flatten.length
abbrev bI0 (n_3:Int):Bool:=aR 0 (List.replicate n_3.toNat [AV.int .u8 0]).flatten
abbrev aTh (n_3:Int):Blk:=Blk.mk BK.grow (bI0 n_3) (List.replicate n_3.toNat [AV.int .u8 0]).flatten
abbrev aSp (bs_6:List UInt8) (xs_7:List Int):Bool:=bDn bs_6 xs_7&&Nat.beq (0+aCy bs_6 xs_7*1) (aCy bs_6 xs_7)
abbrev aB3 (ex:List Xt):Blk:=Blk.mk BK.exact true (eD ex)
abbrev uR (bs_4:List UInt8) (xs_5:List Int):Nat:=(bs_4++putM 1 xs_5).length
abbrev aHw (x_0:Nat) (ex:List Xt):Bool:=Nat.beq (aJ3 x_0 ex).length (kL x_0 ex)
abbrev aKh (x_0:Nat) (ex:List Xt):List AV:=((aJ3 x_0 ex).drop 0).take (kL x_0 ex*1)
abbrev bA6 (x_0:Nat) (ex:List Xt) (n_3:Int):List AV:=ofBytes (bJw x_0 ex)++(List.replicate n_3.toNat [AV.int .u8 0]).flatten
abbrev aN0 (x_0:Nat) (ex:List Xt) (n_3:Int):List AV:=((bA6 x_0 ex n_3).drop 0).take ((kL x_0 ex+n_3.toNat)*1)
def aFu (mk:Bool) (ty:Int) (seq:Int) (ti:Int) (ss:Int) (tc:Nat) (cs:List Int) (tx:Nat) (ex:List Xt) (pad:Int) (pl:List UInt8) (Q:Out→List Blk→Gh→Prop):Prop:=
(∀x_0:Nat,aIj x_0 ex→bif aJy x_0 ex then ckQ (aJf x_0 ex) (ckQ (aIe x_0 ex) (∃n_1 s_2,aH5 x_0 ex=AV.agg [.int .i64 n_1,.str s_2]∧exI .i64 (s_2.length:Int) (fun n_3=>∃xs_4:List Int,Lf ([AV.int .i64 n_1,.int
 .i64 n_3]=aC xs_4∧2=xs_4.length∧(1:Int)≤(1:Int)∧(1:Int)≤(7:Int)∧1≤xs_4.length∧xs_4.length≤1000000)∧ckQ (fJ (ofBytes s_2)&&true&&Nat.ble (s_2.length*1) 1099511627776) (bif Nat.beq s_2.length 0
 then ckQ (Nat.beq s_2.length 0) (ckQ (Nat.beq (vL xs_4).length (sW xs_4)&&true) (exW .i64 ((x_0:Int)+1) (fun n_5=>aJn∧(aMq mk ty seq ti ss tc cs tx ex pad pl∨∃y_6:Nat,aXs y_6 ex∧ex.length-y_6<ex.length +
 1∧aN (iY mk ty seq ti ss tc cs tx ex pad pl)∧aN (aJu mk ty seq ti ss cs ex pad)∧[AV.int .i64 n_1,.str s_2]=eD ex∧vL xs_4=aJ3 y_6 ex∧aMf∧aMe mk ty seq ti ss cs ex pad∧aPr ex∧aPg tx ex∧AV.sl 3
 (sW xs_4) 0 (sW xs_4) 1=aNw y_6 ex∧aK3 n_5 y_6)))) else ckQ (Nat.blt 0 s_2.length) (ckQ (Nat.beq (vL xs_4).length (sW xs_4)&&true&&Nat.beq (0+sW xs_4*1) (sW xs_4)&&Nat.ble (sW xs_4+s_2.length)
 1099511627776&&Nat.ble ((sW xs_4+s_2.length)*1) 1099511627776) (exW .i64 ((x_0:Int)+1) (fun n_5=>aJn∧(aMq mk ty seq ti ss tc cs tx ex pad pl∨∃y_6:Nat,aXs y_6 ex∧ex.length-y_6<ex.length+1∧aN (iY
 mk ty seq ti ss tc cs tx ex pad pl)∧aN (aJu mk ty seq ti ss cs ex pad)∧[AV.int .i64 n_1,.str s_2]=eD ex∧ckQ (aR 0 (ofBytes s_2)==true) (vL xs_4++ofBytes s_2=aJ3 y_6 ex∧aMf∧aMe mk ty seq ti ss cs ex pad
 ∧ aPr ex∧aPg tx ex∧AV.sl 3 (sW xs_4+(ofBytes s_2).length) 0 (sW xs_4+s_2.length) 1=aNw y_6 ex∧aK3 n_5 y_6))))))))) else exI .i64 0 (fun n_1=>exW .i64 (0-n_1) (fun n_2=>exW .i64 (((n_2 %
 18446744073709551616).toNat &&& 3:Nat):Int) (fun n_3=>ckQ (aY7 n_3) (bif decide (n_3=0) then ckQ (vI n_3) (exI .i64 0 (fun n_4=>exW .i64 (n_4.tdiv 4) (fun n_5=>∃bs_6:List UInt8,∃xs_7:List Int,Lf (GetElem?.getElem?
 [oF mk ty seq ti ss tc cs tx ex pad pl,aJd mk ty seq ti ss cs ex pad] 1=Option.some (aHy bs_6)∧bFb mk ty seq ti ss cs ex pad bs_6 n_5 xs_7)∧ckQ (bDn bs_6 xs_7) (Q (aPt bs_6 xs_7) [oF mk ty seq ti ss tc cs tx ex pad pl,
 aKg bs_6 xs_7] {})))) else ckQ (Nat.blt 0 n_3.toNat) (ckQ (Nat.ble n_3.toNat 1099511627776&&aIw n_3) (ckQ (Nat.beq (aR2 n_3) (aR2 n_3)) (exI .i64 (n_3.toNat:Int) (fun n_4=>exW .i64 (n_4.tdiv 4) (fun n_5=>∃bs_6:List UInt8,
 ∃xs_7:List Int,Lf (GetElem?.getElem? [oF mk ty seq ti ss tc cs tx ex pad pl,aJd mk ty seq ti ss cs ex pad,aTh n_3] 1=Option.some (aHy bs_6)∧bFb mk ty seq ti ss cs ex pad bs_6 n_5 xs_7)∧ckQ (Nat.beq (aR2 n_3) (aR2
 n_3)&&true&&Nat.ble (0+n_3.toNat*1) (aR2 n_3)&&aRp n_3&&true&&aIw n_3) (bif vI n_3 then ckQ (vI n_3) (ckQ (bDn bs_6 xs_7) (Q (aPt bs_6 xs_7) [oF mk ty seq ti ss tc cs tx ex pad pl,aKg bs_6 xs_7,aTh n_3]
 {})) else ckQ (Nat.blt 0 n_3.toNat) (ckQ (aSp bs_6 xs_7&&Nat.ble (aCy bs_6 xs_7+n_3.toNat) 1099511627776&&Nat.ble ((aCy bs_6 xs_7+n_3.toNat)*1) 1099511627776) (Q (.ret (.sl 1 (aCy bs_6 xs_7+aTj n_3) 0 (aCy bs_6 xs_7 +
 n_3.toNat) 1)) [oF mk ty seq ti ss tc cs tx ex pad pl,Blk.mk BK.grow (aTv n_3) (ofBytes (aKd bs_6 xs_7)++((List.replicate n_3.toNat [AV.int .u8 0]).flatten.drop 0).take (n_3.toNat*1)),aTh n_3] {})))))))))))))∧∀x_0:Nat,
 aXs x_0 ex→bif aJy x_0 ex then ckQ (aJf x_0 ex) (ckQ (aIe x_0 ex) (∃n_1 s_2,aH5 x_0 ex=AV.agg [.int .i64 n_1,.str s_2]∧exI .i64 (s_2.length:Int) (fun n_3=>∃bs_4:List UInt8,∃xs_5:List Int,Lf (GetElem?.getElem?
 [oF mk ty seq ti ss tc cs tx ex pad pl,aJd mk ty seq ti ss cs ex pad,aB3 ex,Blk.mk BK.grow true (aJ3 x_0 ex),Blk.mk BK.exact true [.int .i64 n_1,.str s_2]] 3=Option.some (aHy bs_4)∧kL x_0 ex=bs_4.length∧kL x_0 ex
 = bs_4.length∧bs_4.length≤1000000∧[AV.int .i64 n_1,.int .i64 n_3]=aC xs_5∧2=xs_5.length∧aUs xs_5)∧ckQ (fJ (ofBytes s_2)&&true&&Nat.ble (s_2.length*1) 1099511627776) (bif Nat.beq s_2.length 0 then ckQ (Nat.beq
 s_2.length 0) (ckQ (Nat.beq (nT bs_4 xs_5).length (uR bs_4 xs_5)&&true) (exW .i64 ((x_0:Int)+1) (fun n_6=>aJn∧((∃y_7:Nat,aIj y_7 ex∧aBi ex x_0∧mI mk ty seq ti ss tc cs tx ex pad pl)∨∃y_7:Nat,aXs
 y_7 ex∧ex.length-y_7<ex.length-x_0∧aN (iY mk ty seq ti ss tc cs tx ex pad pl)∧aN (aJu mk ty seq ti ss cs ex pad)∧aN (eD ex)∧nT bs_4 xs_5=aJ3 y_7 ex∧aMf∧aMe mk ty seq ti ss cs ex pad∧aPr ex ∧
 aPg tx ex∧AV.sl 3 (uR bs_4 xs_5) 0 (uR bs_4 xs_5) 1=aNw y_7 ex∧aK3 n_6 y_7)))) else ckQ (Nat.blt 0 s_2.length) (ckQ (Nat.beq (nT bs_4 xs_5).length (uR bs_4 xs_5)&&true&&Nat.beq (0+uR bs_4 xs_5*1) (uR
 bs_4 xs_5)&&Nat.ble (uR bs_4 xs_5+s_2.length) 1099511627776&&Nat.ble ((uR bs_4 xs_5+s_2.length)*1) 1099511627776) (exW .i64 ((x_0:Int)+1) (fun n_6=>bif (aR 0 (ofBytes s_2)||aR 4 (nT bs_4 xs_5++ofBytes s_2))
 && true then aJn∧((∃y_7:Nat,aIj y_7 ex∧aBi ex x_0∧mI mk ty seq ti ss tc cs tx ex pad pl)∨∃y_7:Nat,aXs y_7 ex∧ex.length-y_7<ex.length-x_0∧aN (iY mk ty seq ti ss tc cs tx ex pad pl)∧aN (aJu mk
 ty seq ti ss cs ex pad)∧aN (eD ex)∧ckQ (aR 0 (ofBytes s_2)==true) (nT bs_4 xs_5++ofBytes s_2=aJ3 y_7 ex∧aMf∧aMe mk ty seq ti ss cs ex pad∧aPr ex∧aPg tx ex∧AV.sl 3 (uR bs_4 xs_5+(ofBytes
 s_2).length) 0 (uR bs_4 xs_5+s_2.length) 1=aNw y_7 ex∧aK3 n_6 y_7)) else aJn∧((∃y_7:Nat,aIj y_7 ex∧aBi ex x_0∧mI mk ty seq ti ss tc cs tx ex pad pl)∨∃y_7:Nat,aXs y_7 ex∧ex.length-y_7<ex.length
 - x_0∧aN (iY mk ty seq ti ss tc cs tx ex pad pl)∧aN (aJu mk ty seq ti ss cs ex pad)∧aN (eD ex)∧ckQ (aR 0 (ofBytes s_2)==true) (nT bs_4 xs_5++ofBytes s_2=aJ3 y_7 ex∧False))))))))) else ckQ (aHw x_0 ex)
 (exI .i64 (kL x_0 ex:Int) (fun n_1=>exW .i64 (0-n_1) (fun n_2=>exW .i64 (((n_2%18446744073709551616).toNat &&& 3:Nat):Int) (fun n_3=>ckQ (aY7 n_3) (bif decide (n_3=0) then ckQ (vI n_3) (ckQ (aHw x_0 ex&&true)
 (ckQ (aHw x_0 ex) (exI .i64 (kL x_0 ex:Int) (fun n_4=>exW .i64 (n_4.tdiv 4) (fun n_5=>∃bs_6:List UInt8,∃xs_7:List Int,Lf (GetElem?.getElem? [oF mk ty seq ti ss tc cs tx ex pad pl,aJd mk ty seq ti ss cs ex pad,aB3
 ex,Blk.mk BK.grow true (aJ3 x_0 ex)] 1=Option.some (aHy bs_6)∧bFb mk ty seq ti ss cs ex pad bs_6 n_5 xs_7)∧ckQ (aHw x_0 ex&&true&&Nat.ble (0+kL x_0 ex*1) (kL x_0 ex)&&fJ (aKh x_0 ex)&&true&&Nat.ble (kL
 x_0 ex*1) 1099511627776) (bif Nat.beq (kL x_0 ex) 0 then ckQ (Nat.beq (kL x_0 ex) 0) (ckQ (bDn bs_6 xs_7) (Q (aPt bs_6 xs_7) [oF mk ty seq ti ss tc cs tx ex pad pl,aKg bs_6 xs_7,aB3 ex,Blk.mk BK.grow true (aJ3 x_0 ex)]
 {})) else ckQ (Nat.blt 0 (kL x_0 ex)) (ckQ (aSp bs_6 xs_7&&Nat.ble (aCy bs_6 xs_7+kL x_0 ex) 1099511627776&&Nat.ble ((aCy bs_6 xs_7+kL x_0 ex)*1) 1099511627776) (Q (.ret (.sl 1 (aCy bs_6 xs_7+(aKh x_0 ex).length) 0
 (aCy bs_6 xs_7+kL x_0 ex) 1)) [oF mk ty seq ti ss tc cs tx ex pad pl,Blk.mk BK.grow (aR 0 (aKh x_0 ex)) (ofBytes (aKd bs_6 xs_7)++aKh x_0 ex),aB3 ex,Blk.mk BK.grow true (aJ3 x_0 ex)] {})))))))) else ckQ (Nat.blt 0
 n_3.toNat) (ckQ (aHw x_0 ex&&true&&Nat.beq (0+kL x_0 ex*1) (kL x_0 ex)&&Nat.ble (kL x_0 ex+n_3.toNat) 1099511627776&&Nat.ble ((kL x_0 ex+n_3.toNat)*1) 1099511627776) (ckQ (Nat.beq (bA6 x_0 ex n_3).length (kL
 x_0 ex+aR2 n_3)) (exI .i64 ((kL x_0 ex+n_3.toNat:Nat):Int) (fun n_4=>exW .i64 (n_4.tdiv 4) (fun n_5=>∃bs_6:List UInt8,∃xs_7:List Int,Lf (GetElem?.getElem? [oF mk ty seq ti ss tc cs tx ex pad pl,aJd mk ty seq ti
 ss cs ex pad,aB3 ex,Blk.mk BK.grow (bI0 n_3) (bA6 x_0 ex n_3)] 1=Option.some (aHy bs_6)∧bFb mk ty seq ti ss cs ex pad bs_6 n_5 xs_7)∧ckQ (Nat.beq (bA6 x_0 ex n_3).length (kL x_0 ex+aR2 n_3)&&true&&Nat.ble (0 +
 (kL x_0 ex+n_3.toNat)*1) (kL x_0 ex+aR2 n_3)&&fJ (aN0 x_0 ex n_3)&&true&&Nat.ble ((kL x_0 ex+n_3.toNat)*1) 1099511627776) (bif Nat.beq (kL x_0 ex+n_3.toNat) 0 then ckQ (Nat.beq (kL x_0 ex+n_3.toNat) 0)
 (ckQ (bDn bs_6 xs_7) (Q (aPt bs_6 xs_7) [oF mk ty seq ti ss tc cs tx ex pad pl,aKg bs_6 xs_7,aB3 ex,Blk.mk BK.grow (bI0 n_3) (bA6 x_0 ex n_3)] {})) else ckQ (Nat.blt 0 (kL x_0 ex+n_3.toNat)) (ckQ (aSp bs_6 xs_7 &&
 Nat.ble (aCy bs_6 xs_7+(kL x_0 ex+n_3.toNat)) 1099511627776&&Nat.ble ((aCy bs_6 xs_7+(kL x_0 ex+n_3.toNat))*1) 1099511627776) (Q (.ret (.sl 1 (aCy bs_6 xs_7+(aN0 x_0 ex n_3).length) 0 (aCy bs_6 xs_7+(kL x_0 ex +
 n_3.toNat)) 1)) [oF mk ty seq ti ss tc cs tx ex pad pl,Blk.mk BK.grow (aR 0 (aN0 x_0 ex n_3)) (ofBytes (aKd bs_6 xs_7)++aN0 x_0 ex n_3),aB3 ex,Blk.mk BK.grow (bI0 n_3) (bA6 x_0 ex n_3)] {})))))))))))))
@[reducible] def bM3 (mk:Bool) (ty seq ti ss:Int) (tc:Nat) (cs:List Int) (tx:Nat) (ex:List Xt) (pad:Int) (pl:List UInt8) (bs:List UInt8) (xs:List Int) (Q:Out→List Blk→Gh→Prop):Prop:=
(∃n_13:Int,(((AV.int .i64 (Nat.cast (List.length ex):Int))=(AV.int .i64 n_13)) ∧
 (bif (n_13==(0:Int)) then (Q (Out.ret (AV.sl (1:Nat) (List.length (bs++(putM (4:Nat) xs))) (0:Nat) (List.length (bs++(putM (4:Nat) xs))) (1:Nat))) ((Blk.mk BK.exact true (iY mk ty seq ti ss tc cs tx ex pad pl))::((Blk.mk BK.grow true (ofBytes (bs++(putM (4:Nat) xs))))::[])) (Gh.mk (0:Nat) (0:Nat) []))
else (∃ex_14:(List Xt),((Lf (((cellsXM ex)=(cellsXM ex_14)) ∧
 (((List.length ex)=(List.length ex_14)) ∧
 (((List.length ex_14)≤(1000000:Nat)) ∧
 (dataM ex_14))))) ∧
 (bif (shortM ex_14) then (∃n_15:Int,(((AV.int .i64 (Nat.cast (List.length ex):Int))=(AV.int .i64 n_15)) ∧
 (((∃x_16:Nat,((Lf ((x_16=(0:Nat)) ∧
 (true=(shortM ex)))) ∧
 (((iY mk ty seq ti ss tc cs tx ex pad pl)=(iY mk ty seq ti ss tc cs tx ex pad pl)) ∧
 (((ofBytes (bs++(putM (4:Nat) xs)))=(ofBytes (headBM mk ty seq ti ss cs (List.length ex) pad))) ∧
 (((AV.int .i64 (48862:Int))=(AV.int .i64 (48862:Int))) ∧
 (((AV.sl (1:Nat) (List.length (bs++(putM (4:Nat) xs))) (0:Nat) (List.length (bs++(putM (4:Nat) xs))) (1:Nat))=(AV.sl (1:Nat) (List.length (headBM mk ty seq ti ss cs (List.length ex) pad)) (0:Nat) (List.length (headBM mk ty seq ti ss cs (List.length ex) pad)) (1:Nat))) ∧
 (((AV.int .i64 n_15)=(AV.int .i64 (Nat.cast (List.length ex):Int))) ∧
 (((AV.lst tx (cellsXM ex) (List.length ex) (2:Nat))=(AV.lst tx (cellsXM ex) (List.length ex) (2:Nat))) ∧
 ((AV.nils=AV.nils) ∧
 (((AV.int .i64 (0:Int))=(AV.int .i64 (Nat.cast x_16:Int))) ∧
 True)))))))))) ∨
 (∃x_16:Nat,((Lf (((1:Nat)≤x_16) ∧
 ((x_16≤(List.length ex)) ∧
 (true=(shortM ex))))) ∧
 (((iY mk ty seq ti ss tc cs tx ex pad pl)=(iY mk ty seq ti ss tc cs tx ex pad pl)) ∧
 (((ofBytes (bs++(putM (4:Nat) xs)))=(ofBytes (headBM mk ty seq ti ss cs (List.length ex) pad))) ∧
 False))))) ∧
 (aDu mk ty seq ti ss tc cs tx ex pad pl Q))))
else (∃n_15:Int,(((AV.int .i64 (Nat.cast (List.length ex):Int))=(AV.int .i64 n_15)) ∧
 (((∃x_16:Nat,((Lf ((x_16=(0:Nat)) ∧
 (false=(shortM ex)))) ∧
 (((iY mk ty seq ti ss tc cs tx ex pad pl)=(iY mk ty seq ti ss tc cs tx ex pad pl)) ∧
 (((ofBytes (bs++(putM (4:Nat) xs)))=(ofBytes (headBM mk ty seq ti ss cs (List.length ex) pad))) ∧
 (((AV.int .i64 (4096:Int))=(AV.int .i64 (4096:Int))) ∧
 (((AV.sl (1:Nat) (List.length (bs++(putM (4:Nat) xs))) (0:Nat) (List.length (bs++(putM (4:Nat) xs))) (1:Nat))=(AV.sl (1:Nat) (List.length (headBM mk ty seq ti ss cs (List.length ex) pad)) (0:Nat) (List.length (headBM mk ty seq ti ss cs (List.length ex) pad)) (1:Nat))) ∧
 (((AV.int .i64 n_15)=(AV.int .i64 (Nat.cast (List.length ex):Int))) ∧
 (((AV.lst tx (cellsXM ex) (List.length ex) (2:Nat))=(AV.lst tx (cellsXM ex) (List.length ex) (2:Nat))) ∧
 ((AV.nils=AV.nils) ∧
 (((AV.int .i64 (0:Int))=(AV.int .i64 (Nat.cast x_16:Int))) ∧
 True)))))))))) ∨
 (∃x_16:Nat,((Lf (((1:Nat)≤x_16) ∧
 ((x_16≤(List.length ex)) ∧
 (false=(shortM ex))))) ∧
 (((iY mk ty seq ti ss tc cs tx ex pad pl)=(iY mk ty seq ti ss tc cs tx ex pad pl)) ∧
 (((ofBytes (bs++(putM (4:Nat) xs)))=(ofBytes (headBM mk ty seq ti ss cs (List.length ex) pad))) ∧
 False))))) ∧
 (aFu mk ty seq ti ss tc cs tx ex pad pl Q))))))))))
abbrev bN8 (mk:Bool) (ty seq ti ss:Int) (tc:Nat) (cs:List Int) (tx:Nat) (ex:List Xt) (pad:Int) (pl:List UInt8) (xs_6:List Int) (Q:Out→List Blk→Gh→Prop):Prop:=∃bs_7:List UInt8,∃xs_8:List Int,Lf (GetElem?.getElem? [kJ mk ty seq ti ss tc cs tx ex pad pl,Blk.mk BK.grow true (ofBytes (putM 1 xs_6))] 1=Option.some (uX bs_7)∧nJ xs_6=bs_7.length∧nJ xs_6=bs_7.length∧bs_7.length≤1000000∧[AV.int .i64 seq]=aC xs_8∧1=xs_8.length∧aTp xs_8)∧∃bs_9:List UInt8,∃xs_10:List Int,Lf (GetElem?.getElem? [kJ mk ty seq ti ss tc cs tx ex pad pl,aFq bs_7 xs_8] 1=Option.some (uX bs_9)∧vN bs_7 xs_8=bs_9.length∧vN bs_7 xs_8=bs_9.length∧bs_9.length≤1000000∧[AV.int .i64 ti,.int .i64 ss]=aC xs_10∧2=xs_10.length∧(1:Int)≤(4:Int)∧(4:Int)≤(7:Int)∧xs_10.length≤1000000)∧∃bs_11:List UInt8,∃xs_12:List Int,Lf (GetElem?.getElem? [kJ mk ty seq ti ss tc cs tx ex pad pl,Blk.mk BK.grow true (ofBytes (bs_9++putM 4 xs_10))] 1=Option.some (uX bs_11)∧(bs_9++putM 4 xs_10).length=bs_11.length∧(bs_9++putM 4 xs_10).length=bs_11.length∧bs_11.length≤1000000∧aC cs=aC xs_12∧cs.length=xs_12.length∧(1:Int)≤(4:Int)∧(4:Int)≤(7:Int)∧xs_12.length≤1000000)∧bM3 mk ty seq ti ss tc cs tx ex pad pl bs_11 xs_12 Q
abbrev bFx (mk:Bool) (ty n_4 seq ti ss:Int) (tc:Nat) (cs:List Int) (tx:Nat) (ex:List Xt) (pad:Int) (pl:List UInt8) (Q:Out→List Blk→Gh→Prop):Prop:=bif mk then exW .i64 ((oC ty ||| 128:Nat):Int) (fun n_5=>∃xs_6:List Int,Lf ([AV.int .i64 n_4,.int .i64 n_5]=aC xs_6∧2=xs_6.length∧aPw xs_6)∧bN8 mk ty seq ti ss tc cs tx ex pad pl xs_6 Q) else ∃xs_5:List Int,Lf ([AV.int .i64 n_4,.int .i64 ty]=aC xs_5∧2=xs_5.length∧aPw xs_5)∧bN8 mk ty seq ti ss tc cs tx ex pad pl xs_5 Q
theorem bC1 (mk:Bool) (ty:Int) (seq:Int) (ti:Int) (ss:Int) (tc:Nat) (cs:List Int) (tx:Nat) (ex:List Xt) (pad:Int) (pl:List UInt8) (Q:Out→List Blk→Gh→Prop):mR (bH [(544780,.int .i64),(544781,.int .i64),(544788,.int .i64),(544791,.int .i64),(544794,.int .i64),(544798,.int .i64),(544821,.int .i64),(544829,.int .i64),(544833,.agg [(.int .i64),(.str)]),(544839,.int .i64),(544842,.int .i64),(544843,.int .i64),(544844,.int .i64),(544859,.int .i64),(544862,.int .i64),(544863,.int .i64),(544864,.int .i64),(544869,.int .i64),(544870,.int .i64),(544852,.int .i64)]) (bI []) mk ty seq ti ss tc cs tx ex pad pl Q=(exI .i64 (cs.length:Int) (fun n_0=>exW .i64 ((128 ||| oC n_0:Nat):Int) (fun n_1=>bif decide (pad>0) then exW .i64 ((oC n_1 ||| 32:Nat):Int) (fun n_2=>exI .i64 (ex.length:Int) (fun n_3=>bif decide (n_3>0) then exW .i64 ((oC n_2 ||| 16:Nat):Int) (fun n_4=>bFx mk ty n_4 seq ti ss tc cs tx ex pad pl Q) else bFx mk ty n_2 seq ti ss tc cs tx ex pad pl Q)) else exI .i64 (ex.length:Int) (fun n_2=>bif decide (n_2>0) then exW .i64 ((oC n_1 ||| 16:Nat):Int) (fun n_3=>bFx mk ty n_3 seq ti ss tc cs tx ex pad pl Q) else bFx mk ty n_1 seq ti ss tc cs tx ex pad pl Q)))):=by kernel_rfl

theorem nU {a b:Nat} {A B:Prop} (h:a=b→A) (k:a≠b→B):bif Nat.beq a b then A else B:=by
 cases e:Nat.beq a b
 ·exact k (Nat.ne_of_beq_eq_false e)
 ·exact h (Nat.eq_of_beq_eq_true e)
theorem aAp (n:Int) (h : -9223372036854775808≤n∧n≤9223372036854775807):IntKind.wrap .i64 n=n:=by rw[IntKind.wrap_i64];omega
theorem bOe {x y:Int} {a b r:Nat} (hx:x=(a:Int)) (hy:y=(b:Int)) (ha:a≤1000000) (hb:b≤1000000) (hr:a ||| b=r) (hr2:r≤4000000) {K:Int→Prop} (h:K ((r:Nat):Int)):∃n:Int,AV.int .i64 (IntKind.wrap .i64 (((x%18446744073709551616).toNat ||| (y%18446744073709551616).toNat:Nat):Int))=AV.int .i64 n∧K n:=by
 subst hx hy
 have e1:((a:Int)%18446744073709551616).toNat=a:=by omega
 have e2:((b:Int)%18446744073709551616).toNat=b:=by omega
 rw[e1,e2,hr]
 exact ⟨_,by rw[aAp _ ⟨by omega,by omega⟩],h⟩
theorem bAl {x:Int} {a b r:Nat} (hx:x=(a:Int)) (ha:a≤1000000) (hr:a ||| b=r) (hr2:r≤4000000) {K:Int→Prop} (h:K ((r:Nat):Int)):∃n:Int,AV.int .i64 (IntKind.wrap .i64 (((x%18446744073709551616).toNat ||| b:Nat):Int))=AV.int .i64 n∧K n:=by
 subst hx
 have e1:((a:Int)%18446744073709551616).toNat=a:=by omega
 rw[e1,hr]
 exact ⟨_,by rw[aAp _ ⟨by omega,by omega⟩],h⟩
theorem bPk {x:Int} {a b r:Nat} (hx:x=(a:Int)) (ha:a≤1000000) (hr:b ||| a=r) (hr2:r≤4000000) {K:Int→Prop} (h:K ((r:Nat):Int)):∃n:Int,AV.int .i64 (IntKind.wrap .i64 ((b ||| (x%18446744073709551616).toNat:Nat):Int))=AV.int .i64 n∧K n:=by
 subst hx
 have e1:((a:Int)%18446744073709551616).toNat=a:=by omega
 rw[e1,hr]
 exact ⟨_,by rw[aAp _ ⟨by omega,by omega⟩],h⟩
theorem bEz {x:Int} {z:Nat} (hz:(z:Int)=x%4) {K:Int→Prop} (h:K ((z:Nat):Int)):∃n:Int,AV.int .i64 (IntKind.wrap .i64 (((x%18446744073709551616).toNat &&& 3:Nat):Int))=AV.int .i64 n∧K n:=by
 have e1:((x%18446744073709551616).toNat &&& 3)=(x%18446744073709551616).toNat%4:=Nat.and_two_pow_sub_one_eq_mod _ 2
 have e2:(x%18446744073709551616).toNat%4=z:=by omega
 rw[e1,e2]
 exact ⟨_,by rw[aAp _ ⟨by omega,by omega⟩],h⟩
theorem tdI {x:Int} {m d:Nat} (hx:x=(m:Int)) (hm:m≤1000000000) {K:Int→Prop} (h:K ((m/d:Nat):Int)):∃n:Int,AV.int .i64 (IntKind.wrap .i64 (Int.tdiv x (d:Int)))=AV.int .i64 n∧K n:=by
 subst hx
 have e1:Int.tdiv (m:Int) (d:Int)=((m/d:Nat):Int):=rfl
 have h2:m/d≤m:=Nat.div_le_self _ _
 rw[e1]
 generalize m/d=q at *
 exact ⟨_,by rw[aAp _ ⟨by omega,by omega⟩],h⟩
theorem aGg (n:Nat):List.flatten (List.replicate n [AV.int .u8 0])=ofBytes (List.replicate n 0):=by
 induction n with
 | zero=>rfl
 | succ n ih=>rw[List.replicate_succ,List.flatten_cons,ih,List.replicate_succ];rfl
theorem aTa (sh:Bool) (a b:List Xt):extBM sh (a++b)=extBM sh a++extBM sh b:=by
 induction a with
 | nil=>rfl
 | cons x a ih=>simp only[List.cons_append,extBM,ih,List.append_assoc]
def jH (sh:Bool) (x:Xt):List UInt8:=if sh=true then putM 1 [x.1*16+(x.2.length-1)] else putM 1 [x.1,(x.2.length:Int)]
theorem jJ (sh:Bool) {ex:List Xt} {i:Nat} (hi:i<ex.length):extBM sh (ex.take (i+1))=extBM sh (ex.take i)++(jH sh ex[i]++ex[i].2):=by
 rw[List.take_add_one,List.getElem?_eq_getElem hi,Option.toList_some,aTa,extBM,extBM,List.append_nil]
 rfl
theorem iC (sh:Bool) (x:Xt):1≤(jH sh x).length∧(jH sh x).length≤2:=by
 unfold jH
 split
 ·rw[put_len];simp
 ·rw[put_len];simp
theorem nK:∀ (l:List Xt) (a:Int),0≤a→extsOkM a l=true→∀x∈l,0<x.1∧x.1≤255∧x.2.length≤255
 | [],_,_,_,x,hx=>by simp at hx
 | y::l,a,ha,h,x,hx=>by
  rw[extsOkM,Bool.and_eq_true,decide_eq_true_eq] at h
  rcases List.mem_cons.1 hx with rfl | hx
  ·exact ⟨by omega,h.1.2.1,h.1.2.2⟩
  ·exact nK l y.1 (by omega) h.2 x hx
theorem extB_len (sh:Bool):∀ (l:List Xt),(∀x∈l,x.2.length≤255)→(extBM sh l).length≤257*l.length
 | [],_=>by simp[extBM]
 | x::l,h=>by
  have h1:=extB_len sh l fun y hy=>h y (by simp[hy])
  have h2:=h x (by simp)
  have h3:=iC sh x
  have e:extBM sh (x::l)=jH sh x++x.2++extBM sh l:=rfl
  rw[e,List.length_append,List.length_append,List.length_cons]
  omega
theorem short_at {ex:List Xt} (h:shortM ex=true):∀x∈ex,x.1≤14∧1≤x.2.length∧x.2.length≤16:=fun x hx=>by
 have h1:ex.any isLongM=false:=by rw[shortM,Bool.not_eq_true'] at h;exact h
 have h2:=List.any_eq_false.1 h1 x hx
 simp only[isLongM,Bool.or_eq_true,decide_eq_true_eq,not_or] at h2
 omega
theorem aC4 {ex:List Xt} (h:0<ex.length):eD ex=[.int .i64 ex[0].1,.str ex[0].2]:=by
 have:=sS h (m:=0) (by omega)
 simpa [eD] using this
theorem bOw (a b:Nat) (hb:b<16):a*16 ||| b=a*16+b:=by
 have:=Nat.two_pow_add_eq_or_of_lt (i:=4) hb a
 rw[show (2:Nat)^4=16 from rfl,Nat.mul_comm 16 a] at this
 exact this.symm
theorem head_len (mk:Bool) (ty seq ti ss:Int) (cs:List Int) (n:Nat) (pad:Int):(headBM mk ty seq ti ss cs n pad).length=12+4*cs.length:=by
 unfold headBM
 simp only[List.length_append,put_len,List.length_cons,List.length_nil]
def aOw (mk:Bool) (ty seq ti ss:Int) (tc:Nat) (cs:List Int) (tx:Nat) (ex:List Xt) (pad:Int) (pl:List UInt8) (Q:Out→List Blk→Gh→Prop):Prop:=
 ∀ (tot len:Nat) (lf:Bool) (c:List AV) (g:List Blk),tot=(headM mk ty seq ti ss cs ex pad).length→len=(headM mk ty seq ti ss cs ex pad).length→lf=true→c=ofBytes (headM mk ty seq ti ss cs ex pad)→Q (.ret (.sl 1 tot 0 len 1)) (⟨.exact,true,iY mk ty seq ti ss tc cs tx ex pad pl⟩::⟨.grow,lf,c⟩::g) {}
theorem bOx {b:Bool} {A B:Prop} (h:b=true) (k:A):bif b then A else B:=by rw[h];exact k
theorem bK4 (mk:Bool) (ty seq ti ss:Int) (tc:Nat) (cs:List Int) (tx:Nat) (ex:List Xt) (pad:Int) (pl:List UInt8) (Q:Out→List Blk→Gh→Prop) (hcs:cs.length≤15) (hex:ex.length≤16) (hne:0<ex.length) (hx:extsOkM 0 ex=true) (hq:aOw mk ty seq ti ss tc cs tx ex pad pl Q):aDu mk ty seq ti ss tc cs tx ex pad pl Q:=by
 unfold aDu
 delta aX0 bJm aMy aBs aNt kU aHv kJ vN aU5 bDu aFq aK2 aTx bIo aTp uX qE aJl aJ6 aPo vI aYh oC nT aD5 aBi aH1 aId aLr aM0 uQ aOi aL9 aN3 aLq aUs aH5 aIe aJf aJy aSa aTv aTj aIw aRp nJ vL aPw
 have hall:=nK ex 0 (Int.le_refl _) hx
 have hhl:=head_len mk ty seq ti ss cs ex.length pad
 refine ⟨?_, ?_⟩
 ·rintro _ ⟨rfl,hsh⟩
  have hs:=short_at hsh.symm
  refine aF (fun _ => ?_) (fun h=>by exfalso;omega)
  have hm:=List.getElem_mem hne
  have ha:=hall _ hm
  have hs0:=hs _ hm
  have fx:=aC4 hne
  have et:=jJ true hne
  have pl1:=iC true ex[0]
  rw[List.take_zero,extBM,List.nil_append] at et
  refine ckI (by simp;omega) (ckI (by rw[aZ];simp;omega) (aWz hne (by simp) (aI (by omega) (by omega) ⟨_,rfl,aI (by omega) (by omega) ?_⟩)))
  obtain ⟨id,hid⟩:∃n:Nat,ex[0].1=n:=⟨ex[0].1.toNat,by omega⟩
  have hp:putM 1 [((id*16+(ex[0].2.length-1):Nat):Int)]=jH true ex[0]:=by
   rw[jH,if_pos rfl,hid]
   congr 2
   omega
  refine bOe (a:=id*16) (b:=ex[0].2.length-1) (r:=id*16+(ex[0].2.length-1)) (by omega) (by omega) (by omega) (by omega) (bOw _ _ (by omega)) (by omega) ⟨[((id*16+(ex[0].2.length-1):Nat):Int)],⟨rfl,rfl,by omega,by omega,by simp,by simp⟩, ?_⟩
  rw[hp]
  refine ckI (by rw[cK];simp;omega) (nU (fun h=>by exfalso;omega) (fun h=>ckI (bltQ_iff.2 (by omega)) (ckI (by simp[aH];omega) (aI (by omega) (by omega) ⟨⟨trivial,rfl⟩,.inr ⟨1,⟨by omega,by omega,hsh⟩,by omega,rfl,rfl,fx.symm,ckI (by rw[aK];rfl) ⟨by rw[dH,et],rfl,rfl,rfl,rfl,by rw[et,List.length_append,aH],rfl,trivial⟩⟩⟩))))
 ·rintro i ⟨h1i,hi,hsh⟩
  have hs:=short_at hsh.symm
  refine aF (fun hlt => ?_) (fun hge => ?_)
  ·have hlt':i<ex.length:=by omega
   have hm:=List.getElem_mem hlt'
   have ha:=hall _ hm
   have hs0:=hs _ hm
   have et:=jJ true hlt'
   have pl1:=iC true ex[i]
   have hXl:=extB_len true (ex.take i) fun x hx=>(hall x (List.mem_of_mem_take hx)).2.2
   rw[List.length_take,Nat.min_eq_left hi] at hXl
   refine ckI (by simp;omega) (ckI (by rw[aZ];simp;omega) (aWz hlt' (by simp) (aI (by omega) (by omega) ⟨_,rfl,aI (by omega) (by omega) ?_⟩)))
   obtain ⟨id,hid⟩:∃n:Nat,ex[i].1=n:=⟨ex[i].1.toNat,by omega⟩
   have hp:putM 1 [((id*16+(ex[i].2.length-1):Nat):Int)]=jH true ex[i]:=by
    rw[jH,if_pos rfl,hid]
    congr 2
    omega
   refine bOe (a:=id*16) (b:=ex[i].2.length-1) (r:=id*16+(ex[i].2.length-1)) (by omega) (by omega) (by omega) (by omega) (bOw _ _ (by omega)) (by omega) ⟨extBM true (ex.take i),[((id*16+(ex[i].2.length-1):Nat):Int)],⟨rfl,rfl,rfl,by omega,rfl,rfl,by omega,by omega,by simp⟩, ?_⟩
   rw[hp]
   refine ckI (by rw[cK];simp;omega) (nU (fun h=>by exfalso;omega) (fun h=>ckI (bltQ_iff.2 (by omega)) (ckI (by simp[aH];omega) (aI (by omega) (by omega) (bOx (by rw[aK];rfl) ⟨⟨trivial,rfl⟩,.inr ⟨i+1,⟨by omega,by omega,hsh⟩,by omega,rfl,rfl,rfl,ckI (by rw[aK];rfl) ⟨by rw[dH,et,List.append_assoc],rfl,rfl,rfl,rfl,by rw[et,aH,List.length_append,List.length_append,List.length_append,Nat.add_assoc],rfl,trivial⟩⟩⟩)))))
  ·have hi:i=ex.length:=by omega
   subst hi
   rw[List.take_length]
   have hel:=extB_len true ex fun x hx=>(hall x hx).2.2
   have hE1:1≤(extBM true ex).length:=by
    have e1:=jJ true (ex:=ex) (i:=ex.length-1) (by omega)
    have e2:=iC true ex[ex.length-1]
    rw[show ex.length-1+1=ex.length by omega,List.take_length] at e1
    rw[e1,List.length_append,List.length_append]
    omega
   have hq:=hq
   unfold aOw headM extPM at hq
   rw[if_neg (by omega),←hsh] at hq
   generalize hE:extBM true ex=E at *
   have hz:∃z:Nat,z=(4-E.length%4)%4:=⟨_,rfl⟩
   obtain ⟨z,hz⟩:=hz
   have hzz:zerosM E.length=List.replicate z 0:=by rw[zerosM,hz]
   rw[hzz] at hq
   have hZ:(List.replicate z (0:UInt8)).length=z:=List.length_replicate
   refine ckI (by rw[aH];simp) ⟨_,rfl,aI (by omega) (by omega) (bEz (z:=z) (by omega) ?_)⟩
   simp only[aGg,Int.toNat_natCast]
   refine ckI (by rw[cK];simp;omega) (aF (fun h0 => ?_) (fun h0 => ?_))
   ·have hz0:z=0:=by omega
    subst hz0
    simp only[List.replicate_zero,List.append_nil] at hq
    refine ckI rfl (ckI (by rw[aH];simp) (ckI (by rw[aH];simp) ⟨_,rfl,tdI (m:=E.length) rfl (by omega) ⟨headBM mk ty seq ti ss cs ex.length pad,[48862,((E.length/4:Nat):Int)],⟨rfl,rfl,rfl,by omega,rfl,rfl,by omega,by omega,by simp⟩, ?_⟩⟩))
    refine ckI ?_ (nU (fun h=>by exfalso;omega) (fun h=>ckI (bltQ_iff.2 (by omega)) (ckI ?_ (hq _ _ _ _ _ ?_ ?_ ?_ ?_))))
    ·have e1:List.take (E.length*1) (List.drop 0 (ofBytes E))=ofBytes E:=by rw[List.drop_zero,List.take_of_length_le (by rw[aH];omega)]
     rw[e1,cK,aH];simp;omega
    ·simp only[aH,List.length_append,put_len,List.length_cons,List.length_nil];simp;omega
    ·rw[Nat.mul_one,List.drop_zero,List.take_of_length_le (by rw[aH];omega),aH]
     simp only[List.length_append,put_len,profM]
     simp
     omega
    ·simp only[List.length_append,put_len,profM]
     simp
     omega
    ·rw[Nat.mul_one,List.drop_zero,List.take_of_length_le (by rw[aH];omega),aK]
    ·rw[Nat.mul_one,List.drop_zero,List.take_of_length_le (by rw[aH];omega),dH,List.append_assoc]
     rfl
   ·have hz1:1≤z:=by omega
    have hEZ:(E++List.replicate z (0:UInt8)).length=E.length+z:=by rw[List.length_append,hZ]
    refine ckI (bltQ_iff.2 (by omega)) (ckI (by rw[aH];simp;omega) (ckI (by rw[dH,aH,aH,List.length_append];simp) ⟨_,rfl,tdI (m:=E.length+z) (by omega) (by omega) ⟨headBM mk ty seq ti ss cs ex.length pad,[48862,(((E.length+z)/4:Nat):Int)],⟨rfl,rfl,rfl,by omega,rfl,rfl,by omega,by omega,by simp⟩, ?_⟩⟩))
    have e1:List.take ((E.length+z)*1) (List.drop 0 (ofBytes (E++List.replicate z (0:UInt8))))=ofBytes (E++List.replicate z 0):=by rw[List.drop_zero,List.take_of_length_le (by rw[aH,hEZ];omega)]
    rw[dH,e1]
    refine ckI ?_ (nU (fun h=>by exfalso;omega) (fun h=>ckI (bltQ_iff.2 (by omega)) (ckI ?_ (hq _ _ _ _ _ ?_ ?_ ?_ ?_))))
    ·rw[cK,aH,aH,hEZ,hZ];simp;omega
    ·simp only[aH,List.length_append,put_len,List.length_cons,List.length_nil];simp;omega
    ·rw[aH]
     simp only[List.length_append,put_len,profM,hZ]
     simp
     omega
    ·simp only[List.length_append,put_len,profM,hZ]
     simp
     omega
    ·rw[aK]
    ·rw[dH,List.append_assoc,List.length_append,hZ]
     rfl
theorem bNt (mk:Bool) (ty seq ti ss:Int) (tc:Nat) (cs:List Int) (tx:Nat) (ex:List Xt) (pad:Int) (pl:List UInt8) (Q:Out→List Blk→Gh→Prop) (hcs:cs.length≤15) (hex:ex.length≤16) (hne:0<ex.length) (hx:extsOkM 0 ex=true) (hq:aOw mk ty seq ti ss tc cs tx ex pad pl Q):aFu mk ty seq ti ss tc cs tx ex pad pl Q:=by
 unfold aFu
 delta bA6 bJw bI0 aB3 aN0 kL aKd oF aCy aSp bDn aKg aPt aR2 bFb aHy aJd aHw aJ3 aKh vI aY7 nT aJu aXs aBi aIj aJn aK3 aNw uR aPg aPr aMe aMf aUs aH5 aIe aJf aJy aTh aTv aTj aIw aRp sW vL
 have hall:=nK ex 0 (Int.le_refl _) hx
 have hhl:=head_len mk ty seq ti ss cs ex.length pad
 refine ⟨?_, ?_⟩
 ·rintro _ ⟨rfl,hsh⟩
  refine aF (fun _ => ?_) (fun h=>by exfalso;omega)
  have hm:=List.getElem_mem hne
  have ha:=hall _ hm
  have fx:=aC4 hne
  have et:=jJ false hne
  have pl1:=iC false ex[0]
  rw[List.take_zero,extBM,List.nil_append] at et
  have hp:putM 1 [ex[0].1,(ex[0].2.length:Int)]=jH false ex[0]:=by rw[jH,if_neg (by simp)]
  refine ckI (by simp;omega) (ckI (by rw[aZ];simp;omega) (aWz hne (by simp) ⟨_,rfl,[ex[0].1,(ex[0].2.length:Int)],⟨rfl,rfl,by omega,by omega,by simp,by simp⟩, ?_⟩))
  rw[hp]
  refine ckI (by rw[cK];simp;omega) (nU (fun h => ?_) (fun h=>ckI (bltQ_iff.2 (by omega)) (ckI (by simp[aH];omega) (aI (by omega) (by omega) ⟨⟨trivial,rfl⟩,.inr ⟨1,⟨by omega,by omega,hsh⟩,by omega,rfl,rfl,fx.symm,ckI (by rw[aK];rfl) ⟨by rw[dH,et],rfl,rfl,rfl,rfl,by rw[et,List.length_append,aH],rfl,trivial⟩⟩⟩))))
  have hnil:ex[0].2=[]:=List.length_eq_zero_iff.1 h
  rw[hnil,List.append_nil] at et
  exact ckI (by rw[h];rfl) (ckI (by simp[aH]) (aI (by omega) (by omega) ⟨⟨trivial,rfl⟩,.inr ⟨1,⟨by omega,by omega,hsh⟩,by omega,rfl,rfl,fx.symm,by rw[et],rfl,rfl,rfl,rfl,by rw[et],rfl,trivial⟩⟩))
 ·rintro i ⟨h1i,hi,hsh⟩
  refine aF (fun hlt => ?_) (fun hge => ?_)
  ·have hlt':i<ex.length:=by omega
   have hm:=List.getElem_mem hlt'
   have ha:=hall _ hm
   have et:=jJ false hlt'
   have pl1:=iC false ex[i]
   have hXl:=extB_len false (ex.take i) fun x hx=>(hall x (List.mem_of_mem_take hx)).2.2
   rw[List.length_take,Nat.min_eq_left hi] at hXl
   have hp:putM 1 [ex[i].1,(ex[i].2.length:Int)]=jH false ex[i]:=by rw[jH,if_neg (by simp)]
   refine ckI (by simp;omega) (ckI (by rw[aZ];simp;omega) (aWz hlt' (by simp) ⟨_,rfl,extBM false (ex.take i),[ex[i].1,(ex[i].2.length:Int)],⟨rfl,rfl,rfl,by omega,rfl,rfl,by omega,by omega,by simp⟩, ?_⟩))
   rw[hp]
   refine ckI (by rw[cK];simp;omega) (nU (fun h => ?_) (fun h=>ckI (bltQ_iff.2 (by omega)) (ckI (by simp[aH];omega) (aI (by omega) (by omega) (bOx (by rw[aK];rfl) ⟨⟨trivial,rfl⟩,.inr ⟨i+1,⟨by omega,by omega,hsh⟩,by omega,rfl,rfl,rfl,ckI (by rw[aK];rfl) ⟨by rw[dH,et,List.append_assoc],rfl,rfl,rfl,rfl,by rw[et,aH,List.length_append,List.length_append,List.length_append,Nat.add_assoc],rfl,trivial⟩⟩⟩)))))
   have hnil:ex[i].2=[]:=List.length_eq_zero_iff.1 h
   rw[hnil,List.append_nil] at et
   exact ckI (by rw[h];rfl) (ckI (by simp[aH]) (aI (by omega) (by omega) ⟨⟨trivial,rfl⟩,.inr ⟨i+1,⟨by omega,by omega,hsh⟩,by omega,rfl,rfl,rfl,by rw[et],rfl,rfl,rfl,rfl,by rw[et],rfl,trivial⟩⟩))
  ·have hi:i=ex.length:=by omega
   subst hi
   rw[List.take_length]
   have hel:=extB_len false ex fun x hx=>(hall x hx).2.2
   have hE1:1≤(extBM false ex).length:=by
    have e1:=jJ false (ex:=ex) (i:=ex.length-1) (by omega)
    have e2:=iC false ex[ex.length-1]
    rw[show ex.length-1+1=ex.length by omega,List.take_length] at e1
    rw[e1,List.length_append,List.length_append]
    omega
   have hq:=hq
   unfold aOw headM extPM at hq
   rw[if_neg (by omega),←hsh] at hq
   generalize hE:extBM false ex=E at *
   have hz:∃z:Nat,z=(4-E.length%4)%4:=⟨_,rfl⟩
   obtain ⟨z,hz⟩:=hz
   have hzz:zerosM E.length=List.replicate z 0:=by rw[zerosM,hz]
   rw[hzz] at hq
   have hZ:(List.replicate z (0:UInt8)).length=z:=List.length_replicate
   refine ckI (by rw[aH];simp) ⟨_,rfl,aI (by omega) (by omega) (bEz (z:=z) (by omega) ?_)⟩
   simp only[aGg,Int.toNat_natCast]
   refine ckI (by rw[cK];simp;omega) (aF (fun h0 => ?_) (fun h0 => ?_))
   ·have hz0:z=0:=by omega
    subst hz0
    simp only[List.replicate_zero,List.append_nil] at hq
    refine ckI rfl (ckI (by rw[aH];simp) (ckI (by rw[aH];simp) ⟨_,rfl,tdI (m:=E.length) rfl (by omega) ⟨headBM mk ty seq ti ss cs ex.length pad,[4096,((E.length/4:Nat):Int)],⟨rfl,rfl,rfl,by omega,rfl,rfl,by omega,by omega,by simp⟩, ?_⟩⟩))
    refine ckI ?_ (nU (fun h=>by exfalso;omega) (fun h=>ckI (bltQ_iff.2 (by omega)) (ckI ?_ (hq _ _ _ _ _ ?_ ?_ ?_ ?_))))
    ·have e1:List.take (E.length*1) (List.drop 0 (ofBytes E))=ofBytes E:=by rw[List.drop_zero,List.take_of_length_le (by rw[aH];omega)]
     rw[e1,cK,aH];simp;omega
    ·simp only[aH,List.length_append,put_len,List.length_cons,List.length_nil];simp;omega
    ·rw[Nat.mul_one,List.drop_zero,List.take_of_length_le (by rw[aH];omega),aH]
     simp only[List.length_append,put_len,profM]
     simp
     omega
    ·simp only[List.length_append,put_len,profM]
     simp
     omega
    ·rw[Nat.mul_one,List.drop_zero,List.take_of_length_le (by rw[aH];omega),aK]
    ·rw[Nat.mul_one,List.drop_zero,List.take_of_length_le (by rw[aH];omega),dH,List.append_assoc]
     rfl
   ·have hz1:1≤z:=by omega
    have hEZ:(E++List.replicate z (0:UInt8)).length=E.length+z:=by rw[List.length_append,hZ]
    refine ckI (bltQ_iff.2 (by omega)) (ckI (by rw[aH];simp;omega) (ckI (by rw[dH,aH,aH,List.length_append];simp) ⟨_,rfl,tdI (m:=E.length+z) (by omega) (by omega) ⟨headBM mk ty seq ti ss cs ex.length pad,[4096,(((E.length+z)/4:Nat):Int)],⟨rfl,rfl,rfl,by omega,rfl,rfl,by omega,by omega,by simp⟩, ?_⟩⟩))
    have e1:List.take ((E.length+z)*1) (List.drop 0 (ofBytes (E++List.replicate z (0:UInt8))))=ofBytes (E++List.replicate z 0):=by rw[List.drop_zero,List.take_of_length_le (by rw[aH,hEZ];omega)]
    rw[dH,e1]
    refine ckI ?_ (nU (fun h=>by exfalso;omega) (fun h=>ckI (bltQ_iff.2 (by omega)) (ckI ?_ (hq _ _ _ _ _ ?_ ?_ ?_ ?_))))
    ·rw[cK,aH,aH,hEZ,hZ];simp;omega
    ·simp only[aH,List.length_append,put_len,List.length_cons,List.length_nil];simp;omega
    ·rw[aH]
     simp only[List.length_append,put_len,profM,hZ]
     simp
     omega
    ·simp only[List.length_append,put_len,profM,hZ]
     simp
     omega
    ·rw[aK]
    ·rw[dH,List.append_assoc,List.length_append,hZ]
     rfl
theorem bL6 (c:Nat) (h:c≤15):128 ||| c=128+c∧(128+c) ||| 32=160+c∧(128+c) ||| 16=144+c∧(160+c) ||| 16=176+c:=by
 have:∀c,c<16→128 ||| c=128+c∧(128+c) ||| 32=160+c∧(128+c) ||| 16=144+c∧(160+c) ||| 16=176+c:=by decide
 exact this c (by omega)
theorem or7 (t:Nat) (h:t≤127):t ||| 128=t+128:=by
 have:∀t,t<128→t ||| 128=t+128:=by decide
 exact this t (by omega)
theorem aI5 (mk:Bool) (ty seq ti ss:Int) (tc:Nat) (cs:List Int) (tx:Nat) (ex:List Xt) (pad:Int) (pl:List UInt8) (Q:Out→List Blk→Gh→Prop) (hty:0≤ty∧ty≤127) (hcs:cs.length≤15) (hex:ex.length≤16) (hx:extsOkM 0 ex=true) (hq:aOw mk ty seq ti ss tc cs tx ex pad pl Q):∃hv hb,mR hv hb mk ty seq ti ss tc cs tx ex pad pl Q:=by
 obtain ⟨hv,hb',e⟩:∃hv hb,mR hv hb mk ty seq ti ss tc cs tx ex pad pl Q=_:=⟨_,_,bC1 mk ty seq ti ss tc cs tx ex pad pl Q⟩
 refine ⟨hv,hb',e.mpr ?_⟩
 delta oC aPw kJ uX nJ aTp aHv aFq vN bN8 bFx
 clear e
 obtain ⟨t,rfl⟩:∃n:Nat,ty=n:=⟨ty.toNat,by omega⟩
 obtain ⟨o1,o2,o3,o4⟩:=bL6 cs.length hcs
 have o5:=or7 t (by omega)
 have hall:=nK ex 0 (Int.le_refl _) hx
 have hd:dataM ex:=fun x hx=>by have:=hall x hx;omega
 have hhl:=head_len mk t seq ti ss cs ex.length pad
 -- behind the flags
 have end0:∀f k:Int,f=fstM cs ex.length pad→k=kindM mk t→ex.length=0→∀g,Q (.ret (.sl 1 (putM 1 [f,k]++putM 2 [seq]++putM 4 [ti,ss]++putM 4 cs).length 0 (putM 1 [f,k]++putM 2 [seq]++putM 4 [ti,ss]++putM 4 cs).length 1)) (⟨.exact,true,iY mk t seq ti ss tc cs tx ex pad pl⟩::⟨.grow,true,ofBytes (putM 1 [f,k]++putM 2 [seq]++putM 4 [ti,ss]++putM 4 cs)⟩::g) {}:=fun f k hf hk h0 g=>by
  have hh:headM mk t seq ti ss cs ex pad=putM 1 [f,k]++putM 2 [seq]++putM 4 [ti,ss]++putM 4 cs:=by
   rw[headM,if_pos h0,List.append_nil,headBM,←hf,←hk]
  exact hq _ _ _ _ g (by rw[hh]) (by rw[hh]) rfl (by rw[hh])
 have end1:∀f k:Int,f=fstM cs ex.length pad→k=kindM mk t→headBM mk t seq ti ss cs ex.length pad=putM 1 [f,k]++putM 2 [seq]++putM 4 [ti,ss]++putM 4 cs:=fun f k hf hk=>by
  rw[headBM,←hf,←hk]
 have hkT:mk=true→((t+128:Nat):Int)=kindM mk t:=fun h=>by rw[kindM,if_pos h];omega
 have hkF:mk=false→(t:Int)=kindM mk t:=fun h=>by rw[kindM,if_neg (by rw[h];simp)];omega
 have ml:=put_len
 refine ⟨_,rfl,bPk (a:=cs.length) rfl (by omega) o1 (by omega) (aF (fun hp=>bAl (a:=128+cs.length) rfl (by omega) o2 (by omega) ⟨_,rfl,aF (fun he=>bAl (a:=160+cs.length) rfl (by omega) o4 (by omega) (dW (fun hm=>bAl (a:=t) rfl (by omega) o5 (by omega) ?_) (fun hm => ?_))) (fun he=>dW (fun hm=>bAl (a:=t) rfl (by omega) o5 (by omega) ?_) (fun hm => ?_))⟩) (fun hp=>⟨_,rfl,aF (fun he=>bAl (a:=128+cs.length) rfl (by omega) o3 (by omega) (dW (fun hm=>bAl (a:=t) rfl (by omega) o5 (by omega) ?_) (fun hm => ?_))) (fun he=>dW (fun hm=>bAl (a:=t) rfl (by omega) o5 (by omega) ?_) (fun hm => ?_))⟩))⟩
 all_goals
  refine ⟨[_,_],⟨rfl,rfl,by omega,by omega,by simp,by simp⟩,putM 1 [_,_],[seq],⟨rfl,rfl,rfl,by simp[ml],rfl,rfl,by omega,by omega,by simp⟩,_++putM 2 [seq],[ti,ss],⟨rfl,rfl,rfl,by simp[ml],rfl,rfl,by omega,by omega,by simp⟩,_++putM 4 [ti,ss],cs,⟨rfl,rfl,rfl,by simp[ml],rfl,rfl,by omega,by omega,by omega⟩,_,rfl,aW (fun h0 => ?_) (fun h0 => ?_)⟩
  ·refine end0 _ _ ?_ ?_ (by omega) _<;>first
    | exact hkT hm
    | exact hkF hm
    | (unfold fstM;(repeat' split)<;>omega)
  ·refine ⟨ex,⟨rfl,rfl,by omega,hd⟩,dW (fun hs=>⟨_,rfl,.inl ⟨0,⟨rfl,hs.symm⟩,rfl, ?_,rfl, ?_,rfl,rfl,rfl,rfl,trivial⟩,bK4 mk t seq ti ss tc cs tx ex pad pl Q hcs hex (by omega) hx hq⟩) (fun hs=>⟨_,rfl,.inl ⟨0,⟨rfl,hs.symm⟩,rfl, ?_,rfl, ?_,rfl,rfl,rfl,rfl,trivial⟩,bNt mk t seq ti ss tc cs tx ex pad pl Q hcs hex (by omega) hx hq⟩)⟩
   all_goals first
    | (refine congrArg ofBytes (end1 _ _ ?_ ?_).symm)
    | (refine congrArg (fun l:List UInt8=>AV.sl 1 l.length 0 l.length 1) (end1 _ _ ?_ ?_).symm)
   all_goals first
    | exact hkT hm
    | exact hkF hm
    | (unfold fstM;(repeat' split)<;>omega)
theorem yI {ty seq ti ss:Int} {cs:List Int} {ex:List Xt} {pad:Int} (h:rightM ty seq ti ss cs ex pad=true):(0≤ty∧ty≤127)∧cs.length≤15∧ex.length≤16∧extsOkM 0 ex=true∧(0≤pad∧pad≤255):=by
 rw[rightM,Bool.and_eq_true] at h
 have:=of_decide_eq_true h.1
 obtain ⟨a1,a2,a3,a4,a5,a6,a7,a8,a9,a10,a11,a12,a13⟩:=this
 exact ⟨⟨a1,a2⟩,a12,a13,h.2,a10,a11⟩
def medK (c5:List AV) (n5:Nat) (c6:List AV) (n6:Nat) (cs:List Int) (ex:List Xt):Prop:=c5=aC cs∧n5=cs.length∧c6=cellsXM ex∧n6=ex.length∧cs.length≤1000000∧ex.length≤1000000∧dataM ex
def aD3:Con
 | [.agg [.bool mk,.int .i64 ty,.int .i64 seq,.int .i64 ti,.int .i64 ss,.lst _ c5 n5 1,.lst _ c6 n6 2,.int .i64 pad,.str pl]],H,K=>∃ (cs:List Int) (ex:List Xt),Lf (medK c5 n5 c6 n6 cs ex∧rightM ty seq ti ss cs ex pad=true) ∧
   K (.ret (.sl H.length (headM mk ty seq ti ss cs ex pad).length 0 (headM mk ty seq ti ss cs ex pad).length 1)) (H++[⟨.grow,true,ofBytes (headM mk ty seq ti ss cs ex pad)⟩])
 | _,_,_=>False
theorem aLo:aG Tryz.prog gl0 133 aD3:=by
 refine aCc (enters_of (by kernel_rfl)) aQ fun args H Q hc => ?_
 unfold aD3 at hc
 split at hc
 ·rename_i mk ty seq ti ss tc c5 n5 tx c6 n6 pad pl
  obtain ⟨cs,ex,⟨⟨rfl,rfl,rfl,rfl,h1,h2,hd⟩,hr⟩,hq⟩:=hc
  obtain ⟨r1,r2,r3,r4,r5⟩:=yI hr
  obtain ⟨hv,hb',h⟩:=aI5 mk ty seq ti ss tc cs tx ex pad pl (fun o H' _=>aNa Q H o H') r1 r2 r3 r4 (fun tot len lf c g e1 e2 e3 e4=>by
   subst e1 e2 e3 e4
   exact ⟨1,.sl 0 _ 0 _ 1,rfl,rfl,.inr ⟨rfl,_,rfl,by simp,aK 0 _,iU _,hq⟩⟩)
  refine ⟨rfl,rfl,_,1000, ?_,rfl,h⟩
  exact ⟨dZ,dY,cZ,aLy⟩
 ·exact hc.elim
def smH:SM:=eY [(132,pV),(133,aD3)]
theorem bFm:∀f g,smH f=some g→aG Tryz.prog gl0 f g:=bK _ (by simp only[List.mem_cons,List.not_mem_nil,or_false,forall_eq_or_imp,forall_eq];exact ⟨rD,aLo⟩)
noncomputable def aFa (hv:Nat→Option Pa) (hb:Nat→Option Bool) (mk:Bool) (ty seq ti ss:Int) (tc:Nat) (cs:List Int) (tx:Nat) (ex:List Xt) (pad:Int) (pl:List UInt8) (Q:Out→List Blk→Gh→Prop):Prop:=
 bC (e23 smH (fun _=>none) hv hb) (wpx (e23 smH (fun _=>none) hv hb) 1000) 88 [.agg (iY mk ty seq ti ss tc cs tx ex pad pl)] [] {} Q
theorem bNs (mk:Bool) (ty:Int) (seq:Int) (ti:Int) (ss:Int) (tc:Nat) (cs:List Int) (tx:Nat) (ex:List Xt) (pad:Int) (pl:List UInt8) (Q:Out→List Blk→Gh→Prop):aFa (bH [(360462,.int .i64),(360465,.int
 .i64),(360466,.int .i64),(360469,.int .i64)]) (bI []) mk ty seq ti ss tc cs tx ex pad pl Q=(∃cs_0:List Int,∃ex_1:List Xt,Lf (aC cs=aC cs_0∧cs.length=cs_0.length∧cellsXM ex=cellsXM ex_1∧ex.length =
 ex_1.length∧cs_0.length≤1000000∧ex_1.length≤1000000∧dataM ex_1)∧∀r_2:Int,Lf (r_2=ite (rightM ty seq ti ss cs_0 ex_1 pad=true) 0 230)→bif r_2 !=0 then Q (.ret (.tup [.nils,.int .i64 r_2])) [] {} else ∃cs_3:List
 Int,∃ex_4:List Xt,Lf (medK (aC cs) cs.length (cellsXM ex) ex.length cs_3 ex_4∧rightM ty seq ti ss cs_3 ex_4 pad=true)∧ckQ (Nat.beq (ofBytes (headM mk ty seq ti ss cs_3 ex_4 pad)).length (headM mk ty seq ti ss cs_3 ex_4
 pad).length) (exI .i64 ((headM mk ty seq ti ss cs_3 ex_4 pad).length:Int) (fun n_5=>exI .i64 (pl.length:Int) (fun n_6=>exW .i64 (n_5+n_6) (fun n_7=>exW .i64 (n_7+pad) (fun n_8=>bif decide (n_8>1200) then Q (.ret (.tup
 [.nils,.int .i64 3])) [] {} else Q (.ret (.tup [.sl 1 (headM mk ty seq ti ss cs_3 ex_4 pad).length 0 (headM mk ty seq ti ss cs_3 ex_4 pad).length 1,.int .i64 0])) [Blk.mk BK.exact true (iY mk ty seq ti ss tc cs tx ex pad pl),Blk.mk
 BK.grow true (ofBytes (headM mk ty seq ti ss cs_3 ex_4 pad))] {})))))):=by kernel_rfl

theorem wQ (mk:Bool) (ty seq ti ss:Int) (cs:List Int) (ex:List Xt) (pad:Int) (h2:cs.length≤15) (h3:ex.length≤16) (h4:extsOkM 0 ex=true):(headM mk ty seq ti ss cs ex pad).length≤10000:=by
 have h5:=nK ex 0 (Int.le_refl _) h4
 have h6:=extB_len (shortM ex) ex fun x hx=>(h5 x hx).2.2
 unfold headM
 rw[List.length_append,head_len]
 split
 ·simp;omega
 ·rw[List.length_append,put_len,extPM,List.length_append,zerosM,List.length_replicate]
  simp
  omega
def totalM (mk:Bool) (ty seq ti ss:Int) (cs:List Int) (ex:List Xt) (pad:Int) (pl:List UInt8):Int:=(headM mk ty seq ti ss cs ex pad).length+pl.length+pad
theorem aR4 (mk:Bool) (ty seq ti ss:Int) (tc:Nat) (cs:List Int) (tx:Nat) (ex:List Xt) (pad:Int) (pl:List UInt8) (hk:medK (aC cs) cs.length (cellsXM ex) ex.length cs ex) (hpl:pl.length≤1000000000) (Q:Out→List Blk→Gh→Prop)
  (h1:rightM ty seq ti ss cs ex pad=false→Q (.ret (.tup [.nils,.int .i64 230])) [] {})
  (h2:rightM ty seq ti ss cs ex pad=true→1200<totalM mk ty seq ti ss cs ex pad pl→∀g,Q (.ret (.tup [.nils,.int .i64 3])) g {})
  (h3:rightM ty seq ti ss cs ex pad=true→totalM mk ty seq ti ss cs ex pad pl≤1200→∀g,Q (.ret (.tup [.sl 1 (headM mk ty seq ti ss cs ex pad).length 0 (headM mk ty seq ti ss cs ex pad).length 1,.int .i64 0])) (g::[⟨.grow,true,ofBytes (headM mk ty seq ti ss cs ex pad)⟩]) {}):∃hv hb,aFa hv hb mk ty seq ti ss tc cs tx ex pad pl Q:=by
 obtain ⟨hv,hb',e⟩:∃hv hb,aFa hv hb mk ty seq ti ss tc cs tx ex pad pl Q=_:=⟨_,_,bNs mk ty seq ti ss tc cs tx ex pad pl Q⟩
 refine ⟨hv,hb',e.mpr ?_⟩
 clear e
 refine ⟨cs,ex,⟨hk⟩, ?_⟩
 rintro r ⟨hr⟩
 have hcl:=hk.2.2.2.2.1
 cases hT:rightM ty seq ti ss cs ex pad
 ·rw[hT,if_neg (by simp)] at hr
  subst hr
  exact h1 hT
 ·rw[hT,if_pos rfl] at hr
  subst hr
  obtain ⟨r1,r2,r3,r4,r5⟩:=yI hT
  have hb:=wQ mk ty seq ti ss cs ex pad r2 r3 r4
  refine aS (fun h=>absurd rfl h) (fun _=>⟨cs,ex,⟨hk,hT⟩,ckI (by rw[aH];simp) ⟨_,rfl,_,rfl,aI (by omega) (by omega) (aI (by omega) (by omega) (aF (fun hg=>h2 hT (by unfold totalM;omega) _) (fun hg=>h3 hT (by unfold totalM;omega) _)))⟩⟩)
def bA7:Con
 | [.agg [.bool mk,.int .i64 ty,.int .i64 seq,.int .i64 ti,.int .i64 ss,.lst _ c5 n5 1,.lst _ c6 n6 2,.int .i64 pad,.str pl]],H,K=>∃ (cs:List Int) (ex:List Xt),Lf (medK c5 n5 c6 n6 cs ex∧pl.length≤1000000000) ∧
   (Lf (rightM ty seq ti ss cs ex pad=false)→K (.ret (.tup [.nils,.int .i64 230])) H) ∧
   (Lf (rightM ty seq ti ss cs ex pad=true∧1200<totalM mk ty seq ti ss cs ex pad pl)→K (.ret (.tup [.nils,.int .i64 3])) H) ∧
   (∀b:List UInt8,Lf (rightM ty seq ti ss cs ex pad=true∧totalM mk ty seq ti ss cs ex pad pl≤1200∧b=headM mk ty seq ti ss cs ex pad)→K (.ret (.tup [.sl H.length b.length 0 b.length 1,.int .i64 0])) (H++[⟨.grow,true,ofBytes b⟩]))
 | _,_,_=>False
theorem bCf:aG Tryz.prog gl0 88 bA7:=by
 refine aCc (enters_of (by kernel_rfl)) aQ fun args H Q hc => ?_
 unfold bA7 at hc
 split at hc
 ·rename_i mk ty seq ti ss tc c5 n5 tx c6 n6 pad pl
  obtain ⟨cs,ex,⟨⟨rfl,rfl,rfl,rfl,k1,k2,hd⟩,hpl⟩,q1,q2,q3⟩:=hc
  obtain ⟨hv,hb',h⟩:=aR4 mk ty seq ti ss tc cs tx ex pad pl ⟨rfl,rfl,rfl,rfl,k1,k2,hd⟩ hpl (fun o H' _=>aNa Q H o H')
   (fun hr=>⟨0,.tup [.nils,.int .i64 230],rfl,rfl,.inl ⟨rfl,q1 ⟨hr⟩⟩⟩)
   (fun hr ht g=>⟨0,.tup [.nils,.int .i64 3],rfl,rfl,.inl ⟨rfl,q2 ⟨hr,ht⟩⟩⟩)
   (fun hr ht g=>⟨1,.tup [.sl 0 _ 0 _ 1,.int .i64 0],rfl,rfl,.inr ⟨rfl,_,rfl,by simp,aK 0 _,iU _,q3 _ ⟨hr,ht,rfl⟩⟩⟩)
  refine ⟨rfl,rfl,_,1000, ?_,rfl,h⟩
  exact ⟨dZ,dY,cZ,bFm⟩
 ·exact hc.elim
end Go.Proofs.YtnhechnaemmdiaaGreatDoor.Md
