/-
  Chapter 23: short, Check.
-/
import Derived.Test.YtnhechnaemmdiaaGreatDoorKnC
set_option linter.unusedSimpArgs false
set_option linter.unusedVariables false
namespace Go.Proofs.YtnhechnaemmdiaaGreatDoor.Md
open Go.RowKit
set_option maxRecDepth 1000000

abbrev Xt:=Int×List UInt8
def cellsXM:List Xt→List AV
 | []=>[]
 | x::l=>.int .i64 x.1::.str x.2::cellsXM l
def isLongM (x:Xt):Bool:=decide (x.1>14)||decide ((x.2.length:Int)=0)||decide ((x.2.length:Int)>16)
def shortM (l:List Xt):Bool := !l.any isLongM
theorem aW:∀l,(cellsXM l).length=2*l.length
 | []=>rfl
 | x::l=>by simp[cellsXM,aW l];omega
theorem sS:∀ (l:List Xt) (i:Nat),(cellsXM l).drop (2*i)=cellsXM (l.drop i)
 | l,0=>rfl
 | [],i+1=>by simp[cellsXM]
 | x::l,i+1=>by
  rw[show 2*(i+1)=2*i+2 by omega,cellsXM,bQg,bQg,sS l i,bQg]
theorem sU {l:List Xt} {i m:Nat} (hi:i<l.length) (hm:m=2*i):List.take 2 (List.drop m (cellsXM l))=[.int .i64 l[i].1,.str l[i].2]:=by
 subst hm
 rw[sS,bP7 hi]
 rfl
theorem aVl {l:List Xt} {i m:Nat} (hi:i<l.length) (hm:m=i*2) {K:Int→List UInt8→Prop} (hk:K l[i].1 l[i].2):∃ (n:Int) (s:List UInt8),AV.agg (List.take 2 (List.drop m (cellsXM l)))=AV.agg [AV.int .i64 n,AV.str s]∧K n s:=
 ⟨_,_,by rw[sU hi (by omega)],hk⟩

def bGq (t:Nat) (ex:List Xt):LInv where
 α:=Nat
 pre i:=Lf (i≤ex.length∧(ex.take i).any isLongM=false)
 st i:=⟨mkT [(0,.lst t (cellsXM ex) ex.length 2),(1,.fn (.func 178) [] []),(7,.int .i64 ex.length),(8,.int .i64 (i:Nat))],[]⟩
 mu i:=ex.length-i
noncomputable def aVn (hv:Nat→Option Pa) (hb:Nat→Option Bool) (t:Nat) (ex:List Xt):Env:=e23 sm0 (fun i=>bif Nat.beq i 222000 then some (fun _=>[[bGq t ex]]) else none) hv hb
noncomputable def qX (hv:Nat→Option Pa) (hb:Nat→Option Bool) (t:Nat) (ex:List Xt) (Q:Out→List Blk→Gh→Prop):Prop:=
 aY (aVn hv hb t ex) (wpx (aVn hv hb t ex) 1000) 134 [.lst t (cellsXM ex) ex.length 2] [] {} Q
abbrev bH0 (x_1:Nat) (ex:List Xt):Prop:=Lf (x_1≤ex.length∧List.any (ex.take x_1) isLongM=false)
abbrev bBr (t:Nat) (ex:List Xt):Prop:=aJ (AV.lst t (cellsXM ex) ex.length 2)
abbrev aV6 (ex:List Xt):AV:=.int .i64 (ex.length:Int)
abbrev bIj (n_2:Int) (Q:Out→List Blk→Gh→Prop):Prop:=bif decide (n_2≥0) then Q (.ret (.bool false)) [] {} else Q (.ret (.bool true)) [] {}
abbrev bI9:Prop:=True∧(0:Nat)=(0:Nat)
theorem bEe (t:Nat) (ex:List Xt) (Q:Out→List Blk→Gh→Prop):qX (bD [(909319,.int .i64),(909322,.int .i64),(909327,.agg [(.int .i64),(.str)]),(729097,.int .i64),(729103,.int .i64),(909330,.int .i64)]) (bE []) t ex Q=(exI .i64 (ex.length:Int) (fun n_0=>(∃x_1:Nat,bH0 x_1 ex∧bBr t ex∧aJ (AV.fn (Fn.func 178) [] [])∧AV.int .i64 n_0=aV6 ex∧AV.int .i64 0=AV.int .i64 (x_1:Int)∧True)∧∀x_1:Nat,bH0 x_1 ex→bif decide ((x_1:Int)<(ex.length:Int)) then exI .i64 (x_1:Int) (fun n_2=>ckQ (decide (0≤n_2)&&Nat.blt n_2.toNat ex.length&&true) (ckQ (Nat.ble (n_2.toNat*2+2) (cellsXM ex).length) (∃n_3 s_4,AV.agg (((cellsXM ex).drop (n_2.toNat*2)).take 2)=AV.agg [.int .i64 n_3,.str s_4]∧bif decide (n_3>14) then bIj n_2 Q else exI .i64 (s_4.length:Int) (fun n_5=>bif n_5==0 then bIj n_2 Q else exI .i64 (s_4.length:Int) (fun n_6=>bif decide (n_6>16) then bIj n_2 Q else exW .i64 ((x_1:Int)+1) (fun n_7=>bI9∧∃y_8:Nat,bH0 y_8 ex∧ex.length-y_8<ex.length-x_1∧bBr t ex∧aJ (AV.fn (Fn.func 178) [] [])∧aJ (aV6 ex)∧AV.int .i64 n_7=AV.int .i64 (y_8:Int)∧True)))))) else Q (.ret (.bool true)) [] {})):=by kernel_rfl

def smF:SM:=dV [(176,aVu)]
theorem bGf:∀f g,smF f=some g→aF Tryz.prog gl0 f g:=bF _ (by simp only[bOr,bOx,bP3,bQe];exact aZf)
def extsOkM:Int→List Xt→Bool
 | _,[]=>true
 | last,x::l=>decide (last<x.1∧x.1≤255∧x.2.length≤255)&&extsOkM x.1 l
def iC (mk:Bool) (ty seq ti ss:Int) (tc:Nat) (cs:List Int) (tx:Nat) (ex:List Xt) (pad:Int) (pl:List UInt8):List AV:=[.bool mk,.int .i64 ty,.int .i64 seq,.int .i64 ti,.int .i64 ss,.lst tc (aB cs) cs.length 1,.lst tx (cellsXM ex) ex.length 2,.int .i64 pad,.str pl]
def flagsM (ty seq ti ss:Int) (cs:List Int) (n:Nat) (pad:Int):Bool:=decide (0≤ty∧ty≤127∧0≤seq∧seq≤65535∧0≤ti∧ti<4294967296∧0≤ss∧ss<4294967296∧(∀x∈cs,0≤x∧x<4294967296)∧0≤pad∧pad≤255∧cs.length≤15∧n≤16)
def aMb (mk:Bool) (ty seq ti ss:Int) (tc:Nat) (cs:List Int) (tx:Nat) (ex:List Xt) (pad:Int) (pl:List UInt8):LInv where
 α:=Nat×Bool
 pre p:=Lf (p.1≤ex.length∧p.2=(flagsM ty seq ti ss cs ex.length pad&&extsOkM 0 (ex.take p.1)))
 st p:=⟨mkT [(1,.ptr 0 9 0),(3,.bool p.2),(48,.lst tx (cellsXM ex) ex.length 2),(49,.int .i64 ex.length),(50,.int .i64 (p.1:Nat))],[⟨.exact,true,(iC mk ty seq ti ss tc cs tx ex pad pl)⟩]⟩
 mu p:=ex.length-p.1
noncomputable def aCv (hv:Nat→Option Pa) (hb:Nat→Option Bool) (mk:Bool) (ty seq ti ss:Int) (tc:Nat) (cs:List Int) (tx:Nat) (ex:List Xt) (pad:Int) (pl:List UInt8):Env := { e23 smF (fun i=>bif Nat.beq i 132000 then some (fun _=>[[aMb mk ty seq ti ss tc cs tx ex pad pl]]) else none) hv hb with hz:=fun k=>Nat.beq k 540680||Nat.beq k 540685||Nat.beq k 540693||Nat.beq k 540704 }
noncomputable def lX (hv:Nat→Option Pa) (hb:Nat→Option Bool) (mk:Bool) (ty seq ti ss:Int) (tc:Nat) (cs:List Int) (tx:Nat) (ex:List Xt) (pad:Int) (pl:List UInt8) (Q:Out→List Blk→Gh→Prop):Prop:=
 aY (aCv hv hb mk ty seq ti ss tc cs tx ex pad pl) (wpx (aCv hv hb mk ty seq ti ss tc cs tx ex pad pl) 1000) 132 [.agg (iC mk ty seq ti ss tc cs tx ex pad pl)] [] {} Q
abbrev bHa (x_0:Nat×Bool) (ex:List Xt) (ty seq ti ss:Int) (cs:List Int) (pad:Int):Prop:=Lf (x_0.1≤ex.length∧x_0.2=(flagsM ty seq ti ss cs ex.length pad&&extsOkM 0 (ex.take x_0.1)))
abbrev aZx (xs_5:List Int):Prop:=xs_5.length≤4611686018427387904
abbrev bId (mk:Bool) (ty seq ti ss:Int) (tc:Nat) (cs:List Int) (tx:Nat) (ex:List Xt) (pad:Int) (pl:List UInt8):Prop:=aJ [AV.bool mk,.int .i64 ty,.int .i64 seq,.int .i64 ti,.int .i64 ss,.lst tc (aB cs) cs.length 1,.lst tx (cellsXM ex) ex.length 2,.int .i64 pad,.str pl]
abbrev aMd:Prop:=aJ (AV.ptr 0 9 0)
abbrev bMx (x_0:Nat×Bool) (ex:List Xt) (ty seq ti ss:Int) (cs:List Int) (pad:Int) (mk:Bool) (tc tx:Nat) (pl:List UInt8):Prop:=exW .i64 ((x_0.1:Int)+1) (fun n_6=>bI9∧∃y_7:Nat×Bool,Lf (y_7.1≤ex.length∧y_7.2=(flagsM ty seq ti ss cs ex.length pad&&extsOkM 0 (ex.take y_7.1)))∧ex.length-y_7.1<ex.length-x_0.1∧bId mk ty seq ti ss tc cs tx ex pad pl∧aMd∧AV.bool true=AV.bool y_7.2∧aJ (aV6 ex)∧aJ (AV.lst tx (cellsXM ex) ex.length 2)∧AV.int .i64 n_6=AV.int .i64 (y_7.1:Int)∧True)
abbrev bIl (x_0:Nat×Bool) (ex:List Xt) (ty seq ti ss:Int) (cs:List Int) (pad:Int) (mk:Bool) (tc tx:Nat) (pl:List UInt8):Prop:=exW .i64 ((x_0.1:Int)+1) (fun n_8=>bI9∧∃y_9:Nat×Bool,bHa y_9 ex ty seq ti ss cs pad∧ex.length-y_9.1<ex.length-x_0.1∧aJ [AV.bool mk,.int .i64 ty,.int .i64 seq,.int .i64 ti,.int .i64 ss,.lst tc (aB cs) cs.length 1,.lst tx (cellsXM ex) ex.length 2,.int .i64 pad,.str pl]∧aMd∧AV.bool false=AV.bool y_9.2∧aJ (aV6 ex)∧bBr tx ex∧AV.int .i64 n_8=AV.int .i64 (y_9.1:Int)∧True)
def gQ (mk:Bool) (ty:Int) (seq:Int) (ti:Int) (ss:Int) (tc:Nat) (cs:List Int) (tx:Nat) (ex:List Xt) (pad:Int) (pl:List UInt8) (Q:Out→List Blk→Gh→Prop):Prop:=
∀x_0:Nat×Bool,bHa x_0 ex ty seq ti ss cs pad→bif decide ((x_0.1:Int)<(ex.length:Int)) then exI .i64 (x_0.1:Int) (fun n_1=>ckQ (Nat.blt (x_0.1:Int).toNat ex.length&&true) (ckQ (Nat.ble ((x_0.1:Int).toNat*2+2) (cellsXM ex).length) (∃n_2 s_3,AV.agg (((cellsXM ex).drop ((x_0.1:Int).toNat*2)).take 2)=AV.agg [.int .i64 n_2,.str s_3]∧bif x_0.2 then exI .i64 (s_3.length:Int) (fun n_4=>∃xs_5:List Int,Lf ([AV.int .i64 n_2,.int .i64 n_4]=aB xs_5∧2=xs_5.length∧(0:Int)≤(8:Int)∧aZx xs_5)∧bif !List.any xs_5 (rE 8) then bif decide (n_2>0) then bif n_1==0 then bMx x_0 ex ty seq ti ss cs pad mk tc tx pl else exW .i64 (n_1-1) (fun n_6=>ckQ (decide (0≤n_6)&&Nat.blt n_6.toNat ex.length&&true) (ckQ (Nat.blt (n_6.toNat*2+0) (cellsXM ex).length) (exV .i64 ((cellsXM ex).getD (n_6.toNat*2+0) AV.undef) (fun n_7=>bif decide (n_2>n_7) then bMx x_0 ex ty seq ti ss cs pad mk tc tx pl else bIl x_0 ex ty seq ti ss cs pad mk tc tx pl)))) else bIl x_0 ex ty seq ti ss cs pad mk tc tx pl else bIl x_0 ex ty seq ti ss cs pad mk tc tx pl) else bIl x_0 ex ty seq ti ss cs pad mk tc tx pl))) else bif x_0.2 then Q (.ret (.int .i64 0)) [] {} else Q (.ret (.int .i64 230)) [] {}
def lL (mk:Bool) (ty:Int) (seq:Int) (ti:Int) (ss:Int) (tc:Nat) (cs:List Int) (tx:Nat) (ex:List Xt) (pad:Int) (pl:List UInt8) (Q:Out→List Blk→Gh→Prop):Prop:=
exI .i64 (ex.length:Int) (fun n_0=>(∃x_1:Nat×Bool,bHa x_1 ex ty seq ti ss cs pad∧bId mk ty seq ti ss tc cs tx ex pad pl∧aMd∧AV.bool false=AV.bool x_1.2∧AV.int .i64 n_0=aV6 ex∧bBr tx ex∧AV.int .i64 0=AV.int .i64 (x_1.1:Int)∧True)∧gQ mk ty seq ti ss tc cs tx ex pad pl Q)
theorem aYy (mk:Bool) (ty:Int) (seq:Int) (ti:Int) (ss:Int) (tc:Nat) (cs:List Int) (tx:Nat) (ex:List Xt) (pad:Int) (pl:List UInt8) (Q:Out→List Blk→Gh→Prop):lX (bD [(540710,.int .i64),(540716,.int
 .i64),(540721,.int .i64),(540724,.int .i64),(540726,.agg [(.int .i64),(.str)]),(540733,.int .i64),(540758,.int .i64),(540751,.int .i64),(540754,.int .i64)]) (bE []) mk ty seq ti ss tc cs tx ex pad pl Q=(∃xs_0:List
 Int,Lf ([AV.int .i64 ty]=aB xs_0∧1=xs_0.length∧(0:Int)≤(7:Int)∧aZx xs_0)∧bif !List.any xs_0 (rE 7) then ∃xs_1:List Int,Lf ([AV.int .i64 seq]=aB xs_1∧1=xs_1.length∧(0:Int)≤(16:Int)∧aZx
 xs_1)∧bif !List.any xs_1 (rE 16) then ∃xs_2:List Int,Lf ([AV.int .i64 ti,.int .i64 ss]=aB xs_2∧2=xs_2.length∧(0:Int)≤(32:Int)∧aZx xs_2)∧bif !List.any xs_2 (rE 32) then ∃xs_3:List Int,Lf (aB cs =
 aB xs_3∧cs.length=xs_3.length∧(0:Int)≤(32:Int)∧aZx xs_3)∧bif !List.any xs_3 (rE 32) then ∃xs_4:List Int,Lf ([AV.int .i64 pad]=aB xs_4∧1=xs_4.length∧(0:Int)≤(8:Int)∧aZx xs_4)∧bif !List.any
 xs_4 (rE 8) then exI .i64 (cs.length:Int) (fun n_5=>bif decide (n_5≤15) then exI .i64 (ex.length:Int) (fun n_6=>bif decide (n_6≤16) then exI .i64 (ex.length:Int) (fun n_7=>(∃x_8:Nat×Bool,bHa x_8 ex ty seq ti ss cs
 pad∧bId mk ty seq ti ss tc cs tx ex pad pl∧aMd∧AV.bool true=AV.bool x_8.2∧AV.int .i64 n_7=aV6 ex∧bBr tx ex∧AV.int .i64 0=AV.int .i64 (x_8.1:Int)∧True)∧gQ mk ty seq ti ss tc cs tx ex pad pl Q) else lL
 mk ty seq ti ss tc cs tx ex pad pl Q) else lL mk ty seq ti ss tc cs tx ex pad pl Q) else lL mk ty seq ti ss tc cs tx ex pad pl Q else lL mk ty seq ti ss tc cs tx ex pad pl Q else lL mk ty seq ti ss tc cs tx ex pad pl Q
 else lL mk ty seq ti ss tc cs tx ex pad pl Q else lL mk ty seq ti ss tc cs tx ex pad pl Q):=by kernel_rfl

theorem aKq (t:Nat) (ex:List Xt) (hx:ex.length≤1000000) (hd:∀x∈ex,x.2.length≤4611686018427387904) (Q:Out→List Blk→Gh→Prop) (hq:Q (.ret (.bool (shortM ex))) [] {}):∃hv hb,qX hv hb t ex Q:=by
 obtain ⟨hv,hb',e⟩:∃hv hb,qX hv hb t ex Q=_:=⟨_,_,bEe t ex Q⟩
 refine ⟨hv,hb',e.mpr ?_⟩
 delta bH0 bBr aV6 bIj bI9
 clear e
 refine ⟨_,rfl,⟨0,⟨by omega,by simp⟩,rfl,rfl,rfl,rfl,trivial⟩, ?_⟩
 rintro i ⟨hi,hany⟩
 refine aD (fun hlt => ?_) (fun hge => ?_)
 ·have hlt':i<ex.length:=by omega
  have hdi:=hd ex[i] (bPx hlt')
  have hstep:(ex.take (i+1)).any isLongM=isLongM ex[i]:=by
   rw[bP9,bT2,hany];simp[hlt']
  have hbad:isLongM ex[i]=true→shortM ex=false:=fun h=>by
   have:ex.any isLongM=true:=bSf.2 ⟨ex[i],bPx _,h⟩
   rw[shortM,this];rfl
  refine ⟨_,rfl,ckI (by simp;omega) (ckI (by rw[aW];simp;omega) (aVl hlt' (by simp) ?_))⟩
  refine aD (fun h1=>aD (fun _ => ?_) (fun h=>by exfalso;omega)) (fun h1=>⟨_,rfl,aS (fun h2=>aD (fun _ => ?_) (fun h=>by exfalso;omega)) (fun h2=>⟨_,rfl,aD (fun h3=>aD (fun _ => ?_) (fun h=>by exfalso;omega)) (fun h3 => ?_)⟩)⟩)
  ·rw[←hbad (by simp[isLongM,h1])];exact hq
  ·rw[←hbad (by simp only[isLongM,bO4 h2,Bool.or_true,Bool.true_or])];exact hq
  ·rw[←hbad (by simp only[isLongM,bO4 h3,Bool.or_true])];exact hq
  ·refine aI (by omega) (by omega) ⟨⟨trivial,rfl⟩,i+1,⟨hlt', ?_⟩,by omega,rfl,rfl,rfl,rfl,trivial⟩
   rw[hstep]
   simp only[isLongM,bO0 h1,bO0 h2,bO0 h3,bS5]
 ·have hle:i=ex.length:=by omega
  subst hle
  rw[bPy] at hany
  have:shortM ex=true:=by rw[shortM,hany];rfl
  rw[←this];exact hq
theorem xA {bits P:Int} (hP:(2:Int)^min bits.toNat 64=P) (h0:0<P) (n:Int):rE bits n = !decide (0≤n∧n<P):=by
 unfold rE
 rw[hP,bP0 _ (by omega)]
 by_cases h:n<0
 ·rw[bO4 h,bO0 (by omega)];rfl
 ·rw[bO0 h,bS4]
  by_cases h2:n<P
  ·rw[bO4 ⟨by omega,h2⟩,bSu (by omega) h2];rfl
  ·rw[bO0 (by omega)]
   have:n/P≠0:=by
    intro h3
    have h4:=Int.emod_add_mul_ediv n P
    have h5:=Int.emod_lt_of_pos n h0
    rw[h3] at h4
    omega
   simpa using this
theorem bBb {bits P n:Int} (hP:(2:Int)^min bits.toNat 64=P) (h0:0<P) {A B:Prop} (h:0≤n∧n<P→A) (k:¬ (0≤n∧n<P)→B):bif !(List.any [n] (rE bits)) then A else B:=by
 rw[bTs,List.any_nil,bS5,xA hP h0,Bool.not_not]
 exact aD h k
theorem bHf {bits P n m:Int} (hP:(2:Int)^min bits.toNat 64=P) (h0:0<P) {A B:Prop} (h:(0≤n∧n<P)∧0≤m∧m<P→A) (k:¬ ((0≤n∧n<P)∧0≤m∧m<P)→B):bif !(List.any [n,m] (rE bits)) then A else B:=by
 rw[bTs,bTs,List.any_nil,bS5,xA hP h0,xA hP h0]
 have e:(!(!decide (0≤n∧n<P) || !decide (0≤m∧m<P)))=decide ((0≤n∧n<P)∧0≤m∧m<P):=by rw[bSn];simp
 rw[e]
 exact aD h k
theorem bKc {bits P:Int} {l:List Int} (hP:(2:Int)^min bits.toNat 64=P) (h0:0<P) {A B:Prop} (h:(∀x∈l,0≤x∧x<P)→A) (k:¬ (∀x∈l,0≤x∧x<P)→B):bif !(List.any l (rE bits)) then A else B:=by
 have e:(!(List.any l (rE bits)))=decide (∀x∈l,0≤x∧x<P):=by
  rw[bSn,bOc]
  simp only[bOd,List.any_eq_false,xA hP h0,bOd,bTu,bOc]
  constructor
  ·intro hh x hx
   have:=hh x hx
   simpa using this
  ·intro hh x hx
   have:=hh x hx
   simpa using this
 rw[e]
 exact aD h k
def fI (a:Int):List Xt→Int
 | []=>a
 | x::l=>fI x.1 l
theorem aA8 (x:Xt):∀ (l:List Xt) (a:Int),extsOkM a (l++[x])=(extsOkM a l&&decide (fI a l<x.1∧x.1≤255∧x.2.length≤255))
 | [],a=>by rw[bPg,extsOkM,extsOkM,extsOkM,fI,bOh,bOg]
 | y::l,a=>by rw[bPh,extsOkM,aA8 x l y.1,extsOkM,fI,bQc]
theorem aCt:∀ (l:List Xt) (a:Int),extsOkM a l=true→a≤fI a l
 | [],a,_=>bRq _
 | y::l,a,h=>by
  rw[extsOkM,bN9,bOc] at h
  have:=aCt l y.1 h.2
  rw[fI];omega
theorem aB0:∀ (l:List Xt) (a:Int) (i:Nat) (h:i<l.length),fI a (l.take (i+1))=l[i].1
 | x::l,a,0,_=>rfl
 | x::l,a,i+1,h=>by
  rw[bQ0,fI,aB0 l x.1 i (by simpa using h)]
  rfl
theorem aLh {ex:List Xt} {i:Nat} (hi:i<ex.length):extsOkM 0 (ex.take (i+1))=(extsOkM 0 (ex.take i)&&decide (fI 0 (ex.take i)<ex[i].1∧ex[i].1≤255∧ex[i].2.length≤255)):=by
 rw[←aA8,bP9,bOq hi]
 rfl
theorem bMl {l:List Xt} {i m:Nat} (hi:i<l.length) (hm:m=i*2+0) {K:Int→Prop} (hk:K l[i].1):∃n:Int,(cellsXM l).getD m AV.undef=AV.int .i64 n∧K n:=by
 refine ⟨_, ?_,hk⟩
 subst hm
 have e:=sU hi (m:=i*2) (by omega)
 have:((cellsXM l).drop (i*2))[0]? = some (AV.int .i64 l[i].1):=by
  have h2:(List.take 2 (List.drop (i*2) (cellsXM l)))[0]? = some (AV.int .i64 l[i].1):=by rw[e];rfl
  rwa [bO9,if_pos (by omega)] at h2
 rw[bPr] at this
 rw[bOs,this]
 rfl
def rightM (ty seq ti ss:Int) (cs:List Int) (ex:List Xt) (pad:Int):Bool:=flagsM ty seq ti ss cs ex.length pad&&extsOkM 0 ex
theorem aIb {ty seq ti ss:Int} {cs:List Int} {tx:Nat} {ex:List Xt} {pad:Int} {i:Nat} (hi:i<ex.length) (b:Bool) (hb:b=(flagsM ty seq ti ss cs ex.length pad&&extsOkM 0 (ex.take (i+1)))) {cells:List AV} :
  (True∧(0:Nat)=0)∧∃y:Nat×Bool,Lf (y.1≤ex.length∧y.2=(flagsM ty seq ti ss cs ex.length pad&&extsOkM 0 (ex.take y.1)))∧ex.length-y.1<ex.length-i∧cells=cells∧AV.ptr 0 9 0=AV.ptr 0 9 0∧AV.bool b=AV.bool y.2∧AV.int .i64 (ex.length:Int)=AV.int .i64 (ex.length:Int)∧AV.lst tx (cellsXM ex) ex.length 2=AV.lst tx (cellsXM ex) ex.length 2∧AV.int .i64 ((i:Int)+1)=AV.int .i64 (y.1:Int)∧True:=
 ⟨⟨trivial,rfl⟩,(i+1,b),⟨hi,hb⟩,by dsimp only;omega,rfl,rfl,rfl,rfl,rfl,rfl,trivial⟩
theorem bEi (mk:Bool) (ty seq ti ss:Int) (tc:Nat) (cs:List Int) (tx:Nat) (ex:List Xt) (pad:Int) (pl:List UInt8) (hex:ex.length≤1000000) (hd:∀x∈ex,x.2.length≤4611686018427387904) (Q:Out→List Blk→Gh→Prop)
  (hT:rightM ty seq ti ss cs ex pad=true→Q (.ret (.int .i64 0)) [] {}) (hF:rightM ty seq ti ss cs ex pad=false→Q (.ret (.int .i64 230)) [] {}):gQ mk ty seq ti ss tc cs tx ex pad pl Q:=by
 rintro ⟨i,b⟩ ⟨hi,hbq⟩
 dsimp only at hi hbq ⊢
 refine aD (fun hlt => ?_) (fun hge => ?_)
 ·have hlt':i<ex.length:=by omega
  have hdi:=hd ex[i] (bPx hlt')
  refine ⟨_,rfl,ckI (by simp;omega) (ckI (by rw[aW];simp;omega) (aVl hlt' (by simp) ?_))⟩
  have et:=aLh hlt'
  have key:∀b',b'=(b&&decide (fI 0 (ex.take i)<ex[i].1∧ex[i].1≤255∧ex[i].2.length≤255))→b'=(flagsM ty seq ti ss cs ex.length pad&&extsOkM 0 (ex.take (i+1))):=fun b' hb=>by rw[hb,hbq,et,bQc]
  cases b
  ·exact aI (by omega) (by omega) (aIb hlt' false (key _ (by rw[bQ5])))
  ·have hx0:extsOkM 0 (ex.take i)=true:=by
    have:=hbq.symm
    rw[bN9] at this
    exact this.2
   have hl0:=aCt _ _ hx0
   have hl1:i=0→fI 0 (ex.take i)=0:=fun e=>by rw[e];rfl
   have hl2:∀ (k:Nat) (hk:k<ex.length),i=k+1→fI 0 (ex.take i)=ex[k].1:=fun k hk e=>by subst e;exact aB0 ex 0 k hk
   refine ⟨_,rfl,[ex[i].1,(ex[i].2.length:Int)],⟨rfl,rfl,by omega,by simp⟩,bHf (P:=256) rfl (by decide) (fun g1=>aD (fun g2=>aS (fun g3 => ?_) (fun g3=>aI (by omega) (by omega) (ckI (by simp;omega) (ckI (by rw[aW];simp;omega) (bMl (i:=i-1) (by omega) (by omega) (aD (fun g4 => ?_) (fun g4 => ?_))))))) (fun g2 => ?_)) (fun g1 => ?_)⟩
   ·exact aI (by omega) (by omega) (aIb hlt' true (key _ (by rw[bOg,bO4 ⟨by rw[hl1 (by omega)];omega,by omega,by omega⟩])))
   ·exact aI (by omega) (by omega) (aIb hlt' true (key _ (by rw[bOg,bO4 ⟨by rw[hl2 (i-1) (by omega) (by omega)];omega,by omega,by omega⟩])))
   ·exact aI (by omega) (by omega) (aIb hlt' false (key _ (by rw[bOg,bO0 (fun hh=>g4 (by rw[hl2 (i-1) (by omega) (by omega)] at hh;omega))])))
   ·exact aI (by omega) (by omega) (aIb hlt' false (key _ (by rw[bOg,bO0 (fun hh=>by omega)])))
   ·exact aI (by omega) (by omega) (aIb hlt' false (key _ (by rw[bOg,bO0 (fun hh=>by omega)])))
 ·have hle:i=ex.length:=by omega
  subst hle
  rw[bPy] at hbq
  cases b
  ·exact hF hbq.symm
  ·exact hT hbq.symm
theorem rM (mk:Bool) (ty seq ti ss:Int) (tc:Nat) (cs:List Int) (tx:Nat) (ex:List Xt) (pad:Int) (pl:List UInt8) (hcs:cs.length≤1000000) (hex:ex.length≤1000000) (hd:∀x∈ex,x.2.length≤4611686018427387904) (Q:Out→List Blk→Gh→Prop)
  (hT:rightM ty seq ti ss cs ex pad=true→Q (.ret (.int .i64 0)) [] {}) (hF:rightM ty seq ti ss cs ex pad=false→Q (.ret (.int .i64 230)) [] {}):∃hv hb,lX hv hb mk ty seq ti ss tc cs tx ex pad pl Q:=by
 obtain ⟨hv,hb',e⟩:∃hv hb,lX hv hb mk ty seq ti ss tc cs tx ex pad pl Q=_:=⟨_,_,aYy mk ty seq ti ss tc cs tx ex pad pl Q⟩
 refine ⟨hv,hb',e.mpr ?_⟩
 delta aZx bHa bId aMd aV6 bBr
 clear e
 refine ⟨[ty],⟨rfl,rfl,by omega,by simp⟩,bBb (P:=128) rfl (by decide) (fun h1=>⟨[seq],⟨rfl,rfl,by omega,by simp⟩,bBb (P:=65536) rfl (by decide) (fun h2=>⟨[ti,ss],⟨rfl,rfl,by omega,by simp⟩,bHf (P:=4294967296) rfl (by decide) (fun h3=>⟨cs,⟨rfl,rfl,by omega,by omega⟩,bKc (P:=4294967296) rfl (by decide) (fun h4=>⟨[pad],⟨rfl,rfl,by omega,by simp⟩,bBb (P:=256) rfl (by decide) (fun h5=>⟨_,rfl,aD (fun h6=>⟨_,rfl,aD (fun h7 => ?_) (fun h7 => ?_)⟩) (fun h6 => ?_)⟩) (fun h5 => ?_)⟩) (fun h4 => ?_)⟩) (fun h3 => ?_)⟩) (fun h2 => ?_)⟩) (fun h1 => ?_)⟩
 all_goals first
  | refine ⟨_,rfl,⟨(0,true),⟨bPp _,by
    rw[bQ4,extsOkM,bOh]
    exact (bO4 ⟨by omega,by omega,by omega,by omega,by omega,by omega,by omega,by omega,h4,by omega,by omega,by omega,by omega⟩).symm⟩,rfl,rfl,rfl,rfl,rfl,rfl,trivial⟩, ?_⟩
  | refine ⟨_,rfl,⟨(0,false),⟨bPp _,by
    rw[bQ4,extsOkM,bOh]
    refine (bO0 fun hh => ?_).symm
    obtain ⟨a1,a2,a3,a4,a5,a6,a7,a8,a9,a10,a11,a12,a13⟩:=hh
    first | exact h4 a9 | omega⟩,rfl,rfl,rfl,rfl,rfl,rfl,trivial⟩, ?_⟩
 all_goals exact bEi mk ty seq ti ss tc cs tx ex pad pl hex hd Q hT hF
def dataM (ex:List Xt):Prop:=∀x∈ex,x.2.length≤4611686018427387904
def aB2:Con
 | [.lst _ l n 2],H,K=>∃ex:List Xt,Lf (l=cellsXM ex∧n=ex.length∧ex.length≤1000000∧dataM ex)∧K (.ret (.bool (shortM ex))) H
 | _,_,_=>False
theorem aH0:aF Tryz.prog gl0 134 aB2:=by
 refine aP (enters_of (by kernel_rfl)) aM fun args H Q hc => ?_
 unfold aB2 at hc
 split at hc
 ·rename_i t l n
  obtain ⟨ex,⟨rfl,rfl,hl,hd⟩,hq⟩:=hc
  obtain ⟨hv,hb',h⟩:=aKq t ex hl hd (fun o H' _=>H'=[]∧(∃v,o=.ret v∧old 0 v=true∧noY v=true)∧Q o H) ⟨rfl,⟨_,rfl,rfl,rfl⟩,hq⟩
  exact ⟨rfl,rfl,_,1000,aHx bT _ _ _,rfl,h⟩
 ·exact hc.elim
def wK:Con
 | [.agg [.bool mk,.int .i64 ty,.int .i64 seq,.int .i64 ti,.int .i64 ss,.lst _ c5 n5 1,.lst _ c6 n6 2,.int .i64 pad,.str pl]],H,K=>∃ (cs:List Int) (ex:List Xt),Lf (c5=aB cs∧n5=cs.length∧c6=cellsXM ex∧n6=ex.length∧cs.length≤1000000∧ex.length≤1000000∧dataM ex)∧∀r:Int,Lf (r=if rightM ty seq ti ss cs ex pad=true then 0 else 230)→K (.ret (.int .i64 r)) H
 | _,_,_=>False
theorem zL:aF Tryz.prog gl0 132 wK:=by
 refine aP (enters_of (by kernel_rfl)) aM fun args H Q hc => ?_
 unfold wK at hc
 split at hc
 ·rename_i mk ty seq ti ss tc c5 n5 tx c6 n6 pad pl
  obtain ⟨cs,ex,⟨rfl,rfl,rfl,rfl,h1,h2,hd⟩,hq⟩:=hc
  obtain ⟨hv,hb',h⟩:=rM mk ty seq ti ss tc cs tx ex pad pl h1 h2 hd (fun o H' _=>H'=[]∧(∃v,o=.ret v∧old 0 v=true∧noY v=true)∧Q o H) (fun hr=>⟨rfl,⟨_,rfl,rfl,rfl⟩,hq _ ⟨by rw[if_pos hr]⟩⟩) (fun hr=>⟨rfl,⟨_,rfl,rfl,rfl⟩,hq _ ⟨by rw[hr];rfl⟩⟩)
  refine ⟨rfl,rfl,_,1000, ?_,rfl,h⟩
  exact ⟨dQ,dP,bY,bGf⟩
 ·exact hc.elim
def fstM (cs:List Int) (n:Nat) (pad:Int):Int:=128+cs.length+(if 0<pad then 32 else 0)+(if 0<n then 16 else 0)
def kindM (mk:Bool) (ty:Int):Int:=ty+(if mk=true then 128 else 0)
def headBM (mk:Bool) (ty seq ti ss:Int) (cs:List Int) (n:Nat) (pad:Int):List UInt8:=putM 1 [fstM cs n pad,kindM mk ty]++putM 2 [seq]++putM 4 [ti,ss]++putM 4 cs
def extBM (sh:Bool):List Xt→List UInt8
 | []=>[]
 | x::l=>(if sh=true then putM 1 [x.1*16+(x.2.length-1)] else putM 1 [x.1,(x.2.length:Int)])++x.2++extBM sh l
def zerosM (n:Nat):List UInt8:=List.replicate ((4-n%4)%4) 0
def profM (sh:Bool):Int:=if sh=true then 48862 else 4096
def extPM (ex:List Xt):List UInt8:=extBM (shortM ex) ex++zerosM (extBM (shortM ex) ex).length
def headM (mk:Bool) (ty seq ti ss:Int) (cs:List Int) (ex:List Xt) (pad:Int):List UInt8:=headBM mk ty seq ti ss cs ex.length pad++(if ex.length=0 then [] else putM 2 [profM (shortM ex),((extPM ex).length/4:Nat)]++extPM ex)
def dR (ex:List Xt):List AV:=(cellsXM ex).take 2
def smG:SM:=dV [(89,bJg),(134,aB2)]
theorem aNx:∀f g,smG f=some g→aF Tryz.prog gl0 f g:=bF _ (by simp only[bOr,bOx,bP3,bPj,bQe];exact ⟨put_raw,aH0⟩)
def aO2 (sh:Bool) (mk:Bool) (ty seq ti ss:Int) (tc:Nat) (cs:List Int) (tx:Nat) (ex:List Xt) (pad:Int) (pl:List UInt8):LInv where
 α:=Nat
 pre i:=Lf (i=0∧sh=shortM ex)
 st i:=⟨mkT [(5,.sl 1 (headBM mk ty seq ti ss cs ex.length pad).length 0 (headBM mk ty seq ti ss cs ex.length pad).length 1),(6,.nils),(7,.int .i64 (bif sh then 48862 else 4096)),(60,.lst tx (cellsXM ex) ex.length 2),(61,.int .i64 ex.length),(62,.int .i64 (i:Nat))],[⟨.exact,true,(iC mk ty seq ti ss tc cs tx ex pad pl)⟩,⟨.grow,true,ofBytes (headBM mk ty seq ti ss cs ex.length pad)⟩]⟩
 mu i:=ex.length+1
def aMo (sh:Bool) (mk:Bool) (ty seq ti ss:Int) (tc:Nat) (cs:List Int) (tx:Nat) (ex:List Xt) (pad:Int) (pl:List UInt8):LInv where
 α:=Nat
 pre i:=Lf (1≤i∧i≤ex.length∧sh=shortM ex)
 st i:=⟨mkT [(5,.sl 1 (headBM mk ty seq ti ss cs ex.length pad).length 0 (headBM mk ty seq ti ss cs ex.length pad).length 1),(6,.sl 3 (extBM sh (ex.take i)).length 0 (extBM sh (ex.take i)).length 1),(7,.int .i64 (bif sh then 48862 else 4096)),(60,.lst tx (cellsXM ex) ex.length 2),(61,.int .i64 ex.length),(62,.int .i64 (i:Nat))],[⟨.exact,true,(iC mk ty seq ti ss tc cs tx ex pad pl)⟩,⟨.grow,true,ofBytes (headBM mk ty seq ti ss cs ex.length pad)⟩,⟨.exact,true,dR ex⟩,⟨.grow,true,ofBytes (extBM sh (ex.take i))⟩]⟩
 mu i:=ex.length-i
def aF9 (mk:Bool) (ty seq ti ss:Int) (tc:Nat) (cs:List Int) (tx:Nat) (ex:List Xt) (pad:Int) (pl:List UInt8) (s:S):List (List LInv):=match s.tm.get 7 with
 | .int _ p=>bif p==48862 then [[aO2 true mk ty seq ti ss tc cs tx ex pad pl,aMo true mk ty seq ti ss tc cs tx ex pad pl]] else [[aO2 false mk ty seq ti ss tc cs tx ex pad pl,aMo false mk ty seq ti ss tc cs tx ex pad pl]]
 | _=>[]
noncomputable def aV7 (hv:Nat→Option Pa) (hb:Nat→Option Bool) (mk:Bool) (ty seq ti ss:Int) (tc:Nat) (cs:List Int) (tx:Nat) (ex:List Xt) (pad:Int) (pl:List UInt8):Env := { e23 smG (fun i=>bif Nat.beq i 133000 then some (aF9 mk ty seq ti ss tc cs tx ex pad pl) else none) hv hb with hz:=fun k=>[544801,544806,544813,544845,544853,544871].any (Nat.beq k) }
noncomputable def lN (hv:Nat→Option Pa) (hb:Nat→Option Bool) (mk:Bool) (ty seq ti ss:Int) (tc:Nat) (cs:List Int) (tx:Nat) (ex:List Xt) (pad:Int) (pl:List UInt8) (Q:Out→List Blk→Gh→Prop):Prop:=
 aY (aV7 hv hb mk ty seq ti ss tc cs tx ex pad pl) (wpx (aV7 hv hb mk ty seq ti ss tc cs tx ex pad pl) 1000) 133 [.agg (iC mk ty seq ti ss tc cs tx ex pad pl)] [] {} Q
abbrev pU (mk:Bool) (ty seq ti ss:Int) (cs:List Int) (ex:List Xt) (pad:Int):List AV:=ofBytes (headBM mk ty seq ti ss cs ex.length pad)
def lS (mk:Bool) (ty:Int) (seq:Int) (ti:Int) (ss:Int) (tc:Nat) (cs:List Int) (tx:Nat) (ex:List Xt) (pad:Int) (pl:List UInt8):Prop:=
aJ (iC mk ty seq ti ss tc cs tx ex pad pl)∧aJ (pU mk ty seq ti ss cs ex pad)∧False
def aOc (mk:Bool) (ty:Int) (seq:Int) (ti:Int) (ss:Int) (tc:Nat) (cs:List Int) (tx:Nat) (ex:List Xt) (pad:Int) (pl:List UInt8):Prop:=
ex.length+1<ex.length+1∧lS mk ty seq ti ss tc cs tx ex pad pl
abbrev aI8 (y_0:Nat) (ex:List Xt):Prop:=Lf (y_0=0∧true=shortM ex)
def aMe (mk:Bool) (ty:Int) (seq:Int) (ti:Int) (ss:Int) (tc:Nat) (cs:List Int) (tx:Nat) (ex:List Xt) (pad:Int) (pl:List UInt8):Prop:=
∃y_0:Nat,aI8 y_0 ex∧aOc mk ty seq ti ss tc cs tx ex pad pl
abbrev oL (n_3:Int):Nat:=(n_3%18446744073709551616).toNat
abbrev aMm (xs_7:List Int):Prop:=(1:Int)≤(1:Int)∧(1:Int)≤(7:Int)∧1≤xs_7.length∧xs_7.length≤1000000
abbrev nE (xs_7:List Int):Nat:=(putM 1 xs_7).length
abbrev aJ0:Prop:=True∧(0:Nat)=(0:Nat)
abbrev aE2 (y_9:Nat) (ex:List Xt):Prop:=Lf (1≤y_9∧y_9≤ex.length∧true=shortM ex)
abbrev bJp (y_9:Nat) (ex:List Xt):List UInt8:=extBM true (ex.take y_9)
abbrev aJ9 (y_9:Nat) (ex:List Xt):List AV:=ofBytes (bJp y_9 ex)
abbrev aNj:Prop:=aJ (AV.int .i64 48862)
abbrev aKv (mk:Bool) (ty seq ti ss:Int) (cs:List Int) (ex:List Xt) (pad:Int):Prop:=aJ (AV.sl 1 (headBM mk ty seq ti ss cs ex.length pad).length 0 (headBM mk ty seq ti ss cs ex.length pad).length 1)
abbrev aMv (ex:List Xt):Prop:=aJ (AV.int .i64 (ex.length:Int))
abbrev aNh (tx:Nat) (ex:List Xt):Prop:=aJ (AV.lst tx (cellsXM ex) ex.length 2)
abbrev jL (y_9:Nat) (ex:List Xt):Nat:=(bJp y_9 ex).length
abbrev aK1 (y_9:Nat) (ex:List Xt):AV:=.sl 3 (jL y_9 ex) 0 (jL y_9 ex) 1
abbrev aL1 (n_8:Int) (y_9:Nat):Prop:=AV.int .i64 n_8=AV.int .i64 (y_9:Int)∧True
abbrev aY2 (n_3:Int):Bool:=decide (0≤n_3)&&decide (n_3≤1099511627776)&&fJ (List.replicate n_3.toNat [AV.int .u8 0]).flatten&&true&&Nat.ble (n_3.toNat*1) 1099511627776
abbrev jO (mk:Bool) (ty seq ti ss:Int) (tc:Nat) (cs:List Int) (tx:Nat) (ex:List Xt) (pad:Int) (pl:List UInt8):Blk:=Blk.mk BK.exact true (iC mk ty seq ti ss tc cs tx ex pad pl)
abbrev uP (bs_6:List UInt8):Blk:=Blk.mk BK.grow true (ofBytes bs_6)
abbrev aUg (xs_8:List Int):Prop:=(1:Int)≤(2:Int)∧(2:Int)≤(7:Int)∧xs_8.length≤1000000
abbrev bGi (mk:Bool) (ty seq ti ss:Int) (cs:List Int) (ex:List Xt) (pad:Int) (bs_6:List UInt8) (n_5:Int) (xs_7:List Int):Prop:=(headBM mk ty seq ti ss cs ex.length pad).length=bs_6.length∧(headBM mk ty seq ti ss cs ex.length pad).length=bs_6.length∧bs_6.length≤1000000∧[AV.int .i64 48862,.int .i64 n_5]=aB xs_7∧2=xs_7.length∧aUg xs_7
abbrev bCu (bs_6:List UInt8) (xs_7:List Int):Bool:=Nat.beq (ofBytes (bs_6++putM 2 xs_7)).length (bs_6++putM 2 xs_7).length&&true
abbrev vO (bs_6:List UInt8) (xs_7:List Int):Nat:=(bs_6++putM 2 xs_7).length
abbrev aQd (bs_6:List UInt8) (xs_7:List Int):Out:=.ret (.sl 1 (vO bs_6 xs_7) 0 (vO bs_6 xs_7) 1)
abbrev aJb (bs_6:List UInt8) (xs_7:List Int):List UInt8:=bs_6++putM 2 xs_7
abbrev aEi (bs_6:List UInt8) (xs_7:List Int):Blk:=Blk.mk BK.grow true (ofBytes (aJb bs_6 xs_7))
abbrev aS4 (n_3:Int):Nat:=(List.replicate n_3.toNat [AV.int .u8 0]).flatten.length
abbrev aKr (n_3:Int):Bool:=aL 0 (List.replicate n_3.toNat [AV.int .u8 0]).flatten
abbrev aQt (n_3:Int):Blk:=Blk.mk BK.grow (aKr n_3) (List.replicate n_3.toNat [AV.int .u8 0]).flatten
abbrev aRm (bs_6:List UInt8) (xs_7:List Int):Bool:=bCu bs_6 xs_7&&Nat.beq (0+vO bs_6 xs_7*1) (vO bs_6 xs_7)
abbrev aAw (ex:List Xt):Blk:=Blk.mk BK.exact true (dR ex)
abbrev tC (bs_7:List UInt8) (xs_8:List Int):Nat:=(bs_7++putM 1 xs_8).length
abbrev aJg (x_0:Nat) (ex:List Xt):Bool:=Nat.beq (aJ9 x_0 ex).length (jL x_0 ex)
abbrev aOb (x_0:Nat) (ex:List Xt):List AV:=((aJ9 x_0 ex).drop 0).take (jL x_0 ex*1)
abbrev bA8 (x_0:Nat) (ex:List Xt) (n_3:Int):List AV:=ofBytes (bJp x_0 ex)++(List.replicate n_3.toNat [AV.int .u8 0]).flatten
abbrev aN7 (x_0:Nat) (ex:List Xt) (n_3:Int):List AV:=((bA8 x_0 ex n_3).drop 0).take ((jL x_0 ex+n_3.toNat)*1)
abbrev aI2 (x_0:Nat) (ex:List Xt):Bool:=decide ((x_0:Int)<(ex.length:Int))
abbrev aI0 (x_0:Nat) (ex:List Xt):Bool:=Nat.blt (x_0:Int).toNat ex.length&&true
abbrev aJ3 (x_0:Nat) (ex:List Xt):Bool:=Nat.ble ((x_0:Int).toNat*2+2) (cellsXM ex).length
abbrev aI4 (x_0:Nat) (ex:List Xt):AV:=.agg (((cellsXM ex).drop ((x_0:Int).toNat*2)).take 2)
abbrev uR (xs_7:List Int):List AV:=ofBytes (putM 1 xs_7)
abbrev uQ (n_3:Int):Bool:=Nat.beq n_3.toNat 0
abbrev aIx (n_3:Int):Bool:=Nat.ble (n_3.toNat*1) 1099511627776
abbrev aSj (n_3:Int):Bool:=fJ (((List.replicate n_3.toNat [AV.int .u8 0]).flatten.drop 0).take (n_3.toNat*1))
abbrev aRq (n_3:Int):Nat:=(((List.replicate n_3.toNat [AV.int .u8 0]).flatten.drop 0).take (n_3.toNat*1)).length
abbrev aRj (n_3:Int):Bool:=aL 0 (((List.replicate n_3.toNat [AV.int .u8 0]).flatten.drop 0).take (n_3.toNat*1))
abbrev aUv (xs_8:List Int):Prop:=(1:Int)≤(1:Int)∧(1:Int)≤(7:Int)∧xs_8.length≤1000000
abbrev mK (bs_7:List UInt8) (xs_8:List Int):List AV:=ofBytes (bs_7++putM 1 xs_8)
abbrev aBj (ex:List Xt) (x_0:Nat):Prop:=ex.length+1<ex.length-x_0
def aD5 (mk:Bool) (ty:Int) (seq:Int) (ti:Int) (ss:Int) (tc:Nat) (cs:List Int) (tx:Nat) (ex:List Xt) (pad:Int) (pl:List UInt8) (Q:Out→List Blk→Gh→Prop):Prop:=
(∀x_0:Nat,aI8 x_0 ex→bif aI2 x_0 ex then ckQ (aI0 x_0 ex) (ckQ (aJ3 x_0 ex) (∃n_1 s_2,aI4 x_0 ex=AV.agg [.int .i64 n_1,.str s_2]∧exW .i64 (n_1*16) (fun n_3=>exI .i64 (s_2.length:Int) (fun n_4=>exW .i64 (n_4 -
 1) (fun n_5=>exW .i64 ((oL n_3 ||| oL n_5:Nat):Int) (fun n_6=>∃xs_7:List Int,Lf ([AV.int .i64 n_6]=aB xs_7∧1=xs_7.length∧aMm xs_7)∧ckQ (fJ (ofBytes s_2)&&true&&Nat.ble (s_2.length*1) 1099511627776)
 (bif Nat.beq s_2.length 0 then ckQ (Nat.beq s_2.length 0) (ckQ (Nat.beq (uR xs_7).length (nE xs_7)&&true) (exW .i64 ((x_0:Int)+1) (fun n_8=>aJ0∧(aMe mk ty seq ti ss tc cs tx ex pad pl∨∃y_9:Nat,aE2 y_9 ex ∧
 ex.length-y_9<ex.length+1∧aJ (iC mk ty seq ti ss tc cs tx ex pad pl)∧aJ (pU mk ty seq ti ss cs ex pad)∧[AV.int .i64 n_1,.str s_2]=dR ex∧uR xs_7=aJ9 y_9 ex∧aNj∧aKv mk ty seq ti ss cs ex pad ∧
 aMv ex∧aNh tx ex∧AV.sl 3 (nE xs_7) 0 (nE xs_7) 1=aK1 y_9 ex∧aL1 n_8 y_9)))) else ckQ (Nat.blt 0 s_2.length) (ckQ (Nat.beq (uR xs_7).length (nE xs_7)&&true&&Nat.beq (0+nE xs_7*1) (nE xs_7) &&
 Nat.ble (nE xs_7+s_2.length) 1099511627776&&Nat.ble ((nE xs_7+s_2.length)*1) 1099511627776) (exW .i64 ((x_0:Int)+1) (fun n_8=>aJ0∧(aMe mk ty seq ti ss tc cs tx ex pad pl∨∃y_9:Nat,aE2 y_9 ex∧ex.length -
 y_9<ex.length+1∧aJ (iC mk ty seq ti ss tc cs tx ex pad pl)∧aJ (pU mk ty seq ti ss cs ex pad)∧[AV.int .i64 n_1,.str s_2]=dR ex∧ckQ (aL 0 (ofBytes s_2)==true) (uR xs_7++ofBytes s_2=aJ9 y_9 ex∧aNj
 ∧ aKv mk ty seq ti ss cs ex pad∧aMv ex∧aNh tx ex∧AV.sl 3 (nE xs_7+(ofBytes s_2).length) 0 (nE xs_7+s_2.length) 1=aK1 y_9 ex∧aL1 n_8 y_9)))))))))))) else exI .i64 0 (fun n_1=>exW .i64 (0-n_1) (fun n_2=>
 exW .i64 ((oL n_2 &&& 3:Nat):Int) (fun n_3=>ckQ (aY2 n_3) (bif decide (n_3=0) then ckQ (uQ n_3) (exI .i64 0 (fun n_4=>exW .i64 (n_4.tdiv 4) (fun n_5=>∃bs_6:List UInt8,∃xs_7:List Int,Lf (GetElem?.getElem? [jO
 mk ty seq ti ss tc cs tx ex pad pl,Blk.mk BK.grow true (pU mk ty seq ti ss cs ex pad)] 1=Option.some (uP bs_6)∧bGi mk ty seq ti ss cs ex pad bs_6 n_5 xs_7)∧ckQ (bCu bs_6 xs_7) (Q (aQd bs_6 xs_7) [jO mk ty seq ti ss tc
 cs tx ex pad pl,aEi bs_6 xs_7] {})))) else ckQ (Nat.blt 0 n_3.toNat) (ckQ (Nat.ble n_3.toNat 1099511627776&&aIx n_3) (ckQ (Nat.beq (aS4 n_3) (aS4 n_3)) (exI .i64 (n_3.toNat:Int) (fun n_4=>exW .i64 (n_4.tdiv 4) (fun n_5=>∃
 bs_6:List UInt8,∃xs_7:List Int,Lf (GetElem?.getElem? [jO mk ty seq ti ss tc cs tx ex pad pl,Blk.mk BK.grow true (pU mk ty seq ti ss cs ex pad),aQt n_3] 1=Option.some (uP bs_6)∧bGi mk ty seq ti ss cs ex pad bs_6 n_5
 xs_7)∧ckQ (Nat.beq (aS4 n_3) (aS4 n_3)&&true&&Nat.ble (0+n_3.toNat*1) (aS4 n_3)&&aSj n_3&&true&&aIx n_3) (bif uQ n_3 then ckQ (uQ n_3) (ckQ (bCu bs_6 xs_7) (Q (aQd bs_6 xs_7) [jO mk ty seq ti ss tc cs tx
 ex pad pl,aEi bs_6 xs_7,aQt n_3] {})) else ckQ (Nat.blt 0 n_3.toNat) (ckQ (aRm bs_6 xs_7&&Nat.ble (vO bs_6 xs_7+n_3.toNat) 1099511627776&&Nat.ble ((vO bs_6 xs_7+n_3.toNat)*1) 1099511627776) (Q (.ret (.sl 1 (vO bs_6
 xs_7+aRq n_3) 0 (vO bs_6 xs_7+n_3.toNat) 1)) [jO mk ty seq ti ss tc cs tx ex pad pl,Blk.mk BK.grow (aRj n_3) (ofBytes (aJb bs_6 xs_7)++((List.replicate n_3.toNat [AV.int .u8 0]).flatten.drop 0).take (n_3.toNat*1)),
 aQt n_3] {})))))))))))))∧∀x_0:Nat,aE2 x_0 ex→bif aI2 x_0 ex then ckQ (aI0 x_0 ex) (ckQ (aJ3 x_0 ex) (∃n_1 s_2,aI4 x_0 ex=AV.agg [.int .i64 n_1,.str s_2]∧exW .i64 (n_1*16) (fun n_3=>exI .i64 (s_2.length:Int)
 (fun n_4=>exW .i64 (n_4-1) (fun n_5=>exW .i64 ((oL n_3 ||| oL n_5:Nat):Int) (fun n_6=>∃bs_7:List UInt8,∃xs_8:List Int,Lf (GetElem?.getElem? [jO mk ty seq ti ss tc cs tx ex pad pl,Blk.mk BK.grow true (pU mk
 ty seq ti ss cs ex pad),aAw ex,Blk.mk BK.grow true (aJ9 x_0 ex),Blk.mk BK.exact true [.int .i64 n_1,.str s_2]] 3=Option.some (uP bs_7)∧jL x_0 ex=bs_7.length∧jL x_0 ex=bs_7.length∧bs_7.length≤1000000∧[AV.int
 .i64 n_6]=aB xs_8∧1=xs_8.length∧aUv xs_8)∧ckQ (fJ (ofBytes s_2)&&true&&Nat.ble (s_2.length*1) 1099511627776) (bif Nat.beq s_2.length 0 then ckQ (Nat.beq s_2.length 0) (ckQ (Nat.beq (mK bs_7 xs_8).length (tC
 bs_7 xs_8)&&true) (exW .i64 ((x_0:Int)+1) (fun n_9=>aJ0∧((∃y_10:Nat,aI8 y_10 ex∧aBj ex x_0∧lS mk ty seq ti ss tc cs tx ex pad pl)∨∃y_10:Nat,aE2 y_10 ex∧ex.length-y_10<ex.length-x_0∧aJ (iC
 mk ty seq ti ss tc cs tx ex pad pl)∧aJ (pU mk ty seq ti ss cs ex pad)∧aJ (dR ex)∧mK bs_7 xs_8=aJ9 y_10 ex∧aNj∧aKv mk ty seq ti ss cs ex pad∧aMv ex∧aNh tx ex∧AV.sl 3 (tC bs_7 xs_8) 0 (tC bs_7
 xs_8) 1=aK1 y_10 ex∧aL1 n_9 y_10)))) else ckQ (Nat.blt 0 s_2.length) (ckQ (Nat.beq (mK bs_7 xs_8).length (tC bs_7 xs_8)&&true&&Nat.beq (0+tC bs_7 xs_8*1) (tC bs_7 xs_8)&&Nat.ble (tC bs_7 xs_8+s_2.length)
 1099511627776&&Nat.ble ((tC bs_7 xs_8+s_2.length)*1) 1099511627776) (exW .i64 ((x_0:Int)+1) (fun n_9=>bif (aL 0 (ofBytes s_2)||aL 4 (mK bs_7 xs_8++ofBytes s_2))&&true then aJ0∧((∃y_10:Nat,aI8 y_10 ex ∧
 aBj ex x_0∧lS mk ty seq ti ss tc cs tx ex pad pl)∨∃y_10:Nat,aE2 y_10 ex∧ex.length-y_10<ex.length-x_0∧aJ (iC mk ty seq ti ss tc cs tx ex pad pl)∧aJ (pU mk ty seq ti ss cs ex pad)∧aJ (dR ex) ∧
 ckQ (aL 0 (ofBytes s_2)==true) (mK bs_7 xs_8++ofBytes s_2=aJ9 y_10 ex∧aNj∧aKv mk ty seq ti ss cs ex pad∧aMv ex∧aNh tx ex∧AV.sl 3 (tC bs_7 xs_8+(ofBytes s_2).length) 0 (tC bs_7 xs_8+s_2.length) 1 =
 aK1 y_10 ex∧aL1 n_9 y_10)) else aJ0∧((∃y_10:Nat,aI8 y_10 ex∧aBj ex x_0∧lS mk ty seq ti ss tc cs tx ex pad pl)∨∃y_10:Nat,aE2 y_10 ex∧ex.length-y_10<ex.length-x_0∧aJ (iC mk ty seq ti ss tc cs
 tx ex pad pl)∧aJ (pU mk ty seq ti ss cs ex pad)∧aJ (dR ex)∧ckQ (aL 0 (ofBytes s_2)==true) (mK bs_7 xs_8++ofBytes s_2=aJ9 y_10 ex∧False)))))))))))) else ckQ (aJg x_0 ex) (exI .i64 (jL x_0 ex:Int) (fun
 n_1=>exW .i64 (0-n_1) (fun n_2=>exW .i64 ((oL n_2 &&& 3:Nat):Int) (fun n_3=>ckQ (aY2 n_3) (bif decide (n_3=0) then ckQ (uQ n_3) (ckQ (aJg x_0 ex&&true) (ckQ (aJg x_0 ex) (exI .i64 (jL x_0 ex:Int) (fun n_4=>
 exW .i64 (n_4.tdiv 4) (fun n_5=>∃bs_6:List UInt8,∃xs_7:List Int,Lf (GetElem?.getElem? [jO mk ty seq ti ss tc cs tx ex pad pl,Blk.mk BK.grow true (pU mk ty seq ti ss cs ex pad),aAw ex,Blk.mk BK.grow true (aJ9 x_0 ex)]
 1=Option.some (uP bs_6)∧bGi mk ty seq ti ss cs ex pad bs_6 n_5 xs_7)∧ckQ (aJg x_0 ex&&true&&Nat.ble (0+jL x_0 ex*1) (jL x_0 ex)&&fJ (aOb x_0 ex)&&true&&Nat.ble (jL x_0 ex*1) 1099511627776) (bif Nat.beq
 (jL x_0 ex) 0 then ckQ (Nat.beq (jL x_0 ex) 0) (ckQ (bCu bs_6 xs_7) (Q (aQd bs_6 xs_7) [jO mk ty seq ti ss tc cs tx ex pad pl,aEi bs_6 xs_7,aAw ex,Blk.mk BK.grow true (aJ9 x_0 ex)] {})) else ckQ (Nat.blt 0 (jL x_0 ex))
 (ckQ (aRm bs_6 xs_7&&Nat.ble (vO bs_6 xs_7+jL x_0 ex) 1099511627776&&Nat.ble ((vO bs_6 xs_7+jL x_0 ex)*1) 1099511627776) (Q (.ret (.sl 1 (vO bs_6 xs_7+(aOb x_0 ex).length) 0 (vO bs_6 xs_7+jL x_0 ex) 1))
 [jO mk ty seq ti ss tc cs tx ex pad pl,Blk.mk BK.grow (aL 0 (aOb x_0 ex)) (ofBytes (aJb bs_6 xs_7)++aOb x_0 ex),aAw ex,Blk.mk BK.grow true (aJ9 x_0 ex)] {})))))))) else ckQ (Nat.blt 0 n_3.toNat) (ckQ (aJg x_0 ex &&
 true&&Nat.beq (0+jL x_0 ex*1) (jL x_0 ex)&&Nat.ble (jL x_0 ex+n_3.toNat) 1099511627776&&Nat.ble ((jL x_0 ex+n_3.toNat)*1) 1099511627776) (ckQ (Nat.beq (bA8 x_0 ex n_3).length (jL x_0 ex+aS4 n_3)) (exI .i64
 ((jL x_0 ex+n_3.toNat:Nat):Int) (fun n_4=>exW .i64 (n_4.tdiv 4) (fun n_5=>∃bs_6:List UInt8,∃xs_7:List Int,Lf (GetElem?.getElem? [jO mk ty seq ti ss tc cs tx ex pad pl,Blk.mk BK.grow true (pU mk ty seq ti ss cs ex
 pad),aAw ex,Blk.mk BK.grow (aKr n_3) (bA8 x_0 ex n_3)] 1=Option.some (uP bs_6)∧bGi mk ty seq ti ss cs ex pad bs_6 n_5 xs_7)∧ckQ (Nat.beq (bA8 x_0 ex n_3).length (jL x_0 ex+aS4 n_3)&&true&&Nat.ble (0+(jL x_0
 ex+n_3.toNat)*1) (jL x_0 ex+aS4 n_3)&&fJ (aN7 x_0 ex n_3)&&true&&Nat.ble ((jL x_0 ex+n_3.toNat)*1) 1099511627776) (bif Nat.beq (jL x_0 ex+n_3.toNat) 0 then ckQ (Nat.beq (jL x_0 ex+n_3.toNat) 0) (ckQ (bCu
 bs_6 xs_7) (Q (aQd bs_6 xs_7) [jO mk ty seq ti ss tc cs tx ex pad pl,aEi bs_6 xs_7,aAw ex,Blk.mk BK.grow (aKr n_3) (bA8 x_0 ex n_3)] {})) else ckQ (Nat.blt 0 (jL x_0 ex+n_3.toNat)) (ckQ (aRm bs_6 xs_7&&Nat.ble (vO
 bs_6 xs_7+(jL x_0 ex+n_3.toNat)) 1099511627776&&Nat.ble ((vO bs_6 xs_7+(jL x_0 ex+n_3.toNat))*1) 1099511627776) (Q (.ret (.sl 1 (vO bs_6 xs_7+(aN7 x_0 ex n_3).length) 0 (vO bs_6 xs_7+(jL x_0 ex+n_3.toNat))
 1)) [jO mk ty seq ti ss tc cs tx ex pad pl,Blk.mk BK.grow (aL 0 (aN7 x_0 ex n_3)) (ofBytes (aJb bs_6 xs_7)++aN7 x_0 ex n_3),aAw ex,Blk.mk BK.grow (aKr n_3) (bA8 x_0 ex n_3)] {})))))))))))))
abbrev aI9 (y_0:Nat) (ex:List Xt):Prop:=Lf (y_0=0∧false=shortM ex)
def aP1 (mk:Bool) (ty:Int) (seq:Int) (ti:Int) (ss:Int) (tc:Nat) (cs:List Int) (tx:Nat) (ex:List Xt) (pad:Int) (pl:List UInt8):Prop:=
∃y_0:Nat,aI9 y_0 ex∧aOc mk ty seq ti ss tc cs tx ex pad pl
abbrev rU (xs_4:List Int):Nat:=(putM 1 xs_4).length
abbrev aIg:Prop:=True∧(0:Nat)=(0:Nat)
abbrev aW6 (y_6:Nat) (ex:List Xt):Prop:=Lf (1≤y_6∧y_6≤ex.length∧false=shortM ex)
abbrev aJ2 (mk:Bool) (ty seq ti ss:Int) (cs:List Int) (ex:List Xt) (pad:Int):List AV:=ofBytes (headBM mk ty seq ti ss cs ex.length pad)
abbrev bI0 (y_6:Nat) (ex:List Xt):List UInt8:=extBM false (ex.take y_6)
abbrev aJ8 (y_6:Nat) (ex:List Xt):List AV:=ofBytes (bI0 y_6 ex)
abbrev aNf:Prop:=aJ (AV.int .i64 4096)
abbrev aPb (mk:Bool) (ty seq ti ss:Int) (cs:List Int) (ex:List Xt) (pad:Int):Prop:=aJ (AV.sl 1 (headBM mk ty seq ti ss cs ex.length pad).length 0 (headBM mk ty seq ti ss cs ex.length pad).length 1)
abbrev aKs (ex:List Xt):Prop:=aJ (AV.int .i64 (ex.length:Int))
abbrev aP4 (tx:Nat) (ex:List Xt):Prop:=aJ (AV.lst tx (cellsXM ex) ex.length 2)
abbrev jV (y_6:Nat) (ex:List Xt):Nat:=(bI0 y_6 ex).length
abbrev aLn (y_6:Nat) (ex:List Xt):AV:=.sl 3 (jV y_6 ex) 0 (jV y_6 ex) 1
abbrev aOh (n_5:Int) (y_6:Nat):Prop:=AV.int .i64 n_5=AV.int .i64 (y_6:Int)∧True
abbrev aZs (n_3:Int):Bool:=decide (0≤n_3)&&decide (n_3≤1099511627776)&&fJ (List.replicate n_3.toNat [AV.int .u8 0]).flatten&&true&&Nat.ble (n_3.toNat*1) 1099511627776
abbrev nU (mk:Bool) (ty seq ti ss:Int) (tc:Nat) (cs:List Int) (tx:Nat) (ex:List Xt) (pad:Int) (pl:List UInt8):Blk:=Blk.mk BK.exact true (iC mk ty seq ti ss tc cs tx ex pad pl)
abbrev aJu (mk:Bool) (ty seq ti ss:Int) (cs:List Int) (ex:List Xt) (pad:Int):Blk:=Blk.mk BK.grow true (ofBytes (headBM mk ty seq ti ss cs ex.length pad))
abbrev aIy (bs_6:List UInt8):Blk:=Blk.mk BK.grow true (ofBytes bs_6)
abbrev bFx (mk:Bool) (ty seq ti ss:Int) (cs:List Int) (ex:List Xt) (pad:Int) (bs_6:List UInt8) (n_5:Int) (xs_7:List Int):Prop:=(headBM mk ty seq ti ss cs ex.length pad).length=bs_6.length∧(headBM mk ty seq ti ss cs ex.length pad).length=bs_6.length∧bs_6.length≤1000000∧[AV.int .i64 4096,.int .i64 n_5]=aB xs_7∧2=xs_7.length∧(1:Int)≤(2:Int)∧(2:Int)≤(7:Int)∧xs_7.length≤1000000
abbrev bC1 (bs_6:List UInt8) (xs_7:List Int):Bool:=Nat.beq (ofBytes (bs_6++putM 2 xs_7)).length (bs_6++putM 2 xs_7).length&&true
abbrev aCm (bs_6:List UInt8) (xs_7:List Int):Nat:=(bs_6++putM 2 xs_7).length
abbrev aNi (bs_6:List UInt8) (xs_7:List Int):Out:=.ret (.sl 1 (aCm bs_6 xs_7) 0 (aCm bs_6 xs_7) 1)
abbrev aOu (bs_6:List UInt8) (xs_7:List Int):List UInt8:=bs_6++putM 2 xs_7
abbrev aKj (bs_6:List UInt8) (xs_7:List Int):Blk:=Blk.mk BK.grow true (ofBytes (aOu bs_6 xs_7))
abbrev aSz (n_3:Int):Nat:=(List.replicate n_3.toNat [AV.int .u8 0]).flatten.length
abbrev bGg (n_3:Int):Bool:=aL 0 (List.replicate n_3.toNat [AV.int .u8 0]).flatten
abbrev aSe (n_3:Int):Blk:=Blk.mk BK.grow (bGg n_3) (List.replicate n_3.toNat [AV.int .u8 0]).flatten
abbrev aRx (bs_6:List UInt8) (xs_7:List Int):Bool:=bC1 bs_6 xs_7&&Nat.beq (0+aCm bs_6 xs_7*1) (aCm bs_6 xs_7)
abbrev aB8 (ex:List Xt):Blk:=Blk.mk BK.exact true (dR ex)
abbrev tH (bs_4:List UInt8) (xs_5:List Int):Nat:=(bs_4++putM 1 xs_5).length
abbrev aH5 (x_0:Nat) (ex:List Xt):Bool:=Nat.beq (aJ8 x_0 ex).length (jV x_0 ex)
abbrev aMg (x_0:Nat) (ex:List Xt):List AV:=((aJ8 x_0 ex).drop 0).take (jV x_0 ex*1)
abbrev aZo (x_0:Nat) (ex:List Xt) (n_3:Int):List AV:=ofBytes (bI0 x_0 ex)++(List.replicate n_3.toNat [AV.int .u8 0]).flatten
abbrev aM6 (x_0:Nat) (ex:List Xt) (n_3:Int):List AV:=((aZo x_0 ex n_3).drop 0).take ((jV x_0 ex+n_3.toNat)*1)
def aD7 (mk:Bool) (ty:Int) (seq:Int) (ti:Int) (ss:Int) (tc:Nat) (cs:List Int) (tx:Nat) (ex:List Xt) (pad:Int) (pl:List UInt8) (Q:Out→List Blk→Gh→Prop):Prop:=
(∀x_0:Nat,aI9 x_0 ex→bif aI2 x_0 ex then ckQ (aI0 x_0 ex) (ckQ (aJ3 x_0 ex) (∃n_1 s_2,aI4 x_0 ex=AV.agg [.int .i64 n_1,.str s_2]∧exI .i64 (s_2.length:Int) (fun n_3=>∃xs_4:List Int,Lf ([AV.int .i64 n_1,.int
 .i64 n_3]=aB xs_4∧2=xs_4.length∧(1:Int)≤(1:Int)∧(1:Int)≤(7:Int)∧1≤xs_4.length∧xs_4.length≤1000000)∧ckQ (fJ (ofBytes s_2)&&true&&Nat.ble (s_2.length*1) 1099511627776) (bif Nat.beq s_2.length 0
 then ckQ (Nat.beq s_2.length 0) (ckQ (Nat.beq (uR xs_4).length (rU xs_4)&&true) (exW .i64 ((x_0:Int)+1) (fun n_5=>aIg∧(aP1 mk ty seq ti ss tc cs tx ex pad pl∨∃y_6:Nat,aW6 y_6 ex∧ex.length-y_6<ex.length +
 1∧aJ (iC mk ty seq ti ss tc cs tx ex pad pl)∧aJ (aJ2 mk ty seq ti ss cs ex pad)∧[AV.int .i64 n_1,.str s_2]=dR ex∧uR xs_4=aJ8 y_6 ex∧aNf∧aPb mk ty seq ti ss cs ex pad∧aKs ex∧aP4 tx ex∧AV.sl 3
 (rU xs_4) 0 (rU xs_4) 1=aLn y_6 ex∧aOh n_5 y_6)))) else ckQ (Nat.blt 0 s_2.length) (ckQ (Nat.beq (uR xs_4).length (rU xs_4)&&true&&Nat.beq (0+rU xs_4*1) (rU xs_4)&&Nat.ble (rU xs_4+s_2.length)
 1099511627776&&Nat.ble ((rU xs_4+s_2.length)*1) 1099511627776) (exW .i64 ((x_0:Int)+1) (fun n_5=>aIg∧(aP1 mk ty seq ti ss tc cs tx ex pad pl∨∃y_6:Nat,aW6 y_6 ex∧ex.length-y_6<ex.length+1∧aJ (iC
 mk ty seq ti ss tc cs tx ex pad pl)∧aJ (aJ2 mk ty seq ti ss cs ex pad)∧[AV.int .i64 n_1,.str s_2]=dR ex∧ckQ (aL 0 (ofBytes s_2)==true) (uR xs_4++ofBytes s_2=aJ8 y_6 ex∧aNf∧aPb mk ty seq ti ss cs ex pad
 ∧ aKs ex∧aP4 tx ex∧AV.sl 3 (rU xs_4+(ofBytes s_2).length) 0 (rU xs_4+s_2.length) 1=aLn y_6 ex∧aOh n_5 y_6))))))))) else exI .i64 0 (fun n_1=>exW .i64 (0-n_1) (fun n_2=>exW .i64 (((n_2 %
 18446744073709551616).toNat &&& 3:Nat):Int) (fun n_3=>ckQ (aZs n_3) (bif decide (n_3=0) then ckQ (uQ n_3) (exI .i64 0 (fun n_4=>exW .i64 (n_4.tdiv 4) (fun n_5=>∃bs_6:List UInt8,∃xs_7:List Int,Lf (GetElem?.getElem?
 [nU mk ty seq ti ss tc cs tx ex pad pl,aJu mk ty seq ti ss cs ex pad] 1=Option.some (aIy bs_6)∧bFx mk ty seq ti ss cs ex pad bs_6 n_5 xs_7)∧ckQ (bC1 bs_6 xs_7) (Q (aNi bs_6 xs_7) [nU mk ty seq ti ss tc cs tx ex pad pl,
 aKj bs_6 xs_7] {})))) else ckQ (Nat.blt 0 n_3.toNat) (ckQ (Nat.ble n_3.toNat 1099511627776&&aIx n_3) (ckQ (Nat.beq (aSz n_3) (aSz n_3)) (exI .i64 (n_3.toNat:Int) (fun n_4=>exW .i64 (n_4.tdiv 4) (fun n_5=>∃bs_6:List UInt8,
 ∃xs_7:List Int,Lf (GetElem?.getElem? [nU mk ty seq ti ss tc cs tx ex pad pl,aJu mk ty seq ti ss cs ex pad,aSe n_3] 1=Option.some (aIy bs_6)∧bFx mk ty seq ti ss cs ex pad bs_6 n_5 xs_7)∧ckQ (Nat.beq (aSz n_3) (aSz
 n_3)&&true&&Nat.ble (0+n_3.toNat*1) (aSz n_3)&&aSj n_3&&true&&aIx n_3) (bif uQ n_3 then ckQ (uQ n_3) (ckQ (bC1 bs_6 xs_7) (Q (aNi bs_6 xs_7) [nU mk ty seq ti ss tc cs tx ex pad pl,aKj bs_6 xs_7,aSe n_3]
 {})) else ckQ (Nat.blt 0 n_3.toNat) (ckQ (aRx bs_6 xs_7&&Nat.ble (aCm bs_6 xs_7+n_3.toNat) 1099511627776&&Nat.ble ((aCm bs_6 xs_7+n_3.toNat)*1) 1099511627776) (Q (.ret (.sl 1 (aCm bs_6 xs_7+aRq n_3) 0 (aCm bs_6 xs_7 +
 n_3.toNat) 1)) [nU mk ty seq ti ss tc cs tx ex pad pl,Blk.mk BK.grow (aRj n_3) (ofBytes (aOu bs_6 xs_7)++((List.replicate n_3.toNat [AV.int .u8 0]).flatten.drop 0).take (n_3.toNat*1)),aSe n_3] {})))))))))))))∧∀x_0:Nat,
 aW6 x_0 ex→bif aI2 x_0 ex then ckQ (aI0 x_0 ex) (ckQ (aJ3 x_0 ex) (∃n_1 s_2,aI4 x_0 ex=AV.agg [.int .i64 n_1,.str s_2]∧exI .i64 (s_2.length:Int) (fun n_3=>∃bs_4:List UInt8,∃xs_5:List Int,Lf (GetElem?.getElem?
 [nU mk ty seq ti ss tc cs tx ex pad pl,aJu mk ty seq ti ss cs ex pad,aB8 ex,Blk.mk BK.grow true (aJ8 x_0 ex),Blk.mk BK.exact true [.int .i64 n_1,.str s_2]] 3=Option.some (aIy bs_4)∧jV x_0 ex=bs_4.length∧jV x_0 ex
 = bs_4.length∧bs_4.length≤1000000∧[AV.int .i64 n_1,.int .i64 n_3]=aB xs_5∧2=xs_5.length∧aUv xs_5)∧ckQ (fJ (ofBytes s_2)&&true&&Nat.ble (s_2.length*1) 1099511627776) (bif Nat.beq s_2.length 0 then ckQ (Nat.beq
 s_2.length 0) (ckQ (Nat.beq (mK bs_4 xs_5).length (tH bs_4 xs_5)&&true) (exW .i64 ((x_0:Int)+1) (fun n_6=>aIg∧((∃y_7:Nat,aI9 y_7 ex∧aBj ex x_0∧lS mk ty seq ti ss tc cs tx ex pad pl)∨∃y_7:Nat,aW6
 y_7 ex∧ex.length-y_7<ex.length-x_0∧aJ (iC mk ty seq ti ss tc cs tx ex pad pl)∧aJ (aJ2 mk ty seq ti ss cs ex pad)∧aJ (dR ex)∧mK bs_4 xs_5=aJ8 y_7 ex∧aNf∧aPb mk ty seq ti ss cs ex pad∧aKs ex ∧
 aP4 tx ex∧AV.sl 3 (tH bs_4 xs_5) 0 (tH bs_4 xs_5) 1=aLn y_7 ex∧aOh n_6 y_7)))) else ckQ (Nat.blt 0 s_2.length) (ckQ (Nat.beq (mK bs_4 xs_5).length (tH bs_4 xs_5)&&true&&Nat.beq (0+tH bs_4 xs_5*1) (tH
 bs_4 xs_5)&&Nat.ble (tH bs_4 xs_5+s_2.length) 1099511627776&&Nat.ble ((tH bs_4 xs_5+s_2.length)*1) 1099511627776) (exW .i64 ((x_0:Int)+1) (fun n_6=>bif (aL 0 (ofBytes s_2)||aL 4 (mK bs_4 xs_5++ofBytes s_2))
 && true then aIg∧((∃y_7:Nat,aI9 y_7 ex∧aBj ex x_0∧lS mk ty seq ti ss tc cs tx ex pad pl)∨∃y_7:Nat,aW6 y_7 ex∧ex.length-y_7<ex.length-x_0∧aJ (iC mk ty seq ti ss tc cs tx ex pad pl)∧aJ (aJ2 mk
 ty seq ti ss cs ex pad)∧aJ (dR ex)∧ckQ (aL 0 (ofBytes s_2)==true) (mK bs_4 xs_5++ofBytes s_2=aJ8 y_7 ex∧aNf∧aPb mk ty seq ti ss cs ex pad∧aKs ex∧aP4 tx ex∧AV.sl 3 (tH bs_4 xs_5+(ofBytes
 s_2).length) 0 (tH bs_4 xs_5+s_2.length) 1=aLn y_7 ex∧aOh n_6 y_7)) else aIg∧((∃y_7:Nat,aI9 y_7 ex∧aBj ex x_0∧lS mk ty seq ti ss tc cs tx ex pad pl)∨∃y_7:Nat,aW6 y_7 ex∧ex.length-y_7<ex.length
 - x_0∧aJ (iC mk ty seq ti ss tc cs tx ex pad pl)∧aJ (aJ2 mk ty seq ti ss cs ex pad)∧aJ (dR ex)∧ckQ (aL 0 (ofBytes s_2)==true) (mK bs_4 xs_5++ofBytes s_2=aJ8 y_7 ex∧False))))))))) else ckQ (aH5 x_0 ex)
 (exI .i64 (jV x_0 ex:Int) (fun n_1=>exW .i64 (0-n_1) (fun n_2=>exW .i64 (((n_2%18446744073709551616).toNat &&& 3:Nat):Int) (fun n_3=>ckQ (aZs n_3) (bif decide (n_3=0) then ckQ (uQ n_3) (ckQ (aH5 x_0 ex&&true)
 (ckQ (aH5 x_0 ex) (exI .i64 (jV x_0 ex:Int) (fun n_4=>exW .i64 (n_4.tdiv 4) (fun n_5=>∃bs_6:List UInt8,∃xs_7:List Int,Lf (GetElem?.getElem? [nU mk ty seq ti ss tc cs tx ex pad pl,aJu mk ty seq ti ss cs ex pad,aB8
 ex,Blk.mk BK.grow true (aJ8 x_0 ex)] 1=Option.some (aIy bs_6)∧bFx mk ty seq ti ss cs ex pad bs_6 n_5 xs_7)∧ckQ (aH5 x_0 ex&&true&&Nat.ble (0+jV x_0 ex*1) (jV x_0 ex)&&fJ (aMg x_0 ex)&&true&&Nat.ble (jV
 x_0 ex*1) 1099511627776) (bif Nat.beq (jV x_0 ex) 0 then ckQ (Nat.beq (jV x_0 ex) 0) (ckQ (bC1 bs_6 xs_7) (Q (aNi bs_6 xs_7) [nU mk ty seq ti ss tc cs tx ex pad pl,aKj bs_6 xs_7,aB8 ex,Blk.mk BK.grow true (aJ8 x_0 ex)]
 {})) else ckQ (Nat.blt 0 (jV x_0 ex)) (ckQ (aRx bs_6 xs_7&&Nat.ble (aCm bs_6 xs_7+jV x_0 ex) 1099511627776&&Nat.ble ((aCm bs_6 xs_7+jV x_0 ex)*1) 1099511627776) (Q (.ret (.sl 1 (aCm bs_6 xs_7+(aMg x_0 ex).length) 0
 (aCm bs_6 xs_7+jV x_0 ex) 1)) [nU mk ty seq ti ss tc cs tx ex pad pl,Blk.mk BK.grow (aL 0 (aMg x_0 ex)) (ofBytes (aOu bs_6 xs_7)++aMg x_0 ex),aB8 ex,Blk.mk BK.grow true (aJ8 x_0 ex)] {})))))))) else ckQ (Nat.blt 0
 n_3.toNat) (ckQ (aH5 x_0 ex&&true&&Nat.beq (0+jV x_0 ex*1) (jV x_0 ex)&&Nat.ble (jV x_0 ex+n_3.toNat) 1099511627776&&Nat.ble ((jV x_0 ex+n_3.toNat)*1) 1099511627776) (ckQ (Nat.beq (aZo x_0 ex n_3).length (jV
 x_0 ex+aSz n_3)) (exI .i64 ((jV x_0 ex+n_3.toNat:Nat):Int) (fun n_4=>exW .i64 (n_4.tdiv 4) (fun n_5=>∃bs_6:List UInt8,∃xs_7:List Int,Lf (GetElem?.getElem? [nU mk ty seq ti ss tc cs tx ex pad pl,aJu mk ty seq ti
 ss cs ex pad,aB8 ex,Blk.mk BK.grow (bGg n_3) (aZo x_0 ex n_3)] 1=Option.some (aIy bs_6)∧bFx mk ty seq ti ss cs ex pad bs_6 n_5 xs_7)∧ckQ (Nat.beq (aZo x_0 ex n_3).length (jV x_0 ex+aSz n_3)&&true&&Nat.ble (0 +
 (jV x_0 ex+n_3.toNat)*1) (jV x_0 ex+aSz n_3)&&fJ (aM6 x_0 ex n_3)&&true&&Nat.ble ((jV x_0 ex+n_3.toNat)*1) 1099511627776) (bif Nat.beq (jV x_0 ex+n_3.toNat) 0 then ckQ (Nat.beq (jV x_0 ex+n_3.toNat) 0)
 (ckQ (bC1 bs_6 xs_7) (Q (aNi bs_6 xs_7) [nU mk ty seq ti ss tc cs tx ex pad pl,aKj bs_6 xs_7,aB8 ex,Blk.mk BK.grow (bGg n_3) (aZo x_0 ex n_3)] {})) else ckQ (Nat.blt 0 (jV x_0 ex+n_3.toNat)) (ckQ (aRx bs_6 xs_7 &&
 Nat.ble (aCm bs_6 xs_7+(jV x_0 ex+n_3.toNat)) 1099511627776&&Nat.ble ((aCm bs_6 xs_7+(jV x_0 ex+n_3.toNat))*1) 1099511627776) (Q (.ret (.sl 1 (aCm bs_6 xs_7+(aM6 x_0 ex n_3).length) 0 (aCm bs_6 xs_7+(jV x_0 ex +
 n_3.toNat)) 1)) [nU mk ty seq ti ss tc cs tx ex pad pl,Blk.mk BK.grow (aL 0 (aM6 x_0 ex n_3)) (ofBytes (aOu bs_6 xs_7)++aM6 x_0 ex n_3),aB8 ex,Blk.mk BK.grow (bGg n_3) (aZo x_0 ex n_3)] {})))))))))))))
@[reducible] def bKl (mk:Bool) (ty seq ti ss:Int) (tc:Nat) (cs:List Int) (tx:Nat) (ex:List Xt) (pad:Int) (pl:List UInt8) (bs:List UInt8) (xs:List Int) (Q:Out→List Blk→Gh→Prop):Prop:=
(∃n_13:Int,(((AV.int .i64 (Nat.cast (List.length ex):Int))=(AV.int .i64 n_13)) ∧
 (bif (n_13==(0:Int)) then (Q (Out.ret (AV.sl (1:Nat) (List.length (bs++(putM (4:Nat) xs))) (0:Nat) (List.length (bs++(putM (4:Nat) xs))) (1:Nat))) ((Blk.mk BK.exact true (iC mk ty seq ti ss tc cs tx ex pad pl))::((Blk.mk BK.grow true (ofBytes (bs++(putM (4:Nat) xs))))::[])) (Gh.mk (0:Nat) (0:Nat) []))
else (∃ex_14:(List Xt),((Lf (((cellsXM ex)=(cellsXM ex_14)) ∧
 (((List.length ex)=(List.length ex_14)) ∧
 (((List.length ex_14)≤(1000000:Nat)) ∧
 (dataM ex_14))))) ∧
 (bif (shortM ex_14) then (∃n_15:Int,(((AV.int .i64 (Nat.cast (List.length ex):Int))=(AV.int .i64 n_15)) ∧
 (((∃x_16:Nat,((Lf ((x_16=(0:Nat)) ∧
 (true=(shortM ex)))) ∧
 (((iC mk ty seq ti ss tc cs tx ex pad pl)=(iC mk ty seq ti ss tc cs tx ex pad pl)) ∧
 (((ofBytes (bs++(putM (4:Nat) xs)))=(ofBytes (headBM mk ty seq ti ss cs (List.length ex) pad))) ∧
 (((AV.int .i64 (48862:Int))=(AV.int .i64 (48862:Int))) ∧
 (((AV.sl (1:Nat) (List.length (bs++(putM (4:Nat) xs))) (0:Nat) (List.length (bs++(putM (4:Nat) xs))) (1:Nat))=(AV.sl (1:Nat) (List.length (headBM mk ty seq ti ss cs (List.length ex) pad)) (0:Nat) (List.length (headBM mk ty seq ti ss cs (List.length ex) pad)) (1:Nat))) ∧
 (((AV.int .i64 n_15)=(AV.int .i64 (Nat.cast (List.length ex):Int))) ∧
 (((AV.lst tx (cellsXM ex) (List.length ex) (2:Nat))=(AV.lst tx (cellsXM ex) (List.length ex) (2:Nat))) ∧
 ((AV.nils=AV.nils) ∧
 (((AV.int .i64 (0:Int))=(AV.int .i64 (Nat.cast x_16:Int))) ∧
 True)))))))))) ∨
 (∃x_16:Nat,((Lf (((1:Nat)≤x_16) ∧
 ((x_16≤(List.length ex)) ∧
 (true=(shortM ex))))) ∧
 (((iC mk ty seq ti ss tc cs tx ex pad pl)=(iC mk ty seq ti ss tc cs tx ex pad pl)) ∧
 (((ofBytes (bs++(putM (4:Nat) xs)))=(ofBytes (headBM mk ty seq ti ss cs (List.length ex) pad))) ∧
 False))))) ∧
 (aD5 mk ty seq ti ss tc cs tx ex pad pl Q))))
else (∃n_15:Int,(((AV.int .i64 (Nat.cast (List.length ex):Int))=(AV.int .i64 n_15)) ∧
 (((∃x_16:Nat,((Lf ((x_16=(0:Nat)) ∧
 (false=(shortM ex)))) ∧
 (((iC mk ty seq ti ss tc cs tx ex pad pl)=(iC mk ty seq ti ss tc cs tx ex pad pl)) ∧
 (((ofBytes (bs++(putM (4:Nat) xs)))=(ofBytes (headBM mk ty seq ti ss cs (List.length ex) pad))) ∧
 (((AV.int .i64 (4096:Int))=(AV.int .i64 (4096:Int))) ∧
 (((AV.sl (1:Nat) (List.length (bs++(putM (4:Nat) xs))) (0:Nat) (List.length (bs++(putM (4:Nat) xs))) (1:Nat))=(AV.sl (1:Nat) (List.length (headBM mk ty seq ti ss cs (List.length ex) pad)) (0:Nat) (List.length (headBM mk ty seq ti ss cs (List.length ex) pad)) (1:Nat))) ∧
 (((AV.int .i64 n_15)=(AV.int .i64 (Nat.cast (List.length ex):Int))) ∧
 (((AV.lst tx (cellsXM ex) (List.length ex) (2:Nat))=(AV.lst tx (cellsXM ex) (List.length ex) (2:Nat))) ∧
 ((AV.nils=AV.nils) ∧
 (((AV.int .i64 (0:Int))=(AV.int .i64 (Nat.cast x_16:Int))) ∧
 True)))))))))) ∨
 (∃x_16:Nat,((Lf (((1:Nat)≤x_16) ∧
 ((x_16≤(List.length ex)) ∧
 (false=(shortM ex))))) ∧
 (((iC mk ty seq ti ss tc cs tx ex pad pl)=(iC mk ty seq ti ss tc cs tx ex pad pl)) ∧
 (((ofBytes (bs++(putM (4:Nat) xs)))=(ofBytes (headBM mk ty seq ti ss cs (List.length ex) pad))) ∧
 False))))) ∧
 (aD7 mk ty seq ti ss tc cs tx ex pad pl Q))))))))))
abbrev bKm (mk:Bool) (ty seq ti ss:Int) (tc:Nat) (cs:List Int) (tx:Nat) (ex:List Xt) (pad:Int) (pl:List UInt8) (xs_6:List Int) (Q:Out→List Blk→Gh→Prop):Prop:=∃bs_7:List UInt8,∃xs_8:List Int,Lf (GetElem?.getElem? [jO mk ty seq ti ss tc cs tx ex pad pl,Blk.mk BK.grow true (ofBytes (putM 1 xs_6))] 1=Option.some (uP bs_7)∧nE xs_6=bs_7.length∧nE xs_6=bs_7.length∧bs_7.length≤1000000∧[AV.int .i64 seq]=aB xs_8∧1=xs_8.length∧aUg xs_8)∧∃bs_9:List UInt8,∃xs_10:List Int,Lf (GetElem?.getElem? [jO mk ty seq ti ss tc cs tx ex pad pl,aEi bs_7 xs_8] 1=Option.some (uP bs_9)∧vO bs_7 xs_8=bs_9.length∧vO bs_7 xs_8=bs_9.length∧bs_9.length≤1000000∧[AV.int .i64 ti,.int .i64 ss]=aB xs_10∧2=xs_10.length∧(1:Int)≤(4:Int)∧(4:Int)≤(7:Int)∧xs_10.length≤1000000)∧∃bs_11:List UInt8,∃xs_12:List Int,Lf (GetElem?.getElem? [jO mk ty seq ti ss tc cs tx ex pad pl,Blk.mk BK.grow true (ofBytes (bs_9++putM 4 xs_10))] 1=Option.some (uP bs_11)∧(bs_9++putM 4 xs_10).length=bs_11.length∧(bs_9++putM 4 xs_10).length=bs_11.length∧bs_11.length≤1000000∧aB cs=aB xs_12∧cs.length=xs_12.length∧(1:Int)≤(4:Int)∧(4:Int)≤(7:Int)∧xs_12.length≤1000000)∧bKl mk ty seq ti ss tc cs tx ex pad pl bs_11 xs_12 Q
abbrev bGa (mk:Bool) (ty n_4 seq ti ss:Int) (tc:Nat) (cs:List Int) (tx:Nat) (ex:List Xt) (pad:Int) (pl:List UInt8) (Q:Out→List Blk→Gh→Prop):Prop:=bif mk then exW .i64 ((oL ty ||| 128:Nat):Int) (fun n_5=>∃xs_6:List Int,Lf ([AV.int .i64 n_4,.int .i64 n_5]=aB xs_6∧2=xs_6.length∧aMm xs_6)∧bKm mk ty seq ti ss tc cs tx ex pad pl xs_6 Q) else ∃xs_5:List Int,Lf ([AV.int .i64 n_4,.int .i64 ty]=aB xs_5∧2=xs_5.length∧aMm xs_5)∧bKm mk ty seq ti ss tc cs tx ex pad pl xs_5 Q
theorem aXw (mk:Bool) (ty:Int) (seq:Int) (ti:Int) (ss:Int) (tc:Nat) (cs:List Int) (tx:Nat) (ex:List Xt) (pad:Int) (pl:List UInt8) (Q:Out→List Blk→Gh→Prop):lN (bD [(544780,.int .i64),(544781,.int .i64),(544788,.int .i64),(544791,.int .i64),(544794,.int .i64),(544798,.int .i64),(544821,.int .i64),(544829,.int .i64),(544833,.agg [(.int .i64),(.str)]),(544839,.int .i64),(544842,.int .i64),(544843,.int .i64),(544844,.int .i64),(544859,.int .i64),(544862,.int .i64),(544863,.int .i64),(544864,.int .i64),(544869,.int .i64),(544870,.int .i64),(544852,.int .i64)]) (bE []) mk ty seq ti ss tc cs tx ex pad pl Q=(exI .i64 (cs.length:Int) (fun n_0=>exW .i64 ((128 ||| oL n_0:Nat):Int) (fun n_1=>bif decide (pad>0) then exW .i64 ((oL n_1 ||| 32:Nat):Int) (fun n_2=>exI .i64 (ex.length:Int) (fun n_3=>bif decide (n_3>0) then exW .i64 ((oL n_2 ||| 16:Nat):Int) (fun n_4=>bGa mk ty n_4 seq ti ss tc cs tx ex pad pl Q) else bGa mk ty n_2 seq ti ss tc cs tx ex pad pl Q)) else exI .i64 (ex.length:Int) (fun n_2=>bif decide (n_2>0) then exW .i64 ((oL n_1 ||| 16:Nat):Int) (fun n_3=>bGa mk ty n_3 seq ti ss tc cs tx ex pad pl Q) else bGa mk ty n_1 seq ti ss tc cs tx ex pad pl Q)))):=by kernel_rfl

theorem mJ {a b:Nat} {A B:Prop} (h:a=b→A) (k:a≠b→B):bif Nat.beq a b then A else B:=by
 cases e:Nat.beq a b
 ·exact k (Nat.ne_of_beq_eq_false e)
 ·exact h (bPl e)
theorem aCh (n:Int) (h : -9223372036854775808≤n∧n≤9223372036854775807):IntKind.wrap .i64 n=n:=by rw[bS1];omega
theorem bM8 {x y:Int} {a b r:Nat} (hx:x=(a:Int)) (hy:y=(b:Int)) (ha:a≤1000000) (hb:b≤1000000) (hr:a ||| b=r) (hr2:r≤4000000) {K:Int→Prop} (h:K ((r:Nat):Int)):∃n:Int,AV.int .i64 (IntKind.wrap .i64 (((x%18446744073709551616).toNat ||| (y%18446744073709551616).toNat:Nat):Int))=AV.int .i64 n∧K n:=by
 subst hx hy
 have e1:((a:Int)%18446744073709551616).toNat=a:=by omega
 have e2:((b:Int)%18446744073709551616).toNat=b:=by omega
 rw[e1,e2,hr]
 exact ⟨_,by rw[aCh _ ⟨by omega,by omega⟩],h⟩
theorem aXt {x:Int} {a b r:Nat} (hx:x=(a:Int)) (ha:a≤1000000) (hr:a ||| b=r) (hr2:r≤4000000) {K:Int→Prop} (h:K ((r:Nat):Int)):∃n:Int,AV.int .i64 (IntKind.wrap .i64 (((x%18446744073709551616).toNat ||| b:Nat):Int))=AV.int .i64 n∧K n:=by
 subst hx
 have e1:((a:Int)%18446744073709551616).toNat=a:=by omega
 rw[e1,hr]
 exact ⟨_,by rw[aCh _ ⟨by omega,by omega⟩],h⟩
theorem bNx {x:Int} {a b r:Nat} (hx:x=(a:Int)) (ha:a≤1000000) (hr:b ||| a=r) (hr2:r≤4000000) {K:Int→Prop} (h:K ((r:Nat):Int)):∃n:Int,AV.int .i64 (IntKind.wrap .i64 ((b ||| (x%18446744073709551616).toNat:Nat):Int))=AV.int .i64 n∧K n:=by
 subst hx
 have e1:((a:Int)%18446744073709551616).toNat=a:=by omega
 rw[e1,hr]
 exact ⟨_,by rw[aCh _ ⟨by omega,by omega⟩],h⟩
theorem bHx {x:Int} {z:Nat} (hz:(z:Int)=x%4) {K:Int→Prop} (h:K ((z:Nat):Int)):∃n:Int,AV.int .i64 (IntKind.wrap .i64 (((x%18446744073709551616).toNat &&& 3:Nat):Int))=AV.int .i64 n∧K n:=by
 have e1:((x%18446744073709551616).toNat &&& 3)=(x%18446744073709551616).toNat%4:=bQp _ 2
 have e2:(x%18446744073709551616).toNat%4=z:=by omega
 rw[e1,e2]
 exact ⟨_,by rw[aCh _ ⟨by omega,by omega⟩],h⟩
theorem tdI {x:Int} {m d:Nat} (hx:x=(m:Int)) (hm:m≤1000000000) {K:Int→Prop} (h:K ((m/d:Nat):Int)):∃n:Int,AV.int .i64 (IntKind.wrap .i64 (Int.tdiv x (d:Int)))=AV.int .i64 n∧K n:=by
 subst hx
 have e1:Int.tdiv (m:Int) (d:Int)=((m/d:Nat):Int):=rfl
 have h2:m/d≤m:=bTa _ _
 rw[e1]
 generalize m/d=q at *
 exact ⟨_,by rw[aCh _ ⟨by omega,by omega⟩],h⟩
theorem aF7 (n:Nat):List.flatten (List.replicate n [AV.int .u8 0])=ofBytes (List.replicate n 0):=by
 induction n with
 | zero=>rfl
 | succ n ih=>rw[bQr,bQ6,ih,bQr];rfl
theorem aR4 (sh:Bool) (a b:List Xt):extBM sh (a++b)=extBM sh a++extBM sh b:=by
 induction a with
 | nil=>rfl
 | cons x a ih=>simp only[bPh,extBM,ih,bOz]
def iO (sh:Bool) (x:Xt):List UInt8:=if sh=true then putM 1 [x.1*16+(x.2.length-1)] else putM 1 [x.1,(x.2.length:Int)]
theorem iH (sh:Bool) {ex:List Xt} {i:Nat} (hi:i<ex.length):extBM sh (ex.take (i+1))=extBM sh (ex.take i)++(iO sh ex[i]++ex[i].2):=by
 rw[bP9,bOq hi,Option.toList_some,aR4,extBM,extBM,bPd]
 rfl
theorem gN (sh:Bool) (x:Xt):1≤(iO sh x).length∧(iO sh x).length≤2:=by
 unfold iO
 split
 ·rw[put_len];simp
 ·rw[put_len];simp
theorem mY:∀ (l:List Xt) (a:Int),0≤a→extsOkM a l=true→∀x∈l,0<x.1∧x.1≤255∧x.2.length≤255
 | [],_,_,_,x,hx=>by simp at hx
 | y::l,a,ha,h,x,hx=>by
  rw[extsOkM,bN9,bOc] at h
  rcases bOr.1 hx with rfl | hx
  ·exact ⟨by omega,h.1.2.1,h.1.2.2⟩
  ·exact mY l y.1 (by omega) h.2 x hx
theorem extB_len (sh:Bool):∀ (l:List Xt),(∀x∈l,x.2.length≤255)→(extBM sh l).length≤257*l.length
 | [],_=>by simp[extBM]
 | x::l,h=>by
  have h1:=extB_len sh l fun y hy=>h y (by simp[hy])
  have h2:=h x (by simp)
  have h3:=gN sh x
  have e:extBM sh (x::l)=iO sh x++x.2++extBM sh l:=rfl
  rw[e,bN8,bN8,bOb]
  omega
theorem short_at {ex:List Xt} (h:shortM ex=true):∀x∈ex,x.1≤14∧1≤x.2.length∧x.2.length≤16:=fun x hx=>by
 have h1:ex.any isLongM=false:=by rw[shortM,bOd] at h;exact h
 have h2:=List.any_eq_false.1 h1 x hx
 simp only[isLongM,bOf,bOc,not_or] at h2
 omega
theorem aBp {ex:List Xt} (h:0<ex.length):dR ex=[.int .i64 ex[0].1,.str ex[0].2]:=by
 have:=sU h (m:=0) (by omega)
 simpa [dR] using this
theorem bNs (a b:Nat) (hb:b<16):a*16 ||| b=a*16+b:=by
 have:=bR5 (i:=4) hb a
 rw[show (2:Nat)^4=16 from rfl,bSl 16 a] at this
 exact this.symm
theorem head_len (mk:Bool) (ty seq ti ss:Int) (cs:List Int) (n:Nat) (pad:Int):(headBM mk ty seq ti ss cs n pad).length=12+4*cs.length:=by
 unfold headBM
 simp only[bN8,put_len,bOb,bOe]
def aLt (mk:Bool) (ty seq ti ss:Int) (tc:Nat) (cs:List Int) (tx:Nat) (ex:List Xt) (pad:Int) (pl:List UInt8) (Q:Out→List Blk→Gh→Prop):Prop:=
 ∀ (tot len:Nat) (lf:Bool) (c:List AV) (g:List Blk),tot=(headM mk ty seq ti ss cs ex pad).length→len=(headM mk ty seq ti ss cs ex pad).length→lf=true→c=ofBytes (headM mk ty seq ti ss cs ex pad)→Q (.ret (.sl 1 tot 0 len 1)) (⟨.exact,true,iC mk ty seq ti ss tc cs tx ex pad pl⟩::⟨.grow,lf,c⟩::g) {}
theorem bNe {b:Bool} {A B:Prop} (h:b=true) (k:A):bif b then A else B:=by rw[h];exact k
theorem bJ1 (mk:Bool) (ty seq ti ss:Int) (tc:Nat) (cs:List Int) (tx:Nat) (ex:List Xt) (pad:Int) (pl:List UInt8) (Q:Out→List Blk→Gh→Prop) (hcs:cs.length≤15) (hex:ex.length≤16) (hne:0<ex.length) (hx:extsOkM 0 ex=true) (hq:aLt mk ty seq ti ss tc cs tx ex pad pl Q):aD5 mk ty seq ti ss tc cs tx ex pad pl Q:=by
 unfold aD5
 delta bA8 bJp aKr aAw aN7 jL aJb jO vO aRm bCu aEi aQd aS4 bGi aUg uP pU aJg aJ9 aOb uQ aY2 oL mK aE2 aBj aI8 aJ0 aL1 aK1 tC aNh aMv aKv aNj aUv aI4 aJ3 aI0 aI2 aQt aRj aRq aIx aSj nE uR aMm
 have hall:=mY ex 0 (bRq _) hx
 have hhl:=head_len mk ty seq ti ss cs ex.length pad
 refine ⟨?_, ?_⟩
 ·rintro _ ⟨rfl,hsh⟩
  have hs:=short_at hsh.symm
  refine aD (fun _ => ?_) (fun h=>by exfalso;omega)
  have hm:=bPx hne
  have ha:=hall _ hm
  have hs0:=hs _ hm
  have fx:=aBp hne
  have et:=iH true hne
  have pl1:=gN true ex[0]
  rw[bQ4,extBM,bPg] at et
  refine ckI (by simp;omega) (ckI (by rw[aW];simp;omega) (aVl hne (by simp) (aI (by omega) (by omega) ⟨_,rfl,aI (by omega) (by omega) ?_⟩)))
  obtain ⟨id,hid⟩:∃n:Nat,ex[0].1=n:=⟨ex[0].1.toNat,by omega⟩
  have hp:putM 1 [((id*16+(ex[0].2.length-1):Nat):Int)]=iO true ex[0]:=by
   rw[iO,if_pos rfl,hid]
   congr 2
   omega
  refine bM8 (a:=id*16) (b:=ex[0].2.length-1) (r:=id*16+(ex[0].2.length-1)) (by omega) (by omega) (by omega) (by omega) (bNs _ _ (by omega)) (by omega) ⟨[((id*16+(ex[0].2.length-1):Nat):Int)],⟨rfl,rfl,by omega,by omega,by simp,by simp⟩, ?_⟩
  rw[hp]
  refine ckI (by rw[bZ];simp;omega) (mJ (fun h=>by exfalso;omega) (fun h=>ckI (bltQ_iff.2 (by omega)) (ckI (by simp[aH];omega) (aI (by omega) (by omega) ⟨⟨trivial,rfl⟩,.inr ⟨1,⟨by omega,by omega,hsh⟩,by omega,rfl,rfl,fx.symm,ckI (by rw[aK];rfl) ⟨by rw[dE,et],rfl,rfl,rfl,rfl,by rw[et,bN8,aH],rfl,trivial⟩⟩⟩))))
 ·rintro i ⟨h1i,hi,hsh⟩
  have hs:=short_at hsh.symm
  refine aD (fun hlt => ?_) (fun hge => ?_)
  ·have hlt':i<ex.length:=by omega
   have hm:=bPx hlt'
   have ha:=hall _ hm
   have hs0:=hs _ hm
   have et:=iH true hlt'
   have pl1:=gN true ex[i]
   have hXl:=extB_len true (ex.take i) fun x hx=>(hall x (bRj hx)).2.2
   rw[bOu,bP1 hi] at hXl
   refine ckI (by simp;omega) (ckI (by rw[aW];simp;omega) (aVl hlt' (by simp) (aI (by omega) (by omega) ⟨_,rfl,aI (by omega) (by omega) ?_⟩)))
   obtain ⟨id,hid⟩:∃n:Nat,ex[i].1=n:=⟨ex[i].1.toNat,by omega⟩
   have hp:putM 1 [((id*16+(ex[i].2.length-1):Nat):Int)]=iO true ex[i]:=by
    rw[iO,if_pos rfl,hid]
    congr 2
    omega
   refine bM8 (a:=id*16) (b:=ex[i].2.length-1) (r:=id*16+(ex[i].2.length-1)) (by omega) (by omega) (by omega) (by omega) (bNs _ _ (by omega)) (by omega) ⟨extBM true (ex.take i),[((id*16+(ex[i].2.length-1):Nat):Int)],⟨rfl,rfl,rfl,by omega,rfl,rfl,by omega,by omega,by simp⟩, ?_⟩
   rw[hp]
   refine ckI (by rw[bZ];simp;omega) (mJ (fun h=>by exfalso;omega) (fun h=>ckI (bltQ_iff.2 (by omega)) (ckI (by simp[aH];omega) (aI (by omega) (by omega) (bNe (by rw[aK];rfl) ⟨⟨trivial,rfl⟩,.inr ⟨i+1,⟨by omega,by omega,hsh⟩,by omega,rfl,rfl,rfl,ckI (by rw[aK];rfl) ⟨by rw[dE,et,bOz],rfl,rfl,rfl,rfl,by rw[et,aH,bN8,bN8,bN8,bPv],rfl,trivial⟩⟩⟩)))))
  ·have hi:i=ex.length:=by omega
   subst hi
   rw[bPy]
   have hel:=extB_len true ex fun x hx=>(hall x hx).2.2
   have hE1:1≤(extBM true ex).length:=by
    have e1:=iH true (ex:=ex) (i:=ex.length-1) (by omega)
    have e2:=gN true ex[ex.length-1]
    rw[show ex.length-1+1=ex.length by omega,bPy] at e1
    rw[e1,bN8,bN8]
    omega
   have hq:=hq
   unfold aLt headM extPM at hq
   rw[if_neg (by omega),←hsh] at hq
   generalize hE:extBM true ex=E at *
   have hz:∃z:Nat,z=(4-E.length%4)%4:=⟨_,rfl⟩
   obtain ⟨z,hz⟩:=hz
   have hzz:zerosM E.length=List.replicate z 0:=by rw[zerosM,hz]
   rw[hzz] at hq
   have hZ:(List.replicate z (0:UInt8)).length=z:=bOn
   refine ckI (by rw[aH];simp) ⟨_,rfl,aI (by omega) (by omega) (bHx (z:=z) (by omega) ?_)⟩
   simp only[aF7,bOa]
   refine ckI (by rw[bZ];simp;omega) (aD (fun h0 => ?_) (fun h0 => ?_))
   ·have hz0:z=0:=by omega
    subst hz0
    simp only[bSi,bPd] at hq
    refine ckI rfl (ckI (by rw[aH];simp) (ckI (by rw[aH];simp) ⟨_,rfl,tdI (m:=E.length) rfl (by omega) ⟨headBM mk ty seq ti ss cs ex.length pad,[48862,((E.length/4:Nat):Int)],⟨rfl,rfl,rfl,by omega,rfl,rfl,by omega,by omega,by simp⟩, ?_⟩⟩))
    refine ckI ?_ (mJ (fun h=>by exfalso;omega) (fun h=>ckI (bltQ_iff.2 (by omega)) (ckI ?_ (hq _ _ _ _ _ ?_ ?_ ?_ ?_))))
    ·have e1:List.take (E.length*1) (List.drop 0 (ofBytes E))=ofBytes E:=by rw[bOv,bOk (by rw[aH];omega)]
     rw[e1,bZ,aH];simp;omega
    ·simp only[aH,bN8,put_len,bOb,bOe];simp;omega
    ·rw[bQ1,bOv,bOk (by rw[aH];omega),aH]
     simp only[bN8,put_len,profM]
     simp
     omega
    ·simp only[bN8,put_len,profM]
     simp
     omega
    ·rw[bQ1,bOv,bOk (by rw[aH];omega),aK]
    ·rw[bQ1,bOv,bOk (by rw[aH];omega),dE,bOz]
     rfl
   ·have hz1:1≤z:=by omega
    have hEZ:(E++List.replicate z (0:UInt8)).length=E.length+z:=by rw[bN8,hZ]
    refine ckI (bltQ_iff.2 (by omega)) (ckI (by rw[aH];simp;omega) (ckI (by rw[dE,aH,aH,bN8];simp) ⟨_,rfl,tdI (m:=E.length+z) (by omega) (by omega) ⟨headBM mk ty seq ti ss cs ex.length pad,[48862,(((E.length+z)/4:Nat):Int)],⟨rfl,rfl,rfl,by omega,rfl,rfl,by omega,by omega,by simp⟩, ?_⟩⟩))
    have e1:List.take ((E.length+z)*1) (List.drop 0 (ofBytes (E++List.replicate z (0:UInt8))))=ofBytes (E++List.replicate z 0):=by rw[bOv,bOk (by rw[aH,hEZ];omega)]
    rw[dE,e1]
    refine ckI ?_ (mJ (fun h=>by exfalso;omega) (fun h=>ckI (bltQ_iff.2 (by omega)) (ckI ?_ (hq _ _ _ _ _ ?_ ?_ ?_ ?_))))
    ·rw[bZ,aH,aH,hEZ,hZ];simp;omega
    ·simp only[aH,bN8,put_len,bOb,bOe];simp;omega
    ·rw[aH]
     simp only[bN8,put_len,profM,hZ]
     simp
     omega
    ·simp only[bN8,put_len,profM,hZ]
     simp
     omega
    ·rw[aK]
    ·rw[dE,bOz,bN8,hZ]
     rfl
theorem bK6 (mk:Bool) (ty seq ti ss:Int) (tc:Nat) (cs:List Int) (tx:Nat) (ex:List Xt) (pad:Int) (pl:List UInt8) (Q:Out→List Blk→Gh→Prop) (hcs:cs.length≤15) (hex:ex.length≤16) (hne:0<ex.length) (hx:extsOkM 0 ex=true) (hq:aLt mk ty seq ti ss tc cs tx ex pad pl Q):aD7 mk ty seq ti ss tc cs tx ex pad pl Q:=by
 unfold aD7
 delta aZo bI0 bGg aB8 aM6 jV aOu nU aCm aRx bC1 aKj aNi aSz bFx aIy aJu aH5 aJ8 aMg uQ aZs mK aJ2 aW6 aBj aI9 aIg aOh aLn tH aP4 aKs aPb aNf aUv aI4 aJ3 aI0 aI2 aSe aRj aRq aIx aSj rU uR
 have hall:=mY ex 0 (bRq _) hx
 have hhl:=head_len mk ty seq ti ss cs ex.length pad
 refine ⟨?_, ?_⟩
 ·rintro _ ⟨rfl,hsh⟩
  refine aD (fun _ => ?_) (fun h=>by exfalso;omega)
  have hm:=bPx hne
  have ha:=hall _ hm
  have fx:=aBp hne
  have et:=iH false hne
  have pl1:=gN false ex[0]
  rw[bQ4,extBM,bPg] at et
  have hp:putM 1 [ex[0].1,(ex[0].2.length:Int)]=iO false ex[0]:=by rw[iO,if_neg (by simp)]
  refine ckI (by simp;omega) (ckI (by rw[aW];simp;omega) (aVl hne (by simp) ⟨_,rfl,[ex[0].1,(ex[0].2.length:Int)],⟨rfl,rfl,by omega,by omega,by simp,by simp⟩, ?_⟩))
  rw[hp]
  refine ckI (by rw[bZ];simp;omega) (mJ (fun h => ?_) (fun h=>ckI (bltQ_iff.2 (by omega)) (ckI (by simp[aH];omega) (aI (by omega) (by omega) ⟨⟨trivial,rfl⟩,.inr ⟨1,⟨by omega,by omega,hsh⟩,by omega,rfl,rfl,fx.symm,ckI (by rw[aK];rfl) ⟨by rw[dE,et],rfl,rfl,rfl,rfl,by rw[et,bN8,aH],rfl,trivial⟩⟩⟩))))
  have hnil:ex[0].2=[]:=bO8.1 h
  rw[hnil,bPd] at et
  exact ckI (by rw[h];rfl) (ckI (by simp[aH]) (aI (by omega) (by omega) ⟨⟨trivial,rfl⟩,.inr ⟨1,⟨by omega,by omega,hsh⟩,by omega,rfl,rfl,fx.symm,by rw[et],rfl,rfl,rfl,rfl,by rw[et],rfl,trivial⟩⟩))
 ·rintro i ⟨h1i,hi,hsh⟩
  refine aD (fun hlt => ?_) (fun hge => ?_)
  ·have hlt':i<ex.length:=by omega
   have hm:=bPx hlt'
   have ha:=hall _ hm
   have et:=iH false hlt'
   have pl1:=gN false ex[i]
   have hXl:=extB_len false (ex.take i) fun x hx=>(hall x (bRj hx)).2.2
   rw[bOu,bP1 hi] at hXl
   have hp:putM 1 [ex[i].1,(ex[i].2.length:Int)]=iO false ex[i]:=by rw[iO,if_neg (by simp)]
   refine ckI (by simp;omega) (ckI (by rw[aW];simp;omega) (aVl hlt' (by simp) ⟨_,rfl,extBM false (ex.take i),[ex[i].1,(ex[i].2.length:Int)],⟨rfl,rfl,rfl,by omega,rfl,rfl,by omega,by omega,by simp⟩, ?_⟩))
   rw[hp]
   refine ckI (by rw[bZ];simp;omega) (mJ (fun h => ?_) (fun h=>ckI (bltQ_iff.2 (by omega)) (ckI (by simp[aH];omega) (aI (by omega) (by omega) (bNe (by rw[aK];rfl) ⟨⟨trivial,rfl⟩,.inr ⟨i+1,⟨by omega,by omega,hsh⟩,by omega,rfl,rfl,rfl,ckI (by rw[aK];rfl) ⟨by rw[dE,et,bOz],rfl,rfl,rfl,rfl,by rw[et,aH,bN8,bN8,bN8,bPv],rfl,trivial⟩⟩⟩)))))
   have hnil:ex[i].2=[]:=bO8.1 h
   rw[hnil,bPd] at et
   exact ckI (by rw[h];rfl) (ckI (by simp[aH]) (aI (by omega) (by omega) ⟨⟨trivial,rfl⟩,.inr ⟨i+1,⟨by omega,by omega,hsh⟩,by omega,rfl,rfl,rfl,by rw[et],rfl,rfl,rfl,rfl,by rw[et],rfl,trivial⟩⟩))
  ·have hi:i=ex.length:=by omega
   subst hi
   rw[bPy]
   have hel:=extB_len false ex fun x hx=>(hall x hx).2.2
   have hE1:1≤(extBM false ex).length:=by
    have e1:=iH false (ex:=ex) (i:=ex.length-1) (by omega)
    have e2:=gN false ex[ex.length-1]
    rw[show ex.length-1+1=ex.length by omega,bPy] at e1
    rw[e1,bN8,bN8]
    omega
   have hq:=hq
   unfold aLt headM extPM at hq
   rw[if_neg (by omega),←hsh] at hq
   generalize hE:extBM false ex=E at *
   have hz:∃z:Nat,z=(4-E.length%4)%4:=⟨_,rfl⟩
   obtain ⟨z,hz⟩:=hz
   have hzz:zerosM E.length=List.replicate z 0:=by rw[zerosM,hz]
   rw[hzz] at hq
   have hZ:(List.replicate z (0:UInt8)).length=z:=bOn
   refine ckI (by rw[aH];simp) ⟨_,rfl,aI (by omega) (by omega) (bHx (z:=z) (by omega) ?_)⟩
   simp only[aF7,bOa]
   refine ckI (by rw[bZ];simp;omega) (aD (fun h0 => ?_) (fun h0 => ?_))
   ·have hz0:z=0:=by omega
    subst hz0
    simp only[bSi,bPd] at hq
    refine ckI rfl (ckI (by rw[aH];simp) (ckI (by rw[aH];simp) ⟨_,rfl,tdI (m:=E.length) rfl (by omega) ⟨headBM mk ty seq ti ss cs ex.length pad,[4096,((E.length/4:Nat):Int)],⟨rfl,rfl,rfl,by omega,rfl,rfl,by omega,by omega,by simp⟩, ?_⟩⟩))
    refine ckI ?_ (mJ (fun h=>by exfalso;omega) (fun h=>ckI (bltQ_iff.2 (by omega)) (ckI ?_ (hq _ _ _ _ _ ?_ ?_ ?_ ?_))))
    ·have e1:List.take (E.length*1) (List.drop 0 (ofBytes E))=ofBytes E:=by rw[bOv,bOk (by rw[aH];omega)]
     rw[e1,bZ,aH];simp;omega
    ·simp only[aH,bN8,put_len,bOb,bOe];simp;omega
    ·rw[bQ1,bOv,bOk (by rw[aH];omega),aH]
     simp only[bN8,put_len,profM]
     simp
     omega
    ·simp only[bN8,put_len,profM]
     simp
     omega
    ·rw[bQ1,bOv,bOk (by rw[aH];omega),aK]
    ·rw[bQ1,bOv,bOk (by rw[aH];omega),dE,bOz]
     rfl
   ·have hz1:1≤z:=by omega
    have hEZ:(E++List.replicate z (0:UInt8)).length=E.length+z:=by rw[bN8,hZ]
    refine ckI (bltQ_iff.2 (by omega)) (ckI (by rw[aH];simp;omega) (ckI (by rw[dE,aH,aH,bN8];simp) ⟨_,rfl,tdI (m:=E.length+z) (by omega) (by omega) ⟨headBM mk ty seq ti ss cs ex.length pad,[4096,(((E.length+z)/4:Nat):Int)],⟨rfl,rfl,rfl,by omega,rfl,rfl,by omega,by omega,by simp⟩, ?_⟩⟩))
    have e1:List.take ((E.length+z)*1) (List.drop 0 (ofBytes (E++List.replicate z (0:UInt8))))=ofBytes (E++List.replicate z 0):=by rw[bOv,bOk (by rw[aH,hEZ];omega)]
    rw[dE,e1]
    refine ckI ?_ (mJ (fun h=>by exfalso;omega) (fun h=>ckI (bltQ_iff.2 (by omega)) (ckI ?_ (hq _ _ _ _ _ ?_ ?_ ?_ ?_))))
    ·rw[bZ,aH,aH,hEZ,hZ];simp;omega
    ·simp only[aH,bN8,put_len,bOb,bOe];simp;omega
    ·rw[aH]
     simp only[bN8,put_len,profM,hZ]
     simp
     omega
    ·simp only[bN8,put_len,profM,hZ]
     simp
     omega
    ·rw[aK]
    ·rw[dE,bOz,bN8,hZ]
     rfl
theorem bLt (c:Nat) (h:c≤15):128 ||| c=128+c∧(128+c) ||| 32=160+c∧(128+c) ||| 16=144+c∧(160+c) ||| 16=176+c:=by
 have:∀c,c<16→128 ||| c=128+c∧(128+c) ||| 32=160+c∧(128+c) ||| 16=144+c∧(160+c) ||| 16=176+c:=by decide
 exact this c (by omega)
theorem or7 (t:Nat) (h:t≤127):t ||| 128=t+128:=by
 have:∀t,t<128→t ||| 128=t+128:=by decide
 exact this t (by omega)
theorem aId (mk:Bool) (ty seq ti ss:Int) (tc:Nat) (cs:List Int) (tx:Nat) (ex:List Xt) (pad:Int) (pl:List UInt8) (Q:Out→List Blk→Gh→Prop) (hty:0≤ty∧ty≤127) (hcs:cs.length≤15) (hex:ex.length≤16) (hx:extsOkM 0 ex=true) (hq:aLt mk ty seq ti ss tc cs tx ex pad pl Q):∃hv hb,lN hv hb mk ty seq ti ss tc cs tx ex pad pl Q:=by
 obtain ⟨hv,hb',e⟩:∃hv hb,lN hv hb mk ty seq ti ss tc cs tx ex pad pl Q=_:=⟨_,_,aXw mk ty seq ti ss tc cs tx ex pad pl Q⟩
 refine ⟨hv,hb',e.mpr ?_⟩
 delta oL aMm jO uP nE aUg aJb aEi vO bKm bGa
 clear e
 obtain ⟨t,rfl⟩:∃n:Nat,ty=n:=⟨ty.toNat,by omega⟩
 obtain ⟨o1,o2,o3,o4⟩:=bLt cs.length hcs
 have o5:=or7 t (by omega)
 have hall:=mY ex 0 (bRq _) hx
 have hd:dataM ex:=fun x hx=>by have:=hall x hx;omega
 have hhl:=head_len mk t seq ti ss cs ex.length pad
 -- behind the flags
 have end0:∀f k:Int,f=fstM cs ex.length pad→k=kindM mk t→ex.length=0→∀g,Q (.ret (.sl 1 (putM 1 [f,k]++putM 2 [seq]++putM 4 [ti,ss]++putM 4 cs).length 0 (putM 1 [f,k]++putM 2 [seq]++putM 4 [ti,ss]++putM 4 cs).length 1)) (⟨.exact,true,iC mk t seq ti ss tc cs tx ex pad pl⟩::⟨.grow,true,ofBytes (putM 1 [f,k]++putM 2 [seq]++putM 4 [ti,ss]++putM 4 cs)⟩::g) {}:=fun f k hf hk h0 g=>by
  have hh:headM mk t seq ti ss cs ex pad=putM 1 [f,k]++putM 2 [seq]++putM 4 [ti,ss]++putM 4 cs:=by
   rw[headM,if_pos h0,bPd,headBM,←hf,←hk]
  exact hq _ _ _ _ g (by rw[hh]) (by rw[hh]) rfl (by rw[hh])
 have end1:∀f k:Int,f=fstM cs ex.length pad→k=kindM mk t→headBM mk t seq ti ss cs ex.length pad=putM 1 [f,k]++putM 2 [seq]++putM 4 [ti,ss]++putM 4 cs:=fun f k hf hk=>by
  rw[headBM,←hf,←hk]
 have hkT:mk=true→((t+128:Nat):Int)=kindM mk t:=fun h=>by rw[kindM,if_pos h];omega
 have hkF:mk=false→(t:Int)=kindM mk t:=fun h=>by rw[kindM,if_neg (by rw[h];simp)];omega
 have ml:=put_len
 refine ⟨_,rfl,bNx (a:=cs.length) rfl (by omega) o1 (by omega) (aD (fun hp=>aXt (a:=128+cs.length) rfl (by omega) o2 (by omega) ⟨_,rfl,aD (fun he=>aXt (a:=160+cs.length) rfl (by omega) o4 (by omega) (dO (fun hm=>aXt (a:=t) rfl (by omega) o5 (by omega) ?_) (fun hm => ?_))) (fun he=>dO (fun hm=>aXt (a:=t) rfl (by omega) o5 (by omega) ?_) (fun hm => ?_))⟩) (fun hp=>⟨_,rfl,aD (fun he=>aXt (a:=128+cs.length) rfl (by omega) o3 (by omega) (dO (fun hm=>aXt (a:=t) rfl (by omega) o5 (by omega) ?_) (fun hm => ?_))) (fun he=>dO (fun hm=>aXt (a:=t) rfl (by omega) o5 (by omega) ?_) (fun hm => ?_))⟩))⟩
 all_goals
  refine ⟨[_,_],⟨rfl,rfl,by omega,by omega,by simp,by simp⟩,putM 1 [_,_],[seq],⟨rfl,rfl,rfl,by simp[ml],rfl,rfl,by omega,by omega,by simp⟩,_++putM 2 [seq],[ti,ss],⟨rfl,rfl,rfl,by simp[ml],rfl,rfl,by omega,by omega,by simp⟩,_++putM 4 [ti,ss],cs,⟨rfl,rfl,rfl,by simp[ml],rfl,rfl,by omega,by omega,by omega⟩,_,rfl,aS (fun h0 => ?_) (fun h0 => ?_)⟩
  ·refine end0 _ _ ?_ ?_ (by omega) _<;>first
    | exact hkT hm
    | exact hkF hm
    | (unfold fstM;(repeat' split)<;>omega)
  ·refine ⟨ex,⟨rfl,rfl,by omega,hd⟩,dO (fun hs=>⟨_,rfl,.inl ⟨0,⟨rfl,hs.symm⟩,rfl, ?_,rfl, ?_,rfl,rfl,rfl,rfl,trivial⟩,bJ1 mk t seq ti ss tc cs tx ex pad pl Q hcs hex (by omega) hx hq⟩) (fun hs=>⟨_,rfl,.inl ⟨0,⟨rfl,hs.symm⟩,rfl, ?_,rfl, ?_,rfl,rfl,rfl,rfl,trivial⟩,bK6 mk t seq ti ss tc cs tx ex pad pl Q hcs hex (by omega) hx hq⟩)⟩
   all_goals first
    | (refine congrArg ofBytes (end1 _ _ ?_ ?_).symm)
    | (refine congrArg (fun l:List UInt8=>AV.sl 1 l.length 0 l.length 1) (end1 _ _ ?_ ?_).symm)
   all_goals first
    | exact hkT hm
    | exact hkF hm
    | (unfold fstM;(repeat' split)<;>omega)
theorem zN {ty seq ti ss:Int} {cs:List Int} {ex:List Xt} {pad:Int} (h:rightM ty seq ti ss cs ex pad=true):(0≤ty∧ty≤127)∧cs.length≤15∧ex.length≤16∧extsOkM 0 ex=true∧(0≤pad∧pad≤255):=by
 rw[rightM,bN9] at h
 have:=bQi h.1
 obtain ⟨a1,a2,a3,a4,a5,a6,a7,a8,a9,a10,a11,a12,a13⟩:=this
 exact ⟨⟨a1,a2⟩,a12,a13,h.2,a10,a11⟩
def medK (c5:List AV) (n5:Nat) (c6:List AV) (n6:Nat) (cs:List Int) (ex:List Xt):Prop:=c5=aB cs∧n5=cs.length∧c6=cellsXM ex∧n6=ex.length∧cs.length≤1000000∧ex.length≤1000000∧dataM ex
def aFe:Con
 | [.agg [.bool mk,.int .i64 ty,.int .i64 seq,.int .i64 ti,.int .i64 ss,.lst _ c5 n5 1,.lst _ c6 n6 2,.int .i64 pad,.str pl]],H,K=>∃ (cs:List Int) (ex:List Xt),Lf (medK c5 n5 c6 n6 cs ex∧rightM ty seq ti ss cs ex pad=true) ∧
   K (.ret (.sl H.length (headM mk ty seq ti ss cs ex pad).length 0 (headM mk ty seq ti ss cs ex pad).length 1)) (H++[⟨.grow,true,ofBytes (headM mk ty seq ti ss cs ex pad)⟩])
 | _,_,_=>False
theorem aO3:aF Tryz.prog gl0 133 aFe:=by
 refine aAr (enters_of (by kernel_rfl)) aM fun args H Q hc => ?_
 unfold aFe at hc
 split at hc
 ·rename_i mk ty seq ti ss tc c5 n5 tx c6 n6 pad pl
  obtain ⟨cs,ex,⟨⟨rfl,rfl,rfl,rfl,h1,h2,hd⟩,hr⟩,hq⟩:=hc
  obtain ⟨r1,r2,r3,r4,r5⟩:=zN hr
  obtain ⟨hv,hb',h⟩:=aId mk ty seq ti ss tc cs tx ex pad pl (fun o H' _=>aP8 Q H o H') r1 r2 r3 r4 (fun tot len lf c g e1 e2 e3 e4=>by
   subst e1 e2 e3 e4
   exact ⟨1,.sl 0 _ 0 _ 1,rfl,rfl,.inr ⟨rfl,_,rfl,by simp,aK 0 _,iA _,hq⟩⟩)
  refine ⟨rfl,rfl,_,1000, ?_,rfl,h⟩
  exact ⟨dQ,dP,bY,aNx⟩
 ·exact hc.elim
def smH:SM:=dV [(132,wK),(133,aFe)]
theorem bEc:∀f g,smH f=some g→aF Tryz.prog gl0 f g:=bF _ (by simp only[bOr,bOx,bP3,bPj,bQe];exact ⟨zL,aO3⟩)
noncomputable def aEt (hv:Nat→Option Pa) (hb:Nat→Option Bool) (mk:Bool) (ty seq ti ss:Int) (tc:Nat) (cs:List Int) (tx:Nat) (ex:List Xt) (pad:Int) (pl:List UInt8) (Q:Out→List Blk→Gh→Prop):Prop:=
 aY (e23 smH (fun _=>none) hv hb) (wpx (e23 smH (fun _=>none) hv hb) 1000) 88 [.agg (iC mk ty seq ti ss tc cs tx ex pad pl)] [] {} Q
theorem bL1 (mk:Bool) (ty:Int) (seq:Int) (ti:Int) (ss:Int) (tc:Nat) (cs:List Int) (tx:Nat) (ex:List Xt) (pad:Int) (pl:List UInt8) (Q:Out→List Blk→Gh→Prop):aEt (bD [(360462,.int .i64),(360465,.int
 .i64),(360466,.int .i64),(360469,.int .i64)]) (bE []) mk ty seq ti ss tc cs tx ex pad pl Q=(∃cs_0:List Int,∃ex_1:List Xt,Lf (aB cs=aB cs_0∧cs.length=cs_0.length∧cellsXM ex=cellsXM ex_1∧ex.length =
 ex_1.length∧cs_0.length≤1000000∧ex_1.length≤1000000∧dataM ex_1)∧∀r_2:Int,Lf (r_2=ite (rightM ty seq ti ss cs_0 ex_1 pad=true) 0 230)→bif r_2 !=0 then Q (.ret (.tup [.nils,.int .i64 r_2])) [] {} else ∃cs_3:List
 Int,∃ex_4:List Xt,Lf (medK (aB cs) cs.length (cellsXM ex) ex.length cs_3 ex_4∧rightM ty seq ti ss cs_3 ex_4 pad=true)∧ckQ (Nat.beq (ofBytes (headM mk ty seq ti ss cs_3 ex_4 pad)).length (headM mk ty seq ti ss cs_3 ex_4
 pad).length) (exI .i64 ((headM mk ty seq ti ss cs_3 ex_4 pad).length:Int) (fun n_5=>exI .i64 (pl.length:Int) (fun n_6=>exW .i64 (n_5+n_6) (fun n_7=>exW .i64 (n_7+pad) (fun n_8=>bif decide (n_8>1200) then Q (.ret (.tup
 [.nils,.int .i64 3])) [] {} else Q (.ret (.tup [.sl 1 (headM mk ty seq ti ss cs_3 ex_4 pad).length 0 (headM mk ty seq ti ss cs_3 ex_4 pad).length 1,.int .i64 0])) [Blk.mk BK.exact true (iC mk ty seq ti ss tc cs tx ex pad pl),Blk.mk
 BK.grow true (ofBytes (headM mk ty seq ti ss cs_3 ex_4 pad))] {})))))):=by kernel_rfl

theorem vL (mk:Bool) (ty seq ti ss:Int) (cs:List Int) (ex:List Xt) (pad:Int) (h2:cs.length≤15) (h3:ex.length≤16) (h4:extsOkM 0 ex=true):(headM mk ty seq ti ss cs ex pad).length≤10000:=by
 have h5:=mY ex 0 (bRq _) h4
 have h6:=extB_len (shortM ex) ex fun x hx=>(h5 x hx).2.2
 unfold headM
 rw[bN8,head_len]
 split
 ·simp;omega
 ·rw[bN8,put_len,extPM,bN8,zerosM,bOn]
  simp
  omega
def totalM (mk:Bool) (ty seq ti ss:Int) (cs:List Int) (ex:List Xt) (pad:Int) (pl:List UInt8):Int:=(headM mk ty seq ti ss cs ex pad).length+pl.length+pad
theorem aTv (mk:Bool) (ty seq ti ss:Int) (tc:Nat) (cs:List Int) (tx:Nat) (ex:List Xt) (pad:Int) (pl:List UInt8) (hk:medK (aB cs) cs.length (cellsXM ex) ex.length cs ex) (hpl:pl.length≤1000000000) (Q:Out→List Blk→Gh→Prop)
  (h1:rightM ty seq ti ss cs ex pad=false→Q (.ret (.tup [.nils,.int .i64 230])) [] {})
  (h2:rightM ty seq ti ss cs ex pad=true→1200<totalM mk ty seq ti ss cs ex pad pl→∀g,Q (.ret (.tup [.nils,.int .i64 3])) g {})
  (h3:rightM ty seq ti ss cs ex pad=true→totalM mk ty seq ti ss cs ex pad pl≤1200→∀g,Q (.ret (.tup [.sl 1 (headM mk ty seq ti ss cs ex pad).length 0 (headM mk ty seq ti ss cs ex pad).length 1,.int .i64 0])) (g::[⟨.grow,true,ofBytes (headM mk ty seq ti ss cs ex pad)⟩]) {}):∃hv hb,aEt hv hb mk ty seq ti ss tc cs tx ex pad pl Q:=by
 obtain ⟨hv,hb',e⟩:∃hv hb,aEt hv hb mk ty seq ti ss tc cs tx ex pad pl Q=_:=⟨_,_,bL1 mk ty seq ti ss tc cs tx ex pad pl Q⟩
 refine ⟨hv,hb',e.mpr ?_⟩
 clear e
 refine ⟨cs,ex,⟨hk⟩, ?_⟩
 rintro r ⟨hr⟩
 have hcl:=hk.2.2.2.2.1
 cases hT:rightM ty seq ti ss cs ex pad
 ·rw[hT,if_neg (by simp)] at hr
  subst hr
  exact h1 hT
 ·rw[hT,if_pos rfl] at hr
  subst hr
  obtain ⟨r1,r2,r3,r4,r5⟩:=zN hT
  have hb:=vL mk ty seq ti ss cs ex pad r2 r3 r4
  refine bA (fun h=>absurd rfl h) (fun _=>⟨cs,ex,⟨hk,hT⟩,ckI (by rw[aH];simp) ⟨_,rfl,_,rfl,aI (by omega) (by omega) (aI (by omega) (by omega) (aD (fun hg=>h2 hT (by unfold totalM;omega) _) (fun hg=>h3 hT (by unfold totalM;omega) _)))⟩⟩)
def bBx:Con
 | [.agg [.bool mk,.int .i64 ty,.int .i64 seq,.int .i64 ti,.int .i64 ss,.lst _ c5 n5 1,.lst _ c6 n6 2,.int .i64 pad,.str pl]],H,K=>∃ (cs:List Int) (ex:List Xt),Lf (medK c5 n5 c6 n6 cs ex∧pl.length≤1000000000) ∧
   (Lf (rightM ty seq ti ss cs ex pad=false)→K (.ret (.tup [.nils,.int .i64 230])) H) ∧
   (Lf (rightM ty seq ti ss cs ex pad=true∧1200<totalM mk ty seq ti ss cs ex pad pl)→K (.ret (.tup [.nils,.int .i64 3])) H) ∧
   (∀b:List UInt8,Lf (rightM ty seq ti ss cs ex pad=true∧totalM mk ty seq ti ss cs ex pad pl≤1200∧b=headM mk ty seq ti ss cs ex pad)→K (.ret (.tup [.sl H.length b.length 0 b.length 1,.int .i64 0])) (H++[⟨.grow,true,ofBytes b⟩]))
 | _,_,_=>False
theorem aXe:aF Tryz.prog gl0 88 bBx:=by
 refine aAr (enters_of (by kernel_rfl)) aM fun args H Q hc => ?_
 unfold bBx at hc
 split at hc
 ·rename_i mk ty seq ti ss tc c5 n5 tx c6 n6 pad pl
  obtain ⟨cs,ex,⟨⟨rfl,rfl,rfl,rfl,k1,k2,hd⟩,hpl⟩,q1,q2,q3⟩:=hc
  obtain ⟨hv,hb',h⟩:=aTv mk ty seq ti ss tc cs tx ex pad pl ⟨rfl,rfl,rfl,rfl,k1,k2,hd⟩ hpl (fun o H' _=>aP8 Q H o H')
   (fun hr=>⟨0,.tup [.nils,.int .i64 230],rfl,rfl,.inl ⟨rfl,q1 ⟨hr⟩⟩⟩)
   (fun hr ht g=>⟨0,.tup [.nils,.int .i64 3],rfl,rfl,.inl ⟨rfl,q2 ⟨hr,ht⟩⟩⟩)
   (fun hr ht g=>⟨1,.tup [.sl 0 _ 0 _ 1,.int .i64 0],rfl,rfl,.inr ⟨rfl,_,rfl,by simp,aK 0 _,iA _,q3 _ ⟨hr,ht,rfl⟩⟩⟩)
  refine ⟨rfl,rfl,_,1000, ?_,rfl,h⟩
  exact ⟨dQ,dP,bY,bEc⟩
 ·exact hc.elim
end Go.Proofs.YtnhechnaemmdiaaGreatDoor.Md
