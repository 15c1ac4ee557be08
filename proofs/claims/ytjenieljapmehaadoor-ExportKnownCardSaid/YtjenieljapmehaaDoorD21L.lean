/-
  Chapter 18: the program's digest, proved.
-/
import Derived.Test.YtjenieljapmehaaDoorD21K
set_option linter.unusedSimpArgs false
set_option linter.unusedVariables false
set_option linter.unusedSectionVars false
namespace Go.Proofs.YtjenieljapmehaaDoor
open Go.RowKit
set_option maxRecDepth 1000000

def cMade:Con
 | [],H,K=>∀ks,Lf (ks=startM++kkM)→K (.ret (.agg (cells32M ks))) H
 | _,_,_=>False
theorem made_ok:ValidF Tryd.prog gl0 34 cMade:=by
 refine valid_flat (enters_of (by kernel_rfl)) gl0_noY fun args H Q hc => ?_
 unfold cMade at hc
 split at hc
 ·obtain ⟨hv,hb',e⟩:∃hv hb,goal_114 hv hb (fun o H' _=>H'=[]∧(∃v,o=.ret v∧old 0 v=true∧noY v=true)∧Q o H)=_:=⟨_,_,vc_114 _⟩
  exact ⟨rfl,rfl,_,1000,envFor18 smM1_ok _ hv hb',rfl,e.mpr ⟨rfl,⟨_,rfl,by kernel_rfl,by kernel_rfl⟩,hc (startM++kkM) ⟨rfl⟩⟩⟩
 ·exact hc.elim
theorem cellsS_len (l:List (List UInt8)):(cellsSM l).length=l.length:=by simp[cellsSM]
theorem getS {l:List (List UInt8)} {i m:Nat} (hi:i<l.length) (hm:m=i) {K:List UInt8→Prop} (hk:K l[i]):∃s,(cellsSM l).getD m AV.undef=AV.str s∧K s:=by
 subst hm
 refine ⟨_, ?_,hk⟩
 simp[cellsSM,List.getD_eq_getElem?_getD,hi]
theorem celK_len (st:W8) (kk:List Nat) (h:kk.length=64):(celK st kk).length=72:=by simp[cells32_len,h]
theorem celK_old (n:Nat) (st:W8) (kk:List Nat):oldL n (celK st kk)=true:=by simp[oldL,old,old32]
theorem celK_drop (st:W8) (kk:List Nat) (h:kk.length=64):List.take 64 (List.drop 8 (celK st kk))=cells32M kk:=by
 show List.take 64 (cells32M kk)=_
 rw[List.take_of_length_le (by rw[cells32_len];omega)]
theorem add_len (kk:List Nat) (x:W8×List UInt8×Nat) (s:List UInt8):(addM kk x s).2.1.length≤64:=by
 rw[addM]
 dsimp only
 rw[List.length_drop]
 omega
def sumLM (kk:List Nat) (st:W8) (l:List (List UInt8)):List UInt8:=endM kk (l.foldl (addM kk) (st,[],0)).1 (l.foldl (addM kk) (st,[],0)).2.1 (l.foldl (addM kk) (st,[],0)).2.2
theorem sum_run (tg:Nat) (st:W8) (kk:List Nat) (l:List (List UInt8)) (h1:okW8 st) (h2:okK kk) (h3:l.length≤1000) (h4:∀s∈l,s.length≤100000) (Q:Out→List Blk→Gh→Prop)
  (hq:Q (.ret (.str (sumLM kk st l))) [] {}):∃hv hb,goal_115 hv hb tg st kk l Q:=by
 obtain ⟨hv',hb',e'⟩:∃hv hb,goal_115 hv hb tg st kk l Q=_:=⟨_,_,vc_115 tg st kk l Q⟩
 refine ⟨hv',hb',e'.mpr ?_⟩
 clear e'
 have hl:=celK_len st kk h2.1
 have hB:(oldL 0 (celK st kk)==oldL 0 (celK st kk))=true:=by simp
 have hO:∀m m',((oldL m (celK st kk)||oldL m' (celK st kk))&&true)=true:=fun m m'=>by rw[celK_old];rfl
 refine ckI (by simp) (ckI (by simp) ⟨_,_,_,_,_,_,_,_,rfl,_,rfl,⟨(0,st,[],0),⟨by dsimp only;omega,h1,by simp,by dsimp only;omega,rfl⟩,ckI hB ⟨rfl,rfl,rfl,rfl,rfl,rfl,rfl,trivial⟩⟩, ?_⟩)
 rintro ⟨i,v,t,n⟩ ⟨hi,hv,ht,hn,hf⟩
 dsimp only at hi hv ht hn hf ⊢
 refine splitD (fun h => ?_) (fun h => ?_)
 ·have hil:i<l.length:=by omega
  have hs:=h4 l[i] (List.getElem_mem hil)
  refine ckI (by simp;omega) (ckI (by rw[cellsS_len];simp;omega) (getS hil (by simp) ?_))
  refine ckI (by simp) (ckI (by rw[hl];rfl) ?_)
  rw[celK_drop st kk h2.1]
  refine ⟨⟨rfl,rfl,by simp[oldL,old,old32],by simp[noYL,noY,noY32],rfl,rfl⟩,v,kk,t,n,⟨rfl,rfl,h2,hv,by omega,by omega⟩, ?_⟩
  rintro v' t' n' ⟨e1,e2⟩
  have hlen:=add_len kk (v,t,n) l[i]
  rw[e1] at hlen
  have hn':n'=n+l[i].length:=by
   have:=congrArg (fun x=>x.2.2) e1
   exact this.symm
  refine wrapI (by omega) (by omega) ⟨hO _ _,⟨trivial,rfl⟩,(i+1,v',t',n'),⟨by dsimp only;omega,e2,hlen,by dsimp only;omega, ?_⟩,by dsimp only;omega,ckI hB ⟨rfl,rfl,rfl,rfl,rfl,rfl,rfl,trivial⟩⟩
  dsimp only
  rw[List.take_add_one,List.getElem?_eq_getElem hil,List.foldl_append,hf]
  exact e1
 ·have hil:i=l.length:=by omega
  subst hil
  rw[List.take_of_length_le (Nat.le_refl _)] at hf
  refine ⟨_,_,_,_,_,_,_,_,_,_,rfl,ckI (by simp) (ckI (by rw[hl];rfl) ?_)⟩
  rw[celK_drop st kk h2.1]
  refine ⟨v,kk,t,n,⟨rfl,rfl,h2,hv,ht,by omega⟩, ?_⟩
  rintro x ⟨e⟩
  rw[e]
  rw[sumLM,hf] at hq
  exact hq
def cSum:Con
 | [.agg cs,.lst _ ss n 1],H,K=>∃ (st:W8) (kk:List Nat) (l:List (List UInt8)),Lf (cs=celK st kk∧ss=cellsSM l∧n=l.length∧okW8 st∧okK kk∧l.length≤1000∧∀s∈l,s.length≤100000)∧∀x,Lf (x=sumLM kk st l)→K (.ret (.str x)) H
 | _,_,_=>False
theorem cellsS_old (n:Nat) (l:List (List UInt8)):oldL n (cellsSM l)=true:=by
 induction l with
 | nil=>rfl
 | cons c s ih=>simp only[cellsSM,List.map_cons,oldL,old,Bool.true_and] at ih ⊢;exact ih
theorem cellsS_noY (l:List (List UInt8)):noYL (cellsSM l)=true:=by
 induction l with
 | nil=>rfl
 | cons c s ih=>simp only[cellsSM,List.map_cons,noYL,noY,Bool.true_and] at ih ⊢;exact ih
theorem sum18_raw:ValidF Tryd.prog gl0 52 cSum:=by
 refine valid_flat (enters_of (by kernel_rfl)) gl0_noY fun args H Q hc => ?_
 unfold cSum at hc
 split at hc
 ·rename_i cs tg ss n
  obtain ⟨st,kk,l,⟨rfl,rfl,rfl,k1,k2,k3,k4⟩,hq⟩:=hc
  obtain ⟨hv,hb',h⟩:=sum_run tg st kk l k1 k2 k3 k4 (Q:=fun o H' _=>H'=[]∧(∃v,o=.ret v∧old 0 v=true∧noY v=true)∧Q o H) ⟨rfl,⟨_,rfl,rfl,rfl⟩,hq _ ⟨rfl⟩⟩
  exact ⟨by simp[oldL,old,old32,cellsS_old],by simp[noYL,noY,noY32,cellsS_noY],_,1000,envFor18 smS1_ok _ _ _,rfl,h⟩
 ·exact hc.elim
def cSumV:Con:=fun args H Q=>lendL [0,1] H args fun a=>cSum a H Q
theorem sum18_ok:ValidF Tryd.prog gl0 52 cSumV:=valid_view sum18_raw gl0_noY [0,1] fun args H Q hc=>by
 unfold cSum at hc
 split at hc
 ·obtain ⟨st,kk,l,h,hq⟩:=hc
  exact ⟨st,kk,l,h,fun x hx=>⟨rfl,⟨_,rfl,rfl⟩,hq x hx⟩⟩
 ·exact hc.elim
end Go.Proofs.YtjenieljapmehaaDoor
