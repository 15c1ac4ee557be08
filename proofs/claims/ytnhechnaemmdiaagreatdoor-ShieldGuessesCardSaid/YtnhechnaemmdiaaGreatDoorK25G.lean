/-
  Chapter 25: whether a list of tracks has a source (ContainsFunc, with a closure that captures a track).
-/
import Derived.Test.YtnhechnaemmdiaaGreatDoorK25E
set_option linter.unusedSimpArgs false
set_option linter.unusedVariables false
set_option linter.unusedSectionVars false
namespace Go.Proofs.YtnhechnaemmdiaaGreatDoor
open Go.RowKit
set_option maxRecDepth 1000000

abbrev Tr:=Int×Int×Nat
def trM:List Tr→List AV
 | []=>[]
 | t::l=>.int .i64 t.1::.int .i64 t.2.1::.int .u64 (t.2.2:Nat)::trM l
def hasM (c:Int) (l:List Tr) (i:Nat):Bool:=(l.take i).any fun t=>decide (t.1=c)
def inv_111 (c:Int) (l:List Tr) (s:S):List (List LInv):=[[
 { α:=Nat,pre:=fun i=>Lf (i≤l.length∧hasM c l i=false),st:=fun i=>⟨mkT [(0,s.tm.get 0),(1,s.tm.get 1),(7,s.tm.get 7),(8,.int .i64 (i:Nat))],s.hp⟩,mu:=fun i=>l.length-i }]]
noncomputable def env_55 (hv:Nat→Option Pa) (hb:Nat→Option Bool) (c:Int) (l:List Tr):Env:=e04 smI (fun i=>bif Nat.beq i 111000 then some (inv_111 c l) else none) hv hb
noncomputable def goal_55 (hv:Nat→Option Pa) (hb:Nat→Option Bool) (tg:Nat) (c t:Int) (s:Nat) (l:List Tr) (Q:Out→List Blk→Gh→Prop):Prop:=
 callx (env_55 hv hb c l) (wpx (env_55 hv hb c l) 1000) 55 [.lst tg (trM l) l.length 3,.fn (.func 54) [] [.ptr 0 3 0]] [⟨.exact,true,[.int .i64 c,.int .i64 t,.int .u64 (s:Nat)]⟩] {} Q
theorem vc_55 (tg:Nat) (c:Int) (t:Int) (s:Nat) (l:List Tr) (Q:Out→List Blk→Gh→Prop):goal_55 (lookV [(454663,.int .i64),(454666,.int .i64),(454671,.agg [.int .i64,.int .i64,.int .u64]),(454674,.int .i64)]) (lookB
 []) tg c t s l Q=(exI .i64 (l.length:Int) fun n_0=>(∃x_1:Nat,Lf (x_1≤l.length∧hasM c l x_1=false)∧eqqQ [AV.int .i64 c,.int .i64 t,.int .u64 (s:Int)]∧eqqQ (AV.lst tg (trM l) l.length 3)∧eqqQ (AV.fn (Fn.func 54) []
 [.ptr 0 3 0])∧eqqQ (AV.int .i64 n_0)∧AV.int .i64 0=AV.int .i64 (x_1:Int)∧True)∧∀x_1:Nat,Lf (x_1≤l.length∧hasM c l x_1=false)→bif decide ((x_1:Int)<n_0) then exI .i64 (x_1:Int) fun n_2=>ckQ (decide (0≤n_2)
 && Nat.blt n_2.toNat l.length&&true) (ckQ (Nat.ble (n_2.toNat*3+3) (trM l).length) (∃n_3 n_4 n_5,AV.agg (((trM l).drop (n_2.toNat*3)).take 3)=AV.agg [.int .i64 n_3,.int .i64 n_4,.int .u64 n_5]∧bif n_3==c then bif decide
 (n_2≥0) then Q (.ret (.bool true)) [Blk.mk BK.exact true [.int .i64 c,.int .i64 t,.int .u64 (s:Int)]] {} else Q (.ret (.bool false)) [Blk.mk BK.exact true [.int .i64 c,.int .i64 t,.int .u64 (s:Int)]] {} else exW .i64 ((x_1:Int)
 + 1) fun n_6=>(True∧(0:Nat)=(0:Nat))∧∃y_7:Nat,Lf (y_7≤l.length∧hasM c l y_7=false)∧l.length-y_7<l.length-x_1∧eqqQ [AV.int .i64 c,.int .i64 t,.int .u64 (s:Int)]∧eqqQ (AV.lst tg (trM l) l.length 3) ∧
 eqqQ (AV.fn (Fn.func 54) [] [.ptr 0 3 0])∧eqqQ (AV.int .i64 n_0)∧AV.int .i64 n_6=AV.int .i64 (y_7:Int)∧True)) else Q (.ret (.bool false)) [Blk.mk BK.exact true [.int .i64 c,.int .i64 t,.int .u64 (s:Int)]] {}):=by kernel_rfl

theorem tr_len:∀l,(trM l).length=l.length*3
 | []=>rfl
 | t::l=>by simp[trM,tr_len l];omega
theorem tr_get:∀ (l:List Tr) (i:Nat) (h:i<l.length),List.take 3 (List.drop (i*3) (trM l))=[.int .i64 l[i].1,.int .i64 l[i].2.1,.int .u64 (l[i].2.2:Nat)]
 | [],i,h=>by simp at h
 | t::l,0,_=>by simp[trM]
 | t::l,i+1,h=>by
  rw[show (i+1)*3=i*3+3 by omega]
  exact tr_get l i (by simpa using h)
theorem has_succ {c:Int} {l:List Tr} {i:Nat} (h:i<l.length):hasM c l (i+1)=(hasM c l i||decide (l[i].1=c)):=by
 unfold hasM
 rw[List.take_add_one,List.getElem?_eq_getElem h,List.any_append]
 simp
theorem has_le {c:Int} {l:List Tr} {i n:Nat} (h:i≤n) (hi:hasM c l i=true):hasM c l n=true:=by
 unfold hasM at hi ⊢
 rw[List.any_eq_true] at hi ⊢
 obtain ⟨t,h1,h2⟩:=hi
 refine ⟨t, ?_,h2⟩
 rw[show i=min i n by omega,←List.take_take] at h1
 exact List.mem_of_mem_take h1
theorem has55_run (tg:Nat) (c t:Int) (s:Nat) (l:List Tr) (hl:l.length≤1000) (Q:Out→List Blk→Gh→Prop) (hq:Q (.ret (.bool (hasM c l l.length))) [⟨.exact,true,[.int .i64 c,.int .i64 t,.int .u64 (s:Nat)]⟩] {}):∃hv hb,goal_55 hv hb tg c t s l Q:=by
 obtain ⟨hv,hb',e⟩:∃hv hb,goal_55 hv hb tg c t s l Q=_:=⟨_,_,vc_55 tg c t s l Q⟩
 refine ⟨hv,hb',e.mpr ?_⟩
 clear e
 refine ⟨_,rfl,⟨0,⟨by omega,rfl⟩,rfl,rfl,rfl,rfl,rfl,trivial⟩, ?_⟩
 rintro i ⟨g1,g2⟩
 have hln:=tr_len l
 refine splitD (fun g3 => ?_) (fun g3 => ?_)
 ·have hi:i<l.length:=by omega
  refine ⟨_,rfl,ckI (by simp;omega) (ckI (by rw[hln];simp;omega) ?_)⟩
  rw[show Int.toNat ((i:Nat):Int)=i from rfl,tr_get l i hi]
  refine ⟨_,_,_,rfl,splitE (fun h=>splitD (fun _ => ?_) (fun h2=>by omega)) (fun h => ?_)⟩
  ·have:hasM c l l.length=true:=has_le (i:=i+1) (by omega) (by rw[has_succ hi,decide_eq_true h,Bool.or_true])
   rwa [this] at hq
  ·exact wrapI (by omega) (by omega) ⟨⟨trivial,rfl⟩,i+1,⟨by omega,by rw[has_succ hi,g2,decide_eq_false h];rfl⟩,by omega,rfl,rfl,rfl,rfl,rfl,trivial⟩
 ·obtain rfl:i=l.length:=by omega
  rwa [g2] at hq
def cHas:Con
 | [.lst _ l n 3,.fn (.func 54) [] [.ptr i 3 0]],H,K=>match H.getD i ⟨.ro,false,[]⟩ with
  | ⟨.exact,true,[.int .i64 c,.int .i64 t,.int .u64 u]⟩=>∃ (ts:List Tr) (s:Nat),Lf (Nat.blt i H.length=true∧u=(s:Int)∧l=trM ts∧n=ts.length∧ts.length≤1000)∧∀b:Bool,Lf (b=hasM c ts ts.length)→K (.ret (.bool b)) H
  | _=>False
 | _,_,_=>False
theorem flat_tr (l:List Tr):oldL 0 (trM l)=true∧noYL (trM l)=true:=by
 induction l with
 | nil=>exact ⟨rfl,rfl⟩
 | cons x l ih=>simp[trM,oldL,noYL,old,noY,ih.1,ih.2]
theorem has55_ok:ValidF Tryz.prog gl0 55 cHas:=by
 refine valid_of (enters_of (by kernel_rfl)) gl0_noY fun args H Q hc => ?_
 unfold cHas at hc
 split at hc
 ·rename_i tg l n i
  split at hc
  ·rename_i c t u hb
   obtain ⟨ts,s,⟨h0,rfl,rfl,rfl,h1⟩,hq⟩:=hc
   rw[blt_iff] at h0
   have hi:H[i]? = some ⟨.exact,true,[.int .i64 c,.int .i64 t,.int .u64 (s:Nat)]⟩:=by
    rw[List.getD_eq_getElem?_getD,List.getElem?_eq_getElem h0] at hb
    rw[List.getElem?_eq_getElem h0]
    exact congrArg some hb
   obtain ⟨hv,hb',h⟩:=has55_run tg c t s ts h1 (Q:=fun o H' _=>o=.ret (.bool (hasM c ts ts.length))∧H'=[⟨.exact,true,[.int .i64 c,.int .i64 t,.int .u64 (s:Nat)]⟩]) ⟨rfl,rfl⟩
   refine ⟨_,1000,fun _=>i,[.lst tg (trM ts) ts.length 3,.fn (.func 54) [] [.ptr 0 3 0]],[⟨.exact,true,[.int .i64 c,.int .i64 t,.int .u64 (s:Nat)]⟩],_,envFor04 smI_ok _ _ _,rfl,rfl,rfl, ?_,⟨fun j b0 hj => ?_,fun j j' b0 hj _ hj' _ => ?_,fun j b0 hj => ?_⟩,h, ?_⟩
   ·simp[noYL,noY,(flat_tr ts).2]
   ·match j,hj with
    | 0,hj=>
     cases hj
     exact ⟨h0,rfl,rfl,fun _=>rfl,_,hi,rfl,.inr rfl⟩
   ·have:j<1:=(List.getElem?_eq_some_iff.1 hj).1
    simp at hj'
    omega
   ·match j,hj with
    | 0,hj=>cases hj;exact fun h=>by cases h
   ·rintro o H0' g' ⟨rfl,rfl⟩
    refine ⟨H,⟨Nat.le_refl _,fun j b0 hj hk => ?_,fun j b0 hj hk=>⟨b0,hj,rfl⟩,fun j b0 hj hb0 => ?_,by simp,fun _ _ _=>rfl,fun j b0 hj hk => ?_⟩,hq _ ⟨rfl⟩⟩
    ·match j,hj with
     | 0,hj=>cases hj;cases hk
    ·have:j<1:=(List.getElem?_eq_some_iff.1 hb0).1
     simp at hj
     omega
    ·match j,hj with
     | 0,hj=>
      cases hj
      exact hi
  ·exact hc.elim
 ·exact hc.elim
end Go.Proofs.YtnhechnaemmdiaaGreatDoor
