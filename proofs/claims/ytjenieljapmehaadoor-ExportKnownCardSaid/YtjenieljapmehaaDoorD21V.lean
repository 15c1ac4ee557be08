/-
  Chapter 21: octets, proved; the master of a round: residual.
-/
import Derived.Test.YtjenieljapmehaaDoorD21U
import Derived.Test.YtjenieljapmehaaDoorD21N
set_option linter.unusedSimpArgs false
set_option linter.unusedVariables false
set_option linter.unusedSectionVars false
namespace Go.Proofs.YtjenieljapmehaaDoor
open Go.RowKit
set_option maxRecDepth 1000000

def lblM (l:List UInt8):List UInt8:=[116,97,110,110,111,121,32]++l
def octSM (m c l:List UInt8) (n:Int):List UInt8:=deriveSM m c (lblM l) n.toNat
def okOctM (m c:List UInt8) (n:Int):Bool:=decide (m.length=32∧c.length≤64∧1≤n∧n≤255)
theorem oct_len {m c l:List UInt8} {n:Int} (h1:1≤n) (h2:n≤255):(octSM m c l n).length=n.toNat:=derive_len _ _ _ (by omega)
theorem join_lbl (l:List UInt8):joinM [[116,97,110,110,111,121],l] [32]=lblM l:=by simp[joinM,lblM,Lib.join]
theorem oct_run (m c l:List UInt8) (n:Int) (hl:l.length≤4000) (Q:Out→List Blk→Gh→Prop) (h1:okOctM m c n=true→Q (.ret (.str (octSM m c l n))) [] {}) (h2:okOctM m c n=false→Q (.pan (.iface 82 (.agg []))) [] {}):∃hv hb,goal_22 hv hb m c l n Q:=by
 obtain ⟨hv',hb',e'⟩:∃hv hb,goal_22 hv hb m c l n Q=_:=⟨_,_,vc_22 m c l n Q⟩
 refine ⟨hv',hb',e'.mpr ?_⟩
 clear e'
 have no:¬ (m.length=32∧c.length≤64∧1≤n∧n≤255)→Q (.pan (.iface 82 (.agg []))) [] {}:=fun h=>h2 (decide_eq_false h)
 refine ⟨_,rfl,splitE (fun k1=>⟨_,rfl,splitD (fun k2=>splitD (fun k3=>splitD (fun k4 => ?_) (fun h=>no (by omega))) (fun h=>no (by omega))) (fun h=>no (by omega))⟩) (fun h=>no (by omega))⟩
 have hq:=h1 (decide_eq_true ⟨by omega,by omega,by omega,by omega⟩)
 have hlen:(lblM l).length≤4007:=by simp[lblM];omega
 refine ⟨[[116,97,110,110,111,121],l],⟨rfl,rfl,by simp, ?_⟩, ?_⟩
 ·have:=join_lbl l
  rw[show ([32]:List UInt8)=[(32:UInt8)] from rfl] at this
  rw[this]
  omega
 rintro x ⟨ex⟩
 have ex:x=lblM l:=ex.trans (join_lbl l)
 subst ex
 refine ⟨⟨by omega,by omega,by omega,by omega,by omega⟩, ?_⟩
 rintro o ⟨rfl⟩
 exact hq
def cOct:Con
 | [.str m,.str c,.str l,.int .i64 n],H,K=>Lf (l.length≤4000)∧bif okOctM m c n then (∀o,Lf (o=octSM m c l n)→K (.ret (.str o)) H) else K (.pan (.iface 82 (.agg []))) H
 | _,_,_=>False
theorem oct_ok:ValidF Tryd.prog gl0 22 cOct:=by
 refine valid_flatP (enters_of (by kernel_rfl)) gl0_noY fun args H Q hc => ?_
 unfold cOct at hc
 split at hc
 ·rename_i m c l n
  obtain ⟨⟨hl⟩,hq⟩:=hc
  obtain ⟨hv,hb',h⟩:=oct_run m c l n hl (Q:=fun o H' _=>H'=[]∧flatO o∧Q o H) (fun h=>⟨rfl,⟨rfl,rfl⟩,by rw[h] at hq;exact hq _ ⟨rfl⟩⟩) (fun h=>⟨rfl,⟨rfl,rfl⟩,by rw[h] at hq;exact hq⟩)
  exact ⟨rfl,rfl,_,1000,envFor18 smC3_ok _ hv hb',rfl,h⟩
 ·exact hc.elim
def smC4:SM:=lookS [(22,cOct),(20,cTrim)]
theorem smC4_ok:∀f g,smC4 f=some g→ValidF Tryd.prog gl0 f g:=lookS_ok _ (by simp only[List.mem_cons,List.not_mem_nil,or_false,forall_eq_or_imp,forall_eq];exact ⟨oct_ok,trim18_ok⟩)
def ofSM (m:List UInt8):Nat→List UInt8
 | 0=>m
 | n+1=>octSM (ofSM m n) [] [110,101,120,116] 32
def inv_18 (m:List UInt8) (r:Int) (s:S):List (List LInv):=[[{ α:=Nat,pre:=fun i=>Lf ((i:Int)≤r),st:=fun i=>⟨mkT [(0,.str (ofSM m i)),(17,s.tm.get 17),(18,.int .i64 (i:Nat))],s.hp⟩,mu:=fun i=>r.toNat-i }]]
noncomputable def env_18 (hv:Nat→Option Pa) (hb:Nat→Option Bool) (m:List UInt8) (r:Int):Env:=e18 smC4 (fun i=>bif Nat.beq i 18000 then some (inv_18 m r) else none) hv hb
noncomputable def goal_18 (hv:Nat→Option Pa) (hb:Nat→Option Bool) (m:List UInt8) (r:Int) (Q:Out→List Blk→Gh→Prop):Prop:=
 callx (env_18 hv hb m r) (wpx (env_18 hv hb m r) 1000) 18 [.str m,.int .i64 r] [] {} Q
theorem vc_18 (m:List UInt8) (r:Int) (Q:Out→List Blk→Gh→Prop):goal_18 (lookV [(73734,.int .i64),(73748,.str),(73750,.int .i64),(73751,.str)]) (lookB []) m r Q=(exI .i64 (m.length:Int) fun n_0=>bif n_0==32 then
 bif decide (r≥0) then bif decide (r≤1000) then (∃x_1:Nat,Lf ((x_1:Int)≤r)∧AV.str m=AV.str (ofSM m x_1)∧eqqQ (AV.int .i64 r)∧AV.int .i64 0=AV.int .i64 (x_1:Int)∧True)∧∀x_1:Nat,Lf ((x_1:Int)≤r)→bif
 decide ((x_1:Int)<r) then exS (.str (ofSM m x_1)) fun s_2=>Lf (List.length [110,101,120,116]≤4000)∧bif okOctM s_2 [] 32 then ∀o_3:List UInt8,Lf (o_3=octSM s_2 [] [110,101,120,116] 32)→exW .i64 ((x_1:Int)+1) fun
 n_4=>(True∧(0:Nat)=(0:Nat))∧∃y_5:Nat,Lf ((y_5:Int)≤r)∧r.toNat-y_5<r.toNat-x_1∧AV.str o_3=AV.str (ofSM m y_5)∧eqqQ (AV.int .i64 r)∧AV.int .i64 n_4=AV.int .i64 (y_5:Int)∧True else Q (.pan (.iface 82
 (.agg []))) [] {} else exS (.str (ofSM m x_1)) fun s_2=>Q (.ret (.str s_2)) [] {} else Q (.pan (.iface 82 (.agg []))) [] {} else Q (.pan (.iface 82 (.agg []))) [] {} else Q (.pan (.iface 82 (.agg []))) [] {}):=by kernel_rfl

end Go.Proofs.YtjenieljapmehaaDoor
