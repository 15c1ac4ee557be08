/-
  Chapter 21: octets, proved; the master of a round: residual.
-/
import Derived.Test.YtjenieljapmehaaGreatDoorG21U
import Derived.Test.YtjenieljapmehaaGreatDoorG21N
set_option linter.unusedSimpArgs false
set_option linter.unusedVariables false
set_option linter.unusedSectionVars false
namespace Go.Proofs.YtjenieljapmehaaGreatDoor
open Go.RowKit
set_option maxRecDepth 1000000

def lblM (l:List UInt8):List UInt8:=[116,97,110,110,111,121,32]++l
def octSM (m c l:List UInt8) (n:Int):List UInt8:=deriveSM m c (lblM l) n.toNat
def okOctM (m c:List UInt8) (n:Int):Bool:=decide (m.length=32∧c.length≤64∧1≤n∧n≤255)
theorem oct_len {m c l:List UInt8} {n:Int} (h1:1≤n) (h2:n≤255):(octSM m c l n).length=n.toNat:=derive_len _ _ _ (by omega)
theorem join_lbl (l:List UInt8):joinM [[116,97,110,110,111,121],l] [32]=lblM l:=by simp[joinM,lblM,Lib.join]
theorem oct_run (m c l:List UInt8) (n:Int) (hl:l.length≤4000) (Q:Out→List Blk→Gh→Prop) (h1:okOctM m c n=true→Q (.ret (.str (octSM m c l n))) [] {}) (h2:okOctM m c n=false→Q (.pan (.iface 102 (.agg []))) [] {}):∃hv hb,goal_22 hv hb m c l n Q:=by
 obtain ⟨hv',hb',e'⟩:∃hv hb,goal_22 hv hb m c l n Q=_:=⟨_,_,vc_22 m c l n Q⟩
 refine ⟨hv',hb',e'.mpr ?_⟩
 clear e'
 have no:¬ (m.length=32∧c.length≤64∧1≤n∧n≤255)→Q (.pan (.iface 102 (.agg []))) [] {}:=fun h=>h2 (decide_eq_false h)
 refine ⟨_,rfl,splitE (fun k1=>⟨_,rfl,splitD (fun k2=>splitD (fun k3=>splitD (fun k4 => ?_) (fun h=>no (by omega))) (fun h=>no (by omega))) (fun h=>no (by omega))⟩) (fun h=>no (by omega))⟩
 have hq:=h1 (decide_eq_true ⟨by omega,by omega,by omega,by omega⟩)
 have hlen:(lblM l).length≤4007:=by simp[lblM];omega
 refine ⟨[[116,97,110,110,111,121],l],⟨rfl,rfl,by simp, ?_⟩, ?_⟩
 ·have:=join_lbl l
  rw[show ([32]:List UInt8)=[(32:UInt8)] from rfl] at this
  rw[this]
  omega
 rintro x ⟨ex⟩
 have ex:x=lblM l:=ex.trans (join_lbl l)
 subst ex
 refine ⟨⟨by omega,by omega,by omega,by omega,by omega⟩, ?_⟩
 rintro o ⟨rfl⟩
 exact hq
def cOct:Con
 | [.str m,.str c,.str l,.int .i64 n],H,K=>Lf (l.length≤4000)∧bif okOctM m c n then (∀o,Lf (o=octSM m c l n)→K (.ret (.str o)) H) else K (.pan (.iface 102 (.agg []))) H
 | _,_,_=>False
theorem oct_ok:ValidF Tryz.prog gl0 27 cOct:=by
 refine valid_flatP (enters_of (by kernel_rfl)) gl0_noY fun args H Q hc => ?_
 unfold cOct at hc
 split at hc
 ·rename_i m c l n
  obtain ⟨⟨hl⟩,hq⟩:=hc
  obtain ⟨hv,hb',h⟩:=oct_run m c l n hl (Q:=fun o H' _=>H'=[]∧flatO o∧Q o H) (fun h=>⟨rfl,⟨rfl,rfl⟩,by rw[h] at hq;exact hq _ ⟨rfl⟩⟩) (fun h=>⟨rfl,⟨rfl,rfl⟩,by rw[h] at hq;exact hq⟩)
  exact ⟨rfl,rfl,_,1000,envFor18 smC3_ok _ hv hb',rfl,h⟩
 ·exact hc.elim
def smC4:SM:=lookS [(27,cOct),(25,cTrim)]
theorem smC4_ok:∀f g,smC4 f=some g→ValidF Tryz.prog gl0 f g:=lookS_ok _ (by simp only[List.mem_cons,List.not_mem_nil,or_false,forall_eq_or_imp,forall_eq];exact ⟨oct_ok,trim18_ok⟩)
def ofSM (m:List UInt8):Nat→List UInt8
 | 0=>m
 | n+1=>octSM (ofSM m n) [] [110,101,120,116] 32
def inv_18 (m:List UInt8) (r:Int) (s:S):List (List LInv):=[[{ α:=Nat,pre:=fun i=>Lf ((i:Int)≤r),st:=fun i=>⟨mkT [(0,.str (ofSM m i)),(17,s.tm.get 17),(18,.int .i64 (i:Nat))],s.hp⟩,mu:=fun i=>r.toNat-i }]]
noncomputable def env_18 (hv:Nat→Option Pa) (hb:Nat→Option Bool) (m:List UInt8) (r:Int):Env:=e18 smC4 (fun i=>bif Nat.beq i 33000 then some (inv_18 m r) else none) hv hb
noncomputable def goal_18 (hv:Nat→Option Pa) (hb:Nat→Option Bool) (m:List UInt8) (r:Int) (Q:Out→List Blk→Gh→Prop):Prop:=
 callx (env_18 hv hb m r) (wpx (env_18 hv hb m r) 1000) 33 [.str m,.int .i64 r] [] {} Q
theorem vc_18 (m:List UInt8) (r:Int) (Q:Out→List Blk→Gh→Prop):goal_18 (lookV [(135174,.int .i64),(135188,.str),(135190,.int .i64),(135191,.str)]) (lookB []) m r Q=(exI .i64 (m.length:Int) fun n_0=>bif n_0==32
 then bif decide (r≥0) then bif decide (r≤1000) then (∃x_1:Nat,Lf ((x_1:Int)≤r)∧AV.str m=AV.str (ofSM m x_1)∧eqqQ (AV.int .i64 r)∧AV.int .i64 0=AV.int .i64 (x_1:Int)∧True)∧∀x_1:Nat,Lf ((x_1:Int)≤r)→bif
 decide ((x_1:Int)<r) then exS (.str (ofSM m x_1)) fun s_2=>Lf (List.length [110,101,120,116]≤4000)∧bif okOctM s_2 [] 32 then ∀o_3:List UInt8,Lf (o_3=octSM s_2 [] [110,101,120,116] 32)→exW .i64 ((x_1:Int)+1) fun
 n_4=>(True∧(0:Nat)=(0:Nat))∧∃y_5:Nat,Lf ((y_5:Int)≤r)∧r.toNat-y_5<r.toNat-x_1∧AV.str o_3=AV.str (ofSM m y_5)∧eqqQ (AV.int .i64 r)∧AV.int .i64 n_4=AV.int .i64 (y_5:Int)∧True else Q (.pan (.iface 102
 (.agg []))) [] {} else exS (.str (ofSM m x_1)) fun s_2=>Q (.ret (.str s_2)) [] {} else Q (.pan (.iface 102 (.agg []))) [] {} else Q (.pan (.iface 102 (.agg []))) [] {} else Q (.pan (.iface 102 (.agg []))) [] {}):=by kernel_rfl

end Go.Proofs.YtjenieljapmehaaGreatDoor

set_option linter.unusedSimpArgs false
set_option linter.unusedVariables false
set_option linter.unusedSectionVars false
namespace Go.Proofs.YtjenieljapmehaaGreatDoor
open Go.RowKit
set_option maxRecDepth 1000000

def okRndM (m:List UInt8) (r:Int):Bool:=decide (m.length=32∧0≤r∧r≤1000)
theorem of_len {m:List UInt8} (h:m.length=32):∀n,(ofSM m n).length=32
 | 0=>h
 | n+1=>by rw[ofSM,oct_len (by omega) (by omega)];rfl
theorem of_run (m:List UInt8) (r:Int) (Q:Out→List Blk→Gh→Prop) (h1:okRndM m r=true→Q (.ret (.str (ofSM m r.toNat))) [] {}) (h2:okRndM m r=false→Q (.pan (.iface 102 (.agg []))) [] {}):∃hv hb,goal_18 hv hb m r Q:=by
 obtain ⟨hv',hb',e'⟩:∃hv hb,goal_18 hv hb m r Q=_:=⟨_,_,vc_18 m r Q⟩
 refine ⟨hv',hb',e'.mpr ?_⟩
 clear e'
 have no:¬ (m.length=32∧0≤r∧r≤1000)→Q (.pan (.iface 102 (.agg []))) [] {}:=fun h=>h2 (decide_eq_false h)
 refine ⟨_,rfl,splitE (fun k1=>splitD (fun k2=>splitD (fun k3 => ?_) (fun h=>no (by omega))) (fun h=>no (by omega))) (fun h=>no (by omega))⟩
 have hm:m.length=32:=by omega
 have hq:=h1 (decide_eq_true ⟨hm,by omega,by omega⟩)
 refine ⟨⟨0,⟨by omega⟩,rfl,rfl,rfl,trivial⟩, ?_⟩
 rintro i ⟨hi⟩
 have hl:=of_len hm i
 refine splitD (fun h => ?_) (fun h => ?_)
 ·refine ⟨_,rfl,⟨by simp⟩, ?_⟩
  rw[show okOctM (ofSM m i) [] 32=true from decide_eq_true ⟨hl,by simp,by omega,by omega⟩,cond_true]
  rintro o ⟨eo⟩
  refine wrapI (by omega) (by omega) ⟨⟨trivial,rfl⟩,i+1,⟨by omega⟩,by omega, ?_,rfl,rfl,trivial⟩
  rw[eo]
  rfl
 ·refine ⟨_,rfl, ?_⟩
  rwa [show r.toNat=i by omega] at hq
def cOfR:Con
 | [.str m,.int .i64 r],H,K=>bif okRndM m r then (∀o,Lf (o=ofSM m r.toNat)→K (.ret (.str o)) H) else K (.pan (.iface 102 (.agg []))) H
 | _,_,_=>False
theorem of_ok:ValidF Tryz.prog gl0 33 cOfR:=by
 refine valid_flatP (enters_of (by kernel_rfl)) gl0_noY fun args H Q hc => ?_
 unfold cOfR at hc
 split at hc
 ·rename_i m r
  obtain ⟨hv,hb',h⟩:=of_run m r (Q:=fun o H' _=>H'=[]∧flatO o∧Q o H) (fun h=>⟨rfl,⟨rfl,rfl⟩,by rw[h] at hc;exact hc _ ⟨rfl⟩⟩) (fun h=>⟨rfl,⟨rfl,rfl⟩,by rw[h] at hc;exact hc⟩)
  exact ⟨rfl,rfl,_,1000,envFor18 smC4_ok _ hv hb',rfl,h⟩
 ·exact hc.elim
def smC5:SM:=lookS [(27,cOct),(25,cTrim),(33,cOfR)]
theorem smC5_ok:∀f g,smC5 f=some g→ValidF Tryz.prog gl0 f g:=lookS_ok _ (by simp only[List.mem_cons,List.not_mem_nil,or_false,forall_eq_or_imp,forall_eq];exact ⟨oct_ok,trim18_ok,of_ok⟩)
def dfn16:DFn:=⟨23,(.right (.region [⟨(some 2),.box (.c (.str [])),none,0,0⟩,⟨(some 3),.box (.c (.int .i64 (.ofNat 0))),none,0,0⟩]) (.left (.here [⟨(some 4),.mkfn (.func 50) [] [(.t 2),(.t 3)],none,0,0⟩] (.t 4)) (.seq (.region [⟨(some 5),.mv (.t 0),none,0,0⟩,⟨(some 6),.call (.t 5) [],none,0,0⟩,⟨none,.st 1 (.t 2) (.t 6),none,0,0⟩,⟨none,.st 1 (.t 3) (.c (.int .i64 (.ofNat 0))),none,0,0⟩]) .ret))),[(.cell 2 false 1),(.cell 3 false 1)],⟨50,6,[⟨(some 7),.conv (.tasOk 102 (.agg [])) (.t 6),none,0,0⟩,⟨(some 5),.mv (.t 7),none,0,0⟩,⟨(some 8),.ext (.t 5) 0,none,0,0⟩,⟨(some 9),.ext (.t 5) 1,none,0,0⟩,⟨(some 2),.box (.c (.agg [])),none,0,0⟩,⟨none,.st 0 (.t 2) (.t 8),none,0,0⟩,⟨(some 3),.mv (.t 9),none,0,0⟩],(.seq (.region [⟨(some 10),.mv (.t 3),none,0,0⟩]) (.cond (.t 10) (.seq (.region [⟨(some 4),.mv (.c (.str [])),none,0,0⟩]) (.region [⟨(some 11),.mv (.t 4),none,0,0⟩,⟨none,.st 1 (.t 0) (.t 11),none,0,0⟩,⟨none,.st 1 (.t 1) (.c (.int .i64 (.ofNat 2))),none,0,0⟩])) .skip))⟩⟩
def dfn29:DFn:=⟨36,(.right (.region [⟨(some 2),.box (.c (.agg [.mpn,.mpn])),none,0,0⟩,⟨(some 3),.box (.c (.int .i64 (.ofNat 0))),none,0,0⟩]) (.left (.here [⟨(some 4),.mkfn (.func 69) [] [(.t 2),(.t 3)],none,0,0⟩] (.t 4)) (.seq (.region [⟨(some 5),.mv (.t 0),none,0,0⟩,⟨(some 6),.call (.t 5) [],none,0,0⟩,⟨none,.st 2 (.t 2) (.t 6),none,0,0⟩,⟨none,.st 1 (.t 3) (.c (.int .i64 (.ofNat 0))),none,0,0⟩]) .ret))),[(.cell 2 true 2),(.cell 3 false 1)],⟨69,6,[⟨(some 7),.conv (.tasOk 102 (.agg [])) (.t 6),none,0,0⟩,⟨(some 5),.mv (.t 7),none,0,0⟩,⟨(some 8),.ext (.t 5) 0,none,0,0⟩,⟨(some 9),.ext (.t 5) 1,none,0,0⟩,⟨(some 2),.box (.c (.agg [])),none,0,0⟩,⟨none,.st 0 (.t 2) (.t 8),none,0,0⟩,⟨(some 3),.mv (.t 9),none,0,0⟩],(.seq (.region [⟨(some 10),.mv (.t 3),none,0,0⟩]) (.cond (.t 10) (.seq (.region [⟨(some 4),.box (.c (.agg [.mpn,.mpn])),none,0,0⟩]) (.region [⟨(some 11),.ld true 2 (.t 4),none,0,0⟩,⟨none,.st 2 (.t 0) (.t 11),none,0,0⟩,⟨none,.st 1 (.t 1) (.c (.int .i64 (.ofNat 2))),none,0,0⟩])) .skip))⟩⟩
theorem dfn16_eq:dfnOf Tryz.prog 23 50=some dfn16:=by kernel_rfl
theorem dfn29_eq:dfnOf Tryz.prog 36 69=some dfn29:=by kernel_rfl
noncomputable def cTr16 (hv:Nat→Option Pa) (hb:Nat→Option Bool):Con:=cInl (e18 smC5 (fun _=>none) hv hb) 1000 dfn16
theorem tr16_ok (hv:Nat→Option Pa) (hb:Nat→Option Bool):ValidF Tryz.prog gl0 23 (cTr16 hv hb):=inl_ok dfn16_eq (enters_of (by kernel_rfl)) (envFor18 smC5_ok _ _ _) gl0_noY
noncomputable def smI (hv:Nat→Option Pa) (hb:Nat→Option Bool):SM:=lookS [(23,cTr16 hv hb)]
theorem smI_ok (hv:Nat→Option Pa) (hb:Nat→Option Bool):∀f g,smI hv hb f=some g→ValidF Tryz.prog gl0 f g:=lookS_ok _ (by simp only[List.mem_cons,List.not_mem_nil,or_false,forall_eq_or_imp,forall_eq];exact tr16_ok hv hb)
noncomputable def goal_7 (hv:Nat→Option Pa) (hb:Nat→Option Bool) (m:List UInt8) (r:Int) (Q:Out→List Blk→Gh→Prop):Prop:=
 callx (e18 (smI hv hb) (fun _=>none) hv hb) (wpx (e18 (smI hv hb) (fun _=>none) hv hb) 1000) 11 [.str m,.int .i64 r] [] {} Q
theorem vc_7 (m:List UInt8) (r:Int) (Q:Out→List Blk→Gh→Prop):goal_7 (lookV []) (lookB []) m r Q=(
((true=true) ∧
 (bif (okRndM m r) then (∀o_0:(List UInt8),((Lf (o_0=(ofSM m (Int.toNat r)))) →
((true=true) ∧
 (Q (Out.ret (AV.tup ((AV.str o_0)::((AV.int .i64 (0:Int))::[])))) [] (Gh.mk (0:Nat) (0:Nat) [])))))
else ((true=true) ∧
 (Q (Out.ret (AV.tup ((AV.str [])::((AV.int .i64 (2:Int))::[])))) [] (Gh.mk (0:Nat) (0:Nat) [])))))):=by kernel_rfl

noncomputable def goal_8 (hv:Nat→Option Pa) (hb:Nat→Option Bool) (m c l:List UInt8) (n:Int) (Q:Out→List Blk→Gh→Prop):Prop:=
 callx (e18 (smI hv hb) (fun _=>none) hv hb) (wpx (e18 (smI hv hb) (fun _=>none) hv hb) 1000) 8 [.str m,.str c,.str l,.int .i64 n] [] {} Q
theorem vc_8 (m:List UInt8) (c:List UInt8) (l:List UInt8) (n:Int) (Q:Out→List Blk→Gh→Prop):goal_8 (lookV [(98320,.int .i64)]) (lookB []) m c l n Q=(
((true=true) ∧
 ((Lf (((have y:=
  have y:=
   have y:=[(54:UInt8),(55:UInt8),(56:UInt8),(57:UInt8),(32:UInt8)];
   (49:UInt8)::(50:UInt8)::(51:UInt8)::(52:UInt8)::(53:UInt8)::y;
  have y:=(119:UInt8)::(120:UInt8)::(121:UInt8)::(122:UInt8)::(48:UInt8)::y;
  (115:UInt8)::(116:UInt8)::(117:UInt8)::(118:UInt8)::y;
have y:=
 have y:=(110:UInt8)::(111:UInt8)::(112:UInt8)::(113:UInt8)::(114:UInt8)::y;
 (106:UInt8)::(107:UInt8)::(108:UInt8)::(109:UInt8)::y;
have y:=(101:UInt8)::(102:UInt8)::(103:UInt8)::(104:UInt8)::(105:UInt8)::y;
(97:UInt8)::(98:UInt8)::(99:UInt8)::(100:UInt8)::y)=cutB) ∧
 ((List.length l)≤(9223372036854775807:Nat)))) ∧
 (∀x_0:(List UInt8),((Lf (x_0=(trimM l))) →
(bif (!(eqB l [])) then (bif (eqB x_0 []) then (∃n_1:Int,(((AV.int .i64 (Nat.cast (List.length l):Int))=(AV.int .i64 n_1)) ∧
 (bif (decide (n_1≤(24:Int))) then ((Lf ((List.length l)≤(4000:Nat))) ∧
 (bif (okOctM m c n) then (∀o_2:(List UInt8),((Lf (o_2=(octSM m c l n))) →
((true=true) ∧
 (Q (Out.ret (AV.tup ((AV.str o_2)::((AV.int .i64 (0:Int))::[])))) [] (Gh.mk (0:Nat) (0:Nat) [])))))
else ((true=true) ∧
 (Q (Out.ret (AV.tup ((AV.str [])::((AV.int .i64 (2:Int))::[])))) [] (Gh.mk (0:Nat) (0:Nat) [])))))
else ((true=true) ∧
 (Q (Out.ret (AV.tup ((AV.str [])::((AV.int .i64 (2:Int))::[])))) [] (Gh.mk (0:Nat) (0:Nat) []))))))
else ((true=true) ∧
 (Q (Out.ret (AV.tup ((AV.str [])::((AV.int .i64 (2:Int))::[])))) [] (Gh.mk (0:Nat) (0:Nat) []))))
else ((true=true) ∧
 (Q (Out.ret (AV.tup ((AV.str [])::((AV.int .i64 (2:Int))::[])))) [] (Gh.mk (0:Nat) (0:Nat) []))))))))):=by kernel_rfl

end Go.Proofs.YtjenieljapmehaaGreatDoor
