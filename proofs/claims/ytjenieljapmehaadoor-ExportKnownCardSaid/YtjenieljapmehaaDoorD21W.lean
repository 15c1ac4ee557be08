/-
  Chapter 21: the master of a round, proved; tried; Master's and Export's residuals.
-/
import Derived.Test.YtjenieljapmehaaDoorD21V
set_option linter.unusedSimpArgs false
set_option linter.unusedVariables false
set_option linter.unusedSectionVars false
namespace Go.Proofs.YtjenieljapmehaaDoor
open Go.RowKit
set_option maxRecDepth 1000000

def okRndM (m:List UInt8) (r:Int):Bool:=decide (m.length=32∧0≤r∧r≤1000)
theorem of_len {m:List UInt8} (h:m.length=32):∀n,(ofSM m n).length=32
 | 0=>h
 | n+1=>by rw[ofSM,oct_len (by omega) (by omega)];rfl
theorem of_add (m:List UInt8) (i:Nat):∀k,ofSM (ofSM m i) k=ofSM m (i+k)
 | 0=>rfl
 | k+1=>by rw[show i+(k+1)=(i+k)+1 from rfl,ofSM,ofSM,of_add m i k]
theorem of_run (m:List UInt8) (r:Int) (Q:Out→List Blk→Gh→Prop) (h1:okRndM m r=true→Q (.ret (.str (ofSM m r.toNat))) [] {}) (h2:okRndM m r=false→Q (.pan (.iface 82 (.agg []))) [] {}):∃hv hb,goal_18 hv hb m r Q:=by
 obtain ⟨hv',hb',e'⟩:∃hv hb,goal_18 hv hb m r Q=_:=⟨_,_,vc_18 m r Q⟩
 refine ⟨hv',hb',e'.mpr ?_⟩
 clear e'
 have no:¬ (m.length=32∧0≤r∧r≤1000)→Q (.pan (.iface 82 (.agg []))) [] {}:=fun h=>h2 (decide_eq_false h)
 refine ⟨_,rfl,splitE (fun k1=>splitD (fun k2=>splitD (fun k3 => ?_) (fun h=>no (by omega))) (fun h=>no (by omega))) (fun h=>no (by omega))⟩
 have hm:m.length=32:=by omega
 have hq:=h1 (decide_eq_true ⟨hm,by omega,by omega⟩)
 refine ⟨⟨0,⟨by omega⟩,rfl,rfl,rfl,trivial⟩, ?_⟩
 rintro i ⟨hi⟩
 have hl:=of_len hm i
 refine splitD (fun h => ?_) (fun h => ?_)
 ·refine ⟨_,rfl,⟨by simp⟩, ?_⟩
  rw[show okOctM (ofSM m i) [] 32=true from decide_eq_true ⟨hl,by simp,by omega,by omega⟩,cond_true]
  rintro o ⟨eo⟩
  refine wrapI (by omega) (by omega) ⟨⟨trivial,rfl⟩,i+1,⟨by omega⟩,by omega, ?_,rfl,rfl,trivial⟩
  rw[eo]
  rfl
 ·refine ⟨_,rfl, ?_⟩
  rwa [show r.toNat=i by omega] at hq
def cOfR:Con
 | [.str m,.int .i64 r],H,K=>bif okRndM m r then (∀o,Lf (o=ofSM m r.toNat)→K (.ret (.str o)) H) else K (.pan (.iface 82 (.agg []))) H
 | _,_,_=>False
theorem of_ok:ValidF Tryd.prog gl0 18 cOfR:=by
 refine valid_flatP (enters_of (by kernel_rfl)) gl0_noY fun args H Q hc => ?_
 unfold cOfR at hc
 split at hc
 ·rename_i m r
  obtain ⟨hv,hb',h⟩:=of_run m r (Q:=fun o H' _=>H'=[]∧flatO o∧Q o H) (fun h=>⟨rfl,⟨rfl,rfl⟩,by rw[h] at hc;exact hc _ ⟨rfl⟩⟩) (fun h=>⟨rfl,⟨rfl,rfl⟩,by rw[h] at hc;exact hc⟩)
  exact ⟨rfl,rfl,_,1000,envFor18 smC4_ok _ hv hb',rfl,h⟩
 ·exact hc.elim
def smC5:SM:=lookS [(22,cOct),(20,cTrim),(18,cOfR)]
theorem smC5_ok:∀f g,smC5 f=some g→ValidF Tryd.prog gl0 f g:=lookS_ok _ (by simp only[List.mem_cons,List.not_mem_nil,or_false,forall_eq_or_imp,forall_eq];exact ⟨oct_ok,trim18_ok,of_ok⟩)
def dfn16:DFn:=⟨16,(.right (.region [⟨(some 2),.box (.c (.str [])),none,0,0⟩,⟨(some 3),.box (.c (.int .i64 (.ofNat 0))),none,0,0⟩]) (.left (.here [⟨(some 4),.mkfn (.func 36) [] [(.t 2),(.t 3)],none,0,0⟩] (.t 4)) (.seq (.region [⟨(some 5),.mv (.t 0),none,0,0⟩,⟨(some 6),.call (.t 5) [],none,0,0⟩,⟨none,.st 1 (.t 2) (.t 6),none,0,0⟩,⟨none,.st 1 (.t 3) (.c (.int .i64 (.ofNat 0))),none,0,0⟩]) .ret))),[(.cell 2 false 1),(.cell 3 false 1)],⟨36,6,[⟨(some 7),.conv (.tasOk 82 (.agg [])) (.t 6),none,0,0⟩,⟨(some 5),.mv (.t 7),none,0,0⟩,⟨(some 8),.ext (.t 5) 0,none,0,0⟩,⟨(some 9),.ext (.t 5) 1,none,0,0⟩,⟨(some 2),.box (.c (.agg [])),none,0,0⟩,⟨none,.st 0 (.t 2) (.t 8),none,0,0⟩,⟨(some 3),.mv (.t 9),none,0,0⟩],(.seq (.region [⟨(some 10),.mv (.t 3),none,0,0⟩]) (.cond (.t 10) (.seq (.region [⟨(some 4),.mv (.c (.str [])),none,0,0⟩]) (.region [⟨(some 11),.mv (.t 4),none,0,0⟩,⟨none,.st 1 (.t 0) (.t 11),none,0,0⟩,⟨none,.st 1 (.t 1) (.c (.int .i64 (.ofNat 2))),none,0,0⟩])) .skip))⟩⟩
def dfn29:DFn:=⟨29,(.right (.region [⟨(some 2),.box (.c (.agg [.mpn,.mpn])),none,0,0⟩,⟨(some 3),.box (.c (.int .i64 (.ofNat 0))),none,0,0⟩]) (.left (.here [⟨(some 4),.mkfn (.func 49) [] [(.t 2),(.t 3)],none,0,0⟩] (.t 4)) (.seq (.region [⟨(some 5),.mv (.t 0),none,0,0⟩,⟨(some 6),.call (.t 5) [],none,0,0⟩,⟨none,.st 2 (.t 2) (.t 6),none,0,0⟩,⟨none,.st 1 (.t 3) (.c (.int .i64 (.ofNat 0))),none,0,0⟩]) .ret))),[(.cell 2 true 2),(.cell 3 false 1)],⟨49,6,[⟨(some 7),.conv (.tasOk 82 (.agg [])) (.t 6),none,0,0⟩,⟨(some 5),.mv (.t 7),none,0,0⟩,⟨(some 8),.ext (.t 5) 0,none,0,0⟩,⟨(some 9),.ext (.t 5) 1,none,0,0⟩,⟨(some 2),.box (.c (.agg [])),none,0,0⟩,⟨none,.st 0 (.t 2) (.t 8),none,0,0⟩,⟨(some 3),.mv (.t 9),none,0,0⟩],(.seq (.region [⟨(some 10),.mv (.t 3),none,0,0⟩]) (.cond (.t 10) (.seq (.region [⟨(some 4),.box (.c (.agg [.mpn,.mpn])),none,0,0⟩]) (.region [⟨(some 11),.ld true 2 (.t 4),none,0,0⟩,⟨none,.st 2 (.t 0) (.t 11),none,0,0⟩,⟨none,.st 1 (.t 1) (.c (.int .i64 (.ofNat 2))),none,0,0⟩])) .skip))⟩⟩
theorem dfn16_eq:dfnOf Tryd.prog 16 36=some dfn16:=by kernel_rfl
theorem dfn29_eq:dfnOf Tryd.prog 29 49=some dfn29:=by kernel_rfl
noncomputable def cTr16 (hv:Nat→Option Pa) (hb:Nat→Option Bool):Con:=cInl (e18 smC5 (fun _=>none) hv hb) 1000 dfn16
theorem tr16_ok (hv:Nat→Option Pa) (hb:Nat→Option Bool):ValidF Tryd.prog gl0 16 (cTr16 hv hb):=inl_ok dfn16_eq (enters_of (by kernel_rfl)) (envFor18 smC5_ok _ _ _) gl0_noY
noncomputable def smI (hv:Nat→Option Pa) (hb:Nat→Option Bool):SM:=lookS [(16,cTr16 hv hb)]
theorem smI_ok (hv:Nat→Option Pa) (hb:Nat→Option Bool):∀f g,smI hv hb f=some g→ValidF Tryd.prog gl0 f g:=lookS_ok _ (by simp only[List.mem_cons,List.not_mem_nil,or_false,forall_eq_or_imp,forall_eq];exact tr16_ok hv hb)
noncomputable def goal_7 (hv:Nat→Option Pa) (hb:Nat→Option Bool) (m:List UInt8) (r:Int) (Q:Out→List Blk→Gh→Prop):Prop:=
 callx (e18 (smI hv hb) (fun _=>none) hv hb) (wpx (e18 (smI hv hb) (fun _=>none) hv hb) 1000) 7 [.str m,.int .i64 r] [] {} Q
theorem vc_7 (m:List UInt8) (r:Int) (Q:Out→List Blk→Gh→Prop):goal_7 (lookV []) (lookB []) m r Q=(
((true=true) ∧
 (bif (okRndM m r) then (∀o_0:(List UInt8),((Lf (o_0=(ofSM m (Int.toNat r)))) →
((true=true) ∧
 (Q (Out.ret (AV.tup ((AV.str o_0)::((AV.int .i64 (0:Int))::[])))) [] (Gh.mk (0:Nat) (0:Nat) [])))))
else ((true=true) ∧
 (Q (Out.ret (AV.tup ((AV.str [])::((AV.int .i64 (2:Int))::[])))) [] (Gh.mk (0:Nat) (0:Nat) [])))))):=by kernel_rfl

noncomputable def goal_8 (hv:Nat→Option Pa) (hb:Nat→Option Bool) (m c l:List UInt8) (n:Int) (Q:Out→List Blk→Gh→Prop):Prop:=
 callx (e18 (smI hv hb) (fun _=>none) hv hb) (wpx (e18 (smI hv hb) (fun _=>none) hv hb) 1000) 8 [.str m,.str c,.str l,.int .i64 n] [] {} Q
theorem vc_8 (m:List UInt8) (c:List UInt8) (l:List UInt8) (n:Int) (Q:Out→List Blk→Gh→Prop):goal_8 (lookV [(77840,.int .i64)]) (lookB []) m c l n Q=(
((true=true) ∧
 ((Lf (((have y:=
  have y:=
   have y:=[(54:UInt8),(55:UInt8),(56:UInt8),(57:UInt8),(32:UInt8)];
   (49:UInt8)::(50:UInt8)::(51:UInt8)::(52:UInt8)::(53:UInt8)::y;
  have y:=(119:UInt8)::(120:UInt8)::(121:UInt8)::(122:UInt8)::(48:UInt8)::y;
  (115:UInt8)::(116:UInt8)::(117:UInt8)::(118:UInt8)::y;
have y:=
 have y:=(110:UInt8)::(111:UInt8)::(112:UInt8)::(113:UInt8)::(114:UInt8)::y;
 (106:UInt8)::(107:UInt8)::(108:UInt8)::(109:UInt8)::y;
have y:=(101:UInt8)::(102:UInt8)::(103:UInt8)::(104:UInt8)::(105:UInt8)::y;
(97:UInt8)::(98:UInt8)::(99:UInt8)::(100:UInt8)::y)=cutB) ∧
 ((List.length l)≤(9223372036854775807:Nat)))) ∧
 (∀x_0:(List UInt8),((Lf (x_0=(trimM l))) →
(bif (!(eqB l [])) then (bif (eqB x_0 []) then (∃n_1:Int,(((AV.int .i64 (Nat.cast (List.length l):Int))=(AV.int .i64 n_1)) ∧
 (bif (decide (n_1≤(24:Int))) then ((Lf ((List.length l)≤(4000:Nat))) ∧
 (bif (okOctM m c n) then (∀o_2:(List UInt8),((Lf (o_2=(octSM m c l n))) →
((true=true) ∧
 (Q (Out.ret (AV.tup ((AV.str o_2)::((AV.int .i64 (0:Int))::[])))) [] (Gh.mk (0:Nat) (0:Nat) [])))))
else ((true=true) ∧
 (Q (Out.ret (AV.tup ((AV.str [])::((AV.int .i64 (2:Int))::[])))) [] (Gh.mk (0:Nat) (0:Nat) [])))))
else ((true=true) ∧
 (Q (Out.ret (AV.tup ((AV.str [])::((AV.int .i64 (2:Int))::[])))) [] (Gh.mk (0:Nat) (0:Nat) []))))))
else ((true=true) ∧
 (Q (Out.ret (AV.tup ((AV.str [])::((AV.int .i64 (2:Int))::[])))) [] (Gh.mk (0:Nat) (0:Nat) []))))
else ((true=true) ∧
 (Q (Out.ret (AV.tup ((AV.str [])::((AV.int .i64 (2:Int))::[])))) [] (Gh.mk (0:Nat) (0:Nat) []))))))))):=by kernel_rfl

end Go.Proofs.YtjenieljapmehaaDoor
