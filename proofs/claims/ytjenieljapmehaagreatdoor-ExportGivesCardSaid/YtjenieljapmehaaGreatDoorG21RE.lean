/-
  Chapter 21: the reference's Of, proved; Master, Export, Records, Media: residuals.
-/
import Derived.Test.YtjenieljapmehaaGreatDoorGmI
set_option linter.unusedSimpArgs false
set_option linter.unusedVariables false
set_option linter.unusedSectionVars false
namespace Go.Proofs.YtjenieljapmehaaGreatDoor
open Go.RowKit
set_option maxRecDepth 1000000

theorem ofr_run (sc kc:List AV) (m:List UInt8) (r:Int) (ht:tabO sc kc) (hm:m.length=32) (h0:0≤r) (h1:r≤1000) (Q:Out→List Blk→Gh→Prop) (hq:Q (.ret (.str (ofSM m r.toNat))) [] {}):∃hv hb,goal_m35 hv hb sc kc m r Q:=by
 obtain ⟨hv',hb',e'⟩:∃hv hb,goal_m35 hv hb sc kc m r Q=_:=⟨_,_,vc_m35 sc kc m r Q⟩
 refine ⟨hv',hb',e'.mpr ?_⟩
 clear e'
 refine ⟨⟨0,⟨by omega⟩,rfl,rfl,rfl,rfl,rfl,trivial⟩, ?_⟩
 rintro i ⟨hi⟩
 have hl:=of_len hm i
 refine ⟨_,rfl,splitD (fun h => ?_) (fun h => ?_)⟩
 ·refine ⟨_,rfl,⟨ht,by omega,by simp,by simp,by omega,by omega⟩, ?_⟩
  rintro o ⟨eo⟩
  refine ⟨_,rfl,wrapI (by omega) (by omega) ⟨⟨trivial,rfl⟩,i+1,⟨by omega⟩,by omega,rfl, ?_,rfl,rfl,rfl,trivial⟩⟩
  rw[eo]
  rfl
 ·refine ⟨_,rfl, ?_⟩
  rwa [show r.toNat=i by omega] at hq
def cOfT:Con
 | [.agg [.lst 0 sc 8 1,.lst 0 kc 64 1],.str m,.int .i64 r],H,K=>Lf (tabO sc kc∧m.length=32∧0≤r∧r≤1000)∧∀o,Lf (o=ofSM m r.toNat)→K (.ret (.str o)) H
 | _,_,_=>False
theorem oft_ok:ValidF Tryz.prog gl0 35 cOfT:=by
 refine valid_flat (enters_of (by kernel_rfl)) gl0_noY fun args H Q hc => ?_
 unfold cOfT at hc
 split at hc
 ·rename_i sc kc m r
  obtain ⟨⟨h1,h2,h3,h4⟩,hq⟩:=hc
  obtain ⟨hv,hb',h⟩:=ofr_run sc kc m r h1 h2 h3 h4 (Q:=fun o H' _=>H'=[]∧(∃v,o=.ret v∧old 0 v=true∧noY v=true)∧Q o H) ⟨rfl,⟨_,rfl,rfl,rfl⟩,hq _ ⟨rfl⟩⟩
  have ht:=tab_flat sc kc h1
  exact ⟨by simp only[oldL,ht.1,old,Bool.and_self],by simp only[noYL,ht.2,noY,Bool.and_self],_,1000,envFor18 smE4_ok _ hv hb',rfl,h⟩
 ·exact hc.elim
def smE5:SM:=lookS [(28,cLabR),(29,cOctR),(35,cOfT)]
theorem smE5_ok:∀f g,smE5 f=some g→ValidF Tryz.prog gl0 f g:=lookS_ok _ (by simp only[List.mem_cons,List.not_mem_nil,or_false,forall_eq_or_imp,forall_eq];exact ⟨labr_ok,octr_ok,oft_ok⟩)
noncomputable def goal_m9 (hv:Nat→Option Pa) (hb:Nat→Option Bool) (sc kc:List AV) (m c l:List UInt8) (n:Int) (Q:Out→List Blk→Gh→Prop):Prop:=
 callx (e18 smE5 (fun _=>none) hv hb) (wpx (e18 smE5 (fun _=>none) hv hb) 1000) 9 [.agg [.lst 0 sc 8 1,.lst 0 kc 64 1],.str m,.str c,.str l,.int .i64 n] [] {} Q
theorem vc_m9 (sc:List AV) (kc:List AV) (m:List UInt8) (c:List UInt8) (l:List UInt8) (n:Int) (Q:Out→List Blk→Gh→Prop):goal_m9 (lookV [(36877,.int .i64),(36881,.int .i64)]) (lookB []) sc kc m c l n Q=(exI .i64
 (m.length:Int) fun n_0=>bif n_0 !=32 then Q (.ret (.tup [.str [],.int .i64 2])) [] {} else exI .i64 (c.length:Int) fun n_1=>bif decide (n_1>64) then Q (.ret (.tup [.str [],.int .i64 2])) [] {} else Lf (l.length ≤
 9223372036854775807)∧∀b_2:Bool,Lf (b_2=cLabM l)→bif b_2 then bif decide (n<1) then Q (.ret (.tup [.str [],.int .i64 2])) [] {} else bif decide (n>255) then Q (.ret (.tup [.str [],.int .i64 2])) [] {} else Lf (tabO sc kc ∧
 m.length≤4096∧c.length≤4096∧l.length≤4000∧0≤n∧n≤255)∧∀o_3:List UInt8,Lf (o_3=octSM m c l n)→Q (.ret (.tup [.str o_3,.int .i64 0])) [] {} else Q (.ret (.tup [.str [],.int .i64 2])) [] {}):=by kernel_rfl

end Go.Proofs.YtjenieljapmehaaGreatDoor
