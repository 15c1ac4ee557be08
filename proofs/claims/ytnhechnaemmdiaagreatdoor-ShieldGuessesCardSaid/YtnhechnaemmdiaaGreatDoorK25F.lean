/-
  Chapter 25: guesses.
-/
import Derived.Test.YtnhechnaemmdiaaGreatDoorK25D
set_option linter.unusedSimpArgs false
set_option linter.unusedVariables false
set_option linter.unusedSectionVars false
namespace Go.Proofs.YtnhechnaemmdiaaGreatDoor
open Go.RowKit
set_option maxRecDepth 1000000

def aheadM (x y:Int):Int:=if (x-y)%65536<32768 then (x-y)%65536 else (x-y)%65536-65536
noncomputable def goal_112 (hv:Nat→Option Pa) (hb:Nat→Option Bool) (x y:Int) (Q:Out→List Blk→Gh→Prop):Prop:=
 callx (e04 sm0 (fun _=>none) hv hb) (wpx (e04 sm0 (fun _=>none) hv hb) 1000) 112 [.int .i64 x,.int .i64 y,.int .i64 16] [] {} Q
theorem vc_112 (x:Int) (y:Int) (Q:Out→List Blk→Gh→Prop):goal_112 (lookV [(458774,.int .i64),(458784,.int .i64),(458789,.int .i64),(458793,.int .i64),(458797,.int .i64),(458802,.int .i64)]) (lookB []) x y Q=(bif
 decide (x<0) then Q (.ret (.tup [.int .i64 0,.int .i64 2])) [] {} else exI .i64 (Int.fdiv x 65536) fun n_0=>bif n_0 !=0 then Q (.ret (.tup [.int .i64 0,.int .i64 2])) [] {} else bif decide (y<0) then Q (.ret (.tup [.int .i64 0,
 .int .i64 2])) [] {} else exI .i64 (Int.fdiv y 65536) fun n_1=>bif n_1 !=0 then Q (.ret (.tup [.int .i64 0,.int .i64 2])) [] {} else exW .i64 (x-y) fun n_2=>exW .i64 (((n_2%18446744073709551616).toNat &&& 65535:Nat):Int) fun
 n_3=>exI .i64 (Int.fdiv n_3 32768) fun n_4=>bif n_4==1 then exW .i64 (n_3-65536) fun n_5=>Q (.ret (.tup [.int .i64 n_5,.int .i64 0])) [] {} else Q (.ret (.tup [.int .i64 n_3,.int .i64 0])) [] {}):=by kernel_rfl

noncomputable def goal_113 (hv:Nat→Option Pa) (hb:Nat→Option Bool) (x y:Int) (Q:Out→List Blk→Gh→Prop):Prop:=
 callx (e04 sm0 (fun _=>none) hv hb) (wpx (e04 sm0 (fun _=>none) hv hb) 1000) 113 [.int .i64 x,.int .i64 y,.int .i64 16] [] {} Q
theorem vc_113 (x:Int) (y:Int) (Q:Out→List Blk→Gh→Prop):goal_113 (lookV [(462858,.int .i64),(462868,.int .i64),(462877,.int .i64)]) (lookB []) x y Q=(
(∃n_0:Int,(((AV.int .i64 (IntKind.wrap .i64 (x-y)))=(AV.int .i64 n_0)) ∧
 (bif (decide (n_0<(- (32768:Int)))) then (∃n_1:Int,(((AV.int .i64 (IntKind.wrap .i64 (n_0+(65536:Int))))=(AV.int .i64 n_1)) ∧
 (bif (decide (n_1≥(32768:Int))) then (∃n_2:Int,(((AV.int .i64 (IntKind.wrap .i64 (n_1-(65536:Int))))=(AV.int .i64 n_2)) ∧
 (Q (Out.ret (AV.int .i64 n_2)) [] (Gh.mk (0:Nat) (0:Nat) []))))
else (Q (Out.ret (AV.int .i64 n_1)) [] (Gh.mk (0:Nat) (0:Nat) [])))))
else (bif (decide (n_0≥(32768:Int))) then (∃n_1:Int,(((AV.int .i64 (IntKind.wrap .i64 (n_0-(65536:Int))))=(AV.int .i64 n_1)) ∧
 (Q (Out.ret (AV.int .i64 n_1)) [] (Gh.mk (0:Nat) (0:Nat) []))))
else (Q (Out.ret (AV.int .i64 n_0)) [] (Gh.mk (0:Nat) (0:Nat) []))))))):=by kernel_rfl

theorem and16 (d:Int):(((Int.toNat (d%18446744073709551616) &&& 65535:Nat)):Int)=d%65536:=by
 rw[show (65535:Nat)=2^16-1 from rfl,Nat.and_two_pow_sub_one_eq_mod]
 omega
theorem fdivP (n:Int) (k:Int) (hk:0≤k):Int.fdiv n k=n/k:=Int.fdiv_eq_ediv_of_nonneg n hk
theorem ahead_run (x y:Int) (hx:0≤x∧x≤65535) (hy:0≤y∧y≤65535) (Q:Out→List Blk→Gh→Prop) (hq:Q (.ret (.tup [.int .i64 (aheadM x y),.int .i64 0])) [] {}):∃hv hb,goal_112 hv hb x y Q:=by
 obtain ⟨hv,hb',e⟩:∃hv hb,goal_112 hv hb x y Q=_:=⟨_,_,vc_112 x y Q⟩
 refine ⟨hv,hb',e.mpr ?_⟩
 clear e
 rw[fdivP x _ (by omega),fdivP y _ (by omega)]
 refine splitD (fun h=>by omega) (fun _=>⟨_,rfl,splitNE (fun h=>by omega) (fun _=>splitD (fun h=>by omega) (fun _=>⟨_,rfl,splitNE (fun h=>by omega) (fun _=>wrapI (by omega) (by omega) ?_)⟩))⟩)
 rw[and16]
 refine wrapI (by omega) (by omega) ⟨_,rfl, ?_⟩
 rw[fdivP _ _ (by omega)]
 unfold aheadM at hq
 refine splitE (fun h=>wrapI (by omega) (by omega) ?_) (fun h => ?_)
 ·rwa [if_neg (by omega)] at hq
 ·rwa [if_pos (by omega)] at hq
theorem rahead_run (x y:Int) (hx:0≤x∧x≤65535) (hy:0≤y∧y≤65535) (Q:Out→List Blk→Gh→Prop) (hq:Q (.ret (.int .i64 (aheadM x y))) [] {}):∃hv hb,goal_113 hv hb x y Q:=by
 obtain ⟨hv,hb',e⟩:∃hv hb,goal_113 hv hb x y Q=_:=⟨_,_,vc_113 x y Q⟩
 refine ⟨hv,hb',e.mpr ?_⟩
 clear e
 have key:∀z:Int,z=aheadM x y→Q (.ret (.int .i64 z)) [] {}:=fun z hz=>by rw[hz];exact hq
 refine wrapI (by omega) (by omega) (splitD (fun h1=>wrapI (by omega) (by omega) (splitD (fun h2=>by omega) (fun h2=>key _ ?_))) (fun h1=>splitD (fun h2=>wrapI (by omega) (by omega) (key _ ?_)) (fun h2=>key _ ?_)))
 all_goals (unfold aheadM;split<;>omega)
def cAhead:Con
 | [.int .i64 x,.int .i64 y,.int .i64 b],H,K=>Lf (b=16∧(0≤x∧x≤65535)∧0≤y∧y≤65535)∧∀z:Int,Lf (z=aheadM x y)→K (.ret (.tup [.int .i64 z,.int .i64 0])) H
 | _,_,_=>False
def cRAhead:Con
 | [.int .i64 x,.int .i64 y,.int .i64 b],H,K=>Lf (b=16∧(0≤x∧x≤65535)∧0≤y∧y≤65535)∧∀z:Int,Lf (z=aheadM x y)→K (.ret (.int .i64 z)) H
 | _,_,_=>False
theorem ahead_ok:ValidF Tryz.prog gl0 112 cAhead:=by
 refine valid_flat (enters_of (by kernel_rfl)) gl0_noY fun args H Q hc => ?_
 unfold cAhead at hc
 split at hc
 ·rename_i x y b
  obtain ⟨⟨rfl,h1,h2⟩,hq⟩:=hc
  obtain ⟨hv,hb',h⟩:=ahead_run x y h1 h2 (Q:=fun o H' _=>H'=[]∧(∃v,o=.ret v∧old 0 v=true∧noY v=true)∧Q o H) ⟨rfl,⟨_,rfl,rfl,rfl⟩,hq _ ⟨rfl⟩⟩
  exact ⟨rfl,rfl,_,1000,envFor04 sm0_ok _ _ _,rfl,h⟩
 ·exact hc.elim
theorem rahead_ok:ValidF Tryz.prog gl0 113 cRAhead:=by
 refine valid_flat (enters_of (by kernel_rfl)) gl0_noY fun args H Q hc => ?_
 unfold cRAhead at hc
 split at hc
 ·rename_i x y b
  obtain ⟨⟨rfl,h1,h2⟩,hq⟩:=hc
  obtain ⟨hv,hb',h⟩:=rahead_run x y h1 h2 (Q:=fun o H' _=>H'=[]∧(∃v,o=.ret v∧old 0 v=true∧noY v=true)∧Q o H) ⟨rfl,⟨_,rfl,rfl,rfl⟩,hq _ ⟨rfl⟩⟩
  exact ⟨rfl,rfl,_,1000,envFor04 sm0_ok _ _ _,rfl,h⟩
 ·exact hc.elim
def guessM (t q:Int):Int:=if t<0 then q else if t+aheadM q (t%65536)<0 then t+aheadM q (t%65536)+65536 else t+aheadM q (t%65536)
def smGu:SM:=lookS [(112,cAhead),(113,cRAhead)]
theorem smGu_ok:∀f g,smGu f=some g→ValidF Tryz.prog gl0 f g:=lookS_ok _ (by simp only[List.mem_cons,List.not_mem_nil,or_false,forall_eq_or_imp,forall_eq];exact ⟨ahead_ok,rahead_ok⟩)
noncomputable def goal_59 (hv:Nat→Option Pa) (hb:Nat→Option Bool) (t q:Int) (Q:Out→List Blk→Gh→Prop):Prop:=
 callx (e04 smGu (fun _=>none) hv hb) (wpx (e04 smGu (fun _=>none) hv hb) 1000) 59 [.int .i64 t,.int .i64 q] [] {} Q
theorem vc_59 (t:Int) (q:Int) (Q:Out→List Blk→Gh→Prop):goal_59 (lookV [(241677,.int .i64),(241683,.int .i64),(241687,.int .i64),(241688,.int .i64),(241691,.int .i64)]) (lookB []) t q Q=(
(bif (decide (t<(0:Int))) then (Q (Out.ret (AV.int .i64 q)) [] (Gh.mk (0:Nat) (0:Nat) []))
else (∃n_0:Int,(((AV.int .i64 (IntKind.wrap .i64 (Nat.cast ((Int.toNat (t%(18446744073709551616:Int))) &&& (65535:Nat)):Int)))=(AV.int .i64 n_0)) ∧
 ((Lf (((16:Int)=(16:Int)) ∧
 ((((0:Int)≤q) ∧
 (q≤(65535:Int))) ∧
 (((0:Int)≤n_0) ∧
 (n_0≤(65535:Int)))))) ∧
 (∀z_1:Int,((Lf (z_1=(aheadM q n_0))) →
(∃n_2:Int,(((AV.int .i64 (IntKind.wrap .i64 (t+z_1)))=(AV.int .i64 n_2)) ∧
 (bif (decide (n_2<(0:Int))) then (∃n_3:Int,(((AV.int .i64 (IntKind.wrap .i64 (t+z_1)))=(AV.int .i64 n_3)) ∧
 (∃n_4:Int,(((AV.int .i64 (IntKind.wrap .i64 (n_3+(65536:Int))))=(AV.int .i64 n_4)) ∧
 (Q (Out.ret (AV.int .i64 n_4)) [] (Gh.mk (0:Nat) (0:Nat) []))))))
else (∃n_3:Int,(((AV.int .i64 (IntKind.wrap .i64 (t+z_1)))=(AV.int .i64 n_3)) ∧
 (Q (Out.ret (AV.int .i64 n_3)) [] (Gh.mk (0:Nat) (0:Nat) [])))))))))))))):=by kernel_rfl

noncomputable def goal_60 (hv:Nat→Option Pa) (hb:Nat→Option Bool) (t q:Int) (Q:Out→List Blk→Gh→Prop):Prop:=
 callx (e04 smGu (fun _=>none) hv hb) (wpx (e04 smGu (fun _=>none) hv hb) 1000) 60 [.int .i64 t,.int .i64 q] [] {} Q
theorem vc_60 (t:Int) (q:Int) (Q:Out→List Blk→Gh→Prop):goal_60 (lookV [(245772,.int .i64),(245774,.int .i64),(245778,.int .i64)]) (lookB []) t q Q=(
(bif (t==(- (1:Int))) then (Q (Out.ret (AV.int .i64 q)) [] (Gh.mk (0:Nat) (0:Nat) []))
else (∃n_0:Int,(((AV.int .i64 (Int.tmod t (65536:Int)))=(AV.int .i64 n_0)) ∧
 ((Lf (((16:Int)=(16:Int)) ∧
 ((((0:Int)≤q) ∧
 (q≤(65535:Int))) ∧
 (((0:Int)≤n_0) ∧
 (n_0≤(65535:Int)))))) ∧
 (∀z_1:Int,((Lf (z_1=(aheadM q n_0))) →
(∃n_2:Int,(((AV.int .i64 (IntKind.wrap .i64 (t+z_1)))=(AV.int .i64 n_2)) ∧
 (bif (decide (n_2<(0:Int))) then (∃n_3:Int,(((AV.int .i64 (IntKind.wrap .i64 (n_2+(65536:Int))))=(AV.int .i64 n_3)) ∧
 (Q (Out.ret (AV.int .i64 n_3)) [] (Gh.mk (0:Nat) (0:Nat) []))))
else (Q (Out.ret (AV.int .i64 n_2)) [] (Gh.mk (0:Nat) (0:Nat) [])))))))))))):=by kernel_rfl

theorem ahead_in (x y:Int) : -32768≤aheadM x y∧aheadM x y<32768:=by unfold aheadM;split<;>omega
theorem guess_run (t q:Int) (ht : -9223372036854000000≤t∧t≤9223372036854000000) (hx:0≤q∧q≤65535) (Q:Out→List Blk→Gh→Prop) (hq:Q (.ret (.int .i64 (guessM t q))) [] {}):∃hv hb,goal_59 hv hb t q Q:=by
 obtain ⟨hv,hb',e⟩:∃hv hb,goal_59 hv hb t q Q=_:=⟨_,_,vc_59 t q Q⟩
 refine ⟨hv,hb',e.mpr ?_⟩
 clear e
 have key:∀z:Int,z=guessM t q→Q (.ret (.int .i64 z)) [] {}:=fun z hz=>by rw[hz];exact hq
 refine splitD (fun h1=>key _ (by rw[guessM,if_pos h1])) (fun h1 => ?_)
 rw[and16]
 refine wrapI (by omega) (by omega) ⟨⟨rfl,hx,by omega,by omega⟩, ?_⟩
 rintro z ⟨rfl⟩
 have ha:=ahead_in q (t%65536)
 refine wrapI (by omega) (by omega) (splitD (fun h2=>wrapI (by omega) (by omega) (wrapI (by omega) (by omega) (key _ ?_))) (fun h2=>wrapI (by omega) (by omega) (key _ ?_)))
 ·rw[guessM,if_neg h1,if_pos h2]
 ·rw[guessM,if_neg h1,if_neg h2]
theorem rguess_run (t q:Int) (ht : -1≤t∧t≤9223372036854000000) (hx:0≤q∧q≤65535) (Q:Out→List Blk→Gh→Prop) (hq:Q (.ret (.int .i64 (guessM t q))) [] {}):∃hv hb,goal_60 hv hb t q Q:=by
 obtain ⟨hv,hb',e⟩:∃hv hb,goal_60 hv hb t q Q=_:=⟨_,_,vc_60 t q Q⟩
 refine ⟨hv,hb',e.mpr ?_⟩
 clear e
 have key:∀z:Int,z=guessM t q→Q (.ret (.int .i64 z)) [] {}:=fun z hz=>by rw[hz];exact hq
 refine splitE (fun h1=>key _ (by rw[guessM,if_pos (by omega)])) (fun h1=>⟨_,rfl, ?_⟩)
 rw[Int.tmod_eq_emod_of_nonneg (by omega:0≤t)]
 refine ⟨⟨rfl,hx,by omega,by omega⟩, ?_⟩
 rintro z ⟨rfl⟩
 have ha:=ahead_in q (t%65536)
 refine wrapI (by omega) (by omega) (splitD (fun h2=>wrapI (by omega) (by omega) (key _ ?_)) (fun h2=>key _ ?_))
 ·rw[guessM,if_neg (by omega),if_pos h2]
 ·rw[guessM,if_neg (by omega),if_neg h2]
def cGuess0:Con
 | [.int .i64 t,.int .i64 q],H,K=>Lf ((-1≤t∧t≤9223372036854000000)∧0≤q∧q≤65535)∧∀z:Int,Lf (z=guessM t q)→K (.ret (.int .i64 z)) H
 | _,_,_=>False
theorem guess0_ok:ValidF Tryz.prog gl0 59 cGuess0:=by
 refine valid_flat (enters_of (by kernel_rfl)) gl0_noY fun args H Q hc => ?_
 unfold cGuess0 at hc
 split at hc
 ·rename_i t q
  obtain ⟨⟨h1,h2⟩,hq⟩:=hc
  obtain ⟨hv,hb',h⟩:=guess_run t q ⟨by omega,h1.2⟩ h2 (Q:=fun o H' _=>H'=[]∧(∃v,o=.ret v∧old 0 v=true∧noY v=true)∧Q o H) ⟨rfl,⟨_,rfl,rfl,rfl⟩,hq _ ⟨rfl⟩⟩
  exact ⟨rfl,rfl,_,1000,envFor04 smGu_ok _ _ _,rfl,h⟩
 ·exact hc.elim
theorem rguess0_ok:ValidF Tryz.prog gl0 60 cGuess0:=by
 refine valid_flat (enters_of (by kernel_rfl)) gl0_noY fun args H Q hc => ?_
 unfold cGuess0 at hc
 split at hc
 ·rename_i t q
  obtain ⟨⟨h1,h2⟩,hq⟩:=hc
  obtain ⟨hv,hb',h⟩:=rguess_run t q h1 h2 (Q:=fun o H' _=>H'=[]∧(∃v,o=.ret v∧old 0 v=true∧noY v=true)∧Q o H) ⟨rfl,⟨_,rfl,rfl,rfl⟩,hq _ ⟨rfl⟩⟩
  exact ⟨rfl,rfl,_,1000,envFor04 smGu_ok _ _ _,rfl,h⟩
 ·exact hc.elim
def guessEM (t q:Int):Int×Int:=if (-1≤t∧t≤281474976710655)∧0≤q∧q≤65535 then (guessM t q,0) else (0,2)
def smG2:SM:=lookS [(52,cWithin),(59,cGuess0),(60,cGuess0)]
theorem smG2_ok:∀f g,smG2 f=some g→ValidF Tryz.prog gl0 f g:=lookS_ok _ (by simp only[List.mem_cons,List.not_mem_nil,or_false,forall_eq_or_imp,forall_eq];exact ⟨within_ok,guess0_ok,rguess0_ok⟩)
noncomputable def goal_g18 (hv:Nat→Option Pa) (hb:Nat→Option Bool) (t q:Int) (Q:Out→List Blk→Gh→Prop):Prop:=
 callx (e04 smG2 (fun _=>none) hv hb) (wpx (e04 smG2 (fun _=>none) hv hb) 1000) 18 [.int .i64 t,.int .i64 q] [] {} Q
theorem vc_g18 (t:Int) (q:Int) (Q:Out→List Blk→Gh→Prop):goal_g18 (lookV []) (lookB []) t q Q=(
(bif ((decide ((- (1:Int))≤t))&&(decide (t≤(281474976710655:Int)))) then (bif ((decide ((0:Int)≤q))&&(decide (q≤(65535:Int)))) then ((Lf ((((- (1:Int))≤t) ∧
 (t≤(9223372036854000000:Int))) ∧
 (((0:Int)≤q) ∧
 (q≤(65535:Int))))) ∧
 (∀z_0:Int,((Lf (z_0=(guessM t q))) →
(Q (Out.ret (AV.tup ((AV.int .i64 z_0)::((AV.int .i64 (0:Int))::[])))) [] (Gh.mk (0:Nat) (0:Nat) [])))))
else (Q (Out.ret (AV.tup ((AV.int .i64 (0:Int))::((AV.int .i64 (2:Int))::[])))) [] (Gh.mk (0:Nat) (0:Nat) [])))
else (Q (Out.ret (AV.tup ((AV.int .i64 (0:Int))::((AV.int .i64 (2:Int))::[])))) [] (Gh.mk (0:Nat) (0:Nat) [])))):=by kernel_rfl

noncomputable def goal_g19 (hv:Nat→Option Pa) (hb:Nat→Option Bool) (t q:Int) (Q:Out→List Blk→Gh→Prop):Prop:=
 callx (e04 smG2 (fun _=>none) hv hb) (wpx (e04 smG2 (fun _=>none) hv hb) 1000) 19 [.int .i64 t,.int .i64 q] [] {} Q
theorem vc_g19 (t:Int) (q:Int) (Q:Out→List Blk→Gh→Prop):goal_g19 (lookV []) (lookB []) t q Q=(
(bif (decide (t<(- (1:Int)))) then (Q (Out.ret (AV.tup ((AV.int .i64 (0:Int))::((AV.int .i64 (2:Int))::[])))) [] (Gh.mk (0:Nat) (0:Nat) []))
else (bif (decide (t>(281474976710655:Int))) then (Q (Out.ret (AV.tup ((AV.int .i64 (0:Int))::((AV.int .i64 (2:Int))::[])))) [] (Gh.mk (0:Nat) (0:Nat) []))
else (bif (decide (q<(0:Int))) then (Q (Out.ret (AV.tup ((AV.int .i64 (0:Int))::((AV.int .i64 (2:Int))::[])))) [] (Gh.mk (0:Nat) (0:Nat) []))
else (bif (decide (q>(65535:Int))) then (Q (Out.ret (AV.tup ((AV.int .i64 (0:Int))::((AV.int .i64 (2:Int))::[])))) [] (Gh.mk (0:Nat) (0:Nat) []))
else ((Lf ((((- (1:Int))≤t) ∧
 (t≤(9223372036854000000:Int))) ∧
 (((0:Int)≤q) ∧
 (q≤(65535:Int))))) ∧
 (∀z_0:Int,((Lf (z_0=(guessM t q))) →
(Q (Out.ret (AV.tup ((AV.int .i64 z_0)::((AV.int .i64 (0:Int))::[])))) [] (Gh.mk (0:Nat) (0:Nat) [])))))))))):=by kernel_rfl

theorem guess18_run (t q:Int) (Q:Out→List Blk→Gh→Prop) (hq:Q (.ret (.tup [.int .i64 (guessEM t q).1,.int .i64 (guessEM t q).2])) [] {}):∃hv hb,goal_g18 hv hb t q Q:=by
 obtain ⟨hv,hb',e⟩:∃hv hb,goal_g18 hv hb t q Q=_:=⟨_,_,vc_g18 t q Q⟩
 refine ⟨hv,hb',e.mpr ?_⟩
 clear e
 have bad:¬ ((-1≤t∧t≤281474976710655)∧0≤q∧q≤65535)→Q (.ret (.tup [.int .i64 0,.int .i64 2])) [] {}:=fun h=>by rwa [guessEM,if_neg h] at hq
 cases h1:decide (-1≤t)&&decide (t≤281474976710655)
 ·rw[Bool.and_eq_false_iff,decide_eq_false_iff_not,decide_eq_false_iff_not] at h1
  exact bad (by omega)
 ·rw[Bool.and_eq_true,decide_eq_true_eq,decide_eq_true_eq] at h1
  rw[cond_true]
  cases h2:decide (0≤q)&&decide (q≤65535)
  ·rw[Bool.and_eq_false_iff,decide_eq_false_iff_not,decide_eq_false_iff_not] at h2
   exact bad (by omega)
  ·rw[Bool.and_eq_true,decide_eq_true_eq,decide_eq_true_eq] at h2
   rw[cond_true]
   refine ⟨⟨by omega,by omega⟩, ?_⟩
   rintro z ⟨rfl⟩
   rwa [guessEM,if_pos ⟨h1,h2⟩] at hq
theorem guess19_run (t q:Int) (Q:Out→List Blk→Gh→Prop) (hq:Q (.ret (.tup [.int .i64 (guessEM t q).1,.int .i64 (guessEM t q).2])) [] {}):∃hv hb,goal_g19 hv hb t q Q:=by
 obtain ⟨hv,hb',e⟩:∃hv hb,goal_g19 hv hb t q Q=_:=⟨_,_,vc_g19 t q Q⟩
 refine ⟨hv,hb',e.mpr ?_⟩
 clear e
 have bad:¬ ((-1≤t∧t≤281474976710655)∧0≤q∧q≤65535)→Q (.ret (.tup [.int .i64 0,.int .i64 2])) [] {}:=fun h=>by rwa [guessEM,if_neg h] at hq
 refine splitD (fun h=>bad (by omega)) (fun h1=>splitD (fun h=>bad (by omega)) (fun h2=>splitD (fun h=>bad (by omega)) (fun h3=>splitD (fun h=>bad (by omega)) (fun h4=>⟨⟨by omega,by omega⟩, ?_⟩))))
 rintro z ⟨rfl⟩
 rwa [guessEM,if_pos ⟨by omega,by omega⟩] at hq
def cGuess:Con
 | [.int .i64 t,.int .i64 q],H,K=>∀z e:Int,Lf (guessEM t q=(z,e))→K (.ret (.tup [.int .i64 z,.int .i64 e])) H
 | _,_,_=>False
theorem guess18_ok:ValidF Tryz.prog gl0 18 cGuess:=by
 refine valid_flat (enters_of (by kernel_rfl)) gl0_noY fun args H Q hc => ?_
 unfold cGuess at hc
 split at hc
 ·rename_i t q
  obtain ⟨hv,hb',h⟩:=guess18_run t q (Q:=fun o H' _=>H'=[]∧(∃v,o=.ret v∧old 0 v=true∧noY v=true)∧Q o H) ⟨rfl,⟨_,rfl,rfl,rfl⟩,hc _ _ ⟨rfl⟩⟩
  exact ⟨rfl,rfl,_,1000,envFor04 smG2_ok _ _ _,rfl,h⟩
 ·exact hc.elim
theorem guess19_ok:ValidF Tryz.prog gl0 19 cGuess:=by
 refine valid_flat (enters_of (by kernel_rfl)) gl0_noY fun args H Q hc => ?_
 unfold cGuess at hc
 split at hc
 ·rename_i t q
  obtain ⟨hv,hb',h⟩:=guess19_run t q (Q:=fun o H' _=>H'=[]∧(∃v,o=.ret v∧old 0 v=true∧noY v=true)∧Q o H) ⟨rfl,⟨_,rfl,rfl,rfl⟩,hc _ _ ⟨rfl⟩⟩
  exact ⟨rfl,rfl,_,1000,envFor04 smG2_ok _ _ _,rfl,h⟩
 ·exact hc.elim
end Go.Proofs.YtnhechnaemmdiaaGreatDoor
