/-
  Chapter 17: windows: Fresh and Mark of the program.
-/
import Derived.Test.YtiholnebhmjbjaaM17CN
set_option linter.unusedSimpArgs false
set_option linter.unusedVariables false
set_option linter.unusedSectionVars false
namespace Go.Proofs.Ytiholnebhmjbjaa
open Go.RowKit
set_option maxRecDepth 1000000

/-- a bit of a window -/
def bitWM (k i:Nat):Bool:=k/2^i%2==1
def okWM (t:Int) (k:Nat):Bool:=(decide (t = -1)&&Nat.beq k 0)||(decide (0≤t)&&decide (t<281474976710656)&&bitWM k 0&&(decide (63≤t)||Nat.beq (k/2^(t.toNat+1)) 0))
def freshWM (t:Int) (k:Nat) (q:Int):Int:=if okWM t k=false then 170 else if q<0∨281474976710656≤q then 2 else if q≤t∧(q≤t-64∨bitWM k (t-q).toNat=true) then 10 else 0
noncomputable def goal_20w (hv:Nat→Option Pa) (hb:Nat→Option Bool) (t:Int) (k:Nat) (q:Int) (Q:Out→List Blk→Gh→Prop):Prop:=
 callx (e04 sm0 (fun _=>none) hv hb) (wpx (e04 sm0 (fun _=>none) hv hb) 1000) 20 [.agg [.int .i64 t,.int .u64 (k:Nat)],.int .i64 q] [] {} Q
def vc_20w_1 (t:Int) (k:Nat) (q:Int) (Q:Out→List Blk→Gh→Prop):Prop:=(
(bif (decide (q≥(0:Int))) then (bif (decide (q≤(281474976710655:Int))) then (∃n_0:Int,(∃n_1:Int,(((AV.agg ((AV.int .i64 t)::((AV.int .u64 (Nat.cast k:Int))::[])))=(AV.agg ((AV.int .i64 n_0)::((AV.int .u64 n_1)::[])))) ∧
 (bif (decide (q>n_0)) then (Q (Out.ret (AV.int .i64 (0:Int))) [] (Gh.mk (0:Nat) (0:Nat) []))
else (∃n_2:Int,(((AV.int .i64 (IntKind.wrap .i64 (n_0-(64:Int))))=(AV.int .i64 n_2)) ∧
 (bif (decide (q>n_2)) then (∃n_3:Int,(((AV.int .i64 (IntKind.wrap .i64 (n_0-q)))=(AV.int .i64 n_3)) ∧
 (bif ((decide ((0:Int)≤n_3))&&true) then (∃n_4:Int,(((AV.int .u64 (Int.fdiv n_1 ((2:Int)^(Min.min (Int.toNat n_3) (64:Nat)))))=(AV.int .u64 n_4)) ∧
 (∃n_5:Int,(((AV.int .u64 (IntKind.wrap .u64 (Nat.cast ((Int.toNat (n_4%(18446744073709551616:Int))) &&& (1:Nat)):Int)))=(AV.int .u64 n_5)) ∧
 (bif (n_5==(0:Int)) then (Q (Out.ret (AV.int .i64 (0:Int))) [] (Gh.mk (0:Nat) (0:Nat) []))
else (Q (Out.ret (AV.int .i64 (10:Int))) [] (Gh.mk (0:Nat) (0:Nat) [])))))))
else False)))
else (Q (Out.ret (AV.int .i64 (10:Int))) [] (Gh.mk (0:Nat) (0:Nat) [])))))))))
else (Q (Out.ret (AV.int .i64 (2:Int))) [] (Gh.mk (0:Nat) (0:Nat) [])))
else (Q (Out.ret (AV.int .i64 (2:Int))) [] (Gh.mk (0:Nat) (0:Nat) []))))
theorem vc_20w (t:Int) (k:Nat) (q:Int) (Q:Out→List Blk→Gh→Prop):goal_20w (lookV [(81926,.agg [(.int .i64),(.int .u64)]),(81934,.agg [(.int .i64),(.int .u64)]),(180236,.int .i64),(180244,.int .i64),(180245,.int .u64),(180246,.int .u64),(172044,.int .u64),(172056,.int .i64),(172057,.int .u64)]) (lookB []) t k q Q=(
(∃n_0:Int,(∃n_1:Int,(((AV.agg ((AV.int .i64 t)::((AV.int .u64 (Nat.cast k:Int))::[])))=(AV.agg ((AV.int .i64 n_0)::((AV.int .u64 n_1)::[])))) ∧
 (bif ((n_0==(- (1:Int)))&&((n_1==(0:Int))&&true)) then (vc_20w_1 t k q Q)
else (bif (decide (n_0≥(0:Int))) then (bif (decide (n_0≤(281474976710655:Int))) then (∃n_2:Int,(((AV.int .u64 (IntKind.wrap .u64 (Nat.cast ((Int.toNat (n_1%(18446744073709551616:Int))) &&& (1:Nat)):Int)))=(AV.int .u64 n_2)) ∧
 (bif (n_2==(1:Int)) then (bif (decide (n_0≥(63:Int))) then (vc_20w_1 t k q Q)
else (∃n_3:Int,(((AV.int .i64 (IntKind.wrap .i64 (n_0+(1:Int))))=(AV.int .i64 n_3)) ∧
 (bif ((decide ((0:Int)≤n_3))&&true) then (∃n_4:Int,(((AV.int .u64 (Int.fdiv n_1 ((2:Int)^(Min.min (Int.toNat n_3) (64:Nat)))))=(AV.int .u64 n_4)) ∧
 (bif (n_4==(0:Int)) then (vc_20w_1 t k q Q)
else (Q (Out.ret (AV.int .i64 (170:Int))) [] (Gh.mk (0:Nat) (0:Nat) [])))))
else False))))
else (Q (Out.ret (AV.int .i64 (170:Int))) [] (Gh.mk (0:Nat) (0:Nat) [])))))
else (Q (Out.ret (AV.int .i64 (170:Int))) [] (Gh.mk (0:Nat) (0:Nat) [])))
else (Q (Out.ret (AV.int .i64 (170:Int))) [] (Gh.mk (0:Nat) (0:Nat) [])))))))):=by kernel_rfl

noncomputable def goal_47w (hv:Nat→Option Pa) (hb:Nat→Option Bool) (t:Int) (k:Nat) (q:Int) (Q:Out→List Blk→Gh→Prop):Prop:=
 callx (e04 sm0 (fun _=>none) hv hb) (wpx (e04 sm0 (fun _=>none) hv hb) 1000) 47 [.agg [.int .i64 t,.int .u64 (k:Nat)],.int .i64 q] [] {} Q
theorem vc_47w (t:Int) (k:Nat) (q:Int) (Q:Out→List Blk→Gh→Prop):goal_47w (lookV [(192522,.int .u64),(192526,.int .i64),(192527,.int .u64),(192528,.int .u64),(192541,.int .i64),(192542,.int .i64),(192543,.int .u64),(192544,.int .u64),(192537,.int .u64)]) (lookB []) t k q Q=(
(bif (decide (q≤t)) then (∃n_0:Int,(((AV.int .u64 (Nat.cast k:Int))=(AV.int .u64 n_0)) ∧
 (∃n_1:Int,(((AV.int .i64 (IntKind.wrap .i64 (t-q)))=(AV.int .i64 n_1)) ∧
 (bif ((decide ((0:Int)≤n_1))&&true) then (∃n_2:Int,(((AV.int .u64 (IntKind.wrap .u64 ((1:Int)*((2:Int)^(Min.min (Int.toNat n_1) (64:Nat))))))=(AV.int .u64 n_2)) ∧
 (∃n_3:Int,(((AV.int .u64 (IntKind.wrap .u64 (Nat.cast ((Int.toNat (n_0%(18446744073709551616:Int))) ||| (Int.toNat (n_2%(18446744073709551616:Int)))):Int)))=(AV.int .u64 n_3)) ∧
 (Q (Out.ret (AV.agg ((AV.int .i64 t)::((AV.int .u64 n_3)::[])))) [] (Gh.mk (0:Nat) (0:Nat) []))))))
else False)))))
else (bif (decide (t<(0:Int))) then (∃n_0:Int,(((AV.int .u64 (0:Int))=(AV.int .u64 n_0)) ∧
 (∃n_1:Int,(((AV.int .i64 (IntKind.wrap .i64 (q-t)))=(AV.int .i64 n_1)) ∧
 (∃n_2:Int,(((AV.int .i64 (imin n_1 (64:Int)))=(AV.int .i64 n_2)) ∧
 (bif ((decide ((0:Int)≤n_2))&&true) then (∃n_3:Int,(((AV.int .u64 (IntKind.wrap .u64 (n_0*((2:Int)^(Min.min (Int.toNat n_2) (64:Nat))))))=(AV.int .u64 n_3)) ∧
 (∃n_4:Int,(((AV.int .u64 (IntKind.wrap .u64 (Nat.cast ((Int.toNat (n_3%(18446744073709551616:Int))) ||| (1:Nat)):Int)))=(AV.int .u64 n_4)) ∧
 (Q (Out.ret (AV.agg ((AV.int .i64 q)::((AV.int .u64 n_4)::[])))) [] (Gh.mk (0:Nat) (0:Nat) []))))))
else False)))))))
else (∃n_0:Int,(((AV.int .u64 (Nat.cast k:Int))=(AV.int .u64 n_0)) ∧
 (∃n_1:Int,(((AV.int .i64 (IntKind.wrap .i64 (q-t)))=(AV.int .i64 n_1)) ∧
 (∃n_2:Int,(((AV.int .i64 (imin n_1 (64:Int)))=(AV.int .i64 n_2)) ∧
 (bif ((decide ((0:Int)≤n_2))&&true) then (∃n_3:Int,(((AV.int .u64 (IntKind.wrap .u64 (n_0*((2:Int)^(Min.min (Int.toNat n_2) (64:Nat))))))=(AV.int .u64 n_3)) ∧
 (∃n_4:Int,(((AV.int .u64 (IntKind.wrap .u64 (Nat.cast ((Int.toNat (n_3%(18446744073709551616:Int))) ||| (1:Nat)):Int)))=(AV.int .u64 n_4)) ∧
 (Q (Out.ret (AV.agg ((AV.int .i64 q)::((AV.int .u64 n_4)::[])))) [] (Gh.mk (0:Nat) (0:Nat) []))))))
else False)))))))))):=by kernel_rfl


theorem and1 (k:Nat):k &&& 1=k%2:=by simp
theorem fdiv2 (k m:Nat):Int.fdiv (k:Int) ((2:Int)^m)=((k/2^m:Nat):Int):=by
 rw[Int.fdiv_eq_ediv_of_nonneg _ (Int.pow_nonneg (by omega))]
 exact_mod_cast (Int.natCast_ediv k (2^m)).symm
theorem aggW {t:Int} {k:Nat} {K:Int→Int→Prop} (h:K t k):∃a b:Int,AV.agg [.int .i64 t,.int .u64 (k:Nat)]=AV.agg [.int .i64 a,.int .u64 b]∧K a b:=⟨_,_,rfl,h⟩
theorem bit0 (k:Nat):bitWM k 0=(k%2==1):=by rw[bitWM,Nat.pow_zero,Nat.div_one]
theorem wrapW {n:Nat} (h:n<18446744073709551616) {K:Int→Prop} (hk:K n):∃m:Int,AV.int .u64 (IntKind.wrap .u64 ((n:Nat):Int))=AV.int .u64 m∧K m:=by
 refine ⟨_, ?_,hk⟩
 congr 1
 show ((n:Int)%18446744073709551616)=_
 omega
theorem fresh_run (t:Int) (k:Nat) (q:Int) (hk:k<18446744073709551616) (ht : -9223372036854775808≤t∧t≤9223372036854775807) (hqr : -9223372036854775808≤q∧q≤9223372036854775807) (Q:Out→List Blk→Gh→Prop)
  (hq:Q (.ret (.int .i64 (freshWM t k q))) [] {}):∃hv hb,goal_20w hv hb t k q Q:=by
 obtain ⟨hv,hb',e⟩:∃hv hb,goal_20w hv hb t k q Q=_:=⟨_,_,vc_20w t k q Q⟩
 refine ⟨hv,hb',e.mpr ?_⟩
 clear e
 have tail:okWM t k=true→vc_20w_1 t k q Q:=fun hok=>by
  rw[freshWM,if_neg (by simp[hok])] at hq
  have htr : -1≤t∧t<281474976710656:=by
   unfold okWM at hok
   simp only[Bool.or_eq_true,Bool.and_eq_true,decide_eq_true_eq] at hok
   omega
  have b0:¬ (q<0∨281474976710656≤q)→Q (.ret (.int .i64 (if q≤t∧(q≤t-64∨bitWM k (t-q).toNat=true) then 10 else 0))) [] {}:=fun h=>by rw[if_neg h] at hq;exact hq
  have b2:(q<0∨281474976710656≤q)→Q (.ret (.int .i64 2)) [] {}:=fun h=>by rw[if_pos h] at hq;exact hq
  unfold vc_20w_1
  refine splitD (fun h1=>splitD (fun h2=>aggW (splitD (fun h3 => ?_) (fun h3=>wrapI (by omega) (by omega) (splitD (fun h4=>wrapI (by omega) (by omega) (ckI (by simp;omega) ?_)) (fun h4 => ?_))))) (fun h=>b2 (by omega))) (fun h=>b2 (by omega))
  ·have:=b0 (by omega)
   rw[if_neg (by omega)] at this
   exact this
  ·rw[show min (Int.toNat (t-q)) 64=(t-q).toNat by omega,fdiv2]
   have hx:=Nat.div_le_self k (2^(t-q).toNat)
   have hb:=b0 (by omega)
   have hbit:bitWM k (t-q).toNat=(k/2^(t-q).toNat%2==1):=rfl
   rw[hbit] at hb
   generalize k/2^(t-q).toNat=x at *
   refine ⟨_,rfl, ?_⟩
   rw[show Int.toNat (((x:Nat):Int)%18446744073709551616)=x by omega,and1]
   refine wrapW (by omega) (splitE (fun h5 => ?_) (fun h5 => ?_))
   ·have hne:¬ (q≤t∧(q≤t-64∨(x%2==1)=true)):=by
     rintro ⟨_,h | h⟩
     ·omega
     ·simp at h;omega
    rw[if_neg hne] at hb
    exact hb
   ·rw[if_pos ⟨by omega,.inr (by simp;omega)⟩] at hb
    exact hb
  ·have:=b0 (by omega)
   rw[if_pos ⟨by omega,.inl (by omega)⟩] at this
   exact this
 have bad:okWM t k=false→Q (.ret (.int .i64 170)) [] {}:=fun h=>by
  rw[freshWM,if_pos h] at hq;exact hq
 refine aggW (splitAnd (splitE (fun h1=>splitAnd (splitE (fun h2=>tail ?_) (fun h2 => ?_))) (fun h1 => ?_)))
 ·obtain rfl:k=0:=by omega
  subst h1
  rfl
 ·subst h1
  exact splitD (fun h=>absurd h (by omega)) (fun _=>bad (by
   rw[okWM,decide_eq_false (by omega:¬ (0:Int) ≤ -1),show Nat.beq k 0=false by cases hb:Nat.beq k 0 with | false=>rfl | true=>exact absurd (Nat.eq_of_beq_eq_true hb) (by omega)]
   simp))
 ·have hf:(decide (t = -1)&&Nat.beq k 0)=false:=by rw[decide_eq_false h1];rfl
  refine splitD (fun h2=>splitD (fun h3 => ?_) (fun h3=>bad ?_)) (fun h2=>bad ?_)
  ·rw[show Int.toNat (((k:Nat):Int)%18446744073709551616)=k by omega,and1]
   have hr:(decide ((0:Int)≤t)&&decide (t<281474976710656))=true:=by simp;omega
   refine wrapW (by omega) (splitE (fun h4=>splitD (fun h5=>tail ?_) (fun h5=>wrapI (by omega) (by omega) (ckI (by simp;omega) ?_))) (fun h4=>bad ?_))
   ·rw[okWM,hf,hr,bit0,decide_eq_true (by omega:63≤t)]
    simp;omega
   ·rw[show min (Int.toNat (t+1)) 64=t.toNat+1 by omega,fdiv2]
    refine ⟨_,rfl,splitE (fun h6=>tail ?_) (fun h6=>bad ?_)⟩
    ·rw[okWM,hf,hr,bit0,show k/2^(t.toNat+1)=0 by omega]
     simp;omega
    ·rw[okWM,hf,hr,decide_eq_false (by omega:¬ 63≤t),show Nat.beq (k/2^(t.toNat+1)) 0=false by cases hb:Nat.beq (k/2^(t.toNat+1)) 0 with | false=>rfl | true=>exact absurd (Nat.eq_of_beq_eq_true hb) (by omega)]
     simp
   ·rw[okWM,hf,hr,bit0,show (k%2==1)=false by simp;omega]
    simp
  ·rw[okWM,hf,decide_eq_false (by omega:¬ t<281474976710656)]
   simp
  ·rw[okWM,hf,decide_eq_false (by omega:¬ (0:Int)≤t)]
   simp
def cFresh:Con
 | [.agg [.int .i64 t,.int .u64 u],.int .i64 q],H,K=>∃k:Nat,Lf (u=(k:Int)∧k<18446744073709551616∧(-9223372036854775808≤t∧t≤9223372036854775807) ∧ -9223372036854775808≤q∧q≤9223372036854775807)∧∀e,Lf (e=freshWM t k q)→K (.ret (.int .i64 e)) H
 | _,_,_=>False
theorem fresh_ok:ValidF Try.prog gl0 20 cFresh:=by
 refine valid_flat (enters_of (by kernel_rfl)) gl0_noY fun args H Q hc => ?_
 unfold cFresh at hc
 split at hc
 ·rename_i t u q
  obtain ⟨k,⟨rfl,h1,h2,h3⟩,hq⟩:=hc
  obtain ⟨hv,hb',h⟩:=fresh_run t k q h1 h2 h3 (Q:=fun o H' _=>H'=[]∧(∃v,o=.ret v∧old 0 v=true∧noY v=true)∧Q o H) ⟨rfl,⟨_,rfl,rfl,rfl⟩,hq _ ⟨rfl⟩⟩
  exact ⟨rfl,rfl,_,1000,envFor04 sm0_ok _ _ _,rfl,h⟩
 ·exact hc.elim
/-- the window with a number -/
def markWM (t:Int) (k:Nat) (q:Int):Int×Nat:=if q≤t then (t,k ||| 2^(t-q).toNat) else (q,(if t<0 then 0 else k)*2^(min (q-t).toNat 64)%18446744073709551616 ||| 1)
def markRM (t:Int) (k:Nat) (q:Int):(Int×Nat)×Int:=if freshWM t k q≠0 then ((0,0),freshWM t k q) else (markWM t k q,0)
theorem ok_parts {t:Int} {k:Nat} (h:okWM t k=true):(t = -1∧k=0)∨(0≤t∧t<281474976710656∧bitWM k 0=true∧(63≤t∨k/2^(t.toNat+1)=0)):=by
 unfold okWM at h
 simp only[Bool.or_eq_true,Bool.and_eq_true,decide_eq_true_eq,nbeq] at h
 rcases h with h | ⟨⟨⟨h1,h2⟩,h3⟩,h4⟩
 ·exact .inl h
 ·exact .inr ⟨h1,h2,h3,h4⟩
theorem fresh_parts {t:Int} {k:Nat} {q:Int} (h:freshWM t k q=0):okWM t k=true∧(0≤q∧q<281474976710656)∧(q≤t→t-64<q∧bitWM k (t-q).toNat=false):=by
 unfold freshWM at h
 split at h
 ·cases h
 ·rename_i h1
  split at h
  ·cases h
  ·rename_i h2
   split at h
   ·cases h
   ·rename_i h3
    refine ⟨by simpa using h1,by omega,fun h4=>⟨Int.not_le.1 fun h5=>h3 ⟨h4,.inl h5⟩, ?_⟩⟩
    cases hb:bitWM k (t-q).toNat with
    | false=>rfl
    | true=>exact absurd ⟨h4,.inr hb⟩ h3
theorem two_lt {a:Nat} (h:a<64):2^a<18446744073709551616:=Nat.pow_lt_pow_right (a:=2) (by omega) h
theorem mark_lt {t:Int} {k:Nat} {q:Int} (hk:k<18446744073709551616) (h:freshWM t k q=0):(markWM t k q).2<18446744073709551616:=by
 obtain ⟨_,h2,h3⟩:=fresh_parts h
 rw[markWM]
 split
 ·rename_i h4
  have:=h3 h4
  exact Nat.or_lt_two_pow (n:=64) hk (two_lt (by omega))
 ·exact Nat.or_lt_two_pow (n:=64) (Nat.mod_lt _ (by omega)) (by omega)
theorem mark_run (t:Int) (k:Nat) (q:Int) (hk:k<18446744073709551616) (hf:freshWM t k q=0) (Q:Out→List Blk→Gh→Prop)
  (hq:Q (.ret (.agg [.int .i64 (markWM t k q).1,.int .u64 ((markWM t k q).2:Nat)])) [] {}):∃hv hb,goal_47w hv hb t k q Q:=by
 obtain ⟨hv,hb',e⟩:∃hv hb,goal_47w hv hb t k q Q=_:=⟨_,_,vc_47w t k q Q⟩
 refine ⟨hv,hb',e.mpr ?_⟩
 clear e
 have hlt:=mark_lt hk hf
 obtain ⟨h1,h2,h3⟩:=fresh_parts hf
 have ht : -1≤t∧t<281474976710656:=by rcases ok_parts h1 with h | h<;>omega
 refine splitD (fun h4 => ?_) (fun h4=>splitD (fun h5 => ?_) (fun h5 => ?_))
 ·have h5:=(h3 h4).1
  rw[markWM,if_pos h4] at hq hlt
  refine ⟨_,rfl,wrapI (by omega) (by omega) (ckI (by simp;omega) ?_)⟩
  rw[show min (Int.toNat (t-q)) 64=(t-q).toNat by omega]
  have hp:=two_lt (show (t-q).toNat<64 by omega)
  rw[show (1:Int)*(2:Int)^(t-q).toNat=((2^(t-q).toNat:Nat):Int) by rw[Int.one_mul];try norm_cast]
  generalize 2^(t-q).toNat=p at *
  refine wrapW hp ?_
  rw[show Int.toNat (((k:Nat):Int)%18446744073709551616)=k by omega,show Int.toNat (((p:Nat):Int)%18446744073709551616)=p by omega]
  exact wrapW hlt hq
 ·rw[markWM,if_neg h4,if_pos h5] at hq hlt
  refine ⟨_,rfl,wrapI (by omega) (by omega) ⟨_,rfl,ckI (by unfold imin;split<;>first | (simp;done) | (simp;omega)) ?_⟩⟩
  rw[Int.zero_mul]
  rw[Nat.zero_mul] at hq hlt
  exact wrapW (n:=0) (by omega) (wrapW (n:=1) (by omega) hq)
 ·rw[markWM,if_neg h4,if_neg h5] at hq hlt
  have hm:imin (q-t) 64=((min (q-t).toNat 64:Nat):Int):=by unfold imin;split<;>omega
  refine ⟨_,rfl,wrapI (by omega) (by omega) ⟨_,rfl, ?_⟩⟩
  rw[hm]
  refine ckI (by simp) ?_
  rw[show min (Int.toNat ((min (q-t).toNat 64:Nat):Int)) 64=min (q-t).toNat 64 by omega,show ((k:Nat):Int)*(2:Int)^(min (q-t).toNat 64)=((k*2^(min (q-t).toNat 64):Nat):Int) by norm_cast]
  generalize k*2^(min (q-t).toNat 64)=x at *
  refine ⟨((x%18446744073709551616:Nat):Int), ?_, ?_⟩
  ·congr 1
  ·rw[show Int.toNat (((x%18446744073709551616:Nat):Int)%18446744073709551616)=x%18446744073709551616 by omega]
   exact wrapW hlt hq
def cMarkW:Con
 | [.agg [.int .i64 t,.int .u64 u],.int .i64 q],H,K=>∃k:Nat,Lf (u=(k:Int)∧k<18446744073709551616∧freshWM t k q=0)∧∀ (a:Int) (b:Nat),Lf (markWM t k q=(a,b))→K (.ret (.agg [.int .i64 a,.int .u64 (b:Nat)])) H
 | _,_,_=>False
theorem markW_ok:ValidF Try.prog gl0 47 cMarkW:=by
 refine valid_flat (enters_of (by kernel_rfl)) gl0_noY fun args H Q hc => ?_
 unfold cMarkW at hc
 split at hc
 ·rename_i t u q
  obtain ⟨k,⟨rfl,h1,h2⟩,hq⟩:=hc
  obtain ⟨hv,hb',h⟩:=mark_run t k q h1 h2 (Q:=fun o H' _=>H'=[]∧(∃v,o=.ret v∧old 0 v=true∧noY v=true)∧Q o H) ⟨rfl,⟨_,rfl,rfl,rfl⟩,hq _ _ ⟨rfl⟩⟩
  exact ⟨rfl,rfl,_,1000,envFor04 sm0_ok _ _ _,rfl,h⟩
 ·exact hc.elim
def smW:SM:=lookS [(20,cFresh),(47,cMarkW)]
theorem smW_ok:∀f g,smW f=some g→ValidF Try.prog gl0 f g:=lookS_ok _ (by simp only[List.mem_cons,List.not_mem_nil,or_false,forall_eq_or_imp,forall_eq];exact ⟨fresh_ok,markW_ok⟩)
noncomputable def goal_22 (hv:Nat→Option Pa) (hb:Nat→Option Bool) (t:Int) (k:Nat) (q:Int) (Q:Out→List Blk→Gh→Prop):Prop:=
 callx (e04 smW (fun _=>none) hv hb) (wpx (e04 smW (fun _=>none) hv hb) 1000) 22 [.agg [.int .i64 t,.int .u64 (k:Nat)],.int .i64 q] [] {} Q
theorem vc_22 (t:Int) (k:Nat) (q:Int) (Q:Out→List Blk→Gh→Prop):goal_22 (lookV [(90119,.agg [(.int .i64),(.int .u64)]),(90126,.agg [(.int .i64),(.int .u64)]),(90128,.agg [(.int .i64),(.int .u64)])]) (lookB []) t k q Q=(
(∃n_0:Int,(∃n_1:Int,(((AV.agg ((AV.int .i64 t)::((AV.int .u64 (Nat.cast k:Int))::[])))=(AV.agg ((AV.int .i64 n_0)::((AV.int .u64 n_1)::[])))) ∧
 (∃k_2:Nat,((Lf ((n_1=(Nat.cast k_2:Int)) ∧
 ((k_2<(18446744073709551616:Nat)) ∧
 ((((- (9223372036854775808:Int))≤n_0) ∧
 (n_0≤(9223372036854775807:Int))) ∧
 (((- (9223372036854775808:Int))≤q) ∧
 (q≤(9223372036854775807:Int))))))) ∧
 (∀e_3:Int,((Lf (e_3=(freshWM n_0 k_2 q))) →
(bif (e_3 !=(0:Int)) then (Q (Out.ret (AV.tup ((AV.agg ((AV.int .i64 (0:Int))::((AV.int .u64 (0:Int))::[])))::((AV.int .i64 e_3)::[])))) [] (Gh.mk (0:Nat) (0:Nat) []))
else (∃n_4:Int,(∃n_5:Int,(((AV.agg ((AV.int .i64 t)::((AV.int .u64 (Nat.cast k:Int))::[])))=(AV.agg ((AV.int .i64 n_4)::((AV.int .u64 n_5)::[])))) ∧
 (∃k_6:Nat,((Lf ((n_5=(Nat.cast k_6:Int)) ∧
 ((k_6<(18446744073709551616:Nat)) ∧
 ((freshWM n_4 k_6 q)=(0:Int))))) ∧
 (∀a_7:Int,(∀b_8:Nat,((Lf ((markWM n_4 k_6 q)=(Prod.mk a_7 b_8))) →
(∃n_9:Int,(∃n_10:Int,(((AV.agg ((AV.int .i64 a_7)::((AV.int .u64 (Nat.cast b_8:Int))::[])))=(AV.agg ((AV.int .i64 n_9)::((AV.int .u64 n_10)::[])))) ∧
 (Q (Out.ret (AV.tup ((AV.agg ((AV.int .i64 n_9)::((AV.int .u64 n_10)::[])))::((AV.int .i64 (0:Int))::[])))) [] (Gh.mk (0:Nat) (0:Nat) [])))))))))))))))))))))):=by kernel_rfl

theorem aggW2 {t u:Int} {K:Int→Int→Prop} (h:K t u):∃a b:Int,AV.agg [.int .i64 t,.int .u64 u]=AV.agg [.int .i64 a,.int .u64 b]∧K a b:=⟨_,_,rfl,h⟩
def cMark:Con
 | [.agg [.int .i64 t,.int .u64 u],.int .i64 q],H,K=>∃k:Nat,Lf (u=(k:Int)∧k<18446744073709551616∧(-9223372036854775808≤t∧t≤9223372036854775807) ∧ -9223372036854775808≤q∧q≤9223372036854775807)∧∀ (a:Int) (b:Nat) (e:Int),Lf (markRM t k q=((a,b),e))→K (.ret (.tup [.agg [.int .i64 a,.int .u64 (b:Nat)],.int .i64 e])) H
 | _,_,_=>False
theorem mark_ok:ValidF Try.prog gl0 22 cMark:=by
 refine valid_flat (enters_of (by kernel_rfl)) gl0_noY fun args H Q hc => ?_
 unfold cMark at hc
 split at hc
 ·rename_i t u q
  obtain ⟨k,⟨rfl,h1,h2,h3⟩,hq⟩:=hc
  refine ⟨rfl,rfl,_,1000,envFor04 smW_ok _ _ _,rfl,(vc_22 t k q _).mpr ?_⟩
  refine aggW2 ⟨k,⟨rfl,h1,h2,h3⟩, ?_⟩
  rintro e ⟨rfl⟩
  refine splitNE (fun h => ?_) (fun h=>aggW2 ⟨k,⟨rfl,h1,h⟩, ?_⟩)
  ·exact ⟨rfl,⟨_,rfl,rfl,rfl⟩,hq 0 0 _ ⟨by rw[markRM,if_pos h]⟩⟩
  ·rintro a b ⟨hm⟩
   exact aggW2 ⟨rfl,⟨_,rfl,rfl,rfl⟩,hq a b _ ⟨by rw[markRM,if_neg (by simp[h]),hm]⟩⟩
 ·exact hc.elim
end Go.Proofs.Ytiholnebhmjbjaa
