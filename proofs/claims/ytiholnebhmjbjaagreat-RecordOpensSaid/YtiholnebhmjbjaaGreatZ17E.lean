/-
  Chapter 17: windows: Fresh and Mark of the reference.
-/
import Derived.Test.YtiholnebhmjbjaaGreatZ17D
set_option linter.unusedSimpArgs false
set_option linter.unusedVariables false
set_option linter.unusedSectionVars false
namespace Go.Proofs.YtiholnebhmjbjaaGreat
open Go.RowKit
set_option maxRecDepth 1000000

/-! ## bit -/
noncomputable def goal_46 (hv:Nat→Option Pa) (hb:Nat→Option Bool) (t:Int) (k:Nat) (i:Int) (Q:Out→List Blk→Gh→Prop):Prop:=
 callx (e04 sm0 (fun _=>none) hv hb) (wpx (e04 sm0 (fun _=>none) hv hb) 1000) 66 [.agg [.int .i64 t,.int .u64 (k:Nat)],.int .i64 i] [] {} Q
theorem vc_46 (t:Int) (k:Nat) (i:Int) (Q:Out→List Blk→Gh→Prop):goal_46 (lookV [(270349,.int .u64),(270351,.int .u64),(270352,.int .u64),(270353,.int .u64)]) (lookB []) t k i Q=(
(bif (decide (i≥(0:Int))) then (bif (decide (i<(64:Int))) then (∃n_0:Int,(((AV.int .u64 (Nat.cast k:Int))=(AV.int .u64 n_0)) ∧
 (∃n_1:Int,(((AV.int .u64 (IntKind.wrap .u64 i))=(AV.int .u64 n_1)) ∧
 (bif ((decide ((0:Int)≤n_1))&&true) then (∃n_2:Int,(((AV.int .u64 (Int.fdiv n_0 ((2:Int)^(Min.min (Int.toNat n_1) (64:Nat)))))=(AV.int .u64 n_2)) ∧
 (∃n_3:Int,(((AV.int .u64 (Int.tmod n_2 (2:Int)))=(AV.int .u64 n_3)) ∧
 (bif (n_3==(1:Int)) then (Q (Out.ret (AV.bool true)) [] (Gh.mk (0:Nat) (0:Nat) []))
else (Q (Out.ret (AV.bool false)) [] (Gh.mk (0:Nat) (0:Nat) [])))))))
else False)))))
else (Q (Out.ret (AV.bool false)) [] (Gh.mk (0:Nat) (0:Nat) [])))
else (Q (Out.ret (AV.bool false)) [] (Gh.mk (0:Nat) (0:Nat) [])))):=by kernel_rfl

def bitIM (k:Nat) (i:Int):Bool:=decide (0≤i)&&decide (i<64)&&bitWM k i.toNat
theorem bit_run (t:Int) (k:Nat) (i:Int) (hk:k<18446744073709551616) (Q:Out→List Blk→Gh→Prop) (hq:Q (.ret (.bool (bitIM k i))) [] {}):∃hv hb,goal_46 hv hb t k i Q:=by
 obtain ⟨hv,hb',e⟩:∃hv hb,goal_46 hv hb t k i Q=_:=⟨_,_,vc_46 t k i Q⟩
 refine ⟨hv,hb',e.mpr ?_⟩
 clear e
 have no:(0≤i∧i<64→bitWM k i.toNat=false)→Q (.ret (.bool false)) [] {}:=fun h=>by
  have:bitIM k i=false:=by
   unfold bitIM
   by_cases h1:0≤i∧i<64
   ·rw[h h1];simp
   ·by_cases h2:0≤i
    ·rw[decide_eq_false (by omega:¬ i<64)];simp
    ·rw[decide_eq_false h2];simp
  rwa [this] at hq
 refine splitD (fun h1=>splitD (fun h2 => ?_) (fun h2=>no (fun h=>by omega))) (fun h1=>no (fun h=>by omega))
 have hw:IntKind.wrap .u64 i=i:=by show i%18446744073709551616=i;omega
 refine ⟨_,rfl, ?_⟩
 rw[hw]
 refine ⟨_,rfl,ckI (by simp;omega) ?_⟩
 rw[show min (Int.toNat i) 64=i.toNat by omega,fdiv2]
 have hbit:bitWM k i.toNat=(k/2^i.toNat%2==1):=rfl
 have yes:bitWM k i.toNat=true→Q (.ret (.bool true)) [] {}:=fun h=>by
  have:bitIM k i=true:=by rw[bitIM,h,decide_eq_true (by omega:0≤i),decide_eq_true h2];rfl
  rwa [this] at hq
 rw[hbit] at no yes
 generalize k/2^i.toNat=x at *
 refine ⟨_,rfl, ?_⟩
 rw[show Int.tmod ((x:Nat):Int) 2=((x%2:Nat):Int) from rfl]
 exact ⟨_,rfl,splitE (fun h=>yes (by simp;omega)) (fun h=>no (fun _=>by simp;omega))⟩
/-! ## Valid -/
def cBit:Con
 | [.agg [.int .i64 _,.int .u64 u],.int .i64 i],H,K=>∃k:Nat,Lf (u=(k:Int)∧k<18446744073709551616)∧∀b,Lf (b=bitIM k i)→K (.ret (.bool b)) H
 | _,_,_=>False
theorem bit_ok:ValidF Tryz.prog gl0 66 cBit:=by
 refine valid_flat (enters_of (by kernel_rfl)) gl0_noY fun args H Q hc => ?_
 unfold cBit at hc
 split at hc
 ·rename_i t u i
  obtain ⟨k,⟨rfl,h1⟩,hq⟩:=hc
  obtain ⟨hv,hb',h⟩:=bit_run t k i h1 (Q:=fun o H' _=>H'=[]∧(∃v,o=.ret v∧old 0 v=true∧noY v=true)∧Q o H) ⟨rfl,⟨_,rfl,rfl,rfl⟩,hq _ ⟨rfl⟩⟩
  exact ⟨rfl,rfl,_,1000,envFor04 sm0_ok _ _ _,rfl,h⟩
 ·exact hc.elim
def smBit:SM:=lookS [(66,cBit)]
theorem smBit_ok:∀f g,smBit f=some g→ValidF Tryz.prog gl0 f g:=lookS_ok _ (by simp only[List.mem_cons,List.not_mem_nil,or_false,forall_eq];exact bit_ok)
def inv_45 (t:Int) (k:Nat):LInv where
 α:=Nat
 pre i:=Lf (i≤64∧∀j,j<i→t<(j:Int)→bitWM k j=false)
 st i:=⟨mkT [(1,.ptr 0 2 0),(3,.int .i64 (i:Nat))],[⟨.exact,true,[.int .i64 t,.int .u64 (k:Nat)]⟩]⟩
 mu i:=64-i
noncomputable def env_45 (hv:Nat→Option Pa) (hb:Nat→Option Bool) (t:Int) (k:Nat):Env:=
 e04 smBit (fun i=>bif Nat.beq i 41000 then some (fun _=>[[inv_45 t k]]) else none) hv hb
noncomputable def goal_45 (hv:Nat→Option Pa) (hb:Nat→Option Bool) (t:Int) (k:Nat) (Q:Out→List Blk→Gh→Prop):Prop:=
 callx (env_45 hv hb t k) (wpx (env_45 hv hb t k) 1000) 41 [.agg [.int .i64 t,.int .u64 (k:Nat)]] [] {} Q
theorem vc_45 (t:Int) (k:Nat) (Q:Out→List Blk→Gh→Prop):goal_45 (lookV [(167944,.int .u64),(167955,.agg [(.int .i64),(.int .u64)]),(167959,.int .i64),(167963,.int .i64),(167968,.agg [(.int .i64),(.int .u64)]),(167969,.int .i64),(167961,.int .i64),(167962,.int .i64)]) (lookB []) t k Q=(
(bif (t==(- (1:Int))) then (∃n_0:Int,(((AV.int .u64 (Nat.cast k:Int))=(AV.int .u64 n_0)) ∧
 (bif (n_0==(0:Int)) then (Q (Out.ret (AV.bool true)) [] (Gh.mk (0:Nat) (0:Nat) []))
else (Q (Out.ret (AV.bool false)) [] (Gh.mk (0:Nat) (0:Nat) [])))))
else (bif (decide (t<(0:Int))) then (Q (Out.ret (AV.bool false)) [] (Gh.mk (0:Nat) (0:Nat) []))
else (bif (decide (t≥(281474976710656:Int))) then (Q (Out.ret (AV.bool false)) [] (Gh.mk (0:Nat) (0:Nat) []))
else (∃n_0:Int,(∃n_1:Int,(((AV.agg ((AV.int .i64 t)::((AV.int .u64 (Nat.cast k:Int))::[])))=(AV.agg ((AV.int .i64 n_0)::((AV.int .u64 n_1)::[])))) ∧
 (∃k_2:Nat,((Lf ((n_1=(Nat.cast k_2:Int)) ∧
 (k_2<(18446744073709551616:Nat)))) ∧
 (∀b_3:Bool,((Lf (b_3=(bitIM k_2 (0:Int)))) →
(bif b_3 then ((∃x_4:Nat,((Lf ((x_4≤(64:Nat)) ∧
 (∀j_5:Nat,((j_5<x_4) →
((t<(Nat.cast j_5:Int)) →
((bitWM k j_5)=false)))))) ∧
 ((((AV.int .i64 t)::((AV.int .u64 (Nat.cast k:Int))::[]))=((AV.int .i64 t)::((AV.int .u64 (Nat.cast k:Int))::[]))) ∧
 (((AV.ptr (0:Nat) (2:Nat) (0:Nat))=(AV.ptr (0:Nat) (2:Nat) (0:Nat))) ∧
 (((AV.int .i64 (0:Int))=(AV.int .i64 (Nat.cast x_4:Int))) ∧
 True))))) ∧
 (∀x_4:Nat,((Lf ((x_4≤(64:Nat)) ∧
 (∀j_5:Nat,((j_5<x_4) →
((t<(Nat.cast j_5:Int)) →
((bitWM k j_5)=false)))))) →
(∃n_5:Int,(((AV.int .i64 (Nat.cast x_4:Int))=(AV.int .i64 n_5)) ∧
 (bif (decide (n_5<(64:Int))) then (∃n_6:Int,(((AV.int .i64 (Nat.cast x_4:Int))=(AV.int .i64 n_6)) ∧
 (bif (decide (n_6>t)) then (∃n_7:Int,(∃n_8:Int,(((AV.agg ((AV.int .i64 t)::((AV.int .u64 (Nat.cast k:Int))::[])))=(AV.agg ((AV.int .i64 n_7)::((AV.int .u64 n_8)::[])))) ∧
 (∃n_9:Int,(((AV.int .i64 (Nat.cast x_4:Int))=(AV.int .i64 n_9)) ∧
 (∃k_10:Nat,((Lf ((n_8=(Nat.cast k_10:Int)) ∧
 (k_10<(18446744073709551616:Nat)))) ∧
 (∀b_11:Bool,((Lf (b_11=(bitIM k_10 n_9))) →
(bif b_11 then (Q (Out.ret (AV.bool false)) [] (Gh.mk (0:Nat) (0:Nat) []))
else (∃n_12:Int,(((AV.int .i64 (Nat.cast x_4:Int))=(AV.int .i64 n_12)) ∧
 (∃n_13:Int,(((AV.int .i64 (IntKind.wrap .i64 (n_12+(1:Int))))=(AV.int .i64 n_13)) ∧
 ((True ∧
 ((0:Nat)=(0:Nat))) ∧
 (∃y_14:Nat,((Lf ((y_14≤(64:Nat)) ∧
 (∀j_15:Nat,((j_15<y_14) →
((t<(Nat.cast j_15:Int)) →
((bitWM k j_15)=false)))))) ∧
 ((((64:Nat)-y_14)<((64:Nat)-x_4)) ∧
 ((((AV.int .i64 t)::((AV.int .u64 (Nat.cast k:Int))::[]))=((AV.int .i64 t)::((AV.int .u64 (Nat.cast k:Int))::[]))) ∧
 (((AV.ptr (0:Nat) (2:Nat) (0:Nat))=(AV.ptr (0:Nat) (2:Nat) (0:Nat))) ∧
 (((AV.int .i64 n_13)=(AV.int .i64 (Nat.cast y_14:Int))) ∧
 True)))))))))))))))))))))
else (∃n_7:Int,(((AV.int .i64 (Nat.cast x_4:Int))=(AV.int .i64 n_7)) ∧
 (∃n_8:Int,(((AV.int .i64 (IntKind.wrap .i64 (n_7+(1:Int))))=(AV.int .i64 n_8)) ∧
 ((True ∧
 ((0:Nat)=(0:Nat))) ∧
 (∃y_9:Nat,((Lf ((y_9≤(64:Nat)) ∧
 (∀j_10:Nat,((j_10<y_9) →
((t<(Nat.cast j_10:Int)) →
((bitWM k j_10)=false)))))) ∧
 ((((64:Nat)-y_9)<((64:Nat)-x_4)) ∧
 ((((AV.int .i64 t)::((AV.int .u64 (Nat.cast k:Int))::[]))=((AV.int .i64 t)::((AV.int .u64 (Nat.cast k:Int))::[]))) ∧
 (((AV.ptr (0:Nat) (2:Nat) (0:Nat))=(AV.ptr (0:Nat) (2:Nat) (0:Nat))) ∧
 (((AV.int .i64 n_8)=(AV.int .i64 (Nat.cast y_9:Int))) ∧
 True))))))))))))))
else (Q (Out.ret (AV.bool true)) [] (Gh.mk (0:Nat) (0:Nat) []))))))))
else (Q (Out.ret (AV.bool false)) [] (Gh.mk (0:Nat) (0:Nat) [])))))))))))))):=by kernel_rfl

theorem bitW_test (k i:Nat):bitWM k i=k.testBit i:=by
 rw[Nat.testBit_eq_decide_div_mod_eq,bitWM]
 by_cases h:k/2^i%2=1
 ·rw[h];rfl
 ·rw[decide_eq_false h];simpa using h
theorem high_zero {t:Int} {k:Nat} (hk:k<18446744073709551616) (ht:0≤t):(63≤t∨k/2^(t.toNat+1)=0)↔∀j:Nat,j<64→t<(j:Int)→bitWM k j=false:=by
 constructor
 ·rintro (h | h) j hj htj
  ·omega
  ·rw[bitW_test]
   have h1:k<2^(t.toNat+1):=by
    rcases Nat.div_eq_zero_iff.1 h with h | h
    ·have:=Nat.two_pow_pos (t.toNat+1);omega
    ·exact h
   exact Nat.testBit_lt_two_pow (Nat.lt_of_lt_of_le h1 (Nat.pow_le_pow_right (by omega) (by omega)))
 ·intro h
  by_cases h63:63≤t
  ·exact .inl h63
  ·refine .inr (Nat.div_eq_of_lt (Nat.lt_pow_two_of_testBit k fun j hj => ?_))
   by_cases h64:j<64
   ·rw[←bitW_test];exact h j h64 (by omega)
   ·exact Nat.testBit_lt_two_pow (Nat.lt_of_lt_of_le (show k<2^64 from hk) (Nat.pow_le_pow_right (by omega) (by omega)))
theorem ok_iff {t:Int} {k:Nat} (hk:k<18446744073709551616) (h1:t ≠ -1) (h2:0≤t) (h3:t<281474976710656):okWM t k=true↔bitWM k 0=true∧∀j:Nat,j<64→t<(j:Int)→bitWM k j=false:=by
 rw[←high_zero hk h2]
 unfold okWM
 rw[decide_eq_false h1,decide_eq_true h2,decide_eq_true h3]
 simp[nbeq]
theorem valid_run (t:Int) (k:Nat) (hk:k<18446744073709551616) (Q:Out→List Blk→Gh→Prop) (hq:Q (.ret (.bool (okWM t k))) [] {}):∃hv hb,goal_45 hv hb t k Q:=by
 obtain ⟨hv,hb',e⟩:∃hv hb,goal_45 hv hb t k Q=_:=⟨_,_,vc_45 t k Q⟩
 refine ⟨hv,hb',e.mpr ?_⟩
 clear e
 have no:okWM t k=false→Q (.ret (.bool false)) [] {}:=fun h=>by rwa [h] at hq
 have yes:okWM t k=true→Q (.ret (.bool true)) [] {}:=fun h=>by rwa [h] at hq
 refine splitE (fun h => ?_) (fun h=>splitD (fun h2=>no ?_) (fun h2=>splitD (fun h3=>no ?_) (fun h3 => ?_)))
 ·subst h
  refine ⟨_,rfl,splitE (fun h=>yes ?_) (fun h=>no ?_)⟩
  ·obtain rfl:k=0:=by omega
   rfl
  ·rw[okWM,decide_eq_false (by omega:¬ (0:Int) ≤ -1),show Nat.beq k 0=false by cases hb:Nat.beq k 0 with | false=>rfl | true=>exact absurd (Nat.eq_of_beq_eq_true hb) (by omega)]
   simp
 ·rw[okWM,decide_eq_false h,decide_eq_false (by omega:¬ 0≤t)];simp
 ·rw[okWM,decide_eq_false h,decide_eq_false (by omega:¬ t<281474976710656)];simp
 ·have hok:=ok_iff hk h (by omega) (by omega)
  refine aggW2 ⟨k,⟨rfl,hk⟩, ?_⟩
  rintro b ⟨rfl⟩
  have hb0:bitIM k 0=bitWM k 0:=rfl
  rw[hb0]
  cases h4:bitWM k 0 with
  | false=>
   refine no ?_
   cases h5:okWM t k with
   | false=>rfl
   | true=>rw[h5] at hok;rw[(hok.1 rfl).1] at h4;cases h4
  | true=>
   rw[cond_true]
   refine ⟨⟨0,⟨by omega,fun j hj=>by omega⟩,rfl,rfl,rfl,trivial⟩, ?_⟩
   rintro i ⟨h5,h6⟩
   refine ⟨_,rfl,splitD (fun h7=>⟨_,rfl,splitD (fun h8=>aggW2 ⟨_,rfl,k,⟨rfl,hk⟩, ?_⟩) (fun h8 => ?_)⟩) (fun h7=>yes (hok.2 ⟨h4,fun j hj=>h6 j (by omega)⟩))⟩
   ·rintro b ⟨rfl⟩
    have hbi:bitIM k (i:Int)=bitWM k i:=by rw[bitIM,decide_eq_true (by omega:(0:Int)≤i),decide_eq_true h7];simp
    rw[hbi]
    cases h9:bitWM k i with
    | true=>
     refine no ?_
     cases h10:okWM t k with
     | false=>rfl
     | true=>rw[h10] at hok;rw[(hok.1 rfl).2 i (by omega) h8] at h9;cases h9
    | false=>
     rw[cond_false]
     refine ⟨_,rfl,wrapI (by omega) (by omega) ⟨⟨trivial,rfl⟩,i+1,⟨by omega,fun j hj hjt => ?_⟩,by omega,rfl,rfl,rfl,trivial⟩⟩
     by_cases hji:j=i
     ·rw[hji];exact h9
     ·exact h6 j (by omega) hjt
   ·refine ⟨_,rfl,wrapI (by omega) (by omega) ⟨⟨trivial,rfl⟩,i+1,⟨by omega,fun j hj hjt => ?_⟩,by omega,rfl,rfl,rfl,trivial⟩⟩
    by_cases hji:j=i
    ·subst hji;omega
    ·exact h6 j (by omega) hjt
def cValid:Con
 | [.agg [.int .i64 t,.int .u64 u]],H,K=>∃k:Nat,Lf (u=(k:Int)∧k<18446744073709551616)∧∀b,Lf (b=okWM t k)→K (.ret (.bool b)) H
 | _,_,_=>False
theorem validW_ok:ValidF Tryz.prog gl0 41 cValid:=by
 refine valid_flat (enters_of (by kernel_rfl)) gl0_noY fun args H Q hc => ?_
 unfold cValid at hc
 split at hc
 ·rename_i t u
  obtain ⟨k,⟨rfl,h1⟩,hq⟩:=hc
  obtain ⟨hv,hb',h⟩:=valid_run t k h1 (Q:=fun o H' _=>H'=[]∧(∃v,o=.ret v∧old 0 v=true∧noY v=true)∧Q o H) ⟨rfl,⟨_,rfl,rfl,rfl⟩,hq _ ⟨rfl⟩⟩
  exact ⟨rfl,rfl,_,1000,envFor04 smBit_ok _ _ _,rfl,h⟩
 ·exact hc.elim
/-! ## Fresh, Mark -/
def smEW:SM:=lookS [(41,cValid),(66,cBit)]
theorem smEW_ok:∀f g,smEW f=some g→ValidF Tryz.prog gl0 f g:=lookS_ok _ (by simp only[List.mem_cons,List.not_mem_nil,or_false,forall_eq_or_imp,forall_eq];exact ⟨validW_ok,bit_ok⟩)
noncomputable def goal_21w (hv:Nat→Option Pa) (hb:Nat→Option Bool) (t:Int) (k:Nat) (q:Int) (Q:Out→List Blk→Gh→Prop):Prop:=
 callx (e04 smEW (fun _=>none) hv hb) (wpx (e04 smEW (fun _=>none) hv hb) 1000) 46 [.agg [.int .i64 t,.int .u64 (k:Nat)],.int .i64 q] [] {} Q
theorem vc_21w (t:Int) (k:Nat) (q:Int) (Q:Out→List Blk→Gh→Prop):goal_21w (lookV [(188421,.agg [(.int .i64),(.int .u64)]),(188438,.int .i64),(188441,.agg [(.int .i64),(.int .u64)]),(188445,.int .i64)]) (lookB []) t k q Q=(
(∃n_0:Int,(∃n_1:Int,(((AV.agg ((AV.int .i64 t)::((AV.int .u64 (Nat.cast k:Int))::[])))=(AV.agg ((AV.int .i64 n_0)::((AV.int .u64 n_1)::[])))) ∧
 (∃k_2:Nat,((Lf ((n_1=(Nat.cast k_2:Int)) ∧
 (k_2<(18446744073709551616:Nat)))) ∧
 (∀b_3:Bool,((Lf (b_3=(okWM n_0 k_2))) →
(bif b_3 then (bif (decide (q<(0:Int))) then (Q (Out.ret (AV.int .i64 (2:Int))) [] (Gh.mk (0:Nat) (0:Nat) []))
else (bif (decide (q≥(281474976710656:Int))) then (Q (Out.ret (AV.int .i64 (2:Int))) [] (Gh.mk (0:Nat) (0:Nat) []))
else (bif (decide (q≤t)) then (∃n_4:Int,(((AV.int .i64 (IntKind.wrap .i64 (t-(64:Int))))=(AV.int .i64 n_4)) ∧
 (bif (decide (q≤n_4)) then (Q (Out.ret (AV.int .i64 (10:Int))) [] (Gh.mk (0:Nat) (0:Nat) []))
else (∃n_5:Int,(∃n_6:Int,(((AV.agg ((AV.int .i64 t)::((AV.int .u64 (Nat.cast k:Int))::[])))=(AV.agg ((AV.int .i64 n_5)::((AV.int .u64 n_6)::[])))) ∧
 (∃n_7:Int,(((AV.int .i64 (IntKind.wrap .i64 (t-q)))=(AV.int .i64 n_7)) ∧
 (∃k_8:Nat,((Lf ((n_6=(Nat.cast k_8:Int)) ∧
 (k_8<(18446744073709551616:Nat)))) ∧
 (∀b_9:Bool,((Lf (b_9=(bitIM k_8 n_7))) →
(bif b_9 then (Q (Out.ret (AV.int .i64 (10:Int))) [] (Gh.mk (0:Nat) (0:Nat) []))
else (Q (Out.ret (AV.int .i64 (0:Int))) [] (Gh.mk (0:Nat) (0:Nat) [])))))))))))))))
else (Q (Out.ret (AV.int .i64 (0:Int))) [] (Gh.mk (0:Nat) (0:Nat) [])))))
else (Q (Out.ret (AV.int .i64 (170:Int))) [] (Gh.mk (0:Nat) (0:Nat) []))))))))))):=by kernel_rfl

theorem freshR_run (t:Int) (k:Nat) (q:Int) (hk:k<18446744073709551616) (ht : -9223372036854775808≤t∧t≤9223372036854775807) (hqr : -9223372036854775808≤q∧q≤9223372036854775807) (Q:Out→List Blk→Gh→Prop)
  (hq:Q (.ret (.int .i64 (freshWM t k q))) [] {}):∃hv hb,goal_21w hv hb t k q Q:=by
 obtain ⟨hv,hb',e⟩:∃hv hb,goal_21w hv hb t k q Q=_:=⟨_,_,vc_21w t k q Q⟩
 refine ⟨hv,hb',e.mpr ?_⟩
 clear e
 refine aggW2 ⟨k,⟨rfl,hk⟩, ?_⟩
 rintro b ⟨rfl⟩
 cases hok:okWM t k with
 | false=>rw[freshWM,if_pos hok] at hq;exact hq
 | true=>
  rw[cond_true]
  rw[freshWM,if_neg (by simp[hok])] at hq
  have htr : -1≤t∧t<281474976710656:=by rcases ok_parts hok with h | h<;>omega
  refine splitD (fun h=>by rwa [if_pos (.inl h)] at hq) (fun h1=>splitD (fun h=>by rwa [if_pos (.inr h)] at hq) (fun h2 => ?_))
  rw[if_neg (by omega)] at hq
  refine splitD (fun h3=>wrapI (by omega) (by omega) (splitD (fun h4=>by rwa [if_pos ⟨h3,.inl h4⟩] at hq) (fun h4=>aggW2 (wrapI (by omega) (by omega) ⟨k,⟨rfl,hk⟩, ?_⟩)))) (fun h3=>by rwa [if_neg (fun h=>h3 h.1)] at hq)
  rintro b ⟨rfl⟩
  have hb:bitIM k (t-q)=bitWM k (t-q).toNat:=by rw[bitIM,decide_eq_true (by omega:0≤t-q),decide_eq_true (by omega:t-q<64)];rfl
  rw[hb]
  cases h5:bitWM k (t-q).toNat with
  | true=>rwa [if_pos ⟨h3,.inr h5⟩] at hq
  | false=>
   rw[if_neg (by rintro ⟨_,h | h⟩;exact h4 h;rw[h5] at h;cases h)] at hq
   exact hq
theorem freshR_ok:ValidF Tryz.prog gl0 46 cFresh:=by
 refine valid_flat (enters_of (by kernel_rfl)) gl0_noY fun args H Q hc => ?_
 unfold cFresh at hc
 split at hc
 ·rename_i t u q
  obtain ⟨k,⟨rfl,h1,h2,h3⟩,hq⟩:=hc
  obtain ⟨hv,hb',h⟩:=freshR_run t k q h1 h2 h3 (Q:=fun o H' _=>H'=[]∧(∃v,o=.ret v∧old 0 v=true∧noY v=true)∧Q o H) ⟨rfl,⟨_,rfl,rfl,rfl⟩,hq _ ⟨rfl⟩⟩
  exact ⟨rfl,rfl,_,1000,envFor04 smEW_ok _ _ _,rfl,h⟩
 ·exact hc.elim
def lowM (m i:Nat):Nat:=m%2^i
def inv_23 (t:Int) (k:Nat) (q:Int):LInv where
 α:=Nat
 pre i:=Lf (i≤64)
 st i:=⟨mkT [(1,.int .i64 q),(2,.ptr 0 2 0),(4,.ptr 1 2 0),(7,.ptr 2 2 0),(8,.int .i64 (i:Nat))],[⟨.exact,true,[.int .i64 t,.int .u64 (k:Nat)]⟩,⟨.exact,true,[.int .i64 0,.int .u64 0]⟩,⟨.exact,true,[.int .i64 (markWM t k q).1,.int .u64 (lowM (markWM t k q).2 i:Nat)]⟩]⟩
 mu i:=64-i
def smFW:SM:=lookS [(46,cFresh),(66,cBit)]
theorem smFW_ok:∀f g,smFW f=some g→ValidF Tryz.prog gl0 f g:=lookS_ok _ (by simp only[List.mem_cons,List.not_mem_nil,or_false,forall_eq_or_imp,forall_eq];exact ⟨freshR_ok,bit_ok⟩)
noncomputable def env_23 (hv:Nat→Option Pa) (hb:Nat→Option Bool) (t:Int) (k:Nat) (q:Int):Env:=
 e04 smFW (fun i=>bif Nat.beq i 48000 then some (fun _=>[[inv_23 t k q]]) else none) hv hb
noncomputable def goal_23 (hv:Nat→Option Pa) (hb:Nat→Option Bool) (t:Int) (k:Nat) (q:Int) (Q:Out→List Blk→Gh→Prop):Prop:=
 callx (env_23 hv hb t k q) (wpx (env_23 hv hb t k q) 1000) 48 [.agg [.int .i64 t,.int .u64 (k:Nat)],.int .i64 q] [] {} Q
theorem vc_23 (t:Int) (k:Nat) (q:Int) (Q:Out→List Blk→Gh→Prop):goal_23 (lookV [(196618,.agg [(.int .i64),(.int .u64)]),(196628,.int .i64),(196630,.int .i64),(196636,.int .i64),(196637,.int .i64),(196660,.int .u64),(196661,.int .i64),(196662,.int .u64),(196663,.int .u64),(196664,.int .u64),(196632,.int .i64),(196633,.int .i64),(196651,.agg [(.int .i64),(.int .u64)]),(196655,.int .i64),(196666,.agg [(.int .i64),(.int .u64)])]) (lookB []) t k q Q=(
(∃n_0:Int,(∃n_1:Int,(((AV.agg ((AV.int .i64 t)::((AV.int .u64 (Nat.cast k:Int))::[])))=(AV.agg ((AV.int .i64 n_0)::((AV.int .u64 n_1)::[])))) ∧
 (∃k_2:Nat,((Lf ((n_1=(Nat.cast k_2:Int)) ∧
 ((k_2<(18446744073709551616:Nat)) ∧
 ((((- (9223372036854775808:Int))≤n_0) ∧
 (n_0≤(9223372036854775807:Int))) ∧
 (((- (9223372036854775808:Int))≤q) ∧
 (q≤(9223372036854775807:Int))))))) ∧
 (∀e_3:Int,((Lf (e_3=(freshWM n_0 k_2 q))) →
(bif (e_3 !=(0:Int)) then (Q (Out.ret (AV.tup ((AV.agg ((AV.int .i64 (0:Int))::((AV.int .u64 (0:Int))::[])))::((AV.int .i64 e_3)::[])))) [] (Gh.mk (0:Nat) (0:Nat) []))
else (∃n_4:Int,(((AV.int .i64 (imax t q))=(AV.int .i64 n_4)) ∧
 ((∃x_5:Nat,((Lf (x_5≤(64:Nat))) ∧
 ((((AV.int .i64 t)::((AV.int .u64 (Nat.cast k:Int))::[]))=((AV.int .i64 t)::((AV.int .u64 (Nat.cast k:Int))::[]))) ∧
 ((((AV.int .i64 (0:Int))::((AV.int .u64 (0:Int))::[]))=((AV.int .i64 (0:Int))::((AV.int .u64 (0:Int))::[]))) ∧
 ((((AV.int .i64 n_4)::((AV.int .u64 (0:Int))::[]))=((AV.int .i64 (Prod.fst (markWM t k q)))::((AV.int .u64 (Nat.cast (lowM (Prod.snd (markWM t k q)) x_5):Int))::[]))) ∧
 (((AV.int .i64 q)=(AV.int .i64 q)) ∧
 (((AV.ptr (2:Nat) (2:Nat) (0:Nat))=(AV.ptr (2:Nat) (2:Nat) (0:Nat))) ∧
 (((AV.ptr (0:Nat) (2:Nat) (0:Nat))=(AV.ptr (0:Nat) (2:Nat) (0:Nat))) ∧
 (((AV.ptr (1:Nat) (2:Nat) (0:Nat))=(AV.ptr (1:Nat) (2:Nat) (0:Nat))) ∧
 (((AV.int .i64 (0:Int))=(AV.int .i64 (Nat.cast x_5:Int))) ∧
 True)))))))))) ∧
 (∀x_5:Nat,((Lf (x_5≤(64:Nat))) →
(∃n_6:Int,(((AV.int .i64 (Nat.cast x_5:Int))=(AV.int .i64 n_6)) ∧
 (bif (decide (n_6<(64:Int))) then (∃n_7:Int,(((AV.int .i64 (Nat.cast x_5:Int))=(AV.int .i64 n_7)) ∧
 (∃n_8:Int,(((AV.int .i64 (IntKind.wrap .i64 ((Prod.fst (markWM t k q))-n_7)))=(AV.int .i64 n_8)) ∧
 (bif (n_8==q) then (∃n_9:Int,(((AV.int .u64 (Nat.cast (lowM (Prod.snd (markWM t k q)) x_5):Int))=(AV.int .u64 n_9)) ∧
 (∃n_10:Int,(((AV.int .i64 (Nat.cast x_5:Int))=(AV.int .i64 n_10)) ∧
 (∃n_11:Int,(((AV.int .u64 (IntKind.wrap .u64 n_10))=(AV.int .u64 n_11)) ∧
 (bif ((decide ((0:Int)≤n_11))&&true) then (∃n_12:Int,(((AV.int .u64 (IntKind.wrap .u64 ((1:Int)*((2:Int)^(Min.min (Int.toNat n_11) (64:Nat))))))=(AV.int .u64 n_12)) ∧
 (∃n_13:Int,(((AV.int .u64 (IntKind.wrap .u64 (Nat.cast ((Int.toNat (n_9%(18446744073709551616:Int))) ||| (Int.toNat (n_12%(18446744073709551616:Int)))):Int)))=(AV.int .u64 n_13)) ∧
 (∃n_14:Int,(((AV.int .i64 (Nat.cast x_5:Int))=(AV.int .i64 n_14)) ∧
 (∃n_15:Int,(((AV.int .i64 (IntKind.wrap .i64 (n_14+(1:Int))))=(AV.int .i64 n_15)) ∧
 ((True ∧
 ((0:Nat)=(0:Nat))) ∧
 (∃y_16:Nat,((Lf (y_16≤(64:Nat))) ∧
 ((((64:Nat)-y_16)<((64:Nat)-x_5)) ∧
 ((((AV.int .i64 t)::((AV.int .u64 (Nat.cast k:Int))::[]))=((AV.int .i64 t)::((AV.int .u64 (Nat.cast k:Int))::[]))) ∧
 ((((AV.int .i64 (0:Int))::((AV.int .u64 (0:Int))::[]))=((AV.int .i64 (0:Int))::((AV.int .u64 (0:Int))::[]))) ∧
 ((((AV.int .i64 (Prod.fst (markWM t k q)))::((AV.int .u64 n_13)::[]))=((AV.int .i64 (Prod.fst (markWM t k q)))::((AV.int .u64 (Nat.cast (lowM (Prod.snd (markWM t k q)) y_16):Int))::[]))) ∧
 (((AV.int .i64 q)=(AV.int .i64 q)) ∧
 (((AV.ptr (2:Nat) (2:Nat) (0:Nat))=(AV.ptr (2:Nat) (2:Nat) (0:Nat))) ∧
 (((AV.ptr (0:Nat) (2:Nat) (0:Nat))=(AV.ptr (0:Nat) (2:Nat) (0:Nat))) ∧
 (((AV.ptr (1:Nat) (2:Nat) (0:Nat))=(AV.ptr (1:Nat) (2:Nat) (0:Nat))) ∧
 (((AV.int .i64 n_15)=(AV.int .i64 (Nat.cast y_16:Int))) ∧
 True))))))))))))))))))))
else False)))))))
else (bif (decide (n_8≥(0:Int))) then (bif (decide (n_8≤t)) then (∃n_9:Int,(∃n_10:Int,(((AV.agg ((AV.int .i64 t)::((AV.int .u64 (Nat.cast k:Int))::[])))=(AV.agg ((AV.int .i64 n_9)::((AV.int .u64 n_10)::[])))) ∧
 (∃n_11:Int,(((AV.int .i64 (IntKind.wrap .i64 (t-n_8)))=(AV.int .i64 n_11)) ∧
 (∃k_12:Nat,((Lf ((n_10=(Nat.cast k_12:Int)) ∧
 (k_12<(18446744073709551616:Nat)))) ∧
 (∀b_13:Bool,((Lf (b_13=(bitIM k_12 n_11))) →
(bif b_13 then (∃n_14:Int,(((AV.int .u64 (Nat.cast (lowM (Prod.snd (markWM t k q)) x_5):Int))=(AV.int .u64 n_14)) ∧
 (∃n_15:Int,(((AV.int .i64 (Nat.cast x_5:Int))=(AV.int .i64 n_15)) ∧
 (∃n_16:Int,(((AV.int .u64 (IntKind.wrap .u64 n_15))=(AV.int .u64 n_16)) ∧
 (bif ((decide ((0:Int)≤n_16))&&true) then (∃n_17:Int,(((AV.int .u64 (IntKind.wrap .u64 ((1:Int)*((2:Int)^(Min.min (Int.toNat n_16) (64:Nat))))))=(AV.int .u64 n_17)) ∧
 (∃n_18:Int,(((AV.int .u64 (IntKind.wrap .u64 (Nat.cast ((Int.toNat (n_14%(18446744073709551616:Int))) ||| (Int.toNat (n_17%(18446744073709551616:Int)))):Int)))=(AV.int .u64 n_18)) ∧
 (∃n_19:Int,(((AV.int .i64 (Nat.cast x_5:Int))=(AV.int .i64 n_19)) ∧
 (∃n_20:Int,(((AV.int .i64 (IntKind.wrap .i64 (n_19+(1:Int))))=(AV.int .i64 n_20)) ∧
 ((True ∧
 ((0:Nat)=(0:Nat))) ∧
 (∃y_21:Nat,((Lf (y_21≤(64:Nat))) ∧
 ((((64:Nat)-y_21)<((64:Nat)-x_5)) ∧
 ((((AV.int .i64 t)::((AV.int .u64 (Nat.cast k:Int))::[]))=((AV.int .i64 t)::((AV.int .u64 (Nat.cast k:Int))::[]))) ∧
 ((((AV.int .i64 (0:Int))::((AV.int .u64 (0:Int))::[]))=((AV.int .i64 (0:Int))::((AV.int .u64 (0:Int))::[]))) ∧
 ((((AV.int .i64 (Prod.fst (markWM t k q)))::((AV.int .u64 n_18)::[]))=((AV.int .i64 (Prod.fst (markWM t k q)))::((AV.int .u64 (Nat.cast (lowM (Prod.snd (markWM t k q)) y_21):Int))::[]))) ∧
 (((AV.int .i64 q)=(AV.int .i64 q)) ∧
 (((AV.ptr (2:Nat) (2:Nat) (0:Nat))=(AV.ptr (2:Nat) (2:Nat) (0:Nat))) ∧
 (((AV.ptr (0:Nat) (2:Nat) (0:Nat))=(AV.ptr (0:Nat) (2:Nat) (0:Nat))) ∧
 (((AV.ptr (1:Nat) (2:Nat) (0:Nat))=(AV.ptr (1:Nat) (2:Nat) (0:Nat))) ∧
 (((AV.int .i64 n_20)=(AV.int .i64 (Nat.cast y_21:Int))) ∧
 True))))))))))))))))))))
else False)))))))
else (∃n_14:Int,(((AV.int .i64 (Nat.cast x_5:Int))=(AV.int .i64 n_14)) ∧
 (∃n_15:Int,(((AV.int .i64 (IntKind.wrap .i64 (n_14+(1:Int))))=(AV.int .i64 n_15)) ∧
 ((True ∧
 ((0:Nat)=(0:Nat))) ∧
 (∃y_16:Nat,((Lf (y_16≤(64:Nat))) ∧
 ((((64:Nat)-y_16)<((64:Nat)-x_5)) ∧
 ((((AV.int .i64 t)::((AV.int .u64 (Nat.cast k:Int))::[]))=((AV.int .i64 t)::((AV.int .u64 (Nat.cast k:Int))::[]))) ∧
 ((((AV.int .i64 (0:Int))::((AV.int .u64 (0:Int))::[]))=((AV.int .i64 (0:Int))::((AV.int .u64 (0:Int))::[]))) ∧
 ((((AV.int .i64 (Prod.fst (markWM t k q)))::((AV.int .u64 (Nat.cast (lowM (Prod.snd (markWM t k q)) x_5):Int))::[]))=((AV.int .i64 (Prod.fst (markWM t k q)))::((AV.int .u64 (Nat.cast (lowM (Prod.snd (markWM t k q)) y_16):Int))::[]))) ∧
 (((AV.int .i64 q)=(AV.int .i64 q)) ∧
 (((AV.ptr (2:Nat) (2:Nat) (0:Nat))=(AV.ptr (2:Nat) (2:Nat) (0:Nat))) ∧
 (((AV.ptr (0:Nat) (2:Nat) (0:Nat))=(AV.ptr (0:Nat) (2:Nat) (0:Nat))) ∧
 (((AV.ptr (1:Nat) (2:Nat) (0:Nat))=(AV.ptr (1:Nat) (2:Nat) (0:Nat))) ∧
 (((AV.int .i64 n_15)=(AV.int .i64 (Nat.cast y_16:Int))) ∧
 True))))))))))))))))))))))))))
else (∃n_9:Int,(((AV.int .i64 (Nat.cast x_5:Int))=(AV.int .i64 n_9)) ∧
 (∃n_10:Int,(((AV.int .i64 (IntKind.wrap .i64 (n_9+(1:Int))))=(AV.int .i64 n_10)) ∧
 ((True ∧
 ((0:Nat)=(0:Nat))) ∧
 (∃y_11:Nat,((Lf (y_11≤(64:Nat))) ∧
 ((((64:Nat)-y_11)<((64:Nat)-x_5)) ∧
 ((((AV.int .i64 t)::((AV.int .u64 (Nat.cast k:Int))::[]))=((AV.int .i64 t)::((AV.int .u64 (Nat.cast k:Int))::[]))) ∧
 ((((AV.int .i64 (0:Int))::((AV.int .u64 (0:Int))::[]))=((AV.int .i64 (0:Int))::((AV.int .u64 (0:Int))::[]))) ∧
 ((((AV.int .i64 (Prod.fst (markWM t k q)))::((AV.int .u64 (Nat.cast (lowM (Prod.snd (markWM t k q)) x_5):Int))::[]))=((AV.int .i64 (Prod.fst (markWM t k q)))::((AV.int .u64 (Nat.cast (lowM (Prod.snd (markWM t k q)) y_11):Int))::[]))) ∧
 (((AV.int .i64 q)=(AV.int .i64 q)) ∧
 (((AV.ptr (2:Nat) (2:Nat) (0:Nat))=(AV.ptr (2:Nat) (2:Nat) (0:Nat))) ∧
 (((AV.ptr (0:Nat) (2:Nat) (0:Nat))=(AV.ptr (0:Nat) (2:Nat) (0:Nat))) ∧
 (((AV.ptr (1:Nat) (2:Nat) (0:Nat))=(AV.ptr (1:Nat) (2:Nat) (0:Nat))) ∧
 (((AV.int .i64 n_10)=(AV.int .i64 (Nat.cast y_11:Int))) ∧
 True)))))))))))))))))
else (∃n_9:Int,(((AV.int .i64 (Nat.cast x_5:Int))=(AV.int .i64 n_9)) ∧
 (∃n_10:Int,(((AV.int .i64 (IntKind.wrap .i64 (n_9+(1:Int))))=(AV.int .i64 n_10)) ∧
 ((True ∧
 ((0:Nat)=(0:Nat))) ∧
 (∃y_11:Nat,((Lf (y_11≤(64:Nat))) ∧
 ((((64:Nat)-y_11)<((64:Nat)-x_5)) ∧
 ((((AV.int .i64 t)::((AV.int .u64 (Nat.cast k:Int))::[]))=((AV.int .i64 t)::((AV.int .u64 (Nat.cast k:Int))::[]))) ∧
 ((((AV.int .i64 (0:Int))::((AV.int .u64 (0:Int))::[]))=((AV.int .i64 (0:Int))::((AV.int .u64 (0:Int))::[]))) ∧
 ((((AV.int .i64 (Prod.fst (markWM t k q)))::((AV.int .u64 (Nat.cast (lowM (Prod.snd (markWM t k q)) x_5):Int))::[]))=((AV.int .i64 (Prod.fst (markWM t k q)))::((AV.int .u64 (Nat.cast (lowM (Prod.snd (markWM t k q)) y_11):Int))::[]))) ∧
 (((AV.int .i64 q)=(AV.int .i64 q)) ∧
 (((AV.ptr (2:Nat) (2:Nat) (0:Nat))=(AV.ptr (2:Nat) (2:Nat) (0:Nat))) ∧
 (((AV.ptr (0:Nat) (2:Nat) (0:Nat))=(AV.ptr (0:Nat) (2:Nat) (0:Nat))) ∧
 (((AV.ptr (1:Nat) (2:Nat) (0:Nat))=(AV.ptr (1:Nat) (2:Nat) (0:Nat))) ∧
 (((AV.int .i64 n_10)=(AV.int .i64 (Nat.cast y_11:Int))) ∧
 True))))))))))))))))))))))
else (∃n_7:Int,(∃n_8:Int,(((AV.agg ((AV.int .i64 (Prod.fst (markWM t k q)))::((AV.int .u64 (Nat.cast (lowM (Prod.snd (markWM t k q)) x_5):Int))::[])))=(AV.agg ((AV.int .i64 n_7)::((AV.int .u64 n_8)::[])))) ∧
 (Q (Out.ret (AV.tup ((AV.agg ((AV.int .i64 n_7)::((AV.int .u64 n_8)::[])))::((AV.int .i64 (0:Int))::[])))) [] (Gh.mk (0:Nat) (0:Nat) [])))))))))))))))))))))):=by kernel_rfl

theorem bitI_nat {k:Nat} {x:Int} (i:Nat) (hx:x=(i:Int)) (hi:i<64):bitIM k x=k.testBit i:=by
 subst hx
 rw[bitIM,decide_eq_true (by omega:(0:Int)≤i),decide_eq_true (by omega:(i:Int)<64),Int.toNat_natCast,bitW_test]
 rfl
/-- the bits of the window with a number -/
theorem mark_bit {t:Int} {k:Nat} {q:Int} (hk:k<18446744073709551616) (hf:freshWM t k q=0) {i:Nat} (hi:i<64) :
  (markWM t k q).2.testBit i=(decide ((markWM t k q).1-i=q)||(decide (0≤(markWM t k q).1-i)&&decide ((markWM t k q).1-i≤t)&&bitIM k (t-((markWM t k q).1-i)))):=by
 obtain ⟨h1,h2,h3⟩:=fresh_parts hf
 have hv:∀j:Nat,j<64→k.testBit j=true→(j:Int)≤t:=fun j hj hb=>by
  rcases ok_parts h1 with ⟨_,rfl⟩ | ⟨p1,p2,p3,p4⟩
  ·simp at hb
  ·refine Int.not_lt.1 fun h => ?_
   have:=(high_zero hk p1).1 p4 j hj h
   rw[bitW_test,hb] at this
   cases this
 by_cases h4:q≤t
 ·have h5:=(h3 h4).1
  rw[markWM,if_pos h4]
  simp only
  rw[Nat.testBit_or,Nat.testBit_two_pow,bitI_nat i (by omega) hi,show decide ((t-q).toNat=i)=decide (t-i=q) from decide_eq_decide.2 (by omega)]
  cases hb:k.testBit i with
  | false=>simp
  | true=>
   have:=hv i hi hb
   rw[decide_eq_true (by omega:0≤t-(i:Int)),decide_eq_true (by omega:t-(i:Int)≤t)]
   simp
 ·rw[markWM,if_neg h4]
  simp only
  rw[show (18446744073709551616:Nat)=2^64 from rfl,Nat.testBit_or,Nat.testBit_mod_two_pow,Nat.testBit_mul_two_pow,show Nat.testBit 1 i=decide (q-(i:Int)=q) by
   rw[show (1:Nat)=2^0 from rfl,Nat.testBit_two_pow]
   exact decide_eq_decide.2 (by omega),decide_eq_true hi,Bool.true_and,Bool.or_comm]
  congr 1
  by_cases h5:t<0
  ·rw[if_pos h5,Nat.zero_testBit,Bool.and_false]
   by_cases h6:0≤q-(i:Int)
   ·rw[decide_eq_false (by omega:¬ q-(i:Int)≤t)];simp
   ·rw[decide_eq_false h6];simp
  ·rw[if_neg h5]
   by_cases h6:q-(i:Int)≤t
   ·rw[show min (q-t).toNat 64=(q-t).toNat by omega,decide_eq_true h6,decide_eq_true (by omega:i≥(q-t).toNat),bitI_nat (i-(q-t).toNat) (by omega) (by omega),Bool.true_and,Bool.and_true]
    cases hb:k.testBit (i-(q-t).toNat) with
    | false=>simp
    | true=>
     have:=hv _ (by omega) hb
     rw[decide_eq_true (by omega:0≤q-(i:Int))];rfl
   ·rw[decide_eq_false h6,decide_eq_false (by omega:¬ i≥min (q-t).toNat 64)]
    simp
theorem low_succ (m i:Nat):lowM m (i+1)=if m.testBit i=true then lowM m i ||| 2^i else lowM m i:=by
 apply Nat.eq_of_testBit_eq
 intro j
 unfold lowM
 split
 ·rename_i h
  rw[Nat.testBit_mod_two_pow,Nat.testBit_or,Nat.testBit_mod_two_pow,Nat.testBit_two_pow]
  by_cases e:i=j
  ·subst e;rw[h];simp
  ·rw[decide_eq_false e,show decide (j<i+1)=decide (j<i) from decide_eq_decide.2 (by omega)];simp
 ·rename_i h
  rw[Nat.testBit_mod_two_pow,Nat.testBit_mod_two_pow]
  by_cases e:i=j
  ·subst e;rw[show m.testBit i=false by simpa using h];simp
  ·rw[show decide (j<i+1)=decide (j<i) from decide_eq_decide.2 (by omega)]
theorem low_lt (m i:Nat) (hi:i≤64):lowM m i<18446744073709551616:=
 Nat.lt_of_lt_of_le (Nat.mod_lt _ (Nat.two_pow_pos i)) (Nat.pow_le_pow_right (n:=2) (by omega) hi)
theorem markR_run (t:Int) (k:Nat) (q:Int) (hk:k<18446744073709551616) (ht : -9223372036854775808≤t∧t≤9223372036854775807) (hqr : -9223372036854775808≤q∧q≤9223372036854775807) (Q:Out→List Blk→Gh→Prop)
  (hq:Q (.ret (.tup [.agg [.int .i64 (markRM t k q).1.1,.int .u64 ((markRM t k q).1.2:Nat)],.int .i64 (markRM t k q).2])) [] {}):∃hv hb,goal_23 hv hb t k q Q:=by
 obtain ⟨hv,hb',e⟩:∃hv hb,goal_23 hv hb t k q Q=_:=⟨_,_,vc_23 t k q Q⟩
 refine ⟨hv,hb',e.mpr ?_⟩
 clear e
 refine aggW2 ⟨k,⟨rfl,hk,ht,hqr⟩, ?_⟩
 rintro e ⟨rfl⟩
 refine splitNE (fun h => ?_) (fun hf => ?_)
 ·rw[markRM,if_pos h] at hq;exact hq
 rw[markRM,if_neg (by simp[hf])] at hq
 obtain ⟨h1,h2,h3⟩:=fresh_parts hf
 have htr : -1≤t∧t<281474976710656:=by rcases ok_parts h1 with h | h<;>omega
 have hT:imax t q=(markWM t k q).1:=by unfold imax markWM;split<;>split<;>first | rfl | (simp only;omega)
 have hTr : -1≤(markWM t k q).1∧(markWM t k q).1<281474976710656:=by unfold markWM;split<;>simp only<;>omega
 have hbit:=fun i (hi:i<64)=>mark_bit (i:=i) hk hf hi
 have hml:=mark_lt hk hf
 generalize markWM t k q=M at *
 have hM64:lowM M.2 64=M.2:=Nat.mod_eq_of_lt hml
 rw[hT]
 refine ⟨_,rfl,⟨0,⟨by omega⟩,rfl,rfl,by rw[show lowM M.2 0=0 from Nat.mod_one _];rfl,rfl,rfl,rfl,rfl,rfl,trivial⟩, ?_⟩
 rintro i ⟨hi⟩
 refine ⟨_,rfl,splitD (fun h4 => ?_) (fun h4 => ?_)⟩
 ·have hlt:i<64:=by omega
  have hb:=hbit i hlt
  have hls:=low_succ M.2 i
  have hl0:=low_lt M.2 i hi
  have hl1:=low_lt M.2 (i+1) (by omega)
  have hp:=two_lt hlt
  have h2i:(1:Int)*(2:Int)^(min (Int.toNat (i:Int)) 64)=((2^i:Nat):Int):=by rw[Int.one_mul,show min (Int.toNat (i:Int)) 64=i by omega];norm_cast
  generalize 2^i=P at *
  -- a bit is set
  have set:M.2.testBit i=true→lowM M.2 i ||| P=lowM M.2 (i+1):=fun h=>by rw[hls,if_pos h]
  have keep:M.2.testBit i=false→lowM M.2 i=lowM M.2 (i+1):=fun h=>by rw[hls,if_neg (by rw[h];simp)]
  have hpm:∀p:Nat,p<18446744073709551616→Int.toNat ((p:Int)%18446744073709551616)=p:=fun p h=>by omega
  have hw:IntKind.wrap .u64 (i:Int)=(i:Int):=by show (i:Int)%18446744073709551616=i;omega
  refine ⟨_,rfl,wrapI (by omega) (by omega) (splitE (fun h5 => ?_) (fun h5=>splitD (fun h6=>splitD (fun h7=>aggW2 (wrapI (by omega) (by omega) ⟨k,⟨rfl,hk⟩, ?_⟩)) (fun h7 => ?_)) (fun h6 => ?_)))⟩
  ·rw[decide_eq_true h5,Bool.true_or] at hb
   have hs:=set hb
   refine ⟨_,rfl,_,rfl, ?_⟩
   rw[hw]
   refine ⟨_,rfl,ckI (by simp) ?_⟩
   rw[h2i]
   refine wrapW hp ?_
   rw[show Int.toNat (((lowM M.2 i:Nat):Int)%18446744073709551616)=lowM M.2 i by omega,hpm P hp,hs]
   exact wrapW hl1 ⟨_,rfl,wrapI (by omega) (by omega) ⟨⟨trivial,rfl⟩,i+1,⟨by omega⟩,by omega,rfl,rfl,rfl,rfl,rfl,rfl,rfl,rfl,trivial⟩⟩
  ·rintro b ⟨rfl⟩
   rw[decide_eq_false h5,decide_eq_true h6,decide_eq_true h7,Bool.false_or,Bool.true_and,Bool.true_and] at hb
   rw[←hb]
   cases hbv:M.2.testBit i with
   | true=>
    rw[cond_true]
    have hs:=set hbv
    refine ⟨_,rfl,_,rfl, ?_⟩
    rw[hw]
    refine ⟨_,rfl,ckI (by simp) ?_⟩
    rw[h2i]
    refine wrapW hp ?_
    rw[show Int.toNat (((lowM M.2 i:Nat):Int)%18446744073709551616)=lowM M.2 i by omega,hpm P hp,hs]
    exact wrapW hl1 ⟨_,rfl,wrapI (by omega) (by omega) ⟨⟨trivial,rfl⟩,i+1,⟨by omega⟩,by omega,rfl,rfl,rfl,rfl,rfl,rfl,rfl,rfl,trivial⟩⟩
   | false=>
    rw[cond_false]
    exact ⟨_,rfl,wrapI (by omega) (by omega) ⟨⟨trivial,rfl⟩,i+1,⟨by omega⟩,by omega,rfl,rfl,by rw[keep hbv],rfl,rfl,rfl,rfl,rfl,trivial⟩⟩
  ·rw[decide_eq_false h5,decide_eq_false h7,Bool.and_false,Bool.false_and,Bool.false_or] at hb
   exact ⟨_,rfl,wrapI (by omega) (by omega) ⟨⟨trivial,rfl⟩,i+1,⟨by omega⟩,by omega,rfl,rfl,by rw[keep hb],rfl,rfl,rfl,rfl,rfl,trivial⟩⟩
  ·rw[decide_eq_false h5,decide_eq_false h6,Bool.false_and,Bool.false_and,Bool.false_or] at hb
   exact ⟨_,rfl,wrapI (by omega) (by omega) ⟨⟨trivial,rfl⟩,i+1,⟨by omega⟩,by omega,rfl,rfl,by rw[keep hb],rfl,rfl,rfl,rfl,rfl,trivial⟩⟩
 ·obtain rfl:i=64:=by omega
  rw[hM64]
  exact aggW2 hq
theorem markR_ok:ValidF Tryz.prog gl0 48 cMark:=by
 refine valid_flat (enters_of (by kernel_rfl)) gl0_noY fun args H Q hc => ?_
 unfold cMark at hc
 split at hc
 ·rename_i t u q
  obtain ⟨k,⟨rfl,h1,h2,h3⟩,hq⟩:=hc
  obtain ⟨hv,hb',h⟩:=markR_run t k q h1 h2 h3 (Q:=fun o H' _=>H'=[]∧(∃v,o=.ret v∧old 0 v=true∧noY v=true)∧Q o H) ⟨rfl,⟨_,rfl,rfl,rfl⟩,hq _ _ _ ⟨rfl⟩⟩
  exact ⟨rfl,rfl,_,1000,envFor04 smFW_ok _ _ _,rfl,h⟩
 ·exact hc.elim
end Go.Proofs.YtiholnebhmjbjaaGreat
