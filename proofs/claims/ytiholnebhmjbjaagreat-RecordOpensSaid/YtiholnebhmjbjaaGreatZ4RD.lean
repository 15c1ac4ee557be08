/-
  Chapter 4: the reference's prime; the goal of rest.
-/
import Derived.Test.YtiholnebhmjbjaaGreatZ4RC
set_option linter.unusedSimpArgs false
set_option linter.unusedVariables false
namespace Go.Proofs.YtiholnebhmjbjaaGreat
open Go.RowKit
set_option maxRecDepth 1000000

def primeLM:List Nat:=[251,255,255,255,255,255,255,255,255,255,255,255,255,255,255,255,3]
theorem val_prime:valNM primeLM=pM:=by decide +kernel
noncomputable def goal_55 (hv:Nat→Option Pa) (hb:Nat→Option Bool) (Q:Out→List Blk→Gh→Prop):Prop:=
 callx { e04 sm0 (fun _=>none) hv hb with hz:=fun k=>Nat.beq k 446473||Nat.beq k 446476 } (wpx { e04 sm0 (fun _=>none) hv hb with hz:=fun k=>Nat.beq k 446473||Nat.beq k 446476 } 1000) 109 [] [] {} Q
theorem vc_55 (Q:Out→List Blk→Gh→Prop):goal_55 (lookV []) (lookB []) Q=(
(Q (Out.ret (AV.sl (1:Nat) (17:Nat) (0:Nat) (17:Nat) (1:Nat))) ((Blk.mk BK.exact true ((AV.int .i64 (251:Int))::[]))::((Blk.mk BK.grow true ((AV.int .i64 (251:Int))::((AV.int .i64 (255:Int))::((AV.int .i64 (255:Int))::((AV.int .i64 (255:Int))::((AV.int .i64 (255:Int))::((AV.int .i64 (255:Int))::((AV.int .i64 (255:Int))::((AV.int .i64 (255:Int))::((AV.int .i64 (255:Int))::((AV.int .i64 (255:Int))::((AV.int .i64 (255:Int))::((AV.int .i64 (255:Int))::((AV.int .i64 (255:Int))::((AV.int .i64 (255:Int))::((AV.int .i64 (255:Int))::((AV.int .i64 (255:Int))::((AV.int .i64 (3:Int))::[]))))))))))))))))))::[])) (Gh.mk (0:Nat) (0:Nat) []))):=by kernel_rfl

def cPrime:Con
 | [],H,K=>∀l,Lf (l=primeLM)→K (.ret (.lst 0 (cellsNM l) l.length 1)) H
 | _,_,_=>False
theorem prime_ok:ValidF Tryz.prog gl0 109 cPrime:=by
 refine valid_frz (enters_of (by kernel_rfl)) gl0_noY 9 (nlR [1]) (wk_nlR _) fun args H Q hc => ?_
 unfold cPrime at hc
 split at hc
 ·refine ⟨rfl,rfl,_,1000, ?_,rfl,(vc_55 _).mpr ⟨_,rfl, ?_⟩⟩
  ·exact ⟨mixed04,names04,tabA_ok,sm0_ok⟩
  ·rw[frz_slf (τ:=0) (d:=7) (id:=1) (tot:=17) (off:=0) (len:=17) (sz:=1) (b:=⟨.grow,true,cellsNM primeLM⟩) (cs:=cellsNM primeLM) rfl rfl (by decide) (by simp) rfl (plain_cellsN _)]
   exact hc primeLM ⟨rfl⟩
 ·exact hc.elim
/-! ## rest -/
def smR:SM:=lookS [(88,cSumV),(109,cPrime),(110,cLessV),(111,cMinusV)]
theorem smR_ok:∀f g,smR f=some g→ValidF Tryz.prog gl0 f g:=lookS_ok _ (by simp only[List.mem_cons,List.not_mem_nil,or_false,forall_eq_or_imp,forall_eq];exact ⟨sum_ok,prime_ok,less_ok,minus_ok⟩)
abbrev X31:=Nat×List Nat
def inv_31 (ta:Nat) (a:List Nat) (s:S):List (List LInv):=match s.tm.get 3 with
 | .lst 0 c n 1=>[[{ α:=X31,pre:=fun p=>Lf (p.1≤8*a.length∧valNM p.2=valNM a/2^p.1%pM∧(∀j,p.2.getD j 0≤255)∧p.2.length≤18),st:=fun p=>⟨mkT [(0,.lst ta (cellsNM a) a.length 1),(3,.lst 0 c n 1),(4,.lst 0 (cellsNM p.2) p.2.length 1),(5,.int .i64 ((p.1:Nat)-1:Int))],[]⟩,mu:=fun p=>p.1 }]]
 | _=>[]
noncomputable def env_31 (hv:Nat→Option Pa) (hb:Nat→Option Bool) (ta:Nat) (a:List Nat):Env := { e04 smR (fun i=>bif Nat.beq i 86000 then some (inv_31 ta a) else none) hv hb with hz:=fun k=>Nat.beq k 352263||Nat.beq k 352287 }
noncomputable def goal_31 (hv:Nat→Option Pa) (hb:Nat→Option Bool) (ta:Nat) (a:List Nat) (Q:Out→List Blk→Gh→Prop):Prop:=
 callx (env_31 hv hb ta a) (wpx (env_31 hv hb ta a) 1000) 86 [.lst ta (cellsNM a) a.length 1] [] {} Q
theorem vc_31 (ta:Nat) (a:List Nat) (Q:Out→List Blk→Gh→Prop):goal_31 (lookV [(352265,.int .i64),(352266,.int .i64),(352267,.int .i64),(352268,.int .i64),(352276,.int .i64),(352277,.int .i64),(352279,.int .i64),(352280,.int .i64),(352281,.int .i64),(352282,.int .u64),(352283,.int .i64),(352284,.int .i64),(352270,.int .i64),(352271,.int .i64)]) (lookB []) ta a Q=(
(∀l_0:(List Nat),((Lf (l_0=primeLM)) →
(∃n_1:Int,(((AV.int .i64 (Nat.cast (List.length a):Int))=(AV.int .i64 n_1)) ∧
 (∃n_2:Int,(((AV.int .i64 (IntKind.wrap .i64 ((8:Int)*n_1)))=(AV.int .i64 n_2)) ∧
 (∃n_3:Int,(((AV.int .i64 (IntKind.wrap .i64 (n_2-(1:Int))))=(AV.int .i64 n_3)) ∧
 ((∃x_4:(Prod Nat (List Nat)),((Lf (((Prod.fst x_4)≤((8:Nat)*(List.length a))) ∧
 (((valNM (Prod.snd x_4))=(((valNM a)/((2:Nat)^(Prod.fst x_4)))%pM)) ∧
 ((∀j_5:Nat,((List.getD (Prod.snd x_4) j_5 (0:Nat))≤(255:Nat))) ∧
 ((List.length (Prod.snd x_4))≤(18:Nat)))))) ∧
 (((AV.lst ta (cellsNM a) (List.length a) (1:Nat))=(AV.lst ta (cellsNM a) (List.length a) (1:Nat))) ∧
 (((AV.lst (0:Nat) (cellsNM l_0) (List.length l_0) (1:Nat))=(AV.lst (0:Nat) (cellsNM l_0) (List.length l_0) (1:Nat))) ∧
 (((AV.int .i64 n_3)=(AV.int .i64 ((Nat.cast (Prod.fst x_4):Int)-(1:Int)))) ∧
 (((AV.lst (0:Nat) ((AV.int .i64 (0:Int))::[]) (1:Nat) (1:Nat))=(AV.lst (0:Nat) (cellsNM (Prod.snd x_4)) (List.length (Prod.snd x_4)) (1:Nat))) ∧
 True)))))) ∧
 (∀x_4:(Prod Nat (List Nat)),((Lf (((Prod.fst x_4)≤((8:Nat)*(List.length a))) ∧
 (((valNM (Prod.snd x_4))=(((valNM a)/((2:Nat)^(Prod.fst x_4)))%pM)) ∧
 ((∀j_5:Nat,((List.getD (Prod.snd x_4) j_5 (0:Nat))≤(255:Nat))) ∧
 ((List.length (Prod.snd x_4))≤(18:Nat)))))) →
(∃n_5:Int,(((AV.int .i64 ((Nat.cast (Prod.fst x_4):Int)-(1:Int)))=(AV.int .i64 n_5)) ∧
 (bif (decide (n_5≥(0:Int))) then (∃a_6:(List Nat),(∃b_7:(List Nat),((Lf ((numK (0:Nat) (cellsNM (Prod.snd x_4)) (List.length (Prod.snd x_4)) a_6) ∧
 (numK (0:Nat) (cellsNM (Prod.snd x_4)) (List.length (Prod.snd x_4)) b_7))) ∧
 (∀l_8:(List Nat),((Lf (((valNM l_8)=((valNM a_6)+(valNM b_7))) ∧
 ((∀j_9:Nat,((List.getD l_8 j_9 (0:Nat))≤(255:Nat))) ∧
 (((List.length l_8)≤((Max.max (List.length a_6) (List.length b_7))+(1:Nat))) ∧
 (((List.length l_8)≤(Max.max (List.length a_6) (List.length b_7))) ∨
 (((256:Nat)^(Max.max (List.length a_6) (List.length b_7)))≤(valNM l_8))))))) →
(∃n_9:Int,(((AV.int .i64 ((Nat.cast (Prod.fst x_4):Int)-(1:Int)))=(AV.int .i64 n_9)) ∧
 (∃n_10:Int,(((AV.int .i64 (IntKind.wrap .i64 (Int.tdiv n_9 (8:Int))))=(AV.int .i64 n_10)) ∧
 (bif (((decide ((0:Int)≤n_10))&&(Nat.blt (Int.toNat n_10) (List.length a)))&&true) then (bif (Nat.blt ((Int.toNat n_10)*(1:Nat)) (List.length (cellsNM a))) then (∃n_11:Int,(((List.getD (cellsNM a) ((Int.toNat n_10)*(1:Nat)) AV.undef)=(AV.int .i64 n_11)) ∧
 (∃n_12:Int,(((AV.int .i64 ((Nat.cast (Prod.fst x_4):Int)-(1:Int)))=(AV.int .i64 n_12)) ∧
 (∃n_13:Int,(((AV.int .i64 (Int.tmod n_12 (8:Int)))=(AV.int .i64 n_13)) ∧
 (∃n_14:Int,(((AV.int .u64 (IntKind.wrap .u64 n_13))=(AV.int .u64 n_14)) ∧
 (bif ((decide ((0:Int)≤n_14))&&true) then (∃n_15:Int,(((AV.int .i64 (Int.fdiv n_11 ((2:Int)^(Min.min (Int.toNat n_14) (64:Nat)))))=(AV.int .i64 n_15)) ∧
 (∃n_16:Int,(((AV.int .i64 (IntKind.wrap .i64 (Nat.cast ((Int.toNat (n_15%(18446744073709551616:Int))) &&& (1:Nat)):Int)))=(AV.int .i64 n_16)) ∧
 (bif (n_16==(1:Int)) then (∃a_17:(List Nat),(∃b_18:(List Nat),((Lf ((numK (0:Nat) (cellsNM l_8) (List.length l_8) a_17) ∧
 (numK (0:Nat) ((AV.int .i64 (1:Int))::[]) (1:Nat) b_18))) ∧
 (∀l_19:(List Nat),((Lf (((valNM l_19)=((valNM a_17)+(valNM b_18))) ∧
 ((∀j_20:Nat,((List.getD l_19 j_20 (0:Nat))≤(255:Nat))) ∧
 (((List.length l_19)≤((Max.max (List.length a_17) (List.length b_18))+(1:Nat))) ∧
 (((List.length l_19)≤(Max.max (List.length a_17) (List.length b_18))) ∨
 (((256:Nat)^(Max.max (List.length a_17) (List.length b_18)))≤(valNM l_19))))))) →
(∃a_20:(List Nat),(∃b_21:(List Nat),((Lf ((numK (0:Nat) (cellsNM l_19) (List.length l_19) a_20) ∧
 (numK (0:Nat) (cellsNM l_0) (List.length l_0) b_21))) ∧
 (∀r_22:Bool,((Lf (r_22=(decide ((valNM a_20)<(valNM b_21))))) →
(bif r_22 then (∃n_23:Int,(((AV.int .i64 ((Nat.cast (Prod.fst x_4):Int)-(1:Int)))=(AV.int .i64 n_23)) ∧
 (∃n_24:Int,(((AV.int .i64 (IntKind.wrap .i64 (n_23-(1:Int))))=(AV.int .i64 n_24)) ∧
 ((True ∧
 ((0:Nat)=(0:Nat))) ∧
 (∃y_25:(Prod Nat (List Nat)),((Lf (((Prod.fst y_25)≤((8:Nat)*(List.length a))) ∧
 (((valNM (Prod.snd y_25))=(((valNM a)/((2:Nat)^(Prod.fst y_25)))%pM)) ∧
 ((∀j_26:Nat,((List.getD (Prod.snd y_25) j_26 (0:Nat))≤(255:Nat))) ∧
 ((List.length (Prod.snd y_25))≤(18:Nat)))))) ∧
 (((Prod.fst y_25)<(Prod.fst x_4)) ∧
 (((AV.lst ta (cellsNM a) (List.length a) (1:Nat))=(AV.lst ta (cellsNM a) (List.length a) (1:Nat))) ∧
 (((AV.lst (0:Nat) (cellsNM l_0) (List.length l_0) (1:Nat))=(AV.lst (0:Nat) (cellsNM l_0) (List.length l_0) (1:Nat))) ∧
 (((AV.int .i64 n_24)=(AV.int .i64 ((Nat.cast (Prod.fst y_25):Int)-(1:Int)))) ∧
 (((AV.lst (0:Nat) (cellsNM l_19) (List.length l_19) (1:Nat))=(AV.lst (0:Nat) (cellsNM (Prod.snd y_25)) (List.length (Prod.snd y_25)) (1:Nat))) ∧
 True))))))))))))
else (∃a_23:(List Nat),(∃b_24:(List Nat),((Lf ((numK (0:Nat) (cellsNM l_19) (List.length l_19) a_23) ∧
 ((numK (0:Nat) (cellsNM l_0) (List.length l_0) b_24) ∧
 ((valNM b_24)≤(valNM a_23))))) ∧
 (∀l_25:(List Nat),((Lf (((valNM l_25)=((valNM a_23)-(valNM b_24))) ∧
 (((List.length l_25)=(List.length a_23)) ∧
 (∀j_26:Nat,((List.getD l_25 j_26 (0:Nat))≤(255:Nat)))))) →
(∃n_26:Int,(((AV.int .i64 ((Nat.cast (Prod.fst x_4):Int)-(1:Int)))=(AV.int .i64 n_26)) ∧
 (∃n_27:Int,(((AV.int .i64 (IntKind.wrap .i64 (n_26-(1:Int))))=(AV.int .i64 n_27)) ∧
 ((True ∧
 ((0:Nat)=(0:Nat))) ∧
 (∃y_28:(Prod Nat (List Nat)),((Lf (((Prod.fst y_28)≤((8:Nat)*(List.length a))) ∧
 (((valNM (Prod.snd y_28))=(((valNM a)/((2:Nat)^(Prod.fst y_28)))%pM)) ∧
 ((∀j_29:Nat,((List.getD (Prod.snd y_28) j_29 (0:Nat))≤(255:Nat))) ∧
 ((List.length (Prod.snd y_28))≤(18:Nat)))))) ∧
 (((Prod.fst y_28)<(Prod.fst x_4)) ∧
 (((AV.lst ta (cellsNM a) (List.length a) (1:Nat))=(AV.lst ta (cellsNM a) (List.length a) (1:Nat))) ∧
 (((AV.lst (0:Nat) (cellsNM l_0) (List.length l_0) (1:Nat))=(AV.lst (0:Nat) (cellsNM l_0) (List.length l_0) (1:Nat))) ∧
 (((AV.int .i64 n_27)=(AV.int .i64 ((Nat.cast (Prod.fst y_28):Int)-(1:Int)))) ∧
 (((AV.lst (0:Nat) (cellsNM l_25) (List.length l_25) (1:Nat))=(AV.lst (0:Nat) (cellsNM (Prod.snd y_28)) (List.length (Prod.snd y_28)) (1:Nat))) ∧
 True))))))))))))))))))))))))))))
else (∃a_17:(List Nat),(∃b_18:(List Nat),((Lf ((numK (0:Nat) (cellsNM l_8) (List.length l_8) a_17) ∧
 (numK (0:Nat) (cellsNM l_0) (List.length l_0) b_18))) ∧
 (∀r_19:Bool,((Lf (r_19=(decide ((valNM a_17)<(valNM b_18))))) →
(bif r_19 then (∃n_20:Int,(((AV.int .i64 ((Nat.cast (Prod.fst x_4):Int)-(1:Int)))=(AV.int .i64 n_20)) ∧
 (∃n_21:Int,(((AV.int .i64 (IntKind.wrap .i64 (n_20-(1:Int))))=(AV.int .i64 n_21)) ∧
 ((True ∧
 ((0:Nat)=(0:Nat))) ∧
 (∃y_22:(Prod Nat (List Nat)),((Lf (((Prod.fst y_22)≤((8:Nat)*(List.length a))) ∧
 (((valNM (Prod.snd y_22))=(((valNM a)/((2:Nat)^(Prod.fst y_22)))%pM)) ∧
 ((∀j_23:Nat,((List.getD (Prod.snd y_22) j_23 (0:Nat))≤(255:Nat))) ∧
 ((List.length (Prod.snd y_22))≤(18:Nat)))))) ∧
 (((Prod.fst y_22)<(Prod.fst x_4)) ∧
 (((AV.lst ta (cellsNM a) (List.length a) (1:Nat))=(AV.lst ta (cellsNM a) (List.length a) (1:Nat))) ∧
 (((AV.lst (0:Nat) (cellsNM l_0) (List.length l_0) (1:Nat))=(AV.lst (0:Nat) (cellsNM l_0) (List.length l_0) (1:Nat))) ∧
 (((AV.int .i64 n_21)=(AV.int .i64 ((Nat.cast (Prod.fst y_22):Int)-(1:Int)))) ∧
 (((AV.lst (0:Nat) (cellsNM l_8) (List.length l_8) (1:Nat))=(AV.lst (0:Nat) (cellsNM (Prod.snd y_22)) (List.length (Prod.snd y_22)) (1:Nat))) ∧
 True))))))))))))
else (∃a_20:(List Nat),(∃b_21:(List Nat),((Lf ((numK (0:Nat) (cellsNM l_8) (List.length l_8) a_20) ∧
 ((numK (0:Nat) (cellsNM l_0) (List.length l_0) b_21) ∧
 ((valNM b_21)≤(valNM a_20))))) ∧
 (∀l_22:(List Nat),((Lf (((valNM l_22)=((valNM a_20)-(valNM b_21))) ∧
 (((List.length l_22)=(List.length a_20)) ∧
 (∀j_23:Nat,((List.getD l_22 j_23 (0:Nat))≤(255:Nat)))))) →
(∃n_23:Int,(((AV.int .i64 ((Nat.cast (Prod.fst x_4):Int)-(1:Int)))=(AV.int .i64 n_23)) ∧
 (∃n_24:Int,(((AV.int .i64 (IntKind.wrap .i64 (n_23-(1:Int))))=(AV.int .i64 n_24)) ∧
 ((True ∧
 ((0:Nat)=(0:Nat))) ∧
 (∃y_25:(Prod Nat (List Nat)),((Lf (((Prod.fst y_25)≤((8:Nat)*(List.length a))) ∧
 (((valNM (Prod.snd y_25))=(((valNM a)/((2:Nat)^(Prod.fst y_25)))%pM)) ∧
 ((∀j_26:Nat,((List.getD (Prod.snd y_25) j_26 (0:Nat))≤(255:Nat))) ∧
 ((List.length (Prod.snd y_25))≤(18:Nat)))))) ∧
 (((Prod.fst y_25)<(Prod.fst x_4)) ∧
 (((AV.lst ta (cellsNM a) (List.length a) (1:Nat))=(AV.lst ta (cellsNM a) (List.length a) (1:Nat))) ∧
 (((AV.lst (0:Nat) (cellsNM l_0) (List.length l_0) (1:Nat))=(AV.lst (0:Nat) (cellsNM l_0) (List.length l_0) (1:Nat))) ∧
 (((AV.int .i64 n_24)=(AV.int .i64 ((Nat.cast (Prod.fst y_25):Int)-(1:Int)))) ∧
 (((AV.lst (0:Nat) (cellsNM l_22) (List.length l_22) (1:Nat))=(AV.lst (0:Nat) (cellsNM (Prod.snd y_25)) (List.length (Prod.snd y_25)) (1:Nat))) ∧
 True))))))))))))))))))))))))))))
else False)))))))))
else False)
else False))))))))))
else (Q (Out.ret (AV.lst (0:Nat) (cellsNM (Prod.snd x_4)) (List.length (Prod.snd x_4)) (1:Nat))) [] (Gh.mk (0:Nat) (0:Nat) []))))))))))))))))):=by kernel_rfl

theorem bit_at {a:List Nat} (ha:∀j,a.getD j 0≤255) {m:Nat} (hm:m<8*a.length):a.getD (m/8) 0/2^(m%8)%2=valNM a/2^m%2:=by
 have h1:=val_digit a ha (m/8) (by omega)
 have h2:2^m=256^(m/8)*2^(m%8):=by
  rw[show (256:Nat)=2^8 from rfl,←Nat.pow_mul,←Nat.pow_add]
  congr 1
  omega
 rw[h1,h2,←Nat.div_div_eq_div_mul]
 generalize valNM a/256^(m/8)=W
 have h3:m%8<8:=Nat.mod_lt _ (by decide)
 generalize m%8=r at *
 have:r=0∨r=1∨r=2∨r=3∨r=4∨r=5∨r=6∨r=7:=by omega
 rcases this with rfl | rfl | rfl | rfl | rfl | rfl | rfl | rfl<;>simp only[Nat.reducePow]<;>omega
theorem half_step (V m:Nat):V/2^m=2*(V/2^(m+1))+V/2^m%2:=by
 rw[Nat.pow_succ,←Nat.div_div_eq_div_mul]
 omega
theorem mod_step {V W R b v:Nat} (h:V=2*W+b∧R=W%pM∧b≤1) (hv:v=2*R+b) (hge:pM≤v):V%pM=v-pM:=by
 obtain ⟨h1,h2,h3⟩:=h
 have hp:0<pM:=by decide
 have hR:R<pM:=by rw[h2];exact Nat.mod_lt _ hp
 have e:V%pM=v%pM:=by
  rw[h1,hv,h2,Nat.add_mod,Nat.mul_mod,←Nat.mul_mod,←Nat.add_mod]
  rw[Nat.add_mod (2*W),Nat.mul_mod 2 W,Nat.add_mod (2*(W%pM)),Nat.mul_mod 2 (W%pM),Nat.mod_mod]
 rw[e,Nat.mod_eq_sub_mod hge,Nat.mod_eq_of_lt (by unfold pM at *;omega)]
theorem mod_small {V W R b v:Nat} (h:V=2*W+b∧R=W%pM∧b≤1) (hv:v=2*R+b) (hlt:v<pM):V%pM=v:=by
 obtain ⟨h1,h2,h3⟩:=h
 have e:V%pM=v%pM:=by
  rw[h1,hv,h2]
  rw[Nat.add_mod (2*W),Nat.mul_mod 2 W,Nat.add_mod (2*(W%pM)),Nat.mul_mod 2 (W%pM),Nat.mod_mod]
 rw[e,Nat.mod_eq_of_lt hlt]
theorem rest_run (ta:Nat) (a:List Nat) (ha:∀j,a.getD j 0≤255) (hla:a.length≤100000) (Q:Out→List Blk→Gh→Prop)
  (hq:∀l,valNM l=valNM a%pM→(∀j,l.getD j 0≤255)→l.length≤18→Q (.ret (.lst 0 (cellsNM l) l.length 1)) [] {}):∃hv hb,goal_31 hv hb ta a Q:=by
 obtain ⟨hv,hb',e⟩:∃hv hb,goal_31 hv hb ta a Q=_:=⟨_,_,vc_31 ta a Q⟩
 refine ⟨hv,hb',e.mpr ?_⟩
 clear e
 rintro pl ⟨hpl⟩
 have pl255:∀j,pl.getD j 0≤255:=fun j=>by
  rw[hpl]
  by_cases hj:j<17
  ·have:∀j,j<17→primeLM.getD j 0≤255:=by decide
   exact this j hj
  ·rw[List.getD_eq_getElem?_getD,List.getElem?_eq_none (by show 17≤j;omega)];exact Nat.zero_le _
 have vp:valNM pl=pM:=by rw[hpl];exact val_prime
 have lp:pl.length=17:=by rw[hpl];rfl
 have np:numK 0 (cellsNM pl) pl.length pl:=⟨rfl,rfl,pl255,by omega⟩
 clear hpl
 have w64:∀x:Int,0≤x→x≤1000000000→IntKind.wrap .i64 x=x:=fun x h1 h2=>by rw[IntKind.wrap_i64];omega
 have m64:∀x:Nat,x≤1000000000→((x:Int)%18446744073709551616).toNat=x:=fun x h=>mod64 (by omega)
 refine ⟨_,rfl,wrapI (by omega) (by omega) (wrapI (by omega) (by omega) ⟨⟨(8*a.length,[0]),⟨Nat.le_refl _, ?_,fun j => ?_,by simp⟩,rfl,rfl,rfl,rfl,trivial⟩, ?_⟩)⟩
 ·obtain ⟨S,s1,s2⟩:=val_split a.length a ha
  rw[List.drop_of_length_le (by omega)] at s1
  simp only[valNM,Nat.mul_zero,Nat.add_zero] at s1
  show 0=valNM a/2^(8*a.length)%pM
  rw[Nat.pow_mul,show (2:Nat)^8=256 from rfl,Nat.div_eq_of_lt (by omega),Nat.zero_mod]
 ·cases j<;>simp
 rintro ⟨n,l⟩ ⟨g1,g2,g3,g4⟩
 dsimp only at *
 cases n with
 | zero=>
  refine ⟨_,rfl,splitD (fun h=>by exfalso;omega) (fun _=>hq l ?_ g3 g4)⟩
  rw[g2,Nat.pow_zero,Nat.div_one]
 | succ m=>
  have e1:((m+1:Nat):Int)-1=(m:Int):=by omega
  have td:Int.tdiv (m:Int) 8=((m/8:Nat):Int):=by rw[Int.tdiv_eq_ediv_of_nonneg (by omega)];omega
  have tm:Int.tmod (m:Int) 8=((m%8:Nat):Int):=by rw[Int.tmod_eq_emod_of_nonneg (by omega)];omega
  have pM0:0<pM:=by decide
  have gp:valNM l<pM:=by rw[g2];exact Nat.mod_lt _ pM0
  have bt:=bit_at ha (m:=m) (by omega)
  have hs:=half_step (valNM a) m
  have hb2:valNM a/2^m%2≤1:=by omega
  have hrem:valNM a/2^m=2*(valNM a/2^(m+1))+valNM a/2^m%2∧valNM l=valNM a/2^(m+1)%pM∧valNM a/2^m%2≤1:=⟨hs,g2,hb2⟩
  clear hs
  generalize hbit:valNM a/2^m%2=bit at *
  have big:(256:Nat)^18=22300745198530623141535718272648361505980416:=by decide
  rw[e1]
  refine ⟨_,rfl,splitD (fun _=>⟨l,l,⟨⟨rfl,rfl,g3,by omega⟩,⟨rfl,rfl,g3,by omega⟩⟩, ?_⟩) (fun h=>by exfalso;omega)⟩
  rintro l1 ⟨q1,q2,q3,q4⟩
  have n1:l1.length≤18:=by
   rw[Nat.max_self] at q3 q4
   by_cases h18:l.length=18
   ·rw[h18,big] at q4
    unfold pM at gp
    omega
   ·omega
  have hx:=ha (m/8)
  have hxd:a.getD (m/8) 0/2^(m%8)≤255:=Nat.le_trans (Nat.div_le_self _ _) hx
  refine ⟨_,rfl, ?_⟩
  rw[td]
  refine wrapI (by omega) (by omega) (ckI (by simp;omega) (ckI (by simp[cellsN_len];omega) (getN (j:=m/8) (by omega) (by rw[Int.toNat_natCast,Nat.mul_one]) ⟨_,rfl,_,rfl, ?_⟩)))
  rw[tm]
  refine wrapU (x:=m%8) (by omega) (ckI (by rw[Bool.and_true];exact decide_eq_true (by omega)) ⟨_,rfl, ?_⟩) rfl
  rw[fdivN (a.getD (m/8) 0) (2^min ((m%8:Nat):Int).toNat 64) (2^(m%8)) (by rw[Int.toNat_natCast,Nat.min_eq_left (by omega),Int.natCast_pow];rfl),m64 _ (by omega),Nat.and_one_is_mod,bt,w64 ((bit:Nat):Int) (by omega) (by omega)]
  refine ⟨_,rfl,splitE (fun hb1=>⟨l1,[1],⟨⟨rfl,rfl,q2,by omega⟩,⟨rfl,rfl,fun j=>by cases j<;>simp,by simp⟩⟩, ?_⟩) (fun hb1 => ?_)⟩
  ·rintro l2 ⟨r1,r2,r3,r4⟩
   have v1:valNM [1]=1:=by simp[valNM]
   have n2:l2.length≤18:=by
    rw[List.length_singleton] at r3 r4
    by_cases h18:l1.length=18
    ·rw[h18,show max 18 1=18 from rfl,big] at r4
     rw[h18,show max 18 1=18 from rfl] at r3
     unfold pM at gp
     omega
    ·omega
   refine ⟨l2,pl,⟨⟨rfl,rfl,by assumption,by omega⟩,np⟩, ?_⟩
   rintro r ⟨hr⟩
   cases r
   ·have hge:pM≤valNM l2:=by
     have:=of_decide_eq_false hr.symm
     omega
    refine ⟨l2,pl,⟨⟨rfl,rfl,by assumption,by omega⟩,np,by omega⟩, ?_⟩
    rintro z ⟨z1,z2,z3⟩
    refine ⟨_,rfl,wrapI (by omega) (by omega) ⟨⟨trivial,rfl⟩,(m,z),⟨by dsimp only;omega, ?_,z3,by dsimp only;omega⟩,by dsimp only;omega,rfl,rfl,rfl,rfl,trivial⟩⟩
    dsimp only
    rw[z1,vp]
    exact (mod_step hrem (by omega) hge).symm
   ·have hlt:valNM l2<pM:=by
     have:=of_decide_eq_true hr.symm
     omega
    refine ⟨_,rfl,wrapI (by omega) (by omega) ⟨⟨trivial,rfl⟩,(m,l2),⟨by dsimp only;omega, ?_,by assumption,by dsimp only;omega⟩,by dsimp only;omega,rfl,rfl,rfl,rfl,trivial⟩⟩
    dsimp only
    exact (mod_small hrem (by omega) hlt).symm
  ·have hb0:bit=0:=by omega
   refine ⟨l1,pl,⟨⟨rfl,rfl,by assumption,by omega⟩,np⟩, ?_⟩
   rintro r ⟨hr⟩
   cases r
   ·have hge:pM≤valNM l1:=by
     have:=of_decide_eq_false hr.symm
     omega
    refine ⟨l1,pl,⟨⟨rfl,rfl,by assumption,by omega⟩,np,by omega⟩, ?_⟩
    rintro z ⟨z1,z2,z3⟩
    refine ⟨_,rfl,wrapI (by omega) (by omega) ⟨⟨trivial,rfl⟩,(m,z),⟨by dsimp only;omega, ?_,z3,by dsimp only;omega⟩,by dsimp only;omega,rfl,rfl,rfl,rfl,trivial⟩⟩
    dsimp only
    rw[z1,vp]
    exact (mod_step hrem (by omega) hge).symm
   ·have hlt:valNM l1<pM:=by
     have:=of_decide_eq_true hr.symm
     omega
    refine ⟨_,rfl,wrapI (by omega) (by omega) ⟨⟨trivial,rfl⟩,(m,l1),⟨by dsimp only;omega, ?_,by assumption,by dsimp only;omega⟩,by dsimp only;omega,rfl,rfl,rfl,rfl,trivial⟩⟩
    dsimp only
    exact (mod_small hrem (by omega) hlt).symm
def cRest:Con
 | [.lst ta ca na 1],H,K=>∃a:List Nat,Lf (numK ta ca na a)∧∀l:List Nat,Lf (valNM l=valNM a%pM∧(∀j,l.getD j 0≤255)∧l.length≤18)→K (.ret (.lst 0 (cellsNM l) l.length 1)) H
 | _,_,_=>False
theorem rest_raw:ValidF Tryz.prog gl0 86 cRest:=by
 refine valid_frz (enters_of (by kernel_rfl)) gl0_noY 9 (nlR [1]) (wk_nlR _) fun args H Q hc => ?_
 unfold cRest at hc
 split at hc
 ·rename_i ta ca na
  obtain ⟨a,⟨rfl,rfl,ha,hla⟩,hq⟩:=hc
  obtain ⟨hv,hb',h⟩:=rest_run ta a ha hla (fun o H' _=>∃v,o=.ret v∧Q (.ret (nlR [1] (frzV 0 H' 9 v))) H) (fun l h1 h2 h3=>⟨_,rfl,hq l ⟨h1,h2,h3⟩⟩)
  refine ⟨by simp[oldL,old,oldL_N],by simp[noYL,noY,noY_N],_,1000, ?_,rfl,h⟩
  exact ⟨mixed04,names04,tabA_ok,smR_ok⟩
 ·exact hc.elim
def cRestV:Con:=fun args H Q=>lendL [1] H args fun a=>cRest a H Q
theorem rest_ok:ValidF Tryz.prog gl0 86 cRestV:=valid_view rest_raw gl0_noY [1] fun args H Q hc=>by
 unfold cRest at hc
 split at hc
 ·obtain ⟨a,h,hq⟩:=hc
  exact ⟨a,h,fun l hl=>⟨rfl,⟨_,rfl,by simp[noT,noT_cellsN]⟩,hq l hl⟩⟩
 ·exact hc.elim
end Go.Proofs.YtiholnebhmjbjaaGreat
