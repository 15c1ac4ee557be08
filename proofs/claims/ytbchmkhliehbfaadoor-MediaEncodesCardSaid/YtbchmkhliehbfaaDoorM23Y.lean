/-
  Chapter 23: MediaEncodes.
-/
import Derived.Test.YtbchmkhliehbfaaDoorM23X
import Derived.Test.YtbchmkhliehbfaaDoorM23Q
set_option linter.unusedSimpArgs false
set_option linter.unusedVariables false
set_option linter.unusedSectionVars false
namespace Go.Proofs.YtbchmkhliehbfaaDoor
open Go.RowKit
set_option maxRecDepth 1000000

def smY : SM := lookS [(10, cDraft), (11, cBend), (12, cFew), (13, cCheck), (14, cHead), (15, cEncode), (16, cRight), (17, cREnc), (18, cRHead), (19, cTrue)]
theorem smY_ok : ∀ f g, smY f = some g → ValidF Tryd.prog gl0 f g := lookS_ok _ (by simp only [List.mem_cons, List.not_mem_nil, or_false, forall_eq_or_imp, forall_eq]; exact ⟨draft_ok, bend_ok, few_ok, check_ok, head_ok, encode_ok, rright_ok, renc_ok, rhead_ok, works_ok⟩)
noncomputable def goal_3 (hv : Nat → Option Pa) (hb : Nat → Option Bool) (mk : Bool) (ty seq ti ss : Int) (ks : List Int) (ps : List Xt) (pad : Int) (pl : List UInt8) (wa ba na wb bb nb : Int) (mk3 : Bool) (ty3 seq3 ti3 ss3 : Int) (cs3 : List Int) (ex3 : List Xt) (pad3 : Int) (pl3 : List UInt8) (Q : Out → List Blk → Gh → Prop) : Prop :=
  callx (e23 smY (fun _ => none) hv hb) (wpx (e23 smY (fun _ => none) hv hb) 1000) 3 [.agg (draftM mk ty seq ti ss 0 ks 0 ps pad pl), .agg [.int .u8 wa, .int .u8 ba, .int .i64 na, .int .u8 wb, .int .u8 bb, .int .i64 nb], .agg (medM mk3 ty3 seq3 ti3 ss3 0 cs3 0 ex3 pad3 pl3)] [] {} Q
/-- one round of the loop (the residual's own text) -/
def rnd3 (mk : Bool) (ty seq ti ss : Int) (cs : List Int) (ex : List Xt) (pad : Int) (pl : List UInt8) (N : Prop) (Q : Out → List Blk → Gh → Prop) : Prop :=
(∃ cs_75 : (List Int), (∃ ex_76 : (List Xt), ((Lf (((cellsI cs) = (cellsI cs_75)) ∧
 (((List.length cs) = (List.length cs_75)) ∧
 (((cellsXM ex) = (cellsXM ex_76)) ∧
 (((List.length ex) = (List.length ex_76)) ∧
 (((List.length cs_75) ≤ (1000000 : Nat)) ∧
 (((List.length ex_76) ≤ (1000000 : Nat)) ∧
 (dataM ex_76)))))))) ∧
 (∀ r_77 : Int, ((Lf (r_77 = (ite ((rightM ty seq ti ss cs_75 ex_76 pad) = true) (0 : Int) (230 : Int)))) →
(∃ cs_78 : (List Int), (∃ ex_79 : (List Xt), ((Lf ((medK (cellsI cs) (List.length cs) (cellsXM ex) (List.length ex) cs_78 ex_79) ∧
 ((List.length pl) ≤ (1000000000 : Nat)))) ∧
 (∀ s_80 : (List UInt8), (∀ e_81 : Int, ((Lf ((Prod.mk s_80 e_81) = (headRM mk ty seq ti ss cs_78 ex_79 pad pl))) →
(∃ cs_82 : (List Int), (∃ ex_83 : (List Xt), ((Lf ((medK (cellsI cs) (List.length cs) (cellsXM ex) (List.length ex) cs_82 ex_83) ∧
 ((List.length pl) ≤ (1000000000 : Nat)))) ∧
 (∀ s_84 : (List UInt8), (∀ e_85 : Int, ((Lf ((Prod.mk s_84 e_85) = (encRM mk ty seq ti ss cs_82 ex_83 pad pl))) →
(∃ cs_86 : (List Int), (∃ ex_87 : (List Xt), ((Lf (medK (cellsI cs) (List.length cs) (cellsXM ex) (List.length ex) cs_86 ex_87)) ∧
 (∀ b_88 : Bool, ((Lf (b_88 = (rightM ty seq ti ss cs_86 ex_87 pad))) →
(bif b_88 then (bif (r_77 != (0 : Int)) then (Q (Out.ret (AV.bool false)) [] (Gh.mk (0 : Nat) (0 : Nat) []))
else (∃ cs_89 : (List Int), (∃ ex_90 : (List Xt), ((Lf (((medK (cellsI cs) (List.length cs) (cellsXM ex) (List.length ex) cs_89 ex_90) ∧
 ((rightM ty seq ti ss cs_89 ex_90 pad) = true)) ∧
 ((List.length pl) ≤ (1000000000 : Nat)))) ∧
 (∀ s_91 : (List UInt8), ((Lf (s_91 = (encM mk ty seq ti ss cs_89 ex_90 pad pl))) →
(bif ((eqAVL ((AV.bool mk) :: ((AV.int .i64 ty) :: ((AV.int .i64 seq) :: ((AV.int .i64 ti) :: ((AV.int .i64 ss) :: ((AV.lst (0 : Nat) (cellsI cs) (List.length cs) (1 : Nat)) :: ((AV.lst (0 : Nat) (cellsXM ex) (List.length ex) (2 : Nat)) :: ((AV.int .i64 pad) :: ((AV.str pl) :: []))))))))) ((AV.bool mk) :: ((AV.int .i64 ty) :: ((AV.int .i64 seq) :: ((AV.int .i64 ti) :: ((AV.int .i64 ss) :: ((AV.lst (0 : Nat) (cellsI cs) (List.length cs) (1 : Nat)) :: ((AV.lst (0 : Nat) (cellsXM ex) (List.length ex) (2 : Nat)) :: ((AV.int .i64 pad) :: ((AV.str pl) :: [])))))))))) && true) then (∃ cs_92 : (List Int), (∃ ex_93 : (List Xt), ((Lf ((medK (cellsI cs) (List.length cs) (cellsXM ex) (List.length ex) cs_92 ex_93) ∧
 ((rightM ty seq ti ss cs_92 ex_93 pad) = true))) ∧
 (∀ s_94 : (List UInt8), ((Lf (s_94 = (headM mk ty seq ti ss cs_92 ex_93 pad))) →
(∃ n_95 : Int, (((AV.int .i64 (Nat.cast (List.length s_91) : Int)) = (AV.int .i64 n_95)) ∧
 (bif (decide (n_95 > (1200 : Int))) then (bif (e_81 != (3 : Int)) then (Q (Out.ret (AV.bool false)) [] (Gh.mk (0 : Nat) (0 : Nat) []))
else (bif (e_85 != (3 : Int)) then (Q (Out.ret (AV.bool false)) [] (Gh.mk (0 : Nat) (0 : Nat) []))
else (bif (!(eqB s_80 [])) then (Q (Out.ret (AV.bool false)) [] (Gh.mk (0 : Nat) (0 : Nat) []))
else (bif (!(eqB s_84 [])) then (Q (Out.ret (AV.bool false)) [] (Gh.mk (0 : Nat) (0 : Nat) []))
else N))))
else (bif (e_81 != (0 : Int)) then (Q (Out.ret (AV.bool false)) [] (Gh.mk (0 : Nat) (0 : Nat) []))
else (bif (e_85 != (0 : Int)) then (Q (Out.ret (AV.bool false)) [] (Gh.mk (0 : Nat) (0 : Nat) []))
else (bif (!(eqB s_80 s_94)) then (Q (Out.ret (AV.bool false)) [] (Gh.mk (0 : Nat) (0 : Nat) []))
else (bif (!(eqB s_84 s_91)) then (Q (Out.ret (AV.bool false)) [] (Gh.mk (0 : Nat) (0 : Nat) []))
else N))))))))))))
else False)))))))
else (bif (r_77 != (230 : Int)) then (Q (Out.ret (AV.bool false)) [] (Gh.mk (0 : Nat) (0 : Nat) []))
else (bif (e_81 != (230 : Int)) then (Q (Out.ret (AV.bool false)) [] (Gh.mk (0 : Nat) (0 : Nat) []))
else (bif (e_85 != (230 : Int)) then (Q (Out.ret (AV.bool false)) [] (Gh.mk (0 : Nat) (0 : Nat) []))
else (bif (!(eqB s_80 [])) then (Q (Out.ret (AV.bool false)) [] (Gh.mk (0 : Nat) (0 : Nat) []))
else (bif (!(eqB s_84 [])) then (Q (Out.ret (AV.bool false)) [] (Gh.mk (0 : Nat) (0 : Nat) []))
else N))))))))))))))))))))))))))))
theorem vc_3 (mk : Bool) (ty : Int) (seq : Int) (ti : Int) (ss : Int) (ks : List Int) (ps : List Xt) (pad : Int) (pl : List UInt8) (wa : Int) (ba : Int) (na : Int) (wb : Int) (bb : Int) (nb : Int) (mk3 : Bool) (ty3 : Int) (seq3 : Int) (ti3 : Int) (ss3 : Int) (cs3 : List Int) (ex3 : List Xt) (pad3 : Int) (pl3 : List UInt8) (Q : Out → List Blk → Gh → Prop) : goal_3 (lookV [(12346, .int .i64)]) (lookB []) mk ty seq ti ss ks ps pad pl wa ba na wb bb nb mk3 ty3 seq3 ti3 ss3 cs3 ex3 pad3 pl3 Q = (
(∃ ks_0 : (List Int), (∃ ps_1 : (List Xt), ((Lf ((draftK (cells32M ks) (List.length ks) (cellsPcM ps) (List.length ps) ks_0 ps_1) ∧
 ((((0 : Int) ≤ ty) ∧
 (ty ≤ (255 : Int))) ∧
 ((((0 : Int) ≤ seq) ∧
 (seq ≤ (65535 : Int))) ∧
 ((((0 : Int) ≤ ti) ∧
 (ti ≤ (4294967295 : Int))) ∧
 ((((0 : Int) ≤ ss) ∧
 (ss ≤ (4294967295 : Int))) ∧
 (((0 : Int) ≤ pad) ∧
 (pad ≤ (255 : Int))))))))) ∧
 (∀ ty'_2 : Int, (∀ cs_3 : (List Int), (∀ ex_4 : (List Xt), (∀ p'_5 : (List UInt8), ((Lf ((ty'_2 = (ty % (128 : Int))) ∧
 ((cs_3 = (List.take (3 : Nat) ks_0)) ∧
 ((ex_4 = (pcsM (0 : Int) (List.take (4 : Nat) ps_1))) ∧
 (p'_5 = (List.take (60 : Nat) pl)))))) →
(∃ cs_6 : (List Int), (∃ ex_7 : (List Xt), ((Lf (((cellsI cs_3) = (cellsI cs_6)) ∧
 (((List.length cs_3) = (List.length cs_6)) ∧
 (((cellsXM ex_4) = (cellsXM ex_7)) ∧
 (((List.length ex_4) = (List.length ex_7)) ∧
 ((((0 : Int) ≤ ba) ∧
 (ba ≤ (255 : Int))) ∧
 (((List.length cs_6) ≤ (1000 : Nat)) ∧
 (((List.length ex_7) ≤ (1000 : Nat)) ∧
 ((∀ x_8 : Xt, ((Membership.mem ex_7 x_8) →
((List.length (Prod.snd x_8)) ≤ (300 : Nat)))) ∧
 ((List.length p'_5) ≤ (1300 : Nat))))))))))) ∧
 (∀ mk'_8 : Bool, (∀ ty'_9 : Int, (∀ seq'_10 : Int, (∀ ti'_11 : Int, (∀ ss'_12 : Int, (∀ cs'_13 : (List Int), (∀ ex'_14 : (List Xt), (∀ pad'_15 : Int, (∀ pl'_16 : (List UInt8), ((Lf (((List.length cs'_13) ≤ ((List.length cs_6) + (1 : Nat))) ∧
 (((List.length ex'_14) ≤ ((List.length ex_7) + (1 : Nat))) ∧
 ((∀ x_17 : Xt, ((Membership.mem ex'_14 x_17) →
((List.length (Prod.snd x_17)) ≤ (300 : Nat)))) ∧
 ((List.length pl'_16) ≤ (1300 : Nat)))))) →
(∃ cs_17 : (List Int), (∃ ex_18 : (List Xt), ((Lf (((cellsI cs'_13) = (cellsI cs_17)) ∧
 (((List.length cs'_13) = (List.length cs_17)) ∧
 (((cellsXM ex'_14) = (cellsXM ex_18)) ∧
 (((List.length ex'_14) = (List.length ex_18)) ∧
 ((((0 : Int) ≤ bb) ∧
 (bb ≤ (255 : Int))) ∧
 (((List.length cs_17) ≤ (1000 : Nat)) ∧
 (((List.length ex_18) ≤ (1000 : Nat)) ∧
 ((∀ x_19 : Xt, ((Membership.mem ex_18 x_19) →
((List.length (Prod.snd x_19)) ≤ (300 : Nat)))) ∧
 ((List.length pl'_16) ≤ (1300 : Nat))))))))))) ∧
 (∀ mk'_19 : Bool, (∀ ty'_20 : Int, (∀ seq'_21 : Int, (∀ ti'_22 : Int, (∀ ss'_23 : Int, (∀ cs'_24 : (List Int), (∀ ex'_25 : (List Xt), (∀ pad'_26 : Int, (∀ pl'_27 : (List UInt8), ((Lf (((List.length cs'_24) ≤ ((List.length cs_17) + (1 : Nat))) ∧
 (((List.length ex'_25) ≤ ((List.length ex_18) + (1 : Nat))) ∧
 ((∀ x_28 : Xt, ((Membership.mem ex'_25 x_28) →
((List.length (Prod.snd x_28)) ≤ (300 : Nat)))) ∧
 ((List.length pl'_27) ≤ (1300 : Nat)))))) →
(bif ((eqAVL ((AV.bool mk3) :: ((AV.int .i64 ty3) :: ((AV.int .i64 seq3) :: ((AV.int .i64 ti3) :: ((AV.int .i64 ss3) :: ((AV.lst (0 : Nat) (cellsI cs3) (List.length cs3) (1 : Nat)) :: ((AV.lst (0 : Nat) (cellsXM ex3) (List.length ex3) (2 : Nat)) :: ((AV.int .i64 pad3) :: ((AV.str pl3) :: []))))))))) ((AV.bool mk3) :: ((AV.int .i64 ty3) :: ((AV.int .i64 seq3) :: ((AV.int .i64 ti3) :: ((AV.int .i64 ss3) :: ((AV.lst (0 : Nat) (cellsI cs3) (List.length cs3) (1 : Nat)) :: ((AV.lst (0 : Nat) (cellsXM ex3) (List.length ex3) (2 : Nat)) :: ((AV.int .i64 pad3) :: ((AV.str pl3) :: [])))))))))) && true) then (bif ((eqAVL ((AV.bool mk'_8) :: ((AV.int .i64 ty'_9) :: ((AV.int .i64 seq'_10) :: ((AV.int .i64 ti'_11) :: ((AV.int .i64 ss'_12) :: ((AV.lst (0 : Nat) (cellsI cs'_13) (List.length cs'_13) (1 : Nat)) :: ((AV.lst (0 : Nat) (cellsXM ex'_14) (List.length ex'_14) (2 : Nat)) :: ((AV.int .i64 pad'_15) :: ((AV.str pl'_16) :: []))))))))) ((AV.bool mk'_8) :: ((AV.int .i64 ty'_9) :: ((AV.int .i64 seq'_10) :: ((AV.int .i64 ti'_11) :: ((AV.int .i64 ss'_12) :: ((AV.lst (0 : Nat) (cellsI cs'_13) (List.length cs'_13) (1 : Nat)) :: ((AV.lst (0 : Nat) (cellsXM ex'_14) (List.length ex'_14) (2 : Nat)) :: ((AV.int .i64 pad'_15) :: ((AV.str pl'_16) :: [])))))))))) && true) then (bif ((eqAVL ((AV.bool mk) :: ((AV.int .i64 ty'_2) :: ((AV.int .i64 seq) :: ((AV.int .i64 ti) :: ((AV.int .i64 ss) :: ((AV.lst (0 : Nat) (cellsI cs_3) (List.length cs_3) (1 : Nat)) :: ((AV.lst (0 : Nat) (cellsXM ex_4) (List.length ex_4) (2 : Nat)) :: ((AV.int .i64 pad) :: ((AV.str p'_5) :: []))))))))) ((AV.bool mk) :: ((AV.int .i64 ty'_2) :: ((AV.int .i64 seq) :: ((AV.int .i64 ti) :: ((AV.int .i64 ss) :: ((AV.lst (0 : Nat) (cellsI cs_3) (List.length cs_3) (1 : Nat)) :: ((AV.lst (0 : Nat) (cellsXM ex_4) (List.length ex_4) (2 : Nat)) :: ((AV.int .i64 pad) :: ((AV.str p'_5) :: [])))))))))) && true) then (∃ cs_28 : (List Int), (∃ ex_29 : (List Xt), ((Lf (((cellsI cs3) = (cellsI cs_28)) ∧
 (((List.length cs3) = (List.length cs_28)) ∧
 (((cellsXM ex3) = (cellsXM ex_29)) ∧
 ((List.length ex3) = (List.length ex_29)))))) ∧
 (∀ cs'_30 : (List Int), (∀ ex'_31 : (List Xt), (∀ pl'_32 : (List UInt8), ((Lf (((List.length cs'_30) ≤ (17 : Nat)) ∧
 (((List.length ex'_31) ≤ (17 : Nat)) ∧
 ((∀ x_33 : Xt, ((Membership.mem ex'_31 x_33) →
((List.length (Prod.snd x_33)) ≤ (300 : Nat)))) ∧
 ((List.length pl'_32) ≤ (1300 : Nat)))))) →
(bif ((eqAVL ((AV.bool mk'_8) :: ((AV.int .i64 ty'_9) :: ((AV.int .i64 seq'_10) :: ((AV.int .i64 ti'_11) :: ((AV.int .i64 ss'_12) :: ((AV.lst (0 : Nat) (cellsI cs'_13) (List.length cs'_13) (1 : Nat)) :: ((AV.lst (0 : Nat) (cellsXM ex'_14) (List.length ex'_14) (2 : Nat)) :: ((AV.int .i64 pad'_15) :: ((AV.str pl'_16) :: []))))))))) ((AV.bool mk'_8) :: ((AV.int .i64 ty'_9) :: ((AV.int .i64 seq'_10) :: ((AV.int .i64 ti'_11) :: ((AV.int .i64 ss'_12) :: ((AV.lst (0 : Nat) (cellsI cs'_13) (List.length cs'_13) (1 : Nat)) :: ((AV.lst (0 : Nat) (cellsXM ex'_14) (List.length ex'_14) (2 : Nat)) :: ((AV.int .i64 pad'_15) :: ((AV.str pl'_16) :: [])))))))))) && true) then (bif ((eqAVL ((AV.bool mk) :: ((AV.int .i64 ty'_2) :: ((AV.int .i64 seq) :: ((AV.int .i64 ti) :: ((AV.int .i64 ss) :: ((AV.lst (0 : Nat) (cellsI cs_3) (List.length cs_3) (1 : Nat)) :: ((AV.lst (0 : Nat) (cellsXM ex_4) (List.length ex_4) (2 : Nat)) :: ((AV.int .i64 pad) :: ((AV.str p'_5) :: []))))))))) ((AV.bool mk) :: ((AV.int .i64 ty'_2) :: ((AV.int .i64 seq) :: ((AV.int .i64 ti) :: ((AV.int .i64 ss) :: ((AV.lst (0 : Nat) (cellsI cs_3) (List.length cs_3) (1 : Nat)) :: ((AV.lst (0 : Nat) (cellsXM ex_4) (List.length ex_4) (2 : Nat)) :: ((AV.int .i64 pad) :: ((AV.str p'_5) :: [])))))))))) && true) then (rnd3 mk ty'_2 seq ti ss cs_3 ex_4 pad p'_5 (rnd3 mk'_8 ty'_9 seq'_10 ti'_11 ss'_12 cs'_13 ex'_14 pad'_15 pl'_16 (rnd3 mk'_19 ty'_20 seq'_21 ti'_22 ss'_23 cs'_24 ex'_25 pad'_26 pl'_27 (rnd3 mk3 ty3 seq3 ti3 ss3 cs'_30 ex'_31 pad3 pl'_32 (Q (Out.ret (AV.bool true)) [] (Gh.mk (0 : Nat) (0 : Nat) [])) Q) Q) Q) Q)
else False)
else False))))))))
else False)
else False)
else False)))))))))))))))))))))))))))))))))))) := by kernel_rfl


theorem enc_total {mk : Bool} {ty seq ti ss : Int} {cs : List Int} {ex : List Xt} {pad : Int} {pl : List UInt8} (h : 0 ≤ pad) : ((encM mk ty seq ti ss cs ex pad pl).length : Int) = totalM mk ty seq ti ss cs ex pad pl := by
  rw [encM, totalM, List.length_append, List.length_append, padM]
  split
  · rw [List.length_append, List.length_replicate, put_len]
    simp
    omega
  · simp
    omega
theorem rnd3_ok {mk : Bool} {ty seq ti ss : Int} {cs : List Int} {ex : List Xt} {pad : Int} {pl : List UInt8} {N : Prop} {Q : Out → List Blk → Gh → Prop} (hc : cs.length ≤ 1000) (hx : ex.length ≤ 1000) (hd : ∀ x ∈ ex, x.2.length ≤ 300) (hpl : pl.length ≤ 1300) (hN : N) : rnd3 mk ty seq ti ss cs ex pad pl N Q := by
  have hdd : dataM ex := fun x hx => by have := hd x hx; omega
  have hk : medK (cellsI cs) cs.length (cellsXM ex) ex.length cs ex := ⟨rfl, rfl, rfl, rfl, by omega, by omega, hdd⟩
  unfold rnd3
  refine ⟨cs, ex, ⟨rfl, rfl, rfl, rfl, by omega, by omega, hdd⟩, ?_⟩
  rintro r ⟨hr⟩
  refine ⟨cs, ex, ⟨hk, by omega⟩, ?_⟩
  rintro s e ⟨hs⟩
  refine ⟨cs, ex, ⟨hk, by omega⟩, ?_⟩
  rintro s' e' ⟨hs'⟩
  refine ⟨cs, ex, ⟨hk⟩, ?_⟩
  rintro b ⟨hb⟩
  rw [headRM] at hs
  rw [encRM] at hs'
  rw [← hb] at hr hs hs'
  refine splitI (fun h => ?_) (fun h => ?_)
  · rw [h] at hr hs hs' hb
    rw [if_pos rfl] at hr
    rw [if_neg (by simp)] at hs hs'
    subst hr
    refine splitNE (fun h => absurd rfl h) (fun _ => ⟨cs, ex, ⟨⟨hk, hb.symm⟩, by omega⟩, ?_⟩)
    rintro t ⟨rfl⟩
    refine eqMed ⟨cs, ex, ⟨hk, hb.symm⟩, ?_⟩
    rintro t' ⟨rfl⟩
    have ht := enc_total (mk := mk) (ty := ty) (seq := seq) (ti := ti) (ss := ss) (cs := cs) (ex := ex) (pl := pl) (right_of hb.symm).2.2.2.2.1
    refine ⟨_, rfl, splitD (fun hg => ?_) (fun hg => ?_)⟩
    · rw [if_pos (by omega)] at hs hs'
      obtain ⟨rfl, rfl⟩ := Prod.mk.inj hs
      obtain ⟨rfl, rfl⟩ := Prod.mk.inj hs'
      exact splitNE (fun h => absurd rfl h) (fun _ => splitNE (fun h => absurd rfl h) (fun _ => eqbI (eqbI hN)))
    · rw [if_neg (by omega)] at hs hs'
      obtain ⟨rfl, rfl⟩ := Prod.mk.inj hs
      obtain ⟨rfl, rfl⟩ := Prod.mk.inj hs'
      exact splitNE (fun h => absurd rfl h) (fun _ => splitNE (fun h => absurd rfl h) (fun _ => eqbI (eqbI hN)))
  · rw [h] at hr hs hs'
    rw [if_neg (by simp)] at hr
    rw [if_pos rfl] at hs hs'
    subst hr
    obtain ⟨rfl, rfl⟩ := Prod.mk.inj hs
    obtain ⟨rfl, rfl⟩ := Prod.mk.inj hs'
    exact splitNE (fun h => absurd rfl h) (fun _ => splitNE (fun h => absurd rfl h) (fun _ => splitNE (fun h => absurd rfl h) (fun _ => eqbI (eqbI hN))))
theorem encodes_run (mk : Bool) (ty seq ti ss : Int) (ks : List Int) (ps : List Xt) (pad : Int) (pl : List UInt8) (wa ba na wb bb nb : Int) (mk3 : Bool) (ty3 seq3 ti3 ss3 : Int) (cs3 : List Int) (ex3 : List Xt) (pad3 : Int) (pl3 : List UInt8) (hdk : draftK (cells32M ks) ks.length (cellsPcM ps) ps.length ks ps) (hty : 0 ≤ ty ∧ ty ≤ 255) (hseq : 0 ≤ seq ∧ seq ≤ 65535) (hti : 0 ≤ ti ∧ ti ≤ 4294967295) (hss : 0 ≤ ss ∧ ss ≤ 4294967295) (hpad : 0 ≤ pad ∧ pad ≤ 255) (hba : 0 ≤ ba ∧ ba ≤ 255) (hbb : 0 ≤ bb ∧ bb ≤ 255) (Q : Out → List Blk → Gh → Prop) (hq : Q (.ret (.bool true)) [] {}) : ∃ hv hb, goal_3 hv hb mk ty seq ti ss ks ps pad pl wa ba na wb bb nb mk3 ty3 seq3 ti3 ss3 cs3 ex3 pad3 pl3 Q := by
  obtain ⟨hv, hb', e⟩ : ∃ hv hb, goal_3 hv hb mk ty seq ti ss ks ps pad pl wa ba na wb bb nb mk3 ty3 seq3 ti3 ss3 cs3 ex3 pad3 pl3 Q = _ := ⟨_, _, vc_3 mk ty seq ti ss ks ps pad pl wa ba na wb bb nb mk3 ty3 seq3 ti3 ss3 cs3 ex3 pad3 pl3 Q⟩
  refine ⟨hv, hb', e.mpr ?_⟩
  clear e
  refine ⟨ks, ps, ⟨hdk, hty, hseq, hti, hss, hpad⟩, ?_⟩
  rintro ty' cs ex p' ⟨e1, e2, e3, e4⟩
  have hdt := pcs_data (ps.take 4) 0
  rw [← e3] at hdt
  have hc3 : cs.length ≤ 3 := by rw [e2, List.length_take]; omega
  have hx4 : ex.length ≤ 4 := by rw [e3, pcs_len, List.length_take]; omega
  have hp60 : p'.length ≤ 60 := by rw [e4, List.length_take]; omega
  clear e1 e2 e3 e4
  have hd0 : ∀ x ∈ ex, x.2.length ≤ 300 := fun x hx => by have := hdt x hx; omega
  refine ⟨cs, ex, ⟨rfl, rfl, rfl, rfl, hba, by omega, by omega, hd0, by omega⟩, ?_⟩
  rintro mk1 ty1 seq1 ti1 ss1 cs1 ex1 pad1 pl1 ⟨c1, x1, d1, l1⟩
  refine ⟨cs1, ex1, ⟨rfl, rfl, rfl, rfl, hbb, by omega, by omega, d1, by omega⟩, ?_⟩
  rintro mk2 ty2 seq2 ti2 ss2 cs2 ex2 pad2 pl2 ⟨c2, x2, d2, l2⟩
  refine eqMed (eqMed (eqMed ⟨cs3, ex3, ⟨rfl, rfl, rfl, rfl⟩, ?_⟩))
  rintro cs4 ex4 pl4 ⟨c4, x4, d4, l4⟩
  exact eqMed (eqMed (rnd3_ok (by omega) (by omega) hd0 (by omega) (rnd3_ok (by omega) (by omega) d1 (by omega) (rnd3_ok (by omega) (by omega) d2 (by omega) (rnd3_ok (by omega) (by omega) d4 (by omega) hq)))))
end Go.Proofs.YtbchmkhliehbfaaDoor
