/-
  Chapter 23: MediaDecodes.
-/
import Derived.Test.YtbchmkhliehbfaaDoorM23DT
import Derived.Test.YtbchmkhliehbfaaDoorM23DS
import Derived.Test.YtbchmkhliehbfaaDoorM23U
set_option linter.unusedSimpArgs false
set_option linter.unusedVariables false
set_option linter.unusedSectionVars false
namespace Go.Proofs.YtbchmkhliehbfaaDoor
open Go.RowKit
set_option maxRecDepth 1000000

def smDL : SM := lookS [(10, cDraft), (11, cBend), (16, cRight), (17, cREnc), (19, cTrue), (20, cEdit), (21, cDecode), (22, cDecode), (23, cSameV)]
theorem smDL_ok : ∀ f g, smDL f = some g → ValidF Tryd.prog gl0 f g := lookS_ok _ (by simp only [List.mem_cons, List.not_mem_nil, or_false, forall_eq_or_imp, forall_eq]; exact ⟨draft_ok, bend_ok, rright_ok, renc_ok, works_ok, edit_ok, decode_ok, rdecode_ok, same_ok⟩)
noncomputable def goal_4 (hv : Nat → Option Pa) (hb : Nat → Option Bool) (mk : Bool) (ty seq ti ss : Int) (tc : Nat) (ks : List Int) (tx : Nat) (ps : List Xt) (pad : Int) (pl : List UInt8) (a1 b1 : Int) (t1 : List UInt8) (a2 b2 : Int) (t2 : List UInt8) (wh at' nn : Int) (raw : List UInt8) (Q : Out → List Blk → Gh → Prop) : Prop :=
  callx (e23 smDL (fun _ => none) hv hb) (wpx (e23 smDL (fun _ => none) hv hb) 1000) 4 [.agg (draftM mk ty seq ti ss tc ks tx ps pad pl), .agg [.int .u16 a1, .int .u8 b1, .str t1], .agg [.int .u16 a2, .int .u8 b2, .str t2], .agg (bendA wh at' nn), .str raw] [] {} Q
def roundL (s : List UInt8) (Q : Out → List Blk → Gh → Prop) (K : Prop) : Prop := (bif (Nat.ble (List.length s) (9223372036854775807 : Nat)) then (∀ mk_38 : Bool, (∀ ty_39 : Int, (∀ sq_40 : Int, (∀ ti_41 : Int, (∀ ss_42 : Int, (∀ cs_43 : (List Int), (∀ ex_44 : (List Xt), (∀ p_45 : Int, (∀ y_46 : (List UInt8), (∀ e_47 : Int, ((Lf ((decM s) = (Prod.mk mk_38 (Prod.mk ty_39 (Prod.mk sq_40 (Prod.mk ti_41 (Prod.mk ss_42 (Prod.mk cs_43 (Prod.mk ex_44 (Prod.mk p_45 (Prod.mk y_46 e_47))))))))))) →
(bif (Nat.ble (List.length s) (9223372036854775807 : Nat)) then (∀ mk_48 : Bool, (∀ ty_49 : Int, (∀ sq_50 : Int, (∀ ti_51 : Int, (∀ ss_52 : Int, (∀ cs_53 : (List Int), (∀ ex_54 : (List Xt), (∀ p_55 : Int, (∀ y_56 : (List UInt8), (∀ e_57 : Int, ((Lf ((decM s) = (Prod.mk mk_48 (Prod.mk ty_49 (Prod.mk sq_50 (Prod.mk ti_51 (Prod.mk ss_52 (Prod.mk cs_53 (Prod.mk ex_54 (Prod.mk p_55 (Prod.mk y_56 e_57))))))))))) →
(bif (e_47 != e_57) then (Q (Out.ret (AV.bool false)) [] (Gh.mk (0 : Nat) (0 : Nat) []))
else (∃ cs_58 : (List Int), (∃ ex_59 : (List Xt), ((Lf ((((cellsI cs_43) = (cellsI cs_58)) ∧
 (((List.length cs_43) = (List.length cs_58)) ∧
 (((cellsXM ex_44) = (cellsXM ex_59)) ∧
 (((List.length ex_44) = (List.length ex_59)) ∧
 (((List.length cs_58) ≤ (1000000 : Nat)) ∧
 ((List.length ex_59) ≤ (1000000 : Nat))))))) ∧
 ((mk_48 = mk_38) ∧
 ((ty_49 = ty_39) ∧
 ((sq_50 = sq_40) ∧
 ((ti_51 = ti_41) ∧
 ((ss_52 = ss_42) ∧
 (((cellsI cs_53) = (cellsI cs_58)) ∧
 (((List.length cs_53) = (List.length cs_58)) ∧
 (((cellsXM ex_54) = (cellsXM ex_59)) ∧
 (((List.length ex_54) = (List.length ex_59)) ∧
 ((p_55 = p_45) ∧
 (y_56 = y_46))))))))))))) ∧
 K)))))))))))))))
else False))))))))))))
else False)
theorem vc_4 (mk : Bool) (ty : Int) (seq : Int) (ti : Int) (ss : Int) (tc : Nat) (ks : List Int) (tx : Nat) (ps : List Xt) (pad : Int) (pl : List UInt8) (a1 : Int) (b1 : Int) (t1 : List UInt8) (a2 : Int) (b2 : Int) (t2 : List UInt8) (wh : Int) (at' : Int) (nn : Int) (raw : List UInt8) (Q : Out → List Blk → Gh → Prop) : goal_4 (lookV [(16422, .int .i64), (16423, .int .i64), (16424, .str)]) (lookB []) mk ty seq ti ss tc ks tx ps pad pl a1 b1 t1 a2 b2 t2 wh at' nn raw Q = (
(∃ ks_0 : (List Int), (∃ ps_1 : (List Xt), ((Lf ((draftK (cells32M ks) (List.length ks) (cellsPcM ps) (List.length ps) ks_0 ps_1) ∧
 ((((0 : Int) ≤ ty) ∧
 (ty ≤ (255 : Int))) ∧
 ((((0 : Int) ≤ seq) ∧
 (seq ≤ (65535 : Int))) ∧
 ((((0 : Int) ≤ ti) ∧
 (ti ≤ (4294967295 : Int))) ∧
 ((((0 : Int) ≤ ss) ∧
 (ss ≤ (4294967295 : Int))) ∧
 (((0 : Int) ≤ pad) ∧
 (pad ≤ (255 : Int))))))))) ∧
 (∀ ty'_2 : Int, (∀ cs_3 : (List Int), (∀ ex_4 : (List Xt), (∀ p'_5 : (List UInt8), ((Lf ((ty'_2 = (ty % (128 : Int))) ∧
 ((cs_3 = (List.take (3 : Nat) ks_0)) ∧
 ((ex_4 = (pcsM (0 : Int) (List.take (4 : Nat) ps_1))) ∧
 (p'_5 = (List.take (60 : Nat) pl)))))) →
(∃ cs_6 : (List Int), (∃ ex_7 : (List Xt), ((Lf (((medK (cellsI cs_3) (List.length cs_3) (cellsXM ex_4) (List.length ex_4) cs_6 ex_7) ∧
 ((rightM ty'_2 seq ti ss cs_6 ex_7 pad) = true)) ∧
 ((List.length p'_5) ≤ (1000000000 : Nat)))) ∧
 (∀ s_8 : (List UInt8), ((Lf (s_8 = (encM mk ty'_2 seq ti ss cs_6 ex_7 pad p'_5))) →
(∃ ks_9 : (List Int), (∃ ps_10 : (List Xt), ((Lf ((draftK (cells32M ks) (List.length ks) (cellsPcM ps) (List.length ps) ks_9 ps_10) ∧
 ((((0 : Int) ≤ ty) ∧
 (ty ≤ (255 : Int))) ∧
 ((((0 : Int) ≤ seq) ∧
 (seq ≤ (65535 : Int))) ∧
 ((((0 : Int) ≤ ti) ∧
 (ti ≤ (4294967295 : Int))) ∧
 ((((0 : Int) ≤ ss) ∧
 (ss ≤ (4294967295 : Int))) ∧
 (((0 : Int) ≤ pad) ∧
 (pad ≤ (255 : Int))))))))) ∧
 (∀ ty'_11 : Int, (∀ cs_12 : (List Int), (∀ ex_13 : (List Xt), (∀ p'_14 : (List UInt8), ((Lf ((ty'_11 = (ty % (128 : Int))) ∧
 ((cs_12 = (List.take (3 : Nat) ks_9)) ∧
 ((ex_13 = (pcsM (0 : Int) (List.take (4 : Nat) ps_10))) ∧
 (p'_14 = (List.take (60 : Nat) pl)))))) →
(bif ((eqAVL ((AV.int .u8 wh) :: ((AV.int .u8 at') :: ((AV.int .i64 nn) :: []))) ((AV.int .u8 wh) :: ((AV.int .u8 at') :: ((AV.int .i64 nn) :: [])))) && true) then (∃ cs_15 : (List Int), (∃ ex_16 : (List Xt), ((Lf (((cellsI cs_12) = (cellsI cs_15)) ∧
 (((List.length cs_12) = (List.length cs_15)) ∧
 (((cellsXM ex_13) = (cellsXM ex_16)) ∧
 (((List.length ex_13) = (List.length ex_16)) ∧
 ((((0 : Int) ≤ at') ∧
 (at' ≤ (255 : Int))) ∧
 (((List.length cs_15) ≤ (1000 : Nat)) ∧
 (((List.length ex_16) ≤ (1000 : Nat)) ∧
 ((∀ x_17 : Xt, ((Membership.mem ex_16 x_17) →
((List.length (Prod.snd x_17)) ≤ (300 : Nat)))) ∧
 ((List.length p'_14) ≤ (1300 : Nat))))))))))) ∧
 (∀ mk'_17 : Bool, (∀ ty'_18 : Int, (∀ seq'_19 : Int, (∀ ti'_20 : Int, (∀ ss'_21 : Int, (∀ cs'_22 : (List Int), (∀ ex'_23 : (List Xt), (∀ pad'_24 : Int, (∀ pl'_25 : (List UInt8), ((Lf (((List.length cs'_22) ≤ ((List.length cs_15) + (1 : Nat))) ∧
 (((List.length ex'_23) ≤ ((List.length ex_16) + (1 : Nat))) ∧
 ((∀ x_26 : Xt, ((Membership.mem ex'_23 x_26) →
((List.length (Prod.snd x_26)) ≤ (300 : Nat)))) ∧
 ((List.length pl'_25) ≤ (1300 : Nat)))))) →
(∃ n_26 : Int, (((AV.int .i64 (Nat.cast (List.length raw) : Int)) = (AV.int .i64 n_26)) ∧
 (∃ n_27 : Int, (((AV.int .i64 (imin n_26 (1300 : Int))) = (AV.int .i64 n_27)) ∧
 (bif (((decide ((0 : Int) ≤ n_27)) && true) && (Nat.ble (Int.toNat n_27) (List.length raw))) then (∃ s_28 : (List UInt8), (((AV.str (List.take ((Int.toNat n_27) - (0 : Nat)) (List.drop (0 : Nat) raw))) = (AV.str s_28)) ∧
 ((Lf ((((0 : Int) ≤ a1) ∧
 (a1 ≤ (65535 : Int))) ∧
 ((((0 : Int) ≤ b1) ∧
 (b1 ≤ (255 : Int))) ∧
 ((List.length s_8) ≤ (1000000 : Nat))))) ∧
 (∀ t_29 : (List UInt8), ((Lf ((List.length t_29) ≤ ((List.length s_8) + (20 : Nat)))) →
(bif ((eqAVL ((AV.int .u16 a1) :: ((AV.int .u8 b1) :: ((AV.str t1) :: []))) ((AV.int .u16 a1) :: ((AV.int .u8 b1) :: ((AV.str t1) :: [])))) && true) then (bif ((eqAVL ((AV.int .u16 a2) :: ((AV.int .u8 b2) :: ((AV.str t2) :: []))) ((AV.int .u16 a2) :: ((AV.int .u8 b2) :: ((AV.str t2) :: [])))) && true) then ((Lf ((((0 : Int) ≤ a1) ∧
 (a1 ≤ (65535 : Int))) ∧
 ((((0 : Int) ≤ b1) ∧
 (b1 ≤ (255 : Int))) ∧
 ((List.length s_8) ≤ (1000000 : Nat))))) ∧
 (∀ t_30 : (List UInt8), ((Lf ((List.length t_30) ≤ ((List.length s_8) + (20 : Nat)))) →
(bif ((eqAVL ((AV.int .u16 a2) :: ((AV.int .u8 b2) :: ((AV.str t2) :: []))) ((AV.int .u16 a2) :: ((AV.int .u8 b2) :: ((AV.str t2) :: [])))) && true) then ((Lf ((((0 : Int) ≤ a2) ∧
 (a2 ≤ (65535 : Int))) ∧
 ((((0 : Int) ≤ b2) ∧
 (b2 ≤ (255 : Int))) ∧
 ((List.length t_30) ≤ (1000000 : Nat))))) ∧
 (∀ t_31 : (List UInt8), ((Lf ((List.length t_31) ≤ ((List.length t_30) + (20 : Nat)))) →
(∃ cs_32 : (List Int), (∃ ex_33 : (List Xt), ((Lf (medK (cellsI cs'_22) (List.length cs'_22) (cellsXM ex'_23) (List.length ex'_23) cs_32 ex_33)) ∧
 (∀ b_34 : Bool, ((Lf (b_34 = (rightM ty'_18 seq'_19 ti'_20 ss'_21 cs_32 ex_33 pad'_24))) →
(bif b_34 then (∃ cs_35 : (List Int), (∃ ex_36 : (List Xt), ((Lf (((medK (cellsI cs'_22) (List.length cs'_22) (cellsXM ex'_23) (List.length ex'_23) cs_35 ex_36) ∧
 ((rightM ty'_18 seq'_19 ti'_20 ss'_21 cs_35 ex_36 pad'_24) = true)) ∧
 ((List.length pl'_25) ≤ (1000000000 : Nat)))) ∧
 (∀ s_37 : (List UInt8), ((Lf (s_37 = (encM mk'_17 ty'_18 seq'_19 ti'_20 ss'_21 cs_35 ex_36 pad'_24 pl'_25))) →
(roundL s_8 Q (roundL t_29 Q (roundL t_31 Q (roundL s_28 Q (roundL s_37 Q (Q (Out.ret (AV.bool true)) [] (Gh.mk (0 : Nat) (0 : Nat) []))))))))))))
else (roundL s_8 Q (roundL t_29 Q (roundL t_31 Q (roundL s_28 Q (roundL ([] : List UInt8) Q (Q (Out.ret (AV.bool true)) [] (Gh.mk (0 : Nat) (0 : Nat) []))))))))))))))))
else False))))
else False)
else False))))))
else False))))))))))))))))))
else False))))))))))))))))))))))) := by kernel_rfl

theorem dec_lens {s : List UInt8} {mk : Bool} {ty sq ti ss : Int} {cs : List Int} {ex : List Xt} {p : Int} {y : List UInt8} {e : Int} (h : decM s = (mk, ty, sq, ti, ss, cs, ex, p, y, e)) : cs.length ≤ 15 ∧ ex.length ≤ 16 := by
  by_cases h0 : e = 0
  · subst h0
    obtain ⟨_, h1, h2, _⟩ := right_of (dec_ok h).1
    exact ⟨h1, h2⟩
  · rw [(dec_err h h0).1, zerM] at h
    simp only [Prod.mk.injEq] at h
    obtain ⟨_, _, _, _, _, rfl, rfl, _⟩ := h
    simp
theorem roundL_ok {s : List UInt8} {Q : Out → List Blk → Gh → Prop} {K : Prop} (hs : s.length ≤ 1000000) (hk : K) : roundL s Q K := by
  unfold roundL
  refine ckI (by rw [Nat.ble_eq]; omega) ?_
  rintro mk ty sq ti ss cs ex p y e ⟨h1⟩
  refine ckI (by rw [Nat.ble_eq]; omega) ?_
  rintro mk' ty' sq' ti' ss' cs' ex' p' y' e' ⟨h2⟩
  rw [h1] at h2
  simp only [Prod.mk.injEq] at h2
  obtain ⟨rfl, rfl, rfl, rfl, rfl, rfl, rfl, rfl, rfl, rfl⟩ := h2
  obtain ⟨l1, l2⟩ := dec_lens h1
  exact splitNE (fun h => absurd rfl h) (fun _ => ⟨cs, ex, ⟨⟨rfl, rfl, rfl, rfl, by omega, by omega⟩, rfl, rfl, rfl, rfl, rfl, rfl, rfl, rfl, rfl, rfl, rfl⟩, hk⟩)
theorem encL_len {mk : Bool} {ty sq ti ss : Int} {cs : List Int} {ex : List Xt} {pad : Int} {pl : List UInt8} (hr : rightM ty sq ti ss cs ex pad = true) (hp : pl.length ≤ 1300) : (encM mk ty sq ti ss cs ex pad pl).length ≤ 20000 := by
  obtain ⟨_, h1, h2, h3, h4⟩ := right_of hr
  have hb := head_bound mk ty sq ti ss cs ex pad h1 h2 h3
  rw [encM, List.length_append, List.length_append, padM]
  split
  · rw [List.length_append, List.length_replicate, put_len]
    simp
    omega
  · simp
    omega
theorem decodes_run (mk : Bool) (ty seq ti ss : Int) (tc : Nat) (ks : List Int) (tx : Nat) (ps : List Xt) (pad : Int) (pl : List UInt8) (a1 b1 : Int) (t1 : List UInt8) (a2 b2 : Int) (t2 : List UInt8) (wh at' nn : Int) (raw : List UInt8) (hdk : draftK (cells32M ks) ks.length (cellsPcM ps) ps.length ks ps) (hty : 0 ≤ ty ∧ ty ≤ 255) (hseq : 0 ≤ seq ∧ seq ≤ 65535) (hti : 0 ≤ ti ∧ ti ≤ 4294967295) (hss : 0 ≤ ss ∧ ss ≤ 4294967295) (hpad : 0 ≤ pad ∧ pad ≤ 255)
    (ha1 : 0 ≤ a1 ∧ a1 ≤ 65535) (hb1 : 0 ≤ b1 ∧ b1 ≤ 255) (ha2 : 0 ≤ a2 ∧ a2 ≤ 65535) (hb2 : 0 ≤ b2 ∧ b2 ≤ 255) (hat : 0 ≤ at' ∧ at' ≤ 255) (Q : Out → List Blk → Gh → Prop) (hq : Q (.ret (.bool true)) [] {}) : ∃ hv hb, goal_4 hv hb mk ty seq ti ss tc ks tx ps pad pl a1 b1 t1 a2 b2 t2 wh at' nn raw Q := by
  obtain ⟨hv, hb', e⟩ : ∃ hv hb, goal_4 hv hb mk ty seq ti ss tc ks tx ps pad pl a1 b1 t1 a2 b2 t2 wh at' nn raw Q = _ := ⟨_, _, vc_4 mk ty seq ti ss tc ks tx ps pad pl a1 b1 t1 a2 b2 t2 wh at' nn raw Q⟩
  refine ⟨hv, hb', e.mpr ?_⟩
  clear e
  refine ⟨ks, ps, ⟨hdk, hty, hseq, hti, hss, hpad⟩, ?_⟩
  rintro ty' cs ex p' ⟨e1, e2, e3, e4⟩
  obtain ⟨d1, d2⟩ := draft_right (mk := mk) (ps := ps) (pl := pl) hdk.2.2.2.2.2.2.1 hty hseq hti hss hpad
  rw [← e1, ← e2, ← e3] at d1
  obtain ⟨_, l1, l2, l3, _⟩ := right_of d1
  have hp60 : p'.length ≤ 60 := by rw [e4, List.length_take]; omega
  have hdl : ∀ x ∈ ex, x.2.length ≤ 20 := by rw [e3]; exact pcs_data _ _
  have hmk : medK (cellsI cs) cs.length (cellsXM ex) ex.length cs ex := ⟨rfl, rfl, rfl, rfl, by omega, by omega, fun x hx => by have := hdl x hx; omega⟩
  refine ⟨cs, ex, ⟨⟨hmk, d1⟩, by omega⟩, ?_⟩
  rintro own ⟨ho⟩
  have hol : own.length ≤ 20000 := by rw [ho]; exact encL_len d1 (by omega)
  refine ⟨ks, ps, ⟨hdk, hty, hseq, hti, hss, hpad⟩, ?_⟩
  rintro ty2 cs2 ex2 p2 ⟨f1, f2, f3, f4⟩
  obtain rfl : cs2 = cs := by rw [f2, e2]
  obtain rfl : ex2 = ex := by rw [f3, e3]
  obtain rfl : p2 = p' := by rw [f4, e4]
  refine ckI (by simp [eqAVL, eqAV]) ⟨cs2, ex2, ⟨rfl, rfl, rfl, rfl, hat, by omega, by omega, fun x hx => by have := hdl x hx; omega, by omega⟩, ?_⟩
  rintro mk3 ty3 sq3 ti3 ss3 cs3 ex3 pad3 pl3 ⟨g1, g2, g3, g4⟩
  have hmk3 : medK (cellsI cs3) cs3.length (cellsXM ex3) ex3.length cs3 ex3 := ⟨rfl, rfl, rfl, rfl, by omega, by omega, fun x hx => by have := g3 x hx; omega⟩
  refine ⟨_, rfl, iminI (b := 1300) rfl (ckI (by simp; omega) ⟨raw.take 1300, by rw [take_imin], ⟨ha1, hb1, by omega⟩, ?_⟩)⟩
  have hrl : (raw.take 1300).length ≤ 1300 := by rw [List.length_take]; omega
  rintro u1 ⟨h1⟩
  refine ckI (by simp [eqAVL, eqAV, eqB_self]) (ckI (by simp [eqAVL, eqAV, eqB_self]) ⟨⟨ha1, hb1, by omega⟩, ?_⟩)
  rintro u2 ⟨h2⟩
  refine ckI (by simp [eqAVL, eqAV, eqB_self]) ⟨⟨ha2, hb2, by omega⟩, ?_⟩
  rintro u3 ⟨h3⟩
  refine ⟨cs3, ex3, ⟨hmk3⟩, ?_⟩
  rintro b ⟨hb⟩
  subst hb
  refine splitI (fun r => ⟨cs3, ex3, ⟨⟨hmk3, r⟩, by omega⟩, ?_⟩) (fun r => ?_)
  · rintro long ⟨hlg⟩
    have hll : long.length ≤ 20000 := by rw [hlg]; exact encL_len r (by omega)
    exact roundL_ok (by omega) (roundL_ok (by omega) (roundL_ok (by omega) (roundL_ok (by omega) (roundL_ok (by omega) hq))))
  · exact roundL_ok (by omega) (roundL_ok (by omega) (roundL_ok (by omega) (roundL_ok (by omega) (roundL_ok (by simp) hq))))
end Go.Proofs.YtbchmkhliehbfaaDoor
