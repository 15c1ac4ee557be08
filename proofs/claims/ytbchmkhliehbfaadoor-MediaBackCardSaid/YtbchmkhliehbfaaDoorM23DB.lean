/-
  Chapter 23: MediaBack.
-/
import Derived.Test.YtbchmkhliehbfaaDoorM23DP
import Derived.Test.YtbchmkhliehbfaaDoorM23DS
set_option linter.unusedSimpArgs false
set_option linter.unusedVariables false
set_option linter.unusedSectionVars false
namespace Go.Proofs.YtbchmkhliehbfaaDoor
open Go.RowKit
set_option maxRecDepth 1000000

def smDB : SM := lookS [(10, cDraft), (15, cEncode), (19, cTrue), (20, cEdit), (21, cDecode), (23, cSameV)]
theorem smDB_ok : ∀ f g, smDB f = some g → ValidF Tryd.prog gl0 f g := lookS_ok _ (by simp only [List.mem_cons, List.not_mem_nil, or_false, forall_eq_or_imp, forall_eq]; exact ⟨draft_ok, encode_ok, works_ok, edit_ok, decode_ok, same_ok⟩)
noncomputable def goal_6 (hv : Nat → Option Pa) (hb : Nat → Option Bool) (mk : Bool) (ty seq ti ss : Int) (tc : Nat) (ks : List Int) (tx : Nat) (ps : List Xt) (pad : Int) (pl : List UInt8) (a b : Int) (text : List UInt8) (Q : Out → List Blk → Gh → Prop) : Prop :=
  callx (e23 smDB (fun _ => none) hv hb) (wpx (e23 smDB (fun _ => none) hv hb) 1000) 6 [.agg (draftM mk ty seq ti ss tc ks tx ps pad pl), .agg [.int .u16 a, .int .u8 b, .str text]] [] {} Q
theorem vc_6 (mk : Bool) (ty : Int) (seq : Int) (ti : Int) (ss : Int) (tc : Nat) (ks : List Int) (tx : Nat) (ps : List Xt) (pad : Int) (pl : List UInt8) (a : Int) (b : Int) (text : List UInt8) (Q : Out → List Blk → Gh → Prop) : goal_6 (lookV []) (lookB []) mk ty seq ti ss tc ks tx ps pad pl a b text Q = (
(∃ ks_0 : (List Int), (∃ ps_1 : (List Xt), ((Lf ((draftK (cells32M ks) (List.length ks) (cellsPcM ps) (List.length ps) ks_0 ps_1) ∧
 ((((0 : Int) ≤ ty) ∧
 (ty ≤ (255 : Int))) ∧
 ((((0 : Int) ≤ seq) ∧
 (seq ≤ (65535 : Int))) ∧
 ((((0 : Int) ≤ ti) ∧
 (ti ≤ (4294967295 : Int))) ∧
 ((((0 : Int) ≤ ss) ∧
 (ss ≤ (4294967295 : Int))) ∧
 (((0 : Int) ≤ pad) ∧
 (pad ≤ (255 : Int))))))))) ∧
 (∀ ty'_2 : Int, (∀ cs_3 : (List Int), (∀ ex_4 : (List Xt), (∀ p'_5 : (List UInt8), ((Lf ((ty'_2 = (ty % (128 : Int))) ∧
 ((cs_3 = (List.take (3 : Nat) ks_0)) ∧
 ((ex_4 = (pcsM (0 : Int) (List.take (4 : Nat) ps_1))) ∧
 (p'_5 = (List.take (60 : Nat) pl)))))) →
(∃ cs_6 : (List Int), (∃ ex_7 : (List Xt), ((Lf ((medK (cellsI cs_3) (List.length cs_3) (cellsXM ex_4) (List.length ex_4) cs_6 ex_7) ∧
 ((List.length p'_5) ≤ (1000000000 : Nat)))) ∧
 (∀ s_8 : (List UInt8), (∀ e_9 : Int, ((Lf ((Prod.mk s_8 e_9) = (encRM mk ty'_2 seq ti ss cs_6 ex_7 pad p'_5))) →
(bif (Nat.ble (List.length s_8) (9223372036854775807 : Nat)) then (∀ mk_10 : Bool, (∀ ty_11 : Int, (∀ sq_12 : Int, (∀ ti_13 : Int, (∀ ss_14 : Int, (∀ cs_15 : (List Int), (∀ ex_16 : (List Xt), (∀ p_17 : Int, (∀ y_18 : (List UInt8), (∀ e_19 : Int, ((Lf ((decM s_8) = (Prod.mk mk_10 (Prod.mk ty_11 (Prod.mk sq_12 (Prod.mk ti_13 (Prod.mk ss_14 (Prod.mk cs_15 (Prod.mk ex_16 (Prod.mk p_17 (Prod.mk y_18 e_19))))))))))) →
(bif (e_9 != (0 : Int)) then (Q (Out.ret (AV.bool false)) [] (Gh.mk (0 : Nat) (0 : Nat) []))
else (bif (e_19 != (0 : Int)) then (Q (Out.ret (AV.bool false)) [] (Gh.mk (0 : Nat) (0 : Nat) []))
else (∃ cs_20 : (List Int), (∃ ex_21 : (List Xt), ((Lf ((((cellsI cs_3) = (cellsI cs_20)) ∧
 (((List.length cs_3) = (List.length cs_20)) ∧
 (((cellsXM ex_4) = (cellsXM ex_21)) ∧
 (((List.length ex_4) = (List.length ex_21)) ∧
 (((List.length cs_20) ≤ (1000000 : Nat)) ∧
 ((List.length ex_21) ≤ (1000000 : Nat))))))) ∧
 ((mk_10 = mk) ∧
 ((ty_11 = ty'_2) ∧
 ((sq_12 = seq) ∧
 ((ti_13 = ti) ∧
 ((ss_14 = ss) ∧
 (((cellsI cs_15) = (cellsI cs_20)) ∧
 (((List.length cs_15) = (List.length cs_20)) ∧
 (((cellsXM ex_16) = (cellsXM ex_21)) ∧
 (((List.length ex_16) = (List.length ex_21)) ∧
 ((p_17 = pad) ∧
 (y_18 = p'_5))))))))))))) ∧
 ((Lf ((((0 : Int) ≤ a) ∧
 (a ≤ (65535 : Int))) ∧
 ((((0 : Int) ≤ b) ∧
 (b ≤ (255 : Int))) ∧
 ((List.length s_8) ≤ (1000000 : Nat))))) ∧
 (∀ t_22 : (List UInt8), ((Lf ((List.length t_22) ≤ ((List.length s_8) + (20 : Nat)))) →
(bif (Nat.ble (List.length t_22) (9223372036854775807 : Nat)) then (∀ mk_23 : Bool, (∀ ty_24 : Int, (∀ sq_25 : Int, (∀ ti_26 : Int, (∀ ss_27 : Int, (∀ cs_28 : (List Int), (∀ ex_29 : (List Xt), (∀ p_30 : Int, (∀ y_31 : (List UInt8), (∀ e_32 : Int, ((Lf ((decM t_22) = (Prod.mk mk_23 (Prod.mk ty_24 (Prod.mk sq_25 (Prod.mk ti_26 (Prod.mk ss_27 (Prod.mk cs_28 (Prod.mk ex_29 (Prod.mk p_30 (Prod.mk y_31 e_32))))))))))) →
(bif (e_32 != (0 : Int)) then (bif (e_32 == (7 : Int)) then (∃ cs_33 : (List Int), (∃ ex_34 : (List Xt), ((Lf ((((cellsI cs_28) = (cellsI cs_33)) ∧
 (((List.length cs_28) = (List.length cs_33)) ∧
 (((cellsXM ex_29) = (cellsXM ex_34)) ∧
 (((List.length ex_29) = (List.length ex_34)) ∧
 (((List.length cs_33) ≤ (1000000 : Nat)) ∧
 ((List.length ex_34) ≤ (1000000 : Nat))))))) ∧
 ((false = mk_23) ∧
 (((0 : Int) = ty_24) ∧
 (((0 : Int) = sq_25) ∧
 (((0 : Int) = ti_26) ∧
 (((0 : Int) = ss_27) ∧
 ((([] : (List AV)) = (cellsI cs_33)) ∧
 (((0 : Nat) = (List.length cs_33)) ∧
 ((([] : (List AV)) = (cellsXM ex_34)) ∧
 (((0 : Nat) = (List.length ex_34)) ∧
 (((0 : Int) = p_30) ∧
 (([] : (List UInt8)) = y_31))))))))))))) ∧
 (Q (Out.ret (AV.bool true)) [] (Gh.mk (0 : Nat) (0 : Nat) [])))))
else (bif (e_32 == (5 : Int)) then (∃ cs_33 : (List Int), (∃ ex_34 : (List Xt), ((Lf ((((cellsI cs_28) = (cellsI cs_33)) ∧
 (((List.length cs_28) = (List.length cs_33)) ∧
 (((cellsXM ex_29) = (cellsXM ex_34)) ∧
 (((List.length ex_29) = (List.length ex_34)) ∧
 (((List.length cs_33) ≤ (1000000 : Nat)) ∧
 ((List.length ex_34) ≤ (1000000 : Nat))))))) ∧
 ((false = mk_23) ∧
 (((0 : Int) = ty_24) ∧
 (((0 : Int) = sq_25) ∧
 (((0 : Int) = ti_26) ∧
 (((0 : Int) = ss_27) ∧
 ((([] : (List AV)) = (cellsI cs_33)) ∧
 (((0 : Nat) = (List.length cs_33)) ∧
 ((([] : (List AV)) = (cellsXM ex_34)) ∧
 (((0 : Nat) = (List.length ex_34)) ∧
 (((0 : Int) = p_30) ∧
 (([] : (List UInt8)) = y_31))))))))))))) ∧
 (Q (Out.ret (AV.bool true)) [] (Gh.mk (0 : Nat) (0 : Nat) [])))))
else (bif (e_32 == (3 : Int)) then (∃ cs_33 : (List Int), (∃ ex_34 : (List Xt), ((Lf ((((cellsI cs_28) = (cellsI cs_33)) ∧
 (((List.length cs_28) = (List.length cs_33)) ∧
 (((cellsXM ex_29) = (cellsXM ex_34)) ∧
 (((List.length ex_29) = (List.length ex_34)) ∧
 (((List.length cs_33) ≤ (1000000 : Nat)) ∧
 ((List.length ex_34) ≤ (1000000 : Nat))))))) ∧
 ((false = mk_23) ∧
 (((0 : Int) = ty_24) ∧
 (((0 : Int) = sq_25) ∧
 (((0 : Int) = ti_26) ∧
 (((0 : Int) = ss_27) ∧
 ((([] : (List AV)) = (cellsI cs_33)) ∧
 (((0 : Nat) = (List.length cs_33)) ∧
 ((([] : (List AV)) = (cellsXM ex_34)) ∧
 (((0 : Nat) = (List.length ex_34)) ∧
 (((0 : Int) = p_30) ∧
 (([] : (List UInt8)) = y_31))))))))))))) ∧
 (Q (Out.ret (AV.bool true)) [] (Gh.mk (0 : Nat) (0 : Nat) [])))))
else (Q (Out.ret (AV.bool false)) [] (Gh.mk (0 : Nat) (0 : Nat) [])))))
else (∃ cs_33 : (List Int), (∃ ex_34 : (List Xt), ((Lf ((medK (cellsI cs_28) (List.length cs_28) (cellsXM ex_29) (List.length ex_29) cs_33 ex_34) ∧
 ((List.length y_31) ≤ (1000000000 : Nat)))) ∧
 (∀ s_35 : (List UInt8), (∀ e_36 : Int, ((Lf ((Prod.mk s_35 e_36) = (encRM mk_23 ty_24 sq_25 ti_26 ss_27 cs_33 ex_34 p_30 y_31))) →
(bif (e_36 == (0 : Int)) then (bif (eqB s_35 t_22) then (Q (Out.ret (AV.bool true)) [] (Gh.mk (0 : Nat) (0 : Nat) []))
else (Q (Out.ret (AV.bool false)) [] (Gh.mk (0 : Nat) (0 : Nat) [])))
else (Q (Out.ret (AV.bool false)) [] (Gh.mk (0 : Nat) (0 : Nat) [])))))))))))))))))))))
else False))))))))))))))))))))
else False)))))))))))))))) := by kernel_rfl

theorem enc_len {mk : Bool} {ty sq ti ss : Int} {cs : List Int} {ex : List Xt} {pad : Int} {pl : List UInt8} (hp : 0 ≤ pad) : ((encM mk ty sq ti ss cs ex pad pl).length : Int) = totalM mk ty sq ti ss cs ex pad pl := by
  rw [encM, totalM, List.length_append, List.length_append, padM]
  split
  · rw [List.length_append, List.length_replicate, put_len]
    simp
    omega
  · simp
    omega
theorem right_lens {ty sq ti ss : Int} {cs : List Int} {ex : List Xt} {pad : Int} (h : rightM ty sq ti ss cs ex pad = true) : cs.length ≤ 15 ∧ ex.length ≤ 16 ∧ dataM ex ∧ 0 ≤ pad ∧ pad ≤ 255 := by
  rw [rightM, Bool.and_eq_true, flagsM, decide_eq_true_eq] at h
  obtain ⟨⟨_, _, _, _, _, _, _, _, _, h10, h11, h12, h13⟩, ho⟩ := h
  exact ⟨h12, h13, fun x hx => by have := exts_all ex 0 (by omega) ho x hx; omega, h10, h11⟩
theorem enc_y {mk : Bool} {ty sq ti ss : Int} {cs : List Int} {ex : List Xt} {pad : Int} {pl : List UInt8} : pl.length ≤ (encM mk ty sq ti ss cs ex pad pl).length := by
  rw [encM, List.length_append, List.length_append]
  omega
theorem back_run (mk : Bool) (ty seq ti ss : Int) (tc : Nat) (ks : List Int) (tx : Nat) (ps : List Xt) (pad : Int) (pl : List UInt8) (a b : Int) (text : List UInt8) (hdk : draftK (cells32M ks) ks.length (cellsPcM ps) ps.length ks ps) (hty : 0 ≤ ty ∧ ty ≤ 255) (hseq : 0 ≤ seq ∧ seq ≤ 65535) (hti : 0 ≤ ti ∧ ti ≤ 4294967295) (hss : 0 ≤ ss ∧ ss ≤ 4294967295) (hpad : 0 ≤ pad ∧ pad ≤ 255)
    (ha : 0 ≤ a ∧ a ≤ 65535) (hb : 0 ≤ b ∧ b ≤ 255) (Q : Out → List Blk → Gh → Prop) (hq : Q (.ret (.bool true)) [] {}) : ∃ hv hb, goal_6 hv hb mk ty seq ti ss tc ks tx ps pad pl a b text Q := by
  obtain ⟨hv, hb', e⟩ : ∃ hv hb, goal_6 hv hb mk ty seq ti ss tc ks tx ps pad pl a b text Q = _ := ⟨_, _, vc_6 mk ty seq ti ss tc ks tx ps pad pl a b text Q⟩
  refine ⟨hv, hb', e.mpr ?_⟩
  clear e
  refine ⟨ks, ps, ⟨hdk, hty, hseq, hti, hss, hpad⟩, ?_⟩
  rintro ty' cs ex p' ⟨e1, e2, e3, e4⟩
  obtain ⟨d1, d2⟩ := draft_right (mk := mk) (ps := ps) (pl := pl) hdk.2.2.2.2.2.2.1 hty hseq hti hss hpad
  rw [← e1, ← e2, ← e3] at d1
  rw [← e1, ← e2, ← e3, ← e4] at d2
  obtain ⟨l1, l2, l3, _, _⟩ := right_lens d1
  have hp60 : p'.length ≤ 60 := by rw [e4, List.length_take]; omega
  have hlen := enc_len (mk := mk) (ty := ty') (sq := seq) (ti := ti) (ss := ss) (cs := cs) (ex := ex) (pl := p') hpad.1
  have hl : (encM mk ty' seq ti ss cs ex pad p').length ≤ 1200 := by omega
  refine ⟨cs, ex, ⟨⟨rfl, rfl, rfl, rfl, by omega, by omega, l3⟩, by omega⟩, ?_⟩
  rintro s e ⟨he⟩
  rw [encRM, if_neg (by rw [d1]; simp), if_neg (by omega)] at he
  simp only [Prod.mk.injEq] at he
  obtain ⟨rfl, rfl⟩ := he
  refine ckI (by rw [Nat.ble_eq]; omega) ?_
  rintro mk1 ty1 sq1 ti1 ss1 cs1 ex1 p1 y1 e1' ⟨hd⟩
  rw [dec_enc d1 hl] at hd
  simp only [Prod.mk.injEq] at hd
  obtain ⟨rfl, rfl, rfl, rfl, rfl, rfl, rfl, rfl, rfl, rfl⟩ := hd
  refine splitNE (fun h => absurd rfl h) (fun _ => splitNE (fun h => absurd rfl h) (fun _ => ⟨cs, ex, ⟨⟨rfl, rfl, rfl, rfl, by omega, by omega⟩, rfl, rfl, rfl, rfl, rfl, rfl, rfl, rfl, rfl, rfl, rfl⟩, ⟨ha, hb, by omega⟩, ?_⟩))
  rintro t ⟨ht⟩
  refine ckI (by rw [Nat.ble_eq]; omega) ?_
  rintro mk2 ty2 sq2 ti2 ss2 cs2 ex2 p2 y2 e2' ⟨hd⟩
  refine splitNE (fun hne => ?_) (fun h0 => ?_)
  · obtain ⟨hz, hc⟩ := dec_err hd hne
    rw [hz, zerM] at hd
    simp only [Prod.mk.injEq] at hd
    obtain ⟨rfl, rfl, rfl, rfl, rfl, rfl, rfl, rfl, rfl, _⟩ := hd
    refine splitE (fun _ => ?_) (fun h7 => splitE (fun _ => ?_) (fun h5 => splitE (fun _ => ?_) (fun h3 => absurd hc (by omega))))
    all_goals exact ⟨[], [], ⟨⟨rfl, rfl, rfl, rfl, by simp, by simp⟩, rfl, rfl, rfl, rfl, rfl, rfl, rfl, rfl, rfl, rfl, rfl⟩, hq⟩
  · subst h0
    obtain ⟨r1, r2, r3⟩ := dec_ok hd
    obtain ⟨m1, m2, m3, m4, m5⟩ := right_lens r1
    have hy := enc_y (mk := mk2) (ty := ty2) (sq := sq2) (ti := ti2) (ss := ss2) (cs := cs2) (ex := ex2) (pad := p2) (pl := y2)
    have hlen2 := enc_len (mk := mk2) (ty := ty2) (sq := sq2) (ti := ti2) (ss := ss2) (cs := cs2) (ex := ex2) (pl := y2) m4
    rw [r2] at hy hlen2
    refine ⟨cs2, ex2, ⟨⟨rfl, rfl, rfl, rfl, by omega, by omega, m3⟩, by omega⟩, ?_⟩
    rintro s' e' ⟨he'⟩
    rw [encRM, if_neg (by rw [r1]; simp), if_neg (by omega), r2] at he'
    simp only [Prod.mk.injEq] at he'
    obtain ⟨rfl, rfl⟩ := he'
    refine splitE (fun _ => ?_) (fun h => absurd rfl h)
    rw [eqB_self]
    exact hq
end Go.Proofs.YtbchmkhliehbfaaDoor
