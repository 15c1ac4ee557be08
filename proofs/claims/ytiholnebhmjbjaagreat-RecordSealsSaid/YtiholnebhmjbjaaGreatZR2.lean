/-
  Chapter 17, second seat: RecordSeals.
-/
import Derived.Test.YtiholnebhmjbjaaGreatZR1
set_option linter.unusedSimpArgs false
set_option linter.unusedVariables false
set_option linter.unusedSectionVars false
namespace Go.Proofs.YtiholnebhmjbjaaGreat
open Go.RowKit
set_option maxRecDepth 1000000

def smZ3 : SM := lookS [(5, cTrue), (6, cDraftS), (7, cBendS), (8, cSndB), (9, cChkS), (10, cSealX), (11, cSealX)]
theorem smZ3_ok : ∀ f g, smZ3 f = some g → ValidF Tryz.prog gl0 f g := lookS_ok _ (by simp only [List.mem_cons, List.not_mem_nil, or_false, forall_eq_or_imp, forall_eq]; exact ⟨wakes_ok, draftS_ok, bendS_ok, sndB_ok, chkS_ok, sealX_ok, sealXR_ok⟩)
noncomputable def goal_z3 (hv : Nat → Option Pa) (hb : Nat → Option Bool) (ep st kk sk : Int) (sn : List UInt8) (wh n : Int) (t : List UInt8) (x y kind small : Int) (body : List UInt8) (Q : Out → List Blk → Gh → Prop) : Prop :=
  callx (e04 smZ3 (fun _ => none) hv hb) (wpx (e04 smZ3 (fun _ => none) hv hb) 1000) 3 [.agg [.int .u16 ep, .int .u16 st, .int .u8 kk, .int .u8 sk, .lst 0 (ofBytes sn) sn.length 1], .agg [.int .u8 wh, .int .i64 n, .str t, .int .i64 x, .int .u64 y], .int .i64 kind, .int .u8 small, .str body] [] {} Q
theorem vc_z3 (ep : Int) (st : Int) (kk : Int) (sk : Int) (sn : List UInt8) (wh : Int) (n : Int) (t : List UInt8) (x : Int) (y : Int) (kind : Int) (small : Int) (body : List UInt8) (Q : Out → List Blk → Gh → Prop) : goal_z3 (lookV [(12314,
 .int .i64), (12315, .int .i64), (12316, .str), (12335, .int .i64)]) (lookB []) ep st kk sk sn wh n t x y kind small body Q = (exI .i64 (body.length : Int) fun n_0 => exI .i64 (imin n_0 990) fun n_1 => ckQ (decide (0 ≤ n_1) && true &&
 Nat.ble n_1.toNat body.length) (exS (.str ((body.drop 0).take (n_1.toNat - 0))) fun s_2 => ∃ s_3 : List UInt8, Lf (ofBytes sn = ofBytes s_3 ∧ (0 ≤ ep ∧ ep ≤ 65535) ∧ 0 ≤ st ∧ st ≤ 65535) ∧ ∀ e_4 : Int, ∀ key_5 salt_6 : List UInt8, Lf (e_4
 = ep % 4 ∧ key_5.length = 32 ∧ salt_6.length = 12) → ckQ (eqAVL [.int .u16 ep, .int .u16 st, .int .u8 kk, .int .u8 sk, .lst 0 (ofBytes sn) sn.length 1] [.int .u16 ep, .int .u16 st, .int .u8 kk, .int .u8 sk, .lst 0 (ofBytes sn) sn.length 1]
 && true) (ckQ (eqAVL [.int .u8 wh, .int .i64 n, .str t, .int .i64 x, .int .u64 y] [.int .u8 wh, .int .i64 n, .str t, .int .i64 x, .int .u64 y] && true) (∃ s_7 : List UInt8, Lf (ofBytes sn = ofBytes s_7 ∧ (0 ≤ ep ∧ ep ≤ 65535) ∧ 0 ≤ st ∧ st
 ≤ 65535) ∧ ∀ e_8 : Int, ∀ key_9 salt_10 : List UInt8, Lf (e_8 = ep % 4 ∧ key_9.length = 32 ∧ salt_10.length = 12) → ckQ (eqAVL [.int .u8 wh, .int .i64 n, .str t, .int .i64 x, .int .u64 y] [.int .u8 wh, .int .i64 n, .str t, .int .i64 x,
 .int .u64 y] && true) (∀ e_11 nx_12 : Int, ∀ key_13 salt_14 : List UInt8, ∀ b_15 : Bool, Lf (b_15 = sndOkM e_4 st key_5 salt_6) → bif b_15 then ∀ x_16 : Int, Lf (x_16 = chkM (sndOkM e_4 st key_5 salt_6)) → bif x_16 != 0 then Q (.ret (.bool
 false)) [] {} else exW .i64 small fun n_17 => ∀ a_18 b_19 : Int, ∀ k_20 s_21 x_22 : List UInt8, ∀ r_23 : Int, Lf (sealXM e_4 st key_5 salt_6 kind s_2 = Prod.mk a_18 (Prod.mk b_19 (Prod.mk k_20 (Prod.mk s_21 (Prod.mk x_22 r_23))))) → ∀ a_24
 b_25 : Int, ∀ k_26 s_27 x_28 : List UInt8, ∀ r_29 : Int, Lf (sealXM e_4 st key_5 salt_6 kind s_2 = Prod.mk a_24 (Prod.mk b_25 (Prod.mk k_26 (Prod.mk s_27 (Prod.mk x_28 r_29))))) → bif !(a_18 == a_24 && (b_19 == b_25 && (eqB k_20 k_26 &&
 (eqB s_21 s_27 && true)))) then Q (.ret (.bool false)) [] {} else bif !eqB x_22 x_28 then Q (.ret (.bool false)) [] {} else bif r_23 != r_29 then Q (.ret (.bool false)) [] {} else ∀ a_30 b_31 : Int, ∀ k_32 s_33 x_34 : List UInt8, ∀ r_35 :
 Int, Lf (sealXM e_4 st key_5 salt_6 n_17 s_2 = Prod.mk a_30 (Prod.mk b_31 (Prod.mk k_32 (Prod.mk s_33 (Prod.mk x_34 r_35))))) → ∀ a_36 b_37 : Int, ∀ k_38 s_39 x_40 : List UInt8, ∀ r_41 : Int, Lf (sealXM e_4 st key_5 salt_6 n_17 s_2 =
 Prod.mk a_36 (Prod.mk b_37 (Prod.mk k_38 (Prod.mk s_39 (Prod.mk x_40 r_41))))) → bif !(a_30 == a_36 && (b_31 == b_37 && (eqB k_32 k_38 && (eqB s_33 s_39 && true)))) then Q (.ret (.bool false)) [] {} else bif !eqB x_34 x_40 then Q (.ret
 (.bool false)) [] {} else bif r_35 != r_41 then Q (.ret (.bool false)) [] {} else ∀ b_42 : Bool, Lf (b_42 = sndOkM e_11 nx_12 key_13 salt_14) → bif b_42 then ∀ x_43 : Int, Lf (x_43 = chkM (sndOkM e_11 nx_12 key_13 salt_14)) → bif x_43 != 0
 then Q (.ret (.bool false)) [] {} else exW .i64 small fun n_44 => ∀ a_45 b_46 : Int, ∀ k_47 s_48 x_49 : List UInt8, ∀ r_50 : Int, Lf (sealXM e_11 nx_12 key_13 salt_14 kind s_2 = Prod.mk a_45 (Prod.mk b_46 (Prod.mk k_47 (Prod.mk s_48
 (Prod.mk x_49 r_50))))) → ∀ a_51 b_52 : Int, ∀ k_53 s_54 x_55 : List UInt8, ∀ r_56 : Int, Lf (sealXM e_11 nx_12 key_13 salt_14 kind s_2 = Prod.mk a_51 (Prod.mk b_52 (Prod.mk k_53 (Prod.mk s_54 (Prod.mk x_55 r_56))))) → bif !(a_45 == a_51
 && (b_46 == b_52 && (eqB k_47 k_53 && (eqB s_48 s_54 && true)))) then Q (.ret (.bool false)) [] {} else bif !eqB x_49 x_55 then Q (.ret (.bool false)) [] {} else bif r_50 != r_56 then Q (.ret (.bool false)) [] {} else ∀ a_57 b_58 : Int, ∀
 k_59 s_60 x_61 : List UInt8, ∀ r_62 : Int, Lf (sealXM e_11 nx_12 key_13 salt_14 n_44 s_2 = Prod.mk a_57 (Prod.mk b_58 (Prod.mk k_59 (Prod.mk s_60 (Prod.mk x_61 r_62))))) → ∀ a_63 b_64 : Int, ∀ k_65 s_66 x_67 : List UInt8, ∀ r_68 : Int, Lf
 (sealXM e_11 nx_12 key_13 salt_14 n_44 s_2 = Prod.mk a_63 (Prod.mk b_64 (Prod.mk k_65 (Prod.mk s_66 (Prod.mk x_67 r_68))))) → bif !(a_57 == a_63 && (b_58 == b_64 && (eqB k_59 k_65 && (eqB s_60 s_66 && true)))) then Q (.ret (.bool false))
 [] {} else bif !eqB x_61 x_67 then Q (.ret (.bool false)) [] {} else bif r_62 != r_68 then Q (.ret (.bool false)) [] {} else Q (.ret (.bool true)) [] {} else ∀ x_43 : Int, Lf (x_43 = chkM (sndOkM e_11 nx_12 key_13 salt_14)) → bif x_43 !=
 170 then Q (.ret (.bool false)) [] {} else exW .i64 small fun n_44 => ∀ a_45 b_46 : Int, ∀ k_47 s_48 x_49 : List UInt8, ∀ r_50 : Int, Lf (sealXM e_11 nx_12 key_13 salt_14 kind s_2 = Prod.mk a_45 (Prod.mk b_46 (Prod.mk k_47 (Prod.mk s_48
 (Prod.mk x_49 r_50))))) → ∀ a_51 b_52 : Int, ∀ k_53 s_54 x_55 : List UInt8, ∀ r_56 : Int, Lf (sealXM e_11 nx_12 key_13 salt_14 kind s_2 = Prod.mk a_51 (Prod.mk b_52 (Prod.mk k_53 (Prod.mk s_54 (Prod.mk x_55 r_56))))) → bif !(a_45 == a_51
 && (b_46 == b_52 && (eqB k_47 k_53 && (eqB s_48 s_54 && true)))) then Q (.ret (.bool false)) [] {} else bif !eqB x_49 x_55 then Q (.ret (.bool false)) [] {} else bif r_50 != r_56 then Q (.ret (.bool false)) [] {} else ∀ a_57 b_58 : Int, ∀
 k_59 s_60 x_61 : List UInt8, ∀ r_62 : Int, Lf (sealXM e_11 nx_12 key_13 salt_14 n_44 s_2 = Prod.mk a_57 (Prod.mk b_58 (Prod.mk k_59 (Prod.mk s_60 (Prod.mk x_61 r_62))))) → ∀ a_63 b_64 : Int, ∀ k_65 s_66 x_67 : List UInt8, ∀ r_68 : Int, Lf
 (sealXM e_11 nx_12 key_13 salt_14 n_44 s_2 = Prod.mk a_63 (Prod.mk b_64 (Prod.mk k_65 (Prod.mk s_66 (Prod.mk x_67 r_68))))) → bif !(a_57 == a_63 && (b_58 == b_64 && (eqB k_59 k_65 && (eqB s_60 s_66 && true)))) then Q (.ret (.bool false))
 [] {} else bif !eqB x_61 x_67 then Q (.ret (.bool false)) [] {} else bif r_62 != r_68 then Q (.ret (.bool false)) [] {} else Q (.ret (.bool true)) [] {} else ∀ x_16 : Int, Lf (x_16 = chkM (sndOkM e_4 st key_5 salt_6)) → bif x_16 != 170
 then Q (.ret (.bool false)) [] {} else exW .i64 small fun n_17 => ∀ a_18 b_19 : Int, ∀ k_20 s_21 x_22 : List UInt8, ∀ r_23 : Int, Lf (sealXM e_4 st key_5 salt_6 kind s_2 = Prod.mk a_18 (Prod.mk b_19 (Prod.mk k_20 (Prod.mk s_21 (Prod.mk
 x_22 r_23))))) → ∀ a_24 b_25 : Int, ∀ k_26 s_27 x_28 : List UInt8, ∀ r_29 : Int, Lf (sealXM e_4 st key_5 salt_6 kind s_2 = Prod.mk a_24 (Prod.mk b_25 (Prod.mk k_26 (Prod.mk s_27 (Prod.mk x_28 r_29))))) → bif !(a_18 == a_24 && (b_19 == b_25
 && (eqB k_20 k_26 && (eqB s_21 s_27 && true)))) then Q (.ret (.bool false)) [] {} else bif !eqB x_22 x_28 then Q (.ret (.bool false)) [] {} else bif r_23 != r_29 then Q (.ret (.bool false)) [] {} else ∀ a_30 b_31 : Int, ∀ k_32 s_33 x_34 :
 List UInt8, ∀ r_35 : Int, Lf (sealXM e_4 st key_5 salt_6 n_17 s_2 = Prod.mk a_30 (Prod.mk b_31 (Prod.mk k_32 (Prod.mk s_33 (Prod.mk x_34 r_35))))) → ∀ a_36 b_37 : Int, ∀ k_38 s_39 x_40 : List UInt8, ∀ r_41 : Int, Lf (sealXM e_4 st key_5
 salt_6 n_17 s_2 = Prod.mk a_36 (Prod.mk b_37 (Prod.mk k_38 (Prod.mk s_39 (Prod.mk x_40 r_41))))) → bif !(a_30 == a_36 && (b_31 == b_37 && (eqB k_32 k_38 && (eqB s_33 s_39 && true)))) then Q (.ret (.bool false)) [] {} else bif !eqB x_34
 x_40 then Q (.ret (.bool false)) [] {} else bif r_35 != r_41 then Q (.ret (.bool false)) [] {} else ∀ b_42 : Bool, Lf (b_42 = sndOkM e_11 nx_12 key_13 salt_14) → bif b_42 then ∀ x_43 : Int, Lf (x_43 = chkM (sndOkM e_11 nx_12 key_13
 salt_14)) → bif x_43 != 0 then Q (.ret (.bool false)) [] {} else exW .i64 small fun n_44 => ∀ a_45 b_46 : Int, ∀ k_47 s_48 x_49 : List UInt8, ∀ r_50 : Int, Lf (sealXM e_11 nx_12 key_13 salt_14 kind s_2 = Prod.mk a_45 (Prod.mk b_46 (Prod.mk
 k_47 (Prod.mk s_48 (Prod.mk x_49 r_50))))) → ∀ a_51 b_52 : Int, ∀ k_53 s_54 x_55 : List UInt8, ∀ r_56 : Int, Lf (sealXM e_11 nx_12 key_13 salt_14 kind s_2 = Prod.mk a_51 (Prod.mk b_52 (Prod.mk k_53 (Prod.mk s_54 (Prod.mk x_55 r_56))))) →
 bif !(a_45 == a_51 && (b_46 == b_52 && (eqB k_47 k_53 && (eqB s_48 s_54 && true)))) then Q (.ret (.bool false)) [] {} else bif !eqB x_49 x_55 then Q (.ret (.bool false)) [] {} else bif r_50 != r_56 then Q (.ret (.bool false)) [] {} else ∀
 a_57 b_58 : Int, ∀ k_59 s_60 x_61 : List UInt8, ∀ r_62 : Int, Lf (sealXM e_11 nx_12 key_13 salt_14 n_44 s_2 = Prod.mk a_57 (Prod.mk b_58 (Prod.mk k_59 (Prod.mk s_60 (Prod.mk x_61 r_62))))) → ∀ a_63 b_64 : Int, ∀ k_65 s_66 x_67 : List
 UInt8, ∀ r_68 : Int, Lf (sealXM e_11 nx_12 key_13 salt_14 n_44 s_2 = Prod.mk a_63 (Prod.mk b_64 (Prod.mk k_65 (Prod.mk s_66 (Prod.mk x_67 r_68))))) → bif !(a_57 == a_63 && (b_58 == b_64 && (eqB k_59 k_65 && (eqB s_60 s_66 && true)))) then
 Q (.ret (.bool false)) [] {} else bif !eqB x_61 x_67 then Q (.ret (.bool false)) [] {} else bif r_62 != r_68 then Q (.ret (.bool false)) [] {} else Q (.ret (.bool true)) [] {} else ∀ x_43 : Int, Lf (x_43 = chkM (sndOkM e_11 nx_12 key_13
 salt_14)) → bif x_43 != 170 then Q (.ret (.bool false)) [] {} else exW .i64 small fun n_44 => ∀ a_45 b_46 : Int, ∀ k_47 s_48 x_49 : List UInt8, ∀ r_50 : Int, Lf (sealXM e_11 nx_12 key_13 salt_14 kind s_2 = Prod.mk a_45 (Prod.mk b_46
 (Prod.mk k_47 (Prod.mk s_48 (Prod.mk x_49 r_50))))) → ∀ a_51 b_52 : Int, ∀ k_53 s_54 x_55 : List UInt8, ∀ r_56 : Int, Lf (sealXM e_11 nx_12 key_13 salt_14 kind s_2 = Prod.mk a_51 (Prod.mk b_52 (Prod.mk k_53 (Prod.mk s_54 (Prod.mk x_55
 r_56))))) → bif !(a_45 == a_51 && (b_46 == b_52 && (eqB k_47 k_53 && (eqB s_48 s_54 && true)))) then Q (.ret (.bool false)) [] {} else bif !eqB x_49 x_55 then Q (.ret (.bool false)) [] {} else bif r_50 != r_56 then Q (.ret (.bool false))
 [] {} else ∀ a_57 b_58 : Int, ∀ k_59 s_60 x_61 : List UInt8, ∀ r_62 : Int, Lf (sealXM e_11 nx_12 key_13 salt_14 n_44 s_2 = Prod.mk a_57 (Prod.mk b_58 (Prod.mk k_59 (Prod.mk s_60 (Prod.mk x_61 r_62))))) → ∀ a_63 b_64 : Int, ∀ k_65 s_66 x_67
 : List UInt8, ∀ r_68 : Int, Lf (sealXM e_11 nx_12 key_13 salt_14 n_44 s_2 = Prod.mk a_63 (Prod.mk b_64 (Prod.mk k_65 (Prod.mk s_66 (Prod.mk x_67 r_68))))) → bif !(a_57 == a_63 && (b_58 == b_64 && (eqB k_59 k_65 && (eqB s_60 s_66 &&
 true)))) then Q (.ret (.bool false)) [] {} else bif !eqB x_61 x_67 then Q (.ret (.bool false)) [] {} else bif r_62 != r_68 then Q (.ret (.bool false)) [] {} else Q (.ret (.bool true)) [] {}))))) := by kernel_rfl

theorem pair_ok {f : Int × Int × List UInt8 × List UInt8 × List UInt8 × Int} {R QF : Prop} (hR : R) : ∀ (a b : Int) (k s x : List UInt8) (r : Int), Lf (f = (a, b, k, s, x, r)) → ∀ (a' b' : Int) (k' s' x' : List UInt8) (r' : Int), Lf (f = (a', b', k', s', x', r')) →
    bif (!((a == a') && ((b == b') && ((eqB k k') && ((eqB s s') && true))))) then QF else (bif (!(eqB x x')) then QF else (bif (r != r') then QF else R)) := by
  rintro a b k s x r ⟨h⟩ a' b' k' s' x' r' ⟨h'⟩
  rw [h] at h'
  simp only [Prod.mk.injEq] at h'
  obtain ⟨rfl, rfl, rfl, rfl, rfl, rfl⟩ := h'
  simp only [eqB_refl, beq_self_eq_true, Bool.and_self, Bool.not_true, bne_self_eq_false, cond_false]
  exact hR
theorem snd_ok {b0 : Bool} {R1 R2 QF : Prop} (h1 : R1) (h2 : R2) : ∀ b : Bool, Lf (b = b0) → bif b then (∀ x : Int, Lf (x = chkM b0) → bif (x != (0 : Int)) then QF else R1) else (∀ x : Int, Lf (x = chkM b0) → bif (x != (170 : Int)) then QF else R2) := by
  rintro b ⟨rfl⟩
  cases b with
  | true => rintro x ⟨rfl⟩; exact h1
  | false => rintro x ⟨rfl⟩; exact h2
theorem eqAVL_ofB (s : List UInt8) : eqAVL (ofBytes s) (ofBytes s) = true := by
  induction s with
  | nil => rfl
  | cons c s ih => simp only [ofBytes, List.map_cons, eqAVL, eqAV, decide_true, Bool.true_and]; exact ih
theorem seals_run (ep st kk sk : Int) (sn : List UInt8) (wh n : Int) (t : List UInt8) (x y kind small : Int) (body : List UInt8) (hep : 0 ≤ ep ∧ ep ≤ 65535) (hst : 0 ≤ st ∧ st ≤ 65535) (hsm : 0 ≤ small ∧ small ≤ 255) (Q : Out → List Blk → Gh → Prop) (hq : Q (.ret (.bool true)) [] {}) : ∃ hv hb, goal_z3 hv hb ep st kk sk sn wh n t x y kind small body Q := by
  obtain ⟨hv, hb', e'⟩ : ∃ hv hb, goal_z3 hv hb ep st kk sk sn wh n t x y kind small body Q = _ := ⟨_, _, vc_z3 ep st kk sk sn wh n t x y kind small body Q⟩
  refine ⟨hv, hb', e'.mpr ?_⟩
  clear e'
  have e1 : imin (body.length : Int) 990 = ((min body.length 990 : Nat) : Int) := by unfold imin; split <;> omega
  refine ⟨_, rfl, _, rfl, ?_⟩
  rw [e1]
  refine ckI (by simp; omega) ⟨_, rfl, sn, ⟨rfl, hep, hst⟩, ?_⟩
  rintro e4 key5 salt6 ⟨h5⟩
  refine ckI (by simp [eqAVL, eqAV, eqB_refl, eqAVL_ofB]) (ckI (by simp [eqAVL, eqAV, eqB_refl]) ⟨sn, ⟨rfl, hep, hst⟩, ?_⟩)
  rintro e8 key9 salt10 ⟨h9⟩
  refine ckI (by simp [eqAVL, eqAV, eqB_refl]) ?_
  intro e11 nx12 key13 salt14
  have R2 := hq
  refine snd_ok ?_ ?_ <;> refine wrapI (by omega) (by omega) (pair_ok (pair_ok (snd_ok ?_ ?_))) <;> exact wrapI (by omega) (by omega) (pair_ok (pair_ok hq))
end Go.Proofs.YtiholnebhmjbjaaGreat
