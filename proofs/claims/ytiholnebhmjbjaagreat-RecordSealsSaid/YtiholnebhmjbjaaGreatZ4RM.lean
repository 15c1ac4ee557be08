/-
  Chapter 4: the reference's Seal and Open; changes.
-/
import Derived.Test.YtiholnebhmjbjaaGreatZ4RL
set_option linter.unusedSimpArgs false
set_option linter.unusedVariables false
set_option linter.unusedSectionVars false
namespace Go.Proofs.YtiholnebhmjbjaaGreat
open Go.RowKit
set_option maxRecDepth 1000000

def smSr : SM := lookS [(60, cTagR), (59, cApR), (61, cBlkR), (62, cUpR), (63, cEight)]
theorem smSr_ok : ∀ f g, smSr f = some g → ValidF Tryz.prog gl0 f g := lookS_ok _ (by simp only [List.mem_cons, List.not_mem_nil, or_false, forall_eq_or_imp, forall_eq]; exact ⟨rtag_ok, rap_ok, rblk_ok, rup_ok, eight_ok⟩)
noncomputable def goal_16f (hv : Nat → Option Pa) (hb : Nat → Option Bool) (key nonce extra plain : List UInt8) (Q : Out → List Blk → Gh → Prop) : Prop :=
  callx (e04 smSr (fun _ => none) hv hb) (wpx (e04 smSr (fun _ => none) hv hb) 1000) 35 [.str key, .str nonce, .str extra, .str plain] [] {} Q
theorem vc_16f (key : List UInt8) (nonce : List UInt8) (extra : List UInt8) (plain : List UInt8) (Q : Out → List Blk → Gh → Prop) : goal_16f (lookV [(143385, .int .i64), (143389, .int .i64), (143378, .str), (143383, .str), (143387, .str),
 (143391, .str), (143393, .str)]) (lookB []) key nonce extra plain Q = (Lf (key.length = 32 ∧ nonce.length = 12 ∧ ((0 : Int) ≤ (1 : Int) ∧ (1 : Int) ≤ (1000 : Int)) ∧ plain.length ≤ 4480) ∧ ∀ t_0 : List UInt8, Lf (t_0 = appM (firstM key
 nonce) 1 70 plain) → exI .i64 (extra.length : Int) fun n_1 => exI .i64 (t_0.length : Int) fun n_2 => ∃ n_3 : Nat, Lf (0 = (n_3 : Int) ∧ n_3 < 4294967296 ∧ key.length = 32 ∧ nonce.length = 12) ∧ ∀ t_4 : List UInt8, Lf (t_4 = List.map
 UInt8.ofNat (blkM (firstM key nonce) 0)) → ckQ (Nat.ble 32 t_4.length) (exS (.str ((t_4.drop 0).take 32)) fun s_5 => Lf (extra.length ≤ 100000) ∧ ∀ t_6 : List UInt8, Lf (t_6 = extra ++ List.replicate ((16 - extra.length % 16) % 16) 0) → Lf
 (t_0.length ≤ 100000) ∧ ∀ t_7 : List UInt8, Lf (t_7 = t_0 ++ List.replicate ((16 - t_0.length % 16) % 16) 0) → ckQ (decide (t_6.length + t_7.length ≤ 9223372036854775807) && true) (exS (.str (t_6 ++ t_7)) fun s_8 => ∃ n_9 : Nat, Lf (n_1 =
 (n_9 : Int) ∧ n_9 ≤ 100000) ∧ ∀ t_10 : List UInt8, Lf (t_10 = leBM 8 n_9) → ckQ (decide (s_8.length + t_10.length ≤ 9223372036854775807) && true) (exS (.str (s_8 ++ t_10)) fun s_11 => ∃ n_12 : Nat, Lf (n_2 = (n_12 : Int) ∧ n_12 ≤ 100000) ∧
 ∀ t_13 : List UInt8, Lf (t_13 = leBM 8 n_12) → ckQ (decide (s_11.length + t_13.length ≤ 9223372036854775807) && true) (exS (.str (s_11 ++ t_13)) fun s_14 => Lf (s_5.length = 32 ∧ s_14.length ≤ 100000) ∧ ∀ t_15 : List UInt8, Lf (t_15 = tagM
 s_5 s_14) → ckQ (decide (t_0.length + t_15.length ≤ 9223372036854775807) && true) (exS (.str (t_0 ++ t_15)) fun s_16 => Q (.ret (.str s_16)) [] {})))))) := by kernel_rfl

def cSealRf : Con
  | [.str key, .str nonce, .str extra, .str plain], H, K => Lf (key.length = 32 ∧ nonce.length = 12 ∧ extra.length ≤ 4096 ∧ plain.length ≤ 4096) ∧ ∀ t, Lf (t = (sealM key nonce extra plain).1) → K (.ret (.str t)) H
  | _, _, _ => False
theorem size_le {n : Nat} (h : n < 65536) : leBM 8 n = sizeM n := by
  have z : ∀ m, m / 256 / 256 = 0 → UInt8.ofNat (m / 256 / 256 % 256) = 0 := fun m hm => by rw [hm]; rfl
  have h0 : n / 256 / 256 = 0 := by omega
  simp only [leBM, sizeM, h0, Nat.zero_div, Nat.zero_mod]
  rfl
theorem rseal_ok : ValidF Tryz.prog gl0 35 cSealRf := by
  refine valid_flat (enters_of (by kernel_rfl)) gl0_noY fun args H Q hc => ?_
  unfold cSealRf at hc
  split at hc
  · rename_i key nonce extra plain
    obtain ⟨⟨h1, h2, h3, h4⟩, hq⟩ := hc
    obtain ⟨hv, hb', e⟩ : ∃ hv hb, goal_16f hv hb key nonce extra plain (fun o H' _ => H' = [] ∧ (∃ v, o = .ret v ∧ old 0 v = true ∧ noY v = true) ∧ Q o H) = _ := ⟨_, _, vc_16f key nonce extra plain _⟩
    refine ⟨rfl, rfl, _, 1000, envFor04 smSr_ok _ hv hb', rfl, e.mpr ?_⟩
    have hr : rightM key nonce 0 = true := by simp [rightM, h1, h2]
    have hsl : sealM key nonce extra plain = (appM (firstM key nonce) 1 70 plain ++ checkM key nonce extra (appM (firstM key nonce) 1 70 plain), 0) := by rw [sealM, if_neg (by rw [hr]; simp), if_neg (by omega)]
    have hbk : (blockM key nonce 0).1 = (blkM (firstM key nonce) 0).map UInt8.ofNat := by rw [blockM, hr]; rfl
    refine ⟨⟨h1, h2, by decide, by omega⟩, ?_⟩
    rintro t0 ⟨e0⟩
    have l0 := app_len (firstM key nonce) 70 1 plain (by omega)
    rw [← e0] at l0 hsl
    refine ⟨_, rfl, _, rfl, 0, ⟨rfl, by decide, h1, h2⟩, ?_⟩
    rintro t4 ⟨e4⟩
    have l4 : t4.length = 64 := by rw [e4, List.length_map, len_blk]
    refine ckI (by rw [l4]; rfl) ⟨t4.take 32, by rw [List.drop_zero], ⟨by omega⟩, ?_⟩
    rintro t6 ⟨e6⟩
    have l6 : t6.length ≤ 4112 := by rw [e6]; simp; omega
    refine ⟨⟨by omega⟩, ?_⟩
    rintro t7 ⟨e7⟩
    have l7 : t7.length ≤ 4112 := by rw [e7]; simp; omega
    refine ckI (by simp; omega) ⟨_, rfl, extra.length, ⟨rfl, by omega⟩, ?_⟩
    rintro t10 ⟨e10⟩
    have l10 : t10.length = 8 := by rw [e10, leB_len]
    refine ckI (by simp; omega) ⟨_, rfl, t0.length, ⟨rfl, by omega⟩, ?_⟩
    rintro t13 ⟨e13⟩
    have l13 : t13.length = 8 := by rw [e13, leB_len]
    refine ckI (by simp; omega) ⟨_, rfl, ⟨by rw [List.length_take]; omega, by simp; omega⟩, ?_⟩
    rintro t15 ⟨e15⟩
    have l15 : t15.length = 16 := by rw [e15, tagM, leB_len]
    refine ckI (by simp; omega) ⟨_, rfl, rfl, ⟨_, rfl, rfl, rfl⟩, hq _ ⟨?_⟩⟩
    rw [hsl]
    dsimp only
    rw [checkM, hbk, ← e4, e15, e6, e7, e10, e13, size_le (by omega), size_le (by omega)]
    rfl
  · exact hc.elim
end Go.Proofs.YtiholnebhmjbjaaGreat
