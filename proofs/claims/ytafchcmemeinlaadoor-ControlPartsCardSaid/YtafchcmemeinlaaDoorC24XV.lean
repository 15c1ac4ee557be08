/-
  Chapter 24: Decode gives back what Encode wrote.
-/
import Derived.Test.YtafchcmemeinlaaDoorC24XU
set_option linter.unusedSimpArgs false
set_option linter.unusedVariables false
namespace Go.Proofs.YtafchcmemeinlaaDoor
open Go.RowKit
set_option maxRecDepth 1000000

theorem body_read {c : Ctl} (h : validM c = true) : readM (wireM c.k) (cntCM c) (padM (bodyM c)) = (c, true) := by
 have hv := (valid_iff c).1 h
 obtain ⟨h1, hf, ha, hs1, hs2, hs3, hs4, hs5, hba, hro, h2, h3, h4, h5, h6, h7, h8, h9⟩ := hv
 have hr : c.rs.all rcOkM = true := by
  simp only [rcsOkM, Bool.and_eq_true] at h8
  exact h8.2
 rcases valid_cases h with ⟨f, s1, s2, s3, s4, s5, rs, rfl, hrs⟩ | ⟨f, rs, rfl, hrs⟩ | ⟨f, rfl⟩ | ⟨f, a, lo, rfl, hlo⟩ | ⟨f, a, rfl⟩ | ⟨f, a, ba, ro, ti, rfl, hti⟩
 ·exact rd_200 hf hs1 hs2 hs3 hs4 hs5 hr
 ·exact rd_201 hf hr
 ·exact rd_203 hf
 ·exact rd_205 hf ha hlo
 ·exact rd_206 hf ha
 ·exact rd_tm hf ha hba hro hti
theorem wire_bd {c : Ctl} (h : validM c = true) : (0 ≤ wireM c.k ∧ wireM c.k < 256) ∧ 0 ≤ cntCM c ∧ cntCM c ≤ 31 := by
 have hr := rcsOk_len ((valid_iff c).1 h).2.2.2.2.2.2.2.2.2.2.2.2.2.2.2.2.1
 unfold wireM cntCM
 repeat' split
 all_goals omega
theorem one_eq (n k : Int) (b : List UInt8) : oneBM n k b = octM (128 + n) 0 :: octM k 0 :: octM ((b.length / 4 : Nat) : Int) 1 :: octM ((b.length / 4 : Nat) : Int) 0 :: b := by
 simp [oneBM, putM, beM]
theorem oct_nat (n : Int) (i : Nat) : ((octM n i).toNat : Int) = n / 256 ^ i % 256 := by
 rw [octM, UInt8.toNat_ofNat']
 have : (0 : Int) ≤ n / 256 ^ i % 256 ∧ n / 256 ^ i % 256 < 256 := ⟨Int.emod_nonneg _ (by decide), Int.emod_lt_of_pos _ (by decide)⟩
 omega
theorem one_pkLen {n k : Int} {b : List UInt8} (h4 : b.length % 4 = 0) (hb : b.length < 262144) (rest : List UInt8) : pkLen (oneBM n k b ++ rest) = (oneBM n k b).length := by
 have e1 := oct_nat ((b.length / 4 : Nat) : Int) 1
 have e0 := oct_nat ((b.length / 4 : Nat) : Int) 0
 rw [Int.pow_one] at e1
 rw [Int.pow_zero, Int.ediv_one] at e0
 rw [oneB_len, pkLen, one_eq, if_pos (by simp)]
 simp only [List.cons_append, List.getD_cons_succ, List.getD_cons_zero]
 omega
theorem one_read {c : Ctl} (h : validM c = true) (rest : List UInt8) : pkLen (oneM c ++ rest) = (oneM c).length ∧ pkRdM (oneM c ++ rest) = (c, true) := by
 have hb := body_len h
 have hp := pad_len (bodyM c)
 have hl := one_pkLen (n := cntCM c) (k := wireM c.k) hp.2.2 (by omega) rest
 refine ⟨hl, ?_⟩
 have hw := wire_bd h
 have e : ((oneM c ++ rest).take (pkLen (oneM c ++ rest))).drop 4 = padM (bodyM c) := by
  rw [oneM, hl, List.take_left' rfl, one_eq]
  rfl
 rw [pkRdM, e]
 have e0 : (((oneM c ++ rest).getD 0 0).toNat % 32 : Nat) = (cntCM c).toNat := by
  rw [oneM, one_eq]
  simp only [List.cons_append, List.getD_cons_zero]
  have := oct_nat (128 + cntCM c) 0
  rw [Int.pow_zero, Int.ediv_one] at this
  omega
 have e1 : (((oneM c ++ rest).getD 1 0).toNat : Int) = wireM c.k := by
  rw [oneM, one_eq]
  simp only [List.cons_append, List.getD_cons_succ, List.getD_cons_zero]
  have := oct_nat (wireM c.k) 0
  rw [Int.pow_zero, Int.ediv_one] at this
  omega
 rw [e0, e1, Int.toNat_of_nonneg hw.2.1]
 exact body_read h
theorem enc_ne {l : List Ctl} (h : checkM l = true) : encCM l ≠ [] := by
 have hc := (check_iff l).1 h
 cases l with
 | nil => simp at hc
 | cons c l =>
  have := (one_len (hc.2.2 c (by simp))).1
  intro hh
  have e : encCM (c :: l) = oneM c ++ encCM l := rfl
  have := congrArg List.length (e.symm.trans hh)
  rw [List.length_append, List.length_nil] at this
  omega
theorem dec_cases (s : List UInt8) : (∃ l, decRM s = (l, 0) ∧ checkM l = true ∧ encCM l = s ∧ s.length ≤ 1200) ∨ (∃ e, decRM s = ([], e) ∧ (e = 3 ∨ e = 5 ∨ e = 7)) := by
 unfold decRM
 split
 ·exact .inr ⟨3, rfl, by omega⟩
 ·split
  ·exact .inr ⟨7, rfl, by omega⟩
  ·split
   ·exact .inr ⟨7, rfl, by omega⟩
   ·rename_i p _
    split
    ·rename_i hp
     exact .inl ⟨p.1, rfl, hp.2.1, hp.2.2, by omega⟩
    ·exact .inr ⟨5, rfl, by omega⟩
end Go.Proofs.YtafchcmemeinlaaDoor
