/-
  Plain mathematics of leads.
-/
import Derived.Test.YthaapjfnadfmgaaPlain
namespace Go.Proofs.Ythaapjfnadfmgaa
open Go.RowKit

theorem aheadV_if (x y : Int) (k : Nat) (h : 1 ≤ k) : aheadV x y k = if 2 ^ (k - 1) ≤ (x - y) % 2 ^ k then (x - y) % 2 ^ k - 2 ^ k else (x - y) % 2 ^ k := by
  have hp := Int.pow_pos (n := 2) (m := k - 1) (by omega)
  have hs := pow_succ' k h
  have h1 := Int.emod_nonneg (x - y) (show (2 : Int) ^ k ≠ 0 by omega)
  have h2 := Int.emod_lt_of_pos (x - y) (show (0 : Int) < 2 ^ k by omega)
  unfold aheadV
  generalize (x - y) % 2 ^ k = d at *
  have h3 : d / 2 ^ (k - 1) = 1 ↔ 2 ^ (k - 1) ≤ d := by
    constructor
    · intro h
      have := Int.ediv_mul_le d (show (2 : Int) ^ (k - 1) ≠ 0 by omega)
      rw [h] at this; omega
    · intro h
      have e1 : 1 ≤ d / 2 ^ (k - 1) := Int.le_ediv_of_mul_le hp (by omega)
      have e2 : d / 2 ^ (k - 1) < 2 := Int.ediv_lt_of_lt_mul hp (by omega)
      omega
  by_cases hd : 2 ^ (k - 1) ≤ d
  · rw [if_pos hd, if_pos (h3.2 hd)]
  · rw [if_neg hd, if_neg (mt h3.1 hd)]

theorem ahead_shift (p q z : Int) (k : Nat) : aheadV ((p + z) % 2 ^ k) ((q + z) % 2 ^ k) k = aheadV p q k := by
  unfold aheadV
  rw [← Int.sub_emod, show p + z - (q + z) = p - q by omega]

theorem ahead_add (p q : Int) (k : Nat) (h : 1 ≤ k) (hp : 0 ≤ p) (hp' : p < 2 ^ k) : (q + aheadV p q k) % 2 ^ k = p := by
  rw [aheadV_if p q k h]
  have e : (q + (p - q) % 2 ^ k) % 2 ^ k = p := by
    rw [Int.add_emod_emod, show q + (p - q) = p by omega]
    exact Int.emod_eq_of_lt hp hp'
  split
  · rw [show q + ((p - q) % 2 ^ k - 2 ^ k) = q + (p - q) % 2 ^ k - 2 ^ k by omega, Int.sub_emod_right, e]
  · exact e

theorem ahead_turn (p q : Int) (k : Nat) (h : 1 ≤ k) :
    (aheadV p q k = -(2 ^ (k - 1)) ∧ aheadV q p k = aheadV p q k) ∨ (aheadV p q k ≠ -(2 ^ (k - 1)) ∧ aheadV q p k = -aheadV p q k) := by
  have hp := Int.pow_pos (n := 2) (m := k - 1) (by omega)
  have hs := pow_succ' k h
  rw [aheadV_if p q k h, aheadV_if q p k h]
  have h1 := Int.emod_nonneg (p - q) (show (2 : Int) ^ k ≠ 0 by omega)
  have h2 := Int.emod_lt_of_pos (p - q) (show (0 : Int) < 2 ^ k by omega)
  have he : (q - p) % 2 ^ k = if (p - q) % 2 ^ k = 0 then 0 else 2 ^ k - (p - q) % 2 ^ k := by
    have e0 : q - p = -(p - q) := by omega
    rw [e0]
    by_cases hd : (p - q) % 2 ^ k = 0
    · rw [if_pos hd]
      exact Int.emod_eq_zero_of_dvd (Int.dvd_neg.2 (Int.dvd_of_emod_eq_zero hd))
    · rw [if_neg hd]
      have e1 : -(p - q) = (2 ^ k - (p - q) % 2 ^ k) + 2 ^ k * (-((p - q) / 2 ^ k) - 1) := by
        have := Int.emod_add_mul_ediv (p - q) (2 ^ k)
        rw [Int.mul_sub, Int.mul_neg, Int.mul_one]
        omega
      rw [e1, Int.add_mul_emod_self_left]
      exact Int.emod_eq_of_lt (by omega) (by omega)
  rw [he]
  generalize (p - q) % 2 ^ k = d at *
  generalize (2 : Int) ^ k = M at *
  generalize (2 : Int) ^ (k - 1) = H at *
  by_cases hd : d = 0
  · subst hd
    simp only [if_true]
    rw [if_neg (by omega)]
    right; omega
  · simp only [hd, if_false]
    by_cases hH : H ≤ d
    · rw [if_pos hH]
      by_cases hE : H ≤ M - d
      · rw [if_pos hE]; left; omega
      · rw [if_neg hE]; right; omega
    · rw [if_neg hH, if_pos (by omega)]
      right; omega

theorem tdiv_half (k : Nat) (h : 1 ≤ k) : (-(2 : Int) ^ k).tdiv 2 = -(2 ^ (k - 1)) := by
  rw [pow_succ' k h, Int.neg_tdiv, Int.mul_tdiv_cancel_left _ (by omega)]
theorem div_half (k : Nat) (h : 1 ≤ k) : (2 : Int) ^ k / 2 = 2 ^ (k - 1) := by
  rw [pow_succ' k h, Int.mul_ediv_cancel_left _ (by omega)]

end Go.Proofs.Ythaapjfnadfmgaa
