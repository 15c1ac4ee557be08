/-
  Contracts of the functions of octets and of its reference that only compute with numbers.
-/
import Derived.Test.YthaapjfnadfmgaaLib
import Derived.Test.YthaapjfnadfmgaaPlain
namespace Go.Proofs.Ythaapjfnadfmgaa
open Go.RowKit

/-- the empty string as a value -/
abbrev vE : Value := .string ⟨#[]⟩

set_option maxHeartbeats 400000 in
theorem unit_any (n : Int) (w : World) :
    Calls Try.prog 41 #[.int .i64 n] w fun e w' => e = .returned (.bool (isUnit n)) ∧ w = w' := by
  by_cases h1 : n < 1
  · go_enter Try.func41, Try.ntmps41
    have hd : decide (1 ≤ n) = false := by simp; omega
    go_wp2
    go_ret
    exact ⟨by simp [isUnit]; omega, rfl⟩
  · by_cases h8 : 8 < n
    · have hd1 : decide (1 ≤ n) = true := by simp; omega
      have hd : decide (n ≤ 8) = false := by simp; omega
      go_enter Try.func41, Try.ntmps41
      go_wp2
      go_ret
      exact ⟨by simp [isUnit]; omega, rfl⟩
    · have h : n = 1 ∨ n = 2 ∨ n = 3 ∨ n = 4 ∨ n = 5 ∨ n = 6 ∨ n = 7 ∨ n = 8 := by omega
      clear h1 h8
      rcases h with rfl | rfl | rfl | rfl | rfl | rfl | rfl | rfl
      all_goals
        go_enter Try.func41, Try.ntmps41
        go_wp2
        go_ret
        exact ⟨by kernel_rfl, rfl⟩


set_option maxHeartbeats 400000 in
theorem ahead_ok (x y : Int) (k : Nat) (w : World) (h0 : 1 ≤ k) (h1 : k ≤ 32) (hx : 0 ≤ x) (hx' : x < 2 ^ k) (hy : 0 ≤ y) (hy' : y < 2 ^ k) :
    Calls Try.prog 20 #[.int .i64 x, .int .i64 y, .int .i64 k] w fun e w' => e = .returned (.tuple #[.int .i64 (aheadV x y k), .int .i64 0]) ∧ w = w' := by
  obtain ⟨hp1, hp2⟩ := pow_bd k h1
  have hand := and_mask (x - y) k (by omega)
  have hdx : x / 2 ^ k = 0 := (div_pow_zero x k hx).2 hx'
  have hdy : y / 2 ^ k = 0 := (div_pow_zero y k hy).2 hy'
  have hb := aheadV_bd x y k h0
  have hd1 := Int.emod_nonneg (x - y) (show (2 : Int) ^ k ≠ 0 by omega)
  have hd2 := Int.emod_lt_of_pos (x - y) (show (0 : Int) < 2 ^ k by omega)
  go_enter Try.func20, Try.ntmps20
  go_wp2
  · have h2 : ((x - y) % 2 ^ k / 2 ^ (k - 1) == 1) = true := by assumption
    have e : aheadV x y k = (x - y) % 2 ^ k - 2 ^ k := by unfold aheadV; exact if_pos (by simpa using h2)
    go_ret2
    exact ⟨ret2 (vint e.symm) rfl, rfl⟩
  · have h2 : ((x - y) % 2 ^ k / 2 ^ (k - 1) == 1) = false := by assumption
    have e : aheadV x y k = (x - y) % 2 ^ k := by unfold aheadV; exact if_neg (by simpa using h2)
    go_ret2
    exact ⟨ret2 (vint e.symm) rfl, rfl⟩

set_option maxHeartbeats 400000 in
theorem ahead_bad (x y b : Int) (w : World) (h : (okSer x b && okSer y b) = false) :
    Calls Try.prog 20 #[.int .i64 x, .int .i64 y, .int .i64 b] w fun e w' => e = .returned (.tuple #[.int .i64 0, .int .i64 2]) ∧ w = w' := by
  have H := hid h
  clear h
  go_enter Try.func20, Try.ntmps20
  go_wp2
  all_goals first
    | (exfalso
       have h2 : (((1 ≤ b ∧ b ≤ 32) ∧ 0 ≤ x) ∧ 0 ≤ y) ∧ (y / 2 ^ b.toNat != 0) = false := by assumption
       have h1 : x / 2 ^ b.toNat = 0 := by assumption
       have h := H.out
       rw [(okSer_iff x b).2 ⟨by omega, by omega, by omega, h1⟩, (okSer_iff y b).2 ⟨by omega, by omega, by omega, by simpa using h2.2⟩] at h
       exact absurd h (by decide))
    | (go_ret2; exact ⟨rfl, rfl⟩)

/-- what Ahead returns -/
theorem ahead_any (x y b : Int) (w : World) :
    Calls Try.prog 20 #[.int .i64 x, .int .i64 y, .int .i64 b] w fun e w' => e = .returned (.tuple #[.int .i64 (ahead x y b).1, .int .i64 (ahead x y b).2]) ∧ w = w' := by
  by_cases h : (okSer x b && okSer y b) = true
  · simp only [ahead, h, if_true]
    obtain ⟨hx, hy⟩ := (Bool.and_eq_true _ _ ▸ h : okSer x b = true ∧ okSer y b = true)
    obtain ⟨h1, h2, h3, h4⟩ := (okSer_iff x b).1 hx
    obtain ⟨_, _, h5, h6⟩ := (okSer_iff y b).1 hy
    obtain ⟨k, rfl⟩ : ∃ k : Nat, b = k := ⟨b.toNat, by omega⟩
    simp only [Int.toNat_natCast] at h4 h6 ⊢
    exact ahead_ok x y k w (by omega) (by omega) h3 ((div_pow_zero x k h3).1 h4) h5 ((div_pow_zero y k h5).1 h6)
  · have h' : (okSer x b && okSer y b) = false := by simpa using h
    simp only [ahead, h', Bool.false_eq_true, if_false]
    exact ahead_bad x y b w h'

theorem newer_any (x y b : Int) (w : World) :
    Calls Try.prog 21 #[.int .i64 x, .int .i64 y, .int .i64 b] w fun e w' => e = .returned (.tuple #[.bool (decide (0 < (ahead x y b).1)), .int .i64 (ahead x y b).2]) ∧ w = w' := by
  obtain ⟨p, hp⟩ : ∃ p, p = ahead x y b := ⟨_, rfl⟩
  have H := hid hp
  have c := ahead_any x y b w
  rw [← hp] at c ⊢
  clear hp
  obtain ⟨p1, p2⟩ := p
  go_enter Try.func21, Try.ntmps21
  go_wp2_with (go_at_call 20; refine c.mono ?_; rintro e w' ⟨rfl, rfl⟩)
  go_ret2
  exact ⟨rfl, rfl⟩
end Go.Proofs.Ythaapjfnadfmgaa
