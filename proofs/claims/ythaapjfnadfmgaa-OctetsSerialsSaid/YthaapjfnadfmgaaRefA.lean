/-
  Contracts of the reference's functions on serial numbers.
-/
import Derived.Test.YthaapjfnadfmgaaOctA
namespace Go.Proofs.Ythaapjfnadfmgaa
open Go.RowKit

set_option maxHeartbeats 400000 in
theorem power_any (b : Nat) (w : World) (h1 : b ≤ 32) :
    Calls Try.prog 45 #[.int .i64 b] w fun e w' => e = .returned (.int .i64 (2 ^ b)) ∧ w = w' := by
  go_enter Try.func45, Try.ntmps45
  go_wp2
  go_loop [3, 4] (fun n i => ∃ k : Nat, k ≤ b ∧ i = .int .i64 k ∧ n = .int .i64 (2 ^ k)) (fun _ i => b - (intOf i).toNat)
  case atStart => exact ⟨0, Nat.zero_le _, rfl, rfl⟩
  case round =>
    obtain ⟨k, hk, rfl, rfl⟩ := hrel
    by_cases hlt : k < b
    · obtain ⟨hp1, hp2⟩ := pow_bd k (by omega)
      go_wp2
      go_round
      case rel => exact ⟨k + 1, by omega, by go_num, vint (by rw [Int.pow_succ]; omega)⟩
      case measure => simp [intOf]; omega
    · have hkb : k = b := by omega
      have HK := hid hkb
      clear hkb
      obtain ⟨hp1, hp2⟩ := pow_bd k (by omega)
      go_wp2
      go_ret
      exact ⟨ret1 (vint (by rw [HK.out])), rfl⟩

theorem power_i (b : Int) (w : World) (h0 : 0 ≤ b) (h1 : b ≤ 32) :
    Calls Try.prog 45 #[.int .i64 b] w fun e w' => e = .returned (.int .i64 (2 ^ b.toNat)) ∧ w = w' := by
  obtain ⟨k, rfl⟩ : ∃ k : Nat, b = k := ⟨b.toNat, by omega⟩
  exact power_any k w (by omega)

set_option maxHeartbeats 400000 in
theorem serial_any (x b : Int) (w : World) :
    Calls Try.prog 22 #[.int .i64 x, .int .i64 b] w fun e w' => e = .returned (.bool (okSer x b)) ∧ w = w' := by
  have key : (okSer x b = false ∧ (decide (1 ≤ b) = false ∨ (decide (1 ≤ b) = true ∧ decide (b ≤ 32) = false) ∨ (decide (1 ≤ b) = true ∧ decide (b ≤ 32) = true ∧ decide (0 ≤ x) = false))) ∨
      (decide (1 ≤ b) = true ∧ decide (b ≤ 32) = true ∧ decide (0 ≤ x) = true ∧ okSer x b = decide (x < 2 ^ b.toNat)) := by
    unfold okSer
    cases h1 : decide (1 ≤ b) <;> cases h2 : decide (b ≤ 32) <;> cases h3 : decide (0 ≤ x) <;> simp
  rcases key with ⟨hf, h1 | ⟨h1, h2⟩ | ⟨h1, h2, h3⟩⟩ | ⟨h1, h2, h3, h4⟩
  · rw [hf]; clear hf
    go_enter Try.func22, Try.ntmps22
    go_wp2
    go_ret
    exact ⟨rfl, rfl⟩
  · rw [hf]; clear hf
    go_enter Try.func22, Try.ntmps22
    go_wp2
    go_ret
    exact ⟨rfl, rfl⟩
  · rw [hf]; clear hf
    go_enter Try.func22, Try.ntmps22
    go_wp2
    go_ret
    exact ⟨rfl, rfl⟩
  · rw [h4]
    clear h4
    obtain ⟨k, rfl⟩ : ∃ k : Nat, b = k := ⟨b.toNat, by simp at h1; omega⟩
    have hk : k ≤ 32 := by simp at h2; omega
    have C := hid (fun w => power_any k w hk)
    rw [Int.toNat_natCast]
    go_enter Try.func22, Try.ntmps22
    go_wp2_with (go_at_call 45; refine (C.out _).mono ?_; rintro e w1 ⟨rfl, rfl⟩)
    go_ret
    exact ⟨rfl, rfl⟩

/-- the lead as the reference says it -/
def aheadP (x y : Int) (k : Nat) : Int :=
  if 2 ^ (k - 1) ≤ (if x - y < -(2 ^ (k - 1)) then x - y + 2 ^ k else x - y) then (if x - y < -(2 ^ (k - 1)) then x - y + 2 ^ k else x - y) - 2 ^ k else (if x - y < -(2 ^ (k - 1)) then x - y + 2 ^ k else x - y)

theorem aheadP_eq (x y : Int) (k : Nat) (h : 1 ≤ k) (hx : 0 ≤ x) (hx' : x < 2 ^ k) (hy : 0 ≤ y) (hy' : y < 2 ^ k) : aheadP x y k = aheadV x y k := by
  have hp := Int.pow_pos (n := 2) (m := k - 1) (by omega)
  have hs := pow_succ' k h
  unfold aheadP aheadV
  have hd : (x - y) % 2 ^ k = if y ≤ x then x - y else x - y + 2 ^ k := by
    split
    · exact Int.emod_eq_of_lt (by omega) (by omega)
    · rw [← Int.add_emod_right]
      exact Int.emod_eq_of_lt (by omega) (by omega)
  have h3 : ∀ d : Int, 0 ≤ d → d < 2 ^ k → (d / 2 ^ (k - 1) = 1 ↔ 2 ^ (k - 1) ≤ d) := by
    intro d h0 h1
    constructor
    · intro h
      have := Int.ediv_mul_le d (show (2 : Int) ^ (k - 1) ≠ 0 by omega)
      rw [h] at this; omega
    · intro h
      have e1 : 1 ≤ d / 2 ^ (k - 1) := Int.le_ediv_of_mul_le hp (by omega)
      have e2 : d / 2 ^ (k - 1) < 2 := Int.ediv_lt_of_lt_mul hp (by omega)
      omega
  have h4 := h3 ((x - y) % 2 ^ k) (Int.emod_nonneg _ (by omega)) (Int.emod_lt_of_pos _ (by omega))
  rw [hd] at h4 ⊢
  generalize (if y ≤ x then x - y else x - y + 2 ^ k) / 2 ^ (k - 1) = q at h4 ⊢
  generalize (2 : Int) ^ k = P at *
  generalize (2 : Int) ^ (k - 1) = H at *
  by_cases c1 : y ≤ x
  · simp only [c1, if_true] at h4 ⊢
    have c2 : ¬ x - y < -H := by omega
    simp only [c2, if_false]
    by_cases c3 : H ≤ x - y
    · rw [if_pos c3, if_pos (h4.2 c3)]
    · rw [if_neg c3, if_neg (mt h4.1 c3)]
  · simp only [c1, if_false] at h4 ⊢
    by_cases c2 : x - y < -H
    · simp only [c2, if_true]
      have c3 : ¬ H ≤ x - y + P := by omega
      rw [if_neg c3, if_neg (mt h4.1 c3)]
    · simp only [c2, if_false]
      have c3 : H ≤ x - y + P := by omega
      rw [if_neg (by omega), if_pos (h4.2 c3)]
      omega

set_option maxHeartbeats 1000000 in
theorem rahead_any (x y : Int) (k : Nat) (w : World) (h : 1 ≤ k) (hk : k ≤ 32) (hx : 0 ≤ x) (hx' : x < 2 ^ k) (hy : 0 ≤ y) (hy' : y < 2 ^ k) :
    Calls Try.prog 23 #[.int .i64 x, .int .i64 y, .int .i64 k] w fun e w' => e = .returned (.int .i64 (aheadV x y k)) ∧ w = w' := by
  rw [← aheadP_eq x y k h hx hx' hy hy']
  obtain ⟨hp1, hp2⟩ := pow_bd k hk
  obtain ⟨hp3, hp4⟩ := pow_bd (k - 1) (by omega)
  have hk1 : ((k : Int) - 1).toNat = k - 1 := by omega
  have hs := pow_succ' k h
  have HS := hid hs
  clear hs
  unfold aheadP
  have HX := hid hx'
  have HY := hid hy'
  by_cases c2 : x - y < -(2 ^ (k - 1))
  · simp only [c2, if_true]
    by_cases c3 : 2 ^ (k - 1) ≤ x - y + 2 ^ k
    · exfalso; have := HS.out; omega
    · rw [if_neg c3]
      go_enter Try.func23, Try.ntmps23
      go_wp2_with (go_at_call 45; refine (power_i _ _ (by omega) (by omega)).mono ?_; rintro e w1 ⟨rfl, rfl⟩)
      go_ret
      exact ⟨rfl, rfl⟩
  · simp only [c2, if_false]
    by_cases c3 : 2 ^ (k - 1) ≤ x - y
    · rw [if_pos c3]
      go_enter Try.func23, Try.ntmps23
      go_wp2_with (go_at_call 45; refine (power_i _ _ (by omega) (by omega)).mono ?_; rintro e w1 ⟨rfl, rfl⟩)
      go_ret
      exact ⟨rfl, rfl⟩
    · rw [if_neg c3]
      go_enter Try.func23, Try.ntmps23
      go_wp2_with (go_at_call 45; refine (power_i _ _ (by omega) (by omega)).mono ?_; rintro e w1 ⟨rfl, rfl⟩)
      go_ret
      exact ⟨rfl, rfl⟩

end Go.Proofs.Ythaapjfnadfmgaa
