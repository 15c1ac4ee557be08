/-
  Contracts of the reference's functions on numbers, units and paddings.
-/
import Derived.Test.YthaapjfnadfmgaaOctC2
namespace Go.Proofs.Ythaapjfnadfmgaa
open Go.RowKit

set_option maxHeartbeats 400000 in
theorem runit_any (n : Int) (w : World) :
    Calls Try.prog 14 #[.int .i64 n] w fun e w' => e = .returned (.bool (isUnit n)) ∧ w = w' := by
  unfold isUnit
  cases h1 : (n == 1)
  · cases h2 : (n == 2)
    · cases h4 : (n == 4)
      · go_enter Try.func14, Try.ntmps14
        go_wp2
        go_ret
        exact ⟨rfl, rfl⟩
      · go_enter Try.func14, Try.ntmps14
        go_wp2
        go_ret
        exact ⟨rfl, rfl⟩
    · go_enter Try.func14, Try.ntmps14
      go_wp2
      go_ret
      exact ⟨rfl, rfl⟩
  · go_enter Try.func14, Try.ntmps14
    go_wp2
    go_ret
    exact ⟨rfl, rfl⟩

set_option maxHeartbeats 400000 in
theorem rup_any (n u : Nat) (w : World) (hu : isUnit (u : Int) = true) (hn : n ≤ 140737488355328) :
    Calls Try.prog 37 #[.int .i64 n, .int .i64 u] w fun e w' => e = .returned (.int .i64 (upTo n u)) ∧ w = w' := by
  obtain ⟨hu1, hu2, hu3, hu4, hu5⟩ := upTo_facts n u hu
  have HU := hid hu5
  clear hu5 hu
  go_enter Try.func37, Try.ntmps37
  go_wp2
  go_loop [0] (fun v => ∃ m : Nat, n ≤ m ∧ m ≤ upTo n u ∧ v = .int .i64 m) (fun v => upTo n u - (intOf v).toNat)
  case atStart => exact ⟨n, by omega, by omega, rfl⟩
  case round =>
    obtain ⟨m, h1, h2, rfl⟩ := hrel
    by_cases hm : m % u = 0
    · have hmu := (HU.out m h1 h2).1 hm
      have ht : ((m : Int) % (u : Int) != 0) = false := by rw [← Int.natCast_emod, hm]; rfl
      have HMU := hid hmu
      clear hm hmu
      go_wp2
      go_ret
      exact ⟨ret1 (vint (by rw [← HMU.out])), rfl⟩
    · have hmu : m < upTo n u := by have := mt (HU.out m h1 h2).2 hm; omega
      have ht : ((m : Int) % (u : Int) != 0) = true := by rw [← Int.natCast_emod]; simp; omega
      clear hm
      go_wp2
      go_round
      case rel => exact ⟨m + 1, by omega, by omega, by go_num⟩
      case measure => simp [intOf]; omega

set_option maxHeartbeats 400000 in
theorem rfits_any (n v : Nat) (w : World) (hn : n ≤ 7) (hv : v ≤ 9223372036854775807) :
    Calls Try.prog 11 #[.int .i64 n, .int .i64 v] w fun e w' => e = .returned (.bool (decide (v < 256 ^ n))) ∧ w = w' := by
  go_enter Try.func11, Try.ntmps11
  go_wp2
  go_loop [1, 5] (fun x i => ∃ k : Nat, k ≤ n ∧ i = .int .i64 k ∧ x = .int .i64 ((v / 256 ^ k : Nat) : Int)) (fun _ i => n - (intOf i).toNat)
  case atStart => exact ⟨0, Nat.zero_le _, rfl, by simp⟩
  case round =>
    obtain ⟨k, hk, rfl, rfl⟩ := hrel
    by_cases hlt : k < n
    · obtain ⟨q, hq⟩ : ∃ q, q = v / 256 ^ k := ⟨_, rfl⟩
      rw [← hq]
      have HQ := hid hq
      have hqv : q ≤ 9223372036854775807 := by rw [hq]; exact Nat.le_trans (Nat.div_le_self _ _) hv
      clear hq
      go_wp2
      go_round
      case rel => exact ⟨k + 1, by omega, by go_num, vint (by rw [Nat.pow_succ, ← Nat.div_div_eq_div_mul, ← HQ.out]; omega)⟩
      case measure => simp [intOf]; omega
    · have hkn : k = n := by omega
      have HK := hid hkn
      clear hkn
      obtain ⟨q, hq⟩ : ∃ q, q = v / 256 ^ k := ⟨_, rfl⟩
      rw [← hq]
      have HQ := hid hq
      clear hq
      go_wp2
      go_ret
      refine ⟨ret1 (vbool ?_), rfl⟩
      rw [Bool.eq_iff_iff]
      simp only [decide_eq_true_eq, beq_iff_eq]
      have e := HQ.out
      rw [HK.out] at e
      have := Nat.div_eq_zero_iff_lt (x := v) (Nat.pow_pos (n := n) (show 0 < 256 by omega))
      omega

end Go.Proofs.Ythaapjfnadfmgaa
