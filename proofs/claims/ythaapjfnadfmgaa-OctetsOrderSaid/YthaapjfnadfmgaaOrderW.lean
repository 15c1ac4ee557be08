/-
  The walk of OctetsOrder.
-/
import Derived.Test.YthaapjfnadfmgaaWorksB
import Derived.Test.YthaapjfnadfmgaaOrdP
import Derived.OpenShut
namespace Go.Proofs.Ythaapjfnadfmgaa
open Go.RowKit

theorem newer_ok (x y : Int) (k : Nat) (w : World) (h0 : 1 ≤ k) (h1 : k ≤ 32) (hx : 0 ≤ x) (hx' : x < 2 ^ k) (hy : 0 ≤ y) (hy' : y < 2 ^ k) :
    Calls Try.prog 21 #[.int .i64 x, .int .i64 y, .int .i64 k] w fun e w' => e = .returned (.tuple #[.bool (decide (0 < aheadV x y k)), .int .i64 0]) ∧ w = w' := by
  have h := newer_any x y k w
  have e : ahead x y (k : Int) = (aheadV x y k, 0) := by
    unfold ahead
    rw [if_pos]
    · simp
    · rw [Bool.and_eq_true]
      exact ⟨(okSer_iff _ _).2 ⟨by omega, by omega, hx, by rw [Int.toNat_natCast]; exact (div_pow_zero x k hx).2 hx'⟩, (okSer_iff _ _).2 ⟨by omega, by omega, hy, by rw [Int.toNat_natCast]; exact (div_pow_zero y k hy).2 hy'⟩⟩
  rw [e] at h
  exact h

set_option maxRecDepth 100000 in
set_option maxHeartbeats 4000000 in
theorem order_core (x y z b : Int) (k : Nat) (w : World) (hx : 0 ≤ x) (hx2 : x < 4294967296) (hy : 0 ≤ y) (hy2 : y < 4294967296) (hz : 0 ≤ z) (hz2 : z < 4294967296) (hb : 0 ≤ b) (hb2 : b < 256) (hk : 1 + b % 32 = (k : Int)) :
    Calls Try.prog 6 #[.int .u32 x, .int .u32 y, .int .u32 z, .int .u8 b] w fun e w' => e = .returned (.bool true) ∧ Below w.heap.size w w' := by
  have hk1 : 1 ≤ k := by omega
  have hk2 : k ≤ 32 := by omega
  obtain ⟨hp1, hp2⟩ := pow_bd k hk2
  obtain ⟨hq1, hq2⟩ := pow_bd (k - 1) (by omega)
  have hM : (2 : Int) ^ k ≠ 0 := by omega
  obtain ⟨p, hp⟩ : ∃ p, p = x % 2 ^ k := ⟨_, rfl⟩
  obtain ⟨q, hq⟩ : ∃ q, q = y % 2 ^ k := ⟨_, rfl⟩
  have ep : bits .and .i64 x (2 ^ k - 1) = p := by rw [and_mask _ _ (by omega), hp]
  have eq : bits .and .i64 y (2 ^ k - 1) = q := by rw [and_mask _ _ (by omega), hq]
  have p0 : 0 ≤ p := by rw [hp]; exact Int.emod_nonneg _ hM
  have p1 : p < 2 ^ k := by rw [hp]; exact Int.emod_lt_of_pos _ (by omega)
  have q0 : 0 ≤ q := by rw [hq]; exact Int.emod_nonneg _ hM
  have q1 : q < 2 ^ k := by rw [hq]; exact Int.emod_lt_of_pos _ (by omega)
  clear hp hq
  obtain ⟨r, hr⟩ : ∃ r, r = (p + z) % 2 ^ k := ⟨_, rfl⟩
  obtain ⟨s, hs⟩ : ∃ s, s = (q + z) % 2 ^ k := ⟨_, rfl⟩
  have er : bits .and .i64 (p + z) (2 ^ k - 1) = r := by rw [and_mask _ _ (by omega), hr]
  have es : bits .and .i64 (q + z) (2 ^ k - 1) = s := by rw [and_mask _ _ (by omega), hs]
  have r0 : 0 ≤ r := by rw [hr]; exact Int.emod_nonneg _ hM
  have r1 : r < 2 ^ k := by rw [hr]; exact Int.emod_lt_of_pos _ (by omega)
  have s0 : 0 ≤ s := by rw [hs]; exact Int.emod_nonneg _ hM
  have s1 : s < 2 ^ k := by rw [hs]; exact Int.emod_lt_of_pos _ (by omega)
  obtain ⟨A, hA⟩ : ∃ A, aheadV p q k = A := ⟨_, rfl⟩
  obtain ⟨C, hC⟩ : ∃ C, aheadV q p k = C := ⟨_, rfl⟩
  have hD : aheadV r s k = A := by rw [hr, hs, ahead_shift, hA]
  have hbd := aheadV_bd p q k hk1
  have hbd2 := aheadV_bd q p k hk1
  have hadd := ahead_add p q k hk1 p0 p1
  have hturn := ahead_turn p q k hk1
  rw [hA] at hbd hadd hturn
  rw [hC] at hbd2 hturn
  have eA : bits .and .i64 (q + A) (2 ^ k - 1) = p := by rw [and_mask _ _ (by omega), hadd]
  have t1 := tdiv_half k hk1
  have t2 := div_half k hk1
  have W1 : decide (A < -(2 ^ (k - 1))) = false := by simp; omega
  have W2 : decide (2 ^ (k - 1) ≤ A) = false := by simp; omega
  clear hr hs hadd hM
  rcases hturn with ⟨u1, u2⟩ | ⟨u1, u2⟩
  · have v1 : (A == -(2 ^ (k - 1))) = true := by simpa using u1
    have v2 : (C == A) = true := by simpa using u2
    have v3 : decide (0 < A) = false := by simp; omega
    have v4 : decide (0 < C) = false := by simp; omega
    clear u1 u2
    go_enter Try.func6, Try.ntmps6
    go_wp2_with (first
      | (go_at_call 9; refine (works_any _).mono ?_; rintro e w1 ⟨rfl, hb⟩)
      | (go_at_call 20; refine (ahead_ok _ _ k _ hk1 hk2 (by omega) (by omega) (by omega) (by omega)).mono ?_; rintro e w2 ⟨rfl, rfl⟩)
      | (go_at_call 21; refine (newer_ok _ _ k _ hk1 hk2 (by omega) (by omega) (by omega) (by omega)).mono ?_; rintro e w2 ⟨rfl, rfl⟩))
    go_ret
    exact ⟨rfl, hb⟩
  · have v1 : (A == -(2 ^ (k - 1))) = false := by simpa using u1
    have v2 : (C == -A) = true := by simpa using u2
    have v3 : decide (0 < C) = decide (A < 0) := by rw [u2]; congr 1; simp
    clear u1 u2
    go_enter Try.func6, Try.ntmps6
    go_wp2_with (first
      | (go_at_call 9; refine (works_any _).mono ?_; rintro e w1 ⟨rfl, hb⟩)
      | (go_at_call 20; refine (ahead_ok _ _ k _ hk1 hk2 (by omega) (by omega) (by omega) (by omega)).mono ?_; rintro e w2 ⟨rfl, rfl⟩)
      | (go_at_call 21; refine (newer_ok _ _ k _ hk1 hk2 (by omega) (by omega) (by omega) (by omega)).mono ?_; rintro e w2 ⟨rfl, rfl⟩))
    go_ret
    exact ⟨rfl, hb⟩

theorem octetsOrder_walk (a0 a1 a2 a3 : Int) (w : World) (w0 : (Lit.int .u32 a0).wf = true) (w1 : (Lit.int .u32 a1).wf = true) (w2 : (Lit.int .u32 a2).wf = true) (w3 : (Lit.int .u8 a3).wf = true) :
    Calls Try.prog 6 #[.int .u32 a0, .int .u32 a1, .int .u32 a2, .int .u8 a3] w fun e w' => e = .returned (.bool true) ∧ Below w.heap.size w w' := by
  have b0 := bounds_u32 w0
  have b1 := bounds_u32 w1
  have b2 := bounds_u32 w2
  have b3 := bounds_u8 w3
  exact order_core a0 a1 a2 a3 (1 + a3 % 32).toNat w (by omega) (by omega) (by omega) (by omega) (by omega) (by omega) (by omega) (by omega) (by omega)
end Go.Proofs.Ythaapjfnadfmgaa
