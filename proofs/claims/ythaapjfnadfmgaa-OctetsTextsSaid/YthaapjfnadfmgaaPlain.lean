/-
  Plain mathematics: octets, numbers as octets, hexadecimal texts, serial numbers. No program stands here.
-/
import Derived.WalkKit
import Derived.Test.YthaapjfnadfmgaaRows
namespace Go.Proofs.Ythaapjfnadfmgaa
open Go.RowKit

/-! ### the bits of an int -/
theorem and_mask (n : Int) (k : Nat) (hk : k ≤ 62) : bits .and .i64 n (2 ^ k - 1) = n % 2 ^ k := by
  have hp : (2 : Int) ^ k ≤ 2 ^ 62 := by
    have := Nat.pow_le_pow_right (n := 2) (by omega) hk
    exact_mod_cast this
  have hp1 : (1 : Int) ≤ 2 ^ k := by
    have := Nat.one_le_two_pow (n := k)
    exact_mod_cast this
  have hb : (BitVec.ofInt 64 (2 ^ k - 1)).toNat = 2 ^ k - 1 := by
    rw [BitVec.toNat_ofInt]
    have h1 : ((2 : Int) ^ k - 1) % ((2 ^ 64 : Nat) : Int) = 2 ^ k - 1 := Int.emod_eq_of_lt (by omega) (by omega)
    rw [h1]
    have : ((2 ^ k : Nat) : Int) = (2 : Int) ^ k := Int.natCast_pow 2 k
    omega
  have key : (BitVec.ofInt 64 n &&& BitVec.ofInt 64 (2 ^ k - 1)).toNat = (n % ((2 ^ 64 : Nat) : Int)).toNat % 2 ^ k := by
    rw [BitVec.toNat_and, BitVec.toNat_ofInt, hb, Nat.and_two_pow_sub_one_eq_mod]
  show IntKind.i64.wrap ((BitVec.ofInt 64 n &&& BitVec.ofInt 64 (2 ^ k - 1)).toNat : Nat) = n % 2 ^ k
  rw [key, IntKind.wrap_i64]
  have h2 : (((n % ((2 ^ 64 : Nat) : Int)).toNat % 2 ^ k : Nat) : Int) = n % 2 ^ k := by
    rw [Int.natCast_emod, Int.toNat_of_nonneg (by omega)]
    have : ((2 ^ k : Nat) : Int) = (2 : Int) ^ k := Int.natCast_pow 2 k
    rw [this]
    apply Int.emod_emod_of_dvd
    have : ((2 ^ 64 : Nat) : Int) = (2 : Int) ^ k * 2 ^ (64 - k) := by
      rw [← Int.pow_add, show k + (64 - k) = 64 by omega]; rfl
    rw [this]
    exact Int.dvd_mul_right _ _
  rw [h2]
  have h3 := Int.emod_nonneg n (show (2 : Int) ^ k ≠ 0 by omega)
  have h4 := Int.emod_lt_of_pos n (show (0 : Int) < 2 ^ k by omega)
  omega

/-! ### numbers as octets, the greatest one first -/
def be : Nat → Nat → List UInt8
  | 0, _ => []
  | n + 1, v => be n (v / 256) ++ [UInt8.ofNat (v % 256)]
def num (l : List UInt8) : Nat := l.foldl (fun n c => 256 * n + c.toNat) 0

@[simp] theorem length_be : ∀ n v, (be n v).length = n
  | 0, _ => rfl
  | n + 1, v => by simp [be, length_be n]

theorem be_get : ∀ (n v j : Nat), j < n → (be n v)[j]? = some (UInt8.ofNat (v / 256 ^ (n - 1 - j) % 256))
  | 0, _, _, h => by omega
  | n + 1, v, j, h => by
    simp only [be]
    by_cases hj : j < n
    · rw [List.getElem?_append_left (by simpa using hj), be_get n _ j hj]
      have : n + 1 - 1 - j = (n - 1 - j) + 1 := by omega
      rw [this, Nat.pow_succ', Nat.div_div_eq_div_mul]
    · have : j = n := by omega
      subst this
      rw [List.getElem?_append_right (by simp)]
      simp

theorem snocInduction {α : Type} {p : List α → Prop} (h0 : p []) (h1 : ∀ l a, p l → p (l ++ [a])) (l : List α) : p l := by
  have : ∀ r : List α, p r.reverse := by
    intro r
    induction r with
    | nil => exact h0
    | cons a r ih => rw [List.reverse_cons]; exact h1 _ _ ih
  simpa using this l.reverse

theorem num_snoc (l : List UInt8) (c : UInt8) : num (l ++ [c]) = 256 * num l + c.toNat := by simp [num]
theorem num_lt : ∀ (l : List UInt8), num l < 256 ^ l.length := by
  refine snocInduction (by simp [num]) ?_
  · intro l c ih
    rw [num_snoc, List.length_append, List.length_singleton, Nat.pow_succ]
    have := c.toNat_lt
    omega
theorem num_be : ∀ (n v : Nat), v < 256 ^ n → num (be n v) = v
  | 0, v, h => by simp at h; subst h; rfl
  | n + 1, v, h => by
    simp only [be, num_snoc]
    rw [num_be n (v / 256) (by rw [Nat.pow_succ] at h; omega)]
    simp
    omega
theorem be_num (l : List UInt8) : be l.length (num l) = l := by
  refine snocInduction (p := fun l => be l.length (num l) = l) rfl ?_ l
  · intro l c ih
    show be (l ++ [c]).length (num (l ++ [c])) = l ++ [c]
    rw [num_snoc, List.length_append, List.length_singleton, be]
    have h := c.toNat_lt
    have e1 : (256 * num l + c.toNat) / 256 = num l := by omega
    have e2 : (256 * num l + c.toNat) % 256 = c.toNat := by omega
    rw [e1, e2, ih]
    simp

/-! ### units -/
def isUnit (n : Int) : Bool := n == 1 || n == 2 || n == 4 || n == 8
theorem isUnit_cases {n : Int} (h : isUnit n = true) : n = 1 ∨ n = 2 ∨ n = 4 ∨ n = 8 := by
  simp [isUnit] at h; omega
def upTo (n u : Nat) : Nat := (n + u - 1) / u * u


/-! ### serial numbers -/
def okSer (x b : Int) : Bool := decide (1 ≤ b) && (decide (b ≤ 32) && (decide (0 ≤ x) && decide (x < 2 ^ b.toNat)))
def aheadV (x y : Int) (k : Nat) : Int := if (x - y) % 2 ^ k / 2 ^ (k - 1) = 1 then (x - y) % 2 ^ k - 2 ^ k else (x - y) % 2 ^ k
def ahead (x y b : Int) : Int × Int := if okSer x b && okSer y b then (aheadV x y b.toNat, 0) else (0, 2)
theorem pow_bd (k : Nat) (h : k ≤ 32) : (1 : Int) ≤ 2 ^ k ∧ (2 : Int) ^ k ≤ 4294967296 := by
  have h1 := Nat.pow_le_pow_right (n := 2) (by omega) h
  have h2 := Nat.one_le_two_pow (n := k)
  have : ((2 ^ k : Nat) : Int) = (2 : Int) ^ k := Int.natCast_pow 2 k
  omega
theorem div_pow_zero (x : Int) (k : Nat) (h0 : 0 ≤ x) : x / 2 ^ k = 0 ↔ x < 2 ^ k := by
  have hp := Int.pow_pos (n := 2) (m := k) (by omega)
  constructor
  · intro h
    have := Int.lt_ediv_add_one_mul_self x hp
    rw [h] at this
    omega
  · intro h
    exact Int.ediv_eq_zero_of_lt h0 h
theorem pow_succ' (k : Nat) (h : 1 ≤ k) : (2 : Int) ^ k = 2 * 2 ^ (k - 1) := by
  obtain ⟨j, rfl⟩ : ∃ j, k = j + 1 := ⟨k - 1, by omega⟩
  rw [Int.pow_succ]; simp; omega
theorem okSer_iff (x b : Int) : okSer x b = true ↔ 1 ≤ b ∧ b ≤ 32 ∧ 0 ≤ x ∧ x / 2 ^ b.toNat = 0 := by
  simp only [okSer, Bool.and_eq_true, decide_eq_true_eq]
  constructor
  · rintro ⟨h1, h2, h3, h4⟩; exact ⟨h1, h2, h3, (div_pow_zero x _ h3).2 h4⟩
  · rintro ⟨h1, h2, h3, h4⟩; exact ⟨h1, h2, h3, (div_pow_zero x _ h3).1 h4⟩
theorem aheadV_bd (x y : Int) (k : Nat) (h : 1 ≤ k) : -(2 ^ (k - 1)) ≤ aheadV x y k ∧ aheadV x y k < 2 ^ (k - 1) := by
  have hp := Int.pow_pos (n := 2) (m := k - 1) (by omega)
  have hs := pow_succ' k h
  have h1 := Int.emod_nonneg (x - y) (show (2 : Int) ^ k ≠ 0 by omega)
  have h2 := Int.emod_lt_of_pos (x - y) (show (0 : Int) < 2 ^ k by omega)
  unfold aheadV
  generalize (x - y) % 2 ^ k = d at *
  have h3 : d / 2 ^ (k - 1) = 1 ↔ 2 ^ (k - 1) ≤ d := by
    constructor
    · intro h
      have := Int.ediv_mul_le d (show (2 : Int) ^ (k - 1) ≠ 0 by omega)
      rw [h] at this; omega
    · intro h
      have e1 : 1 ≤ d / 2 ^ (k - 1) := Int.le_ediv_of_mul_le hp (by omega)
      have e2 : d / 2 ^ (k - 1) < 2 := Int.ediv_lt_of_lt_mul hp (by omega)
      omega
  split
  · rename_i h; have := h3.1 h; omega
  · rename_i h; have := mt h3.2 h; omega

end Go.Proofs.Ythaapjfnadfmgaa
