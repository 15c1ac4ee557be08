/-
  Chapter 18: the octets and the badge: plain law.
-/
import Derived.Test.YtifjpcdpmimccaaGreatDoorB18ZJ
set_option linter.unusedSimpArgs false
set_option linter.unusedVariables false
set_option linter.unusedSectionVars false
namespace Go.Proofs.YtifjpcdpmimccaaGreatDoor
open Go.RowKit
set_option maxRecDepth 1000000

theorem fold_add (s : List UInt8) : ∀ a : Nat, s.foldl (fun r c => r * 256 + c.toNat) a = a * 256 ^ s.length + s.foldl (fun r c => r * 256 + c.toNat) 0 := by
  induction s with
  | nil => intro a; simp
  | cons c t ih =>
    intro a
    rw [List.foldl_cons, List.foldl_cons, ih, ih (0 * 256 + c.toNat), List.length_cons, Nat.pow_succ]
    rw [Nat.add_mul, Nat.mul_assoc, Nat.mul_comm 256, Nat.zero_mul, Nat.zero_add]
    omega
theorem natM_cons (c : UInt8) (t : List UInt8) : natM (c :: t) = c.toNat * 256 ^ t.length + natM t := by
  unfold natM
  rw [List.foldl_cons, fold_add]
  simp
theorem natM_lt : ∀ s : List UInt8, natM s < 256 ^ s.length
  | [] => by decide
  | c :: t => by
    have h1 := natM_lt t
    have h2 := c.toNat_lt
    rw [natM_cons, List.length_cons, Nat.pow_succ]
    have : c.toNat * 256 ^ t.length ≤ 255 * 256 ^ t.length := Nat.mul_le_mul_right _ (by omega)
    omega
theorem be_natM : ∀ s : List UInt8, beBM s.length (natM s) = s
  | [] => rfl
  | c :: t => by
    have h1 := natM_lt t
    have h2 := c.toNat_lt
    have hp : 0 < 256 ^ t.length := Nat.pow_pos (by decide)
    show UInt8.ofNat (natM (c :: t) / 256 ^ t.length % 256) :: beBM t.length (natM (c :: t)) = c :: t
    have e1 : natM (c :: t) / 256 ^ t.length = c.toNat := by
      rw [natM_cons, Nat.add_comm, Nat.add_mul_div_right _ _ hp, Nat.div_eq_of_lt h1, Nat.zero_add]
    have e2 : ∀ n v w, beBM n (w * 256 ^ n + v) = beBM n v := by
      intro n
      induction n with
      | zero => intro v w; rfl
      | succ n ih =>
        intro v w
        show UInt8.ofNat ((w * 256 ^ (n + 1) + v) / 256 ^ n % 256) :: beBM n (w * 256 ^ (n + 1) + v) = UInt8.ofNat (v / 256 ^ n % 256) :: beBM n v
        have hq : w * 256 ^ (n + 1) = (w * 256) * 256 ^ n := by rw [Nat.pow_succ, Nat.mul_assoc, Nat.mul_comm 256]
        rw [hq, ih, Nat.add_comm (w * 256 * 256 ^ n), Nat.add_mul_div_right _ _ (Nat.pow_pos (by decide)), Nat.add_mul_mod_self_right]
    rw [e1, natM_cons, e2, be_natM t, Nat.mod_eq_of_lt (by omega), UInt8.ofNat_toNat]
end Go.Proofs.YtifjpcdpmimccaaGreatDoor
