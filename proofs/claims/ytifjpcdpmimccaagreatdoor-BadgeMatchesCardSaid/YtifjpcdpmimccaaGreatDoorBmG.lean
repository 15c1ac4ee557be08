/-
  Chapter 18: the octets and the badge: plain law.
-/
import Derived.Test.YtifjpcdpmimccaaGreatDoorBmE
set_option linter.unusedSimpArgs false
set_option linter.unusedVariables false
set_option linter.unusedSectionVars false
namespace Go.Proofs.YtifjpcdpmimccaaGreatDoor
open Go.RowKit
set_option maxRecDepth 1000000

theorem fold_add (s : List UInt8) : ∀ a : Nat, s.foldl (fun r c => r * 256 + c.toNat) a = a * 256 ^ s.length + s.foldl (fun r c => r * 256 + c.toNat) 0 := by
  induction s with
  | nil => intro a; simp
  | cons c t ih =>
    intro a
    rw [List.foldl_cons, List.foldl_cons, ih, ih (0 * 256 + c.toNat), List.length_cons, Nat.pow_succ]
    rw [Nat.add_mul, Nat.mul_assoc, Nat.mul_comm 256, Nat.zero_mul, Nat.zero_add]
    omega
theorem natM_cons (c : UInt8) (t : List UInt8) : natM (c :: t) = c.toNat * 256 ^ t.length + natM t := by
  unfold natM
  rw [List.foldl_cons, fold_add]
  simp
theorem natM_lt : ∀ s : List UInt8, natM s < 256 ^ s.length
  | [] => by decide
  | c :: t => by
    have h1 := natM_lt t
    have h2 := c.toNat_lt
    rw [natM_cons, List.length_cons, Nat.pow_succ]
    have : c.toNat * 256 ^ t.length ≤ 255 * 256 ^ t.length := Nat.mul_le_mul_right _ (by omega)
    omega
end Go.Proofs.YtifjpcdpmimccaaGreatDoor

set_option linter.unusedSimpArgs false
set_option linter.unusedVariables false
set_option linter.unusedSectionVars false
namespace Go.Proofs.YtifjpcdpmimccaaGreatDoor
open Go.RowKit
set_option maxRecDepth 1000000

end Go.Proofs.YtifjpcdpmimccaaGreatDoor

set_option linter.unusedSimpArgs false
set_option linter.unusedVariables false
set_option linter.unusedSectionVars false
namespace Go.Proofs.YtifjpcdpmimccaaGreatDoor
open Go.RowKit
set_option maxRecDepth 1000000

end Go.Proofs.YtifjpcdpmimccaaGreatDoor

set_option linter.unusedSimpArgs false
set_option linter.unusedVariables false
set_option linter.unusedSectionVars false
namespace Go.Proofs.YtifjpcdpmimccaaGreatDoor
open Go.RowKit
set_option maxRecDepth 1000000

theorem bF {b : Bool} {A B : Prop} (h : b = false) (ha : B) : bif b then A else B := by
  rw [h]; exact ha
end Go.Proofs.YtifjpcdpmimccaaGreatDoor
