/-
  Chapter 4: SealSums' run.
-/
import Derived.Test.YtlfbaakndklncaaS04Y
import Derived.Test.YtlfbaakndklncaaS04W
set_option linter.unusedSimpArgs false
set_option linter.unusedVariables false
namespace Go.Proofs.Ytlfbaakndklncaa
open Go.RowKit
set_option maxRecDepth 1000000

theorem leB_mod (n : Nat) : ∀ x, leBM n (x % 2 ^ (8 * n)) = leBM n x := by
  induction n with
  | zero => intro x; rfl
  | succ n ih =>
    intro x
    have e : x % 2 ^ (8 * (n + 1)) = x % 256 + 256 * (x / 256 % 2 ^ (8 * n)) := by rw [show 8 * (n + 1) = 8 + 8 * n by omega, Nat.pow_add, show (2 : Nat) ^ 8 = 256 from rfl, Nat.mod_mul]
    rw [leBM, leBM, e, show (x % 256 + 256 * (x / 256 % 2 ^ (8 * n))) % 256 = x % 256 by omega, show (x % 256 + 256 * (x / 256 % 2 ^ (8 * n))) / 256 = x / 256 % 2 ^ (8 * n) by omega, ih]
theorem imin_nat (a b : Nat) : imin (a : Int) (b : Int) = ((min a b : Nat) : Int) := by
  unfold imin
  split <;> omega
end Go.Proofs.Ytlfbaakndklncaa
