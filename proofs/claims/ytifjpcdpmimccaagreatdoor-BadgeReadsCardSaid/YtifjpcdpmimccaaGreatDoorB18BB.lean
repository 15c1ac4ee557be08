/-
  Chapter 18: BadgeBack's run.
-/
import Derived.Test.YtifjpcdpmimccaaGreatDoorB18BA
set_option linter.unusedSimpArgs false
set_option linter.unusedVariables false
set_option linter.unusedSectionVars false
namespace Go.Proofs.YtifjpcdpmimccaaGreatDoor
open Go.RowKit
set_option maxRecDepth 1000000

theorem eq5 {n1 k1 n2 k2 : List UInt8} {f1 u1 m1 f2 u2 m2 : Int} : (eqB n1 n2 && (eqB k1 k2 && (f1 == f2 && (u1 == u2 && (m1 == m2 && true))))) = true ↔ n1 = n2 ∧ k1 = k2 ∧ f1 = f2 ∧ u1 = u2 ∧ m1 = m2 := by
  simp only [Bool.and_eq_true, beq_iff_eq, eqB_iff, and_true]
end Go.Proofs.YtifjpcdpmimccaaGreatDoor
