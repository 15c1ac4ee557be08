/-
  Chapter 23: numbers that fit.
-/
import Derived.Test.YtbchmkhliehbfaaDoorM23A
set_option linter.unusedSimpArgs false
set_option linter.unusedVariables false
namespace Go.Proofs.YtbchmkhliehbfaaDoor
open Go.RowKit
set_option maxRecDepth 1000000

theorem cellsI_get {xs : List Int} {i j : Nat} (hi : i < xs.length) {K : Int → Prop} (hk : K xs[i]) (hj : j = i) : ∃ n : Int, (cellsI xs).getD j AV.undef = AV.int .i64 n ∧ K n := by
  subst hj
  exact ⟨xs[j], by simp [cellsI, hi], hk⟩

theorem cellsI_length (xs : List Int) : (cellsI xs).length = xs.length := by simp [cellsI]

end Go.Proofs.YtbchmkhliehbfaaDoor
