/-
  Chapter 24: the reference's Nacks.
-/
import Derived.Test.YtafchcmemeinlaaDoorC24E
set_option linter.unusedSimpArgs false
set_option linter.unusedVariables false
namespace Go.Proofs.YtafchcmemeinlaaDoor
open Go.RowKit
set_option maxRecDepth 1000000

theorem badM16 (x : Int) : badM 16 x = true ↔ x < 0 ∨ 65536 ≤ x := by
 simp only [badM, Bool.or_eq_true, decide_eq_true_eq]
 have e : (2 : Int) ^ min (16 : Int).toNat 64 = 65536 := rfl
 rw [e, Int.fdiv_eq_ediv_of_nonneg _ (by omega), bne_iff_ne]
 omega

end Go.Proofs.YtafchcmemeinlaaDoor
