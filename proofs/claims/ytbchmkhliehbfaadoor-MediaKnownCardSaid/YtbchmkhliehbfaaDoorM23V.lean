/-
  Chapter 23: the closed run of MediaKnown.
-/
import Derived.Test.YtbchmkhliehbfaaDoorM23A
set_option linter.unusedSimpArgs false
set_option linter.unusedVariables false
namespace Go.Proofs.YtbchmkhliehbfaaDoor
open Go.RowKit
set_option maxRecDepth 1000000

def qK : QE := { fn := fun f => lookF f tabA, sm := lookQ [(19, cTrueQ), (30, cRepeatQ)], gl := gl0 }
theorem envForK : EnvFor Tryd.prog (qenv qK) := ⟨mixed23, names23, tabA_ok, lookQ_ok _ (by simp only [List.mem_cons, List.not_mem_nil, or_false, forall_eq_or_imp, forall_eq]; exact ⟨valid_trueQ works_ok, repeatQ_ok⟩)⟩
theorem known_run : callxQ qK (wpQ qK 1000000) 9 [] [] {} isTQ = true := by kernel_rfl
end Go.Proofs.YtbchmkhliehbfaaDoor
