/-
  Chapter 24: the closed runs, by the fast evaluator: the chapter's examples, and ControlKnown.
-/
import Derived.Test.YtafchcmemeinlaaDoorC24A
import Derived.Test.YtafchcmemeinlaaDoorEnJ
set_option linter.unusedSimpArgs false
set_option linter.unusedVariables false
namespace Go.Proofs.YtafchcmemeinlaaDoor
open Go.RowKit
set_option maxRecDepth 1000000

def qK : QE := { fn := fun f => lookF f tabA, sm := lookQ [(17, cTrueQ)], gl := glC }
theorem envForK : EnvFor Tryd.prog (qenv qK) := ⟨mixed24, names24, tabA_ok, lookQ_ok _ (by simp only [List.mem_cons, List.not_mem_nil, or_false, forall_eq]; exact valid_trueQ works_ok)⟩
theorem known_run : callxQ qK (wpQ qK 1000000) 8 [] [] {} isTQ = true := by kernel_rfl
end Go.Proofs.YtafchcmemeinlaaDoor
