/-
  Chapter 17: RecordKnown's run.
-/
import Derived.Test.YtiholnebhmjbjaaM17C
set_option linter.unusedSimpArgs false
set_option linter.unusedVariables false
set_option linter.unusedSectionVars false
namespace Go.Proofs.Ytiholnebhmjbjaa
open Go.RowKit
set_option maxRecDepth 1000000

def qK : QE := { fn := fun f => lookF f tabA, sm := lookQ [(10, cTrueQ), (16, cDecQ), (29, cRepeatQ), (48, cSealQ), (69, cOpenQ)], gl := gl0 }
theorem envForQK : EnvFor Try.prog (qenv qK) := ⟨mixed04, names04, tabA_ok, lookQ_ok _ (by simp only [List.mem_cons, List.not_mem_nil, or_false, forall_eq_or_imp, forall_eq]; exact ⟨valid_trueQ wakes_ok, decQ_ok, repeatQ_ok, sealQ_ok, openQ_ok⟩)⟩
theorem known_run : callxQ qK (wpQ qK 1000000) 8 [] [] {} isTQ = true := by kernel_rfl
end Go.Proofs.Ytiholnebhmjbjaa
