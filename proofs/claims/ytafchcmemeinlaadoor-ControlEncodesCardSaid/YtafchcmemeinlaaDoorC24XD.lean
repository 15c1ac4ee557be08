/-
  Chapter 24: what is valid for the reference, the goal.
-/
import Derived.Test.YtafchcmemeinlaaDoorC24XC
set_option linter.unusedSimpArgs false
set_option linter.unusedVariables false
set_option linter.unusedSectionVars false
namespace Go.Proofs.YtafchcmemeinlaaDoor
open Go.RowKit
set_option maxRecDepth 1000000
def sm51 : SM := lookS [(45, cIn), (72, cRecs), (73, cTimes), (19, cNacksV)]
theorem sm51_ok : ∀ f g, sm51 f = some g → ValidF Tryd.prog glC f g := lookS_ok _ (by simp only [List.mem_cons, List.not_mem_nil, or_false, forall_eq_or_imp, forall_eq]; exact ⟨in_ok, rrecs_ok, rtimes_ok, refNacks_ok⟩)
theorem rcsOk_nil {rs : List Rc} (h : rs.length = 0) : rcsOkM rs = true := by
 obtain rfl := List.eq_nil_of_length_eq_zero h
 rfl
end Go.Proofs.YtafchcmemeinlaaDoor
