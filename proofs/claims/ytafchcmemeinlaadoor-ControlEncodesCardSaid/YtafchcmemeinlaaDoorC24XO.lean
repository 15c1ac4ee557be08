/-
  Chapter 24: read, of the kinds without lists.
-/
import Derived.Test.YtafchcmemeinlaaDoorC24XK
set_option linter.unusedSimpArgs false
set_option linter.unusedVariables false
set_option linter.unusedSectionVars false
namespace Go.Proofs.YtafchcmemeinlaaDoor
open Go.RowKit
set_option maxRecDepth 1000000

theorem eqB_refl : ∀ s : List UInt8, eqB s s = true
 | [] => rfl
 | x :: s => by simp [eqB, eqB_refl s]
theorem cellsR_snoc (acc : List Rc) (r : Rc) : cellsRM acc ++ rcCM r = cellsRM (acc ++ [r]) := by simp [cellsRM]
theorem plain_R (l : List Rc) : ∀ x ∈ cellsRM l, plainB x = true := by
 intro x hx
 simp only [cellsRM, rcCM, List.mem_flatMap, List.mem_cons, List.not_mem_nil, or_false] at hx
 obtain ⟨r, _, h⟩ := hx
 rcases h with rfl | rfl | rfl | rfl | rfl | rfl | rfl <;> rfl
end Go.Proofs.YtafchcmemeinlaaDoor
