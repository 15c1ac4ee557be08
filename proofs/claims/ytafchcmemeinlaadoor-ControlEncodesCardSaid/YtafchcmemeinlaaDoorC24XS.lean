/-
  Chapter 24: Decode.
-/
import Derived.Test.YtafchcmemeinlaaDoorC24XO
set_option linter.unusedSimpArgs false
set_option linter.unusedVariables false
set_option linter.unusedSectionVars false
namespace Go.Proofs.YtafchcmemeinlaaDoor
open Go.RowKit
set_option maxRecDepth 1000000

theorem frz_cellsC (τ : Nat) (H : List Blk) (d : Nat) : ∀ l : List Ctl, (cellsCM l).map (fun x => frzV τ H (d + 1) x) = cellsCM l
 | [] => rfl
 | c :: l => by
  have e : cellsCM (c :: l) = ctC c ++ cellsCM l := rfl
  rw [e, List.map_append, frz_cellsC τ H d l]
  rfl
theorem cellsC_snoc (l : List Ctl) (c : Ctl) : cellsCM (l ++ [c]) = cellsCM l ++ ctC c := by
 simp only [cellsCM, List.flatMap_append, List.flatMap_cons, List.flatMap_nil, List.append_nil]
end Go.Proofs.YtafchcmemeinlaaDoor
