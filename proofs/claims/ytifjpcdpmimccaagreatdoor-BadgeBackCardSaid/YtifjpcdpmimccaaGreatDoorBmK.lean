/-
  Chapter 18: BadgeTampers: residual.
-/
import Derived.Test.YtifjpcdpmimccaaGreatDoorBmG
set_option linter.unusedSimpArgs false
set_option linter.unusedVariables false
set_option linter.unusedSectionVars false
namespace Go.Proofs.YtifjpcdpmimccaaGreatDoor
open Go.RowKit
set_option maxRecDepth 1000000

def smLw : SM := lookS [(10, cWakes), (12, cDraft), (22, cEncB), (14, cDecB), (20, cBend), (19, cFew), (21, cChk), (23, cPrt), (17, cCkp)]
theorem smLw_ok : ∀ f g, smLw f = some g → ValidF Tryz.prog gl0 f g := lookS_ok _ (by simp only [List.mem_cons, List.not_mem_nil, or_false, forall_eq_or_imp, forall_eq]; exact ⟨wakes_ok, draft_ok, encB_ok, decB_ok, bend_ok, few_ok, chk_ok, prt_ok, ckp_ok⟩)
end Go.Proofs.YtifjpcdpmimccaaGreatDoor

set_option linter.unusedSimpArgs false
set_option linter.unusedVariables false
set_option linter.unusedSectionVars false
namespace Go.Proofs.YtifjpcdpmimccaaGreatDoor
open Go.RowKit
set_option maxRecDepth 1000000

theorem bF {b : Bool} {A B : Prop} (h : b = false) (ha : B) : bif b then A else B := by
  rw [h]; exact ha
end Go.Proofs.YtifjpcdpmimccaaGreatDoor
