/-
  Chapter 4: SealKnown's run.
-/
import Derived.Test.YtlfbaakndklncaaS04W
set_option linter.unusedSimpArgs false
set_option linter.unusedVariables false
namespace Go.Proofs.Ytlfbaakndklncaa
open Go.RowKit
set_option maxRecDepth 1000000

def smC5 : SM := lookS [(10, cTrue), (14, cTagC), (18, cSealC), (20, cOpenC), (28, cRepeat), (29, cUnhexC)]
theorem smC5_ok : ∀ f g, smC5 f = some g → ValidF Try.prog gl0 f g := lookS_ok _ (by simp only [List.mem_cons, List.not_mem_nil, or_false, forall_eq_or_imp, forall_eq]; exact ⟨works_ok, tagC_ok, sealC_ok, openC_ok, repeat_ok, unhexC_ok⟩)
def eC5 : Env := { fn := fun f => lookF f tabA, sm := smC5, gl := gl0 }
theorem envForC5 : EnvFor Try.prog eC5 := ⟨mixed04, names04, tabA_ok, smC5_ok⟩
theorem known_run : callx eC5 (wpx eC5 100000) 9 [] [] {} isT = True := by kernel_rfl
end Go.Proofs.Ytlfbaakndklncaa
