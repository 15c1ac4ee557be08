/-
  Chapter 4: the walk of SealKnown.
-/
import Derived.Test.YtlfbaakndklncaaS04X
set_option linter.unusedSimpArgs false
set_option linter.unusedVariables false
namespace Go.Proofs.Ytlfbaakndklncaa
open Go.RowKit
set_option maxRecDepth 1000000

theorem glob0 (w : World) : Glob gl0 w := fun g cs h => by cases h
theorem known_true : callx eC5 (wpx eC5 100000) 9 [] [] {} isT := of_eq_true known_run
theorem walk_of (E : Env) (hE : EnvFor Try.prog E) (n : Nat) (hg : E.gl = gl0) (h : callx E (wpx E n) 9 [] [] {} isT) (w : World) : Calls Try.prog 9 #[] w fun e w' => e = .returned (.bool true) ∧ Below w.heap.size w w' :=
  call_all hE h w (by rw [hg]; exact glob0 w) (by simp [VRL_nil])
theorem sealKnown_walk (w : World) : Calls Try.prog 9 #[] w fun e w' => e = .returned (.bool true) ∧ Below w.heap.size w w' := walk_of eC5 envForC5 100000 rfl known_true w
end Go.Proofs.Ytlfbaakndklncaa
