/-
  Chapter 4: the walk of SealSums.
-/
import Derived.Test.YtlfbaakndklncaaS04Z
set_option linter.unusedSimpArgs false
set_option linter.unusedVariables false
namespace Go.Proofs.Ytlfbaakndklncaa
open Go.RowKit

theorem globZ (w : World) : Glob gl0 w := fun g cs h => by cases h
theorem isT_true : isT (.ret (.bool true)) [] {} := trivial
theorem sealSums_walk (a0 a1 : ByteArray) (w : World) (w0 : a0.size ≤ maxLen) (w1 : a1.size ≤ maxLen) :
    Calls Try.prog 7 #[.string a0, .string a1] w fun e w' => e = .returned (.bool true) ∧ Below w.heap.size w w' := by
  obtain ⟨hv, hb, h⟩ := sums_run a0.data.toList a1.data.toList isT isT_true
  exact call_all (envFor04 smZ_ok _ hv hb) h w (globZ w) (by simp [VR, VRL_cons, VRL_nil])
end Go.Proofs.Ytlfbaakndklncaa
