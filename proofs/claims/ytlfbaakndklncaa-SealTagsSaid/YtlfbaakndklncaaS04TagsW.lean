/-
  Chapter 4: the walk of SealTags.
-/
import Derived.Test.YtlfbaakndklncaaS04RG
import Derived.WideShapes
set_option linter.unusedSimpArgs false
set_option linter.unusedVariables false
namespace Go.Proofs.Ytlfbaakndklncaa
open Go.RowKit
set_option maxRecDepth 1000000

theorem globT (w : World) : Glob gl0 w := fun g cs h => by cases h
theorem sealTags_walk (key s : ByteArray) (n : Int) (g : Bool) (w : World) (w0 : key.size ≤ maxLen) (w1 : s.size ≤ maxLen) (w2 : (Lit.int .u16 n).wf = true) :
    Calls Try.prog 3 #[.string key, .string s, .int .u16 n, .bool g] w fun e w' => e = .returned (.bool true) ∧ Below w.heap.size w w' := by
  have h0 : key.data.toList.length ≤ 9223372036854775807 := by
    have : key.data.toList.length = key.size := by rw [Array.length_toList]; rfl
    unfold maxLen at w0
    omega
  have h1 : s.data.toList.length ≤ 9223372036854775807 := by
    have : s.data.toList.length = s.size := by rw [Array.length_toList]; rfl
    unfold maxLen at w1
    omega
  have h2 : 0 ≤ n ∧ n ≤ 65535 := by
    simp [Lit.wf, IntKind.min, IntKind.max, IntKind.signed, IntKind.bits] at w2
    omega
  obtain ⟨hv, hb, h⟩ := tags_run key.data.toList s.data.toList n g h0 h1 h2 isT trivial
  exact call_all (envFor04 smG3_ok _ hv hb) h w (globT w) (by
    simp only [VRL_cons, VRL_nil, and_true]
    exact ⟨by simp [VR], by simp [VR], by simp [VR], by simp [VR]⟩)
end Go.Proofs.Ytlfbaakndklncaa
