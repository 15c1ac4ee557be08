/-
  Chapter 01: the walk of OctetsDigits.
-/
import Derived.Test.YthaapjfnadfmgaaDoorD01C
import Derived.Test.YthaapjfnadfmgaaDoorRows
import Derived.ProofKit
import Derived.LaidMore
import Derived.Lay
import Derived.OpenShut
import Derived.Stop.Joined
set_option linter.unusedSimpArgs false
set_option linter.unusedVariables false
namespace Go.Proofs.YthaapjfnadfmgaaDoor
open Go.ChangeShapes Go.WideShapes Go.ChangeAt Go.RowKit
set_option maxRecDepth 1000000

abbrev L01 : List (String × DataW Unit) := [("unicode/utf8.acceptRanges", Rows.laid_unicode_utf8_acceptRanges), ("unicode.CaseRanges", Rows.laid_unicode_CaseRanges), ("unicode/utf8.first", Rows.laid_unicode_utf8_first)]
theorem own01 : ownKnob Tryd.prog.godebug = none := by kernel_rfl
theorem laidOut01 : laidOutB Tryd.prog = true := by kernel_rfl
theorem glob0 (w : World) : Glob gl0 w := fun g cs h => by cases h

theorem octetsDigits_walk (raw : ByteArray) (c : Int) (w : World) (hL : laidMetH Tryd.prog L01 w) (wr : raw.size ≤ maxLen) (wc : (Lit.int .u8 c).wf = true) :
    Calls Tryd.prog 3 #[.string raw, .int .u8 c] w fun e w' => e = .returned (.bool true) ∧ Below w.heap.size w w' := by
  have hr : raw.data.toList.length ≤ 9223372036854775807 := by
    have : raw.data.toList.length = raw.size := by rw [Array.length_toList]; rfl
    unfold maxLen at wr
    omega
  obtain ⟨hv', hb, h⟩ := digits_run raw.data.toList c isT hr trivial
  exact call_all (envFor01 smD_ok _ _ _) h w (glob0 w) (by
    simp only [VRL_cons, VRL_nil, and_true]
    exact ⟨by simp [VR], by simp [VR]⟩)
end Go.Proofs.YthaapjfnadfmgaaDoor
