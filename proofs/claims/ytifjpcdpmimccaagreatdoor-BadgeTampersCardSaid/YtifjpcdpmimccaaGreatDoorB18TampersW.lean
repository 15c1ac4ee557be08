/-
  Chapter 18: the walk of BadgeTampers.
-/
import Derived.Test.YtifjpcdpmimccaaGreatDoorB18O1
import Derived.Test.YtifjpcdpmimccaaGreatDoorRows
import Derived.ProofKit
import Derived.LaidMore
import Derived.Lay
import Derived.OpenShut
import Derived.Stop.Joined
set_option linter.unusedSimpArgs false
set_option linter.unusedVariables false
namespace Go.Proofs.YtifjpcdpmimccaaGreatDoor
open Go.RowKit
set_option maxRecDepth 1000000

abbrev L18 : List (String × DataW Unit) := [("unicode/utf8.acceptRanges", Rows.laid_unicode_utf8_acceptRanges), ("unicode.CaseRanges", Rows.laid_unicode_CaseRanges), ("unicode/utf8.first", Rows.laid_unicode_utf8_first)]
theorem own18 : ownKnob Tryz.prog.godebug = none := by kernel_rfl
theorem laidOut18 : laidOutB Tryz.prog = true := by kernel_rfl
theorem badgeTampers_walk (v0 : Value) (a b : Int) (w : World) (_ : laidMetH Tryz.prog L18 w) {H : Type} {enc : TypeId × Value → H} {base : Nat} {d0 : DataW H} {p0 : List MemPlace}
    (hval0 : Value.okWide Tryz.prog w .any base 26 v0) (h0 : DataW.Trod enc Tryz.prog w 0 (fun _ => true) true 26 v0 d0 p0) (_ : ∀ x ∈ p0, x.block < w.heap.size) (w1 : (Lit.int .u8 a).wf = true) (w2 : (Lit.int .u8 b).wf = true) :
    Calls Tryz.prog 5 #[v0, .int .u8 a, .int .u8 b] w fun e w' => e = .returned (.bool true) ∧ Below w.heap.size w w' := by
  obtain ⟨n, ky, fr, af, nu, g0, hn, hk, hf, haf, hnu⟩ := draft_open hval0 h0
  obtain ⟨hv, hb, h⟩ := tampers_run n ky fr af nu a b hn hf haf hnu (wf8 w1) (wf8 w2) isT trivial
  exact call_all (envFor18 smLw_ok _ hv hb) h w (glob0 w) (by
    simp only [VRL_cons, VRL_nil, and_true]
    exact ⟨g0, by simp [VR], by simp [VR]⟩)
end Go.Proofs.YtifjpcdpmimccaaGreatDoor
