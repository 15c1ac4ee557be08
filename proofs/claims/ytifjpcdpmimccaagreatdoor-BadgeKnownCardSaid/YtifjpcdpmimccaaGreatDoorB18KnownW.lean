/-
  Chapter 18: the walk of BadgeKnown.
-/
import Derived.Test.YtifjpcdpmimccaaGreatDoorB18O1
import Derived.Test.YtifjpcdpmimccaaGreatDoorB18KB
import Derived.Test.YtifjpcdpmimccaaGreatDoorRows
import Derived.ProofKit
import Derived.LaidMore
import Derived.Lay
import Derived.OpenShut
import Derived.Stop.Joined
set_option linter.unusedSimpArgs false
set_option linter.unusedVariables false
namespace Go.Proofs.YtifjpcdpmimccaaGreatDoor
open Go.RowKit
set_option maxRecDepth 1000000

abbrev L18 : List (String × DataW Unit) := [("unicode/utf8.acceptRanges", Rows.laid_unicode_utf8_acceptRanges), ("unicode.CaseRanges", Rows.laid_unicode_CaseRanges), ("unicode/utf8.first", Rows.laid_unicode_utf8_first)]
theorem own18 : ownKnob Tryz.prog.godebug = none := by kernel_rfl
theorem badgeKnown_walk (w : World) (_ : laidMetH Tryz.prog L18 w) : Calls Tryz.prog 8 #[] w fun e w' => e = .returned (.bool true) ∧ Below w.heap.size w w' := by
  obtain ⟨hv, hb, h⟩ := known_run isT trivial
  exact call_all (envFor18 smKn_ok _ hv hb) h w (glob0 w) (by simp only [VRL_nil])
end Go.Proofs.YtifjpcdpmimccaaGreatDoor
