/-
  Chapter 18: the walk of BadgeBack.
-/
import Derived.Test.YtifjpcdpmimccaaGreatDoorB18O1
import Derived.Test.YtifjpcdpmimccaaGreatDoorB18BB
import Derived.Test.YtifjpcdpmimccaaGreatDoorRows
import Derived.ProofKit
import Derived.LaidMore
import Derived.Lay
import Derived.OpenShut
import Derived.Stop.Joined
set_option linter.unusedSimpArgs false
set_option linter.unusedVariables false
namespace Go.Proofs.YtifjpcdpmimccaaGreatDoor
open Go.RowKit
set_option maxRecDepth 1000000

abbrev L18 : List (String × DataW Unit) := [("unicode/utf8.acceptRanges", Rows.laid_unicode_utf8_acceptRanges), ("unicode.CaseRanges", Rows.laid_unicode_CaseRanges), ("unicode/utf8.first", Rows.laid_unicode_utf8_first)]
theorem own18 : ownKnob Tryz.prog.godebug = none := by kernel_rfl
theorem laidOut18 : laidOutB Tryz.prog = true := by kernel_rfl
theorem badgeBack_walk (v0 v1 v2 : Value) (w : World) (_ : laidMetH Tryz.prog L18 w) {H : Type} {enc : TypeId × Value → H} {base : Nat} {d0 : DataW H} {p0 : List MemPlace} {d1 : DataW H} {p1 : List MemPlace} {d2 : DataW H} {p2 : List MemPlace}
    (hval0 : Value.okWide Tryz.prog w .any base 26 v0) (h0 : DataW.Trod enc Tryz.prog w 0 (fun _ => true) true 26 v0 d0 p0) (_ : ∀ x ∈ p0, x.block < w.heap.size)
    (hval1 : Value.okWide Tryz.prog w .any base 26 v1) (h1 : DataW.Trod enc Tryz.prog w 0 (fun _ => true) true 26 v1 d1 p1) (_ : ∀ x ∈ p1, x.block < w.heap.size)
    (hval2 : Value.okWide Tryz.prog w .any base 44 v2) (h2 : DataW.Trod enc Tryz.prog w 0 (fun _ => true) true 44 v2 d2 p2) (_ : ∀ x ∈ p2, x.block < w.heap.size) :
    Calls Tryz.prog 4 #[v0, v1, v2] w fun e w' => e = .returned (.bool true) ∧ Below w.heap.size w w' := by
  obtain ⟨n, ky, fr, af, nu, g0, hn, hk, hf, haf, hnu⟩ := draft_open hval0 h0
  obtain ⟨n2, ky2, fr2, af2, nu2, g1, hn2, hk2, hf2, haf2, hnu2⟩ := draft_open hval1 h1
  obtain ⟨a, v, s, g2, _, _⟩ := bend_open hval2 h2
  obtain ⟨hv, hb, h⟩ := back_run n n2 ky fr af nu ky2 fr2 af2 nu2 a v s hn hf haf hnu hn2 hf2 haf2 hnu2 isT trivial
  exact call_all (envFor18 smLw_ok _ hv hb) h w (glob0 w) (by
    simp only [VRL_cons, VRL_nil, and_true]
    exact ⟨g0, g1, g2⟩)
end Go.Proofs.YtifjpcdpmimccaaGreatDoor
