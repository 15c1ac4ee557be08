/-
  Chapter 24: the walk of ControlBack.
-/
import Derived.Test.YtafchcmemeinlaaDoorC24ZA
import Derived.Test.YtafchcmemeinlaaDoorC24C
set_option linter.unusedSimpArgs false
set_option linter.unusedVariables false
namespace Go.Proofs.YtafchcmemeinlaaDoor
open Go.RowKit
set_option maxRecDepth 1000000

theorem controlBack_walk (v0 v1 : Value) (w : World) (hL : laidMetH Tryd.prog L24 w) {H : Type} {enc : TypeId × Value → H} {base : Nat} {d0 : DataW H} {p0 : List MemPlace}
  (hval0 : Value.okWide Tryd.prog w .any base 24 v0) (h0 : DataW.Trod enc Tryd.prog w 0 (fun _ => true) true 24 v0 d0 p0) (_ : ∀ x ∈ p0, x.block < w.heap.size) {d1 : DataW H} {p1 : List MemPlace}
  (hval1 : Value.okWide Tryd.prog w .any base 27 v1) (h1 : DataW.Trod enc Tryd.prog w 0 (fun _ => true) true 27 v1 d1 p1) (_ : ∀ x ∈ p1, x.block < w.heap.size) :
  Calls Tryd.prog 5 #[v0, v1] w fun e w' => e = .returned (.bool true) ∧ Below w.heap.size w w' := by
 obtain ⟨b, ps, hv0, hps⟩ := draft_open hval0 h0
 obtain ⟨a, l, text, hv1, ha, hb⟩ := edit_open hval1 h1
 obtain ⟨hv', hb', h⟩ := back_run b 0 ps a l text hps ha hb isT trivial
 exact call_all (envFor24 sm5_ok _ _ _) h w (glob24 hL) (by
  simp only [VRL_cons, VRL_nil, and_true]
  exact ⟨hv0, hv1⟩)
end Go.Proofs.YtafchcmemeinlaaDoor
