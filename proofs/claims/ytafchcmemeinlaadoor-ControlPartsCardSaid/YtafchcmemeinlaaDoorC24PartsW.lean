/-
  Chapter 24: the walk of ControlParts.
-/
import Derived.Test.YtafchcmemeinlaaDoorC24ZA
import Derived.Test.YtafchcmemeinlaaDoorC24PB
import Derived.Test.YtafchcmemeinlaaDoorC24C
set_option linter.unusedSimpArgs false
set_option linter.unusedVariables false
namespace Go.Proofs.YtafchcmemeinlaaDoor
open Go.RowKit
set_option maxRecDepth 1000000

theorem controlParts_walk (v0 : Value) (c : Int) (w : World) (hL : laidMetH Tryd.prog L24 w) {H : Type} {enc : TypeId × Value → H} {base : Nat} {d0 : DataW H} {p0 : List MemPlace}
  (hval0 : Value.okWide Tryd.prog w .any base 24 v0) (h0 : DataW.Trod enc Tryd.prog w 0 (fun _ => true) true 24 v0 d0 p0) (_ : ∀ x ∈ p0, x.block < w.heap.size) (wf : (Lit.int .u16 c).wf = true) :
  Calls Tryd.prog 10 #[v0, .int .u16 c] w fun e w' => e = .returned (.bool true) ∧ Below w.heap.size w w' := by
 have hf : 0 ≤ c ∧ c ≤ 65535 := by
  simp [Lit.wf, IntKind.min, IntKind.max, IntKind.signed, IntKind.bits] at wf
  omega
 obtain ⟨b, ps, hv0, hps⟩ := draft_open hval0 h0
 obtain ⟨hv', hb', h⟩ := parts_run b 0 ps c hps hf isT fun _ => trivial
 exact call_all (envFor24 sm10_ok _ _ _) h w (glob24 hL) (by
  simp only [VRL_cons, VRL_nil, and_true]
  exact ⟨hv0, by simp [VR]⟩)
end Go.Proofs.YtafchcmemeinlaaDoor
