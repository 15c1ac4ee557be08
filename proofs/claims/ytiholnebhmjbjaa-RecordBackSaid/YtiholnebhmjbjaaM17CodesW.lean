/-
  Chapter 17: the walks of RecordCodes and RecordBack.
-/
import Derived.Test.YtiholnebhmjbjaaM17OR
set_option linter.unusedSimpArgs false
set_option linter.unusedVariables false
namespace Go.Proofs.Ytiholnebhmjbjaa
open Go.RowKit
set_option maxRecDepth 1000000

theorem recordBack_walk (v0 v1 : Value) (w : World) {H : Type} {enc : TypeId × Value → H} {base : Nat} {d0 : DataW H} {p0 : List MemPlace}
    (hval0 : Value.okWide Try.prog w .any base 22 v0) (h0 : DataW.Trod enc Try.prog w 0 (fun _ => true) true 22 v0 d0 p0) (_ : ∀ x ∈ p0, x.block < w.heap.size) {d1 : DataW H} {p1 : List MemPlace}
    (hval1 : Value.okWide Try.prog w .any base 22 v1) (h1 : DataW.Trod enc Try.prog w 0 (fun _ => true) true 22 v1 d1 p1) (_ : ∀ x ∈ p1, x.block < w.heap.size) :
    Calls Try.prog 5 #[v0, v1] w fun e w' => e = .returned (.bool true) ∧ Below w.heap.size w w' := by
  obtain ⟨ps, g1, k1⟩ := pieces_open hval0 h0
  obtain ⟨qs, g2, k2⟩ := pieces_open hval1 h1
  obtain ⟨hv, hb, h⟩ := back_run ps qs k1 k2 isT trivial
  exact call_all (envFor04 smK5_ok _ _ _) h w (glob0 w) (by
    simp only [VRL_cons, VRL_nil, and_true]
    exact ⟨g1, g2⟩)
end Go.Proofs.Ytiholnebhmjbjaa
