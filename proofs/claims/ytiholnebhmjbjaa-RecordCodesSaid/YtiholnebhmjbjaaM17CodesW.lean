/-
  Chapter 17: the walks of RecordCodes and RecordBack.
-/
import Derived.Test.YtiholnebhmjbjaaM17OR
set_option linter.unusedSimpArgs false
set_option linter.unusedVariables false
namespace Go.Proofs.Ytiholnebhmjbjaa
open Go.RowKit
set_option maxRecDepth 1000000

theorem recordCodes_walk (v0 v1 v2 : Value) (s : ByteArray) (w : World) {H : Type} {enc : TypeId × Value → H} {base : Nat} {d0 : DataW H} {p0 : List MemPlace}
    (hval0 : Value.okWide Try.prog w .any base 22 v0) (h0 : DataW.Trod enc Try.prog w 0 (fun _ => true) true 22 v0 d0 p0) (_ : ∀ x ∈ p0, x.block < w.heap.size) {d1 : DataW H} {p1 : List MemPlace}
    (hval1 : Value.okWide Try.prog w .any base 23 v1) (h1 : DataW.Trod enc Try.prog w 0 (fun _ => true) true 23 v1 d1 p1) (_ : ∀ x ∈ p1, x.block < w.heap.size) {d2 : DataW H} {p2 : List MemPlace}
    (hval2 : Value.okWide Try.prog w .any base 27 v2) (h2 : DataW.Trod enc Try.prog w 0 (fun _ => true) true 27 v2 d2 p2) (_ : ∀ x ∈ p2, x.block < w.heap.size) (w3 : s.size ≤ maxLen) :
    Calls Try.prog 3 #[v0, v1, v2, .string s] w fun e w' => e = .returned (.bool true) ∧ Below w.heap.size w w' := by
  obtain ⟨ps, g1, k1⟩ := pieces_open hval0 h0
  obtain ⟨rs, g2⟩ := recs_open hval1 h1
  obtain ⟨a, b, t, c, e, u, g3, q1, q2, q3, q4⟩ := edits_open hval2 h2
  obtain ⟨hv, hb, h⟩ := codes_run ps rs a b t c e u s.data.toList k1 q1 q2 q3 q4 isT trivial
  exact call_all (envFor04 smK3_ok _ _ _) h w (glob0 w) (by
    simp only [VRL_cons, VRL_nil, and_true]
    exact ⟨g1, g2, g3, by simp [VR]⟩)
end Go.Proofs.Ytiholnebhmjbjaa
