/-
  Chapter 17: the walk of RecordForged.
-/
import Derived.Test.YtiholnebhmjbjaaM17W3
import Derived.Test.YtiholnebhmjbjaaM17O2
set_option linter.unusedSimpArgs false
set_option linter.unusedVariables false
namespace Go.Proofs.Ytiholnebhmjbjaa
open Go.RowKit
set_option maxRecDepth 1000000

theorem recordForged_walk (v0 : Value) (body : ByteArray) (pos by' epoch : Int) (w : World) {H : Type} {enc : TypeId × Value → H} {base : Nat} {d0 : DataW H} {p0 : List MemPlace}
    (hval0 : Value.okWide Try.prog w .any base 60 v0) (h0 : DataW.Trod enc Try.prog w 0 (fun _ => true) true 60 v0 d0 p0) (_ : ∀ x ∈ p0, x.block < w.heap.size) (w1 : body.size ≤ maxLen) (w2 : (Lit.int .u16 pos).wf = true) (w3 : (Lit.int .u8 by').wf = true) (w4 : (Lit.int .u8 epoch).wf = true) :
    Calls Try.prog 9 #[v0, .string body, .int .u16 pos, .int .u8 by', .int .u8 epoch] w fun e w' => e = .returned (.bool true) ∧ Below w.heap.size w w' := by
  obtain ⟨ep, st, kk, sk, sn, g1, a1, a2, a3, a4, a5⟩ := draft_open hval0 h0
  obtain ⟨hv, hb, h⟩ := forged_run ep st kk sk sn body.data.toList pos by' epoch a1 a2 (wf16 w2) (wf8 w3) (wf8 w4) isT trivial
  exact call_all (envFor_9 _ _) h w (glob0 w) (by
    simp only [VRL_cons, VRL_nil, and_true]
    exact ⟨g1, by simp [VR], by simp [VR], by simp [VR], by simp [VR]⟩)
end Go.Proofs.Ytiholnebhmjbjaa
