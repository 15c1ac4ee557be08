/-
  Chapter 23: the walk of MediaParts.
-/
import Derived.Test.YtbchmkhliehbfaaDoorM23DK
import Derived.Test.YtbchmkhliehbfaaDoorM23O
import Derived.Test.YtbchmkhliehbfaaDoorM23C
set_option linter.unusedSimpArgs false
set_option linter.unusedVariables false
namespace Go.Proofs.YtbchmkhliehbfaaDoor
open Go.RowKit
set_option maxRecDepth 1000000

theorem mediaParts_walk (v0 : Value) (other : ByteArray) (w : World) (hL : laidMetH Tryd.prog L23 w) {H : Type} {enc : TypeId × Value → H} {base : Nat} {d0 : DataW H} {p0 : List MemPlace}
    (hval0 : Value.okWide Tryd.prog w .any base 27 v0) (h0 : DataW.Trod enc Tryd.prog w 0 (fun _ => true) true 27 v0 d0 p0) (_ : ∀ x ∈ p0, x.block < w.heap.size) (wr : other.size ≤ maxLen) :
    Calls Tryd.prog 7 #[v0, .string other] w fun e w' => e = .returned (.bool true) ∧ Below w.heap.size w w' := by
  obtain ⟨mk, ty, seq, ti, ss, ks, ps, pad, pl, hv, hk, a1, a2, a3, a4, a5, _⟩ := draft_open hval0 h0
  obtain ⟨hv', hb, h⟩ := parts_run mk ty seq ti ss 0 ks 0 ps pad pl other.data.toList hk a1 a2 a3 a4 a5 isT trivial
  exact call_all ⟨mixed23, names23, tabA_ok, smDK_ok⟩ h w (glob0 w) (by
    simp only [VRL_cons, VRL_nil, and_true]
    exact ⟨hv, by simp [VR]⟩)
end Go.Proofs.YtbchmkhliehbfaaDoor
