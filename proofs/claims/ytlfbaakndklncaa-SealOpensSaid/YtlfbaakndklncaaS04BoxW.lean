/-
  Chapter 4: the walks of SealMeans and SealOpens.
-/
import Derived.Test.YtlfbaakndklncaaS04ZB
set_option linter.unusedSimpArgs false
set_option linter.unusedVariables false
namespace Go.Proofs.Ytlfbaakndklncaa
open Go.RowKit

theorem globB (w : World) : Glob gl0 w := fun g cs h => by cases h
theorem isT_trueB : isT (.ret (.bool true)) [] {} := trivial
theorem sealMeans_walk (a0 a1 a2 a3 : ByteArray) (w : World) (w0 : a0.size ≤ maxLen) (w1 : a1.size ≤ maxLen) (w2 : a2.size ≤ maxLen) (w3 : a3.size ≤ maxLen) :
    Calls Try.prog 6 #[.string a0, .string a1, .string a2, .string a3] w fun e w' => e = .returned (.bool true) ∧ Below w.heap.size w w' := by
  obtain ⟨hv, hb, h⟩ := means_run a0.data.toList a1.data.toList a2.data.toList a3.data.toList isT isT_trueB
  exact call_all (envFor04 smZ_ok _ hv hb) h w (globB w) (by simp [VR, VRL_cons, VRL_nil])
theorem u8_wf {x : Int} (h : (Lit.int .u8 x).wf = true) : 0 ≤ x ∧ x < 256 := by
  simp [Lit.wf, IntKind.min, IntKind.max, IntKind.signed, IntKind.bits] at h
  omega
theorem sealOpens_walk (a0 a1 a2 a3 : ByteArray) (a4 a5 : Int) (w : World) (w0 : a0.size ≤ maxLen) (w1 : a1.size ≤ maxLen) (w2 : a2.size ≤ maxLen) (w3 : a3.size ≤ maxLen) (w4 : (Lit.int .u8 a4).wf = true) (w5 : (Lit.int .u8 a5).wf = true) :
    Calls Try.prog 5 #[.string a0, .string a1, .string a2, .string a3, .int .u8 a4, .int .u8 a5] w fun e w' => e = .returned (.bool true) ∧ Below w.heap.size w w' := by
  obtain ⟨hv, hb, h⟩ := opens_run a0.data.toList a1.data.toList a2.data.toList a3.data.toList a4 a5 (u8_wf w4) (u8_wf w5) isT isT_trueB
  exact call_all (envFor04 smZ_ok _ hv hb) h w (globB w) (by simp [VR, VRL_cons, VRL_nil])
end Go.Proofs.Ytlfbaakndklncaa
