/-
  Chapter 23: the walk of MediaFinds.
-/
import Derived.Test.YtbchmkhliehbfaaDoorM23W
import Derived.Test.YtbchmkhliehbfaaDoorM23O
import Derived.Test.YtbchmkhliehbfaaDoorM23C
set_option linter.unusedSimpArgs false
set_option linter.unusedVariables false
namespace Go.Proofs.YtbchmkhliehbfaaDoor
open Go.RowKit
set_option maxRecDepth 1000000

theorem sh_bend {k : Nat} {l : List AV} (h : shP Tryd.prog (k + 2) 29 l) : ∃ (what at' n : Int), l = bendA what at' n ∧ (0 ≤ at' ∧ at' ≤ 255) := by
  have h := struct_of (by kernel_rfl) h
  rw [show fldsOf 29 = [5, 5, 3] by kernel_rfl] at h
  obtain ⟨_, _, h0, ⟨_, _, h1, ⟨_, _, h2, rfl, rfl⟩, rfl⟩, rfl⟩ := h
  obtain ⟨a, rfl, a1⟩ := sh_u8 h0
  obtain ⟨b, rfl, b1⟩ := sh_u8 h1
  obtain ⟨n, rfl, n1⟩ := sh_i64 h2
  exact ⟨a, b, n, rfl, b1⟩
theorem bend_open {H : Type} {enc : TypeId × Value → H} {w : World} {v : Value} {d : DataW H} {p : List MemPlace} {base : Nat} (hval : Value.okWide Tryd.prog w .any base 29 v) (h : DataW.Trod enc Tryd.prog w 0 (fun _ => true) true 29 v d p) :
    ∃ (what at' n : Int), VR (mAll w) (.agg (bendA what at' n)) v ∧ (0 ≤ at' ∧ at' ≤ 255) := by
  obtain ⟨cs, hv⟩ := okWide_st (by kernel_rfl) hval
  obtain ⟨l, h1, h2⟩ := open_agg (k := 2) hv (by kernel_rfl) h
  obtain ⟨a, b, n, rfl, hr⟩ := sh_bend (k := 0) h2
  exact ⟨a, b, n, h1, hr⟩
theorem mediaFinds_walk (v0 v1 : Value) (id an : Int) (raw : ByteArray) (w : World) (hL : laidMetH Tryd.prog L23 w) {H : Type} {enc : TypeId × Value → H} {base : Nat} {d0 : DataW H} {p0 : List MemPlace}
    (hval0 : Value.okWide Tryd.prog w .any base 27 v0) (h0 : DataW.Trod enc Tryd.prog w 0 (fun _ => true) true 27 v0 d0 p0) (_ : ∀ x ∈ p0, x.block < w.heap.size) {d1 : DataW H} {p1 : List MemPlace}
    (hval1 : Value.okWide Tryd.prog w .any base 29 v1) (h1 : DataW.Trod enc Tryd.prog w 0 (fun _ => true) true 29 v1 d1 p1) (_ : ∀ x ∈ p1, x.block < w.heap.size) (_ : (Lit.int .i64 id).wf = true) (wa : (Lit.int .u8 an).wf = true) (wr : raw.size ≤ maxLen) :
    Calls Tryd.prog 5 #[v0, v1, .int .i64 id, .int .u8 an, .string raw] w fun e w' => e = .returned (.bool true) ∧ Below w.heap.size w w' := by
  obtain ⟨mk, ty, seq, ti, ss, ks, ps, pad, pl, hv, hk, a1, a2, a3, a4, a5, _⟩ := draft_open hval0 h0
  obtain ⟨what, bat, bn, hv1, hb1⟩ := bend_open hval1 h1
  have hr : raw.data.toList.length ≤ 9223372036854775807 := by
    have : raw.data.toList.length = raw.size := by rw [Array.length_toList]; rfl
    unfold maxLen at wr
    omega
  obtain ⟨hv', hb, h⟩ := finds_run mk ty seq ti ss 0 ks 0 ps pad pl what bat bn id an raw.data.toList hk a1 a2 a3 a4 a5 hb1 (wf8 wa) hr isT trivial
  exact call_all ⟨mixed23, names23, tabA_ok, smW_ok⟩ h w (glob0 w) (by
    simp only [VRL_cons, VRL_nil, and_true]
    exact ⟨hv, hv1, by simp [VR], by simp [VR], by simp [VR]⟩)
end Go.Proofs.YtbchmkhliehbfaaDoor
