/-
  Chapter 23: the walk of MediaBack.
-/
import Derived.Test.YtbchmkhliehbfaaDoorM23DB
import Derived.Test.YtbchmkhliehbfaaDoorM23O
import Derived.Test.YtbchmkhliehbfaaDoorM23C
set_option linter.unusedSimpArgs false
set_option linter.unusedVariables false
namespace Go.Proofs.YtbchmkhliehbfaaDoor
open Go.RowKit
set_option maxRecDepth 1000000

theorem sh_edit {k : Nat} {l : List AV} (h : shP Tryd.prog (k + 2) 47 l) : ∃ (a b : Int) (text : List UInt8), l = [.int .u16 a, .int .u8 b, .str text] ∧ (0 ≤ a ∧ a ≤ 65535) ∧ (0 ≤ b ∧ b ≤ 255) := by
  have h := struct_of (by kernel_rfl) h
  rw [show fldsOf 47 = [22, 5, 9] by kernel_rfl] at h
  obtain ⟨_, _, h0, ⟨_, _, h1, ⟨_, _, h2, rfl, rfl⟩, rfl⟩, rfl⟩ := h
  obtain ⟨a, rfl, a1⟩ := sh_u16 h0
  obtain ⟨b, rfl, b1⟩ := sh_u8 h1
  obtain ⟨s, rfl, s1⟩ := sh_str h2
  exact ⟨a, b, s, rfl, a1, b1⟩
theorem edit_open {H : Type} {enc : TypeId × Value → H} {w : World} {v : Value} {d : DataW H} {p : List MemPlace} {base : Nat} (hval : Value.okWide Tryd.prog w .any base 47 v) (h : DataW.Trod enc Tryd.prog w 0 (fun _ => true) true 47 v d p) :
    ∃ (a b : Int) (text : List UInt8), VR (mAll w) (.agg [.int .u16 a, .int .u8 b, .str text]) v ∧ (0 ≤ a ∧ a ≤ 65535) ∧ (0 ≤ b ∧ b ≤ 255) := by
  obtain ⟨cs, hv⟩ := okWide_st (by kernel_rfl) hval
  obtain ⟨l, h1, h2⟩ := open_agg (k := 2) hv (by kernel_rfl) h
  obtain ⟨a, b, n, rfl, hr⟩ := sh_edit (k := 0) h2
  exact ⟨a, b, n, h1, hr⟩
theorem mediaBack_walk (v0 v1 : Value) (w : World) (hL : laidMetH Tryd.prog L23 w) {H : Type} {enc : TypeId × Value → H} {base : Nat} {d0 : DataW H} {p0 : List MemPlace}
    (hval0 : Value.okWide Tryd.prog w .any base 27 v0) (h0 : DataW.Trod enc Tryd.prog w 0 (fun _ => true) true 27 v0 d0 p0) (_ : ∀ x ∈ p0, x.block < w.heap.size) {d1 : DataW H} {p1 : List MemPlace}
    (hval1 : Value.okWide Tryd.prog w .any base 47 v1) (h1 : DataW.Trod enc Tryd.prog w 0 (fun _ => true) true 47 v1 d1 p1) (_ : ∀ x ∈ p1, x.block < w.heap.size) :
    Calls Tryd.prog 6 #[v0, v1] w fun e w' => e = .returned (.bool true) ∧ Below w.heap.size w w' := by
  obtain ⟨mk, ty, seq, ti, ss, ks, ps, pad, pl, hv, hk, a1, a2, a3, a4, a5, _⟩ := draft_open hval0 h0
  obtain ⟨a, b, text, hv1, ha, hb⟩ := edit_open hval1 h1
  obtain ⟨hv', hb', h⟩ := back_run mk ty seq ti ss 0 ks 0 ps pad pl a b text hk a1 a2 a3 a4 a5 ha hb isT trivial
  exact call_all ⟨mixed23, names23, tabA_ok, smDB_ok⟩ h w (glob0 w) (by
    simp only [VRL_cons, VRL_nil, and_true]
    exact ⟨hv, hv1⟩)
end Go.Proofs.YtbchmkhliehbfaaDoor
