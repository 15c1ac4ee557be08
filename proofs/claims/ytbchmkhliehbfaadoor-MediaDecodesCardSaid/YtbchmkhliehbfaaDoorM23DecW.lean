/-
  Chapter 23: the walk of MediaDecodes.
-/
import Derived.Test.YtbchmkhliehbfaaDoorM23DL
import Derived.Test.YtbchmkhliehbfaaDoorM23O
import Derived.Test.YtbchmkhliehbfaaDoorM23C
set_option linter.unusedSimpArgs false
set_option linter.unusedVariables false
namespace Go.Proofs.YtbchmkhliehbfaaDoor
open Go.RowKit
set_option maxRecDepth 1000000

theorem sh_edit {k : Nat} {l : List AV} (h : shP Tryd.prog (k + 2) 47 l) : ∃ (a b : Int) (text : List UInt8), l = [.int .u16 a, .int .u8 b, .str text] ∧ (0 ≤ a ∧ a ≤ 65535) ∧ (0 ≤ b ∧ b ≤ 255) := by
  have h := struct_of (by kernel_rfl) h
  rw [show fldsOf 47 = [22, 5, 9] by kernel_rfl] at h
  obtain ⟨_, _, h0, ⟨_, _, h1, ⟨_, _, h2, rfl, rfl⟩, rfl⟩, rfl⟩ := h
  obtain ⟨a, rfl, a1⟩ := sh_u16 h0
  obtain ⟨b, rfl, b1⟩ := sh_u8 h1
  obtain ⟨s, rfl, s1⟩ := sh_str h2
  exact ⟨a, b, s, rfl, a1, b1⟩
theorem edit_open {H : Type} {enc : TypeId × Value → H} {w : World} {v : Value} {d : DataW H} {p : List MemPlace} {base : Nat} (hval : Value.okWide Tryd.prog w .any base 47 v) (h : DataW.Trod enc Tryd.prog w 0 (fun _ => true) true 47 v d p) :
    ∃ (a b : Int) (text : List UInt8), VR (mAll w) (.agg [.int .u16 a, .int .u8 b, .str text]) v ∧ (0 ≤ a ∧ a ≤ 65535) ∧ (0 ≤ b ∧ b ≤ 255) := by
  obtain ⟨cs, hv⟩ := okWide_st (by kernel_rfl) hval
  obtain ⟨l, h1, h2⟩ := open_agg (k := 2) hv (by kernel_rfl) h
  obtain ⟨a, b, n, rfl, hr⟩ := sh_edit (k := 0) h2
  exact ⟨a, b, n, h1, hr⟩
theorem sh_bend {k : Nat} {l : List AV} (h : shP Tryd.prog (k + 2) 29 l) : ∃ (what at' n : Int), l = bendA what at' n ∧ (0 ≤ at' ∧ at' ≤ 255) := by
  have h := struct_of (by kernel_rfl) h
  rw [show fldsOf 29 = [5, 5, 3] by kernel_rfl] at h
  obtain ⟨_, _, h0, ⟨_, _, h1, ⟨_, _, h2, rfl, rfl⟩, rfl⟩, rfl⟩ := h
  obtain ⟨a, rfl, a1⟩ := sh_u8 h0
  obtain ⟨b, rfl, b1⟩ := sh_u8 h1
  obtain ⟨n, rfl, n1⟩ := sh_i64 h2
  exact ⟨a, b, n, rfl, b1⟩
theorem bend_open {H : Type} {enc : TypeId × Value → H} {w : World} {v : Value} {d : DataW H} {p : List MemPlace} {base : Nat} (hval : Value.okWide Tryd.prog w .any base 29 v) (h : DataW.Trod enc Tryd.prog w 0 (fun _ => true) true 29 v d p) :
    ∃ (what at' n : Int), VR (mAll w) (.agg (bendA what at' n)) v ∧ (0 ≤ at' ∧ at' ≤ 255) := by
  obtain ⟨cs, hv⟩ := okWide_st (by kernel_rfl) hval
  obtain ⟨l, h1, h2⟩ := open_agg (k := 2) hv (by kernel_rfl) h
  obtain ⟨a, b, n, rfl, hr⟩ := sh_bend (k := 0) h2
  exact ⟨a, b, n, h1, hr⟩
theorem mediaDecodes_walk (v0 v1 v2 v3 : Value) (raw : ByteArray) (w : World) (hL : laidMetH Tryd.prog L23 w) {H : Type} {enc : TypeId × Value → H} {base : Nat} {d0 : DataW H} {p0 : List MemPlace}
    (hval0 : Value.okWide Tryd.prog w .any base 27 v0) (h0 : DataW.Trod enc Tryd.prog w 0 (fun _ => true) true 27 v0 d0 p0) (_ : ∀ x ∈ p0, x.block < w.heap.size) {d1 : DataW H} {p1 : List MemPlace}
    (hval1 : Value.okWide Tryd.prog w .any base 47 v1) (h1 : DataW.Trod enc Tryd.prog w 0 (fun _ => true) true 47 v1 d1 p1) (_ : ∀ x ∈ p1, x.block < w.heap.size) {d2 : DataW H} {p2 : List MemPlace}
    (hval2 : Value.okWide Tryd.prog w .any base 47 v2) (h2 : DataW.Trod enc Tryd.prog w 0 (fun _ => true) true 47 v2 d2 p2) (_ : ∀ x ∈ p2, x.block < w.heap.size) {d3 : DataW H} {p3 : List MemPlace}
    (hval3 : Value.okWide Tryd.prog w .any base 29 v3) (h3 : DataW.Trod enc Tryd.prog w 0 (fun _ => true) true 29 v3 d3 p3) (_ : ∀ x ∈ p3, x.block < w.heap.size) (wr : raw.size ≤ maxLen) :
    Calls Tryd.prog 4 #[v0, v1, v2, v3, .string raw] w fun e w' => e = .returned (.bool true) ∧ Below w.heap.size w w' := by
  obtain ⟨mk, ty, seq, ti, ss, ks, ps, pad, pl, hv, hk, a1, a2, a3, a4, a5, _⟩ := draft_open hval0 h0
  obtain ⟨x1, y1, t1, hv1, hx1, hy1⟩ := edit_open hval1 h1
  obtain ⟨x2, y2, t2, hv2, hx2, hy2⟩ := edit_open hval2 h2
  obtain ⟨what, bat, bn, hv3, hb3⟩ := bend_open hval3 h3
  obtain ⟨hv', hb', h⟩ := decodes_run mk ty seq ti ss 0 ks 0 ps pad pl x1 y1 t1 x2 y2 t2 what bat bn raw.data.toList hk a1 a2 a3 a4 a5 hx1 hy1 hx2 hy2 hb3 isT trivial
  exact call_all ⟨mixed23, names23, tabA_ok, smDL_ok⟩ h w (glob0 w) (by
    simp only [VRL_cons, VRL_nil, and_true]
    exact ⟨hv, hv1, hv2, hv3, by simp [VR]⟩)
end Go.Proofs.YtbchmkhliehbfaaDoor
