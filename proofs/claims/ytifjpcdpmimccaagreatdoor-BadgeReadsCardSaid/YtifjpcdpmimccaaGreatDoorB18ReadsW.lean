/-
  Chapter 18: the walk of BadgeReads.
-/
import Derived.Test.YtifjpcdpmimccaaGreatDoorB18O1
import Derived.Test.YtifjpcdpmimccaaGreatDoorB18CI
import Derived.Test.YtifjpcdpmimccaaGreatDoorRows
import Derived.ProofKit
import Derived.LaidMore
import Derived.Lay
import Derived.OpenShut
import Derived.Stop.Joined
set_option linter.unusedSimpArgs false
set_option linter.unusedVariables false
namespace Go.Proofs.YtifjpcdpmimccaaGreatDoor
open Go.RowKit
set_option maxRecDepth 1000000

abbrev L18 : List (String × DataW Unit) := [("unicode/utf8.acceptRanges", Rows.laid_unicode_utf8_acceptRanges), ("unicode.CaseRanges", Rows.laid_unicode_CaseRanges), ("unicode/utf8.first", Rows.laid_unicode_utf8_first)]
theorem own18 : ownKnob Tryz.prog.godebug = none := by kernel_rfl
theorem laidOut18 : laidOutB Tryz.prog = true := by kernel_rfl
theorem und_29 : Tryz.prog.underlying 29 = some (.array 2 28) := by kernel_rfl
theorem sh_edit {k : Nat} {l : List AV} (h : shP Tryz.prog (k + 2) 28 l) : ∃ (a b : Int) (t : List UInt8), l = [.int .u8 a, .int .u8 b, .str t] ∧ (0 ≤ a ∧ a ≤ 255) ∧ (0 ≤ b ∧ b ≤ 255) := by
  have h := struct_of (by kernel_rfl) h
  rw [show fldsOf 28 = [5, 5, 9] by kernel_rfl] at h
  obtain ⟨_, _, h1, ⟨_, _, h2, ⟨_, _, h3, rfl, rfl⟩, rfl⟩, rfl⟩ := h
  obtain ⟨a, rfl, ha⟩ := sh_u8 h1
  obtain ⟨b, rfl, hb⟩ := sh_u8 h2
  obtain ⟨s, rfl, hs⟩ := sh_str h3
  exact ⟨a, b, s, rfl, ha, hb⟩
theorem okWide_array {P : Program} {w : World} {r : Reach} {base : Nat} {t : TypeId} {v : Value} {n : Nat} {e : TypeId} (ht : P.underlying t = some (.array n e)) (h : Value.okWide P w r base t v) : ∃ cs, v = .agg cs ∧ cs.size = P.cellsOf t := by
  simp only [Value.okWide, ht] at h
  obtain ⟨cs, h1, h2, _⟩ := h
  exact ⟨cs, h1, h2⟩
theorem edits_open {H : Type} {enc : TypeId × Value → H} {w : World} {v : Value} {d : DataW H} {p : List MemPlace} {base : Nat} (hval : Value.okWide Tryz.prog w .any base 29 v) (h : DataW.Trod enc Tryz.prog w 0 (fun _ => true) true 29 v d p) :
    ∃ (a b : Int) (t : List UInt8) (c e : Int) (u : List UInt8), VR (mAll w) (.agg [.int .u8 a, .int .u8 b, .str t, .int .u8 c, .int .u8 e, .str u]) v ∧ (0 ≤ a ∧ a ≤ 255) ∧ (0 ≤ b ∧ b ≤ 255) ∧ (0 ≤ c ∧ c ≤ 255) ∧ (0 ≤ e ∧ e ≤ 255) := by
  obtain ⟨cs, hv, _⟩ := okWide_array und_29 hval
  obtain ⟨l, g1, s1⟩ := open_agg (k := 3) hv (by kernel_rfl) h
  rw [shP] at s1
  simp only [und_29] at s1
  obtain ⟨ls, q1, q2, rfl⟩ := s1
  match ls, q1 with
  | [x, y], _ =>
    obtain ⟨a, b, t, rfl, ha, hb⟩ := sh_edit (k := 0) (q2 x (by simp))
    obtain ⟨c, e, u, rfl, hc, he⟩ := sh_edit (k := 0) (q2 y (by simp))
    exact ⟨a, b, t, c, e, u, g1, ha, hb, hc, he⟩
theorem badgeReads_walk (v0 v1 : Value) (raw : ByteArray) (w : World) (_ : laidMetH Tryz.prog L18 w) {H : Type} {enc : TypeId × Value → H} {base : Nat} {d0 : DataW H} {p0 : List MemPlace} {d1 : DataW H} {p1 : List MemPlace}
    (hval0 : Value.okWide Tryz.prog w .any base 26 v0) (h0 : DataW.Trod enc Tryz.prog w 0 (fun _ => true) true 26 v0 d0 p0) (_ : ∀ x ∈ p0, x.block < w.heap.size)
    (hval1 : Value.okWide Tryz.prog w .any base 29 v1) (h1 : DataW.Trod enc Tryz.prog w 0 (fun _ => true) true 29 v1 d1 p1) (_ : ∀ x ∈ p1, x.block < w.heap.size) (wr : raw.size ≤ maxLen) :
    Calls Tryz.prog 3 #[v0, v1, .string raw] w fun e w' => e = .returned (.bool true) ∧ Below w.heap.size w w' := by
  obtain ⟨n, ky, fr, af, nu, g0, hn, hk, hf, haf, hnu⟩ := draft_open hval0 h0
  obtain ⟨a, b, s, c, e, u, g1, ha, hb, hc, he⟩ := edits_open hval1 h1
  have hr : raw.data.toList.length ≤ 9223372036854775807 := by
    have : raw.data.toList.length = raw.size := by rw [Array.length_toList]; rfl
    unfold maxLen at wr
    omega
  obtain ⟨hv, hbb, h⟩ := reads_run n raw.data.toList s u ky fr af nu a b c e hn hf haf hnu hr ha hb hc he isT trivial
  exact call_all (envFor18 smLr_ok _ hv hbb) h w (glob0 w) (by
    simp only [VRL_cons, VRL_nil, and_true]
    exact ⟨g0, g1, by simp [VR]⟩)
end Go.Proofs.YtifjpcdpmimccaaGreatDoor
