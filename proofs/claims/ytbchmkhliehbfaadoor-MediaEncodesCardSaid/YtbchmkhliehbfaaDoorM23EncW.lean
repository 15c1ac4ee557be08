/-
  Chapter 23: the walk of MediaEncodes.
-/
import Derived.Test.YtbchmkhliehbfaaDoorM23Y
import Derived.Test.YtbchmkhliehbfaaDoorM23Z
import Derived.Test.YtbchmkhliehbfaaDoorM23C
set_option linter.unusedSimpArgs false
set_option linter.unusedVariables false
namespace Go.Proofs.YtbchmkhliehbfaaDoor
open Go.RowKit
set_option maxRecDepth 1000000

theorem sh_bend2 {k : Nat} {l : List AV} (h : shP Tryd.prog (k + 2) 29 l) : ∃ (what at' n : Int), l = bendA what at' n ∧ (0 ≤ at' ∧ at' ≤ 255) := by
  have h := struct_of (by kernel_rfl) h
  rw [show fldsOf 29 = [5, 5, 3] by kernel_rfl] at h
  obtain ⟨_, _, h0, ⟨_, _, h1, ⟨_, _, h2, rfl, rfl⟩, rfl⟩, rfl⟩ := h
  obtain ⟨a, rfl, a1⟩ := sh_u8 h0
  obtain ⟨b, rfl, b1⟩ := sh_u8 h1
  obtain ⟨n, rfl, n1⟩ := sh_i64 h2
  exact ⟨a, b, n, rfl, b1⟩
theorem okWide_array {P : Program} {w : World} {r : Reach} {base : Nat} {t : TypeId} {v : Value} {n : Nat} {e : TypeId} (ht : P.underlying t = some (.array n e)) (h : Value.okWide P w r base t v) : ∃ cs, v = .agg cs ∧ cs.size = P.cellsOf t := by
  simp only [Value.okWide, ht] at h
  obtain ⟨cs, h1, h2, _⟩ := h
  exact ⟨cs, h1, h2⟩
theorem mediaEncodes_walk (v0 v1 v2 : Value) (w : World) (hL : laidMetH Tryd.prog L23 w) {H : Type} {enc : TypeId × Value → H} {base : Nat} {d0 : DataW H} {p0 : List MemPlace}
    (hval0 : Value.okWide Tryd.prog w .any base 27 v0) (h0 : DataW.Trod enc Tryd.prog w 0 (fun _ => true) true 27 v0 d0 p0) (_ : ∀ x ∈ p0, x.block < w.heap.size) {d1 : DataW H} {p1 : List MemPlace}
    (hval1 : Value.okWide Tryd.prog w .any base 30 v1) (h1 : DataW.Trod enc Tryd.prog w 0 (fun _ => true) true 30 v1 d1 p1) (_ : ∀ x ∈ p1, x.block < w.heap.size) {d2 : DataW H} {p2 : List MemPlace}
    (hval2 : Value.okWide Tryd.prog w .any base 34 v2) (h2 : DataW.Trod enc Tryd.prog w 0 (fun _ => true) true 34 v2 d2 p2) (_ : ∀ x ∈ p2, x.block < w.heap.size) :
    Calls Tryd.prog 3 #[v0, v1, v2] w fun e w' => e = .returned (.bool true) ∧ Below w.heap.size w w' := by
  obtain ⟨mk, ty, seq, ti, ss, ks, ps, pad, pl, hv, hk, a1, a2, a3, a4, a5, _⟩ := draft_open hval0 h0
  obtain ⟨cs1, hv1, _⟩ := okWide_array und_30 hval1
  obtain ⟨l1, g1, s1⟩ := open_agg (k := 3) hv1 (by kernel_rfl) h1
  rw [shP] at s1
  simp only [und_30] at s1
  obtain ⟨ls, q1, q2, rfl⟩ := s1
  obtain ⟨cs2, hv2⟩ := okWide_st (by kernel_rfl) hval2
  obtain ⟨l2, g2, s2⟩ := open_agg (k := 4) hv2 (by kernel_rfl) h2
  obtain ⟨mk3, ty3, seq3, ti3, ss3, cs3, ex3, pad3, pl3, rfl⟩ := sh_media (k := 0) s2
  match ls, q1 with
  | [x, y], _ =>
    obtain ⟨wa, ba, na, rfl, hba⟩ := sh_bend2 (k := 0) (q2 x (by simp))
    obtain ⟨wb, bb, nb, rfl, hbb⟩ := sh_bend2 (k := 0) (q2 y (by simp))
    obtain ⟨hv', hb, h⟩ := encodes_run mk ty seq ti ss ks ps pad pl wa ba na wb bb nb mk3 ty3 seq3 ti3 ss3 cs3 ex3 pad3 pl3 hk a1 a2 a3 a4 a5 hba hbb isT trivial
    exact call_all ⟨mixed23, names23, tabA_ok, smY_ok⟩ h w (glob0 w) (by
      simp only [VRL_cons, VRL_nil, and_true]
      exact ⟨hv, g1, g2⟩)
end Go.Proofs.YtbchmkhliehbfaaDoor
