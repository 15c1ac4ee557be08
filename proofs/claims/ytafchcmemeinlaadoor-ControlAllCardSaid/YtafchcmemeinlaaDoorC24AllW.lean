/-
  Chapter 24: the walk of ControlAll.
-/
import Derived.Test.YtafchcmemeinlaaDoorC24M
import Derived.Test.YtafchcmemeinlaaDoorC24C
import Derived.WideShapes
set_option linter.unusedSimpArgs false
set_option linter.unusedVariables false
namespace Go.Proofs.YtafchcmemeinlaaDoor
open Go.RowKit
set_option maxRecDepth 1000000

theorem octets_of : ∀ (ls : List (List AV)), (∀ x ∈ ls, ∃ n : Int, x = [.int .u8 n] ∧ (Lit.int .u8 n).wf = true) → ∃ ks : List Int, ls.flatten = cells8M ks ∧ ls.length = ks.length ∧ ∀ k ∈ ks, 0 ≤ k ∧ k ≤ 255
  | [], _ => ⟨[], rfl, rfl, by simp⟩
  | x :: ls, h => by
    obtain ⟨n, rfl, hn⟩ := h x (by simp)
    obtain ⟨ks, h1, h2, h3⟩ := octets_of ls fun y hy => h y (by simp [hy])
    refine ⟨n :: ks, ?_, by simp [h2], ?_⟩
    · rw [List.flatten_cons, h1]; rfl
    · intro k hk
      rcases List.mem_cons.1 hk with rfl | hk
      · simp [Lit.wf, IntKind.min, IntKind.max, IntKind.signed, IntKind.bits] at hn
        omega
      · exact h3 k hk
theorem und_39 : Tryd.prog.underlying 39 = some (.slice 5) := by kernel_rfl
theorem und_5 : Tryd.prog.underlying 5 = some (.int .u8) := by kernel_rfl
theorem cells_5 : Tryd.prog.cellsOf 5 = 1 := by kernel_rfl
theorem good_39 : goodT Tryd.prog 3 39 = true := by kernel_rfl
theorem octets_open {H : Type} {enc : TypeId × Value → H} {w : World} {v : Value} {d : DataW H} {p : List MemPlace} {base : Nat} (hval : Value.okWide Tryd.prog w .any base 39 v) (h : DataW.Trod enc Tryd.prog w 0 (fun _ => true) true 39 v d p) :
    ∃ ks : List Int, VRL (mAll w) [.lst 0 (cells8M ks) ks.length 1] [v] ∧ ks.length ≤ 9223372036854775807 ∧ ∀ k ∈ ks, 0 ≤ k ∧ k ≤ 255 := by
  obtain ⟨a, len, cap, rfl⟩ := Go.WideShapes.okWide_slice und_39 hval
  obtain ⟨m, hm⟩ := h
  obtain ⟨_, l, hl, hs⟩ := deep_ok 3 39 m [.slice a len cap] (d, p) good_39 (by simpa [Value.cells] using hm)
  rw [shP] at hs
  simp only [und_39, cells_5] at hs
  obtain ⟨ls, h1, h2, rfl⟩ := hs
  obtain ⟨ks, k1, k2, k3⟩ := octets_of ls fun x hx => by
    have := (h1 x hx).1
    rw [shP] at this
    simp only [und_5] at this
    exact this
  rw [k1, k2] at hl
  refine ⟨ks, hl, ?_, k3⟩
  rw [← k2]
  unfold maxLen at h2
  omega

theorem controlAll_walk (f : Int) (v1 : Value) (w : World) (hL : laidMetH Tryd.prog L24 w) (wf : (Lit.int .u16 f).wf = true) {H : Type} {enc : TypeId × Value → H} {base : Nat} {d1 : DataW H} {p1 : List MemPlace}
    (hval : Value.okWide Tryd.prog w .any base 39 v1) (h1 : DataW.Trod enc Tryd.prog w 0 (fun _ => true) true 39 v1 d1 p1) (_ : ∀ x ∈ p1, x.block < w.heap.size) :
    Calls Tryd.prog 6 #[.int .u16 f, v1] w fun e w' => e = .returned (.bool true) ∧ Below w.heap.size w w' := by
  have hf : 0 ≤ f ∧ f ≤ 65535 := by
    simp [Lit.wf, IntKind.min, IntKind.max, IntKind.signed, IntKind.bits] at wf
    omega
  obtain ⟨ks, k1, k2, k3⟩ := octets_open hval h1
  have hv : VRL (mAll w) [.int .u16 f, .lst 0 (cells8M ks) ks.length 1] [.int .u16 f, v1] := by
    rw [VRL_cons]
    exact ⟨by simp [VR], k1⟩
  by_cases hk : ks = []
  · subst hk
    obtain ⟨hv', hb, h⟩ := all_run_a f hf
    exact call_all (envFor24 smK_ok _ _ _) h w (glob24 hL) hv
  · obtain ⟨hv', hb, h⟩ := all_run_b f ks _ hf k3 (by cases ks <;> simp_all) k2 rfl
    exact call_all (envFor24 smK_ok _ _ _) h w (glob24 hL) hv
end Go.Proofs.YtafchcmemeinlaaDoor
