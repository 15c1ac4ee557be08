/-
  Chapter 18: the walk of BadgeLists.
-/
import Derived.Test.YtifjpcdpmimccaaGreatDoorB18GB
import Derived.Test.YtifjpcdpmimccaaGreatDoorB18MatchesW
set_option linter.unusedSimpArgs false
set_option linter.unusedVariables false
namespace Go.Proofs.YtifjpcdpmimccaaGreatDoor
open Go.RowKit
set_option maxRecDepth 1000000

theorem okWide_array {P : Program} {w : World} {r : Reach} {base : Nat} {t : TypeId} {v : Value} {n : Nat} {e : TypeId} (ht : P.underlying t = some (.array n e)) (h : Value.okWide P w r base t v) : ∃ cs, v = .agg cs := by
 simp only [Value.okWide, ht] at h
 obtain ⟨cs, h1, h2, _⟩ := h
 exact ⟨cs, h1⟩
theorem und_71 : Tryz.prog.underlying 71 = some (.array 2 23) := by kernel_rfl
theorem two16_open {H : Type} {enc : TypeId × Value → H} {w : World} {v : Value} {d : DataW H} {p : List MemPlace} {base : Nat} (hval : Value.okWide Tryz.prog w .any base 71 v) (h : DataW.Trod enc Tryz.prog w 0 (fun _ => true) true 71 v d p) :
  ∃ a b : Int, VR (mAll w) (.agg [.int .u16 a, .int .u16 b]) v ∧ (0 ≤ a ∧ a ≤ 65535) ∧ (0 ≤ b ∧ b ≤ 65535) := by
 obtain ⟨cs, hv⟩ := okWide_array und_71 hval
 obtain ⟨l, h1, h2⟩ := open_agg (k := 2) hv (by kernel_rfl) h
 rw [shP] at h2
 simp only [und_71] at h2
 obtain ⟨ls, g1, g2, rfl⟩ := h2
 match ls, g1 with
 | [x, y], _ =>
  obtain ⟨a, rfl, ha⟩ := sh_u16 (g2 x (by simp))
  obtain ⟨b, rfl, hb⟩ := sh_u16 (g2 y (by simp))
  exact ⟨a, b, h1, ha, hb⟩
theorem badgeLists_walk (v0 v1 : Value) (at' : Int) (v3 : Value) (w : World) (_ : laidMetH Tryz.prog L18 w) {H : Type} {enc : TypeId × Value → H} {base : Nat} {d0 : DataW H} {p0 : List MemPlace} {d1 : DataW H} {p1 : List MemPlace} {d3 : DataW H} {p3 : List MemPlace}
  (hval0 : Value.okWide Tryz.prog w .any base 26 v0) (h0 : DataW.Trod enc Tryz.prog w 0 (fun _ => true) true 26 v0 d0 p0) (_ : ∀ x ∈ p0, x.block < w.heap.size)
  (hval1 : Value.okWide Tryz.prog w .any base 57 v1) (h1 : DataW.Trod enc Tryz.prog w 0 (fun _ => true) true 57 v1 d1 p1) (_ : ∀ x ∈ p1, x.block < w.heap.size)
  (w2 : (Lit.int .u8 at').wf = true)
  (hval3 : Value.okWide Tryz.prog w .any base 71 v3) (h3 : DataW.Trod enc Tryz.prog w 0 (fun _ => true) true 71 v3 d3 p3) (_ : ∀ x ∈ p3, x.block < w.heap.size) :
  Calls Tryz.prog 9 #[v0, v1, .int .u8 at', v3] w fun e w' => e = .returned (.bool true) ∧ Below w.heap.size w w' := by
 obtain ⟨n, ky, fr, af, nu, g0, hn, hk, hf, haf, hnu⟩ := draft_open hval0 h0
 obtain ⟨l, g1, hl⟩ := drafts_open hval1 h1
 obtain ⟨a, b, g3, ha, hb⟩ := two16_open hval3 h3
 obtain ⟨hv, hbb, h⟩ := lists9_run n ky fr af nu l at' a b hn hf haf hnu hl (wf8 w2) ha hb isT trivial
 simp only [VRL_cons, VRL_nil, and_true] at g1
 exact call_all (envFor_9 hv hbb) h w (glob0 w) (by
  simp only [VRL_cons, VRL_nil, and_true]
  exact ⟨g0, g1, by simp [VR], g3⟩)
end Go.Proofs.YtifjpcdpmimccaaGreatDoor
