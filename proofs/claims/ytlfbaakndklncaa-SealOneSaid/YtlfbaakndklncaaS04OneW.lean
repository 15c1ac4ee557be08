/-
  Chapter 4: the walk of SealOne.
-/
import Derived.Test.YtlfbaakndklncaaS04ZC
import Derived.WideShapes
set_option linter.unusedSimpArgs false
set_option linter.unusedVariables false
namespace Go.Proofs.Ytlfbaakndklncaa
open Go.RowKit
set_option maxRecDepth 1000000

theorem und_sl : Try.prog.underlying 54 = some (.slice 9) := by kernel_rfl
theorem und_st : Try.prog.underlying 9 = some .string := by kernel_rfl
theorem cells_st : Try.prog.cellsOf 9 = 1 := by kernel_rfl
theorem good_sl : goodT Try.prog 3 54 = true := by kernel_rfl
theorem strs_of : ∀ (ls : List (List AV)), (∀ x ∈ ls, ∃ s : List UInt8, x = [.str s] ∧ s.length ≤ maxLen) → ls.length = ls.flatten.length ∧ ∀ c ∈ ls.flatten, ∃ s, c = AV.str s ∧ s.length ≤ 9223372036854775807
  | [], _ => ⟨rfl, by simp⟩
  | x :: ls, h => by
    obtain ⟨s, rfl, hs⟩ := h x (by simp)
    obtain ⟨h1, h2⟩ := strs_of ls fun y hy => h y (by simp [hy])
    refine ⟨?_, ?_⟩
    · rw [List.flatten_cons, List.length_append, List.length_cons, h1, List.length_singleton, Nat.add_comm]
    · intro c hc
      rw [List.flatten_cons] at hc
      rcases List.mem_append.1 hc with hc | hc
      · unfold maxLen at hs
        exact ⟨s, by simpa using hc, by omega⟩
      · exact h2 c hc
theorem strs_open {H : Type} {enc : TypeId × Value → H} {w : World} {v : Value} {d : DataW H} {p : List MemPlace} {base : Nat} (hval : Value.okWide Try.prog w .any base 54 v) (h : DataW.Trod enc Try.prog w 0 (fun _ => true) true 54 v d p) :
    ∃ cs : List AV, VRL (mAll w) [.lst 0 cs cs.length 1] [v] ∧ ∀ c ∈ cs, ∃ s, c = AV.str s ∧ s.length ≤ 9223372036854775807 := by
  obtain ⟨a, len, cap, rfl⟩ := Go.WideShapes.okWide_slice und_sl hval
  obtain ⟨m, hm⟩ := h
  obtain ⟨_, l, hl, hs⟩ := deep_ok 3 54 m [.slice a len cap] (d, p) good_sl (by simpa [Value.cells] using hm)
  rw [shP] at hs
  simp only [und_sl, cells_st] at hs
  obtain ⟨ls, h1, h2, rfl⟩ := hs
  obtain ⟨k1, k2⟩ := strs_of ls fun x hx => by
    have := (h1 x hx).1
    rw [shP] at this
    simp only [und_st] at this
    exact this
  rw [k1] at hl
  exact ⟨_, hl, k2⟩
theorem globO (w : World) : Glob gl0 w := fun g cs h => by cases h
theorem isT_trueO : isT (.ret (.bool true)) [] {} := trivial
theorem sealOne_walk (v1 : Value) (w : World) {H : Type} {enc : TypeId × Value → H} {base : Nat} {d1 : DataW H} {p1 : List MemPlace}
    (hval : Value.okWide Try.prog w .any base 54 v1) (h1 : DataW.Trod enc Try.prog w 0 (fun _ => true) true 54 v1 d1 p1) (_ : ∀ x ∈ p1, x.block < w.heap.size) :
    Calls Try.prog 8 #[v1] w fun e w' => e = .returned (.bool true) ∧ Below w.heap.size w w' := by
  obtain ⟨cs, k1, k2⟩ := strs_open hval h1
  obtain ⟨hv, hb, h⟩ := ones_run cs cs.length rfl k2 isT isT_trueO
  exact call_all (envFor04 smZ_ok _ hv hb) h w (globO w) k1
end Go.Proofs.Ytlfbaakndklncaa
