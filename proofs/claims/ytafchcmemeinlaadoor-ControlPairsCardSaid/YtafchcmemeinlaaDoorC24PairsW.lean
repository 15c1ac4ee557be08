/-
  Chapter 24: the walk of ControlPairs; arguments of other shapes.
-/
import Derived.Test.YtafchcmemeinlaaDoorC24R
import Derived.Test.YtafchcmemeinlaaDoorC24C
set_option linter.unusedSimpArgs false
set_option linter.unusedVariables false
namespace Go.Proofs.YtafchcmemeinlaaDoor
open Go.RowKit
set_option maxRecDepth 1000000

theorem okWide_array {P : Program} {w : World} {r : Reach} {base : Nat} {t : TypeId} {v : Value} {n : Nat} {e : TypeId} (ht : P.underlying t = some (.array n e)) (h : Value.okWide P w r base t v) : ∃ cs, v = .agg cs ∧ cs.size = P.cellsOf t := by
  simp only [Value.okWide, ht] at h
  obtain ⟨cs, h1, h2, _⟩ := h
  exact ⟨cs, h1, h2⟩
theorem open_slice {H : Type} {enc : TypeId × Value → H} {w : World} {v : Value} {d : DataW H} {p : List MemPlace} {base k : Nat} {t e : TypeId} (hu : Tryd.prog.underlying t = some (.slice e)) (hg : goodT Tryd.prog (k + 1) t = true)
    (hval : Value.okWide Tryd.prog w .any base t v) (h : DataW.Trod enc Tryd.prog w 0 (fun _ => true) true t v d p) :
    ∃ ls : List (List AV), (∀ x ∈ ls, shP Tryd.prog k e x ∧ x.length = Tryd.prog.cellsOf e) ∧ ls.length ≤ maxLen ∧ VRL (mAll w) [.lst 0 ls.flatten ls.length (Tryd.prog.cellsOf e)] [v] := by
  obtain ⟨a, len, cap, rfl⟩ := Go.WideShapes.okWide_slice hu hval
  obtain ⟨m, hm⟩ := h
  obtain ⟨_, l, hl, hs⟩ := deep_ok (k + 1) t m [.slice a len cap] (d, p) hg (by simpa [Value.cells] using hm)
  rw [shP] at hs
  simp only [hu] at hs
  obtain ⟨ls, h1, h2, rfl⟩ := hs
  exact ⟨ls, h1, h2, hl⟩
theorem open_agg {H : Type} {enc : TypeId × Value → H} {w : World} {v : Value} {d : DataW H} {p : List MemPlace} {k : Nat} {t : TypeId} {cs : Array Value} (hv : v = .agg cs) (hg : goodT Tryd.prog k t = true)
    (h : DataW.Trod enc Tryd.prog w 0 (fun _ => true) true t v d p) : ∃ l, VR (mAll w) (.agg l) v ∧ shP Tryd.prog k t l := by
  subst hv
  obtain ⟨m, hm⟩ := h
  obtain ⟨_, l, hl, hs⟩ := deep_ok k t m cs.toList (d, p) hg (by simpa [Value.cells] using hm)
  exact ⟨l, by rw [VR]; exact ⟨cs, rfl, hl⟩, hs⟩

theorem und_40 : Tryd.prog.underlying 40 = some (.slice 3) := by kernel_rfl
theorem und_3 : Tryd.prog.underlying 3 = some (.int .i64) := by kernel_rfl
theorem cells_3 : Tryd.prog.cellsOf 3 = 1 := by kernel_rfl
theorem good_40 : goodT Tryd.prog (1 + 1) 40 = true := by kernel_rfl
theorem und_41 : Tryd.prog.underlying 41 = some (.array 2 25) := by kernel_rfl
theorem und_25 : Tryd.prog.underlying 25 = some (.int .u16) := by kernel_rfl
theorem good_41 : goodT Tryd.prog 2 41 = true := by kernel_rfl
theorem ints_of : ∀ (ls : List (List AV)), (∀ x ∈ ls, shP Tryd.prog 1 3 x) → ∃ ks : List Int, ls.flatten = cellsI ks ∧ ls.length = ks.length
  | [], _ => ⟨[], rfl, rfl⟩
  | x :: ls, h => by
    have hx := h x (by simp)
    rw [shP] at hx
    simp only [und_3] at hx
    obtain ⟨n, rfl, _⟩ := hx
    obtain ⟨ks, h1, h2⟩ := ints_of ls fun y hy => h y (by simp [hy])
    exact ⟨n :: ks, by rw [List.flatten_cons, h1]; rfl, by simp [h2]⟩
theorem ints_open {H : Type} {enc : TypeId × Value → H} {w : World} {v : Value} {d : DataW H} {p : List MemPlace} {base : Nat} (hval : Value.okWide Tryd.prog w .any base 40 v) (h : DataW.Trod enc Tryd.prog w 0 (fun _ => true) true 40 v d p) :
    ∃ ks : List Int, VRL (mAll w) [.lst 0 (cellsI ks) ks.length 1] [v] ∧ ks.length ≤ 9223372036854775807 := by
  obtain ⟨ls, h1, h2, h3⟩ := open_slice und_40 good_40 hval h
  obtain ⟨ks, k1, k2⟩ := ints_of ls fun x hx => (h1 x hx).1
  rw [k1, k2, cells_3] at h3
  refine ⟨ks, h3, ?_⟩
  rw [← k2]
  unfold maxLen at h2
  omega
theorem two16_open {H : Type} {enc : TypeId × Value → H} {w : World} {v : Value} {d : DataW H} {p : List MemPlace} {base : Nat} (hval : Value.okWide Tryd.prog w .any base 41 v) (h : DataW.Trod enc Tryd.prog w 0 (fun _ => true) true 41 v d p) :
    ∃ a b : Int, VR (mAll w) (.agg [.int .u16 a, .int .u16 b]) v ∧ (0 ≤ a ∧ a ≤ 65535) ∧ (0 ≤ b ∧ b ≤ 65535) := by
  obtain ⟨cs, hv, _⟩ := okWide_array und_41 hval
  obtain ⟨l, h1, h2⟩ := open_agg hv good_41 h
  rw [shP] at h2
  simp only [und_41] at h2
  obtain ⟨ls, g1, g2, rfl⟩ := h2
  match ls, g1 with
  | [x, y], _ =>
    have hx := g2 x (by simp)
    have hy := g2 y (by simp)
    rw [shP] at hx hy
    simp only [und_25] at hx hy
    obtain ⟨a, rfl, ha⟩ := hx
    obtain ⟨b, rfl, hb⟩ := hy
    simp [Lit.wf, IntKind.min, IntKind.max, IntKind.signed, IntKind.bits] at ha hb
    exact ⟨a, b, h1, by omega, by omega⟩

theorem controlPairs_walk (f : Int) (v1 v2 : Value) (a b : Int) (v5 : Value) (w : World) (hL : laidMetH Tryd.prog L24 w) (wf : (Lit.int .u16 f).wf = true) {H : Type} {enc : TypeId × Value → H} {base : Nat} {d1 : DataW H} {p1 : List MemPlace}
    (hval1 : Value.okWide Tryd.prog w .any base 39 v1) (h1 : DataW.Trod enc Tryd.prog w 0 (fun _ => true) true 39 v1 d1 p1) (_ : ∀ x ∈ p1, x.block < w.heap.size)
    {d2 : DataW H} {p2 : List MemPlace} (hval2 : Value.okWide Tryd.prog w .any base 40 v2) (h2 : DataW.Trod enc Tryd.prog w 0 (fun _ => true) true 40 v2 d2 p2) (_ : ∀ x ∈ p2, x.block < w.heap.size)
    (_ : (Lit.int .i64 a).wf = true) (_ : (Lit.int .i64 b).wf = true)
    {d5 : DataW H} {p5 : List MemPlace} (hval5 : Value.okWide Tryd.prog w .any base 41 v5) (h5 : DataW.Trod enc Tryd.prog w 0 (fun _ => true) true 41 v5 d5 p5) (_ : ∀ x ∈ p5, x.block < w.heap.size) :
    Calls Tryd.prog 4 #[.int .u16 f, v1, v2, .int .i64 a, .int .i64 b, v5] w fun e w' => e = .returned (.bool true) ∧ Below w.heap.size w w' := by
  have hf : 0 ≤ f ∧ f ≤ 65535 := by
    simp [Lit.wf, IntKind.min, IntKind.max, IntKind.signed, IntKind.bits] at wf
    omega
  obtain ⟨kk, k1, k2, k3⟩ := octets_open hval1 h1
  obtain ⟨rr, r1, r2⟩ := ints_open hval2 h2
  obtain ⟨s0, s1, q1, q2, q3⟩ := two16_open hval5 h5
  have hv : VRL (mAll w) [.int .u16 f, .lst 0 (cells8M kk) kk.length 1, .lst 0 (cellsI rr) rr.length 1, .int .i64 a, .int .i64 b, .agg [.int .u16 s0, .int .u16 s1]] [.int .u16 f, v1, v2, .int .i64 a, .int .i64 b, v5] := by
    rw [VRL_cons] at k1 r1
    simp only [VRL_cons, VRL_nil, and_true]
    exact ⟨by simp [VR], k1.1, r1.1, by simp [VR], by simp [VR], q1⟩
  obtain ⟨hv', hb, h⟩ := pairs4_run f kk _ rr a b s0 s1 hf k3 k2 rfl r2 q2 q3
  exact call_all (envFor24 smQ_ok _ _ _) h w (glob24 hL) hv
end Go.Proofs.YtafchcmemeinlaaDoor
