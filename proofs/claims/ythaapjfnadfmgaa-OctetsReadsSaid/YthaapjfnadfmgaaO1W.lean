/-
  Chapter 01: the walk of OctetsReads.
-/
import Derived.Test.YthaapjfnadfmgaaO1E
import Derived.ProofKit
set_option linter.unusedSimpArgs false
set_option linter.unusedVariables false
namespace Go.Proofs.Ythaapjfnadfmgaa
open Go.RowKit
set_option maxRecDepth 1000000

noncomputable def fldsOf (t : TypeId) : List TypeId := match Try.prog.underlying t with
  | some (.struct fs) => fs.toList.map (·.type)
  | _ => []
def typesP (p : TypeId → List AV → Prop) : List TypeId → List AV → Prop
  | [], l => l = []
  | t :: ts, l => ∃ x y, p t x ∧ typesP p ts y ∧ l = x ++ y
theorem types_of {p : TypeId → List AV → Prop} : ∀ (fs : List Field) (l : List AV), fieldsP p fs l → typesP p (fs.map (·.type)) l
  | [], _, h => h
  | f :: fs, l, h => by
    obtain ⟨x, y, h1, h2, h3⟩ := h
    exact ⟨x, y, h1, types_of fs y h2, h3⟩
noncomputable def isSt (t : TypeId) : Bool := match Try.prog.underlying t with
  | some (.struct _) => true
  | _ => false
theorem struct_of {k t : Nat} {l : List AV} (ht : isSt t = true) (h : shP Try.prog (k + 1) t l) : typesP (shP Try.prog k) (fldsOf t) l := by
  unfold isSt at ht
  unfold fldsOf
  rw [shP] at h
  split at ht
  · rename_i fs hfs
    rw [hfs] at h
    try rw [hfs]
    exact types_of _ _ h
  · cases ht
theorem und_str : Try.prog.underlying 9 = some .string := by kernel_rfl
theorem und_int : Try.prog.underlying 3 = some (.int .i64) := by kernel_rfl
theorem sh_i64 {k : Nat} {l : List AV} (h : shP Try.prog (k + 1) 3 l) : ∃ n, l = [.int .i64 n] := by
  rw [shP] at h
  simp only [und_int] at h
  obtain ⟨n, h1, h2⟩ := h
  exact ⟨n, h1⟩
theorem sh_str {k : Nat} {l : List AV} (h : shP Try.prog (k + 1) 9 l) : ∃ s : List UInt8, l = [.str s] ∧ s.length ≤ 9223372036854775807 := by
  rw [shP] at h
  simp only [und_str] at h
  obtain ⟨s, h1, h2⟩ := h
  unfold maxLen at h2
  exact ⟨s, h1, by omega⟩
theorem okWide_struct {P : Program} {w : World} {r : Reach} {base : Nat} {t : TypeId} {v : Value} {fs : Array Field} (ht : P.underlying t = some (.struct fs)) (h : Value.okWide P w r base t v) : ∃ cs, v = .agg cs := by
  simp only [Value.okWide, ht] at h
  obtain ⟨cs, h1, _⟩ := h
  exact ⟨cs, h1⟩
theorem okWide_st {w : World} {r : Reach} {base : Nat} {t : TypeId} {v : Value} (ht : isSt t = true) (h : Value.okWide Try.prog w r base t v) : ∃ cs, v = .agg cs := by
  unfold isSt at ht
  split at ht
  · rename_i fs hfs
    exact okWide_struct hfs h
  · cases ht
theorem open_agg {H : Type} {enc : TypeId × Value → H} {w : World} {v : Value} {d : DataW H} {p : List MemPlace} {k : Nat} {t : TypeId} {cs : Array Value} (hv : v = .agg cs) (hg : goodT Try.prog k t = true)
    (h : DataW.Trod enc Try.prog w 0 (fun _ => true) true t v d p) : ∃ l, VR (mAll w) (.agg l) v ∧ shP Try.prog k t l := by
  subst hv
  obtain ⟨m, hm⟩ := h
  obtain ⟨_, l, hl, hs⟩ := deep_ok k t m cs.toList (d, p) hg (by simpa [Value.cells] using hm)
  exact ⟨l, by rw [VR]; exact ⟨cs, rfl, hl⟩, hs⟩
theorem reader_open {H : Type} {enc : TypeId × Value → H} {w : World} {v : Value} {d : DataW H} {p : List MemPlace} {base : Nat} (hval : Value.okWide Try.prog w .any base 52 v) (h : DataW.Trod enc Try.prog w 0 (fun _ => true) true 52 v d p) :
    ∃ (s : List UInt8) (a : Int), VR (mAll w) (.agg [.str s, .int .i64 a]) v ∧ s.length ≤ 9223372036854775807 := by
  obtain ⟨cs, hv⟩ := okWide_st (by kernel_rfl) hval
  obtain ⟨l, h1, h2⟩ := open_agg (k := 2) hv (by kernel_rfl) h
  have h := struct_of (by kernel_rfl) h2
  rw [show fldsOf 52 = [9, 3] by kernel_rfl] at h
  obtain ⟨_, _, h3, ⟨_, _, h4, rfl, rfl⟩, rfl⟩ := h
  obtain ⟨s, rfl, hs⟩ := sh_str h3
  obtain ⟨a, rfl⟩ := sh_i64 h4
  exact ⟨s, a, h1, hs⟩
theorem globR (w : World) : Glob gl0 w := fun g cs h => by cases h
theorem octetsReads_walk (v0 : Value) (n pl k : Int) (w : World) {H : Type} {enc : TypeId × Value → H} {base : Nat} {d0 : DataW H} {p0 : List MemPlace}
    (hval0 : Value.okWide Try.prog w .any base 52 v0) (h0 : DataW.Trod enc Try.prog w 0 (fun _ => true) true 52 v0 d0 p0) (_ : ∀ x ∈ p0, x.block < w.heap.size) (_ : (Lit.int .i64 n).wf = true) (w2 : (Lit.int .u16 pl).wf = true) (w3 : (Lit.int .u8 k).wf = true) :
    Calls Try.prog 8 #[v0, .int .i64 n, .int .u16 pl, .int .u8 k] w fun e w' => e = .returned (.bool true) ∧ Below w.heap.size w w' := by
  obtain ⟨s, a, g1, hs⟩ := reader_open hval0 h0
  have h2 : 0 ≤ pl ∧ pl ≤ 65535 := by
    simp [Lit.wf, IntKind.min, IntKind.max, IntKind.signed, IntKind.bits] at w2
    omega
  have h3 : 0 ≤ k ∧ k ≤ 255 := by
    simp [Lit.wf, IntKind.min, IntKind.max, IntKind.signed, IntKind.bits] at w3
    omega
  obtain ⟨hv, hb, h⟩ := reads_run s a n pl k isT hs h2 h3 trivial
  exact call_all (envFor01 smR8_ok _ hv hb) h w (globR w) (by
    simp only [VRL_cons, VRL_nil, and_true]
    exact ⟨g1, by simp [VR], by simp [VR], by simp [VR]⟩)
end Go.Proofs.Ythaapjfnadfmgaa
