/-
  Chapter 4: the walk of SealBoxes.
-/
import Derived.Test.YtlfbaakndklncaaS04RQ
import Derived.ProofKit
import Derived.WideShapes
set_option linter.unusedSimpArgs false
set_option linter.unusedVariables false
namespace Go.Proofs.Ytlfbaakndklncaa
open Go.RowKit
set_option maxRecDepth 1000000

noncomputable def fldsOf (t : TypeId) : List TypeId := match Try.prog.underlying t with
  | some (.struct fs) => fs.toList.map (·.type)
  | _ => []
def typesP (p : TypeId → List AV → Prop) : List TypeId → List AV → Prop
  | [], l => l = []
  | t :: ts, l => ∃ x y, p t x ∧ typesP p ts y ∧ l = x ++ y
theorem types_of {p : TypeId → List AV → Prop} : ∀ (fs : List Field) (l : List AV), fieldsP p fs l → typesP p (fs.map (·.type)) l
  | [], _, h => h
  | f :: fs, l, h => by
    obtain ⟨x, y, h1, h2, h3⟩ := h
    exact ⟨x, y, h1, types_of fs y h2, h3⟩
noncomputable def isSt (t : TypeId) : Bool := match Try.prog.underlying t with
  | some (.struct _) => true
  | _ => false
theorem struct_of {k t : Nat} {l : List AV} (ht : isSt t = true) (h : shP Try.prog (k + 1) t l) : typesP (shP Try.prog k) (fldsOf t) l := by
  unfold isSt at ht
  unfold fldsOf
  rw [shP] at h
  split at ht
  · rename_i fs hfs
    rw [hfs] at h
    try rw [hfs]
    exact types_of _ _ h
  · cases ht
theorem und_str : Try.prog.underlying 9 = some .string := by kernel_rfl
theorem und_u16 : Try.prog.underlying 22 = some (.int .u16) := by kernel_rfl
theorem und_u8 : Try.prog.underlying 5 = some (.int .u8) := by kernel_rfl
theorem sh_u16 {k : Nat} {l : List AV} (h : shP Try.prog (k + 1) 22 l) : ∃ n, l = [.int .u16 n] ∧ (Lit.int .u16 n).wf = true := by
  rw [shP] at h
  simp only [und_u16] at h
  obtain ⟨n, h1, h2⟩ := h
  exact ⟨n, h1, h2⟩
theorem sh_u8 {k : Nat} {l : List AV} (h : shP Try.prog (k + 1) 5 l) : ∃ n, l = [.int .u8 n] ∧ (Lit.int .u8 n).wf = true := by
  rw [shP] at h
  simp only [und_u8] at h
  obtain ⟨n, h1, h2⟩ := h
  exact ⟨n, h1, h2⟩
theorem sh_str {k : Nat} {l : List AV} (h : shP Try.prog (k + 1) 9 l) : ∃ s : List UInt8, l = [.str s] ∧ s.length ≤ 9223372036854775807 := by
  rw [shP] at h
  simp only [und_str] at h
  obtain ⟨s, h1, h2⟩ := h
  unfold maxLen at h2
  exact ⟨s, h1, by omega⟩
theorem okWide_struct {P : Program} {w : World} {r : Reach} {base : Nat} {t : TypeId} {v : Value} {fs : Array Field} (ht : P.underlying t = some (.struct fs)) (h : Value.okWide P w r base t v) : ∃ cs, v = .agg cs := by
  simp only [Value.okWide, ht] at h
  obtain ⟨cs, h1, _⟩ := h
  exact ⟨cs, h1⟩
theorem okWide_st {w : World} {r : Reach} {base : Nat} {t : TypeId} {v : Value} (ht : isSt t = true) (h : Value.okWide Try.prog w r base t v) : ∃ cs, v = .agg cs := by
  unfold isSt at ht
  split at ht
  · rename_i fs hfs
    exact okWide_struct hfs h
  · cases ht
theorem open_agg {H : Type} {enc : TypeId × Value → H} {w : World} {v : Value} {d : DataW H} {p : List MemPlace} {k : Nat} {t : TypeId} {cs : Array Value} (hv : v = .agg cs) (hg : goodT Try.prog k t = true)
    (h : DataW.Trod enc Try.prog w 0 (fun _ => true) true t v d p) : ∃ l, VR (mAll w) (.agg l) v ∧ shP Try.prog k t l := by
  subst hv
  obtain ⟨m, hm⟩ := h
  obtain ⟨_, l, hl, hs⟩ := deep_ok k t m cs.toList (d, p) hg (by simpa [Value.cells] using hm)
  exact ⟨l, by rw [VR]; exact ⟨cs, rfl, hl⟩, hs⟩
theorem edit_open {H : Type} {enc : TypeId × Value → H} {w : World} {v : Value} {d : DataW H} {p : List MemPlace} {base : Nat} (hval : Value.okWide Try.prog w .any base 35 v) (h : DataW.Trod enc Try.prog w 0 (fun _ => true) true 35 v d p) :
    ∃ (a l : Int) (s : List UInt8), VR (mAll w) (.agg [.int .u16 a, .int .u8 l, .str s]) v ∧ (0 ≤ a ∧ a ≤ 65535) ∧ (0 ≤ l ∧ l ≤ 255) := by
  obtain ⟨cs, hv⟩ := okWide_st (by kernel_rfl) hval
  obtain ⟨l, h1, h2⟩ := open_agg (k := 2) hv (by kernel_rfl) h
  have h := struct_of (by kernel_rfl) h2
  rw [show fldsOf 35 = [22, 5, 9] by kernel_rfl] at h
  obtain ⟨_, _, h3, ⟨_, _, h4, ⟨_, _, h5, rfl, rfl⟩, rfl⟩, rfl⟩ := h
  obtain ⟨a, rfl, ha⟩ := sh_u16 h3
  obtain ⟨b, rfl, hb⟩ := sh_u8 h4
  obtain ⟨s, rfl, hs⟩ := sh_str h5
  refine ⟨a, b, s, h1, ?_, ?_⟩
  · simp [Lit.wf, IntKind.min, IntKind.max, IntKind.signed, IntKind.bits] at ha
    omega
  · simp [Lit.wf, IntKind.min, IntKind.max, IntKind.signed, IntKind.bits] at hb
    omega
theorem globR (w : World) : Glob gl0 w := fun g cs h => by cases h
theorem len_of (s : ByteArray) (h : s.size ≤ maxLen) : s.data.toList.length ≤ 9223372036854775807 := by
  have : s.data.toList.length = s.size := by rw [Array.length_toList]; rfl
  unfold maxLen at h
  omega
theorem sealBoxes_walk (key nonce extra plain : ByteArray) (n : Int) (v5 : Value) (wh : Int) (w : World) {H : Type} {enc : TypeId × Value → H} {base : Nat} {d5 : DataW H} {p5 : List MemPlace}
    (w0 : key.size ≤ maxLen) (w1 : nonce.size ≤ maxLen) (w2 : extra.size ≤ maxLen) (w3 : plain.size ≤ maxLen) (w4 : (Lit.int .u16 n).wf = true)
    (hval5 : Value.okWide Try.prog w .any base 35 v5) (h5 : DataW.Trod enc Try.prog w 0 (fun _ => true) true 35 v5 d5 p5) (_ : ∀ x ∈ p5, x.block < w.heap.size) (w6 : (Lit.int .u8 wh).wf = true) :
    Calls Try.prog 4 #[.string key, .string nonce, .string extra, .string plain, .int .u16 n, v5, .int .u8 wh] w fun e w' => e = .returned (.bool true) ∧ Below w.heap.size w w' := by
  obtain ⟨a, l, s, g5, ha, hl⟩ := edit_open hval5 h5
  have hn : 0 ≤ n ∧ n ≤ 65535 := by
    simp [Lit.wf, IntKind.min, IntKind.max, IntKind.signed, IntKind.bits] at w4
    omega
  obtain ⟨hv, hb, h⟩ := boxes_run key.data.toList nonce.data.toList extra.data.toList plain.data.toList n a l s wh (len_of _ w0) (len_of _ w1) (len_of _ w2) (len_of _ w3) hn ha hl isT trivial
  exact call_all (envFor04 smB4_ok _ hv hb) h w (globR w) (by
    simp only [VRL_cons, VRL_nil, and_true]
    exact ⟨by simp [VR], by simp [VR], by simp [VR], by simp [VR], by simp [VR], g5, by simp [VR]⟩)
end Go.Proofs.Ytlfbaakndklncaa
