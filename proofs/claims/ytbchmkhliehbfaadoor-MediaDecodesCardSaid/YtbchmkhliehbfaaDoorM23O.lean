/-
  Chapter 23: what the cells of the arguments look like.
-/
import Derived.Test.YtbchmkhliehbfaaDoorM23J
import Derived.ProofKit
set_option linter.unusedSimpArgs false
set_option linter.unusedVariables false
namespace Go.Proofs.YtbchmkhliehbfaaDoor
open Go.RowKit
set_option maxRecDepth 1000000

noncomputable def fldsOf (t : TypeId) : List TypeId := match Tryd.prog.underlying t with
  | some (.struct fs) => fs.toList.map (·.type)
  | _ => []
def typesP (p : TypeId → List AV → Prop) : List TypeId → List AV → Prop
  | [], l => l = []
  | t :: ts, l => ∃ x y, p t x ∧ typesP p ts y ∧ l = x ++ y
theorem types_of {p : TypeId → List AV → Prop} : ∀ (fs : List Field) (l : List AV), fieldsP p fs l → typesP p (fs.map (·.type)) l
  | [], _, h => h
  | f :: fs, l, h => by
    obtain ⟨x, y, h1, h2, h3⟩ := h
    exact ⟨x, y, h1, types_of fs y h2, h3⟩
noncomputable def isSt (t : TypeId) : Bool := match Tryd.prog.underlying t with
  | some (.struct _) => true
  | _ => false
theorem struct_of {k t : Nat} {l : List AV} (ht : isSt t = true) (h : shP Tryd.prog (k + 1) t l) : typesP (shP Tryd.prog k) (fldsOf t) l := by
  unfold isSt at ht
  unfold fldsOf
  rw [shP] at h
  split at ht
  · rename_i fs hfs
    rw [hfs] at h
    try rw [hfs]
    exact types_of _ _ h
  · cases ht
theorem und_4 : Tryd.prog.underlying 4 = some .bool := by kernel_rfl
theorem und_5 : Tryd.prog.underlying 5 = some (.int .u8) := by kernel_rfl
theorem und_22 : Tryd.prog.underlying 22 = some (.int .u16) := by kernel_rfl
theorem und_23 : Tryd.prog.underlying 23 = some (.int .u32) := by kernel_rfl
theorem und_9 : Tryd.prog.underlying 9 = some .string := by kernel_rfl
theorem und_24 : Tryd.prog.underlying 24 = some (.slice 23) := by kernel_rfl
theorem und_25 : Tryd.prog.underlying 25 = some (.slice 70) := by kernel_rfl
theorem sh_bool {k : Nat} {l : List AV} (h : shP Tryd.prog (k + 1) 4 l) : ∃ b, l = [.bool b] := by
  rw [shP] at h
  simpa only [und_4] using h
theorem wf8 {n : Int} (h : (Lit.int .u8 n).wf = true) : 0 ≤ n ∧ n ≤ 255 := by
  simp [Lit.wf, IntKind.min, IntKind.max, IntKind.signed, IntKind.bits] at h
  omega
theorem wf16 {n : Int} (h : (Lit.int .u16 n).wf = true) : 0 ≤ n ∧ n ≤ 65535 := by
  simp [Lit.wf, IntKind.min, IntKind.max, IntKind.signed, IntKind.bits] at h
  omega
theorem wf32 {n : Int} (h : (Lit.int .u32 n).wf = true) : 0 ≤ n ∧ n ≤ 4294967295 := by
  simp [Lit.wf, IntKind.min, IntKind.max, IntKind.signed, IntKind.bits] at h
  omega
theorem wf64 {n : Int} (h : (Lit.int .i64 n).wf = true) : -9223372036854775808 ≤ n ∧ n ≤ 9223372036854775807 := by
  simp [Lit.wf, IntKind.min, IntKind.max, IntKind.signed, IntKind.bits] at h
  omega
theorem sh_u8 {k : Nat} {l : List AV} (h : shP Tryd.prog (k + 1) 5 l) : ∃ n, l = [.int .u8 n] ∧ 0 ≤ n ∧ n ≤ 255 := by
  rw [shP] at h
  simp only [und_5] at h
  obtain ⟨n, h1, h2⟩ := h
  exact ⟨n, h1, wf8 h2⟩
theorem sh_u16 {k : Nat} {l : List AV} (h : shP Tryd.prog (k + 1) 22 l) : ∃ n, l = [.int .u16 n] ∧ 0 ≤ n ∧ n ≤ 65535 := by
  rw [shP] at h
  simp only [und_22] at h
  obtain ⟨n, h1, h2⟩ := h
  exact ⟨n, h1, wf16 h2⟩
theorem sh_u32 {k : Nat} {l : List AV} (h : shP Tryd.prog (k + 1) 23 l) : ∃ n, l = [.int .u32 n] ∧ 0 ≤ n ∧ n ≤ 4294967295 := by
  rw [shP] at h
  simp only [und_23] at h
  obtain ⟨n, h1, h2⟩ := h
  exact ⟨n, h1, wf32 h2⟩
theorem sh_i64 {k : Nat} {l : List AV} (h : shP Tryd.prog (k + 1) 3 l) : ∃ n, l = [.int .i64 n] ∧ -9223372036854775808 ≤ n ∧ n ≤ 9223372036854775807 := by
  rw [shP] at h
  simp only [show Tryd.prog.underlying 3 = some (.int .i64) by kernel_rfl] at h
  obtain ⟨n, h1, h2⟩ := h
  exact ⟨n, h1, wf64 h2⟩
theorem sh_str {k : Nat} {l : List AV} (h : shP Tryd.prog (k + 1) 9 l) : ∃ s : List UInt8, l = [.str s] ∧ s.length ≤ 9223372036854775807 := by
  rw [shP] at h
  simp only [und_9] at h
  obtain ⟨s, h1, h2⟩ := h
  unfold maxLen at h2
  exact ⟨s, h1, by omega⟩
theorem u32s_of {k : Nat} : ∀ (ls : List (List AV)), (∀ x ∈ ls, shP Tryd.prog (k + 1) 23 x) → ∃ ks : List Int, ls.flatten = cells32M ks ∧ ls.length = ks.length ∧ ∀ x ∈ ks, 0 ≤ x ∧ x ≤ 4294967295
  | [], _ => ⟨[], rfl, rfl, by simp⟩
  | x :: ls, h => by
    obtain ⟨n, rfl, hn⟩ := sh_u32 (h x (by simp))
    obtain ⟨ks, h1, h2, h3⟩ := u32s_of ls fun y hy => h y (by simp [hy])
    exact ⟨n :: ks, by rw [List.flatten_cons, h1]; rfl, by simp [h2], by simpa [hn] using h3⟩
theorem sh_u32s {k : Nat} {l : List AV} (h : shP Tryd.prog (k + 2) 24 l) : ∃ ks : List Int, l = [.lst 0 (cells32M ks) ks.length 1] ∧ ks.length ≤ 9223372036854775807 ∧ ∀ x ∈ ks, 0 ≤ x ∧ x ≤ 4294967295 := by
  rw [shP] at h
  simp only [und_24, show Tryd.prog.cellsOf 23 = 1 by kernel_rfl] at h
  obtain ⟨ls, h1, h2, h3⟩ := h
  obtain ⟨ks, k1, k2, k3⟩ := u32s_of ls fun x hx => (h1 x hx).1
  unfold maxLen at h2
  exact ⟨ks, by rw [h3, k1, k2], by omega, k3⟩
theorem sh_piece {k : Nat} {l : List AV} (h : shP Tryd.prog (k + 2) 70 l) : ∃ x : Xt, l = [.int .u8 x.1, .str x.2] ∧ (0 ≤ x.1 ∧ x.1 ≤ 255) ∧ x.2.length ≤ 9223372036854775807 := by
  have h := struct_of (by kernel_rfl) h
  rw [show fldsOf 70 = [5, 9] by kernel_rfl] at h
  obtain ⟨_, _, h1, ⟨_, _, h2, rfl, rfl⟩, rfl⟩ := h
  obtain ⟨n, rfl, hn⟩ := sh_u8 h1
  obtain ⟨s, rfl, hs⟩ := sh_str h2
  exact ⟨(n, s), rfl, hn, hs⟩
theorem pieces_of {k : Nat} : ∀ (ls : List (List AV)), (∀ x ∈ ls, shP Tryd.prog (k + 2) 70 x) → ∃ ps : List Xt, ls.flatten = cellsPcM ps ∧ ls.length = ps.length ∧ (∀ x ∈ ps, 0 ≤ x.1 ∧ x.1 ≤ 255) ∧ ∀ x ∈ ps, x.2.length ≤ 9223372036854775807
  | [], _ => ⟨[], rfl, rfl, by simp, by simp⟩
  | x :: ls, h => by
    obtain ⟨p, rfl, hp, hq⟩ := sh_piece (h x (by simp))
    obtain ⟨ps, h1, h2, h3, h4⟩ := pieces_of ls fun y hy => h y (by simp [hy])
    refine ⟨p :: ps, by rw [List.flatten_cons, h1]; rfl, by simp [h2], fun y hy => ?_, fun y hy => ?_⟩
    · rcases List.mem_cons.1 hy with rfl | hy
      · exact hp
      · exact h3 y hy
    · rcases List.mem_cons.1 hy with rfl | hy
      · exact hq
      · exact h4 y hy
theorem sh_pieces {k : Nat} {l : List AV} (h : shP Tryd.prog (k + 3) 25 l) : ∃ ps : List Xt, l = [.lst 0 (cellsPcM ps) ps.length 2] ∧ ps.length ≤ 9223372036854775807 ∧ (∀ x ∈ ps, 0 ≤ x.1 ∧ x.1 ≤ 255) ∧ ∀ x ∈ ps, x.2.length ≤ 9223372036854775807 := by
  rw [shP] at h
  simp only [und_25, show Tryd.prog.cellsOf 70 = 2 by kernel_rfl] at h
  obtain ⟨ls, h1, h2, h3⟩ := h
  obtain ⟨ps, k1, k2, k3, k4⟩ := pieces_of ls fun x hx => (h1 x hx).1
  unfold maxLen at h2
  exact ⟨ps, by rw [h3, k1, k2], by omega, k3, k4⟩
theorem sh_draft {k : Nat} {l : List AV} (h : shP Tryd.prog (k + 4) 27 l) : ∃ (mk : Bool) (ty seq ti ss : Int) (ks : List Int) (ps : List Xt) (pad : Int) (pl : List UInt8), l = draftM mk ty seq ti ss 0 ks 0 ps pad pl ∧
    draftK (cells32M ks) ks.length (cellsPcM ps) ps.length ks ps ∧ (0 ≤ ty ∧ ty ≤ 255) ∧ (0 ≤ seq ∧ seq ≤ 65535) ∧ (0 ≤ ti ∧ ti ≤ 4294967295) ∧ (0 ≤ ss ∧ ss ≤ 4294967295) ∧ (0 ≤ pad ∧ pad ≤ 255) ∧ pl.length ≤ 9223372036854775807 := by
  have h := struct_of (by kernel_rfl) h
  rw [show fldsOf 27 = [4, 5, 22, 23, 23, 24, 25, 5, 9] by kernel_rfl] at h
  obtain ⟨_, _, h0, ⟨_, _, h1, ⟨_, _, h2, ⟨_, _, h3, ⟨_, _, h4, ⟨_, _, h5, ⟨_, _, h6, ⟨_, _, h7, ⟨_, _, h8, rfl, rfl⟩, rfl⟩, rfl⟩, rfl⟩, rfl⟩, rfl⟩, rfl⟩, rfl⟩, rfl⟩ := h
  obtain ⟨mk, rfl⟩ := sh_bool h0
  obtain ⟨ty, rfl, a1⟩ := sh_u8 h1
  obtain ⟨seq, rfl, a2⟩ := sh_u16 h2
  obtain ⟨ti, rfl, a3⟩ := sh_u32 h3
  obtain ⟨ss, rfl, a4⟩ := sh_u32 h4
  obtain ⟨ks, rfl, b1, b2⟩ := sh_u32s h5
  obtain ⟨ps, rfl, c1, c2, c3⟩ := sh_pieces h6
  obtain ⟨pad, rfl, a5⟩ := sh_u8 h7
  obtain ⟨pl, rfl, d1⟩ := sh_str h8
  exact ⟨mk, ty, seq, ti, ss, ks, ps, pad, pl, rfl, ⟨rfl, rfl, rfl, rfl, b1, c1, b2, c2, c3⟩, a1, a2, a3, a4, a5, d1⟩
theorem okWide_struct {P : Program} {w : World} {r : Reach} {base : Nat} {t : TypeId} {v : Value} {fs : Array Field} (ht : P.underlying t = some (.struct fs)) (h : Value.okWide P w r base t v) : ∃ cs, v = .agg cs := by
  simp only [Value.okWide, ht] at h
  obtain ⟨cs, h1, _⟩ := h
  exact ⟨cs, h1⟩
theorem okWide_st {w : World} {r : Reach} {base : Nat} {t : TypeId} {v : Value} (ht : isSt t = true) (h : Value.okWide Tryd.prog w r base t v) : ∃ cs, v = .agg cs := by
  unfold isSt at ht
  split at ht
  · rename_i fs hfs
    exact okWide_struct hfs h
  · cases ht
theorem open_agg {H : Type} {enc : TypeId × Value → H} {w : World} {v : Value} {d : DataW H} {p : List MemPlace} {k : Nat} {t : TypeId} {cs : Array Value} (hv : v = .agg cs) (hg : goodT Tryd.prog k t = true)
    (h : DataW.Trod enc Tryd.prog w 0 (fun _ => true) true t v d p) : ∃ l, VR (mAll w) (.agg l) v ∧ shP Tryd.prog k t l := by
  subst hv
  obtain ⟨m, hm⟩ := h
  obtain ⟨_, l, hl, hs⟩ := deep_ok k t m cs.toList (d, p) hg (by simpa [Value.cells] using hm)
  exact ⟨l, by rw [VR]; exact ⟨cs, rfl, hl⟩, hs⟩
theorem draft_open {H : Type} {enc : TypeId × Value → H} {w : World} {v : Value} {d : DataW H} {p : List MemPlace} {base : Nat} (hval : Value.okWide Tryd.prog w .any base 27 v) (h : DataW.Trod enc Tryd.prog w 0 (fun _ => true) true 27 v d p) :
    ∃ (mk : Bool) (ty seq ti ss : Int) (ks : List Int) (ps : List Xt) (pad : Int) (pl : List UInt8), VR (mAll w) (.agg (draftM mk ty seq ti ss 0 ks 0 ps pad pl)) v ∧
    draftK (cells32M ks) ks.length (cellsPcM ps) ps.length ks ps ∧ (0 ≤ ty ∧ ty ≤ 255) ∧ (0 ≤ seq ∧ seq ≤ 65535) ∧ (0 ≤ ti ∧ ti ≤ 4294967295) ∧ (0 ≤ ss ∧ ss ≤ 4294967295) ∧ (0 ≤ pad ∧ pad ≤ 255) ∧ pl.length ≤ 9223372036854775807 := by
  obtain ⟨cs, hv⟩ := okWide_st (by kernel_rfl) hval
  obtain ⟨l, h1, h2⟩ := open_agg (k := 4) hv (by kernel_rfl) h
  obtain ⟨mk, ty, seq, ti, ss, ks, ps, pad, pl, rfl, hr⟩ := sh_draft h2
  exact ⟨mk, ty, seq, ti, ss, ks, ps, pad, pl, h1, hr⟩
end Go.Proofs.YtbchmkhliehbfaaDoor
