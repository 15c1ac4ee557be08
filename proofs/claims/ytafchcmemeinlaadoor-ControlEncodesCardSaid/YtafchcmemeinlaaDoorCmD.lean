/-
  Chapter 24: what the cells of a Draft and of an Edit look like.
-/
import Derived.Test.YtafchcmemeinlaaDoorC24YD
import Derived.WideShapes
set_option linter.unusedSimpArgs false
set_option linter.unusedVariables false
namespace Go.Proofs.YtafchcmemeinlaaDoor
open Go.RowKit
set_option maxRecDepth 1000000

noncomputable def fldsOf (t : TypeId) : List TypeId := match Tryd.prog.underlying t with
 | some (.struct fs) => fs.toList.map (·.type)
 | _ => []
def typesP (p : TypeId → List AV → Prop) : List TypeId → List AV → Prop
 | [], l => l = []
 | t :: ts, l => ∃ x y, p t x ∧ typesP p ts y ∧ l = x ++ y
theorem types_of {p : TypeId → List AV → Prop} : ∀ (fs : List Field) (l : List AV), fieldsP p fs l → typesP p (fs.map (·.type)) l
 | [], _, h => h
 | f :: fs, l, h => by
  obtain ⟨x, y, h1, h2, h3⟩ := h
  exact ⟨x, y, h1, types_of fs y h2, h3⟩
noncomputable def isSt (t : TypeId) : Bool := match Tryd.prog.underlying t with
 | some (.struct _) => true
 | _ => false
theorem struct_of {k t : Nat} {l : List AV} (ht : isSt t = true) (h : shP Tryd.prog (k + 1) t l) : typesP (shP Tryd.prog k) (fldsOf t) l := by
 unfold isSt at ht
 unfold fldsOf
 rw [shP] at h
 split at ht
 ·rename_i fs hfs
  rw [hfs] at h
  try rw [hfs]
  exact types_of _ _ h
 ·cases ht
theorem und_4 : Tryd.prog.underlying 4 = some .bool := by kernel_rfl
theorem und_5 : Tryd.prog.underlying 5 = some (.int .u8) := by kernel_rfl
theorem und_25 : Tryd.prog.underlying 25 = some (.int .u16) := by kernel_rfl
theorem und_60 : Tryd.prog.underlying 60 = some (.int .u32) := by kernel_rfl
theorem und_85 : Tryd.prog.underlying 85 = some (.int .u64) := by kernel_rfl
theorem und_22 : Tryd.prog.underlying 22 = some (.slice 87) := by kernel_rfl
theorem und_82 : Tryd.prog.underlying 82 = some (.array 6 60) := by kernel_rfl
theorem und_83 : Tryd.prog.underlying 83 = some (.slice 60) := by kernel_rfl
theorem und_84 : Tryd.prog.underlying 84 = some (.slice 25) := by kernel_rfl
theorem wf8 {n : Int} (h : (Lit.int .u8 n).wf = true) : 0 ≤ n ∧ n ≤ 255 := by
 simp [Lit.wf, IntKind.min, IntKind.max, IntKind.signed, IntKind.bits] at h
 omega
theorem wf16 {n : Int} (h : (Lit.int .u16 n).wf = true) : 0 ≤ n ∧ n ≤ 65535 := by
 simp [Lit.wf, IntKind.min, IntKind.max, IntKind.signed, IntKind.bits] at h
 omega
theorem wf32 {n : Int} (h : (Lit.int .u32 n).wf = true) : 0 ≤ n ∧ n ≤ 4294967295 := by
 simp [Lit.wf, IntKind.min, IntKind.max, IntKind.signed, IntKind.bits] at h
 omega
theorem wfu64 {n : Int} (h : (Lit.int .u64 n).wf = true) : 0 ≤ n ∧ n < 18446744073709551616 := by
 simp [Lit.wf, IntKind.min, IntKind.max, IntKind.signed, IntKind.bits] at h
 omega
theorem sh_bool {k : Nat} {l : List AV} (h : shP Tryd.prog (k + 1) 4 l) : ∃ b, l = [.bool b] := by
 rw [shP] at h
 simpa only [und_4] using h
theorem sh_u8 {k : Nat} {l : List AV} (h : shP Tryd.prog (k + 1) 5 l) : ∃ n, l = [.int .u8 n] ∧ 0 ≤ n ∧ n ≤ 255 := by
 rw [shP] at h
 simp only [und_5] at h
 obtain ⟨n, h1, h2⟩ := h
 exact ⟨n, h1, wf8 h2⟩
theorem sh_u16 {k : Nat} {l : List AV} (h : shP Tryd.prog (k + 1) 25 l) : ∃ n, l = [.int .u16 n] ∧ 0 ≤ n ∧ n ≤ 65535 := by
 rw [shP] at h
 simp only [und_25] at h
 obtain ⟨n, h1, h2⟩ := h
 exact ⟨n, h1, wf16 h2⟩
theorem sh_u32 {k : Nat} {l : List AV} (h : shP Tryd.prog (k + 1) 60 l) : ∃ n, l = [.int .u32 n] ∧ 0 ≤ n ∧ n ≤ 4294967295 := by
 rw [shP] at h
 simp only [und_60] at h
 obtain ⟨n, h1, h2⟩ := h
 exact ⟨n, h1, wf32 h2⟩
theorem sh_u64 {k : Nat} {l : List AV} (h : shP Tryd.prog (k + 1) 85 l) : ∃ n, l = [.int .u64 n] ∧ 0 ≤ n ∧ n < 18446744073709551616 := by
 rw [shP] at h
 simp only [und_85] at h
 obtain ⟨n, h1, h2⟩ := h
 exact ⟨n, h1, wfu64 h2⟩
theorem u32s_of {k : Nat} : ∀ (ls : List (List AV)), (∀ x ∈ ls, shP Tryd.prog (k + 1) 60 x) → ∃ ks : List Int, ls.flatten = cells32M ks ∧ ls.length = ks.length ∧ ∀ x ∈ ks, in32 x
 | [], _ => ⟨[], rfl, rfl, by simp⟩
 | x :: ls, h => by
  obtain ⟨n, rfl, hn⟩ := sh_u32 (h x (by simp))
  obtain ⟨ks, h1, h2, h3⟩ := u32s_of ls fun y hy => h y (by simp [hy])
  refine ⟨n :: ks, by rw [List.flatten_cons, h1]; rfl, by simp [h2], fun y hy => ?_⟩
  rcases List.mem_cons.1 hy with rfl | hy
  ·exact ⟨hn.1, by omega⟩
  ·exact h3 y hy
theorem u16s_of {k : Nat} : ∀ (ls : List (List AV)), (∀ x ∈ ls, shP Tryd.prog (k + 1) 25 x) → ∃ ks : List Int, ls.flatten = cells16M ks ∧ ls.length = ks.length ∧ ∀ x ∈ ks, 0 ≤ x ∧ x < 65536
 | [], _ => ⟨[], rfl, rfl, by simp⟩
 | x :: ls, h => by
  obtain ⟨n, rfl, hn⟩ := sh_u16 (h x (by simp))
  obtain ⟨ks, h1, h2, h3⟩ := u16s_of ls fun y hy => h y (by simp [hy])
  refine ⟨n :: ks, by rw [List.flatten_cons, h1]; rfl, by simp [h2], fun y hy => ?_⟩
  rcases List.mem_cons.1 hy with rfl | hy
  ·exact ⟨hn.1, by omega⟩
  ·exact h3 y hy
theorem sh_u32s {k : Nat} {l : List AV} (h : shP Tryd.prog (k + 2) 83 l) : ∃ ks : List Int, l = [.lst 0 (cells32M ks) ks.length 1] ∧ ∀ x ∈ ks, in32 x := by
 rw [shP] at h
 simp only [und_83, show Tryd.prog.cellsOf 60 = 1 by kernel_rfl] at h
 obtain ⟨ls, h1, h2, h3⟩ := h
 obtain ⟨ks, k1, k2, k3⟩ := u32s_of ls fun x hx => (h1 x hx).1
 exact ⟨ks, by rw [h3, k1, k2], k3⟩
theorem sh_u16s {k : Nat} {l : List AV} (h : shP Tryd.prog (k + 2) 84 l) : ∃ ks : List Int, l = [.lst 0 (cells16M ks) ks.length 1] ∧ ∀ x ∈ ks, 0 ≤ x ∧ x < 65536 := by
 rw [shP] at h
 simp only [und_84, show Tryd.prog.cellsOf 25 = 1 by kernel_rfl] at h
 obtain ⟨ls, h1, h2, h3⟩ := h
 obtain ⟨ks, k1, k2, k3⟩ := u16s_of ls fun x hx => (h1 x hx).1
 exact ⟨ks, by rw [h3, k1, k2], k3⟩
theorem sh_six {k : Nat} {l : List AV} (h : shP Tryd.prog (k + 2) 82 l) : ∃ a b c d e f : Int, l = [.int .u32 a, .int .u32 b, .int .u32 c, .int .u32 d, .int .u32 e, .int .u32 f] ∧ in32 a ∧ in32 b ∧ in32 c ∧ in32 d ∧ in32 e ∧ in32 f := by
 rw [shP] at h
 simp only [und_82] at h
 obtain ⟨ls, h1, h2, h3⟩ := h
 obtain ⟨ks, k1, k2, k3⟩ := u32s_of ls h2
 rw [h3, k1]
 rw [h1] at k2
 match ks, k2, k3 with
 | [a, b, c, d, e, f], _, k3 => exact ⟨a, b, c, d, e, f, rfl, k3 a (by simp), k3 b (by simp), k3 c (by simp), k3 d (by simp), k3 e (by simp), k3 f (by simp)⟩
theorem sh_piece {k : Nat} {l : List AV} (h : shP Tryd.prog (k + 3) 87 l) : ∃ p : Pc, l = pcC p ∧ okP p := by
 have h := struct_of (by kernel_rfl) h
 rw [show fldsOf 87 = [5, 82, 83, 84, 85] by kernel_rfl] at h
 obtain ⟨_, _, h0, ⟨_, _, h1, ⟨_, _, h2, ⟨_, _, h3, ⟨_, _, h4, rfl, rfl⟩, rfl⟩, rfl⟩, rfl⟩, rfl⟩ := h
 obtain ⟨n, rfl, hn⟩ := sh_u8 h0
 obtain ⟨a, b, c, d, e, f, rfl, q1, q2, q3, q4, q5, q6⟩ := sh_six h1
 obtain ⟨rs, rfl, hrs⟩ := sh_u32s h2
 obtain ⟨ls, rfl, hls⟩ := sh_u16s h3
 obtain ⟨m, rfl, hm⟩ := sh_u64 h4
 exact ⟨⟨n, a, b, c, d, e, f, 0, rs, 0, ls, m⟩, rfl, ⟨hn.1, by dsimp only; omega⟩, q1, q2, q3, q4, q5, q6, hrs, hls, hm⟩
theorem pieces_of {k : Nat} : ∀ (ls : List (List AV)), (∀ x ∈ ls, shP Tryd.prog (k + 3) 87 x) → ∃ ps : List Pc, ls.flatten = cellsPcM ps ∧ ls.length = ps.length ∧ ∀ p ∈ ps, okP p
 | [], _ => ⟨[], rfl, rfl, by simp⟩
 | x :: ls, h => by
  obtain ⟨p, rfl, hp⟩ := sh_piece (h x (by simp))
  obtain ⟨ps, h1, h2, h3⟩ := pieces_of ls fun y hy => h y (by simp [hy])
  refine ⟨p :: ps, by rw [List.flatten_cons, h1]; rfl, by simp [h2], fun y hy => ?_⟩
  rcases List.mem_cons.1 hy with rfl | hy
  ·exact hp
  ·exact h3 y hy
theorem sh_draft {k : Nat} {l : List AV} (h : shP Tryd.prog (k + 5) 24 l) : ∃ (b : Bool) (ps : List Pc), l = [.bool b, .lst 0 (cellsPcM ps) ps.length 10] ∧ ∀ p ∈ ps, okP p := by
 have h := struct_of (by kernel_rfl) h
 rw [show fldsOf 24 = [4, 22] by kernel_rfl] at h
 obtain ⟨_, _, h0, ⟨_, _, h1, rfl, rfl⟩, rfl⟩ := h
 obtain ⟨b, rfl⟩ := sh_bool h0
 rw [shP] at h1
 simp only [und_22, show Tryd.prog.cellsOf 87 = 10 by kernel_rfl] at h1
 obtain ⟨ls, g1, g2, rfl⟩ := h1
 obtain ⟨ps, k1, k2, k3⟩ := pieces_of ls fun x hx => (g1 x hx).1
 exact ⟨b, ps, by rw [k1, k2]; rfl, k3⟩
theorem okWide_struct {P : Program} {w : World} {r : Reach} {base : Nat} {t : TypeId} {v : Value} {fs : Array Field} (ht : P.underlying t = some (.struct fs)) (h : Value.okWide P w r base t v) : ∃ cs, v = .agg cs := by
 simp only [Value.okWide, ht] at h
 obtain ⟨cs, h1, _⟩ := h
 exact ⟨cs, h1⟩
theorem okWide_st {w : World} {r : Reach} {base : Nat} {t : TypeId} {v : Value} (ht : isSt t = true) (h : Value.okWide Tryd.prog w r base t v) : ∃ cs, v = .agg cs := by
 unfold isSt at ht
 split at ht
 ·rename_i fs hfs
  exact okWide_struct hfs h
 ·cases ht
theorem open_agg {H : Type} {enc : TypeId × Value → H} {w : World} {v : Value} {d : DataW H} {p : List MemPlace} {k : Nat} {t : TypeId} {cs : Array Value} (hv : v = .agg cs) (hg : goodT Tryd.prog k t = true)
  (h : DataW.Trod enc Tryd.prog w 0 (fun _ => true) true t v d p) : ∃ l, VR (mAll w) (.agg l) v ∧ shP Tryd.prog k t l := by
 subst hv
 obtain ⟨m, hm⟩ := h
 obtain ⟨_, l, hl, hs⟩ := deep_ok k t m cs.toList (d, p) hg (by simpa [Value.cells] using hm)
 exact ⟨l, by rw [VR]; exact ⟨cs, rfl, hl⟩, hs⟩
theorem draft_open {H : Type} {enc : TypeId × Value → H} {w : World} {v : Value} {d : DataW H} {p : List MemPlace} {base : Nat} (hval : Value.okWide Tryd.prog w .any base 24 v) (h : DataW.Trod enc Tryd.prog w 0 (fun _ => true) true 24 v d p) :
  ∃ (b : Bool) (ps : List Pc), VR (mAll w) (.agg [.bool b, .lst 0 (cellsPcM ps) ps.length 10]) v ∧ ∀ p ∈ ps, okP p := by
 obtain ⟨cs, hv⟩ := okWide_st (by kernel_rfl) hval
 obtain ⟨l, h1, h2⟩ := open_agg (k := 5) hv (by kernel_rfl) h
 obtain ⟨b, ps, rfl, hr⟩ := sh_draft (k := 0) h2
 exact ⟨b, ps, h1, hr⟩
end Go.Proofs.YtafchcmemeinlaaDoor

set_option linter.unusedSimpArgs false
set_option linter.unusedVariables false
namespace Go.Proofs.YtafchcmemeinlaaDoor
open Go.RowKit
set_option maxRecDepth 1000000

theorem und_3 : Tryd.prog.underlying 3 = some (.int .i64) := by kernel_rfl
theorem und_29 : Tryd.prog.underlying 29 = some (.slice 64) := by kernel_rfl
theorem und_40 : Tryd.prog.underlying 40 = some (.slice 3) := by kernel_rfl
theorem und_62 : Tryd.prog.underlying 62 = some (.slice 66) := by kernel_rfl
theorem und_73 : Tryd.prog.underlying 73 = some (.array 2 72) := by kernel_rfl
theorem okWide_array {P : Program} {w : World} {r : Reach} {base : Nat} {t : TypeId} {v : Value} {n : Nat} {e : TypeId} (ht : P.underlying t = some (.array n e)) (h : Value.okWide P w r base t v) : ∃ cs, v = .agg cs ∧ cs.size = P.cellsOf t := by
 simp only [Value.okWide, ht] at h
 obtain ⟨cs, h1, h2, _⟩ := h
 exact ⟨cs, h1, h2⟩
theorem open_slice {H : Type} {enc : TypeId × Value → H} {w : World} {v : Value} {d : DataW H} {p : List MemPlace} {base k : Nat} {t e : TypeId} (hu : Tryd.prog.underlying t = some (.slice e)) (hg : goodT Tryd.prog (k + 1) t = true)
  (hval : Value.okWide Tryd.prog w .any base t v) (h : DataW.Trod enc Tryd.prog w 0 (fun _ => true) true t v d p) :
  ∃ ls : List (List AV), (∀ x ∈ ls, shP Tryd.prog k e x ∧ x.length = Tryd.prog.cellsOf e) ∧ VRL (mAll w) [.lst 0 ls.flatten ls.length (Tryd.prog.cellsOf e)] [v] := by
 obtain ⟨a, len, cap, rfl⟩ := Go.WideShapes.okWide_slice hu hval
 obtain ⟨m, hm⟩ := h
 obtain ⟨_, l, hl, hs⟩ := deep_ok (k + 1) t m [.slice a len cap] (d, p) hg (by simpa [Value.cells] using hm)
 rw [shP] at hs
 simp only [hu] at hs
 obtain ⟨ls, h1, h2, rfl⟩ := hs
 exact ⟨ls, h1, hl⟩
theorem sh_i64 {k : Nat} {l : List AV} (h : shP Tryd.prog (k + 1) 3 l) : ∃ n, l = [.int .i64 n] := by
 rw [shP] at h
 simp only [und_3] at h
 obtain ⟨n, h1, _⟩ := h
 exact ⟨n, h1⟩
theorem many_of {α : Type} {f : α → List AV} {k : Nat} {t : TypeId} (hf : ∀ l, shP Tryd.prog k t l → ∃ a, l = f a) : ∀ (ls : List (List AV)), (∀ x ∈ ls, shP Tryd.prog k t x) → ∃ ks : List α, ls.flatten = ks.flatMap f ∧ ls.length = ks.length
 | [], _ => ⟨[], rfl, rfl⟩
 | x :: ls, h => by
  obtain ⟨a, rfl⟩ := hf x (h x (by simp))
  obtain ⟨ks, h1, h2⟩ := many_of hf ls fun y hy => h y (by simp [hy])
  exact ⟨a :: ks, by rw [List.flatten_cons, h1]; rfl, by simp [h2]⟩
theorem cells_map : ∀ ks : List Int, ks.flatMap (fun n => [AV.int .i64 n]) = cellsI ks
 | [] => rfl
 | k :: ks => by rw [List.flatMap_cons, cells_map ks]; rfl
theorem sh_ints {k : Nat} {l : List AV} (h : shP Tryd.prog (k + 2) 40 l) : ∃ ks : List Int, l = [.lst 0 (cellsI ks) ks.length 1] := by
 rw [shP] at h
 simp only [und_40, show Tryd.prog.cellsOf 3 = 1 by kernel_rfl] at h
 obtain ⟨ls, h1, h2, h3⟩ := h
 obtain ⟨ks, k1, k2⟩ := many_of (f := fun n => [AV.int .i64 n]) (fun l h => sh_i64 h) ls fun x hx => (h1 x hx).1
 exact ⟨ks, by rw [h3, k1, k2, cells_map]⟩
theorem sh_rc {k : Nat} {l : List AV} (h : shP Tryd.prog (k + 2) 66 l) : ∃ r : Rc, l = rcCM r := by
 have h := struct_of (by kernel_rfl) h
 rw [show fldsOf 66 = [3, 3, 3, 3, 3, 3, 3] by kernel_rfl] at h
 obtain ⟨_, _, h0, ⟨_, _, h1, ⟨_, _, h2, ⟨_, _, h3, ⟨_, _, h4, ⟨_, _, h5, ⟨_, _, h6, rfl, rfl⟩, rfl⟩, rfl⟩, rfl⟩, rfl⟩, rfl⟩, rfl⟩ := h
 obtain ⟨a, rfl⟩ := sh_i64 h0
 obtain ⟨b, rfl⟩ := sh_i64 h1
 obtain ⟨c, rfl⟩ := sh_i64 h2
 obtain ⟨d, rfl⟩ := sh_i64 h3
 obtain ⟨e, rfl⟩ := sh_i64 h4
 obtain ⟨f, rfl⟩ := sh_i64 h5
 obtain ⟨g, rfl⟩ := sh_i64 h6
 exact ⟨(a, b, c, d, e, f, g), rfl⟩
theorem sh_rcs {k : Nat} {l : List AV} (h : shP Tryd.prog (k + 3) 62 l) : ∃ ks : List Rc, l = [.lst 0 (cellsRM ks) ks.length 7] := by
 rw [shP] at h
 simp only [und_62, show Tryd.prog.cellsOf 66 = 7 by kernel_rfl] at h
 obtain ⟨ls, h1, h2, h3⟩ := h
 obtain ⟨ks, k1, k2⟩ := many_of (f := rcCM) (fun l h => sh_rc h) ls fun x hx => (h1 x hx).1
 exact ⟨ks, by rw [h3, k1, k2]; rfl⟩
theorem sh_ctl {k : Nat} {l : List AV} (h : shP Tryd.prog (k + 4) 64 l) : ∃ c : Ctl, l = ctC c := by
 have h := struct_of (by kernel_rfl) h
 rw [show fldsOf 64 = [3, 3, 3, 3, 3, 3, 3, 3, 62, 40, 3, 3, 40] by kernel_rfl] at h
 obtain ⟨_, _, h0, ⟨_, _, h1, ⟨_, _, h2, ⟨_, _, h3, ⟨_, _, h4, ⟨_, _, h5, ⟨_, _, h6, ⟨_, _, h7, ⟨_, _, h8, ⟨_, _, h9, ⟨_, _, h10, ⟨_, _, h11, ⟨_, _, h12, rfl, rfl⟩, rfl⟩, rfl⟩, rfl⟩, rfl⟩, rfl⟩, rfl⟩, rfl⟩, rfl⟩, rfl⟩, rfl⟩, rfl⟩, rfl⟩ := h
 obtain ⟨a0, rfl⟩ := sh_i64 h0
 obtain ⟨a1, rfl⟩ := sh_i64 h1
 obtain ⟨a2, rfl⟩ := sh_i64 h2
 obtain ⟨a3, rfl⟩ := sh_i64 h3
 obtain ⟨a4, rfl⟩ := sh_i64 h4
 obtain ⟨a5, rfl⟩ := sh_i64 h5
 obtain ⟨a6, rfl⟩ := sh_i64 h6
 obtain ⟨a7, rfl⟩ := sh_i64 h7
 obtain ⟨rs, rfl⟩ := sh_rcs h8
 obtain ⟨lo, rfl⟩ := sh_ints h9
 obtain ⟨a10, rfl⟩ := sh_i64 h10
 obtain ⟨a11, rfl⟩ := sh_i64 h11
 obtain ⟨ti, rfl⟩ := sh_ints h12
 exact ⟨⟨a0, a1, a2, a3, a4, a5, a6, a7, rs, lo, a10, a11, ti⟩, rfl⟩
theorem sh_bend {k : Nat} {l : List AV} (h : shP Tryd.prog (k + 2) 72 l) : ∃ (what at' n : Int), l = [.int .u8 what, .int .u8 at', .int .i64 n] ∧ (0 ≤ what ∧ what ≤ 255) ∧ (0 ≤ at' ∧ at' ≤ 255) := by
 have h := struct_of (by kernel_rfl) h
 rw [show fldsOf 72 = [5, 5, 3] by kernel_rfl] at h
 obtain ⟨_, _, h0, ⟨_, _, h1, ⟨_, _, h2, rfl, rfl⟩, rfl⟩, rfl⟩ := h
 obtain ⟨a, rfl, a1⟩ := sh_u8 h0
 obtain ⟨b, rfl, b1⟩ := sh_u8 h1
 obtain ⟨n, rfl⟩ := sh_i64 h2
 exact ⟨a, b, n, rfl, a1, b1⟩
end Go.Proofs.YtafchcmemeinlaaDoor
