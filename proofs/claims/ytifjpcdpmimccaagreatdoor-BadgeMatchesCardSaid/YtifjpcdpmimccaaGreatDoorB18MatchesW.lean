/-
  Chapter 18: the walk of BadgeMatches.
-/
import Derived.Test.YtifjpcdpmimccaaGreatDoorB18O1
import Derived.Test.YtifjpcdpmimccaaGreatDoorB18FD
import Derived.Test.YtifjpcdpmimccaaGreatDoorRows
import Derived.ProofKit
import Derived.LaidMore
import Derived.Lay
import Derived.OpenShut
import Derived.Stop.Joined
set_option linter.unusedSimpArgs false
set_option linter.unusedVariables false
namespace Go.Proofs.YtifjpcdpmimccaaGreatDoor
open Go.RowKit
set_option maxRecDepth 1000000

abbrev L18 : List (String × DataW Unit) := [("unicode/utf8.acceptRanges", Rows.laid_unicode_utf8_acceptRanges), ("unicode.CaseRanges", Rows.laid_unicode_CaseRanges), ("unicode/utf8.first", Rows.laid_unicode_utf8_first)]
theorem own18 : ownKnob Tryz.prog.godebug = none := by kernel_rfl
theorem laidOut18 : laidOutB Tryz.prog = true := by kernel_rfl
theorem und_57 : Tryz.prog.underlying 57 = some (.slice 26) := by kernel_rfl
theorem sh_draft {k : Nat} {l : List AV} (h : shP Tryz.prog (k + 4) 26 l) : ∃ x : Dr, l = drC x ∧ okDr x := by
  have h := struct_of (by kernel_rfl) h
  rw [show fldsOf 26 = [22, 5, 23, 23, 24] by kernel_rfl] at h
  obtain ⟨_, _, h3, ⟨_, _, h4, ⟨_, _, h5, ⟨_, _, h6, ⟨_, _, h7, rfl, rfl⟩, rfl⟩, rfl⟩, rfl⟩, rfl⟩ := h
  obtain ⟨n, rfl, hn⟩ := sh_u8s h3
  obtain ⟨ky, rfl, hk⟩ := sh_u8 h4
  obtain ⟨fr, rfl, hf⟩ := sh_u16 h5
  obtain ⟨af, rfl, ha⟩ := sh_u16 h6
  obtain ⟨nu, rfl, hu⟩ := sh_u32 h7
  exact ⟨⟨n, ky, fr, af, nu⟩, rfl, hn, hf, ha, hu⟩
theorem drs_of {k : Nat} : ∀ (ls : List (List AV)), (∀ x ∈ ls, shP Tryz.prog (k + 4) 26 x) → ∃ l : List Dr, ls.flatten = cellsDM l ∧ ls.length = l.length ∧ ∀ x ∈ l, okDr x
  | [], _ => ⟨[], rfl, rfl, fun _ h => by cases h⟩
  | x :: ls, h => by
    obtain ⟨y, rfl, hy⟩ := sh_draft (h x (by simp))
    obtain ⟨l, h1, h2, h3⟩ := drs_of ls fun z hz => h z (by simp [hz])
    refine ⟨y :: l, ?_, by simp [h2], fun z hz => ?_⟩
    · rw [List.flatten_cons, h1, drs_cons]
    · rcases List.mem_cons.1 hz with rfl | hz
      · exact hy
      · exact h3 z hz
theorem sh_drafts {k : Nat} {l : List AV} (h : shP Tryz.prog (k + 5) 57 l) : ∃ s : List Dr, l = [.lst 0 (cellsDM s) s.length 5] ∧ ∀ x ∈ s, okDr x := by
  rw [shP] at h
  simp only [und_57, show Tryz.prog.cellsOf 26 = 5 by kernel_rfl] at h
  obtain ⟨ls, h1, h2, h3⟩ := h
  obtain ⟨s, k1, k2, k3⟩ := drs_of ls fun x hx => (h1 x hx).1
  exact ⟨s, by rw [h3, k1, k2], k3⟩
theorem edit_open {H : Type} {enc : TypeId × Value → H} {w : World} {v : Value} {d : DataW H} {p : List MemPlace} {base : Nat} (hval : Value.okWide Tryz.prog w .any base 28 v) (h : DataW.Trod enc Tryz.prog w 0 (fun _ => true) true 28 v d p) :
    ∃ (a b : Int) (s : List UInt8), VR (mAll w) (.agg [.int .u8 a, .int .u8 b, .str s]) v ∧ (0 ≤ a ∧ a ≤ 255) ∧ (0 ≤ b ∧ b ≤ 255) := by
  obtain ⟨cs, hv⟩ := okWide_st (by kernel_rfl) hval
  obtain ⟨l, h1, h2⟩ := open_agg (k := 4) hv (by kernel_rfl) h
  have h := struct_of (by kernel_rfl) h2
  rw [show fldsOf 28 = [5, 5, 9] by kernel_rfl] at h
  obtain ⟨_, _, h3, ⟨_, _, h4, ⟨_, _, h5, rfl, rfl⟩, rfl⟩, rfl⟩ := h
  obtain ⟨a, rfl, ha⟩ := sh_u8 h3
  obtain ⟨b, rfl, hb⟩ := sh_u8 h4
  obtain ⟨s, rfl, hs⟩ := sh_str h5
  exact ⟨a, b, s, h1, ha, hb⟩
theorem drafts_open {H : Type} {enc : TypeId × Value → H} {w : World} {v : Value} {d : DataW H} {p : List MemPlace} {base : Nat} (hval : Value.okWide Tryz.prog w .any base 57 v) (h : DataW.Trod enc Tryz.prog w 0 (fun _ => true) true 57 v d p) :
    ∃ l : List Dr, VRL (mAll w) [.lst 0 (cellsDM l) l.length 5] [v] ∧ ∀ x ∈ l, okDr x := by
  obtain ⟨l, h1, h2⟩ := open_sl (k := 5) und_57 (by kernel_rfl) hval h
  obtain ⟨s, rfl, hs⟩ := sh_drafts (k := 0) h2
  exact ⟨s, h1, hs⟩
theorem badgeMatches_walk (v0 v1 v2 : Value) (at' : Int) (v4 : Value) (now small : Int) (w : World) (_ : laidMetH Tryz.prog L18 w) {H : Type} {enc : TypeId × Value → H} {base : Nat} {d0 : DataW H} {p0 : List MemPlace} {d1 : DataW H} {p1 : List MemPlace} {d2 : DataW H} {p2 : List MemPlace} {d4 : DataW H} {p4 : List MemPlace}
    (hval0 : Value.okWide Tryz.prog w .any base 26 v0) (h0 : DataW.Trod enc Tryz.prog w 0 (fun _ => true) true 26 v0 d0 p0) (_ : ∀ x ∈ p0, x.block < w.heap.size)
    (hval1 : Value.okWide Tryz.prog w .any base 44 v1) (h1 : DataW.Trod enc Tryz.prog w 0 (fun _ => true) true 44 v1 d1 p1) (_ : ∀ x ∈ p1, x.block < w.heap.size)
    (hval2 : Value.okWide Tryz.prog w .any base 57 v2) (h2 : DataW.Trod enc Tryz.prog w 0 (fun _ => true) true 57 v2 d2 p2) (_ : ∀ x ∈ p2, x.block < w.heap.size)
    (w3 : (Lit.int .u8 at').wf = true)
    (hval4 : Value.okWide Tryz.prog w .any base 28 v4) (h4 : DataW.Trod enc Tryz.prog w 0 (fun _ => true) true 28 v4 d4 p4) (_ : ∀ x ∈ p4, x.block < w.heap.size)
    (w5 : (Lit.int .i64 now).wf = true) (w6 : (Lit.int .u16 small).wf = true) :
    Calls Tryz.prog 7 #[v0, v1, v2, .int .u8 at', v4, .int .i64 now, .int .u16 small] w fun e w' => e = .returned (.bool true) ∧ Below w.heap.size w w' := by
  obtain ⟨n, ky, fr, af, nu, g0, hn, hk, hf, haf, hnu⟩ := draft_open hval0 h0
  obtain ⟨a, b, s, g1, ha, hs⟩ := bend_open hval1 h1
  obtain ⟨l, g2, hl⟩ := drafts_open hval2 h2
  obtain ⟨a4, b4, s4, g4, ha4, hb4⟩ := edit_open hval4 h4
  obtain ⟨hv, hbb, h⟩ := matches_run n ky fr af nu a b s l at' a4 b4 s4 now small hn hf haf hnu hl (wf8 w3) ha4 hb4 isT trivial
  simp only [VRL_cons, VRL_nil, and_true] at g2
  exact call_all (envFor18 smMt_ok _ hv hbb) h w (glob0 w) (by
    simp only [VRL_cons, VRL_nil, and_true]
    exact ⟨g0, g1, g2, by simp [VR], g4, by simp [VR], by simp [VR]⟩)
end Go.Proofs.YtifjpcdpmimccaaGreatDoor
