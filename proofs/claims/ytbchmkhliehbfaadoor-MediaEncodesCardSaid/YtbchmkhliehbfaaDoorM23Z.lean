/-
  Chapter 23: what the cells of two bends and of an arbitrary packet look like.
-/
import Derived.Test.YtbchmkhliehbfaaDoorM23O
import Derived.Test.YtbchmkhliehbfaaDoorM23U
set_option linter.unusedSimpArgs false
set_option linter.unusedVariables false
set_option linter.unusedSectionVars false
namespace Go.Proofs.YtbchmkhliehbfaaDoor
open Go.RowKit
set_option maxRecDepth 1000000

theorem und_30 : Tryd.prog.underlying 30 = some (.array 2 29) := by kernel_rfl
theorem und_31 : Tryd.prog.underlying 31 = some (.slice 3) := by kernel_rfl
theorem und_32 : Tryd.prog.underlying 32 = some (.slice 55) := by kernel_rfl
theorem sh_ext {k : Nat} {l : List AV} (h : shP Tryd.prog (k + 2) 55 l) : ∃ x : Xt, l = [.int .i64 x.1, .str x.2] := by
  have h := struct_of (by kernel_rfl) h
  rw [show fldsOf 55 = [3, 9] by kernel_rfl] at h
  obtain ⟨_, _, h1, ⟨_, _, h2, rfl, rfl⟩, rfl⟩ := h
  obtain ⟨n, rfl, _⟩ := sh_i64 h1
  obtain ⟨s, rfl, _⟩ := sh_str h2
  exact ⟨(n, s), rfl⟩
theorem ints_of {k : Nat} : ∀ (ls : List (List AV)), (∀ x ∈ ls, shP Tryd.prog (k + 1) 3 x) → ∃ ks : List Int, ls.flatten = cellsI ks ∧ ls.length = ks.length
  | [], _ => ⟨[], rfl, rfl⟩
  | x :: ls, h => by
    obtain ⟨n, rfl, _⟩ := sh_i64 (h x (by simp))
    obtain ⟨ks, h1, h2⟩ := ints_of ls fun y hy => h y (by simp [hy])
    exact ⟨n :: ks, by rw [List.flatten_cons, h1]; rfl, by simp [h2]⟩
theorem exts_of {k : Nat} : ∀ (ls : List (List AV)), (∀ x ∈ ls, shP Tryd.prog (k + 2) 55 x) → ∃ ex : List Xt, ls.flatten = cellsXM ex ∧ ls.length = ex.length
  | [], _ => ⟨[], rfl, rfl⟩
  | x :: ls, h => by
    obtain ⟨p, rfl⟩ := sh_ext (h x (by simp))
    obtain ⟨ex, h1, h2⟩ := exts_of ls fun y hy => h y (by simp [hy])
    exact ⟨p :: ex, by rw [List.flatten_cons, h1]; rfl, by simp [h2]⟩
theorem sh_media {k : Nat} {l : List AV} (h : shP Tryd.prog (k + 4) 34 l) : ∃ (mk : Bool) (ty seq ti ss : Int) (cs : List Int) (ex : List Xt) (pad : Int) (pl : List UInt8), l = medM mk ty seq ti ss 0 cs 0 ex pad pl := by
  have h := struct_of (by kernel_rfl) h
  rw [show fldsOf 34 = [4, 3, 3, 3, 3, 31, 32, 3, 9] by kernel_rfl] at h
  obtain ⟨_, _, h0, ⟨_, _, h1, ⟨_, _, h2, ⟨_, _, h3, ⟨_, _, h4, ⟨_, _, h5, ⟨_, _, h6, ⟨_, _, h7, ⟨_, _, h8, rfl, rfl⟩, rfl⟩, rfl⟩, rfl⟩, rfl⟩, rfl⟩, rfl⟩, rfl⟩, rfl⟩ := h
  obtain ⟨mk, rfl⟩ := sh_bool h0
  obtain ⟨ty, rfl, _⟩ := sh_i64 h1
  obtain ⟨seq, rfl, _⟩ := sh_i64 h2
  obtain ⟨ti, rfl, _⟩ := sh_i64 h3
  obtain ⟨ss, rfl, _⟩ := sh_i64 h4
  obtain ⟨pad, rfl, _⟩ := sh_i64 h7
  obtain ⟨pl, rfl, _⟩ := sh_str h8
  rw [shP] at h5 h6
  simp only [und_31, show Tryd.prog.cellsOf 3 = 1 by kernel_rfl] at h5
  simp only [und_32, show Tryd.prog.cellsOf 55 = 2 by kernel_rfl] at h6
  obtain ⟨ls, a1, a2, rfl⟩ := h5
  obtain ⟨ms, b1, b2, rfl⟩ := h6
  obtain ⟨cs, e1, e2⟩ := ints_of ls fun x hx => (a1 x hx).1
  obtain ⟨ex, f1, f2⟩ := exts_of ms fun x hx => (b1 x hx).1
  exact ⟨mk, ty, seq, ti, ss, cs, ex, pad, pl, by rw [e1, e2, f1, f2]; rfl⟩
end Go.Proofs.YtbchmkhliehbfaaDoor
