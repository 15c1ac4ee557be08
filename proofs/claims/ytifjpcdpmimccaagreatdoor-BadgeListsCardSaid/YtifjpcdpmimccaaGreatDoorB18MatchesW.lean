/-
  Chapter 18: the walk of BadgeMatches.
-/
import Derived.Test.YtifjpcdpmimccaaGreatDoorB18O1
import Derived.Test.YtifjpcdpmimccaaGreatDoorB18FB
import Derived.Test.YtifjpcdpmimccaaGreatDoorB18A
import Derived.Test.YtifjpcdpmimccaaGreatDoorB18F
import Derived.Test.YtifjpcdpmimccaaGreatDoorBmG
import Derived.Test.YtifjpcdpmimccaaGreatDoorBmE
import Derived.Shelf.Spec.BitsCarry
import Derived.Test.YtifjpcdpmimccaaGreatDoorProg
import Derived.Test.YtifjpcdpmimccaaGreatDoorB18C
import Derived.ProofKit
import Derived.Test.YtifjpcdpmimccaaGreatDoorB18D
import Derived.Test.YtifjpcdpmimccaaGreatDoorBnG
import Derived.Test.YtifjpcdpmimccaaGreatDoorB18O
import Derived.Test.YtifjpcdpmimccaaGreatDoorB18G
import Derived.Test.YtifjpcdpmimccaaGreatDoorB18J
import Derived.Test.YtifjpcdpmimccaaGreatDoorBmA
import Derived.Test.YtifjpcdpmimccaaGreatDoorBmB
import Derived.Test.YtifjpcdpmimccaaGreatDoorRows
import Derived.LaidMore
import Derived.Lay
import Derived.OpenShut
import Derived.Stop.Joined
set_option linter.unusedSimpArgs false
set_option linter.unusedVariables false
namespace Go.Proofs.YtifjpcdpmimccaaGreatDoor
open Go.RowKit
set_option maxRecDepth 1000000

abbrev L18 : List (String × DataW Unit) := [("unicode/utf8.acceptRanges", Rows.laid_unicode_utf8_acceptRanges), ("unicode.CaseRanges", Rows.laid_unicode_CaseRanges), ("unicode/utf8.first", Rows.laid_unicode_utf8_first)]
theorem own18 : ownKnob Tryz.prog.godebug = none := by kernel_rfl
theorem laidOut18 : laidOutB Tryz.prog = true := by kernel_rfl
theorem und_57 : Tryz.prog.underlying 57 = some (.slice 26) := by kernel_rfl
theorem sh_draft {k : Nat} {l : List AV} (h : shP Tryz.prog (k + 4) 26 l) : ∃ x : Dr, l = drC x ∧ okDr x := by
 have h := struct_of (by kernel_rfl) h
 rw [show fldsOf 26 = [22, 5, 23, 23, 24] by kernel_rfl] at h
 obtain ⟨_, _, h3, ⟨_, _, h4, ⟨_, _, h5, ⟨_, _, h6, ⟨_, _, h7, rfl, rfl⟩, rfl⟩, rfl⟩, rfl⟩, rfl⟩ := h
 obtain ⟨n, rfl, hn⟩ := sh_u8s h3
 obtain ⟨ky, rfl, hk⟩ := sh_u8 h4
 obtain ⟨fr, rfl, hf⟩ := sh_u16 h5
 obtain ⟨af, rfl, ha⟩ := sh_u16 h6
 obtain ⟨nu, rfl, hu⟩ := sh_u32 h7
 exact ⟨⟨n, ky, fr, af, nu⟩, rfl, hn, hf, ha, hu⟩
theorem drs_of {k : Nat} : ∀ (ls : List (List AV)), (∀ x ∈ ls, shP Tryz.prog (k + 4) 26 x) → ∃ l : List Dr, ls.flatten = cellsDM l ∧ ls.length = l.length ∧ ∀ x ∈ l, okDr x
 | [], _ => ⟨[], rfl, rfl, fun _ h => by cases h⟩
 | x :: ls, h => by
  obtain ⟨y, rfl, hy⟩ := sh_draft (h x (by simp))
  obtain ⟨l, h1, h2, h3⟩ := drs_of ls fun z hz => h z (by simp [hz])
  refine ⟨y :: l, ?_, by simp [h2], fun z hz => ?_⟩
  ·rw [List.flatten_cons, h1, drs_cons]
  ·rcases List.mem_cons.1 hz with rfl | hz
   ·exact hy
   ·exact h3 z hz
theorem sh_drafts {k : Nat} {l : List AV} (h : shP Tryz.prog (k + 5) 57 l) : ∃ s : List Dr, l = [.lst 0 (cellsDM s) s.length 5] ∧ ∀ x ∈ s, okDr x := by
 rw [shP] at h
 simp only [und_57, show Tryz.prog.cellsOf 26 = 5 by kernel_rfl] at h
 obtain ⟨ls, h1, h2, h3⟩ := h
 obtain ⟨s, k1, k2, k3⟩ := drs_of ls fun x hx => (h1 x hx).1
 exact ⟨s, by rw [h3, k1, k2], k3⟩
theorem drafts_open {H : Type} {enc : TypeId × Value → H} {w : World} {v : Value} {d : DataW H} {p : List MemPlace} {base : Nat} (hval : Value.okWide Tryz.prog w .any base 57 v) (h : DataW.Trod enc Tryz.prog w 0 (fun _ => true) true 57 v d p) :
  ∃ l : List Dr, VRL (mAll w) [.lst 0 (cellsDM l) l.length 5] [v] ∧ ∀ x ∈ l, okDr x := by
 obtain ⟨l, h1, h2⟩ := open_sl (k := 5) und_57 (by kernel_rfl) hval h
 obtain ⟨s, rfl, hs⟩ := sh_drafts (k := 0) h2
 exact ⟨s, h1, hs⟩
end Go.Proofs.YtifjpcdpmimccaaGreatDoor
