/-
  Chapter 18: lists of fingerprints: residual.
-/
import Derived.Test.YtifjpcdpmimccaaGreatDoorB18A
import Derived.Test.YtifjpcdpmimccaaGreatDoorB18F
import Derived.Test.YtifjpcdpmimccaaGreatDoorBmG
import Derived.Test.YtifjpcdpmimccaaGreatDoorBmE
import Derived.Shelf.Spec.BitsCarry
import Derived.Test.YtifjpcdpmimccaaGreatDoorProg
import Derived.Test.YtifjpcdpmimccaaGreatDoorB18C
import Derived.ProofKit
import Derived.Test.YtifjpcdpmimccaaGreatDoorB18D
import Derived.Test.YtifjpcdpmimccaaGreatDoorBnG
import Derived.Test.YtifjpcdpmimccaaGreatDoorB18O
import Derived.Test.YtifjpcdpmimccaaGreatDoorB18G
import Derived.Test.YtifjpcdpmimccaaGreatDoorB18J
import Derived.Test.YtifjpcdpmimccaaGreatDoorBmA
import Derived.Test.YtifjpcdpmimccaaGreatDoorBmB
set_option linter.unusedSimpArgs false
set_option linter.unusedVariables false
set_option linter.unusedSectionVars false
namespace Go.Proofs.YtifjpcdpmimccaaGreatDoor
open Go.RowKit
set_option maxRecDepth 1000000

structure Dr where
 d : List UInt8
 ky : Int
 fr : Int
 af : Int
 nu : Int
def drC (x : Dr) : List AV := [.lst 0 (ofBytes x.d) x.d.length 1, .int .u8 x.ky, .int .u16 x.fr, .int .u16 x.af, .int .u32 x.nu]
def cellsDM (l : List Dr) : List AV := (l.map drC).flatten
def okDr (x : Dr) : Prop := x.d.length ≤ 9223372036854775807 ∧ (0 ≤ x.fr ∧ x.fr ≤ 65535) ∧ (0 ≤ x.af ∧ x.af ≤ 65535) ∧ (0 ≤ x.nu ∧ x.nu ≤ 4294967295)
def cDraftA : Con
 | [.agg c], H, K => ∃ x : Dr, Lf (c = drC x ∧ okDr x) ∧ ∀ n k f u m, Lf (rightBM n k f u m = true) → K (.ret (.agg [.str n, .str k, .int .i64 f, .int .i64 u, .int .i64 m])) H
 | _, _, _ => False
theorem draftA_ok : ValidF Tryz.prog gl0 12 cDraftA := by
 refine ⟨draft_ok.1, fun args H Q hc => draft_ok.2 args H Q ?_⟩
 unfold cDraftA at hc
 split at hc
 ·rename_i c
  obtain ⟨x, ⟨rfl, h1, h2, h3, h4⟩, hq⟩ := hc
  exact ⟨x.d, ⟨⟨rfl, rfl⟩, h1, h2, h3, h4⟩, hq⟩
 ·exact hc.elim
end Go.Proofs.YtifjpcdpmimccaaGreatDoor
