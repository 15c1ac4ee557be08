/-
  Chapter 24: ControlBack.
-/
import Derived.Test.YtafchcmemeinlaaDoorC24YD
import Derived.Test.YtafchcmemeinlaaDoorC24XW
import Derived.Test.YtafchcmemeinlaaDoorC24XY
set_option linter.unusedSimpArgs false
set_option linter.unusedVariables false
set_option linter.unusedSectionVars false
namespace Go.Proofs.YtafchcmemeinlaaDoor
open Go.RowKit
set_option maxRecDepth 1000000

theorem valid_okC {c : Ctl} (h : validM c = true) : okC c := by
 have h8 := rcsOk_len ((valid_iff c).1 h).2.2.2.2.2.2.2.2.2.2.2.2.2.2.2.2.1
 rcases valid_cases h with ⟨f, s1, s2, s3, s4, s5, rs, rfl, hrs⟩ | ⟨f, rs, rfl, hrs⟩ | ⟨f, rfl⟩ | ⟨f, a, lo, rfl, hlo⟩ | ⟨f, a, rfl⟩ | ⟨f, a, ba, ro, ti, rfl, hti⟩
 ·exact ⟨by dsimp only; omega, Nat.zero_le _, Nat.zero_le _⟩
 ·exact ⟨by dsimp only; omega, Nat.zero_le _, Nat.zero_le _⟩
 ·exact ⟨Nat.zero_le _, Nat.zero_le _, Nat.zero_le _⟩
 ·have := (nacks_parts hlo).2.1
  exact ⟨Nat.zero_le _, by dsimp only; omega, Nat.zero_le _⟩
 ·exact ⟨Nat.zero_le _, Nat.zero_le _, Nat.zero_le _⟩
 ·obtain ⟨ref, l, h1, h2, h3⟩ := stepsR_some hti
  exact ⟨Nat.zero_le _, Nat.zero_le _, by dsimp only; omega⟩
theorem check_okC {l : List Ctl} (h : checkM l = true) : (1 ≤ l.length ∧ l.length ≤ 8) ∧ ∀ c ∈ l, okC c := by
 have hc := (check_iff l).1 h
 exact ⟨hc.1, fun c hm => valid_okC (hc.2.2 c hm)⟩
end Go.Proofs.YtafchcmemeinlaaDoor
