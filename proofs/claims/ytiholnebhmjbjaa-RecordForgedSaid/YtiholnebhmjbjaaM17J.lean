/-
  Chapter 17: Decode of the reference, which calls itself.
-/
import Derived.Test.YtiholnebhmjbjaaM17I
set_option linter.unusedSimpArgs false
set_option linter.unusedVariables false
set_option linter.unusedSectionVars false
namespace Go.Proofs.Ytiholnebhmjbjaa
open Go.RowKit
set_option maxRecDepth 1000000

theorem recs_len : ∀ (f : Nat) (s : List UInt8), (recsM f s).1.length ≤ f
  | 0, _ => Nat.le_refl _
  | f + 1, s => by
    rw [recsM]
    have ih := recs_len f (restRM s)
    split
    · simp
    · split
      · simp
      · split
        · simp
        · simp only [List.length_cons]; omega
theorem dec_len (s : List UInt8) : (decM s).1.length ≤ s.length := by
  rw [decM]
  split
  · simp
  · split
    · simp
    · exact recs_len _ _
theorem be_hi {s : List UInt8} {k : Nat} (h : s.length ≤ k) : beM s < (256 : Int) ^ k := by
  have h1 := nat_lt s.length s rfl
  have h2 : 256 ^ s.length ≤ 256 ^ k := Nat.pow_le_pow_right (by omega) h
  have h3 : natM s < 256 ^ k := by omega
  unfold beM
  exact_mod_cast h3
end Go.Proofs.Ytiholnebhmjbjaa
