/-
  Chapter 24: arrivals, read back: the plain part.
-/
import Derived.Test.YtafchcmemeinlaaDoorC24XS
import Derived.Test.YtafchcmemeinlaaDoorC24QP
set_option linter.unusedSimpArgs false
set_option linter.unusedVariables false
namespace Go.Proofs.YtafchcmemeinlaaDoor
open Go.RowKit
set_option maxRecDepth 1000000

theorem tail_cons (d : Int) (l : List Int) : tailM (d :: l) = beM d (sgnM d).toNat ++ tailM l := by
 simp only [tailM, List.flatMap_cons, putM, List.append_nil]
def wdM (S : List Int) (j : Nat) : Int := 49152 + (4096 * S.getD (7 * j) 0 + 1024 * S.getD (7 * j + 1) 0 + 256 * S.getD (7 * j + 2) 0 + 64 * S.getD (7 * j + 3) 0 + 16 * S.getD (7 * j + 4) 0 + 4 * S.getD (7 * j + 5) 0 + S.getD (7 * j + 6) 0)
theorem cur_zero (S : List Int) : ∀ j, curM S (7 * j) = 0
 | 0 => rfl
 | j + 1 => by
  rw [show 7 * (j + 1) = 7 * j + 6 + 1 by omega, curM, if_pos (by omega)]
theorem bits_word (S : List Int) (j : Nat) : bitsM S (7 * (j + 1)) = bitsM S (7 * j) ++ beM (wdM S j) 2 := by
 have c1 : curM S (7 * j + 1) = S.getD (7 * j) 0 := by rw [curM, if_neg (by omega), cur_zero]; omega
 have c2 : curM S (7 * j + 2) = 4 * S.getD (7 * j) 0 + S.getD (7 * j + 1) 0 := by rw [curM, if_neg (by omega), c1]
 have c3 : curM S (7 * j + 3) = 4 * curM S (7 * j + 2) + S.getD (7 * j + 2) 0 := by rw [curM, if_neg (by omega)]
 have c4 : curM S (7 * j + 4) = 4 * curM S (7 * j + 3) + S.getD (7 * j + 3) 0 := by rw [curM, if_neg (by omega)]
 have c5 : curM S (7 * j + 5) = 4 * curM S (7 * j + 4) + S.getD (7 * j + 4) 0 := by rw [curM, if_neg (by omega)]
 have c6 : curM S (7 * j + 6) = 4 * curM S (7 * j + 5) + S.getD (7 * j + 5) 0 := by rw [curM, if_neg (by omega)]
 have b1 : bitsM S (7 * j + 6) = bitsM S (7 * j) := by
  rw [bitsM, if_neg (by omega), bitsM, if_neg (by omega), bitsM, if_neg (by omega), bitsM, if_neg (by omega), bitsM, if_neg (by omega), bitsM, if_neg (by omega)]
 rw [show 7 * (j + 1) = 7 * j + 6 + 1 by omega, bitsM, if_pos (by omega), b1, putM, putM, List.append_nil]
 congr 2
 rw [wdM, c6, c5, c4, c3, c2]
 omega
def wordsM (S : List Int) (k : Nat) : Nat → List UInt8
 | 0 => []
 | m + 1 => beM (wdM S k) 2 ++ wordsM S (k + 1) m
theorem bits_words (S : List Int) : ∀ m k, bitsM S (7 * (k + m)) = bitsM S (7 * k) ++ wordsM S k m
 | 0, k => by rw [wordsM, List.append_nil]; rfl
 | m + 1, k => by
  rw [show k + (m + 1) = k + 1 + m by omega, bits_words S m (k + 1), bits_word, wordsM, List.append_assoc]
end Go.Proofs.YtafchcmemeinlaaDoor
