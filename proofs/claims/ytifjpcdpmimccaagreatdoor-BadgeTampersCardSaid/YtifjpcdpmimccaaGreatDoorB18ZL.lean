/-
  Chapter 18: a badge's octets give it back, and only its own do.
-/
import Derived.Test.YtifjpcdpmimccaaGreatDoorB18ZK
set_option linter.unusedSimpArgs false
set_option linter.unusedVariables false
set_option linter.unusedSectionVars false
namespace Go.Proofs.YtifjpcdpmimccaaGreatDoor
open Go.RowKit
set_option maxRecDepth 1000000

theorem be_at {t : List UInt8} {l : Nat} (h : t.length = l) : beBM l (beM t).toNat = t := by
  subst h
  rw [beM, Int.toNat_natCast, be_natM]
theorem oct_dec {s : List UInt8} (ok : okB s) : octBM (nmB s) (keB s) (frB s) (unB s) (nuB s) = s := by
  obtain ⟨h0, h1, h2⟩ := ok
  have ln := be_nn ((s.drop 21).take 1)
  have l0 : 0 ≤ lenB s := ln
  have l1 : (nmB s).length = (lenB s).toNat := by rw [nmB, List.length_take, List.length_drop]; omega
  have e : [UInt8.ofNat 102, UInt8.ofNat 100, UInt8.ofNat 1] = s.take 3 := h0.symm
  have ek : (22 + lenB s).toNat = 22 + (lenB s).toNat := by omega
  have b1 : beBM 6 (nuB s).toNat = (s.drop 3).take 6 := be_at (by rw [List.length_take, List.length_drop]; omega)
  have b2 : beBM 6 (frB s).toNat = (s.drop 9).take 6 := be_at (by rw [List.length_take, List.length_drop]; omega)
  have b3 : beBM 6 (unB s).toNat = (s.drop 15).take 6 := be_at (by rw [List.length_take, List.length_drop]; omega)
  have b4 : beBM 1 (nmB s).length = (s.drop 21).take 1 := by rw [l1]; exact be_at (by rw [List.length_take, List.length_drop]; omega)
  rw [octBM, b1, b2, b3, b4, e, ← List.take_add, ← List.take_add, ← List.take_add, ← List.take_add, nmB, ← List.take_add, keB, ek, ← List.take_add, List.take_of_length_le (by omega)]
theorem dec_cases (s : List UInt8) : decBM s = ([], [], 0, 0, 0, 5) ∨ ∃ n k f u m, decBM s = (n, k, f, u, m, 0) ∧ rightBM n k f u m = true ∧ octBM n k f u m = s := by
  by_cases h : okB s
  · exact .inr ⟨_, _, _, _, _, by rw [decBM, if_pos h], h.2.2, oct_dec h⟩
  · exact .inl (by rw [decBM, if_neg h])
end Go.Proofs.YtifjpcdpmimccaaGreatDoor
