/-
  Chapter 4: padded is proved.
-/
import Derived.Test.YtiholnebhmjbjaaM17SK
set_option linter.unusedSimpArgs false
set_option linter.unusedVariables false
namespace Go.Proofs.Ytiholnebhmjbjaa
open Go.RowKit
set_option maxRecDepth 1000000

theorem toB_ofB (l : List UInt8) : (ofBytes l).map toB = l := by
  simp only [ofBytes, List.map_map]
  conv => rhs; rw [← List.map_id l]
  congr 1
  funext x
  simp [toB]
theorem strB {L : List UInt8} {n m : Nat} (hn : n = L.length) (hm : m = 0) : List.map toB (List.take n (List.drop m (ofBytes L))) = L := by
  subst hn hm
  rw [List.drop_zero, List.take_of_length_le (by rw [ofB_len]; omega), toB_ofB]
theorem allU8_take (n m : Nat) (l : List UInt8) : allU8 (List.take n (List.drop m (ofBytes l))) = true := by
  have e : List.take n (List.drop m (ofBytes l)) = ofBytes ((l.drop m).take n) := by simp [ofBytes]
  rw [e]
  exact allU8_ofB _
end Go.Proofs.Ytiholnebhmjbjaa
