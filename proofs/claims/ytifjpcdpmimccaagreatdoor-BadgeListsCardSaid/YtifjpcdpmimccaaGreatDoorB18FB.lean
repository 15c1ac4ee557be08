/-
  Chapter 18: lists of fingerprints: proved.
-/
import Derived.Test.YtifjpcdpmimccaaGreatDoorB18FA
import Derived.Test.YtifjpcdpmimccaaGreatDoorB18A
import Derived.Test.YtifjpcdpmimccaaGreatDoorB18F
import Derived.Shelf.Spec.BitsCarry
import Derived.Test.YtifjpcdpmimccaaGreatDoorProg
import Derived.Test.YtifjpcdpmimccaaGreatDoorB18C
import Derived.ProofKit
import Derived.Test.YtifjpcdpmimccaaGreatDoorB18D
import Derived.Test.YtifjpcdpmimccaaGreatDoorBnG
import Derived.Test.YtifjpcdpmimccaaGreatDoorB18O
import Derived.Test.YtifjpcdpmimccaaGreatDoorB18G
import Derived.Test.YtifjpcdpmimccaaGreatDoorB18J
import Derived.Test.YtifjpcdpmimccaaGreatDoorBmA
set_option linter.unusedSimpArgs false
set_option linter.unusedVariables false
set_option linter.unusedSectionVars false
namespace Go.Proofs.YtifjpcdpmimccaaGreatDoor
open Go.RowKit
set_option maxRecDepth 1000000

theorem dr_len (x : Dr) : (drC x).length = 5 := rfl
theorem drs_cons (x : Dr) (l : List Dr) : cellsDM (x :: l) = drC x ++ cellsDM l := by
 rw [cellsDM, List.map_cons, List.flatten_cons]; rfl
theorem drs_len : ∀ l : List Dr, (cellsDM l).length = 5 * l.length
 | [] => rfl
 | x :: l => by rw [drs_cons, List.length_append, drs_len l, dr_len, List.length_cons]; omega
theorem dropL {α : Type} (a b : List α) (k : Nat) : (a ++ b).drop (a.length + k) = b.drop k := by
 rw [← List.drop_drop, List.drop_left]
theorem drs_at : ∀ (l : List Dr) (i : Nat) (hi : i < l.length), ((cellsDM l).drop (i * 5)).take 5 = drC l[i]
 | x :: l, 0, _ => by rw [drs_cons, Nat.zero_mul, List.drop_zero, List.take_left' (dr_len x)]; rfl
 | x :: l, i + 1, hi => by
  rw [drs_cons, show (i + 1) * 5 = (drC x).length + i * 5 by rw [dr_len]; omega, dropL, List.getElem_cons_succ]
  exact drs_at l i (by rw [List.length_cons] at hi; omega)
theorem drs_sub {l : List Dr} {m i : Nat} (hm : m ≤ l.length) (hi : i < m) : List.take 5 (List.drop (i * 5) (List.take (m * 5) (List.drop 0 (cellsDM l)))) = drC (l[i]'(by omega)) := by
 rw [List.drop_zero, List.drop_take, List.take_take, Nat.min_eq_left (by omega)]
 exact drs_at l i (by omega)
theorem cS_snoc (P : List (List UInt8)) (s : List UInt8) : cellsSM P ++ [AV.str s] = cellsSM (P ++ [s]) := by
 rw [cellsSM, cellsSM, List.map_append]; rfl
end Go.Proofs.YtifjpcdpmimccaaGreatDoor
