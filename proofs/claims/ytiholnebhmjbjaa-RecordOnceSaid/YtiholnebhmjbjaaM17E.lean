/-
  Chapter 17: windows: Fresh and Mark of the reference.
-/
import Derived.Test.YtiholnebhmjbjaaM17D
set_option linter.unusedSimpArgs false
set_option linter.unusedVariables false
set_option linter.unusedSectionVars false
namespace Go.Proofs.Ytiholnebhmjbjaa
open Go.RowKit
set_option maxRecDepth 1000000

theorem bitW_test (k i:Nat):bitWM k i=k.testBit i:=by
 rw[Nat.testBit_eq_decide_div_mod_eq,bitWM]
 by_cases h:k/2^i%2=1
 ·rw[h];rfl
 ·rw[decide_eq_false h];simpa using h
theorem high_zero {t:Int} {k:Nat} (hk:k<18446744073709551616) (ht:0≤t):(63≤t∨k/2^(t.toNat+1)=0)↔∀j:Nat,j<64→t<(j:Int)→bitWM k j=false:=by
 constructor
 ·rintro (h | h) j hj htj
  ·omega
  ·rw[bitW_test]
   have h1:k<2^(t.toNat+1):=by
    rcases Nat.div_eq_zero_iff.1 h with h | h
    ·have:=Nat.two_pow_pos (t.toNat+1);omega
    ·exact h
   exact Nat.testBit_lt_two_pow (Nat.lt_of_lt_of_le h1 (Nat.pow_le_pow_right (by omega) (by omega)))
 ·intro h
  by_cases h63:63≤t
  ·exact .inl h63
  ·refine .inr (Nat.div_eq_of_lt (Nat.lt_pow_two_of_testBit k fun j hj => ?_))
   by_cases h64:j<64
   ·rw[←bitW_test];exact h j h64 (by omega)
   ·exact Nat.testBit_lt_two_pow (Nat.lt_of_lt_of_le (show k<2^64 from hk) (Nat.pow_le_pow_right (by omega) (by omega)))
theorem ok_iff {t:Int} {k:Nat} (hk:k<18446744073709551616) (h1:t ≠ -1) (h2:0≤t) (h3:t<281474976710656):okWM t k=true↔bitWM k 0=true∧∀j:Nat,j<64→t<(j:Int)→bitWM k j=false:=by
 rw[←high_zero hk h2]
 unfold okWM
 rw[decide_eq_false h1,decide_eq_true h2,decide_eq_true h3]
 simp[nbeq]
end Go.Proofs.Ytiholnebhmjbjaa
