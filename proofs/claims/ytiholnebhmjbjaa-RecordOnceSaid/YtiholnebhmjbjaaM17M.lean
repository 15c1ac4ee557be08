/-
  Chapter 17: senders and receivers: what is checked; nonces; Seal of records.
-/
import Derived.Test.YtiholnebhmjbjaaM17D
import Derived.Test.YtiholnebhmjbjaaM17I
set_option linter.unusedSimpArgs false
set_option linter.unusedVariables false
set_option linter.unusedSectionVars false
namespace Go.Proofs.Ytiholnebhmjbjaa
open Go.RowKit
set_option maxRecDepth 1000000

/-- whether a number is fresh for a valid window -/
def isFreshM (t:Int) (k:Nat) (q:Int):Bool:=decide (t<q)||(decide (t-64<q) && !bitWM k (t-q).toNat)
theorem fresh_eq {t:Int} {k:Nat} {q:Int} (hok:okWM t k=true) (hq:0≤q∧q<281474976710656):freshWM t k q=0↔isFreshM t k q=true:=by
 unfold freshWM isFreshM
 rw[if_neg (by simp[hok]),if_neg (by omega)]
 by_cases h1:t<q
 ·simp[h1];omega
 ·by_cases h2:t-64<q
  ·cases hb:bitWM k (t-q).toNat<;>simp[h1,h2]<;>omega
  ·rw[if_pos ⟨by omega,.inl (by omega)⟩]
   simp[h1,h2]
end Go.Proofs.Ytiholnebhmjbjaa
