/-
  Chapter 17: receivers; Open of records.
-/
import Derived.Test.YtiholnebhmjbjaaM17M
import Derived.Test.YtiholnebhmjbjaaM17E
set_option linter.unusedSimpArgs false
set_option linter.unusedVariables false
set_option linter.unusedSectionVars false
namespace Go.Proofs.Ytiholnebhmjbjaa
open Go.RowKit
set_option maxRecDepth 1000000

theorem mark_okW {t:Int} {k:Nat} {q:Int} (hk:k<18446744073709551616) (hf:freshWM t k q=0):okWM (markWM t k q).1 (markWM t k q).2=true:=by
 obtain ⟨h1,h2,h3⟩:=fresh_parts hf
 have hlt:=mark_lt hk hf
 by_cases hqt:q≤t
 ·have h4:=(h3 hqt).1
  rcases ok_parts h1 with h | ⟨g1,g2,g3,g4⟩
  ·omega
  ·have hb:=(high_zero hk g1).1 g4
   rw[markWM,if_pos hqt] at hlt ⊢
   refine (ok_iff hlt (by first | omega | (dsimp only;omega)) g1 g2).2 ⟨?_,fun j hj htj => ?_⟩
   ·rw[bitW_test,Nat.testBit_or,←bitW_test,g3]
    rfl
   ·have:=hb j hj htj
    rw[bitW_test] at this ⊢
    rw[Nat.testBit_or,this,Nat.testBit_two_pow,decide_eq_false (by omega)]
    rfl
 ·have htr : -1≤t:=by rcases ok_parts h1 with h | h<;>omega
  rw[markWM,if_neg hqt] at hlt ⊢
  refine (ok_iff hlt (by first | omega | (dsimp only;omega)) (by first | omega | (dsimp only;omega)) (by first | omega | (dsimp only;omega))).2 ⟨?_,fun j hj hqj => ?_⟩
  ·rw[bitW_test,Nat.testBit_or]
   simp
  ·rw[bitW_test,Nat.testBit_or,show (18446744073709551616:Nat)=2^64 from rfl,Nat.testBit_mod_two_pow,Nat.testBit_mul_two_pow,show Nat.testBit 1 j=false by rw[show (1:Nat)=2^0 from rfl,Nat.testBit_two_pow,decide_eq_false (by omega)],Bool.or_false]
   by_cases h0:t<0
   ·rw[if_pos h0];simp
   ·rw[if_neg h0]
    rcases ok_parts h1 with h | ⟨g1,g2,g3,g4⟩
    ·omega
    ·by_cases h5:min (q-t).toNat 64≤j
     ·have:=(high_zero hk g1).1 g4 (j-min (q-t).toNat 64) (by omega) (by omega)
      rw[bitW_test] at this
      rw[this]
      simp
     ·rw[decide_eq_false (by omega:¬ j≥min (q-t).toNat 64)]
      simp
end Go.Proofs.Ytiholnebhmjbjaa
